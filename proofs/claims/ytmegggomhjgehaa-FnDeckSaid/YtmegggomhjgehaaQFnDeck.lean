import Derived.Test.YtmegggomhjgehaaVMore
set_option linter.unusedVariables false
set_option linter.unusedSimpArgs false
namespace Go.Proofs.Ytmegggomhjgehaa.M
open Go.RowKit Go.Proofs.YtmegggomhjgehaaW.PrintWords

theorem Ev.ite {α : Type} {c : Prop} [Decidable c] {A B : Nat → Option α} {r : α} (hp : c → Ev A r) (hn : ¬ c → Ev B r) : Ev (fun k => if c then A k else B k) r := by
  by_cases h : c
  · simp only [if_pos h]; exact hp h
  · simp only [if_neg h]; exact hn h
theorem Ev.pos {α : Type} {c : Prop} [Decidable c] {A B : Nat → Option α} {r : α} (h : c) (hp : Ev A r) : Ev (fun k => if c then A k else B k) r := Ev.ite (fun _ => hp) (fun n => absurd h n)
theorem Ev.neg {α : Type} {c : Prop} [Decidable c] {A B : Nat → Option α} {r : α} (h : ¬ c) (hn : Ev B r) : Ev (fun k => if c then A k else B k) r := Ev.ite (fun p => absurd p h) (fun _ => hn)
theorem Ev.const {α : Type} {x : Option α} {r : α} (h : x = some r) : Ev (fun _ => x) r := ⟨0, fun _ _ => h⟩
theorem Ev.bindc {α β : Type} {x : Option α} {f : Nat → α → Option β} {a : α} {r : β} (h : x = some a) (k : Ev (fun n => f n a) r) : Ev (fun n => x.bind (f n)) r := Ev.bind (Ev.const h) k
theorem Ev.to {α : Type} {g : Nat → Option α} {r r' : α} (h : Ev g r) (e : r = r') : Ev g r' := e ▸ h
theorem wrap64_id {x : Int} (h0 : -9223372036854775808 ≤ x) (h1 : x ≤ 9223372036854775807) : wrap64 x = x := by unfold wrap64; omega
def slet (x : Int) : Int := if x ≥ 97 ∧ x < 102 then x - 97 else if x ≥ 65 ∧ x < 70 then x - 65 else -1
theorem slet_range (x : Int) : -1 ≤ slet x ∧ slet x < 5 := by unfold slet; split <;> (try split) <;> omega
def wl (s : ByteArray) (i : Nat) : Int := slet (bt s (i : Int))
def wcnt (s : ByteArray) (c : Int) : Nat → Nat
  | 0 => 0
  | k + 1 => wcnt s c k + (if wl s k = c then 1 else 0)
def WOK (s : ByteArray) : Prop := 0 < s.size ∧ ∀ i, i < s.size → 0 ≤ wl s i ∧ wcnt s (wl s i) s.size = 2
instance (s : ByteArray) : Decidable (WOK s) := by unfold WOK; infer_instance
theorem wcnt_le (s : ByteArray) (c : Int) : ∀ k, wcnt s c k ≤ k
  | 0 => Nat.le_refl _
  | k + 1 => by
    have := wcnt_le s c k
    simp only [wcnt]; split <;> omega
theorem wcnt_sum (s : ByteArray) : ∀ k, (∀ i, i < k → 0 ≤ wl s i) → wcnt s 0 k + wcnt s 1 k + wcnt s 2 k + wcnt s 3 k + wcnt s 4 k = k := by
  intro k
  induction k with
  | zero => intro _; rfl
  | succ k ih =>
    intro h
    have := ih (fun i hi => h i (by omega))
    have hr := slet_range (bt s (k : Int))
    have h0 := h k (by omega)
    have hc : wl s k = 0 ∨ wl s k = 1 ∨ wl s k = 2 ∨ wl s k = 3 ∨ wl s k = 4 := by unfold wl at *; omega
    simp only [wcnt]
    rcases hc with e | e | e | e | e <;> rw [e] <;> simp <;> omega
theorem WOK.size {s : ByteArray} (h : WOK s) : 2 ≤ s.size ∧ s.size ≤ 10 := by
  have hsum := wcnt_sum s s.size (fun i hi => (h.2 i hi).1)
  have hp := h.1
  have hc : ∀ c, wcnt s c s.size ≤ 2 := by
    intro c
    by_cases hz : wcnt s c s.size = 0
    · omega
    · obtain ⟨i, hi, hl⟩ : ∃ i, i < s.size ∧ wl s i = c := by
        refine Classical.byContradiction fun hno => hz ?_
        have : ∀ k, k ≤ s.size → wcnt s c k = 0 := by
          intro k
          induction k with
          | zero => intro _; rfl
          | succ k ih => intro hk; simp only [wcnt]; rw [ih (by omega), if_neg (fun e => hno ⟨k, by omega, e⟩)]
        exact this s.size (Nat.le_refl _)
      rw [← hl]; exact Nat.le_of_eq (h.2 i hi).2
  have c0 := hc 0
  have c1 := hc 1
  have c2 := hc 2
  have c3 := hc 3
  have c4 := hc 4
  have e := (h.2 0 hp).2
  have := wcnt_le s (wl s 0) s.size
  omega
theorem rd_nat (l : List Int) (i : Nat) (h : i < l.length) : rd l (i : Int) = l[i] := by
  simp [rd, List.getD_eq_getElem?_getD, h]
theorem rd_get? (l : List Int) (i : Nat) (x : Int) (h : l[i]? = some x) : rd l (i : Int) = x := by
  simp [rd, List.getD_eq_getElem?_getD, h]
theorem toNat_nat (i : Nat) : ((i : Int) : Int).toNat = i := rfl
theorem list_ext_rd {l m : List Int} (h : l.length = m.length) (he : ∀ i : Nat, i < l.length → rd l (i : Int) = rd m (i : Int)) : l = m := by
  refine List.ext_getElem h (fun i h1 h2 => ?_)
  have := he i h1
  rwa [rd_nat l i h1, rd_nat m i h2] at this
def fn (l : List Int) (i : Nat) : Nat := (rd l (i : Int)).toNat
def Pts (n : Nat) (l : List Int) : Prop := l.length = n ∧ ∀ i, i < n → 0 ≤ rd l (i : Int) ∧ rd l (i : Int) < n
theorem Pts.fn {n : Nat} {l : List Int} (h : Pts n l) {i : Nat} (hi : i < n) : rd l (i : Int) = (fn l i : Int) ∧ fn l i < n := by
  have := h.2 i hi
  unfold M.fn
  omega
def Inv2 (n : Nat) (a b : List Int) (c : Nat → Int) : Prop := ∀ i, i < n → c (fn a i) = c i ∧ c (fn b i) = c i
def Con (n : Nat) (a b : List Int) (i j : Nat) : Prop := ∀ c, Inv2 n a b c → c i = c j
theorem Con.refl {n : Nat} {a b : List Int} (i : Nat) : Con n a b i i := fun _ _ => rfl
theorem Con.symm {n : Nat} {a b : List Int} {i j : Nat} (h : Con n a b i j) : Con n a b j i := fun c hc => (h c hc).symm
theorem Con.trans {n : Nat} {a b : List Int} {i j k : Nat} (h : Con n a b i j) (h' : Con n a b j k) : Con n a b i k := fun c hc => (h c hc).trans (h' c hc)
theorem Con.fa {n : Nat} {a b : List Int} {i : Nat} (h : i < n) : Con n a b i (fn a i) := fun c hc => (hc i h).1.symm
theorem Con.fb {n : Nat} {a b : List Int} {i : Nat} (h : i < n) : Con n a b i (fn b i) := fun c hc => (hc i h).2.symm
def OrbPre (n : Nat) (a b o : List Int) : Prop := o.length = n ∧ ∀ i, i < n → 0 ≤ rd o (i : Int) ∧ rd o (i : Int) ≤ i ∧ Con n a b i (fn o i)
def IsOrb (n : Nat) (a b o : List Int) : Prop := OrbPre n a b o ∧ ∀ i, i < n → rd o (fn a i : Int) = rd o (i : Int) ∧ rd o (fn b i : Int) = rd o (i : Int)
theorem IsOrb.inv {n : Nat} {a b o : List Int} (h : IsOrb n a b o) : Inv2 n a b (fun i => rd o (i : Int)) := fun i hi => h.2 i hi
theorem OrbPre.pts {n : Nat} {a b o : List Int} (h : OrbPre n a b o) : Pts n o := ⟨h.1, fun i hi => by have := h.2 i hi; omega⟩
theorem IsOrb.unique {n : Nat} {a b o p : List Int} (h : IsOrb n a b o) (k : IsOrb n a b p) : o = p := by
  have key : ∀ {o p : List Int}, IsOrb n a b o → IsOrb n a b p → ∀ i, i < n → rd o (i : Int) ≤ rd p (i : Int) := by
    intro o p h k i hi
    have e := (k.1.2 i hi).2.2 _ h.inv
    have f := k.1.pts.fn hi
    have g := (h.1.2 (fn p i) f.2).2.1
    rw [e, f.1]; exact g
  refine list_ext_rd (by rw [h.1.1, k.1.1]) (fun i hi => ?_)
  rw [h.1.1] at hi
  have := key h k i hi
  have := key k h i hi
  omega
theorem rd_set_self (o : List Int) (i : Nat) (x : Int) (h : i < o.length) : rd (o.set i x) (i : Int) = x := rd_get? _ _ _ (List.getElem?_set_self h)
theorem rd_set_ne (o : List Int) (i j : Nat) (x : Int) (h : i ≠ j) : rd (o.set i x) (j : Int) = rd o (j : Int) := by
  simp only [rd, List.getD_eq_getElem?_getD, Int.toNat_natCast]
  rw [List.getElem?_set_ne h]
theorem OrbPre.set {n : Nat} {a b o : List Int} (h : OrbPre n a b o) {i j : Nat} (hi : i < n) (hj : j < n) (hc : Con n a b i j) (hle : rd o (j : Int) ≤ i) : OrbPre n a b (o.set i (rd o (j : Int))) := by
  refine ⟨by rw [List.length_set]; exact h.1, fun q hq => ?_⟩
  by_cases e : i = q
  · subst e
    have hz := h.2 j hj
    unfold M.fn
    rw [rd_set_self _ _ _ (by rw [h.1]; exact hi)]
    exact ⟨hz.1, hle, hc.trans hz.2.2⟩
  · have := h.2 q hq
    unfold M.fn at *
    rw [rd_set_ne _ _ _ _ e]; exact this
theorem OrbPre.put {n : Nat} {a b o : List Int} (h : OrbPre n a b o) {i : Nat} (hi : i < n) (x : Int) (h0 : 0 ≤ x) (hle : x ≤ i) (hc : Con n a b i x.toNat) : OrbPre n a b (o.set i x) := by
  refine ⟨by rw [List.length_set]; exact h.1, fun q hq => ?_⟩
  by_cases e : i = q
  · subst e
    unfold M.fn
    rw [rd_set_self _ _ _ (by rw [h.1]; exact hi)]
    exact ⟨h0, hle, hc⟩
  · have := h.2 q hq
    unfold M.fn at *
    rw [rd_set_ne _ _ _ _ e]; exact this
def idL (n : Nat) : List Int := (List.range n).map (fun i : Nat => (i : Int))
theorem idL_length (n : Nat) : (idL n).length = n := by simp [idL]
theorem rd_idL (n i : Nat) (h : i < n) : rd (idL n) (i : Int) = i := by
  rw [rd_nat _ _ (by rw [idL_length]; exact h)]; simp [idL]
theorem OrbPre.start (n : Nat) (a b : List Int) : OrbPre n a b (idL n) := by
  refine ⟨idL_length n, fun i hi => ?_⟩
  unfold M.fn
  rw [rd_idL n i hi]
  exact ⟨by omega, Int.le_refl _, Con.refl i⟩
theorem least_of (P : Nat → Prop) : ∀ n, P n → ∃ m, P m ∧ ∀ k, P k → m ≤ k := by
  intro n
  induction n using Nat.strongRecOn with
  | _ n ih =>
    intro h
    by_cases e : ∃ k, k < n ∧ P k
    · obtain ⟨k, hk, hp⟩ := e; exact ih k hk hp
    · exact ⟨n, h, fun k hp => by
        by_cases q : k < n
        · exact absurd ⟨k, q, hp⟩ e
        · omega⟩
noncomputable def low (n : Nat) (a b : List Int) (i : Nat) : Nat := Classical.choose (least_of (fun j => j < n → Con n a b i j) n (fun h => absurd h (Nat.lt_irrefl n)))
theorem low_spec {n : Nat} {a b : List Int} {i : Nat} (hi : i < n) : low n a b i ≤ i ∧ Con n a b i (low n a b i) ∧ ∀ j, j < n → Con n a b i j → low n a b i ≤ j := by
  have h := Classical.choose_spec (least_of (fun j => j < n → Con n a b i j) n (fun h => absurd h (Nat.lt_irrefl n)))
  have h1 : low n a b i ≤ i := h.2 i (fun _ => Con.refl i)
  exact ⟨h1, h.1 (by show low n a b i < n; omega), fun j hj hc => h.2 j (fun _ => hc)⟩
theorem low_con {n : Nat} {a b : List Int} {i j : Nat} (hi : i < n) (hj : j < n) (h : Con n a b i j) : low n a b i = low n a b j := by
  obtain ⟨a1, a2, a3⟩ := low_spec (a := a) (b := b) hi
  obtain ⟨b1, b2, b3⟩ := low_spec (a := a) (b := b) hj
  have := a3 _ (by omega) (h.trans b2)
  have := b3 _ (by omega) (h.symm.trans a2)
  omega
theorem OrbPre.low_le {n : Nat} {a b o : List Int} (h : OrbPre n a b o) {i : Nat} (hi : i < n) : (low n a b i : Int) ≤ rd o (i : Int) := by
  have := h.2 i hi
  have f := h.pts.fn hi
  have := (low_spec (a := a) (b := b) hi).2.2 _ f.2 this.2.2
  omega
noncomputable def orbL (a b : List Int) : List Int := (List.range a.length).map (fun i => (low a.length a b i : Int))
theorem orbL_length (a b : List Int) : (orbL a b).length = a.length := by simp [orbL]
theorem rd_orbL (a b : List Int) (i : Nat) (h : i < a.length) : rd (orbL a b) (i : Int) = low a.length a b i := by
  rw [rd_nat _ _ (by rw [orbL_length]; exact h)]; simp [orbL]
theorem orbL_isOrb {n : Nat} {a b : List Int} (ha : Pts n a) (hb : Pts n b) : IsOrb n a b (orbL a b) := by
  have hn := ha.1
  refine ⟨⟨by rw [orbL_length, hn], fun i hi => ?_⟩, fun i hi => ?_⟩
  · obtain ⟨h1, h2, h3⟩ := low_spec (a := a) (b := b) hi
    unfold M.fn
    rw [rd_orbL a b i (by omega), hn]
    exact ⟨by omega, by omega, h2⟩
  · have fa := (ha.fn hi).2
    have fb := (hb.fn hi).2
    rw [rd_orbL a b _ (by omega), rd_orbL a b _ (by omega), rd_orbL a b _ (by omega), hn, low_con fa hi (Con.fa hi).symm, low_con fb hi (Con.fb hi).symm]
    exact ⟨rfl, rfl⟩
theorem IsOrb.eq {n : Nat} {a b o : List Int} (ha : Pts n a) (hb : Pts n b) (h : IsOrb n a b o) : o = orbL a b := h.unique (orbL_isOrb ha hb)
theorem Con.swap {n : Nat} {a b : List Int} {i j : Nat} (h : Con n a b i j) : Con n b a i j := fun c hc => h c (fun q hq => ⟨(hc q hq).2, (hc q hq).1⟩)
def cntP (p : Nat → Bool) : Nat → Nat
  | 0 => 0
  | n + 1 => cntP p n + (if p n = true then 1 else 0)
theorem cntP_le (p : Nat → Bool) : ∀ n, cntP p n ≤ n
  | 0 => Nat.le_refl _
  | n + 1 => by have := cntP_le p n; simp only [cntP]; split <;> omega
theorem cntP_mono (p q : Nat → Bool) : ∀ n, (∀ i, i < n → p i = true → q i = true) → cntP p n ≤ cntP q n
  | 0, _ => Nat.le_refl _
  | n + 1, h => by
    have := cntP_mono p q n (fun i hi => h i (by omega))
    have := h n (by omega)
    simp only [cntP]
    by_cases e : p n = true
    · rw [if_pos e, if_pos (this e)]; omega
    · rw [if_neg e]; split <;> omega
theorem cntP_lt (p q : Nat → Bool) : ∀ n, (∀ i, i < n → p i = true → q i = true) → (∃ i, i < n ∧ p i = false ∧ q i = true) → cntP p n < cntP q n
  | 0, _, h => by obtain ⟨i, hi, _⟩ := h; omega
  | n + 1, h, ⟨i, hi, h1, h2⟩ => by
    have hn := h n (by omega)
    simp only [cntP]
    by_cases e : i = n
    · subst e
      have := cntP_mono p q i (fun j hj => h j (by omega))
      rw [h1, h2]; simp; omega
    · have := cntP_lt p q n (fun j hj => h j (by omega)) ⟨i, by omega, h1, h2⟩
      by_cases e2 : p n = true
      · rw [if_pos e2, if_pos (hn e2)]; omega
      · rw [if_neg e2]; split <;> omega
theorem cntP_all (p : Nat → Bool) : ∀ n, cntP p n = n → ∀ i, i < n → p i = true
  | 0, _, i, hi => by omega
  | n + 1, h, i, hi => by
    have hl := cntP_le p n
    simp only [cntP] at h
    by_cases e : p n = true
    · rw [if_pos e] at h
      by_cases ei : i = n
      · subst ei; exact e
      · exact cntP_all p n (by omega) i (by omega)
    · rw [if_neg e] at h; omega
theorem cntP_congr (p q : Nat → Bool) : ∀ n, (∀ i, i < n → p i = q i) → cntP p n = cntP q n
  | 0, _ => rfl
  | n + 1, h => by simp only [cntP]; rw [cntP_congr p q n (fun i hi => h i (by omega)), h n (by omega)]
def Rounded (n : Nat) (a b o o' : List Int) : Prop := (∀ i, i < n → rd o' (i : Int) ≤ rd o (i : Int)) ∧ ∀ i, i < n →
  (rd o' (fn a i : Int) ≤ rd o (i : Int) ∧ rd o' (i : Int) ≤ rd o (fn a i : Int)) ∧ (rd o' (fn b i : Int) ≤ rd o (i : Int) ∧ rd o' (i : Int) ≤ rd o (fn b i : Int))
noncomputable def okB (n : Nat) (a b o : List Int) (i : Nat) : Bool := decide (rd o (i : Int) = low n a b i)
theorem round_more {n : Nat} {a b o o' : List Int} (ha : Pts n a) (hb : Pts n b) (h : OrbPre n a b o) (h' : OrbPre n a b o') (hr : Rounded n a b o o') :
    cntP (okB n a b o) n = n ∨ cntP (okB n a b o) n < cntP (okB n a b o') n := by
  have hmono : ∀ i, i < n → okB n a b o i = true → okB n a b o' i = true := by
    intro i hi hk
    unfold okB at *
    have h1 := of_decide_eq_true hk
    have h2 := hr.1 i hi
    have h3 := h'.low_le hi
    exact decide_eq_true (by omega)
  by_cases hall : ∀ i, i < n → okB n a b o i = true
  · left
    have := cntP_mono (fun _ => true) (okB n a b o) n (fun i hi _ => hall i hi)
    have h2 := cntP_le (okB n a b o) n
    have h3 : ∀ m, cntP (fun _ => true) m = m := by
      intro m
      induction m with
      | zero => rfl
      | succ m ih => simp only [cntP, ih]; rfl
    rw [h3] at this; omega
  · right
    refine cntP_lt _ _ n hmono ?_
    refine Classical.byContradiction fun hno => hall ?_
    -- nobody turns good: then goodness is a colouring
    have hst : ∀ i, i < n → okB n a b o i = false → okB n a b o' i = false := by
      intro i hi hf
      cases hq : okB n a b o' i with
      | false => rfl
      | true => exact absurd ⟨i, hi, hf, hq⟩ hno
    have edge : ∀ i j, i < n → j < n → Con n a b i j → rd o' (j : Int) ≤ rd o (i : Int) → okB n a b o i = true → okB n a b o j = true := by
      intro i j hi hj hc hle hk
      cases hq : okB n a b o j with
      | true => rfl
      | false =>
        have h1 := hst j hj hq
        unfold okB at h1 hk
        have h2 := of_decide_eq_true hk
        have h3 := h'.low_le hj
        have h4 := low_con hi hj hc
        exact absurd (show rd o' (j : Int) = low n a b j by omega) (of_decide_eq_false h1)
    have hinv : Inv2 n a b (fun i => if okB n a b o i = true then 1 else 0) := by
      intro i hi
      have fa := (ha.fn hi).2
      have fb := (hb.fn hi).2
      obtain ⟨⟨e1, e2⟩, e3, e4⟩ := hr.2 i hi
      have ea : okB n a b o (fn a i) = true ↔ okB n a b o i = true := ⟨edge _ _ fa hi (Con.fa hi).symm e2, edge _ _ hi fa (Con.fa hi) e1⟩
      have eb : okB n a b o (fn b i) = true ↔ okB n a b o i = true := ⟨edge _ _ fb hi (Con.fb hi).symm e4, edge _ _ hi fb (Con.fb hi) e3⟩
      simp only [ea, eb]
      exact ⟨trivial, trivial⟩
    intro i hi
    obtain ⟨l1, l2, l3⟩ := low_spec (a := a) (b := b) hi
    have hl : low n a b i < n := by omega
    have hgood : okB n a b o (low n a b i) = true := by
      unfold okB
      have h1 := h.2 _ hl
      have h2 := h.low_le hl
      have h3 := low_con hi hl l2
      exact decide_eq_true (by omega)
    have := l2 _ hinv
    simp only [hgood, if_true] at this
    cases hq : okB n a b o i with
    | true => rfl
    | false => rw [hq] at this; simp at this
theorem settled {n : Nat} {a b o : List Int} (ha : Pts n a) (hb : Pts n b) (h : OrbPre n a b o) (hc : cntP (okB n a b o) n = n) : o = orbL a b := by
  refine list_ext_rd (by rw [h.1, orbL_length, ha.1]) (fun i hi => ?_)
  rw [h.1] at hi
  have := of_decide_eq_true (cntP_all _ n hc i hi)
  rw [this, rd_orbL a b i (by rw [ha.1]; exact hi), ha.1]
def sumN (f : Nat → Nat) : Nat → Nat
  | 0 => 0
  | n + 1 => sumN f n + f n
theorem sumN_congr {f g : Nat → Nat} : ∀ {n : Nat}, (∀ i, i < n → f i = g i) → sumN f n = sumN g n
  | 0, _ => rfl
  | n + 1, h => by simp only [sumN]; rw [sumN_congr (n := n) (fun i hi => h i (by omega)), h n (by omega)]
theorem sumN_add (f g : Nat → Nat) : ∀ n, sumN (fun i => f i + g i) n = sumN f n + sumN g n
  | 0 => rfl
  | n + 1 => by simp only [sumN]; rw [sumN_add f g n]; omega
theorem sumN_zero : ∀ n, sumN (fun _ => 0) n = 0
  | 0 => rfl
  | n + 1 => by simp only [sumN]; rw [sumN_zero n]
theorem sumN_swap (f : Nat → Nat → Nat) (m : Nat) : ∀ n, sumN (fun i => sumN (fun j => f i j) m) n = sumN (fun j => sumN (fun i => f i j) n) m
  | 0 => by simp only [sumN]; exact (sumN_zero m).symm
  | n + 1 => by
    simp only [sumN]
    rw [sumN_swap f m n, ← sumN_add]
theorem sumN_single (v : Nat → Nat) (k : Nat) : ∀ n, sumN (fun i => if i = k then v i else 0) n = if k < n then v k else 0
  | 0 => by simp [sumN]
  | n + 1 => by
    simp only [sumN]
    rw [sumN_single v k n]
    by_cases h1 : k < n
    · rw [if_pos h1, if_neg (by omega), if_pos (by omega)]; rfl
    · rw [if_neg h1]
      by_cases h2 : n = k
      · subst h2; rw [if_pos rfl, if_pos (by omega)]; omega
      · rw [if_neg h2, if_neg (by omega)]
theorem sumN_mono {f g : Nat → Nat} : ∀ {n : Nat}, (∀ i, i < n → f i ≤ g i) → sumN f n ≤ sumN g n
  | 0, _ => Nat.le_refl _
  | n + 1, h => by
    have := sumN_mono (n := n) (fun i hi => h i (by omega))
    have := h n (by omega)
    simp only [sumN]; omega
theorem cntP_sum (p : Nat → Bool) : ∀ n, cntP p n = sumN (fun i => if p i = true then 1 else 0) n
  | 0 => rfl
  | n + 1 => by simp only [cntP, sumN]; rw [cntP_sum p n]
theorem sumN_perm (f : Nat → Nat) {n : Nat} (σ τ : Nat → Nat) (hσ : ∀ i, i < n → σ i < n ∧ τ (σ i) = i) (hτ : ∀ i, i < n → τ i < n ∧ σ (τ i) = i) : sumN (fun i => f (σ i)) n = sumN f n := by
  have h1 : sumN (fun i => f (σ i)) n = sumN (fun i => sumN (fun j => if j = σ i then f j else 0) n) n :=
    sumN_congr (fun i hi => by rw [sumN_single f (σ i) n, if_pos (hσ i hi).1])
  have h2 : sumN (fun j => sumN (fun i => if j = σ i then f j else 0) n) n = sumN f n :=
    sumN_congr (fun j hj => by
      have : sumN (fun i => if j = σ i then f j else 0) n = sumN (fun i => if i = τ j then f j else 0) n := sumN_congr (fun i hi => by
        by_cases e : j = σ i
        · rw [if_pos e, if_pos (by rw [e, (hσ i hi).2])]
        · rw [if_neg e, if_neg (fun h => e (by rw [h, (hτ j hj).2]))])
      rw [this, sumN_single (fun _ => f j) (τ j) n, if_pos (hτ j hj).1])
  rw [h1, sumN_swap, h2]
theorem cntP_perm (p : Nat → Bool) {n : Nat} (σ τ : Nat → Nat) (hσ : ∀ i, i < n → σ i < n ∧ τ (σ i) = i) (hτ : ∀ i, i < n → τ i < n ∧ σ (τ i) = i) : cntP (fun i => p (σ i)) n = cntP p n := by
  rw [cntP_sum, cntP_sum]
  exact sumN_perm (fun i => if p i = true then 1 else 0) σ τ hσ hτ
theorem cntP_not (p : Nat → Bool) : ∀ n, cntP p n + cntP (fun i => !p i) n = n
  | 0 => rfl
  | n + 1 => by
    have := cntP_not p n
    simp only [cntP]
    by_cases e : p n = true
    · rw [if_pos e, if_neg (by simp [e])]; omega
    · rw [if_neg e, if_pos (by simpa using e)]; omega
def InvE (E : Nat → Nat → Prop) (c : Nat → Nat) : Prop := ∀ x y, E x y → c x = c y
def ConE (E : Nat → Nat → Prop) (i j : Nat) : Prop := ∀ c, InvE E c → c i = c j
theorem ConE.refl {E : Nat → Nat → Prop} (i : Nat) : ConE E i i := fun _ _ => rfl
theorem ConE.symm {E : Nat → Nat → Prop} {i j : Nat} (h : ConE E i j) : ConE E j i := fun c hc => (h c hc).symm
theorem ConE.trans {E : Nat → Nat → Prop} {i j k : Nat} (h : ConE E i j) (h' : ConE E j k) : ConE E i k := fun c hc => (h c hc).trans (h' c hc)
theorem ConE.step {E : Nat → Nat → Prop} {i j : Nat} (h : E i j) : ConE E i j := fun c hc => hc i j h
noncomputable def ind (P : Prop) : Nat := @ite _ P (Classical.propDecidable P) 1 0
theorem ind_iff {P Q : Prop} (h : P ↔ Q) : ind P = ind Q := by rw [propext h]
theorem ind_true {P : Prop} (h : P) : ind P = 1 := by unfold ind; rw [if_pos h]
theorem ind_false {P : Prop} (h : ¬ P) : ind P = 0 := by unfold ind; rw [if_neg h]
theorem of_ind {P Q : Prop} (h : ind P = ind Q) (hp : P) : Q := by
  rw [ind_true hp] at h
  refine Classical.byContradiction fun hq => ?_
  rw [ind_false hq] at h; omega
structure PermN (n : Nat) (f g : Nat → Nat) : Prop where
  fl : ∀ i, i < n → f i < n
  gl : ∀ i, i < n → g i < n
  gf : ∀ i, i < n → g (f i) = i
  fg : ∀ i, i < n → f (g i) = i
theorem PermN.inj {n : Nat} {f g : Nat → Nat} (h : PermN n f g) {i j : Nat} (hi : i < n) (hj : j < n) (e : f i = f j) : i = j := by rw [← h.gf i hi, e, h.gf j hj]
def EF (n : Nat) (f : Nat → Nat) : Nat → Nat → Prop := fun a b => a < n ∧ b = f a
def itr (f : Nat → Nat) : Nat → Nat → Nat
  | 0, x => x
  | k + 1, x => f (itr f k x)
theorem itr_lt {n : Nat} {f g : Nat → Nat} (h : PermN n f g) {x : Nat} (hx : x < n) : ∀ k, itr f k x < n
  | 0 => hx
  | k + 1 => h.fl _ (itr_lt h hx k)
theorem itr_con {n : Nat} {f g : Nat → Nat} (h : PermN n f g) {x : Nat} (hx : x < n) : ∀ k, ConE (EF n f) x (itr f k x)
  | 0 => ConE.refl x
  | k + 1 => (itr_con h hx k).trans (ConE.step ⟨itr_lt h hx k, rfl⟩)
theorem sum_ind_le_one (P : Nat → Bool) : ∀ m, (∀ i j, i < m → j < m → P i = true → P j = true → i = j) → cntP P m ≤ 1
  | 0, _ => by simp [cntP]
  | m + 1, h => by
    have := sum_ind_le_one P m (fun i j hi hj => h i j (by omega) (by omega))
    simp only [cntP]
    by_cases e : P m = true
    · rw [if_pos e]
      have : cntP P m = 0 := by
        rw [cntP_congr P (fun _ => false) m (fun i hi => by
          cases q : P i with
          | false => rfl
          | true => have := h i m (by omega) (by omega) q e; omega)]
        have : ∀ m, cntP (fun _ => false) m = 0 := by
          intro m
          induction m with
          | zero => rfl
          | succ m ih => simp only [cntP]; rw [ih]; rfl
        exact this m
      omega
    · rw [if_neg e]; omega
theorem sumN_const (v : Nat) : ∀ n, sumN (fun _ => v) n = n * v
  | 0 => by simp [sumN]
  | n + 1 => by simp only [sumN]; rw [sumN_const v n, Nat.succ_mul]
theorem pigeon (n : Nat) (h : Nat → Nat) (hn : ∀ i, i < n + 1 → h i < n) : ∃ i j, i < j ∧ j < n + 1 ∧ h i = h j := by
  refine Classical.byContradiction fun hno => ?_
  have hinj : ∀ i j, i < n + 1 → j < n + 1 → h i = h j → i = j := by
    intro i j hi hj e
    rcases Nat.lt_trichotomy i j with q | q | q
    · exact absurd ⟨i, j, q, hj, e⟩ hno
    · exact q
    · exact absurd ⟨j, i, q, hi, e.symm⟩ hno
  have h1 : sumN (fun i => sumN (fun j => if j = h i then 1 else 0) n) (n + 1) = n + 1 := by
    rw [sumN_congr (g := fun _ => 1) (fun i hi => by rw [sumN_single (fun _ => 1) (h i) n, if_pos (hn i hi)]), sumN_const]; omega
  have h2 : sumN (fun j => sumN (fun i => if j = h i then 1 else 0) (n + 1)) n ≤ n := by
    have : sumN (fun j => sumN (fun i => if j = h i then 1 else 0) (n + 1)) n ≤ sumN (fun _ => 1) n := sumN_mono (fun j hj => by
      have e : sumN (fun i => if j = h i then 1 else 0) (n + 1) = cntP (fun i => decide (j = h i)) (n + 1) := by
        rw [cntP_sum]; refine sumN_congr (fun i hi => ?_); simp
      rw [e]
      exact sum_ind_le_one _ _ (fun i k hi hk a b => hinj i k hi hk (by rw [← of_decide_eq_true a, ← of_decide_eq_true b])))
    rw [sumN_const] at this; omega
  rw [sumN_swap] at h1
  omega
theorem itr_add (f : Nat → Nat) (x : Nat) : ∀ a b, itr f (a + b) x = itr f a (itr f b x)
  | 0, b => by rw [Nat.zero_add]; rfl
  | a + 1, b => by rw [show a + 1 + b = (a + b) + 1 by omega]; simp only [itr]; rw [itr_add f x a b]
theorem itr_cancel {n : Nat} {f g : Nat → Nat} (h : PermN n f g) {x : Nat} (hx : x < n) : ∀ i d, itr f i x = itr f (i + d) x → itr f d x = x
  | 0, d, e => by rw [Nat.zero_add] at e; exact e.symm
  | i + 1, d, e => by
    rw [show i + 1 + d = (i + d) + 1 by omega] at e
    exact itr_cancel h hx i d (h.inj (itr_lt h hx i) (itr_lt h hx (i + d)) e)
theorem period {n : Nat} {f g : Nat → Nat} (h : PermN n f g) {x : Nat} (hx : x < n) : ∃ p, 1 ≤ p ∧ p ≤ n ∧ itr f p x = x ∧ ∀ k, 1 ≤ k → k < p → itr f k x ≠ x := by
  obtain ⟨i, j, hij, hj, e⟩ := pigeon n (fun k => itr f k x) (fun k _ => itr_lt h hx k)
  have h1 : itr f (j - i) x = x := itr_cancel h hx i (j - i) (by rw [show i + (j - i) = j by omega]; exact e)
  obtain ⟨p, ⟨p1, p2⟩, p3⟩ := least_of (fun k => 1 ≤ k ∧ itr f k x = x) (j - i) ⟨by omega, h1⟩
  have := p3 (j - i) ⟨by omega, h1⟩
  exact ⟨p, p1, by omega, p2, fun k k1 k2 e => by have := p3 k ⟨k1, e⟩; omega⟩
theorem con_itr {n : Nat} {f g : Nat → Nat} (h : PermN n f g) {x y p : Nat} (hx : x < n) (p1 : 1 ≤ p) (p2 : itr f p x = x) (hc : ConE (EF n f) x y) : ∃ m, m < p ∧ y = itr f m x := by
  refine of_ind (hc (fun z => ind (∃ m, m < p ∧ z = itr f m x)) ?_) ⟨0, by omega, rfl⟩
  rintro z w ⟨hz, rfl⟩
  refine ind_iff ⟨?_, ?_⟩
  · rintro ⟨m, hm, rfl⟩
    by_cases e : m + 1 = p
    · exact ⟨0, by omega, by rw [show f (itr f m x) = itr f (m + 1) x from rfl, e, p2]; rfl⟩
    · exact ⟨m + 1, by omega, rfl⟩
  · rintro ⟨m, hm, e⟩
    cases m with
    | zero =>
      refine ⟨p - 1, by omega, h.inj hz (itr_lt h hx _) ?_⟩
      rw [show f (itr f (p - 1) x) = itr f (p - 1 + 1) x from rfl, show p - 1 + 1 = p by omega, p2]; exact e
    | succ m => exact ⟨m, by omega, h.inj hz (itr_lt h hx _) e⟩
noncomputable def per (f : Nat → Nat) (x : Nat) : Nat := Classical.epsilon (fun p => 1 ≤ p ∧ itr f p x = x ∧ ∀ k, 1 ≤ k → k < p → itr f k x ≠ x)
theorem per_spec {n : Nat} {f g : Nat → Nat} (h : PermN n f g) {x : Nat} (hx : x < n) : 1 ≤ per f x ∧ per f x ≤ n ∧ itr f (per f x) x = x ∧ ∀ k, 1 ≤ k → k < per f x → itr f k x ≠ x := by
  obtain ⟨p, p1, p2, p3, p4⟩ := period h hx
  have hs := Classical.epsilon_spec (p := fun p => 1 ≤ p ∧ itr f p x = x ∧ ∀ k, 1 ≤ k → k < p → itr f k x ≠ x) ⟨p, p1, p3, p4⟩
  have hs' : 1 ≤ per f x ∧ itr f (per f x) x = x ∧ ∀ k, 1 ≤ k → k < per f x → itr f k x ≠ x := hs
  refine ⟨hs'.1, ?_, hs'.2.1, hs'.2.2⟩
  by_cases e : per f x ≤ n
  · exact e
  · exact absurd p3 (hs'.2.2 p p1 (by omega))
theorem filter_cntP (p : Nat → Bool) : ∀ n, ((List.range n).filter p).length = cntP p n
  | 0 => rfl
  | n + 1 => by
    rw [List.range_succ, List.filter_append, List.length_append, filter_cntP p n]
    simp only [cntP, List.filter_cons, List.filter_nil]
    split <;> rfl
def SeenAt (n : Nat) (f : Nat → Nat) (i : Nat) (b : List Bool) : Prop := b.length = n ∧ ∀ j, j < n → (rdOf false b (j : Int) = true ↔ ∃ r, r < i ∧ ConE (EF n f) r j)
def SeenIn (n : Nat) (f : Nat → Nat) (i t : Nat) (b : List Bool) : Prop := b.length = n ∧ ∀ j, j < n → (rdOf false b (j : Int) = true ↔ ((∃ r, r < i ∧ ConE (EF n f) r j) ∨ ∃ s, s < t ∧ j = itr f s i))
theorem rdOf_set_self (o : List Bool) (i : Nat) (x : Bool) (h : i < o.length) : rdOf false (o.set i x) (i : Int) = x := by
  simp [rdOf, List.getD_eq_getElem?_getD, List.getElem?_set_self h]
theorem rdOf_set_ne (o : List Bool) (i j : Nat) (x : Bool) (h : i ≠ j) : rdOf false (o.set i x) (j : Int) = rdOf false o (j : Int) := by
  simp only [rdOf, List.getD_eq_getElem?_getD, Int.toNat_natCast]
  rw [List.getElem?_set_ne h]
theorem SeenAt.start (n : Nat) (f : Nat → Nat) : SeenAt n f 0 (List.replicate n false) := by
  refine ⟨List.length_replicate, fun j hj => ?_⟩
  have : rdOf false (List.replicate n false) (j : Int) = false := by simp [rdOf, List.getD_eq_getElem?_getD, List.getElem?_replicate, hj]
  rw [this]
  exact ⟨fun h => absurd h (by simp), fun ⟨r, hr, _⟩ => absurd hr (Nat.not_lt_zero r)⟩
theorem SeenIn.next {n : Nat} {f g : Nat → Nat} (hp : PermN n f g) {i t : Nat} {b : List Bool} (h : SeenIn n f i t b) (hi : i < n) : SeenIn n f i (t + 1) (b.set (itr f t i) true) := by
  refine ⟨by rw [List.length_set]; exact h.1, fun j hj => ?_⟩
  by_cases e : itr f t i = j
  · rw [← e, rdOf_set_self _ _ _ (by rw [h.1]; exact itr_lt hp hi t)]
    exact ⟨fun _ => .inr ⟨t, by omega, rfl⟩, fun _ => rfl⟩
  · rw [rdOf_set_ne _ _ _ _ e, h.2 j hj]
    constructor
    · rintro (k | ⟨s, hs, k⟩)
      · exact .inl k
      · exact .inr ⟨s, by omega, k⟩
    · rintro (k | ⟨s, hs, k⟩)
      · exact .inl k
      · refine .inr ⟨s, ?_, k⟩
        by_cases e2 : s = t
        · subst e2; exact absurd k.symm e
        · omega
theorem SeenIn.closed {n : Nat} {f g : Nat → Nat} (hp : PermN n f g) {i : Nat} {b : List Bool} (h : SeenIn n f i (per f i) b) (hi : i < n) : rdOf false b (itr f (per f i) i : Int) = true ∧ SeenAt n f (i + 1) b := by
  obtain ⟨p1, p2, p3, p4⟩ := per_spec hp hi
  refine ⟨(h.2 _ (itr_lt hp hi _)).2 (.inr ⟨0, by omega, p3⟩), h.1, fun j hj => (h.2 j hj).trans ?_⟩
  constructor
  · rintro (⟨r, hr, hc⟩ | ⟨s, hs, rfl⟩)
    · exact ⟨r, by omega, hc⟩
    · exact ⟨i, by omega, itr_con hp hi s⟩
  · rintro ⟨r, hr, hc⟩
    by_cases e : r = i
    · subst e
      obtain ⟨m, hm, e⟩ := con_itr hp hi p1 p3 hc
      exact .inr ⟨m, hm, e⟩
    · exact .inl ⟨r, by omega, hc⟩
def PermL (n : Nat) (p : List Int) : Prop := Pts n p ∧ ∀ i j, i < n → j < n → fn p i = fn p j → i = j
noncomputable def bck (n : Nat) (f : Nat → Nat) (j : Nat) : Nat := Classical.epsilon (fun i => i < n ∧ f i = j)
theorem onto_of_inj : ∀ (n : Nat) (f : Nat → Nat), (∀ i, i < n → f i < n) → (∀ i j, i < n → j < n → f i = f j → i = j) → ∀ j, j < n → ∃ i, i < n ∧ f i = j := by
  intro n f hf hinj j hj
  refine Classical.byContradiction fun hno => ?_
  obtain ⟨m, rfl⟩ : ∃ m, n = m + 1 := ⟨n - 1, by omega⟩
  -- squeeze the value j out
  obtain ⟨a, b, hab, hb, e⟩ := pigeon m (fun i => if f i < j then f i else f i - 1) (fun i hi => by
    have h1 := hf i hi
    have h2 : f i ≠ j := fun q => hno ⟨i, hi, q⟩
    show (if f i < j then f i else f i - 1) < m
    split <;> omega)
  have h1 : f a ≠ j := fun q => hno ⟨a, by omega, q⟩
  have h2 : f b ≠ j := fun q => hno ⟨b, by omega, q⟩
  have e' : (if f a < j then f a else f a - 1) = (if f b < j then f b else f b - 1) := e
  have : f a = f b := by
    split at e' <;> split at e' <;> omega
  have := hinj a b (by omega) (by omega) this
  omega
theorem permN_of_inj {n : Nat} {f : Nat → Nat} (hf : ∀ i, i < n → f i < n) (hinj : ∀ i j, i < n → j < n → f i = f j → i = j) : PermN n f (bck n f) := by
  have hs : ∀ j, j < n → bck n f j < n ∧ f (bck n f j) = j := fun j hj => Classical.epsilon_spec (onto_of_inj n f hf hinj j hj)
  exact ⟨hf, fun i hi => (hs i hi).1, fun i hi => hinj _ _ (hs _ (hf i hi)).1 hi (hs _ (hf i hi)).2, fun i hi => (hs i hi).2⟩
theorem PermL.perm {n : Nat} {p : List Int} (h : PermL n p) : PermN n (fn p) (bck n (fn p)) := permN_of_inj (fun i hi => (h.1.fn hi).2) h.2
def mulL (a b : List Int) : List Int := a.map (fun x => rd b x)
theorem mulL_length (a b : List Int) : (mulL a b).length = a.length := by simp [mulL]
theorem rd_mulL (a b : List Int) (i : Nat) (h : i < a.length) : rd (mulL a b) (i : Int) = rd b (rd a (i : Int)) := by
  rw [rd_nat _ _ (by rw [mulL_length]; exact h), rd_nat a i h]; simp [mulL]
theorem mulL_pts {n : Nat} {a b : List Int} (ha : Pts n a) (hb : Pts n b) : Pts n (mulL a b) := by
  refine ⟨by rw [mulL_length, ha.1], fun i hi => ?_⟩
  rw [rd_mulL a b i (by rw [ha.1]; exact hi), (ha.fn hi).1]
  exact hb.2 _ (ha.fn hi).2
theorem fn_mulL {n : Nat} {a b : List Int} (ha : Pts n a) {i : Nat} (hi : i < n) : fn (mulL a b) i = fn b (fn a i) := by
  unfold fn
  rw [rd_mulL a b i (by rw [ha.1]; exact hi)]
  have := (ha.fn hi).1
  rw [this]; rfl
theorem mulL_perm {n : Nat} {a b : List Int} (ha : PermL n a) (hb : PermL n b) : PermL n (mulL a b) := by
  refine ⟨mulL_pts ha.1 hb.1, fun i j hi hj e => ?_⟩
  rw [fn_mulL ha.1 hi, fn_mulL ha.1 hj] at e
  exact ha.2 i j hi hj (hb.2 _ _ (ha.1.fn hi).2 (ha.1.fn hj).2 e)
noncomputable def backL (p : List Int) : List Int := (List.range p.length).map (fun j => (bck p.length (fn p) j : Int))
theorem backL_length (p : List Int) : (backL p).length = p.length := by simp [backL]
theorem rd_backL (p : List Int) (j : Nat) (h : j < p.length) : rd (backL p) (j : Int) = bck p.length (fn p) j := by
  rw [rd_nat _ _ (by rw [backL_length]; exact h)]; simp [backL]
theorem fn_backL {n : Nat} {p : List Int} (hp : PermL n p) {j : Nat} (h : j < n) : fn (backL p) j = bck n (fn p) j := by
  unfold fn; rw [rd_backL p j (by rw [hp.1.1]; exact h), hp.1.1]; rfl
theorem backL_perm {n : Nat} {p : List Int} (hp : PermL n p) : PermL n (backL p) := by
  have h := hp.perm
  refine ⟨⟨by rw [backL_length, hp.1.1], fun i hi => ?_⟩, fun i j hi hj e => ?_⟩
  · rw [rd_backL p i (by rw [hp.1.1]; exact hi), hp.1.1]
    have := h.gl i hi; omega
  · rw [fn_backL hp hi, fn_backL hp hj] at e
    rw [← h.fg i hi, e, h.fg j hj]
theorem idL_perm (n : Nat) : PermL n (idL n) := by
  refine ⟨⟨idL_length n, fun i hi => by rw [rd_idL n i hi]; omega⟩, fun i j hi hj e => ?_⟩
  unfold fn at e; rw [rd_idL n i hi, rd_idL n j hj] at e
  omega
theorem pts_ext {n : Nat} {a b : List Int} (ha : Pts n a) (hb : Pts n b) (h : ∀ i, i < n → fn a i = fn b i) : a = b := by
  refine list_ext_rd (by rw [ha.1, hb.1]) (fun i hi => ?_)
  rw [ha.1] at hi
  rw [(ha.fn hi).1, (hb.fn hi).1, h i hi]
noncomputable def dec (P : Prop) : Bool := @decide P (Classical.propDecidable P)
theorem dec_iff {P : Prop} : dec P = true ↔ P := by unfold dec; exact @decide_eq_true_iff P (Classical.propDecidable P)
theorem dec_t {P : Prop} (h : P) : dec P = true := dec_iff.2 h
theorem dec_f {P : Prop} (h : ¬ P) : dec P = false := Bool.eq_false_iff.2 (fun k => h (dec_iff.1 k))
theorem dec_of {P Q : Prop} [Decidable P] (h : P ↔ Q) : decide P = dec Q := by
  by_cases q : Q
  · rw [dec_t q, decide_eq_true (h.2 q)]
  · rw [dec_f q, decide_eq_false (fun k => q (h.1 k))]
def POK (p : List Int) : Prop := (1 ≤ p.length ∧ p.length ≤ 12) ∧ PermL p.length p
def MOK (t f : List Int) : Prop := POK t ∧ POK f ∧ t.length = f.length ∧ (∀ i, i < f.length → fn f i ≠ i ∧ fn f (fn f i) = i) ∧ ∀ i, i < t.length → rd (orbL t f) (i : Int) = 0
def rdL (xs : List (List Int)) (i : Int) : List Int := xs.getD i.toNat []
theorem rdL_nat (xs : List (List Int)) (i : Nat) (h : i < xs.length) : rdL xs (i : Int) = xs[i] := by
  simp [rdL, List.getD_eq_getElem?_getD, h]
def Small (l : List (List Int)) : Prop := l.length ≤ 1048576 ∧ ∀ i : Nat, i < l.length → (rdL l (i : Int)).length ≤ 1048576
def VOK (t f : List Int) (k : Int) (v : List (List Int)) : Prop := MOK t f ∧ (1 ≤ k ∧ k ≤ 6) ∧ (t.length : Int) * k ≤ 12 ∧ v.length = f.length / 2 ∧ ∀ e : Nat, e < v.length → POK (rdL v (e : Int)) ∧ ((rdL v (e : Int)).length : Int) = k
theorem MOK.size {t f : List Int} (h : MOK t f) : 1 ≤ t.length ∧ t.length ≤ 12 ∧ f.length = t.length := ⟨h.1.1.1, h.1.1.2, h.2.2.1.symm⟩
theorem MOK.permT {t f : List Int} (h : MOK t f) : PermL t.length t := h.1.2
theorem MOK.permF {t f : List Int} (h : MOK t f) : PermL t.length f := by have := h.2.1.2; rw [← h.2.2.1] at this; exact this
def lowD (f : List Int) (j : Nat) : Bool := decide (j < fn f j)
def edgeN (f : List Int) (d : Nat) : Nat := cntP (lowD f) (if d < fn f d then d else fn f d)
def edgL (f : List Int) : List Int := (List.range f.length).map (fun d => (edgeN f d : Int))
theorem edgL_length (f : List Int) : (edgL f).length = f.length := by simp [edgL]
theorem rd_edgL (f : List Int) (d : Nat) (h : d < f.length) : rd (edgL f) (d : Int) = edgeN f d := by
  rw [rd_nat _ _ (by rw [edgL_length]; exact h)]; simp [edgL]
structure PairL (n : Nat) (f : List Int) : Prop where
  pts : Pts n f
  ne : ∀ i, i < n → fn f i ≠ i
  inv : ∀ i, i < n → fn f (fn f i) = i
theorem MOK.pair {t f : List Int} (h : MOK t f) : PairL t.length f := by
  obtain ⟨h1, h2, h3, h4, h5⟩ := h
  refine ⟨by have := h2.2.1; rw [← h3] at this; exact this, fun i hi => (h4 i (by omega)).1, fun i hi => (h4 i (by omega)).2⟩
theorem cntP_step (p : Nat → Bool) {a b : Nat} (ha : p a = true) (h : a < b) : cntP p a < cntP p b := by
  have h1 : cntP p (a + 1) = cntP p a + 1 := by simp only [cntP]; rw [if_pos ha]
  have h2 : ∀ {m n : Nat}, m ≤ n → cntP p m ≤ cntP p n := by
    intro m n
    induction n with
    | zero => intro hmn; obtain rfl : m = 0 := by omega
              exact Nat.le_refl _
    | succ n ih =>
      intro hmn
      by_cases e : m = n + 1
      · subst e; exact Nat.le_refl _
      · have := ih (by omega); simp only [cntP]; omega
  have := h2 (show a + 1 ≤ b by omega)
  omega
theorem PairL.flip {n : Nat} {f : List Int} (h : PairL n f) {i : Nat} (hi : i < n) : fn f i < n ∧ (lowD f (fn f i) = !lowD f i) := by
  have h1 := (h.pts.fn hi).2
  have h2 := h.ne i hi
  refine ⟨h1, ?_⟩
  unfold lowD
  rw [h.inv i hi]
  by_cases e : i < fn f i
  · rw [decide_eq_true e, decide_eq_false (by omega)]; rfl
  · rw [decide_eq_false e, decide_eq_true (by omega)]; rfl
theorem PairL.half {n : Nat} {f : List Int} (h : PairL n f) : 2 * cntP (lowD f) n = n := by
  have h1 := cntP_not (lowD f) n
  have h2 := cntP_perm (lowD f) (n := n) (fn f) (fn f) (fun i hi => ⟨(h.pts.fn hi).2, h.inv i hi⟩) (fun i hi => ⟨(h.pts.fn hi).2, h.inv i hi⟩)
  have h3 : cntP (fun i => lowD f (fn f i)) n = cntP (fun i => !lowD f i) n := cntP_congr _ _ _ (fun i hi => (h.flip hi).2)
  omega
theorem PairL.low {n : Nat} {f : List Int} (h : PairL n f) {d : Nat} (hd : d < n) : ∃ a, a < n ∧ lowD f a = true ∧ edgeN f d = cntP (lowD f) a ∧ (d = a ∨ d = fn f a) := by
  have h1 := (h.pts.fn hd).2
  have h2 := h.ne d hd
  unfold edgeN
  by_cases e : d < fn f d
  · rw [if_pos e]; exact ⟨d, hd, decide_eq_true e, rfl, .inl rfl⟩
  · rw [if_neg e]; exact ⟨fn f d, h1, by unfold lowD; rw [h.inv d hd]; exact decide_eq_true (by omega), rfl, .inr (h.inv d hd).symm⟩
theorem PairL.edge_lt {n : Nat} {f : List Int} (h : PairL n f) {d : Nat} (hd : d < n) : edgeN f d < n / 2 := by
  obtain ⟨a, a1, a2, a3, a4⟩ := h.low hd
  have := cntP_step (lowD f) a2 a1
  have := h.half
  omega
theorem PairL.edge_of {n : Nat} {f : List Int} (h : PairL n f) {a : Nat} (ha : a < n) (hl : lowD f a = true) : edgeN f a = cntP (lowD f) a ∧ edgeN f (fn f a) = cntP (lowD f) a := by
  have e : a < fn f a := of_decide_eq_true hl
  unfold edgeN
  rw [if_pos e, h.inv a ha, if_neg (by omega)]
  exact ⟨rfl, rfl⟩
noncomputable def voltL (f : List Int) (v : List (List Int)) (d : Nat) : List Int := if d < fn f d then rdL v (edgeN f d : Int) else backL (rdL v (edgeN f d : Int))
structure VN (n κ : Nat) (t f : List Int) (v : List (List Int)) : Prop where
  tp : PermL n t
  fp : PermL n f
  pr : PairL n f
  n0 : 1 ≤ n
  n1 : n ≤ 12
  k0 : 1 ≤ κ
  k1 : κ ≤ 6
  nk : κ * n ≤ 12
  vl : v.length = n / 2
  vp : ∀ e : Nat, e < v.length → PermL κ (rdL v (e : Int))
theorem VOK.vn {t f : List Int} {k : Int} {v : List (List Int)} (h : VOK t f k v) : ∃ κ : Nat, k = (κ : Int) ∧ VN t.length κ t f v := by
  obtain ⟨h1, h2, h3, h4, h5⟩ := h
  have hz := h1.size
  refine ⟨k.toNat, by omega, h1.permT, h1.permF, h1.pair, by omega, by omega, by omega, by omega, ?_, by rw [h4, hz.2.2], fun e he => ?_⟩
  · obtain ⟨κ, rfl⟩ : ∃ κ : Nat, k = (κ : Int) := ⟨k.toNat, by omega⟩
    rw [Int.toNat_natCast, Nat.mul_comm]
    have : ((t.length * κ : Nat) : Int) = (t.length : Int) * (κ : Int) := Int.natCast_mul _ _
    omega
  · obtain ⟨p1, p2⟩ := h5 e he
    have := p1.2
    rw [show (rdL v (e : Int)).length = k.toNat by omega] at this
    exact this
theorem VN.volt {n κ : Nat} {t f : List Int} {v : List (List Int)} (h : VN n κ t f v) {d : Nat} (hd : d < n) : PermL κ (voltL f v d) := by
  have := h.vp (edgeN f d) (by rw [h.vl]; exact h.pr.edge_lt hd)
  unfold voltL
  split
  · exact this
  · exact backL_perm this
def covT (n κ : Nat) (t : List Int) (m : Nat) : List Int := (List.range m).map (fun x => ((κ * fn t (x / κ) + x % κ : Nat) : Int))
noncomputable def covF (κ : Nat) (f : List Int) (v : List (List Int)) (m : Nat) : List Int := (List.range m).map (fun x => ((κ * fn f (x / κ) + fn (voltL f v (x / κ)) (x % κ) : Nat) : Int))
theorem covT_length (n κ : Nat) (t : List Int) (m : Nat) : (covT n κ t m).length = m := by simp [covT]
theorem covF_length (κ : Nat) (f : List Int) (v : List (List Int)) (m : Nat) : (covF κ f v m).length = m := by simp [covF]
theorem rd_covT (n κ : Nat) (t : List Int) (m x : Nat) (h : x < m) : rd (covT n κ t m) (x : Int) = ((κ * fn t (x / κ) + x % κ : Nat) : Int) := by
  rw [rd_nat _ _ (by rw [covT_length]; exact h)]; simp [covT]
theorem rd_covF (κ : Nat) (f : List Int) (v : List (List Int)) (m x : Nat) (h : x < m) : rd (covF κ f v m) (x : Int) = ((κ * fn f (x / κ) + fn (voltL f v (x / κ)) (x % κ) : Nat) : Int) := by
  rw [rd_nat _ _ (by rw [covF_length]; exact h)]; simp [covF]
theorem sheet_num {κ d s : Nat} (hs : s < κ) : (κ * d + s) / κ = d ∧ (κ * d + s) % κ = s := by
  constructor
  · rw [Nat.mul_add_div (by omega), Nat.div_eq_of_lt hs, Nat.add_zero]
  · rw [Nat.mul_add_mod, Nat.mod_eq_of_lt hs]
theorem sheet_lt {κ n d s : Nat} (hd : d < n) (hs : s < κ) : κ * d + s < κ * n := by
  have h : κ * (d + 1) ≤ κ * n := Nat.mul_le_mul_left κ hd
  rw [Nat.mul_succ] at h
  omega
theorem mul_nums {κ a b : Nat} (hκ : κ ≤ 6) (ha : a ≤ 12) (hb : b ≤ 12) : wrap64 (wrap64 ((κ : Int) * (a : Int)) + (b : Int)) = ((κ * a + b : Nat) : Int) := by
  have h1 : κ * a ≤ 6 * 12 := Nat.mul_le_mul hκ ha
  have h2 : (κ : Int) * (a : Int) = ((κ * a : Nat) : Int) := (Int.natCast_mul _ _).symm
  rw [h2, wrap64_id (x := ((κ * a : Nat) : Int)) (by omega) (by omega), wrap64_id (by omega) (by omega)]
  omega
noncomputable def covOK (t f : List Int) (k : Int) (v : List (List Int)) : Prop := VOK t f k v ∧ MOK (covT t.length k.toNat t (k.toNat * t.length)) (covF k.toNat f v (k.toNat * t.length))
def Face (n : Nat) (face : List Int) : Prop := face.length ≤ n ∧ ∀ i : Nat, i < face.length → 0 ≤ rd face (i : Int) ∧ rd face (i : Int) < n
theorem Face.fn {n : Nat} {face : List Int} (h : Face n face) {i : Nat} (hi : i < face.length) : rd face (i : Int) = (fn face i : Int) ∧ fn face i < n := by
  have := h.2 i hi
  unfold M.fn
  omega
def flatL (k m : Nat) : List (List Int) := List.replicate m (idL k)
theorem flatL_length (k m : Nat) : (flatL k m).length = m := by simp [flatL]
theorem rdL_flatL (k m i : Nat) (h : i < m) : rdL (flatL k m) (i : Int) = idL k := by
  rw [rdL_nat _ _ (by rw [flatL_length]; exact h)]; simp [flatL]
theorem flatL_succ (k m : Nat) : flatL k (m + 1) = flatL k m ++ [idL k] := by unfold flatL; exact List.replicate_succ'
theorem idL_pok {k : Nat} (h0 : 1 ≤ k) (h1 : k ≤ 12) : POK (idL k) := by
  refine ⟨by rw [idL_length]; omega, ?_⟩
  rw [idL_length]; exact idL_perm k
theorem flat_vok {t f : List Int} {k : Nat} (h : MOK t f) (h0 : 1 ≤ k) (h1 : k ≤ 6) (h2 : t.length * k ≤ 12) : VOK t f (k : Int) (flatL k (f.length / 2)) := by
  refine ⟨h, by omega, ?_, flatL_length _ _, fun e he => ?_⟩
  · have : ((t.length * k : Nat) : Int) = (t.length : Int) * (k : Int) := Int.natCast_mul _ _
    omega
  · rw [flatL_length] at he
    rw [rdL_flatL _ _ _ he]
    exact ⟨idL_pok h0 (by omega), by rw [idL_length]⟩
def shL (κ : Nat) (by_ : List Int) (m : Nat) : List Int := (List.range m).map (fun x => ((κ * (x / κ) + fn by_ (x % κ) : Nat) : Int))
theorem shL_length (κ : Nat) (by_ : List Int) (m : Nat) : (shL κ by_ m).length = m := by simp [shL]
theorem rd_shL (κ : Nat) (by_ : List Int) (m x : Nat) (h : x < m) : rd (shL κ by_ m) (x : Int) = ((κ * (x / κ) + fn by_ (x % κ) : Nat) : Int) := by
  rw [rd_nat _ _ (by rw [shL_length]; exact h)]; simp [shL]
theorem fn_shL (κ : Nat) (by_ : List Int) (m x : Nat) (h : x < m) : fn (shL κ by_ m) x = κ * (x / κ) + fn by_ (x % κ) := by unfold fn; rw [rd_shL _ _ _ _ h]; rfl
theorem sheet_of {κ n x : Nat} (hκ : 1 ≤ κ) (h : x < κ * n) : x / κ < n ∧ x % κ < κ ∧ κ * (x / κ) + x % κ = x := by
  refine ⟨(Nat.div_lt_iff_lt_mul hκ).2 (by rw [Nat.mul_comm]; exact h), Nat.mod_lt _ (by omega), Nat.div_add_mod x κ⟩
theorem shL_perm {κ n : Nat} {by_ : List Int} (hκ : 1 ≤ κ) (hb : PermL κ by_) : PermL (κ * n) (shL κ by_ (κ * n)) := by
  refine ⟨⟨shL_length _ _ _, fun x hx => ?_⟩, fun x y hx hy e => ?_⟩
  · obtain ⟨s1, s2, s3⟩ := sheet_of hκ hx
    rw [rd_shL _ _ _ _ hx]
    have := sheet_lt s1 (hb.1.fn s2).2
    omega
  · obtain ⟨s1, s2, s3⟩ := sheet_of hκ hx
    obtain ⟨u1, u2, u3⟩ := sheet_of hκ hy
    rw [fn_shL _ _ _ _ hx, fn_shL _ _ _ _ hy] at e
    have b1 := (hb.1.fn s2).2
    have b2 := (hb.1.fn u2).2
    have e1 := (sheet_num (d := x / κ) b1).1
    have e2 := (sheet_num (d := y / κ) b2).1
    have e3 := (sheet_num (d := x / κ) b1).2
    have e4 := (sheet_num (d := y / κ) b2).2
    rw [e] at e1 e3
    have q1 : x / κ = y / κ := by rw [← e1, e2]
    have q2 : x % κ = y % κ := hb.2 _ _ s2 u2 (by rw [← e3, e4])
    rw [← s3, ← u3, q1, q2]
theorem mul_comm_iff {n : Nat} {a b : List Int} (ha : PermL n a) (hb : PermL n b) : mulL a b = mulL b a ↔ ∀ i, i < n → fn b (fn a i) = fn a (fn b i) := by
  constructor
  · intro e i hi
    rw [← fn_mulL ha.1 hi, e, fn_mulL hb.1 hi]
  · intro h
    exact pts_ext (mulL_pts ha.1 hb.1) (mulL_pts hb.1 ha.1) (fun i hi => by rw [fn_mulL ha.1 hi, fn_mulL hb.1 hi, h i hi])
theorem cov_perm {n κ : Nat} {t f : List Int} {v : List (List Int)} (h : VN n κ t f v) : Pts (κ * n) (covT n κ t (κ * n)) ∧ Pts (κ * n) (covF κ f v (κ * n)) ∧
    (∀ d s, d < n → s < κ → fn (covT n κ t (κ * n)) (κ * d + s) = κ * fn t d + s ∧ fn (covF κ f v (κ * n)) (κ * d + s) = κ * fn f d + fn (voltL f v d) s) := by
  have hk := h.k0
  have val : ∀ d s, d < n → s < κ → fn (covT n κ t (κ * n)) (κ * d + s) = κ * fn t d + s ∧ fn (covF κ f v (κ * n)) (κ * d + s) = κ * fn f d + fn (voltL f v d) s := by
    intro d s hd hs
    have hlt := sheet_lt hd hs
    obtain ⟨m1, m2⟩ := sheet_num (d := d) hs
    unfold fn
    rw [rd_covT _ _ _ _ _ hlt, rd_covF _ _ _ _ _ hlt, m1, m2]
    exact ⟨rfl, rfl⟩
  refine ⟨⟨covT_length _ _ _ _, fun x hx => ?_⟩, ⟨covF_length _ _ _ _, fun x hx => ?_⟩, val⟩
  · obtain ⟨s1, s2, s3⟩ := sheet_of hk hx
    rw [rd_covT _ _ _ _ _ hx]
    have := sheet_lt (h.tp.1.fn s1).2 s2
    omega
  · obtain ⟨s1, s2, s3⟩ := sheet_of hk hx
    rw [rd_covF _ _ _ _ _ hx]
    have := sheet_lt (h.fp.1.fn s1).2 ((h.volt s1).1.fn s2).2
    omega
theorem shift_comm {n κ : Nat} {t f : List Int} {v : List (List Int)} {by_ : List Int} (h : VN n κ t f v) (hb : PermL κ by_) :
    (∀ i, i < κ * n → fn (covT n κ t (κ * n)) (fn (shL κ by_ (κ * n)) i) = fn (shL κ by_ (κ * n)) (fn (covT n κ t (κ * n)) i)) ∧
    ((∀ i, i < κ * n → fn (covF κ f v (κ * n)) (fn (shL κ by_ (κ * n)) i) = fn (shL κ by_ (κ * n)) (fn (covF κ f v (κ * n)) i)) ↔ ∀ e : Nat, e < v.length → mulL by_ (rdL v (e : Int)) = mulL (rdL v (e : Int)) by_) := by
  have hk := h.k0
  obtain ⟨p1, p2, val⟩ := cov_perm h
  have sh : ∀ d s, d < n → s < κ → fn (shL κ by_ (κ * n)) (κ * d + s) = κ * d + fn by_ s := fun d s hd hs => by
    obtain ⟨m1, m2⟩ := sheet_num (d := d) hs
    rw [fn_shL _ _ _ _ (sheet_lt hd hs), m1, m2]
  constructor
  · intro i hi
    obtain ⟨s1, s2, s3⟩ := sheet_of hk hi
    rw [← s3, sh _ _ s1 s2, (val _ _ s1 (hb.1.fn s2).2).1, (val _ _ s1 s2).1, sh _ _ (h.tp.1.fn s1).2 s2]
  · constructor
    · intro hc e he
      have hpe := h.vp e he
      rw [mul_comm_iff hb hpe]
      -- the edge's lesser dart
      have hL : ∀ e : Nat, e < n / 2 → ∃ d, d < n ∧ lowD f d = true ∧ cntP (lowD f) d = e := by
        intro e he
        have hh := h.pr.half
        have : ∀ m, e < cntP (lowD f) m → ∃ d, d < m ∧ lowD f d = true ∧ cntP (lowD f) d = e := by
          intro m
          induction m with
          | zero => intro w; simp [cntP] at w
          | succ m ih =>
            intro w
            simp only [cntP] at w
            by_cases q : lowD f m = true
            · rw [if_pos q] at w
              by_cases z : cntP (lowD f) m = e
              · exact ⟨m, by omega, q, z⟩
              · obtain ⟨d, d1, d2⟩ := ih (by omega)
                exact ⟨d, by omega, d2⟩
            · rw [if_neg q] at w
              obtain ⟨d, d1, d2⟩ := ih (by omega)
              exact ⟨d, by omega, d2⟩
        exact this n (by omega)
      obtain ⟨d, d1, d2, d3⟩ := hL e (by rw [← h.vl]; exact he)
      have hd : d < fn f d := of_decide_eq_true d2
      have hvd : voltL f v d = rdL v (e : Int) := by
        unfold voltL; rw [if_pos hd, (h.pr.edge_of d1 d2).1, d3]
      intro s hs
      have := hc (κ * d + s) (sheet_lt d1 hs)
      rw [sh _ _ d1 hs, (val _ _ d1 (hb.1.fn hs).2).2, (val _ _ d1 hs).2, hvd, sh _ _ (h.fp.1.fn d1).2 (hpe.1.fn hs).2] at this
      omega
    · intro hc i hi
      obtain ⟨s1, s2, s3⟩ := sheet_of hk hi
      have hvp := h.volt s1
      rw [← s3, sh _ _ s1 s2, (val _ _ s1 (hb.1.fn s2).2).2, (val _ _ s1 s2).2, sh _ _ (h.fp.1.fn s1).2 (hvp.1.fn s2).2]
      congr 1
      have hel := h.pr.edge_lt s1
      have hpe := h.vp (edgeN f (i / κ)) (by rw [h.vl]; exact hel)
      have hcomm := (mul_comm_iff hb hpe).1 (hc _ (by rw [h.vl]; exact hel))
      unfold voltL
      split
      · exact hcomm _ s2
      · rw [fn_backL hpe (hb.1.fn s2).2, fn_backL hpe s2]
        have hg := hpe.perm.gl _ s2
        have hgf := hpe.perm.fg _ s2
        have e1 := hcomm _ hg
        rw [hgf] at e1
        -- by (back s) goes to by s under the voltage
        have e2 := hpe.perm.gf _ (hb.1.fn hg).2
        rw [e1] at e2
        exact e2
noncomputable def cmV (t f : List Int) (k : Int) (v : List (List Int)) : List Int × List Int × Bool := if dec (covOK t f k v) = true then (covT t.length k.toNat t (k.toNat * t.length), covF k.toNat f v (k.toNat * t.length), true) else ([], [], false)
noncomputable def ctV (t f : List Int) (k : Int) : List (List Int) × Bool := if dec (MOK t f ∧ (1 ≤ k ∧ k ≤ 6) ∧ (t.length : Int) * k ≤ 12) = true then (flatL k.toNat (f.length / 2), true) else ([], false)
theorem xor_nonneg (a b : Int) (ha : 0 ≤ a) (hb : 0 ≤ b) (ha' : a < 4611686018427387904) (hb' : b < 4611686018427387904) : 0 ≤ Go.bits .xor .i64 a b := by
  obtain ⟨a, rfl⟩ := Int.eq_ofNat_of_zero_le ha
  obtain ⟨b, rfl⟩ := Int.eq_ofNat_of_zero_le hb
  have h1 : a < 2 ^ 62 := by omega
  have h2 : b < 2 ^ 62 := by omega
  have hx : a ^^^ b < 2 ^ 62 := Nat.xor_lt_two_pow h1 h2
  have e1 : a % 2 ^ 64 = a := Nat.mod_eq_of_lt (by omega)
  have e2 : b % 2 ^ 64 = b := Nat.mod_eq_of_lt (by omega)
  have : Go.bits .xor .i64 (a : Int) (b : Int) = ((a ^^^ b : Nat) : Int) := by
    show IntKind.i64.wrap ((BitVec.ofInt 64 (a : Int) ^^^ BitVec.ofInt 64 (b : Int)).toNat : Int) = _
    rw [BitVec.ofInt_natCast, BitVec.ofInt_natCast, BitVec.toNat_xor, BitVec.toNat_ofNat, BitVec.toNat_ofNat, e1, e2, IntKind.wrap_i64]
    generalize a ^^^ b = c at *
    omega
  rw [this]; omega
def Bytes (l : List Int) : Prop := ∀ i : Nat, i < l.length → 0 ≤ rd l (i : Int) ∧ rd l (i : Int) ≤ 255
theorem tmod_bd (a n : Int) (ha : 0 ≤ a) (hn : 0 < n) : 0 ≤ Int.tmod a n ∧ Int.tmod a n < n := ⟨Int.tmod_nonneg n ha, Int.tmod_lt_of_pos a hn⟩
theorem Bytes.at {l : List Int} (h : Bytes l) (i : Int) (h0 : 0 ≤ i) (h1 : i < l.length) : 0 ≤ rd l i ∧ rd l i ≤ 255 := by
  obtain ⟨n, rfl⟩ := Int.eq_ofNat_of_zero_le h0
  exact h n (by omega)
theorem Bytes.take {l : List Int} (h : Bytes l) (n : Nat) : Bytes (l.take n) := by
  intro i hi
  have hl : i < l.length := by simp at hi; omega
  rw [rd_nat _ _ hi, List.getElem_take, ← rd_nat l i hl]
  exact h i hl
theorem bytes_of_wf {l : List Int} (h : ∀ x ∈ l, (Lit.int .u8 x).wf = true) : Bytes l := by
  intro i hi
  rw [rd_nat l i hi]
  have := h _ (List.getElem_mem hi)
  generalize l[i] = x at this
  have h2 : IntKind.u8.min ≤ x ∧ x ≤ IntKind.u8.max := by simpa [Lit.wf] using this
  have e1 : IntKind.u8.min = 0 := by decide
  have e2 : IntKind.u8.max = 255 := by decide
  omega
noncomputable def com (p : List Int) (v : List (List Int)) : Bool := dec (∀ e : Nat, e < v.length → mulL p (rdL v (e : Int)) = mulL (rdL v (e : Int)) p)
noncomputable def cntL (v : List (List Int)) : List (List Int) → Int
  | [] => 0
  | p :: r => (if com p v = true then 1 else 0) + cntL v r
theorem cntL_append (v : List (List Int)) : ∀ a b : List (List Int), cntL v (a ++ b) = cntL v a + cntL v b
  | [], b => by simp [cntL]
  | p :: a, b => by simp only [List.cons_append, cntL]; rw [cntL_append v a b]; omega
theorem cntL_range (v : List (List Int)) : ∀ a : List (List Int), 0 ≤ cntL v a ∧ cntL v a ≤ a.length
  | [] => by simp [cntL]
  | p :: a => by
    have := cntL_range v a
    simp only [cntL, List.length_cons]
    split <;> omega
def okP (n : Nat) (p : List Int) : Prop := p.length = n ∧ ∀ x ∈ p, 0 ≤ x ∧ x < (n : Int)
instance (n : Nat) (p : List Int) : Decidable (okP n p) := by unfold okP; infer_instance
theorem okP.rd {n : Nat} {p : List Int} (h : okP n p) (i : Nat) (hi : i < p.length) : 0 ≤ rd p (i : Int) ∧ rd p (i : Int) < (n : Int) := by
  rw [rd_nat p i hi]; exact h.2 _ (List.getElem_mem _)
def dfs (n : Nat) : Nat → List Int → List (List Int)
  | 0, _ => []
  | d + 1, p => if p.length = n then [p] else (List.range n).flatMap (fun i : Nat => if (i : Int) ∈ p then [] else dfs n d (p ++ [(i : Int)]))
def dfsFrom (n d : Nat) (p : List Int) (i : Nat) : List (List Int) := ((List.range n).drop i).flatMap (fun i : Nat => if (i : Int) ∈ p then [] else dfs n d (p ++ [(i : Int)]))
theorem dfsFrom_end (n d : Nat) (p : List Int) (i : Nat) (h : n ≤ i) : dfsFrom n d p i = [] := by
  unfold dfsFrom; rw [List.drop_of_length_le (by simpa using h)]; rfl
theorem dfsFrom_step (n d : Nat) (p : List Int) (i : Nat) (h : i < n) : dfsFrom n d p i = (if (i : Int) ∈ p then [] else dfs n d (p ++ [(i : Int)])) ++ dfsFrom n d p (i + 1) := by
  unfold dfsFrom
  rw [List.drop_eq_getElem_cons (by simpa using h), List.flatMap_cons]
  simp
def permsN : Nat → List (List Int)
  | 1 => [[0]]
  | 2 => [[0, 1], [1, 0]]
  | 3 => [[0, 1, 2], [0, 2, 1], [1, 0, 2], [1, 2, 0], [2, 0, 1], [2, 1, 0]]
  | 4 => [[0, 1, 2, 3], [0, 1, 3, 2], [0, 2, 1, 3], [0, 2, 3, 1], [0, 3, 1, 2], [0, 3, 2, 1], [1, 0, 2, 3], [1, 0, 3, 2], [1, 2, 0, 3], [1, 2, 3, 0], [1, 3, 0, 2], [1, 3, 2, 0], [2, 0, 1, 3], [2, 0, 3, 1], [2, 1, 0, 3], [2, 1, 3, 0], [2, 3, 0, 1], [2, 3, 1, 0], [3, 0, 1, 2], [3, 0, 2, 1], [3, 1, 0, 2], [3, 1, 2, 0], [3, 2, 0, 1], [3, 2, 1, 0]]
  | _ => []
theorem dfs_all (n : Nat) (h0 : 1 ≤ n) (h1 : n ≤ 4) : dfs n (n + 1) [] = permsN n := by
  obtain rfl | rfl | rfl | rfl : n = 1 ∨ n = 2 ∨ n = 3 ∨ n = 4 := by omega
  all_goals decide +kernel
theorem permsN_ok (n : Nat) (h0 : 1 ≤ n) (h1 : n ≤ 4) : ∀ p ∈ permsN n, okP n p := by
  obtain rfl | rfl | rfl | rfl : n = 1 ∨ n = 2 ∨ n = 3 ∨ n = 4 := by omega
  all_goals decide +kernel
theorem permsN_len (n : Nat) : (permsN n).length ≤ 24 := by
  unfold permsN; split <;> simp
noncomputable def deckV (t f : List Int) (k : Int) (v : List (List Int)) : Int := if dec (VOK t f k v) = true then (if k > 4 then -1 else cntL v (permsN k.toNat)) else -1
def bStep (st : List Int × List Int) (d : Int) : List Int × List Int := if rd st.1 d < 0 then (st.1.set d.toNat (st.2.length : Int), st.2 ++ [d]) else st
def bRound (t f : List Int) (st : List Int × List Int) (i : Nat) : List Int × List Int := bStep (bStep st (rd t (rd st.2 (i : Int)))) (rd f (rd st.2 (i : Int)))
def bRun (t f : List Int) : Nat → Nat → List Int × List Int → List Int × List Int
  | 0, _, st => st
  | m + 1, i, st => if i < st.2.length then bRun t f m (i + 1) (bRound t f st i) else st
structure BInv (n : Nat) (st : List Int × List Int) : Prop where
  lo : st.1.length = n
  qo : ∀ j : Nat, j < st.2.length → ∃ a : Nat, a < n ∧ rd st.2 (j : Int) = (a : Int) ∧ rd st.1 (a : Int) = (j : Int)
  oq : ∀ d : Nat, d < n → rd st.1 (d : Int) < 0 ∨ ∃ j : Nat, j < st.2.length ∧ rd st.1 (d : Int) = (j : Int) ∧ rd st.2 (j : Int) = (d : Int)
theorem BInv.len {n : Nat} {st : List Int × List Int} (h : BInv n st) : st.2.length ≤ n := by
  by_cases w : st.2.length ≤ n
  · exact w
  · obtain ⟨i, j, hij, hj, e⟩ := pigeon n (fun i => (rd st.2 (i : Int)).toNat) (fun i hi => by
      obtain ⟨a, a1, a2, a3⟩ := h.qo i (by omega)
      show (rd st.2 (i : Int)).toNat < n
      rw [a2]; exact a1)
    obtain ⟨a, a1, a2, a3⟩ := h.qo i (by omega)
    obtain ⟨b, b1, b2, b3⟩ := h.qo j (by omega)
    have e' : (rd st.2 (i : Int)).toNat = (rd st.2 (j : Int)).toNat := e
    rw [a2, b2] at e'
    have : a = b := by simpa using e'
    subst this
    rw [a3] at b3; omega
theorem rd_snoc_lt' (x : List Int) (v : Int) (a : Nat) (h : a < x.length) : rd (x ++ [v]) (a : Int) = rd x (a : Int) := by
  rw [rd_nat _ _ (by simp; omega), rd_nat _ _ h, List.getElem_append_left h]
theorem rd_snoc_eq' (x : List Int) (v : Int) : rd (x ++ [v]) (x.length : Int) = v := by
  rw [rd_nat _ _ (by simp)]; simp
theorem BInv.step {n : Nat} {st : List Int × List Int} (h : BInv n st) {d : Nat} (hd : d < n) : BInv n (bStep st (d : Int)) ∧ st.2.length ≤ (bStep st (d : Int)).2.length ∧ (∀ j : Nat, j < st.2.length → rd (bStep st (d : Int)).2 (j : Int) = rd st.2 (j : Int)) ∧ (∀ e : Nat, e < n → 0 ≤ rd st.1 (e : Int) → 0 ≤ rd (bStep st (d : Int)).1 (e : Int)) ∧ 0 ≤ rd (bStep st (d : Int)).1 (d : Int) := by
  unfold bStep
  by_cases q : rd st.1 (d : Int) < 0
  · rw [if_pos q]
    have hl := h.lo
    refine ⟨⟨by simp [hl], fun j hj => ?_, fun e he => ?_⟩, by simp, fun j hj => rd_snoc_lt' _ _ _ hj, fun e he h0 => ?_, ?_⟩
    · simp only [List.length_append, List.length_cons, List.length_nil] at hj
      by_cases w : j = st.2.length
      · subst w
        refine ⟨d, hd, rd_snoc_eq' _ _, ?_⟩
        show rd (st.1.set d _) (d : Int) = _
        rw [rd_set_self _ _ _ (by omega)]
      · obtain ⟨a, a1, a2, a3⟩ := h.qo j (by omega)
        refine ⟨a, a1, by rw [rd_snoc_lt' _ _ _ (by omega), a2], ?_⟩
        show rd (st.1.set d _) (a : Int) = _
        rw [rd_set_ne _ _ _ _ (fun w2 => by subst w2; omega), a3]
    · show rd (st.1.set d _) (e : Int) < 0 ∨ ∃ j : Nat, j < (st.2 ++ [(d : Int)]).length ∧ rd (st.1.set d _) (e : Int) = (j : Int) ∧ _
      by_cases w : d = e
      · subst w
        rw [rd_set_self _ _ _ (by omega)]
        exact .inr ⟨st.2.length, by simp, rfl, rd_snoc_eq' _ _⟩
      · rw [rd_set_ne _ _ _ _ w]
        rcases h.oq e he with o | ⟨j, j1, j2, j3⟩
        · exact .inl o
        · exact .inr ⟨j, by simp; omega, j2, by rw [rd_snoc_lt' _ _ _ j1, j3]⟩
    · show 0 ≤ rd (st.1.set d _) (e : Int)
      by_cases w : d = e
      · subst w; rw [rd_set_self _ _ _ (by omega)]; omega
      · rw [rd_set_ne _ _ _ _ w]; exact h0
    · show 0 ≤ rd (st.1.set d _) (d : Int)
      rw [rd_set_self _ _ _ (by omega)]; omega
  · rw [if_neg q]
    exact ⟨h, Nat.le_refl _, fun _ _ => rfl, fun _ _ h0 => h0, by omega⟩
def BDone (t f : List Int) (i : Nat) (st : List Int × List Int) : Prop := ∀ j : Nat, j < i → j < st.2.length → 0 ≤ rd st.1 (rd t (rd st.2 (j : Int))) ∧ 0 ≤ rd st.1 (rd f (rd st.2 (j : Int)))
theorem BInv.round {n : Nat} {t f : List Int} (ht : Pts n t) (hf : Pts n f) {st : List Int × List Int} (h : BInv n st) {i : Nat} (hi : i < st.2.length) (hD : BDone t f i st) :
    BInv n (bRound t f st i) ∧ BDone t f (i + 1) (bRound t f st i) ∧ st.2.length ≤ (bRound t f st i).2.length ∧ (∀ j : Nat, j < st.2.length → rd (bRound t f st i).2 (j : Int) = rd st.2 (j : Int)) := by
  obtain ⟨a, a1, a2, a3⟩ := h.qo i hi
  have t1 := ht.fn a1
  have f1 := hf.fn a1
  obtain ⟨s1, s2, s3, s4, s5⟩ := h.step t1.2
  obtain ⟨u1, u2, u3, u4, u5⟩ := s1.step f1.2
  have e : bRound t f st i = bStep (bStep st (fn t a : Int)) (fn f a : Int) := by unfold bRound; rw [a2, t1.1, f1.1]
  rw [e]
  have keep : ∀ j : Nat, j < st.2.length → rd (bStep (bStep st (fn t a : Int)) (fn f a : Int)).2 (j : Int) = rd st.2 (j : Int) := fun j hj => by rw [u3 j (by omega), s3 j hj]
  refine ⟨u1, fun j hj hj2 => ?_, by omega, keep⟩
  by_cases w : j < i
  · obtain ⟨b, b1, b2, b3⟩ := h.qo j (by omega)
    have tb := ht.fn b1
    have fb := hf.fn b1
    obtain ⟨d1, d2⟩ := hD j w (by omega)
    rw [keep j (by omega), b2, tb.1, fb.1]
    rw [b2, tb.1] at d1
    rw [b2, fb.1] at d2
    exact ⟨u4 _ tb.2 (s4 _ tb.2 d1), u4 _ fb.2 (s4 _ fb.2 d2)⟩
  · obtain rfl : j = i := by omega
    rw [keep j hi, a2, t1.1, f1.1]
    exact ⟨u4 _ t1.2 s5, u5⟩
theorem bRun_spec {n : Nat} {t f : List Int} (ht : Pts n t) (hf : Pts n f) : ∀ (m i : Nat) (st : List Int × List Int), n < m + i → BInv n st → BDone t f i st → i ≤ st.2.length → 1 ≤ st.2.length →
    BInv n (bRun t f m i st) ∧ BDone t f (bRun t f m i st).2.length (bRun t f m i st) ∧ rd (bRun t f m i st).2 ((0 : Nat) : Int) = rd st.2 ((0 : Nat) : Int) ∧ 1 ≤ (bRun t f m i st).2.length := by
  intro m
  induction m with
  | zero => intro i st hm h hD hi h1; have := h.len; omega
  | succ m ih =>
    intro i st hm h hD hi h1
    unfold bRun
    by_cases q : i < st.2.length
    · rw [if_pos q]
      obtain ⟨r1, r2, r3, r4⟩ := h.round ht hf q hD
      obtain ⟨x1, x2, x3, x4⟩ := ih (i + 1) _ (by omega) r1 r2 (by omega) (by omega)
      exact ⟨x1, x2, by rw [x3, r4 0 (by omega)], x4⟩
    · rw [if_neg q]
      obtain rfl : i = st.2.length := by omega
      exact ⟨h, hD, rfl, h1⟩
def bStart (n root : Nat) : List Int × List Int := ((List.replicate n (-1)).set root 0, [(root : Int)])
theorem rd_rep (n : Nat) (v : Int) (d : Nat) (h : d < n) : rd (List.replicate n v) (d : Int) = v := by rw [rd_nat _ _ (by simp; exact h)]; simp
theorem bStart_inv {n root : Nat} (h : root < n) : BInv n (bStart n root) := by
  refine ⟨by simp [bStart], fun j hj => ?_, fun d hd => ?_⟩
  · obtain rfl : j = 0 := by simpa [bStart] using hj
    refine ⟨root, h, by rw [rd_nat _ _ (by simp [bStart])]; rfl, ?_⟩
    show rd ((List.replicate n (-1)).set root 0) (root : Int) = _
    rw [rd_set_self _ _ _ (by simp; exact h)]; rfl
  · show rd ((List.replicate n (-1)).set root 0) (d : Int) < 0 ∨ _
    by_cases w : root = d
    · subst w
      right
      refine ⟨0, by simp [bStart], ?_, by rw [rd_nat _ _ (by simp [bStart])]; rfl⟩
      show rd ((List.replicate n (-1)).set root 0) (root : Int) = _
      rw [rd_set_self _ _ _ (by simp; exact h)]; rfl
    · left
      rw [rd_set_ne _ _ _ _ w, rd_rep _ _ _ hd]; omega
def bEnd (n : Nat) (t f : List Int) (root : Nat) : List Int × List Int := bRun t f (n + 1) 0 (bStart n root)
def bnamL (n : Nat) (t f : List Int) (root : Nat) : List Int := (bEnd n t f root).1
def orderL (n : Nat) (t f : List Int) (root : Nat) : List Int := (bEnd n t f root).2
theorem fwd_closed {n : Nat} {f g : Nat → Nat} (h : PermN n f g) {P : Nat → Prop} (hP : ∀ i, i < n → P i → P (f i)) {i : Nat} (hi : i < n) (hf : P (f i)) : P i := by
  obtain ⟨p, p1, p2, p3, p4⟩ := period h hi
  have hfi : f i < n := by have := itr_lt h hi 1; simpa [itr] using this
  have all : ∀ k, P (itr f k (f i)) := by
    intro k
    induction k with
    | zero => exact hf
    | succ k ih => exact hP _ (itr_lt h hfi k) ih
  have e : itr f (p - 1) (f i) = i := by
    have e1 : itr f (p - 1) (itr f 1 i) = itr f (p - 1 + 1) i := (itr_add f i (p - 1) 1).symm
    rw [show p - 1 + 1 = p by omega, p3] at e1
    exact e1
  have := all (p - 1)
  rwa [e] at this
theorem bEnd_spec {t f : List Int} (hM : MOK t f) {root : Nat} (hr : root < t.length) : BInv t.length (bEnd t.length t f root) ∧ (∀ d : Nat, d < t.length → 0 ≤ rd (bnamL t.length t f root) (d : Int)) ∧ rd (orderL t.length t f root) ((0 : Nat) : Int) = (root : Int) := by
  have hT := hM.permT
  have hF := hM.permF
  obtain ⟨b1, b2, b3, b4⟩ := bRun_spec hT.1 hF.1 (t.length + 1) 0 (bStart t.length root) (by omega) (bStart_inv hr) (fun j hj => absurd hj (by omega)) (by omega) (by simp [bStart])
  refine ⟨b1, ?_, by show rd (bEnd t.length t f root).2 _ = _; unfold bEnd; rw [b3, rd_nat _ _ (by simp [bStart])]; rfl⟩
  have named : ∀ d : Nat, d < t.length → 0 ≤ rd (bnamL t.length t f root) (d : Int) → 0 ≤ rd (bnamL t.length t f root) (fn t d : Int) ∧ 0 ≤ rd (bnamL t.length t f root) (fn f d : Int) := by
    intro d hd h0
    rcases b1.oq d hd with o | ⟨j, j1, j2, j3⟩
    · exact absurd h0 (by unfold bnamL bEnd; omega)
    · have := b2 j j1 j1
      rw [j3, (hT.1.fn hd).1, (hF.1.fn hd).1] at this
      exact this
  have r0 : 0 ≤ rd (bnamL t.length t f root) (root : Int) := by
    obtain ⟨a, a1, a2, a3⟩ := b1.qo 0 (by omega)
    rw [b3, rd_nat _ _ (by simp [bStart])] at a2
    have : (root : Int) = (a : Int) := a2
    have : root = a := by omega
    subst this
    show 0 ≤ rd (bEnd t.length t f root).1 _
    unfold bEnd; rw [a3]; omega
  -- the classes: named or not
  intro d hd
  have inv : Inv2 t.length t f (fun x => if 0 ≤ rd (bnamL t.length t f root) (x : Int) then 1 else 0) := by
    intro i hi
    have ti : 0 ≤ rd (bnamL t.length t f root) (fn t i : Int) ↔ 0 ≤ rd (bnamL t.length t f root) (i : Int) :=
      ⟨fun w => fwd_closed hT.perm (P := fun x => 0 ≤ rd (bnamL t.length t f root) (x : Int)) (fun j hj hw => (named j hj hw).1) hi w, fun w => (named i hi w).1⟩
    have fi : 0 ≤ rd (bnamL t.length t f root) (fn f i : Int) ↔ 0 ≤ rd (bnamL t.length t f root) (i : Int) :=
      ⟨fun w => fwd_closed hF.perm (P := fun x => 0 ≤ rd (bnamL t.length t f root) (x : Int)) (fun j hj hw => (named j hj hw).2) hi w, fun w => (named i hi w).2⟩
    constructor
    · simp only [ti]
    · simp only [fi]
  have zero : ∀ x : Nat, x < t.length → Con t.length t f x 0 := by
    intro x hx
    have h0 := hM.2.2.2.2 x hx
    rw [rd_orbL _ _ _ hx] at h0
    have h1 := (low_spec (a := t) (b := f) hx).2.1
    rw [show low t.length t f x = 0 by omega] at h1
    exact h1
  have hc := ((zero d hd).trans (zero root hr).symm) _ inv
  by_cases w : 0 ≤ rd (bnamL t.length t f root) (d : Int)
  · exact w
  · simp only [if_neg w, if_pos r0] at hc
    exact absurd hc (by decide)
theorem names_perm {t f : List Int} (hM : MOK t f) {root : Nat} (hr : root < t.length) : PermL t.length (bnamL t.length t f root) ∧ (orderL t.length t f root).length = t.length ∧ orderL t.length t f root = backL (bnamL t.length t f root) := by
  obtain ⟨b1, b2, b3⟩ := bEnd_spec hM hr
  have hl : (bnamL t.length t f root).length = t.length := b1.lo
  have at_ : ∀ d : Nat, d < t.length → ∃ j : Nat, j < (orderL t.length t f root).length ∧ rd (bnamL t.length t f root) (d : Int) = (j : Int) ∧ rd (orderL t.length t f root) (j : Int) = (d : Int) := by
    intro d hd
    rcases b1.oq d hd with o | o
    · exact absurd (b2 d hd) (by unfold bnamL; omega)
    · exact o
  have hq : (orderL t.length t f root).length ≤ t.length := b1.len
  have hP : PermL t.length (bnamL t.length t f root) := by
    refine ⟨⟨hl, fun i hi => ?_⟩, fun i j hi hj e => ?_⟩
    · obtain ⟨j, j1, j2, j3⟩ := at_ i hi; omega
    · obtain ⟨a, a1, a2, a3⟩ := at_ i hi
      obtain ⟨b, c1, c2, c3⟩ := at_ j hj
      unfold fn at e
      rw [a2, c2] at e
      have : a = b := by simpa using e
      subst this
      omega
  have hlen : (orderL t.length t f root).length = t.length := by
    by_cases w : (orderL t.length t f root).length = t.length
    · exact w
    · -- the last number is somebody's
      have hb := hP.perm.gl (t.length - 1) (by omega)
      have hg := hP.perm.fg (t.length - 1) (by omega)
      generalize bck t.length (fn (bnamL t.length t f root)) (t.length - 1) = x at hb hg
      obtain ⟨j, j1, j2, j3⟩ := at_ x hb
      unfold fn at hg
      rw [j2] at hg
      simp only [Int.toNat_natCast] at hg
      omega
  refine ⟨hP, hlen, ?_⟩
  refine list_ext_rd (by rw [hlen, backL_length, hl]) (fun j hj => ?_)
  obtain ⟨a, a1, a2, a3⟩ := b1.qo j hj
  have a2' : rd (orderL t.length t f root) (j : Int) = (a : Int) := a2
  rw [a2', rd_backL _ _ (by rw [hl]; omega), hl]
  have : fn (bnamL t.length t f root) a = j := by unfold fn bnamL; rw [a3]; rfl
  have e := hP.perm.gf a a1
  rw [this] at e
  omega
theorem filter_split {α : Type} (p : α → Bool) : ∀ R : List α, R.length = (R.filter p).length + (R.filter (fun x => !p x)).length
  | [] => rfl
  | x :: R => by
    have := filter_split p R
    by_cases h : p x = true
    · rw [List.filter_cons_of_pos h, List.filter_cons_of_neg (by simp [h])]; simp only [List.length_cons]; omega
    · rw [List.filter_cons_of_neg h, List.filter_cons_of_pos (by simpa using h)]; simp only [List.length_cons]; omega
theorem map_nodup {α β : Type} {f : α → β} : ∀ {C : List α}, C.Nodup → (∀ a ∈ C, ∀ b ∈ C, f a = f b → a = b) → (C.map f).Nodup
  | [], _, _ => List.nodup_nil
  | a :: C, h, hf => by
    rw [List.map_cons, List.nodup_cons]
    rw [List.nodup_cons] at h
    refine ⟨fun hm => ?_, map_nodup h.2 (fun x hx y hy => hf x (by simp [hx]) y (by simp [hy]))⟩
    obtain ⟨b, hb, e⟩ := List.mem_map.1 hm
    have := hf b (by simp [hb]) a (by simp) e
    exact h.1 (this ▸ hb)
theorem free_div {α β : Type} [DecidableEq β] {C : List α} (hC : C.Nodup) (act : α → β → β) : ∀ (N : Nat) (R : List β), R.length ≤ N → R.Nodup → (∀ g ∈ C, ∀ r ∈ R, act g r ∈ R) → (∀ g ∈ C, ∀ h ∈ C, ∀ r ∈ R, act g r = act h r → g = h) → (∀ r ∈ R, ∃ g ∈ C, act g r = r) → (∀ g ∈ C, ∀ h ∈ C, ∀ r ∈ R, ∀ s ∈ R, act g r = act h s → ∃ q ∈ C, r = act q s) → C.length ∣ R.length := by
  intro N
  induction N with
  | zero =>
    intro R hN _ _ _ _ _
    have : R.length = 0 := by omega
    rw [this]; exact Nat.dvd_zero _
  | succ N ih =>
    intro R hN hR hc hf hi hb
    cases R with
    | nil => exact Nat.dvd_zero _
    | cons r R0 =>
      generalize hRR : r :: R0 = R at *
      have hr : r ∈ R := by rw [← hRR]; simp
      let O := C.map (fun g => act g r)
      have hO : O.Nodup := map_nodup hC (fun a ha b hb' e => hf a ha b hb' r hr e)
      have hOR : ∀ x ∈ O, x ∈ R := fun x hx => by
        obtain ⟨g, hg, rfl⟩ := List.mem_map.1 hx
        exact hc g hg r hr
      have h1 := filter_split (fun x => decide (x ∈ O)) R
      have h2 : (R.filter (fun x => decide (x ∈ O))).length = O.length := by
        refine List.Perm.length_eq ((List.perm_ext_iff_of_nodup (hR.filter _) hO).2 (fun x => ?_))
        rw [List.mem_filter]
        exact ⟨fun h => of_decide_eq_true h.2, fun h => ⟨hOR x h, decide_eq_true h⟩⟩
      have hOl : O.length = C.length := List.length_map ..
      have hro : r ∈ O := by
        obtain ⟨g, hg, e⟩ := hi r hr
        exact List.mem_map.2 ⟨g, hg, e⟩
      have hpos : 1 ≤ O.length := List.length_pos_of_mem hro
      have sub : ∀ {x}, x ∈ R.filter (fun x => !decide (x ∈ O)) → x ∈ R ∧ x ∉ O := fun {x} hx => by
        have := List.mem_filter.1 hx
        exact ⟨this.1, by simpa using this.2⟩
      have h3 := ih (R.filter (fun x => !decide (x ∈ O))) (by omega) (hR.filter _) (fun g hg x hx => ?_) (fun g hg h hh x hx => hf g hg h hh x (sub hx).1) (fun x hx => hi x (sub hx).1) (fun g hg h hh x hx y hy => hb g hg h hh x (sub hx).1 y (sub hy).1)
      · rw [h1, h2, hOl]
        exact Nat.dvd_add (Nat.dvd_refl _) h3
      · refine List.mem_filter.2 ⟨hc g hg x (sub hx).1, ?_⟩
        have : act g x ∉ O := fun hm => by
          obtain ⟨h, hh, e⟩ := List.mem_map.1 hm
          obtain ⟨q, hq, e2⟩ := hb g hg h hh x (sub hx).1 r hr e.symm
          exact (sub hx).2 (List.mem_map.2 ⟨q, hq, e2.symm⟩)
        simpa using this
structure BRel (n : Nat) (A : Nat → Nat) (s s' : List Int × List Int) : Prop where
  l0 : s.1.length = n
  l1 : s'.1.length = n
  lo : s'.2.length = s.2.length
  od : ∀ j : Nat, j < s.2.length → ∃ a : Nat, a < n ∧ rd s.2 (j : Int) = (a : Int) ∧ rd s'.2 (j : Int) = (A a : Int)
  nm : ∀ d : Nat, d < n → rd s'.1 (A d : Int) = rd s.1 (d : Int)
theorem BRel.step {n : Nat} {A : Nat → Nat} (hA : ∀ i, i < n → A i < n) (hJ : ∀ i j, i < n → j < n → A i = A j → i = j) {s s' : List Int × List Int} (h : BRel n A s s') {d : Nat} (hd : d < n) : BRel n A (bStep s (d : Int)) (bStep s' (A d : Int)) := by
  unfold bStep
  rw [h.nm d hd]
  by_cases w : rd s.1 (d : Int) < 0
  · rw [if_pos w, if_pos w]
    refine ⟨by simp [h.l0], by simp [h.l1], by simp [h.lo], fun j hj => ?_, fun e he => ?_⟩
    · simp only [List.length_append, List.length_singleton] at hj
      by_cases e : j = s.2.length
      · subst e
        refine ⟨d, hd, rd_snoc_eq' _ _, ?_⟩
        rw [← h.lo]; exact rd_snoc_eq' _ _
      · obtain ⟨a, a1, a2, a3⟩ := h.od j (by omega)
        exact ⟨a, a1, by rw [rd_snoc_lt' _ _ _ (by omega)]; exact a2, by rw [rd_snoc_lt' _ _ _ (by rw [h.lo]; omega)]; exact a3⟩
    · simp only [Int.toNat_natCast]
      rw [h.lo]
      by_cases e2 : d = e
      · subst e2
        rw [rd_set_self _ _ _ (by rw [h.l1]; exact hA d hd), rd_set_self _ _ _ (by rw [h.l0]; exact hd)]
      · rw [rd_set_ne _ _ _ _ (fun w2 => e2 (hJ d e hd he w2)), rd_set_ne _ _ _ _ e2]
        exact h.nm e he
  · rw [if_neg w, if_neg w]; exact h
theorem BRel.round {n : Nat} {A : Nat → Nat} (hA : ∀ i, i < n → A i < n) (hJ : ∀ i j, i < n → j < n → A i = A j → i = j) {t f : List Int} (ht : Pts n t) (hf : Pts n f) (hT : ∀ i, i < n → fn t (A i) = A (fn t i)) (hF : ∀ i, i < n → fn f (A i) = A (fn f i)) {s s' : List Int × List Int} (h : BRel n A s s') {i : Nat} (hi : i < s.2.length) : BRel n A (bRound t f s i) (bRound t f s' i) := by
  obtain ⟨a, a1, a2, a3⟩ := h.od i hi
  unfold bRound
  rw [a2, a3]
  have e1 : ∀ {x : List Int}, Pts n x → ∀ {j : Nat}, j < n → rd x (j : Int) = (fn x j : Int) := fun {x} hx {j} hj => by
    have := hx.2 j hj; unfold fn; omega
  rw [e1 ht a1, e1 ht (hA a a1), e1 hf a1, e1 hf (hA a a1), hT a a1, hF a a1]
  exact (h.step hA hJ (ht.fn a1).2).step hA hJ (hf.fn a1).2
theorem BRel.run {n : Nat} {A : Nat → Nat} (hA : ∀ i, i < n → A i < n) (hJ : ∀ i j, i < n → j < n → A i = A j → i = j) {t f : List Int} (ht : Pts n t) (hf : Pts n f) (hT : ∀ i, i < n → fn t (A i) = A (fn t i)) (hF : ∀ i, i < n → fn f (A i) = A (fn f i)) : ∀ (m i : Nat) (s s' : List Int × List Int), BRel n A s s' → BRel n A (bRun t f m i s) (bRun t f m i s') := by
  intro m
  induction m with
  | zero => intro i s s' h; exact h
  | succ m ih =>
    intro i s s' h
    unfold bRun
    by_cases w : i < s.2.length
    · rw [if_pos w, if_pos (by rw [h.lo]; exact w)]
      exact ih (i + 1) _ _ (h.round hA hJ ht hf hT hF w)
    · rw [if_neg w, if_neg (by rw [h.lo]; exact w)]
      exact h
theorem bnam_equi {n : Nat} {A : Nat → Nat} (hA : ∀ i, i < n → A i < n) (hJ : ∀ i j, i < n → j < n → A i = A j → i = j) {t f : List Int} (ht : Pts n t) (hf : Pts n f) (hT : ∀ i, i < n → fn t (A i) = A (fn t i)) (hF : ∀ i, i < n → fn f (A i) = A (fn f i)) {root : Nat} (hr : root < n) {d : Nat} (hd : d < n) : rd (bnamL n t f (A root)) (A d : Int) = rd (bnamL n t f root) (d : Int) := by
  have h0 : BRel n A (bStart n root) (bStart n (A root)) := by
    refine ⟨by simp [bStart], by simp [bStart], rfl, fun j hj => ?_, fun e he => ?_⟩
    · obtain rfl : j = 0 := by simpa [bStart] using hj
      exact ⟨root, hr, by rw [rd_nat _ _ (by simp [bStart])]; rfl, by rw [rd_nat _ _ (by simp [bStart])]; rfl⟩
    · show rd ((List.replicate n (-1)).set (A root) 0) (A e : Int) = rd ((List.replicate n (-1)).set root 0) (e : Int)
      by_cases w : root = e
      · subst w
        rw [rd_set_self _ _ _ (by simp; exact hA root hr), rd_set_self _ _ _ (by simp; exact hr)]
      · rw [rd_set_ne _ _ _ _ (fun w2 => w (hJ root e hr he w2)), rd_set_ne _ _ _ _ w, rd_rep _ _ _ (hA e he), rd_rep _ _ _ he]
  exact (h0.run hA hJ ht hf hT hF (n + 1) 0).nm d hd
theorem conj_equi {n : Nat} {A : Nat → Nat} (hA : ∀ i, i < n → A i < n) {b b' x : List Int} (hb : PermL n b) (hb' : PermL n b') (hx : PermL n x) (hX : ∀ i, i < n → fn x (A i) = A (fn x i)) (e : ∀ d, d < n → fn b' (A d) = fn b d) : mulL (mulL (backL b') x) b' = mulL (mulL (backL b) x) b := by
  have hv : ∀ {b : List Int}, PermL n b → ∀ j, j < n → fn (mulL (mulL (backL b) x) b) j = fn b (fn x (bck n (fn b) j)) := fun {b} hb j hj => by
    have hbk := backL_perm hb
    have hm := mulL_perm hbk hx
    rw [fn_mulL hm.1 hj, fn_mulL hbk.1 hj, fn_backL hb hj]
  refine pts_ext (mulL_perm (mulL_perm (backL_perm hb') hx) hb').1 (mulL_perm (mulL_perm (backL_perm hb) hx) hb).1 (fun j hj => ?_)
  rw [hv hb' j hj, hv hb j hj]
  have hd := hb.perm.gl j hj
  have h1 : bck n (fn b') j = A (bck n (fn b) j) := by
    have h2 := hb'.perm.gf (A (bck n (fn b) j)) (hA _ hd)
    rw [e _ hd, hb.perm.fg j hj] at h2
    exact h2
  rw [h1, hX _ hd, e _ (hx.1.fn hd).2]
theorem MOK.closed {t f : List Int} (hM : MOK t f) {P : Nat → Prop} (pT : ∀ d, d < t.length → P d → P (fn t d)) (pF : ∀ d, d < t.length → P d → P (fn f d)) {root : Nat} (hr : root < t.length) (h0 : P root) : ∀ d, d < t.length → P d := by
  have hT := hM.permT
  have hF := hM.permF
  intro d hd
  have inv : Inv2 t.length t f (fun x => ind (P x)) := by
    intro i hi
    have ti : P (fn t i) ↔ P i := ⟨fun w => fwd_closed hT.perm (P := P) pT hi w, fun w => pT i hi w⟩
    have fi : P (fn f i) ↔ P i := ⟨fun w => fwd_closed hF.perm (P := P) pF hi w, fun w => pF i hi w⟩
    exact ⟨congrArg (fun z : Nat => (z : Int)) (ind_iff ti), congrArg (fun z : Nat => (z : Int)) (ind_iff fi)⟩
  have zero : ∀ x : Nat, x < t.length → Con t.length t f x 0 := by
    intro x hx
    have h0 := hM.2.2.2.2 x hx
    rw [rd_orbL _ _ _ hx] at h0
    have h1 := (low_spec (a := t) (b := f) hx).2.1
    rw [show low t.length t f x = 0 by omega] at h1
    exact h1
  have hc := ((zero d hd).trans (zero root hr).symm) _ inv
  exact of_ind (Int.ofNat_inj.1 hc.symm) h0
def Cm (κ : Nat) (v : List (List Int)) (p : List Int) : Prop := PermL κ p ∧ ∀ e : Nat, e < v.length → ∀ i, i < κ → fn (rdL v (e : Int)) (fn p i) = fn p (fn (rdL v (e : Int)) i)
theorem permsN_perm (n : Nat) (h0 : 1 ≤ n) (h1 : n ≤ 4) : ∀ p ∈ permsN n, PermL n p := by
  intro p hp
  have ho := permsN_ok n h0 h1 p hp
  refine ⟨⟨ho.1, fun i hi => ho.rd i (by rw [ho.1]; exact hi)⟩, ?_⟩
  have key : ∀ p ∈ permsN n, ∀ i, i < n → ∀ j, j < n → fn p i = fn p j → i = j := by
    obtain rfl | rfl | rfl | rfl : n = 1 ∨ n = 2 ∨ n = 3 ∨ n = 4 := by omega
    all_goals decide +kernel
  exact fun i j hi hj e => key p hp i hi j hj e
theorem permsN_nodup (n : Nat) (h0 : 1 ≤ n) (h1 : n ≤ 4) : (permsN n).Nodup := by
  obtain rfl | rfl | rfl | rfl : n = 1 ∨ n = 2 ∨ n = 3 ∨ n = 4 := by omega
  all_goals decide +kernel
theorem perms4 : ∀ a b c d : Fin 4, a ≠ b → a ≠ c → a ≠ d → b ≠ c → b ≠ d → c ≠ d → [(a.val : Int), b.val, c.val, d.val] ∈ permsN 4 := by decide +kernel
theorem perms3 : ∀ a b c : Fin 3, a ≠ b → a ≠ c → b ≠ c → [(a.val : Int), b.val, c.val] ∈ permsN 3 := by decide +kernel
theorem perms2 : ∀ a b : Fin 2, a ≠ b → [(a.val : Int), b.val] ∈ permsN 2 := by decide +kernel
theorem perms1 : ∀ a : Fin 1, [(a.val : Int)] ∈ permsN 1 := by decide +kernel
theorem permsN_all (n : Nat) (h0 : 1 ≤ n) (h1 : n ≤ 4) (p : List Int) (hp : PermL n p) : p ∈ permsN n := by
  have hl := hp.1.1
  have at_ : ∀ i, i < n → ∃ a : Fin n, rd p (i : Int) = (a.val : Int) ∧ fn p i = a.val := fun i hi => by
    have h := hp.1.2 i hi
    exact ⟨⟨fn p i, (hp.1.fn hi).2⟩, (hp.1.fn hi).1, rfl⟩
  have ne : ∀ {i j : Nat} {a b : Fin n}, i < n → j < n → i ≠ j → fn p i = a.val → fn p j = b.val → a ≠ b := fun hi hj w ea eb e => w (hp.2 _ _ hi hj (by rw [ea, eb, e]))
  obtain rfl | rfl | rfl | rfl : n = 1 ∨ n = 2 ∨ n = 3 ∨ n = 4 := by omega
  · obtain ⟨a, a1, a2⟩ := at_ 0 (by omega)
    have : p = [(a.val : Int)] := list_ext_rd (by simpa using hl) (fun i hi => by
      obtain rfl : i = 0 := by omega
      exact a1)
    rw [this]; exact perms1 a
  · obtain ⟨a, a1, a2⟩ := at_ 0 (by omega)
    obtain ⟨b, b1, b2⟩ := at_ 1 (by omega)
    have : p = [(a.val : Int), b.val] := list_ext_rd (by simpa using hl) (fun i hi => by
      obtain rfl | rfl : i = 0 ∨ i = 1 := by omega
      · exact a1
      · exact b1)
    rw [this]; exact perms2 a b (ne (by omega) (by omega) (by omega) a2 b2)
  · obtain ⟨a, a1, a2⟩ := at_ 0 (by omega)
    obtain ⟨b, b1, b2⟩ := at_ 1 (by omega)
    obtain ⟨c, c1, c2⟩ := at_ 2 (by omega)
    have : p = [(a.val : Int), b.val, c.val] := list_ext_rd (by simpa using hl) (fun i hi => by
      obtain rfl | rfl | rfl : i = 0 ∨ i = 1 ∨ i = 2 := by omega
      · exact a1
      · exact b1
      · exact c1)
    rw [this]; exact perms3 a b c (ne (by omega) (by omega) (by omega) a2 b2) (ne (by omega) (by omega) (by omega) a2 c2) (ne (by omega) (by omega) (by omega) b2 c2)
  · obtain ⟨a, a1, a2⟩ := at_ 0 (by omega)
    obtain ⟨b, b1, b2⟩ := at_ 1 (by omega)
    obtain ⟨c, c1, c2⟩ := at_ 2 (by omega)
    obtain ⟨d, d1, d2⟩ := at_ 3 (by omega)
    have : p = [(a.val : Int), b.val, c.val, d.val] := list_ext_rd (by simpa using hl) (fun i hi => by
      obtain rfl | rfl | rfl | rfl : i = 0 ∨ i = 1 ∨ i = 2 ∨ i = 3 := by omega
      · exact a1
      · exact b1
      · exact c1
      · exact d1)
    rw [this]
    exact perms4 a b c d (ne (by omega) (by omega) (by omega) a2 b2) (ne (by omega) (by omega) (by omega) a2 c2) (ne (by omega) (by omega) (by omega) a2 d2) (ne (by omega) (by omega) (by omega) b2 c2) (ne (by omega) (by omega) (by omega) b2 d2) (ne (by omega) (by omega) (by omega) c2 d2)
noncomputable def deckC (κ : Nat) (v : List (List Int)) : List (List Int) := (permsN κ).filter (fun p => com p v)
theorem cntL_filter (v : List (List Int)) : ∀ ps : List (List Int), cntL v ps = ((ps.filter (fun p => com p v)).length : Int)
  | [] => rfl
  | p :: r => by
    simp only [cntL]
    rw [cntL_filter v r]
    by_cases h : com p v = true
    · rw [if_pos h, List.filter_cons_of_pos (p := fun p => com p v) h]; simp only [List.length_cons]; omega
    · rw [if_neg h, List.filter_cons_of_neg (p := fun p => com p v) h]; omega
theorem deckC_iff {κ n : Nat} {t f : List Int} {v : List (List Int)} (h : VN n κ t f v) (h4 : κ ≤ 4) {p : List Int} : p ∈ deckC κ v ↔ Cm κ v p := by
  unfold deckC
  rw [List.mem_filter]
  constructor
  · rintro ⟨h1, h2⟩
    have hp := permsN_perm κ h.k0 h4 p h1
    refine ⟨hp, fun e he => ?_⟩
    exact (mul_comm_iff hp (h.vp e he)).1 (dec_iff.1 h2 e he)
  · rintro ⟨hp, hc⟩
    exact ⟨permsN_all κ h.k0 h4 p hp, dec_t (fun e he => (mul_comm_iff hp (h.vp e he)).2 (hc e he))⟩
theorem Cm.quot {κ n : Nat} {t f : List Int} {v : List (List Int)} (h : VN n κ t f v) {p q : List Int} (hp : Cm κ v p) (hq : Cm κ v q) : Cm κ v (mulL q (backL p)) ∧ ∀ i, i < κ → fn p (fn (mulL q (backL p)) i) = fn q i := by
  have hr := mulL_perm hq.1 (backL_perm hp.1)
  have val : ∀ i, i < κ → fn p (fn (mulL q (backL p)) i) = fn q i := fun i hi => by
    rw [fn_mulL hq.1.1 hi, fn_backL hp.1 (hq.1.1.fn hi).2, hp.1.perm.fg _ (hq.1.1.fn hi).2]
  refine ⟨⟨hr, fun e he i hi => ?_⟩, val⟩
  have hx := h.vp e he
  have hri := (hr.1.fn hi).2
  have hxi := (hx.1.fn hi).2
  refine hp.1.2 _ _ (hx.1.fn hri).2 (hr.1.fn hxi).2 ?_
  rw [val _ hxi, ← hp.2 e he _ hri, val i hi, hq.2 e he i hi]
theorem Cm.one {κ : Nat} {v : List (List Int)} (hv : ∀ e : Nat, e < v.length → PermL κ (rdL v (e : Int))) (h : PermL κ (idL κ)) : Cm κ v (idL κ) ∧ ∀ i, i < κ → fn (idL κ) i = i := by
  have id_ : ∀ i, i < κ → fn (idL κ) i = i := fun i hi => by unfold fn; rw [rd_idL κ i hi]; rfl
  refine ⟨⟨h, fun e he i hi => ?_⟩, id_⟩
  rw [id_ i hi, id_ _ ((hv e he).1.fn hi).2]
theorem deck_eq {κ : Nat} {t f : List Int} {v : List (List Int)} (hM : MOK (covT t.length κ t (κ * t.length)) (covF κ f v (κ * t.length))) (h : VN t.length κ t f v) {p q : List Int} (hp : Cm κ v p) (hq : Cm κ v q) {d s : Nat} (hd : d < t.length) (hs : s < κ) (e : fn p s = fn q s) : p = q := by
  obtain ⟨c1, c2⟩ := shift_comm h hp.1
  obtain ⟨e1, e2⟩ := shift_comm h hq.1
  have c2 := c2.2 (fun x hx => (mul_comm_iff hp.1 (h.vp x hx)).2 (hp.2 x hx))
  have e2 := e2.2 (fun x hx => (mul_comm_iff hq.1 (h.vp x hx)).2 (hq.2 x hx))
  have sh : ∀ {b : List Int} {d s : Nat}, d < t.length → s < κ → fn (shL κ b (κ * t.length)) (κ * d + s) = κ * d + fn b s := fun {b d s} hd hs => by
    obtain ⟨m1, m2⟩ := sheet_num (d := d) hs
    rw [fn_shL _ _ _ _ (sheet_lt hd hs), m1, m2]
  have hl : (covT t.length κ t (κ * t.length)).length = κ * t.length := covT_length _ _ _ _
  have all := hM.closed (P := fun x => fn (shL κ p (κ * t.length)) x = fn (shL κ q (κ * t.length)) x)
    (fun x hx w => by rw [hl] at hx; rw [← c1 x hx, ← e1 x hx, w])
    (fun x hx w => by rw [hl] at hx; rw [← c2 x hx, ← e2 x hx, w])
    (root := κ * d + s) (by rw [hl]; exact sheet_lt hd hs) (by rw [sh hd hs, sh hd hs, e])
  refine pts_ext hp.1.1 hq.1.1 (fun i hi => ?_)
  have h0 : 0 < t.length := h.n0
  have := all (κ * 0 + i) (by rw [hl]; exact sheet_lt h0 hi)
  rw [sh h0 hi, sh h0 hi] at this
  omega
theorem deck_sheets {κ : Nat} {t f : List Int} {v : List (List Int)} (hM : MOK (covT t.length κ t (κ * t.length)) (covF κ f v (κ * t.length))) (h : VN t.length κ t f v) (h4 : κ ≤ 4) : (deckC κ v).length ∣ κ := by
  have hC : ∀ {p}, p ∈ deckC κ v ↔ Cm κ v p := deckC_iff h h4
  have one := Cm.one (κ := κ) (v := v) h.vp (by have := (idL_pok h.k0 (by omega)).2; rwa [show (idL κ).length = κ by unfold idL; simp] at this)
  have := free_div (C := deckC κ v) ((permsN_nodup κ h.k0 h4).filter _) (fun p s => fn p s) κ (List.range κ) (by simp) List.nodup_range
    (fun p hp s hs => List.mem_range.2 ((hC.1 hp).1.1.fn (List.mem_range.1 hs)).2)
    (fun p hp q hq s hs e => deck_eq hM h (hC.1 hp) (hC.1 hq) (d := 0) h.n0 (List.mem_range.1 hs) e)
    (fun s hs => ⟨idL κ, hC.2 one.1, one.2 s (List.mem_range.1 hs)⟩)
    (fun p hp q hq s hs s' hs' e => by
      obtain ⟨r1, r2⟩ := Cm.quot h (hC.1 hp) (hC.1 hq)
      refine ⟨mulL q (backL p), hC.2 r1, ?_⟩
      have hs2 := List.mem_range.1 hs'
      refine (hC.1 hp).1.2 _ _ (List.mem_range.1 hs) (r1.1.1.fn hs2).2 ?_
      rw [r2 _ hs2]; exact e)
  rwa [List.length_range] at this
noncomputable def cjB (b x : List Int) : List Int := mulL (mulL (backL b) x) b
noncomputable def rootB (t f : List Int) (r : Nat) : Bool := dec (cjB (bnamL t.length t f r) t = cjB (bnamL t.length t f 0) t ∧ cjB (bnamL t.length t f r) f = cjB (bnamL t.length t f 0) f)
noncomputable def rootsL (t f : List Int) (i : Nat) : List Nat := (List.range i).filter (rootB t f)
theorem rootsL_len (t f : List Int) (i : Nat) : (rootsL t f i).length ≤ i := by
  unfold rootsL
  exact Nat.le_trans (List.length_filter_le _ _) (by simp)
theorem deck_roots {κ : Nat} {t f : List Int} {v : List (List Int)} (hM : MOK (covT t.length κ t (κ * t.length)) (covF κ f v (κ * t.length))) (h : VN t.length κ t f v) (h4 : κ ≤ 4) : (deckC κ v).length ∣ (rootsL (covT t.length κ t (κ * t.length)) (covF κ f v (κ * t.length)) (κ * t.length)).length := by
  have hC : ∀ {p}, p ∈ deckC κ v ↔ Cm κ v p := deckC_iff h h4
  have one := Cm.one (κ := κ) (v := v) h.vp (by have := (idL_pok h.k0 (by omega)).2; rwa [show (idL κ).length = κ by unfold idL; simp] at this)
  have hl : (covT t.length κ t (κ * t.length)).length = κ * t.length := covT_length _ _ _ _
  have hP := cov_perm h
  have hTp := hM.permT
  have hFp := hM.permF
  rw [hl] at hTp hFp
  have sh : ∀ {b : List Int} {x : Nat}, x < κ * t.length → fn (shL κ b (κ * t.length)) x = κ * (x / κ) + fn b (x % κ) := fun {b x} hx => fn_shL _ _ _ _ hx
  have sp : ∀ {b : List Int}, Cm κ v b → PermL (κ * t.length) (shL κ b (κ * t.length)) := fun {b} hb => shL_perm h.k0 hb.1
  have memR : ∀ {x}, x ∈ rootsL (covT t.length κ t (κ * t.length)) (covF κ f v (κ * t.length)) (κ * t.length) ↔ x < κ * t.length ∧ rootB (covT t.length κ t (κ * t.length)) (covF κ f v (κ * t.length)) x = true := fun {x} => by
    unfold rootsL; rw [List.mem_filter, List.mem_range]
  have moved : ∀ {p}, Cm κ v p → ∀ x, x < κ * t.length → rootB (covT t.length κ t (κ * t.length)) (covF κ f v (κ * t.length)) x = true → rootB (covT t.length κ t (κ * t.length)) (covF κ f v (κ * t.length)) (fn (shL κ p (κ * t.length)) x) = true := by
    intro p hp x hx hr
    have hs := sp hp
    obtain ⟨c1, c2⟩ := shift_comm h hp.1
    have c2 := c2.2 (fun x hx => (mul_comm_iff hp.1 (h.vp x hx)).2 (hp.2 x hx))
    have hA : ∀ i, i < κ * t.length → fn (shL κ p (κ * t.length)) i < κ * t.length := fun i hi => (hs.1.fn hi).2
    have hb := (names_perm hM (root := x) (by rw [hl]; exact hx)).1
    have hb' := (names_perm hM (root := fn (shL κ p (κ * t.length)) x) (by rw [hl]; exact hA x hx)).1
    rw [hl] at hb hb'
    have e : ∀ d, d < κ * t.length → fn (bnamL (κ * t.length) (covT t.length κ t (κ * t.length)) (covF κ f v (κ * t.length)) (fn (shL κ p (κ * t.length)) x)) (fn (shL κ p (κ * t.length)) d) = fn (bnamL (κ * t.length) (covT t.length κ t (κ * t.length)) (covF κ f v (κ * t.length)) x) d := fun d hd => by
      have := bnam_equi (A := fun i => fn (shL κ p (κ * t.length)) i) hA hs.2 hP.1 hP.2.1 c1 c2 hx hd
      unfold fn at this ⊢
      rw [this]
    have k1 := conj_equi (A := fun i => fn (shL κ p (κ * t.length)) i) hA hb hb' hTp c1 e
    have k2 := conj_equi (A := fun i => fn (shL κ p (κ * t.length)) i) hA hb hb' hFp c2 e
    have hr := dec_iff.1 hr
    refine dec_t ?_
    unfold cjB at hr ⊢
    rw [hl] at hr ⊢
    rw [k1, k2]
    exact hr
  refine free_div (C := deckC κ v) ((permsN_nodup κ h.k0 h4).filter _) (fun p x => fn (shL κ p (κ * t.length)) x) (κ * t.length) _ (rootsL_len _ _ _) (List.nodup_range.filter _) ?_ ?_ ?_ ?_
  · intro p hp x hx
    obtain ⟨x1, x2⟩ := memR.1 hx
    exact memR.2 ⟨((sp (hC.1 hp)).1.fn x1).2, moved (hC.1 hp) x x1 x2⟩
  · intro p hp q hq x hx e
    obtain ⟨x1, x2⟩ := memR.1 hx
    obtain ⟨s1, s2, s3⟩ := sheet_of h.k0 x1
    rw [sh x1, sh x1] at e
    exact deck_eq hM h (hC.1 hp) (hC.1 hq) (d := x / κ) s1 s2 (by omega)
  · intro x hx
    obtain ⟨x1, x2⟩ := memR.1 hx
    obtain ⟨s1, s2, s3⟩ := sheet_of h.k0 x1
    refine ⟨idL κ, hC.2 one.1, ?_⟩
    show fn (shL κ (idL κ) (κ * t.length)) x = x
    rw [sh x1, one.2 _ s2, s3]
  · intro p hp q hq x hx y hy e
    obtain ⟨x1, x2⟩ := memR.1 hx
    obtain ⟨y1, y2⟩ := memR.1 hy
    obtain ⟨s1, s2, s3⟩ := sheet_of h.k0 x1
    obtain ⟨u1, u2, u3⟩ := sheet_of h.k0 y1
    obtain ⟨r1, r2⟩ := Cm.quot h (hC.1 hp) (hC.1 hq)
    refine ⟨mulL q (backL p), hC.2 r1, ?_⟩
    have e : fn (shL κ p (κ * t.length)) x = fn (shL κ q (κ * t.length)) y := e
    rw [sh x1, sh y1] at e
    have a1 := ((hC.1 hp).1.1.fn s2).2
    have a2 := ((hC.1 hq).1.1.fn u2).2
    obtain ⟨m1, m2⟩ := sheet_num (d := x / κ) a1
    obtain ⟨m3, m4⟩ := sheet_num (d := y / κ) a2
    rw [e] at m1 m2
    have q1 : x / κ = y / κ := by rw [← m1, m3]
    have q2 : fn p (x % κ) = fn q (y % κ) := by rw [← m2, m4]
    have q3 : x % κ = fn (mulL q (backL p)) (y % κ) := (hC.1 hp).1.2 _ _ s2 (r1.1.1.fn u2).2 (by rw [r2 _ u2]; exact q2)
    show x = fn (shL κ (mulL q (backL p)) (κ * t.length)) y
    rw [sh y1, ← q3, ← q1, s3]

end Go.Proofs.Ytmegggomhjgehaa.M
