import Derived.Test.YtmcgkckdnelcdaaVMore
set_option linter.unusedVariables false
set_option linter.unusedSimpArgs false
namespace Go.Proofs.Ytmcgkckdnelcdaa.M
open Go.RowKit Go.Proofs.YtmcgkckdnelcdaaW.PrintWords

theorem Ev.ite {α : Type} {c : Prop} [Decidable c] {A B : Nat → Option α} {r : α} (hp : c → Ev A r) (hn : ¬ c → Ev B r) : Ev (fun k => if c then A k else B k) r := by
  by_cases h : c
  · simp only [if_pos h]; exact hp h
  · simp only [if_neg h]; exact hn h
theorem Ev.pos {α : Type} {c : Prop} [Decidable c] {A B : Nat → Option α} {r : α} (h : c) (hp : Ev A r) : Ev (fun k => if c then A k else B k) r := Ev.ite (fun _ => hp) (fun n => absurd h n)
theorem Ev.neg {α : Type} {c : Prop} [Decidable c] {A B : Nat → Option α} {r : α} (h : ¬ c) (hn : Ev B r) : Ev (fun k => if c then A k else B k) r := Ev.ite (fun p => absurd p h) (fun _ => hn)
theorem Ev.const {α : Type} {x : Option α} {r : α} (h : x = some r) : Ev (fun _ => x) r := ⟨0, fun _ _ => h⟩
theorem Ev.bindc {α β : Type} {x : Option α} {f : Nat → α → Option β} {a : α} {r : β} (h : x = some a) (k : Ev (fun n => f n a) r) : Ev (fun n => x.bind (f n)) r := Ev.bind (Ev.const h) k
theorem Ev.to {α : Type} {g : Nat → Option α} {r r' : α} (h : Ev g r) (e : r = r') : Ev g r' := e ▸ h
theorem wrap64_id {x : Int} (h0 : -9223372036854775808 ≤ x) (h1 : x ≤ 9223372036854775807) : wrap64 x = x := by unfold wrap64; omega
def slet (x : Int) : Int := if x ≥ 97 ∧ x < 102 then x - 97 else if x ≥ 65 ∧ x < 70 then x - 65 else -1
theorem slet_range (x : Int) : -1 ≤ slet x ∧ slet x < 5 := by unfold slet; split <;> (try split) <;> omega
def wl (s : ByteArray) (i : Nat) : Int := slet (bt s (i : Int))
def wcnt (s : ByteArray) (c : Int) : Nat → Nat
  | 0 => 0
  | k + 1 => wcnt s c k + (if wl s k = c then 1 else 0)
def WOK (s : ByteArray) : Prop := 0 < s.size ∧ ∀ i, i < s.size → 0 ≤ wl s i ∧ wcnt s (wl s i) s.size = 2
instance (s : ByteArray) : Decidable (WOK s) := by unfold WOK; infer_instance
theorem wcnt_le (s : ByteArray) (c : Int) : ∀ k, wcnt s c k ≤ k
  | 0 => Nat.le_refl _
  | k + 1 => by
    have := wcnt_le s c k
    simp only [wcnt]; split <;> omega
theorem wcnt_sum (s : ByteArray) : ∀ k, (∀ i, i < k → 0 ≤ wl s i) → wcnt s 0 k + wcnt s 1 k + wcnt s 2 k + wcnt s 3 k + wcnt s 4 k = k := by
  intro k
  induction k with
  | zero => intro _; rfl
  | succ k ih =>
    intro h
    have := ih (fun i hi => h i (by omega))
    have hr := slet_range (bt s (k : Int))
    have h0 := h k (by omega)
    have hc : wl s k = 0 ∨ wl s k = 1 ∨ wl s k = 2 ∨ wl s k = 3 ∨ wl s k = 4 := by unfold wl at *; omega
    simp only [wcnt]
    rcases hc with e | e | e | e | e <;> rw [e] <;> simp <;> omega
theorem WOK.size {s : ByteArray} (h : WOK s) : 2 ≤ s.size ∧ s.size ≤ 10 := by
  have hsum := wcnt_sum s s.size (fun i hi => (h.2 i hi).1)
  have hp := h.1
  have hc : ∀ c, wcnt s c s.size ≤ 2 := by
    intro c
    by_cases hz : wcnt s c s.size = 0
    · omega
    · obtain ⟨i, hi, hl⟩ : ∃ i, i < s.size ∧ wl s i = c := by
        refine Classical.byContradiction fun hno => hz ?_
        have : ∀ k, k ≤ s.size → wcnt s c k = 0 := by
          intro k
          induction k with
          | zero => intro _; rfl
          | succ k ih => intro hk; simp only [wcnt]; rw [ih (by omega), if_neg (fun e => hno ⟨k, by omega, e⟩)]
        exact this s.size (Nat.le_refl _)
      rw [← hl]; exact Nat.le_of_eq (h.2 i hi).2
  have c0 := hc 0
  have c1 := hc 1
  have c2 := hc 2
  have c3 := hc 3
  have c4 := hc 4
  have e := (h.2 0 hp).2
  have := wcnt_le s (wl s 0) s.size
  omega
theorem rd_nat (l : List Int) (i : Nat) (h : i < l.length) : rd l (i : Int) = l[i] := by
  simp [rd, List.getD_eq_getElem?_getD, h]
theorem rd_get? (l : List Int) (i : Nat) (x : Int) (h : l[i]? = some x) : rd l (i : Int) = x := by
  simp [rd, List.getD_eq_getElem?_getD, h]
theorem toNat_nat (i : Nat) : ((i : Int) : Int).toNat = i := rfl
theorem list_ext_rd {l m : List Int} (h : l.length = m.length) (he : ∀ i : Nat, i < l.length → rd l (i : Int) = rd m (i : Int)) : l = m := by
  refine List.ext_getElem h (fun i h1 h2 => ?_)
  have := he i h1
  rwa [rd_nat l i h1, rd_nat m i h2] at this
def fn (l : List Int) (i : Nat) : Nat := (rd l (i : Int)).toNat
def Pts (n : Nat) (l : List Int) : Prop := l.length = n ∧ ∀ i, i < n → 0 ≤ rd l (i : Int) ∧ rd l (i : Int) < n
theorem Pts.fn {n : Nat} {l : List Int} (h : Pts n l) {i : Nat} (hi : i < n) : rd l (i : Int) = (fn l i : Int) ∧ fn l i < n := by
  have := h.2 i hi
  unfold M.fn
  omega
def Inv2 (n : Nat) (a b : List Int) (c : Nat → Int) : Prop := ∀ i, i < n → c (fn a i) = c i ∧ c (fn b i) = c i
def Con (n : Nat) (a b : List Int) (i j : Nat) : Prop := ∀ c, Inv2 n a b c → c i = c j
theorem Con.refl {n : Nat} {a b : List Int} (i : Nat) : Con n a b i i := fun _ _ => rfl
theorem Con.symm {n : Nat} {a b : List Int} {i j : Nat} (h : Con n a b i j) : Con n a b j i := fun c hc => (h c hc).symm
theorem Con.trans {n : Nat} {a b : List Int} {i j k : Nat} (h : Con n a b i j) (h' : Con n a b j k) : Con n a b i k := fun c hc => (h c hc).trans (h' c hc)
theorem Con.fa {n : Nat} {a b : List Int} {i : Nat} (h : i < n) : Con n a b i (fn a i) := fun c hc => (hc i h).1.symm
theorem Con.fb {n : Nat} {a b : List Int} {i : Nat} (h : i < n) : Con n a b i (fn b i) := fun c hc => (hc i h).2.symm
def OrbPre (n : Nat) (a b o : List Int) : Prop := o.length = n ∧ ∀ i, i < n → 0 ≤ rd o (i : Int) ∧ rd o (i : Int) ≤ i ∧ Con n a b i (fn o i)
def IsOrb (n : Nat) (a b o : List Int) : Prop := OrbPre n a b o ∧ ∀ i, i < n → rd o (fn a i : Int) = rd o (i : Int) ∧ rd o (fn b i : Int) = rd o (i : Int)
theorem IsOrb.inv {n : Nat} {a b o : List Int} (h : IsOrb n a b o) : Inv2 n a b (fun i => rd o (i : Int)) := fun i hi => h.2 i hi
theorem OrbPre.pts {n : Nat} {a b o : List Int} (h : OrbPre n a b o) : Pts n o := ⟨h.1, fun i hi => by have := h.2 i hi; omega⟩
theorem IsOrb.unique {n : Nat} {a b o p : List Int} (h : IsOrb n a b o) (k : IsOrb n a b p) : o = p := by
  have key : ∀ {o p : List Int}, IsOrb n a b o → IsOrb n a b p → ∀ i, i < n → rd o (i : Int) ≤ rd p (i : Int) := by
    intro o p h k i hi
    have e := (k.1.2 i hi).2.2 _ h.inv
    have f := k.1.pts.fn hi
    have g := (h.1.2 (fn p i) f.2).2.1
    rw [e, f.1]; exact g
  refine list_ext_rd (by rw [h.1.1, k.1.1]) (fun i hi => ?_)
  rw [h.1.1] at hi
  have := key h k i hi
  have := key k h i hi
  omega
theorem rd_set_self (o : List Int) (i : Nat) (x : Int) (h : i < o.length) : rd (o.set i x) (i : Int) = x := rd_get? _ _ _ (List.getElem?_set_self h)
theorem rd_set_ne (o : List Int) (i j : Nat) (x : Int) (h : i ≠ j) : rd (o.set i x) (j : Int) = rd o (j : Int) := by
  simp only [rd, List.getD_eq_getElem?_getD, Int.toNat_natCast]
  rw [List.getElem?_set_ne h]
theorem OrbPre.set {n : Nat} {a b o : List Int} (h : OrbPre n a b o) {i j : Nat} (hi : i < n) (hj : j < n) (hc : Con n a b i j) (hle : rd o (j : Int) ≤ i) : OrbPre n a b (o.set i (rd o (j : Int))) := by
  refine ⟨by rw [List.length_set]; exact h.1, fun q hq => ?_⟩
  by_cases e : i = q
  · subst e
    have hz := h.2 j hj
    unfold M.fn
    rw [rd_set_self _ _ _ (by rw [h.1]; exact hi)]
    exact ⟨hz.1, hle, hc.trans hz.2.2⟩
  · have := h.2 q hq
    unfold M.fn at *
    rw [rd_set_ne _ _ _ _ e]; exact this
theorem OrbPre.put {n : Nat} {a b o : List Int} (h : OrbPre n a b o) {i : Nat} (hi : i < n) (x : Int) (h0 : 0 ≤ x) (hle : x ≤ i) (hc : Con n a b i x.toNat) : OrbPre n a b (o.set i x) := by
  refine ⟨by rw [List.length_set]; exact h.1, fun q hq => ?_⟩
  by_cases e : i = q
  · subst e
    unfold M.fn
    rw [rd_set_self _ _ _ (by rw [h.1]; exact hi)]
    exact ⟨h0, hle, hc⟩
  · have := h.2 q hq
    unfold M.fn at *
    rw [rd_set_ne _ _ _ _ e]; exact this
def idL (n : Nat) : List Int := (List.range n).map (fun i : Nat => (i : Int))
theorem idL_length (n : Nat) : (idL n).length = n := by simp [idL]
theorem rd_idL (n i : Nat) (h : i < n) : rd (idL n) (i : Int) = i := by
  rw [rd_nat _ _ (by rw [idL_length]; exact h)]; simp [idL]
theorem OrbPre.start (n : Nat) (a b : List Int) : OrbPre n a b (idL n) := by
  refine ⟨idL_length n, fun i hi => ?_⟩
  unfold M.fn
  rw [rd_idL n i hi]
  exact ⟨by omega, Int.le_refl _, Con.refl i⟩
theorem least_of (P : Nat → Prop) : ∀ n, P n → ∃ m, P m ∧ ∀ k, P k → m ≤ k := by
  intro n
  induction n using Nat.strongRecOn with
  | _ n ih =>
    intro h
    by_cases e : ∃ k, k < n ∧ P k
    · obtain ⟨k, hk, hp⟩ := e; exact ih k hk hp
    · exact ⟨n, h, fun k hp => by
        by_cases q : k < n
        · exact absurd ⟨k, q, hp⟩ e
        · omega⟩
noncomputable def low (n : Nat) (a b : List Int) (i : Nat) : Nat := Classical.choose (least_of (fun j => j < n → Con n a b i j) n (fun h => absurd h (Nat.lt_irrefl n)))
theorem low_spec {n : Nat} {a b : List Int} {i : Nat} (hi : i < n) : low n a b i ≤ i ∧ Con n a b i (low n a b i) ∧ ∀ j, j < n → Con n a b i j → low n a b i ≤ j := by
  have h := Classical.choose_spec (least_of (fun j => j < n → Con n a b i j) n (fun h => absurd h (Nat.lt_irrefl n)))
  have h1 : low n a b i ≤ i := h.2 i (fun _ => Con.refl i)
  exact ⟨h1, h.1 (by show low n a b i < n; omega), fun j hj hc => h.2 j (fun _ => hc)⟩
theorem low_con {n : Nat} {a b : List Int} {i j : Nat} (hi : i < n) (hj : j < n) (h : Con n a b i j) : low n a b i = low n a b j := by
  obtain ⟨a1, a2, a3⟩ := low_spec (a := a) (b := b) hi
  obtain ⟨b1, b2, b3⟩ := low_spec (a := a) (b := b) hj
  have := a3 _ (by omega) (h.trans b2)
  have := b3 _ (by omega) (h.symm.trans a2)
  omega
theorem OrbPre.low_le {n : Nat} {a b o : List Int} (h : OrbPre n a b o) {i : Nat} (hi : i < n) : (low n a b i : Int) ≤ rd o (i : Int) := by
  have := h.2 i hi
  have f := h.pts.fn hi
  have := (low_spec (a := a) (b := b) hi).2.2 _ f.2 this.2.2
  omega
noncomputable def orbL (a b : List Int) : List Int := (List.range a.length).map (fun i => (low a.length a b i : Int))
theorem orbL_length (a b : List Int) : (orbL a b).length = a.length := by simp [orbL]
theorem rd_orbL (a b : List Int) (i : Nat) (h : i < a.length) : rd (orbL a b) (i : Int) = low a.length a b i := by
  rw [rd_nat _ _ (by rw [orbL_length]; exact h)]; simp [orbL]
theorem orbL_isOrb {n : Nat} {a b : List Int} (ha : Pts n a) (hb : Pts n b) : IsOrb n a b (orbL a b) := by
  have hn := ha.1
  refine ⟨⟨by rw [orbL_length, hn], fun i hi => ?_⟩, fun i hi => ?_⟩
  · obtain ⟨h1, h2, h3⟩ := low_spec (a := a) (b := b) hi
    unfold M.fn
    rw [rd_orbL a b i (by omega), hn]
    exact ⟨by omega, by omega, h2⟩
  · have fa := (ha.fn hi).2
    have fb := (hb.fn hi).2
    rw [rd_orbL a b _ (by omega), rd_orbL a b _ (by omega), rd_orbL a b _ (by omega), hn, low_con fa hi (Con.fa hi).symm, low_con fb hi (Con.fb hi).symm]
    exact ⟨rfl, rfl⟩
theorem IsOrb.eq {n : Nat} {a b o : List Int} (ha : Pts n a) (hb : Pts n b) (h : IsOrb n a b o) : o = orbL a b := h.unique (orbL_isOrb ha hb)
def cntP (p : Nat → Bool) : Nat → Nat
  | 0 => 0
  | n + 1 => cntP p n + (if p n = true then 1 else 0)
theorem cntP_le (p : Nat → Bool) : ∀ n, cntP p n ≤ n
  | 0 => Nat.le_refl _
  | n + 1 => by have := cntP_le p n; simp only [cntP]; split <;> omega
theorem cntP_mono (p q : Nat → Bool) : ∀ n, (∀ i, i < n → p i = true → q i = true) → cntP p n ≤ cntP q n
  | 0, _ => Nat.le_refl _
  | n + 1, h => by
    have := cntP_mono p q n (fun i hi => h i (by omega))
    have := h n (by omega)
    simp only [cntP]
    by_cases e : p n = true
    · rw [if_pos e, if_pos (this e)]; omega
    · rw [if_neg e]; split <;> omega
theorem cntP_lt (p q : Nat → Bool) : ∀ n, (∀ i, i < n → p i = true → q i = true) → (∃ i, i < n ∧ p i = false ∧ q i = true) → cntP p n < cntP q n
  | 0, _, h => by obtain ⟨i, hi, _⟩ := h; omega
  | n + 1, h, ⟨i, hi, h1, h2⟩ => by
    have hn := h n (by omega)
    simp only [cntP]
    by_cases e : i = n
    · subst e
      have := cntP_mono p q i (fun j hj => h j (by omega))
      rw [h1, h2]; simp; omega
    · have := cntP_lt p q n (fun j hj => h j (by omega)) ⟨i, by omega, h1, h2⟩
      by_cases e2 : p n = true
      · rw [if_pos e2, if_pos (hn e2)]; omega
      · rw [if_neg e2]; split <;> omega
theorem cntP_all (p : Nat → Bool) : ∀ n, cntP p n = n → ∀ i, i < n → p i = true
  | 0, _, i, hi => by omega
  | n + 1, h, i, hi => by
    have hl := cntP_le p n
    simp only [cntP] at h
    by_cases e : p n = true
    · rw [if_pos e] at h
      by_cases ei : i = n
      · subst ei; exact e
      · exact cntP_all p n (by omega) i (by omega)
    · rw [if_neg e] at h; omega
def Rounded (n : Nat) (a b o o' : List Int) : Prop := (∀ i, i < n → rd o' (i : Int) ≤ rd o (i : Int)) ∧ ∀ i, i < n →
  (rd o' (fn a i : Int) ≤ rd o (i : Int) ∧ rd o' (i : Int) ≤ rd o (fn a i : Int)) ∧ (rd o' (fn b i : Int) ≤ rd o (i : Int) ∧ rd o' (i : Int) ≤ rd o (fn b i : Int))
noncomputable def okB (n : Nat) (a b o : List Int) (i : Nat) : Bool := decide (rd o (i : Int) = low n a b i)
theorem round_more {n : Nat} {a b o o' : List Int} (ha : Pts n a) (hb : Pts n b) (h : OrbPre n a b o) (h' : OrbPre n a b o') (hr : Rounded n a b o o') :
    cntP (okB n a b o) n = n ∨ cntP (okB n a b o) n < cntP (okB n a b o') n := by
  have hmono : ∀ i, i < n → okB n a b o i = true → okB n a b o' i = true := by
    intro i hi hk
    unfold okB at *
    have h1 := of_decide_eq_true hk
    have h2 := hr.1 i hi
    have h3 := h'.low_le hi
    exact decide_eq_true (by omega)
  by_cases hall : ∀ i, i < n → okB n a b o i = true
  · left
    have := cntP_mono (fun _ => true) (okB n a b o) n (fun i hi _ => hall i hi)
    have h2 := cntP_le (okB n a b o) n
    have h3 : ∀ m, cntP (fun _ => true) m = m := by
      intro m
      induction m with
      | zero => rfl
      | succ m ih => simp only [cntP, ih]; rfl
    rw [h3] at this; omega
  · right
    refine cntP_lt _ _ n hmono ?_
    refine Classical.byContradiction fun hno => hall ?_
    -- nobody turns good: then goodness is a colouring
    have hst : ∀ i, i < n → okB n a b o i = false → okB n a b o' i = false := by
      intro i hi hf
      cases hq : okB n a b o' i with
      | false => rfl
      | true => exact absurd ⟨i, hi, hf, hq⟩ hno
    have edge : ∀ i j, i < n → j < n → Con n a b i j → rd o' (j : Int) ≤ rd o (i : Int) → okB n a b o i = true → okB n a b o j = true := by
      intro i j hi hj hc hle hk
      cases hq : okB n a b o j with
      | true => rfl
      | false =>
        have h1 := hst j hj hq
        unfold okB at h1 hk
        have h2 := of_decide_eq_true hk
        have h3 := h'.low_le hj
        have h4 := low_con hi hj hc
        exact absurd (show rd o' (j : Int) = low n a b j by omega) (of_decide_eq_false h1)
    have hinv : Inv2 n a b (fun i => if okB n a b o i = true then 1 else 0) := by
      intro i hi
      have fa := (ha.fn hi).2
      have fb := (hb.fn hi).2
      obtain ⟨⟨e1, e2⟩, e3, e4⟩ := hr.2 i hi
      have ea : okB n a b o (fn a i) = true ↔ okB n a b o i = true := ⟨edge _ _ fa hi (Con.fa hi).symm e2, edge _ _ hi fa (Con.fa hi) e1⟩
      have eb : okB n a b o (fn b i) = true ↔ okB n a b o i = true := ⟨edge _ _ fb hi (Con.fb hi).symm e4, edge _ _ hi fb (Con.fb hi) e3⟩
      simp only [ea, eb]
      exact ⟨trivial, trivial⟩
    intro i hi
    obtain ⟨l1, l2, l3⟩ := low_spec (a := a) (b := b) hi
    have hl : low n a b i < n := by omega
    have hgood : okB n a b o (low n a b i) = true := by
      unfold okB
      have h1 := h.2 _ hl
      have h2 := h.low_le hl
      have h3 := low_con hi hl l2
      exact decide_eq_true (by omega)
    have := l2 _ hinv
    simp only [hgood, if_true] at this
    cases hq : okB n a b o i with
    | true => rfl
    | false => rw [hq] at this; simp at this
theorem settled {n : Nat} {a b o : List Int} (ha : Pts n a) (hb : Pts n b) (h : OrbPre n a b o) (hc : cntP (okB n a b o) n = n) : o = orbL a b := by
  refine list_ext_rd (by rw [h.1, orbL_length, ha.1]) (fun i hi => ?_)
  rw [h.1] at hi
  have := of_decide_eq_true (cntP_all _ n hc i hi)
  rw [this, rd_orbL a b i (by rw [ha.1]; exact hi), ha.1]
def InvE (E : Nat → Nat → Prop) (c : Nat → Nat) : Prop := ∀ x y, E x y → c x = c y
def ConE (E : Nat → Nat → Prop) (i j : Nat) : Prop := ∀ c, InvE E c → c i = c j
theorem ConE.refl {E : Nat → Nat → Prop} (i : Nat) : ConE E i i := fun _ _ => rfl
theorem ConE.symm {E : Nat → Nat → Prop} {i j : Nat} (h : ConE E i j) : ConE E j i := fun c hc => (h c hc).symm
theorem ConE.trans {E : Nat → Nat → Prop} {i j k : Nat} (h : ConE E i j) (h' : ConE E j k) : ConE E i k := fun c hc => (h c hc).trans (h' c hc)
theorem ConE.step {E : Nat → Nat → Prop} {i j : Nat} (h : E i j) : ConE E i j := fun c hc => hc i j h
structure PermN (n : Nat) (f g : Nat → Nat) : Prop where
  fl : ∀ i, i < n → f i < n
  gl : ∀ i, i < n → g i < n
  gf : ∀ i, i < n → g (f i) = i
  fg : ∀ i, i < n → f (g i) = i
def EF (n : Nat) (f : Nat → Nat) : Nat → Nat → Prop := fun a b => a < n ∧ b = f a
def itr (f : Nat → Nat) : Nat → Nat → Nat
  | 0, x => x
  | k + 1, x => f (itr f k x)
theorem itr_lt {n : Nat} {f g : Nat → Nat} (h : PermN n f g) {x : Nat} (hx : x < n) : ∀ k, itr f k x < n
  | 0 => hx
  | k + 1 => h.fl _ (itr_lt h hx k)
def SeenAt (n : Nat) (f : Nat → Nat) (i : Nat) (b : List Bool) : Prop := b.length = n ∧ ∀ j, j < n → (rdOf false b (j : Int) = true ↔ ∃ r, r < i ∧ ConE (EF n f) r j)
def SeenIn (n : Nat) (f : Nat → Nat) (i t : Nat) (b : List Bool) : Prop := b.length = n ∧ ∀ j, j < n → (rdOf false b (j : Int) = true ↔ ((∃ r, r < i ∧ ConE (EF n f) r j) ∨ ∃ s, s < t ∧ j = itr f s i))
theorem rdOf_set_self (o : List Bool) (i : Nat) (x : Bool) (h : i < o.length) : rdOf false (o.set i x) (i : Int) = x := by
  simp [rdOf, List.getD_eq_getElem?_getD, List.getElem?_set_self h]
theorem rdOf_set_ne (o : List Bool) (i j : Nat) (x : Bool) (h : i ≠ j) : rdOf false (o.set i x) (j : Int) = rdOf false o (j : Int) := by
  simp only [rdOf, List.getD_eq_getElem?_getD, Int.toNat_natCast]
  rw [List.getElem?_set_ne h]
theorem SeenAt.start (n : Nat) (f : Nat → Nat) : SeenAt n f 0 (List.replicate n false) := by
  refine ⟨List.length_replicate, fun j hj => ?_⟩
  have : rdOf false (List.replicate n false) (j : Int) = false := by simp [rdOf, List.getD_eq_getElem?_getD, List.getElem?_replicate, hj]
  rw [this]
  exact ⟨fun h => absurd h (by simp), fun ⟨r, hr, _⟩ => absurd hr (Nat.not_lt_zero r)⟩
theorem SeenIn.next {n : Nat} {f g : Nat → Nat} (hp : PermN n f g) {i t : Nat} {b : List Bool} (h : SeenIn n f i t b) (hi : i < n) : SeenIn n f i (t + 1) (b.set (itr f t i) true) := by
  refine ⟨by rw [List.length_set]; exact h.1, fun j hj => ?_⟩
  by_cases e : itr f t i = j
  · rw [← e, rdOf_set_self _ _ _ (by rw [h.1]; exact itr_lt hp hi t)]
    exact ⟨fun _ => .inr ⟨t, by omega, rfl⟩, fun _ => rfl⟩
  · rw [rdOf_set_ne _ _ _ _ e, h.2 j hj]
    constructor
    · rintro (k | ⟨s, hs, k⟩)
      · exact .inl k
      · exact .inr ⟨s, by omega, k⟩
    · rintro (k | ⟨s, hs, k⟩)
      · exact .inl k
      · refine .inr ⟨s, ?_, k⟩
        by_cases e2 : s = t
        · subst e2; exact absurd k.symm e
        · omega
def PermL (n : Nat) (p : List Int) : Prop := Pts n p ∧ ∀ i j, i < n → j < n → fn p i = fn p j → i = j
def mulL (a b : List Int) : List Int := a.map (fun x => rd b x)
theorem mulL_length (a b : List Int) : (mulL a b).length = a.length := by simp [mulL]
theorem rd_mulL (a b : List Int) (i : Nat) (h : i < a.length) : rd (mulL a b) (i : Int) = rd b (rd a (i : Int)) := by
  rw [rd_nat _ _ (by rw [mulL_length]; exact h), rd_nat a i h]; simp [mulL]
noncomputable def dec (P : Prop) : Bool := @decide P (Classical.propDecidable P)
theorem dec_iff {P : Prop} : dec P = true ↔ P := by unfold dec; exact @decide_eq_true_iff P (Classical.propDecidable P)
theorem dec_t {P : Prop} (h : P) : dec P = true := dec_iff.2 h
theorem dec_f {P : Prop} (h : ¬ P) : dec P = false := Bool.eq_false_iff.2 (fun k => h (dec_iff.1 k))
theorem dec_of {P Q : Prop} [Decidable P] (h : P ↔ Q) : decide P = dec Q := by
  by_cases q : Q
  · rw [dec_t q, decide_eq_true (h.2 q)]
  · rw [dec_f q, decide_eq_false (fun k => q (h.1 k))]
def POK (p : List Int) : Prop := (1 ≤ p.length ∧ p.length ≤ 12) ∧ PermL p.length p
def MOK (t f : List Int) : Prop := POK t ∧ POK f ∧ t.length = f.length ∧ (∀ i, i < f.length → fn f i ≠ i ∧ fn f (fn f i) = i) ∧ ∀ i, i < t.length → rd (orbL t f) (i : Int) = 0
def rdL (xs : List (List Int)) (i : Int) : List Int := xs.getD i.toNat []
theorem rdL_nat (xs : List (List Int)) (i : Nat) (h : i < xs.length) : rdL xs (i : Int) = xs[i] := by
  simp [rdL, List.getD_eq_getElem?_getD, h]
theorem rdL_set_self (xs : List (List Int)) (i : Nat) (v : List Int) (h : i < xs.length) : rdL (xs.set i v) (i : Int) = v := by
  simp [rdL, List.getD_eq_getElem?_getD, List.getElem?_set_self h]
theorem rdL_set_ne (xs : List (List Int)) (i j : Nat) (v : List Int) (h : i ≠ j) : rdL (xs.set i v) (j : Int) = rdL xs (j : Int) := by
  simp only [rdL, List.getD_eq_getElem?_getD, Int.toNat_natCast]
  rw [List.getElem?_set_ne h]
theorem listL_ext {l m : List (List Int)} (h : l.length = m.length) (he : ∀ i : Nat, i < l.length → rdL l (i : Int) = rdL m (i : Int)) : l = m := by
  refine List.ext_getElem h (fun i h1 h2 => ?_)
  have := he i h1
  rwa [rdL_nat l i h1, rdL_nat m i h2] at this
def Small (l : List (List Int)) : Prop := l.length ≤ 1048576 ∧ ∀ i : Nat, i < l.length → (rdL l (i : Int)).length ≤ 1048576
def VOK (t f : List Int) (k : Int) (v : List (List Int)) : Prop := MOK t f ∧ (1 ≤ k ∧ k ≤ 6) ∧ (t.length : Int) * k ≤ 12 ∧ v.length = f.length / 2 ∧ ∀ e : Nat, e < v.length → POK (rdL v (e : Int)) ∧ ((rdL v (e : Int)).length : Int) = k
theorem MOK.size {t f : List Int} (h : MOK t f) : 1 ≤ t.length ∧ t.length ≤ 12 ∧ f.length = t.length := ⟨h.1.1.1, h.1.1.2, h.2.2.1.symm⟩
theorem MOK.permT {t f : List Int} (h : MOK t f) : PermL t.length t := h.1.2
theorem MOK.permF {t f : List Int} (h : MOK t f) : PermL t.length f := by have := h.2.1.2; rw [← h.2.2.1] at this; exact this
def lowD (f : List Int) (j : Nat) : Bool := decide (j < fn f j)
def edgeN (f : List Int) (d : Nat) : Nat := cntP (lowD f) (if d < fn f d then d else fn f d)
structure PairL (n : Nat) (f : List Int) : Prop where
  pts : Pts n f
  ne : ∀ i, i < n → fn f i ≠ i
  inv : ∀ i, i < n → fn f (fn f i) = i
theorem MOK.pair {t f : List Int} (h : MOK t f) : PairL t.length f := by
  obtain ⟨h1, h2, h3, h4, h5⟩ := h
  refine ⟨by have := h2.2.1; rw [← h3] at this; exact this, fun i hi => (h4 i (by omega)).1, fun i hi => (h4 i (by omega)).2⟩
theorem PairL.low {n : Nat} {f : List Int} (h : PairL n f) {d : Nat} (hd : d < n) : ∃ a, a < n ∧ lowD f a = true ∧ edgeN f d = cntP (lowD f) a ∧ (d = a ∨ d = fn f a) := by
  have h1 := (h.pts.fn hd).2
  have h2 := h.ne d hd
  unfold edgeN
  by_cases e : d < fn f d
  · rw [if_pos e]; exact ⟨d, hd, decide_eq_true e, rfl, .inl rfl⟩
  · rw [if_neg e]; exact ⟨fn f d, h1, by unfold lowD; rw [h.inv d hd]; exact decide_eq_true (by omega), rfl, .inr (h.inv d hd).symm⟩
structure VN (n κ : Nat) (t f : List Int) (v : List (List Int)) : Prop where
  tp : PermL n t
  fp : PermL n f
  pr : PairL n f
  n0 : 1 ≤ n
  n1 : n ≤ 12
  k0 : 1 ≤ κ
  k1 : κ ≤ 6
  nk : κ * n ≤ 12
  vl : v.length = n / 2
  vp : ∀ e : Nat, e < v.length → PermL κ (rdL v (e : Int))
theorem VOK.vn {t f : List Int} {k : Int} {v : List (List Int)} (h : VOK t f k v) : ∃ κ : Nat, k = (κ : Int) ∧ VN t.length κ t f v := by
  obtain ⟨h1, h2, h3, h4, h5⟩ := h
  have hz := h1.size
  refine ⟨k.toNat, by omega, h1.permT, h1.permF, h1.pair, by omega, by omega, by omega, by omega, ?_, by rw [h4, hz.2.2], fun e he => ?_⟩
  · obtain ⟨κ, rfl⟩ : ∃ κ : Nat, k = (κ : Int) := ⟨k.toNat, by omega⟩
    rw [Int.toNat_natCast, Nat.mul_comm]
    have : ((t.length * κ : Nat) : Int) = (t.length : Int) * (κ : Int) := Int.natCast_mul _ _
    omega
  · obtain ⟨p1, p2⟩ := h5 e he
    have := p1.2
    rw [show (rdL v (e : Int)).length = k.toNat by omega] at this
    exact this
def Face (n : Nat) (face : List Int) : Prop := face.length ≤ n ∧ ∀ i : Nat, i < face.length → 0 ≤ rd face (i : Int) ∧ rd face (i : Int) < n
theorem Face.fn {n : Nat} {face : List Int} (h : Face n face) {i : Nat} (hi : i < face.length) : rd face (i : Int) = (fn face i : Int) ∧ fn face i < n := by
  have := h.2 i hi
  unfold M.fn
  omega
noncomputable def com (p : List Int) (v : List (List Int)) : Bool := dec (∀ e : Nat, e < v.length → mulL p (rdL v (e : Int)) = mulL (rdL v (e : Int)) p)
noncomputable def cntL (v : List (List Int)) : List (List Int) → Int
  | [] => 0
  | p :: r => (if com p v = true then 1 else 0) + cntL v r
theorem cntL_append (v : List (List Int)) : ∀ a b : List (List Int), cntL v (a ++ b) = cntL v a + cntL v b
  | [], b => by simp [cntL]
  | p :: a, b => by simp only [List.cons_append, cntL]; rw [cntL_append v a b]; omega
theorem cntL_range (v : List (List Int)) : ∀ a : List (List Int), 0 ≤ cntL v a ∧ cntL v a ≤ a.length
  | [] => by simp [cntL]
  | p :: a => by
    have := cntL_range v a
    simp only [cntL, List.length_cons]
    split <;> omega
def okP (n : Nat) (p : List Int) : Prop := p.length = n ∧ ∀ x ∈ p, 0 ≤ x ∧ x < (n : Int)
instance (n : Nat) (p : List Int) : Decidable (okP n p) := by unfold okP; infer_instance
theorem okP.rd {n : Nat} {p : List Int} (h : okP n p) (i : Nat) (hi : i < p.length) : 0 ≤ rd p (i : Int) ∧ rd p (i : Int) < (n : Int) := by
  rw [rd_nat p i hi]; exact h.2 _ (List.getElem_mem _)
def dfs (n : Nat) : Nat → List Int → List (List Int)
  | 0, _ => []
  | d + 1, p => if p.length = n then [p] else (List.range n).flatMap (fun i : Nat => if (i : Int) ∈ p then [] else dfs n d (p ++ [(i : Int)]))
def dfsFrom (n d : Nat) (p : List Int) (i : Nat) : List (List Int) := ((List.range n).drop i).flatMap (fun i : Nat => if (i : Int) ∈ p then [] else dfs n d (p ++ [(i : Int)]))
theorem dfsFrom_end (n d : Nat) (p : List Int) (i : Nat) (h : n ≤ i) : dfsFrom n d p i = [] := by
  unfold dfsFrom; rw [List.drop_of_length_le (by simpa using h)]; rfl
theorem dfsFrom_step (n d : Nat) (p : List Int) (i : Nat) (h : i < n) : dfsFrom n d p i = (if (i : Int) ∈ p then [] else dfs n d (p ++ [(i : Int)])) ++ dfsFrom n d p (i + 1) := by
  unfold dfsFrom
  rw [List.drop_eq_getElem_cons (by simpa using h), List.flatMap_cons]
  simp
def permsN : Nat → List (List Int)
  | 1 => [[0]]
  | 2 => [[0, 1], [1, 0]]
  | 3 => [[0, 1, 2], [0, 2, 1], [1, 0, 2], [1, 2, 0], [2, 0, 1], [2, 1, 0]]
  | 4 => [[0, 1, 2, 3], [0, 1, 3, 2], [0, 2, 1, 3], [0, 2, 3, 1], [0, 3, 1, 2], [0, 3, 2, 1], [1, 0, 2, 3], [1, 0, 3, 2], [1, 2, 0, 3], [1, 2, 3, 0], [1, 3, 0, 2], [1, 3, 2, 0], [2, 0, 1, 3], [2, 0, 3, 1], [2, 1, 0, 3], [2, 1, 3, 0], [2, 3, 0, 1], [2, 3, 1, 0], [3, 0, 1, 2], [3, 0, 2, 1], [3, 1, 0, 2], [3, 1, 2, 0], [3, 2, 0, 1], [3, 2, 1, 0]]
  | _ => []
theorem dfs_all (n : Nat) (h0 : 1 ≤ n) (h1 : n ≤ 4) : dfs n (n + 1) [] = permsN n := by
  obtain rfl | rfl | rfl | rfl : n = 1 ∨ n = 2 ∨ n = 3 ∨ n = 4 := by omega
  all_goals decide +kernel
theorem permsN_ok (n : Nat) (h0 : 1 ≤ n) (h1 : n ≤ 4) : ∀ p ∈ permsN n, okP n p := by
  obtain rfl | rfl | rfl | rfl : n = 1 ∨ n = 2 ∨ n = 3 ∨ n = 4 := by omega
  all_goals decide +kernel
theorem permsN_len (n : Nat) : (permsN n).length ≤ 24 := by
  unfold permsN; split <;> simp
noncomputable def deckV (t f : List Int) (k : Int) (v : List (List Int)) : Int := if dec (VOK t f k v) = true then (if k > 4 then -1 else cntL v (permsN k.toNat)) else -1

end Go.Proofs.Ytmcgkckdnelcdaa.M
