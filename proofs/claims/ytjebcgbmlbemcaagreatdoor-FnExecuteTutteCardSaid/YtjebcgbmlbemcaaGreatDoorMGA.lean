import Derived.Test.YtjebcgbmlbemcaaGreatDoorMA
import Derived.Test.YtjebcgbmlbemcaaGreatDoorMT
set_option linter.unusedVariables false
set_option linter.unusedSimpArgs false
namespace Go.Proofs.YtjebcgbmlbemcaaGreatDoor.M
open Go.RowKit Go.Proofs.YtjebcgbmlbemcaaGreatDoorW.PrintWords

/-! ### Windings and branches, the sheets being renamed at each vertex -/
theorem cyc_conj {κ : Nat} {x y g gi : Nat → Nat} (hg : PermN κ g gi) (hx : ∀ s, s < κ → x s < κ) (h : ∀ s, s < κ → y (g s) = g (x s)) : cyc κ x = cyc κ y := by
  refine cls_same (fun i j => j = g i) (fun i hi => ⟨g i, hg.fl i hi, rfl⟩) (fun j hj => ⟨gi j, hg.gl j hj, (hg.fg j hj).symm⟩) (fun c' hc' => ?_) (fun c hc => ?_)
  · refine ⟨fun s => c' (g s), fun a b hab => ?_, fun i j _ _ e => by rw [e]⟩
    obtain ⟨ha, rfl⟩ := hab
    show c' (g a) = c' (g (x a))
    rw [← h a ha]
    exact hc' _ _ ⟨hg.fl a ha, rfl⟩
  · refine ⟨fun j => c (gi j), fun a b hab => ?_, fun i j hi _ e => by rw [e]; show c i = c (gi (g i)); rw [hg.gf i hi]⟩
    obtain ⟨ha, rfl⟩ := hab
    show c (gi a) = c (gi (y a))
    have e : y a = g (x (gi a)) := by rw [← h _ (hg.gl a ha), hg.fg a ha]
    rw [e, hg.gf _ (hx _ (hg.gl a ha))]
    exact hc _ _ ⟨hg.gl a ha, rfl⟩
theorem cyc_pos {n : Nat} (h : 1 ≤ n) (f : Nat → Nat) : 1 ≤ cyc n f := cntP_pos _ n 0 (by omega) (lstB_iff.2 (fun j hj => absurd hj (by omega)))
theorem cyc_id {n : Nat} {f : Nat → Nat} (h : ∀ i, i < n → f i = i) : cyc n f = n := by
  have : ∀ m, m ≤ n → cntP (lstB (EF n f)) m = m := by
    intro m
    induction m with
    | zero => intro _; rfl
    | succ m ih =>
      intro hm
      have hl : lstB (EF n f) m = true := lstB_iff.2 (fun j hj hc => by
        have := hc (fun x => x) (fun a b hab => by
          obtain ⟨ha, rfl⟩ := hab
          exact (h a ha).symm)
        have : m = j := this
        omega)
      simp only [cntP]; rw [if_pos hl, ih (by omega)]
  exact this n (Nat.le_refl _)
/-- Around a face the sheets are renamed as at its first dart. -/
theorem wind_gau {n κ : Nat} {t f : List Int} {v v' : List (List Int)} (h : VN n κ t f v) (h' : VN n κ t f v') {g gi : Nat → Nat → Nat} (hg : ∀ w, PermN κ (g w) (gi w))
    (hv : ∀ d, d < n → ∀ s, s < κ → fn (voltL f v' d) (g (vtx n t d) s) = g (vtx n t (fn f d)) (fn (voltL f v d) s)) {r : Nat} (hr : r < n) :
    ∀ i, i ≤ (cycOf (fn (mulL f t)) r).length → ∀ s, s < κ → fn (windUp κ f v' (cycOf (fn (mulL f t)) r) i) (g (vtx n t r) s) = g (vtx n t (itr (fn (mulL f t)) i r)) (fn (windUp κ f v (cycOf (fn (mulL f t)) r) i) s) := by
  have hm := mulL_perm h.fp h.tp
  have hF := cycOf_face hm.perm hr
  intro i
  induction i with
  | zero =>
    intro _ s hs
    show fn (idL κ) _ = g (vtx n t r) (fn (idL κ) s)
    rw [fn_idL ((hg _).fl s hs), fn_idL hs]
  | succ i ih =>
    intro hi s hs
    have i1 := ih (by omega)
    obtain ⟨a1, a2⟩ := hF.fn (show i < _ by omega)
    have ed : fn (cycOf (fn (mulL f t)) r) i = itr (fn (mulL f t)) i r := by
      have e : rd (cycOf (fn (mulL f t)) r) (i : Int) = (itr (fn (mulL f t)) i r : Int) := by
        rw [rd_nat _ _ (show i < (cycOf (fn (mulL f t)) r).length by omega)]; simp [cycOf]
      rw [a1] at e; omega
    have w1 := windUp_perm h hF i (by omega)
    have w2 := windUp_perm h' hF i (by omega)
    show fn (mulL (windUp κ f v' _ i) (voltL f v' (fn (cycOf (fn (mulL f t)) r) i))) _ = g (vtx n t (fn (mulL f t) (itr (fn (mulL f t)) i r))) (fn (mulL (windUp κ f v _ i) (voltL f v (fn (cycOf (fn (mulL f t)) r) i))) s)
    rw [fn_mulL w2.1 ((hg _).fl s hs), fn_mulL w1.1 hs, i1 s hs]
    rw [ed] at a2 ⊢
    rw [hv _ a2 _ (w1.1.fn hs).2, fn_mulL h.fp.1 a2, vtx_turn (h.fp.1.fn a2).2]
theorem branch_gau {κ : Nat} {t f : List Int} {v v' : List (List Int)} (h : VN t.length κ t f v) (h' : VN t.length κ t f v') (hG : Gau t.length κ t f v v') : branchZ t f (κ : Int) v' = branchZ t f (κ : Int) v := by
  obtain ⟨g, gi, hg, hv⟩ := hG
  have hm := mulL_perm h.fp h.tp
  have key : ∀ i, i ≤ (facesL t f).length → brUp κ f v' (facesL t f) i = brUp κ f v (facesL t f) i := by
    intro i
    induction i with
    | zero => intro _; rfl
    | succ i ih =>
      intro hi
      have hi' : i < cyc t.length (fn (mulL f t)) := by
        have : i < (facesL t f).length := by omega
        unfold facesL at this; rwa [cycL_length] at this
      obtain ⟨r, r1, r2, r3, r4⟩ := cycL_at t.length (fn (mulL f t)) hi'
      have r1' : rdL (facesL t f) (i : Int) = cycOf (fn (mulL f t)) r := r1
      obtain ⟨p1, p2, p3, p4⟩ := per_spec hm.perm r2
      have hl := cycOf_length (fn (mulL f t)) r
      have hF := cycOf_face hm.perm r2
      simp only [brUp]
      rw [ih (by omega), r1']
      have hw := windUp_perm h hF _ (Nat.le_refl _)
      have key := wind_gau h h' hg hv r2 _ (Nat.le_refl (cycOf (fn (mulL f t)) r).length)
      rw [hl, p3, ← hl] at key
      have := cyc_conj (hg (vtx t.length t r)) (fun s hs => (hw.1.fn hs).2) key
      unfold windL
      rw [this]
  exact key _ (Nat.le_refl _)
theorem branch_le {κ : Nat} (hκ : 1 ≤ κ) (f : List Int) (v faces : List (List Int)) : ∀ i : Nat, brUp κ f v faces i ≤ ((κ : Int) - 1) * (i : Int)
  | 0 => by simp [brUp]
  | i + 1 => by
    have h1 := branch_le hκ f v faces i
    have h2 := cyc_pos hκ (fn (windL κ f v (rdL faces (i : Int))))
    simp only [brUp]
    have : ((κ : Int) - 1) * ((i + 1 : Nat) : Int) = ((κ : Int) - 1) * (i : Int) + ((κ : Int) - 1) := by
      rw [show ((i + 1 : Nat) : Int) = (i : Int) + 1 by omega, Int.mul_add, Int.mul_one]
    rw [this]
    omega
theorem flat_windUp {n κ : Nat} {t f : List Int} (h : VN n κ t f (flatL κ (n / 2))) {face : List Int} (hf : Face n face) : ∀ i, i ≤ face.length → windUp κ f (flatL κ (n / 2)) face i = idL κ
  | 0, _ => rfl
  | i + 1, hi => by
    show mulL (windUp κ f (flatL κ (n / 2)) face i) (voltL f (flatL κ (n / 2)) (fn face i)) = _
    rw [flat_windUp h hf i (by omega), flat_volt h (hf.fn (show i < face.length by omega)).2, (mulL_id (idL_perm κ)).1]
theorem branch_flat {κ : Nat} {t f : List Int} (h : VN t.length κ t f (flatL κ (t.length / 2))) : branchZ t f (κ : Int) (flatL κ (t.length / 2)) = 0 := by
  have hm := mulL_perm h.fp h.tp
  have key : ∀ i, i ≤ (facesL t f).length → brUp κ f (flatL κ (t.length / 2)) (facesL t f) i = 0 := by
    intro i
    induction i with
    | zero => intro _; rfl
    | succ i ih =>
      intro hi
      have hF := cycL_face hm.perm (i := i) (show i < (cycL t.length (fn (mulL f t))).length from hi)
      simp only [brUp]
      rw [ih (by omega)]
      have e : windL κ f (flatL κ (t.length / 2)) (rdL (facesL t f) (i : Int)) = idL κ := flat_windUp h hF _ (Nat.le_refl _)
      rw [e, cyc_id (fun s hs => fn_idL hs)]
      omega
  exact key _ (Nat.le_refl _)

end Go.Proofs.YtjebcgbmlbemcaaGreatDoor.M
