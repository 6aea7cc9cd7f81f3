import Derived.Test.YtjebcgbmlbemcaaGreatDoorMGA
set_option linter.unusedVariables false
set_option linter.unusedSimpArgs false
namespace Go.Proofs.YtjebcgbmlbemcaaGreatDoor.M
open Go.RowKit Go.Proofs.YtjebcgbmlbemcaaGreatDoorW.PrintWords

/-! ### Cycles of a permutation that goes along another one and turns sheets -/
def skP (φ : Nat → Nat) (σ : Nat → Nat → Nat) (r : Nat) : Nat → Nat → Nat
  | 0, s => s
  | i + 1, s => σ (itr φ i r) (skP φ σ r i s)
theorem itr_per {f : Nat → Nat} {x p : Nat} (hp : itr f p x = x) : ∀ q, itr f (q * p) x = x
  | 0 => by rw [Nat.zero_mul]; rfl
  | q + 1 => by rw [Nat.succ_mul, itr_add, hp, itr_per hp q]
theorem per_dvd {n : Nat} {f g : Nat → Nat} (h : PermN n f g) {x : Nat} (hx : x < n) {m : Nat} (e : itr f m x = x) : ∃ q, m = q * per f x := by
  obtain ⟨p1, p2, p3, p4⟩ := per_spec h hx
  refine ⟨m / per f x, ?_⟩
  have hd := Nat.div_add_mod m (per f x)
  have hr := Nat.mod_lt m (show 0 < per f x by omega)
  have e2 : itr f (m % per f x) x = x := by
    have e1 : itr f (m % per f x + m / per f x * per f x) x = x := by rw [show m % per f x + m / per f x * per f x = m by rw [Nat.mul_comm]; omega]; exact e
    rwa [itr_add, itr_per p3] at e1
  have : m % per f x = 0 := by
    by_cases z : m % per f x = 0
    · exact z
    · exact absurd e2 (p4 _ (by omega) hr)
  rw [Nat.mul_comm]; omega
structure Skew (n κ : Nat) (φ φi : Nat → Nat) (σ : Nat → Nat → Nat) (Φ Φi : Nat → Nat) : Prop where
  base : PermN n φ φi
  top : PermN (κ * n) Φ Φi
  k0 : 1 ≤ κ
  sl : ∀ d, d < n → ∀ s, s < κ → σ d s < κ
  eq : ∀ d, d < n → ∀ s, s < κ → Φ (κ * d + s) = κ * φ d + σ d s
theorem Skew.pr_lt {n κ : Nat} {φ φi : Nat → Nat} {σ : Nat → Nat → Nat} {Φ Φi : Nat → Nat} (h : Skew n κ φ φi σ Φ Φi) {r : Nat} (hr : r < n) {s : Nat} (hs : s < κ) : ∀ i, skP φ σ r i s < κ
  | 0 => hs
  | i + 1 => h.sl _ (itr_lt h.base hr i) _ (h.pr_lt hr hs i)
theorem Skew.itr {n κ : Nat} {φ φi : Nat → Nat} {σ : Nat → Nat → Nat} {Φ Φi : Nat → Nat} (h : Skew n κ φ φi σ Φ Φi) {r : Nat} (hr : r < n) {s : Nat} (hs : s < κ) : ∀ i, itr Φ i (κ * r + s) = κ * itr φ i r + skP φ σ r i s
  | 0 => rfl
  | i + 1 => by
    show Φ (M.itr Φ i (κ * r + s)) = κ * φ (M.itr φ i r) + σ (M.itr φ i r) (skP φ σ r i s)
    rw [h.itr hr hs i, h.eq _ (itr_lt h.base hr i) _ (h.pr_lt hr hs i)]
/-- The representative of the i-th cycle. -/
noncomputable def repI (n : Nat) (f : Nat → Nat) (i : Nat) : Nat := Classical.epsilon (fun r => rdL (cycL n f) (i : Int) = cycOf f r ∧ r < n ∧ lstB (EF n f) r = true ∧ cntP (lstB (EF n f)) r = i)
theorem repI_spec {n : Nat} {f : Nat → Nat} {i : Nat} (h : i < cyc n f) : rdL (cycL n f) (i : Int) = cycOf f (repI n f i) ∧ repI n f i < n ∧ lstB (EF n f) (repI n f i) = true ∧ cntP (lstB (EF n f)) (repI n f i) = i :=
  Classical.epsilon_spec (p := fun r => rdL (cycL n f) (i : Int) = cycOf f r ∧ r < n ∧ lstB (EF n f) r = true ∧ cntP (lstB (EF n f)) r = i) (cycL_at n f h)
theorem repI_ex {n : Nat} {f : Nat → Nat} {d : Nat} (hd : d < n) : ∃ i, i < cyc n f ∧ ConE (EF n f) d (repI n f i) := by
  obtain ⟨h1, h2, h3⟩ := repN_spec n f d
  have hl := repN_least n f d
  have hi : cntP (lstB (EF n f)) (repN n f d) < cyc n f := cntP_step _ hl (show repN n f d < n by omega)
  refine ⟨_, hi, ?_⟩
  obtain ⟨r1, r2, r3, r4⟩ := repI_spec hi
  have : repI n f (cntP (lstB (EF n f)) (repN n f d)) = repN n f d := by
    rcases Nat.lt_trichotomy (repI n f (cntP (lstB (EF n f)) (repN n f d))) (repN n f d) with q | q | q
    · have := cntP_step _ r3 q; omega
    · exact q
    · have := cntP_step _ hl q; omega
  rw [this]; exact h1
theorem repI_inj {n : Nat} {f : Nat → Nat} {i j : Nat} (hi : i < cyc n f) (hj : j < cyc n f) (h : ConE (EF n f) (repI n f i) (repI n f j)) : i = j := by
  obtain ⟨r1, r2, r3, r4⟩ := repI_spec hi
  obtain ⟨u1, u2, u3, u4⟩ := repI_spec hj
  have : repI n f i = repI n f j := by
    rw [← repN_self r3, ← repN_self u3]; exact (repN_iff _ _ _ _).2 h
  rw [← r4, ← u4, this]
/-- The turns of the sheets around the i-th cycle. -/
noncomputable def mon (n : Nat) (φ : Nat → Nat) (σ : Nat → Nat → Nat) (i s : Nat) : Nat := skP φ σ (repI n φ i) (per φ (repI n φ i)) s
def sumE (κ F : Nat) (m : Nat → Nat → Nat) : Nat → Nat → Prop := fun a b => ∃ i s, i < F ∧ s < κ ∧ a = κ * i + s ∧ b = κ * i + m i s
theorem sumE_inv {κ F : Nat} {m : Nat → Nat → Nat} {c : Nat → Nat} (h : InvE (sumE κ F m) c) {i : Nat} (hi : i < F) : InvE (EF κ (m i)) (fun s => c (κ * i + s)) := fun a b hab => by
  obtain ⟨ha, rfl⟩ := hab
  exact h _ _ ⟨i, a, hi, ha, rfl, rfl⟩
theorem sumE_con {κ F : Nat} {m : Nat → Nat → Nat} (hm : ∀ i, i < F → ∀ s, s < κ → m i s < κ) {i a j b : Nat} (hi : i < F) (ha : a < κ) (hj : j < F) (hb : b < κ) : ConE (sumE κ F m) (κ * i + a) (κ * j + b) ↔ i = j ∧ ConE (EF κ (m i)) a b := by
  constructor
  · intro h
    have e1 : (κ * i + a) / κ = (κ * j + b) / κ := h (fun x => x / κ) (fun x y hxy => by
      obtain ⟨k, s, hk, hs, rfl, rfl⟩ := hxy
      show (κ * k + s) / κ = (κ * k + m k s) / κ
      rw [(sheet_num hs).1, (sheet_num (hm k hk s hs)).1])
    rw [(sheet_num ha).1, (sheet_num hb).1] at e1
    refine ⟨e1, fun c hc => ?_⟩
    subst e1
    have e2 := h (fun x => if x / κ = i then c (x % κ) else 0) (fun x y hxy => by
      obtain ⟨k, s, hk, hs, rfl, rfl⟩ := hxy
      show (if (κ * k + s) / κ = i then c ((κ * k + s) % κ) else 0) = (if (κ * k + m k s) / κ = i then c ((κ * k + m k s) % κ) else 0)
      rw [(sheet_num hs).1, (sheet_num (hm k hk s hs)).1, (sheet_num hs).2, (sheet_num (hm k hk s hs)).2]
      by_cases w : k = i
      · subst w
        rw [if_pos rfl, if_pos rfl]
        exact hc _ _ ⟨hs, rfl⟩
      · rw [if_neg w, if_neg w])
    have e3 : (if (κ * i + a) / κ = i then c ((κ * i + a) % κ) else 0) = (if (κ * i + b) / κ = i then c ((κ * i + b) % κ) else 0) := e2
    rwa [(sheet_num ha).1, (sheet_num hb).1, (sheet_num ha).2, (sheet_num hb).2, if_pos rfl, if_pos rfl] at e3
  · rintro ⟨rfl, h⟩ c hc
    exact h _ (sumE_inv hc hi)
theorem sumE_cls {κ F : Nat} {m : Nat → Nat → Nat} (hκ : 1 ≤ κ) (hm : ∀ i, i < F → ∀ s, s < κ → m i s < κ) : clsN (sumE κ F m) (κ * F) = sumN (fun i => cyc κ (m i)) F := by
  have blk : ∀ i, i < F → ∀ s, s ≤ κ → cntP (lstB (sumE κ F m)) (κ * i + s) = cntP (lstB (sumE κ F m)) (κ * i) + cntP (lstB (EF κ (m i))) s := by
    intro i hi s
    induction s with
    | zero => intro _; rfl
    | succ s ih =>
      intro hs
      have e : lstB (sumE κ F m) (κ * i + s) = lstB (EF κ (m i)) s := by
        rw [Bool.eq_iff_iff, lstB_iff, lstB_iff]
        constructor
        · intro h j hj hc
          exact h (κ * i + j) (by omega) ((sumE_con hm hi (by omega) hi (by omega)).2 ⟨rfl, hc⟩)
        · intro h j hj hc
          obtain ⟨d1, d2, d3⟩ := sheet_of (n := F) hκ (show j < κ * F by
            have := sheet_lt hi (show s < κ by omega); omega)
          rw [← d3] at hc hj
          obtain ⟨q1, q2⟩ := (sumE_con hm hi (by omega) d1 d2).1 hc
          rw [← q1] at hj
          exact h (j % κ) (by omega) q2
      show cntP (lstB (sumE κ F m)) (κ * i + s + 1) = cntP (lstB (sumE κ F m)) (κ * i) + cntP (lstB (EF κ (m i))) (s + 1)
      simp only [cntP]
      rw [ih (by omega), e]
      split <;> omega
  have all : ∀ i, i ≤ F → cntP (lstB (sumE κ F m)) (κ * i) = sumN (fun i => cyc κ (m i)) i := by
    intro i
    induction i with
    | zero => intro _; rfl
    | succ i ih =>
      intro hi
      have := blk i (by omega) κ (Nat.le_refl _)
      rw [show κ * (i + 1) = κ * i + κ from Nat.mul_succ κ i, this, ih (by omega)]
      rfl
  exact all F (Nat.le_refl _)
theorem Skew.mon_lt {n κ : Nat} {φ φi : Nat → Nat} {σ : Nat → Nat → Nat} {Φ Φi : Nat → Nat} (h : Skew n κ φ φi σ Φ Φi) : ∀ i, i < cyc n φ → ∀ s, s < κ → mon n φ σ i s < κ := fun i hi s hs => h.pr_lt (repI_spec hi).2.1 hs _
theorem Skew.mon_itr {n κ : Nat} {φ φi : Nat → Nat} {σ : Nat → Nat → Nat} {Φ Φi : Nat → Nat} (h : Skew n κ φ φi σ Φ Φi) {i : Nat} (hi : i < cyc n φ) : ∀ q s, s < κ → M.itr Φ (q * per φ (repI n φ i)) (κ * repI n φ i + s) = κ * repI n φ i + M.itr (mon n φ σ i) q s ∧ M.itr (mon n φ σ i) q s < κ := by
  obtain ⟨r1, r2, r3, r4⟩ := repI_spec hi
  obtain ⟨p1, p2, p3, p4⟩ := per_spec h.base r2
  intro q
  induction q with
  | zero => intro s hs; exact ⟨by rw [Nat.zero_mul]; rfl, hs⟩
  | succ q ih =>
    intro s hs
    obtain ⟨i1, i2⟩ := ih s hs
    have e : M.itr Φ (per φ (repI n φ i)) (κ * repI n φ i + M.itr (mon n φ σ i) q s) = κ * repI n φ i + mon n φ σ i (M.itr (mon n φ σ i) q s) := by
      rw [h.itr r2 i2, p3]; rfl
    refine ⟨?_, h.mon_lt i hi _ i2⟩
    rw [Nat.succ_mul, Nat.add_comm, itr_add, i1, e]
    rfl
/-- The cycles above are told cycle by cycle below. -/
theorem skew_cyc {n κ : Nat} {φ φi : Nat → Nat} {σ : Nat → Nat → Nat} {Φ Φi : Nat → Nat} (h : Skew n κ φ φi σ Φ Φi) : cyc (κ * n) Φ = sumN (fun i => cyc κ (mon n φ σ i)) (cyc n φ) := by
  rw [← sumE_cls h.k0 h.mon_lt]
  -- points above the representatives
  have rpt : ∀ {i s : Nat}, i < cyc n φ → s < κ → κ * repI n φ i + s < κ * n := fun hi hs => sheet_lt (repI_spec hi).2.1 hs
  have RR : ∃ R : Nat → Nat → Prop, ∀ x y, R x y ↔ ∃ i s, i < cyc n φ ∧ s < κ ∧ y = κ * i + s ∧ ConE (EF (κ * n) Φ) x (κ * repI n φ i + s) := ⟨fun x y => ∃ i s, i < cyc n φ ∧ s < κ ∧ y = κ * i + s ∧ ConE (EF (κ * n) Φ) x (κ * repI n φ i + s), fun _ _ => Iff.rfl⟩
  obtain ⟨R, hR⟩ := RR
  have ex : ∀ x, x < κ * n → ∃ y, y < κ * cyc n φ ∧ R x y := by
    intro x hx
    obtain ⟨s1, s2, s3⟩ := sheet_of h.k0 hx
    obtain ⟨i, hi, hc⟩ := repI_ex (f := φ) s1
    obtain ⟨p1, p2, p3, p4⟩ := per_spec h.base s1
    obtain ⟨m, hm, e⟩ := con_itr h.base s1 p1 p3 hc
    have e2 := h.itr s1 s2 m
    rw [s3, ← e] at e2
    have hlt := h.pr_lt s1 s2 m
    refine ⟨κ * i + skP φ σ (x / κ) m (x % κ), sheet_lt hi hlt, (hR _ _).2 ⟨i, _, hi, hlt, rfl, ?_⟩⟩
    rw [← e2]
    exact itr_con h.top hx m
  -- two points above representatives that are connected
  have wd : ∀ {i s j u : Nat}, i < cyc n φ → s < κ → j < cyc n φ → u < κ → ConE (EF (κ * n) Φ) (κ * repI n φ i + s) (κ * repI n φ j + u) → i = j ∧ ConE (EF κ (mon n φ σ i)) s u := by
    intro i s j u hi hs hj hu hc
    obtain ⟨r1, r2, r3, r4⟩ := repI_spec hi
    have hx := rpt hi hs
    obtain ⟨p1, p2, p3, p4⟩ := per_spec h.top hx
    obtain ⟨m, hm, e⟩ := con_itr h.top hx p1 p3 hc
    rw [h.itr r2 hs m] at e
    have hlt := h.pr_lt r2 hs m
    have e1 : repI n φ j = M.itr φ m (repI n φ i) := by
      have := congrArg (fun z => z / κ) e
      simpa only [(sheet_num hu).1, (sheet_num hlt).1] using this
    have e2 : u = skP φ σ (repI n φ i) m s := by
      have := congrArg (fun z => z % κ) e
      simpa only [(sheet_num hu).2, (sheet_num hlt).2] using this
    have hij : i = j := repI_inj hi hj (by rw [e1]; exact itr_con h.base r2 m)
    refine ⟨hij, ?_⟩
    subst hij
    obtain ⟨q, rfl⟩ := per_dvd h.base r2 e1.symm
    obtain ⟨t1, t2⟩ := h.mon_itr hi q s hs
    rw [h.itr r2 hs, ← e1, ← e2] at t1
    have e3 : u = M.itr (mon n φ σ i) q s := by omega
    rw [e3]
    intro c hc
    have : ∀ q, c s = c (M.itr (mon n φ σ i) q s) := by
      intro q
      induction q with
      | zero => rfl
      | succ q ih =>
        rw [ih]
        exact hc _ _ ⟨(h.mon_itr hi q s hs).2, rfl⟩
    exact this q
  have wdR : ∀ {x x' y y' : Nat}, R x y → R x' y' → ConE (EF (κ * n) Φ) x x' → ConE (sumE κ (cyc n φ) (mon n φ σ)) y y' := by
    intro x x' y y' hr hr' hc
    obtain ⟨i, s, hi, hs, rfl, c1⟩ := (hR _ _).1 hr
    obtain ⟨j, u, hj, hu, rfl, c2⟩ := (hR _ _).1 hr'
    obtain ⟨q1, q2⟩ := wd hi hs hj hu (c1.symm.trans (hc.trans c2))
    exact (sumE_con h.mon_lt hi hs hj hu).2 ⟨q1, q2⟩
  refine cls_rel R ex (fun y hy => ?_) (fun x y x' y' hx hy hx' hy' hr hr' => ⟨wdR hr hr', fun hc => ?_⟩)
  · obtain ⟨s1, s2, s3⟩ := sheet_of h.k0 hy
    exact ⟨κ * repI n φ (y / κ) + y % κ, rpt s1 s2, (hR _ _).2 ⟨y / κ, y % κ, s1, s2, s3.symm, ConE.refl _⟩⟩
  · obtain ⟨i, s, hi, hs, rfl, c1⟩ := (hR _ _).1 hr
    obtain ⟨j, u, hj, hu, rfl, c2⟩ := (hR _ _).1 hr'
    obtain ⟨q1, q2⟩ := (sumE_con h.mon_lt hi hs hj hu).1 hc
    subst q1
    refine c1.trans (ConE.trans ?_ c2.symm)
    intro c hcI
    refine q2 (fun z => c (κ * repI n φ i + z)) (fun a b hab => ?_)
    obtain ⟨ha, rfl⟩ := hab
    obtain ⟨t1, t2⟩ := h.mon_itr hi 1 a ha
    rw [Nat.one_mul] at t1
    show c (κ * repI n φ i + a) = c (κ * repI n φ i + mon n φ σ i a)
    rw [show κ * repI n φ i + mon n φ σ i a = M.itr Φ (per φ (repI n φ i)) (κ * repI n φ i + a) from t1.symm]
    exact itr_con h.top (rpt hi ha) _ _ hcI

end Go.Proofs.YtjebcgbmlbemcaaGreatDoor.M
