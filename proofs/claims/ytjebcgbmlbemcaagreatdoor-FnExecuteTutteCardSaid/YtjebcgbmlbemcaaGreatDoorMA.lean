import Derived.Test.YtjebcgbmlbemcaaGreatDoorMI
set_option linter.unusedVariables false
set_option linter.unusedSimpArgs false
namespace Go.Proofs.YtjebcgbmlbemcaaGreatDoor.M
open Go.RowKit Go.Proofs.YtjebcgbmlbemcaaGreatDoorW.PrintWords

/-! ### Sheets renamed at a vertex; trees -/
noncomputable def ldart (n : Nat) (f : List Int) (e : Nat) : Nat := Classical.epsilon (fun d => d < n ∧ lowD f d = true ∧ cntP (lowD f) d = e)
theorem ldart_spec {n : Nat} {f : List Int} (h : PairL n f) {e : Nat} (he : e < n / 2) : ldart n f e < n ∧ lowD f (ldart n f e) = true ∧ cntP (lowD f) (ldart n f e) = e := by
  have hh := h.half
  have hx : ∀ m, e < cntP (lowD f) m → ∃ d, d < m ∧ lowD f d = true ∧ cntP (lowD f) d = e := by
    intro m
    induction m with
    | zero => intro w; simp [cntP] at w
    | succ m ih =>
      intro w
      simp only [cntP] at w
      by_cases q : lowD f m = true
      · rw [if_pos q] at w
        by_cases z : cntP (lowD f) m = e
        · exact ⟨m, by omega, q, z⟩
        · obtain ⟨d, d1, d2⟩ := ih (by omega)
          exact ⟨d, by omega, d2⟩
      · rw [if_neg q] at w
        obtain ⟨d, d1, d2⟩ := ih (by omega)
        exact ⟨d, by omega, d2⟩
  exact Classical.epsilon_spec (p := fun d => d < n ∧ lowD f d = true ∧ cntP (lowD f) d = e) (hx n (by omega))
theorem low_unique {f : List Int} {a b : Nat} (ha : lowD f a = true) (hb : lowD f b = true) (h : cntP (lowD f) a = cntP (lowD f) b) : a = b := by
  rcases Nat.lt_trichotomy a b with q | q | q
  · have := cntP_step (lowD f) ha q; omega
  · exact q
  · have := cntP_step (lowD f) hb q; omega
theorem ldart_of {n : Nat} {f : List Int} (h : PairL n f) {d : Nat} (hd : d < n) (hl : lowD f d = true) : ldart n f (edgeN f d) = d := by
  obtain ⟨s1, s2, s3⟩ := ldart_spec h (h.edge_lt hd)
  exact low_unique s2 hl (by rw [s3, (h.edge_of hd hl).1])
noncomputable def conjE (n : Nat) (t f : List Int) (v : List (List Int)) (u : Nat) (b : List Int) (e : Nat) : List Int :=
  if vtx n t (fn f (ldart n f e)) = u then mulL (if vtx n t (ldart n f e) = u then mulL (backL b) (rdL v (e : Int)) else rdL v (e : Int)) b
  else (if vtx n t (ldart n f e) = u then mulL (backL b) (rdL v (e : Int)) else rdL v (e : Int))
noncomputable def conjV (n : Nat) (t f : List Int) (v : List (List Int)) (u : Nat) (b : List Int) : List (List Int) := (List.range v.length).map (conjE n t f v u b)
theorem conjV_length (n : Nat) (t f : List Int) (v : List (List Int)) (u : Nat) (b : List Int) : (conjV n t f v u b).length = v.length := by simp [conjV]
theorem rdL_conjV (n : Nat) (t f : List Int) (v : List (List Int)) (u : Nat) (b : List Int) {e : Nat} (he : e < v.length) : rdL (conjV n t f v u b) (e : Int) = conjE n t f v u b e := by
  rw [rdL_nat _ _ (by rw [conjV_length]; exact he)]; simp [conjV]
theorem conjE_perm {n κ : Nat} {t f : List Int} {v : List (List Int)} (h : VN n κ t f v) {b : List Int} (hb : PermL κ b) (u : Nat) {e : Nat} (he : e < v.length) : PermL κ (conjE n t f v u b e) := by
  have hx := h.vp e he
  have hk := backL_perm hb
  unfold conjE
  split <;> split
  · exact mulL_perm (mulL_perm hk hx) hb
  · exact mulL_perm hx hb
  · exact mulL_perm hk hx
  · exact hx
theorem conjV_vn {n κ : Nat} {t f : List Int} {v : List (List Int)} (h : VN n κ t f v) {b : List Int} (hb : PermL κ b) (u : Nat) : VN n κ t f (conjV n t f v u b) :=
  ⟨h.tp, h.fp, h.pr, h.n0, h.n1, h.k0, h.k1, h.nk, by rw [conjV_length]; exact h.vl, fun e he => by
    rw [conjV_length] at he
    rw [rdL_conjV _ _ _ _ _ _ he]; exact conjE_perm h hb u he⟩
def atU (u : Nat) (b : List Int) (w s : Nat) : Nat := if w = u then fn b s else s
theorem atU_lt {κ : Nat} {b : List Int} (hb : PermL κ b) (u w : Nat) {s : Nat} (hs : s < κ) : atU u b w s < κ := by
  unfold atU; split
  · exact (hb.1.fn hs).2
  · exact hs
theorem conj_low {n κ : Nat} {t f : List Int} {v : List (List Int)} (h : VN n κ t f v) {b : List Int} (hb : PermL κ b) (u : Nat) {d : Nat} (hd : d < n) (hl : lowD f d = true) {s : Nat} (hs : s < κ) :
    fn (voltL f (conjV n t f v u b) d) (atU u b (vtx n t d) s) = atU u b (vtx n t (fn f d)) (fn (voltL f v d) s) := by
  have hlt : d < fn f d := of_decide_eq_true hl
  have hel := h.pr.edge_lt hd
  have he : edgeN f d < v.length := by rw [h.vl]; exact hel
  have hx := h.vp _ he
  have hk := backL_perm hb
  have e1 : voltL f (conjV n t f v u b) d = conjE n t f v u b (edgeN f d) := by unfold voltL; rw [if_pos hlt, rdL_conjV _ _ _ _ _ _ he]
  have e2 : voltL f v d = rdL v (edgeN f d : Int) := by unfold voltL; rw [if_pos hlt]
  rw [e1, e2]
  unfold conjE
  rw [ldart_of h.pr hd hl]
  generalize rdL v (edgeN f d : Int) = x at hx
  have inner : ∀ q, q = (if vtx n t d = u then mulL (backL b) x else x) → PermL κ q ∧ fn q (atU u b (vtx n t d) s) = fn x s := by
    intro q hq
    subst hq
    unfold atU
    by_cases w : vtx n t d = u
    · rw [if_pos w, if_pos w]
      refine ⟨mulL_perm hk hx, ?_⟩
      rw [fn_mulL hk.1 (hb.1.fn hs).2, fn_backL hb (hb.1.fn hs).2, hb.perm.gf s hs]
    · rw [if_neg w, if_neg w]
      exact ⟨hx, rfl⟩
  obtain ⟨i1, i2⟩ := inner _ rfl
  generalize (if vtx n t d = u then mulL (backL b) x else x) = q at i1 i2
  have hg := atU_lt hb u (vtx n t d) hs
  by_cases w : vtx n t (fn f d) = u
  · rw [if_pos w, fn_mulL i1.1 hg, i2]
    unfold atU; rw [if_pos w]
  · rw [if_neg w, i2]
    unfold atU; rw [if_neg w]
theorem conj_volt {n κ : Nat} {t f : List Int} {v : List (List Int)} (h : VN n κ t f v) {b : List Int} (hb : PermL κ b) (u : Nat) {d : Nat} (hd : d < n) {s : Nat} (hs : s < κ) :
    fn (voltL f (conjV n t f v u b) d) (atU u b (vtx n t d) s) = atU u b (vtx n t (fn f d)) (fn (voltL f v d) s) := by
  by_cases hl : lowD f d = true
  · exact conj_low h hb u hd hl hs
  · obtain ⟨f1, f2⟩ := h.pr.flip hd
    have hff := (h.pr.ne d hd)
    have hl' : lowD f (fn f d) = true := by rw [f2]; simp [hl]
    have inv := h.pr.inv d hd
    have hnlt : ¬ d < fn f d := fun w => hl (decide_eq_true w)
    have hlt' : fn f d < fn f (fn f d) := of_decide_eq_true hl'
    have he : edgeN f (fn f d) = edgeN f d := by
      obtain ⟨a, b⟩ := h.pr.edge_of f1 hl'
      rw [inv] at b
      rw [a, b]
    have hV : ∀ {w : List (List Int)}, VN n κ t f w → voltL f w d = backL (voltL f w (fn f d)) := by
      intro w hw
      have e1 : voltL f w d = backL (rdL w (edgeN f d : Int)) := by unfold voltL; rw [if_neg hnlt]
      have e2 : voltL f w (fn f d) = rdL w (edgeN f (fn f d) : Int) := by unfold voltL; rw [if_pos hlt']
      rw [e1, e2, he]
    have hc := conjV_vn h hb u
    rw [hV hc, hV h]
    have hx := h.volt f1
    have hx' := hc.volt f1
    have hg := atU_lt hb u (vtx n t d) hs
    rw [fn_backL hx' hg, fn_backL hx hs]
    have hs' := hx.perm.gl s hs
    have key := conj_low h hb u f1 hl' hs'
    rw [inv, hx.perm.fg s hs] at key
    rw [← key]
    exact hx'.perm.gf _ (atU_lt hb u _ hs')
/-- Two voltages that are one another's, the sheets being renamed at each vertex. -/
def Gau (n κ : Nat) (t f : List Int) (v v' : List (List Int)) : Prop := ∃ g gi : Nat → Nat → Nat, (∀ w, PermN κ (g w) (gi w)) ∧ ∀ d, d < n → ∀ s, s < κ → fn (voltL f v' d) (g (vtx n t d) s) = g (vtx n t (fn f d)) (fn (voltL f v d) s)
theorem permN_id (κ : Nat) : PermN κ (fun s => s) (fun s => s) := ⟨fun _ h => h, fun _ h => h, fun _ _ => rfl, fun _ _ => rfl⟩
theorem Gau.refl (n κ : Nat) (t f : List Int) (v : List (List Int)) : Gau n κ t f v v := ⟨fun _ s => s, fun _ s => s, fun _ => permN_id κ, fun _ _ _ _ => rfl⟩
theorem Gau.trans {n κ : Nat} {t f : List Int} {a b c : List (List Int)} (ha : VN n κ t f a) (h : Gau n κ t f a b) (k : Gau n κ t f b c) : Gau n κ t f a c := by
  obtain ⟨g, gi, g1, g2⟩ := h
  obtain ⟨q, qi, q1, q2⟩ := k
  refine ⟨fun w s => q w (g w s), fun w s => gi w (qi w s), fun w => ⟨fun i hi => (q1 w).fl _ ((g1 w).fl i hi), fun i hi => (g1 w).gl _ ((q1 w).gl i hi), fun i hi => ?_, fun i hi => ?_⟩, fun d hd s hs => ?_⟩
  · show gi w (qi w (q w (g w i))) = i
    rw [(q1 w).gf _ ((g1 w).fl i hi), (g1 w).gf i hi]
  · show q w (g w (gi w (qi w i))) = i
    rw [(g1 w).fg _ ((q1 w).gl i hi), (q1 w).fg i hi]
  · show fn (voltL f c d) (q _ (g _ s)) = q _ (g _ (fn (voltL f a d) s))
    rw [q2 d hd _ ((g1 _).fl s hs), g2 d hd s hs]
theorem Gau.conj {n κ : Nat} {t f : List Int} {v : List (List Int)} (h : VN n κ t f v) {b : List Int} (hb : PermL κ b) (u : Nat) : Gau n κ t f v (conjV n t f v u b) := by
  refine ⟨atU u b, fun w s => if w = u then bck κ (fn b) s else s, fun w => ?_, fun d hd s hs => conj_volt h hb u hd hs⟩
  by_cases e : w = u
  · have e1 : atU u b w = fn b := by funext s; unfold atU; rw [if_pos e]
    have e2 : (fun s => if w = u then bck κ (fn b) s else s) = bck κ (fn b) := by funext s; rw [if_pos e]
    show PermN κ (atU u b w) (fun s => if w = u then bck κ (fn b) s else s)
    rw [e1, e2]; exact hb.perm
  · have e1 : atU u b w = fun s => s := by funext s; unfold atU; rw [if_neg e]
    have e2 : (fun s => if w = u then bck κ (fn b) s else s) = fun s => s := by funext s; rw [if_neg e]
    show PermN κ (atU u b w) (fun s => if w = u then bck κ (fn b) s else s)
    rw [e1, e2]; exact permN_id κ
noncomputable def tStep (n : Nat) (t f : List Int) (st : List Bool × List (List Int)) (a : Nat) : List Bool × List (List Int) :=
  if rdOf false st.1 (vtx n t a : Int) = true ∧ rdOf false st.1 (vtx n t (fn f a) : Int) = false then (st.1.set (vtx n t (fn f a)) true, conjV n t f st.2 (vtx n t (fn f a)) (backL (voltL f st.2 a))) else st
noncomputable def tRun (n : Nat) (t f q : List Int) (st : List Bool × List (List Int)) : Nat → List Bool × List (List Int)
  | 0 => st
  | m + 1 => tStep n t f (tRun n t f q st m) (fn q m)
noncomputable def tStart (n : Nat) (t : List Int) (v : List (List Int)) : List Bool × List (List Int) := ((List.replicate n false).set (vtx n t 0) true, v)
noncomputable def treeV (n : Nat) (t f : List Int) (v : List (List Int)) : List (List Int) := (tRun n t f (orderL n t f 0) (tStart n t v) n).2
theorem tStep_ok {n κ : Nat} {t f : List Int} {st : List Bool × List (List Int)} (h : VN n κ t f st.2) {a : Nat} (ha : a < n) : VN n κ t f (tStep n t f st a).2 ∧ Gau n κ t f st.2 (tStep n t f st a).2 ∧ (tStep n t f st a).1.length = st.1.length ∧ (tStep n t f st a).2.length = st.2.length := by
  unfold tStep
  by_cases w : rdOf false st.1 (vtx n t a : Int) = true ∧ rdOf false st.1 (vtx n t (fn f a) : Int) = false
  · rw [if_pos w]
    have hb := backL_perm (h.volt ha)
    exact ⟨conjV_vn h hb _, Gau.conj h hb _, by simp, conjV_length _ _ _ _ _ _⟩
  · rw [if_neg w]; exact ⟨h, Gau.refl _ _ _ _ _, rfl, rfl⟩
theorem tRun_ok {n κ : Nat} {t f q : List Int} (hq : Pts n q) {st : List Bool × List (List Int)} (h : VN n κ t f st.2) : ∀ m, m ≤ n → VN n κ t f (tRun n t f q st m).2 ∧ Gau n κ t f st.2 (tRun n t f q st m).2 ∧ (tRun n t f q st m).1.length = st.1.length ∧ (tRun n t f q st m).2.length = st.2.length := by
  intro m
  induction m with
  | zero => intro _; exact ⟨h, Gau.refl _ _ _ _ _, rfl, rfl⟩
  | succ m ih =>
    intro hm
    obtain ⟨i1, i2, i3, i4⟩ := ih (by omega)
    obtain ⟨s1, s2, s3, s4⟩ := tStep_ok i1 (hq.fn (show m < n by omega)).2
    exact ⟨s1, i2.trans h s2, by unfold tRun; rw [s3, i3], by unfold tRun; rw [s4, i4]⟩
theorem order_perm {t f : List Int} (hM : MOK t f) : PermL t.length (orderL t.length t f 0) := by
  obtain ⟨h1, h2, h3⟩ := names_perm hM (root := 0) (by have := hM.size; omega)
  rw [h3]; exact backL_perm h1
theorem treeV_ok {κ : Nat} {t f : List Int} {v : List (List Int)} (hM : MOK t f) (h : VN t.length κ t f v) : VN t.length κ t f (treeV t.length t f v) ∧ Gau t.length κ t f v (treeV t.length t f v) := by
  obtain ⟨h1, h2, h3, h4⟩ := tRun_ok (order_perm hM).1 (st := tStart t.length t v) h t.length (Nat.le_refl _)
  exact ⟨h1, h2⟩
/-! ### Along a tree of a cover that moves nothing, nothing moves -/
theorem backL_id (k : Nat) : backL (idL k) = idL k := by
  have hp := idL_perm k
  refine pts_ext (backL_perm hp).1 hp.1 (fun i hi => ?_)
  rw [fn_backL hp hi, fn_idL hi]
  have := hp.perm.fg i hi
  rwa [fn_idL (hp.perm.gl i hi)] at this
theorem mulL_id {k : Nat} {x : List Int} (hx : PermL k x) : mulL (idL k) x = x ∧ mulL x (idL k) = x := by
  have hp := idL_perm k
  refine ⟨pts_ext (mulL_pts hp.1 hx.1) hx.1 (fun i hi => by rw [fn_mulL hp.1 hi, fn_idL hi]), pts_ext (mulL_pts hx.1 hp.1) hx.1 (fun i hi => by rw [fn_mulL hx.1 hi, fn_idL (hx.1.fn hi).2])⟩
theorem flat_volt {n κ : Nat} {t f : List Int} (h : VN n κ t f (flatL κ (n / 2))) {d : Nat} (hd : d < n) : voltL f (flatL κ (n / 2)) d = idL κ := by
  have he := h.pr.edge_lt hd
  unfold voltL
  rw [rdL_flatL _ _ _ he, backL_id]
  split <;> rfl
theorem flat_conj {n κ : Nat} {t f : List Int} (h : VN n κ t f (flatL κ (n / 2))) (u : Nat) : conjV n t f (flatL κ (n / 2)) u (idL κ) = flatL κ (n / 2) := by
  refine listL_ext (by rw [conjV_length]) (fun e he => ?_)
  rw [conjV_length] at he
  rw [rdL_conjV _ _ _ _ _ _ he]
  rw [flatL_length] at he
  unfold conjE
  rw [rdL_flatL _ _ _ he, backL_id, (mulL_id (idL_perm κ)).1]
  split <;> split <;> first | rfl | exact (mulL_id (idL_perm κ)).1
theorem flat_tree {κ : Nat} {t f : List Int} (hM : MOK t f) (h : VN t.length κ t f (flatL κ (t.length / 2))) : treeV t.length t f (flatL κ (t.length / 2)) = flatL κ (t.length / 2) := by
  have hq := (order_perm hM).1
  have : ∀ m, m ≤ t.length → (tRun t.length t f (orderL t.length t f 0) (tStart t.length t (flatL κ (t.length / 2))) m).2 = flatL κ (t.length / 2) := by
    intro m
    induction m with
    | zero => intro _; rfl
    | succ m ih =>
      intro hm
      have i1 := ih (by omega)
      unfold tRun tStep
      rw [i1]
      split
      · show conjV _ _ _ _ _ (backL (voltL f (flatL κ (t.length / 2)) _)) = _
        rw [flat_volt h (hq.fn (show m < t.length by omega)).2, backL_id, flat_conj h]
      · exact i1
  exact this t.length (Nat.le_refl _)
theorem VN.small {n κ : Nat} {t f : List Int} {v : List (List Int)} (h : VN n κ t f v) : Small v := by
  have := h.vl
  have := h.n1
  have := h.k1
  exact ⟨by omega, fun i hi => by have := (h.vp i hi).1.1; omega⟩
noncomputable def ccV (t f : List Int) (k : Int) (v : List (List Int)) (d : Int) (b : List Int) : List (List Int) × Bool := if dec (VOK t f k v ∧ (0 ≤ d ∧ d < (t.length : Int)) ∧ POK b ∧ (b.length : Int) = k) = true then (conjV t.length t f v (vtx t.length t d.toNat) b, true) else ([], false)
theorem totL_bd {m : Nat} : ∀ v : List (List Int), (∀ x ∈ v, x.length ≤ m) → totL v ≤ v.length * m
  | [], _ => by simp [totL]
  | x :: v, h => by
    have := totL_bd v (fun y hy => h y (List.mem_cons_of_mem _ hy))
    have := h x (List.mem_cons_self ..)
    simp only [totL, List.length_cons, Nat.succ_mul]; omega
theorem Small.tot {v : List (List Int)} (h : Small v) : totL v ≤ 1099511627776 := by
  have h1 := totL_bd (m := 1048576) v (fun x hx => by
    obtain ⟨i, hi, e⟩ := List.getElem_of_mem hx
    have := h.2 i hi
    rw [rdL_nat v i hi, e] at this
    exact this)
  have h2 : v.length * 1048576 ≤ 1048576 * 1048576 := Nat.mul_le_mul_right _ h.1
  omega
theorem ccV_small (t f : List Int) (k : Int) (v : List (List Int)) (d : Int) (b : List Int) : Small (ccV t f k v d b).1 := by
  unfold ccV
  split
  · rename_i h
    obtain ⟨hV, hd, hb, hbk⟩ := dec_iff.1 h
    obtain ⟨κ, rfl, hN⟩ := hV.vn
    have hbp := hb.2
    rw [show b.length = κ by omega] at hbp
    exact (conjV_vn hN hbp _).small
  · exact ⟨by simp, fun j hj => absurd hj (by simp)⟩
noncomputable def trV (t f : List Int) (k : Int) (v : List (List Int)) : List (List Int) × Bool := if dec (VOK t f k v) = true then (treeV t.length t f v, true) else ([], false)
theorem trV_small (t f : List Int) (k : Int) (v : List (List Int)) : Small (trV t f k v).1 := by
  unfold trV
  split
  · rename_i h
    have hV := dec_iff.1 h
    obtain ⟨κ, rfl, hN⟩ := hV.vn
    exact (treeV_ok hV.1 hN).1.small
  · exact ⟨by simp, fun j hj => absurd hj (by simp)⟩

end Go.Proofs.YtjebcgbmlbemcaaGreatDoor.M
