import Derived.Lib.ItoaNum
import Derived.Lib.Atoi
import Derived.Test.YtjebcgbmlbemcaaGreatDoorMTY
import Derived.Test.YtjebcgbmlbemcaaGreatDoorMXS
set_option linter.unusedVariables false
set_option linter.unusedSimpArgs false
namespace Go.Proofs.YtjebcgbmlbemcaaGreatDoor.M
open Go.RowKit Go.Proofs.YtjebcgbmlbemcaaGreatDoorW.PrintWords

/-! ### Texts of permutations -/
def CycOk (n : Nat) (f : Nat → Nat) (c : List Int) : Prop := 1 ≤ c.length ∧ ∀ j : Nat, j < c.length → ∃ v : Nat, v < n ∧ rd c (j : Int) = (v : Int) ∧ rd c (((j + 1) % c.length : Nat) : Int) = (f v : Int)
theorem rd_cycOf (f : Nat → Nat) (x : Nat) {j : Nat} (h : j < per f x) : rd (cycOf f x) (j : Int) = (itr f j x : Int) := by
  rw [rd_nat _ _ (by rw [cycOf_length]; exact h)]
  simp [cycOf]
theorem cycOf_ok {n : Nat} {f g : Nat → Nat} (h : PermN n f g) {x : Nat} (hx : x < n) : CycOk n f (cycOf f x) := by
  obtain ⟨p1, p2, p3, p4⟩ := per_spec h hx
  refine ⟨by rw [cycOf_length]; exact p1, fun j hj => ?_⟩
  rw [cycOf_length] at hj ⊢
  refine ⟨itr f j x, itr_lt h hx j, rd_cycOf f x hj, ?_⟩
  rw [rd_cycOf f x (Nat.mod_lt _ (by omega))]
  by_cases e : j + 1 < per f x
  · rw [Nat.mod_eq_of_lt e]; rfl
  · have e2 : j + 1 = per f x := by omega
    rw [e2, Nat.mod_self]
    show ((x : Nat) : Int) = ((itr f (j + 1) x : Nat) : Int)
    rw [e2, p3]
theorem cycL_ok {n : Nat} {f g : Nat → Nat} (h : PermN n f g) {c : List Int} (hc : c ∈ cycL n f) : CycOk n f c := by
  obtain ⟨x, hx, rfl⟩ := List.mem_map.1 hc
  exact cycOf_ok h (List.mem_range.1 (List.mem_filter.1 hx).1)
theorem cycL_all {n : Nat} {f g : Nat → Nat} (h : PermN n f g) {d : Nat} (hd : d < n) : ∃ c, c ∈ cycL n f ∧ Holds c (d : Int) := by
  obtain ⟨i, hi, hh⟩ := cycL_holds h hd
  exact ⟨_, List.getElem_mem hi, by rw [← rdL_nat _ _ hi]; exact hh⟩
def totC : List (List Int) → Nat
  | [] => 0
  | c :: cs => c.length + totC cs
theorem totC_append (a b : List (List Int)) : totC (a ++ b) = totC a + totC b := by
  induction a with
  | nil => simp [totC]
  | cons c a ih => simp only [List.cons_append, totC, ih]; omega
theorem totC_up (n : Nat) (f : Nat → Nat) : ∀ i, totC (cycUp n f i) = sumN (fun r => if lstB (EF n f) r = true then per f r * 1 else 0) i
  | 0 => rfl
  | i + 1 => by
    have ih := totC_up n f i
    simp only [sumN]
    cases h : lstB (EF n f) i with
    | true => rw [cycUp_pos h, totC_append, ih, if_pos rfl]; simp [totC, cycOf_length]
    | false => rw [cycUp_neg h, ih, if_neg (by decide)]; omega
theorem totC_cycL {n : Nat} {f g : Nat → Nat} (h : PermN n f g) : totC (cycL n f) = n := by
  have := sum_cyc h (fun _ => 1)
  rw [sumN_const, Nat.mul_one] at this
  exact (totC_up n f n).trans this.symm
/-- The text of a number, of a cycle, of cycles. -/
def dB (n : Int) : List UInt8 := Lib.decDigits n.toNat
def jT (c : List Int) : List UInt8 := c.flatMap (fun m => 44 :: dB m)
def jC : List Int → List UInt8
  | [] => []
  | n :: c => dB n ++ jT c
def tC (c : List Int) : List UInt8 := 40 :: (jC c ++ [41])
def tP : List (List Int) → List UInt8
  | [] => []
  | c :: cs => if c.length < 2 then tP cs else tC c ++ tP cs
def Lo (c : List Int) : Prop := ∀ v ∈ c, 0 ≤ v ∧ v < 12
theorem dB_facts : ∀ n : Fin 12, (dB (n.val : Int)).length ≤ 2 ∧ 1 ≤ (dB (n.val : Int)).length ∧ ((dB (n.val : Int)).all fun b => decide (48 ≤ b.toNat ∧ b.toNat ≤ 57)) = true ∧ Lib.atoi (dB (n.val : Int)) = some (n.val : Int) := by decide +kernel
theorem dB_of {v : Int} (h : 0 ≤ v ∧ v < 12) : (dB v).length ≤ 2 ∧ 1 ≤ (dB v).length ∧ (∀ b ∈ dB v, 48 ≤ b.toNat ∧ b.toNat ≤ 57) ∧ Lib.atoi (dB v) = some v := by
  have := dB_facts ⟨v.toNat, by omega⟩
  have e : ((v.toNat : Nat) : Int) = v := by omega
  simp only [e] at this
  exact ⟨this.1, this.2.1, fun b hb => of_decide_eq_true (List.all_eq_true.1 this.2.2.1 b hb), this.2.2.2⟩
theorem jT_len {c : List Int} (h : Lo c) : (jT c).length ≤ 3 * c.length := by
  induction c with
  | nil => simp [jT]
  | cons v c ih =>
    have h1 := (dB_of (h v (by simp))).1
    have h2 := ih (fun w hw => h w (by simp [hw]))
    simp only [jT, List.flatMap_cons, List.length_append, List.length_cons] at h2 ⊢
    omega
theorem jC_len {c : List Int} (h : Lo c) : (jC c).length + 1 ≤ 3 * c.length + 1 ∧ (1 ≤ c.length → (jC c).length + 1 ≤ 3 * c.length) := by
  cases c with
  | nil => simp [jC]
  | cons v c =>
    have h1 := (dB_of (h v (by simp))).1
    have h2 := jT_len (fun w hw => h w (by simp [hw]) : Lo c)
    simp only [jC, List.length_append, List.length_cons]
    omega
theorem tP_len {cs : List (List Int)} (h : ∀ c ∈ cs, Lo c) : (tP cs).length ≤ 4 * totC cs := by
  induction cs with
  | nil => simp [tP]
  | cons c cs ih =>
    have ih' := ih (fun d hd => h d (by simp [hd]))
    have hc := (jC_len (h c (by simp))).2
    simp only [tP, totC]
    split
    · omega
    · simp only [tC, List.length_append, List.length_cons, List.length_nil]
      omega
/-- The signs of a text: brackets, commas, digits. -/
def Sign (b : UInt8) : Prop := b.toNat = 40 ∨ b.toNat = 41 ∨ b.toNat = 44 ∨ (48 ≤ b.toNat ∧ b.toNat ≤ 57)
theorem jT_sign {c : List Int} (h : Lo c) : ∀ b ∈ jT c, b.toNat = 44 ∨ (48 ≤ b.toNat ∧ b.toNat ≤ 57) := by
  intro b hb
  obtain ⟨v, hv, hb⟩ := List.mem_flatMap.1 hb
  rcases List.mem_cons.1 hb with rfl | hb
  · exact .inl rfl
  · exact .inr ((dB_of (h v hv)).2.2.1 b hb)
theorem jC_sign {c : List Int} (h : Lo c) : ∀ b ∈ jC c, b.toNat = 44 ∨ (48 ≤ b.toNat ∧ b.toNat ≤ 57) := by
  cases c with
  | nil => intro b hb; simp [jC] at hb
  | cons v c =>
    intro b hb
    rcases List.mem_append.1 hb with hb | hb
    · exact .inr ((dB_of (h v (by simp))).2.2.1 b hb)
    · exact jT_sign (fun w hw => h w (by simp [hw])) b hb
theorem tP_sign {cs : List (List Int)} (h : ∀ c ∈ cs, Lo c) : ∀ b ∈ tP cs, Sign b := by
  induction cs with
  | nil => intro b hb; simp [tP] at hb
  | cons c cs ih =>
    intro b hb
    simp only [tP] at hb
    split at hb
    · exact ih (fun d hd => h d (by simp [hd])) b hb
    · rcases List.mem_append.1 hb with hb | hb
      · rcases List.mem_cons.1 hb with rfl | hb
        · exact .inl rfl
        · rcases List.mem_append.1 hb with hb | hb
          · exact .inr (.inr (jC_sign (h c (by simp)) b hb))
          · obtain rfl := List.mem_singleton.1 hb; exact .inr (.inl rfl)
      · exact ih (fun d hd => h d (by simp [hd])) b hb
theorem split_jC {c : List Int} (h : Lo c) (hl : 1 ≤ c.length) : Lib.split (jC c) [44] = c.map dB := by
  have free : ∀ v : Int, 0 ≤ v ∧ v < 12 → (44 : UInt8) ∉ dB v := fun v hv hm => by have := (dB_of hv).2.2.1 _ hm; simp at this
  have key : ∀ (c : List Int) (v : Int), 0 ≤ v ∧ v < 12 → Lo c → Lib.split (dB v ++ jT c) [44] = dB v :: c.map dB := by
    intro c
    induction c with
    | nil => intro v hv _; simp only [jT, List.flatMap_nil, List.append_nil, List.map_nil]; exact xs_split_free 44 _ (free v hv)
    | cons u c ih =>
      intro v hv hc
      have e : dB v ++ jT (u :: c) = dB v ++ 44 :: (dB u ++ jT c) := by simp [jT]
      rw [e, xs_split_hit 44 _ _ (free v hv), ih u (hc u (by simp)) (fun w hw => hc w (by simp [hw]))]
      rfl
  cases c with
  | nil => simp at hl
  | cons v c => exact key c v (h v (by simp)) (fun w hw => h w (by simp [hw]))
theorem CycOk.lo {n : Nat} {f : Nat → Nat} {c : List Int} (h : CycOk n f c) (hn : n ≤ 12) : Lo c := by
  intro v hv
  obtain ⟨j, hj, e⟩ := List.getElem_of_mem hv
  obtain ⟨u, hu, e1, _⟩ := h.2 j hj
  rw [rd_nat _ _ hj, e] at e1
  omega
/-- The cycles of a permutation of at most twelve points. -/
noncomputable def cyP (p : List Int) : List (List Int) := cycL p.length (fn p)
theorem cyP_ok {p : List Int} (h : POK p) {c : List Int} (hc : c ∈ cyP p) : CycOk p.length (fn p) c := cycL_ok h.2.perm hc
theorem cyP_lo {p : List Int} (h : POK p) : ∀ c ∈ cyP p, Lo c := fun c hc => (cyP_ok h hc).lo h.1.2
theorem cyP_tot {p : List Int} (h : POK p) : totC (cyP p) = p.length := totC_cycL h.2.perm
noncomputable def txP (p : List Int) : List UInt8 := tP (cyP p)
noncomputable def pTxt (p : List Int) : ByteArray := if txP p = [] then ⟨#[40, 41]⟩ else ⟨(txP p).toArray⟩
theorem txP_len {p : List Int} (h : POK p) : (txP p).length ≤ 48 := by
  have := tP_len (cyP_lo h)
  rw [cyP_tot h] at this
  have := h.1.2
  unfold txP; omega
theorem pTxt_sign {p : List Int} (h : POK p) : ∀ b ∈ (pTxt p).data.toList, Sign b := by
  unfold pTxt
  split
  · intro b hb
    have : b = 40 ∨ b = 41 := by simpa using hb
    rcases this with rfl | rfl
    · exact .inl rfl
    · exact .inr (.inl rfl)
  · exact tP_sign (cyP_lo h)
theorem pTxt_size {p : List Int} (h : POK p) : (pTxt p).size ≤ 48 := by
  have := txP_len h
  unfold pTxt
  split
  · exact (by decide : (⟨#[40, 41]⟩ : ByteArray).size ≤ 48)
  · show (txP p).toArray.size ≤ 48
    simpa using this
theorem sign_free {l : List UInt8} (h : ∀ b ∈ l, Sign b) (c : UInt8) (hc : c.toNat = 10 ∨ c.toNat = 32) : c ∉ l := by
  intro hm
  rcases h c hm with h | h | h | h <;> omega

end Go.Proofs.YtjebcgbmlbemcaaGreatDoor.M
