import Derived.Test.YtpfnchjbbagmdaaMU
import Derived.Test.YtpfnchjbbagmdaaMQ
import Derived.Test.YtpfnchjbbagmdaaMT
set_option linter.unusedVariables false
set_option linter.unusedSimpArgs false
namespace Go.Proofs.Ytpfnchjbbagmdaa.M
open Go.RowKit Go.Proofs.YtpfnchjbbagmdaaW.PrintWords

/-! ### Gluings -/
def GOK (p : List Int) : Prop := 2 ≤ p.length ∧ p.length ≤ 10 ∧ p.length % 2 = 0 ∧ Pts p.length p ∧ ∀ i, i < p.length → fn p i ≠ i ∧ fn p (fn p i) = i
theorem GOK.perm {p : List Int} (h : GOK p) : PermL p.length p := ⟨h.2.2.2.1, fun i j hi hj e => by
  rw [← (h.2.2.2.2 i hi).2, e, (h.2.2.2.2 j hj).2]⟩
def tofL (p : List Int) : List Int := (List.range p.length).map (fun i => (sucN p.length (fn p i) : Int))
theorem tofL_length (p : List Int) : (tofL p).length = p.length := by simp [tofL]
theorem rd_tofL (p : List Int) (i : Nat) (h : i < p.length) : rd (tofL p) (i : Int) = sucN p.length (fn p i) := by
  rw [rd_nat _ _ (by rw [tofL_length]; exact h)]; simp [tofL]
theorem fn_tofL (p : List Int) (i : Nat) (h : i < p.length) : fn (tofL p) i = sucN p.length (fn p i) := by
  unfold fn; rw [rd_tofL p i h]; rfl
theorem tofL_perm {p : List Int} (h : PermL p.length p) : PermL p.length (tofL p) := by
  refine ⟨⟨tofL_length p, fun i hi => ?_⟩, fun i j hi hj e => ?_⟩
  · rw [rd_tofL p i hi]
    have := (sucN_spec (h.1.fn hi).2).1
    omega
  · rw [fn_tofL p i hi, fn_tofL p j hj] at e
    have e1 := (sucN_spec (h.1.fn hi).2).2
    have e2 := (sucN_spec (h.1.fn hj).2).2
    rw [e] at e1
    exact h.2 i j hi hj (e1.symm.trans e2)
def turnG (p : List Int) : List Int := (List.range p.length).map (fun j => (sucN p.length (fn p (preN p.length j)) : Int))
theorem turnG_length (p : List Int) : (turnG p).length = p.length := by simp [turnG]
theorem rd_turnG (p : List Int) (i : Nat) (h : i < p.length) : rd (turnG p) (i : Int) = sucN p.length (fn p (preN p.length i)) := by
  rw [rd_nat _ _ (by rw [turnG_length]; exact h)]; simp [turnG]
theorem fn_pars (s : ByteArray) (i : Nat) (h : i < s.size) : fn (pars s) i = par s i := by unfold fn; rw [rd_pars s i h]; rfl
theorem pars_gok {s : ByteArray} (hw : WOK s) : GOK (pars s) := by
  have hz := hw.size
  have he := hw.even
  refine ⟨by rw [pars_length]; omega, by rw [pars_length]; omega, by rw [pars_length]; exact he, ⟨rfl, fun i hi => ?_⟩, fun i hi => ?_⟩
  · rw [pars_length] at *
    rw [rd_pars s i hi]
    have := (par_spec hw hi).1
    omega
  · rw [pars_length] at hi
    obtain ⟨p1, p2, p3, p4⟩ := par_spec hw hi
    rw [fn_pars s i hi, fn_pars s _ p1]
    exact ⟨p2, par_par hw hi⟩
theorem turnG_pars {s : ByteArray} (hw : WOK s) : turnG (pars (turnS s)) = pars s := by
  have hz := hw.size
  obtain ⟨tw, tp⟩ := turn_ok hw
  have hts := turnS_size (s := s) (by omega)
  refine list_ext_rd (by rw [turnG_length, pars_length, pars_length, hts]) (fun i hi => ?_)
  rw [turnG_length, pars_length, hts] at hi
  rw [rd_turnG _ _ (by rw [pars_length, hts]; exact hi), rd_pars s i hi, pars_length, hts]
  obtain ⟨q1, q2⟩ := preN_spec hi
  rw [fn_pars _ _ (by rw [hts]; exact q1), tp _ q1, q2, (preN_spec (par_spec hw hi).1).2]
theorem cyc_congr {n : Nat} {f g : Nat → Nat} (h : ∀ i, i < n → f i = g i) : cyc n f = cyc n g := by
  have : EF n f = EF n g := by
    funext a b
    refine propext ⟨fun ⟨h1, h2⟩ => ⟨h1, by rw [← h a h1]; exact h2⟩, fun ⟨h1, h2⟩ => ⟨h1, by rw [h a h1]; exact h2⟩⟩
  unfold cyc; rw [this]
theorem gcor_pars {s : ByteArray} (hw : WSD s) : cyc (pars s).length (fn (tofL (pars s))) = corners s := by
  rw [corners_cyc hw, pars_length]
  refine cyc_congr (fun i hi => ?_)
  rw [fn_tofL _ _ (by rw [pars_length]; exact hi), pars_length, fn_pars s i hi]; rfl
theorem tmod_suc {x n : Nat} (h : x < n) (hn : n ≤ 1000) : Int.tmod (wrap64 ((x : Int) + 1)) (n : Int) = (sucN n x : Int) := by
  rw [wrap64_id (by omega) (by omega), show (x : Int) + 1 = ((x + 1 : Nat) : Int) by omega, ← Int.ofNat_tmod]
  unfold sucN
  split
  · next e => rw [e, Nat.mod_self]
  · rw [Nat.mod_eq_of_lt (by omega)]
/-- The map of a gluing hangs together and has one face. -/
theorem fn_tof_flip {p : List Int} (h : GOK p) {i : Nat} (hi : i < p.length) : fn (tofL p) (fn p i) = sucN p.length i := by
  rw [fn_tofL p _ (h.2.2.2.1.fn hi).2, (h.2.2.2.2 i hi).2]
theorem gluing_mok {p : List Int} (h : GOK p) : MOK (tofL p) p := by
  have hp := h.perm
  have ht := tofL_perm hp
  have h1 := h.1
  have h2 := h.2.1
  refine ⟨⟨by rw [tofL_length]; omega, by rw [tofL_length]; exact ht⟩, ⟨by omega, hp⟩, tofL_length p, h.2.2.2.2, fun i hi => ?_⟩
  rw [tofL_length] at hi
  have hc : ∀ i, i < p.length → Con p.length (tofL p) p 0 i := by
    intro i
    induction i with
    | zero => intro _; exact Con.refl 0
    | succ i ih =>
      intro hi
      have e := fn_tof_flip h (show i < p.length by omega)
      rw [show sucN p.length i = i + 1 by unfold sucN; rw [if_neg (by omega)]] at e
      have c1 : Con p.length (tofL p) p i (fn p i) := Con.fb (by omega)
      have c2 : Con p.length (tofL p) p (fn p i) (fn (tofL p) (fn p i)) := Con.fa (h.2.2.2.1.fn (show i < p.length by omega)).2
      rw [e] at c2
      exact (ih (by omega)).trans (c1.trans c2)
  rw [rd_orbL _ _ _ (by rw [tofL_length]; exact hi), tofL_length]
  obtain ⟨l1, l2, l3⟩ := low_spec (a := tofL p) (b := p) hi
  have := l3 0 (by omega) (hc i hi).symm
  omega
theorem gluing_genus {p : List Int} (h : GOK p) : genZ (tofL p) p = Int.tdiv (1 - (cyc p.length (fn (tofL p)) : Int) + (p.length / 2 : Nat)) 2 := by
  have h1 := h.1
  unfold genZ
  have e : cyc p.length (fn (mulL p (tofL p))) = 1 := by
    rw [← cyc_suc p.length (by omega)]
    refine cyc_congr (fun i hi => ?_)
    rw [fn_mulL h.2.2.2.1 hi, fn_tof_flip h hi]
  rw [e, tofL_length]
  congr 1
  omega

end Go.Proofs.Ytpfnchjbbagmdaa.M
