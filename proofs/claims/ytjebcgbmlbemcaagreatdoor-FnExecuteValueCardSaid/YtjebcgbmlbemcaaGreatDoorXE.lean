/- impl.Execute: its loop over the lines, over any contract of impl.command. -/
import Derived.Test.YtjebcgbmlbemcaaGreatDoorXS
import Derived.Test.YtjebcgbmlbemcaaGreatDoorVMore
import Derived.Below
import Derived.Lib.AppendIntMem
namespace Go.Proofs.YtjebcgbmlbemcaaGreatDoor.XE
open Go.RowKit Go.Lib Go.Proofs.YtjebcgbmlbemcaaGreatDoorW.PrintWords
set_option maxHeartbeats 1000000
set_option linter.unusedVariables false
set_option linter.unusedSimpArgs false
/-- The words of a line, the lines of a text. -/
def wordsOf (l : ByteArray) : List ByteArray := splitB ⟨#[32]⟩ 0 (countB l ⟨#[32]⟩) l
def linesOf (t : ByteArray) : List ByteArray := splitB ⟨#[10]⟩ 0 (countB t ⟨#[10]⟩) t
theorem words_len (l : ByteArray) : (wordsOf l).length = countB l ⟨#[32]⟩ + 1 := Lib.splitB_all ⟨#[32]⟩ (Nat.le_refl 1) 0 _ l rfl
theorem lines_len (l : ByteArray) : (linesOf l).length = countB l ⟨#[10]⟩ + 1 := Lib.splitB_all ⟨#[10]⟩ (Nat.le_refl 1) 0 _ l rfl
/-- The rounds over the lines. -/
def go (F : List Int → List Int → List ByteArray → Option (ByteArray × List Int × List Int)) : List ByteArray → List Int → List Int → ByteArray → Option (List Int × List Int × ByteArray)
  | [], T, U, o => some (T, U, o)
  | l :: ls, T, U, o => if l.size ≤ 500 then (F T U (wordsOf l)).bind fun r => (if r.1.size ≤ 100000 then go F ls r.2.1 r.2.2 (o ++ (r.1 ++ ⟨#[10]⟩)) else none) else none
/-- The current map lies in block b. -/
def MapAt (w : World) (B b : Nat) (T U : List Int) : Prop := ∃ v0 v1 : Value, w.heap[b]? = some (.cells #[v0, v1] 25 (0, 0)) ∧ Kd.R (Kd.int .i64) 3 w B (fun _ => True) v0 T ∧ Kd.R (Kd.int .i64) 3 w B (fun _ => True) v1 U
/-- The table that strconv.Itoa reads lies in the world. -/
abbrev Tab (w : World) : Prop := Lib.TabIs Tryz.prog w "internal/strconv.uint64pow10" .u64 Lib.pow10Tab
theorem tab_keep {w w' : World} (h : Tab w) (hb : Below w.heap.size w w') : Tab w' := by
  unfold Tab Lib.TabIs World.var? at *
  cases hg : Tryz.prog.globalNamed "internal/strconv.uint64pow10" with
  | none => rw [hg] at h; simp at h
  | some g =>
    rw [hg] at h
    simp only [Option.bind_some] at h ⊢
    by_cases hl : g < w.heap.size
    · rw [hb.block g hl]; exact h
    · rw [Array.getElem?_eq_none (by omega)] at h; simp at h
theorem itoa_below (w : World) (k : Nat) (os : Array Obj) : Below w.heap.size w (Go.Sort.grow (w.drewN k) os) := Lib.below_grow _ _ (Nat.le_refl _) _ _
/-- What impl.command is to do. -/
def Good (w0 : World) (F : List Int → List Int → List ByteArray → Option (ByteArray × List Int × List Int)) : Prop := ∀ (T U : List Int) (ws : List ByteArray) (r : ByteArray × List Int × List Int) (B b bw : Nat) (w : World),
  F T U ws = some r → Below w0.heap.size w0 w → MapAt w B b T U → w.heap[bw]? = some (.cells (ws.map Value.string).toArray 9 (0, 0)) → B ≤ b → B ≤ w.heap.size →
  Calls Tryz.prog 34 #[.pointer (some ⟨b, 0, none⟩), .slice (some ⟨bw, 0, none⟩) ws.length ws.length] w fun e w' => e = .returned (.string r.1) ∧ MapAt w' B b r.2.1 r.2.2 ∧ w.grownBy w' (some b)
theorem lt_of_heap {w : World} {k : Nat} {o : Obj} (h : w.heap[k]? = some o) : k < w.heap.size := (Array.getElem?_eq_some_iff.1 h).1
theorem row_keep {w w' : World} {B : Nat} {v : Value} {T : List Int} (h : Kd.R (Kd.int .i64) 3 w B (fun _ => True) v T) (hk : ∀ (k : Nat) (c : Array Value), w.heap[k]? = some (.cells c 3 (0, 0)) → w'.heap[k]? = w.heap[k]?) : Kd.R (Kd.int .i64) 3 w' B (fun _ => True) v T :=
  Kd.R_mono (Kd.R_step (Kd.R_bound h) (fun k ⟨_, _, _, q, hq, c, hc⟩ _ => by
    have e : q = 3 := by simpa [Kd.int, Kd.scalar] using hq
    subst e; exact hk k c hc)) (fun _ _ => trivial)
theorem map_keep {w w' : World} {B b : Nat} {T U : List Int} (h : MapAt w B b T U) (hk : ∀ (k : Nat) (c : Array Value) (q : TypeId), w.heap[k]? = some (.cells c q (0, 0)) → q = 3 ∨ q = 25 → w'.heap[k]? = w.heap[k]?) : MapAt w' B b T U := by
  obtain ⟨v0, v1, h0, h1, h2⟩ := h
  exact ⟨v0, v1, (hk _ _ _ h0 (.inr rfl)).trans h0, row_keep h1 (fun k c hc => hk k c 3 hc (.inl rfl)), row_keep h2 (fun k c hc => hk k c 3 hc (.inl rfl))⟩
theorem map_others {w w' : World} {B b o : Nat} {T U : List Int} (h : MapAt w B b T U) (ho : ∃ c, w.heap[o]? = some (.cells c 52 (0, 0))) (hk : Lib.OthersKept 5 (some o) w w') : MapAt w' B b T U := by
  obtain ⟨co, ho⟩ := ho
  refine map_keep h (fun k c q hc hq => ?_)
  rw [hk k _ hc ?_ ?_, hc]
  · intro e; obtain rfl := Option.some.inj e; rw [ho] at hc; rcases hq with rfl | rfl <;> simp at hc
  · intro c' fz e; rcases hq with rfl | rfl <;> simp at e
theorem map_alloc {w : World} {B b : Nat} {T U : List Int} (h : MapAt w B b T U) (o : Obj) : MapAt (w.alloc o) B b T U :=
  map_keep h (fun k c q hc _ => Below.heap_alloc w o k (lt_of_heap hc))
theorem is_grown {w w' : World} {B b m : Nat} {bs : List Value} (h : Lib.IsBuilder 52 5 B b bs w) (hm : ∃ c, w.heap[m]? = some (.cells c 25 (0, 0))) (hg : w.grownBy w' (some m)) : Lib.IsBuilder 52 5 B b bs w' := by
  obtain ⟨cm, hm⟩ := hm
  have at_ : ∀ p, Lib.BuilderAt 52 5 B b p bs w → Lib.BuilderAt 52 5 B b p bs w' := by
    rintro p ⟨hB, v, hb, ho, hne⟩
    refine ⟨hB, v, ?_, ho.kept hg ?_, hne⟩
    · rw [hg.block b (lt_of_heap hb) (fun e => by obtain rfl := Option.some.inj e; rw [hm] at hb; simp at hb)]; exact hb
    · rcases hv : v.ownBlock with _ | g
      · exact .inl rfl
      · refine .inr (fun e => ?_)
        obtain rfl := Option.some.inj e
        obtain ⟨c, fz, hc⟩ := XS.own_kind ho _ hv
        rw [hm] at hc; simp at hc
  rcases h with h | h
  · exact .inl (at_ _ h)
  · exact .inr (at_ _ h)
theorem is_alloc {w : World} {B b : Nat} {bs : List Value} (h : Lib.IsBuilder 52 5 B b bs w) (o : Obj) : Lib.IsBuilder 52 5 B b bs (w.alloc o) := by
  have at_ : ∀ p, Lib.BuilderAt 52 5 B b p bs w → Lib.BuilderAt 52 5 B b p bs (w.alloc o) := by
    rintro p ⟨hB, v, hb, ho, hne⟩
    exact ⟨hB, v, (Below.heap_alloc w o b (lt_of_heap hb)).trans hb, ho.alloc o, hne⟩
  rcases h with h | h
  · exact .inl (at_ _ h)
  · exact .inr (at_ _ h)
theorem is_block {w : World} {B b : Nat} {bs : List Value} (h : Lib.IsBuilder 52 5 B b bs w) : ∃ c, w.heap[b]? = some (.cells c 52 (0, 0)) := by
  rcases h with ⟨_, v, hb, _⟩ | ⟨_, v, hb, _⟩ <;> exact ⟨_, hb⟩
theorem map_block {w : World} {B b : Nat} {T U : List Int} (h : MapAt w B b T U) : ∃ c, w.heap[b]? = some (.cells c 25 (0, 0)) := by
  obtain ⟨v0, v1, h0, _⟩ := h; exact ⟨_, h0⟩
theorem row_lit (w : World) (B g : Nat) (hB : B ≤ g) (h : w.heap[g]? = some (.cells #[.int .i64 1, .int .i64 0] 3 (0, 0))) : Kd.R (Kd.int .i64) 3 w B (fun _ => True) (.slice (some ⟨g, 0, none⟩) 2 2) [1, 0] :=
  Kd.R_of_own (enc := Value.int .i64) ⟨rfl, .inr ⟨g, 2, _, rfl, hB, h, Nat.le_refl _, by decide, rfl, rfl⟩⟩ (fun _ _ => trivial)
theorem strCells_append (a b : ByteArray) : strCells (a ++ b) = strCells a ++ strCells b := by simp [strCells]
/-- What holds at the head of round kk. -/
def Rel (F : List Int → List Int → List ByteArray → Option (ByteArray × List Int × List Int)) (L : List ByteArray) (fin : List Int × List Int × ByteArray) (w : World) (kk : Nat) (wr : World) : Prop :=
  ∃ (T U : List Int) (o : ByteArray), go F (L.dropLast.drop kk) T U o = some fin ∧ MapAt wr w.heap.size (w.heap.size + 1 + 1) T U ∧ Lib.IsBuilder 52 5 w.heap.size (w.heap.size + 1 + 1 + 1) (strCells o) wr ∧
    wr.heap[w.heap.size + 1 + 1 + 1 + 1]? = some (.cells (L.map Value.string).toArray 9 (0, 0)) ∧ Below w.heap.size w wr ∧ o.size ≤ kk * 100001
theorem rel_start (F) (L : List ByteArray) (fin : List Int × List Int × ByteArray) (w : World) (h : go F L.dropLast [1, 0] [1, 0] ⟨#[]⟩ = some fin) :
    Rel F L fin w 0 (((((w.alloc (.cells #[.int .i64 1, .int .i64 0] 3)).alloc (.cells #[.int .i64 1, .int .i64 0] 3)).alloc (.cells #[.slice (some ⟨w.heap.size, 0, none⟩) 2 2, .slice (some ⟨w.heap.size + 1, 0, none⟩) 2 2] 25)).alloc (.cells #[.pointer none, .slice none 0 0] 52)).alloc (.cells (L.map Value.string).toArray 9)) := by
  have p : ∀ (x : World) (y : Obj), (x.alloc y).heap.size = x.heap.size + 1 := fun x y => by simp
  obtain ⟨w1, h1⟩ : ∃ x, w.alloc (.cells #[.int .i64 1, .int .i64 0] 3) = x := ⟨_, rfl⟩
  obtain ⟨w2, h2⟩ : ∃ x, w1.alloc (.cells #[.int .i64 1, .int .i64 0] 3) = x := ⟨_, rfl⟩
  obtain ⟨w3, h3⟩ : ∃ x, w2.alloc (.cells #[.slice (some ⟨w.heap.size, 0, none⟩) 2 2, .slice (some ⟨w.heap.size + 1, 0, none⟩) 2 2] 25) = x := ⟨_, rfl⟩
  obtain ⟨w4, h4⟩ : ∃ x, w3.alloc (.cells #[.pointer none, .slice none 0 0] 52) = x := ⟨_, rfl⟩
  obtain ⟨wa, h5⟩ : ∃ x, w4.alloc (.cells (L.map Value.string).toArray 9) = x := ⟨_, rfl⟩
  have s1 : w1.heap.size = w.heap.size + 1 := by rw [← h1]; exact p _ _
  have s2 : w2.heap.size = w.heap.size + 1 + 1 := by rw [← h2, p, s1]
  have s3 : w3.heap.size = w.heap.size + 1 + 1 + 1 := by rw [← h3, p, s2]
  have s4 : w4.heap.size = w.heap.size + 1 + 1 + 1 + 1 := by rw [← h4, p, s3]
  have nw : ∀ (x : World) (c : Array Value) (e : TypeId) (j : Nat), j = x.heap.size → (x.alloc (.cells c e)).heap[j]? = some (.cells c e (0, 0)) := fun x c e j hj => by subst hj; exact heap_alloc_new _ _
  have n1 := nw w #[.int .i64 1, .int .i64 0] 3 w.heap.size rfl
  have n2 := nw w1 #[.int .i64 1, .int .i64 0] 3 (w.heap.size + 1) s1.symm
  have n3 := nw w2 #[.slice (some ⟨w.heap.size, 0, none⟩) 2 2, .slice (some ⟨w.heap.size + 1, 0, none⟩) 2 2] 25 (w.heap.size + 1 + 1) s2.symm
  have n4 := nw w3 #[.pointer none, .slice none 0 0] 52 (w.heap.size + 1 + 1 + 1) s3.symm
  have e4 : wa.heap[w.heap.size + 1 + 1 + 1 + 1]? = some (.cells (L.map Value.string).toArray 9 (0, 0)) := by rw [← h5]; exact nw w4 _ 9 _ s4.symm
  rw [h1] at n1; rw [h2] at n2; rw [h3] at n3; rw [h4] at n4
  have o5 : ∀ k, k < w.heap.size + 1 + 1 + 1 + 1 → wa.heap[k]? = w4.heap[k]? := fun k hk => by rw [← h5]; exact Below.heap_alloc _ _ _ (by omega)
  have o4 : ∀ k, k < w.heap.size + 1 + 1 + 1 → w4.heap[k]? = w3.heap[k]? := fun k hk => by rw [← h4]; exact Below.heap_alloc _ _ _ (by omega)
  have o3 : ∀ k, k < w.heap.size + 1 + 1 → w3.heap[k]? = w2.heap[k]? := fun k hk => by rw [← h3]; exact Below.heap_alloc _ _ _ (by omega)
  have o2 : ∀ k, k < w.heap.size + 1 → w2.heap[k]? = w1.heap[k]? := fun k hk => by rw [← h2]; exact Below.heap_alloc _ _ _ (by omega)
  have eB : Below w.heap.size w wa := by
    rw [← h5, ← h4, ← h3, ← h2, ← h1]
    refine (((((Below.refl w.heap.size w).alloc ?_ _).alloc ?_ _).alloc ?_ _).alloc ?_ _).alloc ?_ _ <;> (try simp only [p]) <;> omega
  have e0 := (o5 _ (by omega)).trans ((o4 _ (by omega)).trans ((o3 _ (by omega)).trans ((o2 _ (by omega)).trans n1)))
  have e1 := (o5 _ (by omega)).trans ((o4 _ (by omega)).trans ((o3 _ (by omega)).trans n2))
  have e2 := (o5 _ (by omega)).trans ((o4 _ (by omega)).trans n3)
  have e3 := (o5 _ (by omega)).trans n4
  rw [h1, h2, h3, h4, h5]
  exact ⟨[1, 0], [1, 0], ⟨#[]⟩, by simpa using h, ⟨_, _, e2, row_lit _ _ _ (Nat.le_refl _) e0, row_lit _ _ _ (by omega) e1⟩, .inl ⟨by omega, _, e3, World.ownsRow_nil _ _ _ _, by simp [Value.ownBlock]⟩, e4, eB, by decide⟩
theorem rel_step (F) (L : List ByteArray) (fin : List Int × List Int × ByteArray) (w : World) (kk : Nat) (wr : World) (hk : kk < L.dropLast.length) (h : Rel F L fin w kk wr) :
    ∃ (l : ByteArray) (T U : List Int) (r : ByteArray × List Int × List Int) (o : ByteArray), L.dropLast[kk]? = some l ∧ l.size ≤ 500 ∧ r.1.size ≤ 100000 ∧ F T U (wordsOf l) = some r ∧ go F (L.dropLast.drop (kk + 1)) r.2.1 r.2.2 (o ++ (r.1 ++ ⟨#[10]⟩)) = some fin ∧ MapAt wr w.heap.size (w.heap.size + 1 + 1) T U ∧ Lib.IsBuilder 52 5 w.heap.size (w.heap.size + 1 + 1 + 1) (strCells o) wr ∧
    wr.heap[w.heap.size + 1 + 1 + 1 + 1]? = some (.cells (L.map Value.string).toArray 9 (0, 0)) ∧ Below w.heap.size w wr ∧ o.size ≤ kk * 100001 := by
  obtain ⟨T, U, o, h1, h2, h3, h4, h5, h6⟩ := h
  rw [List.drop_eq_getElem_cons hk] at h1
  simp only [go] at h1
  split at h1
  · rename_i hl
    obtain ⟨r, h7, h8⟩ := Option.bind_eq_some_iff.1 h1
    split at h8
    · rename_i hr
      exact ⟨_, T, U, r, o, List.getElem?_eq_getElem hk, hl, hr, h7, h8, h2, h3, h4, h5, h6⟩
    · cases h8
  · cases h1
theorem Builder_ws {w : World} {B b : Nat} {o : ByteArray} (h : Lib.IsBuilder 52 5 B b (strCells o) w) (s : ByteArray) (hl : (strCells o).length + s.size ≤ 140737488355328) (hB : B ≤ w.heap.size) :
    Calls Tryz.prog 33 #[.pointer (some ⟨b, 0, none⟩), .string s] w fun e w' => e = .returned (.tuple #[.int .i64 s.size, .nilIface]) ∧ Lib.IsBuilder 52 5 B b (strCells (o ++ s)) w' ∧ Below B w w' ∧ Lib.OthersKept 5 (some b) w w' :=
  (XS.Builder_WriteString B b (strCells o) s w h hl hB).mono (fun e w' h => ⟨h.1, .inr (by rw [strCells_append]; exact h.2.1), h.2.2.1, h.2.2.2⟩)
theorem digits_size : ∀ n, n < 100 → (⟨(Lib.decDigits n).toArray⟩ : ByteArray).size ≤ 2 := by
  have h : ∀ n : Fin 100, (⟨(Lib.decDigits n.val).toArray⟩ : ByteArray).size ≤ 2 := by decide +kernel
  exact fun n hn => h ⟨n, hn⟩
set_option maxRecDepth 100000 in
theorem exec (F : List Int → List Int → List ByteArray → Option (ByteArray × List Int × List Int)) (t o : ByteArray) (T U : List Int) (w : World) (hF : Good w F) (ht : t.size ≤ 500) (hT : T.length < 100) (h : go F (linesOf t).dropLast [1, 0] [1, 0] ⟨#[]⟩ = some (T, U, o)) :
    Calls Tryz.prog 10 #[.string t] w fun e w' => e = .returned (.string (o ++ (⟨#[100, 97, 114, 116, 115, 32]⟩ ++ ⟨(Lib.decDigits T.length).toArray⟩ ++ ⟨#[10]⟩))) ∧ Below w.heap.size w w' := by
  have hd : decide ((t.size : Int) > 500) = false := decide_eq_false (by omega)
  obtain ⟨dg, hdg⟩ : ∃ dg : ByteArray, (⟨(Lib.decDigits T.length).toArray⟩ : ByteArray) = dg := ⟨_, rfl⟩
  have hds : dg.size ≤ 2 := by rw [← hdg]; exact digits_size _ hT
  have hit : ∀ w, Calls Tryz.prog 35 #[.int .i64 T.length] w fun e w' => e = .returned (.string dg) ∧ w' = w := by intro w; rw [← hdg]; exact XS.itoa_small T.length hT w
  rw [hdg]
  clear hdg
  obtain ⟨L, hL⟩ : ∃ L, linesOf t = L := ⟨_, rfl⟩
  obtain ⟨nL, hnL⟩ : ∃ n, countB t ⟨#[10]⟩ = n := ⟨_, rfl⟩
  have hlen : Hid (L.length = nL + 1) := by rw [← hL, ← hnL]; exact lines_len t
  have hn : nL ≤ 500 := by rw [← hnL]; exact Nat.le_trans (Lib.countB_le ⟨#[10]⟩ (Nat.le_refl 1) t.size t (Nat.le_refl _)) ht
  have hsp : ∀ w, Calls Tryz.prog 32 #[.string t, .string ⟨#[10]⟩] w fun e w' => e = .returned (.slice (some ⟨w.heap.size, 0, none⟩) (nL + 1) (nL + 1)) ∧ w' = w.alloc (.cells (L.map Value.string).toArray 9) := by
    intro w; rw [← hL, ← hnL]; exact XS.split1 t 10 w (by omega)
  rw [hL] at h
  clear hL hnL
  have HS := rel_start F L (T, U, o) w h
  clear h
  go_enter Tryz.func10, Tryz.ntmps10
  go_wp2_with (go_at_call 32; refine (hsp _).mono ?_; rintro e w' ⟨rfl, rfl⟩)
  go_loopw [22] (fun i wr => ∃ kk : Nat, kk ≤ nL ∧ i = .int .i64 kk ∧ Rel F L (T, U, o) w kk wr) (fun i _ => nL - (RowKit.intOf i).toNat)
  case atStart => exact ⟨0, Nat.zero_le _, rfl, HS⟩
  case round =>
    obtain ⟨kk, hk, rfl, hr⟩ := hrel
    by_cases hlt : kk < nL
    · obtain ⟨l, T1, U1, r1, o1, g1, g2, g3, g4, g5, g6, g7, g8, g9, g10⟩ := rel_step F L _ w kk wr (by rw [List.length_dropLast, hlen.out]; omega) hr
      clear hr
      have hcell : wr.cell? ⟨w.heap.size + 1 + 1 + 1 + 1, kk, none⟩ = some (.string l) := by
        rw [Lib.cell_of_heap g8]
        have e : L[kk]? = some l := by rw [← g1, List.getElem?_dropLast, if_pos (by rw [hlen.out]; omega)]
        simp [e]
      have hsl : ∀ w, Calls Tryz.prog 32 #[.string l, .string ⟨#[32]⟩] w fun e w' => e = .returned (.slice (some ⟨w.heap.size, 0, none⟩) (wordsOf l).length (wordsOf l).length) ∧ w' = w.alloc (.cells ((wordsOf l).map Value.string).toArray 9) := by
        intro w; rw [words_len]; exact XS.split1 l 32 w (by omega)
      go_wp2_with (go_at_call 32; refine (hsl _).mono ?_; rintro e w' ⟨rfl, rfl⟩)
      obtain ⟨W1, hW1⟩ : ∃ W1, wr.alloc (.cells ((wordsOf l).map Value.string).toArray 9) = W1 := ⟨_, rfl⟩
      have hnew : W1.heap[wr.heap.size]? = some (.cells ((wordsOf l).map Value.string).toArray 9 (0, 0)) := by rw [← hW1]; exact heap_alloc_new _ _
      have m1 : MapAt W1 w.heap.size (w.heap.size + 1 + 1) T1 U1 := by rw [← hW1]; exact map_alloc g6 _
      have b1 : Lib.IsBuilder 52 5 w.heap.size (w.heap.size + 1 + 1 + 1) (strCells o1) W1 := by rw [← hW1]; exact is_alloc g7 _
      have z1 : W1.heap.size = wr.heap.size + 1 := by rw [← hW1]; simp
      have B1 : Below w.heap.size w W1 := by rw [← hW1]; exact g9.alloc g9.size _
      have l1 : W1.heap[w.heap.size + 1 + 1 + 1 + 1]? = some (.cells (L.map Value.string).toArray 9 (0, 0)) := by rw [← hW1, Below.heap_alloc _ _ _ (lt_of_heap g8)]; exact g8
      have hcmd := hF T1 U1 (wordsOf l) r1 w.heap.size (w.heap.size + 1 + 1) wr.heap.size W1 g4 B1 m1 hnew (by omega) B1.size
      rw [hW1]
      (with_reducible refine hcmd.mono ?_)
      clear hcmd
      rintro e w2 ⟨rfl, m2, hg2⟩
      have b2 := is_grown b1 (map_block m1) hg2
      have hsz := hg2.size
      have B2 := B1.grown hg2 B1.size (fun k hk => by cases hk; omega)
      have l2 := (hg2.block _ (lt_of_heap l1) (fun e => by have := Option.some.inj e; omega)).trans l1
      have hws := Builder_ws b2 (r1.1 ++ ⟨#[10]⟩) (by rw [strCells_length, ByteArray.size_append, show (⟨#[10]⟩ : ByteArray).size = 1 from rfl]; omega) B2.size
      go_wp2_with (go_at_call 33; (with_reducible refine hws.mono ?_); rintro e w3 ⟨rfl, b3, B3, k3⟩)
      have hsz3 := B3.size
      have R3 : Rel F L (T, U, o) w (kk + 1) w3 := by
        refine ⟨r1.2.1, r1.2.2, o1 ++ (r1.1 ++ ⟨#[10]⟩), g5, map_others m2 (is_block b2) k3, b3, ?_, B2.trans B3, by rw [ByteArray.size_append, ByteArray.size_append, show (⟨#[10]⟩ : ByteArray).size = 1 from rfl]; omega⟩
        obtain ⟨c, hb⟩ := is_block b2
        rw [k3 _ _ l2 (fun e => by have := Option.some.inj e; omega) (fun c fz e => by simp at e)]
      go_roundw
      case rel => exact ⟨kk + 1, by omega, by go_num, R3⟩
      case measure => simp [RowKit.intOf]; omega
    · obtain rfl : kk = nL := by omega
      obtain ⟨T1, U1, o1, g1, g2, g3, g4, g5, g6⟩ := hr
      rw [List.drop_eq_nil_of_le (by rw [List.length_dropLast, hlen.out]; omega)] at g1
      simp only [go, Option.some.injEq, Prod.mk.injEq] at g1
      obtain ⟨rfl, rfl, rfl⟩ := g1
      obtain ⟨v0, v1, q0, q1, q2⟩ := g2
      obtain ⟨A, c, rfl, hc, hC⟩ := Kd.R_reads q1
      have hcell : wr.cell? ⟨w.heap.size + 1 + 1, 0, none⟩ = some (.slice A T1.length c) := (Lib.cell_of_heap q0 0).trans rfl
      have hds2 : (⟨#[100, 97, 114, 116, 115, 32]⟩ ++ dg : ByteArray).size ≤ 8 := by rw [ByteArray.size_append, show (⟨#[100, 97, 114, 116, 115, 32]⟩ : ByteArray).size = 6 from rfl]; omega
      have hws := Builder_ws g3 (⟨#[100, 97, 114, 116, 115, 32]⟩ ++ dg ++ ⟨#[10]⟩) (by rw [strCells_length, ByteArray.size_append, show (⟨#[10]⟩ : ByteArray).size = 1 from rfl]; omega) g5.size
      go_wp2_with (first
        | (go_at_call 35; (with_reducible refine (hit _).mono ?_); rintro e w' ⟨rfl, rfl⟩)
        | (go_at_call 33; (with_reducible refine hws.mono ?_); rintro e w3 ⟨rfl, b3, B3, k3⟩)
        | (go_at_call 36; (with_reducible refine (XS.bstring _ _ _ _ b3 (Nat.le_trans g5.size B3.size)).mono ?_); rintro e w4 ⟨rfl, B4⟩))
      go_ret
      exact ⟨rfl, g5.trans (B3.trans B4)⟩
theorem row_of {w w' : World} {B B' : Nat} {P : Nat → Prop} {v : Value} {T : List Int} (h : Kd.R (Kd.int .i64) 3 w B' P v T) (hB : B ≤ B') (hk : ∀ (k : Nat) (c : Array Value), w.heap[k]? = some (.cells c 3 (0, 0)) → w'.heap[k]? = w.heap[k]?) : Kd.R (Kd.int .i64) 3 w' B (fun _ => True) v T :=
  row_keep (Kd.R_mono (Kd.R_lower h hB) (fun _ _ => trivial)) hk
/-- impl.become, where nothing failed. -/
theorem become_ok (b : Nat) (A0 A1 : Option Addr) (n0 n1 k0 k1 : Nat) (c : Array Value) (w : World) (hc : c.size = 2) (h : w.heap[b]? = some (.cells c 25 (0, 0))) :
    Calls Tryz.prog 79 #[.pointer (some ⟨b, 0, none⟩), .agg #[.slice A0 n0 k0, .slice A1 n1 k1], .bool true] w fun e w' => e = .returned (.string ⟨#[111, 107]⟩) ∧ w'.heap[b]? = some (.cells #[.slice A0 n0 k0, .slice A1 n1 k1] 25 (0, 0)) ∧ w.grownBy w' (some b) := by
  obtain ⟨a0, a1, rfl⟩ : ∃ a0 a1, c = #[a0, a1] := by
    rcases c with ⟨l⟩
    match l, hc with
    | [a0, a1], _ => exact ⟨a0, a1, rfl⟩
  have hlt := lt_of_heap h
  obtain ⟨W, hW⟩ : ∃ W, w.alloc (.cells #[.slice A0 n0 k0, .slice A1 n1 k1] 25) = W := ⟨_, rfl⟩
  have hb : W.heap[b]? = some (.cells #[a0, a1] 25 (0, 0)) := by rw [← hW]; exact (Below.heap_alloc _ _ _ hlt).trans h
  have hn : W.heap[w.heap.size]? = some (.cells #[.slice A0 n0 k0, .slice A1 n1 k1] 25 (0, 0)) := by rw [← hW]; exact heap_alloc_new _ _
  have hg : w.grownBy W none := by rw [← hW]; exact World.grownBy_alloc _ _ _
  have s0 : W.cell? ⟨b, 0, none⟩ = some a0 := (Lib.cell_of_heap hb 0).trans rfl
  have s1 : W.cell? ⟨b, 1, none⟩ = some a1 := (Lib.cell_of_heap hb 1).trans rfl
  have t0 : W.cell? ⟨w.heap.size, 0, none⟩ = some (.slice A0 n0 k0) := (Lib.cell_of_heap hn 0).trans rfl
  have t1 : W.cell? ⟨w.heap.size, 1, none⟩ = some (.slice A1 n1 k1) := (Lib.cell_of_heap hn 1).trans rfl
  have f0 := Lib.frozen_of_heap hb 0
  have f1 := Lib.frozen_of_heap hb 1
  have hr : ((W.setCell ⟨b, 0, none⟩ (.slice A0 n0 k0)).setCell ⟨b, 1, none⟩ (.slice A1 n1 k1)).heap[b]? = some (.cells #[.slice A0 n0 k0, .slice A1 n1 k1] 25 (0, 0)) := by simp [World.setCell, Array.getElem?_modify, hb]
  have hG : w.grownBy ((W.setCell ⟨b, 0, none⟩ (.slice A0 n0 k0)).setCell ⟨b, 1, none⟩ (.slice A1 n1 k1)) (some b) := ⟨hg.os, hg.tape, hg.output, by have := hg.size; simp [World.setCell]; omega, fun k hk hne => by
    rw [Below.heap_setCell _ _ _ _ (fun e => hne (by rw [e])), Below.heap_setCell _ _ _ _ (fun e => hne (by rw [e]))]
    exact hg.block k hk (by simp)⟩
  clear hb hn hg h
  go_enter Tryz.func79, Tryz.ntmps79
  go_wp2
  go_ret
  exact ⟨rfl, hr, hG⟩
/-- Behind a command that makes the next map: stored into 'next' (block c9) and into the current one. -/
theorem finish {w wr w3 w5 : World} {B b c9 : Nat} {T1 U1 : List Int} {x0 x1 : Value} {P0 P1 : Nat → Prop} {cn : Array Value} (hBw : B ≤ w.heap.size) (BB : Below w.heap.size w wr) (hb3 : Below wr.heap.size wr w3) (hc9 : wr.heap.size ≤ c9)
    (hnb : w3.heap[c9]? = some (.cells cn 25 (0, 0))) (hbb : ∃ c, wr.heap[b]? = some (.cells c 25 (0, 0)))
    (y0 : Kd.R (Kd.int .i64) 3 w3 wr.heap.size P0 x0 T1) (y1 : Kd.R (Kd.int .i64) 3 w3 wr.heap.size P1 x1 U1)
    (hg : ((w3.setCell ⟨c9, 0, none⟩ x0).setCell ⟨c9, 1, none⟩ x1).grownBy w5 (some b)) (hb5 : w5.heap[b]? = some (.cells #[x0, x1] 25 (0, 0))) :
    MapAt w5 B b T1 U1 ∧ w.grownBy w5 (some b) := by
  obtain ⟨cb, hbb⟩ := hbb
  have hlb := lt_of_heap hbb
  have hb3' := (hb3.block b hlb).trans hbb
  have z : ∀ k, k < w3.heap.size → k ≠ b → k ≠ c9 → w5.heap[k]? = w3.heap[k]? := fun k hk h1 h2 => by
    rw [hg.block k (by simp [World.setCell]; omega) (fun e => h1 (Option.some.inj e)), Below.heap_setCell _ _ _ _ h2, Below.heap_setCell _ _ _ _ h2]
  have hk : ∀ (k : Nat) (c : Array Value), w3.heap[k]? = some (.cells c 3 (0, 0)) → w5.heap[k]? = w3.heap[k]? := fun k c hc => z k (lt_of_heap hc) (fun e => by rw [e, hb3'] at hc; simp at hc) (fun e => by rw [e, hnb] at hc; simp at hc)
  have hs3 := hb3.size
  have hsB := BB.size
  have hs5 := hg.size
  simp [World.setCell] at hs5
  refine ⟨⟨x0, x1, hb5, row_of y0 (by omega) hk, row_of y1 (by omega) hk⟩, ⟨hg.os.trans (hb3.os.trans BB.os), hg.tape.trans (hb3.tape.trans BB.tape), hg.output.trans (hb3.output.trans BB.output), by omega, fun k hk hne => ?_⟩⟩
  rw [z k (by omega) (fun e => hne (by rw [e])) (by omega), hb3.block k (by omega), BB.block k hk]
theorem below_grown {S w5 w6 : World} {r : Option Nat} (hb : Below S.heap.size S w5) (hg : w5.grownBy w6 r) : S.grownBy w6 r :=
  ⟨hg.os.trans hb.os, hg.tape.trans hb.tape, hg.output.trans hb.output, Nat.le_trans hb.size hg.size, fun k hk hne => (hg.block k (Nat.lt_of_lt_of_le hk hb.size) hne).trans (hb.block k hk)⟩
theorem undrew {w w' : World} (h : Below w.drew.heap.size w.drew w') : Below w.heap.size w w' := ⟨h.os, h.tape, h.output, h.size, h.block⟩
theorem row_c {w : World} {B : Nat} {P : Nat → Prop} {A : Option Addr} {n k : Nat} {T : List Int} (h : Kd.R (Kd.int .i64) 3 w B P (.slice A n k) T) : Kd.C (Kd.int .i64) w A T.length T := (Kd.R_reads' h).2.2
/-- The text of a number. -/
abbrev dec (n : Nat) : ByteArray := ⟨(Lib.decDigits n).toArray⟩
theorem cell_far2 {w : World} {c9 : Nat} {x y v : Value} {p : Addr} (h : w.cell? p = some v) (hne : p.block ≠ c9) : ((w.setCell ⟨c9, 0, none⟩ x).setCell ⟨c9, 1, none⟩ y).cell? p = some v :=
  (World.cell?_of_block (by rw [Below.heap_setCell _ _ _ _ hne, Below.heap_setCell _ _ _ _ hne])).trans h
end Go.Proofs.YtjebcgbmlbemcaaGreatDoor.XE
