/- The table that impl.command lays: after its fifteen stores a map that reads as it should. -/
import Derived.Test.YtjebcgbmlbemcaaGreatDoorProg
import Derived.WalkKit
import Derived.WalkSpells
import Derived.WalkLawsBesides
import Derived.Maps.Own
import Derived.Maps.Range
import Derived.Lib.Builder
set_option linter.unusedVariables false
set_option linter.unusedSimpArgs false
namespace Go.Proofs.YtjebcgbmlbemcaaGreatDoor.XC
open Go.RowKit Go.WideMaps Go.Maps
set_option maxHeartbeats 1000000
theorem und80 : Tryz.prog.underlying 82 = some (.map 9 3) := by kernel_rfl
theorem und9 : Tryz.prog.underlying 9 = some .string := by kernel_rfl
theorem und3 : Tryz.prog.underlying 3 = some (.int .i64) := by kernel_rfl
theorem key80 : Keyed Tryz.prog 9 := string_keyed und9
theorem zero3 (w : World) : (zeroValue 3).run Tryz.prog w = .ok (.int .i64 0) w := by kernel_rfl
def many : DataW Unit := (((((((((((((((DataW.map []).put (.string [109, 97, 112]) (.lit (.int .i64 4))).put (.string [100, 117, 97, 108]) (.lit (.int .i64 1))).put (.string [109, 105, 114, 114, 111, 114]) (.lit (.int .i64 1))).put (.string [108, 101, 97, 115, 116]) (.lit (.int .i64 1))).put (.string [102, 111, 114, 109]) (.lit (.int .i64 2))).put (.string [100, 101, 108, 101, 116, 101]) (.lit (.int .i64 2))).put (.string [99, 111, 110, 116, 114, 97, 99, 116]) (.lit (.int .i64 2))).put (.string [116, 117, 116, 116, 101]) (.lit (.int .i64 1))).put (.string [116, 114, 101, 101]) (.lit (.int .i64 2))).put (.string [115, 104, 111, 119]) (.lit (.int .i64 1))).put (.string [99, 111, 117, 110, 116, 115]) (.lit (.int .i64 1))).put (.string [118, 97, 108, 117, 101]) (.lit (.int .i64 4))).put (.string [99, 111, 117, 110, 116]) (.lit (.int .i64 3))).put (.string [103, 108, 117, 101]) (.lit (.int .i64 3))).put (.string [99, 108, 97, 115, 115]) (.lit (.int .i64 2))
/-- The table that 'command' lays: after the fifteen stores a map that reads as 'many'. -/
theorem laid (w : World) : ∃ w1 w2 w3 w4 w5 w6 w7 w8 w9 w10 w11 w12 w13 w14 w15 : World,
  (Instr.mapUpdate 82 (.map (some w.heap.size)) (.string ⟨#[109, 97, 112]⟩) (.int .i64 4)).run Tryz.prog (w.alloc (.map #[] 0)) = .ok () w1 ∧
  (Instr.mapUpdate 82 (.map (some w.heap.size)) (.string ⟨#[100, 117, 97, 108]⟩) (.int .i64 1)).run Tryz.prog w1 = .ok () w2 ∧
  (Instr.mapUpdate 82 (.map (some w.heap.size)) (.string ⟨#[109, 105, 114, 114, 111, 114]⟩) (.int .i64 1)).run Tryz.prog w2 = .ok () w3 ∧
  (Instr.mapUpdate 82 (.map (some w.heap.size)) (.string ⟨#[108, 101, 97, 115, 116]⟩) (.int .i64 1)).run Tryz.prog w3 = .ok () w4 ∧
  (Instr.mapUpdate 82 (.map (some w.heap.size)) (.string ⟨#[102, 111, 114, 109]⟩) (.int .i64 2)).run Tryz.prog w4 = .ok () w5 ∧
  (Instr.mapUpdate 82 (.map (some w.heap.size)) (.string ⟨#[100, 101, 108, 101, 116, 101]⟩) (.int .i64 2)).run Tryz.prog w5 = .ok () w6 ∧
  (Instr.mapUpdate 82 (.map (some w.heap.size)) (.string ⟨#[99, 111, 110, 116, 114, 97, 99, 116]⟩) (.int .i64 2)).run Tryz.prog w6 = .ok () w7 ∧
  (Instr.mapUpdate 82 (.map (some w.heap.size)) (.string ⟨#[116, 117, 116, 116, 101]⟩) (.int .i64 1)).run Tryz.prog w7 = .ok () w8 ∧
  (Instr.mapUpdate 82 (.map (some w.heap.size)) (.string ⟨#[116, 114, 101, 101]⟩) (.int .i64 2)).run Tryz.prog w8 = .ok () w9 ∧
  (Instr.mapUpdate 82 (.map (some w.heap.size)) (.string ⟨#[115, 104, 111, 119]⟩) (.int .i64 1)).run Tryz.prog w9 = .ok () w10 ∧
  (Instr.mapUpdate 82 (.map (some w.heap.size)) (.string ⟨#[99, 111, 117, 110, 116, 115]⟩) (.int .i64 1)).run Tryz.prog w10 = .ok () w11 ∧
  (Instr.mapUpdate 82 (.map (some w.heap.size)) (.string ⟨#[118, 97, 108, 117, 101]⟩) (.int .i64 4)).run Tryz.prog w11 = .ok () w12 ∧
  (Instr.mapUpdate 82 (.map (some w.heap.size)) (.string ⟨#[99, 111, 117, 110, 116]⟩) (.int .i64 3)).run Tryz.prog w12 = .ok () w13 ∧
  (Instr.mapUpdate 82 (.map (some w.heap.size)) (.string ⟨#[103, 108, 117, 101]⟩) (.int .i64 3)).run Tryz.prog w13 = .ok () w14 ∧
  (Instr.mapUpdate 82 (.map (some w.heap.size)) (.string ⟨#[99, 108, 97, 115, 115]⟩) (.int .i64 2)).run Tryz.prog w14 = .ok () w15 ∧
  w15.ownsMap Tryz.prog 9 (plainElem (H := Unit) Tryz.prog 3) w.heap.size 15 many ∧ w.grownBy w15 none := by
  have o0 := World.ownsMap_made w Tryz.prog 9 (plainElem (H := Unit) Tryz.prog 3)
  have g0 := World.grownBy_alloc w (.map #[] 0) none
  obtain ⟨w1, r1, o1, g1⟩ := o0.update key80 und80 (by unfold maxLen; omega) (key := .string ⟨#[109, 97, 112]⟩) (val := .int .i64 4) (keyOf_string_mk und9 (by decide)) (plainElem_int und3 (by decide))
  obtain ⟨w2, r2, o2, g2⟩ := o1.update key80 und80 (by unfold maxLen; omega) (key := .string ⟨#[100, 117, 97, 108]⟩) (val := .int .i64 1) (keyOf_string_mk und9 (by decide)) (plainElem_int und3 (by decide))
  obtain ⟨w3, r3, o3, g3⟩ := o2.update key80 und80 (by unfold maxLen; omega) (key := .string ⟨#[109, 105, 114, 114, 111, 114]⟩) (val := .int .i64 1) (keyOf_string_mk und9 (by decide)) (plainElem_int und3 (by decide))
  obtain ⟨w4, r4, o4, g4⟩ := o3.update key80 und80 (by unfold maxLen; omega) (key := .string ⟨#[108, 101, 97, 115, 116]⟩) (val := .int .i64 1) (keyOf_string_mk und9 (by decide)) (plainElem_int und3 (by decide))
  obtain ⟨w5, r5, o5, g5⟩ := o4.update key80 und80 (by unfold maxLen; omega) (key := .string ⟨#[102, 111, 114, 109]⟩) (val := .int .i64 2) (keyOf_string_mk und9 (by decide)) (plainElem_int und3 (by decide))
  obtain ⟨w6, r6, o6, g6⟩ := o5.update key80 und80 (by unfold maxLen; omega) (key := .string ⟨#[100, 101, 108, 101, 116, 101]⟩) (val := .int .i64 2) (keyOf_string_mk und9 (by decide)) (plainElem_int und3 (by decide))
  obtain ⟨w7, r7, o7, g7⟩ := o6.update key80 und80 (by unfold maxLen; omega) (key := .string ⟨#[99, 111, 110, 116, 114, 97, 99, 116]⟩) (val := .int .i64 2) (keyOf_string_mk und9 (by decide)) (plainElem_int und3 (by decide))
  obtain ⟨w8, r8, o8, g8⟩ := o7.update key80 und80 (by unfold maxLen; omega) (key := .string ⟨#[116, 117, 116, 116, 101]⟩) (val := .int .i64 1) (keyOf_string_mk und9 (by decide)) (plainElem_int und3 (by decide))
  obtain ⟨w9, r9, o9, g9⟩ := o8.update key80 und80 (by unfold maxLen; omega) (key := .string ⟨#[116, 114, 101, 101]⟩) (val := .int .i64 2) (keyOf_string_mk und9 (by decide)) (plainElem_int und3 (by decide))
  obtain ⟨w10, r10, o10, g10⟩ := o9.update key80 und80 (by unfold maxLen; omega) (key := .string ⟨#[115, 104, 111, 119]⟩) (val := .int .i64 1) (keyOf_string_mk und9 (by decide)) (plainElem_int und3 (by decide))
  obtain ⟨w11, r11, o11, g11⟩ := o10.update key80 und80 (by unfold maxLen; omega) (key := .string ⟨#[99, 111, 117, 110, 116, 115]⟩) (val := .int .i64 1) (keyOf_string_mk und9 (by decide)) (plainElem_int und3 (by decide))
  obtain ⟨w12, r12, o12, g12⟩ := o11.update key80 und80 (by unfold maxLen; omega) (key := .string ⟨#[118, 97, 108, 117, 101]⟩) (val := .int .i64 4) (keyOf_string_mk und9 (by decide)) (plainElem_int und3 (by decide))
  obtain ⟨w13, r13, o13, g13⟩ := o12.update key80 und80 (by unfold maxLen; omega) (key := .string ⟨#[99, 111, 117, 110, 116]⟩) (val := .int .i64 3) (keyOf_string_mk und9 (by decide)) (plainElem_int und3 (by decide))
  obtain ⟨w14, r14, o14, g14⟩ := o13.update key80 und80 (by unfold maxLen; omega) (key := .string ⟨#[103, 108, 117, 101]⟩) (val := .int .i64 3) (keyOf_string_mk und9 (by decide)) (plainElem_int und3 (by decide))
  obtain ⟨w15, r15, o15, g15⟩ := o14.update key80 und80 (by unfold maxLen; omega) (key := .string ⟨#[99, 108, 97, 115, 115]⟩) (val := .int .i64 2) (keyOf_string_mk und9 (by decide)) (plainElem_int und3 (by decide))
  refine ⟨w1, w2, w3, w4, w5, w6, w7, w8, w9, w10, w11, w12, w13, w14, w15, r1, r2, r3, r4, r5, r6, r7, r8, r9, r10, r11, r12, r13, r14, r15, o15, ?_⟩
  have H : ∀ {x y : World}, w.grownBy x none → x.grownBy y (some w.heap.size) → w.grownBy y none := fun g k => g.andThen k (fun j hj => by cases hj; exact Or.inl (Nat.le_refl _))
  exact H (H (H (H (H (H (H (H (H (H (H (H (H (H (H g0 g1) g2) g3) g4) g5) g6) g7) g8) g9) g10) g11) g12) g13) g14) g15
end Go.Proofs.YtjebcgbmlbemcaaGreatDoor.XC
