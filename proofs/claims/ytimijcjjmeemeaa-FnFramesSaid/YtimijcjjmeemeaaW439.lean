/- What the function that writes a frame's text returns: walked in the given program. -/
import Derived.Test.YtimijcjjmeemeaaRow3
import Derived.Test.YtimijcjjmeemeaaShelf
import Derived.WalkKit
import Derived.BigCall
import Derived.Lib.OthersKept
set_option linter.unusedVariables false
set_option linter.unusedSimpArgs false
namespace Fb
open Go Go.Proofs Go.RowKit
theorem box_cell (w : World) (cs : Array Value) (t : TypeId) (i : Nat) : (w.alloc (.cells cs t)).cell? ⟨w.heap.size, i, none⟩ = cs[i]? := by
  unfold World.cell?
  have : (w.alloc (.cells cs t)).heap[w.heap.size]? = some (.cells cs t) := by show (w.heap.push _)[w.heap.size]? = _; simp
  simp only [this]
  simp
theorem bld_at_below {T e : TypeId} {B b : Nat} {p : Value} {bs : List Value} {W W' : World} (h : Lib.BuilderAtF T e B b p bs W) (hb : Below W.heap.size W W') : Lib.BuilderAtF T e B b p bs W' := by
  have hlt := h.lt
  obtain ⟨hB, v, hv, hown, hne⟩ := h
  exact ⟨hB, v, (hb.block b hlt).trans hv, hown.kept (row := none) ⟨hb.os, hb.tape, hb.output, hb.size, fun k hk _ => hb.block k hk⟩ (Classical.em _), hne⟩
theorem bld_below {T e : TypeId} {B b : Nat} {bs : List Value} {W W' : World} (h : Lib.IsBuilderF T e B b bs W) (hb : Below W.heap.size W W') : Lib.IsBuilderF T e B b bs W' := by
  rcases h with h | h
  · exact .inl (bld_at_below h hb)
  · exact .inr (bld_at_below h hb)
set_option maxHeartbeats 4000000 in
set_option maxRecDepth 1000000 in
theorem walk439 (a : Fin 12 → Int) (has : Nat → Nat → Bool) (F : Value) (hF : F = .agg #[.int .u16 (a 0), .int .u16 (a 1), .int .u16 (a 2), .int .u16 (a 3), .int .u16 (a 4), .int .u16 (a 5), .int .u16 (a 6), .int .u16 (a 7), .int .u16 (a 8), .int .u16 (a 9), .int .u16 (a 10), .int .u16 (a 11)])
    (h38 : ∀ (w : World) (x y : Nat), x < 12 → y < 12 → Calls Try.prog 60 #[F, .int .i64 x, .int .i64 y] w fun e w' => e = .returned (.bool (has x y)) ∧ Below w.heap.size w w') (w : World) :
    Calls Try.prog 58 #[F] w fun e w' => e = .returned (.string ⟨(txF has 12).toArray⟩) ∧ Below w.heap.size w w' := by
  subst hF
  go_enter Try.func58, Try.ntmps58
  go_wp2
  go_loopw [6] (fun v6 wr => ∃ y : Nat, v6 = .int .i64 y ∧ y ≤ 12 ∧ Lib.IsBuilderF 127 5 (w.heap.size + 1) (w.heap.size + 1) (Lib.byteCells (txF has y)) wr ∧ Below (w.heap.size + 1) (w.alloc (.cells #[.int .u16 (a 0), .int .u16 (a 1), .int .u16 (a 2), .int .u16 (a 3), .int .u16 (a 4), .int .u16 (a 5), .int .u16 (a 6), .int .u16 (a 7), .int .u16 (a 8), .int .u16 (a 9), .int .u16 (a 10), .int .u16 (a 11)] 26)) wr) (fun v6 _ => 12 - (intOf v6).toNat)
  case atStart =>
    refine ⟨0, rfl, by omega, ?_, ?_⟩
    · have := Lib.IsBuilderF.of (Lib.fresh_isBuilder 127 5 (w.alloc (.cells #[.int .u16 (a 0), .int .u16 (a 1), .int .u16 (a 2), .int .u16 (a 3), .int .u16 (a 4), .int .u16 (a 5), .int .u16 (a 6), .int .u16 (a 7), .int .u16 (a 8), .int .u16 (a 9), .int .u16 (a 10), .int .u16 (a 11)] 26)))
      have e : (w.alloc (.cells #[.int .u16 (a 0), .int .u16 (a 1), .int .u16 (a 2), .int .u16 (a 3), .int .u16 (a 4), .int .u16 (a 5), .int .u16 (a 6), .int .u16 (a 7), .int .u16 (a 8), .int .u16 (a 9), .int .u16 (a 10), .int .u16 (a 11)] 26)).heap.size = w.heap.size + 1 := by show (w.heap.push _).size = _; simp
      rw [e] at this
      exact this
    · exact (Below.refl _ _).alloc (by simp) _
  case round =>
    obtain ⟨y, rfl, hy, hI, hB⟩ := hrel
    by_cases hy12 : y < 12
    · go_wp2
      have hd : decide ((y : Int) < 12) = true := by simp; omega
      simp only [hd]
      obtain ⟨wo, rfl⟩ : ∃ wo : World, wo = wr := ⟨_, rfl⟩
      go_loopw [9] (fun v9 wr => ∃ x : Nat, v9 = .int .i64 x ∧ x ≤ 12 ∧ Lib.IsBuilderF 127 5 (w.heap.size + 1) (w.heap.size + 1) (Lib.byteCells (txF has y ++ txR has y x)) wr ∧ Below (w.heap.size + 1) (w.alloc (.cells #[.int .u16 (a 0), .int .u16 (a 1), .int .u16 (a 2), .int .u16 (a 3), .int .u16 (a 4), .int .u16 (a 5), .int .u16 (a 6), .int .u16 (a 7), .int .u16 (a 8), .int .u16 (a 9), .int .u16 (a 10), .int .u16 (a 11)] 26)) wr) (fun v9 _ => 12 - (intOf v9).toNat)
      case atStart => exact ⟨0, rfl, by omega, by simpa [txR] using hI, hB⟩
      case round =>
        obtain ⟨x, rfl, hx, hI, hB⟩ := hrel
        by_cases hx12 : x < 12
        · have hc0 : wr.cell? ⟨w.heap.size, 0, none⟩ = some (.int .u16 (a 0)) := (hB.cell (p := ⟨w.heap.size, 0, none⟩) (Nat.lt_succ_self _)).trans (box_cell w _ 26 0)
          have hc1 : wr.cell? ⟨w.heap.size, 1, none⟩ = some (.int .u16 (a 1)) := (hB.cell (p := ⟨w.heap.size, 1, none⟩) (Nat.lt_succ_self _)).trans (box_cell w _ 26 1)
          have hc2 : wr.cell? ⟨w.heap.size, 2, none⟩ = some (.int .u16 (a 2)) := (hB.cell (p := ⟨w.heap.size, 2, none⟩) (Nat.lt_succ_self _)).trans (box_cell w _ 26 2)
          have hc3 : wr.cell? ⟨w.heap.size, 3, none⟩ = some (.int .u16 (a 3)) := (hB.cell (p := ⟨w.heap.size, 3, none⟩) (Nat.lt_succ_self _)).trans (box_cell w _ 26 3)
          have hc4 : wr.cell? ⟨w.heap.size, 4, none⟩ = some (.int .u16 (a 4)) := (hB.cell (p := ⟨w.heap.size, 4, none⟩) (Nat.lt_succ_self _)).trans (box_cell w _ 26 4)
          have hc5 : wr.cell? ⟨w.heap.size, 5, none⟩ = some (.int .u16 (a 5)) := (hB.cell (p := ⟨w.heap.size, 5, none⟩) (Nat.lt_succ_self _)).trans (box_cell w _ 26 5)
          have hc6 : wr.cell? ⟨w.heap.size, 6, none⟩ = some (.int .u16 (a 6)) := (hB.cell (p := ⟨w.heap.size, 6, none⟩) (Nat.lt_succ_self _)).trans (box_cell w _ 26 6)
          have hc7 : wr.cell? ⟨w.heap.size, 7, none⟩ = some (.int .u16 (a 7)) := (hB.cell (p := ⟨w.heap.size, 7, none⟩) (Nat.lt_succ_self _)).trans (box_cell w _ 26 7)
          have hc8 : wr.cell? ⟨w.heap.size, 8, none⟩ = some (.int .u16 (a 8)) := (hB.cell (p := ⟨w.heap.size, 8, none⟩) (Nat.lt_succ_self _)).trans (box_cell w _ 26 8)
          have hc9 : wr.cell? ⟨w.heap.size, 9, none⟩ = some (.int .u16 (a 9)) := (hB.cell (p := ⟨w.heap.size, 9, none⟩) (Nat.lt_succ_self _)).trans (box_cell w _ 26 9)
          have hc10 : wr.cell? ⟨w.heap.size, 10, none⟩ = some (.int .u16 (a 10)) := (hB.cell (p := ⟨w.heap.size, 10, none⟩) (Nat.lt_succ_self _)).trans (box_cell w _ 26 10)
          have hc11 : wr.cell? ⟨w.heap.size, 11, none⟩ = some (.int .u16 (a 11)) := (hB.cell (p := ⟨w.heap.size, 11, none⟩) (Nat.lt_succ_self _)).trans (box_cell w _ 26 11)
          have hS : w.heap.size + 1 ≤ wr.heap.size := by have := hB.size; have e : ∀ o, (w.alloc o).heap.size = w.heap.size + 1 := fun o => by show (w.heap.push _).size = _; simp
                                                         rw [e] at this; exact this
          go_wp2_with (go_at_call 60; refine (h38 _ x y hx12 hy12).mono ?_)
          rintro e W1 ⟨rfl, hb1⟩
          have hI1 := bld_below hI hb1
          have hB1 := hB.trans (hb1.mono hS)
          have hS1 : w.heap.size + 1 ≤ W1.heap.size := Nat.le_trans hS hb1.size
          have hlen : (Lib.byteCells (txF has y ++ txR has y x)).length + 1 ≤ 140737488355328 := by rw [Lib.byteCells_length, List.length_append, txF_len, txR_len]; omega
          cases hh : has x y with
          | true =>
            go_wp2_with (go_at_call 113; refine (Any.Builder_WriteByte_k Try.lays167 Try.Builder_Extra_167 _ _ _ 35 _ hI1 hlen hS1).mono ?_)
            rintro e W2 ⟨rfl, h2, hb2, _⟩
            go_wp2
            go_roundw
            case rel =>
              refine ⟨x + 1, ?_, by omega, ?_, hB1.trans hb2⟩
              · simp
              · have e : Lib.byteCells (txF has y ++ txR has y (x + 1)) = Lib.byteCells (txF has y ++ txR has y x) ++ [.int .u8 35] := by
                  rw [txR, hh, ← List.append_assoc, Lib.byteCells_append]; rfl
                rw [e]; exact Or.inr h2
            case measure =>
              simp [intOf]
              omega
          | false =>
            go_wp2_with (go_at_call 113; refine (Any.Builder_WriteByte_k Try.lays167 Try.Builder_Extra_167 _ _ _ 46 _ hI1 hlen hS1).mono ?_)
            rintro e W2 ⟨rfl, h2, hb2, _⟩
            go_wp2
            go_roundw
            case rel =>
              refine ⟨x + 1, ?_, by omega, ?_, hB1.trans hb2⟩
              · simp
              · have e : Lib.byteCells (txF has y ++ txR has y (x + 1)) = Lib.byteCells (txF has y ++ txR has y x) ++ [.int .u8 46] := by
                  rw [txR, hh, ← List.append_assoc, Lib.byteCells_append]; rfl
                rw [e]; exact Or.inr h2
            case measure =>
              simp [intOf]
              omega
        · obtain rfl : x = 12 := by omega
          have hS : w.heap.size + 1 ≤ wr.heap.size := by have := hB.size; have e : ∀ o, (w.alloc o).heap.size = w.heap.size + 1 := fun o => by show (w.heap.push _).size = _; simp
                                                         rw [e] at this; exact this
          have hlen : (Lib.byteCells (txF has y ++ txR has y 12)).length + 1 ≤ 140737488355328 := by rw [Lib.byteCells_length, List.length_append, txF_len, txR_len]; omega
          go_wp2_with (go_at_call 113; refine (Any.Builder_WriteByte_k Try.lays167 Try.Builder_Extra_167 _ _ _ 10 _ hI hlen hS).mono ?_)
          rintro e W2 ⟨rfl, h2, hb2, _⟩
          go_wp2
          go_roundw
          case rel => 
            refine ⟨y + 1, ?_, by omega, ?_, hB.trans hb2⟩
            · simp
            · rw [txF, Lib.byteCells_append]; exact Or.inr h2
          case measure =>
            simp [intOf]
            omega
    · obtain rfl : y = 12 := by omega
      have hS : w.heap.size + 1 ≤ wr.heap.size := by have := hB.size; have e : ∀ o, (w.alloc o).heap.size = w.heap.size + 1 := fun o => by show (w.heap.push _).size = _; simp
                                                     rw [e] at this; exact this
      go_wp2_with (go_at_call 114; refine (Any.Builder_String_any_k Try.lays169 Try.Builder_Extra_169 _ _ (txF has 12) _ hI hS).mono ?_)
      rintro e W2 ⟨rfl, h2, hb2, _⟩
      go_wp2
      go_ret
      exact ⟨rfl, ((Below.refl w.heap.size w).alloc (Nat.le_refl _) _).trans ((hB.trans hb2).mono (Nat.le_succ _))⟩
end Fb
