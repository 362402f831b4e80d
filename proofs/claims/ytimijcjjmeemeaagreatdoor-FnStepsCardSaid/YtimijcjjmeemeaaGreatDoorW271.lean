/- What the function that writes the text of steps returns: walked in the given program. -/
import Derived.Test.YtimijcjjmeemeaaGreatDoorSoundZ
import Derived.Test.YtimijcjjmeemeaaGreatDoorShelf
import Derived.WalkKit
import Derived.BigCall
import Derived.Lib.OthersKept
set_option linter.unusedVariables false
set_option linter.unusedSimpArgs false
namespace Fb
open Go Go.Proofs Go.RowKit
theorem bytes_app (a b : List UInt8) : ((⟨a.toArray⟩ : ByteArray) ++ ⟨b.toArray⟩) = ⟨(a ++ b).toArray⟩ := by
  congr 1
theorem bldAt_up {T e : TypeId} {B b : Nat} {p : Value} {bs : List Value} {w w' : World} (h : Lib.BuilderAtF T e B b p bs w) (u : Up B w w') : Lib.BuilderAtF T e B b p bs w' := by
  have hlt := h.lt
  obtain ⟨hB, v, hv, ⟨h1, h2⟩, hne⟩ := h
  refine ⟨hB, v, (u.blk b hB hlt).trans hv, ⟨h1, ?_⟩, hne⟩
  rcases h2 with h2 | ⟨g, cap, cur, fz, e1, e2, e3, e4⟩
  · exact .inl h2
  · exact .inr ⟨g, cap, cur, fz, e1, e2, (u.blk g e2 (Array.getElem?_eq_some_iff.1 e3).1).trans e3, e4⟩
theorem bld_up {T e : TypeId} {B b : Nat} {bs : List Value} {w w' : World} (h : Lib.IsBuilderF T e B b bs w) (u : Up B w w') : Lib.IsBuilderF T e B b bs w' := by
  rcases h with h | h
  · exact .inl (bldAt_up h u)
  · exact .inr (bldAt_up h u)
theorem Up.below {B : Nat} {w w' : World} (h : Below w.heap.size w w') : Up B w w' := ⟨h.size, fun k _ hk => h.block k hk⟩
set_option maxHeartbeats 4000000 in
set_option maxRecDepth 1000000 in
theorem walk271 (p : Option Addr) (n cap : Nat) (t : Nat → List UInt8) (w0 : World) (S : World → Prop) (hn : n ≤ 1000000) (ht : ∀ i, (t i).length ≤ 1000000)
    (h163 : Calls Tryz.prog 14 #[.slice p n cap] w0 fun e w' => e = .returned (.bool true) ∧ S w' ∧ w0.heap.size ≤ w'.heap.size)
    (hstep : ∀ w w', S w → Below w0.heap.size w w' → S w')
    (hcell : ∀ w, S w → ∀ i, i < n → ∃ Bk o a0 a1 a2 a3 q m mc, p = some ⟨Bk, o, none⟩ ∧ w.cell? ⟨Bk, o + i * 5, none⟩ = some (.int .i8 a0) ∧ w.cell? ⟨Bk, o + i * 5 + 1, none⟩ = some (.int .i8 a1) ∧ w.cell? ⟨Bk, o + i * 5 + 2, none⟩ = some (.int .i8 a2) ∧
      w.cell? ⟨Bk, o + i * 5 + 3, none⟩ = some (.int .i8 a3) ∧ w.cell? ⟨Bk, o + i * 5 + 4, none⟩ = some (.slice q m mc) ∧
      ∀ w2, Below w.heap.size w w2 → Calls Tryz.prog 32 #[.agg #[.int .i8 a0, .int .i8 a1, .int .i8 a2, .int .i8 a3, .slice q m mc]] w2 fun e w' => e = .returned (.string ⟨(t i).toArray⟩) ∧ S w' ∧ Up w0.heap.size w2 w') :
    Calls Tryz.prog 7 #[.slice p n cap] w0 fun e w' => e = .returned (.string ⟨(catT t n).toArray⟩) ∧ S w' := by
  have hcat : ∀ i, (catT t i).length ≤ i * 1000001 := fun i => by
    induction i with
    | zero => simp [catT]
    | succ i ih => have := ht i; simp [catT]; omega
  go_enter Tryz.func7, Tryz.ntmps7
  go_wp2_with (go_at_call 14; refine h163.mono ?_)
  rintro e w1 ⟨rfl, hS1, hz1⟩
  go_wp2
  go_loopw [11] (fun v11 wr => ∃ i : Nat, v11 = .int .i64 i ∧ i ≤ n ∧ Lib.IsBuilderF 69 5 w1.heap.size w1.heap.size (Lib.byteCells (catT t i)) wr ∧ S wr ∧ w1.heap.size + 1 ≤ wr.heap.size) (fun v11 _ => n - (intOf v11).toNat)
  case atStart =>
    refine ⟨0, rfl, by omega, Lib.IsBuilderF.of (Lib.fresh_isBuilder 69 5 w1), hstep _ _ hS1 ((Below.refl _ _).alloc hz1 _), ?_⟩
    show w1.heap.size + 1 ≤ (w1.heap.push _).size
    simp
  case round =>
    obtain ⟨i, rfl, hi, hI, hS, hz⟩ := hrel
    by_cases hin : i < n
    · obtain ⟨Bk, o, a0, a1, a2, a3, q, m, mc, rfl, hc0, hc1, hc2, hc3, hc4, hcall⟩ := hcell wr hS i hin
      have hd : decide ((i : Int) < (n : Int)) = true := by simp; omega
      have hw2 : Below wr.heap.size wr (wr.alloc (Obj.cells #[.int .i8 a0, .int .i8 a1, .int .i8 a2, .int .i8 a3, .slice q m mc] 51)) := (Below.refl _ _).alloc (Nat.le_refl _) _
      go_wp2_with (go_at_call 32; refine (hcall _ hw2).mono ?_)
      rintro e w2 ⟨rfl, hS2, hU2⟩
      have hI2 := bld_up (bld_up hI (Up.below hw2)) ⟨hU2.size, fun k hk hlt => hU2.blk k (Nat.le_trans hz1 hk) hlt⟩
      have hz2 : w1.heap.size ≤ w2.heap.size := Nat.le_trans (Nat.le_trans (Nat.le_of_succ_le hz) hw2.size) hU2.size
      have hl2 : (Lib.byteCells (catT t i)).length + (t i ++ [10]).length ≤ 140737488355328 := by
        have h1 := hcat i
        have h2 := ht i
        have h3 := Nat.mul_le_mul_right 1000001 (show i ≤ 1000000 by omega)
        rw [Lib.byteCells_length, List.length_append]
        simp only [List.length_cons, List.length_nil]
        omega
      have hap : ((⟨(t i).toArray⟩ : ByteArray) ++ ⟨#[10]⟩) = ⟨(t i ++ [10]).toArray⟩ := bytes_app (t i) [10]
      have hl3 : (Lib.byteCells (catT t i)).length + ((⟨(t i).toArray⟩ : ByteArray) ++ ⟨#[10]⟩).size ≤ 140737488355328 := by rw [hap, Lib.size_eq]; exact hl2
      go_wp2_with (go_at_call 31; refine (Any.Builder_WriteString_k Tryz.lays166 Tryz.Builder_Extra_166 _ _ _ _ _ hI2 hl3 hz2).mono ?_)
      · exfalso; have := ht i; omega
      · rintro e w3 ⟨rfl, h3, hb3, _⟩
        go_wp2
        go_roundw
        case rel =>
          refine ⟨i + 1, ?_, by omega, ?_, hstep _ _ hS2 (hb3.mono hz1), ?_⟩
          · simp
          · rw [hap] at h3
            have e : Lib.byteCells (catT t (i + 1)) = Lib.byteCells (catT t i) ++ Lib.byteCells (t i ++ [10]) := by rw [catT, Lib.byteCells_append]
            rw [e]
            have e2 : Lib.strCells ⟨(t i ++ [10]).toArray⟩ = Lib.byteCells (t i ++ [10]) := by unfold Lib.strCells Lib.byteCells; rw [List.toList_toArray]
            rw [e2] at h3
            exact Or.inr h3
          · exact Nat.le_trans (Nat.le_trans (Nat.le_trans hz hw2.size) hU2.size) hb3.size
        case measure =>
          simp [intOf]
          omega
    · obtain rfl : i = n := by omega
      go_wp2_with (go_at_call 33; refine (Any.Builder_String_any_k Tryz.lays169 Tryz.Builder_Extra_169 _ _ (catT t i) _ hI (Nat.le_of_succ_le hz)).mono ?_)
      rintro e w2 ⟨rfl, h2, hb2, _⟩
      go_wp2
      go_ret
      exact ⟨rfl, hstep _ _ hS (hb2.mono hz1)⟩
theorem walk271_no (x : Value) (w0 : World) (S : World → Prop) (h163 : Calls Tryz.prog 14 #[x] w0 fun e w' => e = .returned (.bool false) ∧ S w') :
    Calls Tryz.prog 7 #[x] w0 fun e w' => e = .returned (.string ⟨#[]⟩) ∧ S w' := by
  go_enter Tryz.func7, Tryz.ntmps7
  go_wp2_with (go_at_call 14; refine h163.mono ?_)
  rintro e w1 ⟨rfl, hS1⟩
  go_wp2
  go_ret
  exact ⟨rfl, hS1⟩
end Fb
