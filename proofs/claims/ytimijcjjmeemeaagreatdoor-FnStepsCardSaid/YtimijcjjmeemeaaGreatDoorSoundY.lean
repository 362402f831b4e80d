/- Entries of the table for calls of Go's library: out of contracts that speak of the model's calls. -/
import Derived.Test.YtimijcjjmeemeaaGreatDoorSoundX
import Derived.Test.YtimijcjjmeemeaaGreatDoorStr
import Derived.Below
import Derived.Lib.ConvBytes
import Derived.Sort.Grow
import Derived.Deep.Draws
set_option linter.unusedVariables false
set_option linter.unusedSimpArgs false
namespace Fb
open Go Go.RowKit

/-- The protected memory is in place. -/
def Sees (Gl : Glb) (w : World) : Prop := ∀ B o, Gl B = some o → w.heap[B]? = some o
theorem Prot.sees {Gl : Glb} {C : Cx} {w : World} (h : Prot Gl C w) : Sees Gl w := fun B o hg => (h.is B o hg).1
theorem VRs.mk_tup {C : Cx} {l l' : List Value} (h : VRs C l l') : VR C (tup l) (.tuple l'.toArray) :=
  .tup (by simpa using h.1) fun i h1 h2 => by
    have := h.2 i (by simpa using h1) (by simpa using h2)
    simpa using this
theorem VRs.two {C : Cx} {a b : Value} {l : List Value} (h : VRs C [a, b] l) : ∃ a' b', l = [a', b'] ∧ VR C a a' ∧ VR C b b' := by
  obtain ⟨h1, h2⟩ := h
  match l, h1 with
  | [a', b'], _ => exact ⟨a', b', rfl, h2 0 (by simp) (by simp), h2 1 (by simp) (by simp)⟩
theorem VRs.three {C : Cx} {a b c : Value} {l : List Value} (h : VRs C [a, b, c] l) : ∃ a' b' c', l = [a', b', c'] ∧ VR C a a' ∧ VR C b b' ∧ VR C c c' := by
  obtain ⟨h1, h2⟩ := h
  match l, h1 with
  | [a', b', c'], _ => exact ⟨a', b', c', rfl, h2 0 (by simp) (by simp), h2 1 (by simp) (by simp), h2 2 (by simp) (by simp)⟩
theorem Ext.below {n0 B0 : Nat} {C : Cx} {w w' : World} (hW : WR C w) (hb : Below w.heap.size w w') (hB : B0 ≤ w.heap.size) : Ext n0 B0 C w C w' :=
  ⟨.refl C, Nat.le_refl _, fun b B δ h => .inl ⟨h, (hW.lt h).1⟩, hb.size, fun b _ h => ⟨h, rfl⟩, fun B h _ => hb.block B (by omega), ⟨hb.os, hb.output, hb.tape⟩, fun a ha => hb.frozen ha⟩
theorem WR.below {C : Cx} {w w' : World} (hW : WR C w) (hb : Below w.heap.size w w') : WR C w' := by
  refine ⟨fun b B δ hs => ?_, hW.one⟩
  obtain ⟨k, hk, cs, elem, fz, hB, r⟩ := hW.blk b B δ hs
  exact ⟨k, hk, cs, elem, fz, (hb.block B (hW.lt hs).2).trans hB, r⟩
theorem Acts.below {C : Cx} {w w' : World} {v v' : Value} (hW : WR C w) (hb : Below w.heap.size w w') (hv : VR C v v') : Acts C.H.length w.heap.size C w C.H v v' w' :=
  ⟨C, rfl, hW.below hb, .below hW hb (Nat.le_refl _), hv⟩
theorem below_drewN (w : World) (n : Nat) : Below w.heap.size w (w.drewN n) := ⟨rfl, rfl, rfl, Nat.le_refl _, fun _ _ => rfl⟩
theorem below_grow (w : World) (n : Nat) (os : Array Obj) : Below w.heap.size w (Go.Sort.grow (w.drewN n) os) :=
  ⟨rfl, rfl, rfl, by simp [Go.Sort.grow, World.drewN], fun k hk => by simp [Go.Sort.grow, World.drewN, Array.getElem?_append_left hk]⟩
theorem below_bytes (w : World) (e : TypeId) (s : ByteArray) : Below w.heap.size w (Lib.bytesWorld w e s) := by
  refine ⟨?_, ?_, ?_, by rw [Lib.bytesWorld_size]; omega, fun k hk => Lib.bytesWorld_at_old w e s k hk⟩ <;>
    (unfold Lib.bytesWorld World.freeze; split <;> rfl)
theorem VRs.strs {C : Cx} {l : List (List UInt8)} : VRs C (l.map str) (l.map str) := ⟨rfl, fun i h1 h2 => by simpa [str] using VR.string _⟩
theorem strs_flat {l : List (List UInt8)} : Flat (l.map str) := fun v hv => by
  obtain ⟨s, _, rfl⟩ := List.mem_map.1 hv
  rfl
/-- A new block with a new slice of it. -/
theorem Acts.fresh {C : Cx} {w : World} (hW : WR C w) {l : List Value} {esz n : Nat} (hn : l.length = n * esz) (hf : Flat l) (hr : VRs C l l) {t : TypeId} :
    Acts C.H.length w.heap.size C w (C.H ++ [⟨l, esz, 0, false⟩]) (slc C.H.length 0 0 n n) (.slice (some ⟨w.heap.size, 0, none⟩) n n) (w.alloc (.cells l.toArray t)) := by
  have hE := Ext.more (n0 := C.H.length) (B0 := w.heap.size) (L := [⟨l, esz, 0, false⟩]) hW (Nat.le_refl _)
  have hW1 : WR (C.more [⟨l, esz, 0, false⟩]) w := hW.more
  have hk : (C.more [⟨l, esz, 0, false⟩]).H[C.H.length]? = some ⟨l, esz, 0, false⟩ := by simp [Cx.more]
  have hs : (C.more [⟨l, esz, 0, false⟩]).σ C.H.length = none := by
    cases h : C.σ C.H.length with
    | none => exact h
    | some x => exact absurd (hW.lt h).1 (Nat.lt_irrefl _)
  have hW2 := hW1.lay hk hs (cs := l.toArray) (elem := t) hf (by simp) (by simpa using hr.later hE.toLater)
  have hE2 := Ext.lay (n0 := C.H.length) (B0 := w.heap.size) hW1 hs (Nat.le_refl _) (n := l.toArray.size) (cs := l.toArray) (elem := t) (Nat.le_refl _)
  refine ⟨_, ?_, hW2, hE.trans hE2 (Nat.le_refl _), ?_⟩
  · rfl
  · refine .slice (C := (C.more [⟨l, esz, 0, false⟩]).lay C.H.length w.heap.size l.toArray.size) (.cur (k := ⟨l, esz, 0, false⟩) (δ := 0) hk (by simp [Cx.lay])) (Nat.le_refl _) (Nat.le_refl _) ?_
    intro k B δ h1 _ h2 _
    dsimp only at h1 h2 ⊢
    have h1 : (C.more [⟨l, esz, 0, false⟩]).H[C.H.length]? = some k := h1
    rw [hk] at h1
    cases h1
    simp [Cx.lay] at h2 ⊢
    omega

section
variable {P : Program} {inv : FuncId → Option Nat} {isPure : Nat → Bool} {ρ : Nat → FuncId} {Gl : Glb}
theorem ext377_ok (hf : Callable P (ρ 377)) (hc : ∀ w, Sees Gl w → ∀ s p : ByteArray, s.size < 4294967281 → Calls P (ρ 377) #[.string s, .string p] w fun e w' =>
      e = .returned (.tuple #[.string ⟨(Lib.cut s.data.toList p.data.toList).1.toArray⟩, .string ⟨(Lib.cut s.data.toList p.data.toList).2.1.toArray⟩, .bool (Lib.cut s.data.toList p.data.toList).2.2]) ∧ ∃ n, w' = w.drewN n) :
    DefOk P inv isPure ρ Gl 377 (.ext .pure ext377) := by
  refine ⟨hf, fun xs H v H' h => ?_⟩
  unfold ext377 at h
  split at h
  · rename_i s p
    split at h
    · rename_i hlt
      cases h
      refine ⟨.refl, fun C w args hH _ hW hG hx => ?_⟩
      subst hH
      obtain ⟨a, b, rfl, ha, hb⟩ := hx.two
      obtain rfl := ha.string_inv
      obtain rfl := hb.string_inv
      refine (hc w hG.sees s p (by have := hlt.1; unfold strMax at this; omega)).mono fun e w' ⟨he, n, hw⟩ => ?_
      subst he hw
      obtain ⟨c, hp⟩ := Lib.one_byte p hlt.2
      refine ⟨_, rfl, .below hW (below_drewN w n) ?_⟩
      subst hp
      rw [cut_one]
      exact (VRs.cons (.string _) (.cons (.string _) (.cons (.bool _) .nil))).mk_tup
    · cases h
  · cases h
theorem ext485_ok (hf : Callable P (ρ 485)) (t : TypeId) (hc : ∀ w, Sees Gl w → ∀ s p : ByteArray, s.size < 4294967281 → 1 ≤ p.size → Calls P (ρ 485) #[.string s, .string p] w fun e w' =>
      e = .returned (.slice (some ⟨w.heap.size, 0, none⟩) (Lib.countB s p + 1) (Lib.countB s p + 1)) ∧ w' = w.alloc (.cells ((Lib.splitB p 0 (Lib.countB s p) s).map Value.string).toArray t)) :
    DefOk P inv isPure ρ Gl 485 (.ext .pure ext485) := by
  refine ⟨hf, fun xs H v H' h => ?_⟩
  unfold ext485 at h
  split at h
  · rename_i s p
    split at h
    · rename_i hlt
      cases h
      refine ⟨.more, fun C w args hH _ hW hG hx => ?_⟩
      subst hH
      obtain ⟨a, b, rfl, ha, hb⟩ := hx.two
      obtain rfl := ha.string_inv
      obtain rfl := hb.string_inv
      refine (hc w hG.sees s p (by have := hlt.1; unfold strMax at this; omega) (by omega)).mono fun e w' ⟨he, hw⟩ => ?_
      subst he hw
      have hall := Lib.splitB_all p (by omega) 0 _ s rfl
      have hd := Lib.splitB_data p 0 (Lib.countB s p) s
      obtain ⟨c, hp⟩ := Lib.one_byte p hlt.2
      have e1 : (Lib.splitB p 0 (Lib.countB s p) s).map Value.string = (spl (p.data.toList.headD 0) [] s.data.toList).map str := by
        have : (Lib.splitB p 0 (Lib.countB s p) s).map Value.string = ((Lib.splitB p 0 (Lib.countB s p) s).map (·.data.toList)).map str := by
          rw [List.map_map]
          exact List.map_congr_left fun x _ => string_eq x
        rw [this, hd]
        subst hp
        exact congrArg _ (split_one c _ s.data.toList (Nat.le_refl _))
      have e2 : Lib.countB s p + 1 = ((spl (p.data.toList.headD 0) [] s.data.toList).map str).length := by rw [← e1, List.length_map, hall]
      rw [e1, e2]
      exact ⟨_, rfl, .fresh hW (by simp) strs_flat .strs⟩
    · cases h
  · cases h
theorem ext522_ok (hf : Callable P (ρ 522)) (hc : ∀ w, Sees Gl w → ∀ n : Int, -9223372036854775808 ≤ n → n ≤ 9223372036854775807 → Calls P (ρ 522) #[.int .i64 n, .int .i64 10] w fun e w' =>
      e = .returned (.string ⟨(Lib.itoa n).toArray⟩) ∧ ∃ k os, w' = Go.Sort.grow (w.drewN k) os) :
    DefOk P inv isPure ρ Gl 522 (.ext .pure ext522) := by
  refine ⟨hf, fun xs H v H' h => ?_⟩
  unfold ext522 at h
  split at h
  · rename_i n
    split at h
    · rename_i hlt
      cases h
      refine ⟨.refl, fun C w args hH _ hW hG hx => ?_⟩
      subst hH
      obtain ⟨a, b, rfl, ha, hb⟩ := hx.two
      obtain rfl := ha.int_inv
      obtain rfl := hb.int_inv
      refine (hc w hG.sees n hlt.1 hlt.2).mono fun e w' ⟨he, k, os, hw⟩ => ?_
      subst he hw
      exact ⟨_, rfl, .below hW (below_grow w k os) (.string _)⟩
    · cases h
  · cases h
theorem ext521_ok (hf : Callable P (ρ 521))
    (hok : ∀ w, Sees Gl w → ∀ (s : ByteArray) (v : Int), s.size ≤ 281474976710656 → Lib.parseIntB 64 s.data.toList = .ok v → Calls P (ρ 521) #[.string s, .int .i64 10, .int .i64 64] w fun e w' => e = .returned (.tuple #[.int .i64 v, .nilIface]) ∧ Below w.heap.size w w')
    (hsy : ∀ w, Sees Gl w → ∀ (s : ByteArray), s.size ≤ 281474976710656 → Lib.parseIntB 64 s.data.toList = Lib.parseIntB 64 [] → Calls P (ρ 521) #[.string s, .int .i64 10, .int .i64 64] w fun e w' => (∃ t p, e = .returned (.tuple #[.int .i64 0, .iface t p])) ∧ Below w.heap.size w w')
    (hra : ∀ w, Sees Gl w → ∀ (s : ByteArray), s.size ≤ 281474976710656 → Lib.parseIntB 64 s.data.toList = .range → Calls P (ρ 521) #[.string s, .int .i64 10, .int .i64 64] w fun e w' => (∃ t p, e = .returned (.tuple #[.int .i64 (Lib.intSat 64 s.data.toList), .iface t p])) ∧ Below w.heap.size w w') :
    DefOk P inv isPure ρ Gl 521 (.ext .pure ext521) := by
  refine ⟨hf, fun xs H v H' h => ?_⟩
  unfold ext521 at h
  split at h
  · rename_i s
    split at h
    · rename_i hlt
      have hs : s.size ≤ 281474976710656 := by unfold strMax at hlt; omega
      split at h
      · rename_i v0 hp
        cases h
        refine ⟨.refl, fun C w args hH _ hW hG hx => ?_⟩
        subst hH
        obtain ⟨a, b, c, rfl, ha, hb, hc⟩ := hx.three
        obtain rfl := ha.string_inv
        obtain rfl := hb.int_inv
        obtain rfl := hc.int_inv
        refine (hok w hG.sees s v0 hs hp).mono fun e w' ⟨he, hw⟩ => ?_
        subst he
        exact ⟨_, rfl, .below hW hw (VRs.cons (.int _ _) (.cons .nilIface .nil)).mk_tup⟩
      · rename_i hp
        cases h
        refine ⟨.refl, fun C w args hH _ hW hG hx => ?_⟩
        subst hH
        obtain ⟨a, b, c, rfl, ha, hb, hc⟩ := hx.three
        obtain rfl := ha.string_inv
        obtain rfl := hb.int_inv
        obtain rfl := hc.int_inv
        refine (hra w hG.sees s hs hp).mono fun e w' ⟨⟨t, p, he⟩, hw⟩ => ?_
        subst he
        exact ⟨_, rfl, .below hW hw (VRs.cons (.int _ _) (.cons .iface .nil)).mk_tup⟩
      · rename_i hne hnr
        have hp : Lib.parseIntB 64 s.data.toList = Lib.parseIntB 64 [] := by
          rcases hq : Lib.parseIntB 64 s.data.toList with v | _ | _
          · exact absurd hq (hne v)
          · rfl
          · exact absurd hq hnr
        cases h
        refine ⟨.refl, fun C w args hH _ hW hG hx => ?_⟩
        subst hH
        obtain ⟨a, b, c, rfl, ha, hb, hc⟩ := hx.three
        obtain rfl := ha.string_inv
        obtain rfl := hb.int_inv
        obtain rfl := hc.int_inv
        refine (hsy w hG.sees s hs hp).mono fun e w' ⟨⟨t, p, he⟩, hw⟩ => ?_
        subst he
        exact ⟨_, rfl, .below hW hw (VRs.cons (.int _ _) (.cons .iface .nil)).mk_tup⟩
    · cases h
  · cases h
theorem strsOf_some : ∀ {cs : List Value} {l : List (List UInt8)}, strsOf cs = some l → ∃ xs : List ByteArray, cs = xs.map Value.string ∧ l = xs.map (·.data.toList)
  | [], l, h => by cases h; exact ⟨[], rfl, rfl⟩
  | .string s :: r, l, h => by
    obtain ⟨l', h1, rfl⟩ := Option.map_eq_some_iff.1 h
    obtain ⟨xs, rfl, rfl⟩ := strsOf_some h1
    exact ⟨s :: xs, rfl, rfl⟩
theorem ext380_ok (hf : Callable P (ρ 380)) (h0 : ∀ w (a : Option Addr) (c : Nat) (p : ByteArray), Calls P (ρ 380) #[.slice a 0 c, .string p] w fun e w' => e = .returned (.string ⟨#[]⟩) ∧ w' = w)
    (hc : ∀ w (bk o c : Nat) (xs : List ByteArray) (p : ByteArray), (∀ (j : Nat) x, xs[j]? = some x → w.cell? ⟨bk, o + j, none⟩ = some (.string x)) → bk < w.heap.size → xs.length ≤ 140737488355328 → xs.length ≤ c →
      (Lib.join (xs.map (·.data.toList)) p.data.toList).length ≤ 140737488355328 → Calls P (ρ 380) #[.slice (some ⟨bk, o, none⟩) xs.length c, .string p] w fun e w' =>
      e = .returned (.string ⟨(Lib.join (xs.map (·.data.toList)) p.data.toList).toArray⟩) ∧ Below w.heap.size w w') :
    DefOk P inv isPure ρ Gl 380 (.ext .pure ext380) := by
  refine ⟨hf, fun xs H v H' h => ?_⟩
  unfold ext380 at h
  split at h
  · rename_i a0 c0 p
    cases h
    refine ⟨.refl, fun C w args hH _ hW hG hx => ?_⟩
    subst hH
    obtain ⟨a, b, rfl, ha, hb⟩ := hx.two
    obtain rfl := hb.string_inv
    obtain ⟨a', c', rfl⟩ : ∃ a' c', a = .slice a' 0 c' := by cases ha <;> exact ⟨_, _, rfl⟩
    refine (h0 w a' c' p).mono fun e w' ⟨he, hw⟩ => ?_
    subst he hw
    exact ⟨_, rfl, .below hW (Below.refl _ _) (.string _)⟩
  · rename_i b off ver n c0 p hne
    obtain ⟨l, hl, h⟩ := Option.bind_eq_some_iff.1 h
    obtain ⟨cs, hrd, hcs⟩ := Option.bind_eq_some_iff.1 hl
    split at h
    · rename_i hlen
      cases h
      obtain ⟨xs, rfl, rfl⟩ := strsOf_some hcs
      refine ⟨.refl, fun C w args hH _ hW hG hx => ?_⟩
      subst hH
      obtain ⟨a, b', rfl, ha, hb⟩ := hx.two
      obtain rfl := hb.string_inv
      have hn : n ≠ 0 := fun e => hne e
      have hxl : xs.length = n := by
        unfold rd at hrd
        split at hrd
        · split at hrd
          · rename_i hq
            have := congrArg (Option.map List.length) hrd
            simp at this
            omega
          · cases hrd
        · cases hrd
      cases ha with
      | @slice a0 a' len cap cap' har hl1 hl2 hr =>
        obtain ⟨B, o, c, elem, fz, rfl, hB, hle, hvr, _⟩ := rd_sound hW hrd har
        subst hxl
        refine (hc w B o cap' xs p (fun j x hj => ?_) (Array.getElem?_eq_some_iff.1 hB).1 (by simpa [roomMax] using hlen.2) (by omega) hlen.1).mono fun e w' ⟨he, hw⟩ => ?_
        · obtain ⟨v', h1, h2⟩ := hvr.get (i := j) (v := .string x) (by simp [hj])
          obtain rfl := h2.string_inv
          have hjl : j < xs.length := (List.getElem?_eq_some_iff.1 hj).1
          rw [List.getElem?_take, if_pos hjl, List.getElem?_drop] at h1
          unfold World.cell?
          rw [hB]
          simpa using h1
        · subst he
          exact ⟨_, rfl, .below hW hw (.string _)⟩
      | empty _ => exact absurd rfl hn
    · cases h
  · cases h
end
end Fb
