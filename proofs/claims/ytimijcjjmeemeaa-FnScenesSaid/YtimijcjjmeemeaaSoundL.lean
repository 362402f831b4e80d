/- What a call hands back, and what is left of the heap. -/
import Derived.Test.YtimijcjjmeemeaaSoundK
set_option linter.unusedVariables false
set_option linter.unusedSimpArgs false
namespace Fb
open Go

/-- A value that leads to blocks below n alone. -/
inductive Low (n : Nat) : Value → Prop
  | bool (b : Bool) : Low n (.bool b)
  | int (k : IntKind) (i : Int) : Low n (.int k i)
  | string (s : ByteArray) : Low n (.string s)
  | nilptr : Low n (.pointer none)
  | nilFunc : Low n .nilFunc
  | nilIface : Low n .nilIface
  | iface {t : TypeId} {v : Value} : Low n (.iface t v)
  | ptr {a : Addr} (h : a.block < n) : Low n (.pointer (some a))
  | nilslice {l c : Nat} : Low n (.slice none l c)
  | slice {a : Addr} {l c : Nat} (h : a.block < n) : Low n (.slice (some a) l c)
  | func {f : Nat} {x cs : Array Value} (h : ∀ i (h1 : i < cs.size), Low n cs[i]) : Low n (.func (.func f) x cs)
  | agg {cs : Array Value} (h : ∀ i (h1 : i < cs.size), Low n cs[i]) : Low n (.agg cs)
  | tup {cs : Array Value} (h : ∀ i (h1 : i < cs.size), Low n cs[i]) : Low n (.tuple cs)
section
variable {C C' : Cx} {n : Nat}
theorem AR.lt {a a' : Addr} (h : AR C a a') : a.block < C.H.length := by
  cases h with
  | old hk _ => exact (List.getElem?_eq_some_iff.1 hk).1
  | cur hk _ => exact (List.getElem?_eq_some_iff.1 hk).1
theorem VR.low {v v' : Value} (h : VR C v v') : Low C.H.length v := by
  induction h with
  | bool b => exact .bool b
  | int k i => exact .int k i
  | string s => exact .string s
  | nilptr => exact .nilptr
  | nilFunc => exact .nilFunc
  | nilIface => exact .nilIface
  | iface => exact .iface
  | ptr h => exact .ptr h.lt
  | nilslice => exact .nilslice
  | slice h _ _ _ => exact .slice h.lt
  | empty h => exact .slice h.lt
  | func hs _ ih => exact .func fun i h1 => ih i h1 (by omega)
  | agg _ hs _ ih => exact .agg fun i h1 => ih i h1 (by omega)
  | tup hs _ ih => exact .tup fun i h1 => ih i h1 (by omega)
/-- Two contexts that agree below n. -/
structure Same (n : Nat) (C C' : Cx) : Prop where
  ρ : C'.ρ = C.ρ
  H : ∀ b, b < n → C'.H[b]? = C.H[b]?
  σ : ∀ b, b < n → C'.σ b = C.σ b
  ws : ∀ b, b < n → C'.ws b = C.ws b
theorem AR.same (hs : Same n C C') {a a' : Addr} (h : AR C a a') (hl : a.block < n) : AR C' a a' := by
  cases h with
  | old hk hv => exact .old ((hs.H _ hl).trans hk) hv
  | cur hk hs' => exact .cur ((hs.H _ hl).trans hk) ((hs.σ _ hl).trans hs')
theorem VR.same (hs : Same n C C') {v v' : Value} (h : VR C v v') (hl : Low n v) : VR C' v v' := by
  induction h with
  | bool b => exact .bool b
  | int k i => exact .int k i
  | string s => exact .string s
  | nilptr => exact .nilptr
  | nilFunc => exact .nilFunc
  | nilIface => exact .nilIface
  | iface => exact .iface
  | ptr h => cases hl with | ptr hl => exact .ptr (h.same hs hl)
  | nilslice => exact .nilslice
  | slice h h1 h2 h3 =>
    cases hl with
    | slice hl =>
      refine .slice (h.same hs hl) h1 h2 fun k B δ hk hsp hσ hro => ?_
      rw [hs.H _ hl] at hk
      rw [hs.σ _ hl] at hσ
      rw [hs.ws _ hl]
      exact h3 k B δ hk hsp hσ hro
  | empty h => cases hl with | slice hl => exact .empty (h.same hs hl)
  | func hsz _ ih =>
    cases hl with
    | func hl => rw [← hs.ρ]; exact .func hsz fun i h1 h2 => ih i h1 h2 (hl i h1)
  | agg hf hsz _ ih => cases hl with | agg hl => exact .agg hf hsz fun i h1 h2 => ih i h1 h2 (hl i h1)
  | tup hsz _ ih => cases hl with | tup hl => exact .tup hsz fun i h1 h2 => ih i h1 h2 (hl i h1)
theorem VRs.same (hs : Same n C C') {l l' : List Value} (h : VRs C l l') (hl : ∀ v ∈ l, Low n v) : VRs C' l l' :=
  ⟨h.1, fun i h1 h2 => (h.2 i h1 h2).same hs (hl _ (List.getElem_mem h1))⟩
theorem old0_low {v v' : Value} (h : VR C v v') (ho : old0 n v = true) : Low n v := by
  cases h with
  | bool b => exact .bool b
  | int k i => exact .int k i
  | string s => exact .string s
  | nilptr => exact .nilptr
  | nilFunc => exact .nilFunc
  | nilIface => exact .nilIface
  | iface => exact .iface
  | ptr h =>
    refine .ptr ?_
    cases h <;> simpa [old0] using ho
  | nilslice => exact .nilslice
  | slice h _ _ _ =>
    refine .slice ?_
    cases h <;> simpa [old0] using ho
  | empty h =>
    refine .slice ?_
    cases h <;> simpa [old0] using ho
  | @func f cs cs' hs _ =>
    have : cs = #[] := by simpa [old0] using ho
    subst this
    exact .func fun i h => by simp at h
  | agg => cases ho
  | tup => cases ho
theorem old1_low {v v' : Value} (h : VR C v v') (ho : old1 n v = true) : Low n v := by
  cases h with
  | @agg cs cs' hf hs hc =>
    refine .agg fun i h1 => ?_
    have h2 := List.all_eq_true.1 (show cs.toList.all (old0 n) = true from ho) cs[i] (by simp)
    exact old0_low (hc i h1 (by omega)) h2
  | tup => cases ho
  | bool b => exact .bool b
  | int k i => exact .int k i
  | string s => exact .string s
  | nilptr => exact .nilptr
  | nilFunc => exact .nilFunc
  | nilIface => exact .nilIface
  | iface => exact .iface
  | ptr h => exact old0_low (.ptr h) ho
  | nilslice => exact .nilslice
  | slice h h1 h2 h3 => exact old0_low (.slice h h1 h2 h3) ho
  | empty h => exact old0_low (VR.empty (a' := ⟨0, 0, none⟩) h) ho
  | func hs hc => exact old0_low (.func hs hc) ho
end
theorem Low.le {n m : Nat} {v : Value} (h : Low n v) (hn : n ≤ m) : Low m v := by
  induction h with
  | bool b => exact .bool b
  | int k i => exact .int k i
  | string s => exact .string s
  | nilptr => exact .nilptr
  | nilFunc => exact .nilFunc
  | nilIface => exact .nilIface
  | iface => exact .iface
  | ptr h => exact .ptr (by omega)
  | nilslice => exact .nilslice
  | slice h => exact .slice (by omega)
  | func _ ih => exact .func ih
  | agg _ ih => exact .agg ih
  | tup _ ih => exact .tup ih
/-- The blocks that are handed back, and the values. -/
theorem pack_spec {n0 : Nat} {H : Heap} : ∀ {vs : List Value} {seen : List Nat} {acc : List Blk} {ws : List Value} {bs : List Blk}, pack n0 H vs seen acc = some (ws, bs) →
    ∃ is : List (Nat × Blk), bs = acc ++ is.map (fun x => { x.2 with ver := 0 }) ∧ (∀ x ∈ is, x.1 ∉ seen ∧ H[x.1]? = some x.2 ∧ x.2.ro = false ∧ x.2.cells.all (old0 n0) = true ∧ n0 ≤ x.1) ∧ (is.map (·.1)).Nodup ∧ ws.length = vs.length ∧
      ∀ (i : Nat) (p q : Value), vs[i]? = some p → ws[i]? = some q → (old1 n0 p = true ∧ q = p) ∨ ∃ (b ver : Nat) (mk : Nat → Value) (j : Nat) (k : Blk), refOf p = some (b, ver, mk) ∧ is[j]? = some (b, k) ∧ ver = k.ver ∧ q = mk (n0 + acc.length + j)
  | [], seen, acc, ws, bs, hp => by
    cases hp
    exact ⟨[], by simp, by simp, by simp, rfl, by simp⟩
  | v :: r, seen, acc, ws, bs, hp => by
    simp only [pack] at hp
    split at hp
    · rename_i ho
      obtain ⟨⟨ws', bs'⟩, h1, h2⟩ := Option.map_eq_some_iff.1 hp
      cases h2
      obtain ⟨is, g1, g2, g3, g4, g5⟩ := pack_spec h1
      refine ⟨is, g1, g2, g3, by simp [g4], fun i p q hp hq => ?_⟩
      cases i with
      | zero => cases hp; cases hq; exact .inl ⟨ho, rfl⟩
      | succ i => exact g5 i p q (by simpa using hp) (by simpa using hq)
    · rename_i ho
      split at hp
      · rename_i b ver mk href
        split at hp
        · rename_i k hk
          split at hp
          · rename_i hc
            obtain ⟨⟨ws', bs'⟩, h1, h2⟩ := Option.map_eq_some_iff.1 hp
            cases h2
            obtain ⟨is, g1, g2, g3, g4, g5⟩ := pack_spec h1
            have hbn : n0 ≤ b := by
              unfold refOf at href
              split at href
              · cases href
                rcases Nat.lt_or_ge b n0 with h | h
                · exact absurd (by simp [old1, old0, h]) ho
                · exact h
              · cases href
                rcases Nat.lt_or_ge b n0 with h | h
                · exact absurd (by simp [old1, old0, h]) ho
                · exact h
              · cases href
            refine ⟨(b, k) :: is, by simp [g1], fun x hx => ?_, ?_, by simp [g4], fun i p q hp hq => ?_⟩
            · rcases List.mem_cons.1 hx with rfl | hx
              · exact ⟨by have := hc.1; simpa [List.contains_iff_mem] using this, hk, hc.2.2.1, hc.2.2.2, hbn⟩
              · obtain ⟨k1, k2⟩ := g2 x hx
                exact ⟨fun h => k1 (List.mem_cons_of_mem _ h), k2⟩
            · rw [List.map_cons, List.nodup_cons]
              refine ⟨fun h => ?_, g3⟩
              obtain ⟨x, hx, hxb⟩ := List.mem_map.1 h
              exact (g2 x hx).1 (by rw [hxb]; simp)
            · cases i with
              | zero =>
                cases hp; cases hq
                exact .inr ⟨b, ver, mk, 0, k, href, rfl, hc.2.1, rfl⟩
              | succ i =>
                rcases g5 i p q (by simpa using hp) (by simpa using hq) with h | ⟨b', ver', mk', j, k', h3, h4, h5, h6⟩
                · exact .inl h
                · refine .inr ⟨b', ver', mk', j + 1, k', h3, by simpa using h4, h5, ?_⟩
                  rw [h6]
                  congr 1
                  simp; omega
          · cases hp
        · cases hp
      · cases hp

section
variable {P : Program} {n0 B0 : Nat}
theorem take_get {H : Heap} {n b : Nat} {L : List Blk} (hb : b < n) (hn : n ≤ H.length) : (H.take n ++ L)[b]? = H[b]? := by
  rw [List.getElem?_append_left (by simp; omega), List.getElem?_take, if_pos hb]
/-- What is handed back stands to the model's as it should. -/
theorem finish_sound {C0 C : Cx} {w0 w : World} (hW0 : WR C0 w0) (hW : WR C w) (hX : Ext C0.H.length w0.heap.size C0 w0 C w) {wb : Bool} (hel : Eld C0.H.length wb C0.H C.H) {vs vs' : List Value} (hv : VRs C vs vs') {v : Value} {H' : Heap}
    (hf : finish C0.H.length C.H vs = (v, H')) : ∃ C' : Cx, C'.H = H' ∧ WR C' w ∧ Ext C0.H.length w0.heap.size C0 w0 C' w ∧ ∃ ws, v = one ws ∧ VRs C' ws vs' := by
  unfold finish at hf
  split at hf
  · rename_i ws bs hp
    cases hf
    obtain ⟨is, g1, g2, g3, g4, g5⟩ := pack_spec hp
    simp only [List.nil_append] at g1
    let n0 := C0.H.length
    have hn : n0 ≤ C.H.length := hX.len
    let C' : Cx := ⟨C.ρ, C.H.take n0 ++ bs, fun x => if x < n0 then C.σ x else (is[x - n0]?).bind fun y => C.σ y.1, fun x => if x < n0 then C.ws x else ((is[x - n0]?).map fun y => C.ws y.1).getD 0⟩
    have hsame : Same n0 C C' := ⟨rfl, fun b hb => take_get hb hn, fun b hb => if_pos hb, fun b hb => if_pos hb⟩
    have hlt : ∀ j, n0 + j - n0 = j := fun j => by omega
    have hnew : ∀ (j : Nat) (x : Nat × Blk), is[j]? = some x → C'.H[n0 + j]? = some { x.2 with ver := 0 } ∧ C'.σ (n0 + j) = C.σ x.1 ∧ C'.ws (n0 + j) = C.ws x.1 := by
      intro j x hj
      refine ⟨?_, ?_, ?_⟩
      · show (C.H.take n0 ++ bs)[n0 + j]? = _
        rw [List.getElem?_append_right (by simp; omega), g1]
        have : n0 + j - (C.H.take n0).length = j := by simp; omega
        rw [this]; simp [hj]
      · show (if n0 + j < n0 then _ else _) = _
        rw [if_neg (by omega), hlt, hj]; rfl
      · show (if n0 + j < n0 then _ else _) = _
        rw [if_neg (by omega), hlt, hj]; rfl
    -- a block of the new context
    have hcase : ∀ x y, C'.σ x = some y → (x < n0 ∧ C.σ x = some y) ∨ ∃ j b k, x = n0 + j ∧ is[j]? = some (b, k) ∧ C.σ b = some y := by
      intro x y hx
      rcases Nat.lt_or_ge x n0 with h | h
      · exact .inl ⟨h, by rw [← hsame.σ x h]; exact hx⟩
      · have hx : (if x < n0 then C.σ x else (is[x - n0]?).bind fun y => C.σ y.1) = some y := hx
        rw [if_neg (by omega)] at hx
        obtain ⟨⟨b, k⟩, h1, h2⟩ := Option.bind_eq_some_iff.1 hx
        exact .inr ⟨x - n0, b, k, by omega, h1, h2⟩
    have hW' : WR C' w := by
      refine ⟨fun x B δ hx => ?_, fun x y B δ δ' hx hy hne k hk => ?_⟩
      · rcases hcase x _ hx with ⟨h1, h2⟩ | ⟨j, b, k, rfl, h1, h2⟩
        · obtain ⟨k, hk, cs, elem, fz, hB, k1, k2, k3, k4, k5⟩ := hW.blk x B δ h2
          refine ⟨k, (hsame.H x h1).trans hk, cs, elem, fz, hB, by rw [hsame.ws x h1]; exact k1, k2, k3, k4.same hsame fun v hv => ?_, k5⟩
          -- its cells lead to what was there
          have hl0 : C0.σ x ≠ none := fun h => by have := (hX.un x h1 h).1; rw [h2] at this; cases this
          obtain ⟨⟨B1, δ1⟩, h3⟩ := Option.ne_none_iff_exists'.1 hl0
          obtain ⟨ka, hka, csa, _, _, _, _, _, _, k4a, _⟩ := hW0.blk x B1 δ1 h3
          obtain ⟨kb, hkb, _, _, _, hcell⟩ := hel.2 x h1 ka hka
          rw [hk] at hkb
          cases hkb
          obtain ⟨i, hi, rfl⟩ := List.getElem_of_mem hv
          rcases hcell _ hv with h4 | h4
          · obtain ⟨i', hi', he⟩ := List.getElem_of_mem h4
            rw [← he]
            exact (k4a.2 i' hi' (by rw [← k4a.1]; exact hi')).low
          · have h5 := old0_low (n := 0) (k4.2 i hi (by rw [← k4.1]; exact hi)) h4
            exact h5.le (Nat.zero_le _)
        · obtain ⟨k0, hk0, cs, elem, fz, hB, k1, k2, k3, k4, k5⟩ := hW.blk b B δ h2
          obtain ⟨g6, g7, g8, g9, g10⟩ := g2 (b, k) (List.mem_of_getElem? h1)
          have e1 : k0 = k := Option.some.inj (hk0.symm.trans g7)
          subst e1
          obtain ⟨n1, n2, n3⟩ := hnew j (b, k0) h1
          refine ⟨_, n1, cs, elem, fz, hB, by rw [n3]; exact k1, k2, k3, k4.same hsame fun v hv => ?_, k5⟩
          obtain ⟨i, hi, rfl⟩ := List.getElem_of_mem hv
          exact old0_low (k4.2 i hi (by rw [← k4.1]; exact hi)) (List.all_eq_true.1 g9 _ hv)
      · have hro : ∀ b b', b ≠ b' → C.σ b = some (B, δ) → C.σ b' = some (B, δ') → ∀ k, C.H[b]? = some k → k.ro = true := fun b b' hb h1 h2 => hW.one b b' B δ δ' h1 h2 hb
        rcases hcase x _ hx with ⟨h1, h2⟩ | ⟨j, b, k1, rfl, h1, h2⟩
        · rw [hsame.H x h1] at hk
          rcases hcase y _ hy with ⟨h3, h4⟩ | ⟨j', b', k2, rfl, h3, h4⟩
          · exact hro x y hne h2 h4 k hk
          · obtain ⟨_, _, _, _, g10⟩ := g2 (b', k2) (List.mem_of_getElem? h3)
            exact hro x b' (fun e => by subst e; exact absurd h1 (by show ¬ x < n0; have : n0 ≤ x := g10; omega)) h2 h4 k hk
        · obtain ⟨g6, g7, g8, g9, g10⟩ := g2 (b, k1) (List.mem_of_getElem? h1)
          obtain ⟨n1, _, _⟩ := hnew j (b, k1) h1
          rw [n1] at hk
          cases hk
          show k1.ro = true
          rcases hcase y _ hy with ⟨h3, h4⟩ | ⟨j', b', k2, rfl, h3, h4⟩
          · exact hro b y (fun e => by subst e; exact absurd h3 (by show ¬ b < n0; have : n0 ≤ b := g10; omega)) h2 h4 k1 g7
          · refine hro b b' (fun e => hne ?_) h2 h4 k1 g7
            subst e
            have : j = j' := by
              have hj : j < (is.map (·.1)).length := by simpa using (List.getElem?_eq_some_iff.1 h1).1
              exact (List.getElem?_inj hj g3).1 (by simp [h1, h3])
            rw [this]
    have hL : Later C0 C' := by
      refine ⟨hX.ρ, fun b k hk => ?_⟩
      have hb : b < n0 := (List.getElem?_eq_some_iff.1 hk).1
      obtain ⟨k', hk', r1, r2, r3, r4⟩ := hX.blk b k hk
      refine ⟨k', (hsame.H b hb).trans hk', r1, r2, r3, fun hv x hx => ?_⟩
      obtain ⟨s1, s2⟩ := r4 hv x hx
      exact ⟨(hsame.σ b hb).trans s1, (hsame.ws b hb).trans s2⟩
    refine ⟨C', rfl, hW', ⟨hL, ?_, fun b B δ hs => ?_, hX.hsz, fun b hb hs => ?_, hX.keep, hX.os, hX.fz⟩, ws, rfl, ?_⟩
    · show n0 ≤ (C.H.take n0 ++ bs).length
      simp; omega
    · rcases hcase b _ hs with ⟨h1, h2⟩ | ⟨j, b', k, rfl, h1, h2⟩
      · exact hX.fresh b B δ h2
      · rcases hX.fresh b' B δ h2 with ⟨h3, h4⟩ | h3
        · obtain ⟨_, _, _, _, g10⟩ := g2 (b', k) (List.mem_of_getElem? h1)
          have : n0 ≤ b' := g10
          have : b' < n0 := h4
          omega
        · exact .inr h3
    · obtain ⟨h1, h2⟩ := hX.un b hb hs
      exact ⟨(hsame.σ b hb).trans h1, (hsame.H b hb).trans h2⟩
    · refine ⟨g4.trans hv.1, fun i h1 h2 => ?_⟩
      have hvi : i < vs.length := by omega
      have hr := hv.2 i hvi h2
      rcases g5 i vs[i] ws[i] (List.getElem?_eq_getElem hvi) (List.getElem?_eq_getElem h1) with ⟨h3, h4⟩ | ⟨b, ver, mk, j, k, h3, h4, h5, h6⟩
      · rw [h4]; exact hr.same hsame (old1_low hr h3)
      · rw [h6]
        obtain ⟨g6, g7, g8, g9, g10⟩ := g2 (b, k) (List.mem_of_getElem? h4)
        obtain ⟨n1, n2, n3⟩ := hnew j (b, k) h4
        have har : ∀ {a' : Addr}, AR C ⟨b, 0, some ver⟩ a' → AR C' ⟨n0 + j, 0, some 0⟩ a' := fun ha => by
          obtain ⟨B, δ, hs, rfl⟩ := ha.now g7 h5
          exact AR.cur n1 (n2.trans hs)
        have e0 : C0.H.length + ([] : List Blk).length + j = n0 + j := by simp [n0]
        rw [e0]
        unfold refOf at h3
        split at h3
        · rename_i b' ver' len cap hp'
          cases h3
          rw [hp'] at hr
          rcases hr.slice_inv with ⟨a', cap', ha', hr1, hr2, hr3, hr4⟩ | ⟨rfl, rfl, a', a2, ha', hr1⟩
          · rw [ha']
            refine .slice (har hr1) hr2 hr3 fun k' B δ hk' _ hs' hro' => ?_
            have hk' : C'.H[n0 + j]? = some k' := hk'
            have hs' : C'.σ (n0 + j) = some (B, δ) := hs'
            rw [n1] at hk'
            cases hk'
            rw [n2] at hs'
            have := hr4 k B δ g7 (by rw [h5]) hs' hro'
            show 0 + δ + cap' * k.esz ≤ C'.ws (n0 + j)
            rw [n3]; exact this
          · rw [ha']; exact .empty (har hr1)
        · rename_i b' ver' hp'
          cases h3
          rw [hp'] at hr
          obtain ⟨a', ha', hr1⟩ := hr.ptr_inv
          rw [ha']; exact .ptr (har hr1)
        · cases h3
  · cases hf
    exact ⟨C, rfl, hW, hX, vs, rfl, hv⟩
end
end Fb
