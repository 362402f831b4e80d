/- What each function computes. -/
import Derived.Test.YtimijcjjmeemeaaGreatDoorUse2
set_option linter.unusedVariables false
set_option linter.unusedSimpArgs false
namespace Fb
open Go
theorem call368 {G : Heap} {P k : Nat} (h : Src G P k) (hk : k ≤ 10000000000) : ∃ f G', Call tab false 368 [adr P 0 0] G = some (iv .u16 f, G') ∧ VF f ∧ Mv P G G' ∧ Src G' P (k + 200) := by
  have key : ∃ r, Call tab false 368 [adr P 0 0] G = some r ∧ ∃ f G', r = (iv .u16 f, G') ∧ VF f ∧ Mv P G G' ∧ Src G' P (k + 200) := by
    refine Call_ex t368 (.inl rfl) rfl ?_
    have hl := h.lt
    obtain ⟨G1, hG1⟩ : ∃ G1, G1 = G ++ [(⟨cs .u16 (zr 12 0), 1, 0, false⟩ : Blk)] := ⟨_, rfl⟩
    have hwr : wr G.length true G1 G.length 0 0 (cs .u16 (zr 12 0)) = some G1 := by
      rw [hG1, wr_last (b := ⟨cs .u16 (zr 12 0), 1, 0, false⟩) rfl rfl (Nat.le_refl _) (by simp)]
    have L1 : Loc G G1 P k (zr 12 0) := by
      have p : Pre G G1 := by rw [hG1]; exact Pre.one
      exact ⟨h.pre p, by rw [hG1]; exact get_last, .zero, by rw [hG1]; simp, fun j hj _ => p.get hj, hl⟩
    obtain ⟨x, G2, c2, hx, L2, _⟩ := L1.pick (n := 12) (by omega) (by omega)
    obtain ⟨y, G3, c3, hy, L3, _⟩ := L2.pick (n := 12) (by omega) (by omega)
    obtain ⟨N, G4, c4, hN, L4, _⟩ := L3.pick (n := 14) (by omega) (by omega)
    obtain ⟨N, rfl⟩ := Int.eq_ofNat_of_zero_le hN.1
    obtain ⟨x, rfl⟩ := Int.eq_ofNat_of_zero_le hx.1
    obtain ⟨y, rfl⟩ := Int.eq_ofNat_of_zero_le hy.1
    simp [c368, k368, fill, zs_cs, agg_cs, ← hG1, hwr, wbOf, c2, c3, c4]
    refine WK_loop (fun i e G' => e 0 = adr P 0 0 ∧ e 2 = iv .u16 (zr 12 0) ∧ e 3 = adr G.length 0 0 ∧ XY (e 4) (e 5) ∧ e 6 = .int .i64 ((N - i : Nat) : Int) ∧ ∃ f, Loc G G' P (k + 6 + i * 8) f) N ?_ (Nat.zero_le _)
      ⟨by simp, by simp, by simp, by simp; exact .mk hx hy, by simp, _, by rw [Nat.zero_mul]; exact L4⟩
    rintro i e G' _ hi ⟨h0, h2, h3, ⟨x, y, hx, hy, h4, h5⟩, h6, f, L⟩
    by_cases hiN : i = N
    · subst hiN
      rw [Nat.sub_self] at h6
      obtain ⟨b, G5, c5, m5, s5⟩ := call513 (n := 8) L.src (by omega) (by omega)
      have L5 := L.mv m5 s5
      have fin : ∀ {G6 : Heap} {g : List Int} {k' : Nat}, Loc G G6 P k' g → k' ≤ k + 200 → ∃ r, some (iv .u16 g, G6.take G.length) = some r ∧ ∃ f G', r = (iv .u16 f, G') ∧ VF f ∧ Mv P G G' ∧ Src G' P (k + 200) := fun L6 hk' =>
        ⟨_, rfl, _, _, rfl, L6.V, L6.done.1, L6.done.2.le hk'⟩
      cases b with
      | false =>
        have hr := rd_at (off := 0) (n := 12) (ver := 0) L5.fr rfl (by simp [L5.V.W.len])
        simp [take_all, L5.V.W.len] at hr
        have s3 := stc_zr (k := .u16) (n := 12) (l := f) L5.V.W.len
        simp [b368_1, h0, h2, h3, h6, c5, wbOf, hr, s3, agg_cs, L5.V.W.len]
        exact ⟨_, _, ⟨rfl, rfl⟩, _, _, ⟨rfl, rfl⟩, L5.V, L5.done.1, L5.done.2.le (by omega)⟩
      | true =>
        simp [b368_1, h0, h2, h3, h6, c5, wbOf]
        refine WP_count 7 12 12 rfl (fun j e G' => e 0 = adr P 0 0 ∧ e 2 = iv .u16 (zr 12 0) ∧ e 3 = adr G.length 0 0 ∧ ∃ f, Loc G G' P (k + 6 + i * 8 + 2 + j * 2) f) (by omega) ?_ ?_ (by simp) ⟨by simp [h0], by simp [h2], by simp [h3], _, L5⟩
        · rintro j e G' _ hj hjj e4 h7 ⟨h0, h2, h3, g, L⟩
          obtain ⟨v, G6, c6, hv, L6, hget⟩ := L.pick (n := 4096) (by omega) (by omega)
          have hr := rd_at (off := 0) (n := 12) (ver := 0) L.fr rfl (by simp [L.V.W.len])
          simp [take_all, L.V.W.len] at hr
          have hr1 := rd_one hr hj
          rw [Nat.zero_add] at hr1
          have hw := wr_at (n0 := G.length) (wb := true) (off := j) (vs := [.int .u16 (orI (nth g j) v)]) (ver := 0) L6.fr rfl rfl (by simp [may]) (by simp [L6.V.W.len]; omega)
          have hsp : splice (cs .u16 g) j [.int .u16 (orI (nth g j) v)] = cs .u16 (g.set j (orI (nth g j) v)) := by rw [splice_one (by simp [L6.V.W.len]; omega)]; simp [cs, List.map_set]
          simp only [hsp] at hw
          obtain ⟨q1, q2⟩ := L6.V.row hj
          have uv : u16' v := ⟨by omega, by omega⟩
          have L7 := L6.set (L6.V.set (i := j) (orI_ok (a := nth g j) (b := v)) (orI_row q1 uv q2 (by simp [okRow]; omega)))
          simp [b368_2, h7, h0, h2, h3, hjj, hj, hr1]
          rw [fl_step (v := .int .i64 v) (H' := G6) (by simp [apart, blkOf, adr, mods]) (by simp [h0, c6]) (by simp [stays, blkOf, adr, hget])]
          have u1 : IntKind.wrap .u16 v = v := wrapu16 (by omega)
          have e9 : bitsOf .or .u16 (nth g j) v = orI (nth g j) v := rfl
          simp [h0, h2, h3, hj, u1, e9, hw, wbOf, h7, e4]
          exact ⟨_, L7.le (by omega)⟩
        · rintro e G' _ h7 ⟨h0, h2, h3, g, L⟩
          have hr := rd_at (off := 0) (n := 12) (ver := 0) L.fr rfl (by simp [L.V.W.len])
          simp [take_all, L.V.W.len] at hr
          have s3 := stc_zr (k := .u16) (n := 12) (l := g) L.V.W.len
          simp [b368_2, h7, h0, h2, h3, wbOf, hr, s3, agg_cs, L.V.W.len]
          exact ⟨_, _, ⟨rfl, rfl⟩, _, _, ⟨rfl, rfl⟩, L.V, L.done.1, L.done.2.le (by omega)⟩
    · have hpos : 0 < N - i := by omega
      have p1 := call305 L.fr L.V.W.len hx hy
      have L5 := L.set (L.V.put hx hy)
      obtain ⟨v, G6, c6, hv, L6, _⟩ := L5.pick (n := 6) (by omega) (by omega)
      have e6 : IntKind.wrap .i64 (((N - i : Nat) : Int) - 1) = ((N - (i + 1) : Nat) : Int) := by rw [wrap64 (by omega)]; omega
      have hiN' : i < N := by omega
      have fin : ∀ {x' y' : Int} {G7 : Heap}, (0 ≤ x' ∧ x' < 12) → (0 ≤ y' ∧ y' < 12) → Loc G G7 P (k + 6 + i * 8 + 6) (putF f x y) → XY (.int .i64 x') (.int .i64 y') ∧ ∃ f, Loc G G7 P (k + 6 + (i + 1) * 8) f := fun hx' hy' L7 => ⟨.mk hx' hy', _, L7.le (by omega)⟩
      have hmod : ∀ a : Int, 0 ≤ a → a ≤ 1000 → IntKind.wrap .i64 (a.tmod 12) = a.tmod 12 ∧ 0 ≤ a.tmod 12 ∧ a.tmod 12 < 12 := fun a ha hb => by
        have h1 : a.tmod 12 = a % 12 := Int.tmod_eq_emod_of_nonneg ha
        rw [h1]
        exact ⟨wrap64 (by omega), by omega, by omega⟩
      have hv' : v = 0 ∨ v = 1 ∨ v = 2 ∨ (v ≠ 0 ∧ v ≠ 1 ∧ v ≠ 2) := by omega
      rcases hv' with rfl | rfl | rfl | ⟨v0, v1, v2⟩
      · obtain ⟨x', G7, c7, hx', L7, _⟩ := L6.pick (n := 12) (by omega) (by omega)
        obtain ⟨y', G8, c8, hy', L8, _⟩ := L7.pick (n := 12) (by omega) (by omega)
        simp [b368_1, h0, h2, h3, h4, h5, h6, hpos, p1, c6, c7, c8, e6, wbOf]
        exact ⟨hiN', fin hx' hy' (L8.le (by omega))⟩
      · obtain ⟨m1, m2⟩ := hmod ((x : Int) + 1) (by omega) (by omega)
        have e7 : IntKind.wrap .i64 ((x : Int) + 1) = (x : Int) + 1 := wrap64 (by omega)
        simp [b368_1, h0, h2, h3, h4, h5, h6, hpos, p1, c6, e6, e7, m1, wbOf]
        exact ⟨hiN', fin m2 ⟨by omega, by omega⟩ (L6.le (by omega))⟩
      · obtain ⟨m1, m2⟩ := hmod ((x : Int) + 1) (by omega) (by omega)
        have e7 : IntKind.wrap .i64 ((x : Int) + 1) = (x : Int) + 1 := wrap64 (by omega)
        simp [b368_1, h0, h2, h3, h4, h5, h6, hpos, p1, c6, e6, e7, m1, wbOf]
        exact ⟨hiN', fin m2 ⟨by omega, by omega⟩ (L6.le (by omega))⟩
      · obtain ⟨w, G7, c7, hw, L7, _⟩ := L6.pick (n := 3) (by omega) (by omega)
        obtain ⟨m1, m2⟩ := hmod ((y : Int) + w + 11) (by omega) (by omega)
        have v0 : (v == 0) = false := by simpa using v0
        have v1 : (v == 1) = false := by simpa using v1
        have v2 : (v == 2) = false := by simpa using v2
        have e7 : IntKind.wrap .i64 ((y : Int) + w) = (y : Int) + w := wrap64 (by omega)
        have e8 : IntKind.wrap .i64 ((y : Int) + w + 11) = (y : Int) + w + 11 := wrap64 (by omega)
        simp [b368_1, h0, h2, h3, h4, h5, h6, hpos, p1, c6, c7, e6, e7, e8, m1, v0, v1, v2, wbOf]
        exact ⟨hiN', fin ⟨by omega, by omega⟩ m2 (L7.le (by omega))⟩
  obtain ⟨r, hc, v, G', rfl, h⟩ := key
  exact ⟨v, G', hc, h⟩
structure Lo2 (G G' : Heap) (P k : Nat) (x : Value) (L : List (List Int)) (f : List Int) : Prop where
  src : Src G' P k
  ls : ∃ ver, x = slc G.length 0 ver L.length L.length ∧ G'[G.length]? = some ⟨bkC L, 12, ver, false⟩
  VL : ∀ g ∈ L, VF g
  fr : G'[G.length + 1]? = some ⟨cs .u16 f, 1, 0, false⟩
  V : VF f
  len : G.length + 2 ≤ G'.length
  get : ∀ j, j < G.length → j ≠ P → G'[j]? = G[j]?
  lt : P < G.length
theorem Lo2.mv {G G' G'' : Heap} {P k k' : Nat} {x : Value} {L : List (List Int)} {f : List Int} (h : Lo2 G G' P k x L f) (m : Mv P G' G'') (s : Src G'' P k') : Lo2 G G'' P k' x L f := by
  have := h.lt
  exact ⟨s, by obtain ⟨ver, e, g⟩ := h.ls; exact ⟨ver, e, by rw [m.get _ (by omega)]; exact g⟩, h.VL, by rw [m.get _ (by omega)]; exact h.fr, h.V, by rw [m.len]; exact h.len, fun j hj hp => by rw [m.get j hp]; exact h.get j hj hp, h.lt⟩
theorem Lo2.le {G G' : Heap} {P k k' : Nat} {x : Value} {L : List (List Int)} {f : List Int} (h : Lo2 G G' P k x L f) (hk : k ≤ k') : Lo2 G G' P k' x L f := ⟨h.src.le hk, h.ls, h.VL, h.fr, h.V, h.len, h.get, h.lt⟩
theorem Lo2.set {G G' : Heap} {P k : Nat} {x : Value} {L : List (List Int)} {f g : List Int} (h : Lo2 G G' P k x L f) (hg : VF g) : wr G.length true G' (G.length + 1) 0 0 (cs .u16 g) = some (G'.set (G.length + 1) ⟨cs .u16 g, 1, 0, false⟩) ∧ Lo2 G (G'.set (G.length + 1) ⟨cs .u16 g, 1, 0, false⟩) P k x L g := by
  have hl := h.lt
  have hlen := h.len
  have hw := wr_at (n0 := G.length) (wb := true) (off := 0) (vs := cs .u16 g) (ver := 0) h.fr rfl rfl (by simp [may]) (by simp [h.V.W.len, hg.W.len])
  have hsp : splice (cs .u16 f) 0 (cs .u16 g) = cs .u16 g := by
    unfold splice
    rw [List.take_zero, List.nil_append, Nat.zero_add, List.drop_eq_nil_of_le (by simp [h.V.W.len, hg.W.len]), List.append_nil]
  simp only [hsp] at hw
  exact ⟨hw, h.src.mv (List.getElem?_set_ne (by omega)) fun j hj => List.getElem?_set_ne (by omega), by obtain ⟨ver, e, g⟩ := h.ls; exact ⟨ver, e, by rw [List.getElem?_set_ne (by omega)]; exact g⟩, h.VL, get_set h.fr, hg, by simpa using hlen,
    fun j hj hp => by rw [List.getElem?_set_ne (by omega)]; exact h.get j hj hp, hl⟩
theorem Lo2.pick {G G' : Heap} {P k : Nat} {x : Value} {L : List (List Int)} {f : List Int} {n : Int} (h : Lo2 G G' P k x L f) (hk : k ≤ 100000000000) (hn : 1 ≤ n ∧ n ≤ 1000000) : ∃ v G'', Call tab false 459 [adr P 0 0, .int .i64 n] G' = some (.int .i64 v, G'') ∧ (0 ≤ v ∧ v < n) ∧ Lo2 G G'' P (k + 2) x L f := by
  obtain ⟨v, G'', c, hv, m, s⟩ := call459 h.src hk hn
  exact ⟨v, G'', c, hv, h.mv m s⟩
theorem vl_size {L : List (List Int)} (h : ∀ g ∈ L, VF g) : (bkC L).length = L.length * 12 := bkC_length fun f hf => (h f hf).W
theorem Lo2.bk {G G' : Heap} {P k : Nat} {x : Value} {L : List (List Int)} {f : List Int} (h : Lo2 G G' P k x L f) : Bk G' x L := by
  obtain ⟨ver, rfl, g⟩ := h.ls
  have hs := vl_size h.VL
  exact ⟨hs, .inr ⟨_, 0, ver, L.length, rfl, Nat.le_refl _, by rw [rd_at g rfl (by simp [hs])]; simp [take_all, hs], _, g, rfl, rfl⟩⟩
theorem Lo2.push {G G' : Heap} {P k : Nat} {x : Value} {L : List (List Int)} {f : List Int} (h : Lo2 G G' P k x L f) (hn : L.length ≤ 1000000) :
    ∃ x' G'', ((srcOf 12 (G' ++ [⟨cs .u16 f, 12, 0, false⟩]) (slc G'.length 0 0 1 1)).bind fun q => appendTo G.length true 12 24 (G' ++ [⟨cs .u16 f, 12, 0, false⟩]) x q.1 q.2) = some (x', G'') ∧ Lo2 G G'' P k x' (L ++ [f]) f := by
  have hl := h.lt
  have hlen := h.len
  have hf := h.V.W.len
  have hs := vl_size h.VL
  have hfr := h.fr
  have hsrc := h.src
  have hget := h.get
  obtain ⟨ver, rfl, g⟩ := h.ls
  have gA : ∀ j, j < G'.length → (G' ++ [(⟨cs .u16 f, 12, 0, false⟩ : Blk)])[j]? = G'[j]? := fun j hj => List.getElem?_append_left hj
  have g' : (G' ++ [(⟨cs .u16 f, 12, 0, false⟩ : Blk)])[G.length]? = some ⟨bkC L, 12, ver, false⟩ := by rw [gA _ (by omega)]; exact g
  have e1 : srcOf 12 (G' ++ [⟨cs .u16 f, 12, 0, false⟩]) (slc G'.length 0 0 1 1) = some (1, cs .u16 f) := by
    show (rd (G' ++ [⟨cs .u16 f, 12, 0, false⟩]) G'.length 0 0 (1 * 12)).map (fun cs => (1, cs)) = _
    rw [Nat.one_mul, rd_last rfl (by simpa using hf)]; rfl
  have e2 : (L ++ [f]).length = L.length + 1 := by simp
  refine ⟨slc G.length 0 (ver + 1) (L.length + 1) (L.length + 1), (G' ++ [(⟨cs .u16 f, 12, 0, false⟩ : Blk)]).set G.length ⟨bkC L ++ cs .u16 f, 12, ver + 1, false⟩, ?_, ?_⟩
  · rw [e1, Option.bind_some]
    exact appendTo_grow g' rfl rfl (by simp [may]) rfl hs.symm (by omega) (room24 (by omega))
  · refine ⟨hsrc.mv (by rw [List.getElem?_set_ne (by omega), gA _ (by omega)]) fun j hj => by rw [List.getElem?_set_ne (by omega), gA _ (by omega)], ⟨ver + 1, by rw [e2], by rw [get_set g', bkC_push]⟩, fun g hg => ?_, by rw [List.getElem?_set_ne (by omega), gA _ (by omega)]; exact hfr, h.V, by simp; omega, fun j hj hp => by rw [List.getElem?_set_ne (by omega), gA _ (by omega)]; exact hget j hj hp, hl⟩
    rcases List.mem_append.1 hg with h1 | h1
    · exact h.VL g h1
    · rw [List.mem_singleton.1 h1]; exact h.V
/-- In a function that draws: the source, and blocks of the call's own behind. -/
structure Lo0 (G G' : Heap) (P k : Nat) : Prop where
  src : Src G' P k
  len : G.length ≤ G'.length
  get : ∀ j, j < G.length → j ≠ P → G'[j]? = G[j]?
  lt : P < G.length
theorem Lo0.mv {G G' G'' : Heap} {P k k' : Nat} (h : Lo0 G G' P k) (m : Mv P G' G'') (s : Src G'' P k') : Lo0 G G'' P k' :=
  ⟨s, by rw [m.len]; exact h.len, fun j hj hp => by rw [m.get j hp]; exact h.get j hj hp, h.lt⟩
theorem Lo0.pre {G G' G'' : Heap} {P k : Nat} (h : Lo0 G G' P k) (p : Pre G' G'') : Lo0 G G'' P k := by
  have h1 := h.len
  exact ⟨h.src.pre p, Nat.le_trans h1 p.len, fun j hj hp => by rw [p.get (by omega)]; exact h.get j hj hp, h.lt⟩
theorem Lo0.le {G G' : Heap} {P k k' : Nat} (h : Lo0 G G' P k) (hk : k ≤ k') : Lo0 G G' P k' := ⟨h.src.le hk, h.len, h.get, h.lt⟩
/-- Valid light. -/
structure VL (l : List Int) : Prop where
  len : l.length = 144
  ok : okAll l = true
theorem VL.at {l : List Int} (h : VL l) {i : Nat} (hi : i < 144) : 0 ≤ nth l i ∧ nth l i ≤ 1000 := by
  have := List.all_eq_true.1 (show l.all okL = true from h.ok) _ (nth_mem (i := i) (by rw [h.len]; exact hi))
  simpa [okL] using this
theorem VL.set {l : List Int} {i : Nat} {v : Int} (h : VL l) (hv : 0 ≤ v ∧ v ≤ 1000) : VL (l.set i v) :=
  ⟨by simp [h.len], List.all_eq_true.2 fun n hn => (List.mem_or_eq_of_mem_set hn).elim (fun h1 => List.all_eq_true.1 (show l.all okL = true from h.ok) n h1) (fun e => by rw [e]; simpa [okL] using hv)⟩
theorem VL.zero : VL (zr 144 0) := ⟨by simp, by decide⟩
theorem bit_get {n : Nat} {i : Nat} (h : i < 16) : (BitVec.ofInt 16 (n : Int)).getLsbD i = n.testBit i := by
  rw [BitVec.ofInt_natCast, BitVec.getLsbD_ofNat]
  simp [h]
theorem dotB_vec {v : BitVec 16} {i : Nat} : dotB (IntKind.wrap .u16 (v.toNat : Int)) i = v.getLsbD i := by
  have := v.isLt
  rw [wrapu16 (by omega), dotB_bit]
  exact BitVec.testBit_toNat v
theorem or_dot {a b : Int} (ha : u16' a) (hb : u16' b) {i : Nat} (hi : i < 16) : dotB (orI a b) i = (dotB a i || dotB b i) := by
  obtain ⟨n, rfl⟩ := Int.eq_ofNat_of_zero_le ha.1
  obtain ⟨m, rfl⟩ := Int.eq_ofNat_of_zero_le hb.1
  rw [dotB_bit, dotB_bit, ← bit_get hi, ← bit_get hi, ← BitVec.getLsbD_or]
  exact dotB_vec
theorem less_dot {a b : Int} (ha : u16' a) (hb : u16' b) {i : Nat} (hi : i < 16) : dotB (lessI a b) i = (dotB a i && !dotB b i) := by
  obtain ⟨n, rfl⟩ := Int.eq_ofNat_of_zero_le ha.1
  obtain ⟨m, rfl⟩ := Int.eq_ofNat_of_zero_le hb.1
  have e1 : (BitVec.ofInt 16 (n : Int) &&& ~~~BitVec.ofInt 16 (m : Int)).getLsbD i = ((BitVec.ofInt 16 (n : Int)).getLsbD i && !(BitVec.ofInt 16 (m : Int)).getLsbD i) := by
    rw [BitVec.getLsbD_and, BitVec.getLsbD_not]; simp [hi]
  rw [dotB_bit, dotB_bit, ← bit_get hi, ← bit_get hi, ← e1]
  exact dotB_vec
theorem hasF_dots {p : Nat → Nat → Bool} {x y : Nat} (hx : x < 12) (hy : y < 12) : hasF (dotsF p) x y = p x y := by
  rw [hasF, dotsF_nth hy, dotB_bit, rowN_bit]; simp [hx]
theorem VF.dots {f : List Int} (h : VF f) : dotsF (hasF f) = f := by
  refine (ext_nth (by rw [dotsF_length, h.W.len]) fun y hy => ?_)
  rw [dotsF_length] at hy
  obtain ⟨n, hn, hlt⟩ := okF_row h.ok h.W hy
  rw [dotsF_nth hy, hn]
  have := rowN_eq (q := fun x => hasF f x y) (n := n) (m := 12) hlt fun x hx => by rw [hasF, hn, dotB_bit]
  rw [← this]
theorem VF.ext {f g : List Int} (hf : VF f) (hg : VF g) (h : ∀ x y, x < 12 → y < 12 → hasF f x y = hasF g x y) : f = g := by
  rw [← hf.dots, ← hg.dots]
  exact dotsF_congr h
theorem mix_or {f g : List Int} (hf : VF f) (hg : VF g) {x y : Nat} (hx : x < 12) (hy : y < 12) : hasF (mixF orI f g) x y = (hasF f x y || hasF g x y) := by
  rw [hasF, mixF, nth_tabN hy]; exact or_dot (hf.row hy).1 (hg.row hy).1 (by omega)
theorem mix_less {f g : List Int} (hf : VF f) (hg : VF g) {x y : Nat} (hx : x < 12) (hy : y < 12) : hasF (mixF lessI f g) x y = (hasF f x y && !hasF g x y) := by
  rw [hasF, mixF, nth_tabN hy]; exact less_dot (hf.row hy).1 (hg.row hy).1 (by omega)
theorem mixV {op : Int → Int → Int} {f g : List Int} (hf : VF f) (hg : VF g) (h : ∀ a b, u16' a → u16' b → okRow a = true → okRow b = true → u16' (op a b) ∧ okRow (op a b) = true) : VF (mixF op f g) := by
  have key : ∀ i, i < 12 → u16' (nth (mixF op f g) i) ∧ okRow (nth (mixF op f g) i) = true := fun i hi => by
    rw [mixF, nth_tabN hi]
    exact h _ _ (hf.row hi).1 (hg.row hi).1 (hf.row hi).2 (hg.row hi).2
  exact ⟨⟨mixF_length, fun n hn => by obtain ⟨i, hi, rfl⟩ := mem_nth hn; rw [mixF_length] at hi; exact (key i hi).1⟩, okF_true mixF_length fun i hi => (key i hi).2⟩
theorem or_V {f g : List Int} (hf : VF f) (hg : VF g) : VF (mixF orI f g) := mixV hf hg fun _ _ h1 h2 h3 h4 => ⟨orI_ok, orI_row h1 h2 h3 h4⟩
theorem less_V {f g : List Int} (hf : VF f) (hg : VF g) : VF (mixF lessI f g) := mixV hf hg fun _ _ h1 h2 h3 _ => ⟨lessI_ok, lessI_row h1 h3⟩
theorem hasF_zero {x y : Nat} (hx : x < 12) (hy : y < 12) : hasF (zr 12 0) x y = false := by rw [← dotsF_none, hasF_dots hx hy]
theorem less_none {f g : List Int} (hf : VF f) (hg : VF g) (h : ∀ x y, x < 12 → y < 12 → hasF f x y = true → hasF g x y = true) : mixF lessI f g = zr 12 0 :=
  (less_V hf hg).ext .zero fun x y hx hy => by
    rw [mix_less hf hg hx hy, hasF_zero hx hy]
    cases h1 : hasF f x y with
    | false => rfl
    | true => rw [h x y hx hy h1]; rfl
/-- A list of bytes in memory. -/
structure By (H : Heap) (x : Value) (bs : List Int) : Prop where
  s : SlR H x 1 bs.length (cs .u8 bs)
  b : ∀ v ∈ bs, 0 ≤ v ∧ v ≤ 255
theorem By.pre {H G : Heap} {x : Value} {bs : List Int} (p : Pre H G) (h : By H x bs) : By G x bs := ⟨h.s.pre p, h.b⟩
theorem call170 {pu : Bool} {H : Heap} {x : Value} {bs : List Int} (hx : By H x bs) (hn : bs.length ≤ 1000000) : ∃ f, Call tab pu 170 [x] H = some (iv .u16 f, H) ∧ VF f := by
  obtain ⟨c1, s1⟩ := call315 (pu := true) hx.s hx.b hn
  obtain ⟨f, G1, c2, V, m, s2⟩ := call368 s1 (by omega)
  obtain ⟨H1, hH1⟩ : ∃ H1, H1 = H ++ [srB x 0 0] := ⟨_, rfl⟩
  rw [← hH1] at c1 c2 s1 m
  have p1 : Pre H H1 := by rw [hH1]; exact Pre.one
  have ht : G1.take H.length = H := by rw [m.take (Nat.le_refl _), p1.take]
  have he : elder H.length false H1 (iv .u16 f, G1) = some (iv .u16 f, G1) := elder_same (by rw [ht, p1.take])
  have s3 := stc_zr (k := .u16) (n := 12) (l := f) V.W.len
  refine ⟨f, Call_wp t170 (.inr rfl) rfl ?_, V⟩
  simp [c170, k170, c1, c2, wbOf, he, zs_cs, V.W.len, s3, agg_cs, ht]
theorem call169 {pu : Bool} {H : Heap} {x : Value} {bs : List Int} (hx : By H x bs) : Call tab pu 169 [x] H = some (.bool (decide (4096 < bs.length)), H) := by
  refine Call_wp t169 (.inr rfl) rfl ?_
  simp [c169, k169, hx.s.lenV]
  omega
/-- In a function that draws: the source, and a list of the call's own in the first new block. -/
structure LoG (G G' : Heap) (P k : Nat) (x : Value) (esz n : Nat) (vs : List Value) : Prop where
  src : Src G' P k
  ls : ∃ ver, x = slc G.length 0 ver n n ∧ G'[G.length]? = some ⟨vs, esz, ver, false⟩
  size : vs.length = n * esz
  len : G.length + 1 ≤ G'.length
  get : ∀ j, j < G.length → j ≠ P → G'[j]? = G[j]?
  lt : P < G.length
theorem LoG.mv {G G' G'' : Heap} {P k k' esz n : Nat} {x : Value} {vs : List Value} (h : LoG G G' P k x esz n vs) (m : Mv P G' G'') (s : Src G'' P k') : LoG G G'' P k' x esz n vs := by
  have := h.lt
  exact ⟨s, by obtain ⟨ver, e, g⟩ := h.ls; exact ⟨ver, e, by rw [m.get _ (by omega)]; exact g⟩, h.size, by rw [m.len]; exact h.len, fun j hj hp => by rw [m.get j hp]; exact h.get j hj hp, h.lt⟩
theorem LoG.le {G G' : Heap} {P k k' esz n : Nat} {x : Value} {vs : List Value} (h : LoG G G' P k x esz n vs) (hk : k ≤ k') : LoG G G' P k' x esz n vs := ⟨h.src.le hk, h.ls, h.size, h.len, h.get, h.lt⟩
theorem LoG.pick {G G' : Heap} {P k esz m : Nat} {x : Value} {vs : List Value} {n : Int} (h : LoG G G' P k x esz m vs) (hk : k ≤ 100000000000) (hn : 1 ≤ n ∧ n ≤ 1000000) : ∃ v G'', Call tab false 459 [adr P 0 0, .int .i64 n] G' = some (.int .i64 v, G'') ∧ (0 ≤ v ∧ v < n) ∧ LoG G G'' P (k + 2) x esz m vs := by
  obtain ⟨v, G'', c, hv, mv, s⟩ := call459 h.src hk hn
  exact ⟨v, G'', c, hv, h.mv mv s⟩
theorem LoG.new {G : Heap} {P k esz : Nat} (h : Src G P k) : LoG G (G ++ [⟨[], esz, 0, false⟩]) P k (slc G.length 0 0 0 0) esz 0 [] :=
  ⟨h.pre Pre.one, ⟨0, rfl, get_last⟩, by simp, by simp, fun j hj _ => Pre.one.get hj, h.lt⟩
theorem LoG.push {G G' : Heap} {P k esz n bytes : Nat} {x : Value} {vs c : List Value} (h : LoG G G' P k x esz n vs) (hc : c.length = esz) (hb : (n + 1) * bytes ≤ roomMax) :
    ∃ x' G'', ((srcOf esz (G' ++ [⟨c, esz, 0, false⟩]) (slc G'.length 0 0 1 1)).bind fun q => appendTo G.length true esz bytes (G' ++ [⟨c, esz, 0, false⟩]) x q.1 q.2) = some (x', G'') ∧ LoG G G'' P k x' esz (n + 1) (vs ++ c) := by
  have hl := h.lt
  have hlen := h.len
  have hsrc := h.src
  have hget := h.get
  have hs := h.size
  obtain ⟨ver, rfl, g⟩ := h.ls
  have gA : ∀ j, j < G'.length → (G' ++ [(⟨c, esz, 0, false⟩ : Blk)])[j]? = G'[j]? := fun j hj => List.getElem?_append_left hj
  have g' : (G' ++ [(⟨c, esz, 0, false⟩ : Blk)])[G.length]? = some ⟨vs, esz, ver, false⟩ := by rw [gA _ (by omega)]; exact g
  have e1 : srcOf esz (G' ++ [⟨c, esz, 0, false⟩]) (slc G'.length 0 0 1 1) = some (1, c) := by
    show (rd (G' ++ [⟨c, esz, 0, false⟩]) G'.length 0 0 (1 * esz)).map (fun cs => (1, cs)) = _
    rw [Nat.one_mul, rd_last rfl (by simpa using hc)]; rfl
  refine ⟨slc G.length 0 (ver + 1) (n + 1) (n + 1), (G' ++ [(⟨c, esz, 0, false⟩ : Blk)]).set G.length ⟨vs ++ c, esz, ver + 1, false⟩, ?_, ?_⟩
  · rw [e1, Option.bind_some]
    exact appendTo_grow g' rfl rfl (by simp [may]) rfl hs.symm (by omega) hb
  · exact ⟨hsrc.mv (by rw [List.getElem?_set_ne (by omega), gA _ (by omega)]) fun j hj => by rw [List.getElem?_set_ne (by omega), gA _ (by omega)], ⟨ver + 1, rfl, get_set g'⟩, by simp [hs, hc, Nat.succ_mul], by simp; omega,
      fun j hj hp => by rw [List.getElem?_set_ne (by omega), gA _ (by omega)]; exact hget j hj hp, hl⟩
theorem LoG.rd {G G' : Heap} {P k esz n o m : Nat} {x : Value} {vs : List Value} (h : LoG G G' P k x esz n vs) {ver : Nat} (hx : x = slc G.length 0 ver n n) (ho : o + m ≤ n * esz) : Fb.rd G' G.length o ver m = some ((vs.drop o).take m) := by
  obtain ⟨ver', e, g⟩ := h.ls
  rw [hx] at e
  have hve : ver = ver' := by
    have := e
    simp [slc] at this
    exact this
  subst hve
  exact rd_at (ver := ver) g rfl (by rw [h.size]; exact ho)
/-- Keys of a drawn track: all behind one another, ahead of t. -/
structure KG (ks : List Ky) (t : Int) : Prop where
  r : ∀ i, i < ks.length → (0 ≤ (ky ks i).1 ∧ (ky ks i).1 < t) ∧ (-6 ≤ (ky ks i).2.1 ∧ (ky ks i).2.1 ≤ 6) ∧ -6 ≤ (ky ks i).2.2 ∧ (ky ks i).2.2 ≤ 6
  s : ∀ i, i + 1 < ks.length → (ky ks i).1 < (ky ks (i + 1)).1
theorem ky_push {ks : List Ky} {k : Ky} {i : Nat} : ky (ks ++ [k]) i = if i < ks.length then ky ks i else if i = ks.length then k else default := by
  unfold ky at0
  rw [List.getD_eq_getElem?_getD, List.getElem?_append]
  split
  · rw [List.getD_eq_getElem?_getD]
  · rename_i h
    split
    · rename_i h2; subst h2; simp
    · rw [List.getElem?_eq_none (by simp; omega)]; rfl
theorem KG.push {ks : List Ky} {t t' a b : Int} (h : KG ks t) (ht : 0 ≤ t) (htt : t < t') (ha : -6 ≤ a ∧ a ≤ 6) (hb : -6 ≤ b ∧ b ≤ 6) : KG (ks ++ [(t, a, b)]) t' := by
  refine ⟨fun i hi => ?_, fun i hi => ?_⟩
  · have hi : i < ks.length + 1 := by simpa using hi
    rw [ky_push]
    by_cases h1 : i < ks.length
    · rw [if_pos h1]; have := h.r i h1; exact ⟨by omega, this.2⟩
    · rw [if_neg h1, if_pos (by omega)]; exact ⟨⟨ht, htt⟩, ha, hb⟩
  · have hi : i + 1 < ks.length + 1 := by simpa using hi
    rw [ky_push, ky_push, if_pos (by omega)]
    by_cases h1 : i + 1 < ks.length
    · rw [if_pos h1]; exact h.s i h1
    · rw [if_neg h1, if_pos (by omega)]; exact (h.r i (by omega)).1.2
/-- A drawn track. -/
structure DT (ks : List Ky) : Prop where
  n1 : 1 ≤ ks.length
  n5 : ks.length ≤ 5
  ok : okTk ks = true
/-- A drawn part. -/
structure DP (s : Pt) : Prop where
  f : VF s.f
  e : 0 ≤ s.e ∧ s.e ≤ 3
  ks : DT s.ks
theorem DT.W {ks : List Ky} (h : DT ks) : KyW ks := fun k hk => by
  have V := okTk_V h.ok
  obtain ⟨i, hi, rfl⟩ := List.getElem_of_mem hk
  have := V.r i hi
  have e : ky ks i = ks[i] := Option.some.inj ((at0_get hi).symm.trans (List.getElem?_eq_getElem hi))
  rw [e] at this
  exact ⟨by omega, ⟨by omega, by omega⟩, ⟨by omega, by omega⟩⟩
theorem DP.ok {s : Pt} (h : DP s) : okPt s = true := by
  have := h.e
  simp [okPt, h.f.ok, h.ks.ok, in1, this]
theorem DP.W {s : Pt} (h : DP s) : PtW s := ⟨h.f.W.ok, ⟨by have := h.e; omega, by have := h.e; omega⟩, h.ks.W⟩
theorem call259 {pu : Bool} {H : Heap} {x : Value} {bs : List Int} {n : Int} (hx : By H x bs) (hn : bs.length ≤ 1000000) (h1 : 1 ≤ n ∧ n ≤ 1000000) : ∃ v, Call tab pu 259 [x, .int .i64 n] H = some (.int .i64 v, H) ∧ 0 ≤ v ∧ v < n := by
  obtain ⟨c1, s1⟩ := call315 (pu := true) hx.s hx.b hn
  obtain ⟨v, G2, c2, hv, m2, s2⟩ := call459 (n := n) s1 (by omega) h1
  obtain ⟨H1, hH1⟩ : ∃ H1, H1 = H ++ [srB x 0 0] := ⟨_, rfl⟩
  rw [← hH1] at c1 c2 s1 m2
  have p1 : Pre H H1 := by rw [hH1]; exact Pre.one
  have t2 : G2.take H.length = H := by rw [m2.take (Nat.le_refl _), p1.take]
  have x2 : elder H.length false H1 (.int .i64 v, G2) = some (.int .i64 v, G2) := elder_same (by rw [t2, p1.take])
  refine ⟨v, Call_wp t259 (.inr rfl) rfl ?_, hv⟩
  simp [c259, k259, c1, c2, x2, wbOf, t2]
theorem call356 {pu : Bool} {G : Heap} {x y : Value} {l : List Int} (hx : SlR G x 1 l.length (cs .i64 l)) (hy : SlR G y 1 l.length (cs .i64 l)) (hn : l.length ≤ 1000000) : Call tab pu 356 [x, y] G = some (.bool true, G) := by
  refine Call_wp t356 (.inr rfl) rfl ?_
  simp [c356, k356, hx.lenV, hy.lenV]
  refine WP_forH 5 l.length _ rfl (by omega) (fun i e => e 0 = x ∧ e 1 = y) ?_ ?_ (by simp) (by simp)
  · rintro i e hi hii e4 h5 ⟨h0, h1⟩
    obtain ⟨q, off, ver, ha, hr⟩ := hx.get1 hi
    obtain ⟨q', off', ver', ha', hr'⟩ := hy.get1 hi
    rw [elem_i hi] at hr hr'
    simp [b356_1, h5, h0, h1, hii, hx.lenV, ha, hr, ha', hr', e4]
  · rintro e h5 ⟨h0, h1⟩
    simp [b356_1, h5, h0, hx.lenV]
theorem call262 {pu : Bool} {G : Heap} {x y : Value} {l : List Int} (hx : SlR G x 1 l.length (cs .i64 l)) (hy : SlR G y 1 l.length (cs .i64 l)) (hn : l.length ≤ 1000000) : Call tab pu 262 [x, y] G = some (.bool true, G) := by
  refine Call_wp t262 (.inr rfl) rfl ?_
  simp [c262, k262, call356 hx hy hn]
theorem call265 {pu : Bool} {G : Heap} {g : Value} {v : List Int} {a : Int} (h : SlR G g 1 v.length (cs .i64 v)) (hn : v.length ≤ 10000000) : Call tab pu 265 [g, .int .i64 a] G = some (.bool (memI v a), G) := by
  refine Call_wp t265 (.inr rfl) rfl ?_
  simp [c265, k265, call401 h hn]
theorem call323 {pu : Bool} {G : Heap} {x y : Value} {b : List (List Int)} (hx : Bk G x b) (hy : Bk G y b) (hw : ∀ f ∈ b, f.length = 12) (hn : b.length ≤ 1000000) (hbw : BkW b) : Call tab pu 323 [x, y] G = some (.bool true, G) := by
  refine Call_wp t323 (.inr rfl) rfl ?_
  simp [c323, k323, hx.lenV, hy.lenV]
  refine WP_forH 5 b.length _ rfl (by omega) (fun i e => e 0 = x ∧ e 1 = y) ?_ ?_ (by simp) (by simp)
  · rintro i e hi hii e4 h5 ⟨h0, h1⟩
    obtain ⟨q, off, ver, ha, hr⟩ := Bk.get hx hbw hi
    obtain ⟨q', off', ver', ha', hr'⟩ := Bk.get hy hbw hi
    have hl := (hbw.fr hi).len
    have q1 := eqV_iv (k := .u16) hl hl
    simp [b323_1, h5, h0, h1, hii, hx.lenV, ha, hr, ha', hr', agg_cs, q1, e4]
  · rintro e h5 ⟨h0, h1⟩
    simp [b323_1, h5, h0, hx.lenV]
theorem call91 {pu : Bool} {G : Heap} {x y : Value} {b : List (List Int)} (hx : Bk G x b) (hy : Bk G y b) (hn : b.length ≤ 1000000) (hbw : BkW b) : Call tab pu 91 [x, y] G = some (.bool true, G) := by
  refine Call_wp t91 (.inr rfl) rfl ?_
  simp [c91, k91, call323 hx hy (fun f hf => (hbw f hf).len) hn hbw]
def lpD (b : List (List Int)) (n i : Nat) : Int := difF (fr b (i + n - 1)) (fr b i)
/-- The best of what was visited. -/
def LpI (b : List (List Int)) (o : Lp) (S : Nat → Nat → Prop) : Prop := match o with
  | none => ∀ n i, ¬ S n i
  | some (f, c, j) => S c f ∧ j = lpD b c f ∧ ∀ n i, S n i → j ≤ lpD b n i ∧ (lpD b n i = j → n < c ∨ (n = c ∧ f ≤ i))
theorem LpI.step {b : List (List Int)} {o : Lp} {S S' : Nat → Nat → Prop} {n i : Nat} (h : LpI b o S) (hS : ∀ n' i', S' n' i' ↔ S n' i' ∨ (n' = n ∧ i' = i)) (ho : ∀ n' i', S n' i' → n < n' ∨ (n = n' ∧ i' < i)) : LpI b (stepL b n i o) S' := by
  cases o with
  | none =>
    refine ⟨(hS n i).2 (.inr ⟨rfl, rfl⟩), rfl, fun n' i' hs => ?_⟩
    rcases (hS n' i').1 hs with h1 | ⟨rfl, rfl⟩
    · exact absurd h1 (h n' i')
    · exact ⟨Int.le_refl _, fun _ => .inr ⟨rfl, Nat.le_refl _⟩⟩
  | some q =>
    obtain ⟨f, c, j⟩ := q
    obtain ⟨h1, h2, h3⟩ := h
    show LpI b (if lpD b n i < j then some (i, n, lpD b n i) else some (f, c, j)) S'
    split
    · rename_i hlt
      refine ⟨(hS n i).2 (.inr ⟨rfl, rfl⟩), rfl, fun n' i' hs => ?_⟩
      rcases (hS n' i').1 hs with h4 | ⟨rfl, rfl⟩
      · have := (h3 n' i' h4).1
        exact ⟨by omega, fun he => by omega⟩
      · exact ⟨Int.le_refl _, fun _ => .inr ⟨rfl, Nat.le_refl _⟩⟩
    · rename_i hge
      refine ⟨(hS c f).2 (.inl h1), h2, fun n' i' hs => ?_⟩
      rcases (hS n' i').1 hs with h4 | ⟨rfl, rfl⟩
      · exact h3 n' i' h4
      · refine ⟨by omega, fun _ => ?_⟩
        rcases ho c f h1 with h5 | h5
        · exact .inl h5
        · exact .inr ⟨h5.1, by omega⟩
/-- What is left of a text behind some of its parts. -/
def tailC : Nat → Cd → Cd
  | 0, c => c
  | n + 1, .seq _ b => tailC n b
  | _, c => c
/-- What ends a law well. -/
def QL (n0 : Nat) (H : Heap) : Ex → Env → Heap → Prop := fun x e' H' => (∀ i, x ≠ .exit i) ∧ (resVs e' H' [.t 4]).map (finish n0 H') = some (.bool true, H)
structure C1 (G : Heap) (x cx l1 l2 l3 : Value) (b c : List (List Int)) (frm : Nat) : Prop where
  bk : Bk G x b
  ck : Bk G cx c
  Vb : ∀ f ∈ b, VF f
  nb : b.length ≤ 1000
  c1 : 1 ≤ c.length
  cb : frm + c.length ≤ b.length
  sub : ∀ i, i < c.length → fr c i = fr b (frm + i)
  s1 : SlR G l1 1 (mcK b c 0 (mcN b c)).1.length (cs .i64 (mcK b c 0 (mcN b c)).1)
  s2 : SlR G l2 1 (mcK b c 1 (mcN b c)).1.length (cs .i64 (mcK b c 1 (mcN b c)).1)
  s3 : SlR G l3 2 (mcK b c 1 (mcN b c)).1.length (mvsC (mcK b c 1 (mcN b c)).2)
theorem C1.V {G : Heap} {x cx l1 l2 l3 : Value} {b c : List (List Int)} {frm : Nat} (h : C1 G x cx l1 l2 l3 b c frm) {i : Nat} (hi : i < c.length) : VF (fr c i) := by
  rw [h.sub i hi]
  have := h.cb
  exact h.Vb _ (at0_mem (by omega))
theorem srcOf_bk {G : Heap} {x : Value} {L : List (List Int)} (h : Bk G x L) : srcOf 12 G x = some (L.length, bkC L) := by
  rcases h.is with ⟨rfl, h0⟩ | ⟨b, off, ver, cap, rfl, _, hr, _⟩
  · have : L = [] := List.length_eq_zero_iff.1 h0
    subst this; rfl
  · show (rd G b off ver (L.length * 12)).map _ = _
    rw [hr]; rfl
theorem app_bk {n0 m ver F : Nat} {wb : Bool} {G : Heap} {x : Value} {L : List (List Int)} {vs : List Value} (h : Bk G x L) (hn : L.length ≤ 1000) (hm : m ≤ 1000) (hF : n0 ≤ F) (hg : G[F]? = some ⟨vs, 12, ver, false⟩) (hs : vs.length = m * 12) :
    ∃ ver', ((srcOf 12 G x).bind fun q => appendTo n0 wb 12 24 G (slc F 0 ver m m) q.1 q.2) = some (slc F 0 ver' (m + L.length) (m + L.length), G.set F ⟨vs ++ bkC L, 12, ver', false⟩) := by
  rw [srcOf_bk h, Option.bind_some]
  by_cases h0 : L.length = 0
  · have : L = [] := List.length_eq_zero_iff.1 h0
    subst this
    refine ⟨ver, ?_⟩
    have e : vs ++ bkC [] = vs := List.append_nil vs
    rw [e, set_self hg]
    have hw := wr_at (n0 := n0) (wb := wb) (off := m * 12) (vs := []) (ver := ver) hg rfl rfl (by simp [may, hF]) (by simp [hs])
    have hsp : splice vs (m * 12) [] = vs := by simp [splice]
    simp only [hsp] at hw
    have e2 : ({ cells := vs, esz := 12, ver := ver, ro := false } : Blk) = ⟨vs, 12, ver, false⟩ := rfl
    rw [set_self hg] at hw
    unfold appendTo slc
    have e3 : bkC ([] : List (List Int)) = [] := rfl
    simp [e3, hw]
  · refine ⟨ver + 1, ?_⟩
    exact appendTo_grow hg rfl rfl (by simp [may, hF]) rfl hs.symm (by omega) (by have : roomMax = 140737488355328 := rfl; omega)
theorem bk_of {G : Heap} {F ver n cap : Nat} {L : List (List Int)} (hg : G[F]? = some ⟨bkC L, 12, ver, false⟩) (hV : ∀ f ∈ L, VF f) (hn : L.length = n) (hc : n ≤ cap) : Bk G (slc F 0 ver n cap) L := by
  subst hn
  have hs := vl_size hV
  exact ⟨hs, .inr ⟨F, 0, ver, cap, rfl, hc, by rw [rd_at hg rfl (by simp [hs])]; simp [take_all, hs], _, hg, rfl, rfl⟩⟩
/-- What the walk knows all along. -/
structure K17 (H G : Heap) (x y : Value) (b : List (List Int)) (bs : List Int) (tw : Bool) (pv : Int) : Prop where
  P : Pre H G
  by' : By G y bs
  bk : Bk G x b
  V : ∀ f ∈ b, VF f
  nb : b.length ≤ 40
  tw' : tw = true → ∃ L, b = L ++ L
  pv' : 1 ≤ b.length → pv = findN (perP b) (b.length + 1)
theorem K17.pre {H G G' : Heap} {x y : Value} {b : List (List Int)} {bs : List Int} {tw : Bool} {pv : Int} (h : K17 H G x y b bs tw pv) (p : Pre G G') : K17 H G' x y b bs tw pv := ⟨h.P.trans p, h.by'.pre p, h.bk.pre p, h.V, h.nb, h.tw', h.pv'⟩
/-- A text with another one behind some of its parts. -/
def headC : Nat → Cd → Cd → Cd
  | 0, _, t => t
  | n + 1, .seq a b, t => .seq a (headC n b t)
  | _, c, _ => c
theorem slcAV_lo1 {H : Heap} {b n cap lo : Nat} {k : Blk} (hk : H[b]? = some k) (hv : 0 = k.ver) (he : k.esz = 1) (h : lo ≤ n) :
    slcAV H 1 (slc b 0 0 n cap) (some (.int .i64 (lo : Int))) none none = some (slc b lo 0 (n - lo) (cap - lo)) := by
  rw [slcAV_get hk hv he]
  simp [bnds, bnd_nat h]
theorem LoG.app {G G' L : Heap} {P k esz n : Nat} {x : Value} {vs : List Value} (h : LoG G G' P k x esz n vs) : LoG G (G' ++ L) P k x esz n vs := by
  have hl := h.lt
  have hlen := h.len
  have g : ∀ j, j < G'.length → (G' ++ L)[j]? = G'[j]? := fun j hj => List.getElem?_append_left hj
  exact ⟨h.src.pre ⟨L, rfl⟩, by obtain ⟨ver, e, q⟩ := h.ls; exact ⟨ver, e, by rw [g _ (by omega)]; exact q⟩, h.size, by simp; omega, fun j hj hp => by rw [g _ (by omega)]; exact h.get j hj hp, hl⟩
/-- A drawn layer. -/
structure DLy (s : Ly) : Prop where
  W : LyW s
  ok : okLy s = true
  bx : -3 ≤ s.x ∧ s.x ≤ 3
  bz : -3 ≤ s.y ∧ s.y ≤ 3
  bd : 0 ≤ s.d ∧ s.d ≤ 8
theorem DLy.of {f g : List Int} {x y d : Int} (hf : VF f) (hg : VF g) (hx : -3 ≤ x ∧ x ≤ 3) (hy : -3 ≤ y ∧ y ≤ 3) (hd : 0 ≤ d ∧ d ≤ 8) : DLy ⟨f ++ mixF orI f g, x, y, d⟩ := by
  have V := or_V hf hg
  have e1 : inkL ⟨f ++ mixF orI f g, x, y, d⟩ = f := (join_sub hf.W.len V.W.len).1
  have e2 : mskL ⟨f ++ mixF orI f g, x, y, d⟩ = mixF orI f g := (join_sub hf.W.len V.W.len).2
  refine ⟨⟨by simp [hf.W.len, V.W.len], fun n hn => ?_, ⟨by simp only []; omega, by simp only []; omega⟩, ⟨by simp only []; omega, by simp only []; omega⟩, ⟨by simp only []; omega, by simp only []; omega⟩⟩, ?_, hx, hy, hd⟩
  · rcases List.mem_append.1 hn with h | h
    · exact hf.W.ok n h
    · exact V.W.ok n h
  · unfold okLy okCel
    rw [e1, e2, hf.ok, V.ok, less_none hf V fun u v hu hv h => by rw [mix_or hf hg hu hv, h]; rfl]
    simp [in1]; omega
/-- Side by side. -/
def Adj (u v u' v' : Nat) : Prop := (v = v' ∧ (u = u' + 1 ∨ u' = u + 1)) ∨ (u = u' ∧ (v = v' + 1 ∨ v' = v + 1))
theorem Adj.symm {u v u' v' : Nat} (h : Adj u v u' v') : Adj u' v' u v := by unfold Adj at *; omega
def Dot (f : List Int) (u v : Nat) : Prop := u < 12 ∧ v < 12 ∧ hasF f u v = true
/-- What hangs together. -/
inductive Conn (f : List Int) (x y : Nat) : Nat → Nat → Prop
  | base (h : Dot f x y) : Conn f x y x y
  | step {u v u' v' : Nat} (h : Conn f x y u v) (ha : Adj u' v' u v) (hd : Dot f u' v') : Conn f x y u' v'
theorem Conn.dot {f : List Int} {x y u v : Nat} (h : Conn f x y u v) : Dot f u v := by cases h <;> assumption
theorem Conn.trans {f : List Int} {x y u v a b : Nat} (h : Conn f x y u v) (h2 : Conn f u v a b) : Conn f x y a b := by
  induction h2 with
  | base _ => exact h
  | step _ ha hd ih => exact .step ih ha hd
theorem Conn.symm {f : List Int} {x y u v : Nat} (h : Conn f x y u v) : Conn f u v x y := by
  induction h with
  | base h => exact .base h
  | step h1 ha hd ih => exact Conn.trans (.step (.base hd) ha.symm h1.dot) ih
def isDig (c : UInt8) : Bool := decide (48 ≤ c.toNat ∧ c.toNat ≤ 57)
def dval (acc : Nat) : List UInt8 → Nat
  | [] => acc
  | c :: r => dval (acc * 10 + (c.toNat - 48)) r
theorem dval_snoc {d : UInt8} : ∀ (l : List UInt8) (acc : Nat), dval acc (l ++ [d]) = dval acc l * 10 + (d.toNat - 48)
  | [], _ => rfl
  | c :: r, acc => dval_snoc r _
theorem dval_le : ∀ (l : List UInt8) (acc : Nat), acc ≤ dval acc l
  | [], _ => Nat.le_refl _
  | c :: r, acc => Nat.le_trans (by omega) (dval_le r (acc * 10 + (c.toNat - 48)))
theorem ofNat_dig {d : Nat} (h : d < 10) : (UInt8.ofNat (48 + d)).toNat = 48 + d := by
  rw [UInt8.toNat_ofNat']
  exact Nat.mod_eq_of_lt (by omega)
theorem dec_small {n : Nat} (h : n < 10) : Lib.decDigits n = [UInt8.ofNat (48 + n)] := by rw [Lib.decDigits, dif_pos h]
theorem dec_big {n : Nat} (h : ¬ n < 10) : Lib.decDigits n = Lib.decDigits (n / 10) ++ [UInt8.ofNat (48 + n % 10)] := by rw [Lib.decDigits, dif_neg h]
theorem dec_val (n : Nat) : dval 0 (Lib.decDigits n) = n := by
  induction n using Nat.strongRecOn with
  | _ n ih =>
    by_cases h : n < 10
    · rw [dec_small h]
      show 0 * 10 + ((UInt8.ofNat (48 + n)).toNat - 48) = n
      rw [ofNat_dig h]; omega
    · rw [dec_big h, dval_snoc, ih _ (by omega), ofNat_dig (by omega)]; omega
theorem dec_dig (n : Nat) : ∀ c ∈ Lib.decDigits n, isDig c = true := by
  induction n using Nat.strongRecOn with
  | _ n ih =>
    by_cases h : n < 10
    · rw [dec_small h]
      intro c hc
      rw [List.mem_singleton.1 hc]
      unfold isDig
      rw [ofNat_dig h]; simp; omega
    · rw [dec_big h]
      intro c hc
      rcases List.mem_append.1 hc with hc | hc
      · exact ih _ (by omega) c hc
      · rw [List.mem_singleton.1 hc]
        unfold isDig
        rw [ofNat_dig (by omega)]; simp; omega
theorem dec_ne (n : Nat) : Lib.decDigits n ≠ [] := by
  by_cases h : n < 10
  · rw [dec_small h]; simp
  · rw [dec_big h]; simp
/-- No zero ahead. -/
theorem dec_head {n : Nat} (hn : n ≠ 0) : ∃ c r, Lib.decDigits n = c :: r ∧ c.toNat ≠ 48 := by
  induction n using Nat.strongRecOn with
  | _ n ih =>
    by_cases h : n < 10
    · rw [dec_small h]
      exact ⟨_, _, rfl, by rw [ofNat_dig h]; omega⟩
    · obtain ⟨c, r, h1, h2⟩ := ih (n / 10) (by omega) (by omega)
      rw [dec_big h, h1]
      exact ⟨c, _, rfl, h2⟩
/-- A numeral: digits, and no zero ahead of others. -/
def okNum (l : List UInt8) : Prop := l ≠ [] ∧ (∀ c ∈ l, isDig c = true) ∧ ((∃ r, l = 48 :: r) → l = [48])
theorem okNum_dec (n : Nat) : okNum (Lib.decDigits n) := by
  refine ⟨dec_ne n, dec_dig n, fun ⟨r, h⟩ => ?_⟩
  by_cases hn : n = 0
  · subst hn; rw [dec_small (by decide)]; rfl
  · obtain ⟨c, r', h1, h2⟩ := dec_head hn
    rw [h1] at h
    cases h
    exact absurd rfl h2
theorem parseM {M : Nat} (hM : M < 18446744073709551616) : ∀ (l : List UInt8) (acc : Nat), (∀ c ∈ l, isDig c = true) → dval acc l ≤ M → Lib.parseUintM M acc l = .ok (dval acc l)
  | [], _, _, _ => rfl
  | c :: r, acc, hd, hm => by
    have h0 : 48 ≤ c.toNat ∧ c.toNat ≤ 57 := by have := hd c (by simp); unfold isDig at this; simpa using this
    have h1 := dval_le r (acc * 10 + (c.toNat - 48))
    have h2 : dval acc (c :: r) = dval (acc * 10 + (c.toNat - 48)) r := rfl
    rw [Lib.parseUintM, if_pos h0, if_neg (by omega), if_neg (by omega), h2]
    exact parseM hM r _ (fun c hc => hd c (by simp [hc])) (by omega)
theorem parse_dec {n : Nat} (hn : n < 9223372036854775808) : Lib.parseIntB 64 (Lib.decDigits n) = .ok (n : Int) ∧ (n ≠ 0 → Lib.parseIntB 64 (45 :: Lib.decDigits n) = .ok (-(n : Int))) := by
  obtain ⟨h1, h2, _⟩ := okNum_dec n
  have hp : Lib.parseUintB 64 (Lib.decDigits n) = .ok n := by
    unfold Lib.parseUintB
    rw [if_neg h1, parseM (by decide) _ _ h2 (by rw [dec_val]; omega), dec_val]
  constructor
  · cases hd : Lib.decDigits n with
    | nil => exact absurd hd h1
    | cons c r =>
      have h0 : 48 ≤ c.toNat ∧ c.toNat ≤ 57 := by have := h2 c (by rw [hd]; simp); unfold isDig at this; simpa using this
      rw [hd] at hp
      unfold Lib.parseIntB
      dsimp only
      rw [if_neg (by omega), hp]
      dsimp only
      rw [if_neg (by rintro ⟨_, h⟩; omega), if_neg (by rintro ⟨h, _⟩; omega), if_neg (by omega)]
  · intro hne
    unfold Lib.parseIntB
    dsimp only
    rw [if_pos (by decide), hp]
    dsimp only
    rw [if_neg (by rintro ⟨h, _⟩; exact h (by decide)), if_neg (by rintro ⟨_, h⟩; omega), if_pos (by decide)]
theorem parse_itoa {v : Int} (h1 : -9223372036854775808 < v) (h2 : v ≤ 9223372036854775807) : Lib.parseIntB 64 (Lib.itoa v) = .ok v := by
  unfold Lib.itoa
  split
  · rename_i h
    rw [(parse_dec (n := v.natAbs) (by omega)).2 (by omega)]
    congr 1; omega
  · rename_i h
    rw [(parse_dec (n := v.toNat) (by omega)).1]
    congr 1; omega
/-- A numeral in its plain form, between two bounds. -/
def rdIn (l : List UInt8) (lo hi : Int) : Option Int := match Lib.parseIntB 64 l with
  | .ok v => if (lo ≤ v ∧ v ≤ hi) ∧ Lib.itoa v = l then some v else none
  | _ => none
theorem rdIn_iff {l : List UInt8} {lo hi v : Int} (h1 : -9223372036854775808 < lo) (h2 : hi ≤ 9223372036854775807) : rdIn l lo hi = some v ↔ l = Lib.itoa v ∧ lo ≤ v ∧ v ≤ hi := by
  unfold rdIn
  constructor
  · intro h
    split at h
    · split at h
      · rename_i hc
        cases h
        exact ⟨hc.2.symm, hc.1⟩
      · cases h
    · cases h
  · rintro ⟨rfl, h3, h4⟩
    rw [parse_itoa (by omega) (by omega)]
    dsimp only
    rw [if_pos ⟨⟨h3, h4⟩, rfl⟩]
@[simp] theorem str_size {l : List UInt8} : (⟨l.toArray⟩ : ByteArray).size = l.length := by rw [Lib.size_eq]
@[simp] theorem lensV_s {l : List UInt8} : lensV (str l) = some (.int .i64 l.length) := by unfold str; simp
theorem eqV_s {a b : List UInt8} : eqV .s (str a) (str b) = some (decide (a = b)) := by
  show some ((⟨a.toArray⟩ : ByteArray).toList == (⟨b.toArray⟩ : ByteArray).toList) = _
  rw [Lib.toList_data, Lib.toList_data]
  show some (a == b) = _
  by_cases h : a = b
  · simp [h]
  · simp [h]
@[simp] theorem eqV_s0 {a : List UInt8} : eqV .s (str a) (.string ⟨#[]⟩) = some (decide (a = [])) := eqV_s (b := [])
theorem add_s {a b : List UInt8} (h : a.length + b.length ≤ 9223372036854775807) : binop .add (str a) (str b) = some (str (a ++ b)) := by
  show (if (((⟨a.toArray⟩ : ByteArray).size + (⟨b.toArray⟩ : ByteArray).size : Nat) : Int) > IntKind.i64.max then none else some (Value.string (⟨a.toArray⟩ ++ ⟨b.toArray⟩))) = _
  rw [str_size, str_size, if_neg (by have : IntKind.i64.max = 9223372036854775807 := by decide
                                     omega)]
  unfold str
  congr 2
@[simp] theorem old0_s {n0 : Nat} {l : List UInt8} : old0 n0 (str l) = true := rfl
@[simp] theorem old1_s {n0 : Nat} {l : List UInt8} : old1 n0 (str l) = true := rfl
@[simp] theorem finish_s {n0 : Nat} {H' : Heap} {l : List UInt8} : finish n0 H' [str l] = (str l, H'.take n0) := finish_1 rfl
@[simp] theorem cellsOf_s {l : List UInt8} : cellsOf (str l) = [str l] := rfl
@[simp] theorem eqV_in : eqV .i .nilIface .nilIface = some true := rfl
@[simp] theorem eqV_is {t : TypeId} {v : Value} : eqV .i (.iface t v) .nilIface = some false := rfl
theorem call522 {pu : Bool} {n : Int} {H : Heap} (h1 : -9223372036854775808 ≤ n) (h2 : n ≤ 9223372036854775807) : Call tab pu 522 [.int .i64 n, .int .i64 10] H = some (str (Lib.itoa n), H) := by
  rw [Call_ext t522 (.inr rfl)]
  show (if -9223372036854775808 ≤ n ∧ n ≤ 9223372036854775807 then some (str (Lib.itoa n), H) else none) = _
  rw [if_pos ⟨h1, h2⟩]
theorem call379 {pu : Bool} {n : Int} {H : Heap} (h1 : -9223372036854775808 ≤ n) (h2 : n ≤ 9223372036854775807) : Call tab pu 379 [.int .i64 n] H = some (str (Lib.itoa n), H) := by
  refine Call_wp t379 (.inr rfl) rfl ?_
  simp [c379, k379, call522 h1 h2]
theorem call485 {pu : Bool} {l : List UInt8} {c : UInt8} {H : Heap} (h : l.length ≤ 1000000) : Call tab pu 485 [str l, .string ⟨#[c]⟩] H = some (slc H.length 0 0 (spl c [] l).length (spl c [] l).length, H ++ [⟨(spl c [] l).map str, 1, 0, false⟩]) := by
  rw [Call_ext t485 (.inr rfl)]
  show (if (⟨l.toArray⟩ : ByteArray).size ≤ strMax ∧ (⟨#[c]⟩ : ByteArray).size = 1 then _ else _) = _
  rw [if_pos ⟨by rw [str_size]; exact h, rfl⟩]
  simp
theorem call377 {pu : Bool} {l : List UInt8} {c : UInt8} {H : Heap} (h : l.length ≤ 1000000) : Call tab pu 377 [str l, .string ⟨#[c]⟩] H = some (tup [str (cutc c l).1, str (cutc c l).2.1, .bool (cutc c l).2.2], H) := by
  rw [Call_ext t377 (.inr rfl)]
  show (if (⟨l.toArray⟩ : ByteArray).size ≤ strMax ∧ (⟨#[c]⟩ : ByteArray).size = 1 then _ else _) = _
  rw [if_pos ⟨by rw [str_size]; exact h, rfl⟩]
  simp
theorem call521 {pu : Bool} {l : List UInt8} {H : Heap} (h : l.length ≤ 1000000) : Call tab pu 521 [str l, .int .i64 10, .int .i64 64] H =
    some (match Lib.parseIntB 64 l with
      | .ok v => tup [.int .i64 v, .nilIface]
      | .range => tup [.int .i64 (Lib.intSat 64 l), .iface 0 .nilIface]
      | _ => tup [.int .i64 0, .iface 0 .nilIface], H) := by
  rw [Call_ext t521 (.inr rfl)]
  show (if (⟨l.toArray⟩ : ByteArray).size ≤ strMax then _ else _) = _
  rw [if_pos (by rw [str_size]; exact h)]
  show (match Lib.parseIntB 64 l.toArray.toList with
      | .ok v => some (tup [.int .i64 v, .nilIface], H)
      | .range => some (tup [.int .i64 (Lib.intSat 64 l.toArray.toList), .iface 0 .nilIface], H)
      | _ => some (tup [.int .i64 0, .iface 0 .nilIface], H)) = _
  rw [List.toList_toArray]
  cases Lib.parseIntB 64 l <;> rfl
/-- A decimal is read. -/
theorem call378 {pu : Bool} {l : List UInt8} {lo hi : Int} {H : Heap} (h : l.length ≤ 1000000) (h1 : -9223372036854775808 < lo) (h2 : hi ≤ 9223372036854775807) :
    ∃ v, Call tab pu 378 [str l, .int .i64 lo, .int .i64 hi] H = some (tup [.int .i64 v, .bool (rdIn l lo hi).isSome], H) ∧ ∀ u, rdIn l lo hi = some u → v = u := by
  have h5 := call521 (pu := false) (H := H) h
  rcases hp : Lib.parseIntB 64 l with v | _ | _
  · refine ⟨v, Call_wp t378 (.inr rfl) rfl ?_, fun u hu => ?_⟩
    · rw [hp] at h5
      dsimp only at h5
      by_cases hc : lo ≤ v ∧ v ≤ hi
      · have h6 := call379 (pu := true) (n := v) (H := H) (by omega) (by omega)
        have e : (rdIn l lo hi).isSome = decide (Lib.itoa v = l) := by
          unfold rdIn
          rw [hp]
          dsimp only
          by_cases hi : Lib.itoa v = l
          · rw [if_pos ⟨hc, hi⟩]; simp [hi]
          · rw [if_neg (fun h => hi h.2)]; simp [hi]
        simp [c378, k378, h5, call295, hc, h6, eqV_s, e, skip]
      · have e : (rdIn l lo hi).isSome = false := by
          unfold rdIn
          rw [hp]
          dsimp only
          rw [if_neg (fun h => hc h.1)]; rfl
        have hc' : decide (lo ≤ v ∧ v ≤ hi) = false := decide_eq_false hc
        simp [c378, k378, h5, call295, hc', e, skip]
    · unfold rdIn at hu
      rw [hp] at hu
      dsimp only at hu
      split at hu
      · cases hu; rfl
      · cases hu
  · refine ⟨0, Call_wp t378 (.inr rfl) rfl ?_, fun u hu => ?_⟩
    · have e : (rdIn l lo hi).isSome = false := by unfold rdIn; rw [hp]; rfl
      rw [hp] at h5
      simp [c378, k378, h5, e, skip]
    · unfold rdIn at hu
      rw [hp] at hu
      cases hu
  · refine ⟨Lib.intSat 64 l, Call_wp t378 (.inr rfl) rfl ?_, fun u hu => ?_⟩
    · have e : (rdIn l lo hi).isSome = false := by unfold rdIn; rw [hp]; rfl
      rw [hp] at h5
      simp [c378, k378, h5, e, skip]
    · unfold rdIn at hu
      rw [hp] at hu
      cases hu
theorem spl_len (c : UInt8) : ∀ (l cur : List UInt8), ∀ p ∈ spl c cur l, p.length ≤ cur.length + l.length
  | [], cur, p, hp => by
    have : p = cur := by simpa [spl] using hp
    subst this; simp
  | x :: r, cur, p, hp => by
    rw [spl] at hp
    split at hp
    · rcases List.mem_cons.1 hp with h | h
      · subst h; simp
      · have := spl_len c r [] p h
        simp at this ⊢; omega
    · have := spl_len c r _ p hp
      simp at this ⊢; omega
theorem spl_count (c : UInt8) : ∀ (l cur : List UInt8), (spl c cur l).length ≤ l.length + 1
  | [], cur => by simp [spl]
  | x :: r, cur => by
    rw [spl]
    split
    · have := spl_count c r []
      simp; omega
    · have := spl_count c r (cur ++ [x])
      simp; omega
theorem strs_get {G : Heap} {x : Value} {l : List (List UInt8)} (h : SlR G x 1 l.length (l.map str)) {i : Nat} (hi : i < l.length) :
    ∃ b off ver, idxAV 1 x (.int .i64 (i : Int)) = some (adr b off ver) ∧ rd G b off ver 1 = some [str (l.getD i [])] := by
  obtain ⟨b, off, ver, h1, h2⟩ := h.get1 hi
  refine ⟨b, off, ver, h1, ?_⟩
  rw [h2]
  unfold elem
  rw [Nat.mul_one]
  congr 1
  have : (l.map str).drop i = str (l.getD i []) :: (l.map str).drop (i + 1) := by
    rw [List.drop_eq_getElem_cons (by simpa using hi)]
    simp [hi]
  rw [this]; rfl
theorem itoa_chars {v : Int} : ∀ c ∈ Lib.itoa v, isDig c = true ∨ c = 45 := by
  intro c hc
  unfold Lib.itoa at hc
  split at hc
  · rcases List.mem_cons.1 hc with h | h
    · exact .inr h
    · exact .inl (dec_dig _ c h)
  · exact .inl (dec_dig _ c hc)
/-- A move out of a word. -/
def mv2 (a b : Option Int) : Option (Int × Int) := match a, b with
  | some u, some v => some (u, v)
  | _, _ => none
theorem cut_len (c : UInt8) : ∀ l : List UInt8, (cutc c l).1.length ≤ l.length ∧ (cutc c l).2.1.length ≤ l.length
  | [] => ⟨Nat.le_refl _, Nat.le_refl _⟩
  | x :: r => by
    have := cut_len c r
    rw [cutc]
    split
    · simp
    · simp; omega
/-- Parts without the byte, joined and parted again. -/
theorem spl_tail (c : UInt8) : ∀ (r : List (List UInt8)) (cur x : List UInt8), (∀ w ∈ x :: r, c ∉ w) → spl c cur (x ++ Lib.joinTail [c] r) = (cur ++ x) :: r
  | r, cur, a :: x, h => by
    have ha : a ≠ c := fun e => h (a :: x) (by simp) (by simp [e])
    rw [List.cons_append, spl, if_neg ha]
    rw [spl_tail c r (cur ++ [a]) x fun w hw => by
      rcases List.mem_cons.1 hw with e | e
      · subst e
        exact fun hm => h (a :: w) (by simp) (by simp [hm])
      · exact h w (by simp [e])]
    simp
  | [], cur, [], h => by simp [Lib.joinTail, spl]
  | y :: r, cur, [], h => by
    have e : Lib.joinTail [c] (y :: r) = c :: (y ++ Lib.joinTail [c] r) := rfl
    rw [List.nil_append, e, spl, if_pos rfl, spl_tail c r [] y fun w hw => h w (by rcases List.mem_cons.1 hw with e | e <;> simp [e])]
    simp
theorem spl_join (c : UInt8) {l : List (List UInt8)} (h0 : l ≠ []) (h : ∀ w ∈ l, c ∉ w) : spl c [] (Lib.join l [c]) = l := by
  cases l with
  | nil => exact absurd rfl h0
  | cons x r =>
    rw [Lib.join_cons, spl_tail c r [] x h]
    rfl
theorem itoa_no {v : Int} {c : UInt8} (hc : isDig c = false) (h2 : c ≠ 45) : c ∉ Lib.itoa v := fun h => by
  rcases itoa_chars c h with e | e
  · rw [hc] at e; cases e
  · exact h2 e
theorem cut_at (c : UInt8) : ∀ (a b : List UInt8), c ∉ a → cutc c (a ++ c :: b) = (a, b, true)
  | [], b, _ => by simp [cutc]
  | x :: a, b, h => by
    have hx : x ≠ c := fun e => h (by simp [e])
    rw [List.cons_append, cutc, if_neg hx, cut_at c a b fun hm => h (by simp [hm])]
/-- A source whose bytes and state are known. -/
def SrD (G : Heap) (P : Nat) (bs : List Int) (s : Int × Int) : Prop := ∃ x, G[P]? = some (srB x s.1 s.2) ∧ SlR (G.take P) x 1 bs.length (cs .u8 bs)
theorem SrD.lt {G : Heap} {P : Nat} {bs : List Int} {s : Int × Int} (h : SrD G P bs s) : P < G.length := by
  obtain ⟨x, h1, _⟩ := h
  exact (List.getElem?_eq_some_iff.1 h1).1
theorem SrD.mv {P : Nat} {G G' : Heap} {bs : List Int} {s : Int × Int} (h : SrD G P bs s) (hP : G'[P]? = G[P]?) (hj : ∀ j, j < P → G'[j]? = G[j]?) : SrD G' P bs s := by
  obtain ⟨x, h1, h2⟩ := h
  refine ⟨x, by rw [hP]; exact h1, ?_⟩
  have : G'.take P = G.take P := by
    apply List.ext_getElem?
    intro j
    rw [List.getElem?_take, List.getElem?_take]
    split
    · exact hj j ‹_›
    · rfl
  rw [this]; exact h2
def PK (bs : List Int) (n : Int) (s : Int × Int) (v : Int) (s' : Int × Int) : Prop := ∀ G P, SrD G P bs s → ∃ G', Call tab false 459 [adr P 0 0, .int .i64 n] G = some (.int .i64 v, G') ∧ Mv P G G' ∧ SrD G' P bs s'
structure LoD (G G' : Heap) (P : Nat) (bs : List Int) (s : Int × Int) (f : List Int) : Prop where
  src : SrD G' P bs s
  fr : G'[G.length]? = some ⟨cs .u16 f, 1, 0, false⟩
  len : G'.length = G.length + 1
  get : ∀ j, j < G.length → j ≠ P → G'[j]? = G[j]?
  lt : P < G.length
theorem LoD.mv {G G' G'' : Heap} {P : Nat} {bs : List Int} {s s' : Int × Int} {f : List Int} (h : LoD G G' P bs s f) (m : Mv P G' G'') (d : SrD G'' P bs s') : LoD G G'' P bs s' f := by
  have := h.lt
  exact ⟨d, by rw [m.get _ (by omega)]; exact h.fr, by rw [m.len]; exact h.len, fun j hj hp => by rw [m.get j hp]; exact h.get j hj hp, h.lt⟩
theorem LoD.set {G G' : Heap} {P : Nat} {bs : List Int} {s : Int × Int} {f g : List Int} (h : LoD G G' P bs s f) : LoD G (G'.set G.length ⟨cs .u16 g, 1, 0, false⟩) P bs s g := by
  have := h.lt
  exact ⟨h.src.mv (List.getElem?_set_ne (by omega)) fun j hj => List.getElem?_set_ne (by omega), get_set h.fr, by simp [h.len], fun j hj hp => by rw [List.getElem?_set_ne (by omega)]; exact h.get j hj hp, h.lt⟩
theorem LoD.pick {G G' : Heap} {P : Nat} {bs : List Int} {s s' : Int × Int} {f : List Int} {n v : Int} (h : LoD G G' P bs s f) (hp : PK bs n s v s') : ∃ G'', Call tab false 459 [adr P 0 0, .int .i64 n] G' = some (.int .i64 v, G'') ∧ LoD G G'' P bs s' f ∧ G''[G.length]? = G'[G.length]? := by
  obtain ⟨G'', c, m, d⟩ := hp G' P h.src
  exact ⟨G'', c, h.mv m d, m.get _ (by have := h.lt; omega)⟩
structure K24 (H G : Heap) (x : Value) (b : List (List Int)) (f : List Int) (m : Nat) : Prop where
  P : Pre H G
  bk : Bk G x b
  V : ∀ f ∈ b, VF f
  nb : b.length ≤ 4
  hf : VF f
  hm : m ≤ 4
theorem K24.pre {H G G' : Heap} {x : Value} {b : List (List Int)} {f : List Int} {m : Nat} (h : K24 H G x b f m) (p : Pre G G') : K24 H G' x b f m := ⟨h.P.trans p, SlR.pre p h.bk, h.V, h.nb, h.hf, h.hm⟩
theorem nDig_le : ∀ k n, n < 10 ^ (k + 1) → Lib.nDigits n ≤ k + 1 := by
  intro k
  induction k with
  | zero => intro n hn; rw [Lib.nDigits_small (by simpa using hn)]; exact Nat.le_refl _
  | succ k ih =>
    intro n hn
    by_cases h : n < 10
    · rw [Lib.nDigits_small h]; omega
    · rw [Lib.nDigits_big h]
      have := ih (n / 10) (by rw [Nat.pow_succ] at hn; omega)
      omega
theorem dec_len20 {n : Nat} (hn : n ≤ 9223372036854775807) : (Lib.decDigits n).length ≤ 20 := by
  rw [Lib.decDigits_length]
  exact nDig_le 19 n (by have : (10 : Nat) ^ (19 + 1) = 100000000000000000000 := rfl
                         omega)
theorem dec_okB {l : List Sted} (hk : okSts l = true) : okB (decL l l.length) = true := by
  simp only [okB, Bool.and_eq_true, decide_eq_true_eq]
  refine ⟨List.all_eq_true.2 fun f hf => (decL_ok hk (Nat.le_refl _) f hf).2, ?_⟩
  rw [decL_len]; exact okSts_len hk
theorem okSts_of {l : List Sted} (hn : l.length ≤ 40) (h : ∀ i, i < l.length → okSt (at0 l i) i = true) : okSts l = true := by
  rw [okSts, allN_true h]; simpa using hn
def encB (b : List (List Int)) (lim : Int) : List Sted := (encP b lim b.length).1
theorem sameSt_self {s : Sted} : sameSt s s = true := by
  have : allN (rowE s s) s.rows.length = true := allN_true fun i _ => by simp [rowE]
  simp [sameSt, rowsE, this]
theorem sameSts_self {l : List Sted} : sameSts l l = true := by
  have : allN (fun i => sameSt (at0 l i) (at0 l i)) l.length = true := allN_true fun i _ => sameSt_self
  simp [sameSts, this]
theorem rowsB_of {s : Sted} (h1 : ∀ m ∈ s.rows, 0 ≤ m.1 ∧ m.1 < 12 ∧ 1 ≤ m.2 ∧ m.2 ≤ 4095) (h2 : s.rows.Pairwise fun a b => a.1 < b.1) : rowsB s = true := by
  refine allN_true fun j hj => ?_
  have e : ∀ i, (hi : i < s.rows.length) → rw' s i = s.rows[i] := fun i hi => by
    rw [rw', at0, List.getD_eq_getElem?_getD, List.getElem?_eq_getElem hi]; rfl
  have m1 := h1 _ (List.getElem_mem hj)
  simp only [rowB, in1, e j hj, Bool.and_eq_true, Bool.or_eq_true, decide_eq_true_eq]
  refine ⟨⟨by omega, by omega⟩, ?_⟩
  by_cases h0 : j = 0
  · exact .inl h0
  · refine .inr ?_
    rw [e (j - 1) (by omega)]
    exact List.pairwise_iff_getElem.1 h2 (j - 1) j (by omega) hj (by omega)
theorem okSt_W {s : Sted} {i : Nat} (h : okSt s i = true) (hi : i ≤ 100) : StW s := by
  have hr := okSt_rows h
  have hk : kindB s i = true := by simp only [okSt, Bool.and_eq_true] at h; exact h.2
  have ha := okSt_a h
  have hb : (0 ≤ s.b ∧ s.b ≤ 100) ∧ (-12 ≤ s.c ∧ s.c ≤ 12) ∧ -12 ≤ s.d ∧ s.d ≤ 12 := by
    have : s.a = 0 ∨ s.a = 1 ∨ s.a = 2 := by omega
    rcases this with e | e | e
    · simp [kindB, e, stillB] at hk
      omega
    · simp [kindB, e, stillB, in1] at hk
      omega
    · simp [kindB, e, stillB, in1] at hk
      omega
  refine ⟨by omega, by omega, by omega, by omega, fun m hm => ?_⟩
  obtain ⟨j, hj, rfl⟩ := List.getElem_of_mem hm
  have e : rw' s j = s.rows[j] := by rw [rw', at0, List.getD_eq_getElem?_getD, List.getElem?_eq_getElem hj]; rfl
  obtain ⟨y, h1, h2, h3, _⟩ := rowB_get (allN_get (p := rowB s) hr hj)
  rw [e] at h1 h3
  exact ⟨by omega, h3⟩
theorem okSts_W {l : List Sted} (h : okSts l = true) (hr : ∀ s ∈ l, s.rows.length ≤ 1000000) : StsW l := by
  have hn := okSts_len h
  refine ⟨fun s hs => ?_, by omega, hr⟩
  obtain ⟨i, hi, rfl⟩ := mem_at0 hs
  exact okSt_W (okSts_get h hi) (by omega)
/-- Something put behind a list that is a call's own. -/
theorem GrN.push0 {H G : Heap} {n0 : Nat} {x : Value} {esz n bytes : Nat} {vs c : List Value} (g : GrN H G x esz n vs) (hn : n0 ≤ H.length) (hc : c.length = esz) (hb : (n + 1) * bytes ≤ roomMax) {wb : Bool} :
    ∃ x' G', ((srcOf esz (G ++ [⟨c, esz, 0, false⟩]) (slc G.length 0 0 1 1)).bind fun q => appendTo n0 wb esz bytes (G ++ [⟨c, esz, 0, false⟩]) x q.1 q.2) = some (x', G') ∧ GrN H G' x' esz (n + 1) (vs ++ c) := by
  have e1 : srcOf esz (G ++ [⟨c, esz, 0, false⟩]) (slc G.length 0 0 1 1) = some (1, c) := by
    show (rd (G ++ [⟨c, esz, 0, false⟩]) G.length 0 0 (1 * esz)).map (fun cs => (1, cs)) = _
    rw [Nat.one_mul, rd_last rfl (by simpa using hc)]; rfl
  rcases g with ⟨b, ver, rfl, h1, h2, h3, h4⟩ | ⟨rfl, rfl, rfl, p⟩
  · have h1' : (G ++ [(⟨c, esz, 0, false⟩ : Blk)])[b]? = some ⟨vs, esz, ver, false⟩ := by rw [List.getElem?_append_left (List.getElem?_eq_some_iff.1 h1).1]; exact h1
    refine ⟨slc b 0 (ver + 1) (n + 1) (n + 1), (G ++ [(⟨c, esz, 0, false⟩ : Blk)]).set b ⟨vs ++ c, esz, ver + 1, false⟩, ?_, .inl ⟨b, ver + 1, rfl, get_set h1', h2, by simp [h3, hc, Nat.succ_mul], (h4.app).set h2⟩⟩
    rw [e1, Option.bind_some]
    exact appendTo_grow h1' rfl rfl (by simp [may]; omega) rfl h3.symm (by omega) hb
  · refine ⟨slc (G ++ [(⟨c, esz, 0, false⟩ : Blk)]).length 0 0 1 1, G ++ [(⟨c, esz, 0, false⟩ : Blk)] ++ [⟨c, esz, 0, false⟩], ?_, .inl ⟨_, 0, rfl, get_last, ?_, by simp [hc], (p.app).app⟩⟩
    · rw [e1, Option.bind_some]
      unfold appendTo
      simp only []
      rw [if_neg (by decide), if_pos (by simpa using hb)]
    · have := p.len
      simp; omega
/-- In the function that draws steps: the source, the steps drawn, and the step that is being drawn. -/
structure Dr (n0 P : Nat) (G0 G : Heap) (k κ b ver : Nat) (l : List Sted) (rs : List (Int × Int)) (y : Value) : Prop where
  src : Src G P k
  get : ∀ j, j < n0 → j ≠ P → G[j]? = G0[j]?
  lt : P < n0
  k0 : n0 ≤ κ
  k1 : κ ≤ G.length
  ls : StD n0 (G.take κ) b ver l
  rw : GrN (G.take κ) G y 2 rs.length (chsC rs)
theorem Dr.le {n0 P : Nat} {G0 G : Heap} {k k' κ b ver : Nat} {l : List Sted} {rs : List (Int × Int)} {y : Value} (h : Dr n0 P G0 G k κ b ver l rs y) (hk : k ≤ k') : Dr n0 P G0 G k' κ b ver l rs y :=
  ⟨h.src.le hk, h.get, h.lt, h.k0, h.k1, h.ls, h.rw⟩
theorem Dr.mv {n0 P : Nat} {G0 G G' : Heap} {k k' κ b ver : Nat} {l : List Sted} {rs : List (Int × Int)} {y : Value} (h : Dr n0 P G0 G k κ b ver l rs y) (m : Mv P G G') (s : Src G' P k') : Dr n0 P G0 G' k' κ b ver l rs y := by
  have h0 := h.k0
  have h1 := h.k1
  have hP := h.lt
  refine ⟨s, fun j hj hp => by rw [m.get j hp]; exact h.get j hj hp, hP, h0, by rw [m.len]; exact h1, ?_, ?_⟩
  · refine h.ls.keep fun b' kb hk he => ?_
    rw [List.getElem?_take] at hk ⊢
    split at hk
    · rename_i hlt
      rw [if_pos hlt, m.get]
      · exact hk
      · rintro rfl
        obtain ⟨x, bs, i, sd, e, _⟩ := h.src
        rw [e] at hk
        cases hk
        exact he rfl
    · cases hk
  · rcases h.rw with ⟨q, ver', e, g, hq, hl, _⟩ | ⟨e, e1, e2, _⟩
    · have e3 : (G.take κ).length = κ := by simp; omega
      refine .inl ⟨q, ver', e, ?_, ?_, hl, Pre.takes⟩
      · rw [m.get]
        · exact g
        · omega
      · simp; omega
    · exact .inr ⟨e, e1, e2, Pre.takes⟩
theorem Dr.pick {n0 P : Nat} {G0 G : Heap} {k κ b ver : Nat} {l : List Sted} {rs : List (Int × Int)} {y : Value} {n : Int} (h : Dr n0 P G0 G k κ b ver l rs y) (hk : k ≤ 100000000000) (hn : 1 ≤ n ∧ n ≤ 1000000) :
    ∃ v G', Call tab false 459 [adr P 0 0, .int .i64 n] G = some (.int .i64 v, G') ∧ (0 ≤ v ∧ v < n) ∧ Dr n0 P G0 G' (k + 2) κ b ver l rs y := by
  obtain ⟨v, G', c, hv, m, s⟩ := call459 h.src hk hn
  exact ⟨v, G', c, hv, h.mv m s⟩
theorem Dr.row {n0 P : Nat} {G0 G : Heap} {k κ b ver : Nat} {l : List Sted} {rs : List (Int × Int)} {y : Value} (h : Dr n0 P G0 G k κ b ver l rs y) {m : Int × Int} (hb : (rs.length + 1) * 4 ≤ roomMax) :
    ∃ y' G', ((srcOf 2 (G ++ [⟨chC m, 2, 0, false⟩]) (slc G.length 0 0 1 1)).bind fun q => appendTo n0 true 2 4 (G ++ [⟨chC m, 2, 0, false⟩]) y q.1 q.2) = some (y', G') ∧ Dr n0 P G0 G' k κ b ver l (rs ++ [m]) y' := by
  have h0 := h.k0
  have h1 := h.k1
  have hP := h.lt
  have e3 : (G.take κ).length = κ := by simp; omega
  obtain ⟨y', G', c, g⟩ := h.rw.push0 (n0 := n0) (c := chC m) (by rw [e3]; exact h0) rfl hb (wb := true)
  refine ⟨y', G', c, ?_⟩
  have p := g.pre
  have eg : ∀ j, j < κ → G'[j]? = G[j]? := fun j hj => by
    rw [p.get (by omega), List.getElem?_take, if_pos hj]
  have et : G'.take κ = G.take κ := by
    have := p.take
    rw [e3] at this
    exact this
  refine ⟨h.src.mv (eg P (by omega)) fun j hj => eg j (by omega), fun j hj hp => by rw [eg j (by omega)]; exact h.get j hj hp, hP, h0, by have := p.len; omega, by rw [et]; exact h.ls, ?_⟩
  rw [et, ← chsC_push, List.length_append]
  exact g
theorem Dr.step {n0 P : Nat} {G0 G : Heap} {k κ b ver : Nat} {l : List Sted} {s : Sted} {y : Value} (h : Dr n0 P G0 G k κ b ver l s.rows y) (hb : (l.length + 1) * 32 ≤ roomMax) :
    ∃ G', ((srcOf 5 (G ++ [⟨stC s y, 5, 0, false⟩]) (slc G.length 0 0 1 1)).bind fun q => appendTo n0 true 5 32 (G ++ [⟨stC s y, 5, 0, false⟩]) (slc b 0 ver l.length l.length) q.1 q.2) = some (slc b 0 (ver + 1) (l.length + 1) (l.length + 1), G') ∧
      Dr n0 P G0 G' k G'.length b (ver + 1) (l ++ [s]) [] (.slice none 0 0) := by
  have h0 := h.k0
  have h1 := h.k1
  have hP := h.lt
  have e3 : (G.take κ).length = κ := by simp; omega
  obtain ⟨G', c, sd, kp, pp⟩ := h.ls.push Pre.takes h.rw (by rw [e3]; exact h0) hb (wb := true)
  have hlo := h.ls.lo
  have eg : ∀ j, j < n0 → G'[j]? = G[j]? := fun j hj => by
    have hg : G[j]? = some G[j] := List.getElem?_eq_getElem (by omega)
    rw [hg, kp j _ (by omega) hg]
  have hlen : n0 ≤ G'.length := by
    have : (G.take n0).length ≤ G'.length := (pp (G.take n0) Pre.takes (by simp; omega)).len
    have e : (G.take n0).length = n0 := by simp; omega
    omega
  exact ⟨G', c, h.src.mv (eg P hP) fun j hj => eg j (by omega), fun j hj hp => by rw [eg j hj]; exact h.get j hj hp, hP, hlen, Nat.le_refl _, by rw [List.take_length]; exact sd, .inr ⟨rfl, rfl, rfl, Pre.takes⟩⟩
theorem Dr.new {G : Heap} {P k : Nat} (h : Src G P k) : Dr G.length P G (G ++ [⟨[], 5, 0, false⟩]) k (G.length + 1) G.length 0 [] [] (.slice none 0 0) :=
  ⟨h.pre Pre.one, fun j hj _ => Pre.one.get hj, h.lt, by omega, by simp, by rw [List.take_of_length_le (by simp)]; exact StD.new (Nat.le_refl _), .inr ⟨rfl, rfl, rfl, Pre.takes⟩⟩
def RwI (rs : List (Int × Int)) (i : Nat) : Prop := (∀ m ∈ rs, 0 ≤ m.1 ∧ m.1 < i ∧ 1 ≤ m.2 ∧ m.2 ≤ 63) ∧ (rs.Pairwise fun a b => a.1 < b.1) ∧ rs.length ≤ i
theorem RwI.push {rs : List (Int × Int)} {i : Nat} {v : Int} (h : RwI rs i) (hv : 1 ≤ v ∧ v ≤ 63) : RwI (rs ++ [((i : Int), v)]) (i + 1) := by
  obtain ⟨h1, h2, h3⟩ := h
  refine ⟨fun m hm => ?_, ?_, by simp; omega⟩
  · rcases List.mem_append.1 hm with hm | hm
    · have := h1 m hm; omega
    · rw [List.mem_singleton] at hm
      subst hm
      simp only []
      omega
  · rw [List.pairwise_append]
    refine ⟨h2, List.pairwise_singleton _ _, fun a ha b hb => ?_⟩
    rw [List.mem_singleton] at hb
    subst hb
    have := h1 a ha
    simp only []
    omega
theorem RwI.skip {rs : List (Int × Int)} {i : Nat} (h : RwI rs i) : RwI rs (i + 1) :=
  ⟨fun m hm => by have := h.1 m hm; omega, h.2.1, by have := h.2.2; omega⟩
theorem inner469 {n0 P : Nat} {G0 G : Heap} {k κ b ver : Nat} {l : List Sted} {a0 b0 c0 d0 : Int} {x N : Value} (D : Dr n0 P G0 G k κ b ver l [] (.slice none 0 0)) (hk : k ≤ 10000000000) {fs : List Fr} {Q : Ex → Env → Heap → Prop} {e : Env}
    (h0 : e 0 = adr P 0 0) (h3 : e 3 = x) (h4 : e 4 = N) (h5 : e 5 = agg [.int .i8 a0, .int .i8 b0, .int .i8 c0, .int .i8 d0, .slice none 0 0]) (h6 : e 6 = .int .i8 0)
    (hq : ∀ e' G' rs y, e' 0 = adr P 0 0 → e' 3 = x → e' 4 = N → e' 5 = agg [.int .i8 a0, .int .i8 b0, .int .i8 c0, .int .i8 d0, y] → Dr n0 P G0 G' (k + 100) κ b ver l rs y → RwI rs 4 → KK tab n0 true (.exit 2) fs e' G' Q) :
    WK tab n0 true (.loop b469_1) fs e G Q := by
  refine WK_loop (fun i e G' => e 0 = adr P 0 0 ∧ e 3 = x ∧ e 4 = N ∧ e 6 = .int .i8 i ∧ ∃ rs y, e 5 = agg [.int .i8 a0, .int .i8 b0, .int .i8 c0, .int .i8 d0, y] ∧ Dr n0 P G0 G' (k + i * 10) κ b ver l rs y ∧ RwI rs i) 4 ?_ (Nat.zero_le _)
    ⟨h0, h3, h4, h6, [], _, h5, D, ⟨fun m hm => (by cases hm), List.Pairwise.nil, Nat.le_refl _⟩⟩
  rintro i e G' _ hi ⟨h0, h3, h4, h6, rs, y, h5, D, R⟩
  by_cases hi4 : i = 4
  · subst hi4
    simp [b469_1, h6]
    exact hq _ _ rs y (by simp [h0]) (by simp [h3]) (by simp [h4]) (by simp [h5]) (D.le (by omega)) R
  · have hlt : i < 4 := by omega
    have hlt' : (i : Int) < 4 := by omega
    have e7 : IntKind.wrap .i8 ((i : Int) + 1) = ((i + 1 : Nat) : Int) := by rw [wrap8 (by omega)]; omega
    obtain ⟨bb, G1, c1, m1, s1⟩ := call513 (n := 3) D.src (by omega) (by omega)
    have D1 := D.mv m1 s1
    cases bb with
    | false =>
      simp [b469_1, h0, h6, hlt', c1, wbOf, e7]
      exact ⟨hlt, by simp [h3], by simp [h4], rs, y, by simp [h5], D1.le (by omega), R.skip⟩
    | true =>
      obtain ⟨v, G2, c2, hv, D2⟩ := D1.pick (n := 63) (by omega) (by omega)
      have e8 : IntKind.wrap .i64 (1 + v) = 1 + v := wrap64 (by omega)
      have e9 : IntKind.wrap .u16 (1 + v) = 1 + v := wrapu16 (by omega)
      have hl := R.2.2
      obtain ⟨y', G3, c3, D3⟩ := D2.row (m := ((i : Int), 1 + v)) (by have : roomMax = 140737488355328 := rfl; omega)
      simp only [chC] at c3
      have hcy : cellsOf y' = [y'] := by
        rcases D3.rw with ⟨_, _, rfl, _⟩ | ⟨rfl, _⟩ <;> rfl
      have hf1 : fill [.int .i8 0, .int .u16 0] [(0, 1, .int .i8 (i : Int)), (1, 1, .int .u16 (1 + v))] = some [.int .i8 (i : Int), .int .u16 (1 + v)] := rfl
      have hf2 := fill_one (z := [.int .i8 0, .int .u16 0]) (v := agg [.int .i8 (i : Int), .int .u16 (1 + v)]) (esz := 2) rfl rfl
      simp [b469_1, h0, h5, h6, hlt', c1, c2, wbOf, e7, e8, e9, ldc5e, stc5e, hf1, hf2, c3, hcy]
      exact ⟨hlt, by simp [h3], by simp [h4], rs ++ [((i : Int), 1 + v)], y', by simp, D3.le (by omega), R.push (by omega)⟩
theorem okSt_new {s : Sted} {n : Nat} (R : RwI s.rows 4) (h : kindB s n = true) : okSt s n = true := by
  rw [okSt, h, Bool.and_true]
  exact rowsB_of (fun m hm => by have := R.1 m hm; omega) R.2.1
structure DrL (l : List Sted) : Prop where
  ok : okSts l = true
  r : ∀ s ∈ l, s.rows.length ≤ 4
theorem DrL.push {l : List Sted} {s : Sted} (h : DrL l) (hn : l.length ≤ 10) (hs : okSt s l.length = true) (hr : s.rows.length ≤ 4) : DrL (l ++ [s]) := by
  refine ⟨okSts_of (by simp; omega) fun i hi => ?_, fun t ht => ?_⟩
  · have hi : i < l.length + 1 := by simpa using hi
    rw [at0_app]
    by_cases h1 : i < l.length
    · rw [if_pos h1]; exact okSts_get h.ok h1
    · have : i = l.length := by omega
      subst this
      rw [if_neg h1, if_pos rfl]; exact hs
  · rcases List.mem_append.1 ht with h1 | h1
    · exact h.r t h1
    · rw [List.mem_singleton] at h1; subst h1; exact hr
theorem DrL.W {l : List Sted} (h : DrL l) : StsW l := okSts_W h.ok fun s hs => by have := h.r s hs; omega
theorem room32 {n : Nat} (h : n ≤ 1000000) : (n + 1) * 32 ≤ roomMax := by have : roomMax = 140737488355328 := rfl; omega
theorem Dr.fin {n0 P : Nat} {G0 G : Heap} {k κ b ver : Nat} {l : List Sted} {rs : List (Int × Int)} {y : Value} (D : Dr n0 P G0 G k κ b ver l rs y) :
    ∃ b' ver' G'', finish n0 G [slc b 0 ver l.length l.length] = (slc b' 0 ver' l.length l.length, G'') ∧ StD n0 G'' b' ver' l ∧ Src G'' P k ∧ n0 ≤ G''.length ∧ ∀ j, j < n0 → j ≠ P → G''[j]? = G0[j]? := by
  have h0 := D.k0
  have h1 := D.k1
  have hP := D.lt
  have e3 : (G.take n0).length = n0 := by simp; omega
  have hs := D.ls.pre Pre.takes
  obtain ⟨b', ver', G'', f, sd, p⟩ := StD.fin (H := G.take n0) (G := G) (b := b) (ver := ver) (l := l) (rest := []) (by rw [e3]; exact hs) Pre.takes rfl
  rw [e3] at f sd
  have eg : ∀ j, j < n0 → G''[j]? = G[j]? := fun j hj => by
    rw [p.get (by omega), List.getElem?_take, if_pos hj]
  exact ⟨b', ver', G'', f, sd, D.src.mv (eg P hP) fun j hj => eg j (by omega), by have := p.len; omega, fun j hj hp => by rw [eg j hj]; exact D.get j hj hp⟩
theorem call469 {G : Heap} {P k : Nat} (h : Src G P k) (hk : k ≤ 10000000) :
    ∃ r, Call tab false 469 [adr P 0 0] G = some r ∧ ∃ l b ver G1 k', r = (slc b 0 ver l.length l.length, G1) ∧ DrL l ∧ l.length ≤ 5 ∧ StD G.length G1 b ver l ∧ Src G1 P k' ∧ G.length ≤ G1.length ∧ ∀ j, j < G.length → j ≠ P → G1[j]? = G[j]? := by
  refine Call_ex t469 (.inl rfl) rfl ?_
  obtain ⟨G1, hG1⟩ : ∃ G1, G1 = G ++ [(⟨[], 5, 0, false⟩ : Blk)] := ⟨_, rfl⟩
  have D1 : Dr G.length P G G1 k (G.length + 1) G.length 0 [] [] (.slice none 0 0) := by rw [hG1]; exact Dr.new h
  obtain ⟨N, G2, c2, hN, D2⟩ := D1.pick (n := 6) (by omega) (by omega)
  obtain ⟨N, rfl⟩ := Int.eq_ofNat_of_zero_le hN.1
  have hf0 : fill (rep 0 [.int .i8 0, .int .i8 0, .int .i8 0, .int .i8 0, .slice none 0 0]) [] = some [] := rfl
  simp [c469, k469, hf0, ← hG1, c2, wbOf]
  refine WK_loop (fun i e G' => e 0 = adr P 0 0 ∧ e 4 = .int .i64 ((N - i : Nat) : Int) ∧ ∃ l, l.length = i ∧ DrL l ∧ ∃ b ver κ, e 3 = slc b 0 ver l.length l.length ∧ Dr G.length P G G' (k + 2 + i * 200) κ b ver l [] (.slice none 0 0)) N ?_ (Nat.zero_le _)
    ⟨by simp, by simp, [], rfl, ⟨rfl, fun s hs => (by cases hs)⟩, G.length, 0, G.length + 1, by simp, D2.le (by omega)⟩
  rintro i e G' _ hi ⟨h0, h4, l, hl, L, b, ver, κ, h3, D⟩
  subst hl
  by_cases hiN : l.length = N
  · have hz : N - l.length = 0 := by omega
    rw [hz] at h4
    obtain ⟨b', ver', G'', f, sd, sr, hle, hget⟩ := D.fin
    simp [b469_2, h0, h4, h3, f]
    exact ⟨l, b', ver', G'', ⟨rfl, rfl⟩, L, by omega, sd, ⟨_, sr⟩, hle, hget⟩
  · have hpos : 0 < N - l.length := by omega
    have hlt : l.length < N := by omega
    have e7 : IntKind.wrap .i64 (((N - l.length : Nat) : Int) - 1) = ((N - (l.length + 1) : Nat) : Int) := by rw [wrap64 (by omega)]; omega
    have hR0 : ∀ a : Int, fill [.int .i8 0, .int .i8 0, .int .i8 0, .int .i8 0, .slice none 0 0] [(0, 1, .int .i8 a)] = some [.int .i8 a, .int .i8 0, .int .i8 0, .int .i8 0, .slice none 0 0] := fun _ => rfl
    obtain ⟨a, G3, c3, ha, D3⟩ := D.pick (n := 3) (by omega) (by omega)
    have ea : IntKind.wrap .i8 a = a := wrap8 (by omega)
    by_cases hn0 : l.length = 0
    · have hb0 : ((l.length : Int) == 0) = true := by simp [hn0]
      simp [b469_2, h0, h3, h4, hpos, c3, ea, wbOf, hR0, stc5, stc5a, stc5b, stc5c, stc5d, ldc5a, hb0]
      refine inner469 (x := slc b 0 ver l.length l.length) (N := .int .i64 ((N - l.length : Nat) : Int)) (a0 := 0) (b0 := 0) (c0 := 0) (d0 := 0) D3 (by omega) (by simp [h0]) (by simp [h3]) (by simp [h4]) (by simp) (by simp) fun e' G' rs y q0 q3 q4 q5 D6 R => ?_
      obtain ⟨G7, c7, D7⟩ := Dr.step (s := ⟨0, 0, 0, 0, rs⟩) D6 (room32 (by omega))
      simp only [stC] at c7
      have hf := fill_one (z := [.int .i8 0, .int .i8 0, .int .i8 0, .int .i8 0, .slice none 0 0]) (v := agg [.int .i8 (0), .int .i8 (0), .int .i8 (0), .int .i8 (0), y]) (esz := 5) rfl rfl
      have hk : kindB ⟨0, 0, 0, 0, rs⟩ l.length = true := by rfl
      simp [q0, q3, q4, q5, ldc5, hf, c7, e7]
      exact ⟨hlt, l ++ [⟨0, 0, 0, 0, rs⟩], by simp, L.push (by omega) (okSt_new R hk) R.2.2, b, ver + 1, by simp, _, D7.le (by omega)⟩
    · have hb0 : ((l.length : Int) == 0) = false := by simpa using hn0
      have ha' : a = 0 ∨ a = 1 ∨ a = 2 := by omega
      rcases ha' with rfl | rfl | rfl
      · skip
        simp [b469_2, h0, h3, h4, hpos, c3, ea, wbOf, hR0, stc5, stc5a, stc5b, stc5c, stc5d, ldc5a, hb0, hn0]
        refine inner469 (x := slc b 0 ver l.length l.length) (N := .int .i64 ((N - l.length : Nat) : Int)) (a0 := 0) (b0 := 0) (c0 := 0) (d0 := 0) D3 (by omega) (by simp [h0]) (by simp [h3]) (by simp [h4]) (by simp) (by simp) fun e' G' rs y q0 q3 q4 q5 D6 R => ?_
        obtain ⟨G7, c7, D7⟩ := Dr.step (s := ⟨0, 0, 0, 0, rs⟩) D6 (room32 (by omega))
        simp only [stC] at c7
        have hf := fill_one (z := [.int .i8 0, .int .i8 0, .int .i8 0, .int .i8 0, .slice none 0 0]) (v := agg [.int .i8 (0), .int .i8 (0), .int .i8 (0), .int .i8 (0), y]) (esz := 5) rfl rfl
        have hk : kindB ⟨0, 0, 0, 0, rs⟩ l.length = true := by rfl
        simp [q0, q3, q4, q5, ldc5, hf, c7, e7]
        exact ⟨hlt, l ++ [⟨0, 0, 0, 0, rs⟩], by simp, L.push (by omega) (okSt_new R hk) R.2.2, b, ver + 1, by simp, _, D7.le (by omega)⟩
      · obtain ⟨w, G4, c4, hw, D4⟩ := D3.pick (n := l.length) (by omega) (by omega)
        have ew : IntKind.wrap .i8 w = w := wrap8 (by omega)
        simp [b469_2, h0, h3, h4, hpos, c3, ea, wbOf, hR0, stc5, stc5a, stc5b, stc5c, stc5d, ldc5a, hb0, hn0, c4, ew]
        refine inner469 (x := slc b 0 ver l.length l.length) (N := .int .i64 ((N - l.length : Nat) : Int)) (a0 := 1) (b0 := w) (c0 := 0) (d0 := 0) D4 (by omega) (by simp [h0]) (by simp [h3]) (by simp [h4]) (by simp) (by simp) fun e' G' rs y q0 q3 q4 q5 D6 R => ?_
        obtain ⟨G7, c7, D7⟩ := Dr.step (s := ⟨1, w, 0, 0, rs⟩) D6 (room32 (by omega))
        simp only [stC] at c7
        have hf := fill_one (z := [.int .i8 0, .int .i8 0, .int .i8 0, .int .i8 0, .slice none 0 0]) (v := agg [.int .i8 (1), .int .i8 (w), .int .i8 (0), .int .i8 (0), y]) (esz := 5) rfl rfl
        have hk : kindB ⟨1, w, 0, 0, rs⟩ l.length = true := by simp [kindB, in1, stillB]; omega
        simp [q0, q3, q4, q5, ldc5, hf, c7, e7]
        exact ⟨hlt, l ++ [⟨1, w, 0, 0, rs⟩], by simp, L.push (by omega) (okSt_new R hk) R.2.2, b, ver + 1, by simp, _, D7.le (by omega)⟩
      · obtain ⟨w, G4, c4, hw, D4⟩ := D3.pick (n := l.length) (by omega) (by omega)
        have ew : IntKind.wrap .i8 w = w := wrap8 (by omega)
        obtain ⟨u, G5, c5, hu, D5⟩ := D4.pick (n := 7) (by omega) (by omega)
        have eu : IntKind.wrap .i64 (u - 3) = u - 3 := wrap64 (by omega)
        have eu' : IntKind.wrap .i8 (u - 3) = u - 3 := wrap8 (by omega)
        obtain ⟨v, G6, c6, hv, D6⟩ := D5.pick (n := 3) (by omega) (by omega)
        have ev : IntKind.wrap .i64 (1 + v) = 1 + v := wrap64 (by omega)
        have ev' : IntKind.wrap .i8 (1 + v) = 1 + v := wrap8 (by omega)
        simp [b469_2, h0, h3, h4, hpos, c3, ea, wbOf, hR0, stc5, stc5a, stc5b, stc5c, stc5d, ldc5a, hb0, hn0, c4, ew, c5, eu, eu', c6, ev, ev']
        refine inner469 (x := slc b 0 ver l.length l.length) (N := .int .i64 ((N - l.length : Nat) : Int)) (a0 := 2) (b0 := w) (c0 := u - 3) (d0 := 1 + v) D6 (by omega) (by simp [h0]) (by simp [h3]) (by simp [h4]) (by simp) (by simp) fun e' G' rs y q0 q3 q4 q5 D6 R => ?_
        obtain ⟨G7, c7, D7⟩ := Dr.step (s := ⟨2, w, u - 3, 1 + v, rs⟩) D6 (room32 (by omega))
        simp only [stC] at c7
        have hf := fill_one (z := [.int .i8 0, .int .i8 0, .int .i8 0, .int .i8 0, .slice none 0 0]) (v := agg [.int .i8 (2), .int .i8 (w), .int .i8 (u - 3), .int .i8 (1 + v), y]) (esz := 5) rfl rfl
        have hk : kindB ⟨2, w, u - 3, 1 + v, rs⟩ l.length = true := by simp [kindB, in1, stillB]; omega
        simp [q0, q3, q4, q5, ldc5, hf, c7, e7]
        exact ⟨hlt, l ++ [⟨2, w, u - 3, 1 + v, rs⟩], by simp, L.push (by omega) (okSt_new R hk) R.2.2, b, ver + 1, by simp, _, D7.le (by omega)⟩
theorem StD.low {n0 n1 b ver : Nat} {G : Heap} {l : List Sted} (h : StD n0 G b ver l) (hn : n1 ≤ n0) : StD n1 G b ver l := by
  obtain ⟨ys, β, h⟩ := h; exact ⟨ys, β, h.low hn⟩
theorem call274 {pu : Bool} {H : Heap} {x : Value} {bs : List Int} (hx : By H x bs) (hn : bs.length ≤ 1000000) :
    ∃ l y G, Call tab pu 274 [x] H = some (y, G) ∧ Pre H G ∧ StS G y l ∧ DrL l ∧ l.length ≤ 5 := by
  obtain ⟨c1, s1⟩ := call315 (pu := true) hx.s hx.b hn
  obtain ⟨H1, hH1⟩ : ∃ H1, H1 = H ++ [srB x 0 0] := ⟨_, rfl⟩
  rw [← hH1] at c1 s1
  obtain ⟨_, c2, l, b, ver, G2, k', rfl, L, hl, sd, s2, hle, hget⟩ := call469 s1 (by omega)
  have lH1 : H1.length = H.length + 1 := by rw [hH1]; simp
  have p1 : Pre H H1 := by rw [hH1]; exact Pre.one
  have t2' : G2.take H.length = H1.take H.length := by
    apply List.ext_getElem?
    intro i
    rw [List.getElem?_take, List.getElem?_take]
    by_cases hi : i < H.length
    · rw [if_pos hi, if_pos hi, hget i (by omega) (by omega)]
    · rw [if_neg hi, if_neg hi]
  have t2 : G2.take H.length = H := by rw [t2', p1.take]
  have p2 : Pre H G2 := ⟨G2.drop H.length, by conv => lhs; rw [← List.take_append_drop H.length G2, t2]⟩
  have x2 : elder H.length false H1 (slc b 0 ver l.length l.length, G2) = some (slc b 0 ver l.length l.length, G2) := elder_same (by rw [t2, p1.take])
  obtain ⟨b', ver', G3, f, sd', p3⟩ := (sd.low (n1 := H.length) (by omega)).fin p2 (rest := []) rfl
  refine ⟨l, slc b' 0 ver' l.length l.length, G3, Call_wp t274 (.inr rfl) rfl ?_, p3, sd'.sts, L, hl⟩
  have f' : finish H.length G2 [slc b 0 ver l.length l.length] = (slc b' 0 ver' l.length l.length, G3) := f
  simp [c274, k274, c1, c2, x2, wbOf, f']
theorem cost82 {pu : Bool} {H : Heap} {s : Sted} {y : Value} (h : Rw H y s) (ho : okS s) : Call tab pu 82 [agg (stC s y)] H = some (tup [.int .i64 (stCost s), .int .i64 0], H) := by
  obtain ⟨h1, h2, h3⟩ := ho
  have c := call82 (pu := pu) (H := H) (a := s.a) (b := s.b) (c := s.c) (d := s.d) h.lenV (by simp only [i8]; omega)
  rw [costR, if_pos ⟨⟨h1, h2⟩, h3⟩] at c
  exact c
structure L56 (G : Heap) (x8 x15 x28 x33 : Value) (D : List (List Int)) (v : Int) : Prop where
  bk : Bk G x8 D
  vs15 : StS G x15 (encB D 40)
  vs28 : StS G x28 (encB D v)
  vs33 : SlR G x33 1 D.length (cs .i64 (encP D v D.length).2)
theorem L56.pre {G G' : Heap} {x8 x15 x28 x33 : Value} {D : List (List Int)} {v : Int} (p : Pre G G') (h : L56 G x8 x15 x28 x33 D v) : L56 G' x8 x15 x28 x33 D v :=
  ⟨SlR.pre p h.bk, h.vs15.pre p, h.vs28.pre p, h.vs33.pre p⟩
theorem DrL.okS {l : List Sted} (h : DrL l) {i : Nat} (hi : i < l.length) : okS (at0 l i) := by
  have h1 := okSt_a (okSts_get h.ok hi)
  have h2 := h.r _ (at0_mem hi)
  exact ⟨h1.1, h1.2, by omega⟩
/-- The words of the kinds of steps, in a package-level variable (block 0). -/
def wrdL : List (List UInt8) := [[119, 104, 111, 108, 101], [99, 111, 112, 121], [109, 111, 118, 101]]
def Wd (H : Heap) : Prop := H[0]? = some ⟨wrdL.map str, 1, 0, true⟩
theorem Wd.lt {H : Heap} (h : Wd H) : 0 < H.length := (List.getElem?_eq_some_iff.1 h).1
theorem Wd.pre {H G : Heap} (h : Wd H) (p : Pre H G) : Wd G := by unfold Wd; rw [p.get h.lt]; exact h
theorem ptr0 : Value.pointer (some ⟨0, 0, some 0⟩) = adr 0 0 0 := rfl
def wrd (a : Nat) : List UInt8 := wrdL.getD a []
theorem Wd.rd {H : Heap} (h : Wd H) {a : Nat} (ha : a < 3) : rd H 0 a 0 1 = some [str (wrd a)] := by
  rw [rd_at h rfl (by simp [wrdL]; omega)]
  match a, ha with
  | 0, _ => rfl
  | 1, _ => rfl
  | 2, _ => rfl
theorem itoa_len20 {v : Int} (h1 : -9223372036854775808 < v) (h2 : v ≤ 9223372036854775807) : (Lib.itoa v).length ≤ 21 := by
  unfold Lib.itoa
  split
  · have := dec_len20 (n := v.natAbs) (by omega)
    simp; omega
  · have := dec_len20 (n := v.toNat) (by omega)
    omega
def rowTx (s : Sted) : Nat → List UInt8
  | 0 => []
  | j + 1 => rowTx s j ++ ([32] ++ Lib.itoa (rw' s j).1 ++ [58] ++ Lib.itoa (rw' s j).2)
def headTx (s : Sted) : List UInt8 :=
  if s.a = 0 then wrd 0 else if s.a = 1 then wrd 1 ++ ([32] ++ Lib.itoa s.b) else wrd 2 ++ ([32] ++ Lib.itoa s.b) ++ ([32] ++ Lib.itoa s.c ++ [32] ++ Lib.itoa s.d)
def stepTx (s : Sted) : List UInt8 := headTx s ++ rowTx s s.rows.length
theorem okSt_rows2 {s : Sted} {i : Nat} (h : okSt s i = true) : s.rows.length ≤ 12 ∧ ∀ j, j < s.rows.length → 0 ≤ (rw' s j).1 ∧ (rw' s j).1 ≤ 11 ∧ 1 ≤ (rw' s j).2 ∧ (rw' s j).2 ≤ 4095 := by
  simp only [okSt, rowsB, Bool.and_eq_true] at h
  have key : ∀ j, j < s.rows.length → in1 (rw' s j).1 0 11 = true ∧ in1 (rw' s j).2 1 4095 = true ∧ (j = 0 ∨ (rw' s (j - 1)).1 < (rw' s j).1) := fun j hj => by
    have := allN_get (p := rowB s) h.1 hj
    simpa [rowB, and_assoc] using this
  have hr : ∀ j, j < s.rows.length → 0 ≤ (rw' s j).1 ∧ (rw' s j).1 ≤ 11 ∧ 1 ≤ (rw' s j).2 ∧ (rw' s j).2 ≤ 4095 := fun j hj => by
    obtain ⟨h1, h2, _⟩ := key j hj
    simp [in1] at h1 h2
    omega
  have hm : ∀ j : Nat, j < s.rows.length → (j : Int) ≤ (rw' s j).1 := fun j => by
    induction j with
    | zero => intro hj; exact (hr 0 hj).1
    | succ j ih =>
      intro hj
      have h1 := ih (by omega)
      have h2 := (key (j + 1) hj).2.2
      simp at h2
      omega
  refine ⟨?_, hr⟩
  rcases Nat.lt_or_ge 12 s.rows.length with h1 | h1
  · have h2 := hm 12 h1
    have h3 := (hr 12 h1).2.1
    omega
  · exact h1
theorem rowTx_len {s : Sted} (hw : StW s) {j : Nat} (hj : j ≤ s.rows.length) : (rowTx s j).length ≤ 44 * j := by
  induction j with
  | zero => simp [rowTx]
  | succ j ih =>
    have h1 := hw.rows _ (at0_mem (i := j) (by omega))
    have h2 := itoa_len20 (v := (rw' s j).1) (by have := h1.1.1; unfold rw'; omega) (by have := h1.1.2; unfold rw'; omega)
    have h3 := itoa_len20 (v := (rw' s j).2) (by have := h1.2.1; unfold rw'; omega) (by have := h1.2.2; unfold rw'; omega)
    have := ih (by omega)
    simp [rowTx]; omega
theorem wrd_len {a : Nat} : (wrd a).length ≤ 5 := by
  unfold wrd
  match a with
  | 0 => decide
  | 1 => decide
  | 2 => decide
  | a + 3 => simp [wrdL]
theorem headTx_len {s : Sted} (hw : StW s) : (headTx s).length ≤ 80 := by
  have h1 := itoa_len20 (v := s.b) (by have := hw.b.1; omega) (by have := hw.b.2; omega)
  have h2 := itoa_len20 (v := s.c) (by have := hw.c.1; omega) (by have := hw.c.2; omega)
  have h3 := itoa_len20 (v := s.d) (by have := hw.d.1; omega) (by have := hw.d.2; omega)
  have w0 := wrd_len (a := 0)
  have w1 := wrd_len (a := 1)
  have w2 := wrd_len (a := 2)
  unfold headTx
  split
  · omega
  · split <;> simp <;> omega
theorem stepTx_len {s : Sted} (hw : StW s) (hn : s.rows.length ≤ 1000) : (stepTx s).length ≤ 100000 := by
  have h1 := headTx_len hw
  have h2 := rowTx_len hw (Nat.le_refl _)
  unfold stepTx
  simp; omega
theorem add_t {a b : List UInt8} (ha : a.length ≤ 1000000000) (hb : b.length ≤ 1000000000) : binop .add (str a) (str b) = some (str (a ++ b)) := add_s (by omega)
def QS (n0 : Nat) (t : List UInt8) (H : Heap) : Ex → Env → Heap → Prop := fun x e' H' => (∀ i, x ≠ .exit i) ∧ (resVs e' H' [.t 2]).map (finish n0 H') = some (str t, H)
end Fb
