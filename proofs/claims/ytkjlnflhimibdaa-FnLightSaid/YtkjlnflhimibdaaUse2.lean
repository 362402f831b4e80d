/- What each function computes. -/
import Derived.Test.YtkjlnflhimibdaaUse1
set_option linter.unusedVariables false
set_option linter.unusedSimpArgs false
namespace Fb
open Go
theorem call368 {G : Heap} {P k : Nat} (h : Src G P k) (hk : k ≤ 10000000000) : ∃ f G', Call tab false 368 [adr P 0 0] G = some (iv .u16 f, G') ∧ VF f ∧ Mv P G G' ∧ Src G' P (k + 200) := by
  have key : ∃ r, Call tab false 368 [adr P 0 0] G = some r ∧ ∃ f G', r = (iv .u16 f, G') ∧ VF f ∧ Mv P G G' ∧ Src G' P (k + 200) := by
    refine Call_ex t368 (.inl rfl) rfl ?_
    have hl := h.lt
    obtain ⟨G1, hG1⟩ : ∃ G1, G1 = G ++ [(⟨cs .u16 (zr 12 0), 1, 0, false⟩ : Blk)] := ⟨_, rfl⟩
    have hwr : wr G.length true G1 G.length 0 0 (cs .u16 (zr 12 0)) = some G1 := by
      rw [hG1, wr_last (b := ⟨cs .u16 (zr 12 0), 1, 0, false⟩) rfl rfl (Nat.le_refl _) (by simp)]
    have L1 : Loc G G1 P k (zr 12 0) := by
      have p : Pre G G1 := by rw [hG1]; exact Pre.one
      exact ⟨h.pre p, by rw [hG1]; exact get_last, .zero, by rw [hG1]; simp, fun j hj _ => p.get hj, hl⟩
    obtain ⟨x, G2, c2, hx, L2, _⟩ := L1.pick (n := 12) (by omega) (by omega)
    obtain ⟨y, G3, c3, hy, L3, _⟩ := L2.pick (n := 12) (by omega) (by omega)
    obtain ⟨N, G4, c4, hN, L4, _⟩ := L3.pick (n := 14) (by omega) (by omega)
    obtain ⟨N, rfl⟩ := Int.eq_ofNat_of_zero_le hN.1
    obtain ⟨x, rfl⟩ := Int.eq_ofNat_of_zero_le hx.1
    obtain ⟨y, rfl⟩ := Int.eq_ofNat_of_zero_le hy.1
    simp [c368, k368, fill, zs_cs, agg_cs, ← hG1, hwr, wbOf, c2, c3, c4]
    refine WK_loop (fun i e G' => e 0 = adr P 0 0 ∧ e 2 = iv .u16 (zr 12 0) ∧ e 3 = adr G.length 0 0 ∧ XY (e 4) (e 5) ∧ e 6 = .int .i64 ((N - i : Nat) : Int) ∧ ∃ f, Loc G G' P (k + 6 + i * 8) f) N ?_ (Nat.zero_le _)
      ⟨by simp, by simp, by simp, by simp; exact .mk hx hy, by simp, _, by rw [Nat.zero_mul]; exact L4⟩
    rintro i e G' _ hi ⟨h0, h2, h3, ⟨x, y, hx, hy, h4, h5⟩, h6, f, L⟩
    by_cases hiN : i = N
    · subst hiN
      rw [Nat.sub_self] at h6
      obtain ⟨b, G5, c5, m5, s5⟩ := call513 (n := 8) L.src (by omega) (by omega)
      have L5 := L.mv m5 s5
      have fin : ∀ {G6 : Heap} {g : List Int} {k' : Nat}, Loc G G6 P k' g → k' ≤ k + 200 → ∃ r, some (iv .u16 g, G6.take G.length) = some r ∧ ∃ f G', r = (iv .u16 f, G') ∧ VF f ∧ Mv P G G' ∧ Src G' P (k + 200) := fun L6 hk' =>
        ⟨_, rfl, _, _, rfl, L6.V, L6.done.1, L6.done.2.le hk'⟩
      cases b with
      | false =>
        have hr := rd_at (off := 0) (n := 12) (ver := 0) L5.fr rfl (by simp [L5.V.W.len])
        simp [take_all, L5.V.W.len] at hr
        have s3 := stc_zr (k := .u16) (n := 12) (l := f) L5.V.W.len
        simp [b368_1, h0, h2, h3, h6, c5, wbOf, hr, s3, agg_cs, L5.V.W.len]
        exact ⟨_, _, ⟨rfl, rfl⟩, _, _, ⟨rfl, rfl⟩, L5.V, L5.done.1, L5.done.2.le (by omega)⟩
      | true =>
        simp [b368_1, h0, h2, h3, h6, c5, wbOf]
        refine WP_count 7 12 12 rfl (fun j e G' => e 0 = adr P 0 0 ∧ e 2 = iv .u16 (zr 12 0) ∧ e 3 = adr G.length 0 0 ∧ ∃ f, Loc G G' P (k + 6 + i * 8 + 2 + j * 2) f) (by omega) ?_ ?_ (by simp) ⟨by simp [h0], by simp [h2], by simp [h3], _, L5⟩
        · rintro j e G' _ hj hjj e4 h7 ⟨h0, h2, h3, g, L⟩
          obtain ⟨v, G6, c6, hv, L6, hget⟩ := L.pick (n := 4096) (by omega) (by omega)
          have hr := rd_at (off := 0) (n := 12) (ver := 0) L.fr rfl (by simp [L.V.W.len])
          simp [take_all, L.V.W.len] at hr
          have hr1 := rd_one hr hj
          rw [Nat.zero_add] at hr1
          have hw := wr_at (n0 := G.length) (wb := true) (off := j) (vs := [.int .u16 (orI (nth g j) v)]) (ver := 0) L6.fr rfl rfl (by simp [may]) (by simp [L6.V.W.len]; omega)
          have hsp : splice (cs .u16 g) j [.int .u16 (orI (nth g j) v)] = cs .u16 (g.set j (orI (nth g j) v)) := by rw [splice_one (by simp [L6.V.W.len]; omega)]; simp [cs, List.map_set]
          simp only [hsp] at hw
          obtain ⟨q1, q2⟩ := L6.V.row hj
          have uv : u16' v := ⟨by omega, by omega⟩
          have L7 := L6.set (L6.V.set (i := j) (orI_ok (a := nth g j) (b := v)) (orI_row q1 uv q2 (by simp [okRow]; omega)))
          simp [b368_2, h7, h0, h2, h3, hjj, hj, hr1]
          rw [fl_step (v := .int .i64 v) (H' := G6) (by simp [apart, blkOf, adr, mods]) (by simp [h0, c6]) (by simp [stays, blkOf, adr, hget])]
          have u1 : IntKind.wrap .u16 v = v := wrapu16 (by omega)
          have e9 : bitsOf .or .u16 (nth g j) v = orI (nth g j) v := rfl
          simp [h0, h2, h3, hj, u1, e9, hw, wbOf, h7, e4]
          exact ⟨_, L7.le (by omega)⟩
        · rintro e G' _ h7 ⟨h0, h2, h3, g, L⟩
          have hr := rd_at (off := 0) (n := 12) (ver := 0) L.fr rfl (by simp [L.V.W.len])
          simp [take_all, L.V.W.len] at hr
          have s3 := stc_zr (k := .u16) (n := 12) (l := g) L.V.W.len
          simp [b368_2, h7, h0, h2, h3, wbOf, hr, s3, agg_cs, L.V.W.len]
          exact ⟨_, _, ⟨rfl, rfl⟩, _, _, ⟨rfl, rfl⟩, L.V, L.done.1, L.done.2.le (by omega)⟩
    · have hpos : 0 < N - i := by omega
      have p1 := call305 L.fr L.V.W.len hx hy
      have L5 := L.set (L.V.put hx hy)
      obtain ⟨v, G6, c6, hv, L6, _⟩ := L5.pick (n := 6) (by omega) (by omega)
      have e6 : IntKind.wrap .i64 (((N - i : Nat) : Int) - 1) = ((N - (i + 1) : Nat) : Int) := by rw [wrap64 (by omega)]; omega
      have hiN' : i < N := by omega
      have fin : ∀ {x' y' : Int} {G7 : Heap}, (0 ≤ x' ∧ x' < 12) → (0 ≤ y' ∧ y' < 12) → Loc G G7 P (k + 6 + i * 8 + 6) (putF f x y) → XY (.int .i64 x') (.int .i64 y') ∧ ∃ f, Loc G G7 P (k + 6 + (i + 1) * 8) f := fun hx' hy' L7 => ⟨.mk hx' hy', _, L7.le (by omega)⟩
      have hmod : ∀ a : Int, 0 ≤ a → a ≤ 1000 → IntKind.wrap .i64 (a.tmod 12) = a.tmod 12 ∧ 0 ≤ a.tmod 12 ∧ a.tmod 12 < 12 := fun a ha hb => by
        have h1 : a.tmod 12 = a % 12 := Int.tmod_eq_emod_of_nonneg ha
        rw [h1]
        exact ⟨wrap64 (by omega), by omega, by omega⟩
      have hv' : v = 0 ∨ v = 1 ∨ v = 2 ∨ (v ≠ 0 ∧ v ≠ 1 ∧ v ≠ 2) := by omega
      rcases hv' with rfl | rfl | rfl | ⟨v0, v1, v2⟩
      · obtain ⟨x', G7, c7, hx', L7, _⟩ := L6.pick (n := 12) (by omega) (by omega)
        obtain ⟨y', G8, c8, hy', L8, _⟩ := L7.pick (n := 12) (by omega) (by omega)
        simp [b368_1, h0, h2, h3, h4, h5, h6, hpos, p1, c6, c7, c8, e6, wbOf]
        exact ⟨hiN', fin hx' hy' (L8.le (by omega))⟩
      · obtain ⟨m1, m2⟩ := hmod ((x : Int) + 1) (by omega) (by omega)
        have e7 : IntKind.wrap .i64 ((x : Int) + 1) = (x : Int) + 1 := wrap64 (by omega)
        simp [b368_1, h0, h2, h3, h4, h5, h6, hpos, p1, c6, e6, e7, m1, wbOf]
        exact ⟨hiN', fin m2 ⟨by omega, by omega⟩ (L6.le (by omega))⟩
      · obtain ⟨m1, m2⟩ := hmod ((x : Int) + 1) (by omega) (by omega)
        have e7 : IntKind.wrap .i64 ((x : Int) + 1) = (x : Int) + 1 := wrap64 (by omega)
        simp [b368_1, h0, h2, h3, h4, h5, h6, hpos, p1, c6, e6, e7, m1, wbOf]
        exact ⟨hiN', fin m2 ⟨by omega, by omega⟩ (L6.le (by omega))⟩
      · obtain ⟨w, G7, c7, hw, L7, _⟩ := L6.pick (n := 3) (by omega) (by omega)
        obtain ⟨m1, m2⟩ := hmod ((y : Int) + w + 11) (by omega) (by omega)
        have v0 : (v == 0) = false := by simpa using v0
        have v1 : (v == 1) = false := by simpa using v1
        have v2 : (v == 2) = false := by simpa using v2
        have e7 : IntKind.wrap .i64 ((y : Int) + w) = (y : Int) + w := wrap64 (by omega)
        have e8 : IntKind.wrap .i64 ((y : Int) + w + 11) = (y : Int) + w + 11 := wrap64 (by omega)
        simp [b368_1, h0, h2, h3, h4, h5, h6, hpos, p1, c6, c7, e6, e7, e8, m1, v0, v1, v2, wbOf]
        exact ⟨hiN', fin ⟨by omega, by omega⟩ m2 (L7.le (by omega))⟩
  obtain ⟨r, hc, v, G', rfl, h⟩ := key
  exact ⟨v, G', hc, h⟩
theorem shF_V {f : List Int} {dx dy : Int} : VF (shF f dx dy) := ⟨dotsF_W, dotsF_ok⟩
structure Lo2 (G G' : Heap) (P k : Nat) (x : Value) (L : List (List Int)) (f : List Int) : Prop where
  src : Src G' P k
  ls : ∃ ver, x = slc G.length 0 ver L.length L.length ∧ G'[G.length]? = some ⟨bkC L, 12, ver, false⟩
  VL : ∀ g ∈ L, VF g
  fr : G'[G.length + 1]? = some ⟨cs .u16 f, 1, 0, false⟩
  V : VF f
  len : G.length + 2 ≤ G'.length
  get : ∀ j, j < G.length → j ≠ P → G'[j]? = G[j]?
  lt : P < G.length
theorem Lo2.mv {G G' G'' : Heap} {P k k' : Nat} {x : Value} {L : List (List Int)} {f : List Int} (h : Lo2 G G' P k x L f) (m : Mv P G' G'') (s : Src G'' P k') : Lo2 G G'' P k' x L f := by
  have := h.lt
  exact ⟨s, by obtain ⟨ver, e, g⟩ := h.ls; exact ⟨ver, e, by rw [m.get _ (by omega)]; exact g⟩, h.VL, by rw [m.get _ (by omega)]; exact h.fr, h.V, by rw [m.len]; exact h.len, fun j hj hp => by rw [m.get j hp]; exact h.get j hj hp, h.lt⟩
theorem Lo2.le {G G' : Heap} {P k k' : Nat} {x : Value} {L : List (List Int)} {f : List Int} (h : Lo2 G G' P k x L f) (hk : k ≤ k') : Lo2 G G' P k' x L f := ⟨h.src.le hk, h.ls, h.VL, h.fr, h.V, h.len, h.get, h.lt⟩
theorem Lo2.set {G G' : Heap} {P k : Nat} {x : Value} {L : List (List Int)} {f g : List Int} (h : Lo2 G G' P k x L f) (hg : VF g) : wr G.length true G' (G.length + 1) 0 0 (cs .u16 g) = some (G'.set (G.length + 1) ⟨cs .u16 g, 1, 0, false⟩) ∧ Lo2 G (G'.set (G.length + 1) ⟨cs .u16 g, 1, 0, false⟩) P k x L g := by
  have hl := h.lt
  have hlen := h.len
  have hw := wr_at (n0 := G.length) (wb := true) (off := 0) (vs := cs .u16 g) (ver := 0) h.fr rfl rfl (by simp [may]) (by simp [h.V.W.len, hg.W.len])
  have hsp : splice (cs .u16 f) 0 (cs .u16 g) = cs .u16 g := by
    unfold splice
    rw [List.take_zero, List.nil_append, Nat.zero_add, List.drop_eq_nil_of_le (by simp [h.V.W.len, hg.W.len]), List.append_nil]
  simp only [hsp] at hw
  exact ⟨hw, h.src.mv (List.getElem?_set_ne (by omega)) fun j hj => List.getElem?_set_ne (by omega), by obtain ⟨ver, e, g⟩ := h.ls; exact ⟨ver, e, by rw [List.getElem?_set_ne (by omega)]; exact g⟩, h.VL, get_set h.fr, hg, by simpa using hlen,
    fun j hj hp => by rw [List.getElem?_set_ne (by omega)]; exact h.get j hj hp, hl⟩
theorem Lo2.pick {G G' : Heap} {P k : Nat} {x : Value} {L : List (List Int)} {f : List Int} {n : Int} (h : Lo2 G G' P k x L f) (hk : k ≤ 100000000000) (hn : 1 ≤ n ∧ n ≤ 1000000) : ∃ v G'', Call tab false 459 [adr P 0 0, .int .i64 n] G' = some (.int .i64 v, G'') ∧ (0 ≤ v ∧ v < n) ∧ Lo2 G G'' P (k + 2) x L f := by
  obtain ⟨v, G'', c, hv, m, s⟩ := call459 h.src hk hn
  exact ⟨v, G'', c, hv, h.mv m s⟩
theorem Lo2.frd {G G' : Heap} {P k : Nat} {x : Value} {L : List (List Int)} {f : List Int} (h : Lo2 G G' P k x L f) : rd G' (G.length + 1) 0 0 12 = some (cs .u16 f) := by
  have hr := rd_at (off := 0) (n := 12) (ver := 0) h.fr rfl (by simp [h.V.W.len])
  simpa [take_all, h.V.W.len] using hr
theorem vl_size {L : List (List Int)} (h : ∀ g ∈ L, VF g) : (bkC L).length = L.length * 12 := bkC_length fun f hf => (h f hf).W
theorem Lo2.bk {G G' : Heap} {P k : Nat} {x : Value} {L : List (List Int)} {f : List Int} (h : Lo2 G G' P k x L f) : Bk G' x L := by
  obtain ⟨ver, rfl, g⟩ := h.ls
  have hs := vl_size h.VL
  exact ⟨hs, .inr ⟨_, 0, ver, L.length, rfl, Nat.le_refl _, by rw [rd_at g rfl (by simp [hs])]; simp [take_all, hs], _, g, rfl, rfl⟩⟩
theorem Lo2.push {G G' : Heap} {P k : Nat} {x : Value} {L : List (List Int)} {f : List Int} (h : Lo2 G G' P k x L f) (hn : L.length ≤ 1000000) :
    ∃ x' G'', ((srcOf 12 (G' ++ [⟨cs .u16 f, 12, 0, false⟩]) (slc G'.length 0 0 1 1)).bind fun q => appendTo G.length true 12 24 (G' ++ [⟨cs .u16 f, 12, 0, false⟩]) x q.1 q.2) = some (x', G'') ∧ Lo2 G G'' P k x' (L ++ [f]) f := by
  have hl := h.lt
  have hlen := h.len
  have hf := h.V.W.len
  have hs := vl_size h.VL
  have hfr := h.fr
  have hsrc := h.src
  have hget := h.get
  obtain ⟨ver, rfl, g⟩ := h.ls
  have gA : ∀ j, j < G'.length → (G' ++ [(⟨cs .u16 f, 12, 0, false⟩ : Blk)])[j]? = G'[j]? := fun j hj => List.getElem?_append_left hj
  have g' : (G' ++ [(⟨cs .u16 f, 12, 0, false⟩ : Blk)])[G.length]? = some ⟨bkC L, 12, ver, false⟩ := by rw [gA _ (by omega)]; exact g
  have e1 : srcOf 12 (G' ++ [⟨cs .u16 f, 12, 0, false⟩]) (slc G'.length 0 0 1 1) = some (1, cs .u16 f) := by
    show (rd (G' ++ [⟨cs .u16 f, 12, 0, false⟩]) G'.length 0 0 (1 * 12)).map (fun cs => (1, cs)) = _
    rw [Nat.one_mul, rd_last rfl (by simpa using hf)]; rfl
  have e2 : (L ++ [f]).length = L.length + 1 := by simp
  refine ⟨slc G.length 0 (ver + 1) (L.length + 1) (L.length + 1), (G' ++ [(⟨cs .u16 f, 12, 0, false⟩ : Blk)]).set G.length ⟨bkC L ++ cs .u16 f, 12, ver + 1, false⟩, ?_, ?_⟩
  · rw [e1, Option.bind_some]
    exact appendTo_grow g' rfl rfl (by simp [may]) rfl hs.symm (by omega) (room24 (by omega))
  · refine ⟨hsrc.mv (by rw [List.getElem?_set_ne (by omega), gA _ (by omega)]) fun j hj => by rw [List.getElem?_set_ne (by omega), gA _ (by omega)], ⟨ver + 1, by rw [e2], by rw [get_set g', bkC_push]⟩, fun g hg => ?_, by rw [List.getElem?_set_ne (by omega), gA _ (by omega)]; exact hfr, h.V, by simp; omega, fun j hj hp => by rw [List.getElem?_set_ne (by omega), gA _ (by omega)]; exact hget j hj hp, hl⟩
    rcases List.mem_append.1 hg with h1 | h1
    · exact h.VL g h1
    · rw [List.mem_singleton.1 h1]; exact h.V
theorem finish_slc' {H G : Heap} {b ver len cap : Nat} {k : Blk} (hb : H.length ≤ b) (hk : G[b]? = some k) (hv : ver = k.ver) (hr : k.ro = false) (ho : k.cells.all (old0 H.length) = true) :
    finish H.length G [slc b 0 ver len cap] = (slc H.length 0 0 len cap, G.take H.length ++ [{ k with ver := 0 }]) := by
  have hne : old1 H.length (slc b 0 ver len cap) = false := by
    show (true && decide (b < H.length)) = false
    simp; omega
  have : pack H.length G [slc b 0 ver len cap] [] [] = some ([slc H.length 0 0 len cap], [{ k with ver := 0 }]) := by
    rw [pack, if_neg (by rw [hne]; decide)]
    show (match G[b]? with
      | some k => if ([] : List Nat).contains b = false ∧ ver = k.ver ∧ k.ro = false ∧ k.cells.all (old0 H.length) = true then _ else none
      | none => none) = _
    rw [hk]
    simp only []
    rw [if_pos ⟨by simp, hv, hr, ho⟩]
    rfl
  rw [finish_some this]; rfl
theorem Lo2.done {G G' : Heap} {P k : Nat} {x : Value} {L : List (List Int)} {f : List Int} (h : Lo2 G G' P k x L f) :
    finish G.length G' [x] = (slc G.length 0 0 L.length L.length, G'.take G.length ++ [⟨bkC L, 12, 0, false⟩]) ∧ Mv P G (G'.take G.length) ∧ Src (G'.take G.length) P k := by
  have hlen := h.len
  refine ⟨?_, ⟨by simp; omega, fun j hj => ?_⟩, h.src.take h.lt⟩
  · obtain ⟨ver, rfl, g⟩ := h.ls
    rw [finish_slc' (Nat.le_refl _) g rfl rfl bkC_flat.all]
  · rw [List.getElem?_take]
    split
    · exact h.get j ‹_› hj
    · exact (List.getElem?_eq_none (by omega)).symm
theorem call314 {G : Heap} {P k : Nat} {most : Int} (h : Src G P k) (hk : k ≤ 10000000) (hm : 0 ≤ most ∧ most ≤ 100) :
    ∃ L G1, Call tab false 314 [adr P 0 0, .int .i64 most] G = some (slc G.length 0 0 L.length L.length, G1 ++ [⟨bkC L, 12, 0, false⟩]) ∧ (∀ g ∈ L, VF g) ∧ (L.length : Int) ≤ most ∧ Mv P G G1 ∧ Src G1 P (k + 30000) := by
  have key : ∃ r, Call tab false 314 [adr P 0 0, .int .i64 most] G = some r ∧ ∃ L G1, r = (slc G.length 0 0 L.length L.length, G1 ++ [⟨bkC L, 12, 0, false⟩]) ∧ (∀ g ∈ L, VF g) ∧ (L.length : Int) ≤ most ∧ Mv P G G1 ∧ Src G1 P (k + 30000) := by
    refine Call_ex t314 (.inl rfl) rfl ?_
    have hl := h.lt
    obtain ⟨G1, hG1⟩ : ∃ G1, G1 = G ++ [(⟨[], 12, 0, false⟩ : Blk)] := ⟨_, rfl⟩
    have p1 : Pre G G1 := by rw [hG1]; exact Pre.one
    obtain ⟨f, G2, c2, V, m2, s2⟩ := call368 (h.pre p1) (by omega)
    obtain ⟨G3, hG3⟩ : ∃ G3, G3 = G2 ++ [(⟨cs .u16 (zr 12 0), 1, 0, false⟩ : Blk)] := ⟨_, rfl⟩
    have l2 : G2.length = G.length + 1 := by rw [m2.len, hG1]; simp
    have g3 : ∀ j, j < G2.length → G3[j]? = G2[j]? := fun j hj => by rw [hG3, List.getElem?_append_left hj]
    have L3 : Lo2 G G3 P (k + 200) (slc G.length 0 0 0 0) [] (zr 12 0) := by
      refine ⟨s2.pre (by rw [hG3]; exact Pre.one), ⟨0, rfl, ?_⟩, fun g hg => (by cases hg), by rw [hG3, ← l2]; exact get_last, .zero, by rw [hG3]; simp; omega, fun j hj hp => ?_, hl⟩
      · rw [g3 _ (by omega), m2.get _ (by omega), hG1]; exact get_last
      · rw [g3 _ (by omega), m2.get _ hp, p1.get hj]
    obtain ⟨w3, L4⟩ := L3.set V
    have e1 : IntKind.wrap .i64 (most + 1) = most + 1 := wrap64 (by omega)
    obtain ⟨N, G5, c5, hN, L5⟩ := L4.pick (n := most + 1) (by omega) (by omega)
    obtain ⟨N, rfl⟩ := Int.eq_ofNat_of_zero_le hN.1
    have hf0 : fill (rep 0 (cs .u16 (zr 12 0))) [] = some [] := rfl
    simp [c314, k314, hf0, zs_cs, ← hG1, c2, ← hG3, wbOf, V.W.len, l2, w3, e1, c5]
    refine WK_loop (fun i e G' => e 0 = adr P 0 0 ∧ e 6 = adr (G.length + 1) 0 0 ∧ e 7 = .int .i64 ((N - i : Nat) : Int) ∧ ∃ L, L.length = i ∧ ∃ f, Lo2 G G' P (k + 202 + i * 220) (e 5) L f) N ?_ (Nat.zero_le _)
      ⟨by simp, by simp, by simp, [], rfl, f, by rw [Nat.zero_mul]; simp; exact L5⟩
    rintro i e G' _ hi ⟨h0, h6, h7, L, hL, f, Lo⟩
    obtain ⟨x, h5⟩ : ∃ x, e 5 = x := ⟨_, rfl⟩
    rw [h5] at Lo
    by_cases hiN : i = N
    · subst hiN
      rw [Nat.sub_self] at h7
      obtain ⟨d1, d2, d3⟩ := Lo.done
      simp [b314_1, h0, h6, h7, h5, d1]
      exact ⟨L, _, ⟨rfl, rfl, rfl⟩, Lo.VL, by omega, d2, d3.le (by omega)⟩
    · have hpos : 0 < N - i := by omega
      have hiN' : i < N := by omega
      have e7 : IntKind.wrap .i64 (((N - i : Nat) : Int) - 1) = ((N - (i + 1) : Nat) : Int) := by rw [wrap64 (by omega)]; omega
      obtain ⟨v, G6, c6, hv, L6⟩ := Lo.pick (n := 5) (by omega) (by omega)
      have fin : ∀ {G7 : Heap} {g : List Int}, Lo2 G G7 P (k + 202 + i * 220 + 210) x L g → ∃ x' G'', ((srcOf 12 (G7 ++ [⟨cs .u16 g, 12, 0, false⟩]) (slc G7.length 0 0 1 1)).bind fun q => appendTo G.length true 12 24 (G7 ++ [⟨cs .u16 g, 12, 0, false⟩]) x q.1 q.2) = some (x', G'') ∧
          ∃ L', L'.length = i + 1 ∧ ∃ f', Lo2 G G'' P (k + 202 + (i + 1) * 220) x' L' f' := fun L7 => by
        obtain ⟨x', G'', h1, h2⟩ := L7.push (by omega)
        exact ⟨x', G'', h1, _, by simp [hL], _, h2.le (by omega)⟩
      have hv' : v = 0 ∨ v = 1 ∨ v = 2 ∨ (v ≠ 0 ∧ v ≠ 1 ∧ v ≠ 2) := by omega
      rcases hv' with rfl | rfl | rfl | ⟨v0, v1, v2⟩
      · obtain ⟨g, G7, c7, V7, m7, s7⟩ := call368 L6.src (by omega)
        obtain ⟨w8, L8⟩ := (L6.mv m7 s7).set V7
        obtain ⟨x', G9, c9, hI⟩ := fin (L8.le (by omega))
        simp only [List.length_set] at c9
        simp [b314_1, h0, h6, h7, h5, hpos, c6, c7, V7.W.len, w8, wbOf, L8.frd, zs_cs, agg_cs, fillF V7.W.len, c9, e7]
        exact ⟨hiN', hI⟩
      · obtain ⟨x', G9, c9, hI⟩ := fin (L6.le (by omega))
        simp [b314_1, h0, h6, h7, h5, hpos, c6, wbOf, L6.frd, zs_cs, agg_cs, fillF L6.V.W.len, L6.V.W.len, c9, e7]
        exact ⟨hiN', hI⟩
      · by_cases hL0 : 0 < L.length
        · obtain ⟨w, G7, c7, hw, L7⟩ := L6.pick (n := L.length) (by omega) (by omega)
          obtain ⟨w, rfl⟩ := Int.eq_ofNat_of_zero_le hw.1
          have hwl : w < L.length := by omega
          obtain ⟨q, off, ver, ha, hr⟩ := Bk.get L7.bk (fun f hf => (L7.VL f hf).W) hwl
          have Vw := L7.VL _ (at0_mem (l := L) hwl)
          have Vw' : VF (fr L w) := Vw
          obtain ⟨w8, L8⟩ := L7.set Vw'
          obtain ⟨x', G9, c9, hI⟩ := fin (L8.le (by omega))
          simp only [List.length_set] at c9
          have hlen : lenV x = some (.int .i64 L.length) := L6.bk.lenV
          simp [b314_1, h0, h6, h7, h5, hpos, c6, hlen, hL0, c7, ha, hr, Vw'.W.len, w8, wbOf, L8.frd, zs_cs, agg_cs, fillF Vw'.W.len, c9, e7]
          exact ⟨hiN', hI⟩
        · obtain ⟨x', G9, c9, hI⟩ := fin (L6.le (by omega))
          have hlen : lenV x = some (.int .i64 L.length) := L6.bk.lenV
          simp [b314_1, h0, h6, h7, h5, hpos, c6, hlen, hL0, wbOf, L6.frd, zs_cs, agg_cs, fillF L6.V.W.len, L6.V.W.len, c9, e7]
          exact ⟨hiN', hI⟩
      · have v0 : (v == 0) = false := by simpa using v0
        have v1 : (v == 1) = false := by simpa using v1
        have v2 : (v == 2) = false := by simpa using v2
        obtain ⟨a, G7, c7, ha, L7⟩ := L6.pick (n := 3) (by omega) (by omega)
        obtain ⟨b, G8, c8, hb, L8⟩ := L7.pick (n := 3) (by omega) (by omega)
        have ea : IntKind.wrap .i64 (a - 1) = a - 1 := wrap64 (by omega)
        have eb : IntKind.wrap .i64 (b - 1) = b - 1 := wrap64 (by omega)
        have cs := call355 (pu := true) (dx := a - 1) (dy := b - 1) L8.V.W L8.frd (by omega) (by omega)
        obtain ⟨w8, L9⟩ := L8.set (shF_V (f := f) (dx := a - 1) (dy := b - 1))
        obtain ⟨x', G9, c9, hI⟩ := fin (L9.le (by omega))
        simp only [List.length_set] at c9
        have hsl : (shF f (a - 1) (b - 1)).length = 12 := shF_length
        simp [b314_1, h0, h6, h7, h5, hpos, c6, v0, v1, v2, c7, c8, ea, eb, cs, hsl, w8, wbOf, L9.frd, zs_cs, agg_cs, fillF hsl, c9, e7]
        exact ⟨hiN', hI⟩
  obtain ⟨r, hc, L, G1, rfl, h⟩ := key
  exact ⟨L, G1, hc, h⟩
theorem call496 {G : Heap} {P k q : Nat} {l : List Int} (h : Src G P k) (hk : k ≤ 10000000000) (hq : q ≠ P) (hg : G[q]? = some ⟨cs .i64 l, 1, 0, false⟩) (h1 : 1 ≤ l.length) (h2 : l.length ≤ 1000) :
    ∃ v G', Call tab false 496 [adr P 0 0, slc q 0 0 l.length l.length] G = some (.int .i64 v, G') ∧ v ∈ l ∧ Mv P G G' ∧ Src G' P (k + 2) := by
  obtain ⟨v, G', c, hv, m, s⟩ := call459 (n := l.length) h (by omega) (by omega)
  obtain ⟨i, rfl⟩ := Int.eq_ofNat_of_zero_le hv.1
  have hi : i < l.length := by omega
  have hg' : G'[q]? = some ⟨cs .i64 l, 1, 0, false⟩ := by rw [m.get q hq]; exact hg
  have hr : rd G' q i 0 1 = some [.int .i64 (nth l i)] := by
    have h3 := rd_at (ver := 0) (off := i) (n := 1) hg' rfl (by simp; omega)
    rw [h3]
    have := elem_i (k := .i64) hi
    unfold elem at this
    simpa using this
  refine ⟨nth l i, G', Call_wp t496 (.inl rfl) rfl ?_, nth_mem hi, m, s⟩
  simp [c496, k496, c, wbOf, at_nat hi, hr]
  exact List.take_of_length_le (by rw [m.len]; exact Nat.le_refl _)
/-- In a function that draws: the source, and blocks of the call's own behind. -/
structure Lo0 (G G' : Heap) (P k : Nat) : Prop where
  src : Src G' P k
  len : G.length ≤ G'.length
  get : ∀ j, j < G.length → j ≠ P → G'[j]? = G[j]?
  lt : P < G.length
theorem Lo0.mv {G G' G'' : Heap} {P k k' : Nat} (h : Lo0 G G' P k) (m : Mv P G' G'') (s : Src G'' P k') : Lo0 G G'' P k' :=
  ⟨s, by rw [m.len]; exact h.len, fun j hj hp => by rw [m.get j hp]; exact h.get j hj hp, h.lt⟩
theorem Lo0.pre {G G' G'' : Heap} {P k : Nat} (h : Lo0 G G' P k) (p : Pre G' G'') : Lo0 G G'' P k := by
  have h1 := h.len
  exact ⟨h.src.pre p, Nat.le_trans h1 p.len, fun j hj hp => by rw [p.get (by omega)]; exact h.get j hj hp, h.lt⟩
theorem Lo0.le {G G' : Heap} {P k k' : Nat} (h : Lo0 G G' P k) (hk : k ≤ k') : Lo0 G G' P k' := ⟨h.src.le hk, h.len, h.get, h.lt⟩
theorem Lo0.done {G G' : Heap} {P k : Nat} (h : Lo0 G G' P k) : Mv P G (G'.take G.length) ∧ Src (G'.take G.length) P k := by
  have h1 := h.len
  refine ⟨⟨by simp; omega, fun j hj => ?_⟩, h.src.take h.lt⟩
  rw [List.getElem?_take]
  split
  · exact h.get j ‹_› hj
  · exact (List.getElem?_eq_none (by omega)).symm
/-- Valid light. -/
structure VL (l : List Int) : Prop where
  len : l.length = 144
  ok : okAll l = true
theorem VL.at {l : List Int} (h : VL l) {i : Nat} (hi : i < 144) : 0 ≤ nth l i ∧ nth l i ≤ 1000 := by
  have := List.all_eq_true.1 (show l.all okL = true from h.ok) _ (nth_mem (i := i) (by rw [h.len]; exact hi))
  simpa [okL] using this
theorem VL.i16 {l : List Int} (h : VL l) : ∀ n ∈ l, i16 n := fun n hn => by
  have := List.all_eq_true.1 (show l.all okL = true from h.ok) n hn
  simp [okL] at this
  exact ⟨by omega, by omega⟩
theorem VL.set {l : List Int} {i : Nat} {v : Int} (h : VL l) (hv : 0 ≤ v ∧ v ≤ 1000) : VL (l.set i v) :=
  ⟨by simp [h.len], List.all_eq_true.2 fun n hn => (List.mem_or_eq_of_mem_set hn).elim (fun h1 => List.all_eq_true.1 (show l.all okL = true from h.ok) n h1) (fun e => by rw [e]; simpa [okL] using hv)⟩
theorem VL.zero : VL (zr 144 0) := ⟨by simp, by decide⟩
def l07L : List Int := [1, 7, 8, 64, 100, 960, 1000]
theorem l07_ok : ∀ v ∈ l07L, 0 ≤ v ∧ v ≤ 1000 := by decide
theorem call417 {G : Heap} {P k : Nat} (h : Src G P k) (hk : k ≤ 10000000) : ∃ l G', Call tab false 417 [adr P 0 0] G = some (iv .i16 l, G') ∧ VL l ∧ Mv P G G' ∧ Src G' P (k + 200) := by
  have key : ∃ r, Call tab false 417 [adr P 0 0] G = some r ∧ ∃ l G', r = (iv .i16 l, G') ∧ VL l ∧ Mv P G G' ∧ Src G' P (k + 200) := by
    refine Call_ex t417 (.inl rfl) rfl ?_
    obtain ⟨N, G1, c1, hN, m1, s1⟩ := call459 (n := 12) h (by omega) (by omega)
    obtain ⟨N, rfl⟩ := Int.eq_ofNat_of_zero_le hN.1
    have L1 : Lo0 G G1 P (k + 2) := ⟨s1, by rw [m1.len]; exact Nat.le_refl _, fun j _ hp => m1.get j hp, h.lt⟩
    have hz := stc_zr (k := .i16) (n := 144) (l := zr 144 0) (by simp)
    simp [c417, k417, fill, zs_cs, agg_cs, hz, c1, wbOf]
    refine WK_loop (fun i e G' => e 0 = adr P 0 0 ∧ e 2 = iv .i16 (zr 144 0) ∧ e 4 = .int .i64 ((N - i : Nat) : Int) ∧ ∃ l, e 3 = iv .i16 l ∧ VL l ∧ Lo0 G G' P (k + 2 + i * 10)) N ?_ (Nat.zero_le _)
      ⟨by simp, by simp, by simp, zr 144 0, by simp, .zero, by rw [Nat.zero_mul]; exact L1⟩
    rintro i e G' _ hi ⟨h0, h2, h4, l, h3, V, Lo⟩
    by_cases hiN : i = N
    · subst hiN
      rw [Nat.sub_self] at h4
      have s3 := stc_zr (k := .i16) (n := 144) (l := l) V.len
      simp [b417_1, h0, h2, h3, h4, s3, V.len, agg_cs]
      exact ⟨_, _, ⟨rfl, rfl⟩, _, _, ⟨rfl, rfl⟩, V, Lo.done.1, Lo.done.2.le (by omega)⟩
    · have hpos : 0 < N - i := by omega
      have hiN' : i < N := by omega
      have e7 : IntKind.wrap .i64 (((N - i : Nat) : Int) - 1) = ((N - (i + 1) : Nat) : Int) := by rw [wrap64 (by omega)]; omega
      obtain ⟨x, G2, c2, hx, m2, s2⟩ := call459 (n := 12) Lo.src (by omega) (by omega)
      obtain ⟨x, rfl⟩ := Int.eq_ofNat_of_zero_le hx.1
      have L2 := Lo.mv m2 s2
      obtain ⟨G3, hG3⟩ : ∃ G3, G3 = G2 ++ [(⟨cs .i64 l07L, 1, 0, false⟩ : Blk)] := ⟨_, rfl⟩
      have L3 := L2.pre (G'' := G3) (by rw [hG3]; exact Pre.one)
      have hf : fill (rep 7 [.int .i64 0]) [(0, 1, .int .i64 1), (1, 1, .int .i64 7), (2, 1, .int .i64 8), (3, 1, .int .i64 64), (4, 1, .int .i64 100), (5, 1, .int .i64 960), (6, 1, .int .i64 1000)] = some (cs .i64 l07L) := rfl
      obtain ⟨y, G4, c4, hy, m4, s4⟩ := call459 (n := 12) L3.src (by omega) (by omega)
      obtain ⟨y, rfl⟩ := Int.eq_ofNat_of_zero_le hy.1
      have L4 := L3.mv m4 s4
      have hlt := Lo.lt
      have hlen := L2.len
      have hq : G2.length ≠ P := by omega
      obtain ⟨v, G5, c5, hv, m5, s5⟩ := call496 (l := l07L) L4.src (by omega) hq (by rw [m4.get _ hq, hG3]; exact get_last) (by decide) (by decide)
      have L5 := L4.mv m5 s5
      have hvv := l07_ok v hv
      have u1 : IntKind.wrap .i16 v = v := wrap16 (by omega)
      have hx' : x < 12 := by omega
      have hy' : y < 12 := by omega
      have hst := stc_one (k := .i16) (k' := .i16) (l := l) (i := y * 12 + x) (n := v) (by rw [V.len]; omega) rfl
      rw [show l07L.length = 7 from rfl] at c5
      simp [b417_1, h0, h2, h3, h4, hpos, c2, hf, ← hG3, c4, c5, wbOf, u1, hx', hy', at_nat hx', at_nat hy', hst, V.len, e7]
      exact ⟨hiN', _, rfl, V.set hvv, L5.le (by omega)⟩
  obtain ⟨r, hc, l, G', rfl, h⟩ := key
  exact ⟨l, G', hc, h⟩
theorem bit_get {n : Nat} {i : Nat} (h : i < 16) : (BitVec.ofInt 16 (n : Int)).getLsbD i = n.testBit i := by
  rw [BitVec.ofInt_natCast, BitVec.getLsbD_ofNat]
  simp [h]
theorem dotB_vec {v : BitVec 16} {i : Nat} : dotB (IntKind.wrap .u16 (v.toNat : Int)) i = v.getLsbD i := by
  have := v.isLt
  rw [wrapu16 (by omega), dotB_bit]
  exact BitVec.testBit_toNat v
theorem less_dot {a b : Int} (ha : u16' a) (hb : u16' b) {i : Nat} (hi : i < 16) : dotB (lessI a b) i = (dotB a i && !dotB b i) := by
  obtain ⟨n, rfl⟩ := Int.eq_ofNat_of_zero_le ha.1
  obtain ⟨m, rfl⟩ := Int.eq_ofNat_of_zero_le hb.1
  have e1 : (BitVec.ofInt 16 (n : Int) &&& ~~~BitVec.ofInt 16 (m : Int)).getLsbD i = ((BitVec.ofInt 16 (n : Int)).getLsbD i && !(BitVec.ofInt 16 (m : Int)).getLsbD i) := by
    rw [BitVec.getLsbD_and, BitVec.getLsbD_not]; simp [hi]
  rw [dotB_bit, dotB_bit, ← bit_get hi, ← bit_get hi, ← e1]
  exact dotB_vec
theorem hasF_dots {p : Nat → Nat → Bool} {x y : Nat} (hx : x < 12) (hy : y < 12) : hasF (dotsF p) x y = p x y := by
  rw [hasF, dotsF_nth hy, dotB_bit, rowN_bit]; simp [hx]
theorem VF.dots {f : List Int} (h : VF f) : dotsF (hasF f) = f := by
  refine (ext_nth (by rw [dotsF_length, h.W.len]) fun y hy => ?_)
  rw [dotsF_length] at hy
  obtain ⟨n, hn, hlt⟩ := okF_row h.ok h.W hy
  rw [dotsF_nth hy, hn]
  have := rowN_eq (q := fun x => hasF f x y) (n := n) (m := 12) hlt fun x hx => by rw [hasF, hn, dotB_bit]
  rw [← this]
theorem VF.ext {f g : List Int} (hf : VF f) (hg : VF g) (h : ∀ x y, x < 12 → y < 12 → hasF f x y = hasF g x y) : f = g := by
  rw [← hf.dots, ← hg.dots]
  exact dotsF_congr h
theorem dotsV {p : Nat → Nat → Bool} : VF (dotsF p) := ⟨dotsF_W, dotsF_ok⟩
theorem mix_less {f g : List Int} (hf : VF f) (hg : VF g) {x y : Nat} (hx : x < 12) (hy : y < 12) : hasF (mixF lessI f g) x y = (hasF f x y && !hasF g x y) := by
  rw [hasF, mixF, nth_tabN hy]; exact less_dot (hf.row hy).1 (hg.row hy).1 (by omega)
theorem mixV {op : Int → Int → Int} {f g : List Int} (hf : VF f) (hg : VF g) (h : ∀ a b, u16' a → u16' b → okRow a = true → okRow b = true → u16' (op a b) ∧ okRow (op a b) = true) : VF (mixF op f g) := by
  have key : ∀ i, i < 12 → u16' (nth (mixF op f g) i) ∧ okRow (nth (mixF op f g) i) = true := fun i hi => by
    rw [mixF, nth_tabN hi]
    exact h _ _ (hf.row hi).1 (hg.row hi).1 (hf.row hi).2 (hg.row hi).2
  exact ⟨⟨mixF_length, fun n hn => by obtain ⟨i, hi, rfl⟩ := mem_nth hn; rw [mixF_length] at hi; exact (key i hi).1⟩, okF_true mixF_length fun i hi => (key i hi).2⟩
theorem less_V {f g : List Int} (hf : VF f) (hg : VF g) : VF (mixF lessI f g) := mixV hf hg fun _ _ h1 h2 h3 _ => ⟨lessI_ok, lessI_row h1 h3⟩
theorem hasF_zero {x y : Nat} (hx : x < 12) (hy : y < 12) : hasF (zr 12 0) x y = false := by rw [← dotsF_none, hasF_dots hx hy]
theorem less_none {f g : List Int} (hf : VF f) (hg : VF g) (h : ∀ x y, x < 12 → y < 12 → hasF f x y = true → hasF g x y = true) : mixF lessI f g = zr 12 0 :=
  (less_V hf hg).ext .zero fun x y hx hy => by
    rw [mix_less hf hg hx hy, hasF_zero hx hy]
    cases h1 : hasF f x y with
    | false => rfl
    | true => rw [h x y hx hy h1]; rfl
theorem whereN_dots {p : Nat → Nat → Bool} : whereN p 144 = dotsF p := by
  have key : ∀ k, k ≤ 144 → whereN p k = dotsF fun x y => decide (y * 12 + x < k) && p x y := by
    intro k
    induction k with
    | zero =>
      intro _
      rw [whereN_zero, ← dotsF_none]
      exact dotsF_congr fun x y _ _ => by simp
    | succ k ih =>
      intro hk
      have h1 := whereN_succ (p := p) (x := k % 12) (y := k / 12) (by omega)
      have e1 : k / 12 * 12 + k % 12 = k := by omega
      rw [e1, ih (by omega)] at h1
      rw [h1]
      split
      · rename_i hp
        rw [putF_dots (by omega) (by omega)]
        refine dotsF_congr fun x y hx hy => ?_
        by_cases hxy : x = k % 12 ∧ y = k / 12
        · obtain ⟨rfl, rfl⟩ := hxy
          simp [hp]; omega
        · have e2 : (decide (x = k % 12) && decide (y = k / 12)) = false := by simpa using hxy
          have e3 : decide (y * 12 + x < k) = decide (y * 12 + x < k + 1) := decide_eq_decide.2 ⟨fun h => by omega, fun h => by omega⟩
          rw [e2, e3, Bool.or_false]
      · rename_i hp
        refine dotsF_congr fun x y hx hy => ?_
        by_cases hxy : x = k % 12 ∧ y = k / 12
        · obtain ⟨rfl, rfl⟩ := hxy
          have : p (k % 12) (k / 12) = false := by simpa using hp
          simp [this]
        · have e3 : decide (y * 12 + x < k) = decide (y * 12 + x < k + 1) := decide_eq_decide.2 ⟨fun h => by omega, fun h => by omega⟩
          rw [e3]
  rw [key 144 (Nat.le_refl _)]
  exact dotsF_congr fun x y hx hy => by
    have : y * 12 + x < 144 := by omega
    simp [this]
/-- A list of bytes in memory. -/
structure By (H : Heap) (x : Value) (bs : List Int) : Prop where
  s : SlR H x 1 bs.length (cs .u8 bs)
  b : ∀ v ∈ bs, 0 ≤ v ∧ v ≤ 255
theorem By.pre {H G : Heap} {x : Value} {bs : List Int} (p : Pre H G) (h : By H x bs) : By G x bs := ⟨h.s.pre p, h.b⟩
theorem call84 {pu : Bool} {H : Heap} {x y : Value} {bs cs : List Int} (hx : By H x bs) (hy : By H y cs) : Call tab pu 84 [x, y] H = some (.bool (decide (3000 < bs.length) || decide (3000 < cs.length)), H) := by
  refine Call_wp t84 (.inr rfl) rfl ?_
  have e2 : decide ((3000 : Int) < cs.length) = decide (3000 < cs.length) := decide_eq_decide.2 (by omega)
  by_cases h : 3000 < bs.length
  · have h' : (3000 : Int) < bs.length := by omega
    simp [c84, k84, hx.s.lenV, hy.s.lenV, h, h', skip]
  · have h' : ¬ (3000 : Int) < bs.length := by omega
    simp [c84, k84, hx.s.lenV, hy.s.lenV, h, h', e2]
theorem call124 {pu : Bool} {H : Heap} {x : Value} {bs : List Int} {i : Nat} {n : Int} (hx : By H x bs) (hi : i ≤ 1000000) (hn : 1 ≤ n ∧ n ≤ 1000000) : ∃ v, Call tab pu 124 [x, .int .i64 i, .int .i64 n] H = some (.int .i64 v, H) ∧ 0 ≤ v ∧ v < n := by
  by_cases h : i < bs.length
  · obtain ⟨q, off, ver, ha, hr⟩ := hx.s.get1 h
    rw [elem_i h] at hr
    have hb := nthI_ok hx.b h
    have h1 : (nth bs i).tmod n = nth bs i % n := Int.tmod_eq_emod_of_nonneg hb.1
    have h2 := Int.emod_nonneg (nth bs i) (show n ≠ 0 by omega)
    have h3 := Int.emod_lt_of_pos (nth bs i) (show 0 < n by omega)
    have w1 : IntKind.wrap .i64 (nth bs i) = nth bs i := wrap64 (by omega)
    have w2 : IntKind.wrap .i64 (nth bs i % n) = nth bs i % n := wrap64 (by omega)
    have hn0 : n ≠ 0 := by omega
    have hn1 : ¬ n < 1 := by omega
    have hge : ¬ bs.length ≤ i := by omega
    refine ⟨nth bs i % n, Call_wp t124 (.inr rfl) rfl ?_, h2, h3⟩
    simp [c124, k124, hx.s.lenV, hge, hn1, ha, hr, w1, hn0, h1, w2]
  · have hge : bs.length ≤ i := by omega
    refine ⟨0, Call_wp t124 (.inr rfl) rfl ?_, by omega, by omega⟩
    simp [c124, k124, hx.s.lenV, hge, skip]
theorem call85 {pu : Bool} {H : Heap} {x : Value} {bs : List Int} (hx : By H x bs) (hn : bs.length ≤ 1000000) :
    ∃ L, Call tab pu 85 [x] H = some (slc H.length 0 0 L.length L.length, H ++ [⟨bkC L, 12, 0, false⟩]) ∧ (∀ g ∈ L, VF g) ∧ L.length ≤ 7 := by
  obtain ⟨c1, s1⟩ := call315 (pu := true) hx.s hx.b hn
  obtain ⟨L, G1, c2, V, hl, m, s2⟩ := call314 (most := 7) s1 (by omega) (by omega)
  obtain ⟨H1, hH1⟩ : ∃ H1, H1 = H ++ [srB x 0 0] := ⟨_, rfl⟩
  rw [← hH1] at c1 c2 s1 m
  have p1 : Pre H H1 := by rw [hH1]; exact Pre.one
  have lH1 : H1.length = H.length + 1 := by rw [hH1]; simp
  obtain ⟨G2, hG2⟩ : ∃ G2, G2 = G1 ++ [(⟨bkC L, 12, 0, false⟩ : Blk)] := ⟨_, rfl⟩
  rw [← hG2] at c2
  have ht : G2.take H.length = H := by
    rw [hG2, List.take_append_of_le_length (by rw [m.len]; omega), m.take (Nat.le_refl _), p1.take]
  have he : elder H.length false H1 (slc H1.length 0 0 L.length L.length, G2) = some (slc H1.length 0 0 L.length L.length, G2) := elder_same (by rw [ht, p1.take])
  have hfin := finish_slc' (H := H) (G := G2) (b := H1.length) (ver := 0) (len := L.length) (cap := L.length) (k := ⟨bkC L, 12, 0, false⟩) (by omega) (by rw [hG2, ← m.len]; exact get_last) rfl rfl bkC_flat.all
  rw [ht] at hfin
  refine ⟨L, Call_wp t85 (.inr rfl) rfl ?_, V, by omega⟩
  simp [c85, k85, c1, c2, wbOf, he, hfin]
theorem call200 {pu : Bool} {H : Heap} {x : Value} {bs : List Int} (hx : By H x bs) (hn : bs.length ≤ 1000000) : ∃ l, Call tab pu 200 [x] H = some (iv .i16 l, H) ∧ VL l := by
  obtain ⟨c1, s1⟩ := call315 (pu := true) hx.s hx.b hn
  obtain ⟨l, G1, c2, V, m, s2⟩ := call417 s1 (by omega)
  obtain ⟨H1, hH1⟩ : ∃ H1, H1 = H ++ [srB x 0 0] := ⟨_, rfl⟩
  rw [← hH1] at c1 c2 s1 m
  have p1 : Pre H H1 := by rw [hH1]; exact Pre.one
  have ht : G1.take H.length = H := by rw [m.take (Nat.le_refl _), p1.take]
  have he : elder H.length false H1 (iv .i16 l, G1) = some (iv .i16 l, G1) := elder_same (by rw [ht, p1.take])
  have s3 := stc_zr (k := .i16) (n := 144) (l := l) V.len
  refine ⟨l, Call_wp t200 (.inr rfl) rfl ?_, V⟩
  simp [c200, k200, c1, c2, wbOf, he, zs_cs, V.len, s3, agg_cs, ht]
theorem call327 {pu : Bool} {H : Heap} {p q o o' v v' : Nat} {a b : List Int} (ha : VF a) (hb : VF b) (h1 : rd H p o v 12 = some (cs .u16 a)) (h2 : rd H q o' v' 12 = some (cs .u16 b)) : Call tab pu 327 [adr p o v, adr q o' v'] H = some (.int .i64 0, H) := by
  refine Call_wp t327 (.inr rfl) rfl ?_
  simp [c327, k327, call359 ha.W.len h1, call359 hb.W.len h2, ha.ok, hb.ok]
theorem call202 {pu : Bool} {H : Heap} {a b : List Int} (ha : VF a) (hb : VF b) : Call tab pu 202 [iv .u16 a, iv .u16 b] H = some (tup [iv .u16 (mixF lessI a b), .int .i64 0], H) := by
  refine Call_wp t202 (.inr rfl) rfl ?_
  obtain ⟨H1, hH1⟩ : ∃ H1, H1 = H ++ [(⟨cs .u16 a, 1, 0, false⟩ : Blk)] := ⟨_, rfl⟩
  obtain ⟨H2, hH2⟩ : ∃ H2, H2 = H1 ++ [(⟨cs .u16 b, 1, 0, false⟩ : Blk)] := ⟨_, rfl⟩
  have p1 : Pre H H1 := by rw [hH1]; exact Pre.one
  have p2 : Pre H1 H2 := by rw [hH2]; exact Pre.one
  have r1 : rd H2 H.length 0 0 12 = some (cs .u16 a) := p2.rd (by rw [hH1]; exact rd_last rfl (by simp [ha.W.len]))
  have r2 : rd H2 H1.length 0 0 12 = some (cs .u16 b) := by rw [hH2]; exact rd_last rfl (by simp [hb.W.len])
  have s3 := stc_zr (k := .u16) (n := 12) (l := mixF lessI a b) mixF_length
  simp [c202, k202, ha.W.len, hb.W.len, ← hH1, ← hH2, call327 ha hb r1 r2, call349 ha.W.len hb.W.len r1 r2, zs_cs, agg_cs, mixF_length, s3, (p1.trans p2).take]
def invF (f : List Int) : List Int := f.map fun v => 4095 - v
theorem invF_row {a : Int} (ha : u16' a) (ho : okRow a = true) : u16' (4095 - a) ∧ okRow (4095 - a) = true := by
  simp [okRow] at ho ⊢
  omega
theorem invF_V {f : List Int} (h : VF f) : VF (invF f) := by
  have key : ∀ n ∈ invF f, u16' n ∧ okRow n = true := fun n hn => by
    obtain ⟨a, ha, rfl⟩ := List.mem_map.1 hn
    exact invF_row (h.W.ok a ha) (List.all_eq_true.1 (show f.all okRow = true from h.ok) a ha)
  exact ⟨⟨by simp [invF, h.W.len], fun n hn => (key n hn).1⟩, List.all_eq_true.2 fun n hn => (key n hn).2⟩
theorem call201 {pu : Bool} {H : Heap} {f : List Int} (hf : VF f) : Call tab pu 201 [iv .u16 f] H = some (tup [iv .u16 (invF f), .int .i64 0], H) := by
  refine Call_wp t201 (.inr rfl) rfl ?_
  have hl := hf.W.len
  obtain ⟨H1, hH1⟩ : ∃ H1, H1 = H ++ [(⟨cs .u16 f, 1, 0, false⟩ : Blk)] := ⟨_, rfl⟩
  have r1 : rd H1 H.length 0 0 12 = some (cs .u16 f) := by rw [hH1]; exact rd_last rfl (by simp [hl])
  have hz := stc_zr (k := .u16) (n := 12) (l := zr 12 0) (by simp)
  have hI := (invF_V hf).W.len
  have s3 := stc_zr (k := .u16) (n := 12) (l := invF f) hI
  simp [c201, k201, hl, ← hH1, call359 hl r1, hf.ok, zs_cs, agg_cs]
  refine WP_count 4 12 12 rfl (fun i e G => e 1 = adr H.length 0 0 ∧ e 2 = iv .u16 (zr 12 0) ∧ G = H ++ [(⟨cs .u16 (part (fun v => 4095 - v) i f), 1, 0, false⟩ : Blk)]) (by omega) ?_ ?_ (by simp) ⟨by simp, by simp, by rw [part_zero, hH1]⟩
  · rintro i e _ _ hi hii e5 h4 ⟨h1, h2, rfl⟩
    have hml : (part (fun v => 4095 - v) i f).length = 12 := by rw [part_length, hl]
    have hn : nth (part (fun v => 4095 - v) i f) i = nth f i := by rw [nth_part (by omega), if_neg (by omega)]
    have hr := rd_last (H := H) (b := ⟨cs .u16 (part (fun v => 4095 - v) i f), 1, 0, false⟩) (n := 12) rfl (by simp [hml])
    have hr1 := rd_one hr hi
    rw [Nat.zero_add, hn] at hr1
    have hb := hf.row hi
    have h4095 : nth f i ≤ 4095 := by have := hb.2; simpa [okRow] using this
    have w1 : IntKind.wrap .u16 (4095 - nth f i) = 4095 - nth f i := wrapu16 (by omega)
    have hw := wr_at (n0 := H.length) (wb := false) (off := i) (vs := [.int .u16 (4095 - nth f i)]) (ver := 0) (get_last (H := H) (b := ⟨cs .u16 (part (fun v => 4095 - v) i f), 1, 0, false⟩)) rfl rfl (by simp [may]) (by simp [hml]; omega)
    have hset := part_set (f := fun v => 4095 - v) (m := i) (l := f) (by omega)
    have hsp : splice (cs .u16 (part (fun v => 4095 - v) i f)) i [.int .u16 (4095 - nth f i)] = cs .u16 (part (fun v => 4095 - v) (i + 1) f) := by
      rw [splice_one (by simp [hml]; omega), ← hset]; simp [cs, List.map_set]
    have hw' : wr H.length false (H ++ [⟨cs .u16 (part (fun v => 4095 - v) i f), 1, 0, false⟩]) H.length i 0 [.int .u16 (4095 - nth f i)] = some (H ++ [⟨cs .u16 (part (fun v => 4095 - v) (i + 1) f), 1, 0, false⟩]) := by
      rw [hw]; simp [hsp]
    simp [b201_1, h4, h1, h2, hii, hi, hr1, w1, hw', wbOf, e5]
  · rintro e _ _ h4 ⟨h1, h2, rfl⟩
    have e1 : part (fun v => 4095 - v) 12 f = invF f := part_all (by omega)
    have hr := rd_last (H := H) (b := ⟨cs .u16 (invF f), 1, 0, false⟩) (n := 12) rfl (by simp [hI])
    simp [b201_1, h4, h1, h2, e1, hr, hI, s3, agg_cs]
theorem VL.fade {l : List Int} {keep : Int} (h : VL l) (hk : 0 ≤ keep ∧ keep ≤ 8) : VL (l.map (fad keep)) :=
  ⟨by simp [h.len], List.all_eq_true.2 fun n hn => by
    obtain ⟨a, ha, rfl⟩ := List.mem_map.1 hn
    have := List.all_eq_true.1 (show l.all okL = true from h.ok) a ha
    simp [okL] at this
    have := fad_ok hk.1 hk.2 this
    simp [okL]; omega⟩
theorem fad_le {keep n : Int} (hk : 0 ≤ keep ∧ keep ≤ 8) (hn : 0 ≤ n ∧ n ≤ 1000) : fad keep n ≤ n ∧ 8 * fad keep n ≤ keep * n := by
  have h := fad_ok hk.1 hk.2 hn
  have h2 : n * keep ≤ n * 8 := Int.mul_le_mul_of_nonneg_left hk.2 hn.1
  have h3 : n * keep = keep * n := Int.mul_comm n keep
  unfold fad at *
  rw [Int.tdiv_eq_ediv_of_nonneg h.2.2.1] at *
  omega
theorem fad_8 {n : Int} (hn : 0 ≤ n ∧ n ≤ 1000) : fad 8 n = n := by
  unfold fad
  rw [Int.tdiv_eq_ediv_of_nonneg (by omega)]; omega
theorem VL.stay {l : List Int} (h : VL l) : l.map (fad 8) = l := by
  refine ext_nth (by simp) fun i hi => ?_
  have hi : i < 144 := by simpa [h.len] using hi
  rw [nth_map (by rw [h.len]; exact hi), fad_8 (h.at hi)]
theorem sum_fade {l : List Int} {keep : Int} (h : VL l) (hk : 0 ≤ keep ∧ keep ≤ 8) {k : Nat} (hk2 : k ≤ 144) : sumN (l.map (fad keep)) k ≤ sumN l k ∧ 8 * sumN (l.map (fad keep)) k ≤ keep * sumN l k := by
  induction k with
  | zero => simp [sumN]
  | succ k ih =>
    have ih := ih (by omega)
    have h1 := fad_le hk (h.at (i := k) (by omega))
    have h2 : nth (l.map (fad keep)) k = fad keep (nth l k) := nth_map (by rw [h.len]; omega)
    simp only [sumN, h2, Int.mul_add]
    omega
theorem brN_spec {l : List Int} {k : Nat} : (∀ p, p < k → nth l p ≤ nth l (brN l k) ∧ (nth l p = nth l (brN l k) → brN l k ≤ p)) ∧ (0 < k → brN l k < k) := by
  induction k with
  | zero => exact ⟨fun p hp => by omega, fun h => by omega⟩
  | succ k ih =>
    rw [brN_succ]
    split
    · rename_i h
      refine ⟨fun p hp => ?_, fun _ => by omega⟩
      by_cases hpk : p = k
      · subst hpk; exact ⟨by omega, fun _ => by omega⟩
      · have := (ih.1 p (by omega)).1
        exact ⟨by omega, fun he => by omega⟩
    · rename_i h
      refine ⟨fun p hp => ?_, fun _ => ?_⟩
      · by_cases hpk : p = k
        · subst hpk
          refine ⟨by omega, fun he => ?_⟩
          rcases Nat.eq_zero_or_pos p with h0 | h0
          · subst h0; rw [brN_zero]; exact Nat.le_refl _
          · have := ih.2 h0; omega
        · exact ih.1 p (by omega)
      · rcases Nat.eq_zero_or_pos k with h0 | h0
        · subst h0; rw [brN_zero]; omega
        · have := ih.2 h0; omega
theorem VL.lit {l f : List Int} (h : VL l) : VL (litL l f) := by
  have key : ∀ i, i < 144 → okL (nth (litL l f) i) = true := fun i hi => by
    rw [litL, nth_tabN hi]
    have := h.at hi
    split
    · unfold lum; simp [okL]; split <;> omega
    · simp [okL]; omega
  refine ⟨by simp [litL, tabN], List.all_eq_true.2 fun n hn => ?_⟩
  obtain ⟨i, hi, rfl⟩ := mem_nth hn
  exact key i (by simpa [litL, tabN] using hi)
theorem lofN_V {b : List (List Int)} {keep : Int} (hk : 0 ≤ keep ∧ keep ≤ 8) {k : Nat} : VL (lofN b keep k) := by
  induction k with
  | zero => rw [lofN, itN_zero]; exact .zero
  | succ k ih => rw [lofN, itN_succ]; exact (ih.fade hk).lit
def lvL : List Int := [0, 1, 64, 100, 1000]
/-- What was seen last. -/
def lastF (l : List Int) (k : Nat) : List Int := if k = 0 then invF (zr 12 0) else whereN (seeP l (nth lvL (k - 1))) 144
theorem seen_V {l : List Int} {v : Int} : VF (whereN (seeP l v) 144) := by rw [whereN_dots]; exact dotsV
theorem lastF_V {l : List Int} {k : Nat} : VF (lastF l k) := by
  unfold lastF
  split
  · exact invF_V .zero
  · exact seen_V
theorem lv_mono : ∀ k, k < 5 → 0 < k → nth lvL (k - 1) ≤ nth lvL k := by decide
theorem lv_ok : ∀ k, k < 5 → 0 ≤ nth lvL k ∧ nth lvL k ≤ 1000 := by decide
theorem full_dots : ∀ x, x < 12 → dotB 4095 x = true := by decide
theorem seen_less {l : List Int} {k : Nat} (hk : k < 5) : mixF lessI (whereN (seeP l (nth lvL k)) 144) (lastF l k) = zr 12 0 := by
  refine less_none seen_V lastF_V fun x y hx hy h => ?_
  unfold lastF
  split
  · have e : nth (invF (zr 12 0)) y = 4095 := by
      have : y = 0 ∨ y = 1 ∨ y = 2 ∨ y = 3 ∨ y = 4 ∨ y = 5 ∨ y = 6 ∨ y = 7 ∨ y = 8 ∨ y = 9 ∨ y = 10 ∨ y = 11 := by omega
      rcases this with rfl | rfl | rfl | rfl | rfl | rfl | rfl | rfl | rfl | rfl | rfl | rfl <;> rfl
    rw [hasF, e]; exact full_dots x hx
  · rw [whereN_dots, hasF_dots hx hy] at h ⊢
    have := lv_mono k hk (by omega)
    simp [seeP] at h ⊢
    omega
theorem g4a {a b c d : Value} : ([a, b, c, d] : List Value)[0]? = some a := rfl
theorem g4b {a b c : Value} : ([a, b, c] : List Value)[0]? = some a := rfl
theorem g4c {a b : Value} : ([a, b] : List Value)[0]? = some a := rfl
theorem g4d {a : Value} : ([a] : List Value)[0]? = some a := rfl
theorem okB_V {b : List (List Int)} (h : ∀ g ∈ b, VF g) (hn : b.length ≤ 40) : okB b = true := by
  have h1 : okFs b = true := List.all_eq_true.2 fun f hf => (h f hf).ok
  simp [okB, h1, hn]
theorem call39 {H : Heap} {x y : Value} {bs bs' : List Int} (hx : By H x bs) (hy : By H y bs') : ∃ H', Call tab false 39 [x, y] H = some (.bool true, H') := by
  refine ⟨H, Call_wp t39 (.inl rfl) rfl ?_⟩
  have c84 := call84 (pu := true) hx hy
  cases hb : decide (3000 < bs.length) || decide (3000 < bs'.length) with
  | true =>
    rw [hb] at c84
    simp [c39, k39, c84]
  | false =>
    rw [hb] at c84
    simp at hb
    obtain ⟨l, c200, V⟩ := call200 (pu := true) hx (by omega)
    obtain ⟨b, c85, Vb, hbl⟩ := call85 (pu := true) hy (by omega)
    obtain ⟨HB, hHB⟩ : ∃ HB, HB = H ++ [(⟨bkC b, 12, 0, false⟩ : Blk)] := ⟨_, rfl⟩
    have pB : Pre H HB := by rw [hHB]; exact Pre.one
    rw [← hHB] at c85
    have hbk : Bk HB (slc H.length 0 0 b.length b.length) b := by
      have hs := vl_size Vb
      refine ⟨hs, .inr ⟨_, 0, 0, b.length, rfl, Nat.le_refl _, by rw [hHB]; exact rd_last rfl (by simp [hs]), _, by rw [hHB]; exact get_last, rfl, rfl⟩⟩
    have hbw : BkW b := fun f hf => (Vb f hf).W
    obtain ⟨keep, c124, hk⟩ := call124 (pu := true) (i := 0) (n := 9) (hy.pre pB) (by omega) (by omega)
    have hk : 0 ≤ keep ∧ keep ≤ 8 := by omega
    rw [show ((0 : Nat) : Int) = 0 from rfl] at c124
    have Vd := V.fade hk
    obtain ⟨due, hdue⟩ : ∃ due, due = l.map (fad keep) := ⟨_, rfl⟩
    have hoB := okB_V Vb (by omega)
    have f1 := call74 (pu := true) (H := HB) (keep := keep) V.len V.i16
    have f2 := call73 (pu := true) (H := HB) (keep := keep) V.len V.i16
    have f3 := call74 (pu := true) (H := HB) (keep := 8) V.len V.i16
    have e1 : fadR l keep = tup [iv .i16 due, .int .i64 0] := by rw [fadR, if_pos V.ok, if_pos hk, hdue]; rfl
    have e3 : fadR l 8 = tup [iv .i16 l, .int .i64 0] := by rw [fadR, if_pos V.ok, if_pos (by omega), V.stay]; rfl
    rw [e1] at f1 f2
    rw [e3] at f3
    rw [← hdue] at Vd
    have f4 := call65 (pu := true) (H := HB) V.len V.i16
    have f5 := call65 (pu := true) (H := HB) Vd.len Vd.i16
    have e4 : sumL l = tup [.int .i64 (sumN l 144), .int .i64 0] := by rw [sumL, if_pos V.ok]
    have e5 : sumL due = tup [.int .i64 (sumN due 144), .int .i64 0] := by rw [sumL, if_pos Vd.ok]
    rw [e4] at f4
    rw [e5] at f5
    have f6 := call146 (pu := true) (keep := keep) hbk hbw (by omega)
    have f7 := call145 (pu := true) (keep := keep) hbk hbw (by omega)
    have e6 : lofR b keep = tup [iv .i16 (lofN b keep b.length), .int .i64 0] := by rw [lofR, if_pos hoB, if_pos hk]; rfl
    rw [e6] at f6 f7
    have VM := lofN_V (b := b) hk (k := b.length)
    generalize hMo : lofN b keep b.length = Mo at *
    have s1 := stc_zr (k := .i16) (n := 144) (l := l) V.len
    have s2 := stc_zr (k := .i16) (n := 144) (l := due) Vd.len
    have s3 := stc_zr (k := .i16) (n := 144) (l := Mo) VM.len
    have q1 := eqV_iv (k := .i16) V.len V.len
    have q2 := eqV_iv (k := .i16) Vd.len Vd.len
    have q3 := eqV_iv (k := .i16) VM.len VM.len
    have v1 := call63 (pu := true) (H := HB) V.len V.i16
    have v3 := call63 (pu := true) (H := HB) VM.len VM.i16
    rw [V.ok] at v1
    rw [VM.ok] at v3
    obtain ⟨g1, g2⟩ := sum_fade V hk (k := 144) (Nat.le_refl _)
    rw [← hdue] at g1 g2
    have b1 := sumN_ok V.ok (k := 144) (by rw [V.len]; exact Nat.le_refl _)
    have b2 := sumN_ok Vd.ok (k := 144) (by rw [Vd.len]; exact Nat.le_refl _)
    have b3 : 0 ≤ keep * sumN l 144 ∧ keep * sumN l 144 ≤ 8 * 144000 := mulB (A := 8) (B := 144000) hk (by omega)
    have u1 : IntKind.wrap .i64 (8 * sumN due 144) = 8 * sumN due 144 := wrap64 (by omega)
    have u2 : IntKind.wrap .i64 (keep * sumN l 144) = keep * sumN l 144 := wrap64 (by omega)
    have n1 : ¬ sumN l 144 < sumN due 144 := by omega
    have n2 : ¬ keep * sumN l 144 < 8 * sumN due 144 := by omega
    simp [c39, k39, c84, c200, zs_cs, agg_cs, V.len, s1, c85, c124, f1, Vd.len, s2, f2, f3, f4, f5, f6, VM.len, s3, f7, q1, q2, q3, u1, u2, n1, n2, v1, v3, zz144, fill]
    have hfin : ∀ {G : Heap}, Pre H G → finish H.length G [.bool true] = (.bool true, H) := fun p => by rw [finish_bool, p.take]
    refine WP_forH 23 b.length b.length rfl (by omega) (fun i e => e 5 = iv .i16 l ∧ e 6 = slc H.length 0 0 b.length b.length ∧ e 7 = .int .i64 keep ∧ e 10 = iv .i16 due ∧ e 14 = .int .i64 (sumN l 144) ∧ e 20 = iv .i16 Mo ∧ e 22 = iv .i16 (lofN b keep i)) ?_ ?_ (by simp)
      ⟨by simp, by simp, by simp, by simp, by simp, by simp, by simp [lofN_zero]⟩
    · rintro i e hi hii e4 h23 ⟨h5, h6, h7, h10, h14, h20, h22⟩
      obtain ⟨q, off, ver, ha, hr⟩ := Bk.get hbk hbw hi
      have Vi := lofN_V (b := b) hk (k := i)
      have Vn := lofN_V (b := b) hk (k := i + 1)
      have hfr := (Vb _ (at0_mem hi)).W
      have hfo := (Vb _ (at0_mem hi)).ok
      have g1 := call135 (pu := true) (H := HB) (keep := keep) Vi.len Vi.i16 hfr
      have g2 := call133 (pu := true) (H := HB) (keep := keep) Vi.len Vi.i16 hfr
      have eL : lbyR (lofN b keep i) (at0 b i) keep = tup [iv .i16 (lofN b keep (i + 1)), .int .i64 0] := by rw [lbyR, if_pos ⟨Vi.ok, hfo⟩, if_pos hk, lofN_succ]; rfl
      rw [eL] at g1 g2
      have s4 := stc_zr (k := .i16) (n := 144) (l := lofN b keep (i + 1)) Vn.len
      have s5 : stc (iv .i16 (lofN b keep i)) 0 (cs .i16 (lofN b keep (i + 1))) = some (iv .i16 (lofN b keep (i + 1))) := stc_all (by rw [Vi.len, Vn.len])
      have q4 := eqV_iv (k := .i16) Vn.len Vn.len
      have efr : fr b i = at0 b i := rfl
      rw [efr] at hr
      simp [b39_1, h23, h5, h6, h7, h10, h14, h20, h22, hbk.lenV, hii, ha, hr, hfr.len, g1, g2, zs_cs, agg_cs, Vi.len, Vn.len, s4, s5, q4, e4]
    · rintro e h23 ⟨h5, h6, h7, h10, h14, h20, h22⟩
      rw [hMo] at h22
      have br := call67 (pu := true) (H := HB) V.len V.i16
      rw [brL, if_pos V.ok] at br
      obtain ⟨bp, bl⟩ := brN_spec (l := l) (k := 144)
      have bl := bl (by omega)
      have bl2 := V.at bl
      obtain ⟨Q, hQ⟩ : ∃ Q, Q = brN l 144 := ⟨_, rfl⟩
      have eC : brC l = ((Q % 12 : Nat) : Int) := by rw [hQ]; rfl
      have eR : brR l = ((Q / 12 : Nat) : Int) := by rw [hQ]; rfl
      have eV : brV l = nth l Q := by rw [hQ]; rfl
      rw [eC, eR, eV] at br
      rw [← hQ] at bp bl bl2
      have c1 : Q % 12 < 12 := by omega
      have c2 : Q / 12 < 12 := by omega
      have c3 : Q / 12 * 12 + Q % 12 = Q := by omega
      generalize hqc : Q % 12 = qc at *
      generalize hqr : Q / 12 = qr at *
      have hVl := V.len
      have hVM := VM.len
      have hVd := Vd.len
      have nC : ¬ (qc : Int) < 0 := by omega
      have nC2 : ¬ (qc : Int) > 11 := by omega
      have nR : ¬ (qr : Int) < 0 := by omega
      have nR2 : ¬ (qr : Int) > 11 := by omega
      have nC3 : ¬ 11 < qc := by omega
      have nR3 : ¬ 11 < qr := by omega
      have w1 : IntKind.wrap .i64 (nth l Q) = nth l Q := wrap64 (by omega)
      simp (disch := omega) [b39_1, h23, h5, h6, h7, h10, h14, h20, h22, hbk.lenV, br, q3, nC, nC2, nR, nR2, nC3, nR3, at_nat c1, at_nat c2, c1, c2, c3, w1, V.len, VM.len, Vd.len, g4a, g4b, g4c, g4d]
      refine WP_forH 33 12 12 rfl (by omega) (fun y e => e 5 = iv .i16 l ∧ e 10 = iv .i16 due ∧ e 14 = .int .i64 (sumN l 144) ∧ e 28 = .int .i64 qc ∧ e 29 = .int .i64 qr ∧ e 30 = .int .i64 (nth l Q) ∧ e 32 = .int .i64 (sumN l (y * 12))) ?_ ?_ (by simp)
        ⟨by simp [h5], by simp [h10], by simp [h14], by simp, by simp, by simp, by simp [sumN]⟩
      · rintro y e hy hyy e34 h33 ⟨h5, h10, h14, h28, h29, h30, h32⟩
        simp [b39_3, h33, hyy]
        refine WP_forH 34 12 12 rfl (by omega) (fun x e => e 5 = iv .i16 l ∧ e 10 = iv .i16 due ∧ e 14 = .int .i64 (sumN l 144) ∧ e 28 = .int .i64 qc ∧ e 29 = .int .i64 qr ∧ e 30 = .int .i64 (nth l Q) ∧ e 33 = .int .i64 y ∧ e 32 = .int .i64 (sumN l (y * 12 + x))) ?_ ?_ (by simp)
          ⟨by simp [h5], by simp [h10], by simp [h14], by simp [h28], by simp [h29], by simp [h30], by simp [h33], by simp [h32]⟩
        · rintro x e hx hxx e35 h34 ⟨h5, h10, h14, h28, h29, h30, h33, h32⟩
          have hp : y * 12 + x < 144 := by omega
          obtain ⟨m1, m2⟩ := bp (y * 12 + x) hp
          have vb := V.at hp
          have sb := sumN_ok V.ok (k := y * 12 + x) (by rw [V.len]; omega)
          have sb2 := sumN_ok V.ok (k := y * 12 + x + 1) (by rw [V.len]; omega)
          have es : sumN l (y * 12 + x + 1) = sumN l (y * 12 + x) + nth l (y * 12 + x) := rfl
          have hd : nth due (y * 12 + x) ≤ nth l (y * 12 + x) := by
            rw [hdue, nth_map (by rw [V.len]; exact hp)]; exact (fad_le hk vb).1
          have w2 : IntKind.wrap .i64 (nth l (y * 12 + x)) = nth l (y * 12 + x) := wrap64 (by omega)
          have w3 : IntKind.wrap .i64 (sumN l (y * 12 + x) + nth l (y * 12 + x)) = sumN l (y * 12 + x + 1) := by rw [wrap64 (by omega), es]
          have k1 : ¬ nth l Q < nth l (y * 12 + x) := by omega
          have k2 : ¬ nth l (y * 12 + x) < nth due (y * 12 + x) := by omega
          by_cases he : nth l (y * 12 + x) = nth l Q
          · have m3 := m2 he
            have k3 : ¬ y < qr := by omega
            by_cases hyq : y = qr
            · have k4 : ¬ x < qc := by omega
              subst hyq
              have k7 : (nth l (y * 12 + x) == nth l Q) = true := by rw [beq_iff_eq]; exact he
              simp (disch := omega) [b39_2, h34, h5, h10, h14, h28, h29, h30, h33, h32, hxx, hx, hy, w2, w3, k1, k2, k7, k3, k4, skip, e35]
              exact rfl
            · have k5 : ((y : Int) == (qr : Int)) = false := by rw [beq_eq_false_iff_ne]; omega
              have k7 : (nth l (y * 12 + x) == nth l Q) = true := by rw [beq_iff_eq]; exact he
              simp (disch := omega) [b39_2, h34, h5, h10, h14, h28, h29, h30, h33, h32, hxx, hx, hy, w2, w3, k1, k2, k7, k3, k5, skip, e35]
              exact rfl
          · have k6 : (nth l (y * 12 + x) == nth l Q) = false := by rw [beq_eq_false_iff_ne]; exact he
            simp (disch := omega) [b39_2, h34, h5, h10, h14, h28, h29, h30, h33, h32, hxx, hx, hy, w2, w3, k1, k2, k6, skip, e35]
            exact rfl
        · rintro e h34 ⟨h5, h10, h14, h28, h29, h30, h33, h32⟩
          simp [b39_2, h34, h5, h10, h14, h28, h29, h30, h33, h32, e34, Nat.add_mul]
      · rintro e h33 ⟨h5, h10, h14, h28, h29, h30, h32⟩
        have iv1 := call201 (pu := true) (H := HB) VF.zero
        have iVl := (invF_V VF.zero).W.len
        have s6 := stc_zr (k := .u16) (n := 12) (l := invF (zr 12 0)) iVl
        have hf : fill (rep 5 [.int .i64 0]) [(0, 1, .int .i64 0), (1, 1, .int .i64 1), (2, 1, .int .i64 64), (3, 1, .int .i64 100), (4, 1, .int .i64 1000)] = some (cs .i64 lvL) := rfl
        obtain ⟨HL, hHL⟩ : ∃ HL, HL = HB ++ [(⟨cs .i64 lvL, 1, 0, false⟩ : Blk)] := ⟨_, rfl⟩
        have pL : Pre H HL := pB.trans (by rw [hHL]; exact Pre.one)
        have f0 : fill (cs .u16 (zr 12 0)) [] = some (cs .u16 (zr 12 0)) := rfl
        simp [b39_3, h33, h5, h10, h14, h28, h29, h30, h32, zs_cs, agg_cs, f0, iv1, iVl, s6, hf, ← hHL]
        have hlv : SlR HL (slc HB.length 0 0 5 5) 1 5 (cs .i64 lvL) := ⟨rfl, .inr ⟨_, 0, 0, 5, rfl, Nat.le_refl _, by rw [hHL]; exact rd_last rfl rfl, _, by rw [hHL]; exact get_last, rfl, rfl⟩⟩
        refine WP_forH 39 5 5 rfl (by omega) (fun i e => e 5 = iv .i16 l ∧ e 38 = slc HB.length 0 0 5 5 ∧ e 36 = iv .u16 (lastF l i)) ?_ ?_ (by simp) ⟨by simp [h5], by simp, by simp [lastF]⟩
        · rintro i e hi hii e40 h39 ⟨h5, h38, h36⟩
          obtain ⟨q, off, ver, ha, hr⟩ := hlv.get1 hi
          rw [elem_i (l := lvL) hi] at hr
          have hlo := lv_ok i hi
          have g1 := call77 (pu := true) (H := HL) (lev := nth lvL i) V.len V.i16
          have g2 := call76 (pu := true) (H := HL) (lev := nth lvL i) V.len V.i16
          have eS : seeR l (nth lvL i) = tup [iv .u16 (whereN (seeP l (nth lvL i)) 144), .int .i64 0] := by rw [seeR, if_pos V.ok, if_pos hlo]
          rw [eS] at g1 g2
          have g3 := call202 (pu := true) (H := HL) (seen_V (l := l) (v := nth lvL i)) (lastF_V (l := l) (k := i))
          rw [seen_less hi] at g3
          have eN : lastF l (i + 1) = whereN (seeP l (nth lvL i)) 144 := by rw [lastF, if_neg (by omega)]; rfl
          have lN := (seen_V (l := l) (v := nth lvL i)).W.len
          have lL := (lastF_V (l := l) (k := i)).W.len
          rw [← eN] at g1 g2 g3 lN
          have s7 := stc_zr (k := .u16) (n := 12) (l := lastF l (i + 1)) lN
          have s8 : stc (iv .u16 (lastF l i)) 0 (cs .u16 (lastF l (i + 1))) = some (iv .u16 (lastF l (i + 1))) := stc_all (by rw [lL, lN])
          have s9 := stc_zr (k := .u16) (n := 12) (l := zr 12 0) (by simp)
          have q5 := eqV_iv (k := .u16) lN lN
          have q6 := eqV_iv (k := .u16) (f := zr 12 0) (g := zr 12 0) (n := 12) (by simp) (by simp)
          simp [b39_4, h39, h5, h38, h36, hii, ha, hr, V.len, g1, g2, g3, zs_cs, agg_cs, f0, lN, lL, s7, s8, s9, q5, q6, e40]
        · rintro e h39 ⟨h5, h38, h36⟩
          simp [b39_4, h39, h38, pL.take]
end Fb
