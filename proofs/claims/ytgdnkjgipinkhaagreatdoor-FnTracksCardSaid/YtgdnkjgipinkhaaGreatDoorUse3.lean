/- What each function computes. -/
import Derived.Test.YtgdnkjgipinkhaaGreatDoorUse2
set_option linter.unusedVariables false
set_option linter.unusedSimpArgs false
namespace Fb
open Go
theorem call368 {G : Heap} {P k : Nat} (h : Src G P k) (hk : k ≤ 10000000000) : ∃ f G', Call tab false 368 [adr P 0 0] G = some (iv .u16 f, G') ∧ VF f ∧ Mv P G G' ∧ Src G' P (k + 200) := by
  have key : ∃ r, Call tab false 368 [adr P 0 0] G = some r ∧ ∃ f G', r = (iv .u16 f, G') ∧ VF f ∧ Mv P G G' ∧ Src G' P (k + 200) := by
    refine Call_ex t368 (.inl rfl) rfl ?_
    have hl := h.lt
    obtain ⟨G1, hG1⟩ : ∃ G1, G1 = G ++ [(⟨cs .u16 (zr 12 0), 1, 0, false⟩ : Blk)] := ⟨_, rfl⟩
    have hwr : wr G.length true G1 G.length 0 0 (cs .u16 (zr 12 0)) = some G1 := by
      rw [hG1, wr_last (b := ⟨cs .u16 (zr 12 0), 1, 0, false⟩) rfl rfl (Nat.le_refl _) (by simp)]
    have L1 : Loc G G1 P k (zr 12 0) := by
      have p : Pre G G1 := by rw [hG1]; exact Pre.one
      exact ⟨h.pre p, by rw [hG1]; exact get_last, .zero, by rw [hG1]; simp, fun j hj _ => p.get hj, hl⟩
    obtain ⟨x, G2, c2, hx, L2, _⟩ := L1.pick (n := 12) (by omega) (by omega)
    obtain ⟨y, G3, c3, hy, L3, _⟩ := L2.pick (n := 12) (by omega) (by omega)
    obtain ⟨N, G4, c4, hN, L4, _⟩ := L3.pick (n := 14) (by omega) (by omega)
    obtain ⟨N, rfl⟩ := Int.eq_ofNat_of_zero_le hN.1
    obtain ⟨x, rfl⟩ := Int.eq_ofNat_of_zero_le hx.1
    obtain ⟨y, rfl⟩ := Int.eq_ofNat_of_zero_le hy.1
    simp [c368, k368, fill, zs_cs, agg_cs, ← hG1, hwr, wbOf, c2, c3, c4]
    refine WK_loop (fun i e G' => e 0 = adr P 0 0 ∧ e 2 = iv .u16 (zr 12 0) ∧ e 3 = adr G.length 0 0 ∧ XY (e 4) (e 5) ∧ e 6 = .int .i64 ((N - i : Nat) : Int) ∧ ∃ f, Loc G G' P (k + 6 + i * 8) f) N ?_ (Nat.zero_le _)
      ⟨by simp, by simp, by simp, by simp; exact .mk hx hy, by simp, _, by rw [Nat.zero_mul]; exact L4⟩
    rintro i e G' _ hi ⟨h0, h2, h3, ⟨x, y, hx, hy, h4, h5⟩, h6, f, L⟩
    by_cases hiN : i = N
    · subst hiN
      rw [Nat.sub_self] at h6
      obtain ⟨b, G5, c5, m5, s5⟩ := call513 (n := 8) L.src (by omega) (by omega)
      have L5 := L.mv m5 s5
      have fin : ∀ {G6 : Heap} {g : List Int} {k' : Nat}, Loc G G6 P k' g → k' ≤ k + 200 → ∃ r, some (iv .u16 g, G6.take G.length) = some r ∧ ∃ f G', r = (iv .u16 f, G') ∧ VF f ∧ Mv P G G' ∧ Src G' P (k + 200) := fun L6 hk' =>
        ⟨_, rfl, _, _, rfl, L6.V, L6.done.1, L6.done.2.le hk'⟩
      cases b with
      | false =>
        have hr := rd_at (off := 0) (n := 12) (ver := 0) L5.fr rfl (by simp [L5.V.W.len])
        simp [take_all, L5.V.W.len] at hr
        have s3 := stc_zr (k := .u16) (n := 12) (l := f) L5.V.W.len
        simp [b368_1, h0, h2, h3, h6, c5, wbOf, hr, s3, agg_cs, L5.V.W.len]
        exact ⟨_, _, ⟨rfl, rfl⟩, _, _, ⟨rfl, rfl⟩, L5.V, L5.done.1, L5.done.2.le (by omega)⟩
      | true =>
        simp [b368_1, h0, h2, h3, h6, c5, wbOf]
        refine WP_count 7 12 12 rfl (fun j e G' => e 0 = adr P 0 0 ∧ e 2 = iv .u16 (zr 12 0) ∧ e 3 = adr G.length 0 0 ∧ ∃ f, Loc G G' P (k + 6 + i * 8 + 2 + j * 2) f) (by omega) ?_ ?_ (by simp) ⟨by simp [h0], by simp [h2], by simp [h3], _, L5⟩
        · rintro j e G' _ hj hjj e4 h7 ⟨h0, h2, h3, g, L⟩
          obtain ⟨v, G6, c6, hv, L6, hget⟩ := L.pick (n := 4096) (by omega) (by omega)
          have hr := rd_at (off := 0) (n := 12) (ver := 0) L.fr rfl (by simp [L.V.W.len])
          simp [take_all, L.V.W.len] at hr
          have hr1 := rd_one hr hj
          rw [Nat.zero_add] at hr1
          have hw := wr_at (n0 := G.length) (wb := true) (off := j) (vs := [.int .u16 (orI (nth g j) v)]) (ver := 0) L6.fr rfl rfl (by simp [may]) (by simp [L6.V.W.len]; omega)
          have hsp : splice (cs .u16 g) j [.int .u16 (orI (nth g j) v)] = cs .u16 (g.set j (orI (nth g j) v)) := by rw [splice_one (by simp [L6.V.W.len]; omega)]; simp [cs, List.map_set]
          simp only [hsp] at hw
          obtain ⟨q1, q2⟩ := L6.V.row hj
          have uv : u16' v := ⟨by omega, by omega⟩
          have L7 := L6.set (L6.V.set (i := j) (orI_ok (a := nth g j) (b := v)) (orI_row q1 uv q2 (by simp [okRow]; omega)))
          simp [b368_2, h7, h0, h2, h3, hjj, hj, hr1]
          rw [fl_step (v := .int .i64 v) (H' := G6) (by simp [apart, blkOf, adr, mods]) (by simp [h0, c6]) (by simp [stays, blkOf, adr, hget])]
          have u1 : IntKind.wrap .u16 v = v := wrapu16 (by omega)
          have e9 : bitsOf .or .u16 (nth g j) v = orI (nth g j) v := rfl
          simp [h0, h2, h3, hj, u1, e9, hw, wbOf, h7, e4]
          exact ⟨_, L7.le (by omega)⟩
        · rintro e G' _ h7 ⟨h0, h2, h3, g, L⟩
          have hr := rd_at (off := 0) (n := 12) (ver := 0) L.fr rfl (by simp [L.V.W.len])
          simp [take_all, L.V.W.len] at hr
          have s3 := stc_zr (k := .u16) (n := 12) (l := g) L.V.W.len
          simp [b368_2, h7, h0, h2, h3, wbOf, hr, s3, agg_cs, L.V.W.len]
          exact ⟨_, _, ⟨rfl, rfl⟩, _, _, ⟨rfl, rfl⟩, L.V, L.done.1, L.done.2.le (by omega)⟩
    · have hpos : 0 < N - i := by omega
      have p1 := call305 L.fr L.V.W.len hx hy
      have L5 := L.set (L.V.put hx hy)
      obtain ⟨v, G6, c6, hv, L6, _⟩ := L5.pick (n := 6) (by omega) (by omega)
      have e6 : IntKind.wrap .i64 (((N - i : Nat) : Int) - 1) = ((N - (i + 1) : Nat) : Int) := by rw [wrap64 (by omega)]; omega
      have hiN' : i < N := by omega
      have fin : ∀ {x' y' : Int} {G7 : Heap}, (0 ≤ x' ∧ x' < 12) → (0 ≤ y' ∧ y' < 12) → Loc G G7 P (k + 6 + i * 8 + 6) (putF f x y) → XY (.int .i64 x') (.int .i64 y') ∧ ∃ f, Loc G G7 P (k + 6 + (i + 1) * 8) f := fun hx' hy' L7 => ⟨.mk hx' hy', _, L7.le (by omega)⟩
      have hmod : ∀ a : Int, 0 ≤ a → a ≤ 1000 → IntKind.wrap .i64 (a.tmod 12) = a.tmod 12 ∧ 0 ≤ a.tmod 12 ∧ a.tmod 12 < 12 := fun a ha hb => by
        have h1 : a.tmod 12 = a % 12 := Int.tmod_eq_emod_of_nonneg ha
        rw [h1]
        exact ⟨wrap64 (by omega), by omega, by omega⟩
      have hv' : v = 0 ∨ v = 1 ∨ v = 2 ∨ (v ≠ 0 ∧ v ≠ 1 ∧ v ≠ 2) := by omega
      rcases hv' with rfl | rfl | rfl | ⟨v0, v1, v2⟩
      · obtain ⟨x', G7, c7, hx', L7, _⟩ := L6.pick (n := 12) (by omega) (by omega)
        obtain ⟨y', G8, c8, hy', L8, _⟩ := L7.pick (n := 12) (by omega) (by omega)
        simp [b368_1, h0, h2, h3, h4, h5, h6, hpos, p1, c6, c7, c8, e6, wbOf]
        exact ⟨hiN', fin hx' hy' (L8.le (by omega))⟩
      · obtain ⟨m1, m2⟩ := hmod ((x : Int) + 1) (by omega) (by omega)
        have e7 : IntKind.wrap .i64 ((x : Int) + 1) = (x : Int) + 1 := wrap64 (by omega)
        simp [b368_1, h0, h2, h3, h4, h5, h6, hpos, p1, c6, e6, e7, m1, wbOf]
        exact ⟨hiN', fin m2 ⟨by omega, by omega⟩ (L6.le (by omega))⟩
      · obtain ⟨m1, m2⟩ := hmod ((x : Int) + 1) (by omega) (by omega)
        have e7 : IntKind.wrap .i64 ((x : Int) + 1) = (x : Int) + 1 := wrap64 (by omega)
        simp [b368_1, h0, h2, h3, h4, h5, h6, hpos, p1, c6, e6, e7, m1, wbOf]
        exact ⟨hiN', fin m2 ⟨by omega, by omega⟩ (L6.le (by omega))⟩
      · obtain ⟨w, G7, c7, hw, L7, _⟩ := L6.pick (n := 3) (by omega) (by omega)
        obtain ⟨m1, m2⟩ := hmod ((y : Int) + w + 11) (by omega) (by omega)
        have v0 : (v == 0) = false := by simpa using v0
        have v1 : (v == 1) = false := by simpa using v1
        have v2 : (v == 2) = false := by simpa using v2
        have e7 : IntKind.wrap .i64 ((y : Int) + w) = (y : Int) + w := wrap64 (by omega)
        have e8 : IntKind.wrap .i64 ((y : Int) + w + 11) = (y : Int) + w + 11 := wrap64 (by omega)
        simp [b368_1, h0, h2, h3, h4, h5, h6, hpos, p1, c6, c7, e6, e7, e8, m1, v0, v1, v2, wbOf]
        exact ⟨hiN', fin ⟨by omega, by omega⟩ m2 (L7.le (by omega))⟩
  obtain ⟨r, hc, v, G', rfl, h⟩ := key
  exact ⟨v, G', hc, h⟩
theorem shF_V {f : List Int} {dx dy : Int} : VF (shF f dx dy) := ⟨dotsF_W, dotsF_ok⟩
structure Lo2 (G G' : Heap) (P k : Nat) (x : Value) (L : List (List Int)) (f : List Int) : Prop where
  src : Src G' P k
  ls : ∃ ver, x = slc G.length 0 ver L.length L.length ∧ G'[G.length]? = some ⟨bkC L, 12, ver, false⟩
  VL : ∀ g ∈ L, VF g
  fr : G'[G.length + 1]? = some ⟨cs .u16 f, 1, 0, false⟩
  V : VF f
  len : G.length + 2 ≤ G'.length
  get : ∀ j, j < G.length → j ≠ P → G'[j]? = G[j]?
  lt : P < G.length
theorem Lo2.mv {G G' G'' : Heap} {P k k' : Nat} {x : Value} {L : List (List Int)} {f : List Int} (h : Lo2 G G' P k x L f) (m : Mv P G' G'') (s : Src G'' P k') : Lo2 G G'' P k' x L f := by
  have := h.lt
  exact ⟨s, by obtain ⟨ver, e, g⟩ := h.ls; exact ⟨ver, e, by rw [m.get _ (by omega)]; exact g⟩, h.VL, by rw [m.get _ (by omega)]; exact h.fr, h.V, by rw [m.len]; exact h.len, fun j hj hp => by rw [m.get j hp]; exact h.get j hj hp, h.lt⟩
theorem Lo2.le {G G' : Heap} {P k k' : Nat} {x : Value} {L : List (List Int)} {f : List Int} (h : Lo2 G G' P k x L f) (hk : k ≤ k') : Lo2 G G' P k' x L f := ⟨h.src.le hk, h.ls, h.VL, h.fr, h.V, h.len, h.get, h.lt⟩
theorem Lo2.set {G G' : Heap} {P k : Nat} {x : Value} {L : List (List Int)} {f g : List Int} (h : Lo2 G G' P k x L f) (hg : VF g) : wr G.length true G' (G.length + 1) 0 0 (cs .u16 g) = some (G'.set (G.length + 1) ⟨cs .u16 g, 1, 0, false⟩) ∧ Lo2 G (G'.set (G.length + 1) ⟨cs .u16 g, 1, 0, false⟩) P k x L g := by
  have hl := h.lt
  have hlen := h.len
  have hw := wr_at (n0 := G.length) (wb := true) (off := 0) (vs := cs .u16 g) (ver := 0) h.fr rfl rfl (by simp [may]) (by simp [h.V.W.len, hg.W.len])
  have hsp : splice (cs .u16 f) 0 (cs .u16 g) = cs .u16 g := by
    unfold splice
    rw [List.take_zero, List.nil_append, Nat.zero_add, List.drop_eq_nil_of_le (by simp [h.V.W.len, hg.W.len]), List.append_nil]
  simp only [hsp] at hw
  exact ⟨hw, h.src.mv (List.getElem?_set_ne (by omega)) fun j hj => List.getElem?_set_ne (by omega), by obtain ⟨ver, e, g⟩ := h.ls; exact ⟨ver, e, by rw [List.getElem?_set_ne (by omega)]; exact g⟩, h.VL, get_set h.fr, hg, by simpa using hlen,
    fun j hj hp => by rw [List.getElem?_set_ne (by omega)]; exact h.get j hj hp, hl⟩
theorem Lo2.pick {G G' : Heap} {P k : Nat} {x : Value} {L : List (List Int)} {f : List Int} {n : Int} (h : Lo2 G G' P k x L f) (hk : k ≤ 100000000000) (hn : 1 ≤ n ∧ n ≤ 1000000) : ∃ v G'', Call tab false 459 [adr P 0 0, .int .i64 n] G' = some (.int .i64 v, G'') ∧ (0 ≤ v ∧ v < n) ∧ Lo2 G G'' P (k + 2) x L f := by
  obtain ⟨v, G'', c, hv, m, s⟩ := call459 h.src hk hn
  exact ⟨v, G'', c, hv, h.mv m s⟩
theorem Lo2.frd {G G' : Heap} {P k : Nat} {x : Value} {L : List (List Int)} {f : List Int} (h : Lo2 G G' P k x L f) : rd G' (G.length + 1) 0 0 12 = some (cs .u16 f) := by
  have hr := rd_at (off := 0) (n := 12) (ver := 0) h.fr rfl (by simp [h.V.W.len])
  simpa [take_all, h.V.W.len] using hr
theorem vl_size {L : List (List Int)} (h : ∀ g ∈ L, VF g) : (bkC L).length = L.length * 12 := bkC_length fun f hf => (h f hf).W
theorem Lo2.bk {G G' : Heap} {P k : Nat} {x : Value} {L : List (List Int)} {f : List Int} (h : Lo2 G G' P k x L f) : Bk G' x L := by
  obtain ⟨ver, rfl, g⟩ := h.ls
  have hs := vl_size h.VL
  exact ⟨hs, .inr ⟨_, 0, ver, L.length, rfl, Nat.le_refl _, by rw [rd_at g rfl (by simp [hs])]; simp [take_all, hs], _, g, rfl, rfl⟩⟩
theorem Lo2.push {G G' : Heap} {P k : Nat} {x : Value} {L : List (List Int)} {f : List Int} (h : Lo2 G G' P k x L f) (hn : L.length ≤ 1000000) :
    ∃ x' G'', ((srcOf 12 (G' ++ [⟨cs .u16 f, 12, 0, false⟩]) (slc G'.length 0 0 1 1)).bind fun q => appendTo G.length true 12 24 (G' ++ [⟨cs .u16 f, 12, 0, false⟩]) x q.1 q.2) = some (x', G'') ∧ Lo2 G G'' P k x' (L ++ [f]) f := by
  have hl := h.lt
  have hlen := h.len
  have hf := h.V.W.len
  have hs := vl_size h.VL
  have hfr := h.fr
  have hsrc := h.src
  have hget := h.get
  obtain ⟨ver, rfl, g⟩ := h.ls
  have gA : ∀ j, j < G'.length → (G' ++ [(⟨cs .u16 f, 12, 0, false⟩ : Blk)])[j]? = G'[j]? := fun j hj => List.getElem?_append_left hj
  have g' : (G' ++ [(⟨cs .u16 f, 12, 0, false⟩ : Blk)])[G.length]? = some ⟨bkC L, 12, ver, false⟩ := by rw [gA _ (by omega)]; exact g
  have e1 : srcOf 12 (G' ++ [⟨cs .u16 f, 12, 0, false⟩]) (slc G'.length 0 0 1 1) = some (1, cs .u16 f) := by
    show (rd (G' ++ [⟨cs .u16 f, 12, 0, false⟩]) G'.length 0 0 (1 * 12)).map (fun cs => (1, cs)) = _
    rw [Nat.one_mul, rd_last rfl (by simpa using hf)]; rfl
  have e2 : (L ++ [f]).length = L.length + 1 := by simp
  refine ⟨slc G.length 0 (ver + 1) (L.length + 1) (L.length + 1), (G' ++ [(⟨cs .u16 f, 12, 0, false⟩ : Blk)]).set G.length ⟨bkC L ++ cs .u16 f, 12, ver + 1, false⟩, ?_, ?_⟩
  · rw [e1, Option.bind_some]
    exact appendTo_grow g' rfl rfl (by simp [may]) rfl hs.symm (by omega) (room24 (by omega))
  · refine ⟨hsrc.mv (by rw [List.getElem?_set_ne (by omega), gA _ (by omega)]) fun j hj => by rw [List.getElem?_set_ne (by omega), gA _ (by omega)], ⟨ver + 1, by rw [e2], by rw [get_set g', bkC_push]⟩, fun g hg => ?_, by rw [List.getElem?_set_ne (by omega), gA _ (by omega)]; exact hfr, h.V, by simp; omega, fun j hj hp => by rw [List.getElem?_set_ne (by omega), gA _ (by omega)]; exact hget j hj hp, hl⟩
    rcases List.mem_append.1 hg with h1 | h1
    · exact h.VL g h1
    · rw [List.mem_singleton.1 h1]; exact h.V
theorem finish_slc' {H G : Heap} {b ver len cap : Nat} {k : Blk} (hb : H.length ≤ b) (hk : G[b]? = some k) (hv : ver = k.ver) (hr : k.ro = false) (ho : k.cells.all (old0 H.length) = true) :
    finish H.length G [slc b 0 ver len cap] = (slc H.length 0 0 len cap, G.take H.length ++ [{ k with ver := 0 }]) := by
  have hne : old1 H.length (slc b 0 ver len cap) = false := by
    show (true && decide (b < H.length)) = false
    simp; omega
  have : pack H.length G [slc b 0 ver len cap] [] [] = some ([slc H.length 0 0 len cap], [{ k with ver := 0 }]) := by
    rw [pack, if_neg (by rw [hne]; decide)]
    show (match G[b]? with
      | some k => if ([] : List Nat).contains b = false ∧ ver = k.ver ∧ k.ro = false ∧ k.cells.all (old0 H.length) = true then _ else none
      | none => none) = _
    rw [hk]
    simp only []
    rw [if_pos ⟨by simp, hv, hr, ho⟩]
    rfl
  rw [finish_some this]; rfl
theorem Lo2.done {G G' : Heap} {P k : Nat} {x : Value} {L : List (List Int)} {f : List Int} (h : Lo2 G G' P k x L f) :
    finish G.length G' [x] = (slc G.length 0 0 L.length L.length, G'.take G.length ++ [⟨bkC L, 12, 0, false⟩]) ∧ Mv P G (G'.take G.length) ∧ Src (G'.take G.length) P k := by
  have hlen := h.len
  refine ⟨?_, ⟨by simp; omega, fun j hj => ?_⟩, h.src.take h.lt⟩
  · obtain ⟨ver, rfl, g⟩ := h.ls
    rw [finish_slc' (Nat.le_refl _) g rfl rfl bkC_flat.all]
  · rw [List.getElem?_take]
    split
    · exact h.get j ‹_› hj
    · exact (List.getElem?_eq_none (by omega)).symm
theorem call314 {G : Heap} {P k : Nat} {most : Int} (h : Src G P k) (hk : k ≤ 10000000) (hm : 0 ≤ most ∧ most ≤ 100) :
    ∃ L G1, Call tab false 314 [adr P 0 0, .int .i64 most] G = some (slc G.length 0 0 L.length L.length, G1 ++ [⟨bkC L, 12, 0, false⟩]) ∧ (∀ g ∈ L, VF g) ∧ (L.length : Int) ≤ most ∧ Mv P G G1 ∧ Src G1 P (k + 30000) := by
  have key : ∃ r, Call tab false 314 [adr P 0 0, .int .i64 most] G = some r ∧ ∃ L G1, r = (slc G.length 0 0 L.length L.length, G1 ++ [⟨bkC L, 12, 0, false⟩]) ∧ (∀ g ∈ L, VF g) ∧ (L.length : Int) ≤ most ∧ Mv P G G1 ∧ Src G1 P (k + 30000) := by
    refine Call_ex t314 (.inl rfl) rfl ?_
    have hl := h.lt
    obtain ⟨G1, hG1⟩ : ∃ G1, G1 = G ++ [(⟨[], 12, 0, false⟩ : Blk)] := ⟨_, rfl⟩
    have p1 : Pre G G1 := by rw [hG1]; exact Pre.one
    obtain ⟨f, G2, c2, V, m2, s2⟩ := call368 (h.pre p1) (by omega)
    obtain ⟨G3, hG3⟩ : ∃ G3, G3 = G2 ++ [(⟨cs .u16 (zr 12 0), 1, 0, false⟩ : Blk)] := ⟨_, rfl⟩
    have l2 : G2.length = G.length + 1 := by rw [m2.len, hG1]; simp
    have g3 : ∀ j, j < G2.length → G3[j]? = G2[j]? := fun j hj => by rw [hG3, List.getElem?_append_left hj]
    have L3 : Lo2 G G3 P (k + 200) (slc G.length 0 0 0 0) [] (zr 12 0) := by
      refine ⟨s2.pre (by rw [hG3]; exact Pre.one), ⟨0, rfl, ?_⟩, fun g hg => (by cases hg), by rw [hG3, ← l2]; exact get_last, .zero, by rw [hG3]; simp; omega, fun j hj hp => ?_, hl⟩
      · rw [g3 _ (by omega), m2.get _ (by omega), hG1]; exact get_last
      · rw [g3 _ (by omega), m2.get _ hp, p1.get hj]
    obtain ⟨w3, L4⟩ := L3.set V
    have e1 : IntKind.wrap .i64 (most + 1) = most + 1 := wrap64 (by omega)
    obtain ⟨N, G5, c5, hN, L5⟩ := L4.pick (n := most + 1) (by omega) (by omega)
    obtain ⟨N, rfl⟩ := Int.eq_ofNat_of_zero_le hN.1
    have hf0 : fill (rep 0 (cs .u16 (zr 12 0))) [] = some [] := rfl
    simp [c314, k314, hf0, zs_cs, ← hG1, c2, ← hG3, wbOf, V.W.len, l2, w3, e1, c5]
    refine WK_loop (fun i e G' => e 0 = adr P 0 0 ∧ e 6 = adr (G.length + 1) 0 0 ∧ e 7 = .int .i64 ((N - i : Nat) : Int) ∧ ∃ L, L.length = i ∧ ∃ f, Lo2 G G' P (k + 202 + i * 220) (e 5) L f) N ?_ (Nat.zero_le _)
      ⟨by simp, by simp, by simp, [], rfl, f, by rw [Nat.zero_mul]; simp; exact L5⟩
    rintro i e G' _ hi ⟨h0, h6, h7, L, hL, f, Lo⟩
    obtain ⟨x, h5⟩ : ∃ x, e 5 = x := ⟨_, rfl⟩
    rw [h5] at Lo
    by_cases hiN : i = N
    · subst hiN
      rw [Nat.sub_self] at h7
      obtain ⟨d1, d2, d3⟩ := Lo.done
      simp [b314_1, h0, h6, h7, h5, d1]
      exact ⟨L, _, ⟨rfl, rfl, rfl⟩, Lo.VL, by omega, d2, d3.le (by omega)⟩
    · have hpos : 0 < N - i := by omega
      have hiN' : i < N := by omega
      have e7 : IntKind.wrap .i64 (((N - i : Nat) : Int) - 1) = ((N - (i + 1) : Nat) : Int) := by rw [wrap64 (by omega)]; omega
      obtain ⟨v, G6, c6, hv, L6⟩ := Lo.pick (n := 5) (by omega) (by omega)
      have fin : ∀ {G7 : Heap} {g : List Int}, Lo2 G G7 P (k + 202 + i * 220 + 210) x L g → ∃ x' G'', ((srcOf 12 (G7 ++ [⟨cs .u16 g, 12, 0, false⟩]) (slc G7.length 0 0 1 1)).bind fun q => appendTo G.length true 12 24 (G7 ++ [⟨cs .u16 g, 12, 0, false⟩]) x q.1 q.2) = some (x', G'') ∧
          ∃ L', L'.length = i + 1 ∧ ∃ f', Lo2 G G'' P (k + 202 + (i + 1) * 220) x' L' f' := fun L7 => by
        obtain ⟨x', G'', h1, h2⟩ := L7.push (by omega)
        exact ⟨x', G'', h1, _, by simp [hL], _, h2.le (by omega)⟩
      have hv' : v = 0 ∨ v = 1 ∨ v = 2 ∨ (v ≠ 0 ∧ v ≠ 1 ∧ v ≠ 2) := by omega
      rcases hv' with rfl | rfl | rfl | ⟨v0, v1, v2⟩
      · obtain ⟨g, G7, c7, V7, m7, s7⟩ := call368 L6.src (by omega)
        obtain ⟨w8, L8⟩ := (L6.mv m7 s7).set V7
        obtain ⟨x', G9, c9, hI⟩ := fin (L8.le (by omega))
        simp only [List.length_set] at c9
        simp [b314_1, h0, h6, h7, h5, hpos, c6, c7, V7.W.len, w8, wbOf, L8.frd, zs_cs, agg_cs, fillF V7.W.len, c9, e7]
        exact ⟨hiN', hI⟩
      · obtain ⟨x', G9, c9, hI⟩ := fin (L6.le (by omega))
        simp [b314_1, h0, h6, h7, h5, hpos, c6, wbOf, L6.frd, zs_cs, agg_cs, fillF L6.V.W.len, L6.V.W.len, c9, e7]
        exact ⟨hiN', hI⟩
      · by_cases hL0 : 0 < L.length
        · obtain ⟨w, G7, c7, hw, L7⟩ := L6.pick (n := L.length) (by omega) (by omega)
          obtain ⟨w, rfl⟩ := Int.eq_ofNat_of_zero_le hw.1
          have hwl : w < L.length := by omega
          obtain ⟨q, off, ver, ha, hr⟩ := Bk.get L7.bk (fun f hf => (L7.VL f hf).W) hwl
          have Vw := L7.VL _ (at0_mem (l := L) hwl)
          have Vw' : VF (fr L w) := Vw
          obtain ⟨w8, L8⟩ := L7.set Vw'
          obtain ⟨x', G9, c9, hI⟩ := fin (L8.le (by omega))
          simp only [List.length_set] at c9
          have hlen : lenV x = some (.int .i64 L.length) := L6.bk.lenV
          simp [b314_1, h0, h6, h7, h5, hpos, c6, hlen, hL0, c7, ha, hr, Vw'.W.len, w8, wbOf, L8.frd, zs_cs, agg_cs, fillF Vw'.W.len, c9, e7]
          exact ⟨hiN', hI⟩
        · obtain ⟨x', G9, c9, hI⟩ := fin (L6.le (by omega))
          have hlen : lenV x = some (.int .i64 L.length) := L6.bk.lenV
          simp [b314_1, h0, h6, h7, h5, hpos, c6, hlen, hL0, wbOf, L6.frd, zs_cs, agg_cs, fillF L6.V.W.len, L6.V.W.len, c9, e7]
          exact ⟨hiN', hI⟩
      · have v0 : (v == 0) = false := by simpa using v0
        have v1 : (v == 1) = false := by simpa using v1
        have v2 : (v == 2) = false := by simpa using v2
        obtain ⟨a, G7, c7, ha, L7⟩ := L6.pick (n := 3) (by omega) (by omega)
        obtain ⟨b, G8, c8, hb, L8⟩ := L7.pick (n := 3) (by omega) (by omega)
        have ea : IntKind.wrap .i64 (a - 1) = a - 1 := wrap64 (by omega)
        have eb : IntKind.wrap .i64 (b - 1) = b - 1 := wrap64 (by omega)
        have cs := call355 (pu := true) (dx := a - 1) (dy := b - 1) L8.V.W L8.frd (by omega) (by omega)
        obtain ⟨w8, L9⟩ := L8.set (shF_V (f := f) (dx := a - 1) (dy := b - 1))
        obtain ⟨x', G9, c9, hI⟩ := fin (L9.le (by omega))
        simp only [List.length_set] at c9
        have hsl : (shF f (a - 1) (b - 1)).length = 12 := shF_length
        simp [b314_1, h0, h6, h7, h5, hpos, c6, v0, v1, v2, c7, c8, ea, eb, cs, hsl, w8, wbOf, L9.frd, zs_cs, agg_cs, fillF hsl, c9, e7]
        exact ⟨hiN', hI⟩
  obtain ⟨r, hc, L, G1, rfl, h⟩ := key
  exact ⟨L, G1, hc, h⟩
/-- In a function that draws: the source, and blocks of the call's own behind. -/
structure Lo0 (G G' : Heap) (P k : Nat) : Prop where
  src : Src G' P k
  len : G.length ≤ G'.length
  get : ∀ j, j < G.length → j ≠ P → G'[j]? = G[j]?
  lt : P < G.length
theorem Lo0.mv {G G' G'' : Heap} {P k k' : Nat} (h : Lo0 G G' P k) (m : Mv P G' G'') (s : Src G'' P k') : Lo0 G G'' P k' :=
  ⟨s, by rw [m.len]; exact h.len, fun j hj hp => by rw [m.get j hp]; exact h.get j hj hp, h.lt⟩
theorem Lo0.pre {G G' G'' : Heap} {P k : Nat} (h : Lo0 G G' P k) (p : Pre G' G'') : Lo0 G G'' P k := by
  have h1 := h.len
  exact ⟨h.src.pre p, Nat.le_trans h1 p.len, fun j hj hp => by rw [p.get (by omega)]; exact h.get j hj hp, h.lt⟩
theorem Lo0.done {G G' : Heap} {P k : Nat} (h : Lo0 G G' P k) : Mv P G (G'.take G.length) ∧ Src (G'.take G.length) P k := by
  have h1 := h.len
  refine ⟨⟨by simp; omega, fun j hj => ?_⟩, h.src.take h.lt⟩
  rw [List.getElem?_take]
  split
  · exact h.get j ‹_› hj
  · exact (List.getElem?_eq_none (by omega)).symm
/-- Valid light. -/
structure VL (l : List Int) : Prop where
  len : l.length = 144
  ok : okAll l = true
theorem VL.set {l : List Int} {i : Nat} {v : Int} (h : VL l) (hv : 0 ≤ v ∧ v ≤ 1000) : VL (l.set i v) :=
  ⟨by simp [h.len], List.all_eq_true.2 fun n hn => (List.mem_or_eq_of_mem_set hn).elim (fun h1 => List.all_eq_true.1 (show l.all okL = true from h.ok) n h1) (fun e => by rw [e]; simpa [okL] using hv)⟩
theorem VL.zero : VL (zr 144 0) := ⟨by simp, by decide⟩
theorem bit_get {n : Nat} {i : Nat} (h : i < 16) : (BitVec.ofInt 16 (n : Int)).getLsbD i = n.testBit i := by
  rw [BitVec.ofInt_natCast, BitVec.getLsbD_ofNat]
  simp [h]
theorem dotB_vec {v : BitVec 16} {i : Nat} : dotB (IntKind.wrap .u16 (v.toNat : Int)) i = v.getLsbD i := by
  have := v.isLt
  rw [wrapu16 (by omega), dotB_bit]
  exact BitVec.testBit_toNat v
theorem or_dot {a b : Int} (ha : u16' a) (hb : u16' b) {i : Nat} (hi : i < 16) : dotB (orI a b) i = (dotB a i || dotB b i) := by
  obtain ⟨n, rfl⟩ := Int.eq_ofNat_of_zero_le ha.1
  obtain ⟨m, rfl⟩ := Int.eq_ofNat_of_zero_le hb.1
  rw [dotB_bit, dotB_bit, ← bit_get hi, ← bit_get hi, ← BitVec.getLsbD_or]
  exact dotB_vec
theorem xor_dot {a b : Int} (ha : u16' a) (hb : u16' b) {i : Nat} (hi : i < 16) : dotB (xorI a b) i = (dotB a i ^^ dotB b i) := by
  obtain ⟨n, rfl⟩ := Int.eq_ofNat_of_zero_le ha.1
  obtain ⟨m, rfl⟩ := Int.eq_ofNat_of_zero_le hb.1
  rw [dotB_bit, dotB_bit, ← bit_get hi, ← bit_get hi, ← BitVec.getLsbD_xor]
  exact dotB_vec
theorem less_dot {a b : Int} (ha : u16' a) (hb : u16' b) {i : Nat} (hi : i < 16) : dotB (lessI a b) i = (dotB a i && !dotB b i) := by
  obtain ⟨n, rfl⟩ := Int.eq_ofNat_of_zero_le ha.1
  obtain ⟨m, rfl⟩ := Int.eq_ofNat_of_zero_le hb.1
  have e1 : (BitVec.ofInt 16 (n : Int) &&& ~~~BitVec.ofInt 16 (m : Int)).getLsbD i = ((BitVec.ofInt 16 (n : Int)).getLsbD i && !(BitVec.ofInt 16 (m : Int)).getLsbD i) := by
    rw [BitVec.getLsbD_and, BitVec.getLsbD_not]; simp [hi]
  rw [dotB_bit, dotB_bit, ← bit_get hi, ← bit_get hi, ← e1]
  exact dotB_vec
theorem hasF_dots {p : Nat → Nat → Bool} {x y : Nat} (hx : x < 12) (hy : y < 12) : hasF (dotsF p) x y = p x y := by
  rw [hasF, dotsF_nth hy, dotB_bit, rowN_bit]; simp [hx]
theorem VF.dots {f : List Int} (h : VF f) : dotsF (hasF f) = f := by
  refine (ext_nth (by rw [dotsF_length, h.W.len]) fun y hy => ?_)
  rw [dotsF_length] at hy
  obtain ⟨n, hn, hlt⟩ := okF_row h.ok h.W hy
  rw [dotsF_nth hy, hn]
  have := rowN_eq (q := fun x => hasF f x y) (n := n) (m := 12) hlt fun x hx => by rw [hasF, hn, dotB_bit]
  rw [← this]
theorem VF.ext {f g : List Int} (hf : VF f) (hg : VF g) (h : ∀ x y, x < 12 → y < 12 → hasF f x y = hasF g x y) : f = g := by
  rw [← hf.dots, ← hg.dots]
  exact dotsF_congr h
theorem mix_or {f g : List Int} (hf : VF f) (hg : VF g) {x y : Nat} (hx : x < 12) (hy : y < 12) : hasF (mixF orI f g) x y = (hasF f x y || hasF g x y) := by
  rw [hasF, mixF, nth_tabN hy]; exact or_dot (hf.row hy).1 (hg.row hy).1 (by omega)
theorem mix_xor {f g : List Int} (hf : VF f) (hg : VF g) {x y : Nat} (hx : x < 12) (hy : y < 12) : hasF (mixF xorI f g) x y = (hasF f x y ^^ hasF g x y) := by
  rw [hasF, mixF, nth_tabN hy]; exact xor_dot (hf.row hy).1 (hg.row hy).1 (by omega)
theorem mix_less {f g : List Int} (hf : VF f) (hg : VF g) {x y : Nat} (hx : x < 12) (hy : y < 12) : hasF (mixF lessI f g) x y = (hasF f x y && !hasF g x y) := by
  rw [hasF, mixF, nth_tabN hy]; exact less_dot (hf.row hy).1 (hg.row hy).1 (by omega)
theorem mixV {op : Int → Int → Int} {f g : List Int} (hf : VF f) (hg : VF g) (h : ∀ a b, u16' a → u16' b → okRow a = true → okRow b = true → u16' (op a b) ∧ okRow (op a b) = true) : VF (mixF op f g) := by
  have key : ∀ i, i < 12 → u16' (nth (mixF op f g) i) ∧ okRow (nth (mixF op f g) i) = true := fun i hi => by
    rw [mixF, nth_tabN hi]
    exact h _ _ (hf.row hi).1 (hg.row hi).1 (hf.row hi).2 (hg.row hi).2
  exact ⟨⟨mixF_length, fun n hn => by obtain ⟨i, hi, rfl⟩ := mem_nth hn; rw [mixF_length] at hi; exact (key i hi).1⟩, okF_true mixF_length fun i hi => (key i hi).2⟩
theorem or_V {f g : List Int} (hf : VF f) (hg : VF g) : VF (mixF orI f g) := mixV hf hg fun _ _ h1 h2 h3 h4 => ⟨orI_ok, orI_row h1 h2 h3 h4⟩
theorem xor_V' {f g : List Int} (hf : VF f) (hg : VF g) : VF (mixF xorI f g) := mixV hf hg fun _ _ h1 h2 h3 h4 => ⟨xorI_ok, xorI_row h1 h2 h3 h4⟩
theorem less_V {f g : List Int} (hf : VF f) (hg : VF g) : VF (mixF lessI f g) := mixV hf hg fun _ _ h1 h2 h3 _ => ⟨lessI_ok, lessI_row h1 h3⟩
theorem hasF_zero {x y : Nat} (hx : x < 12) (hy : y < 12) : hasF (zr 12 0) x y = false := by rw [← dotsF_none, hasF_dots hx hy]
theorem less_none {f g : List Int} (hf : VF f) (hg : VF g) (h : ∀ x y, x < 12 → y < 12 → hasF f x y = true → hasF g x y = true) : mixF lessI f g = zr 12 0 :=
  (less_V hf hg).ext .zero fun x y hx hy => by
    rw [mix_less hf hg hx hy, hasF_zero hx hy]
    cases h1 : hasF f x y with
    | false => rfl
    | true => rw [h x y hx hy h1]; rfl
/-- A list of bytes in memory. -/
structure By (H : Heap) (x : Value) (bs : List Int) : Prop where
  s : SlR H x 1 bs.length (cs .u8 bs)
  b : ∀ v ∈ bs, 0 ≤ v ∧ v ≤ 255
theorem By.pre {H G : Heap} {x : Value} {bs : List Int} (p : Pre H G) (h : By H x bs) : By G x bs := ⟨h.s.pre p, h.b⟩
theorem call84 {pu : Bool} {H : Heap} {x y : Value} {bs cs : List Int} (hx : By H x bs) (hy : By H y cs) : Call tab pu 84 [x, y] H = some (.bool (decide (3000 < bs.length) || decide (3000 < cs.length)), H) := by
  refine Call_wp t84 (.inr rfl) rfl ?_
  have e2 : decide ((3000 : Int) < cs.length) = decide (3000 < cs.length) := decide_eq_decide.2 (by omega)
  by_cases h : 3000 < bs.length
  · have h' : (3000 : Int) < bs.length := by omega
    simp [c84, k84, hx.s.lenV, hy.s.lenV, h, h', skip]
  · have h' : ¬ (3000 : Int) < bs.length := by omega
    simp [c84, k84, hx.s.lenV, hy.s.lenV, h, h', e2]
theorem call124 {pu : Bool} {H : Heap} {x : Value} {bs : List Int} {i : Nat} {n : Int} (hx : By H x bs) (hi : i ≤ 1000000) (hn : 1 ≤ n ∧ n ≤ 1000000) : ∃ v, Call tab pu 124 [x, .int .i64 i, .int .i64 n] H = some (.int .i64 v, H) ∧ 0 ≤ v ∧ v < n := by
  by_cases h : i < bs.length
  · obtain ⟨q, off, ver, ha, hr⟩ := hx.s.get1 h
    rw [elem_i h] at hr
    have hb := nthI_ok hx.b h
    have h1 : (nth bs i).tmod n = nth bs i % n := Int.tmod_eq_emod_of_nonneg hb.1
    have h2 := Int.emod_nonneg (nth bs i) (show n ≠ 0 by omega)
    have h3 := Int.emod_lt_of_pos (nth bs i) (show 0 < n by omega)
    have w1 : IntKind.wrap .i64 (nth bs i) = nth bs i := wrap64 (by omega)
    have w2 : IntKind.wrap .i64 (nth bs i % n) = nth bs i % n := wrap64 (by omega)
    have hn0 : n ≠ 0 := by omega
    have hn1 : ¬ n < 1 := by omega
    have hge : ¬ bs.length ≤ i := by omega
    refine ⟨nth bs i % n, Call_wp t124 (.inr rfl) rfl ?_, h2, h3⟩
    simp [c124, k124, hx.s.lenV, hge, hn1, ha, hr, w1, hn0, h1, w2]
  · have hge : bs.length ≤ i := by omega
    refine ⟨0, Call_wp t124 (.inr rfl) rfl ?_, by omega, by omega⟩
    simp [c124, k124, hx.s.lenV, hge, skip]
theorem call85 {pu : Bool} {H : Heap} {x : Value} {bs : List Int} (hx : By H x bs) (hn : bs.length ≤ 1000000) :
    ∃ L, Call tab pu 85 [x] H = some (slc H.length 0 0 L.length L.length, H ++ [⟨bkC L, 12, 0, false⟩]) ∧ (∀ g ∈ L, VF g) ∧ L.length ≤ 7 := by
  obtain ⟨c1, s1⟩ := call315 (pu := true) hx.s hx.b hn
  obtain ⟨L, G1, c2, V, hl, m, s2⟩ := call314 (most := 7) s1 (by omega) (by omega)
  obtain ⟨H1, hH1⟩ : ∃ H1, H1 = H ++ [srB x 0 0] := ⟨_, rfl⟩
  rw [← hH1] at c1 c2 s1 m
  have p1 : Pre H H1 := by rw [hH1]; exact Pre.one
  have lH1 : H1.length = H.length + 1 := by rw [hH1]; simp
  obtain ⟨G2, hG2⟩ : ∃ G2, G2 = G1 ++ [(⟨bkC L, 12, 0, false⟩ : Blk)] := ⟨_, rfl⟩
  rw [← hG2] at c2
  have ht : G2.take H.length = H := by
    rw [hG2, List.take_append_of_le_length (by rw [m.len]; omega), m.take (Nat.le_refl _), p1.take]
  have he : elder H.length false H1 (slc H1.length 0 0 L.length L.length, G2) = some (slc H1.length 0 0 L.length L.length, G2) := elder_same (by rw [ht, p1.take])
  have hfin := finish_slc' (H := H) (G := G2) (b := H1.length) (ver := 0) (len := L.length) (cap := L.length) (k := ⟨bkC L, 12, 0, false⟩) (by omega) (by rw [hG2, ← m.len]; exact get_last) rfl rfl bkC_flat.all
  rw [ht] at hfin
  refine ⟨L, Call_wp t85 (.inr rfl) rfl ?_, V, by omega⟩
  simp [c85, k85, c1, c2, wbOf, he, hfin]
theorem okB_V {b : List (List Int)} (h : ∀ g ∈ b, VF g) (hn : b.length ≤ 40) : okB b = true := by
  have h1 : okFs b = true := List.all_eq_true.2 fun f hf => (h f hf).ok
  simp [okB, h1, hn]
/-- In a function that draws: the source, and a list of the call's own in the first new block. -/
structure LoG (G G' : Heap) (P k : Nat) (x : Value) (esz n : Nat) (vs : List Value) : Prop where
  src : Src G' P k
  ls : ∃ ver, x = slc G.length 0 ver n n ∧ G'[G.length]? = some ⟨vs, esz, ver, false⟩
  size : vs.length = n * esz
  len : G.length + 1 ≤ G'.length
  get : ∀ j, j < G.length → j ≠ P → G'[j]? = G[j]?
  lt : P < G.length
theorem LoG.mv {G G' G'' : Heap} {P k k' esz n : Nat} {x : Value} {vs : List Value} (h : LoG G G' P k x esz n vs) (m : Mv P G' G'') (s : Src G'' P k') : LoG G G'' P k' x esz n vs := by
  have := h.lt
  exact ⟨s, by obtain ⟨ver, e, g⟩ := h.ls; exact ⟨ver, e, by rw [m.get _ (by omega)]; exact g⟩, h.size, by rw [m.len]; exact h.len, fun j hj hp => by rw [m.get j hp]; exact h.get j hj hp, h.lt⟩
theorem LoG.pick {G G' : Heap} {P k esz m : Nat} {x : Value} {vs : List Value} {n : Int} (h : LoG G G' P k x esz m vs) (hk : k ≤ 100000000000) (hn : 1 ≤ n ∧ n ≤ 1000000) : ∃ v G'', Call tab false 459 [adr P 0 0, .int .i64 n] G' = some (.int .i64 v, G'') ∧ (0 ≤ v ∧ v < n) ∧ LoG G G'' P (k + 2) x esz m vs := by
  obtain ⟨v, G'', c, hv, mv, s⟩ := call459 h.src hk hn
  exact ⟨v, G'', c, hv, h.mv mv s⟩
theorem LoG.push {G G' : Heap} {P k esz n bytes : Nat} {x : Value} {vs c : List Value} (h : LoG G G' P k x esz n vs) (hc : c.length = esz) (hb : (n + 1) * bytes ≤ roomMax) :
    ∃ x' G'', ((srcOf esz (G' ++ [⟨c, esz, 0, false⟩]) (slc G'.length 0 0 1 1)).bind fun q => appendTo G.length true esz bytes (G' ++ [⟨c, esz, 0, false⟩]) x q.1 q.2) = some (x', G'') ∧ LoG G G'' P k x' esz (n + 1) (vs ++ c) := by
  have hl := h.lt
  have hlen := h.len
  have hsrc := h.src
  have hget := h.get
  have hs := h.size
  obtain ⟨ver, rfl, g⟩ := h.ls
  have gA : ∀ j, j < G'.length → (G' ++ [(⟨c, esz, 0, false⟩ : Blk)])[j]? = G'[j]? := fun j hj => List.getElem?_append_left hj
  have g' : (G' ++ [(⟨c, esz, 0, false⟩ : Blk)])[G.length]? = some ⟨vs, esz, ver, false⟩ := by rw [gA _ (by omega)]; exact g
  have e1 : srcOf esz (G' ++ [⟨c, esz, 0, false⟩]) (slc G'.length 0 0 1 1) = some (1, c) := by
    show (rd (G' ++ [⟨c, esz, 0, false⟩]) G'.length 0 0 (1 * esz)).map (fun cs => (1, cs)) = _
    rw [Nat.one_mul, rd_last rfl (by simpa using hc)]; rfl
  refine ⟨slc G.length 0 (ver + 1) (n + 1) (n + 1), (G' ++ [(⟨c, esz, 0, false⟩ : Blk)]).set G.length ⟨vs ++ c, esz, ver + 1, false⟩, ?_, ?_⟩
  · rw [e1, Option.bind_some]
    exact appendTo_grow g' rfl rfl (by simp [may]) rfl hs.symm (by omega) hb
  · exact ⟨hsrc.mv (by rw [List.getElem?_set_ne (by omega), gA _ (by omega)]) fun j hj => by rw [List.getElem?_set_ne (by omega), gA _ (by omega)], ⟨ver + 1, rfl, get_set g'⟩, by simp [hs, hc, Nat.succ_mul], by simp; omega,
      fun j hj hp => by rw [List.getElem?_set_ne (by omega), gA _ (by omega)]; exact hget j hj hp, hl⟩
theorem LoG.done {G G' : Heap} {P k esz n : Nat} {x : Value} {vs : List Value} (h : LoG G G' P k x esz n vs) (hf : NoRef vs) :
    finish G.length G' [x] = (slc G.length 0 0 n n, G'.take G.length ++ [⟨vs, esz, 0, false⟩]) ∧ Mv P G (G'.take G.length) ∧ Src (G'.take G.length) P k := by
  have hlen := h.len
  refine ⟨?_, ⟨by simp; omega, fun j hj => ?_⟩, h.src.take h.lt⟩
  · obtain ⟨ver, rfl, g⟩ := h.ls
    rw [finish_slc' (Nat.le_refl _) g rfl rfl hf.all]
  · rw [List.getElem?_take]
    split
    · exact h.get j ‹_› hj
    · exact (List.getElem?_eq_none (by omega)).symm
/-- Keys of a drawn track: all behind one another, ahead of t. -/
structure KG (ks : List Ky) (t : Int) : Prop where
  r : ∀ i, i < ks.length → (0 ≤ (ky ks i).1 ∧ (ky ks i).1 < t) ∧ (-6 ≤ (ky ks i).2.1 ∧ (ky ks i).2.1 ≤ 6) ∧ -6 ≤ (ky ks i).2.2 ∧ (ky ks i).2.2 ≤ 6
  s : ∀ i, i + 1 < ks.length → (ky ks i).1 < (ky ks (i + 1)).1
theorem ky_push {ks : List Ky} {k : Ky} {i : Nat} : ky (ks ++ [k]) i = if i < ks.length then ky ks i else if i = ks.length then k else default := by
  unfold ky at0
  rw [List.getD_eq_getElem?_getD, List.getElem?_append]
  split
  · rw [List.getD_eq_getElem?_getD]
  · rename_i h
    split
    · rename_i h2; subst h2; simp
    · rw [List.getElem?_eq_none (by simp; omega)]; rfl
theorem KG.push {ks : List Ky} {t t' a b : Int} (h : KG ks t) (ht : 0 ≤ t) (htt : t < t') (ha : -6 ≤ a ∧ a ≤ 6) (hb : -6 ≤ b ∧ b ≤ 6) : KG (ks ++ [(t, a, b)]) t' := by
  refine ⟨fun i hi => ?_, fun i hi => ?_⟩
  · have hi : i < ks.length + 1 := by simpa using hi
    rw [ky_push]
    by_cases h1 : i < ks.length
    · rw [if_pos h1]; have := h.r i h1; exact ⟨by omega, this.2⟩
    · rw [if_neg h1, if_pos (by omega)]; exact ⟨⟨ht, htt⟩, ha, hb⟩
  · have hi : i + 1 < ks.length + 1 := by simpa using hi
    rw [ky_push, ky_push, if_pos (by omega)]
    by_cases h1 : i + 1 < ks.length
    · rw [if_pos h1]; exact h.s i h1
    · rw [if_neg h1, if_pos (by omega)]; exact (h.r i (by omega)).1.2
/-- A drawn track. -/
structure DT (ks : List Ky) : Prop where
  n1 : 1 ≤ ks.length
  n5 : ks.length ≤ 5
  ok : okTk ks = true
/-- A drawn part. -/
structure DP (s : Pt) : Prop where
  f : VF s.f
  e : 0 ≤ s.e ∧ s.e ≤ 3
  ks : DT s.ks
theorem DT.W {ks : List Ky} (h : DT ks) : KyW ks := fun k hk => by
  have V := okTk_V h.ok
  obtain ⟨i, hi, rfl⟩ := List.getElem_of_mem hk
  have := V.r i hi
  have e : ky ks i = ks[i] := Option.some.inj ((at0_get hi).symm.trans (List.getElem?_eq_getElem hi))
  rw [e] at this
  exact ⟨by omega, ⟨by omega, by omega⟩, ⟨by omega, by omega⟩⟩
theorem DP.ok {s : Pt} (h : DP s) : okPt s = true := by
  have := h.e
  simp [okPt, h.f.ok, h.ks.ok, in1, this]
theorem DP.W {s : Pt} (h : DP s) : PtW s := ⟨h.f.W.ok, ⟨by have := h.e; omega, by have := h.e; omega⟩, h.ks.W⟩
theorem call323 {pu : Bool} {G : Heap} {x y : Value} {b : List (List Int)} (hx : Bk G x b) (hy : Bk G y b) (hw : ∀ f ∈ b, f.length = 12) (hn : b.length ≤ 1000000) (hbw : BkW b) : Call tab pu 323 [x, y] G = some (.bool true, G) := by
  refine Call_wp t323 (.inr rfl) rfl ?_
  simp [c323, k323, hx.lenV, hy.lenV]
  refine WP_forH 5 b.length _ rfl (by omega) (fun i e => e 0 = x ∧ e 1 = y) ?_ ?_ (by simp) (by simp)
  · rintro i e hi hii e4 h5 ⟨h0, h1⟩
    obtain ⟨q, off, ver, ha, hr⟩ := Bk.get hx hbw hi
    obtain ⟨q', off', ver', ha', hr'⟩ := Bk.get hy hbw hi
    have hl := (hbw.fr hi).len
    have q1 := eqV_iv (k := .u16) hl hl
    simp [b323_1, h5, h0, h1, hii, hx.lenV, ha, hr, ha', hr', agg_cs, q1, e4]
  · rintro e h5 ⟨h0, h1⟩
    simp [b323_1, h5, h0, hx.lenV]
theorem call91 {pu : Bool} {G : Heap} {x y : Value} {b : List (List Int)} (hx : Bk G x b) (hy : Bk G y b) (hn : b.length ≤ 1000000) (hbw : BkW b) : Call tab pu 91 [x, y] G = some (.bool true, G) := by
  refine Call_wp t91 (.inr rfl) rfl ?_
  simp [c91, k91, call323 hx hy (fun f hf => (hbw f hf).len) hn hbw]
theorem cntF_zr : cntF (zr 12 0) = 0 := by
  have h1 := cntF_ok (f := zr 12 0)
  have h2 : ∀ i, i < 12 → nth (zr 12 0) i = 0 := by decide
  have h3 : ¬ 0 < cntF (zr 12 0) := fun z => ((cntF_zero VF.zero.W VF.zero.ok).1 z) h2
  omega
def lpD (b : List (List Int)) (n i : Nat) : Int := difF (fr b (i + n - 1)) (fr b i)
/-- The best of what was visited. -/
def LpI (b : List (List Int)) (o : Lp) (S : Nat → Nat → Prop) : Prop := match o with
  | none => ∀ n i, ¬ S n i
  | some (f, c, j) => S c f ∧ j = lpD b c f ∧ ∀ n i, S n i → j ≤ lpD b n i ∧ (lpD b n i = j → n < c ∨ (n = c ∧ f ≤ i))
theorem LpI.step {b : List (List Int)} {o : Lp} {S S' : Nat → Nat → Prop} {n i : Nat} (h : LpI b o S) (hS : ∀ n' i', S' n' i' ↔ S n' i' ∨ (n' = n ∧ i' = i)) (ho : ∀ n' i', S n' i' → n < n' ∨ (n = n' ∧ i' < i)) : LpI b (stepL b n i o) S' := by
  cases o with
  | none =>
    refine ⟨(hS n i).2 (.inr ⟨rfl, rfl⟩), rfl, fun n' i' hs => ?_⟩
    rcases (hS n' i').1 hs with h1 | ⟨rfl, rfl⟩
    · exact absurd h1 (h n' i')
    · exact ⟨Int.le_refl _, fun _ => .inr ⟨rfl, Nat.le_refl _⟩⟩
  | some q =>
    obtain ⟨f, c, j⟩ := q
    obtain ⟨h1, h2, h3⟩ := h
    show LpI b (if lpD b n i < j then some (i, n, lpD b n i) else some (f, c, j)) S'
    split
    · rename_i hlt
      refine ⟨(hS n i).2 (.inr ⟨rfl, rfl⟩), rfl, fun n' i' hs => ?_⟩
      rcases (hS n' i').1 hs with h4 | ⟨rfl, rfl⟩
      · have := (h3 n' i' h4).1
        exact ⟨by omega, fun he => by omega⟩
      · exact ⟨Int.le_refl _, fun _ => .inr ⟨rfl, Nat.le_refl _⟩⟩
    · rename_i hge
      refine ⟨(hS c f).2 (.inl h1), h2, fun n' i' hs => ?_⟩
      rcases (hS n' i').1 hs with h4 | ⟨rfl, rfl⟩
      · exact h3 n' i' h4
      · refine ⟨by omega, fun _ => ?_⟩
        rcases ho c f h1 with h5 | h5
        · exact .inl h5
        · exact .inr ⟨h5.1, by omega⟩
theorem call125 {pu : Bool} {H : Heap} {a b : List Int} (ha : VF a) (hb : VF b) : Call tab pu 125 [iv .u16 a, iv .u16 b] H = some (tup [.int .i64 (difF a b), .int .i64 0], H) := by
  refine Call_wp t125 (.inr rfl) rfl ?_
  have hc := two351 (H := H) ha.W hb.W
  obtain ⟨G, hG⟩ : ∃ G, G = H ++ [(⟨bkC [a, b], 12, 0, false⟩ : Blk)] := ⟨_, rfl⟩
  have p1 : Pre H G := by rw [hG]; exact Pre.one
  rw [← hG, ha.ok, hb.ok] at hc
  have hf := fill_two ha.W.len hb.W.len
  simp [c125, k125, ha.W.len, hb.W.len, zs_cs, hf, ← hG, hc, call324 ha.W hb.W ha.ok hb.ok, p1.take]
theorem eqMvV {a : Int × Int} : eqV (.a (rb 2 (some .i8))) (agg (mvC a)) (agg (mvC a)) = some true := by
  simp [eqV, agg, mvC, rb, eqCells]
theorem call131 {pu : Bool} {G : Heap} {x y : Value} {l : ML} (hx : SlR G x 2 l.length (mvsC l)) (hy : SlR G y 2 l.length (mvsC l)) (hn : l.length ≤ 1000000) : Call tab pu 131 [x, y] G = some (.bool true, G) := by
  refine Call_wp t131 (.inr rfl) rfl ?_
  simp [c131, k131, hx.lenV, hy.lenV]
  refine WP_forH 5 l.length _ rfl (by omega) (fun i e => e 0 = x ∧ e 1 = y) ?_ ?_ (by simp) (by simp)
  · rintro i e hi hii e4 h5 ⟨h0, h1⟩
    obtain ⟨q, off, ver, ha, hr⟩ := hx.get1 hi
    obtain ⟨q', off', ver', ha', hr'⟩ := hy.get1 hi
    rw [mvsC_elem hi] at hr hr'
    have q1 := eqMvV (a := mv l i)
    simp only [mvC] at hr hr' q1
    simp [b131_1, h5, h0, h1, hii, hx.lenV, ha, hr, ha', hr', q1, e4]
  · rintro e h5 ⟨h0, h1⟩
    simp [b131_1, h5, h0, hx.lenV]
theorem call132 {pu : Bool} {H : Heap} {f : List Int} {dx dy : Int} (hf : VF f) (hx : -12 ≤ dx ∧ dx ≤ 12) (hy : -12 ≤ dy ∧ dy ≤ 12) : Call tab pu 132 [iv .u16 f, .int .i64 dx, .int .i64 dy] H = some (tup [iv .u16 (shF f dx dy), .int .i64 0], H) := by
  have c1 : ∀ pu, Call tab pu 357 [iv .u16 f, .int .i64 dx, .int .i64 dy] H = some (.int .i64 0, H) := fun pu => by
    refine Call_wp t357 (.inr rfl) rfl ?_
    simp [c357, k357, hf.W.len, call234 hf.W.len, hf.ok, call295, hx, hy]
  refine Call_wp t132 (.inr rfl) rfl ?_
  have c2 := call358 (pu := true) (H := H) (dx := dx) (dy := dy) hf.W hf.ok (by omega) (by omega)
  have s3 := stc_zr (k := .u16) (n := 12) (l := shF f dx dy) shF_length
  simp [c132, k132, hf.W.len, c1, c2, zs_cs, agg_cs, shF_length, s3]
/-- What is left of a text behind some of its parts. -/
def tailC : Nat → Cd → Cd
  | 0, c => c
  | n + 1, .seq _ b => tailC n b
  | _, c => c
/-- What ends a law well. -/
def QL (n0 : Nat) (H : Heap) : Ex → Env → Heap → Prop := fun x e' H' => (∀ i, x ≠ .exit i) ∧ (resVs e' H' [.t 4]).map (finish n0 H') = some (.bool true, H)
structure C1 (G : Heap) (x cx l1 l2 l3 : Value) (b c : List (List Int)) (frm : Nat) : Prop where
  bk : Bk G x b
  ck : Bk G cx c
  Vb : ∀ f ∈ b, VF f
  nb : b.length ≤ 1000
  c1 : 1 ≤ c.length
  cb : frm + c.length ≤ b.length
  sub : ∀ i, i < c.length → fr c i = fr b (frm + i)
  s1 : SlR G l1 1 (mcK b c 0 (mcN b c)).1.length (cs .i64 (mcK b c 0 (mcN b c)).1)
  s2 : SlR G l2 1 (mcK b c 1 (mcN b c)).1.length (cs .i64 (mcK b c 1 (mcN b c)).1)
  s3 : SlR G l3 2 (mcK b c 1 (mcN b c)).1.length (mvsC (mcK b c 1 (mcN b c)).2)
theorem C1.V {G : Heap} {x cx l1 l2 l3 : Value} {b c : List (List Int)} {frm : Nat} (h : C1 G x cx l1 l2 l3 b c frm) {i : Nat} (hi : i < c.length) : VF (fr c i) := by
  rw [h.sub i hi]
  have := h.cb
  exact h.Vb _ (at0_mem (by omega))
theorem bkC_split {lo : Nat} : ∀ {b : List (List Int)}, (∀ f ∈ b, VF f) → (bkC b).drop (lo * 12) = bkC (b.drop lo) ∧ (bkC b).take (lo * 12) = bkC (b.take lo) := by
  induction lo with
  | zero => intro b _; simp [bkC, rowsC]
  | succ lo ih =>
    intro b hb
    cases b with
    | nil => simp [bkC, rowsC]
    | cons f b =>
      have hf := (hb f (List.mem_cons_self)).W.len
      obtain ⟨h1, h2⟩ := ih (b := b) fun g hg => hb g (List.mem_cons_of_mem _ hg)
      have e : bkC (f :: b) = cs .u16 f ++ bkC b := rfl
      have l : (cs .u16 f).length = 12 := by simp [hf]
      rw [e, Nat.succ_mul, Nat.add_comm (lo * 12) 12]
      constructor
      · rw [← List.drop_drop, List.drop_left' l, h1]; rfl
      · have t := List.take_length_add_append (l₁ := cs .u16 f) (l₂ := bkC b) (lo * 12)
        rw [l] at t
        rw [t, h2]
        rfl
/-- What the walk knows all along. -/
structure K17 (H G : Heap) (x y : Value) (b : List (List Int)) (bs : List Int) (tw : Bool) (pv : Int) : Prop where
  P : Pre H G
  by' : By G y bs
  bk : Bk G x b
  V : ∀ f ∈ b, VF f
  nb : b.length ≤ 40
  tw' : tw = true → ∃ L, b = L ++ L
  pv' : 1 ≤ b.length → pv = findN (perP b) (b.length + 1)
theorem K17.pre {H G G' : Heap} {x y : Value} {b : List (List Int)} {bs : List Int} {tw : Bool} {pv : Int} (h : K17 H G x y b bs tw pv) (p : Pre G G') : K17 H G' x y b bs tw pv := ⟨h.P.trans p, h.by'.pre p, h.bk.pre p, h.V, h.nb, h.tw', h.pv'⟩
/-- A text with another one behind some of its parts. -/
def headC : Nat → Cd → Cd → Cd
  | 0, _, t => t
  | n + 1, .seq a b, t => .seq a (headC n b t)
  | _, c, _ => c
theorem Gr.pr {H G : Heap} {x : Value} {esz n : Nat} {vs : List Value} (g : Gr H G x esz n vs) : Pre H G := by
  obtain ⟨_, _, _, _, _, _, h⟩ := g; exact h
def mvCc (dx dy : Int) : Int := if (in1 dx (-12) 12 && in1 dy (-12) 12) = true then 0 else 2
theorem call373 {pu : Bool} {H : Heap} {b off ver : Nat} {f : List Int} {dx dy : Int} (hl : f.length = 12) (hr : rd H b off ver 12 = some (cs .u16 f)) (hk : okF f = true) :
    Call tab pu 373 [adr b off ver, .int .i64 dx, .int .i64 dy] H = some (.int .i64 (mvCc dx dy), H) := by
  refine Call_wp t373 (.inr rfl) rfl ?_
  have c1 := call359 (pu := true) hl hr
  rw [hk] at c1
  cases k1 : in1 dx (-12) 12 with
  | false => simp [c373, k373, c1, in304, k1, skip, mvCc]
  | true =>
    cases k2 : in1 dy (-12) 12 with
    | false => simp [c373, k373, c1, in304, k1, k2, mvCc]
    | true => simp [c373, k373, c1, in304, k1, k2, mvCc]
theorem LoG.app {G G' L : Heap} {P k esz n : Nat} {x : Value} {vs : List Value} (h : LoG G G' P k x esz n vs) : LoG G (G' ++ L) P k x esz n vs := by
  have hl := h.lt
  have hlen := h.len
  have g : ∀ j, j < G'.length → (G' ++ L)[j]? = G'[j]? := fun j hj => List.getElem?_append_left hj
  exact ⟨h.src.pre ⟨L, rfl⟩, by obtain ⟨ver, e, q⟩ := h.ls; exact ⟨ver, e, by rw [g _ (by omega)]; exact q⟩, h.size, by simp; omega, fun j hj hp => by rw [g _ (by omega)]; exact h.get j hj hp, hl⟩
/-- A drawn layer. -/
structure DLy (s : Ly) : Prop where
  W : LyW s
  ok : okLy s = true
  bx : -3 ≤ s.x ∧ s.x ≤ 3
  bz : -3 ≤ s.y ∧ s.y ≤ 3
  bd : 0 ≤ s.d ∧ s.d ≤ 8
theorem DLy.of {f g : List Int} {x y d : Int} (hf : VF f) (hg : VF g) (hx : -3 ≤ x ∧ x ≤ 3) (hy : -3 ≤ y ∧ y ≤ 3) (hd : 0 ≤ d ∧ d ≤ 8) : DLy ⟨f ++ mixF orI f g, x, y, d⟩ := by
  have V := or_V hf hg
  have e1 : inkL ⟨f ++ mixF orI f g, x, y, d⟩ = f := (join_sub hf.W.len V.W.len).1
  have e2 : mskL ⟨f ++ mixF orI f g, x, y, d⟩ = mixF orI f g := (join_sub hf.W.len V.W.len).2
  refine ⟨⟨by simp [hf.W.len, V.W.len], fun n hn => ?_, ⟨by simp only []; omega, by simp only []; omega⟩, ⟨by simp only []; omega, by simp only []; omega⟩, ⟨by simp only []; omega, by simp only []; omega⟩⟩, ?_, hx, hy, hd⟩
  · rcases List.mem_append.1 hn with h | h
    · exact hf.W.ok n h
    · exact V.W.ok n h
  · unfold okLy okCel
    rw [e1, e2, hf.ok, V.ok, less_none hf V fun u v hu hv h => by rw [mix_or hf hg hu hv, h]; rfl]
    simp [in1]; omega
/-- Side by side. -/
def Adj (u v u' v' : Nat) : Prop := (v = v' ∧ (u = u' + 1 ∨ u' = u + 1)) ∨ (u = u' ∧ (v = v' + 1 ∨ v' = v + 1))
theorem Adj.symm {u v u' v' : Nat} (h : Adj u v u' v') : Adj u' v' u v := by unfold Adj at *; omega
def Dot (f : List Int) (u v : Nat) : Prop := u < 12 ∧ v < 12 ∧ hasF f u v = true
/-- What hangs together. -/
inductive Conn (f : List Int) (x y : Nat) : Nat → Nat → Prop
  | base (h : Dot f x y) : Conn f x y x y
  | step {u v u' v' : Nat} (h : Conn f x y u v) (ha : Adj u' v' u v) (hd : Dot f u' v') : Conn f x y u' v'
theorem Conn.dot {f : List Int} {x y u v : Nat} (h : Conn f x y u v) : Dot f u v := by cases h <;> assumption
theorem Conn.trans {f : List Int} {x y u v a b : Nat} (h : Conn f x y u v) (h2 : Conn f u v a b) : Conn f x y a b := by
  induction h2 with
  | base _ => exact h
  | step _ ha hd ih => exact .step ih ha hd
theorem Conn.symm {f : List Int} {x y u v : Nat} (h : Conn f x y u v) : Conn f u v x y := by
  induction h with
  | base h => exact .base h
  | step h1 ha hd ih => exact Conn.trans (.step (.base hd) ha.symm h1.dot) ih
def isDig (c : UInt8) : Bool := decide (48 ≤ c.toNat ∧ c.toNat ≤ 57)
def dval (acc : Nat) : List UInt8 → Nat
  | [] => acc
  | c :: r => dval (acc * 10 + (c.toNat - 48)) r
theorem dval_snoc {d : UInt8} : ∀ (l : List UInt8) (acc : Nat), dval acc (l ++ [d]) = dval acc l * 10 + (d.toNat - 48)
  | [], _ => rfl
  | c :: r, acc => dval_snoc r _
theorem dval_le : ∀ (l : List UInt8) (acc : Nat), acc ≤ dval acc l
  | [], _ => Nat.le_refl _
  | c :: r, acc => Nat.le_trans (by omega) (dval_le r (acc * 10 + (c.toNat - 48)))
theorem ofNat_dig {d : Nat} (h : d < 10) : (UInt8.ofNat (48 + d)).toNat = 48 + d := by
  rw [UInt8.toNat_ofNat']
  exact Nat.mod_eq_of_lt (by omega)
theorem dec_small {n : Nat} (h : n < 10) : Lib.decDigits n = [UInt8.ofNat (48 + n)] := by rw [Lib.decDigits, dif_pos h]
theorem dec_big {n : Nat} (h : ¬ n < 10) : Lib.decDigits n = Lib.decDigits (n / 10) ++ [UInt8.ofNat (48 + n % 10)] := by rw [Lib.decDigits, dif_neg h]
theorem dec_val (n : Nat) : dval 0 (Lib.decDigits n) = n := by
  induction n using Nat.strongRecOn with
  | _ n ih =>
    by_cases h : n < 10
    · rw [dec_small h]
      show 0 * 10 + ((UInt8.ofNat (48 + n)).toNat - 48) = n
      rw [ofNat_dig h]; omega
    · rw [dec_big h, dval_snoc, ih _ (by omega), ofNat_dig (by omega)]; omega
theorem dec_dig (n : Nat) : ∀ c ∈ Lib.decDigits n, isDig c = true := by
  induction n using Nat.strongRecOn with
  | _ n ih =>
    by_cases h : n < 10
    · rw [dec_small h]
      intro c hc
      rw [List.mem_singleton.1 hc]
      unfold isDig
      rw [ofNat_dig h]; simp; omega
    · rw [dec_big h]
      intro c hc
      rcases List.mem_append.1 hc with hc | hc
      · exact ih _ (by omega) c hc
      · rw [List.mem_singleton.1 hc]
        unfold isDig
        rw [ofNat_dig (by omega)]; simp; omega
theorem dec_ne (n : Nat) : Lib.decDigits n ≠ [] := by
  by_cases h : n < 10
  · rw [dec_small h]; simp
  · rw [dec_big h]; simp
/-- No zero ahead. -/
theorem dec_head {n : Nat} (hn : n ≠ 0) : ∃ c r, Lib.decDigits n = c :: r ∧ c.toNat ≠ 48 := by
  induction n using Nat.strongRecOn with
  | _ n ih =>
    by_cases h : n < 10
    · rw [dec_small h]
      exact ⟨_, _, rfl, by rw [ofNat_dig h]; omega⟩
    · obtain ⟨c, r, h1, h2⟩ := ih (n / 10) (by omega) (by omega)
      rw [dec_big h, h1]
      exact ⟨c, _, rfl, h2⟩
/-- A numeral: digits, and no zero ahead of others. -/
def okNum (l : List UInt8) : Prop := l ≠ [] ∧ (∀ c ∈ l, isDig c = true) ∧ ((∃ r, l = 48 :: r) → l = [48])
theorem okNum_dec (n : Nat) : okNum (Lib.decDigits n) := by
  refine ⟨dec_ne n, dec_dig n, fun ⟨r, h⟩ => ?_⟩
  by_cases hn : n = 0
  · subst hn; rw [dec_small (by decide)]; rfl
  · obtain ⟨c, r', h1, h2⟩ := dec_head hn
    rw [h1] at h
    cases h
    exact absurd rfl h2
theorem parseM {M : Nat} (hM : M < 18446744073709551616) : ∀ (l : List UInt8) (acc : Nat), (∀ c ∈ l, isDig c = true) → dval acc l ≤ M → Lib.parseUintM M acc l = .ok (dval acc l)
  | [], _, _, _ => rfl
  | c :: r, acc, hd, hm => by
    have h0 : 48 ≤ c.toNat ∧ c.toNat ≤ 57 := by have := hd c (by simp); unfold isDig at this; simpa using this
    have h1 := dval_le r (acc * 10 + (c.toNat - 48))
    have h2 : dval acc (c :: r) = dval (acc * 10 + (c.toNat - 48)) r := rfl
    rw [Lib.parseUintM, if_pos h0, if_neg (by omega), if_neg (by omega), h2]
    exact parseM hM r _ (fun c hc => hd c (by simp [hc])) (by omega)
theorem parse_dec {n : Nat} (hn : n < 9223372036854775808) : Lib.parseIntB 64 (Lib.decDigits n) = .ok (n : Int) ∧ (n ≠ 0 → Lib.parseIntB 64 (45 :: Lib.decDigits n) = .ok (-(n : Int))) := by
  obtain ⟨h1, h2, _⟩ := okNum_dec n
  have hp : Lib.parseUintB 64 (Lib.decDigits n) = .ok n := by
    unfold Lib.parseUintB
    rw [if_neg h1, parseM (by decide) _ _ h2 (by rw [dec_val]; omega), dec_val]
  constructor
  · cases hd : Lib.decDigits n with
    | nil => exact absurd hd h1
    | cons c r =>
      have h0 : 48 ≤ c.toNat ∧ c.toNat ≤ 57 := by have := h2 c (by rw [hd]; simp); unfold isDig at this; simpa using this
      rw [hd] at hp
      unfold Lib.parseIntB
      dsimp only
      rw [if_neg (by omega), hp]
      dsimp only
      rw [if_neg (by rintro ⟨_, h⟩; omega), if_neg (by rintro ⟨h, _⟩; omega), if_neg (by omega)]
  · intro hne
    unfold Lib.parseIntB
    dsimp only
    rw [if_pos (by decide), hp]
    dsimp only
    rw [if_neg (by rintro ⟨h, _⟩; exact h (by decide)), if_neg (by rintro ⟨_, h⟩; omega), if_pos (by decide)]
theorem parse_itoa {v : Int} (h1 : -9223372036854775808 < v) (h2 : v ≤ 9223372036854775807) : Lib.parseIntB 64 (Lib.itoa v) = .ok v := by
  unfold Lib.itoa
  split
  · rename_i h
    rw [(parse_dec (n := v.natAbs) (by omega)).2 (by omega)]
    congr 1; omega
  · rename_i h
    rw [(parse_dec (n := v.toNat) (by omega)).1]
    congr 1; omega
/-- A numeral in its plain form, between two bounds. -/
def rdIn (l : List UInt8) (lo hi : Int) : Option Int := match Lib.parseIntB 64 l with
  | .ok v => if (lo ≤ v ∧ v ≤ hi) ∧ Lib.itoa v = l then some v else none
  | _ => none
theorem rdIn_iff {l : List UInt8} {lo hi v : Int} (h1 : -9223372036854775808 < lo) (h2 : hi ≤ 9223372036854775807) : rdIn l lo hi = some v ↔ l = Lib.itoa v ∧ lo ≤ v ∧ v ≤ hi := by
  unfold rdIn
  constructor
  · intro h
    split at h
    · split at h
      · rename_i hc
        cases h
        exact ⟨hc.2.symm, hc.1⟩
      · cases h
    · cases h
  · rintro ⟨rfl, h3, h4⟩
    rw [parse_itoa (by omega) (by omega)]
    dsimp only
    rw [if_pos ⟨⟨h3, h4⟩, rfl⟩]
@[simp] theorem str_size {l : List UInt8} : (⟨l.toArray⟩ : ByteArray).size = l.length := by rw [Lib.size_eq]
@[simp] theorem lensV_s {l : List UInt8} : lensV (str l) = some (.int .i64 l.length) := by unfold str; simp
theorem eqV_s {a b : List UInt8} : eqV .s (str a) (str b) = some (decide (a = b)) := by
  show some ((⟨a.toArray⟩ : ByteArray).toList == (⟨b.toArray⟩ : ByteArray).toList) = _
  rw [Lib.toList_data, Lib.toList_data]
  show some (a == b) = _
  by_cases h : a = b
  · simp [h]
  · simp [h]
@[simp] theorem eqV_s0 {a : List UInt8} : eqV .s (str a) (.string ⟨#[]⟩) = some (decide (a = [])) := eqV_s (b := [])
theorem add_s {a b : List UInt8} (h : a.length + b.length ≤ 9223372036854775807) : binop .add (str a) (str b) = some (str (a ++ b)) := by
  show (if (((⟨a.toArray⟩ : ByteArray).size + (⟨b.toArray⟩ : ByteArray).size : Nat) : Int) > IntKind.i64.max then none else some (Value.string (⟨a.toArray⟩ ++ ⟨b.toArray⟩))) = _
  rw [str_size, str_size, if_neg (by have : IntKind.i64.max = 9223372036854775807 := by decide
                                     omega)]
  unfold str
  congr 2
@[simp] theorem old0_s {n0 : Nat} {l : List UInt8} : old0 n0 (str l) = true := rfl
@[simp] theorem old1_s {n0 : Nat} {l : List UInt8} : old1 n0 (str l) = true := rfl
@[simp] theorem finish_s {n0 : Nat} {H' : Heap} {l : List UInt8} : finish n0 H' [str l] = (str l, H'.take n0) := finish_1 rfl
@[simp] theorem cellsOf_s {l : List UInt8} : cellsOf (str l) = [str l] := rfl
@[simp] theorem eqV_in : eqV .i .nilIface .nilIface = some true := rfl
@[simp] theorem eqV_is {t : TypeId} {v : Value} : eqV .i (.iface t v) .nilIface = some false := rfl
theorem call522 {pu : Bool} {n : Int} {H : Heap} (h1 : -9223372036854775808 ≤ n) (h2 : n ≤ 9223372036854775807) : Call tab pu 522 [.int .i64 n, .int .i64 10] H = some (str (Lib.itoa n), H) := by
  rw [Call_ext t522 (.inr rfl)]
  show (if -9223372036854775808 ≤ n ∧ n ≤ 9223372036854775807 then some (str (Lib.itoa n), H) else none) = _
  rw [if_pos ⟨h1, h2⟩]
theorem call379 {pu : Bool} {n : Int} {H : Heap} (h1 : -9223372036854775808 ≤ n) (h2 : n ≤ 9223372036854775807) : Call tab pu 379 [.int .i64 n] H = some (str (Lib.itoa n), H) := by
  refine Call_wp t379 (.inr rfl) rfl ?_
  simp [c379, k379, call522 h1 h2]
theorem call485 {pu : Bool} {l : List UInt8} {c : UInt8} {H : Heap} (h : l.length ≤ 1000000) : Call tab pu 485 [str l, .string ⟨#[c]⟩] H = some (slc H.length 0 0 (spl c [] l).length (spl c [] l).length, H ++ [⟨(spl c [] l).map str, 1, 0, false⟩]) := by
  rw [Call_ext t485 (.inr rfl)]
  show (if (⟨l.toArray⟩ : ByteArray).size ≤ strMax ∧ (⟨#[c]⟩ : ByteArray).size = 1 then _ else _) = _
  rw [if_pos ⟨by rw [str_size]; exact h, rfl⟩]
  simp
theorem call377 {pu : Bool} {l : List UInt8} {c : UInt8} {H : Heap} (h : l.length ≤ 1000000) : Call tab pu 377 [str l, .string ⟨#[c]⟩] H = some (tup [str (cutc c l).1, str (cutc c l).2.1, .bool (cutc c l).2.2], H) := by
  rw [Call_ext t377 (.inr rfl)]
  show (if (⟨l.toArray⟩ : ByteArray).size ≤ strMax ∧ (⟨#[c]⟩ : ByteArray).size = 1 then _ else _) = _
  rw [if_pos ⟨by rw [str_size]; exact h, rfl⟩]
  simp
theorem call521 {pu : Bool} {l : List UInt8} {H : Heap} (h : l.length ≤ 1000000) : Call tab pu 521 [str l, .int .i64 10, .int .i64 64] H =
    some (match Lib.parseIntB 64 l with
      | .ok v => tup [.int .i64 v, .nilIface]
      | .range => tup [.int .i64 (Lib.intSat 64 l), .iface 0 .nilIface]
      | _ => tup [.int .i64 0, .iface 0 .nilIface], H) := by
  rw [Call_ext t521 (.inr rfl)]
  show (if (⟨l.toArray⟩ : ByteArray).size ≤ strMax then _ else _) = _
  rw [if_pos (by rw [str_size]; exact h)]
  show (match Lib.parseIntB 64 l.toArray.toList with
      | .ok v => some (tup [.int .i64 v, .nilIface], H)
      | .range => some (tup [.int .i64 (Lib.intSat 64 l.toArray.toList), .iface 0 .nilIface], H)
      | _ => some (tup [.int .i64 0, .iface 0 .nilIface], H)) = _
  rw [List.toList_toArray]
  cases Lib.parseIntB 64 l <;> rfl
/-- A decimal is read. -/
theorem call378 {pu : Bool} {l : List UInt8} {lo hi : Int} {H : Heap} (h : l.length ≤ 1000000) (h1 : -9223372036854775808 < lo) (h2 : hi ≤ 9223372036854775807) :
    ∃ v, Call tab pu 378 [str l, .int .i64 lo, .int .i64 hi] H = some (tup [.int .i64 v, .bool (rdIn l lo hi).isSome], H) ∧ ∀ u, rdIn l lo hi = some u → v = u := by
  have h5 := call521 (pu := false) (H := H) h
  rcases hp : Lib.parseIntB 64 l with v | _ | _
  · refine ⟨v, Call_wp t378 (.inr rfl) rfl ?_, fun u hu => ?_⟩
    · rw [hp] at h5
      dsimp only at h5
      by_cases hc : lo ≤ v ∧ v ≤ hi
      · have h6 := call379 (pu := true) (n := v) (H := H) (by omega) (by omega)
        have e : (rdIn l lo hi).isSome = decide (Lib.itoa v = l) := by
          unfold rdIn
          rw [hp]
          dsimp only
          by_cases hi : Lib.itoa v = l
          · rw [if_pos ⟨hc, hi⟩]; simp [hi]
          · rw [if_neg (fun h => hi h.2)]; simp [hi]
        simp [c378, k378, h5, call295, hc, h6, eqV_s, e, skip]
      · have e : (rdIn l lo hi).isSome = false := by
          unfold rdIn
          rw [hp]
          dsimp only
          rw [if_neg (fun h => hc h.1)]; rfl
        have hc' : decide (lo ≤ v ∧ v ≤ hi) = false := decide_eq_false hc
        simp [c378, k378, h5, call295, hc', e, skip]
    · unfold rdIn at hu
      rw [hp] at hu
      dsimp only at hu
      split at hu
      · cases hu; rfl
      · cases hu
  · refine ⟨0, Call_wp t378 (.inr rfl) rfl ?_, fun u hu => ?_⟩
    · have e : (rdIn l lo hi).isSome = false := by unfold rdIn; rw [hp]; rfl
      rw [hp] at h5
      simp [c378, k378, h5, e, skip]
    · unfold rdIn at hu
      rw [hp] at hu
      cases hu
  · refine ⟨Lib.intSat 64 l, Call_wp t378 (.inr rfl) rfl ?_, fun u hu => ?_⟩
    · have e : (rdIn l lo hi).isSome = false := by unfold rdIn; rw [hp]; rfl
      rw [hp] at h5
      simp [c378, k378, h5, e, skip]
    · unfold rdIn at hu
      rw [hp] at hu
      cases hu
theorem spl_len (c : UInt8) : ∀ (l cur : List UInt8), ∀ p ∈ spl c cur l, p.length ≤ cur.length + l.length
  | [], cur, p, hp => by
    have : p = cur := by simpa [spl] using hp
    subst this; simp
  | x :: r, cur, p, hp => by
    rw [spl] at hp
    split at hp
    · rcases List.mem_cons.1 hp with h | h
      · subst h; simp
      · have := spl_len c r [] p h
        simp at this ⊢; omega
    · have := spl_len c r _ p hp
      simp at this ⊢; omega
theorem spl_count (c : UInt8) : ∀ (l cur : List UInt8), (spl c cur l).length ≤ l.length + 1
  | [], cur => by simp [spl]
  | x :: r, cur => by
    rw [spl]
    split
    · have := spl_count c r []
      simp; omega
    · have := spl_count c r (cur ++ [x])
      simp; omega
/-- The words of a text. -/
def wordsL (l : List UInt8) : List (List UInt8) := if l = [] then [] else spl 32 [] l
theorem strs_ref {l : List (List UInt8)} : NoRef (l.map str) := fun v hv => by
  obtain ⟨s, _, rfl⟩ := List.mem_map.1 hv
  exact fun n => rfl
theorem call376 {pu : Bool} {l : List UInt8} {H : Heap} (h : l.length ≤ 1000000) : ∃ x L, Call tab pu 376 [str l] H = some (x, H ++ L) ∧ SlR (H ++ L) x 1 (wordsL l).length ((wordsL l).map str) := by
  by_cases h0 : l = []
  · refine ⟨.slice none 0 0, [], Call_wp t376 (.inr rfl) rfl ?_, ?_⟩
    · subst h0
      simp [c376, k376]
    · subst h0
      exact .of rfl (.inl ⟨rfl, rfl⟩)
  · have hg : Gr H (H ++ [⟨(spl 32 [] l).map str, 1, 0, false⟩]) (slc H.length 0 0 (spl 32 [] l).length (spl 32 [] l).length) 1 (spl 32 [] l).length ((spl 32 [] l).map str) :=
      ⟨_, _, rfl, get_last, Nat.le_refl _, by simp, Pre.one⟩
    refine ⟨slc H.length 0 0 (spl 32 [] l).length (spl 32 [] l).length, [⟨(spl 32 [] l).map str, 1, 0, false⟩], Call_wp t376 (.inr rfl) rfl ?_, ?_⟩
    rotate_left
    · unfold wordsL
      rw [if_neg h0]
      exact hg.sl
    · have hfin := hg.fin strs_ref
      simp [c376, k376, h0, call485 h, hfin]
theorem SlR.keepE {e esz n : Nat} {G G' : Heap} {x : Value} {vs : List Value} (h : SlR G x esz n vs) (k : KeepE e G G') (he : e ≠ esz) : SlR G' x esz n vs := by
  refine ⟨h.size, h.is.imp id fun ⟨b, off, ver, cap, h1, h2, h3, q, h4, h5, h6⟩ => ⟨b, off, ver, cap, h1, h2, ?_, q, k b q h4 (by omega), h5, h6⟩⟩
  unfold rd at h3 ⊢
  rw [h4] at h3
  rw [k b q h4 (by omega)]
  exact h3
theorem GrB.pushE {H G : Heap} {b : Nat} {x : Value} {esz n bytes : Nat} {vs c : List Value} (g : GrB H G b x esz n vs) (hc : c.length = esz) (hb : (n + 1) * bytes ≤ roomMax) {wb : Bool} :
    ∃ x' G', ((srcOf esz (G ++ [⟨c, esz, 0, false⟩]) (slc G.length 0 0 1 1)).bind fun q => appendTo H.length wb esz bytes (G ++ [⟨c, esz, 0, false⟩]) x q.1 q.2) = some (x', G') ∧ GrB H G' b x' esz (n + 1) (vs ++ c) ∧ KeepE esz G G' := by
  obtain ⟨x', G', h1, h2, h3⟩ := g.push hc hb (wb := wb)
  refine ⟨x', G', h1, h2, fun c k hk hne => ?_⟩
  obtain ⟨ver, _, g2, _⟩ := g
  have hcb : c ≠ b := fun e => by
    subst e
    rw [g2] at hk
    cases hk
    exact hne rfl
  rw [h3 c hcb (List.getElem?_eq_some_iff.1 hk).1]
  exact hk
theorem strs_get {G : Heap} {x : Value} {l : List (List UInt8)} (h : SlR G x 1 l.length (l.map str)) {i : Nat} (hi : i < l.length) :
    ∃ b off ver, idxAV 1 x (.int .i64 (i : Int)) = some (adr b off ver) ∧ rd G b off ver 1 = some [str (l.getD i [])] := by
  obtain ⟨b, off, ver, h1, h2⟩ := h.get1 hi
  refine ⟨b, off, ver, h1, ?_⟩
  rw [h2]
  unfold elem
  rw [Nat.mul_one]
  congr 1
  have : (l.map str).drop i = str (l.getD i []) :: (l.map str).drop (i + 1) := by
    rw [List.drop_eq_getElem_cons (by simpa using hi)]
    simp [hi]
  rw [this]; rfl
theorem itoa_chars {v : Int} : ∀ c ∈ Lib.itoa v, isDig c = true ∨ c = 45 := by
  intro c hc
  unfold Lib.itoa at hc
  split at hc
  · rcases List.mem_cons.1 hc with h | h
    · exact .inr h
    · exact .inl (dec_dig _ c h)
  · exact .inl (dec_dig _ c hc)
/-- A move out of a word. -/
def mv2 (a b : Option Int) : Option (Int × Int) := match a, b with
  | some u, some v => some (u, v)
  | _, _ => none
def mvI (w : List UInt8) : Option (Int × Int) := if (cutc 47 w).2.2 = true then mv2 (rdIn (cutc 47 w).1 (-12) 12) (rdIn (cutc 47 w).2.1 (-12) 12) else none
def rmOk (l : List UInt8) : Bool := (wordsL l).all fun w => (mvI w).isSome
def mvD (w : List UInt8) : Int × Int := (mvI w).getD (0, 0)
def rmV (l : List UInt8) : ML := if rmOk l = true then (wordsL l).map mvD else []
def rmC (l : List UInt8) : Int := if rmOk l = true then 0 else 5
theorem words_len {l : List UInt8} : (wordsL l).length ≤ l.length + 1 := by
  unfold wordsL
  split
  · simp
  · exact spl_count 32 l []
theorem words_at {l : List UInt8} {i : Nat} (hi : i < (wordsL l).length) : (wordsL l).getD i [] ∈ wordsL l ∧ ((wordsL l).getD i []).length ≤ l.length := by
  have hm : (wordsL l).getD i [] ∈ wordsL l := by simp [hi]
  refine ⟨hm, ?_⟩
  generalize (wordsL l).getD i [] = w at hm
  unfold wordsL at hm
  split at hm
  · cases hm
  · simpa using spl_len 32 l [] w hm
theorem cut_len (c : UInt8) : ∀ l : List UInt8, (cutc c l).1.length ≤ l.length ∧ (cutc c l).2.1.length ≤ l.length
  | [] => ⟨Nat.le_refl _, Nat.le_refl _⟩
  | x :: r => by
    have := cut_len c r
    rw [cutc]
    split
    · simp
    · simp; omega
theorem call153 {pu : Bool} {l : List UInt8} (hl : l.length ≤ 1000000) {H : Heap} :
    ∃ r G' β, Call tab pu 153 [str l] H = some (tup [r, .int .i64 (rmC l)], G') ∧ Pre H G' ∧ Own G' r β H.length 2 (rmV l).length (mvsC (rmV l)) := by
  obtain ⟨G1, hG1⟩ : ∃ G1, G1 = H ++ [(⟨[], 2, 0, false⟩ : Blk)] := ⟨_, rfl⟩
  have p1 : Pre H G1 := by rw [hG1]; exact Pre.one
  obtain ⟨x, L, h376, hx⟩ := call376 (pu := true) (H := G1) hl
  have hg0 : GrB H (G1 ++ L) H.length (slc H.length 0 0 0 0) 2 0 [] := ⟨0, rfl, by rw [List.getElem?_append_left (by rw [hG1]; simp), hG1]; exact get_last, Nat.le_refl _, rfl, p1.app⟩
  have hwl := words_len (l := l)
  obtain ⟨R, hR⟩ : ∃ R : Value × Heap × Option Nat, R = if rmOk l = true then (slc H.length 0 0 (rmV l).length (rmV l).length, H ++ [⟨mvsC (rmV l), 2, 0, false⟩], some H.length) else (.slice none 0 0, H, none) := ⟨_, rfl⟩
  refine ⟨R.1, R.2.1, R.2.2, Call_wp t153 (.inr rfl) rfl ?_, ?_⟩
  rotate_left
  · rw [hR]
    split
    · exact ⟨Pre.one, own_new mvsC_length⟩
    · rename_i h
      rw [rmV, if_neg h]
      exact ⟨.refl, own_nil⟩
  simp [c153, k153, fill, rep, ← hG1, h376, hx.lenV]
  refine WP_count 18 (wordsL l).length (wordsL l).length rfl (fun i e G => e 16 = x ∧ e 17 = .int .i64 (wordsL l).length ∧ SlR G x 1 (wordsL l).length ((wordsL l).map str) ∧ (∀ w ∈ (wordsL l).take i, (mvI w).isSome = true) ∧
    ∃ g, e 4 = g ∧ GrB H G H.length g 2 i (mvsC (((wordsL l).take i).map mvD))) (by omega) ?_ ?_ (by simp) ⟨by simp, by simp, hx, by simp, slc H.length 0 0 0 0, by simp, hg0⟩
  · rintro i e G _ hi hii e4 h18 ⟨h16, h17, hs, hall, g, h4, hg⟩
    obtain ⟨b, off, ver, ha, hr⟩ := strs_get hs hi
    obtain ⟨hm, hwlen⟩ := words_at hi
    have htk : (wordsL l).take (i + 1) = (wordsL l).take i ++ [(wordsL l).getD i []] := by
      rw [List.take_add_one]
      simp [hi]
    obtain ⟨w, hw⟩ : ∃ w, w = (wordsL l).getD i [] := ⟨_, rfl⟩
    rw [← hw] at hr hm hwlen htk
    have hcl := cut_len 47 w
    have h377 := call377 (pu := false) (c := 47) (H := G) (l := w) (by omega)
    obtain ⟨u, hu, hu'⟩ := call378 (pu := true) (H := G) (l := (cutc 47 w).1) (lo := -12) (hi := 12) (by omega) (by omega) (by omega)
    obtain ⟨v, hv, hv'⟩ := call378 (pu := true) (H := G) (l := (cutc 47 w).2.1) (lo := -12) (hi := 12) (by omega) (by omega) (by omega)
    have hbad : mvI w = none → R = (.slice none 0 0, H, none) ∧ rmC l = 5 := by
      intro h
      have : ¬ rmOk l = true := fun h' => by
        have := List.all_eq_true.1 h' w hm
        rw [h] at this; cases this
      exact ⟨by rw [hR, if_neg this], by rw [rmC, if_neg this]⟩
    have hpre := hg.pr
    cases hf : (cutc 47 w).2.2 with
    | false =>
      obtain ⟨e1, e2⟩ := hbad (by unfold mvI; rw [if_neg (by rw [hf]; decide)])
      rw [hf] at h377
      simp [b153_1, h18, h16, h17, h4, hii, ha, hr, h377, hu, hv, skip, e1, e2, finish_nil2, hpre.take]
    | true =>
      rw [hf] at h377
      have hmv : mvI w = mv2 (rdIn (cutc 47 w).1 (-12) 12) (rdIn (cutc 47 w).2.1 (-12) 12) := by unfold mvI; rw [if_pos hf]
      cases h1 : rdIn (cutc 47 w).1 (-12) 12 with
      | none =>
        obtain ⟨e1, e2⟩ := hbad (by rw [hmv, h1]; rfl)
        rw [h1] at hu
        simp [b153_1, h18, h16, h17, h4, hii, ha, hr, h377, hu, hv, skip, e1, e2, finish_nil2, hpre.take]
      | some u0 =>
        cases h2 : rdIn (cutc 47 w).2.1 (-12) 12 with
        | none =>
          obtain ⟨e1, e2⟩ := hbad (by rw [hmv, h1, h2]; rfl)
          rw [h2] at hv
          rw [h1] at hu
          simp [b153_1, h18, h16, h17, h4, hii, ha, hr, h377, hu, hv, skip, e1, e2, finish_nil2, hpre.take]
        | some v0 =>
          obtain rfl := hu' u0 h1
          obtain rfl := hv' v0 h2
          have hb1 := ((rdIn_iff (by decide) (by decide)).1 h1).2
          have hb2 := ((rdIn_iff (by decide) (by decide)).1 h2).2
          have w1 : IntKind.wrap .i8 u = u := wrap8 (by omega)
          have w2 : IntKind.wrap .i8 v = v := wrap8 (by omega)
          rw [h1] at hu
          rw [h2] at hv
          have hsome : mvI w = some (u, v) := by rw [hmv, h1, h2]; rfl
          have hf1 := fill_one (z := [.int .i8 0, .int .i8 0]) (v := agg (mvC (u, v))) (esz := 2) rfl rfl
          obtain ⟨g', G', hpush, hg', hk⟩ := hg.pushE (c := mvC (u, v)) (bytes := 2) rfl (room2 (by omega)) (wb := false)
          have hmm : mvsC (((wordsL l).take i).map mvD) ++ mvC (u, v) = mvsC (((wordsL l).take (i + 1)).map mvD) := by
            rw [mvsC_one, htk, List.map_append]
            congr 2
            simp [mvD, hsome]
          rw [hmm] at hg'
          have hfill : fill [.int .i8 0, .int .i8 0] [(0, 1, .int .i8 u), (1, 1, .int .i8 v)] = some (mvC (u, v)) := rfl
          simp [b153_1, h18, h16, h17, h4, hii, ha, hr, h377, hu, hv, w1, w2, hfill, hf1, hpush, wbOf, e4, skip]
          refine ⟨hs.keepE hk (by decide), ?_, by simpa using hg'⟩
          intro w' hw'
          rw [htk] at hw'
          rcases List.mem_append.1 hw' with h | h
          · exact hall w' h
          · rw [List.mem_singleton.1 h, hsome]; rfl
  · rintro e G _ h18 ⟨h16, h17, hs, hall, g, h4, hg⟩
    rw [List.take_length] at hall hg
    have hok : rmOk l = true := List.all_eq_true.2 hall
    have hv : rmV l = (wordsL l).map mvD := by rw [rmV, if_pos hok]
    have hn : (rmV l).length = (wordsL l).length := by rw [hv, List.length_map]
    rw [← hv, ← hn] at hg
    have hfin := hg.gr.fin2 (c := 0) mvsC_flat
    have hc : rmC l = 0 := by rw [rmC, if_pos hok]
    rw [if_pos hok] at hR
    simp [b153_1, h18, h16, h17, h4, hfin, hc, hR]
theorem slr_new {G : Heap} {vs : List Value} {esz n : Nat} (h : vs.length = n * esz) : SlR (G ++ [⟨vs, esz, 0, false⟩]) (slc G.length 0 0 n n) esz n vs := (own_new h).sl
theorem strsOf_strs : ∀ l : List (List UInt8), strsOf (l.map str) = some l
  | [] => rfl
  | x :: r => by
    show (strsOf (r.map str)).map (x.toArray.toList :: ·) = _
    rw [strsOf_strs r]
    simp
theorem call380 {pu : Bool} {G : Heap} {x : Value} {l : List (List UInt8)} {c : UInt8} (hx : SlR G x 1 l.length (l.map str)) (h1 : (Lib.join l [c]).length ≤ 140737488355328) (h2 : l.length ≤ 140737488355328) :
    Call tab pu 380 [x, .string ⟨#[c]⟩] G = some (str (Lib.join l [c]), G) := by
  rw [Call_ext t380 (.inr rfl)]
  rcases hx.is with ⟨rfl, h0⟩ | ⟨b, off, ver, cap, rfl, _, hr, _⟩
  · obtain rfl := List.length_eq_zero_iff.1 h0
    rfl
  · cases l with
    | nil => rfl
    | cons a r =>
      rw [Nat.mul_one] at hr
      show ((rd G b off ver (r.length + 1)).bind strsOf).bind (fun l => if (Lib.join l [c]).length ≤ roomMax ∧ l.length ≤ roomMax then some (str (Lib.join l [c]), G) else none) = _
      have hr' : rd G b off ver (r.length + 1) = some ((a :: r).map str) := hr
      rw [hr', Option.bind_some, strsOf_strs, Option.bind_some, if_pos ⟨h1, h2⟩]
/-- A move as a word. -/
def mvW (m : Int × Int) : List UInt8 := Lib.itoa m.1 ++ [47] ++ Lib.itoa m.2
def mvT (l : ML) : List UInt8 := Lib.join (l.map mvW) [32]
theorem itoa_len {v : Int} (h1 : -1000 < v) (h2 : v < 1000) : (Lib.itoa v).length ≤ 4 := by
  have key : ∀ n, n < 1000 → (Lib.decDigits n).length ≤ 3 := by
    intro n hn
    rw [Lib.decDigits_length]
    by_cases a : n < 10
    · rw [Lib.nDigits_small a]; omega
    · rw [Lib.nDigits_big a]
      by_cases b : n / 10 < 10
      · rw [Lib.nDigits_small b]; omega
      · rw [Lib.nDigits_big b, Lib.nDigits_small (by omega)]; omega
  unfold Lib.itoa
  split
  · have := key v.natAbs (by omega)
    simp; omega
  · have := key v.toNat (by omega)
    omega
theorem join_len (c : UInt8) (k : Nat) : ∀ l : List (List UInt8), (∀ w ∈ l, w.length ≤ k) → (Lib.join l [c]).length ≤ (k + 1) * l.length
  | [], _ => by simp [Lib.join_nil]
  | x :: r, h => by
    rw [Lib.join_cons]
    have h1 := h x (by simp)
    have h2 : (Lib.joinTail [c] r).length ≤ (k + 1) * r.length := by
      clear h1
      induction r with
      | nil => simp [Lib.joinTail]
      | cons y r ih =>
        have hy := h y (by simp)
        have := ih fun w hw => h w (by rcases List.mem_cons.1 hw with e | e <;> simp [e])
        have e : Lib.joinTail [c] (y :: r) = ([c] ++ y) ++ Lib.joinTail [c] r := rfl
        have e2 : (k + 1) * (y :: r).length = (k + 1) * r.length + (k + 1) := Nat.mul_succ _ _
        rw [e, List.length_append, List.length_append, e2]
        simp only [List.length_cons, List.length_nil]
        omega
    have e2 : (k + 1) * (x :: r).length = (k + 1) * r.length + (k + 1) := Nat.mul_succ _ _
    rw [List.length_append, e2]
    omega
/-- Parts without the byte, joined and parted again. -/
theorem spl_tail (c : UInt8) : ∀ (r : List (List UInt8)) (cur x : List UInt8), (∀ w ∈ x :: r, c ∉ w) → spl c cur (x ++ Lib.joinTail [c] r) = (cur ++ x) :: r
  | r, cur, a :: x, h => by
    have ha : a ≠ c := fun e => h (a :: x) (by simp) (by simp [e])
    rw [List.cons_append, spl, if_neg ha]
    rw [spl_tail c r (cur ++ [a]) x fun w hw => by
      rcases List.mem_cons.1 hw with e | e
      · subst e
        exact fun hm => h (a :: w) (by simp) (by simp [hm])
      · exact h w (by simp [e])]
    simp
  | [], cur, [], h => by simp [Lib.joinTail, spl]
  | y :: r, cur, [], h => by
    have e : Lib.joinTail [c] (y :: r) = c :: (y ++ Lib.joinTail [c] r) := rfl
    rw [List.nil_append, e, spl, if_pos rfl, spl_tail c r [] y fun w hw => h w (by rcases List.mem_cons.1 hw with e | e <;> simp [e])]
    simp
theorem spl_join (c : UInt8) {l : List (List UInt8)} (h0 : l ≠ []) (h : ∀ w ∈ l, c ∉ w) : spl c [] (Lib.join l [c]) = l := by
  cases l with
  | nil => exact absurd rfl h0
  | cons x r =>
    rw [Lib.join_cons, spl_tail c r [] x h]
    rfl
theorem itoa_no {v : Int} {c : UInt8} (hc : isDig c = false) (h2 : c ≠ 45) : c ∉ Lib.itoa v := fun h => by
  rcases itoa_chars c h with e | e
  · rw [hc] at e; cases e
  · exact h2 e
theorem cut_at (c : UInt8) : ∀ (a b : List UInt8), c ∉ a → cutc c (a ++ c :: b) = (a, b, true)
  | [], b, _ => by simp [cutc]
  | x :: a, b, h => by
    have hx : x ≠ c := fun e => h (by simp [e])
    rw [List.cons_append, cutc, if_neg hx, cut_at c a b fun hm => h (by simp [hm])]
def smM (m : Int × Int) : Bool := decide (-12 ≤ m.1 ∧ m.1 ≤ 12) && decide (-12 ≤ m.2 ∧ m.2 ≤ 12)
theorem smM_iff {m : Int × Int} : smM m = true ↔ (-12 ≤ m.1 ∧ m.1 ≤ 12) ∧ -12 ≤ m.2 ∧ m.2 ≤ 12 := by unfold smM; simp
theorem mvI_W {m : Int × Int} (h : smM m = true) : mvI (mvW m) = some m := by
  have hm := smM_iff.1 h
  have hc : cutc 47 (mvW m) = (Lib.itoa m.1, Lib.itoa m.2, true) := by
    unfold mvW
    rw [List.append_assoc, List.singleton_append]
    exact cut_at 47 _ _ (itoa_no (by decide) (by decide))
  unfold mvI
  rw [hc]
  simp only
  rw [if_pos trivial, (rdIn_iff (by decide) (by decide)).2 ⟨rfl, hm.1⟩, (rdIn_iff (by decide) (by decide)).2 ⟨rfl, hm.2⟩]
  rfl
theorem mvW_no {m : Int × Int} : (32 : UInt8) ∉ mvW m := by
  unfold mvW
  simp only [List.mem_append, List.mem_singleton]
  rintro ((h | h) | h)
  · exact itoa_no (by decide) (by decide) h
  · revert h; decide
  · exact itoa_no (by decide) (by decide) h
theorem mvW_len {m : Int × Int} (h : smM m = true) : (mvW m).length ≤ 9 := by
  have hm := smM_iff.1 h
  have h1 := itoa_len (v := m.1) (by omega) (by omega)
  have h2 := itoa_len (v := m.2) (by omega) (by omega)
  unfold mvW
  simp; omega
theorem mvT_len {l : ML} (h : l.all smM = true) : (mvT l).length ≤ 10 * l.length := by
  have := join_len 32 9 (l.map mvW) fun w hw => by
    obtain ⟨m, hm, rfl⟩ := List.mem_map.1 hw
    exact mvW_len (List.all_eq_true.1 h m hm)
  simpa [mvT] using this
theorem words_T {l : ML} : wordsL (mvT l) = l.map mvW := by
  cases l with
  | nil => rfl
  | cons m r =>
    have hs := spl_join 32 (l := (m :: r).map mvW) (by simp) fun w hw => by
      obtain ⟨m', _, rfl⟩ := List.mem_map.1 hw
      exact mvW_no
    unfold wordsL
    rw [if_neg, ← hs]
    · rfl
    · intro h
      have hj : Lib.join ((m :: r).map mvW) [32] = [] := h
      rw [hj] at hs
      have : mvW m = [] := by
        simp [spl] at hs
        exact hs.1.symm ▸ rfl
      unfold mvW at this
      simp at this
theorem rm_T {l : ML} (h : l.all smM = true) : rmOk (mvT l) = true ∧ rmV (mvT l) = l ∧ rmC (mvT l) = 0 := by
  have hok : rmOk (mvT l) = true := by
    unfold rmOk
    rw [words_T, List.all_map, List.all_eq_true]
    intro m hm
    show (mvI (mvW m)).isSome = true
    rw [mvI_W (List.all_eq_true.1 h m hm)]; rfl
  refine ⟨hok, ?_, by rw [rmC, if_pos hok]⟩
  rw [rmV, if_pos hok, words_T, List.map_map]
  have : ∀ m ∈ l, (mvD ∘ mvW) m = m := fun m hm => by
    show (mvI (mvW m)).getD (0, 0) = m
    rw [mvI_W (List.all_eq_true.1 h m hm)]; rfl
  rw [List.map_congr_left this]
  simp
theorem call154 {pu : Bool} {G : Heap} {x : Value} {l : ML} (hx : SlR G x 2 l.length (mvsC l)) (hn : l.length ≤ 1000000) (hw : MvOk l) :
    Call tab pu 154 [x] G = some (str (if l.all smM = true then mvT l else []), G) := by
  refine Call_wp t154 (.inr rfl) rfl ?_
  obtain ⟨G1, hG1⟩ : ∃ G1, G1 = G ++ [(⟨[], 1, 0, false⟩ : Blk)] := ⟨_, rfl⟩
  have hg0 : GrB G G1 G.length (slc G.length 0 0 0 0) 1 0 [] := ⟨0, rfl, by rw [hG1]; exact get_last, Nat.le_refl _, rfl, by rw [hG1]; exact Pre.one⟩
  simp [c154, k154, fill, rep, hx.lenV, ← hG1]
  refine WP_count 9 l.length l.length rfl (fun i e H => e 7 = x ∧ e 8 = .int .i64 l.length ∧ (∀ m ∈ l.take i, smM m = true) ∧ ∃ g, e 3 = g ∧ GrB G H G.length g 1 i (((l.take i).map mvW).map str)) (by omega) ?_ ?_ (by simp) ⟨by simp, by simp, by simp, slc G.length 0 0 0 0, by simp, hg0⟩
  · rintro i e H _ hi hii e4 h9 ⟨h7, h8, hall, g, h3, hg⟩
    obtain ⟨q, off, ver, ha, hr⟩ := (hx.pre hg.pr).get1 hi
    rw [mvsC_elem hi] at hr
    obtain ⟨m, hm⟩ : ∃ m, m = mv l i := ⟨_, rfl⟩
    have hml : m ∈ l := by rw [hm]; exact at0_mem hi
    have htk : l.take (i + 1) = l.take i ++ [m] := by
      rw [List.take_add_one, hm]
      simp [mv, at0, hi]
    rw [← hm] at hr
    have hb := hw i hi
    rw [← hm] at hb
    have wa : IntKind.wrap .i64 m.1 = m.1 := wrap64 (by omega)
    have wb : IntKind.wrap .i64 m.2 = m.2 := wrap64 (by omega)
    have z2 : ldv true [.int .i8 0, .int .i8 0] = some (agg [.int .i8 0, .int .i8 0]) := rfl
    by_cases hs : smM m = true
    · have hs' := smM_iff.1 hs
      have d1 := call379 (pu := true) (n := m.1) (H := H) (by omega) (by omega)
      have d2 := call379 (pu := true) (n := m.2) (H := H) (by omega) (by omega)
      have l1 := itoa_len (v := m.1) (by omega) (by omega)
      have l2 := itoa_len (v := m.2) (by omega) (by omega)
      have a1 : binop .add (str (Lib.itoa m.1)) (.string ⟨#[47]⟩) = some (str (Lib.itoa m.1 ++ [47])) := add_s (b := [47]) (by simp; omega)
      have a2 : binop .add (str (Lib.itoa m.1 ++ [47])) (str (Lib.itoa m.2)) = some (str (mvW m)) := add_s (by simp; omega)
      have hf1 := fill_one (z := [.string ⟨#[]⟩]) (v := str (mvW m)) (esz := 1) rfl rfl
      obtain ⟨g', G', hpush, hg', hk⟩ := hg.pushE (c := [str (mvW m)]) (bytes := 16) rfl (by unfold roomMax; omega) (wb := false)
      have hmm : ((l.take i).map mvW).map str ++ [str (mvW m)] = ((l.take (i + 1)).map mvW).map str := by rw [htk]; simp
      rw [hmm] at hg'
      simp [b154_1, h9, h7, h8, h3, hii, ha, hr, agg_cs, stM, ldM1, ldM2, mvC_len, wa, wb, call295, hs'.1, hs'.2, d1, d2, a1, a2, hf1, hpush, wbOf, e4, skip]
      refine ⟨?_, by simpa using hg'⟩
      intro a b hm'
      rw [htk] at hm'
      rcases List.mem_append.1 hm' with h | h
      · exact hall _ h
      · rw [List.mem_singleton.1 h]; exact hs
    · have hno : ¬ l.all smM = true := fun h => hs (List.all_eq_true.1 h m hml)
      have hd1 : (-12 ≤ m.1 ∧ m.1 ≤ 12) → decide (-12 ≤ m.2 ∧ m.2 ≤ 12) = false := fun h => decide_eq_false fun h' => hs (smM_iff.2 ⟨h, h'⟩)
      by_cases h1 : -12 ≤ m.1 ∧ m.1 ≤ 12
      · have hd := hd1 h1
        simp [b154_1, h9, h7, h8, h3, hii, ha, hr, agg_cs, stM, ldM1, ldM2, mvC_len, wa, wb, call295, h1, hd, skip, hno, hg.pr.take, str]
      · have hd : decide (-12 ≤ m.1 ∧ m.1 ≤ 12) = false := decide_eq_false h1
        simp [b154_1, h9, h7, h8, h3, hii, ha, hr, agg_cs, stM, ldM1, ldM2, mvC_len, wa, wb, call295, hd, skip, hno, hg.pr.take, str]
  · rintro e H _ h9 ⟨h7, h8, hall, g, h3, hg⟩
    rw [List.take_length] at hall hg
    have hok : l.all smM = true := List.all_eq_true.2 hall
    have ht := mvT_len hok
    have hs : SlR H g 1 (l.map mvW).length ((l.map mvW).map str) := by
      have := hg.gr.sl
      rwa [List.length_map]
    have hj := call380 (pu := false) (c := 32) hs (by unfold mvT at ht; omega) (by simp; omega)
    simp [b154_1, h9, h7, h8, h3, hj, hok, hg.pr.take]
    rfl
/-- A source whose bytes and state are known. -/
def SrD (G : Heap) (P : Nat) (bs : List Int) (s : Int × Int) : Prop := ∃ x, G[P]? = some (srB x s.1 s.2) ∧ SlR (G.take P) x 1 bs.length (cs .u8 bs)
structure OkBs (bs : List Int) : Prop where
  b : ∀ b ∈ bs, 0 ≤ b ∧ b ≤ 255
  n : bs.length ≤ 1000000
theorem SrD.lt {G : Heap} {P : Nat} {bs : List Int} {s : Int × Int} (h : SrD G P bs s) : P < G.length := by
  obtain ⟨x, h1, _⟩ := h
  exact (List.getElem?_eq_some_iff.1 h1).1
theorem SrD.mv {P : Nat} {G G' : Heap} {bs : List Int} {s : Int × Int} (h : SrD G P bs s) (hP : G'[P]? = G[P]?) (hj : ∀ j, j < P → G'[j]? = G[j]?) : SrD G' P bs s := by
  obtain ⟨x, h1, h2⟩ := h
  refine ⟨x, by rw [hP]; exact h1, ?_⟩
  have : G'.take P = G.take P := by
    apply List.ext_getElem?
    intro j
    rw [List.getElem?_take, List.getElem?_take]
    split
    · exact hj j ‹_›
    · rfl
  rw [this]; exact h2
def NX (bs : List Int) (s : Int × Int) (v : Int) (s' : Int × Int) : Prop := ∀ G P, SrD G P bs s → ∃ G', Call tab false 550 [adr P 0 0] G = some (.int .i64 v, G') ∧ Mv P G G' ∧ SrD G' P bs s'
def nxS (s : Int × Int) (v : Int) : Int × Int := (s.1 + 1, IntKind.wrap .u64 (IntKind.wrap .u64 (IntKind.wrap .u64 (s.2 * 6364136223846793005) + IntKind.wrap .u64 v) + 1442695040888963407))
theorem nx_ex {bs : List Int} {s : Int × Int} (ok : OkBs bs) (h0 : 0 ≤ s.1 ∧ s.1 ≤ 1000000000000) : ∃ v s', NX bs s v s' ∧ (0 ≤ v ∧ v ≤ 255) ∧ s'.1 = s.1 + 1 := by
  obtain ⟨i, sd⟩ := s
  obtain ⟨h5, h6⟩ := h0
  simp only at h5 h6
  obtain ⟨m, rfl⟩ := Int.eq_ofNat_of_zero_le h5
  have main : ∀ v : Int, (if m < bs.length then v = nth bs m else v = IntKind.wrap .i64 (bitsOf .and .u64 ((nxS ((m : Int), sd) 0).2.fdiv (2 ^ 40)) 255)) → NX bs ((m : Int), sd) v (nxS ((m : Int), sd) (if m < bs.length then nth bs m else 0)) := by
    intro v hv G P h
    have key : ∃ r, Call tab false 550 [adr P 0 0] G = some r ∧ ∃ G', r = (.int .i64 v, G') ∧ Mv P G G' ∧ SrD G' P bs (nxS ((m : Int), sd) (if m < bs.length then nth bs m else 0)) := by
      have hl := h.lt
      obtain ⟨x, h1, h2⟩ := h
      simp only at h1
      have hx : SlR G x 1 bs.length (cs .u8 bs) := h2.pre Pre.takes
      refine Call_ex t550 (.inl rfl) rfl ?_
      have r0 : ∀ i sd, rd (G.set P (srB x i sd)) P 0 0 1 = some [x] := fun i sd => rd_at (ver := 0) (get_set (k' := srB x i sd) h1) rfl (by simp [srB])
      have r1 : ∀ i sd, rd (G.set P (srB x i sd)) P 1 0 1 = some [.int .i64 i] := fun i sd => rd_at (ver := 0) (get_set (k' := srB x i sd) h1) rfl (by simp [srB])
      have r2 : ∀ i sd, rd (G.set P (srB x i sd)) P 2 0 1 = some [.int .u64 sd] := fun i sd => rd_at (ver := 0) (get_set (k' := srB x i sd) h1) rfl (by simp [srB])
      have w1 : ∀ i sd i', wr G.length true (G.set P (srB x i sd)) P 1 0 [.int .i64 i'] = some (G.set P (srB x i' sd)) := fun i sd i' => by
        have := wr_at (n0 := G.length) (wb := true) (off := 1) (vs := [.int .i64 i']) (ver := 0) (get_set (k' := srB x i sd) h1) rfl rfl (by simp [may]) (by simp [srB])
        rw [set_set] at this; exact this
      have w2 : ∀ i sd sd', wr G.length true (G.set P (srB x i sd)) P 2 0 [.int .u64 sd'] = some (G.set P (srB x i sd')) := fun i sd sd' => by
        have := wr_at (n0 := G.length) (wb := true) (off := 2) (vs := [.int .u64 sd']) (ver := 0) (get_set (k' := srB x i sd) h1) rfl rfl (by simp [may]) (by simp [srB])
        rw [set_set] at this; exact this
      have e9 : IntKind.wrap .i64 ((m : Int) + 1) = (m : Int) + 1 := wrap64 (by omega)
      have r0' := r0 m sd; have r1' := r1 m sd; have w1' := w1 m sd
      rw [set_self h1] at r0' r1' w1'
      have hS : ∀ sd', SrD (G.set P (srB x ((m : Int) + 1) sd')) P bs ((m : Int) + 1, sd') := fun sd' => ⟨x, get_set h1, by rw [Mv.set.take (Nat.le_refl P)]; exact h2⟩
      by_cases hlt : m < bs.length
      · rw [if_pos hlt] at hv
        subst hv
        obtain ⟨q, off, ver, ha, hr⟩ := hx.get1 hlt
        rw [elem_i hlt] at hr
        have hb := nthI_ok ok.b hlt
        have u1 : IntKind.wrap .i64 (nth bs m) = nth bs m := wrap64 (by omega)
        have hle : (m : Int) + 1 ≤ bs.length := by omega
        simp [c550, k550, r0', r1', hx.lenV, hlt, ha, hr, w1', e9, r0, r1, r2, w2, u1, hle, wbOf]
        exact ⟨.set, hS _⟩
      · rw [if_neg hlt] at hv
        have hle : ¬ (m : Int) + 1 ≤ bs.length := by omega
        have hlt' : ¬ (m : Int) < bs.length := by omega
        have u3 : ∀ y, shiftOf .shr .u64 y 40 = some (.int .u64 (y.fdiv (2 ^ 40))) := fun y => rfl
        subst hv
        simp [c550, k550, r0', r1', hx.lenV, hlt, hlt', w1', e9, r0, r1, r2, w2, hle, wbOf, u3, nxS]
        exact ⟨.set, hS _⟩
    obtain ⟨r, hc, G', rfl, h⟩ := key
    exact ⟨G', hc, h⟩
  by_cases hlt : m < bs.length
  · exact ⟨_, _, main _ (by rw [if_pos hlt]), nthI_ok ok.b hlt, rfl⟩
  · refine ⟨_, _, main _ (by rw [if_neg hlt]), ?_, rfl⟩
    have := and255 (x := (nxS ((m : Int), sd) 0).2.fdiv (2 ^ 40))
    rw [wrap64 (by omega)]
    exact this
def PK (bs : List Int) (n : Int) (s : Int × Int) (v : Int) (s' : Int × Int) : Prop := ∀ G P, SrD G P bs s → ∃ G', Call tab false 459 [adr P 0 0, .int .i64 n] G = some (.int .i64 v, G') ∧ Mv P G G' ∧ SrD G' P bs s'
theorem pk_ex {bs : List Int} {s : Int × Int} (ok : OkBs bs) (h0 : 0 ≤ s.1 ∧ s.1 ≤ 100000000000) {n : Int} (hn : 1 ≤ n ∧ n ≤ 1000000) : ∃ v s', PK bs n s v s' ∧ (0 ≤ v ∧ v < n) ∧ 0 ≤ s'.1 ∧ s'.1 ≤ s.1 + 2 := by
  by_cases h1 : n ≤ 1
  · refine ⟨0, s, fun G P h => ⟨G, Call_wp t459 (.inl rfl) rfl ?_, .refl, h⟩, by omega, by omega⟩
    simp [c459, k459, h1, List.take_length]
  have hn0 : n ≠ 0 := by omega
  obtain ⟨v, s1, nv, v0, q1⟩ := nx_ex ok (s := s) (by omega)
  have hmod : ∀ a : Int, 0 ≤ a → a.tmod n = a % n ∧ 0 ≤ a % n ∧ a % n < n := fun a ha => ⟨Int.tmod_eq_emod_of_nonneg ha, Int.emod_nonneg _ hn0, Int.emod_lt_of_pos _ (by omega)⟩
  by_cases h2 : n > 200
  · obtain ⟨w, s2, nw, w0, q2⟩ := nx_ex ok (s := s1) (by omega)
    have e1 : IntKind.wrap .i64 (v * 256) = v * 256 := wrap64 (by omega)
    have e2 : IntKind.wrap .i64 (v * 256 + w) = v * 256 + w := wrap64 (by omega)
    obtain ⟨g1, g2, g3⟩ := hmod (v * 256 + w) (by omega)
    have e3 : IntKind.wrap .i64 ((v * 256 + w) % n) = (v * 256 + w) % n := wrap64 (by omega)
    refine ⟨(v * 256 + w) % n, s2, fun G P h => ?_, ⟨g2, g3⟩, by omega, by omega⟩
    obtain ⟨G1, c1, m1, d1⟩ := nv G P h
    obtain ⟨G2, c2, m2, d2⟩ := nw G1 P d1
    have m := m1.trans m2
    refine ⟨G2, Call_wp t459 (.inl rfl) rfl ?_, m, d2⟩
    simp [c459, k459, h1, h2, c1, c2, wbOf, e1, e2, hn0, g1, e3]
    exact List.take_of_length_le (by rw [m.len]; exact Nat.le_refl _)
  · obtain ⟨g1, g2, g3⟩ := hmod v v0.1
    have e3 : IntKind.wrap .i64 (v % n) = v % n := wrap64 (by omega)
    have h2' : ¬ 200 < n := h2
    refine ⟨v % n, s1, fun G P h => ?_, ⟨g2, g3⟩, by omega, by omega⟩
    obtain ⟨G1, c1, m1, d1⟩ := nv G P h
    refine ⟨G1, Call_wp t459 (.inl rfl) rfl ?_, m1, d1⟩
    simp [c459, k459, h1, h2', c1, wbOf, hn0, g1, e3]
    exact List.take_of_length_le (by rw [m1.len]; exact Nat.le_refl _)
def PO (bs : List Int) (n : Int) (s : Int × Int) (b : Bool) (s' : Int × Int) : Prop := ∀ G P, SrD G P bs s → ∃ G', Call tab false 513 [adr P 0 0, .int .i64 n] G = some (.bool b, G') ∧ Mv P G G' ∧ SrD G' P bs s'
theorem po_ex {bs : List Int} {s : Int × Int} (ok : OkBs bs) (h0 : 0 ≤ s.1 ∧ s.1 ≤ 100000000000) {n : Int} (hn : 1 ≤ n ∧ n ≤ 1000000) : ∃ b s', PO bs n s b s' ∧ 0 ≤ s'.1 ∧ s'.1 ≤ s.1 + 2 := by
  obtain ⟨v, s', pv, _, h1⟩ := pk_ex ok h0 hn
  refine ⟨v == 0, s', fun G P h => ?_, h1⟩
  obtain ⟨G', c, m, d⟩ := pv G P h
  refine ⟨G', Call_wp t513 (.inl rfl) rfl ?_, m, d⟩
  simp [c513, k513, c, wbOf]
  exact List.take_of_length_le (by rw [m.len]; exact Nat.le_refl _)
/-- A chain of steps. -/
theorem chain {α : Type} (I : Nat → α → Prop) (S : α → α → Prop) (N : Nat) {q0 : α} (h0 : I 0 q0) (h : ∀ i q, i < N → I i q → ∃ q', S q q' ∧ I (i + 1) q') :
    ∃ f : Nat → α, f 0 = q0 ∧ ∀ i, i ≤ N → I i (f i) ∧ (i < N → S (f i) (f (i + 1))) := by
  have : ∀ n, n ≤ N → ∃ f : Nat → α, f 0 = q0 ∧ (∀ i, i ≤ n → I i (f i)) ∧ ∀ i, i < n → S (f i) (f (i + 1)) := by
    intro n
    induction n with
    | zero =>
      refine fun _ => ⟨fun _ => q0, rfl, fun i hi => ?_, fun i hi => absurd hi (Nat.not_lt_zero i)⟩
      obtain rfl : i = 0 := Nat.le_zero.1 hi
      exact h0
    | succ n ih =>
      intro hn
      obtain ⟨f, f0, fI, fS⟩ := ih (by omega)
      obtain ⟨q', hs, hi⟩ := h n (f n) (by omega) (fI n (Nat.le_refl _))
      refine ⟨fun i => if i ≤ n then f i else q', by simp [f0], fun i hi' => ?_, fun i hi' => ?_⟩
      · by_cases hle : i ≤ n
        · simp only [if_pos hle]; exact fI i hle
        · obtain rfl : i = n + 1 := by omega
          simp only [if_neg hle]; exact hi
      · by_cases hle : i < n
        · simp only [if_pos (show i ≤ n by omega), if_pos (show i + 1 ≤ n by omega)]; exact fS i hle
        · obtain rfl : i = n := by omega
          simp only [if_pos (Nat.le_refl i), if_neg (show ¬ i + 1 ≤ i by omega)]; exact hs
  obtain ⟨f, f0, fI, fS⟩ := this N (Nat.le_refl _)
  exact ⟨f, f0, fun i hi => ⟨fI i hi, fS i⟩⟩
structure LoD (G G' : Heap) (P : Nat) (bs : List Int) (s : Int × Int) (f : List Int) : Prop where
  src : SrD G' P bs s
  fr : G'[G.length]? = some ⟨cs .u16 f, 1, 0, false⟩
  len : G'.length = G.length + 1
  get : ∀ j, j < G.length → j ≠ P → G'[j]? = G[j]?
  lt : P < G.length
theorem LoD.mv {G G' G'' : Heap} {P : Nat} {bs : List Int} {s s' : Int × Int} {f : List Int} (h : LoD G G' P bs s f) (m : Mv P G' G'') (d : SrD G'' P bs s') : LoD G G'' P bs s' f := by
  have := h.lt
  exact ⟨d, by rw [m.get _ (by omega)]; exact h.fr, by rw [m.len]; exact h.len, fun j hj hp => by rw [m.get j hp]; exact h.get j hj hp, h.lt⟩
theorem LoD.set {G G' : Heap} {P : Nat} {bs : List Int} {s : Int × Int} {f g : List Int} (h : LoD G G' P bs s f) : LoD G (G'.set G.length ⟨cs .u16 g, 1, 0, false⟩) P bs s g := by
  have := h.lt
  exact ⟨h.src.mv (List.getElem?_set_ne (by omega)) fun j hj => List.getElem?_set_ne (by omega), get_set h.fr, by simp [h.len], fun j hj hp => by rw [List.getElem?_set_ne (by omega)]; exact h.get j hj hp, h.lt⟩
theorem LoD.pick {G G' : Heap} {P : Nat} {bs : List Int} {s s' : Int × Int} {f : List Int} {n v : Int} (h : LoD G G' P bs s f) (hp : PK bs n s v s') : ∃ G'', Call tab false 459 [adr P 0 0, .int .i64 n] G' = some (.int .i64 v, G'') ∧ LoD G G'' P bs s' f ∧ G''[G.length]? = G'[G.length]? := by
  obtain ⟨G'', c, m, d⟩ := hp G' P h.src
  exact ⟨G'', c, h.mv m d, m.get _ (by have := h.lt; omega)⟩
end Fb
