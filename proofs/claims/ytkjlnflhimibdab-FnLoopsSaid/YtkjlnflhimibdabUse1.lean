/- What each function computes. -/
import Derived.Test.YtkjlnflhimibdabUse0
set_option linter.unusedVariables false
set_option linter.unusedSimpArgs false
namespace Fb
open Go
theorem call93 {pu : Bool} {H : Heap} {x : Value} {b : List (List Int)} {least : Int} (h : Bk H x b) (hw : BkW b) (hn : b.length ≤ 1000000) : Call tab pu 93 [x, .int .i64 least] H = some (lpR b least, H) := by
  refine Call_wp t93 (.inr rfl) rfl ?_
  have hc := call318 (pu := true) h hw (by omega)
  cases hk : okB b with
  | false => simp [c93, k93, hc, hk, lpR]
  | true =>
    by_cases h1 : least < 1
    · simp [c93, k93, hc, hk, lpR, h1]
    · by_cases h2 : (b.length : Int) < least
      · simp [c93, k93, hc, hk, lpR, h1, h2, h.lenV]
      · simp [c93, k93, hc, hk, lpR, h1, h2, h.lenV]
        refine WK_loop (fun k e G => G = H ∧ e 0 = x ∧ e 1 = .int .i64 least ∧ e 11 = .int .i64 ((b.length : Int) - k) ∧ k ≤ b.length - least.toNat + 1 ∧ LpS (allL b k) e 8 9 10 (-1) 0 0) (b.length + 1) ?_ (Nat.zero_le _) ⟨rfl, by simp, by simp, by simp, by omega, by rw [allL_zero]; simp [LpS]⟩
        rintro k e G _ hkl ⟨hG, h0, h1', h11, hkk, hS⟩
        obtain rfl := hG.symm
        by_cases hgo : least ≤ (b.length : Int) - k
        · have hkb : k < b.length := by omega
          simp [b93_2, h0, h1', h11, hgo]
          refine WP_forH 12 (k + 1) ((k : Int) + 1) (by omega) (by omega) (fun i e => e 0 = x ∧ e 1 = .int .i64 least ∧ e 11 = .int .i64 ((b.length : Int) - k) ∧ LpS (rowL b (b.length - k) (allL b k) i) e 8 9 10 (-1) 0 0) ?_ ?_ (by simp) ?_
          · rintro i e hi hii e5 h12 ⟨h0, h1', h11, hS⟩
            have c1 : IntKind.wrap .i64 ((i : Int) + ((b.length : Int) - k)) = (i : Int) + ((b.length : Int) - k) := wrap64 (by omega)
            have c2 : (i : Int) + ((b.length : Int) - k) ≤ b.length := by omega
            have c3 : IntKind.wrap .i64 ((i : Int) + ((b.length : Int) - k) - 1) = ((i + (b.length - k) - 1 : Nat) : Int) := by rw [wrap64 (by omega)]; omega
            obtain ⟨q, off, ver, ha, hr⟩ := h.get hw (i := i + (b.length - k) - 1) (by omega)
            obtain ⟨q', off', ver', ha', hr'⟩ := h.get hw (i := i) (by omega)
            have g1 := hw.fr (i := i + (b.length - k) - 1) (by omega)
            have g2 := hw.fr (i := i) (by omega)
            have hcj := call325 (pu := true) (H := H) g1.len g2.len hr hr'
            have hd := cntF_ok (f := mixF xorI (fr b (i + (b.length - k) - 1)) (fr b i))
            have hs := rowL_succ (b := b) (n := b.length - k) (o := allL b k) (i := i)
            obtain ⟨D, hD⟩ : ∃ D, D = difF (fr b (i + (b.length - k) - 1)) (fr b i) := ⟨_, rfl⟩
            change 0 ≤ difF _ _ ∧ difF _ _ ≤ 144 at hd
            rw [← hD] at hcj hd
            obtain ⟨N, hN⟩ : ∃ N, N = b.length - k := ⟨_, rfl⟩
            have hNi : ((b.length : Int) - k) = (N : Int) := by omega
            rw [hNi] at c1 c2 c3 h11
            rw [← hN] at hS c3 ha hr hD hs
            rw [hNi, ← hN, hs]
            cases ho : rowL b N (allL b k) i with
            | none =>
              rw [ho] at hS
              obtain ⟨s1, s2, s3⟩ := hS
              simp [b93_1, h12, h0, h1', h11, h.lenV, c1, c2, c3, ha, ha', hcj, s1, s2, s3, e5, stepL, LpS, skip, ← hD, hd]
              omega
            | some t =>
              obtain ⟨a, n, d⟩ := t
              rw [ho] at hS
              obtain ⟨s1, s2, s3, s4, s5, s6, s7⟩ := hS
              have hneg : ¬ ((a : Int) < 0) := by omega
              by_cases hlt : D < d
              · simp [b93_1, h12, h0, h1', h11, h.lenV, c1, c2, c3, ha, ha', hcj, s1, s2, s3, hneg, hlt, e5, stepL, LpS, skip, ← hD, hd]
                omega
              · simp [b93_1, h12, h0, h1', h11, h.lenV, c1, c2, c3, ha, ha', hcj, s1, s2, s3, hneg, hlt, e5, stepL, LpS, skip, ← hD, s4, s5, s6, s7]
          · rintro e h12 ⟨h0, h1', h11, hS⟩
            have c1 : IntKind.wrap .i64 ((k : Int) + 1 + ((b.length : Int) - k)) = (b.length : Int) + 1 := by rw [wrap64 (by omega)]; omega
            have c2 : ¬ ((b.length : Int) + 1 ≤ b.length) := by omega
            have c3 : IntKind.wrap .i64 ((b.length : Int) - k - 1) = (b.length : Int) - (k + 1) := by rw [wrap64 (by omega)]; omega
            rw [← allL_succ] at hS
            simp [b93_1, h12, h0, h1', h11, h.lenV, c1, c2, c3]
            refine ⟨by omega, by omega, ?_⟩
            simpa [LpS] using hS
          · refine ⟨by simp [h0], by simp [h1'], by simp [h11], ?_⟩
            rw [rowL_zero]
            simpa [LpS] using hS
        · have hke : k = b.length - least.toNat + 1 := by omega
          obtain ⟨a, n, d, hs⟩ := allL_some (b := b) (k := b.length - least.toNat)
          rw [hke, hs] at hS
          obtain ⟨s1, s2, s3, _⟩ := hS
          simp [b93_2, h1', h11, hgo, s1, s2, s3, hs]
/-- A list of which one knows the block. -/
def Own (G : Heap) (r : Value) (β : Option Nat) (n0 esz n : Nat) (vs : List Value) : Prop := vs.length = n * esz ∧ match β with
  | none => r = .slice none 0 0 ∧ n = 0
  | some b => n0 ≤ b ∧ ∃ ver cap rest, r = slc b 0 ver n cap ∧ n ≤ cap ∧ G[b]? = some ⟨vs ++ rest, esz, ver, false⟩
theorem Own.sl {G : Heap} {r : Value} {β : Option Nat} {n0 esz n : Nat} {vs : List Value} (h : Own G r β n0 esz n vs) : SlR G r esz n vs := by
  obtain ⟨hl, h⟩ := h
  cases β with
  | none => exact ⟨hl, .inl h⟩
  | some b =>
    obtain ⟨_, ver, cap, rest, rfl, hc, hg⟩ := h
    exact ⟨hl, .inr ⟨b, 0, ver, cap, rfl, hc, by rw [rd_at hg rfl (by simp [hl])]; simp [← hl], _, hg, rfl, rfl⟩⟩
theorem Own.pre {G G' : Heap} {r : Value} {β : Option Nat} {n0 esz n : Nat} {vs : List Value} (p : Pre G G') (h : Own G r β n0 esz n vs) : Own G' r β n0 esz n vs := by
  obtain ⟨L, rfl⟩ := p
  obtain ⟨hl, h⟩ := h
  refine ⟨hl, ?_⟩
  cases β with
  | none => exact h
  | some b =>
    obtain ⟨hb, ver, cap, rest, rfl, hc, hg⟩ := h
    exact ⟨hb, ver, cap, rest, rfl, hc, by rw [List.getElem?_append_left (List.getElem?_eq_some_iff.1 hg).1]; exact hg⟩
theorem Own.low {G : Heap} {r : Value} {β : Option Nat} {n0 n1 esz n : Nat} {vs : List Value} (h : Own G r β n0 esz n vs) (hn : n1 ≤ n0) : Own G r β n1 esz n vs := by
  obtain ⟨hl, h⟩ := h
  refine ⟨hl, ?_⟩
  cases β with
  | none => exact h
  | some b => exact ⟨Nat.le_trans hn h.1, h.2⟩
theorem Own.lt {G : Heap} {r : Value} {b : Nat} {n0 esz n : Nat} {vs : List Value} (h : Own G r (some b) n0 esz n vs) : n0 ≤ b ∧ b < G.length := by
  obtain ⟨hl, hb, ver, cap, rest, rfl, hc, hg⟩ := h
  exact ⟨hb, (List.getElem?_eq_some_iff.1 hg).1⟩
/-- Two heaps that differ in one block at most. -/
structure SameB (G G' : Heap) (β : Option Nat) : Prop where
  len : G'.length = G.length
  get : ∀ b, β ≠ some b → G'[b]? = G[b]?
theorem SameB.refl {G : Heap} {β : Option Nat} : SameB G G β := ⟨rfl, fun _ _ => rfl⟩
theorem SameB.set {G : Heap} {b : Nat} {k : Blk} : SameB G (G.set b k) (some b) := ⟨by simp, fun b' h => by rw [List.getElem?_set_ne]; intro h2; exact h (by rw [h2])⟩
theorem pre_of_get {H G : Heap} (hl : H.length ≤ G.length) (h : ∀ i, i < H.length → G[i]? = H[i]?) : Pre H G := by
  refine ⟨G.drop H.length, ?_⟩
  have : G.take H.length = H := List.ext_getElem? fun i => by
    rcases Nat.lt_or_ge i H.length with h1 | h1
    · rw [List.getElem?_take, if_pos h1, h i h1]
    · rw [List.getElem?_eq_none (by simp; omega), List.getElem?_eq_none h1]
  conv => lhs; rw [← List.take_append_drop H.length G, this]
theorem Pre.get {H G : Heap} (p : Pre H G) {i : Nat} (hi : i < H.length) : G[i]? = H[i]? := by
  obtain ⟨L, rfl⟩ := p
  rw [List.getElem?_append_left hi]
theorem SameB.pre {H G G' : Heap} {β : Option Nat} (s : SameB G G' β) (p : Pre H G) (hb : ∀ b, β = some b → H.length ≤ b) : Pre H G' :=
  pre_of_get (by rw [s.len]; exact p.len) fun i hi => by rw [s.get i fun h => by have := hb i h; omega, p.get hi]
theorem Own.below {G : Heap} {r : Value} {β : Option Nat} {n0 esz n : Nat} {vs : List Value} (h : Own G r β n0 esz n vs) : ∀ b, β = some b → n0 ≤ b := by
  rintro b rfl; exact h.2.1
theorem IsCp.own {H G : Heap} {x : Value} {esz n : Nat} {vs fc : List Value} (p : Pre H G) (h : IsCp (G ++ [⟨room vs n fc, esz, 0, false⟩]) x esz n vs fc) (hx : x = slc G.length 0 0 n (n + roomN n)) (hl : vs.length = n * esz) :
    Own (G ++ [⟨room vs n fc, esz, 0, false⟩]) x (some G.length) H.length esz n vs := ⟨hl, p.len, 0, _, _, hx, by omega, get_last⟩
theorem Gr.own {H G : Heap} {x : Value} {esz n : Nat} {vs : List Value} (g : Gr H G x esz n vs) (hn : NoRef vs) : finish H.length G [x] = (slc H.length 0 0 n n, H ++ [⟨vs, esz, 0, false⟩]) := g.fin hn
theorem set_self {G : Heap} {b : Nat} {k : Blk} (h : G[b]? = some k) : G.set b k = G := by
  apply List.ext_getElem?
  intro i
  rw [List.getElem?_set]
  split
  · rename_i h1; subst h1; rw [if_pos (List.getElem?_eq_some_iff.1 h).1, h]
  · rfl
def mkL (ms : Nat → Value) (m : Nat) : List Value := (List.range m).map ms
/-- A function that makes a list of its own, and a code. -/
def RsF (f : Nat) (esz n : Nat) (vs : List Value) (eszR nR : Nat) (vsR : List Value) (c : Int) : Prop := ∀ (G : Heap) (y : Value), SlR G y esz n vs →
  ∃ r G' β, Call tab true f [y] G = some (tup [r, .int .i64 c], G') ∧ Pre G G' ∧ Own G' r β G.length eszR nR vsR
theorem elder_pre {H G G' : Heap} {v : Value} (p : Pre H G) (p' : Pre H G') {wb : Bool} : elder H.length wb G (v, G') = some (v, G') := elder_same (by rw [p.take, p'.take])
/-- A list that has grown, handed back with a code. -/
theorem Gr.fin2 {H G : Heap} {x : Value} {esz n : Nat} {vs : List Value} (g : Gr H G x esz n vs) (hn : NoRef vs) {c : Int} : finish H.length G [x, .int .i64 c] = (tup [slc H.length 0 0 n n, .int .i64 c], H ++ [⟨vs, esz, 0, false⟩]) := by
  obtain ⟨b, ver, rfl, h1, h2, h3, h4⟩ := g
  have hne : old1 H.length (slc b 0 ver n n) = false := by
    show (true && decide (b < H.length)) = false
    simp; omega
  have : pack H.length G [slc b 0 ver n n, .int .i64 c] [] [] = some ([slc H.length 0 0 n n, .int .i64 c], [⟨vs, esz, 0, false⟩]) := by
    rw [pack, if_neg (by rw [hne]; decide)]
    show (match G[b]? with
      | some k => if ([] : List Nat).contains b = false ∧ ver = k.ver ∧ k.ro = false ∧ k.cells.all (old0 H.length) = true then (pack H.length G [.int .i64 c] [b] ([] ++ [{ k with ver := 0 }])).map fun (q : List Value × List Blk) => (slc (H.length + ([] : List Blk).length) 0 0 n n :: q.1, q.2) else none
      | none => none) = _
    rw [h1]
    simp only []
    rw [if_pos ⟨by simp, trivial, trivial, hn.all⟩]
    simp
  rw [finish_some this, h4.take]; rfl
theorem own_new {H : Heap} {esz n : Nat} {vs : List Value} (hl : vs.length = n * esz) : Own (H ++ [⟨vs, esz, 0, false⟩]) (slc H.length 0 0 n n) (some H.length) H.length esz n vs :=
  ⟨hl, Nat.le_refl _, 0, n, [], rfl, Nat.le_refl _, by rw [List.append_nil]; exact get_last⟩
theorem finish_nil2 {H G : Heap} {c : Int} : finish H.length G [.slice none 0 0, .int .i64 c] = (tup [.slice none 0 0, .int .i64 c], G.take H.length) := finish_vs (by simp)
def ghL (b : List (List Int)) (k : Nat) : List (List Int) := (List.range k).map fun i => mixF lessI (fr b i) (fr b (i + 1))
theorem ghL_len {b : List (List Int)} {k : Nat} : (ghL b k).length = k := by simp [ghL]
theorem rowsC_app {α : Type} {f : α → List Value} {a b : List α} : rowsC f (a ++ b) = rowsC f a ++ rowsC f b := by
  induction a with
  | nil => rfl
  | cons m r ih => simp only [List.cons_append, rowsC, List.append_assoc, ih]
theorem ghL_succ {b : List (List Int)} {k : Nat} : bkC (ghL b (k + 1)) = bkC (ghL b k) ++ cs .u16 (mixF lessI (fr b k) (fr b (k + 1))) := by
  unfold bkC
  rw [ghL, List.range_succ, List.map_append, rowsC_app]
  simp [rowsC, frC, ghL]
theorem ghL_W {b : List (List Int)} {k : Nat} : ∀ f ∈ ghL b k, f.length = 12 := by
  intro f hf
  obtain ⟨i, _, rfl⟩ := List.mem_map.1 hf
  exact mixF_length
def ghR (b : List (List Int)) : List (List Int) := if okB b = true then ghL b (b.length - 1) else []
def ghC (b : List (List Int)) : Int := if okB b = true then 0 else 1
theorem ghR_cells {b : List (List Int)} : (bkC (ghR b)).length = (ghR b).length * 12 := rows_length (f := frC) (esz := 12) fun f hf => by
  unfold ghR at hf; split at hf
  · simp [frC, ghL_W f hf]
  · simp at hf
theorem room24 {n : Nat} (h : n ≤ 1000000) : (n + 1) * 24 ≤ roomMax := by have : roomMax = 140737488355328 := rfl; omega
theorem fillF {f : List Int} (h : f.length = 12) : fill (rep 1 (cs .u16 (zr 12 0))) [(0, 12, iv .u16 f)] = some (cs .u16 f) := fill_one (by simp [h]) (by simp)
theorem call120 {b : List (List Int)} (hw : BkW b) (hn : b.length ≤ 1000000) : RsF 120 12 b.length (bkC b) 12 (ghR b).length (bkC (ghR b)) (ghC b) := by
  intro H x h
  have hc := call316 (pu := true) h hw (by omega)
  cases hk : okB b with
  | false =>
    refine ⟨.slice none 0 0, H, none, Call_wp t120 (.inr rfl) rfl ?_, .refl, by rw [ghR_cells], rfl, by simp [ghR, hk]⟩
    simp [c120, k120, hc, hk, finish_nil2, ghC]
  | true =>
    refine ⟨slc H.length 0 0 (ghR b).length (ghR b).length, H ++ [⟨bkC (ghR b), 12, 0, false⟩], some H.length, Call_wp t120 (.inr rfl) rfl ?_, Pre.one, own_new ghR_cells⟩
    have hr : ghR b = ghL b (b.length - 1) := by rw [ghR, if_pos hk]
    have hcode : ghC b = 0 := by rw [ghC, if_pos hk]
    simp [c120, k120, hc, hk, fill, rep]
    by_cases h0 : b.length = 0
    · have hlen : lenV x = some (.int .i64 0) := by rw [SlR.lenV h, h0]; rfl
      refine WK_loop (fun i e G => e 0 = x ∧ e 5 = .int .i64 1 ∧ ∃ g, e 4 = g ∧ Gr H G g 12 0 []) 0 ?_ (Nat.zero_le _) ⟨by simp, by simp, by simp; exact Gr.new .refl⟩
      rintro i e G _ hi ⟨h0', h5, g, h4, hg⟩
      have hfin := hg.fin2 (c := 0) (by intro v hv; simp at hv)
      have hnil : ghR b = [] := by rw [hr, h0]; rfl
      simp [b120_1, h5, h0', hlen, h4, hfin, hnil, hcode, bkC, rowsC]
    · refine WP_from 5 1 b.length _ rfl (fun i e G => e 0 = x ∧ ∃ g, e 4 = g ∧ Gr H G g 12 (i - 1) (bkC (ghL b (i - 1)))) (by omega) (by omega) ?_ ?_ (by simp) (by simp; exact Gr.new .refl)
      · rintro i e G hi1 hi hii e5 h5 ⟨h0', g, h4, hg⟩
        obtain ⟨q, off, ver, ha, hr1⟩ := Bk.get (h.pre hg.pre) hw (i := i - 1) (by omega)
        obtain ⟨q', off', ver', ha', hr2⟩ := Bk.get (h.pre hg.pre) hw (i := i) hi
        have l1 := (hw.fr (i := i - 1) (by omega)).len
        have l2 := (hw.fr (i := i) hi).len
        have c1 : IntKind.wrap .i64 ((i : Int) - 1) = ((i - 1 : Nat) : Int) := by rw [wrap64 (by omega)]; omega
        have hml : (mixF lessI (fr b (i - 1)) (fr b i)).length = 12 := mixF_length
        obtain ⟨g', G', hpush, hg'⟩ := hg.push (c := cs .u16 (mixF lessI (fr b (i - 1)) (fr b i))) (bytes := 24) (by simp [hml]) (room24 (by omega)) (wb := false)
        have hsucc := ghL_succ (b := b) (k := i - 1)
        rw [show i - 1 + 1 = i by omega] at hsucc hg'
        rw [← hsucc] at hg'
        simp [b120_1, h5, h0', h4, hii, h.lenV, c1, ha, hr1, ha', hr2, agg_cs, zs_cs, call350 l1 l2, fillF hml, hpush, wbOf, e5]
        exact hg'
      · rintro e G h5 ⟨h0', g, h4, hg⟩
        have hfin := hg.fin2 (c := 0) bkC_flat
        have hl : (ghL b (b.length - 1)).length = b.length - 1 := ghL_len
        simp [b120_1, h5, h0', h.lenV, h4, hfin, hr, hl, hcode]
/-- A list that grows, in a block that one knows. -/
def GrB (H G : Heap) (b : Nat) (x : Value) (esz n : Nat) (vs : List Value) : Prop := ∃ ver, x = slc b 0 ver n n ∧ G[b]? = some ⟨vs, esz, ver, false⟩ ∧ H.length ≤ b ∧ vs.length = n * esz ∧ Pre H G
theorem GrB.push {H G : Heap} {b : Nat} {x : Value} {esz n bytes : Nat} {vs c : List Value} (g : GrB H G b x esz n vs) (hc : c.length = esz) (hb : (n + 1) * bytes ≤ roomMax) {wb : Bool} :
    ∃ x' G', ((srcOf esz (G ++ [⟨c, esz, 0, false⟩]) (slc G.length 0 0 1 1)).bind fun q => appendTo H.length wb esz bytes (G ++ [⟨c, esz, 0, false⟩]) x q.1 q.2) = some (x', G') ∧ GrB H G' b x' esz (n + 1) (vs ++ c) ∧ ∀ b', b' ≠ b → b' < G.length → G'[b']? = G[b']? := by
  obtain ⟨ver, rfl, h1, h2, h3, h4⟩ := g
  have h1' : (G ++ [(⟨c, esz, 0, false⟩ : Blk)])[b]? = some ⟨vs, esz, ver, false⟩ := by rw [List.getElem?_append_left (List.getElem?_eq_some_iff.1 h1).1]; exact h1
  have e1 : srcOf esz (G ++ [⟨c, esz, 0, false⟩]) (slc G.length 0 0 1 1) = some (1, c) := by
    show (rd (G ++ [⟨c, esz, 0, false⟩]) G.length 0 0 (1 * esz)).map (fun cs => (1, cs)) = _
    rw [Nat.one_mul, rd_last rfl (by simpa using hc)]; rfl
  refine ⟨slc b 0 (ver + 1) (n + 1) (n + 1), (G ++ [(⟨c, esz, 0, false⟩ : Blk)]).set b ⟨vs ++ c, esz, ver + 1, false⟩, ?_, ⟨ver + 1, rfl, get_set h1', h2, by simp [h3, hc, Nat.succ_mul], (h4.app).set h2⟩, fun b' hne hlt => ?_⟩
  · rw [e1, Option.bind_some]
    exact appendTo_grow h1' rfl rfl (by simp [may, h2]) rfl h3.symm (by omega) hb
  · rw [List.getElem?_set_ne (fun h => hne h.symm), List.getElem?_append_left hlt]
/-- All of a list behind another one. -/
theorem Gr.append {H G : Heap} {x y : Value} {esz n m bytes : Nat} {vs ws : List Value} (g : Gr H G x esz n vs) (hy : SlR G y esz m ws) (hb : (n + m) * bytes ≤ roomMax) {wb : Bool} :
    ∃ x' G', ((srcOf esz G y).bind fun q => appendTo H.length wb esz bytes G x q.1 q.2) = some (x', G') ∧ ∃ b ver, (x' = slc b 0 ver (n + m) (n + m) ∧ H.length ≤ b ∧ G' = G.set b ⟨vs ++ ws, esz, ver, false⟩) ∧ Gr H G' x' esz (n + m) (vs ++ ws) := by
  obtain ⟨b, ver, rfl, h1, h2, h3, h4⟩ := g
  have e1 : srcOf esz G y = some (m, ws) := by
    rcases hy.is with ⟨rfl, rfl⟩ | ⟨c, off, v, cap, rfl, _, hr, _⟩
    · have : ws = [] := by have := hy.size; simpa using this
      rw [this]; rfl
    · show (rd G c off v (m * esz)).map (fun cs => (m, cs)) = _
      rw [hr]; rfl
  rw [e1, Option.bind_some]
  have hsz := hy.size
  rcases Nat.eq_zero_or_pos m with h0 | h0
  · subst h0
    have : ws = [] := by simpa using hsz
    subst this
    have hset : G.set b ⟨vs ++ [], esz, ver, false⟩ = G := by rw [List.append_nil]; exact set_self h1
    refine ⟨slc b 0 ver n n, G, ?_, b, ver, ⟨rfl, h2, hset.symm⟩, b, ver, rfl, by rw [List.append_nil]; exact h1, h2, by simpa using h3, h4⟩
    unfold appendTo slc
    simp only []
    rw [if_pos (by omega), wr_at h1 rfl rfl (by simp [may, h2]) (by simp [h3])]
    have : splice vs (0 + n * esz) [] = vs := by simp [splice]
    rw [this]
    show some (slc b 0 ver (n + 0) n, G.set b ⟨vs, esz, ver, false⟩) = _
    rw [set_self h1]; rfl
  · refine ⟨slc b 0 (ver + 1) (n + m) (n + m), G.set b ⟨vs ++ ws, esz, ver + 1, false⟩, appendTo_grow h1 rfl rfl (by simp [may, h2]) rfl h3.symm h0 hb, b, ver + 1, ⟨rfl, h2, rfl⟩, b, ver + 1, rfl, get_set h1, h2, by simp [h3, hsz, Nat.add_mul], h4.set h2⟩
theorem GrB.append {H G : Heap} {b : Nat} {x y : Value} {esz n m bytes : Nat} {vs ws : List Value} (g : GrB H G b x esz n vs) (hy : SlR G y esz m ws) (hb : (n + m) * bytes ≤ roomMax) {wb : Bool} :
    ∃ x' G', ((srcOf esz G y).bind fun q => appendTo H.length wb esz bytes G x q.1 q.2) = some (x', G') ∧ GrB H G' b x' esz (n + m) (vs ++ ws) ∧ G'.length = G.length ∧ ∀ b', b' ≠ b → G'[b']? = G[b']? := by
  obtain ⟨ver, rfl, h1, h2, h3, h4⟩ := g
  have e1 : srcOf esz G y = some (m, ws) := by
    rcases hy.is with ⟨rfl, rfl⟩ | ⟨c, off, v, cap, rfl, _, hr, _⟩
    · have : ws = [] := by have := hy.size; simpa using this
      rw [this]; rfl
    · show (rd G c off v (m * esz)).map (fun cs => (m, cs)) = _
      rw [hr]; rfl
  rw [e1, Option.bind_some]
  have hsz := hy.size
  rcases Nat.eq_zero_or_pos m with h0 | h0
  · subst h0
    have : ws = [] := by simpa using hsz
    subst this
    refine ⟨slc b 0 ver n n, G, ?_, ⟨ver, rfl, by rw [List.append_nil]; exact h1, h2, by simpa using h3, h4⟩, rfl, fun _ _ => rfl⟩
    unfold appendTo slc
    simp only []
    rw [if_pos (by omega), wr_at h1 rfl rfl (by simp [may, h2]) (by simp [h3])]
    have : splice vs (0 + n * esz) [] = vs := by simp [splice]
    rw [this]
    show some (slc b 0 ver (n + 0) n, G.set b ⟨vs, esz, ver, false⟩) = _
    rw [set_self h1]; rfl
  · refine ⟨slc b 0 (ver + 1) (n + m) (n + m), G.set b ⟨vs ++ ws, esz, ver + 1, false⟩, appendTo_grow h1 rfl rfl (by simp [may, h2]) rfl h3.symm h0 hb, ⟨ver + 1, rfl, get_set h1, h2, by simp [h3, hsz, Nat.add_mul], h4.set h2⟩, by simp, fun b' hne => ?_⟩
    rw [List.getElem?_set_ne fun h => hne h.symm]
structure Sted where
  a : Int
  b : Int
  c : Int
  d : Int
  rows : List (Int × Int)
instance : Inhabited Sted := ⟨⟨0, 0, 0, 0, []⟩⟩
structure StW (s : Sted) : Prop where
  a : i8 s.a
  b : i8 s.b
  c : i8 s.c
  d : i8 s.d
  rows : ∀ m ∈ s.rows, i8 m.1 ∧ u16' m.2
/-- The cells of a step. -/
def stC (s : Sted) (y : Value) : List Value := [.int .i8 s.a, .int .i8 s.b, .int .i8 s.c, .int .i8 s.d, y]
/-- The rows of a step in memory. -/
abbrev Rw (G : Heap) (y : Value) (s : Sted) : Prop := SlR G y 2 s.rows.length (chsC s.rows)
abbrev RwC (G : Heap) (y : Value) (s : Sted) : Prop := IsCp G y 2 s.rows.length (chsC s.rows) chF
/-- Steps in memory. -/
def StS (G : Heap) (x : Value) (l : List Sted) : Prop := ∃ vs, SlR G x 5 l.length vs ∧ ∀ i, i < l.length → ∃ y, elem vs 5 i = stC (at0 l i) y ∧ Rw G y (at0 l i)
theorem StS.pre {H G : Heap} {x : Value} {l : List Sted} (p : Pre H G) (h : StS H x l) : StS G x l := by
  obtain ⟨vs, h1, h2⟩ := h
  exact ⟨vs, h1.pre p, fun i hi => by obtain ⟨y, h3, h4⟩ := h2 i hi; exact ⟨y, h3, h4.pre p⟩⟩
theorem StS.lenV {G : Heap} {x : Value} {l : List Sted} (h : StS G x l) : lenV x = some (.int .i64 l.length) := by
  obtain ⟨vs, h1, _⟩ := h; exact h1.lenV
theorem StS.get {G : Heap} {x : Value} {l : List Sted} (h : StS G x l) {i : Nat} (hi : i < l.length) : ∃ q off ver y, idxAV 5 x (.int .i64 (i : Int)) = some (adr q off ver) ∧ rd G q off ver 5 = some (stC (at0 l i) y) ∧ Rw G y (at0 l i) := by
  obtain ⟨vs, h1, h2⟩ := h
  obtain ⟨q, off, ver, h3, h4⟩ := h1.get1 hi
  obtain ⟨y, h5, h6⟩ := h2 i hi
  rw [h5] at h4
  exact ⟨q, off, ver, y, h3, h4, h6⟩
/-- A copy of steps: what stands in the block, whatever stands in that block itself. -/
structure CpI (H G : Heap) (b : Nat) (flag : Bool) (s : Sted) (y : Value) : Prop where
  r : ∀ k, Rw (G.set b k) y s
  n : y = .slice none 0 0 ∨ old0 H.length y = false
  c : flag = false → (∀ k, RwC (G.set b k) y s) ∧ old0 H.length y = false
theorem CpI.set {H G : Heap} {b : Nat} {flag : Bool} {s : Sted} {y : Value} {k : Blk} (h : CpI H G b flag s y) : CpI H (G.set b k) b flag s y := ⟨fun k' => by rw [set_set]; exact h.r k', h.n, fun hf => ⟨fun k' => by rw [set_set]; exact (h.c hf).1 k', (h.c hf).2⟩⟩
theorem set_pre {G G' : Heap} {b : Nat} {k : Blk} (p : Pre G G') (hb : b < G.length) : Pre (G.set b k) (G'.set b k) := by
  obtain ⟨L, rfl⟩ := p
  exact ⟨L, by rw [List.set_append_left _ _ hb]⟩
theorem CpI.pre {H G G' : Heap} {b : Nat} {flag : Bool} {s : Sted} {y : Value} (h : CpI H G b flag s y) (p : Pre G G') (hb : b < G.length) : CpI H G' b flag s y :=
  ⟨fun k => (h.r k).pre (set_pre p hb), h.n, fun hf => ⟨fun k => ((h.c hf).1 k).pre (set_pre p hb), (h.c hf).2⟩⟩
def stpF : Sted := ⟨-101, -101, -101, -101, [(-101, 60201)]⟩
/-- Steps copied, with room behind. -/
def CpS (G : Heap) (x : Value) (l : List Sted) : Prop := ∃ b ver vs, x = slc b 0 ver l.length (l.length + roomN l.length) ∧ G[b]? = some ⟨vs, 5, ver, false⟩ ∧ vs.length = (l.length + roomN l.length) * 5 ∧
  (∀ i, i < l.length → ∃ y, elem vs 5 i = stC (at0 l i) y ∧ RwC G y (at0 l i)) ∧ ∀ i, l.length ≤ i → i < l.length + roomN l.length → ∃ y, elem vs 5 i = stC stpF y ∧ Rw G y stpF
theorem CpS.sl {G : Heap} {x : Value} {l : List Sted} (h : CpS G x l) : StS G x l := by
  obtain ⟨b, ver, vs, rfl, hg, hl, h1, h2⟩ := h
  have e1 : l.length * 5 ≤ vs.length := by omega
  refine ⟨vs.take (l.length * 5), ⟨by simp; omega, .inr ⟨b, 0, ver, _, rfl, by omega, by rw [rd_at hg rfl (by simp; omega)]; simp, _, hg, rfl, rfl⟩⟩, fun i hi => ?_⟩
  obtain ⟨y, h3, h4⟩ := h1 i hi
  exact ⟨y, by rw [elem_take hi, h3], h4.sl chsC_length rfl⟩
theorem CpS.pre {H G : Heap} {x : Value} {l : List Sted} (p : Pre H G) (h : CpS H x l) : CpS G x l := by
  obtain ⟨b, ver, vs, rfl, hg, hl, h1, h2⟩ := h
  refine ⟨b, ver, vs, rfl, by rw [p.get (List.getElem?_eq_some_iff.1 hg).1]; exact hg, hl, fun i hi => ?_, fun i hi hi2 => ?_⟩
  · obtain ⟨y, h3, h4⟩ := h1 i hi; exact ⟨y, h3, h4.pre p⟩
  · obtain ⟨y, h3, h4⟩ := h2 i hi hi2; exact ⟨y, h3, h4.pre p⟩
theorem mem_elem {C : List Value} {esz i : Nat} {v : Value} (h : v ∈ elem C esz i) : v ∈ C := List.mem_of_mem_drop (List.mem_of_mem_take h)
/-- A call, and what holds of what it comes to. -/
theorem Call_ex {T : Tab} {pu : Bool} {f : Nat} {F : Fn} (hT : T f = some (.fn F)) (hp : pu = false ∨ F.kind = .pure) {xs : List Value} {H : Heap} {P : Value × Heap → Prop} (hn : xs.length = F.np)
    (h : WK T H.length (wbOf F.kind) F.body [] (ini xs) H fun x e' H' => (∀ i, x ≠ .exit i) ∧ ∃ r, (resVs e' H' F.res).map (finish H.length H') = some r ∧ P r) : ∃ r, Call T pu f xs H = some r ∧ P r := by
  obtain ⟨x, e', H', hr, hx, r, q, p⟩ := h
  exact ⟨r, Call_wp0 hT hp hn ⟨x, e', H', hr, hx, q⟩, p⟩
def rw' (s : Sted) (j : Nat) : Int × Int := at0 s.rows j
def in1 (n lo hi : Int) : Bool := decide (lo ≤ n ∧ n ≤ hi)
def rowB (s : Sted) (j : Nat) : Bool := in1 (rw' s j).1 0 11 && in1 (rw' s j).2 1 4095 && (decide (j = 0) || decide ((rw' s (j - 1)).1 < (rw' s j).1))
def rowsB (s : Sted) : Bool := allN (rowB s) s.rows.length
def stillB (s : Sted) : Bool := (s.c == 0) && (s.d == 0)
def kindB (s : Sted) (i : Nat) : Bool :=
  if (s.a == 0) = true then (s.b == 0) && stillB s else if (s.a == 1) = true then in1 s.b 0 ((i : Int) - 1) && stillB s
  else if (s.a == 2) = true then in1 s.b 0 ((i : Int) - 1) && !stillB s && in1 s.c (-12) 12 && in1 s.d (-12) 12 else false
def okSt (s : Sted) (i : Nat) : Bool := rowsB s && kindB s i
def okSts (l : List Sted) : Bool := allN (fun i => okSt (at0 l i) i) l.length && decide (l.length ≤ 40)
theorem in295 {pu : Bool} {H : Heap} {n lo hi : Int} : Call tab pu 295 [.int .i64 n, .int .i64 lo, .int .i64 hi] H = some (.bool (in1 n lo hi), H) := call295
theorem in304 {pu : Bool} {H : Heap} {n lo hi : Int} : Call tab pu 304 [.int .i64 n, .int .i64 lo, .int .i64 hi] H = some (.bool (in1 n lo hi), H) := call304
theorem StW.row {s : Sted} (h : StW s) {j : Nat} (hj : j < s.rows.length) : i8 (rw' s j).1 ∧ u16' (rw' s j).2 := h.rows _ (at0_mem hj)
structure StsW (l : List Sted) : Prop where
  w : ∀ s ∈ l, StW s
  n : l.length ≤ 1000000
  r : ∀ s ∈ l, s.rows.length ≤ 1000000
theorem okSt_a {s : Sted} {i : Nat} (h : okSt s i = true) : 0 ≤ s.a ∧ s.a ≤ 2 := by
  simp only [okSt, kindB, Bool.and_eq_true] at h
  obtain ⟨_, h⟩ := h
  by_cases h0 : (s.a == 0) = true
  · simp at h0; omega
  · rw [if_neg h0] at h
    by_cases h1 : (s.a == 1) = true
    · simp at h1; omega
    · rw [if_neg h1] at h
      by_cases h2 : (s.a == 2) = true
      · simp at h2; omega
      · rw [if_neg h2] at h; cases h
theorem okSts_get {l : List Sted} (h : okSts l = true) {i : Nat} (hi : i < l.length) : okSt (at0 l i) i = true := by
  simp only [okSts, Bool.and_eq_true] at h
  exact allN_get (p := fun i => okSt (at0 l i) i) h.1 hi
structure StsC (l : List Sted) : Prop where
  n : l.length ≤ 1000000
  a : ∀ i, i < l.length → 0 ≤ (at0 l i).a ∧ (at0 l i).a ≤ 2
  r : ∀ s ∈ l, s.rows.length ≤ 1000000
theorem StsC.of {l : List Sted} (hw : StsW l) (hk : okSts l = true) : StsC l := ⟨hw.n, fun i hi => okSt_a (okSts_get hk hi), hw.r⟩
theorem bne_T {a b : Int} (h : (a == b) = false) : (a != b) = true := by rw [bne, h]; rfl
theorem bne_F {a b : Int} (h : (a == b) = true) : (a != b) = false := by rw [bne, h]; rfl
def ms2 (c : Int) (i : Nat) : Value := if i % 2 = 0 then .int .i8 (IntKind.wrap .i8 (c + i)) else .int .u16 (IntKind.wrap .u16 (c + i))
/-- A copy of steps while marks are being written over it. -/
structure MkI (G G' : Heap) (b ver lo hi n : Nat) (y : Nat → Value) (m : Nat → Nat) : Prop where
  len : G'.length = G.length
  fr : ∀ j, j < lo ∨ hi ≤ j → G'[j]? = G[j]?
  inb : lo ≤ b ∧ b < hi
  out : ∃ vs, G'[b]? = some ⟨vs, 5, ver, false⟩ ∧ n * 5 ≤ vs.length ∧ ∀ i, i < n → vs[i * 5 + 4]? = some (y i)
  row : ∀ i, i < n → ∃ b' ver' cap' ws, y i = slc b' 0 ver' (m i) cap' ∧ lo ≤ b' ∧ b' < hi ∧ b' ≠ b ∧ G'[b']? = some ⟨ws, 2, ver', false⟩ ∧ m i * 2 ≤ ws.length
theorem MkI.rows {G G' : Heap} {b ver lo hi n : Nat} {y : Nat → Value} {m : Nat → Nat} (h : MkI G G' b ver lo hi n y m) {b' ver' : Nat} {ws ws' : List Value} (hb : lo ≤ b' ∧ b' < hi) (hne : b' ≠ b) (hg : G'[b']? = some ⟨ws, 2, ver', false⟩) (hw : ws'.length = ws.length) :
    MkI G (G'.set b' ⟨ws', 2, ver', false⟩) b ver lo hi n y m := by
  refine ⟨by simp [h.len], fun j hj => ?_, h.inb, ?_, fun i hi => ?_⟩
  · rw [List.getElem?_set_ne (by omega)]
    exact h.fr j hj
  · obtain ⟨vs, h1, h2⟩ := h.out
    exact ⟨vs, by rw [List.getElem?_set_ne hne]; exact h1, h2⟩
  · obtain ⟨b2, ver2, cap2, ws2, h1, h2, h3, h4, h5, h6⟩ := h.row i hi
    by_cases hb2 : b' = b2
    · subst hb2
      rw [hg] at h5
      cases h5
      exact ⟨b', ver', cap2, ws', h1, h2, h3, h4, get_set hg, by rw [hw]; exact h6⟩
    · exact ⟨b2, ver2, cap2, ws2, h1, h2, h3, h4, by rw [List.getElem?_set_ne hb2]; exact h5, h6⟩
def mkS (m : Nat → Nat) (i : Nat) : Nat := itN (fun i v => v + 4 + m i * 2) 0 i
theorem Own.agree {G G' : Heap} {r : Value} {β : Option Nat} {n0 esz n : Nat} {vs : List Value} (h : Own G r β n0 esz n vs) (hne : ∀ b, β = some b → G'[b]? = G[b]?) : Own G' r β n0 esz n vs := by
  obtain ⟨hl, h⟩ := h
  refine ⟨hl, ?_⟩
  cases β with
  | none => exact h
  | some b =>
    obtain ⟨hb, ver, cap, rest, rfl, hc, hg⟩ := h
    exact ⟨hb, ver, cap, rest, rfl, hc, by rw [hne b rfl]; exact hg⟩
/- Lists of numbers. -/
theorem elem_i {l : List Int} {k : IntKind} {i : Nat} (h : i < l.length) : elem (cs k l) 1 i = [.int k (nth l i)] := by
  unfold elem; rw [Nat.mul_one]; exact cs_one h
theorem cs_push {k : IntKind} {l : List Int} {a : Int} : cs k l ++ [.int k a] = cs k (l ++ [a]) := by simp [cs]
/-- A row from its bits. -/
def rowN (q : Nat → Bool) (m : Nat) : Nat := itN (fun i v => v ||| if q i = true then 2 ^ i else 0) 0 m
theorem rowN_succ {q : Nat → Bool} {m : Nat} : rowN q (m + 1) = rowN q m ||| if q m = true then 2 ^ m else 0 := itN_succ
theorem rowN_bit {q : Nat → Bool} {m x : Nat} : (rowN q m).testBit x = (decide (x < m) && q x) := by
  induction m with
  | zero => simp [rowN, itN_zero]
  | succ m ih =>
    rw [rowN_succ, Nat.testBit_or, ih]
    by_cases h : x = m
    · subst h
      cases hq : q x <;> simp
    · have h2 : decide (x < m + 1) = decide (x < m) := by apply decide_eq_decide.2; omega
      rw [h2]
      cases hq : q m
      · simp
      · simp [Nat.testBit_two_pow]; omega
theorem rowN_lt {q : Nat → Bool} {m : Nat} : rowN q m < 2 ^ m := by
  apply Nat.lt_pow_two_of_testBit
  intro i hi
  rw [rowN_bit]
  simp; omega
theorem rowN_eq {q : Nat → Bool} {n m : Nat} (hn : n < 2 ^ m) (h : ∀ x, x < m → n.testBit x = q x) : n = rowN q m := by
  apply Nat.eq_of_testBit_eq
  intro x
  rw [rowN_bit]
  by_cases hx : x < m
  · rw [h x hx]; simp [hx]
  · simp [hx]
    exact Nat.testBit_lt_two_pow (Nat.lt_of_lt_of_le hn (Nat.pow_le_pow_right (by omega) (by omega)))
/-- A frame from its dots. -/
def dotsF (p : Nat → Nat → Bool) : List Int := tabN 12 fun y => ((rowN (fun x => p x y) 12 : Nat) : Int)
theorem dotsF_length {p : Nat → Nat → Bool} : (dotsF p).length = 12 := by simp [dotsF, tabN]
theorem dotsF_nth {p : Nat → Nat → Bool} {y : Nat} (hy : y < 12) : nth (dotsF p) y = ((rowN (fun x => p x y) 12 : Nat) : Int) := nth_tabN hy
theorem dotsF_W {p : Nat → Nat → Bool} : FrW (dotsF p) := ⟨dotsF_length, fun n hn => by
  obtain ⟨i, hi, rfl⟩ := List.getElem_of_mem hn
  rw [dotsF_length] at hi
  have h1 := dotsF_nth (p := p) hi
  have h2 := rowN_lt (q := fun x => p x i) (m := 12)
  rw [nth_of (List.getElem?_eq_getElem (by rw [dotsF_length]; exact hi))] at h1
  rw [h1]; simp only [u16']; omega⟩
theorem dotsF_ok {p : Nat → Nat → Bool} : okF (dotsF p) = true := by
  apply List.all_eq_true.2
  intro n hn
  obtain ⟨i, hi, rfl⟩ := List.getElem_of_mem hn
  rw [dotsF_length] at hi
  have h1 := dotsF_nth (p := p) hi
  have h2 := rowN_lt (q := fun x => p x i) (m := 12)
  rw [nth_of (List.getElem?_eq_getElem (by rw [dotsF_length]; exact hi))] at h1
  rw [h1]; simp only [okRow, decide_eq_true_eq]; omega
theorem list12 {f g : List Int} (hf : f.length = 12) (hg : g.length = 12) (h : ∀ y, y < 12 → nth f y = nth g y) : f = g := by
  apply List.ext_getElem (by omega)
  intro i h1 h2
  have := h i (by omega)
  rw [nth_of (List.getElem?_eq_getElem h1), nth_of (List.getElem?_eq_getElem h2)] at this
  exact this
theorem dotsF_congr {p q : Nat → Nat → Bool} (h : ∀ x y, x < 12 → y < 12 → p x y = q x y) : dotsF p = dotsF q := by
  refine list12 dotsF_length dotsF_length fun y hy => ?_
  rw [dotsF_nth hy, dotsF_nth hy]
  congr 1
  apply rowN_eq rowN_lt
  intro x hx
  rw [rowN_bit]; simp [hx, h x y hx hy]
theorem dotsF_none : dotsF (fun _ _ => false) = zr 12 0 := by
  refine list12 dotsF_length (by simp) fun y hy => ?_
  rw [dotsF_nth hy, nth_zr]
  have : rowN (fun _ => false) 12 = 0 := (rowN_eq (by decide) fun x hx => by simp).symm
  simp [this]
theorem bit_nat {x : Nat} : bit x = ((2 ^ x : Nat) : Int) := by simp [bit]
theorem or_nat {a b : Nat} (ha : a < 65536) (hb : b < 65536) : bitsOf .or .u16 (a : Int) (b : Int) = ((a ||| b : Nat) : Int) := by
  have e0 : IntKind.bits .u16 = 16 := rfl
  unfold bitsOf
  simp only []
  have hl : a ||| b < 2 ^ 16 := Nat.or_lt_two_pow ha hb
  have e1 : (BitVec.ofInt (IntKind.bits .u16) (a : Int) ||| BitVec.ofInt (IntKind.bits .u16) (b : Int)).toNat = a ||| b := by
    rw [BitVec.toNat_or, e0, BitVec.ofInt_natCast, BitVec.ofInt_natCast, BitVec.toNat_ofNat, BitVec.toNat_ofNat, Nat.mod_eq_of_lt (by omega), Nat.mod_eq_of_lt (by omega)]
  rw [e1, wrapu16 (by omega)]
theorem putF_dots {p : Nat → Nat → Bool} {x y : Nat} (hx : x < 12) (hy : y < 12) : putF (dotsF p) x y = dotsF fun x' y' => p x' y' || (decide (x' = x) && decide (y' = y)) := by
  refine list12 (by rw [putF_length, dotsF_length]) dotsF_length fun j hj => ?_
  rw [dotsF_nth hj, putF, nth_set (by rw [dotsF_length]; exact hy)]
  have hlt := rowN_lt (q := fun x => p x y) (m := 12)
  have h2 : 2 ^ x < 2 ^ 12 := Nat.pow_lt_pow_right (by omega) hx
  by_cases h : y = j
  · subst h
    rw [if_pos rfl, dotsF_nth hj, putR, bit_nat, or_nat (by omega) (by omega)]
    congr 1
    apply rowN_eq (Nat.or_lt_two_pow hlt h2)
    intro x' hx'
    rw [Nat.testBit_or, rowN_bit, Nat.testBit_two_pow]
    simp only [hx', decide_true, Bool.true_and, Bool.and_true]
    congr 1
    apply decide_eq_decide.2
    omega
  · rw [if_neg h, dotsF_nth hj]
    congr 1
    apply rowN_eq rowN_lt
    intro x' hx'
    have h3 : ¬ j = y := fun h2 => h h2.symm
    rw [rowN_bit]
    simp [hx', h3]
/-- The dots of a frame that has been moved. -/
def mvP (f : List Int) (dx dy : Int) (x y : Nat) : Bool := decide (0 ≤ (x : Int) - dx ∧ (x : Int) - dx < 12 ∧ 0 ≤ (y : Int) - dy ∧ (y : Int) - dy < 12) && hasF f ((x : Int) - dx).toNat ((y : Int) - dy).toNat
def shF (f : List Int) (dx dy : Int) : List Int := dotsF (mvP f dx dy)
/-- One dot put at its new place, if that is one. -/
def mv1 (dx dy : Int) (k : Nat) (s : List Int) : List Int :=
  if 0 ≤ ((k % 12 : Nat) : Int) + dx ∧ ((k % 12 : Nat) : Int) + dx < 12 ∧ 0 ≤ ((k / 12 : Nat) : Int) + dy ∧ ((k / 12 : Nat) : Int) + dy < 12 then putF s (((k % 12 : Nat) : Int) + dx).toNat (((k / 12 : Nat) : Int) + dy).toNat else s
def mvS (dx dy : Int) (L : List Nat) : List Int := L.foldl (fun s k => mv1 dx dy k s) (zr 12 0)
theorem mvS_snoc {dx dy : Int} {L : List Nat} {k : Nat} : mvS dx dy (L ++ [k]) = mv1 dx dy k (mvS dx dy L) := by simp [mvS]
theorem mvS_dots {dx dy : Int} {L : List Nat} : mvS dx dy L = dotsF fun x y => decide (∃ k ∈ L, ((k % 12 : Nat) : Int) + dx = x ∧ ((k / 12 : Nat) : Int) + dy = y) := by
  suffices h : ∀ n, ∀ L : List Nat, L.length = n → mvS dx dy L = dotsF fun x y => decide (∃ k ∈ L, ((k % 12 : Nat) : Int) + dx = x ∧ ((k / 12 : Nat) : Int) + dy = y) from h _ L rfl
  intro n
  induction n with
  | zero =>
    intro L hL
    obtain rfl := List.length_eq_zero_iff.1 hL
    rw [show mvS dx dy [] = zr 12 0 from rfl, ← dotsF_none]
    apply dotsF_congr
    intro x y _ _
    simp
  | succ n ih =>
    intro L hL
    obtain ⟨L', k, rfl⟩ : ∃ L' k, L = L' ++ [k] := by
      refine ⟨L.dropLast, L.getLast (by intro h; rw [h] at hL; cases hL), (List.dropLast_concat_getLast _).symm⟩
    rw [mvS_snoc, ih L' (by simpa using hL), mv1]
    split
    · rename_i h
      rw [putF_dots (by omega) (by omega)]
      apply dotsF_congr
      intro x y hx hy
      rw [Bool.eq_iff_iff]
      simp only [Bool.or_eq_true, Bool.and_eq_true, decide_eq_true_eq, List.mem_append, List.mem_singleton]
      constructor
      · rintro (⟨j, h1, h2⟩ | ⟨h1, h2⟩)
        · exact ⟨j, .inl h1, h2⟩
        · exact ⟨k, .inr rfl, by omega, by omega⟩
      · rintro ⟨j, h1 | rfl, h2, h3⟩
        · exact .inl ⟨j, h1, h2, h3⟩
        · exact .inr ⟨by omega, by omega⟩
    · rename_i h
      apply dotsF_congr
      intro x y hx hy
      rw [Bool.eq_iff_iff]
      simp only [decide_eq_true_eq, List.mem_append, List.mem_singleton]
      constructor
      · rintro ⟨j, h1, h2⟩
        exact ⟨j, .inl h1, h2⟩
      · rintro ⟨j, h1 | rfl, h2, h3⟩
        · exact ⟨j, h1, h2, h3⟩
        · exact absurd ⟨by omega, by omega, by omega, by omega⟩ h
theorem mvS_all {f : List Int} {dx dy : Int} : mvS dx dy (dotL f 144) = shF f dx dy := by
  rw [mvS_dots]
  apply dotsF_congr
  intro x y hx hy
  rw [Bool.eq_iff_iff]
  simp only [mvP, Bool.and_eq_true, decide_eq_true_eq]
  simp only [dotL, List.mem_filter, List.mem_range]
  constructor
  · rintro ⟨k, ⟨h1, h2⟩, h3, h4⟩
    have e1 : ((x : Int) - dx).toNat = k % 12 := by omega
    have e2 : ((y : Int) - dy).toNat = k / 12 := by omega
    refine ⟨by omega, ?_⟩
    rw [e1, e2]; exact h2
  · rintro ⟨h1, h2⟩
    refine ⟨((y : Int) - dy).toNat * 12 + ((x : Int) - dx).toNat, ⟨by omega, ?_⟩, by omega, by omega⟩
    rw [hasK_yx (by omega)]; exact h2
/- The rows, moved at once. -/
theorem and_4095 {n : Nat} (h : n ≤ 65535) : bitsOf .and .u16 (n : Int) 4095 = ((n % 4096 : Nat) : Int) := by
  have e0 : IntKind.bits .u16 = 16 := rfl
  unfold bitsOf
  simp only []
  have e1 : (BitVec.ofInt (IntKind.bits .u16) (n : Int) &&& BitVec.ofInt (IntKind.bits .u16) 4095).toNat = n % 4096 := by
    have e2 : n % 2 ^ 16 = n := Nat.mod_eq_of_lt (by omega)
    rw [BitVec.toNat_and, e0, BitVec.ofInt_natCast, BitVec.toNat_ofNat, show (BitVec.ofInt 16 4095).toNat = 2 ^ 12 - 1 from rfl, e2, Nat.and_two_pow_sub_one_eq_mod]
  rw [e1, wrapu16 (by omega)]
theorem shl_nat {n d : Nat} (hd : d ≤ 12) : shiftOf .shl .u16 (n : Int) (d : Int) = some (.int .u16 ((n * 2 ^ d % 65536 : Nat) : Int)) := by
  unfold shiftOf
  rw [if_neg (by omega)]
  have e1 : min ((d : Int).toNat) (IntKind.bits .u16) = d := by
    have : IntKind.bits .u16 = 16 := rfl
    omega
  simp only [e1]
  have e2 : (n : Int) * 2 ^ d = ((n * 2 ^ d : Nat) : Int) := by simp
  rw [e2]
  show some (Value.int .u16 (((n * 2 ^ d : Nat) : Int) % 65536)) = _
  congr 2
theorem shr_nat {n d : Nat} (hd : d ≤ 12) : shiftOf .shr .u16 (n : Int) (d : Int) = some (.int .u16 ((n / 2 ^ d : Nat) : Int)) := by
  unfold shiftOf
  rw [if_neg (by omega)]
  have e1 : min ((d : Int).toNat) (IntKind.bits .u16) = d := by
    have : IntKind.bits .u16 = 16 := rfl
    omega
  simp only [e1]
  have e2 : (2 : Int) ^ d = ((2 ^ d : Nat) : Int) := by simp
  rw [e2, Int.fdiv_eq_ediv_of_nonneg _ (Int.natCast_nonneg _), ← Int.natCast_ediv]
/-- One row of a frame that has been moved. -/
def mvR (f : List Int) (dx dy : Int) (y : Nat) : Int := nth (shF f dx dy) y
theorem mvR_shl {f : List Int} {d y n : Nat} {dy : Int} (hy : y < 12) (hsy : 0 ≤ (y : Int) - dy ∧ (y : Int) - dy < 12) (hn : nth f ((y : Int) - dy).toNat = n) : mvR f d dy y = ((n * 2 ^ d % 4096 : Nat) : Int) := by
  rw [mvR, shF, dotsF_nth hy]
  congr 1
  refine (rowN_eq (m := 12) (Nat.mod_lt _ (by decide)) fun x hx => ?_).symm
  rw [Nat.testBit_mod_two_pow, Nat.testBit_mul_two_pow]
  rw [Bool.eq_iff_iff]
  simp only [mvP, hasF, hn, dotB_bit, Bool.and_eq_true, decide_eq_true_eq]
  constructor
  · rintro ⟨_, h1, h2⟩
    refine ⟨by omega, ?_⟩
    rw [show ((x : Int) - d).toNat = x - d by omega]; exact h2
  · rintro ⟨h1, h2⟩
    refine ⟨hx, by omega, ?_⟩
    rw [show ((x : Int) - d).toNat = x - d by omega] at h2; exact h2
theorem mvR_shr {f : List Int} {d y n : Nat} {dy : Int} (hy : y < 12) (hsy : 0 ≤ (y : Int) - dy ∧ (y : Int) - dy < 12) (hn : nth f ((y : Int) - dy).toNat = n) (hlt : n < 4096) : mvR f (-(d : Int)) dy y = ((n / 2 ^ d : Nat) : Int) := by
  rw [mvR, shF, dotsF_nth hy]
  congr 1
  refine (rowN_eq (m := 12) (Nat.lt_of_le_of_lt (Nat.div_le_self _ _) hlt) fun x hx => ?_).symm
  rw [Nat.testBit_div_two_pow]
  rw [Bool.eq_iff_iff]
  simp only [mvP, hasF, hn, dotB_bit, Bool.and_eq_true, decide_eq_true_eq]
  have e1 : ((x : Int) - -(d : Int)).toNat = x + d := by omega
  rw [e1]
  constructor
  · intro h2
    refine ⟨?_, h2⟩
    have : ¬ (12 ≤ x + d) := fun h => by
      have := Nat.testBit_lt_two_pow (x := n) (i := x + d) (Nat.lt_of_lt_of_le hlt (Nat.pow_le_pow_right (n := 2) (by omega) h))
      rw [this] at h2; cases h2
    omega
  · rintro ⟨_, h2⟩
    exact h2
theorem mvR_off {f : List Int} {dx dy : Int} {y : Nat} (hy : y < 12) (h : ¬ (0 ≤ (y : Int) - dy ∧ (y : Int) - dy < 12)) : mvR f dx dy y = 0 := by
  rw [mvR, shF, dotsF_nth hy]
  have : rowN (fun x => mvP f dx dy x y) 12 = 0 := (rowN_eq (by decide) fun x hx => by
    simp only [mvP]
    rw [decide_eq_false (by omega)]; simp).symm
  rw [this]; rfl
theorem shF_far {f : List Int} {dx dy : Int} (h : ¬ (-12 ≤ dx ∧ dx ≤ 12)) : shF f dx dy = zr 12 0 := by
  rw [← dotsF_none]
  apply dotsF_congr
  intro x y hx hy
  simp only [mvP]
  rw [decide_eq_false (by omega)]; simp
/-- A moved frame, made so far. -/
def shU (f : List Int) (dx dy : Int) (k : Nat) : List Int := tabN 12 fun y => if y < k then mvR f dx dy y else 0
theorem shU_zero {f : List Int} {dx dy : Int} : shU f dx dy 0 = zr 12 0 :=
  (tabN_of (by simp) fun i _ => by rw [nth_zr]; simp).symm
theorem shU_all {f : List Int} {dx dy : Int} : shU f dx dy 12 = shF f dx dy :=
  (tabN_of (by rw [shF, dotsF_length]) fun i hi => by rw [if_pos hi]; rfl).symm
theorem shU_length {f : List Int} {dx dy : Int} {k : Nat} : (shU f dx dy k).length = 12 := tabN_length
theorem shU_set {f : List Int} {dx dy : Int} {k : Nat} (hk : k < 12) {v : Int} (hv : mvR f dx dy k = v) : (shU f dx dy k).set k v = shU f dx dy (k + 1) :=
  tabN_set hk (by rw [if_pos (by omega), hv]) fun i _ hi => by
    by_cases h : i < k
    · rw [if_pos h, if_pos (by omega)]
    · rw [if_neg h, if_neg (by omega)]
theorem shU_skip {f : List Int} {dx dy : Int} {k : Nat} (hk : k < 12) (h0 : mvR f dx dy k = 0) : shU f dx dy k = shU f dx dy (k + 1) :=
  tabN_ext fun i _ => by
    by_cases h : i < k
    · rw [if_pos h, if_pos (by omega)]
    · by_cases h2 : i = k
      · subst h2; rw [if_neg h, if_pos (by omega), h0]
      · rw [if_neg h, if_neg (by omega)]
theorem shF_length {f : List Int} {dx dy : Int} : (shF f dx dy).length = 12 := dotsF_length
theorem call358 {pu : Bool} {H : Heap} {f : List Int} {dx dy : Int} (hw : FrW f) (hk : okF f = true) (hx : -1000 ≤ dx ∧ dx ≤ 1000) (hy : -1000 ≤ dy ∧ dy ≤ 1000) : Call tab pu 358 [iv .u16 f, .int .i64 dx, .int .i64 dy] H = some (iv .u16 (shF f dx dy), H) := by
  refine Call_wp t358 (.inr rfl) rfl ?_
  have hl := hw.len
  have hz := stc_zr (k := .u16) (n := 12) (l := zr 12 0) (by simp)
  have hz2 := stc_zr (k := .u16) (n := 12) (l := shF f dx dy) shF_length
  cases hb : in1 dx (-12) 12 with
  | false =>
    have hf : shF f dx dy = zr 12 0 := shF_far (by simpa [in1] using hb)
    simp [c358, k358, zs_cs, agg_cs, fill, hz, in295, hb, hf]
  | true =>
    have hb' : -12 ≤ dx ∧ dx ≤ 12 := by simpa [in1] using hb
    simp [c358, k358, zs_cs, agg_cs, fill, hz, in295, hb]
    refine WP_forH 15 12 12 rfl (by omega) (fun i e => e 1 = .int .i64 dx ∧ e 2 = .int .i64 dy ∧ e 3 = iv .u16 f ∧ e 6 = iv .u16 (zr 12 0) ∧ e 7 = iv .u16 (shU f dx dy i)) ?_ ?_ (by simp) (by simp [shU_zero])
    · rintro y e hy12 hyy e4 h15 ⟨h1, h2, h3, h6, h7⟩
      have u1 : IntKind.wrap .i64 ((y : Int) - dy) = (y : Int) - dy := wrap64 (by omega)
      cases hs : in1 ((y : Int) - dy) 0 11 with
      | false =>
        have h0 := mvR_off (f := f) (dx := dx) (dy := dy) hy12 (by simp only [in1, decide_eq_false_iff_not] at hs; omega)
        have hsk := shU_skip hy12 h0
        simp [b358_1, h15, h1, h2, h3, h6, h7, hyy, u1, in295, hs, e4, hsk]
      | true =>
        have hs' : 0 ≤ (y : Int) - dy ∧ (y : Int) - dy < 12 := by simp only [in1, decide_eq_true_eq] at hs; omega
        obtain ⟨m, hm⟩ : ∃ m : Nat, (y : Int) - dy = m := ⟨((y : Int) - dy).toNat, by omega⟩
        have hm12 : m < 12 := by omega
        obtain ⟨n, hn, hn4⟩ := okF_row hk hw hm12
        have hn' : nth f ((y : Int) - dy).toNat = n := by rw [hm]; exact hn
        rw [hm] at hs u1
        have hlu := shU_length (f := f) (dx := dx) (dy := dy) (k := y)
        by_cases hd : 0 ≤ dx
        · obtain ⟨d, rfl⟩ := Int.eq_ofNat_of_zero_le hd
          have hd12 : d ≤ 12 := by omega
          have hv := mvR_shl (f := f) (d := d) (dy := dy) hy12 hs' hn'
          have hst := shU_set hy12 hv
          have q1 := shl_nat (n := n) hd12
          have q2 := and_4095 (n := n * 2 ^ d % 65536) (by omega)
          rw [Nat.mod_mod_of_dvd _ (by decide)] at q2
          have e9 := stc_at (k := .u16) (l := shU f d dy y) (by omega) hst
          simp (disch := omega) [b358_1, h15, h1, h2, h3, h6, h7, hyy, u1, hm, in295, hs, hm12, hl, hn, q1, q2, hy12, hlu, e9, e4, -Int.natCast_emod, -Int.natCast_mul, -Int.natCast_pow]
        · obtain ⟨d, rfl⟩ : ∃ d : Nat, dx = -(d : Int) := ⟨(-dx).toNat, by omega⟩
          have hd12 : d ≤ 12 := by omega
          have hv := mvR_shr (f := f) (d := d) (dy := dy) hy12 hs' hn' hn4
          have hst := shU_set hy12 hv
          have q1 := shr_nat (n := n) hd12
          have e9 := stc_at (k := .u16) (l := shU f (-(d : Int)) dy y) (by omega) hst
          have u2 : IntKind.wrap .i64 (d : Int) = (d : Int) := wrap64 (by omega)
          have hd0 : ¬ d = 0 := by omega
          simp (disch := omega) [b358_1, h15, h1, h2, h3, h6, h7, hyy, u1, hm, in295, hs, hm12, hl, hn, hd0, q1, u2, hy12, hlu, e9, e4, -Int.natCast_ediv, -Int.natCast_pow]
    · rintro e h15 ⟨h1, h2, h3, h6, h7⟩
      rw [shU_all] at h7
      simp [b358_1, h15, h6, h7, hz2, shF_length, agg_cs]
theorem put_off {G : Heap} {b : Nat} {x y : Int} (h : okP x y = false) : Call tab false 305 [adr b 0 0, .int .i64 x, .int .i64 y] G = some (tup [], G) := by
  refine Call_wp t305 (.inl rfl) rfl ?_
  simp [c305, k305, placeS, h]
theorem mv1_in {dx dy : Int} {x y u v : Nat} {s : List Int} (hx : x < 12) (e1 : (x : Int) + dx = u) (e2 : (y : Int) + dy = v) (hu : u < 12) (hv : v < 12) : mv1 dx dy (y * 12 + x) s = putF s u v := by
  have m1 : (y * 12 + x) % 12 = x := by omega
  have m2 : (y * 12 + x) / 12 = y := by omega
  rw [mv1, m1, m2, e1, e2, if_pos (by omega)]; rfl
theorem mv1_out {dx dy : Int} {x y : Nat} {s : List Int} (hx : x < 12) (h : okP ((x : Int) + dx) ((y : Int) + dy) = false) : mv1 dx dy (y * 12 + x) s = s := by
  have m1 : (y * 12 + x) % 12 = x := by omega
  have m2 : (y * 12 + x) / 12 = y := by omega
  rw [mv1, m1, m2, if_neg]
  intro h2
  have : okP ((x : Int) + dx) ((y : Int) + dy) = true := by simp [okP]; omega
  rw [this] at h; cases h
theorem mvS_length {dx dy : Int} {L : List Nat} : (mvS dx dy L).length = 12 := by rw [mvS_dots, dotsF_length]
theorem call355 {pu : Bool} {H : Heap} {q off ver : Nat} {f : List Int} {dx dy : Int} (hw : FrW f) (hr : rd H q off ver 12 = some (cs .u16 f)) (hx : -1000 ≤ dx ∧ dx ≤ 1000) (hy : -1000 ≤ dy ∧ dy ≤ 1000) :
    Call tab pu 355 [adr q off ver, .int .i64 dx, .int .i64 dy] H = some (iv .u16 (shF f dx dy), H) := by
  refine Call_wp t355 (.inr rfl) rfl ?_
  have hl := hw.len
  have hz := stc_zr (k := .u16) (n := 12) (l := shF f dx dy) shF_length
  have hle := dotL_len (f := f) (k := 144)
  obtain ⟨G0, hG0⟩ : ∃ G0, G0 = H ++ [⟨cs .u16 (zr 12 0), 1, 0, false⟩] := ⟨_, rfl⟩
  have hP0 : Pre H G0 := by rw [hG0]; exact Pre.one
  have hlen0 : G0.length = H.length + 1 := by rw [hG0]; simp
  have hc := call440 (pu := true) hw (hP0.rd hr)
  have hwr : wr H.length false (H ++ [⟨cs .u16 (zr 12 0), 1, 0, false⟩]) H.length 0 0 (cs .u16 (zr 12 0)) = some G0 := by
    rw [wr_at get_last rfl rfl (by simp [may]) (by simp), hG0]
    simp [splice]
  simp [c355, k355, zs_cs, agg_cs, fill, rep, hwr, wbOf, hc]
  refine WP_count 9 (dotL f 144).length _ rfl (fun j e G => e 1 = .int .i64 dx ∧ e 2 = .int .i64 dy ∧ e 6 = iv .u16 (zr 12 0) ∧ e 7 = adr H.length 0 0 ∧ e 8 = slc G0.length 0 0 (dotL f 144).length (dotL f 144).length ∧
    G = H ++ [⟨cs .u16 (mvS dx dy ((dotL f 144).take j)), 1, 0, false⟩, ⟨dotC f 144, 2, 0, false⟩]) (by omega) ?_ ?_ (by simp) ⟨by simp, by simp, by simp, by simp, by simp, by rw [hG0]; simp; rfl⟩
  · rintro j e _ _ hj hjj e4 h9 ⟨h1, h2, h6, h7, h8, rfl⟩
    obtain ⟨y, x, hp, hy12, hx12, hni, htk⟩ := dotL_at hj
    obtain ⟨F, hF⟩ : ∃ F, F = mvS dx dy ((dotL f 144).take j) := ⟨_, rfl⟩
    have hFl : F.length = 12 := by rw [hF, mvS_length]
    have hF1 : mvS dx dy ((dotL f 144).take (j + 1)) = mv1 dx dy (y * 12 + x) F := by rw [htk, mvS_snoc, hF]
    rw [hF1, ← hF]
    obtain ⟨G, hG⟩ : ∃ G, G = H ++ [⟨cs .u16 F, 1, 0, false⟩, ⟨dotC f 144, 2, 0, false⟩] := ⟨_, rfl⟩
    have hGG : G = H ++ [⟨cs .u16 F, 1, 0, false⟩] ++ [⟨dotC f 144, 2, 0, false⟩] := by rw [hG]; simp
    have pG : G[G0.length]? = some ⟨dotC f 144, 2, 0, false⟩ := by
      rw [hGG, hlen0]
      have := get_last (H := H ++ [⟨cs .u16 F, 1, 0, false⟩]) (b := ⟨dotC f 144, 2, 0, false⟩)
      rw [List.length_append] at this
      exact this
    have pF : G[H.length]? = some ⟨cs .u16 F, 1, 0, false⟩ := by
      rw [hGG, List.getElem?_append_left (by simp)]; exact get_last
    have hcl : (dotC f 144).length = (dotL f 144).length * 2 := by rw [dotC, mvsC_length]; simp
    have hs0 : SlR G (slc G0.length 0 0 (dotL f 144).length (dotL f 144).length) 2 (dotL f 144).length (dotC f 144) := ⟨hcl, .inr ⟨_, 0, 0, _, rfl, Nat.le_refl _, by rw [rd_at pG rfl (by simp [hcl])]; simp [take_all (Nat.le_of_eq hcl)], _, pG, rfl, rfl⟩⟩
    obtain ⟨b, o, v, ha, hr2⟩ := hs0.get1 hj
    have hel : elem (dotC f 144) 2 j = mvC ((x : Int), (y : Int)) := by
      rw [dotC, mvsC_elem (by simpa using hj), mv_map hj, hp, dotM_yx hx12]
    rw [hel] at hr2
    have d0 := rd_part hr2 (o := 0) (m := 1) (by omega)
    have d1 := rd_part hr2 (o := 1) (m := 1) (by omega)
    simp [mvC] at d0 d1
    have w1 : IntKind.wrap .i64 (x : Int) = x := wrap64 (by omega)
    have w2 : IntKind.wrap .i64 (y : Int) = y := wrap64 (by omega)
    have c1 : IntKind.wrap .i64 ((x : Int) + dx) = (x : Int) + dx := wrap64 (by omega)
    have c2 : IntKind.wrap .i64 ((y : Int) + dy) = (y : Int) + dy := wrap64 (by omega)
    rw [← hG]
    cases ho : okP ((x : Int) + dx) ((y : Int) + dy) with
    | false =>
      have hpo := put_off (G := G) (b := H.length) ho
      rw [mv1_out hx12 ho]
      simp [b355_1, h9, h1, h2, h6, h7, h8, hjj, ha, d0, d1, w1, w2, c1, c2, hpo, wbOf, e4, ← hG]
    | true =>
      obtain ⟨u, v, eu, ev, hu, hv⟩ := okP_get ho
      have hput := call305 (x := u) (y := v) pF hFl hu hv
      rw [mv1_in hx12 eu ev hu hv]
      have hset : G.set H.length ⟨cs .u16 (putF F u v), 1, 0, false⟩ = H ++ [⟨cs .u16 (putF F u v), 1, 0, false⟩, ⟨dotC f 144, 2, 0, false⟩] := by
        rw [hGG, List.set_append_left _ _ (by simp), set_last]; simp
      rw [hset] at hput
      rw [eu] at c1
      rw [ev] at c2
      have hel2 : elder H.length false G (tup [], H ++ [⟨cs .u16 (putF F u v), 1, 0, false⟩, ⟨dotC f 144, 2, 0, false⟩]) = some (tup [], H ++ [⟨cs .u16 (putF F u v), 1, 0, false⟩, ⟨dotC f 144, 2, 0, false⟩]) := elder_same (by rw [hG]; simp)
      simp [b355_1, h9, h1, h2, h6, h7, h8, hjj, ha, d0, d1, w1, w2, eu, ev, c1, c2, hput, hel2, wbOf, e4]
  · rintro e _ _ h9 ⟨h1, h2, h6, h7, h8, rfl⟩
    have hrd : rd (H ++ [⟨cs .u16 (mvS dx dy ((dotL f 144).take (dotL f 144).length)), 1, 0, false⟩, ⟨dotC f 144, 2, 0, false⟩]) H.length 0 0 12 = some (cs .u16 (shF f dx dy)) := by
      rw [List.take_length, mvS_all]
      have := rd_app (L := [⟨dotC f 144, 2, 0, false⟩]) (rd_last (H := H) (b := ⟨cs .u16 (shF f dx dy), 1, 0, false⟩) (n := 12) rfl (by simp [shF_length]))
      simpa using this
    rw [List.take_length] at hrd
    simp [b355_1, h9, h6, h7, h8, hrd, hz, shF_length, agg_cs]
theorem shF_still {f : List Int} (hw : FrW f) (hk : okF f = true) : shF f 0 0 = f := by
  refine list12 shF_length hw.len fun y hy => ?_
  obtain ⟨n, hn, hlt⟩ := okF_row hk hw hy
  have := mvR_shl (f := f) (d := 0) (y := y) (n := n) (dy := 0) hy (by omega) (by rw [show ((y : Int) - 0).toNat = y by omega]; exact hn)
  rw [hn]
  have e : n * 2 ^ 0 % 4096 = n := by rw [Nat.pow_zero, Nat.mul_one, Nat.mod_eq_of_lt hlt]
  rw [e] at this
  exact this
def sameBk (D b : List (List Int)) : Bool := ((D.length : Int) == b.length) && allN (fun i => decide (fr D i = fr b i)) D.length
theorem same323 {pu : Bool} {H : Heap} {x y : Value} {D b : List (List Int)} (hx : Bk H x D) (hy : Bk H y b) (hw : BkW D) (hw' : BkW b) (hn : D.length ≤ 1000000) : Call tab pu 323 [x, y] H = some (.bool (sameBk D b), H) := by
  refine Call_wp t323 (.inr rfl) rfl ?_
  by_cases hl : D.length = b.length
  rotate_left
  · have hle : (((D.length : Int)) == b.length) = false := beq_false_of_ne fun h => hl (by omega)
    simp [c323, k323, SlR.lenV hx, SlR.lenV hy, bne_T hle, hle, sameBk]
  have hle : (((D.length : Int)) == b.length) = true := by simp [hl]
  have hst : sameBk D b = allN (fun i => decide (fr D i = fr b i)) D.length := by simp [sameBk, hle]
  simp [c323, k323, SlR.lenV hx, SlR.lenV hy, bne_F hle]
  refine WP_forH 5 D.length _ rfl (by omega) (fun i e => e 0 = x ∧ e 1 = y ∧ ∀ j, j < i → decide (fr D j = fr b j) = true) ?_ ?_ (by simp) ⟨by simp, by simp, fun j hj => by omega⟩
  · rintro i e hi hlt e4 h5 ⟨h0, h1, hp⟩
    obtain ⟨q, off, ver, ha, hr⟩ := Bk.get hx hw hi
    obtain ⟨q', off', ver', ha', hr'⟩ := Bk.get hy hw' (i := i) (by omega)
    have l1 := (hw.fr hi).len
    have l2 := (hw'.fr (i := i) (by omega)).len
    cases hd : decide (fr D i = fr b i) with
    | true =>
      simp [b323_1, h5, h0, h1, hlt, SlR.lenV hx, ha, hr, ha', hr', agg_cs, eqV_iv l1 l2, hd, e4, -decide_eq_true_eq, -decide_eq_false_iff_not]
      exact upto_succ hp hd
    | false =>
      have : allN (fun i => decide (fr D i = fr b i)) D.length = false := allN_false hi hd
      simp [b323_1, h5, h0, h1, hlt, SlR.lenV hx, ha, hr, ha', hr', agg_cs, eqV_iv l1 l2, hd, hst, this, -decide_eq_true_eq, -decide_eq_false_iff_not]
  · rintro e h5 ⟨h0, h1, hp⟩
    have : allN (fun i => decide (fr D i = fr b i)) D.length = true := allN_true hp
    simp [b323_1, h5, h0, SlR.lenV hx, hst, this]
/-- A list that has grown, or is none yet. -/
def GrN (H G : Heap) (x : Value) (esz n : Nat) (vs : List Value) : Prop := Gr H G x esz n vs ∨ (x = .slice none 0 0 ∧ n = 0 ∧ vs = [] ∧ Pre H G)
theorem GrN.pre {H G : Heap} {x : Value} {esz n : Nat} {vs : List Value} (g : GrN H G x esz n vs) : Pre H G := by
  rcases g with g | ⟨_, _, _, p⟩
  · exact g.pre
  · exact p
theorem GrN.sl {H G : Heap} {x : Value} {esz n : Nat} {vs : List Value} (g : GrN H G x esz n vs) : SlR G x esz n vs := by
  rcases g with g | ⟨rfl, rfl, rfl, _⟩
  · exact g.sl
  · exact ⟨by simp, .inl ⟨rfl, rfl⟩⟩
theorem GrN.push {H G : Heap} {x : Value} {esz n bytes : Nat} {vs c : List Value} (g : GrN H G x esz n vs) (hc : c.length = esz) (hb : (n + 1) * bytes ≤ roomMax) {wb : Bool} :
    ∃ x' G', ((srcOf esz (G ++ [⟨c, esz, 0, false⟩]) (slc G.length 0 0 1 1)).bind fun q => appendTo H.length wb esz bytes (G ++ [⟨c, esz, 0, false⟩]) x q.1 q.2) = some (x', G') ∧ GrN H G' x' esz (n + 1) (vs ++ c) := by
  rcases g with g | ⟨rfl, rfl, rfl, p⟩
  · obtain ⟨x', G', h1, h2⟩ := g.push hc hb (wb := wb)
    exact ⟨x', G', h1, .inl h2⟩
  · have e1 : srcOf esz (G ++ [⟨c, esz, 0, false⟩]) (slc G.length 0 0 1 1) = some (1, c) := by
      show (rd (G ++ [⟨c, esz, 0, false⟩]) G.length 0 0 (1 * esz)).map (fun cs => (1, cs)) = _
      rw [Nat.one_mul, rd_last rfl (by simpa using hc)]; rfl
    refine ⟨slc (G ++ [(⟨c, esz, 0, false⟩ : Blk)]).length 0 0 1 1, G ++ [(⟨c, esz, 0, false⟩ : Blk)] ++ [⟨c, esz, 0, false⟩], ?_, .inl ⟨_, 0, rfl, get_last, ?_, by simp [hc], (p.app).app⟩⟩
    · rw [e1, Option.bind_some]
      unfold appendTo
      simp only []
      rw [if_neg (by decide), if_pos (by simpa using hb)]
    · have := p.len
      simp; omega
theorem GrN.old {H G : Heap} {x : Value} {esz n : Nat} {vs : List Value} (g : GrN H G x esz n vs) : x = .slice none 0 0 ∨ old0 H.length x = false := by
  rcases g with ⟨b, ver, rfl, _, h, _⟩ | ⟨rfl, _⟩
  · right; rw [old0_slc]; simp; omega
  · exact .inl rfl
/-- A step in a block of its own. -/
structure StO (H G : Heap) (P : Nat) (s : Sted) (y : Value) : Prop where
  pre : Pre H G
  ge : H.length ≤ P
  blk : G[P]? = some ⟨stC s y, 1, 0, false⟩
  row : ∃ b, y = slc b 0 0 s.rows.length s.rows.length ∧ H.length ≤ b ∧ b ≠ P ∧ G[b]? = some ⟨chsC s.rows, 2, 0, false⟩
theorem StO.rd {H G : Heap} {P : Nat} {s : Sted} {y : Value} (h : StO H G P s y) : rd G P 0 0 5 = some (stC s y) := by
  rw [rd_at h.blk rfl (by simp [stC])]; rfl
theorem StO.app {H G G' : Heap} {P : Nat} {s : Sted} {y : Value} (p : Pre G G') (h : StO H G P s y) : StO H G' P s y := by
  refine ⟨h.pre.trans p, h.ge, by rw [p.get (List.getElem?_eq_some_iff.1 h.blk).1]; exact h.blk, ?_⟩
  obtain ⟨b, e, h1, h2, h3⟩ := h.row
  exact ⟨b, e, h1, h2, by rw [p.get (List.getElem?_eq_some_iff.1 h3).1]; exact h3⟩
theorem GrN.app {H G G' : Heap} {x : Value} {esz n : Nat} {vs : List Value} (g : GrN H G x esz n vs) (p : Pre G G') : GrN H G' x esz n vs := by
  rcases g with g | ⟨e1, e2, e3, q⟩
  · obtain ⟨L, rfl⟩ := p
    exact .inl g.app
  · exact .inr ⟨e1, e2, e3, q.trans p⟩
theorem GrN.low {H G G' : Heap} {x : Value} {esz n : Nat} {vs : List Value} (g : GrN G G' x esz n vs) (p : Pre H G) : GrN H G' x esz n vs := by
  rcases g with ⟨b, ver, e1, e2, e3, e4, q⟩ | ⟨e1, e2, e3, q⟩
  · exact .inl ⟨b, ver, e1, e2, Nat.le_trans p.len e3, e4, p.trans q⟩
  · exact .inr ⟨e1, e2, e3, p.trans q⟩
theorem okFs_get {b : List (List Int)} (h : okFs b = true) {i : Nat} (hi : i < b.length) : okF (fr b i) = true := List.all_eq_true.1 (show b.all okF = true from h) _ (at0_mem hi)
structure StP (H G : Heap) (P : Nat) (s : Sted) (y : Value) : Prop where
  ge : H.length ≤ P
  blk : G[P]? = some ⟨stC s y, 1, 0, false⟩
  row : GrN H G y 2 s.rows.length (chsC s.rows)
theorem StP.rd {H G : Heap} {P : Nat} {s : Sted} {y : Value} (h : StP H G P s y) : rd G P 0 0 5 = some (stC s y) := by
  rw [rd_at h.blk rfl (by simp [stC])]; rfl
theorem StP.app {H G G' : Heap} {P : Nat} {s : Sted} {y : Value} (p : Pre G G') (h : StP H G P s y) : StP H G' P s y :=
  ⟨h.ge, by rw [p.get (List.getElem?_eq_some_iff.1 h.blk).1]; exact h.blk, h.row.app p⟩
theorem GrN.set {H G : Heap} {y : Value} {n P : Nat} {vs : List Value} {k k' : Blk} (g : GrN H G y 2 n vs) (ge : H.length ≤ P) (hP : G[P]? = some k) (hk : k.esz = 1) : GrN H (G.set P k') y 2 n vs := by
  rcases g with ⟨b, ver, e1, e2, e3, e4, q⟩ | ⟨e1, e2, e3, q⟩
  · have hne : P ≠ b := by
      rintro rfl
      rw [hP] at e2
      cases e2
      cases hk
    exact .inl ⟨b, ver, e1, by rw [List.getElem?_set_ne hne]; exact e2, e3, e4, q.set ge⟩
  · exact .inr ⟨e1, e2, e3, q.set ge⟩
/-- A list of steps that grows: the rows stand in blocks of their own. -/
def GrS (H G : Heap) (x : Value) (l : List Sted) : Prop := ∃ b ver vs, x = slc b 0 ver l.length l.length ∧ G[b]? = some ⟨vs, 5, ver, false⟩ ∧ H.length ≤ b ∧ vs.length = l.length * 5 ∧ Pre H G ∧
  ∀ i, i < l.length → ∃ y, elem vs 5 i = stC (at0 l i) y ∧ GrN H G y 2 (at0 l i).rows.length (chsC (at0 l i).rows)
theorem GrN.put {H G : Heap} {y : Value} {n P : Nat} {vs : List Value} {k k' : Blk} (g : GrN H G y 2 n vs) (ge : H.length ≤ P) (hP : G[P]? = some k) (hk : k.esz ≠ 2) : GrN H (G.set P k') y 2 n vs := by
  rcases g with ⟨b, ver, e1, e2, e3, e4, q⟩ | ⟨e1, e2, e3, q⟩
  · have hne : P ≠ b := by
      rintro rfl
      rw [hP] at e2
      cases e2
      exact hk rfl
    exact .inl ⟨b, ver, e1, by rw [List.getElem?_set_ne hne]; exact e2, e3, e4, q.set ge⟩
  · exact .inr ⟨e1, e2, e3, q.set ge⟩
theorem GrS.new {H G : Heap} (p : Pre H G) : GrS H (G ++ [⟨[], 5, 0, false⟩]) (slc G.length 0 0 0 0) [] := ⟨_, _, _, rfl, get_last, p.len, by simp, p.app, fun i hi => by simp at hi⟩
theorem GrS.pre {H G : Heap} {x : Value} {l : List Sted} (g : GrS H G x l) : Pre H G := by obtain ⟨_, _, _, _, _, _, _, p, _⟩ := g; exact p
theorem at0_app {α : Type} [Inhabited α] {l : List α} {a : α} {i : Nat} : at0 (l ++ [a]) i = if i < l.length then at0 l i else if i = l.length then a else default := by
  unfold at0
  by_cases h : i < l.length
  · rw [if_pos h]; simp [List.getD_eq_getElem?_getD, List.getElem?_append_left h]
  · rw [if_neg h]
    by_cases h2 : i = l.length
    · rw [if_pos h2]; subst h2; simp [List.getD_eq_getElem?_getD]
    · rw [if_neg h2, List.getD_eq_getElem?_getD, List.getElem?_eq_none (by simp; omega)]; rfl
theorem GrS.push {H G : Heap} {x : Value} {l : List Sted} {s : Sted} {y : Value} (g : GrS H G x l) (hy : GrN H G y 2 s.rows.length (chsC s.rows)) (hb : (l.length + 1) * 32 ≤ roomMax) {wb : Bool} :
    ∃ x' G', ((srcOf 5 (G ++ [⟨stC s y, 5, 0, false⟩]) (slc G.length 0 0 1 1)).bind fun q => appendTo H.length wb 5 32 (G ++ [⟨stC s y, 5, 0, false⟩]) x q.1 q.2) = some (x', G') ∧ GrS H G' x' (l ++ [s]) ∧ ∀ (b' : Nat) (k : Blk), G[b']? = some k → k.esz ≠ 5 → G'[b']? = some k := by
  obtain ⟨b, ver, vs, rfl, h1, h2, h3, h4, h5⟩ := g
  obtain ⟨G1, hG1⟩ : ∃ G1, G1 = G ++ [(⟨stC s y, 5, 0, false⟩ : Blk)] := ⟨_, rfl⟩
  have p1 : Pre G G1 := by rw [hG1]; exact Pre.one
  have h1' : G1[b]? = some ⟨vs, 5, ver, false⟩ := by rw [p1.get (List.getElem?_eq_some_iff.1 h1).1]; exact h1
  have e1 : srcOf 5 G1 (slc G.length 0 0 1 1) = some (1, stC s y) := by
    show (rd G1 G.length 0 0 (1 * 5)).map (fun cs => (1, cs)) = _
    rw [Nat.one_mul, hG1, rd_last rfl (by simp [stC])]; rfl
  rw [← hG1]
  have hl : (stC s y).length = 5 := rfl
  refine ⟨slc b 0 (ver + 1) (l.length + 1) (l.length + 1), G1.set b ⟨vs ++ stC s y, 5, ver + 1, false⟩, ?_, ⟨b, ver + 1, vs ++ stC s y, by simp, get_set h1', h2, by simp [h3, hl]; omega, (h4.trans p1).set h2, fun i hi => ?_⟩, fun b' k hk he => ?_⟩
  · rw [e1, Option.bind_some]
    exact appendTo_grow h1' rfl rfl (by simp [may, h2]) rfl h3.symm (by omega) hb
  · rw [at0_app]
    by_cases hil : i < l.length
    · rw [if_pos hil]
      obtain ⟨y', e2, e3⟩ := h5 i hil
      have hm := mul_next (esz := 5) hil
      refine ⟨y', ?_, (e3.app p1).put h2 h1' (by simp)⟩
      rw [← e2]
      unfold elem
      rw [List.drop_append_of_le_length (by omega), List.take_append_of_le_length (by simp; omega)]
    · have hie : i = l.length := by simp at hi; omega
      rw [if_neg hil, if_pos hie]
      subst hie
      refine ⟨y, ?_, (hy.app p1).put h2 h1' (by simp)⟩
      unfold elem
      rw [← h3, List.drop_left, List.take_of_length_le (by rw [hl]; omega)]
  · have hne : b ≠ b' := by
      rintro rfl
      rw [h1] at hk
      cases hk
      exact he rfl
    rw [List.getElem?_set_ne hne, p1.get (List.getElem?_eq_some_iff.1 hk).1]
    exact hk
/-- Only blocks of one kind have changed. -/
def KeepE (e : Nat) (G G' : Heap) : Prop := ∀ (b : Nat) (k : Blk), G[b]? = some k → k.esz ≠ e → G'[b]? = some k
theorem KeepE.pre {e : Nat} {G G' : Heap} (p : Pre G G') : KeepE e G G' := fun b k h _ => by rw [p.get (List.getElem?_eq_some_iff.1 h).1]; exact h
theorem KeepE.trans {e : Nat} {A B C : Heap} (h : KeepE e A B) (h' : KeepE e B C) : KeepE e A C := fun b k q n => h' b k (h b k q n) n
theorem GrN.keep {e : Nat} {H G G' : Heap} {y : Value} {n : Nat} {vs : List Value} (g : GrN H G y 2 n vs) (k : KeepE e G G') (he : e ≠ 2) (p : Pre H G') : GrN H G' y 2 n vs := by
  rcases g with ⟨b, ver, e1, e2, e3, e4, _⟩ | ⟨e1, e2, e3, _⟩
  · exact .inl ⟨b, ver, e1, k _ _ e2 (by simp only []; omega), e3, e4, p⟩
  · exact .inr ⟨e1, e2, e3, p⟩
theorem GrS.keep {e : Nat} {H G G' : Heap} {x : Value} {l : List Sted} (g : GrS H G x l) (k : KeepE e G G') (he : e ≠ 2) (he5 : e ≠ 5) (p : Pre H G') : GrS H G' x l := by
  obtain ⟨b, ver, vs, e1, h1, h2, h3, _, h5⟩ := g
  refine ⟨b, ver, vs, e1, k _ _ h1 (by simp only []; omega), h2, h3, p, fun i hi => ?_⟩
  obtain ⟨y, e2, e3⟩ := h5 i hi
  exact ⟨y, e2, e3.keep k he p⟩
theorem Gr.keep {e esz : Nat} {H G G' : Heap} {x : Value} {n : Nat} {vs : List Value} (g : Gr H G x esz n vs) (k : KeepE e G G') (he : e ≠ esz) (p : Pre H G') : Gr H G' x esz n vs := by
  obtain ⟨b, ver, e1, h1, h2, h3, _⟩ := g
  exact ⟨b, ver, e1, k _ _ h1 (by simp only []; omega), h2, h3, p⟩
@[simp] theorem blkOf_adr {b o v : Nat} : blkOf (adr b o v) = some b := rfl
@[simp] theorem blkOf_slc {b o v n c : Nat} : blkOf (slc b o v n c) = some b := rfl
@[simp] theorem blkOf_nil {n c : Nat} : blkOf (.slice none n c) = none := rfl
/-- A piece appended to a list of a call's own. -/
theorem push_at {n0 b ver n esz bytes : Nat} {G : Heap} {vs c : List Value} {wb : Bool} (hg : G[b]? = some ⟨vs, esz, ver, false⟩) (hb : n0 ≤ b) (hl : vs.length = n * esz) (hc : c.length = esz) (hr : (n + 1) * bytes ≤ roomMax) :
    ((srcOf esz (G ++ [⟨c, esz, 0, false⟩]) (slc G.length 0 0 1 1)).bind fun q => appendTo n0 wb esz bytes (G ++ [⟨c, esz, 0, false⟩]) (slc b 0 ver n n) q.1 q.2) =
      some (slc b 0 (ver + 1) (n + 1) (n + 1), (G ++ [(⟨c, esz, 0, false⟩ : Blk)]).set b ⟨vs ++ c, esz, ver + 1, false⟩) := by
  have h1' : (G ++ [(⟨c, esz, 0, false⟩ : Blk)])[b]? = some ⟨vs, esz, ver, false⟩ := by rw [List.getElem?_append_left (List.getElem?_eq_some_iff.1 hg).1]; exact hg
  have e1 : srcOf esz (G ++ [⟨c, esz, 0, false⟩]) (slc G.length 0 0 1 1) = some (1, c) := by
    show (rd (G ++ [⟨c, esz, 0, false⟩]) G.length 0 0 (1 * esz)).map (fun cs => (1, cs)) = _
    rw [Nat.one_mul, rd_last rfl (by simpa using hc)]; rfl
  rw [e1, Option.bind_some]
  exact appendTo_grow h1' rfl rfl (by simp [may, hb]) rfl hl.symm (by omega) hr
theorem push_get {b b' : Nat} {G : Heap} {k k' : Blk} (hb : b' ≠ b) (hl : b' < G.length) : ((G ++ [k']).set b k)[b']? = G[b']? := by
  rw [List.getElem?_set_ne (Ne.symm hb), List.getElem?_append_left hl]
theorem push_self {b : Nat} {G : Heap} {k k' : Blk} (hl : b < G.length) : ((G ++ [k']).set b k)[b]? = some k := by
  rw [List.getElem?_set_self (by simp; omega)]
theorem push_pre {H G : Heap} {b : Nat} {k k' : Blk} (p : Pre H G) (hb : H.length ≤ b) : Pre H ((G ++ [k']).set b k) := (p.app).set hb
theorem GrN.ownC {H G : Heap} {x : Value} {esz n : Nat} {vs : List Value} (g : GrN H G x esz n vs) : Own G x (blkOf x) H.length esz n vs := by
  rcases g with ⟨b, ver, rfl, h1, h2, h3, _⟩ | ⟨rfl, rfl, rfl, _⟩
  · exact ⟨h3, h2, ver, n, [], rfl, Nat.le_refl _, by rw [List.append_nil]; exact h1⟩
  · exact ⟨by simp, rfl, rfl⟩
/-- Cells of records of five, the last of which leads to rows of its own. -/
structure RawD (n0 : Nat) (G : Heap) (b ver n : Nat) (ys : Nat → Value) (β : Nat → Option Nat) (hd : Nat → List Value) (m : Nat → Nat) (rc : Nat → List Value) : Prop where
  lo : n0 ≤ b
  out : ∃ vs, G[b]? = some ⟨vs, 5, ver, false⟩ ∧ vs.length = n * 5 ∧ ∀ i, i < n → elem vs 5 i = hd i ++ [ys i]
  hl : ∀ i, i < n → (hd i).length = 4
  row : ∀ i, i < n → Own G (ys i) (β i) n0 2 (m i) (rc i)
  dis : ∀ i j q, i < n → j < n → β i = some q → β j = some q → i = j
theorem RawD.lt {n0 b ver n : Nat} {G : Heap} {ys : Nat → Value} {β : Nat → Option Nat} {hd rc : Nat → List Value} {m : Nat → Nat} (h : RawD n0 G b ver n ys β hd m rc) : b < G.length := by
  obtain ⟨vs, hg, _⟩ := h.out
  exact (List.getElem?_eq_some_iff.1 hg).1
theorem RawD.ne {n0 b ver n : Nat} {G : Heap} {ys : Nat → Value} {β : Nat → Option Nat} {hd rc : Nat → List Value} {m : Nat → Nat} (h : RawD n0 G b ver n ys β hd m rc) {i q : Nat} (hi : i < n) (hq : β i = some q) : q ≠ b := by
  rintro rfl
  obtain ⟨vs, hg, _⟩ := h.out
  obtain ⟨_, h2⟩ := h.row i hi
  rw [hq] at h2
  obtain ⟨_, ver', cap, rest, _, _, hg'⟩ := h2
  rw [hg] at hg'
  cases hg'
/-- What keeps the blocks keeps the list. -/
theorem RawD.keep {n0 b ver n : Nat} {G G' : Heap} {ys : Nat → Value} {β : Nat → Option Nat} {hd rc : Nat → List Value} {m : Nat → Nat} (h : RawD n0 G b ver n ys β hd m rc)
    (k : ∀ (b' : Nat) (k : Blk), G[b']? = some k → k.esz ≠ 1 → G'[b']? = some k) : RawD n0 G' b ver n ys β hd m rc := by
  refine ⟨h.lo, ?_, h.hl, fun i hi => ?_, h.dis⟩
  · obtain ⟨vs, hg, h2⟩ := h.out
    exact ⟨vs, k _ _ hg (by simp), h2⟩
  · obtain ⟨h1, h2⟩ := h.row i hi
    refine ⟨h1, ?_⟩
    cases hb : β i with
    | none => rw [hb] at h2; exact h2
    | some q =>
      rw [hb] at h2
      obtain ⟨hb, ver', cap, rest, e1, hc, hg⟩ := h2
      exact ⟨hb, ver', cap, rest, e1, hc, k _ _ hg (by simp)⟩
theorem RawD.pre {n0 b ver n : Nat} {G G' : Heap} {ys : Nat → Value} {β : Nat → Option Nat} {hd rc : Nat → List Value} {m : Nat → Nat} (p : Pre G G') (h : RawD n0 G b ver n ys β hd m rc) : RawD n0 G' b ver n ys β hd m rc :=
  h.keep fun b' k hk _ => by rw [p.get (List.getElem?_eq_some_iff.1 hk).1]; exact hk
theorem RawD.low {n0 n1 b ver n : Nat} {G : Heap} {ys : Nat → Value} {β : Nat → Option Nat} {hd rc : Nat → List Value} {m : Nat → Nat} (h : RawD n0 G b ver n ys β hd m rc) (hn : n1 ≤ n0) : RawD n1 G b ver n ys β hd m rc :=
  ⟨Nat.le_trans hn h.lo, h.out, h.hl, fun i hi => (h.row i hi).low hn, h.dis⟩
theorem RawD.rows {n0 b ver n : Nat} {G G' : Heap} {ys : Nat → Value} {β : Nat → Option Nat} {hd rc : Nat → List Value} {m : Nat → Nat} (h : RawD n0 G b ver n ys β hd m rc) {i : Nat} {c : List Value} (hi : i < n) (s : SameB G G' (β i)) (ho : Own G' (ys i) (β i) n0 2 (m i) c) :
    RawD n0 G' b ver n ys β hd m (fun j => if j = i then c else rc j) := by
  refine ⟨h.lo, ?_, h.hl, fun j hj => ?_, h.dis⟩
  · obtain ⟨vs, hg, h2⟩ := h.out
    refine ⟨vs, ?_, h2⟩
    rw [s.get]
    · exact hg
    · intro hq; exact h.ne hi hq rfl
  · by_cases hji : j = i
    · subst hji; simp only [if_pos rfl]; exact ho
    · simp only [if_neg hji]
      exact (h.row j hj).agree fun q hq => s.get q fun he => hji (h.dis j i q hj hi hq he)
theorem RawD.congr {n0 b ver n : Nat} {G : Heap} {ys : Nat → Value} {β : Nat → Option Nat} {hd rc hd' rc' : Nat → List Value} {m : Nat → Nat} (h : RawD n0 G b ver n ys β hd m rc) (h1 : ∀ i, i < n → hd i = hd' i) (h2 : ∀ i, i < n → rc i = rc' i) : RawD n0 G b ver n ys β hd' m rc' := by
  refine ⟨h.lo, ?_, fun i hi => by rw [← h1 i hi]; exact h.hl i hi, fun i hi => by rw [← h2 i hi]; exact h.row i hi, h.dis⟩
  obtain ⟨vs, hg, hl, he⟩ := h.out
  exact ⟨vs, hg, hl, fun i hi => by rw [← h1 i hi]; exact he i hi⟩
/- Marks. -/
def msH (c : Int) : List Value := [.int .i8 (IntKind.wrap .i8 c), .int .i8 (IntKind.wrap .i8 (c + 1)), .int .i8 (IntKind.wrap .i8 (c + 2)), .int .i8 (IntKind.wrap .i8 (c + 3))]
def mkP (m : Nat → Nat) (i : Nat) : Int := 101 + (mkS m i : Nat)
/-- A list of steps, with rows of its own. -/
def StD (n0 : Nat) (G : Heap) (b ver : Nat) (l : List Sted) : Prop := ∃ ys β, RawD n0 G b ver l.length ys β (fun i => [.int .i8 (at0 l i).a, .int .i8 (at0 l i).b, .int .i8 (at0 l i).c, .int .i8 (at0 l i).d]) (fun i => (at0 l i).rows.length) (fun i => chsC (at0 l i).rows)
theorem StD.new {n0 : Nat} {G : Heap} (h : n0 ≤ G.length) : StD n0 (G ++ [⟨[], 5, 0, false⟩]) G.length 0 [] :=
  ⟨fun _ => U, fun _ => none, h, ⟨_, get_last, rfl, fun i hi => by simp at hi⟩, fun i hi => by simp at hi, fun i hi => by simp at hi, fun i j q hi => by simp at hi⟩
theorem StD.pre {n0 b ver : Nat} {G G' : Heap} {l : List Sted} (p : Pre G G') (h : StD n0 G b ver l) : StD n0 G' b ver l := by
  obtain ⟨ys, β, h⟩ := h; exact ⟨ys, β, h.pre p⟩
theorem StD.lt {n0 b ver : Nat} {G : Heap} {l : List Sted} (h : StD n0 G b ver l) : b < G.length := by
  obtain ⟨ys, β, h⟩ := h; exact h.lt
theorem StD.lo {n0 b ver : Nat} {G : Heap} {l : List Sted} (h : StD n0 G b ver l) : n0 ≤ b := by
  obtain ⟨ys, β, h⟩ := h; exact h.lo
/-- Another step. -/
theorem StD.push {n0 b ver : Nat} {K G : Heap} {l : List Sted} {s : Sted} {y : Value} (g : StD n0 K b ver l) (p : Pre K G) (hy : GrN K G y 2 s.rows.length (chsC s.rows)) (hn : n0 ≤ K.length) (hb : (l.length + 1) * 32 ≤ roomMax) {wb : Bool} :
    ∃ G', ((srcOf 5 (G ++ [⟨stC s y, 5, 0, false⟩]) (slc G.length 0 0 1 1)).bind fun q => appendTo n0 wb 5 32 (G ++ [⟨stC s y, 5, 0, false⟩]) (slc b 0 ver l.length l.length) q.1 q.2) = some (slc b 0 (ver + 1) (l.length + 1) (l.length + 1), G') ∧
      StD n0 G' b (ver + 1) (l ++ [s]) ∧ (∀ (b' : Nat) (k : Blk), b' ≠ b → G[b']? = some k → G'[b']? = some k) ∧ ∀ H : Heap, Pre H G → H.length ≤ b → Pre H G' := by
  obtain ⟨ys, β, g⟩ := g
  have hβK : ∀ i q, i < l.length → β i = some q → q < K.length := fun i q hi hq => by
    obtain ⟨_, h2⟩ := g.row i hi
    rw [hq] at h2
    obtain ⟨_, _, _, _, _, _, h3⟩ := h2
    exact (List.getElem?_eq_some_iff.1 h3).1
  have hbK := g.lt
  have g' := g.pre p
  obtain ⟨vs, h1, h3, h5⟩ := g'.out
  have hbG := g'.lt
  have hlen : (stC s y).length = 5 := rfl
  have oy := hy.ownC
  have hne : ∀ q, blkOf y = some q → q ≠ b := fun q hq => by have := oy.below q hq; omega
  have hkeep : ∀ (b' : Nat) (k : Blk), b' ≠ b → G[b']? = some k → ((G ++ [(⟨stC s y, 5, 0, false⟩ : Blk)]).set b ⟨vs ++ stC s y, 5, ver + 1, false⟩)[b']? = some k := fun b' k hb' hk => by
    rw [push_get hb' (List.getElem?_eq_some_iff.1 hk).1]; exact hk
  refine ⟨_, push_at h1 g.lo h3 rfl hb, ⟨fun i => if i < l.length then ys i else y, fun i => if i < l.length then β i else blkOf y, g.lo, ⟨_, push_self hbG, by simp [h3, hlen]; omega, fun i hi => ?_⟩, fun i hi => rfl, fun i hi => ?_, fun i j q hi hj => ?_⟩, hkeep, fun H pH hH => push_pre pH hH⟩
  · rw [at0_app]
    by_cases hil : i < l.length
    · have hm := mul_next (esz := 5) hil
      simp only [if_pos hil]
      rw [← h5 i hil]
      unfold elem
      rw [List.drop_append_of_le_length (by omega), List.take_append_of_le_length (by simp; omega)]
    · have hie : i = l.length := by simp at hi; omega
      simp only [if_neg hil, if_pos hie]
      subst hie
      unfold elem
      rw [← h3, List.drop_left, List.take_of_length_le (by rw [hlen]; omega)]; rfl
  · by_cases hil : i < l.length
    · simp only [at0_app, if_pos hil]
      exact (g'.row i hil).agree fun q hq => by
        have := hβK i q hil hq
        have := p.len
        exact push_get (g'.ne hil hq) (by omega)
    · have hie : i = l.length := by simp at hi; omega
      simp only [at0_app, if_neg hil, if_pos hie]
      exact (oy.low hn).agree fun q hq => by
        obtain ⟨_, h2⟩ := oy
        rw [hq] at h2
        obtain ⟨_, _, _, _, _, _, h3⟩ := h2
        exact push_get (hne q hq) (List.getElem?_eq_some_iff.1 h3).1
  · simp at hi hj
    by_cases hil : i < l.length
    · by_cases hjl : j < l.length
      · simp only [if_pos hil, if_pos hjl]
        exact g.dis i j q hil hjl
      · simp only [if_pos hil, if_neg hjl]
        intro e1 e2
        have := hβK i q hil e1
        have := oy.below q e2
        omega
    · by_cases hjl : j < l.length
      · simp only [if_neg hil, if_pos hjl]
        intro e1 e2
        have := hβK j q hjl e2
        have := oy.below q e1
        omega
      · intro _ _; omega
/-- What a function hands back: steps, and numbers. -/
theorem StD.fin {H G : Heap} {b ver : Nat} {l : List Sted} {rest : List Value} (g : StD H.length G b ver l) (p : Pre H G) (hr : rest.all (old1 H.length) = true) :
    ∃ b' ver' G', finish H.length G (slc b 0 ver l.length l.length :: rest) = (one (slc b' 0 ver' l.length l.length :: rest), G') ∧ StD H.length G' b' ver' l ∧ Pre H G' := by
  obtain ⟨ys, β, g⟩ := g
  obtain ⟨vs, hg, h3, h5⟩ := g.out
  have hlo := g.lo
  have hne : old1 H.length (slc b 0 ver l.length l.length) = false := by
    show (true && decide (b < H.length)) = false
    simp; omega
  cases ho : vs.all (old0 H.length) with
  | false =>
    refine ⟨b, ver, G, ?_, ⟨ys, β, g⟩, p⟩
    have : pack H.length G (slc b 0 ver l.length l.length :: rest) [] [] = none := by
      rw [pack, if_neg (by rw [hne]; decide)]
      show (match G[b]? with
        | some k => if ([] : List Nat).contains b = false ∧ ver = k.ver ∧ k.ro = false ∧ k.cells.all (old0 H.length) = true then _ else none
        | none => none) = _
      rw [hg]
      simp only []
      rw [if_neg (by rw [ho]; simp)]
    unfold finish; rw [this]
  | true =>
    have hall := List.all_eq_true.1 ho
    have hnil : ∀ i, i < l.length → β i = none := fun i hi => by
      obtain ⟨_, h2⟩ := g.row i hi
      cases hb : β i with
      | none => rfl
      | some q =>
        exfalso
        rw [hb] at h2
        obtain ⟨hq, ver', cap, rest, e1, _, _⟩ := h2
        have hm : ys i ∈ vs := mem_elem (esz := 5) (i := i) (by rw [h5 i hi]; simp)
        have := hall _ hm
        rw [e1, old0_slc] at this
        simp at this; omega
    refine ⟨H.length, 0, H ++ [⟨vs, 5, 0, false⟩], ?_, ⟨ys, β, Nat.le_refl _, ⟨vs, get_last, h3, h5⟩, g.hl, fun i hi => ?_, g.dis⟩, Pre.one⟩
    · have : pack H.length G (slc b 0 ver l.length l.length :: rest) [] [] = some (slc H.length 0 0 l.length l.length :: rest, [⟨vs, 5, 0, false⟩]) := by
        rw [pack, if_neg (by rw [hne]; decide)]
        show (match G[b]? with
          | some k => if ([] : List Nat).contains b = false ∧ ver = k.ver ∧ k.ro = false ∧ k.cells.all (old0 H.length) = true then (pack H.length G rest (b :: []) ([] ++ [{ k with ver := 0 }])).map fun (q : List Value × List Blk) => (slc (H.length + ([] : List Blk).length) 0 0 l.length l.length :: q.1, q.2) else none
          | none => none) = _
        rw [hg]
        simp only []
        rw [if_pos ⟨by simp, by simp, by simp, ho⟩, pack_all hr]; rfl
      rw [finish_some this, p.take]
    · obtain ⟨h1, h2⟩ := g.row i hi
      rw [hnil i hi] at h2 ⊢
      exact ⟨h1, h2⟩
/-- Steps with rows of their own, or nothing. -/
def StX (n0 : Nat) (G : Heap) (x : Value) (l : List Sted) : Prop := (x = .slice none 0 0 ∧ l = []) ∨ ∃ b ver, x = slc b 0 ver l.length l.length ∧ StD n0 G b ver l
theorem StX.pre {n0 : Nat} {G G' : Heap} {x : Value} {l : List Sted} (p : Pre G G') (h : StX n0 G x l) : StX n0 G' x l := by
  rcases h with h | ⟨b, ver, rfl, h⟩
  · exact .inl h
  · exact .inr ⟨b, ver, rfl, h.pre p⟩
/-- Marks over steps. -/
def MkX (n0 : Nat) (G : Heap) (x : Value) (l : List Sted) : Prop := (x = .slice none 0 0 ∧ l = []) ∨ ∃ b ver ys β, x = slc b 0 ver l.length l.length ∧
  RawD n0 G b ver l.length ys β (fun i => msH (mkP (fun i => (at0 l i).rows.length) i)) (fun i => (at0 l i).rows.length) (fun i => mkL (ms2 (mkP (fun i => (at0 l i).rows.length) i + 4)) ((at0 l i).rows.length * 2))
theorem MkX.pre {n0 : Nat} {G G' : Heap} {x : Value} {l : List Sted} (p : Pre G G') (h : MkX n0 G x l) : MkX n0 G' x l := by
  rcases h with h | ⟨b, ver, ys, β, rfl, h⟩
  · exact .inl h
  · exact .inr ⟨b, ver, ys, β, rfl, h.pre p⟩
theorem calls_app {a b : Nat} {x y : Opd} : Op1.calls (.app a b x y) = false := Eq.trans rfl rfl
theorem app_nochk {T : Tab} {n0 : Nat} {wb : Bool} {e : Env} {H : Heap} {Q : Ex → Env → Heap → Prop} {fs : List Fr} {d : Option Nat} {o : Op1} {r : List Stm} {e0 : Env} {outs : List Nat} {fl : List Opd} (h : apart e ⟨none, d, o, fl⟩ = true) (hc : o.calls = false) :
    OK' T n0 wb (⟨none, d, o, fl⟩ :: r) e H e0 outs fs Q ↔ SK T n0 wb (ev1 (Call T) n0 wb e H o) d r e e0 outs fs Q := by
  unfold OK' SK OPS thn
  simp only [ops, wanted, h, stays, hc, Bool.not_false, Bool.true_or, if_true]
  cases ev1 (Call T) n0 wb e H o with
  | none => simp
  | some v => exact Iff.rfl
/-- Steps, what they cost, and a code. -/
def RsE (H : Heap) (r : Value × Heap) (l : List Sted) (t c : Int) : Prop := ∃ x G, r = (tup [x, .int .i64 t, .int .i64 c], G) ∧ StX H.length G x l ∧ Pre H G
theorem okB_fs2 {b : List (List Int)} (h : okB b = true) : okFs b = true ∧ b.length ≤ 40 := by
  simp only [okB, Bool.and_eq_true, decide_eq_true_eq] at h; exact h
theorem StX.fin {H G : Heap} {x : Value} {l : List Sted} {t c : Int} (h : StX H.length G x l) (p : Pre H G) : ∃ r, finish H.length G [x, .int .i64 t, .int .i64 c] = r ∧ RsE H r l t c := by
  rcases h with ⟨rfl, rfl⟩ | ⟨b, ver, rfl, h⟩
  · have e1 : finish H.length G [.slice none 0 0, .int .i64 t, .int .i64 c] = (one [.slice none 0 0, .int .i64 t, .int .i64 c], G.take H.length) := finish_vs (by simp)
    rw [p.take] at e1
    exact ⟨_, e1, .slice none 0 0, H, rfl, .inl ⟨rfl, rfl⟩, .refl⟩
  · obtain ⟨b', ver', G', e, h1, h2⟩ := h.fin p (rest := [.int .i64 t, .int .i64 c]) rfl
    exact ⟨_, e, _, G', rfl, .inr ⟨b', ver', rfl, h1⟩, h2⟩
inductive Lo (σ : Type) where
  | go (s : σ)
  | st (s : σ)
def lpM {σ : Type} (f : σ → Option (Lo σ)) : Nat → σ → Option σ
  | 0, _ => none
  | n + 1, s => match f s with
    | some (.go s') => lpM f n s'
    | some (.st s') => some s'
    | none => none
/-- A loop that does what a plain one does. -/
theorem WK_sim {σ : Type} {T : Tab} {n0 : Nat} {wb : Bool} {e : Env} {H : Heap} {Q : Ex → Env → Heap → Prop} {fs : List Fr} {b : Cd} (f : σ → Option (Lo σ)) (I : σ → Env → Heap → Prop) {r : σ}
    (round : ∀ s s' e' H', (∀ q, q ∉ outsAll b → e' q = e q) → I s e' H' → f s = some (.go s') → WK T n0 wb b [] e' H' (rnd T n0 wb (I s') fs Q))
    (last : ∀ s e' H', (∀ q, q ∉ outsAll b → e' q = e q) → I s e' H' → f s = some (.st r) → WK T n0 wb b [] e' H' (rnd T n0 wb (fun _ _ => False) fs Q))
    {fuel : Nat} {s : σ} (h : lpM f fuel s = some r) (h0 : I s e H) : WK T n0 wb (.loop b) fs e H Q := by
  refine WK_loop (fun k e' H' => ∃ s, lpM f (fuel - k) s = some r ∧ I s e' H') fuel ?_ (Nat.zero_le _) ⟨s, h, h0⟩
  rintro k e' H' hf hk ⟨s, hs, hI⟩
  cases hm : fuel - k with
  | zero => rw [hm] at hs; cases hs
  | succ m =>
    rw [hm] at hs
    simp only [lpM] at hs
    cases hfs : f s with
    | none => rw [hfs] at hs; cases hs
    | some o =>
      rw [hfs] at hs
      cases o with
      | go s' =>
        refine (round s s' e' H' hf hI hfs).mono fun x e1 H1 q => ?_
        cases x with
        | normal => exact ⟨by omega, s', by rw [show fuel - (k + 1) = m by omega]; exact hs, q⟩
        | exit j => exact q
        | ret => exact q
      | st s' =>
        cases hs
        refine (last s e' H' hf hI hfs).mono fun x e1 H1 q => ?_
        cases x with
        | normal => exact q.elim
        | exit j => exact q
        | ret => exact q
/- Moves, compared by how far they go. -/
def szI (a : Int) : Int := if a < -a then -a else a
def mkey (a : Int × Int) : Int := szI a.1 + szI a.2
def kcmp (a b : Int × Int) : Int := if mkey a < mkey b then -1 else if mkey b < mkey a then 1 else 0
abbrev ML := List (Int × Int)
def smallM (a : Int × Int) : Bool := decide (-100 ≤ a.1 ∧ a.1 ≤ 100) && decide (-100 ≤ a.2 ∧ a.2 ≤ 100)
def gtM (l : ML) (i : Int) : Option (Int × Int) := if 0 ≤ i ∧ i < l.length then some (at0 l i.toNat) else none
def swM (l : ML) (i j : Int) : Option ML := (gtM l i).bind fun a => (gtM l j).bind fun b => some ((l.set i.toNat b).set j.toNat a)
def cmM (l : ML) (i j : Int) : Option Int := (gtM l i).bind fun a => (gtM l j).bind fun b => if (smallM a && smallM b) = true then some (kcmp a b) else none
def in9 (a : Int) : Bool := decide (0 ≤ a ∧ a ≤ 1000)
def swapR (l : ML) (a b k : Int) : Option ML :=
  if (in9 a && in9 b && in9 k) = true then
    (lpM (fun (s : ML × Int) => if s.2 < k then (swM s.1 (a + s.2) (b + s.2)).map fun l' => .go (l', s.2 + 1) else some (.st s)) 200 (l, 0)).map (·.1)
  else none
def rotM (l : ML) (a m b : Int) : Option ML :=
  if (in9 a && in9 m && in9 b) = true then
    (lpM (fun (s : ML × Int × Int) => if s.2.1 = s.2.2 then some (.st s) else if (in9 s.2.1 && in9 s.2.2) = true then
        if s.2.2 < s.2.1 then (swapR s.1 (m - s.2.1) m s.2.2).map fun l' => .go (l', s.2.1 - s.2.2, s.2.2)
        else (swapR s.1 (m - s.2.1) (m + s.2.2 - s.2.1) s.2.1).map fun l' => .go (l', s.2.1, s.2.2 - s.2.1) else none) 200 (l, m - a, b - m)).bind fun s =>
      if in9 s.2.1 = true then swapR s.1 (m - s.2.1) m s.2.1 else none
  else none
def insM (l : ML) (a b : Int) : Option ML :=
  if (in9 a && in9 b) = true then
    (lpM (fun (s : ML × Int) => if s.2 < b then
        (lpM (fun (s : ML × Int) => if a < s.2 then (cmM s.1 s.2 (s.2 - 1)).bind fun c => if c < 0 then (swM s.1 s.2 (s.2 - 1)).map fun l' => .go (l', s.2 - 1) else some (.st s) else some (.st s)) 200 (s.1, s.2)).map fun t => .go (t.1, s.2 + 1)
      else some (.st s)) 200 (l, a + 1)).map (·.1)
  else none
/-- Halves. -/
def hf (i j : Int) : Int := (i + j) / 2
def symM : Nat → ML → Int → Int → Int → Option ML
  | 0, _, _, _, _ => none
  | f + 1, l, a, m, b =>
    if (in9 a && in9 m && in9 b) = true then
      if m - a = 1 then
        (lpM (fun (s : Int × Int) => if s.1 < s.2 then (cmM l (hf s.1 s.2) a).map fun c => if c < 0 then .go (hf s.1 s.2 + 1, s.2) else .go (s.1, hf s.1 s.2) else some (.st s)) 200 (m, b)).bind fun s =>
          (lpM (fun (t : ML × Int) => if t.2 < s.1 - 1 then (swM t.1 t.2 (t.2 + 1)).map fun l' => .go (l', t.2 + 1) else some (.st t)) 200 (l, a)).map (·.1)
      else if b - m = 1 then
        (lpM (fun (s : Int × Int) => if s.1 < s.2 then (cmM l m (hf s.1 s.2)).map fun c => if c < 0 then .go (s.1, hf s.1 s.2) else .go (hf s.1 s.2 + 1, s.2) else some (.st s)) 200 (a, m)).bind fun s =>
          (lpM (fun (t : ML × Int) => if s.1 < t.2 then (swM t.1 t.2 (t.2 - 1)).map fun l' => .go (l', t.2 - 1) else some (.st t)) 200 (l, m)).map (·.1)
      else
        (lpM (fun (s : Int × Int) => if s.1 < s.2 then (cmM l (hf a b + m - 1 - hf s.1 s.2) (hf s.1 s.2)).map fun c => if c < 0 then .go (s.1, hf s.1 s.2) else .go (hf s.1 s.2 + 1, s.2) else some (.st s)) 200
            (if hf a b < m then (hf a b + m - b, hf a b) else (a, m))).bind fun s =>
          (if s.1 < m ∧ m < hf a b + m - s.1 then rotM l s.1 m (hf a b + m - s.1) else some l).bind fun l1 =>
          (if a < s.1 ∧ s.1 < hf a b then symM f l1 a s.1 (hf a b) else some l1).bind fun l2 =>
          if hf a b < hf a b + m - s.1 ∧ hf a b + m - s.1 < b then symM f l2 (hf a b) (hf a b + m - s.1) b else some l2
    else none
def stbM (l : ML) (n : Int) : Option ML :=
  if in9 n = true then
    (lpM (fun (s : ML × Int × Int) => if s.2.2 ≤ n then (insM s.1 s.2.1 s.2.2).map fun l' => .go (l', s.2.2, s.2.2 + 20) else some (.st s)) 200 (l, 0, 20)).bind fun s =>
    (insM s.1 s.2.1 n).bind fun l1 =>
    (lpM (fun (s : ML × Int) => if s.2 < n then
        (lpM (fun (t : ML × Int × Int) => if t.2.2 ≤ n then (symM 20 t.1 t.2.1 (t.2.1 + s.2) t.2.2).map fun l' => .go (l', t.2.2, t.2.2 + 2 * s.2) else some (.st t)) 200 (s.1, 0, 2 * s.2)).bind fun t =>
        (if t.2.1 + s.2 < n then symM 20 t.1 t.2.1 (t.2.1 + s.2) n else some t.1).map fun l' => .go (l', s.2 * 2)
      else some (.st s)) 200 (l1, 20)).map (·.1)
  else none
/- The moves up to a size, as both sides order them. -/
def rgI (m : Int) : List Int := (List.range (2 * m + 1).toNat).map fun (i : Nat) => (i : Int) - m
def gridM (m : Int) : ML := (rgI m).flatMap fun a => (rgI m).map fun b => (a, b)
def farM (m : Int) : ML := (List.range (2 * m + 1).toNat).flatMap fun (d : Nat) => (gridM m).filter fun a => decide (mkey a = d)
theorem stb0 : stbM (gridM 0) (gridM 0).length = some (farM 0) := by decide +kernel
theorem stb1 : stbM (gridM 1) (gridM 1).length = some (farM 1) := by decide +kernel
theorem stb2 : stbM (gridM 2) (gridM 2).length = some (farM 2) := by decide +kernel
theorem stb3 : stbM (gridM 3) (gridM 3).length = some (farM 3) := by decide +kernel
theorem stb4 : stbM (gridM 4) (gridM 4).length = some (farM 4) := by decide +kernel
/-- The list that is being sorted, in its block. -/
def hp (G0 : Heap) (bq ver : Nat) (l : ML) : Heap := G0.set bq ⟨mvsC l, 2, ver, false⟩
theorem mvC_inj {a b : Int × Int} (h : some (mvC a) = some (mvC b)) : a = b := by
  obtain ⟨a1, a2⟩ := a
  obtain ⟨b1, b2⟩ := b
  simp [mvC] at h
  rw [h.1, h.2]
theorem mvC_len {a : Int × Int} : (mvC a).length = 2 := rfl
theorem hp_get {G0 : Heap} {bq ver : Nat} {l : ML} (hb : bq < G0.length) : (hp G0 bq ver l)[bq]? = some ⟨mvsC l, 2, ver, false⟩ := by
  unfold hp; rw [List.getElem?_set_self hb]
theorem hp_len {G0 : Heap} {bq ver : Nat} {l : ML} : (hp G0 bq ver l).length = G0.length := by simp [hp]
theorem gtM_ok {G0 : Heap} {bq ver n : Nat} {l : ML} {i : Int} {v : Int × Int} (hb : bq < G0.length) (hn : l.length = n) (h : gtM l i = some v) :
    ∃ p : Nat, i = p ∧ p < n ∧ at' n (.int .i64 i) = some p ∧ rd (hp G0 bq ver l) bq (p * 2) ver 2 = some (mvC v) := by
  unfold gtM at h
  split at h
  · rename_i hi
    obtain ⟨p, rfl⟩ := Int.eq_ofNat_of_zero_le hi.1
    have hp' : p < l.length := by omega
    refine ⟨p, rfl, by omega, at_nat (by omega), ?_⟩
    have hm := mul_next (esz := 2) hp'
    rw [rd_at (hp_get hb) rfl (by simp only [mvsC_length]; omega)]
    simp only [Int.toNat_natCast] at h
    cases h
    have := mvsC_elem hp'
    unfold elem at this
    simp only []
    rw [this]; rfl
  · cases h
theorem mvsC_set {l : ML} {p : Nat} {v : Int × Int} (h : p < l.length) : splice (mvsC l) (p * 2) (mvC v) = mvsC (l.set p v) := by
  induction l generalizing p with
  | nil => simp at h
  | cons a r ih =>
    cases p with
    | zero => simp [splice, mvsC, rowsC, mvC]
    | succ p =>
      have := ih (p := p) (by simpa using h)
      simp only [List.set_cons_succ]
      show splice (mvC a ++ mvsC r) ((p + 1) * 2) (mvC v) = mvC a ++ mvsC (r.set p v)
      rw [← this]
      have e : (p + 1) * 2 = (mvC a).length + p * 2 := by rw [mvC_len]; omega
      unfold splice
      rw [e, List.take_length_add_append, Nat.add_assoc, List.drop_length_add_append, List.append_assoc, List.append_assoc, List.append_assoc]
theorem hp_wr {n0 : Nat} {G0 : Heap} {bq ver : Nat} {l : ML} {p : Nat} {v : Int × Int} (hb : bq < G0.length) (h : p < l.length) : wr n0 true (hp G0 bq ver l) bq (p * 2) ver (mvC v) = some (hp G0 bq ver (l.set p v)) := by
  have hm := mul_next (esz := 2) h
  rw [wr_at (hp_get hb) rfl rfl (by simp [may, mvC]) (by simp only [mvsC_length, mvC_len]; omega)]
  simp only [mvsC_set h]
  unfold hp
  rw [set_set]
end Fb
