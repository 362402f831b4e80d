/- What each function computes. -/
import Derived.Test.YtneicaopmfbdlaaUse1
set_option linter.unusedVariables false
set_option linter.unusedSimpArgs false
namespace Fb
open Go
theorem heldD {pu : Bool} {n0 b ver n cap : Nat} {G : Heap} {ys : Nat → Value} {β : Nat → Option Nat} {m : Nat → Nat} (h : RawD n0 G b ver n ys β (fun i => msH (mkP m i)) m (fun i => mkL (ms2 (mkP m i + 4)) (m i * 2))) (hn : n ≤ 1000) (hm : ∀ i, i < n → m i ≤ 100000) :
    Call tab pu 214 [slc b 0 ver n cap, .int .i64 101] G = some (.int .i64 (mkP m n), G) := by
  refine Call_wp t214 (.inr rfl) rfl ?_
  simp [c214, k214]
  refine WP_forH 5 n n rfl (by omega) (fun i e => e 0 = slc b 0 ver n cap ∧ e 1 = .int .i64 (mkP m i)) ?_ ?_ (by simp) (by simp [mkP, mkS, itN_zero])
  · rintro i e hi hii e4 h5 ⟨h0, h1⟩
    have hmi := hm i hi
    have hS : mkS m i ≤ i * 200004 := by
      have : ∀ i, i ≤ n → mkS m i ≤ i * 200004 := by
        intro i
        induction i with
        | zero => intro _; simp [mkS, itN_zero]
        | succ i ih =>
          intro hi
          have h1 := ih (by omega)
          have h2 := hm i (by omega)
          rw [mkS_succ]; omega
      exact this i (by omega)
    have hPs : mkP m (i + 1) = mkP m i + 4 + (m i * 2 : Nat) := by unfold mkP; rw [mkS_succ]; omega
    have hP0 : 101 ≤ mkP m i ∧ mkP m i ≤ 300000000 := by unfold mkP; omega
    obtain ⟨vs, o1, o2, o3⟩ := h.out
    have hrow := held392 true G (ys i) (β i) n0 (m i) (mkP m i + 4) (h.row i hi) (by omega) (by omega) (by omega)
    have he := o3 i hi
    generalize hc : mkP m i = c at *
    have hmn := mul_next (esz := 5) hi
    have hcell : ∀ o v, (elem vs 5 i)[o]? = some v → o < 5 → rd G b (i * 5 + o) ver 1 = some [v] := fun o v hv ho => by
      rw [elem_at ho] at hv
      obtain ⟨hlt, hv⟩ := List.getElem?_eq_some_iff.1 hv
      rw [rd_at o1 rfl (by simp only []; omega)]
      simp only []
      rw [List.drop_eq_getElem_cons hlt, hv]; rfl
    rw [he] at hcell
    have d0 := hcell 0 _ rfl (by omega)
    have d1 := hcell 1 _ rfl (by omega)
    have d2 := hcell 2 _ rfl (by omega)
    have d3 := hcell 3 _ rfl (by omega)
    have d4 := hcell 4 _ rfl (by omega)
    rw [Nat.add_zero] at d0
    have u1 : IntKind.wrap .i64 (c + 1) = c + 1 := wrap64 (by omega)
    have u2 : IntKind.wrap .i64 (c + 1 + 1) = c + 2 := by rw [wrap64 (by omega)]; omega
    have u3 : IntKind.wrap .i64 (c + 2 + 1) = c + 3 := by rw [wrap64 (by omega)]; omega
    have u4 : IntKind.wrap .i64 (c + 3 + 1) = c + 4 := by rw [wrap64 (by omega)]; omega
    have hng : ¬ (c + 4 + ((m i * 2 : Nat) : Int) < 0) := by omega
    simp [b214_1, h5, h0, h1, hii, at_nat hi, d0, d1, d2, d3, d4, hrow, u1, u2, u3, u4, e4, hPs, hng, -Int.natCast_add, -Int.natCast_mul]
  · rintro e h5 ⟨h0, h1⟩
    simp [b214_1, h5, h0, h1]
/-- A list of steps, with rows of its own. -/
def StD (n0 : Nat) (G : Heap) (b ver : Nat) (l : List Sted) : Prop := ∃ ys β, RawD n0 G b ver l.length ys β (fun i => [.int .i8 (at0 l i).a, .int .i8 (at0 l i).b, .int .i8 (at0 l i).c, .int .i8 (at0 l i).d]) (fun i => (at0 l i).rows.length) (fun i => chsC (at0 l i).rows)
theorem StD.new {n0 : Nat} {G : Heap} (h : n0 ≤ G.length) : StD n0 (G ++ [⟨[], 5, 0, false⟩]) G.length 0 [] :=
  ⟨fun _ => U, fun _ => none, h, ⟨_, get_last, rfl, fun i hi => by simp at hi⟩, fun i hi => by simp at hi, fun i hi => by simp at hi, fun i j q hi => by simp at hi⟩
theorem StD.keep {n0 b ver : Nat} {G G' : Heap} {l : List Sted} (h : StD n0 G b ver l) (k : ∀ (b' : Nat) (k : Blk), G[b']? = some k → k.esz ≠ 1 → G'[b']? = some k) : StD n0 G' b ver l := by
  obtain ⟨ys, β, h⟩ := h; exact ⟨ys, β, h.keep k⟩
theorem StD.pre {n0 b ver : Nat} {G G' : Heap} {l : List Sted} (p : Pre G G') (h : StD n0 G b ver l) : StD n0 G' b ver l := by
  obtain ⟨ys, β, h⟩ := h; exact ⟨ys, β, h.pre p⟩
theorem StD.lt {n0 b ver : Nat} {G : Heap} {l : List Sted} (h : StD n0 G b ver l) : b < G.length := by
  obtain ⟨ys, β, h⟩ := h; exact h.lt
theorem StD.lo {n0 b ver : Nat} {G : Heap} {l : List Sted} (h : StD n0 G b ver l) : n0 ≤ b := by
  obtain ⟨ys, β, h⟩ := h; exact h.lo
theorem StD.sts {n0 b ver : Nat} {G : Heap} {l : List Sted} (h : StD n0 G b ver l) : StS G (slc b 0 ver l.length l.length) l := by
  obtain ⟨ys, β, h⟩ := h
  obtain ⟨vs, h1, h3, h5⟩ := h.out
  exact ⟨vs, ⟨h3, .inr ⟨b, 0, ver, _, rfl, Nat.le_refl _, by rw [rd_at h1 rfl (by simp only []; omega)]; simp only [List.drop_zero]; rw [List.take_of_length_le (by omega)], _, h1, rfl, rfl⟩⟩, fun i hi => ⟨ys i, h5 i hi, (h.row i hi).sl⟩⟩
/-- Another step. -/
theorem StD.push {n0 b ver : Nat} {K G : Heap} {l : List Sted} {s : Sted} {y : Value} (g : StD n0 K b ver l) (p : Pre K G) (hy : GrN K G y 2 s.rows.length (chsC s.rows)) (hn : n0 ≤ K.length) (hb : (l.length + 1) * 32 ≤ roomMax) {wb : Bool} :
    ∃ G', ((srcOf 5 (G ++ [⟨stC s y, 5, 0, false⟩]) (slc G.length 0 0 1 1)).bind fun q => appendTo n0 wb 5 32 (G ++ [⟨stC s y, 5, 0, false⟩]) (slc b 0 ver l.length l.length) q.1 q.2) = some (slc b 0 (ver + 1) (l.length + 1) (l.length + 1), G') ∧
      StD n0 G' b (ver + 1) (l ++ [s]) ∧ (∀ (b' : Nat) (k : Blk), b' ≠ b → G[b']? = some k → G'[b']? = some k) ∧ ∀ H : Heap, Pre H G → H.length ≤ b → Pre H G' := by
  obtain ⟨ys, β, g⟩ := g
  have hβK : ∀ i q, i < l.length → β i = some q → q < K.length := fun i q hi hq => by
    obtain ⟨_, h2⟩ := g.row i hi
    rw [hq] at h2
    obtain ⟨_, _, _, _, _, _, h3⟩ := h2
    exact (List.getElem?_eq_some_iff.1 h3).1
  have hbK := g.lt
  have g' := g.pre p
  obtain ⟨vs, h1, h3, h5⟩ := g'.out
  have hbG := g'.lt
  have hlen : (stC s y).length = 5 := rfl
  have oy := hy.ownC
  have hne : ∀ q, blkOf y = some q → q ≠ b := fun q hq => by have := oy.below q hq; omega
  have hkeep : ∀ (b' : Nat) (k : Blk), b' ≠ b → G[b']? = some k → ((G ++ [(⟨stC s y, 5, 0, false⟩ : Blk)]).set b ⟨vs ++ stC s y, 5, ver + 1, false⟩)[b']? = some k := fun b' k hb' hk => by
    rw [push_get hb' (List.getElem?_eq_some_iff.1 hk).1]; exact hk
  refine ⟨_, push_at h1 g.lo h3 rfl hb, ⟨fun i => if i < l.length then ys i else y, fun i => if i < l.length then β i else blkOf y, g.lo, ⟨_, push_self hbG, by simp [h3, hlen]; omega, fun i hi => ?_⟩, fun i hi => rfl, fun i hi => ?_, fun i j q hi hj => ?_⟩, hkeep, fun H pH hH => push_pre pH hH⟩
  · rw [at0_app]
    by_cases hil : i < l.length
    · have hm := mul_next (esz := 5) hil
      simp only [if_pos hil]
      rw [← h5 i hil]
      unfold elem
      rw [List.drop_append_of_le_length (by omega), List.take_append_of_le_length (by simp; omega)]
    · have hie : i = l.length := by simp at hi; omega
      simp only [if_neg hil, if_pos hie]
      subst hie
      unfold elem
      rw [← h3, List.drop_left, List.take_of_length_le (by rw [hlen]; omega)]; rfl
  · by_cases hil : i < l.length
    · simp only [at0_app, if_pos hil]
      exact (g'.row i hil).agree fun q hq => by
        have := hβK i q hil hq
        have := p.len
        exact push_get (g'.ne hil hq) (by omega)
    · have hie : i = l.length := by simp at hi; omega
      simp only [at0_app, if_neg hil, if_pos hie]
      exact (oy.low hn).agree fun q hq => by
        obtain ⟨_, h2⟩ := oy
        rw [hq] at h2
        obtain ⟨_, _, _, _, _, _, h3⟩ := h2
        exact push_get (hne q hq) (List.getElem?_eq_some_iff.1 h3).1
  · simp at hi hj
    by_cases hil : i < l.length
    · by_cases hjl : j < l.length
      · simp only [if_pos hil, if_pos hjl]
        exact g.dis i j q hil hjl
      · simp only [if_pos hil, if_neg hjl]
        intro e1 e2
        have := hβK i q hil e1
        have := oy.below q e2
        omega
    · by_cases hjl : j < l.length
      · simp only [if_neg hil, if_pos hjl]
        intro e1 e2
        have := hβK j q hjl e2
        have := oy.below q e1
        omega
      · intro _ _; omega
/-- What a function hands back: steps, and numbers. -/
theorem StD.fin {H G : Heap} {b ver : Nat} {l : List Sted} {rest : List Value} (g : StD H.length G b ver l) (p : Pre H G) (hr : rest.all (old1 H.length) = true) :
    ∃ b' ver' G', finish H.length G (slc b 0 ver l.length l.length :: rest) = (one (slc b' 0 ver' l.length l.length :: rest), G') ∧ StD H.length G' b' ver' l ∧ Pre H G' := by
  obtain ⟨ys, β, g⟩ := g
  obtain ⟨vs, hg, h3, h5⟩ := g.out
  have hlo := g.lo
  have hne : old1 H.length (slc b 0 ver l.length l.length) = false := by
    show (true && decide (b < H.length)) = false
    simp; omega
  cases ho : vs.all (old0 H.length) with
  | false =>
    refine ⟨b, ver, G, ?_, ⟨ys, β, g⟩, p⟩
    have : pack H.length G (slc b 0 ver l.length l.length :: rest) [] [] = none := by
      rw [pack, if_neg (by rw [hne]; decide)]
      show (match G[b]? with
        | some k => if ([] : List Nat).contains b = false ∧ ver = k.ver ∧ k.ro = false ∧ k.cells.all (old0 H.length) = true then _ else none
        | none => none) = _
      rw [hg]
      simp only []
      rw [if_neg (by rw [ho]; simp)]
    unfold finish; rw [this]
  | true =>
    have hall := List.all_eq_true.1 ho
    have hnil : ∀ i, i < l.length → β i = none := fun i hi => by
      obtain ⟨_, h2⟩ := g.row i hi
      cases hb : β i with
      | none => rfl
      | some q =>
        exfalso
        rw [hb] at h2
        obtain ⟨hq, ver', cap, rest, e1, _, _⟩ := h2
        have hm : ys i ∈ vs := mem_elem (esz := 5) (i := i) (by rw [h5 i hi]; simp)
        have := hall _ hm
        rw [e1, old0_slc] at this
        simp at this; omega
    refine ⟨H.length, 0, H ++ [⟨vs, 5, 0, false⟩], ?_, ⟨ys, β, Nat.le_refl _, ⟨vs, get_last, h3, h5⟩, g.hl, fun i hi => ?_, g.dis⟩, Pre.one⟩
    · have : pack H.length G (slc b 0 ver l.length l.length :: rest) [] [] = some (slc H.length 0 0 l.length l.length :: rest, [⟨vs, 5, 0, false⟩]) := by
        rw [pack, if_neg (by rw [hne]; decide)]
        show (match G[b]? with
          | some k => if ([] : List Nat).contains b = false ∧ ver = k.ver ∧ k.ro = false ∧ k.cells.all (old0 H.length) = true then (pack H.length G rest (b :: []) ([] ++ [{ k with ver := 0 }])).map fun (q : List Value × List Blk) => (slc (H.length + ([] : List Blk).length) 0 0 l.length l.length :: q.1, q.2) else none
          | none => none) = _
        rw [hg]
        simp only []
        rw [if_pos ⟨by simp, by simp, by simp, ho⟩, pack_all hr]; rfl
      rw [finish_some this, p.take]
    · obtain ⟨h1, h2⟩ := g.row i hi
      rw [hnil i hi] at h2 ⊢
      exact ⟨h1, h2⟩
/-- Steps with rows of their own, or nothing. -/
def StX (n0 : Nat) (G : Heap) (x : Value) (l : List Sted) : Prop := (x = .slice none 0 0 ∧ l = []) ∨ ∃ b ver, x = slc b 0 ver l.length l.length ∧ StD n0 G b ver l
theorem StX.sts {n0 : Nat} {G : Heap} {x : Value} {l : List Sted} (h : StX n0 G x l) : StS G x l := by
  rcases h with ⟨rfl, rfl⟩ | ⟨b, ver, rfl, h⟩
  · exact ⟨[], ⟨rfl, .inl ⟨rfl, rfl⟩⟩, fun i hi => by simp at hi⟩
  · exact h.sts
theorem StX.pre {n0 : Nat} {G G' : Heap} {x : Value} {l : List Sted} (p : Pre G G') (h : StX n0 G x l) : StX n0 G' x l := by
  rcases h with h | ⟨b, ver, rfl, h⟩
  · exact .inl h
  · exact .inr ⟨b, ver, rfl, h.pre p⟩
/-- Marks over steps. -/
def MkX (n0 : Nat) (G : Heap) (x : Value) (l : List Sted) : Prop := (x = .slice none 0 0 ∧ l = []) ∨ ∃ b ver ys β, x = slc b 0 ver l.length l.length ∧
  RawD n0 G b ver l.length ys β (fun i => msH (mkP (fun i => (at0 l i).rows.length) i)) (fun i => (at0 l i).rows.length) (fun i => mkL (ms2 (mkP (fun i => (at0 l i).rows.length) i + 4)) ((at0 l i).rows.length * 2))
def mkT (l : List Sted) : Int := mkP (fun i => (at0 l i).rows.length) l.length
theorem MkX.pre {n0 : Nat} {G G' : Heap} {x : Value} {l : List Sted} (p : Pre G G') (h : MkX n0 G x l) : MkX n0 G' x l := by
  rcases h with h | ⟨b, ver, ys, β, rfl, h⟩
  · exact .inl h
  · exact .inr ⟨b, ver, ys, β, rfl, h.pre p⟩
theorem markX {n0 : Nat} {G : Heap} {x : Value} {l : List Sted} (h : StX n0 G x l) (hn : l.length ≤ 1000) (hm : ∀ s ∈ l, s.rows.length ≤ 100000) (hn0 : n0 ≤ G.length) :
    ∃ G', Call tab false 181 [x, .int .i64 101] G = some (.int .i64 (mkT l), G') ∧ G'.length = G.length ∧ (∀ j, j < n0 → G'[j]? = G[j]?) ∧ MkX n0 G' x l := by
  rcases h with ⟨rfl, rfl⟩ | ⟨b, ver, rfl, ys, β, h⟩
  · refine ⟨G, Call_wp t181 (.inl rfl) rfl ?_, rfl, fun _ _ => rfl, .inl ⟨rfl, rfl⟩⟩
    simp [c181, k181]
    refine WP_forH 5 0 0 rfl (by omega) (fun i e => e 0 = .slice none 0 0 ∧ e 1 = .int .i64 101) ?_ ?_ (by simp) (by simp)
    · intro i e hi; omega
    · rintro e h5 ⟨h0, h1⟩
      simp [b181_1, h5, h0, h1, mkT, mkP, mkS, itN_zero]
  · obtain ⟨_, h1, G', rfl, h2, h3, h4⟩ := markD (cap := l.length) h hn fun i hi => hm _ (at0_mem hi)
    exact ⟨G', h1, h2, h3, .inr ⟨b, ver, ys, β, rfl, h4⟩⟩
theorem heldX {pu : Bool} {n0 : Nat} {G : Heap} {x : Value} {l : List Sted} (h : MkX n0 G x l) (hn : l.length ≤ 1000) (hm : ∀ s ∈ l, s.rows.length ≤ 100000) : Call tab pu 214 [x, .int .i64 101] G = some (.int .i64 (mkT l), G) := by
  rcases h with ⟨rfl, rfl⟩ | ⟨b, ver, ys, β, rfl, h⟩
  · refine Call_wp t214 (.inr rfl) rfl ?_
    simp [c214, k214]
    refine WP_forH 5 0 0 rfl (by omega) (fun i e => e 0 = .slice none 0 0 ∧ e 1 = .int .i64 101) ?_ ?_ (by simp) (by simp)
    · intro i e hi; omega
    · rintro e h5 ⟨h0, h1⟩
      simp [b214_1, h5, h0, h1, mkT, mkP, mkS, itN_zero]
  · exact heldD h hn fun i hi => hm _ (at0_mem hi)
theorem app_nochk {T : Tab} {n0 : Nat} {wb : Bool} {e : Env} {H : Heap} {Q : Ex → Env → Heap → Prop} {fs : List Fr} {d : Option Nat} {o : Op1} {r : List Stm} {e0 : Env} {outs : List Nat} {fl : List Opd} (h : apart e ⟨none, d, o, fl⟩ = true) :
    OK' T n0 wb (⟨none, d, o, fl⟩ :: r) e H e0 outs fs Q ↔ SK T n0 wb (ev1 (Call T) n0 wb e H o) d r e e0 outs fs Q := by
  unfold OK' SK OPS thn
  simp only [ops, wanted, h, if_true]
  cases ev1 (Call T) n0 wb e H o with
  | none => simp
  | some v => exact Iff.rfl
theorem encS_ok {b : List (List Int)} {lim : Int} {i : Nat} : okS (encS b lim i) := bestS_ok
theorem encP_get {b : List (List Int)} {lim : Int} {n : Nat} : ∀ i, i < n → at0 (encP b lim n).1 i = encS b lim i := by
  induction n with
  | zero => intro i hi; omega
  | succ n ih =>
    intro i hi
    rw [encP_succ]
    simp only []
    rw [at0_app, encP_len.1]
    by_cases h : i < n
    · rw [if_pos h, ih i h]
    · rw [if_neg h, if_pos (by omega), show i = n by omega]
theorem mem_at0 {α : Type} [Inhabited α] {l : List α} {a : α} (h : a ∈ l) : ∃ i, i < l.length ∧ at0 l i = a := by
  obtain ⟨i, hi, rfl⟩ := List.getElem_of_mem h
  exact ⟨i, hi, Option.some.inj ((at0_get hi).symm.trans (List.getElem?_eq_getElem hi))⟩
theorem encP_rows {b : List (List Int)} {lim : Int} {n : Nat} : ∀ s ∈ (encP b lim n).1, s.rows.length ≤ 12 := by
  intro s hs
  obtain ⟨i, hi, rfl⟩ := mem_at0 hs
  rw [encP_len.1] at hi
  rw [encP_get i hi]
  exact encS_ok.2.2
theorem encP_C {b : List (List Int)} {lim : Int} {n : Nat} (hn : n ≤ 1000000) : StsC (encP b lim n).1 := by
  refine ⟨by rw [encP_len.1]; exact hn, fun i hi => ?_, fun s hs => by have := encP_rows s hs; omega⟩
  rw [encP_len.1] at hi
  rw [encP_get i hi]
  exact ⟨encS_ok.1, encS_ok.2.1⟩
theorem sl_of {G : Heap} {b ver : Nat} {ds : List Int} (h : G[b]? = some ⟨cs .i64 ds, 1, ver, false⟩) : SlR G (slc b 0 ver ds.length ds.length) 1 ds.length (cs .i64 ds) :=
  ⟨by simp, .inr ⟨b, 0, ver, _, rfl, Nat.le_refl _, by rw [rd_at h rfl (by simp)]; simp only [List.drop_zero]; rw [List.take_of_length_le (by simp)], _, h, rfl, rfl⟩⟩
/-- What 430 does. -/
theorem call430 {pu : Bool} {H : Heap} {x : Value} {b : List (List Int)} {lim : Int} (h : Bk H x b) (hw : BkW b) (hok : okFs b = true) (hn : b.length ≤ 40) :
    ∃ r, Call tab pu 430 [x, .int .i64 lim] H = some r ∧ ∃ bl ver G, r = (slc bl 0 ver (encP b lim b.length).1.length (encP b lim b.length).1.length, G) ∧ StD H.length G bl ver (encP b lim b.length).1 ∧ Pre H G := by
  refine Call_ex t430 (.inr rfl) rfl ?_
  simp [c430, k430, fill, rep]
  refine WP_count 7 b.length b.length rfl (fun i e G => e 0 = x ∧ e 1 = .int .i64 lim ∧ ∃ v1 v2, e 5 = slc H.length 0 v1 i i ∧ e 6 = slc (H.length + 1) 0 v2 i i ∧ Pre H G ∧ StD H.length G H.length v1 (encP b lim i).1 ∧ G[H.length + 1]? = some ⟨cs .i64 (encP b lim i).2, 1, v2, false⟩) (by omega) ?_ ?_ (by simp) ?_
  · rintro i e G _ hi hii e4 h7 ⟨h0, h1, v1, v2, h5, h6, hP, hS, hD⟩
    have hl := encP_len (b := b) (lim := lim) (i := i)
    have hle := encP_ok (b := b) (lim := lim) (i := i)
    have hsu := encP_succ (b := b) (lim := lim) (i := i)
    have hbs := bestS_b (b := b) (k := i) (p := fun j => !decide (lim ≤ nth (encP b lim i).2 j)) (i := i)
    have hes : encS b lim i = bestS b i (fun j => !decide (lim ≤ nth (encP b lim i).2 j)) i := rfl
    generalize encP b lim i = q at *
    obtain ⟨l, ds⟩ := q
    simp only [] at *
    obtain ⟨hl1, hl2⟩ := hl
    subst hl1
    have hz := sl_of hD
    rw [hl2] at hz
    obtain ⟨_, h404, y, G1, rfl, hP1, hY⟩ := call404 (pu := true) (lim := lim) (SlR.pre hP h) hw hok hn hi (by rw [hl2]; exact hz) (Nat.le_of_eq hl2.symm)
    rw [← hes] at hY h404
    rw [← hes] at hbs
    generalize encS b lim l.length = s at *
    have hD1 : G1[H.length + 1]? = some ⟨cs .i64 ds, 1, v2, false⟩ := by rw [hP1.get (List.getElem?_eq_some_iff.1 hD).1]; exact hD
    have hr1 : (l.length + 1) * 32 ≤ roomMax := by have : roomMax = 140737488355328 := rfl; omega
    have hr2 : (l.length + 1) * 8 ≤ roomMax := by have : roomMax = 140737488355328 := rfl; omega
    obtain ⟨G2, hp1, hS2, hk2, hpre2⟩ := hS.push hP1 hY hP.len hr1 (wb := false)
    have hD2 := hk2 _ _ (by omega) hD1
    have hPH1 := hP.trans hP1
    have hPH2 := hpre2 H hPH1 (Nat.le_refl _)
    have hb2 : ∀ d : Int, ((srcOf 1 (G2 ++ [⟨[.int .i64 d], 1, 0, false⟩]) (slc G2.length 0 0 1 1)).bind fun q => appendTo H.length false 1 8 (G2 ++ [⟨[.int .i64 d], 1, 0, false⟩]) (slc (H.length + 1) 0 v2 l.length l.length) q.1 q.2) = _ := fun d =>
      push_at (n0 := H.length) (n := l.length) (bytes := 8) (c := [.int .i64 d]) hD2 (by omega) (by simp [hl2]) rfl hr2
    have hf5 : fill (rep 1 [.int .i8 0, .int .i8 0, .int .i8 0, .int .i8 0, .slice none 0 0]) [(0, 5, agg (stC s y))] = some (stC s y) := fill_one rfl rfl
    have hf1 : ∀ d : Int, fill (rep 1 [.int .i64 0]) [(0, 1, .int .i64 d)] = some [.int .i64 d] := fun d => fill_one rfl rfl
    have key : ∀ d : Int, d = depV s ds → ∃ v2', StD H.length ((G2 ++ [(⟨[.int .i64 d], 1, 0, false⟩ : Blk)]).set (H.length + 1) ⟨cs .i64 ds ++ [.int .i64 d], 1, v2 + 1, false⟩) H.length (v1 + 1) (encP b lim (l.length + 1)).1 ∧
        ((G2 ++ [(⟨[.int .i64 d], 1, 0, false⟩ : Blk)]).set (H.length + 1) ⟨cs .i64 ds ++ [.int .i64 d], 1, v2 + 1, false⟩)[H.length + 1]? = some ⟨cs .i64 (encP b lim (l.length + 1)).2, 1, v2', false⟩ ∧ v2' = v2 + 1 := fun d hd => by
      refine ⟨v2 + 1, ?_, ?_, rfl⟩
      · rw [hsu]
        exact hS2.keep fun b' k hk he => by
          rw [push_get ?_ (List.getElem?_eq_some_iff.1 hk).1]
          · exact hk
          · rintro rfl
            rw [hD2] at hk
            cases hk
            exact he rfl
      · rw [push_self (List.getElem?_eq_some_iff.1 hD2).1, hsu, cs_push, hd]
    cases hz0 : s.a == 0 with
    | true =>
      have ev : depV s ds = 0 := by rw [depV, if_pos hz0]
      obtain ⟨v2', k1, k2, rfl⟩ := key 0 ev.symm
      simp only [stC] at h404 hf5 hp1
      have hz1 : (s.a != 0) = false := by rw [bne, hz0]; rfl
      simp [b430_1, h7, h0, h1, h5, h6, hii, SlR.lenV h, h404, stc5, ldc5a, ldc5, hz1, hf5, hp1, hf1, hb2, wbOf, e4]
      exact ⟨_, rfl, _, rfl, push_pre hPH2 (by omega), k1, k2⟩
    | false =>
      obtain ⟨m, hm, hmi⟩ : ∃ m : Nat, s.b = m ∧ m < l.length := by
        rcases hbs with h | h
        · rw [h] at hz0; cases hz0
        · exact h
      have hbm := hle m hmi
      have ev : depV s ds = nth ds m + 1 := by rw [depV, if_neg (by rw [hz0]; decide), hm]; rfl
      obtain ⟨v2', k1, k2, rfl⟩ := key _ ev.symm
      have w1 : IntKind.wrap .i64 (nth ds m + 1) = nth ds m + 1 := wrap64 (by omega)
      have hz' := (sl_of hD1).get1 (i := m) (by omega)
      rw [hl2] at hz'
      obtain ⟨q2, off2, ver2, ha2, hr2⟩ := hz'
      rw [elem_i (by omega)] at hr2
      rw [idxAV_k (k' := .i8)] at ha2
      simp only [stC, hm] at h404 hf5 hp1
      have hz1 : (s.a != 0) = true := by rw [bne, hz0]; rfl
      simp [b430_1, h7, h0, h1, h5, h6, hii, SlR.lenV h, h404, stc5, ldc5a, ldc5b, ldc5, hz1, hm, ha2, hr2, w1, hf5, hp1, hf1, hb2, wbOf, e4, -idxAV_slc]
      exact ⟨_, rfl, _, rfl, push_pre hPH2 (by omega), k1, k2⟩
  · rintro e G _ h7 ⟨h0, h1, v1, v2, h5, h6, hP, hS, hD⟩
    have hl := (encP_len (b := b) (lim := lim) (i := b.length)).1
    obtain ⟨b', ver', G', hf, hS', hP'⟩ := hS.fin hP (rest := []) rfl
    rw [hl] at hf ⊢
    simp [b430_1, h7, h0, h5, SlR.lenV h, hf]
    exact ⟨_, _, _, ⟨rfl, rfl⟩, hS', hP'⟩
  · have hP0 : Pre H (H ++ [(⟨[], 5, 0, false⟩ : Blk), ⟨[], 1, 0, false⟩]) := ⟨_, rfl⟩
    have hP1 : Pre (H ++ [(⟨[], 5, 0, false⟩ : Blk)]) (H ++ [(⟨[], 5, 0, false⟩ : Blk), ⟨[], 1, 0, false⟩]) := ⟨[⟨[], 1, 0, false⟩], by simp⟩
    refine ⟨by simp, by simp, 0, 0, by simp, by simp, hP0, ?_, ?_⟩
    · rw [encP_zero]; exact (StD.new (Nat.le_refl _)).pre hP1
    · rw [encP_zero]; simp [cs]
/-- What 216 does. -/
def encC (b : List (List Int)) (lim : Int) : Int := if okB b = true then if in1 lim 0 40 = true then 0 else 2 else 1
def encL (b : List (List Int)) (lim : Int) : List Sted := if encC b lim = 0 then (encP b lim b.length).1 else []
def encT (b : List (List Int)) (lim : Int) : Int := if encC b lim = 0 then sumC (encP b lim b.length).1 b.length else 0
/-- Steps, what they cost, and a code. -/
def RsE (H : Heap) (r : Value × Heap) (l : List Sted) (t c : Int) : Prop := ∃ x G, r = (tup [x, .int .i64 t, .int .i64 c], G) ∧ StX H.length G x l ∧ Pre H G
theorem okB_fs2 {b : List (List Int)} (h : okB b = true) : okFs b = true ∧ b.length ≤ 40 := by
  simp only [okB, Bool.and_eq_true, decide_eq_true_eq] at h; exact h
theorem nil_fin {H : Heap} {t c : Int} : ∃ r, finish H.length (H ++ [⟨[], 5, 0, false⟩]) [slc H.length 0 0 0 0, .int .i64 t, .int .i64 c] = r ∧ RsE H r [] t c := by
  obtain ⟨b', ver', G', e, h1, h2⟩ := (StD.new (n0 := H.length) (G := H) (Nat.le_refl _)).fin Pre.one (rest := [.int .i64 t, .int .i64 c]) rfl
  exact ⟨_, e, _, G', rfl, .inr ⟨b', ver', rfl, h1⟩, h2⟩
theorem call215 {pu : Bool} {H : Heap} {x : Value} {b : List (List Int)} {lim : Int} (h : Bk H x b) (hw : BkW b) (hn : b.length ≤ 1000000) :
    ∃ r, Call tab pu 215 [x, .int .i64 lim] H = some r ∧ RsE H r (encL b lim) (encT b lim) (encC b lim) := by
  refine Call_ex t215 (.inr rfl) rfl ?_
  have h1 := call318 (pu := true) h hw (by omega)
  cases k1 : okB b with
  | false =>
    obtain ⟨r, e, q⟩ := nil_fin (H := H) (t := 0) (c := 1)
    have hc : encC b lim = 1 := by simp [encC, k1]
    simp [c215, k215, h1, k1, fill, rep, e]
    simpa [encL, encT, hc] using q
  | true =>
    cases k2 : in1 lim 0 40 with
    | false =>
      obtain ⟨r, e, q⟩ := nil_fin (H := H) (t := 0) (c := 2)
      have hc : encC b lim = 2 := by simp [encC, k1, k2]
      simp [c215, k215, h1, k1, in304, k2, fill, rep, e]
      simpa [encL, encT, hc] using q
    | true =>
      obtain ⟨ho, hl⟩ := okB_fs2 k1
      have hc : encC b lim = 0 := by simp [encC, k1, k2]
      obtain ⟨_, h2, bl, ver, G, rfl, hS, hP⟩ := call430 (pu := true) (lim := lim) h hw ho hl
      have h3 := cost396 (pu := true) hS.sts (encP_C (b := b) (lim := lim) (n := b.length) hn)
      obtain ⟨b', ver', G', e, hS', hP'⟩ := hS.fin hP (rest := [.int .i64 (sumC (encP b lim b.length).1 b.length), .int .i64 0]) rfl
      rw [encP_len.1] at h2 h3 e
      simp [c215, k215, h1, k1, in304, k2, h2, h3, e]
      exact ⟨slc b' 0 ver' b.length b.length, G', by simp [encT, hc], .inr ⟨b', ver', by simp [encL, hc, encP_len], by simpa [encL, hc] using hS'⟩, hP'⟩
theorem bestS_congr' {b : List (List Int)} {lim : Int} {i : Nat} {ds : List Int} : bestS b i (fun j => decide (nth ds j < lim)) i = bestS b i (fun j => !decide (lim ≤ nth ds j)) i :=
  bestS_congr fun j _ => by
    by_cases h : nth ds j < lim
    · simp [h]
    · simp [h]; omega
theorem call216 {pu : Bool} {H : Heap} {x : Value} {b : List (List Int)} {lim : Int} (h : Bk H x b) (hw : BkW b) (hn : b.length ≤ 1000000) :
    ∃ r, Call tab pu 216 [x, .int .i64 lim] H = some r ∧ RsE H r (encL b lim) (encT b lim) (encC b lim) := by
  refine Call_ex t216 (.inr rfl) rfl ?_
  obtain ⟨HL, hHL⟩ : ∃ HL, HL = H ++ [(⟨[.int .i64 lim], 1, 0, false⟩ : Blk)] := ⟨_, rfl⟩
  have pL : Pre H HL := by rw [hHL]; exact Pre.one
  have hlim : rd HL H.length 0 0 1 = some [.int .i64 lim] := by rw [hHL]; exact rd_last rfl rfl
  have h1 := call316 (pu := true) (SlR.pre pL h) hw (by omega)
  have hnil : ∀ c : Int, encC b lim = c → c ≠ 0 → ∃ r, finish H.length HL [.slice none 0 0, .int .i64 0, .int .i64 c] = r ∧ RsE H r (encL b lim) (encT b lim) (encC b lim) := fun c hc h0 => by
    have e1 : finish H.length HL [.slice none 0 0, .int .i64 0, .int .i64 c] = (one [.slice none 0 0, .int .i64 0, .int .i64 c], HL.take H.length) := finish_vs (by simp)
    rw [pL.take] at e1
    exact ⟨_, e1, .slice none 0 0, H, by simp [hc, encT, h0], .inl ⟨rfl, by simp [encL, hc, h0]⟩, .refl⟩
  cases k1 : okB b with
  | false =>
    obtain ⟨r, e, q⟩ := hnil 1 (by simp [encC, k1]) (by omega)
    simp [c216, k216, ← hHL, h1, k1, e]
    exact q
  | true =>
    cases k2 : in1 lim 0 40 with
    | false =>
      obtain ⟨r, e, q⟩ := hnil 2 (by simp [encC, k1, k2]) (by omega)
      simp [c216, k216, ← hHL, h1, k1, hlim, in295, k2, e]
      exact q
    | true =>
      obtain ⟨ho, hl⟩ := okB_fs2 k1
      have hc : encC b lim = 0 := by simp [encC, k1, k2]
      have hlH : HL.length = H.length + 1 := by rw [hHL]; simp
      obtain ⟨N, hN⟩ : ∃ N, N = HL.length := ⟨_, rfl⟩
      obtain ⟨G0, hG0⟩ : ∃ G0, G0 = HL ++ [(⟨[], 5, 0, false⟩ : Blk), ⟨[], 1, 0, false⟩, ⟨[slc (N + 1) 0 0 0 0], 1, 0, false⟩] := ⟨_, rfl⟩
      have hwr0 : wr H.length false (HL ++ [(⟨[], 5, 0, false⟩ : Blk), ⟨[], 1, 0, false⟩, ⟨[.slice none 0 0], 1, 0, false⟩]) (N + 2) 0 0 [slc (N + 1) 0 0 0 0] = some G0 := by
        have e0 : HL ++ [(⟨[], 5, 0, false⟩ : Blk), ⟨[], 1, 0, false⟩, ⟨[.slice none 0 0], 1, 0, false⟩] = (HL ++ [(⟨[], 5, 0, false⟩ : Blk), ⟨[], 1, 0, false⟩]) ++ [⟨[.slice none 0 0], 1, 0, false⟩] := by simp
        have e1 : N + 2 = (HL ++ [(⟨[], 5, 0, false⟩ : Blk), ⟨[], 1, 0, false⟩]).length := by simp [hN]
        have e2 := wr_last (n0 := H.length) (wb := false) (H := HL ++ [(⟨[], 5, 0, false⟩ : Blk), ⟨[], 1, 0, false⟩]) (b := ⟨[.slice none 0 0], 1, 0, false⟩) (vs := [slc (N + 1) 0 0 0 0]) rfl rfl (by simp; omega) rfl
        rw [e0, e1, e2, hG0]
        simp
      have pG0 : Pre HL G0 := by rw [hG0]; exact ⟨_, rfl⟩
      have g1 : G0[H.length]? = some ⟨[.int .i64 lim], 1, 0, false⟩ := by rw [pG0.get (by omega), hHL]; exact get_last
      have g3 : G0[N + 1]? = some ⟨cs .i64 [], 1, 0, false⟩ := by rw [hG0, hN]; simp [cs]
      have g4 : G0[N + 2]? = some ⟨[slc (N + 1) 0 0 0 0], 1, 0, false⟩ := by rw [hG0, hN]; simp
      have s0 : StD H.length G0 N 0 [] := by
        have := StD.new (n0 := H.length) (G := HL) (by omega)
        rw [← hN] at this
        exact this.pre ⟨[⟨[], 1, 0, false⟩, ⟨[slc (N + 1) 0 0 0 0], 1, 0, false⟩], by rw [hG0]; simp⟩
      simp [c216, k216, ← hHL, h1, k1, hlim, in295, k2, fill, rep, SlR.lenV h, ← hN, hwr0, wbOf]
      have hNH : N = H.length + 1 := by omega
      refine WP_count 23 b.length b.length rfl (fun i e G => e 0 = x ∧ e 3 = adr H.length 0 0 ∧ e 8 = adr (N + 2) 0 0 ∧ e 22 = .int .i64 b.length ∧ ∃ v1 v2, e 7 = slc N 0 v1 i i ∧ Pre H G ∧ StD H.length G N v1 (encP b lim i).1 ∧ G[H.length]? = some ⟨[.int .i64 lim], 1, 0, false⟩ ∧ G[N + 1]? = some ⟨cs .i64 (encP b lim i).2, 1, v2, false⟩ ∧ G[N + 2]? = some ⟨[slc (N + 1) 0 v2 i i], 1, 0, false⟩) (by omega) ?_ ?_ (by simp) ⟨by simp, by simp, by simp, by simp, 0, 0, by simp, pL.trans pG0, by rw [encP_zero]; exact s0, g1, by rw [encP_zero]; exact g3, g4⟩
      · rintro i e G _ hi hii e4 h23 ⟨h0, h3, h8, h22, v1, v2, h7, hP, hS, hL, hD, hQ⟩
        have hl := encP_len (b := b) (lim := lim) (i := i)
        have hle := encP_ok (b := b) (lim := lim) (i := i)
        have hsu := encP_succ (b := b) (lim := lim) (i := i)
        have hbs := bestS_b (b := b) (k := i) (p := fun j => !decide (lim ≤ nth (encP b lim i).2 j)) (i := i)
        have hes : encS b lim i = bestS b i (fun j => !decide (lim ≤ nth (encP b lim i).2 j)) i := rfl
        have hokS := encS_ok (b := b) (lim := lim) (i := i)
        generalize encP b lim i = q at *
        obtain ⟨l, ds⟩ := q
        simp only [] at *
        obtain ⟨hl1, hl2⟩ := hl
        subst hl1
        have hz := sl_of hD
        rw [hl2] at hz
        obtain ⟨_, h406, y, G1, rfl, hP1, hY⟩ := call406 (pu := true) (F := .func (.func 431) #[] #[adr (N + 2) 0 0, adr H.length 0 0]) (p := fun j => decide (nth ds j < lim)) (SlR.pre hP h) hw ho hl hi fun G' j pG hj => by
          have := call431 (pu := true) (G := G') (j := j) (P := N + 2) (Q := H.length) (o := 0) (o' := 0) (v := 0) (v' := 0) (g := slc (N + 1) 0 v2 l.length l.length) (ds := ds) (lim := lim) (pG.rd (by rw [rd_at hQ rfl (by simp)]; rfl)) (SlR.pre pG (by rw [hl2]; exact hz)) (by omega) (pG.rd (by rw [rd_at hL rfl (by simp)]; rfl))
          rw [← this]
          simp [callV]
        rw [bestS_congr', ← hes] at hY h406
        rw [← hes] at hbs
        generalize encS b lim l.length = s at *
        have hlt2 := (List.getElem?_eq_some_iff.1 hQ).1
        have hD1 : G1[N + 1]? = some ⟨cs .i64 ds, 1, v2, false⟩ := by rw [hP1.get (List.getElem?_eq_some_iff.1 hD).1]; exact hD
        have hQ1 : G1[N + 2]? = some ⟨[slc (N + 1) 0 v2 l.length l.length], 1, 0, false⟩ := by rw [hP1.get hlt2]; exact hQ
        have hL1 : G1[H.length]? = some ⟨[.int .i64 lim], 1, 0, false⟩ := by rw [hP1.get (List.getElem?_eq_some_iff.1 hL).1]; exact hL
        have hr1 : (l.length + 1) * 32 ≤ roomMax := by have : roomMax = 140737488355328 := rfl; omega
        have hr2 : (l.length + 1) * 8 ≤ roomMax := by have : roomMax = 140737488355328 := rfl; omega
        obtain ⟨G2, hp1, hS2, hk2, hpre2⟩ := hS.push hP1 hY hP.len hr1 (wb := false)
        have hD2 := hk2 _ _ (by omega) hD1
        have hQ2 := hk2 _ _ (by omega) hQ1
        have hL2 := hk2 _ _ (by omega) hL1
        have hPH1 := hP.trans hP1
        have hPH2 := hpre2 H hPH1 (by omega)
        have hrQ : rd G2 (N + 2) 0 0 1 = some [slc (N + 1) 0 v2 l.length l.length] := by rw [rd_at hQ2 rfl (by simp)]; rfl
        have hz2 := sl_of hD2
        have hrQ1 : rd (G1 ++ [(⟨stC s y, 5, 0, false⟩ : Blk)]) (N + 2) 0 0 1 = some [slc (N + 1) 0 v2 l.length l.length] := by
          refine rd_app ?_
          rw [rd_at hQ1 rfl (by simp)]; rfl
        have hG1K : Pre G G1 := hP1
        have h400 := call400 (pu := true) (G := G2) (s := s) (y := y) (g := slc (N + 1) 0 v2 l.length l.length) (ds := ds) (by rw [← hl2]; exact hz2) (fun hz0 => by
          rcases hbs with h | ⟨m, h1, h2⟩
          · rw [h] at hz0; cases hz0
          · exact ⟨m, h1, by omega⟩) (fun j hj => by have := hle j (by omega); omega)
        have hb2 := push_at (n0 := H.length) (n := l.length) (bytes := 8) (wb := false) (c := [.int .i64 (depV s ds)]) hD2 (by omega) (by simp [hl2]) rfl hr2
        have hf5 : fill (rep 1 [.int .i8 0, .int .i8 0, .int .i8 0, .int .i8 0, .slice none 0 0]) [(0, 5, agg (stC s y))] = some (stC s y) := fill_one rfl rfl
        have hf1 : fill (rep 1 [.int .i64 0]) [(0, 1, .int .i64 (depV s ds))] = some [.int .i64 (depV s ds)] := fill_one rfl rfl
        obtain ⟨G3, hG3⟩ : ∃ G3, G3 = (G2 ++ [(⟨[.int .i64 (depV s ds)], 1, 0, false⟩ : Blk)]).set (N + 1) ⟨cs .i64 ds ++ [.int .i64 (depV s ds)], 1, v2 + 1, false⟩ := ⟨_, rfl⟩
        rw [← hG3] at hb2
        have hlG2 : ∀ (b' : Nat) (k : Blk), G2[b']? = some k → b' < G2.length := fun b' k hk => (List.getElem?_eq_some_iff.1 hk).1
        have hQ3 : G3[N + 2]? = some ⟨[slc (N + 1) 0 v2 l.length l.length], 1, 0, false⟩ := by rw [hG3, push_get (by omega) (hlG2 _ _ hQ2)]; exact hQ2
        have hL3 : G3[H.length]? = some ⟨[.int .i64 lim], 1, 0, false⟩ := by rw [hG3, push_get (by omega) (hlG2 _ _ hL2)]; exact hL2
        have hD3 : G3[N + 1]? = some ⟨cs .i64 (encP b lim (l.length + 1)).2, 1, v2 + 1, false⟩ := by rw [hG3, push_self (hlG2 _ _ hD2), hsu, cs_push]
        have hP3 : Pre H G3 := by rw [hG3]; exact push_pre hPH2 (by omega)
        have hS3 : StD H.length G3 N (v1 + 1) (encP b lim (l.length + 1)).1 := by
          rw [hsu]
          refine hS2.keep fun b' k hk he => ?_
          rw [hG3, push_get ?_ (hlG2 _ _ hk)]
          · exact hk
          · rintro rfl
            rw [hD2] at hk
            cases hk
            exact he rfl
        obtain ⟨G4, hG4⟩ : ∃ G4, G4 = G3.set (N + 2) ⟨[slc (N + 1) 0 (v2 + 1) (l.length + 1) (l.length + 1)], 1, 0, false⟩ := ⟨_, rfl⟩
        have hwr4 : wr H.length false G3 (N + 2) 0 0 [slc (N + 1) 0 (v2 + 1) (l.length + 1) (l.length + 1)] = some G4 := by
          rw [wr_at hQ3 rfl rfl (by simp [may]; omega) (by simp), hG4]; rfl
        simp only [stC] at h406 hf5 hp1 h400 hrQ1
        have hne : ¬ N = N + 2 := by omega
        simp [b216_1, h23, h0, h3, h8, h22, h7, hii, h406, stc5, ldc5, hf5, hrQ1, app_nochk, apart, mods, hp1, h400, hf1, hb2, hwr4, wbOf, e4]
        refine ⟨_, rfl, ?_⟩
        refine ⟨by rw [hG4]; exact hP3.set (by omega), hS3.keep fun b' k hk he => ?_, ?_, v2 + 1, ?_, ?_⟩
        · rw [hG4, List.getElem?_set_ne]
          · exact hk
          · rintro rfl
            rw [hQ3] at hk
            cases hk
            exact he rfl
        · rw [hG4, List.getElem?_set_ne (by omega)]; exact hL3
        · rw [hG4, List.getElem?_set_ne (by omega)]; exact hD3
        · rw [hG4]; exact get_set hQ3
      · rintro e G _ h23 ⟨h0, h3, h8, h22, v1, v2, h7, hP, hS, hL, hD, hQ⟩
        have h3' := cost397 (pu := true) hS.sts (encP_C (b := b) (lim := lim) (n := b.length) hn)
        obtain ⟨b', ver', G', e1, hS', hP'⟩ := hS.fin hP (rest := [.int .i64 (sumC (encP b lim b.length).1 b.length), .int .i64 0]) rfl
        rw [encP_len.1] at h3' e1
        simp [b216_1, h23, h22, h7, h3', e1]
        exact ⟨slc b' 0 ver' b.length b.length, G', by simp [encT, hc], .inr ⟨b', ver', by simp [encL, hc, encP_len], by simpa [encL, hc] using hS'⟩, hP'⟩
theorem encL_len {b : List (List Int)} {lim : Int} : (encL b lim).length ≤ 1000 := by
  unfold encL
  split
  · rename_i h
    have : okB b = true := by
      cases k : okB b with
      | true => rfl
      | false => simp [encC, k] at h
    rw [encP_len.1]; have := (okB_fs2 this).2; omega
  · simp
theorem encL_rows {b : List (List Int)} {lim : Int} : ∀ s ∈ encL b lim, s.rows.length ≤ 100000 := by
  unfold encL
  split
  · intro s hs; have := encP_rows s hs; omega
  · intro s hs; cases hs
/-- The calls that a law from a book to steps makes. -/
theorem lsx_enc {sp im : Nat} {extra : List Value} {H : Heap} {x : Value} {b : List (List Int)} {L : List Sted} {t c : Int} (hs : Bk H x b) (hw : BkW b) (hbig : b.length ≤ 1000000) (hL : L.length ≤ 1000) (hLr : ∀ s ∈ L, s.rows.length ≤ 100000)
    (hsp : ∀ G y, Bk G y b → ∃ r, Call tab true sp (y :: extra) G = some r ∧ RsE G r L t c) (him : ∀ G y, Bk G y b → ∃ r, Call tab true im (y :: extra) G = some r ∧ RsE G r L t c) :
    ∃ x1 G1 rs G1' x2 G2 ri G2' x3 G3 G4 G5 x4 G6 r4 G7, Call tab true 105 [x, .bool false] H = some (x1, G1) ∧ Call tab true sp (x1 :: extra) G1 = some (tup [rs, .int .i64 t, .int .i64 c], G1') ∧
      Call tab true 105 [x, .bool false] G1' = some (x2, G2) ∧ Call tab true im (x2 :: extra) G2 = some (tup [ri, .int .i64 t, .int .i64 c], G2') ∧ Call tab true 213 [ri, rs] G2' = some (.bool true, G2') ∧
      Call tab true 105 [x, .bool false] G2' = some (x3, G3) ∧ Call tab true 107 [x2, x3] G3 = some (.bool true, G3) ∧
      (Call tab false 122 [x2, .int .i64 101] G3).bind (elder H.length false G3) = some (.int .i64 (101 + (b.length * 12 : Nat)), G4) ∧ Call tab true 213 [ri, rs] G4 = some (.bool true, G4) ∧
      (Call tab false 181 [ri, .int .i64 101] G4).bind (elder H.length false G4) = some (.int .i64 (mkT L), G5) ∧ Call tab true 214 [ri, .int .i64 101] G5 = some (.int .i64 (mkT L), G5) ∧
      Call tab true 105 [x, .bool true] G5 = some (x4, G6) ∧ Call tab true im (x4 :: extra) G6 = some (tup [r4, .int .i64 t, .int .i64 c], G7) ∧ Call tab true 213 [r4, rs] G7 = some (.bool true, G7) ∧
      Call tab true 214 [ri, .int .i64 101] G7 = some (.int .i64 (mkT L), G7) ∧ Pre H G7 ∧ 0 ≤ mkT L := by
  have hbl := bkC_length hw
  have hL6 : L.length ≤ 1000000 := by omega
  have hLr6 : ∀ s ∈ L, s.rows.length ≤ 1000000 := fun s h => by have := hLr s h; omega
  obtain ⟨x1, G1, q1, k1, o1, p1⟩ := cp_own (pu := true) hbl rfl (call105 hs hw hbig)
  obtain ⟨_, w1, rs, G1', rfl, X1, p1'⟩ := hsp G1 x1 o1.sl
  have P1 := p1.trans p1'
  obtain ⟨x2, G2, q2, k2, o2, p2⟩ := cp_own (pu := true) hbl rfl (call105 (SlR.pre P1 hs) hw hbig)
  obtain ⟨_, w2, ri, G2', rfl, X2, p2'⟩ := him G2 x2 o2.sl
  have P2 := (P1.trans p2).trans p2'
  have ss2 := (X1.sts.pre p2).pre p2'
  have e1 := call213 (pu := true) X2.sts ss2 hL6 hLr6
  obtain ⟨x3, G3, q3, k3, o3, p3⟩ := cp_own (pu := true) hbl rfl (call105 (SlR.pre P2 hs) hw hbig)
  have P3 := P2.trans p3
  have i1 := call107 (pu := true) ((k2.pre p2').pre p3) k3 hw hbig
  obtain ⟨G4, m1, s4, o24⟩ := mark122 G3 x2 _ _ b.length _ 101 ((o2.pre p2').pre p3) hbig (by omega) (by omega)
  have hG1 : H.length ≤ G1'.length := P1.len
  have P4 : Pre H G4 := s4.pre P3 fun b hb => by cases hb; exact hG1
  have p13 : Pre G1' G3 := (p2.trans p2').trans p3
  have p14 : Pre G1' G4 := s4.pre p13 fun b hb => by cases hb; exact Nat.le_refl _
  have hb2 : G1'.length < G2.length := o2.lt.2
  have ss4 : StS G4 rs L := X1.sts.pre p14
  have X4 : StX G2.length G4 ri L := by
    have X3 := X2.pre p3
    rcases X3 with h | ⟨bl, ver, rfl, ys, β, h⟩
    · exact .inl h
    · refine .inr ⟨bl, ver, rfl, ys, β, h.lo, ?_, h.hl, fun i hi => (h.row i hi).agree fun q hq => ?_, h.dis⟩
      · obtain ⟨vs, hg, h2⟩ := h.out
        refine ⟨vs, ?_, h2⟩
        have := h.lo
        rw [s4.get _ (by intro he; cases he; omega)]; exact hg
      · have := (h.row i hi).below q hq
        exact s4.get _ (by intro he; cases he; omega)
  have e3 := call213 (pu := true) X4.sts ss4 hL6 hLr6
  have m2 : (Call tab false 122 [x2, .int .i64 101] G3).bind (elder H.length false G3) = some (.int .i64 (101 + (b.length * 12 : Nat)), G4) := by rw [m1]; exact elder_pre P3 P4
  have hG24 : G2.length ≤ G4.length := by rw [s4.len]; exact Nat.le_trans p2'.len p3.len
  obtain ⟨G5, n1, n2, n3, n4⟩ := markX X4 hL hLr hG24
  have hG2 : H.length ≤ G2.length := (P1.trans p2).len
  have P5 : Pre H G5 := pre_of_get (by rw [n2]; exact P4.len) fun j hj => by rw [n3 j (by omega), P4.get hj]
  have p15 : Pre G1' G5 := pre_of_get (by rw [n2]; exact p14.len) fun j hj => by rw [n3 j (by omega), p14.get hj]
  have n5 : (Call tab false 181 [ri, .int .i64 101] G4).bind (elder H.length false G4) = some (.int .i64 (mkT L), G5) := by rw [n1]; exact elder_pre P4 P5
  have d1 := heldX (pu := true) n4 hL hLr
  obtain ⟨x4, G6, q4, r4, p6⟩ := cp_true (pu := true) hbl rfl (call105 (SlR.pre P5 hs) hw hbig)
  obtain ⟨_, w3, y3, G7, rfl, X5, p7⟩ := him G6 x4 r4
  have P7 := (P5.trans p6).trans p7
  have e4 := call213 (pu := true) X5.sts (X1.sts.pre ((p15.trans p6).trans p7)) hL6 hLr6
  have d2 := heldX (pu := true) ((n4.pre p6).pre p7) hL hLr
  exact ⟨x1, G1, rs, G1', x2, G2, ri, G2', x3, G3, G4, G5, x4, G6, y3, G7, q1, w1, q2, w2, e1, q3, i1, m2, e3, n5, d1, q4, w3, e4, d2, P7, by unfold mkT mkP; omega⟩
theorem call43 {H : Heap} {x : Value} {b : List (List Int)} {lim : Int} (hs : Bk H x b) (hw : BkW b) (hn : b.length ≤ 9223372036854775807) : ∃ H', Call tab false 43 [x, .int .i64 lim] H = some (.bool true, H') := by
  refine ⟨H, Call_wp t43 (.inl rfl) rfl ?_⟩
  have hsz := sz_call s103 (pu := true) hs (left := 1000000) (by omega) (by omega) hn
  by_cases hbig : b.length ≤ 1000000
  · have hsz' : ¬ (1000000 - (b.length : Int) < 0) := by omega
    rw [if_neg hsz'] at hsz
    obtain ⟨x1, G1, rs, G1', x2, G2, ri, G2', x3, G3, G4, G5, x4, G6, r4, G7, q1, w1, q2, w2, e1, q3, i1, m2, e3, n5, d1, q4, w3, e4, d2, P7, hM⟩ := lsx_enc (sp := 215) (im := 216) (extra := [.int .i64 lim]) hs hw hbig encL_len encL_rows (fun G y h => call215 (pu := true) h hw hbig) fun G y h => call216 (pu := true) h hw hbig
    have hneg : ¬ (mkT (encL b lim) < 0) := by omega
    have hneg2 : ¬ ((101 : Int) + ((b.length * 12 : Nat) : Int) < 0) := by omega
    simp [c43, k43, hsz, hsz', wbOf, q1, w1, q2, w2, e1, q3, i1, m2, e3, n5, d1, q4, w3, e4, d2, hneg, hneg2, skip, P7.take, -Int.natCast_add, -Int.natCast_mul]
  · have hsz' : 1000000 - (b.length : Int) < 0 := by omega
    rw [if_pos hsz'] at hsz
    simp [c43, k43, hsz]
end Fb
