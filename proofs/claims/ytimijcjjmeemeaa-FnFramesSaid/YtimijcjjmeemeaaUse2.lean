/- What each function computes. -/
import Derived.Test.YtimijcjjmeemeaaUse1
set_option linter.unusedVariables false
set_option linter.unusedSimpArgs false
namespace Fb
open Go
theorem dotL_put {g : List Int} (h : VF g) {x y k : Nat} (hx : x < 12) (hy : y < 12) (hk : k ≤ 144) : (dotL (putF g x y) k).length ≤ (dotL g k).length + (if y * 12 + x < k then 1 else 0) := by
  induction k with
  | zero => simp [dotL]
  | succ k ih =>
    have ih := ih (by omega)
    have e := hasF_put h hx hy (u := k % 12) (v := k / 12) (by omega) (by omega)
    have d1 : (dotL (putF g x y) (k + 1)).length = (dotL (putF g x y) k).length + (if hasK (putF g x y) k = true then 1 else 0) := by
      unfold dotL; rw [List.range_succ, List.filter_append, List.length_append]
      cases hh : hasK (putF g x y) k <;> simp [hh]
    have d2 : (dotL g (k + 1)).length = (dotL g k).length + (if hasK g k = true then 1 else 0) := by
      unfold dotL; rw [List.range_succ, List.filter_append, List.length_append]
      cases hh : hasK g k <;> simp [hh]
    rw [d1, d2]
    have e2 : hasK (putF g x y) k = (hasK g k || (decide (k % 12 = x) && decide (k / 12 = y))) := e
    rw [e2]
    by_cases hxy : k % 12 = x ∧ k / 12 = y
    · have hlt : ¬ y * 12 + x < k := by omega
      have hlt2 : y * 12 + x < k + 1 := by omega
      rw [if_neg hlt] at ih
      rw [if_pos hlt2]
      split <;> split <;> omega
    · have e3 : (decide (k % 12 = x) && decide (k / 12 = y)) = false := by simpa using hxy
      rw [e3, Bool.or_false]
      split at ih <;> split <;> split <;> omega
theorem cntF_put {g : List Int} (h : VF g) {x y : Nat} (hx : x < 12) (hy : y < 12) : cntF (putF g x y) ≤ cntF g + 1 := by
  have := dotL_put h hx hy (Nat.le_refl 144)
  unfold cntF
  split at this <;> omega
theorem cntF_fold {dx dy : Int} : ∀ {L : List Nat} {s : List Int}, VF s → VF (L.foldl (fun s k => mv1 dx dy k s) s) ∧ cntF (L.foldl (fun s k => mv1 dx dy k s) s) ≤ cntF s + L.length
  | [], s, h => ⟨h, by simp⟩
  | k :: L, s, h => by
    have key : VF (mv1 dx dy k s) ∧ cntF (mv1 dx dy k s) ≤ cntF s + 1 := by
      unfold mv1
      split
      · rename_i ho
        simp [okP] at ho
        exact ⟨h.put (by omega) (by omega), cntF_put h (by omega) (by omega)⟩
      · exact ⟨h, by omega⟩
    obtain ⟨g1, g2⟩ := cntF_fold (L := L) key.1
    exact ⟨g1, by simp only [List.foldl_cons, List.length_cons]; omega⟩
theorem cntF_zr : cntF (zr 12 0) = 0 := by
  have h1 := cntF_ok (f := zr 12 0)
  have h2 : ∀ i, i < 12 → nth (zr 12 0) i = 0 := by decide
  have h3 : ¬ 0 < cntF (zr 12 0) := fun z => ((cntF_zero VF.zero.W VF.zero.ok).1 z) h2
  omega
theorem cntF_sh {f : List Int} {dx dy : Int} : cntF (shF f dx dy) ≤ cntF f := by
  rw [← mvS_all]
  have := (cntF_fold (dx := dx) (dy := dy) (L := dotL f 144) VF.zero).2
  rw [cntF_zr] at this
  unfold mvS
  have e : cntF f = ((dotL f 144).length : Int) := rfl
  omega
/-- A turned frame. -/
def trF (f : List Int) : List Int := whereN (fun x y => hasF f y (11 - x)) 144
theorem trF_V {f : List Int} : VF (trF f) := by unfold trF; rw [whereN_dots]; exact dotsV
theorem call394 {H : Heap} {b : Nat} {f : List Int} (hw : FrW f) (hr : rd H b 0 0 12 = some (cs .u16 f)) {x y : Nat} (hx : x < 12) (hy : y < 12) :
    callV (Call tab) H (.func (.func 394) #[] #[adr b 0 0]) [.int .i64 x, .int .i64 y] = some (.bool (hasF f y (11 - x)), H) := by
  have e1 : (#[adr b 0 0] : Array Value) = [adr b 0 0].toArray := rfl
  rw [e1, callV_func]
  refine Call_wp t394 (.inr rfl) rfl ?_
  have w1 : IntKind.wrap .i64 (11 - (x : Int)) = ((11 - x : Nat) : Int) := by rw [wrap64 (by omega)]; omega
  have c1 := call395 (pu := true) (H := H) hw (x := y) (y := 11 - x) hy (by omega)
  simp [c394, k394, hr, agg_cs, w1, c1]
theorem call173 {pu : Bool} {H : Heap} {f : List Int} (hf : VF f) : Call tab pu 173 [iv .u16 f] H = some (tup [iv .u16 (trF f), .int .i64 0], H) := by
  refine Call_wp t173 (.inr rfl) rfl ?_
  obtain ⟨H1, hH1⟩ : ∃ H1, H1 = H ++ [(⟨cs .u16 f, 1, 0, false⟩ : Blk)] := ⟨_, rfl⟩
  have p1 : Pre H H1 := by rw [hH1]; exact Pre.one
  have r1 : rd H1 H.length 0 0 12 = some (cs .u16 f) := by rw [hH1]; exact rd_last rfl (by simp [hf.W.len])
  have c1 := call234 (pu := true) (H := H1) hf.W.len
  have c2 := call306 (pu := true) (H := H1) (F := .func (.func 394) #[] #[adr H.length 0 0]) (p := fun x y => hasF f y (11 - x)) fun x y hx hy => call394 hf.W r1 hx hy
  have e1 : whereN (fun x y => hasF f y (11 - x)) 144 = trF f := rfl
  rw [e1] at c2
  have hl := (trF_V (f := f)).W.len
  have s3 := stc_zr (k := .u16) (n := 12) (l := trF f) hl
  simp [c173, k173, hf.W.len, ← hH1, r1, agg_cs, c1, hf.ok, c2, zs_cs, hl, s3, p1.take]
def lpD (b : List (List Int)) (n i : Nat) : Int := difF (fr b (i + n - 1)) (fr b i)
/-- The best of what was visited. -/
def LpI (b : List (List Int)) (o : Lp) (S : Nat → Nat → Prop) : Prop := match o with
  | none => ∀ n i, ¬ S n i
  | some (f, c, j) => S c f ∧ j = lpD b c f ∧ ∀ n i, S n i → j ≤ lpD b n i ∧ (lpD b n i = j → n < c ∨ (n = c ∧ f ≤ i))
theorem LpI.step {b : List (List Int)} {o : Lp} {S S' : Nat → Nat → Prop} {n i : Nat} (h : LpI b o S) (hS : ∀ n' i', S' n' i' ↔ S n' i' ∨ (n' = n ∧ i' = i)) (ho : ∀ n' i', S n' i' → n < n' ∨ (n = n' ∧ i' < i)) : LpI b (stepL b n i o) S' := by
  cases o with
  | none =>
    refine ⟨(hS n i).2 (.inr ⟨rfl, rfl⟩), rfl, fun n' i' hs => ?_⟩
    rcases (hS n' i').1 hs with h1 | ⟨rfl, rfl⟩
    · exact absurd h1 (h n' i')
    · exact ⟨Int.le_refl _, fun _ => .inr ⟨rfl, Nat.le_refl _⟩⟩
  | some q =>
    obtain ⟨f, c, j⟩ := q
    obtain ⟨h1, h2, h3⟩ := h
    show LpI b (if lpD b n i < j then some (i, n, lpD b n i) else some (f, c, j)) S'
    split
    · rename_i hlt
      refine ⟨(hS n i).2 (.inr ⟨rfl, rfl⟩), rfl, fun n' i' hs => ?_⟩
      rcases (hS n' i').1 hs with h4 | ⟨rfl, rfl⟩
      · have := (h3 n' i' h4).1
        exact ⟨by omega, fun he => by omega⟩
      · exact ⟨Int.le_refl _, fun _ => .inr ⟨rfl, Nat.le_refl _⟩⟩
    · rename_i hge
      refine ⟨(hS c f).2 (.inl h1), h2, fun n' i' hs => ?_⟩
      rcases (hS n' i').1 hs with h4 | ⟨rfl, rfl⟩
      · exact h3 n' i' h4
      · refine ⟨by omega, fun _ => ?_⟩
        rcases ho c f h1 with h5 | h5
        · exact .inl h5
        · exact .inr ⟨h5.1, by omega⟩
theorem call125 {pu : Bool} {H : Heap} {a b : List Int} (ha : VF a) (hb : VF b) : Call tab pu 125 [iv .u16 a, iv .u16 b] H = some (tup [.int .i64 (difF a b), .int .i64 0], H) := by
  refine Call_wp t125 (.inr rfl) rfl ?_
  have hc := two351 (H := H) ha.W hb.W
  obtain ⟨G, hG⟩ : ∃ G, G = H ++ [(⟨bkC [a, b], 12, 0, false⟩ : Blk)] := ⟨_, rfl⟩
  have p1 : Pre H G := by rw [hG]; exact Pre.one
  rw [← hG, ha.ok, hb.ok] at hc
  have hf := fill_two ha.W.len hb.W.len
  simp [c125, k125, ha.W.len, hb.W.len, zs_cs, hf, ← hG, hc, call324 ha.W hb.W ha.ok hb.ok, p1.take]
theorem eqMvV {a : Int × Int} : eqV (.a (rb 2 (some .i8))) (agg (mvC a)) (agg (mvC a)) = some true := by
  simp [eqV, agg, mvC, rb, eqCells]
theorem call132 {pu : Bool} {H : Heap} {f : List Int} {dx dy : Int} (hf : VF f) (hx : -12 ≤ dx ∧ dx ≤ 12) (hy : -12 ≤ dy ∧ dy ≤ 12) : Call tab pu 132 [iv .u16 f, .int .i64 dx, .int .i64 dy] H = some (tup [iv .u16 (shF f dx dy), .int .i64 0], H) := by
  have c1 : ∀ pu, Call tab pu 357 [iv .u16 f, .int .i64 dx, .int .i64 dy] H = some (.int .i64 0, H) := fun pu => by
    refine Call_wp t357 (.inr rfl) rfl ?_
    simp [c357, k357, hf.W.len, call234 hf.W.len, hf.ok, call295, hx, hy]
  refine Call_wp t132 (.inr rfl) rfl ?_
  have c2 := call358 (pu := true) (H := H) (dx := dx) (dy := dy) hf.W hf.ok (by omega) (by omega)
  have s3 := stc_zr (k := .u16) (n := 12) (l := shF f dx dy) shF_length
  simp [c132, k132, hf.W.len, c1, c2, zs_cs, agg_cs, shF_length, s3]
/-- What is left of a text behind some of its parts. -/
def tailC : Nat → Cd → Cd
  | 0, c => c
  | n + 1, .seq _ b => tailC n b
  | _, c => c
/-- What ends a law well. -/
def QL (n0 : Nat) (H : Heap) : Ex → Env → Heap → Prop := fun x e' H' => (∀ i, x ≠ .exit i) ∧ (resVs e' H' [.t 4]).map (finish n0 H') = some (.bool true, H)
structure C1 (G : Heap) (x cx l1 l2 l3 : Value) (b c : List (List Int)) (frm : Nat) : Prop where
  bk : Bk G x b
  ck : Bk G cx c
  Vb : ∀ f ∈ b, VF f
  nb : b.length ≤ 1000
  c1 : 1 ≤ c.length
  cb : frm + c.length ≤ b.length
  sub : ∀ i, i < c.length → fr c i = fr b (frm + i)
  s1 : SlR G l1 1 (mcK b c 0 (mcN b c)).1.length (cs .i64 (mcK b c 0 (mcN b c)).1)
  s2 : SlR G l2 1 (mcK b c 1 (mcN b c)).1.length (cs .i64 (mcK b c 1 (mcN b c)).1)
  s3 : SlR G l3 2 (mcK b c 1 (mcN b c)).1.length (mvsC (mcK b c 1 (mcN b c)).2)
theorem C1.V {G : Heap} {x cx l1 l2 l3 : Value} {b c : List (List Int)} {frm : Nat} (h : C1 G x cx l1 l2 l3 b c frm) {i : Nat} (hi : i < c.length) : VF (fr c i) := by
  rw [h.sub i hi]
  have := h.cb
  exact h.Vb _ (at0_mem (by omega))
/-- What the walk knows all along. -/
structure K17 (H G : Heap) (x y : Value) (b : List (List Int)) (bs : List Int) (tw : Bool) (pv : Int) : Prop where
  P : Pre H G
  by' : By G y bs
  bk : Bk G x b
  V : ∀ f ∈ b, VF f
  nb : b.length ≤ 40
  tw' : tw = true → ∃ L, b = L ++ L
  pv' : 1 ≤ b.length → pv = findN (perP b) (b.length + 1)
theorem K17.pre {H G G' : Heap} {x y : Value} {b : List (List Int)} {bs : List Int} {tw : Bool} {pv : Int} (h : K17 H G x y b bs tw pv) (p : Pre G G') : K17 H G' x y b bs tw pv := ⟨h.P.trans p, h.by'.pre p, h.bk.pre p, h.V, h.nb, h.tw', h.pv'⟩
/-- A text with another one behind some of its parts. -/
def headC : Nat → Cd → Cd → Cd
  | 0, _, t => t
  | n + 1, .seq a b, t => .seq a (headC n b t)
  | _, c, _ => c
def mvCc (dx dy : Int) : Int := if (in1 dx (-12) 12 && in1 dy (-12) 12) = true then 0 else 2
theorem call373 {pu : Bool} {H : Heap} {b off ver : Nat} {f : List Int} {dx dy : Int} (hl : f.length = 12) (hr : rd H b off ver 12 = some (cs .u16 f)) (hk : okF f = true) :
    Call tab pu 373 [adr b off ver, .int .i64 dx, .int .i64 dy] H = some (.int .i64 (mvCc dx dy), H) := by
  refine Call_wp t373 (.inr rfl) rfl ?_
  have c1 := call359 (pu := true) hl hr
  rw [hk] at c1
  cases k1 : in1 dx (-12) 12 with
  | false => simp [c373, k373, c1, in304, k1, skip, mvCc]
  | true =>
    cases k2 : in1 dy (-12) 12 with
    | false => simp [c373, k373, c1, in304, k1, k2, mvCc]
    | true => simp [c373, k373, c1, in304, k1, k2, mvCc]
theorem okP_iff {a b : Int} : okP a b = true ↔ (0 ≤ a ∧ a < 12) ∧ 0 ≤ b ∧ b < 12 := by
  unfold okP; simp; omega
/-- A drawn layer. -/
structure DLy (s : Ly) : Prop where
  W : LyW s
  ok : okLy s = true
  bx : -3 ≤ s.x ∧ s.x ≤ 3
  bz : -3 ≤ s.y ∧ s.y ≤ 3
  bd : 0 ≤ s.d ∧ s.d ≤ 8
theorem DLy.of {f g : List Int} {x y d : Int} (hf : VF f) (hg : VF g) (hx : -3 ≤ x ∧ x ≤ 3) (hy : -3 ≤ y ∧ y ≤ 3) (hd : 0 ≤ d ∧ d ≤ 8) : DLy ⟨f ++ mixF orI f g, x, y, d⟩ := by
  have V := or_V hf hg
  have e1 : inkL ⟨f ++ mixF orI f g, x, y, d⟩ = f := (join_sub hf.W.len V.W.len).1
  have e2 : mskL ⟨f ++ mixF orI f g, x, y, d⟩ = mixF orI f g := (join_sub hf.W.len V.W.len).2
  refine ⟨⟨by simp [hf.W.len, V.W.len], fun n hn => ?_, ⟨by simp only []; omega, by simp only []; omega⟩, ⟨by simp only []; omega, by simp only []; omega⟩, ⟨by simp only []; omega, by simp only []; omega⟩⟩, ?_, hx, hy, hd⟩
  · rcases List.mem_append.1 hn with h | h
    · exact hf.W.ok n h
    · exact V.W.ok n h
  · unfold okLy okCel
    rw [e1, e2, hf.ok, V.ok, less_none hf V fun u v hu hv h => by rw [mix_or hf hg hu hv, h]; rfl]
    simp [in1]; omega
theorem shF_has {f : List Int} {dx dy : Int} {x y : Nat} (hx : x < 12) (hy : y < 12) : hasF (shF f dx dy) x y = hasI f ((x : Int) - dx) ((y : Int) - dy) := by
  unfold shF hasI
  rw [hasF_dots hx hy, mvP]
  congr 1
  rw [Bool.eq_iff_iff, okP_iff]
  simp only [decide_eq_true_eq]
  constructor <;> intro h <;> omega
theorem box12 {H : Heap} {f : List Int} (hl : f.length = 12) : rd (H ++ [(⟨cs .u16 f, 1, 0, false⟩ : Blk)]) H.length 0 0 12 = some (cs .u16 f) := rd_last rfl (by simp [hl])
theorem call237 {pu : Bool} {H : Heap} {f g : List Int} (hf : VF f) (hg : VF g) : Call tab pu 237 [iv .u16 f, iv .u16 g] H = some (tup [iv .u16 (mixF lessI f g), .int .i64 0], H) := by
  refine Call_wp t237 (.inr rfl) rfl ?_
  have hc := two351 (H := H) hf.W hg.W
  obtain ⟨G, hG⟩ : ∃ G, G = H ++ [(⟨bkC [f, g], 12, 0, false⟩ : Blk)] := ⟨_, rfl⟩
  have p1 : Pre H G := by rw [hG]; exact Pre.one
  rw [← hG, hf.ok, hg.ok] at hc
  have hf2 := fill_two hf.W.len hg.W.len
  have c2 := call350 (pu := true) (H := G) hf.W.len hg.W.len
  have s := stc_zr (k := .u16) (n := 12) (l := mixF lessI f g) mixF_length
  simp [c237, k237, zs_cs, agg_cs, hf.W.len, hg.W.len, hf2, ← hG, hc, c2, mixF_length, s, p1.take]
theorem call448 {pu : Bool} {H : Heap} {f : List Int} {x y : Nat} (h : VF f) (hx : x < 12) (hy : y < 12) : Call tab pu 448 [iv .u16 f, .int .i64 x, .int .i64 y] H = some (.int .i64 0, H) := by
  refine Call_wp t448 (.inr rfl) rfl ?_
  have c1 := call234 (pu := true) (H := H) h.W.len
  rw [h.ok] at c1
  simp [c448, k448, h.W.len, c1, placeI, okP_nat hx hy]
theorem call240 {pu : Bool} {H : Heap} {f : List Int} {x y : Nat} (h : VF f) (hx : x < 12) (hy : y < 12) : Call tab pu 240 [iv .u16 f, .int .i64 x, .int .i64 y] H = some (tup [.bool (hasF f x y), .int .i64 0], H) := by
  refine Call_wp t240 (.inr rfl) rfl ?_
  simp [c240, k240, h.W.len, call448 h hx hy, call395 h.W hx hy]
theorem call242 {pu : Bool} {H : Heap} {f : List Int} (h : VF f) : Call tab pu 242 [iv .u16 f] H = some (tup [slc H.length 0 0 (dotL f 144).length (dotL f 144).length, .int .i64 0], H ++ [⟨dotC f 144, 2, 0, false⟩]) := by
  refine Call_wp t242 (.inr rfl) rfl ?_
  obtain ⟨G, hG⟩ : ∃ G, G = H ++ [(⟨cs .u16 f, 1, 0, false⟩ : Blk)] := ⟨_, rfl⟩
  have hr : rd G H.length 0 0 12 = some (cs .u16 f) := by rw [hG]; exact box12 h.W.len
  have pG : Pre H G := by rw [hG]; exact Pre.one
  have c1 := call359 (pu := true) h.W.len hr
  rw [h.ok] at c1
  have c2 := call440 (pu := true) h.W hr
  have lG : G.length = H.length + 1 := by rw [hG]; simp
  obtain ⟨G2, hG2⟩ : ∃ G2, G2 = G ++ [(⟨dotC f 144, 2, 0, false⟩ : Blk)] := ⟨_, rfl⟩
  rw [← hG2] at c2
  have p2 : Pre G G2 := by rw [hG2]; exact Pre.one
  have hcl : (dotC f 144).length = (dotL f 144).length * 2 := by rw [dotC, mvsC_length]; simp
  have g : Gr H G2 (slc G.length 0 0 (dotL f 144).length (dotL f 144).length) 2 (dotL f 144).length (dotC f 144) := ⟨G.length, 0, rfl, by rw [hG2]; exact get_last, by omega, hcl, pG.trans p2⟩
  have hfin := g.fin2 (c := 0) mvsC_flat
  simp [c242, k242, h.W.len, ← hG, c1, c2, hfin]
theorem call147 {pu : Bool} {H : Heap} {x : Value} {bs : List Int} (hx : By H x bs) (hn : bs.length ≤ 1000000) : ∃ f, Call tab pu 147 [x] H = some (iv .u16 f, H) ∧ VF f := by
  obtain ⟨c1, s1⟩ := call315 (pu := true) hx.s hx.b hn
  obtain ⟨f, G2, c2, V, m2, s2⟩ := call368 s1 (by omega)
  obtain ⟨H1, hH1⟩ : ∃ H1, H1 = H ++ [srB x 0 0] := ⟨_, rfl⟩
  rw [← hH1] at c1 c2 s1 m2
  have p1 : Pre H H1 := by rw [hH1]; exact Pre.one
  have t2 : G2.take H.length = H := by rw [m2.take (Nat.le_refl _), p1.take]
  have x2 : elder H.length false H1 (iv .u16 f, G2) = some (iv .u16 f, G2) := elder_same (by rw [t2, p1.take])
  have hl := V.W.len
  have s := stc_zr (k := .u16) (n := 12) (l := f) hl
  refine ⟨f, Call_wp t147 (.inr rfl) rfl ?_, V⟩
  simp [c147, k147, zs_cs, agg_cs, c1, c2, x2, wbOf, hl, s, t2]
/-- Side by side. -/
def Adj (u v u' v' : Nat) : Prop := (v = v' ∧ (u = u' + 1 ∨ u' = u + 1)) ∨ (u = u' ∧ (v = v' + 1 ∨ v' = v + 1))
theorem Adj.symm {u v u' v' : Nat} (h : Adj u v u' v') : Adj u' v' u v := by unfold Adj at *; omega
def Dot (f : List Int) (u v : Nat) : Prop := u < 12 ∧ v < 12 ∧ hasF f u v = true
/-- What hangs together. -/
inductive Conn (f : List Int) (x y : Nat) : Nat → Nat → Prop
  | base (h : Dot f x y) : Conn f x y x y
  | step {u v u' v' : Nat} (h : Conn f x y u v) (ha : Adj u' v' u v) (hd : Dot f u' v') : Conn f x y u' v'
theorem Conn.dot {f : List Int} {x y u v : Nat} (h : Conn f x y u v) : Dot f u v := by cases h <;> assumption
theorem Conn.trans {f : List Int} {x y u v a b : Nat} (h : Conn f x y u v) (h2 : Conn f u v a b) : Conn f x y a b := by
  induction h2 with
  | base _ => exact h
  | step _ ha hd ih => exact .step ih ha hd
theorem Conn.symm {f : List Int} {x y u v : Nat} (h : Conn f x y u v) : Conn f u v x y := by
  induction h with
  | base h => exact .base h
  | step h1 ha hd ih => exact Conn.trans (.step (.base hd) ha.symm h1.dot) ih
@[simp] theorem str_size {l : List UInt8} : (⟨l.toArray⟩ : ByteArray).size = l.length := by rw [Lib.size_eq]
@[simp] theorem lensV_s {l : List UInt8} : lensV (str l) = some (.int .i64 l.length) := by unfold str; simp
theorem eqV_s {a b : List UInt8} : eqV .s (str a) (str b) = some (decide (a = b)) := by
  show some ((⟨a.toArray⟩ : ByteArray).toList == (⟨b.toArray⟩ : ByteArray).toList) = _
  rw [Lib.toList_data, Lib.toList_data]
  show some (a == b) = _
  by_cases h : a = b
  · simp [h]
  · simp [h]
@[simp] theorem eqV_s0 {a : List UInt8} : eqV .s (str a) (.string ⟨#[]⟩) = some (decide (a = [])) := eqV_s (b := [])
theorem idxsV_s {l : List UInt8} {v : Value} {j : Nat} (h : at' l.length v = some j) : idxsV (str l) v = some (.int .u8 (l.getD j 0).toNat) := by
  show (at' (⟨l.toArray⟩ : ByteArray).size v).map _ = _
  rw [str_size, h]
  rfl
@[simp] theorem old0_s {n0 : Nat} {l : List UInt8} : old0 n0 (str l) = true := rfl
@[simp] theorem old1_s {n0 : Nat} {l : List UInt8} : old1 n0 (str l) = true := rfl
@[simp] theorem finish_s {n0 : Nat} {H' : Heap} {l : List UInt8} : finish n0 H' [str l] = (str l, H'.take n0) := finish_1 rfl
@[simp] theorem cellsOf_s {l : List UInt8} : cellsOf (str l) = [str l] := rfl
@[simp] theorem eqV_in : eqV .i .nilIface .nilIface = some true := rfl
@[simp] theorem eqV_is {t : TypeId} {v : Value} : eqV .i (.iface t v) .nilIface = some false := rfl
/-- A source whose bytes and state are known. -/
def SrD (G : Heap) (P : Nat) (bs : List Int) (s : Int × Int) : Prop := ∃ x, G[P]? = some (srB x s.1 s.2) ∧ SlR (G.take P) x 1 bs.length (cs .u8 bs)
theorem SrD.lt {G : Heap} {P : Nat} {bs : List Int} {s : Int × Int} (h : SrD G P bs s) : P < G.length := by
  obtain ⟨x, h1, _⟩ := h
  exact (List.getElem?_eq_some_iff.1 h1).1
theorem SrD.mv {P : Nat} {G G' : Heap} {bs : List Int} {s : Int × Int} (h : SrD G P bs s) (hP : G'[P]? = G[P]?) (hj : ∀ j, j < P → G'[j]? = G[j]?) : SrD G' P bs s := by
  obtain ⟨x, h1, h2⟩ := h
  refine ⟨x, by rw [hP]; exact h1, ?_⟩
  have : G'.take P = G.take P := by
    apply List.ext_getElem?
    intro j
    rw [List.getElem?_take, List.getElem?_take]
    split
    · exact hj j ‹_›
    · rfl
  rw [this]; exact h2
structure LoD (G G' : Heap) (P : Nat) (bs : List Int) (s : Int × Int) (f : List Int) : Prop where
  src : SrD G' P bs s
  fr : G'[G.length]? = some ⟨cs .u16 f, 1, 0, false⟩
  len : G'.length = G.length + 1
  get : ∀ j, j < G.length → j ≠ P → G'[j]? = G[j]?
  lt : P < G.length
theorem LoD.mv {G G' G'' : Heap} {P : Nat} {bs : List Int} {s s' : Int × Int} {f : List Int} (h : LoD G G' P bs s f) (m : Mv P G' G'') (d : SrD G'' P bs s') : LoD G G'' P bs s' f := by
  have := h.lt
  exact ⟨d, by rw [m.get _ (by omega)]; exact h.fr, by rw [m.len]; exact h.len, fun j hj hp => by rw [m.get j hp]; exact h.get j hj hp, h.lt⟩
theorem LoD.set {G G' : Heap} {P : Nat} {bs : List Int} {s : Int × Int} {f g : List Int} (h : LoD G G' P bs s f) : LoD G (G'.set G.length ⟨cs .u16 g, 1, 0, false⟩) P bs s g := by
  have := h.lt
  exact ⟨h.src.mv (List.getElem?_set_ne (by omega)) fun j hj => List.getElem?_set_ne (by omega), get_set h.fr, by simp [h.len], fun j hj hp => by rw [List.getElem?_set_ne (by omega)]; exact h.get j hj hp, h.lt⟩
theorem mvCc_zero {dx dy : Int} (h1 : -12 ≤ dx ∧ dx ≤ 12) (h2 : -12 ≤ dy ∧ dy ≤ 12) : mvCc dx dy = 0 := by
  unfold mvCc; simp [in1, h1, h2]
theorem call150 {pu : Bool} {H : Heap} {f : List Int} {dx dy : Int} (hf : VF f) (h1 : -12 ≤ dx ∧ dx ≤ 12) (h2 : -12 ≤ dy ∧ dy ≤ 12) :
    Call tab pu 150 [iv .u16 f, .int .i64 dx, .int .i64 dy] H = some (tup [iv .u16 (shF f dx dy), .int .i64 0], H) := by
  refine Call_wp t150 (.inr rfl) rfl ?_
  have hl := hf.W.len
  obtain ⟨G, hG⟩ : ∃ G, G = H ++ [(⟨cs .u16 f, 1, 0, false⟩ : Blk)] := ⟨_, rfl⟩
  have p : Pre H G := by rw [hG]; exact Pre.one
  have hr : rd G H.length 0 0 12 = some (cs .u16 f) := by
    rw [hG, rd_at get_last rfl (by simp [hl])]
    simp [take_all, hl]
  have c1 := call373 (pu := true) (dx := dx) (dy := dy) hl hr hf.ok
  rw [mvCc_zero h1 h2] at c1
  have c2 := call355 (pu := true) (dx := dx) (dy := dy) hf.W hr (by omega) (by omega)
  have s := stc_zr (k := .u16) (n := 12) (l := shF f dx dy) shF_length
  simp [c150, k150, zs_cs, agg_cs, hl, ← hG, c1, c2, s, shF_length, p.take]
theorem difF_self {f : List Int} (hf : VF f) : difF f f = 0 := by
  unfold difF
  have : mixF xorI f f = zr 12 0 := (xor_V' hf hf).ext .zero fun x y hx hy => by rw [mix_xor hf hf hx hy, hasF_zero hx hy, Bool.xor_self]
  rw [this, cntF_zr]
structure K24 (H G : Heap) (x : Value) (b : List (List Int)) (f : List Int) (m : Nat) : Prop where
  P : Pre H G
  bk : Bk G x b
  V : ∀ f ∈ b, VF f
  nb : b.length ≤ 4
  hf : VF f
  hm : m ≤ 4
theorem K24.pre {H G G' : Heap} {x : Value} {b : List (List Int)} {f : List Int} {m : Nat} (h : K24 H G x b f m) (p : Pre G G') : K24 H G' x b f m := ⟨h.P.trans p, SlR.pre p h.bk, h.V, h.nb, h.hf, h.hm⟩
def encB (b : List (List Int)) (lim : Int) : List Sted := (encP b lim b.length).1
theorem okSt_W {s : Sted} {i : Nat} (h : okSt s i = true) (hi : i ≤ 100) : StW s := by
  have hr := okSt_rows h
  have hk : kindB s i = true := by simp only [okSt, Bool.and_eq_true] at h; exact h.2
  have ha := okSt_a h
  have hb : (0 ≤ s.b ∧ s.b ≤ 100) ∧ (-12 ≤ s.c ∧ s.c ≤ 12) ∧ -12 ≤ s.d ∧ s.d ≤ 12 := by
    have : s.a = 0 ∨ s.a = 1 ∨ s.a = 2 := by omega
    rcases this with e | e | e
    · simp [kindB, e, stillB] at hk
      omega
    · simp [kindB, e, stillB, in1] at hk
      omega
    · simp [kindB, e, stillB, in1] at hk
      omega
  refine ⟨by omega, by omega, by omega, by omega, fun m hm => ?_⟩
  obtain ⟨j, hj, rfl⟩ := List.getElem_of_mem hm
  have e : rw' s j = s.rows[j] := by rw [rw', at0, List.getD_eq_getElem?_getD, List.getElem?_eq_getElem hj]; rfl
  obtain ⟨y, h1, h2, h3, _⟩ := rowB_get (allN_get (p := rowB s) hr hj)
  rw [e] at h1 h3
  exact ⟨by omega, h3⟩
theorem okSts_W {l : List Sted} (h : okSts l = true) (hr : ∀ s ∈ l, s.rows.length ≤ 1000000) : StsW l := by
  have hn := okSts_len h
  refine ⟨fun s hs => ?_, by omega, hr⟩
  obtain ⟨i, hi, rfl⟩ := mem_at0 hs
  exact okSt_W (okSts_get h hi) (by omega)
/-- In the function that draws steps: the source, the steps drawn, and the step that is being drawn. -/
structure Dr (n0 P : Nat) (G0 G : Heap) (k κ b ver : Nat) (l : List Sted) (rs : List (Int × Int)) (y : Value) : Prop where
  src : Src G P k
  get : ∀ j, j < n0 → j ≠ P → G[j]? = G0[j]?
  lt : P < n0
  k0 : n0 ≤ κ
  k1 : κ ≤ G.length
  ls : StD n0 (G.take κ) b ver l
  rw : GrN (G.take κ) G y 2 rs.length (chsC rs)
theorem Dr.new {G : Heap} {P k : Nat} (h : Src G P k) : Dr G.length P G (G ++ [⟨[], 5, 0, false⟩]) k (G.length + 1) G.length 0 [] [] (.slice none 0 0) :=
  ⟨h.pre Pre.one, fun j hj _ => Pre.one.get hj, h.lt, by omega, by simp, by rw [List.take_of_length_le (by simp)]; exact StD.new (Nat.le_refl _), .inr ⟨rfl, rfl, rfl, Pre.takes⟩⟩
structure DrL (l : List Sted) : Prop where
  ok : okSts l = true
  r : ∀ s ∈ l, s.rows.length ≤ 4
theorem DrL.W {l : List Sted} (h : DrL l) : StsW l := okSts_W h.ok fun s hs => by have := h.r s hs; omega
structure L56 (G : Heap) (x8 x15 x28 x33 : Value) (D : List (List Int)) (v : Int) : Prop where
  bk : Bk G x8 D
  vs15 : StS G x15 (encB D 40)
  vs28 : StS G x28 (encB D v)
  vs33 : SlR G x33 1 D.length (cs .i64 (encP D v D.length).2)
theorem L56.pre {G G' : Heap} {x8 x15 x28 x33 : Value} {D : List (List Int)} {v : Int} (p : Pre G G') (h : L56 G x8 x15 x28 x33 D v) : L56 G' x8 x15 x28 x33 D v :=
  ⟨SlR.pre p h.bk, h.vs15.pre p, h.vs28.pre p, h.vs33.pre p⟩
/-- Dots put one behind the other, each at its place. -/
def putS (g : Nat → Nat × Nat) (L : List Nat) : List Int := L.foldl (fun s k => putF s (g k).1 (g k).2) (zr 12 0)
theorem putS_snoc {g : Nat → Nat × Nat} {L : List Nat} {k : Nat} : putS g (L ++ [k]) = putF (putS g L) (g k).1 (g k).2 := by simp [putS]
theorem put_fold {g : Nat → Nat × Nat} : ∀ (L : List Nat) (p : Nat → Nat → Bool), (∀ k ∈ L, (g k).1 < 12 ∧ (g k).2 < 12) → L.foldl (fun s k => putF s (g k).1 (g k).2) (dotsF p) = dotsF fun x y => p x y || decide (∃ k ∈ L, g k = (x, y))
  | [], p, _ => by
    apply dotsF_congr
    intro x y _ _
    simp
  | k :: L, p, h => by
    rw [List.foldl_cons, putF_dots (h k (by simp)).1 (h k (by simp)).2, put_fold L _ fun j hj => h j (by simp [hj])]
    apply dotsF_congr
    intro x y _ _
    rw [Bool.eq_iff_iff]
    simp only [Bool.or_eq_true, Bool.and_eq_true, decide_eq_true_eq, List.mem_cons]
    constructor
    · rintro ((h1 | ⟨h1, h2⟩) | ⟨j, hj, e⟩)
      · exact .inl h1
      · exact .inr ⟨k, .inl rfl, by rw [h1, h2]⟩
      · exact .inr ⟨j, .inr hj, e⟩
    · rintro (h1 | ⟨j, rfl | hj, e⟩)
      · exact .inl (.inl h1)
      · refine .inl (.inr ?_)
        rw [e]; exact ⟨rfl, rfl⟩
      · exact .inr ⟨j, hj, e⟩
theorem putS_length {g : Nat → Nat × Nat} {L : List Nat} : (putS g L).length = 12 := by
  unfold putS
  generalize hz : zr 12 0 = z
  have hl : z.length = 12 := by rw [← hz]; simp
  clear hz
  induction L generalizing z with
  | nil => exact hl
  | cons k L ih => rw [List.foldl_cons]; exact ih _ (by rw [putF_length]; exact hl)
theorem mem_dotL {f : List Int} {k : Nat} : k ∈ dotL f 144 ↔ k < 144 ∧ hasF f (k % 12) (k / 12) = true := by simp [dotL, hasK]
theorem putS_dots {f : List Int} {g : Nat → Nat × Nat} {a b : Nat → Nat → Nat} (h1 : ∀ k, k < 144 → (g k).1 < 12 ∧ (g k).2 < 12 ∧ a (g k).1 (g k).2 = k % 12 ∧ b (g k).1 (g k).2 = k / 12)
    (h2 : ∀ x y, x < 12 → y < 12 → a x y < 12 ∧ b x y < 12 ∧ g (b x y * 12 + a x y) = (x, y)) : putS g (dotL f 144) = dotsF fun x y => hasF f (a x y) (b x y) := by
  unfold putS
  rw [← dotsF_none, put_fold _ _ fun k hk => by have := h1 k (mem_dotL.1 hk).1; exact ⟨this.1, this.2.1⟩]
  apply dotsF_congr
  intro x y hx hy
  rw [Bool.false_or, Bool.eq_iff_iff, decide_eq_true_eq]
  constructor
  · rintro ⟨k, hk, e⟩
    obtain ⟨h3, h4⟩ := mem_dotL.1 hk
    obtain ⟨_, _, q1, q2⟩ := h1 k h3
    rw [e] at q1 q2
    rw [q1, q2]; exact h4
  · intro h
    obtain ⟨q1, q2, q3⟩ := h2 x y hx hy
    refine ⟨_, mem_dotL.2 ⟨by omega, ?_⟩, q3⟩
    rw [show (b x y * 12 + a x y) % 12 = a x y by omega, show (b x y * 12 + a x y) / 12 = b x y by omega]
    exact h
/-- One dot of the list of a frame's dots, in a function that puts them. -/
theorem dots_at {H1 : Heap} {F f : List Int} {j : Nat} (hj : j < (dotL f 144).length) {G : Heap} (hG : G = H1 ++ [⟨cs .u16 F, 1, 0, false⟩, ⟨dotC f 144, 2, 0, false⟩]) :
    G[H1.length]? = some ⟨cs .u16 F, 1, 0, false⟩ ∧ ∃ x y : Nat, x < 12 ∧ y < 12 ∧ (dotL f 144).take (j + 1) = (dotL f 144).take j ++ [y * 12 + x] ∧
      ∃ b o v, idxAV 2 (slc (H1.length + 1) 0 0 (dotL f 144).length (dotL f 144).length) (.int .i64 (j : Int)) = some (adr b o v) ∧ rd G b o v 1 = some [.int .i8 (x : Int)] ∧ rd G b (o + 1) v 1 = some [.int .i8 (y : Int)] := by
  obtain ⟨y, x, hp, hy12, hx12, _, htk⟩ := dotL_at hj
  have hGG : G = H1 ++ [⟨cs .u16 F, 1, 0, false⟩] ++ [⟨dotC f 144, 2, 0, false⟩] := by rw [hG]; simp
  have pG : G[H1.length + 1]? = some ⟨dotC f 144, 2, 0, false⟩ := by
    rw [hGG]
    have := get_last (H := H1 ++ [⟨cs .u16 F, 1, 0, false⟩]) (b := ⟨dotC f 144, 2, 0, false⟩)
    rw [List.length_append] at this
    exact this
  have pF : G[H1.length]? = some ⟨cs .u16 F, 1, 0, false⟩ := by
    rw [hGG, List.getElem?_append_left (by simp)]; exact get_last
  have hcl : (dotC f 144).length = (dotL f 144).length * 2 := by rw [dotC, mvsC_length]; simp
  have hs0 : SlR G (slc (H1.length + 1) 0 0 (dotL f 144).length (dotL f 144).length) 2 (dotL f 144).length (dotC f 144) := ⟨hcl, .inr ⟨_, 0, 0, _, rfl, Nat.le_refl _, by rw [rd_at pG rfl (by simp [hcl])]; simp [take_all (Nat.le_of_eq hcl)], _, pG, rfl, rfl⟩⟩
  obtain ⟨b, o, v, ha, hr2⟩ := hs0.get1 hj
  have hel : elem (dotC f 144) 2 j = mvC ((x : Int), (y : Int)) := by
    rw [dotC, mvsC_elem (by simpa using hj), mv_map hj, hp, dotM_yx hx12]
  rw [hel] at hr2
  have d0 := rd_part hr2 (o := 0) (m := 1) (by omega)
  have d1 := rd_part hr2 (o := 1) (m := 1) (by omega)
  simp [mvC] at d0 d1
  exact ⟨pF, x, y, hx12, hy12, htk, b, o, v, ha, d0, d1⟩
theorem dots_set {H1 : Heap} {F F' f : List Int} : (H1 ++ [(⟨cs .u16 F, 1, 0, false⟩ : Blk), ⟨dotC f 144, 2, 0, false⟩]).set H1.length ⟨cs .u16 F', 1, 0, false⟩ = H1 ++ [⟨cs .u16 F', 1, 0, false⟩, ⟨dotC f 144, 2, 0, false⟩] := by
  rw [List.set_append_right _ _ (Nat.le_refl _)]; simp
def mirF (f : List Int) : List Int := dotsF fun x y => hasF f (11 - x) y
def turF (f : List Int) : List Int := dotsF fun x y => hasF f y (11 - x)
def rol (d : Int) (x : Nat) : Nat := (((x : Int) - d + 24) % 12).toNat
def rolF (f : List Int) (dx dy : Int) : List Int := dotsF fun x y => hasF f (rol dx x) (rol dy y)
theorem turF_eq {f : List Int} : turF f = trF f := by unfold turF trF; rw [whereN_dots]
theorem call228 {pu : Bool} {H : Heap} {f : List Int} (hf : VF f) : Call tab pu 228 [iv .u16 f] H = some (tup [iv .u16 (turF f), .int .i64 0], H) := by
  refine Call_wp t228 (.inr rfl) rfl ?_
  have hl := hf.W.len
  obtain ⟨H1, hH1⟩ : ∃ H1, H1 = H ++ [(⟨cs .u16 f, 1, 0, false⟩ : Blk)] := ⟨_, rfl⟩
  have p1 : Pre H H1 := by rw [hH1]; exact Pre.one
  have r1 : rd H1 H.length 0 0 12 = some (cs .u16 f) := by rw [hH1]; exact rd_last rfl (by simp [hl])
  have c1 := call359 (pu := true) hl r1
  rw [hf.ok] at c1
  obtain ⟨G0, hG0⟩ : ∃ G0, G0 = H1 ++ [(⟨cs .u16 (zr 12 0), 1, 0, false⟩ : Blk)] := ⟨_, rfl⟩
  have hP0 : Pre H1 G0 := by rw [hG0]; exact Pre.one
  have hlen0 : G0.length = H1.length + 1 := by rw [hG0]; simp
  have hlen1 : H1.length = H.length + 1 := by rw [hH1]; simp
  have hc := call440 (pu := true) hf.W (hP0.rd r1)
  rw [hlen0] at hc
  have hwr : wr H.length false (H1 ++ [⟨cs .u16 (zr 12 0), 1, 0, false⟩]) H1.length 0 0 (cs .u16 (zr 12 0)) = some G0 := by
    rw [wr_at get_last rfl rfl (by simp [may]; omega) (by simp), hG0]
    simp [splice]
  have hle := dotL_len (f := f) (k := 144)
  have hput : putS (fun k => (11 - k / 12, k % 12)) (dotL f 144) = turF f := putS_dots (a := fun _ y => y) (b := fun x _ => 11 - x) (fun k hk => by refine ⟨?_, ?_, ?_, ?_⟩ <;> dsimp only <;> omega) (fun x y hx hy => by refine ⟨hy, by omega, ?_⟩; rw [Prod.mk.injEq]; omega)
  have hz := stc_zr (k := .u16) (n := 12) (l := turF f) dotsF_length
  have hdl : (turF f).length = 12 := dotsF_length
  simp [c228, k228, hl, ← hH1, c1, zs_cs, agg_cs, fill, rep, hwr, wbOf, hc]
  refine WP_count 6 (dotL f 144).length _ rfl (fun j e G => e 2 = iv .u16 (zr 12 0) ∧ e 4 = adr H1.length 0 0 ∧ e 5 = slc (H1.length + 1) 0 0 (dotL f 144).length (dotL f 144).length ∧
    G = H1 ++ [⟨cs .u16 (putS (fun k => (11 - k / 12, k % 12)) ((dotL f 144).take j)), 1, 0, false⟩, ⟨dotC f 144, 2, 0, false⟩]) (by omega) ?_ ?_ (by simp) ⟨by simp, by simp, by simp, by rw [hG0]; simp; rfl⟩
  · rintro j e G _ hj hjj e4 hcn ⟨h2, h4, h5, hG⟩
    obtain ⟨pF, x, y, hx, hy, htk, b, o, v, ha, d0, d1⟩ := dots_at hj hG
    have hFl : (putS (fun k => (11 - k / 12, k % 12)) ((dotL f 144).take j)).length = 12 := putS_length
    have w1 : IntKind.wrap .i64 (x : Int) = x := wrap64 (by omega)
    have w2 : IntKind.wrap .i64 (y : Int) = y := wrap64 (by omega)
    obtain ⟨X, hX⟩ : ∃ X, X = 11 - y := ⟨_, rfl⟩
    have wX : IntKind.wrap .i64 (11 - (y : Int)) = (X : Int) := by rw [wrap64 (by omega)]; omega
    have hp := call305 (H := G) pF (x := X) (y := x) hFl (by omega) (by omega)
    have hst : putF (putS (fun k => (11 - k / 12, k % 12)) ((dotL f 144).take j)) X x = putS (fun k => (11 - k / 12, k % 12)) ((dotL f 144).take (j + 1)) := by
      rw [htk, putS_snoc]
      have e1 : (y * 12 + x) % 12 = x := by omega
      have e2 : (y * 12 + x) / 12 = y := by omega
      simp only [e1, e2, hX]
    rw [hst] at hp
    have hset : G.set H1.length ⟨cs .u16 (putS (fun k => (11 - k / 12, k % 12)) ((dotL f 144).take (j + 1))), 1, 0, false⟩ = H1 ++ [⟨cs .u16 (putS (fun k => (11 - k / 12, k % 12)) ((dotL f 144).take (j + 1))), 1, 0, false⟩, ⟨dotC f 144, 2, 0, false⟩] := by rw [hG]; exact dots_set
    rw [hset] at hp
    have pG : Pre H G := by rw [hG]; exact p1.trans ⟨_, rfl⟩
    have pG' : Pre H (H1 ++ [⟨cs .u16 (putS (fun k => (11 - k / 12, k % 12)) ((dotL f 144).take (j + 1))), 1, 0, false⟩, ⟨dotC f 144, 2, 0, false⟩]) := p1.trans ⟨_, rfl⟩
    have hel : elder H.length false G (tup [], H1 ++ [⟨cs .u16 (putS (fun k => (11 - k / 12, k % 12)) ((dotL f 144).take (j + 1))), 1, 0, false⟩, ⟨dotC f 144, 2, 0, false⟩]) = some (tup [], H1 ++ [⟨cs .u16 (putS (fun k => (11 - k / 12, k % 12)) ((dotL f 144).take (j + 1))), 1, 0, false⟩, ⟨dotC f 144, 2, 0, false⟩]) := elder_same (by rw [pG'.take, pG.take])
    simp [b228_1, hcn, h2, h4, h5, hjj, ha, d0, d1, hel, w1, w2, wX, hp, wbOf, e4]
  · rintro e G _ hcn ⟨h2, h4, h5, hG⟩
    rw [List.take_of_length_le (Nat.le_refl _), hput] at hG
    have pF : G[H1.length]? = some ⟨cs .u16 (turF f), 1, 0, false⟩ := by
      rw [hG, List.getElem?_append_right (Nat.le_refl _)]; simp
    have hr := rd_at (off := 0) (n := 12) pF rfl (by simp [hdl])
    simp only [List.drop_zero] at hr
    rw [List.take_of_length_le (by simp [hdl])] at hr
    have pH : Pre H G := by rw [hG]; exact p1.trans ⟨_, rfl⟩
    simp [b228_1, hcn, h2, h4, h5, hr, agg_cs, hdl, hz, pH.take]
theorem call230 {pu : Bool} {H : Heap} {f : List Int} (hf : VF f) : Call tab pu 230 [iv .u16 f] H = some (tup [iv .u16 (mirF f), .int .i64 0], H) := by
  refine Call_wp t230 (.inr rfl) rfl ?_
  have hl := hf.W.len
  obtain ⟨H1, hH1⟩ : ∃ H1, H1 = H ++ [(⟨cs .u16 f, 1, 0, false⟩ : Blk)] := ⟨_, rfl⟩
  have p1 : Pre H H1 := by rw [hH1]; exact Pre.one
  have r1 : rd H1 H.length 0 0 12 = some (cs .u16 f) := by rw [hH1]; exact rd_last rfl (by simp [hl])
  have c1 := call359 (pu := true) hl r1
  rw [hf.ok] at c1
  obtain ⟨G0, hG0⟩ : ∃ G0, G0 = H1 ++ [(⟨cs .u16 (zr 12 0), 1, 0, false⟩ : Blk)] := ⟨_, rfl⟩
  have hP0 : Pre H1 G0 := by rw [hG0]; exact Pre.one
  have hlen0 : G0.length = H1.length + 1 := by rw [hG0]; simp
  have hlen1 : H1.length = H.length + 1 := by rw [hH1]; simp
  have hc := call440 (pu := true) hf.W (hP0.rd r1)
  rw [hlen0] at hc
  have hwr : wr H.length false (H1 ++ [⟨cs .u16 (zr 12 0), 1, 0, false⟩]) H1.length 0 0 (cs .u16 (zr 12 0)) = some G0 := by
    rw [wr_at get_last rfl rfl (by simp [may]; omega) (by simp), hG0]
    simp [splice]
  have hle := dotL_len (f := f) (k := 144)
  have hput : putS (fun k => (11 - k % 12, k / 12)) (dotL f 144) = mirF f := putS_dots (a := fun x _ => 11 - x) (b := fun _ y => y) (fun k hk => by refine ⟨?_, ?_, ?_, ?_⟩ <;> dsimp only <;> omega) (fun x y hx hy => by refine ⟨by omega, hy, ?_⟩; rw [Prod.mk.injEq]; omega)
  have hz := stc_zr (k := .u16) (n := 12) (l := mirF f) dotsF_length
  have hdl : (mirF f).length = 12 := dotsF_length
  simp [c230, k230, hl, ← hH1, c1, zs_cs, agg_cs, fill, rep, hwr, wbOf, hc]
  refine WP_count 6 (dotL f 144).length _ rfl (fun j e G => e 2 = iv .u16 (zr 12 0) ∧ e 4 = adr H1.length 0 0 ∧ e 5 = slc (H1.length + 1) 0 0 (dotL f 144).length (dotL f 144).length ∧
    G = H1 ++ [⟨cs .u16 (putS (fun k => (11 - k % 12, k / 12)) ((dotL f 144).take j)), 1, 0, false⟩, ⟨dotC f 144, 2, 0, false⟩]) (by omega) ?_ ?_ (by simp) ⟨by simp, by simp, by simp, by rw [hG0]; simp; rfl⟩
  · rintro j e G _ hj hjj e4 hcn ⟨h2, h4, h5, hG⟩
    obtain ⟨pF, x, y, hx, hy, htk, b, o, v, ha, d0, d1⟩ := dots_at hj hG
    have hFl : (putS (fun k => (11 - k % 12, k / 12)) ((dotL f 144).take j)).length = 12 := putS_length
    have w1 : IntKind.wrap .i64 (x : Int) = x := wrap64 (by omega)
    have w2 : IntKind.wrap .i64 (y : Int) = y := wrap64 (by omega)
    obtain ⟨X, hX⟩ : ∃ X, X = 11 - x := ⟨_, rfl⟩
    have wX : IntKind.wrap .i64 (11 - (x : Int)) = (X : Int) := by rw [wrap64 (by omega)]; omega
    have hp := call305 (H := G) pF (x := X) (y := y) hFl (by omega) (by omega)
    have hst : putF (putS (fun k => (11 - k % 12, k / 12)) ((dotL f 144).take j)) X y = putS (fun k => (11 - k % 12, k / 12)) ((dotL f 144).take (j + 1)) := by
      rw [htk, putS_snoc]
      have e1 : (y * 12 + x) % 12 = x := by omega
      have e2 : (y * 12 + x) / 12 = y := by omega
      simp only [e1, e2, hX]
    rw [hst] at hp
    have hset : G.set H1.length ⟨cs .u16 (putS (fun k => (11 - k % 12, k / 12)) ((dotL f 144).take (j + 1))), 1, 0, false⟩ = H1 ++ [⟨cs .u16 (putS (fun k => (11 - k % 12, k / 12)) ((dotL f 144).take (j + 1))), 1, 0, false⟩, ⟨dotC f 144, 2, 0, false⟩] := by rw [hG]; exact dots_set
    rw [hset] at hp
    have pG : Pre H G := by rw [hG]; exact p1.trans ⟨_, rfl⟩
    have pG' : Pre H (H1 ++ [⟨cs .u16 (putS (fun k => (11 - k % 12, k / 12)) ((dotL f 144).take (j + 1))), 1, 0, false⟩, ⟨dotC f 144, 2, 0, false⟩]) := p1.trans ⟨_, rfl⟩
    have hel : elder H.length false G (tup [], H1 ++ [⟨cs .u16 (putS (fun k => (11 - k % 12, k / 12)) ((dotL f 144).take (j + 1))), 1, 0, false⟩, ⟨dotC f 144, 2, 0, false⟩]) = some (tup [], H1 ++ [⟨cs .u16 (putS (fun k => (11 - k % 12, k / 12)) ((dotL f 144).take (j + 1))), 1, 0, false⟩, ⟨dotC f 144, 2, 0, false⟩]) := elder_same (by rw [pG'.take, pG.take])
    simp [b230_1, hcn, h2, h4, h5, hjj, ha, d0, d1, hel, w1, w2, wX, hp, wbOf, e4]
  · rintro e G _ hcn ⟨h2, h4, h5, hG⟩
    rw [List.take_of_length_le (Nat.le_refl _), hput] at hG
    have pF : G[H1.length]? = some ⟨cs .u16 (mirF f), 1, 0, false⟩ := by
      rw [hG, List.getElem?_append_right (Nat.le_refl _)]; simp
    have hr := rd_at (off := 0) (n := 12) pF rfl (by simp [hdl])
    simp only [List.drop_zero] at hr
    rw [List.take_of_length_le (by simp [hdl])] at hr
    have pH : Pre H G := by rw [hG]; exact p1.trans ⟨_, rfl⟩
    simp [b230_1, hcn, h2, h4, h5, hr, agg_cs, hdl, hz, pH.take]
theorem putS_cnt {g : Nat → Nat × Nat} : ∀ {L : List Nat} {s : List Int}, VF s → (∀ k ∈ L, (g k).1 < 12 ∧ (g k).2 < 12) → VF (L.foldl (fun s k => putF s (g k).1 (g k).2) s) ∧ cntF (L.foldl (fun s k => putF s (g k).1 (g k).2) s) ≤ cntF s + L.length
  | [], s, h, _ => ⟨h, by simp⟩
  | k :: L, s, h, hg => by
    have h1 := hg k (by simp)
    obtain ⟨g1, g2⟩ := putS_cnt (g := g) (L := L) (h.put h1.1 h1.2) fun j hj => hg j (by simp [hj])
    have := cntF_put h h1.1 h1.2
    exact ⟨g1, by simp only [List.foldl_cons, List.length_cons]; omega⟩
theorem mirF_V {f : List Int} : VF (mirF f) := dotsV
theorem rolF_V {f : List Int} {dx dy : Int} : VF (rolF f dx dy) := dotsV
theorem turF_V {f : List Int} : VF (turF f) := dotsV
theorem mir_mir {f : List Int} (hf : VF f) : mirF (mirF f) = f := mirF_V.ext hf fun x y hx hy => by
  unfold mirF
  rw [hasF_dots hx hy, hasF_dots (by omega) hy, show 11 - (11 - x) = x by omega]
theorem tur_4 {f : List Int} (hf : VF f) : turF (turF (turF (turF f))) = f := turF_V.ext hf fun x y hx hy => by
  have e : ∀ {g : List Int} {x y : Nat}, x < 12 → y < 12 → hasF (turF g) x y = hasF g y (11 - x) := fun hx hy => hasF_dots hx hy
  rw [e hx hy, e hy (by omega), e (by omega) (by omega), e (by omega) (by omega), show 11 - (11 - x) = x by omega, show 11 - (11 - y) = y by omega]
theorem rol_lt {d : Int} {x : Nat} : rol d x < 12 := by unfold rol; omega
theorem rol_rol {d : Int} {x : Nat} (h1 : -12 ≤ d ∧ d ≤ 12) (hx : x < 12) : rol d (rol (-d) x) = x := by unfold rol; omega
theorem rol_roll {f : List Int} {dx dy : Int} (hf : VF f) (h1 : -12 ≤ dx ∧ dx ≤ 12) (h2 : -12 ≤ dy ∧ dy ≤ 12) : rolF (rolF f dx dy) (-dx) (-dy) = f := rolF_V.ext hf fun x y hx hy => by
  unfold rolF
  rw [hasF_dots hx hy, hasF_dots rol_lt rol_lt, rol_rol h1 hx, rol_rol h2 hy]
def rolG (dx dy : Int) (k : Nat) : Nat × Nat := ((((((k % 12 : Nat) : Int) + dx + 12) % 12).toNat), ((((k / 12 : Nat) : Int) + dy + 12) % 12).toNat)
theorem rolG_dots {f : List Int} {dx dy : Int} (h1 : -12 ≤ dx ∧ dx ≤ 12) (h2 : -12 ≤ dy ∧ dy ≤ 12) : putS (rolG dx dy) (dotL f 144) = rolF f dx dy :=
  putS_dots (a := fun x _ => rol dx x) (b := fun _ y => rol dy y) (fun k hk => by
      unfold rolG rol
      refine ⟨?_, ?_, ?_, ?_⟩ <;> dsimp only <;> omega)
    (fun x y hx hy => by
      refine ⟨rol_lt, rol_lt, ?_⟩
      unfold rolG rol
      rw [Prod.mk.injEq]
      omega)
theorem rol_cnt {f : List Int} {dx dy : Int} (hf : VF f) (h1 : -12 ≤ dx ∧ dx ≤ 12) (h2 : -12 ≤ dy ∧ dy ≤ 12) : cntF (rolF f dx dy) = cntF f := by
  have key : ∀ {g : List Int} {u v : Int}, -12 ≤ u ∧ u ≤ 12 → -12 ≤ v ∧ v ≤ 12 → cntF (rolF g u v) ≤ cntF g := fun {g u v} hu hv => by
    rw [← rolG_dots hu hv]
    have := (putS_cnt (g := rolG u v) (L := dotL g 144) VF.zero fun k hk => by unfold rolG; dsimp only; omega).2
    rw [cntF_zr] at this
    unfold putS
    have e : cntF g = ((dotL g 144).length : Int) := rfl
    omega
  have k1 := key (g := f) h1 h2
  have k2 := key (g := rolF f dx dy) (u := -dx) (v := -dy) (by omega) (by omega)
  rw [rol_roll hf h1 h2] at k2
  omega
theorem call441 {H : Heap} {b : Nat} {f : List Int} (hw : FrW f) (hr : rd H b 0 0 12 = some (cs .u16 f)) {x y : Nat} (hx : x < 12) (hy : y < 12) :
    callV (Call tab) H (.func (.func 441) #[] #[adr b 0 0]) [.int .i64 x, .int .i64 y] = some (.bool (hasF f (11 - x) y), H) := by
  have e1 : (#[adr b 0 0] : Array Value) = [adr b 0 0].toArray := rfl
  rw [e1, callV_func]
  refine Call_wp t441 (.inr rfl) rfl ?_
  have w1 : IntKind.wrap .i64 (11 - (x : Int)) = ((11 - x : Nat) : Int) := by rw [wrap64 (by omega)]; omega
  have c1 := call395 (pu := true) (H := H) hw (x := 11 - x) (y := y) (by omega) hy
  simp [c441, k441, hr, agg_cs, w1, c1]
theorem call229 {pu : Bool} {H : Heap} {f : List Int} (hf : VF f) : Call tab pu 229 [iv .u16 f] H = some (tup [iv .u16 (mirF f), .int .i64 0], H) := by
  refine Call_wp t229 (.inr rfl) rfl ?_
  obtain ⟨H1, hH1⟩ : ∃ H1, H1 = H ++ [(⟨cs .u16 f, 1, 0, false⟩ : Blk)] := ⟨_, rfl⟩
  have p1 : Pre H H1 := by rw [hH1]; exact Pre.one
  have r1 : rd H1 H.length 0 0 12 = some (cs .u16 f) := by rw [hH1]; exact rd_last rfl (by simp [hf.W.len])
  have c1 := call234 (pu := true) (H := H1) hf.W.len
  have c2 := call306 (pu := true) (H := H1) (F := .func (.func 441) #[] #[adr H.length 0 0]) (p := fun x y => hasF f (11 - x) y) fun x y hx hy => call441 hf.W r1 hx hy
  rw [whereN_dots, show (dotsF fun x y => hasF f (11 - x) y) = mirF f from rfl] at c2
  have hl := (mirF_V (f := f)).W.len
  have s3 := stc_zr (k := .u16) (n := 12) (l := mirF f) hl
  simp [c229, k229, hf.W.len, ← hH1, r1, agg_cs, c1, hf.ok, c2, zs_cs, hl, s3, p1.take]
theorem call447 {H : Heap} {b b1 b2 : Nat} {f : List Int} {dx dy : Int} (hw : FrW f) (hr : rd H b 0 0 12 = some (cs .u16 f)) (h1 : rd H b1 0 0 1 = some [.int .i64 dx]) (h2 : rd H b2 0 0 1 = some [.int .i64 dy])
    (d1 : -12 ≤ dx ∧ dx ≤ 12) (d2 : -12 ≤ dy ∧ dy ≤ 12) {x y : Nat} (hx : x < 12) (hy : y < 12) :
    callV (Call tab) H (.func (.func 447) #[] #[adr b 0 0, adr b1 0 0, adr b2 0 0]) [.int .i64 x, .int .i64 y] = some (.bool (hasF f (rol dx x) (rol dy y)), H) := by
  have e1 : (#[adr b 0 0, adr b1 0 0, adr b2 0 0] : Array Value) = [adr b 0 0, adr b1 0 0, adr b2 0 0].toArray := rfl
  rw [e1, callV_func]
  refine Call_wp t447 (.inr rfl) rfl ?_
  have key : ∀ (d : Int) (z : Nat), -12 ≤ d ∧ d ≤ 12 → z < 12 → IntKind.wrap .i64 ((z : Int) - d) = (z : Int) - d ∧ IntKind.wrap .i64 ((z : Int) - d + 24) = (z : Int) - d + 24 ∧ ((z : Int) - d + 24).tmod 12 = ((rol d z : Nat) : Int) := fun d z hd hz => by
    refine ⟨wrap64 (by omega), wrap64 (by omega), ?_⟩
    rw [Int.tmod_eq_emod_of_nonneg (by omega)]
    unfold rol; omega
  obtain ⟨x1, x2, x3⟩ := key dx x d1 hx
  obtain ⟨y1, y2, y3⟩ := key dy y d2 hy
  have c1 := call395 (pu := true) (H := H) hw (x := rol dx x) (y := rol dy y) rol_lt rol_lt
  simp [c447, k447, hr, h1, h2, agg_cs, x1, x2, x3, y1, y2, y3, c1]
theorem call357 {pu : Bool} {H : Heap} {f : List Int} {dx dy : Int} (hf : VF f) (hx : -12 ≤ dx ∧ dx ≤ 12) (hy : -12 ≤ dy ∧ dy ≤ 12) : Call tab pu 357 [iv .u16 f, .int .i64 dx, .int .i64 dy] H = some (.int .i64 0, H) := by
  refine Call_wp t357 (.inr rfl) rfl ?_
  simp [c357, k357, hf.W.len, call234 hf.W.len, hf.ok, call295, hx, hy]
theorem call235 {pu : Bool} {H : Heap} {f : List Int} {dx dy : Int} (hf : VF f) (d1 : -12 ≤ dx ∧ dx ≤ 12) (d2 : -12 ≤ dy ∧ dy ≤ 12) :
    Call tab pu 235 [iv .u16 f, .int .i64 dx, .int .i64 dy] H = some (tup [iv .u16 (rolF f dx dy), .int .i64 0], H) := by
  refine Call_wp t235 (.inr rfl) rfl ?_
  obtain ⟨H1, hH1⟩ : ∃ H1, H1 = H ++ [(⟨cs .u16 f, 1, 0, false⟩ : Blk), ⟨[.int .i64 dx], 1, 0, false⟩, ⟨[.int .i64 dy], 1, 0, false⟩] := ⟨_, rfl⟩
  have p1 : Pre H H1 := by rw [hH1]; exact ⟨_, rfl⟩
  have g0 : H1[H.length]? = some ⟨cs .u16 f, 1, 0, false⟩ := by rw [hH1, List.getElem?_append_right (Nat.le_refl _)]; simp
  have g1 : H1[H.length + 1]? = some ⟨[.int .i64 dx], 1, 0, false⟩ := by rw [hH1, List.getElem?_append_right (by omega), show H.length + 1 - H.length = 1 by omega]; rfl
  have g2 : H1[H.length + 1 + 1]? = some ⟨[.int .i64 dy], 1, 0, false⟩ := by rw [hH1, List.getElem?_append_right (by omega), show H.length + 1 + 1 - H.length = 2 by omega]; rfl
  have r0 : rd H1 H.length 0 0 12 = some (cs .u16 f) := by
    rw [rd_at g0 rfl (by simp [hf.W.len])]; simp [take_all, hf.W.len]
  have r1 : rd H1 (H.length + 1) 0 0 1 = some [.int .i64 dx] := by rw [rd_at g1 rfl (by simp)]; rfl
  have r2 : rd H1 (H.length + 1 + 1) 0 0 1 = some [.int .i64 dy] := by rw [rd_at g2 rfl (by simp)]; rfl
  have c1 := call357 (pu := true) (H := H1) hf d1 d2
  have c2 := call306 (pu := true) (H := H1) (F := .func (.func 447) #[] #[adr H.length 0 0, adr (H.length + 1) 0 0, adr (H.length + 1 + 1) 0 0]) (p := fun x y => hasF f (rol dx x) (rol dy y)) fun x y hx hy => call447 hf.W r0 r1 r2 d1 d2 hx hy
  rw [whereN_dots, show (dotsF fun x y => hasF f (rol dx x) (rol dy y)) = rolF f dx dy from rfl] at c2
  have hl := (rolF_V (f := f) (dx := dx) (dy := dy)).W.len
  have s3 := stc_zr (k := .u16) (n := 12) (l := rolF f dx dy) hl
  simp [c235, k235, hf.W.len, ← hH1, r0, r1, r2, agg_cs, c1, hf.ok, c2, zs_cs, hl, s3, p1.take]
theorem call236 {pu : Bool} {H : Heap} {f : List Int} {dx dy : Int} (hf : VF f) (d1 : -12 ≤ dx ∧ dx ≤ 12) (d2 : -12 ≤ dy ∧ dy ≤ 12) :
    Call tab pu 236 [iv .u16 f, .int .i64 dx, .int .i64 dy] H = some (tup [iv .u16 (rolF f dx dy), .int .i64 0], H) := by
  refine Call_wp t236 (.inr rfl) rfl ?_
  have hl := hf.W.len
  obtain ⟨H1, hH1⟩ : ∃ H1, H1 = H ++ [(⟨cs .u16 f, 1, 0, false⟩ : Blk)] := ⟨_, rfl⟩
  have p1 : Pre H H1 := by rw [hH1]; exact Pre.one
  have r1 : rd H1 H.length 0 0 12 = some (cs .u16 f) := by rw [hH1]; exact rd_last rfl (by simp [hl])
  have c1 := call373 (pu := true) (dx := dx) (dy := dy) hl r1 hf.ok
  rw [mvCc_zero d1 d2] at c1
  obtain ⟨G0, hG0⟩ : ∃ G0, G0 = H1 ++ [(⟨cs .u16 (zr 12 0), 1, 0, false⟩ : Blk)] := ⟨_, rfl⟩
  have hP0 : Pre H1 G0 := by rw [hG0]; exact Pre.one
  have hlen0 : G0.length = H1.length + 1 := by rw [hG0]; simp
  have hlen1 : H1.length = H.length + 1 := by rw [hH1]; simp
  have hc := call440 (pu := true) hf.W (hP0.rd r1)
  rw [hlen0] at hc
  have hwr : wr H.length false (H1 ++ [⟨cs .u16 (zr 12 0), 1, 0, false⟩]) H1.length 0 0 (cs .u16 (zr 12 0)) = some G0 := by
    rw [wr_at get_last rfl rfl (by simp [may]; omega) (by simp), hG0]
    simp [splice]
  have hle := dotL_len (f := f) (k := 144)
  have hput := rolG_dots (f := f) d1 d2
  have hz := stc_zr (k := .u16) (n := 12) (l := rolF f dx dy) dotsF_length
  have hdl : (rolF f dx dy).length = 12 := dotsF_length
  simp [c236, k236, hl, ← hH1, c1, zs_cs, agg_cs, fill, rep, hwr, wbOf, hc]
  refine WP_count 11 (dotL f 144).length _ rfl (fun j e G => e 1 = .int .i64 dx ∧ e 2 = .int .i64 dy ∧ e 6 = iv .u16 (zr 12 0) ∧ e 9 = adr H1.length 0 0 ∧ e 10 = slc (H1.length + 1) 0 0 (dotL f 144).length (dotL f 144).length ∧
    G = H1 ++ [⟨cs .u16 (putS (rolG dx dy) ((dotL f 144).take j)), 1, 0, false⟩, ⟨dotC f 144, 2, 0, false⟩]) (by omega) ?_ ?_ (by simp) ⟨by simp, by simp, by simp, by simp, by simp, by rw [hG0]; simp; rfl⟩
  · rintro j e G _ hj hjj e4 hcn ⟨h1, h2, h6, h9, h10, hG⟩
    obtain ⟨pF, x, y, hx, hy, htk, b, o, v, ha, q0, q1⟩ := dots_at hj hG
    have hFl : (putS (rolG dx dy) ((dotL f 144).take j)).length = 12 := putS_length
    have key : ∀ (d : Int) (z : Nat), -12 ≤ d ∧ d ≤ 12 → z < 12 → IntKind.wrap .i64 (z : Int) = z ∧ IntKind.wrap .i64 ((z : Int) + d) = (z : Int) + d ∧ IntKind.wrap .i64 ((z : Int) + d + 12) = (z : Int) + d + 12 ∧
        ((z : Int) + d + 12).tmod 12 = ((((z : Int) + d + 12) % 12).toNat : Int) := fun d z hd hz => by
      refine ⟨wrap64 (by omega), wrap64 (by omega), wrap64 (by omega), ?_⟩
      rw [Int.tmod_eq_emod_of_nonneg (by omega)]
      omega
    obtain ⟨x0, x1, x2, x3⟩ := key dx x d1 hx
    obtain ⟨y0, y1, y2, y3⟩ := key dy y d2 hy
    obtain ⟨X, hX⟩ : ∃ X, X = (((x : Int) + dx + 12) % 12).toNat := ⟨_, rfl⟩
    obtain ⟨Y, hY⟩ : ∃ Y, Y = (((y : Int) + dy + 12) % 12).toNat := ⟨_, rfl⟩
    rw [← hX] at x3
    rw [← hY] at y3
    have hp := call305 (H := G) pF (x := X) (y := Y) hFl (by omega) (by omega)
    have hst : putF (putS (rolG dx dy) ((dotL f 144).take j)) X Y = putS (rolG dx dy) ((dotL f 144).take (j + 1)) := by
      rw [htk, putS_snoc]
      have e1 : (y * 12 + x) % 12 = x := by omega
      have e2 : (y * 12 + x) / 12 = y := by omega
      simp only [rolG, e1, e2, hX, hY]
    rw [hst] at hp
    have hset : G.set H1.length ⟨cs .u16 (putS (rolG dx dy) ((dotL f 144).take (j + 1))), 1, 0, false⟩ = H1 ++ [⟨cs .u16 (putS (rolG dx dy) ((dotL f 144).take (j + 1))), 1, 0, false⟩, ⟨dotC f 144, 2, 0, false⟩] := by rw [hG]; exact dots_set
    rw [hset] at hp
    have pG : Pre H G := by rw [hG]; exact p1.trans ⟨_, rfl⟩
    have pG' : Pre H (H1 ++ [⟨cs .u16 (putS (rolG dx dy) ((dotL f 144).take (j + 1))), 1, 0, false⟩, ⟨dotC f 144, 2, 0, false⟩]) := p1.trans ⟨_, rfl⟩
    have hel : elder H.length false G (tup [], H1 ++ [⟨cs .u16 (putS (rolG dx dy) ((dotL f 144).take (j + 1))), 1, 0, false⟩, ⟨dotC f 144, 2, 0, false⟩]) = some (tup [], H1 ++ [⟨cs .u16 (putS (rolG dx dy) ((dotL f 144).take (j + 1))), 1, 0, false⟩, ⟨dotC f 144, 2, 0, false⟩]) := elder_same (by rw [pG'.take, pG.take])
    simp [b236_1, hcn, hel, h1, h2, h6, h9, h10, hjj, ha, q0, q1, x0, x1, x2, x3, y0, y1, y2, y3, hp, wbOf, e4]
  · rintro e G _ hcn ⟨h1, h2, h6, h9, h10, hG⟩
    rw [List.take_of_length_le (Nat.le_refl _), hput] at hG
    have pF : G[H1.length]? = some ⟨cs .u16 (rolF f dx dy), 1, 0, false⟩ := by
      rw [hG, List.getElem?_append_right (Nat.le_refl _)]; simp
    have hr := rd_at (off := 0) (n := 12) pF rfl (by simp [hdl])
    simp only [List.drop_zero] at hr
    rw [List.take_of_length_le (by simp [hdl])] at hr
    have pH : Pre H G := by rw [hG]; exact p1.trans ⟨_, rfl⟩
    simp [b236_1, hcn, h6, h9, h10, hr, agg_cs, hdl, hz, pH.take]
theorem rev_nth {f : List Int} {y : Nat} (hl : f.length = 12) (hy : y < 12) : nth f.reverse y = nth f (11 - y) := by
  unfold nth
  rw [List.getD_eq_getElem?_getD, List.getD_eq_getElem?_getD, List.getElem?_reverse (by omega), hl]
theorem rev_V {f : List Int} (hf : VF f) : VF f.reverse := by
  refine ⟨⟨by simp [hf.W.len], fun n hn => hf.W.ok n (by simpa using hn)⟩, ?_⟩
  have := hf.ok
  unfold okF at this ⊢
  rw [List.all_reverse]
  exact this
/-- The first k places and the last k ones changed about. -/
def revK (f : List Int) (k : Nat) : List Int := tabN 12 fun y => if y < k ∨ 12 - k ≤ y then nth f (11 - y) else nth f y
theorem revK_len {f : List Int} {k : Nat} : (revK f k).length = 12 := by simp [revK, tabN]
theorem revK_0 {f : List Int} (hl : f.length = 12) : revK f 0 = f := list12 revK_len hl fun y hy => by
  rw [revK, nth_tabN hy, if_neg (by omega)]
theorem revK_6 {f : List Int} (hl : f.length = 12) : revK f 6 = f.reverse := list12 revK_len (by simp [hl]) fun y hy => by
  rw [revK, nth_tabN hy, if_pos (by omega), rev_nth hl hy]
theorem revK_lo {f : List Int} {k : Nat} (hk : k < 6) : nth (revK f k) k = nth f k := by rw [revK, nth_tabN (by omega), if_neg (by omega)]
theorem revK_hi {f : List Int} {k : Nat} (hk : k < 6) : nth (revK f k) (11 - k) = nth f (11 - k) := by rw [revK, nth_tabN (by omega), if_neg (by omega)]
theorem revK_set {f : List Int} {k : Nat} (hk : k < 6) : ((revK f k).set k (nth f (11 - k))).set (11 - k) (nth f k) = revK f (k + 1) := list12 (by simp [revK_len]) revK_len fun y hy => by
  have e := revK_len (f := f) (k := k)
  rw [nth_set (by simp [e]; omega)]
  by_cases h1 : 11 - k = y
  · rw [if_pos h1, revK, nth_tabN hy, if_pos (by omega), show 11 - y = k by omega]
  · rw [if_neg h1, nth_set (by rw [e]; omega)]
    by_cases h2 : k = y
    · rw [if_pos h2, revK, nth_tabN hy, if_pos (by omega), h2]
    · rw [if_neg h2, revK, revK, nth_tabN hy, nth_tabN hy]
      by_cases h3 : y < k ∨ 12 - k ≤ y
      · rw [if_pos h3, if_pos (by omega)]
      · rw [if_neg h3, if_neg (by omega)]
theorem call442 {H : Heap} {b : Nat} {f : List Int} (hl : f.length = 12) (hg : H[b]? = some ⟨cs .u16 f, 1, 0, false⟩) :
    Call tab false 442 [slc b 0 0 12 12] H = some (tup [], H.set b ⟨cs .u16 f.reverse, 1, 0, false⟩) := by
  refine Call_wp t442 (.inl rfl) rfl ?_
  simp [c442, k442]
  refine WK_loop (fun i e G => e 0 = slc b 0 0 12 12 ∧ e 2 = .int .i64 i ∧ e 3 = .int .i64 ((11 - i : Nat) : Int) ∧ G = H.set b ⟨cs .u16 (revK f i), 1, 0, false⟩) 6 ?_ (Nat.zero_le _)
    ⟨by simp, by simp, by simp, by rw [revK_0 hl, set_self hg]⟩
  rintro i e G _ hi ⟨h0, h2, h3, hG⟩
  by_cases hi6 : i = 6
  · subst hi6
    rw [revK_6 hl] at hG
    simp [b442_1, h2, h3, h0, hG]
  · have hlt : i < 6 := by omega
    have hgg : G[b]? = some ⟨cs .u16 (revK f i), 1, 0, false⟩ := by rw [hG]; exact get_set hg
    have hn : nth (revK f i) i = nth f i := revK_lo hlt
    have hm : nth (revK f i) (11 - i) = nth f (11 - i) := revK_hi hlt
    have hrl := revK_len (f := f) (k := i)
    have hlt' : ((i : Nat) : Int) < ((11 - i : Nat) : Int) := by omega
    have w1 : IntKind.wrap .i64 ((i : Int) + 1) = ((i + 1 : Nat) : Int) := by rw [wrap64 (by omega)]; omega
    have w2 : IntKind.wrap .i64 (((11 - i : Nat) : Int) - 1) = ((11 - (i + 1) : Nat) : Int) := by rw [wrap64 (by omega)]; omega
    have a1 : idxAV 1 (slc b 0 0 12 12) (.int .i64 (i : Int)) = some (adr b i 0) := by
      rw [idxAV_slc, at_nat (by omega)]; simp
    have a2 : idxAV 1 (slc b 0 0 12 12) (.int .i64 ((11 - i : Nat) : Int)) = some (adr b (11 - i) 0) := by
      rw [idxAV_slc, at_nat (by omega)]; simp
    have r1 : rd G b i 0 1 = some [.int .u16 (nth f i)] := by
      rw [rd_at hgg rfl (by simp [hrl]; omega), cs_one (by omega), hn]
    have r2 : rd G b (11 - i) 0 1 = some [.int .u16 (nth f (11 - i))] := by
      rw [rd_at hgg rfl (by simp [hrl]; try omega), cs_one (by omega), hm]
    have v1 := wr_at (n0 := H.length) (wb := true) (off := i) (vs := [.int .u16 (nth f (11 - i))]) (ver := 0) hgg rfl rfl (by simp [may]) (by simp [hrl]; omega)
    have sp1 : splice (cs .u16 (revK f i)) i [.int .u16 (nth f (11 - i))] = cs .u16 ((revK f i).set i (nth f (11 - i))) := by rw [splice_one (by simp [hrl]; omega)]; simp [cs, List.map_set]
    simp only [sp1] at v1
    obtain ⟨G1, hG1⟩ : ∃ G1, G1 = G.set b ⟨cs .u16 ((revK f i).set i (nth f (11 - i))), 1, 0, false⟩ := ⟨_, rfl⟩
    rw [← hG1] at v1
    have hgg1 : G1[b]? = some ⟨cs .u16 ((revK f i).set i (nth f (11 - i))), 1, 0, false⟩ := by rw [hG1]; exact get_set hgg
    have v2 := wr_at (n0 := H.length) (wb := true) (off := 11 - i) (vs := [.int .u16 (nth f i)]) (ver := 0) hgg1 rfl rfl (by simp [may]) (by simp [hrl]; try omega)
    have sp2 : splice (cs .u16 ((revK f i).set i (nth f (11 - i)))) (11 - i) [.int .u16 (nth f i)] = cs .u16 (revK f (i + 1)) := by rw [splice_one (by simp [hrl]; try omega), ← revK_set hlt]; simp [cs, List.map_set]
    simp only [sp2] at v2
    have hset : G1.set b ⟨cs .u16 (revK f (i + 1)), 1, 0, false⟩ = H.set b ⟨cs .u16 (revK f (i + 1)), 1, 0, false⟩ := by rw [hG1, hG]; simp
    rw [hset] at v2
    simp [b442_1, h2, h3, h0, hlt', a1, a2, r1, r2, v1, v2, wbOf, w1, w2, hlt]
theorem call231 {pu : Bool} {H : Heap} {f : List Int} (hf : VF f) : Call tab pu 231 [iv .u16 f] H = some (tup [iv .u16 f.reverse, .int .i64 0], H) := by
  refine Call_wp t231 (.inr rfl) rfl ?_
  have hl := hf.W.len
  obtain ⟨H1, hH1⟩ : ∃ H1, H1 = H ++ [(⟨cs .u16 f, 1, 0, false⟩ : Blk)] := ⟨_, rfl⟩
  have r1 : rd H1 H.length 0 0 12 = some (cs .u16 f) := by rw [hH1]; exact rd_last rfl (by simp [hl])
  have c1 := call234 (pu := true) (H := H1) hl
  have hs : slcPV H1 12 1 (adr H.length 0 0) = some (slc H.length 0 0 12 12) := by rw [hH1]; exact slcP_last rfl rfl (by simp [hl])
  have c2 := call442 (H := H1) (b := H.length) hl (by rw [hH1]; exact get_last)
  obtain ⟨G, hG⟩ : ∃ G, G = H1.set H.length ⟨cs .u16 f.reverse, 1, 0, false⟩ := ⟨_, rfl⟩
  have hG' : G = H ++ [(⟨cs .u16 f.reverse, 1, 0, false⟩ : Blk)] := by rw [hG, hH1]; simp
  rw [← hG] at c2
  have r2 : rd G H.length 0 0 12 = some (cs .u16 f.reverse) := by rw [hG']; exact rd_last rfl (by simp [hl])
  have pG : Pre H G := by rw [hG']; exact Pre.one
  have hrl : f.reverse.length = 12 := by simp [hl]
  have s3 := stc_zr (k := .u16) (n := 12) (l := f.reverse) hrl
  have p1 : Pre H H1 := by rw [hH1]; exact Pre.one
  have hel : elder H.length false H1 (tup [], G) = some (tup [], G) := elder_same (by rw [pG.take, p1.take])
  simp [c231, k231, hl, ← hH1, r1, agg_cs, c1, hf.ok, hs, c2, hel, wbOf, r2, zs_cs, hrl, s3, pG.take]
def revP (f : List Int) (k : Nat) : List Int := tabN 12 fun y => if y < k then nth f (11 - y) else 0
theorem revP_len {f : List Int} {k : Nat} : (revP f k).length = 12 := by simp [revP, tabN]
theorem revP_0 {f : List Int} : revP f 0 = zr 12 0 := list12 revP_len (by simp) fun y hy => by
  rw [revP, nth_tabN hy, if_neg (by omega), nth_zr]
theorem revP_12 {f : List Int} (hl : f.length = 12) : revP f 12 = f.reverse := list12 revP_len (by simp [hl]) fun y hy => by
  rw [revP, nth_tabN hy, if_pos hy, rev_nth hl hy]
theorem revP_set {f : List Int} {k : Nat} (hk : k < 12) : (revP f k).set k (nth f (11 - k)) = revP f (k + 1) := list12 (by simp [revP_len]) revP_len fun y hy => by
  rw [nth_set (by rw [revP_len]; exact hk), revP, revP, nth_tabN hy, nth_tabN hy]
  by_cases h1 : k = y
  · subst h1; rw [if_pos rfl, if_pos (by omega)]
  · rw [if_neg h1]
    by_cases h2 : y < k
    · rw [if_pos h2, if_pos (by omega)]
    · rw [if_neg h2, if_neg (by omega)]
theorem call232 {pu : Bool} {H : Heap} {f : List Int} (hf : VF f) : Call tab pu 232 [iv .u16 f] H = some (tup [iv .u16 f.reverse, .int .i64 0], H) := by
  refine Call_wp t232 (.inr rfl) rfl ?_
  have hl := hf.W.len
  obtain ⟨H1, hH1⟩ : ∃ H1, H1 = H ++ [(⟨cs .u16 f, 1, 0, false⟩ : Blk)] := ⟨_, rfl⟩
  have g1 : H1[H.length]? = some ⟨cs .u16 f, 1, 0, false⟩ := by rw [hH1]; exact get_last
  have p1 : Pre H H1 := by rw [hH1]; exact Pre.one
  have r1 : rd H1 H.length 0 0 12 = some (cs .u16 f) := by rw [hH1]; exact rd_last rfl (by simp [hl])
  have c1 := call359 (pu := true) hl r1
  have hrl : f.reverse.length = 12 := by simp [hl]
  have s3 := stc_zr (k := .u16) (n := 12) (l := f.reverse) hrl
  have s0 := stc_zr (k := .u16) (n := 12) (l := zr 12 0) (by simp)
  simp [c232, k232, hl, ← hH1, c1, hf.ok, zs_cs, agg_cs, fill, s0]
  refine WP_forH 5 12 12 rfl (by omega) (fun i e => e 1 = adr H.length 0 0 ∧ e 2 = iv .u16 (zr 12 0) ∧ e 4 = iv .u16 (revP f i)) ?_ ?_ (by simp) (by simp [revP_0])
  · rintro i e hi hii e4 hcn ⟨h1, h2, h4⟩
    have w1 : IntKind.wrap .i64 (11 - (i : Int)) = ((11 - i : Nat) : Int) := by rw [wrap64 (by omega)]; omega
    have hr := rd_one r1 (o := 11 - i) (by omega)
    rw [Nat.zero_add] at hr
    have e9 := stc_at (k := .u16) (l := revP f i) (i := i) (n := nth f (11 - i)) (l' := revP f (i + 1)) (by rw [revP_len]; exact hi) (revP_set hi)
    simp [b232_1, hcn, h1, h2, h4, hii, hi, w1, hr, e9, e4, show 11 - i < 12 by omega]
  · rintro e hcn ⟨h1, h2, h4⟩
    rw [revP_12 hl] at h4
    simp [b232_1, hcn, h1, h2, h4, hrl, s3, agg_cs, p1.take]
theorem less_4095 : ∀ n : Nat, n < 4096 → lessI 4095 (n : Int) = 4095 - (n : Int) := by
  have : (List.range 4096).all (fun n => decide (lessI 4095 (n : Int) = 4095 - (n : Int))) = true := by decide +kernel
  intro n hn
  simpa using List.all_eq_true.1 this n (by simpa using hn)
theorem mix_inv {f : List Int} (hf : VF f) : mixF (fun x _ => lessI 4095 x) f f = invF f := by
  refine list12 mixF_length (by simp [invF, hf.W.len]) fun y hy => ?_
  rw [mixF, nth_tabN hy, invF, nth_map (by rw [hf.W.len]; exact hy)]
  obtain ⟨n, hn, hlt⟩ := okF_row hf.ok hf.W hy
  rw [hn, less_4095 n hlt]
theorem inv_inv {f : List Int} (hf : VF f) : invF (invF f) = f := by
  unfold invF
  rw [List.map_map]
  refine List.map_id'' (fun a => ?_) f
  show (4095 : Int) - (4095 - a) = a
  omega
theorem call444 {pu : Bool} {H : Heap} {x y : Int} : Call tab pu 444 [.int .u16 x, .int .u16 y] H = some (.int .u16 (lessI 4095 x), H) := by
  refine Call_wp t444 (.inr rfl) rfl ?_
  simp [c444, k444, lessI]
theorem call233 {pu : Bool} {H : Heap} {f : List Int} (hf : VF f) : Call tab pu 233 [iv .u16 f] H = some (tup [iv .u16 (invF f), .int .i64 0], H) := by
  refine Call_wp t233 (.inr rfl) rfl ?_
  have hl := hf.W.len
  have c1 := call234 (pu := true) (H := H) hl
  have c2 := call443 (pu := true) (H := H) (F := .func (.func 444) #[] #[]) (op := fun x _ => lessI 4095 x) hl hl fun x y => by simp [call444]
  rw [mix_inv hf] at c2
  have hI := (invF_V hf).W.len
  have s3 := stc_zr (k := .u16) (n := 12) (l := invF f) hI
  simp [c233, k233, hl, c1, hf.ok, c2, zs_cs, agg_cs, hI, s3]
theorem call238 {pu : Bool} {H : Heap} {f g : List Int} (hf : VF f) (hg : VF g) : Call tab pu 238 [iv .u16 f, iv .u16 g] H = some (tup [iv .u16 (mixF orI f g), .int .i64 0], H) := by
  refine Call_wp t238 (.inr rfl) rfl ?_
  have hc := two351 (H := H) hf.W hg.W
  obtain ⟨G, hG⟩ : ∃ G, G = H ++ [(⟨bkC [f, g], 12, 0, false⟩ : Blk)] := ⟨_, rfl⟩
  have p1 : Pre H G := by rw [hG]; exact Pre.one
  rw [← hG, hf.ok, hg.ok] at hc
  have hf2 := fill_two hf.W.len hg.W.len
  have c2 := call338 (pu := true) (H := G) hf.W.len hg.W.len
  have s := stc_zr (k := .u16) (n := 12) (l := mixF orI f g) mixF_length
  simp [c238, k238, zs_cs, agg_cs, hf.W.len, hg.W.len, hf2, ← hG, hc, c2, mixF_length, s, p1.take]
theorem call239 {pu : Bool} {H : Heap} {f g : List Int} (hf : VF f) (hg : VF g) : Call tab pu 239 [iv .u16 f, iv .u16 g] H = some (tup [iv .u16 (mixF andI f g), .int .i64 0], H) := by
  refine Call_wp t239 (.inr rfl) rfl ?_
  have hc := two351 (H := H) hf.W hg.W
  obtain ⟨G, hG⟩ : ∃ G, G = H ++ [(⟨bkC [f, g], 12, 0, false⟩ : Blk)] := ⟨_, rfl⟩
  have p1 : Pre H G := by rw [hG]; exact Pre.one
  rw [← hG, hf.ok, hg.ok] at hc
  have hf2 := fill_two hf.W.len hg.W.len
  have c2 := call348 (pu := true) (H := G) hf.W.len hg.W.len
  have s := stc_zr (k := .u16) (n := 12) (l := mixF andI f g) mixF_length
  simp [c239, k239, zs_cs, agg_cs, hf.W.len, hg.W.len, hf2, ← hG, hc, c2, mixF_length, s, p1.take]
theorem call241 {pu : Bool} {H : Heap} {f : List Int} (h : VF f) : Call tab pu 241 [iv .u16 f] H = some (tup [slc H.length 0 0 (dotL f 144).length (dotL f 144).length, .int .i64 0], H ++ [⟨dotC f 144, 2, 0, false⟩]) := by
  refine Call_wp t241 (.inr rfl) rfl ?_
  have c1 := call234 (pu := true) (H := H) h.W.len
  rw [h.ok] at c1
  have c2 := call449 (pu := true) (H := H) h.W
  obtain ⟨G2, hG2⟩ : ∃ G2, G2 = H ++ [(⟨dotC f 144, 2, 0, false⟩ : Blk)] := ⟨_, rfl⟩
  rw [← hG2] at c2
  have p2 : Pre H G2 := by rw [hG2]; exact Pre.one
  have hcl : (dotC f 144).length = (dotL f 144).length * 2 := by rw [dotC, mvsC_length]; simp
  have g : Gr H G2 (slc H.length 0 0 (dotL f 144).length (dotL f 144).length) 2 (dotL f 144).length (dotC f 144) := ⟨H.length, 0, rfl, by rw [hG2]; exact get_last, by omega, hcl, p2⟩
  have hfin := g.fin2 (c := 0) mvsC_flat
  simp [c241, k241, h.W.len, c1, c2, hfin, wbOf]
theorem call244 {pu : Bool} {G : Heap} {x y : Value} {l : ML} (hx : SlR G x 2 l.length (mvsC l)) (hy : SlR G y 2 l.length (mvsC l)) (hn : l.length ≤ 1000000) : Call tab pu 244 [x, y] G = some (.bool true, G) := by
  refine Call_wp t244 (.inr rfl) rfl ?_
  simp [c244, k244, hx.lenV, hy.lenV]
  refine WP_forH 5 l.length _ rfl (by omega) (fun i e => e 0 = x ∧ e 1 = y) ?_ ?_ (by simp) (by simp)
  · rintro i e hi hii e4 h5 ⟨h0, h1⟩
    obtain ⟨q, off, ver, ha, hr⟩ := hx.get1 hi
    obtain ⟨q', off', ver', ha', hr'⟩ := hy.get1 hi
    rw [mvsC_elem hi] at hr hr'
    have q1 := eqMvV (a := mv l i)
    simp only [mvC] at hr hr' q1
    simp [b244_1, h5, h0, h1, hii, hx.lenV, ha, hr, ha', hr', q1, e4]
  · rintro e h5 ⟨h0, h1⟩
    simp [b244_1, h5, h0, hx.lenV]
theorem take_at0 {L : List Nat} {i : Nat} (hi : i < L.length) : L.take (i + 1) = L.take i ++ [at0 L i] := by
  rw [List.take_add_one, List.getElem?_eq_getElem hi]
  simp [at0, hi]
def plG (k : Nat) : Nat × Nat := (k % 12, k / 12)
theorem call345 {pu : Bool} {H : Heap} {x y : Nat} (hx : x < 12) (hy : y < 12) : Call tab pu 345 [.int .i64 x, .int .i64 y] H = some (.bool true, H) := by
  refine Call_wp t345 (.inr rfl) rfl ?_
  simp [c345, k345, call295, show (x : Int) ≤ 11 by omega, show (y : Int) ≤ 11 by omega]
theorem call243 {pu : Bool} {G : Heap} {x : Value} {L : List Nat} (hL : ∀ k ∈ L, k < 144) (hx : SlR G x 2 L.length (mvsC (L.map dotM))) (hn : L.length ≤ 1000000) : Call tab pu 243 [x] G = some (tup [iv .u16 (putS plG L), .int .i64 0], G) := by
  refine Call_wp t243 (.inr rfl) rfl ?_
  have s0 := stc_zr (k := .u16) (n := 12) (l := zr 12 0) (by simp)
  simp [c243, k243, hx.lenV, zs_cs, agg_cs, fill, s0]
  refine WP_forH 10 L.length _ rfl (by omega) (fun i e => e 8 = x ∧ e 9 = .int .i64 (L.length : Int) ∧ e 2 = iv .u16 (zr 12 0) ∧ e 4 = iv .u16 (putS plG (L.take i))) ?_ ?_ (by simp) (by simp; rfl)
  · rintro i e hi hii e4 hcn ⟨h8, h9, h2, h4⟩
    obtain ⟨q, off, ver, ha, hr⟩ := hx.get1 hi
    rw [mvsC_elem (by simpa using hi), mv_map hi] at hr
    have hk := hL _ (at0_mem hi)
    obtain ⟨X, hX⟩ : ∃ X, X = at0 L i % 12 := ⟨_, rfl⟩
    obtain ⟨Y, hY⟩ : ∃ Y, Y = at0 L i / 12 := ⟨_, rfl⟩
    have hd : dotM (at0 L i) = ((X : Int), (Y : Int)) := by unfold dotM; rw [hX, hY]
    rw [hd] at hr
    have hst : putS plG (L.take (i + 1)) = putF (putS plG (L.take i)) X Y := by
      rw [take_at0 hi, putS_snoc, hX, hY]; rfl
    have w1 : IntKind.wrap .i64 (X : Int) = X := wrap64 (by omega)
    have w2 : IntKind.wrap .i64 (Y : Int) = Y := wrap64 (by omega)
    have c1 := call345 (pu := true) (H := G) (x := X) (y := Y) (by omega) (by omega)
    have c2 := call346 (pu := true) (H := G) (l := putS plG (L.take i)) (x := X) (y := Y) putS_length (by omega) (by omega)
    rw [← hst] at c2
    have l1 : (putS plG (L.take i)).length = 12 := putS_length
    have l2 : (putS plG (L.take (i + 1))).length = 12 := putS_length
    have s3 := stc_all (k := .u16) (l := putS plG (L.take i)) (l' := putS plG (L.take (i + 1))) (by rw [l1, l2])
    simp only [mvC] at hr
    have q0 : stc (agg [.int .i8 0, .int .i8 0]) 0 [.int .i8 (X : Int), .int .i8 (Y : Int)] = some (agg [.int .i8 (X : Int), .int .i8 (Y : Int)]) := rfl
    have q1 : ldc 1 false (agg [.int .i8 (X : Int), .int .i8 (Y : Int)]) 0 = some (.int .i8 (X : Int)) := rfl
    have q2 : ldc 1 false (agg [.int .i8 (X : Int), .int .i8 (Y : Int)]) 1 = some (.int .i8 (Y : Int)) := rfl
    simp [b243_1, q0, q1, q2, hcn, h8, h9, h2, h4, hii, ha, hr, w1, w2, c1, c2, l1, l2, s3, agg_cs, e4]
  · rintro e hcn ⟨h8, h9, h2, h4⟩
    rw [List.take_of_length_le (Nat.le_refl _)] at h4
    have l1 : (putS plG L).length = 12 := putS_length
    have s3 := stc_zr (k := .u16) (n := 12) (l := putS plG L) l1
    simp [b243_1, hcn, h8, h9, h2, h4, l1, s3, agg_cs]
theorem twice_dots {f : List Int} (hf : VF f) : putS plG (dotL f 144 ++ dotL f 144) = f := by
  unfold putS
  rw [← dotsF_none, put_fold _ _ fun k hk => by
    have : k ∈ dotL f 144 := by simpa using hk
    have := (mem_dotL.1 this).1
    unfold plG; dsimp only; omega]
  refine dotsV.ext hf fun x y hx hy => ?_
  rw [hasF_dots hx hy, Bool.false_or, Bool.eq_iff_iff, decide_eq_true_eq]
  constructor
  · rintro ⟨k, hk, e⟩
    have hk : k ∈ dotL f 144 := by simpa using hk
    obtain ⟨_, h4⟩ := mem_dotL.1 hk
    unfold plG at e
    rw [Prod.mk.injEq] at e
    rw [← e.1, ← e.2]; exact h4
  · intro h
    have e1 : (y * 12 + x) % 12 = x := by omega
    have e2 : (y * 12 + x) / 12 = y := by omega
    refine ⟨y * 12 + x, by simp; exact mem_dotL.2 ⟨by omega, by rw [e1, e2]; exact h⟩, ?_⟩
    unfold plG
    rw [e1, e2]
theorem fdot_has {f : List Int} : fdot f = hasF f := rfl
theorem u16s_cs {f : List Int} : u16s (cs .u16 f) = some f := by
  induction f with
  | nil => rfl
  | cons n f ih =>
    show (u16s (cs .u16 f)).map (n :: ·) = _
    rw [ih]; rfl
theorem okU_true {f : List Int} (h : FrW f) : okU f = true := by
  unfold okU
  rw [Bool.and_eq_true]
  refine ⟨by simp [h.len], List.all_eq_true.2 fun n hn => ?_⟩
  have := h.ok n hn
  exact decide_eq_true this
/-- What a frame is as a text. -/
def txt (f : List Int) : List UInt8 := txF (hasF f) 12
theorem txt_len {f : List Int} : (txt f).length = 156 := by unfold txt; rw [txF_len]
theorem call439 {pu : Bool} {H : Heap} {f : List Int} (h : FrW f) : Call tab pu 439 [iv .u16 f] H = some (str (txt f), H) := by
  rw [Call_ext t439 (.inr rfl)]
  show (match u16s ((cs .u16 f).toArray.toList) with
    | some f => if okU f = true then some (str (txF (fdot f) 12), H) else none
    | none => none) = _
  rw [List.toList_toArray, u16s_cs]
  dsimp only
  rw [if_pos (okU_true h)]
  rfl
theorem call227 {pu : Bool} {H : Heap} {f : List Int} (h : VF f) : Call tab pu 227 [iv .u16 f] H = some (str (txt f), H) := by
  refine Call_wp t227 (.inr rfl) rfl ?_
  simp [c227, k227, h.W.len, call234 h.W.len, h.ok, call439 h.W]
theorem txR_get {has : Nat → Nat → Bool} {y : Nat} : ∀ {n x : Nat}, x < n → (txR has y n).getD x 0 = if has x y then 35 else 46
  | 0, _, h => absurd h (Nat.not_lt_zero _)
  | n + 1, x, h => by
    rw [txR, List.getD_eq_getElem?_getD]
    by_cases hx : x < n
    · rw [List.getElem?_append_left (by rw [txR_len]; exact hx), ← List.getD_eq_getElem?_getD, txR_get hx]
    · obtain rfl : x = n := by omega
      rw [List.getElem?_append_right (by rw [txR_len]; exact Nat.le_refl _), txR_len, Nat.sub_self]; rfl
theorem txF_get {has : Nat → Nat → Bool} : ∀ {n x y : Nat}, y < n → x < 12 → (txF has n).getD (y * 13 + x) 0 = if has x y then 35 else 46
  | 0, _, _, h, _ => absurd h (Nat.not_lt_zero _)
  | n + 1, x, y, h, hx => by
    rw [txF, List.append_assoc, List.getD_eq_getElem?_getD]
    by_cases hy : y < n
    · rw [List.getElem?_append_left (by rw [txF_len]; omega), ← List.getD_eq_getElem?_getD, txF_get hy hx]
    · obtain rfl : y = n := by omega
      rw [List.getElem?_append_right (by rw [txF_len]; omega), txF_len, show y * 13 + x - 13 * y = x by omega, List.getElem?_append_left (by rw [txR_len]; exact hx), ← List.getD_eq_getElem?_getD, txR_get hx]
theorem call438 {H : Heap} {b : Nat} {f : List Int} (hr : rd H b 0 0 1 = some [str (txt f)]) {x y : Nat} (hx : x < 12) (hy : y < 12) :
    callV (Call tab) H (.func (.func 438) #[] #[adr b 0 0]) [.int .i64 x, .int .i64 y] = some (.bool (hasF f x y), H) := by
  have e1 : (#[adr b 0 0] : Array Value) = [adr b 0 0].toArray := rfl
  rw [e1, callV_func]
  refine Call_wp t438 (.inr rfl) rfl ?_
  have w1 : IntKind.wrap .i64 ((y : Int) * 13) = (y : Int) * 13 := wrap64 (by omega)
  have w2 : IntKind.wrap .i64 ((y : Int) * 13 + (x : Int)) = ((y * 13 + x : Nat) : Int) := by rw [wrap64 (by omega)]; omega
  have hi : idxsV (str (txt f)) (.int .i64 ((y * 13 + x : Nat) : Int)) = some (.int .u8 ((txt f).getD (y * 13 + x) 0).toNat) := idxsV_s (at_nat (by rw [txt_len]; omega))
  have hg : (txt f).getD (y * 13 + x) 0 = if hasF f x y then 35 else 46 := txF_get hy hx
  rw [hg] at hi
  cases h : hasF f x y with
  | true =>
    rw [h] at hi
    have hi : idxsV (str (txt f)) (.int .i64 ((y * 13 + x : Nat) : Int)) = some (.int .u8 35) := hi
    simp [c438, k438, hr, w1, w2, -Int.natCast_add, -Int.natCast_mul, ev1_idxs, hi]
  | false =>
    rw [h] at hi
    have hi : idxsV (str (txt f)) (.int .i64 ((y * 13 + x : Nat) : Int)) = some (.int .u8 46) := hi
    simp [c438, k438, hr, w1, w2, -Int.natCast_add, -Int.natCast_mul, ev1_idxs, hi]
theorem call226 {pu : Bool} {H : Heap} {f : List Int} (h : VF f) : Call tab pu 226 [str (txt f)] H = some (tup [iv .u16 f, .int .i64 0], H) := by
  refine Call_wp t226 (.inr rfl) rfl ?_
  obtain ⟨H1, hH1⟩ : ∃ H1, H1 = H ++ [(⟨[str (txt f)], 1, 0, false⟩ : Blk)] := ⟨_, rfl⟩
  have p1 : Pre H H1 := by rw [hH1]; exact Pre.one
  have r1 : rd H1 H.length 0 0 1 = some [str (txt f)] := by rw [hH1]; exact rd_last rfl (by simp)
  have c2 := call306 (pu := true) (H := H1) (F := .func (.func 438) #[] #[adr H.length 0 0]) (p := hasF f) fun x y hx hy => call438 r1 hx hy
  rw [whereN_dots, h.dots] at c2
  have c3 := call439 (pu := true) (H := H1) h.W
  have hl := h.W.len
  have s3 := stc_zr (k := .u16) (n := 12) (l := f) hl
  have hn : (((txt f).length : Nat) : Int) = 156 := by rw [txt_len]; rfl
  have hq : eqV .s (str (txt f)) (str (txt f)) = some true := by rw [eqV_s]; simp
  simp [c226, k226, ← hH1, r1, hn, c2, zs_cs, hl, s3, agg_cs, c3, hq, p1.take]
theorem eqF_T {f : List Int} (hf : f.length = 12) : eqV (.a (rb 12 (some .u16))) (iv .u16 f) (iv .u16 f) = some true := by rw [eqV_iv hf hf]; simp
/-- All of a list behind another one, in a call whose own memory begins further down. -/
theorem Gr.append' {n0 : Nat} {H G : Heap} {x y : Value} {esz n m bytes : Nat} {vs ws : List Value} (g : Gr H G x esz n vs) (hn0 : n0 ≤ H.length) (hy : SlR G y esz m ws) (hb : (n + m) * bytes ≤ roomMax) {wb : Bool} :
    ∃ x' G', ((srcOf esz G y).bind fun q => appendTo n0 wb esz bytes G x q.1 q.2) = some (x', G') ∧ ∃ b ver, (x' = slc b 0 ver (n + m) (n + m) ∧ H.length ≤ b ∧ G' = G.set b ⟨vs ++ ws, esz, ver, false⟩) ∧ Gr H G' x' esz (n + m) (vs ++ ws) := by
  obtain ⟨b, ver, rfl, h1, h2, h3, h4⟩ := g
  have e1 : srcOf esz G y = some (m, ws) := by
    rcases hy.is with ⟨rfl, rfl⟩ | ⟨c, off, v, cap, rfl, _, hr, _⟩
    · have : ws = [] := by have := hy.size; simpa using this
      rw [this]; rfl
    · show (rd G c off v (m * esz)).map (fun cs => (m, cs)) = _
      rw [hr]; rfl
  rw [e1, Option.bind_some]
  have hsz := hy.size
  rcases Nat.eq_zero_or_pos m with h0 | h0
  · subst h0
    have : ws = [] := by simpa using hsz
    subst this
    have hset : G.set b ⟨vs ++ [], esz, ver, false⟩ = G := by rw [List.append_nil]; exact set_self h1
    refine ⟨slc b 0 ver n n, G, ?_, b, ver, ⟨rfl, h2, hset.symm⟩, b, ver, rfl, by rw [List.append_nil]; exact h1, h2, by simpa using h3, h4⟩
    unfold appendTo slc
    simp only []
    rw [if_pos (by omega), wr_at h1 rfl rfl (by simp [may]; omega) (by simp [h3])]
    have : splice vs (0 + n * esz) [] = vs := by simp [splice]
    rw [this]
    show some (slc b 0 ver (n + 0) n, G.set b ⟨vs, esz, ver, false⟩) = _
    rw [set_self h1]; rfl
  · refine ⟨slc b 0 (ver + 1) (n + m) (n + m), G.set b ⟨vs ++ ws, esz, ver + 1, false⟩, appendTo_grow h1 rfl rfl (by simp [may]; omega) rfl h3.symm h0 hb, b, ver + 1, ⟨rfl, h2, rfl⟩, b, ver + 1, rfl, get_set h1, h2, by simp [h3, hsz, Nat.add_mul], h4.set h2⟩
/-- Lists of dots. -/
theorem c47_38 {H : Heap} {e : Env} {f : List Int} {D : Int} (hf : VF f) (h5 : e 5 = iv .u16 f) (h45 : e 45 = .int .i64 (cntF f)) (h61 : e 61 = .int .i64 D) (h65 : e 65 = .int .i64 D) :
    WK tab H.length false (tailC 38 k47) [] e H (QL H.length H) := by
  have hl := hf.W.len
  obtain ⟨n, hn⟩ : ∃ n, n = (dotL f 144).length := ⟨_, rfl⟩
  have hle := dotL_len (f := f) (k := 144)
  have hcl : (dotC f 144).length = (dotL f 144).length * 2 := by rw [dotC, mvsC_length]; simp
  have hml : ((dotL f 144).map dotM).length = (dotL f 144).length := by simp
  have c1 := call241 (pu := true) (H := H) hf
  obtain ⟨G1, hG1⟩ : ∃ G1, G1 = H ++ [(⟨dotC f 144, 2, 0, false⟩ : Blk)] := ⟨_, rfl⟩
  rw [← hG1] at c1
  have p1 : Pre H G1 := by rw [hG1]; exact Pre.one
  have l1 : G1.length = H.length + 1 := by rw [hG1]; simp
  have s1 : SlR G1 (slc H.length 0 0 (dotL f 144).length (dotL f 144).length) 2 (dotL f 144).length (dotC f 144) :=
    ⟨hcl, .inr ⟨_, 0, 0, _, rfl, Nat.le_refl _, by rw [hG1]; exact rd_last rfl (by simp [hcl]), _, by rw [hG1]; exact get_last, rfl, rfl⟩⟩
  have c2 := call242 (pu := true) (H := G1) hf
  obtain ⟨G2, hG2⟩ : ∃ G2, G2 = G1 ++ [(⟨dotC f 144, 2, 0, false⟩ : Blk)] := ⟨_, rfl⟩
  rw [← hG2] at c2
  have p2 : Pre G1 G2 := by rw [hG2]; exact Pre.one
  have s2 : SlR G2 (slc G1.length 0 0 (dotL f 144).length (dotL f 144).length) 2 (dotL f 144).length (dotC f 144) :=
    ⟨hcl, .inr ⟨_, 0, 0, _, rfl, Nat.le_refl _, by rw [hG2]; exact rd_last rfl (by simp [hcl]), _, by rw [hG2]; exact get_last, rfl, rfl⟩⟩
  have pH2 : Pre H G2 := p1.trans p2
  have hlen2 : H.length ≤ G2.length := pH2.len
  have g0 : Gr G2 (G2 ++ [⟨[], 2, 0, false⟩]) (slc G2.length 0 0 0 0) 2 0 [] := Gr.new (Pre.refl)
  obtain ⟨x1, G3, a1, b1, v1, ⟨e1, _, e1G⟩, g1⟩ := g0.append' (n0 := H.length) (bytes := 2) hlen2 (s2.pre g0.pre) (by have : roomMax = 140737488355328 := rfl; omega) (wb := false)
  obtain ⟨x2, G4, a2, b2, v2, ⟨e2, _, e2G⟩, g2⟩ := g1.append' (n0 := H.length) (bytes := 2) hlen2 (s2.pre g1.pre) (by have : roomMax = 140737488355328 := rfl; omega) (wb := false)
  have p4 := g2.pre
  have hP : Pre H G4 := pH2.trans p4
  have hmm : dotC f 144 ++ dotC f 144 = mvsC ((dotL f 144 ++ dotL f 144).map dotM) := by
    unfold dotC; rw [List.map_append, mvsC_app]
  have hs4 : SlR G4 x2 2 (dotL f 144 ++ dotL f 144).length (mvsC ((dotL f 144 ++ dotL f 144).map dotM)) := by
    have := g2.sl
    rw [← hmm, List.length_append]
    simpa using this
  have c3 := call243 (pu := true) (G := G4) (x := x2) (L := dotL f 144 ++ dotL f 144) (fun k hk => by
    have : k ∈ dotL f 144 := by simpa using hk
    exact (mem_dotL.1 this).1) hs4 (by simp; omega)
  rw [twice_dots hf] at c3
  have c4 := call244 (pu := true) (G := G4) (l := (dotL f 144).map dotM) (by rw [hml]; exact (s1.pre p2).pre p4) (by rw [hml]; exact s2.pre p4) (by rw [hml]; omega)
  have hlv := (s2.pre p4).lenV
  have hq := eqF_T hl
  have s3 := stc_zr (k := .u16) (n := 12) (l := f) hl
  have ht : ((((dotL f 144).length : Nat) : Int) == cntF f) = true := by unfold cntF; simp
  have f0 : fill (rep 0 [.int .i8 0, .int .i8 0]) [] = some [] := rfl
  simp [tailC, k47, h5, h45, h61, h65, hl, c1, c2, f0, a1, a2, c3, c4, zs_cs, agg_cs, s3, hlv, ht, hq, QL, hP.take]
def U38 : Cd := tailC 38 k47
theorem c47_36 {H : Heap} {e : Env} {f g : List Int} (hf : VF f) (hg : VF g) (h5 : e 5 = iv .u16 f) (h6 : e 6 = iv .u16 g) (h45 : e 45 = .int .i64 (cntF f)) (h53 : e 53 = iv .u16 (mixF orI f g)) (h55 : e 55 = iv .u16 (mixF andI f g))
    (h57 : e 57 = iv .u16 (mixF lessI f g)) (h59 : e 59 = iv .u16 (mixF lessI g f)) (h61 : e 61 = .int .i64 (difF f g)) : WK tab H.length false (tailC 36 k47) [] e H (QL H.length H) := by
  have hT : tailC 36 k47 = headC 2 (tailC 36 k47) U38 := rfl
  rw [hT]
  have hl := hf.W.len
  have hlg := hg.W.len
  have m1 : (mixF orI f g).length = 12 := mixF_length
  have m2 : (mixF andI f g).length = 12 := mixF_length
  have m3 : (mixF lessI f g).length = 12 := mixF_length
  have m4 : (mixF lessI g f).length = 12 := mixF_length
  simp [headC, tailC, k47]
  refine WP_forH 66 12 12 rfl (by omega) (fun y e => e 5 = iv .u16 f ∧ e 6 = iv .u16 g ∧ e 45 = .int .i64 (cntF f) ∧ e 53 = iv .u16 (mixF orI f g) ∧ e 55 = iv .u16 (mixF andI f g) ∧ e 57 = iv .u16 (mixF lessI f g) ∧ e 59 = iv .u16 (mixF lessI g f) ∧ e 61 = .int .i64 (difF f g) ∧
    e 65 = .int .i64 ((dotL (mixF xorI f g) (y * 12)).length : Nat)) ?_ ?_ (by simp) (by simp [h5, h6, h45, h53, h55, h57, h59, h61, dotL_zero])
  · rintro y e hy hyy e4 h66 ⟨h5, h6, h45, h53, h55, h57, h59, h61, h65⟩
    have a1 : nth (mixF orI f g) y = bitsOf .or .u16 (nth f y) (nth g y) := by rw [mixF, nth_tabN hy]; rfl
    have a2 : nth (mixF andI f g) y = bitsOf .and .u16 (nth f y) (nth g y) := by rw [mixF, nth_tabN hy]; rfl
    have a3 : nth (mixF lessI f g) y = bitsOf .andNot .u16 (nth f y) (nth g y) := by rw [mixF, nth_tabN hy]; rfl
    have a4 : nth (mixF lessI g f) y = bitsOf .andNot .u16 (nth g y) (nth f y) := by rw [mixF, nth_tabN hy]; rfl
    simp [b47_3, h66, hyy, h5, h6, h53, h55, h57, h59, hl, hlg, m1, m2, m3, m4, hy, a1, a2, a3, a4]
    refine WP_forH 67 12 12 rfl (by omega) (fun x e => e 5 = iv .u16 f ∧ e 6 = iv .u16 g ∧ e 45 = .int .i64 (cntF f) ∧ e 53 = iv .u16 (mixF orI f g) ∧ e 55 = iv .u16 (mixF andI f g) ∧ e 57 = iv .u16 (mixF lessI f g) ∧ e 59 = iv .u16 (mixF lessI g f) ∧ e 61 = .int .i64 (difF f g) ∧
      e 65 = .int .i64 ((dotL (mixF xorI f g) (y * 12 + x)).length : Nat) ∧ e 66 = .int .i64 (y : Int)) ?_ ?_ (by simp) (by simp [h5, h6, h45, h53, h55, h57, h59, h61, h65, h66])
    · rintro x e hx hxx e4 h67 ⟨h5, h6, h45, h53, h55, h57, h59, h61, h65, h66⟩
      have c1 := call240 (pu := true) (H := H) hf hx hy
      have c2 := call240 (pu := true) (H := H) hg hx hy
      have hd := row_div (hf.W.nth hy) hx
      have hs := dotL_succ_len (f := mixF xorI f g) (y := y) hx
      rw [mix_xor hf hg hx hy] at hs
      have hle := dotL_len (f := mixF xorI f g) (k := y * 12 + x)
      have wx : IntKind.wrap .u64 (x : Int) = x := wrapu64 (by omega)
      have e1 : (nth f y / bit x % 2 == 1) = hasF f x y := rfl
      have q1 := shr_bit (row := nth f y) (x := x) (by omega)
      have q2 := and_one hd
      have w1 : IntKind.wrap .i64 (((dotL (mixF xorI f g) (y * 12 + x)).length : Int) + 1) = (((dotL (mixF xorI f g) (y * 12 + x)).length + 1 : Nat) : Int) := by rw [wrap64 (by omega)]; omega
      cases hp : (hasF f x y ^^ hasF g x y) with
      | true =>
        rw [hp, if_pos rfl] at hs
        have hq : (hasF f x y == hasF g x y) = false := by cases h1 : hasF f x y <;> cases h2 : hasF g x y <;> simp [h1, h2] at hp ⊢
        simp [b47_2, h67, hxx, h5, h6, h66, h65, h45, h53, h55, h57, h59, h61, c1, c2, hl, hlg, hy, q1, q2, e1, hq, w1, e4, ← Nat.add_assoc, hs, wx]
      | false =>
        rw [hp, if_neg (by simp)] at hs
        have hq : (hasF f x y == hasF g x y) = true := by cases h1 : hasF f x y <;> cases h2 : hasF g x y <;> simp [h1, h2] at hp ⊢
        simp [b47_2, h67, hxx, h5, h6, h66, h65, h45, h53, h55, h57, h59, h61, c1, c2, hl, hlg, hy, q1, q2, e1, hq, w1, e4, ← Nat.add_assoc, hs, wx]
    · rintro e h67 ⟨h5, h6, h45, h53, h55, h57, h59, h61, h65, h66⟩
      simp [b47_2, h67, h5, h6, h45, h53, h55, h57, h59, h61, h65, h66, e4, Nat.add_mul]
  · rintro e h66 ⟨h5, h6, h45, h53, h55, h57, h59, h61, h65⟩
    simp [b47_3, h66]
    exact c47_38 (D := difF f g) hf (by simp [h5]) (by simp [h45]) (by simp [h61]) (by simp [h65]; rfl)
def U36 : Cd := tailC 36 k47
def U29 : Cd := tailC 29 k47
def U17 : Cd := tailC 17 k47
def U7 : Cd := tailC 7 k47
theorem difF_comm {f g : List Int} (hf : VF f) (hg : VF g) : difF g f = difF f g := by
  unfold difF
  have : mixF xorI g f = mixF xorI f g := (xor_V' hg hf).ext (xor_V' hf hg) fun x y hx hy => by rw [mix_xor hg hf hx hy, mix_xor hf hg hx hy, Bool.xor_comm]
  rw [this]
theorem difF_zero {f g : List Int} (hf : VF f) (hg : VF g) : (difF f g == 0) = decide (f = g) := by
  by_cases h : f = g
  · subst h; rw [difF_self hf]; simp
  · have h0 : difF f g ≠ 0 := fun h0 => by
      apply h
      have h1 := xor_V' hf hg
      have h2 : ¬ 0 < cntF (mixF xorI f g) := by unfold difF at h0; omega
      have h3 : mixF xorI f g = zr 12 0 := list12 mixF_length (by simp) fun y hy => by
        rw [nth_zr]
        exact Classical.byContradiction fun hne => h2 ((cntF_zero h1.W h1.ok).2 fun hall => hne (hall y hy))
      exact hf.ext hg fun x y hx hy => by
        have := mix_xor hf hg hx hy
        rw [h3, hasF_zero hx hy] at this
        simpa using this.symm
    simp [h, h0]
theorem c47_29 {H : Heap} {e : Env} {f g : List Int} (hf : VF f) (hg : VF g) (h5 : e 5 = iv .u16 f) (h6 : e 6 = iv .u16 g) (h45 : e 45 = .int .i64 (cntF f)) : WK tab H.length false (tailC 29 k47) [] e H (QL H.length H) := by
  have hT : tailC 29 k47 = headC 7 (tailC 29 k47) U36 := rfl
  rw [hT]
  have hl := hf.W.len
  have hlg := hg.W.len
  have m1 : (mixF orI f g).length = 12 := mixF_length
  have m2 : (mixF andI f g).length = 12 := mixF_length
  have m3 : (mixF lessI f g).length = 12 := mixF_length
  have m4 : (mixF lessI g f).length = 12 := mixF_length
  have s1 := stc_zr (k := .u16) (n := 12) m1
  have s2 := stc_zr (k := .u16) (n := 12) m2
  have s3 := stc_zr (k := .u16) (n := 12) m3
  have s4 := stc_zr (k := .u16) (n := 12) m4
  have c1 := call238 (pu := true) (H := H) hf hg
  have c2 := call239 (pu := true) (H := H) hf hg
  have c3 := call237 (pu := true) (H := H) hf hg
  have c4 := call237 (pu := true) (H := H) hg hf
  have c5 := call125 (pu := true) (H := H) hf hg
  have c6 := call125 (pu := true) (H := H) hg hf
  rw [difF_comm hf hg] at c6
  have q1 := difF_zero hf hg
  have q2 := eqV_iv (k := .u16) hl hlg
  simp [headC, tailC, k47, h5, h6, hl, hlg, zs_cs, agg_cs, c1, c2, c3, c4, c5, c6, m1, m2, m3, m4, s1, s2, s3, s4, q1, q2]
  exact c47_36 hf hg (by simp [h5]) (by simp [h6]) (by simp [h45]) (by simp) (by simp) (by simp) (by simp) (by simp)
theorem sh_rol {f : List Int} {dx dy : Int} (hf : VF f) (h1 : -12 ≤ dx ∧ dx ≤ 12) (h2 : -12 ≤ dy ∧ dy ≤ 12) : mixF lessI (shF f dx dy) (rolF f dx dy) = zr 12 0 :=
  less_none dotsV rolF_V fun x y hx hy h => by
    rw [shF_has hx hy] at h
    unfold hasI at h
    rw [Bool.and_eq_true] at h
    obtain ⟨h3, h4⟩ := h
    have h3 : (0 ≤ (x : Int) - dx ∧ (x : Int) - dx < 12) ∧ 0 ≤ (y : Int) - dy ∧ (y : Int) - dy < 12 := by simp [okP] at h3; omega
    have e1 : ((x : Int) - dx).toNat = rol dx x := by unfold rol; omega
    have e2 : ((y : Int) - dy).toNat = rol dy y := by unfold rol; omega
    rw [e1, e2] at h4
    unfold rolF
    rw [hasF_dots hx hy]; exact h4
def U28 : Cd := tailC 28 k47
theorem c47_28 {H : Heap} {e : Env} {f g r s : List Int} {n m : Int} (hf : VF f) (hg : VF g) (hr : VF r) (hs : VF s) (hm : m ≤ n) (h5 : e 5 = iv .u16 f) (h6 : e 6 = iv .u16 g) (h35 : e 35 = iv .u16 r) (h36 : e 36 = .int .i64 0) (h37 : e 37 = iv .u16 r) (h38 : e 38 = .int .i64 0)
    (h39 : e 39 = iv .u16 f) (h40 : e 40 = .int .i64 0) (h41 : e 41 = iv .u16 s) (h42 : e 42 = .int .i64 0) (h43 : e 43 = iv .u16 s) (h44 : e 44 = .int .i64 0) (hn : n = cntF f) (h45 : e 45 = .int .i64 n) (h46 : e 46 = .int .i64 0) (h47 : e 47 = .int .i64 n) (h48 : e 48 = .int .i64 0)
    (h49 : e 49 = .int .i64 m) (h50 : e 50 = .int .i64 0) (h51 : e 51 = iv .u16 (zr 12 0)) (h52 : e 52 = .int .i64 0) : WK tab H.length false (tailC 28 k47) [] e H (QL H.length H) := by
  have hT : tailC 28 k47 = headC 1 (tailC 28 k47) U29 := rfl
  rw [hT]
  have hl := hf.W.len
  have lR := hr.W.len
  have lS := hs.W.len
  have q1 := eqF_T lR
  have q2 := eqF_T lS
  have q3 := eqF_T hl
  have q4 := eqF_T (f := zr 12 0) (by simp)
  have hle : ¬ n < m := by omega
  simp [headC, tailC, k47, h5, h35, h36, h37, h38, h39, h40, h41, h42, h43, h44, h45, h46, h47, h48, h49, h50, h51, h52, hl, lR, lS, zs_cs, agg_cs, q1, q2, q3, q4, hle, fill]
  exact c47_29 hf hg (by simp [h5]) (by simp [h6]) (by simp [h45, hn])
theorem c47_17 {H : Heap} {e : Env} {f g : List Int} {y : Value} {bs : List Int} (hf : VF f) (hg : VF g) (hy : By H y bs) (h1 : e 1 = y) (h5 : e 5 = iv .u16 f) (h6 : e 6 = iv .u16 g) : WK tab H.length false (tailC 17 k47) [] e H (QL H.length H) := by
  have hT : tailC 17 k47 = headC 11 (tailC 17 k47) U28 := rfl
  rw [hT]
  obtain ⟨u, c1, hu0, hu1⟩ := call124 (pu := true) (i := 0) (n := 25) hy (by omega) (by omega)
  obtain ⟨v, c2, hv0, hv1⟩ := call124 (pu := true) (i := 1) (n := 25) hy (by omega) (by omega)
  rw [show ((0 : Nat) : Int) = 0 from rfl] at c1
  rw [show ((1 : Nat) : Int) = 1 from rfl] at c2
  obtain ⟨dx, hdx⟩ : ∃ dx, dx = u - 12 := ⟨_, rfl⟩
  obtain ⟨dy, hdy⟩ : ∃ dy, dy = v - 12 := ⟨_, rfl⟩
  have w1 : IntKind.wrap .i64 (u - 12) = dx := by rw [wrap64 (by omega)]; omega
  have w2 : IntKind.wrap .i64 (v - 12) = dy := by rw [wrap64 (by omega)]; omega
  have d1 : -12 ≤ dx ∧ dx ≤ 12 := by omega
  have d2 : -12 ≤ dy ∧ dy ≤ 12 := by omega
  have w3 : IntKind.wrap .i64 (-dx) = -dx := wrap64 (by omega)
  have w4 : IntKind.wrap .i64 (-dy) = -dy := wrap64 (by omega)
  have hl := hf.W.len
  have VR := rolF_V (f := f) (dx := dx) (dy := dy)
  have VS : VF (shF f dx dy) := dotsV
  have lR := VR.W.len
  have lS := VS.W.len
  have c3 := call235 (pu := true) (H := H) hf d1 d2
  have c4 := call236 (pu := true) (H := H) hf d1 d2
  have c5 := call235 (pu := true) (H := H) VR (dx := -dx) (dy := -dy) (by omega) (by omega)
  rw [rol_roll hf d1 d2] at c5
  have c6 := call132 (pu := true) (H := H) hf d1 d2
  have c7 := call150 (pu := true) (H := H) hf d1 d2
  have c8 := call171 (pu := true) (H := H) hf
  have c9 := call171 (pu := true) (H := H) VR
  rw [rol_cnt hf d1 d2] at c9
  have c10 := call171 (pu := true) (H := H) VS
  have c11 := call237 (pu := true) (H := H) VS VR
  rw [sh_rol hf d1 d2] at c11
  have s1 := stc_zr (k := .u16) (n := 12) lR
  have s2 := stc_zr (k := .u16) (n := 12) lS
  have s3 := stc_zr (k := .u16) (n := 12) hl
  have s4 := stc_zr (k := .u16) (n := 12) (l := zr 12 0) (by simp)
  have q1 := eqF_T lR
  have q2 := eqF_T lS
  have q3 := eqF_T hl
  have q4 := eqF_T (f := zr 12 0) (by simp)
  have hle : ¬ cntF f < cntF (shF f dx dy) := by have := cntF_sh (f := f) (dx := dx) (dy := dy); omega
  simp [headC, tailC, k47, h1, h5, h6, hl, lR, lS, zs_cs, agg_cs, c1, c2, w1, w2, w3, w4, c3, c4, c5, c6, c7, c8, c9, c10, c11, s1, s2, s3, s4, fill]
  exact c47_28 (r := rolF f dx dy) (s := shF f dx dy) (n := cntF f) (m := cntF (shF f dx dy)) hf hg VR VS cntF_sh (by simp [h5]) (by simp [h6]) (by simp) (by simp) (by simp) (by simp) (by simp) (by simp) (by simp) (by simp) (by simp) (by simp) rfl (by simp) (by simp) (by simp) (by simp) (by simp) (by simp) (by simp) (by simp)
def U16 : Cd := tailC 16 k47
end Fb
