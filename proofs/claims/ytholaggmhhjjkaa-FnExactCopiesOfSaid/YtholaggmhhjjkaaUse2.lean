/- What each function computes. -/
import Derived.Test.YtholaggmhhjjkaaUse1
set_option linter.unusedVariables false
set_option linter.unusedSimpArgs false
namespace Fb
open Go
theorem call514 {pu : Bool} {H : Heap} {f : List Int} {a : Int × Int} (hw : FrW f) (hk : okF f = true) (ha : smallM a = true) : Call tab pu 514 [iv .u16 f, agg (mvC a)] H = some (iv .u16 (shF f a.1 a.2), H) := by
  refine Call_wp t514 (.inr rfl) rfl ?_
  obtain ⟨h1, h2⟩ := smallM_ok ha
  have w1 : IntKind.wrap .i64 a.1 = a.1 := wrap64 (by omega)
  have w2 : IntKind.wrap .i64 a.2 = a.2 := wrap64 (by omega)
  have hc := call358 (pu := true) (H := H) (dx := a.1) (dy := a.2) hw hk (by omega) (by omega)
  simp [c514, k514, hw.len, mvC, ldc2, ldc2b, w1, w2, hc, zs_cs, agg_cs, stc_zr, shF_length]
theorem call369 {pu : Bool} {H : Heap} {m : Int} : Call tab pu 369 [.int .i64 m] H = some (.bool (in1 m 0 4), H) := by
  refine Call_wp t369 (.inr rfl) rfl ?_
  simp [c369, k369, in295]
theorem in1_nat {m : Int} (h : in1 m 0 4 = true) : ∃ n : Nat, m = n ∧ n ≤ 4 := by
  simp [in1] at h
  obtain ⟨n, rfl⟩ := Int.eq_ofNat_of_zero_le h.1
  exact ⟨n, rfl, by omega⟩
theorem own_nil {H : Heap} {esz : Nat} : Own H (.slice none 0 0) none H.length esz 0 [] := ⟨by simp, rfl, rfl⟩
theorem SlR.cells {H : Heap} {x : Value} {esz n : Nat} {vs : List Value} (h : SlR H x esz n vs) : cellsOf x = [x] := by
  rcases h.is with ⟨rfl, _⟩ | ⟨b, off, ver, cap, rfl, _⟩ <;> rfl
def cpP (b c : List (List Int)) (a : Int × Int) (p : Nat) : Bool := allN (fun i => decide (fr b (p + i) = shF (fr c i) a.1 a.2)) c.length
theorem call509 {pu : Bool} {G : Heap} {x y : Value} {b c : List (List Int)} {p : Nat} {a : Int × Int} (hb : Bk G x b) (hw : BkW b) (hc : Bk G y c) (hwc : BkW c) (hok : okFs c = true) (hn : b.length ≤ 1000) (hp : p + c.length ≤ b.length) (ha : smallM a = true) :
    Call tab pu 509 [x, .int .i64 (p : Int), y, agg (mvC a)] G = some (.bool (cpP b c a p), G) := by
  refine Call_wp t509 (.inr rfl) rfl ?_
  simp [c509, k509, SlR.lenV hc]
  refine WP_forH 13 c.length _ rfl (by omega) (fun i e => e 0 = x ∧ e 1 = .int .i64 p ∧ e 7 = agg (mvC a) ∧ e 11 = y ∧ e 12 = .int .i64 c.length ∧ ∀ j, j < i → decide (fr b (p + j) = shF (fr c j) a.1 a.2) = true) ?_ ?_ (by simp) ⟨by simp, by simp, by simp, by simp, by simp, fun j hj => by omega⟩
  · rintro i e hi hii e4 h13 ⟨h0, h1, h7, h11, h12, hj⟩
    obtain ⟨q, off, ver, ha1, hr1⟩ := Bk.get hc hwc hi
    obtain ⟨q2, off2, ver2, ha2, hr2⟩ := Bk.get hb hw (i := p + i) (by omega)
    have e5 : IntKind.wrap .i64 ((p : Int) + (i : Int)) = ((p + i : Nat) : Int) := by rw [wrap64 (by omega)]; omega
    have hfW := hwc.fr hi
    have hgl := (hw.fr (i := p + i) (by omega)).len
    have h514 := call514 (pu := true) (H := G) hfW (okFs_get hok hi) ha
    have hsl : (shF (fr c i) a.1 a.2).length = 12 := shF_length
    have hev := eqV_iv (k := .u16) hgl hsl
    cases hd : decide (fr b (p + i) = shF (fr c i) a.1 a.2) with
    | true =>
      rw [hd] at hev
      simp [b509_1, h13, h0, h1, h7, h11, h12, hii, ha1, hr1, zs_cs, agg_cs, hfW.len, stc_zr, ldM, h514, e5, ha2, hr2, hev, e4, -decide_eq_true_eq, -decide_eq_false_iff_not, -Int.natCast_add]
      exact upto_succ hj hd
    | false =>
      have : cpP b c a p = false := allN_false hi hd
      rw [hd] at hev
      simp [b509_1, h13, h0, h1, h7, h11, h12, hii, ha1, hr1, zs_cs, agg_cs, hfW.len, stc_zr, ldM, h514, e5, ha2, hr2, hev, this, -decide_eq_true_eq, -decide_eq_false_iff_not, -Int.natCast_add]
  · rintro e h13 ⟨h0, h1, h7, h11, h12, hj⟩
    have : cpP b c a p = true := allN_true hj
    simp [b509_1, h13, h12, this]
theorem s507 : tab 507 = some (.fn (ixFC 2 true)) := t507
/-- Which move is the first one that makes a copy at p. -/
def mcJ (b c : List (List Int)) (m p : Nat) : Int := findN (fun j => cpP b c (mv (farM m) j) p) (farM m).length
def mcS (b c : List (List Int)) (m p : Nat) (s : List Int × ML) : List Int × ML := if 0 ≤ mcJ b c m p then (s.1 ++ [(p : Int)], s.2 ++ [mv (farM m) (mcJ b c m p).toNat]) else s
def mcK (b c : List (List Int)) (m k : Nat) : List Int × ML := itN (mcS b c m) ([], []) k
theorem mcK_zero {b c : List (List Int)} {m : Nat} : mcK b c m 0 = ([], []) := itN_zero
theorem mcK_succ {b c : List (List Int)} {m k : Nat} : mcK b c m (k + 1) = mcS b c m k (mcK b c m k) := itN_succ
theorem mcK_len {b c : List (List Int)} {m k : Nat} : (mcK b c m k).1.length ≤ k ∧ (mcK b c m k).2.length = (mcK b c m k).1.length := by
  induction k with
  | zero => rw [mcK_zero]; simp
  | succ k ih =>
    rw [mcK_succ, mcS]
    split
    · simp [ih.2]; omega
    · exact ⟨by omega, ih.2⟩
theorem findN_lt {p : Nat → Bool} {n : Nat} : findN p n = -1 ∨ ∃ i : Nat, findN p n = i ∧ i < n := by
  unfold findN
  cases h : (List.range n).find? p with
  | none => exact .inl rfl
  | some i => exact .inr ⟨i, rfl, by simpa using List.mem_of_find?_eq_some h⟩
theorem fin_two {H G : Heap} {b1 b2 : Nat} {x y : Value} {e1 e2 n1 n2 : Nat} {vs ws : List Value} {c : Int} (g1 : GrB H G b1 x e1 n1 vs) (g2 : GrB H G b2 y e2 n2 ws) (hne : b1 ≠ b2) (h1 : NoRef vs) (h2 : NoRef ws) :
    finish H.length G [x, y, .int .i64 c] = (tup [slc H.length 0 0 n1 n1, slc (H.length + 1) 0 0 n2 n2, .int .i64 c], H ++ [⟨vs, e1, 0, false⟩, ⟨ws, e2, 0, false⟩]) := by
  obtain ⟨v1, rfl, q1, l1, z1, p1⟩ := g1
  obtain ⟨v2, rfl, q2, l2, z2, _⟩ := g2
  have o1 : old1 H.length (slc b1 0 v1 n1 n1) = false := by
    show (true && decide (b1 < H.length)) = false
    simp; omega
  have o2 : old1 H.length (slc b2 0 v2 n2 n2) = false := by
    show (true && decide (b2 < H.length)) = false
    simp; omega
  have a1 : vs.all (old0 H.length) = true := h1.all
  have a2 : ws.all (old0 H.length) = true := h2.all
  have hc : ([b1] : List Nat).contains b2 = false := by
    rw [List.contains_eq_mem]; simp; exact Ne.symm hne
  have s2 : pack H.length G [slc b2 0 v2 n2 n2, .int .i64 c] [b1] [⟨vs, e1, 0, false⟩] = some ([slc (H.length + 1) 0 0 n2 n2, .int .i64 c], [⟨vs, e1, 0, false⟩, ⟨ws, e2, 0, false⟩]) := by
    rw [pack, if_neg (by rw [o2]; decide)]
    show (match G[b2]? with
      | some k => if ([b1] : List Nat).contains b2 = false ∧ v2 = k.ver ∧ k.ro = false ∧ k.cells.all (old0 H.length) = true then (pack H.length G [.int .i64 c] (b2 :: [b1]) ([(⟨vs, e1, 0, false⟩ : Blk)] ++ [{ k with ver := 0 }])).map fun (q : List Value × List Blk) => (slc (H.length + ([(⟨vs, e1, 0, false⟩ : Blk)] : List Blk).length) 0 0 n2 n2 :: q.1, q.2) else none
      | none => none) = _
    rw [q2]
    simp only []
    rw [if_pos ⟨hc, by simp, by simp, a2⟩, pack_all (by simp)]; rfl
  have s1 : pack H.length G [slc b1 0 v1 n1 n1, slc b2 0 v2 n2 n2, .int .i64 c] [] [] = some ([slc H.length 0 0 n1 n1, slc (H.length + 1) 0 0 n2 n2, .int .i64 c], [⟨vs, e1, 0, false⟩, ⟨ws, e2, 0, false⟩]) := by
    rw [pack, if_neg (by rw [o1]; decide)]
    show (match G[b1]? with
      | some k => if ([] : List Nat).contains b1 = false ∧ v1 = k.ver ∧ k.ro = false ∧ k.cells.all (old0 H.length) = true then (pack H.length G [slc b2 0 v2 n2 n2, .int .i64 c] (b1 :: []) ([] ++ [{ k with ver := 0 }])).map fun (q : List Value × List Blk) => (slc (H.length + ([] : List Blk).length) 0 0 n1 n1 :: q.1, q.2) else none
      | none => none) = _
    rw [q1]
    simp only []
    rw [if_pos ⟨by simp, by simp, by simp, a1⟩]
    show (pack H.length G [slc b2 0 v2 n2 n2, .int .i64 c] [b1] [⟨vs, e1, 0, false⟩]).map _ = _
    rw [s2]; rfl
  rw [finish_some s1, p1.take]; rfl
def mcC (b c : List (List Int)) (m : Int) : Int := if (okB b && okB c) = true then if (in1 m 0 4 && !((c.length : Int) == 0)) = true then 0 else 2 else 1
/-- How many places there are. -/
def mcN (b c : List (List Int)) : Nat := b.length + 1 - c.length
def mcR (b c : List (List Int)) (m : Int) : List Int × ML := if mcC b c m = 0 then mcK b c m.toNat (mcN b c) else ([], [])
theorem GrB.pr {H G : Heap} {b : Nat} {x : Value} {esz n : Nat} {vs : List Value} (g : GrB H G b x esz n vs) : Pre H G := by obtain ⟨_, _, _, _, _, p⟩ := g; exact p
theorem GrB.ltG {H G : Heap} {b : Nat} {x : Value} {esz n : Nat} {vs : List Value} (g : GrB H G b x esz n vs) : b < G.length := by obtain ⟨_, _, h, _, _, _⟩ := g; exact (List.getElem?_eq_some_iff.1 h).1
theorem GrB.kept {H G G' : Heap} {b : Nat} {x : Value} {esz n : Nat} {vs : List Value} (g : GrB H G b x esz n vs) (h : G'[b]? = G[b]?) (p : Pre H G') : GrB H G' b x esz n vs := by
  obtain ⟨ver, e, h1, h2, h3, _⟩ := g
  exact ⟨ver, e, by rw [h]; exact h1, h2, h3, p⟩
theorem GrB.onto {H G G' : Heap} {b : Nat} {x : Value} {esz n : Nat} {vs : List Value} (g : GrB H G b x esz n vs) (p : Pre G G') : GrB H G' b x esz n vs := g.kept (p.get g.ltG) (g.pr.trans p)
theorem GrB.mk' {H G : Heap} {b : Nat} {esz : Nat} (h : G[b]? = some ⟨[], esz, 0, false⟩) (hb : H.length ≤ b) (p : Pre H G) : GrB H G b (slc b 0 0 0 0) esz 0 [] := ⟨0, rfl, h, hb, by simp, p⟩
theorem call508 {pu : Bool} {G : Heap} {x y : Value} {b c : List (List Int)} {p P1 P2 P3 : Nat} {a : Int × Int} (h1 : rd G P1 0 0 1 = some [x]) (h2 : rd G P2 0 0 1 = some [.int .i64 (p : Int)]) (h3 : rd G P3 0 0 1 = some [y])
    (hb : Bk G x b) (hw : BkW b) (hc : Bk G y c) (hwc : BkW c) (hok : okFs c = true) (hn : b.length ≤ 1000) (hp : p + c.length ≤ b.length) (ha : smallM a = true) :
    Call tab pu 508 [agg (mvC a), adr P1 0 0, adr P2 0 0, adr P3 0 0] G = some (.bool (cpP b c a p), G) := by
  refine Call_wp t508 (.inr rfl) rfl ?_
  have h := call509 (pu := true) hb hw hc hwc hok hn hp ha
  simp [c508, k508, h1, h2, h3, ldM, h]
theorem rdCell {G : Heap} {P : Nat} {v : Value} {e : Nat} (h : G[P]? = some ⟨[v], e, 0, false⟩) : rd G P 0 0 1 = some [v] := by rw [rd_at h rfl (by simp)]; rfl
theorem mcC_ok {b c : List (List Int)} {m : Int} (h : mcC b c m = 0) : okB b = true ∧ okB c = true ∧ c.length ≠ 0 ∧ ∃ n : Nat, m = n ∧ n ≤ 4 := by
  unfold mcC at h
  split at h
  · rename_i h1
    split at h
    · rename_i h2
      simp only [Bool.and_eq_true] at h1 h2
      exact ⟨h1.1, h1.2, by simpa using h2.2, in1_nat h2.1⟩
    · omega
  · omega
/-- What 352 hands back. -/
def RsM (H : Heap) (r : Value × Heap) (q : List Int × ML) (c : Int) : Prop :=
  (c ≠ 0 ∧ r = (tup [.slice none 0 0, .slice none 0 0, .int .i64 c], H)) ∨
  (c = 0 ∧ r = (tup [slc H.length 0 0 q.1.length q.1.length, slc (H.length + 1) 0 0 q.1.length q.1.length, .int .i64 c], H ++ [⟨cs .i64 q.1, 1, 0, false⟩, ⟨mvsC q.2, 2, 0, false⟩]))
theorem call352 {pu : Bool} {b c : List (List Int)} {m : Int} (hw : BkW b) (hwc : BkW c) (hn : b.length ≤ 1000000) (hnc : c.length ≤ 1000000) {H : Heap} {x y : Value} (h : Bk H x b) (hy : Bk H y c) :
    ∃ r, Call tab pu 352 [x, y, .int .i64 m] H = some r ∧ RsM H r (mcR b c m) (mcC b c m) := by
  refine Call_ex t352 (.inr rfl) rfl ?_
  have hcx := SlR.cells h
  have hcy := SlR.cells hy
  obtain ⟨N, hN⟩ : ∃ N, N = H.length := ⟨_, rfl⟩
  obtain ⟨G1, hG1⟩ : ∃ G1, G1 = H ++ [(⟨[x], 1, 0, false⟩ : Blk), ⟨[y], 1, 0, false⟩] := ⟨_, rfl⟩
  have p1 : Pre H G1 := by rw [hG1]; exact ⟨_, rfl⟩
  have l1 : G1.length = N + 2 := by rw [hG1, hN]; simp
  have gx : G1[N]? = some ⟨[x], 1, 0, false⟩ := by rw [hG1, hN]; simp
  have gy : G1[N + 1]? = some ⟨[y], 1, 0, false⟩ := by rw [hG1, hN]; simp
  have rx := rdCell gx
  have ry := rdCell gy
  have h1 := call316 (pu := true) (SlR.pre p1 h) hw (by omega)
  have h2 := call316 (pu := true) (SlR.pre p1 hy) hwc (by omega)
  have hnil : ∀ k : Int, mcC b c m = k → k ≠ 0 → RsM H (tup [.slice none 0 0, .slice none 0 0, .int .i64 k], G1.take H.length) (mcR b c m) (mcC b c m) := fun k hk h0 => by
    rw [hk, p1.take]
    exact .inl ⟨h0, rfl⟩
  cases k1 : okB b with
  | false =>
    have q := hnil 1 (by simp [mcC, k1]) (by omega)
    simp [c352, k352, hcx, hcy, ← hN, ← hG1, rx, h1, k1, skip]
    rw [hN]
    exact q
  | true =>
    cases k2 : okB c with
    | false =>
      have q := hnil 1 (by simp [mcC, k1, k2]) (by omega)
      simp [c352, k352, hcx, hcy, ← hN, ← hG1, rx, ry, h1, k1, h2, k2]
      rw [hN]
      exact q
    | true =>
      cases k3 : in1 m 0 4 with
      | false =>
        have q := hnil 2 (by simp [mcC, k1, k2, k3]) (by omega)
        simp [c352, k352, hcx, hcy, ← hN, ← hG1, rx, ry, h1, k1, h2, k2, call369, k3, skip]
        rw [hN]
        exact q
      | true =>
        cases k4 : ((c.length : Int) == 0) with
        | true =>
          have q := hnil 2 (by simp only [mcC, k1, k2, k3, k4]; rfl) (by omega)
          simp [c352, k352, hcx, hcy, ← hN, ← hG1, rx, ry, h1, k1, h2, k2, call369, k3, SlR.lenV hy, k4]
          rw [hN]
          exact q
        | false =>
          have hC : mcC b c m = 0 := by simp only [mcC, k1, k2, k3, k4]; rfl
          obtain ⟨_, _, hc0, n, rfl, hm⟩ := mcC_ok hC
          obtain ⟨hokb, hlb⟩ := okB_fs2 k1
          obtain ⟨hokc, hlc⟩ := okB_fs2 k2
          obtain ⟨hs, hn1, hn9, h00⟩ := farM_ok hm
          obtain ⟨G2, hG2⟩ : ∃ G2, G2 = G1 ++ [(⟨[], 1, 0, false⟩ : Blk), ⟨[], 2, 0, false⟩] := ⟨_, rfl⟩
          have p2 : Pre G1 G2 := by rw [hG2]; exact ⟨_, rfl⟩
          have l2 : G2.length = N + 4 := by rw [hG2]; simp [l1]
          have h371 := call371 (pu := true) (H := G2) hm
          obtain ⟨ms, hms⟩ : ∃ ms, ms = farM n := ⟨_, rfl⟩
          rw [← hms, l2] at h371
          rw [← hms] at hs hn1 hn9 h00
          obtain ⟨G3, hG3⟩ : ∃ G3, G3 = G2 ++ [(⟨mvsC ms, 2, 0, false⟩ : Blk)] := ⟨_, rfl⟩
          rw [← hG3] at h371
          have p3 : Pre G2 G3 := by rw [hG3]; exact Pre.one
          have l3 : G3.length = N + 5 := by rw [hG3]; simp [l2]
          obtain ⟨G4, hG4⟩ : ∃ G4, G4 = G3 ++ [(⟨[.int .i64 0], 1, 0, false⟩ : Blk)] := ⟨_, rfl⟩
          have p4 : Pre G3 G4 := by rw [hG4]; exact Pre.one
          have hwr : wr N false G4 (N + 5) 0 0 [.int .i64 0] = some G4 := by
            have := wr_last (n0 := N) (wb := false) (H := G3) (b := ⟨[.int .i64 0], 1, 0, false⟩) (vs := [.int .i64 0]) rfl rfl (by omega) rfl
            rw [hG4, ← l3, this]
          have p14 : Pre G1 G4 := (p2.trans p3).trans p4
          have pH4 : Pre H G4 := p1.trans p14
          have z0 : G4[N]? = some ⟨[x], 1, 0, false⟩ := by rw [p14.get (by omega)]; exact gx
          have z1 : G4[N + 1]? = some ⟨[y], 1, 0, false⟩ := by rw [p14.get (by omega)]; exact gy
          have z2 : G4[N + 2]? = some ⟨[], 1, 0, false⟩ := by rw [(p3.trans p4).get (by omega), hG2, ← l1]; simp
          have z3 : G4[N + 3]? = some ⟨[], 2, 0, false⟩ := by
            rw [(p3.trans p4).get (by omega), hG2, show N + 3 = G1.length + 1 by omega]; simp
          have z4 : G4[N + 4]? = some ⟨mvsC ms, 2, 0, false⟩ := by rw [p4.get (by omega), hG3, ← l2]; simp
          have z5 : G4[N + 5]? = some ⟨[.int .i64 0], 1, 0, false⟩ := by rw [hG4, ← l3]; simp
          simp [c352, k352, hcx, hcy, ← hN, ← hG1, rx, ry, h1, k1, h2, k2, call369, k3, SlR.lenV hy, k4, fill, rep, ← hG2, h371, l3, ← hG4, hwr, wbOf]
          subst hN
          rw [l1]
          refine WK_loop (fun p e G => e 3 = adr H.length 0 0 ∧ e 4 = adr (H.length + 1) 0 0 ∧ e 11 = slc (H.length + 4) 0 0 ms.length ms.length ∧ ∃ P g1 g2, e 12 = adr P 0 0 ∧ e 9 = g1 ∧ e 10 = g2 ∧ H.length + 5 ≤ P ∧ G[P]? = some ⟨[.int .i64 (p : Int)], 1, 0, false⟩ ∧ G[H.length]? = some ⟨[x], 1, 0, false⟩ ∧ G[H.length + 1]? = some ⟨[y], 1, 0, false⟩ ∧
            G[H.length + 4]? = some ⟨mvsC ms, 2, 0, false⟩ ∧ GrB H G (H.length + 2) g1 1 (mcK b c n p).1.length (cs .i64 (mcK b c n p).1) ∧ GrB H G (H.length + 3) g2 2 (mcK b c n p).1.length (mvsC (mcK b c n p).2)) (mcN b c) ?_ (Nat.zero_le _)
            ⟨by simp, by simp, by simp, H.length + 5, _, _, by simp, by simp; rfl, by simp; rfl, by omega, by simpa using z5, z0, z1, z4, by rw [mcK_zero]; exact GrB.mk' z2 (by omega) pH4, by rw [mcK_zero]; exact GrB.mk' z3 (by omega) pH4⟩
          rintro p e G _ hp ⟨h3, h4, h11, P, g1, g2, h12, h9, h10, hP5, gP, gX, gY, gM, hg1, hg2⟩
          have hPG := hg1.pr
          have rX := rdCell gX
          have rY := rdCell gY
          have rP := rdCell gP
          have hlP := (List.getElem?_eq_some_iff.1 gP).1
          have hlM := (List.getElem?_eq_some_iff.1 gM).1
          have e1 : IntKind.wrap .i64 ((p : Int) + (c.length : Int)) = (p : Int) + c.length := wrap64 (by unfold mcN at hp; omega)
          have hKl := mcK_len (b := b) (c := c) (m := n) (k := p)
          by_cases hpe : p = mcN b c
          · have n1 : ¬ ((p : Int) + c.length ≤ b.length) := by unfold mcN at hpe; omega
            have hR : mcR b c n = mcK b c n p := by rw [mcR, if_pos hC, hpe]; simp
            have hfin := fin_two (c := 0) hg1 hg2 (by omega) flat_cs mvsC_flat
            simp [b352_1, h3, h4, h11, h12, h9, h10, rX, rY, rP, SlR.lenV h, SlR.lenV hy, e1, n1, hfin]
            exact .inr ⟨hC, by rw [hR, hC]⟩
          · have n1 : (p : Int) + c.length ≤ b.length := by unfold mcN at hp hpe; omega
            have hpl : p + c.length ≤ b.length := by omega
            have hx : SlR G (slc (H.length + 4) 0 0 ms.length ms.length) 2 ms.length (mvsC ms) :=
              ⟨by rw [mvsC_length], .inr ⟨_, 0, 0, _, rfl, Nat.le_refl _, by rw [rd_at gM rfl (by simp only [mvsC_length]; omega)]; simp only [List.drop_zero]; rw [List.take_of_length_le (by simp [mvsC_length])], _, gM, rfl, rfl⟩⟩
            have h507 := ixF_call s507 (pu := true) (F := .func (.func 508) #[] #[adr H.length 0 0, adr P 0 0, adr (H.length + 1) 0 0]) (p := fun j => cpP b c (mv ms j) p) hx (by omega) fun j hj => by
              refine ⟨agg (mvC (mv ms j)), by rw [mvsC_elem hj]; rfl, ?_⟩
              have := call508 (pu := true) rX rP rY (SlR.pre hPG h) hw (SlR.pre hPG hy) hwc hokc (by omega) hpl (hs j hj)
              rw [← this]
              simp [callV]
            have hJ : mcJ b c n p = findN (fun j => cpP b c (mv ms j) p) ms.length := by rw [mcJ, hms]
            rw [← hJ] at h507
            have hsu := mcK_succ (b := b) (c := c) (m := n) (k := p)
            have e2 : IntKind.wrap .i64 ((p : Int) + 1) = ((p + 1 : Nat) : Int) := by rw [wrap64 (by omega)]; omega
            have hnew : ∀ Gz : Heap, H.length ≤ Gz.length → wr H.length false (Gz ++ [⟨[.int .i64 0], 1, 0, false⟩]) Gz.length 0 0 [.int .i64 (p : Int)] = some (Gz ++ [⟨[.int .i64 (p : Int)], 1, 0, false⟩]) := fun Gz hz =>
              wr_last (b := ⟨[.int .i64 0], 1, 0, false⟩) rfl rfl hz rfl
            have hnew2 : ∀ Gz : Heap, H.length ≤ Gz.length → wr H.length false (Gz ++ [⟨[.int .i64 (p : Int)], 1, 0, false⟩]) Gz.length 0 0 [.int .i64 ((p + 1 : Nat) : Int)] = some (Gz ++ [⟨[.int .i64 ((p + 1 : Nat) : Int)], 1, 0, false⟩]) := fun Gz hz =>
              wr_last (b := ⟨[.int .i64 (p : Int)], 1, 0, false⟩) rfl rfl hz rfl
            have hnr : ∀ Gz : Heap, rd (Gz ++ [⟨[.int .i64 (p : Int)], 1, 0, false⟩]) Gz.length 0 0 1 = some [.int .i64 (p : Int)] := fun Gz => rd_last rfl rfl
            have hPH : H.length ≤ G.length := hPG.len
            by_cases hj0 : 0 ≤ mcJ b c n p
            · obtain ⟨j, hj, hjl⟩ : ∃ j : Nat, mcJ b c n p = j ∧ j < ms.length := by
                rcases findN_lt (p := fun j => cpP b c (mv ms j) p) (n := ms.length) with q | q
                · rw [hJ, q] at hj0; omega
                · rw [hJ]; exact q
              obtain ⟨q2, off2, ver2, ha2, hr2⟩ := hx.get1 hjl
              rw [mvsC_elem hjl] at hr2
              have hq2 : q2 = H.length + 4 := by
                rw [idxAV_slc, at_nat hjl] at ha2
                simp [adr] at ha2
                exact ha2.1.symm
              rw [mcS, if_pos hj0, hj, ← hms, Int.toNat_natCast] at hsu
              rw [hj] at h507
              obtain ⟨Ga, hGa⟩ : ∃ Ga, Ga = G ++ [(⟨[.int .i64 (p : Int)], 1, 0, false⟩ : Blk)] := ⟨_, rfl⟩
              obtain ⟨Gb, hGb⟩ : ∃ Gb, Gb = Ga ++ [(⟨mvC (mv ms j), 2, 0, false⟩ : Blk)] := ⟨_, rfl⟩
              have pa : Pre G Ga := by rw [hGa]; exact Pre.one
              have pb : Pre Ga Gb := by rw [hGb]; exact Pre.one
              have t1 : SlR Gb (slc G.length 0 0 1 1) 1 1 (cs .i64 [(p : Int)]) := by
                refine SlR.pre pb ?_
                rw [hGa]
                exact (own_new (H := G) (esz := 1) (n := 1) (vs := cs .i64 [(p : Int)]) rfl).sl
              have t2 : SlR Gb (slc Ga.length 0 0 1 1) 2 1 (mvC (mv ms j)) := by
                rw [hGb]
                exact (own_new (H := Ga) (esz := 2) (n := 1) (vs := mvC (mv ms j)) rfl).sl
              obtain ⟨x1, Gc, hp1, g1', lc, kc⟩ := (hg1.onto (pa.trans pb)).append (bytes := 8) t1 (by have : roomMax = 140737488355328 := rfl; omega) (wb := false)
              have t2' : SlR Gc (slc Ga.length 0 0 1 1) 2 1 (mvC (mv ms j)) := by
                have hga : Gc[Ga.length]? = some ⟨mvC (mv ms j), 2, 0, false⟩ := by
                  rw [kc _ (by have := pa.len; omega), hGb]; exact get_last
                exact ⟨rfl, .inr ⟨_, 0, 0, _, rfl, Nat.le_refl _, by rw [rd_at hga rfl (by simp [mvC])]; rfl, _, hga, rfl, rfl⟩⟩
              have g2k := (hg2.onto (pa.trans pb)).kept (kc _ (by omega)) g1'.pr
              obtain ⟨x2, Gd, hp2, g2', ld, kd⟩ := g2k.append (bytes := 2) t2' (by have : roomMax = 140737488355328 := rfl; omega) (wb := false)
              have kk : ∀ b', b' ≠ H.length + 2 → b' ≠ H.length + 3 → b' < G.length → Gd[b']? = G[b']? := fun b' q1 q2 q3 => by rw [kd _ q2, kc _ q1, (pa.trans pb).get q3]
              have g1'' := g1'.kept (kd _ (by omega)) g2'.pr
              have hf1 : fill (rep 1 [.int .i64 0]) [(0, 1, .int .i64 (p : Int))] = some [.int .i64 (p : Int)] := fill_one rfl rfl
              have hf2 : fill (rep 1 [.int .i8 0, .int .i8 0]) [(0, 2, agg (mvC (mv ms j)))] = some (mvC (mv ms j)) := fill_one rfl rfl
              have lGa : Ga.length = G.length + 1 := by rw [hGa]; simp
              have pd : Pre H Gd := g2'.pr
              have rPd : rd Gd P 0 0 1 = some [.int .i64 (p : Int)] := rdCell (by rw [kk P (by omega) (by omega) hlP]; exact gP)
              have hbg : blkOf g1 = some (H.length + 2) := by obtain ⟨_, rfl, _⟩ := hg1; rfl
              subst hq2
              simp [b352_1, h3, h4, h11, h12, h9, h10, rX, rY, rP, SlR.lenV h, SlR.lenV hy, e1, n1, h507, hf1, ← hGa, ha2, pa.rd hr2, hf2, ← hGb, app_nochk, apart, mods, hbg, hp1, hp2, wbOf, rPd, hnew, hnew2, hnr, pd.len, e2, -idxAV_slc, -Int.natCast_add]
              have lGd : Gd.length = Gb.length := by rw [ld, lc]
              have lGb : Gb.length = G.length + 2 := by rw [hGb]; simp [lGa]
              have pz : Pre Gd (Gd ++ [(⟨[.int .i64 ((p + 1 : Nat) : Int)], 1, 0, false⟩ : Blk)]) := Pre.one
              have kz : ∀ b', b' ≠ H.length + 2 → b' ≠ H.length + 3 → b' < G.length → (Gd ++ [(⟨[.int .i64 ((p + 1 : Nat) : Int)], 1, 0, false⟩ : Blk)])[b']? = G[b']? := fun b' q1 q2 q3 => by rw [pz.get (by omega), kk b' q1 q2 q3]
              refine ⟨by omega, Gd.length, rfl, by omega, by simp, by rw [kz _ (by omega) (by omega) (by omega)]; exact gX, by rw [kz _ (by omega) (by omega) (by omega)]; exact gY, by rw [kz _ (by omega) (by omega) (by omega)]; exact gM, ?_, ?_⟩
              · have := g1''.onto pz
                rw [hsu]
                simpa [cs] using this
              · have := g2'.onto pz
                rw [hsu]
                simp only [mvsC_one] at this
                simpa using this
            · rw [mcS, if_neg hj0] at hsu
              have pz : Pre G (G ++ [(⟨[.int .i64 ((p + 1 : Nat) : Int)], 1, 0, false⟩ : Blk)]) := Pre.one
              simp [b352_1, h3, h4, h11, h12, h9, h10, rX, rY, rP, SlR.lenV h, SlR.lenV hy, e1, n1, h507, hj0, wbOf, hnew, hnew2, hnr, hPH, e2, -idxAV_slc, -Int.natCast_add]
              refine ⟨by omega, G.length, rfl, by omega, by simp, by rw [pz.get (by omega)]; exact gX, by rw [pz.get (by omega)]; exact gY, by rw [pz.get (by omega)]; exact gM, ?_, ?_⟩
              · rw [hsu]; exact hg1.onto pz
              · rw [hsu]; exact hg2.onto pz
theorem allN_succ {p : Nat → Bool} {n : Nat} : allN p (n + 1) = (allN p n && p n) := by simp [allN, List.range_succ]
theorem allN_congr {p q : Nat → Bool} {n : Nat} (h : ∀ i, i < n → p i = q i) : allN p n = allN q n := by
  induction n with
  | zero => rfl
  | succ n ih => rw [allN_succ, allN_succ, ih fun i hi => h i (by omega), h n (by omega)]
theorem rowsC_drop {α : Type} {f : α → List Value} {esz : Nat} {l : List α} (hf : ∀ a ∈ l, (f a).length = esz) {k : Nat} : (rowsC f l).drop (k * esz) = rowsC f (l.drop k) := by
  induction l generalizing k with
  | nil => simp [rowsC]
  | cons a r ih =>
    cases k with
    | zero => simp
    | succ k =>
      have h1 := hf a (by simp)
      have := ih (k := k) (fun b hb => hf b (by simp [hb]))
      show (f a ++ rowsC f r).drop ((k + 1) * esz) = rowsC f (r.drop k)
      rw [← this, show (k + 1) * esz = (f a).length + k * esz by rw [h1, Nat.succ_mul]; omega, List.drop_length_add_append]
theorem rowsC_take {α : Type} {f : α → List Value} {esz : Nat} {l : List α} (hf : ∀ a ∈ l, (f a).length = esz) {k : Nat} : (rowsC f l).take (k * esz) = rowsC f (l.take k) := by
  induction l generalizing k with
  | nil => simp [rowsC]
  | cons a r ih =>
    cases k with
    | zero => simp [rowsC]
    | succ k =>
      have h1 := hf a (by simp)
      have := ih (k := k) (fun b hb => hf b (by simp [hb]))
      show (f a ++ rowsC f r).take ((k + 1) * esz) = f a ++ rowsC f (r.take k)
      rw [← this, show (k + 1) * esz = (f a).length + k * esz by rw [h1, Nat.succ_mul]; omega, List.take_length_add_append]
theorem frC_len {b : List (List Int)} (hw : BkW b) : ∀ a ∈ b, (frC a).length = 12 := fun a ha => by simp [frC, (hw a ha).len]
/-- A part of a book in memory. -/
theorem Bk.sub {H : Heap} {x : Value} {b : List (List Int)} (h : Bk H x b) (hw : BkW b) {lo n : Nat} (hn : lo + n ≤ b.length) {k k' : IntKind} :
    ∃ y, slcAV H 12 x (some (.int k (lo : Int))) (some (.int k' ((lo + n : Nat) : Int))) none = some y ∧ Bk H y ((b.drop lo).take n) ∧ BkW ((b.drop lo).take n) := by
  obtain ⟨y, h1, h2⟩ := SlR.sub h (lo := lo) (hi := lo + n) (by omega) hn (k := k) (k' := k')
  have hW : BkW ((b.drop lo).take n) := fun f hf => hw f (List.mem_of_mem_drop (List.mem_of_mem_take hf))
  refine ⟨y, h1, ?_, hW⟩
  have e1 : lo + n - lo = n := by omega
  rw [e1] at h2
  have e2 : (bkC b).drop (lo * 12) = bkC (b.drop lo) := rowsC_drop (frC_len hw)
  have e3 : (bkC (b.drop lo)).take (n * 12) = bkC ((b.drop lo).take n) := rowsC_take (frC_len fun f hf => hw f (List.mem_of_mem_drop hf))
  rw [e2, e3] at h2
  have e4 : ((b.drop lo).take n).length = n := by simp; omega
  show SlR H y 12 ((b.drop lo).take n).length (bkC ((b.drop lo).take n))
  rw [e4]; exact h2
theorem fr_sub {b : List (List Int)} {lo n i : Nat} (hi : i < n) : fr ((b.drop lo).take n) i = fr b (lo + i) := by
  unfold fr at0
  rw [List.getD_eq_getElem?_getD, List.getD_eq_getElem?_getD, List.getElem?_take, if_pos hi, List.getElem?_drop]
theorem cpP_same {b c : List (List Int)} {p : Nat} (hwc : BkW c) (hok : okFs c = true) (hp : p + c.length ≤ b.length) : sameBk ((b.drop p).take c.length) c = cpP b c (0, 0) p := by
  have hl : ((b.drop p).take c.length).length = c.length := by simp; omega
  unfold sameBk cpP
  rw [hl]
  have e1 : ((c.length : Int) == c.length) = true := by simp
  rw [e1, Bool.true_and]
  refine allN_congr fun i hi => ?_
  rw [fr_sub hi, shF_zero (hwc.fr hi) (okFs_get hok hi)]
theorem farM_0 : farM 0 = [(0, 0)] := by decide +kernel
theorem mcJ_0 {b c : List (List Int)} {p : Nat} : decide (0 ≤ mcJ b c 0 p) = cpP b c (0, 0) p := by
  have hf : farM ((0 : Nat) : Int) = [(0, 0)] := farM_0
  unfold mcJ
  rw [findN_ge, hf]
  simp [anyN, mv, at0]
theorem call127 {pu : Bool} {b c : List (List Int)} (hw : BkW b) (hwc : BkW c) (hn : b.length ≤ 1000000) (hnc : c.length ≤ 1000000) {H : Heap} {x y : Value} (h : Bk H x b) (hy : Bk H y c) :
    ∃ r G' β, Call tab pu 127 [x, y] H = some (tup [r, .int .i64 (mcC b c 0)], G') ∧ Pre H G' ∧ Own G' r β H.length 1 (mcR b c 0).1.length (cs .i64 (mcR b c 0).1) := by
  have h1 := call318 (pu := true) h hw (by omega)
  have h2 := call318 (pu := true) hy hwc (by omega)
  have hnil : ∀ k : Int, mcC b c 0 = k → k ≠ 0 → finish H.length (H ++ [⟨[], 1, 0, false⟩]) [slc H.length 0 0 0 0, .int .i64 k] = (tup [slc H.length 0 0 0 0, .int .i64 k], H ++ [⟨[], 1, 0, false⟩]) ∧ Own (H ++ [⟨[], 1, 0, false⟩]) (slc H.length 0 0 0 0) (some H.length) H.length 1 (mcR b c 0).1.length (cs .i64 (mcR b c 0).1) := fun k hk h0 => by
    refine ⟨(Gr.new (H := H) (esz := 1) .refl).fin2 (by intro v hv; simp at hv), ?_⟩
    rw [mcR, if_neg (by rw [hk]; exact h0)]
    exact own_new (n := 0) rfl
  cases k1 : okB b with
  | false =>
    have hC : mcC b c 0 = 1 := by simp [mcC, k1]
    obtain ⟨e, o⟩ := hnil 1 hC (by omega)
    refine ⟨_, _, _, Call_wp t127 (.inr rfl) rfl ?_, Pre.one, o⟩
    simp [c127, k127, h1, k1, skip, fill, rep, e, hC]
  | true =>
    cases k2 : okB c with
    | false =>
      have hC : mcC b c 0 = 1 := by simp [mcC, k1, k2]
      obtain ⟨e, o⟩ := hnil 1 hC (by omega)
      refine ⟨_, _, _, Call_wp t127 (.inr rfl) rfl ?_, Pre.one, o⟩
      simp [c127, k127, h1, k1, h2, k2, fill, rep, e, hC]
    | true =>
      have k3 : in1 0 0 4 = true := by decide
      cases k4 : ((c.length : Int) == 0) with
      | true =>
        have hC : mcC b c 0 = 2 := by simp only [mcC, k1, k2, k3, k4]; rfl
        obtain ⟨e, o⟩ := hnil 2 hC (by omega)
        refine ⟨_, _, _, Call_wp t127 (.inr rfl) rfl ?_, Pre.one, o⟩
        simp [c127, k127, h1, k1, h2, k2, SlR.lenV hy, k4, fill, rep, e, hC]
      | false =>
        have hC : mcC b c 0 = 0 := by simp only [mcC, k1, k2, k3, k4]; rfl
        have hR : mcR b c 0 = mcK b c 0 (mcN b c) := by rw [mcR, if_pos hC]; rfl
        obtain ⟨hokb, hlb⟩ := okB_fs2 k1
        obtain ⟨hokc, hlc⟩ := okB_fs2 k2
        refine ⟨slc H.length 0 0 (mcR b c 0).1.length (mcR b c 0).1.length, H ++ [⟨cs .i64 (mcR b c 0).1, 1, 0, false⟩], some H.length, Call_wp t127 (.inr rfl) rfl ?_, Pre.one, own_new (by simp)⟩
        simp [c127, k127, h1, k1, h2, k2, SlR.lenV hy, k4, fill, rep]
        refine WK_loop (fun p e G => e 0 = x ∧ e 1 = y ∧ e 7 = .int .i64 (p : Int) ∧ ∃ g, e 6 = g ∧ Gr H G g 1 (mcK b c 0 p).1.length (cs .i64 (mcK b c 0 p).1)) (mcN b c) ?_ (Nat.zero_le _) ⟨by simp, by simp, by simp, slc H.length 0 0 0 0, by simp, by rw [mcK_zero]; exact Gr.new .refl⟩
        rintro p e G _ hp ⟨h0, h1e, h7, g, h6, hg⟩
        have e1 : IntKind.wrap .i64 ((p : Int) + (c.length : Int)) = ((p + c.length : Nat) : Int) := by rw [wrap64 (by unfold mcN at hp; omega)]; omega
        have hKl := mcK_len (b := b) (c := c) (m := 0) (k := p)
        by_cases hpe : p = mcN b c
        · have n1 : ¬ (((p + c.length : Nat) : Int) ≤ b.length) := by unfold mcN at hpe; omega
          rw [hpe, ← hR] at hg
          have hfin := hg.fin2 (c := 0) flat_cs
          simp [b127_1, h0, h1e, h7, h6, SlR.lenV h, SlR.lenV hy, e1, n1, hfin, hC, -Int.natCast_add]
        · have n1 : ((p + c.length : Nat) : Int) ≤ b.length := by unfold mcN at hp hpe; omega
          have hpl : p + c.length ≤ b.length := by omega
          have hPG := hg.pre
          obtain ⟨z, hz, hzb, hzw⟩ := Bk.sub (SlR.pre hPG h) hw hpl (k := .i64) (k' := .i64)
          have h323 := same323 (pu := true) hzb (SlR.pre hPG hy) hzw hwc (by simp; omega)
          rw [cpP_same hwc hokc hpl, ← mcJ_0] at h323
          have hsu := mcK_succ (b := b) (c := c) (m := 0) (k := p)
          have e2 : IntKind.wrap .i64 ((p : Int) + 1) = ((p + 1 : Nat) : Int) := by rw [wrap64 (by omega)]; omega
          by_cases hj0 : 0 ≤ mcJ b c 0 p
          · rw [decide_eq_true hj0] at h323
            rw [mcS, if_pos hj0] at hsu
            obtain ⟨x', G', hpush, hx'⟩ := hg.push (c := [.int .i64 (p : Int)]) (bytes := 8) rfl (by have : roomMax = 140737488355328 := rfl; omega) (wb := false)
            have hf1 : fill (rep 1 [.int .i64 0]) [(0, 1, .int .i64 (p : Int))] = some [.int .i64 (p : Int)] := fill_one rfl rfl
            simp [b127_1, h0, h1e, h7, h6, SlR.lenV h, SlR.lenV hy, e1, n1, hz, h323, hf1, hpush, wbOf, e2, -Int.natCast_add]
            refine ⟨by omega, ?_⟩
            rw [hsu]
            rw [cs_push] at hx'
            simpa using hx'
          · rw [decide_eq_false hj0] at h323
            rw [mcS, if_neg hj0] at hsu
            simp [b127_1, h0, h1e, h7, h6, SlR.lenV h, SlR.lenV hy, e1, n1, hz, h323, e2, -Int.natCast_add]
            exact ⟨by omega, by rw [hsu]; exact hg⟩
theorem call126 {pu : Bool} {b c : List (List Int)} (hw : BkW b) (hwc : BkW c) (hn : b.length ≤ 1000000) (hnc : c.length ≤ 1000000) {H : Heap} {x y : Value} (h : Bk H x b) (hy : Bk H y c) :
    ∃ r G' β, Call tab pu 126 [x, y] H = some (tup [r, .int .i64 (mcC b c 0)], G') ∧ Pre H G' ∧ Own G' r β H.length 1 (mcR b c 0).1.length (cs .i64 (mcR b c 0).1) := by
  obtain ⟨_, h1, ⟨hc, rfl⟩ | ⟨hc, rfl⟩⟩ := call352 (pu := true) (m := 0) hw hwc hn hnc h hy
  · refine ⟨.slice none 0 0, H, none, Call_wp t126 (.inr rfl) rfl ?_, .refl, by rw [mcR, if_neg hc]; exact own_nil⟩
    simp [c126, k126, h1, finish_nil2]
  · refine ⟨slc H.length 0 0 (mcR b c 0).1.length (mcR b c 0).1.length, H ++ [⟨cs .i64 (mcR b c 0).1, 1, 0, false⟩], some H.length, Call_wp t126 (.inr rfl) rfl ?_, Pre.one, own_new (by simp)⟩
    have hgr : Gr H (H ++ [(⟨cs .i64 (mcR b c 0).1, 1, 0, false⟩ : Blk), ⟨mvsC (mcR b c 0).2, 2, 0, false⟩]) (slc H.length 0 0 (mcR b c 0).1.length (mcR b c 0).1.length) 1 (mcR b c 0).1.length (cs .i64 (mcR b c 0).1) :=
      ⟨_, _, rfl, by simp, Nat.le_refl _, by simp, ⟨_, rfl⟩⟩
    have hfin := hgr.fin2 (c := mcC b c 0) flat_cs
    simp [c126, k126, h1, hfin]
/-- The calls that a law of two books makes, up to the marks over them. -/
theorem two_books {sp im : Nat} {extra : List Value} {H : Heap} {x y : Value} {b c : List (List Int)} (hs : Bk H x b) (hw : BkW b) (hn : b.length ≤ 1000000) (ht : Bk H y c) (hwc : BkW c) (hnc : c.length ≤ 1000000)
    {Q : Heap → Value → Heap → Prop} (hQ : ∀ G r G', Q G r G' → Pre G G')
    (hsp : ∀ G x y, Bk G x b → Bk G y c → ∃ r G', Call tab true sp (x :: y :: extra) G = some (r, G') ∧ Q G r G') (him : ∀ G x y, Bk G x b → Bk G y c → ∃ r G', Call tab true im (x :: y :: extra) G = some (r, G') ∧ Q G r G') :
    ∃ x1 G1 y1 G2 rs G3 x2 G4 y2 G5 ri G6 x3 G7 y3 G8 G9 G10, Call tab true 105 [x, .bool false] H = some (x1, G1) ∧ Call tab true 105 [y, .bool false] G1 = some (y1, G2) ∧ Call tab true sp (x1 :: y1 :: extra) G2 = some (rs, G3) ∧
      Call tab true 105 [x, .bool false] G3 = some (x2, G4) ∧ Call tab true 105 [y, .bool false] G4 = some (y2, G5) ∧ Call tab true im (x2 :: y2 :: extra) G5 = some (ri, G6) ∧
      Call tab true 105 [x, .bool false] G6 = some (x3, G7) ∧ Call tab true 107 [x2, x3] G7 = some (.bool true, G7) ∧ Call tab true 105 [y, .bool false] G7 = some (y3, G8) ∧ Call tab true 107 [y2, y3] G8 = some (.bool true, G8) ∧
      (Call tab false 122 [x2, .int .i64 101] G8).bind (elder H.length false G8) = some (.int .i64 (101 + (b.length * 12 : Nat)), G9) ∧
      (Call tab false 122 [y2, .int .i64 (101 + (b.length * 12 : Nat))] G9).bind (elder H.length false G9) = some (.int .i64 (101 + (b.length * 12 : Nat) + (c.length * 12 : Nat)), G10) ∧
      Q G2 rs G3 ∧ Q G5 ri G6 ∧ Pre G3 G6 ∧ Pre H G10 ∧ Pre H G5 ∧ G3.length ≤ G5.length ∧ G6.length ≤ G10.length ∧ (∀ j, j < G3.length ∨ (G5.length ≤ j ∧ j < G6.length) → G10[j]? = G6[j]?) := by
  have hb := bkC_length hw
  have hc := bkC_length hwc
  obtain ⟨x1, G1, q1, _, o1, p1⟩ := cp_own (pu := true) hb rfl (call105 hs hw hn)
  obtain ⟨y1, G2, q2, _, o2, p2⟩ := cp_own (pu := true) hc rfl (call105 (SlR.pre p1 ht) hwc hnc)
  have P2 := p1.trans p2
  obtain ⟨rs, G3, w1, s1⟩ := hsp G2 x1 y1 (o1.pre p2).sl o2.sl
  have p3 := hQ _ _ _ s1
  have P3 := P2.trans p3
  obtain ⟨x2, G4, q3, k3, o3, p4⟩ := cp_own (pu := true) hb rfl (call105 (SlR.pre P3 hs) hw hn)
  have P4 := P3.trans p4
  obtain ⟨y2, G5, q4, k4, o4, p5⟩ := cp_own (pu := true) hc rfl (call105 (SlR.pre P4 ht) hwc hnc)
  have P5 := P4.trans p5
  obtain ⟨ri, G6, w2, s2⟩ := him G5 x2 y2 (o3.pre p5).sl o4.sl
  have p6 := hQ _ _ _ s2
  have P6 := P5.trans p6
  obtain ⟨x3, G7, q5, k5, o5, p7⟩ := cp_own (pu := true) hb rfl (call105 (SlR.pre P6 hs) hw hn)
  have P7 := P6.trans p7
  have i1 := call107 (pu := true) (((k3.pre p5).pre p6).pre p7) k5 hw hn
  obtain ⟨y3, G8, q6, k6, o6, p8⟩ := cp_own (pu := true) hc rfl (call105 (SlR.pre P7 ht) hwc hnc)
  have P8 := P7.trans p8
  have i2 := call107 (pu := true) (((k4.pre p6).pre p7).pre p8) k6 hwc hnc
  have hl3 := o3.lt
  have hl4 := o4.lt
  obtain ⟨G9, m1, t1, _⟩ := mark122 G8 x2 _ _ b.length _ 101 ((((o3.pre p5).pre p6).pre p7).pre p8) hn (by omega) (by omega)
  have P9 : Pre H G9 := t1.pre P8 fun b hb => by cases hb; exact P3.len
  have o49 := (((o4.pre p6).pre p7).pre p8).same t1 fun b e1 e2 => (by
    have e3 : G4.length = b := by simpa using e1
    have e4 : G3.length = b := by simpa using e2
    omega)
  obtain ⟨G10, m2, t2, _⟩ := mark122 G9 y2 _ _ c.length _ (101 + (b.length * 12 : Nat)) o49 hnc (by omega) (by omega)
  have P10 : Pre H G10 := t2.pre P9 fun b hb => by cases hb; exact P4.len
  refine ⟨x1, G1, y1, G2, rs, G3, x2, G4, y2, G5, ri, G6, x3, G7, y3, G8, G9, G10, q1, q2, w1, q3, q4, w2, q5, i1, q6, i2, by rw [m1]; exact elder_pre P8 P9, by rw [m2]; exact elder_pre P9 P10, s1, s2, (p4.trans p5).trans p6, P10, P5, (p4.trans p5).len, ?_, fun j hj => ?_⟩
  · rw [t2.len, t1.len]; exact (p7.trans p8).len
  · have h5 := p5.len
    have h6 := p6.len
    have n2 : some G4.length ≠ some j := by intro he; simp at he; omega
    have n1 : some G3.length ≠ some j := by intro he; simp at he; omega
    rw [t2.get j n2, t1.get j n1, (p7.trans p8).get (by omega)]
theorem mcR_small {b c : List (List Int)} {m : Int} (hb : b.length ≤ 1000000) : (mcR b c m).1.length ≤ 1000000 := by
  by_cases h : mcC b c m = 0
  · have h1 := mcK_len (b := b) (c := c) (m := m.toNat) (k := mcN b c)
    have h2 := mcC_ok h
    have h3 := (okB_fs2 h2.1).2
    rw [mcR, if_pos h]
    unfold mcN at h1 ⊢
    omega
  · rw [mcR, if_neg h]; simp
theorem call38 {H : Heap} {x y : Value} {b c : List (List Int)} (hs : Bk H x b) (hw : BkW b) (hn : b.length ≤ 9223372036854775807) (ht : Bk H y c) (hwc : BkW c) (hnc : c.length ≤ 9223372036854775807) : ∃ H', Call tab false 38 [x, y] H = some (.bool true, H') := by
  refine ⟨H, Call_wp t38 (.inl rfl) rfl ?_⟩
  have hsz := sz_call s103 (pu := true) hs (left := 1000000) (by omega) (by omega) hn
  by_cases hbig : b.length ≤ 1000000
  · have hsz' : ¬ (1000000 - (b.length : Int) < 0) := by omega
    rw [if_neg hsz'] at hsz
    have hsz2 := sz_call s103 (pu := true) ht (left := 1000000 - b.length) (by omega) (by omega) hnc
    by_cases hbig2 : c.length ≤ 1000000 - b.length
    · have hsz2' : ¬ (1000000 - (b.length : Int) - (c.length : Int) < 0) := by omega
      rw [if_neg hsz2'] at hsz2
      have hnL := mcR_small (b := b) (c := c) (m := 0) hbig
      obtain ⟨x1, G1, y1, G2, rs, G3, x2, G4, y2, G5, ri, G6, x3, G7, y3, G8, G9, G10, q1, q2, w1, q3, q4, w2, q5, i1, q6, i2, m1, m2, s1, s2, p36, P10, P5, l35, l610, hk⟩ := two_books (sp := 127) (im := 126) (extra := []) hs hw hbig ht hwc (by omega)
        (Q := fun G r G' => ∃ r1 β, r = tup [r1, .int .i64 (mcC b c 0)] ∧ Pre G G' ∧ Own G' r1 β G.length 1 (mcR b c 0).1.length (cs .i64 (mcR b c 0).1)) (fun G r G' ⟨_, _, _, p, _⟩ => p)
        (fun G x y h h' => by
          obtain ⟨r, G', β, e, p, o⟩ := call127 (pu := true) hw hwc hbig (by omega) h h'
          exact ⟨_, G', e, r, β, rfl, p, o⟩)
        (fun G x y h h' => by
          obtain ⟨r, G', β, e, p, o⟩ := call126 (pu := true) hw hwc hbig (by omega) h h'
          exact ⟨_, G', e, r, β, rfl, p, o⟩)
      obtain ⟨zs1, βs, rfl, ps, os⟩ := s1
      obtain ⟨zi1, βi, rfl, pi, oi⟩ := s2
      generalize hL : (mcR b c 0).1 = L at *
      have e1 := eq180 hnL G6 zi1 zs1 oi.sl (os.pre p36).sl
      have os10 : Own G10 zs1 βs G2.length 1 L.length (cs .i64 L) := (os.pre p36).agree fun b hb => by subst hb; exact hk b (.inl os.lt.2)
      have oi10 : Own G10 zi1 βi G5.length 1 L.length (cs .i64 L) := oi.agree fun b hb => by subst hb; exact hk b (.inr oi.lt)
      have e2 := eq180 hnL G10 zi1 zs1 oi10.sl os10.sl
      obtain ⟨G11, n1, t1, oi11⟩ := mark182 G10 zi1 βi _ L.length _ 101 oi10 hnL (by omega) (by omega)
      have P11 : Pre H G11 := t1.pre P10 fun b hb => Nat.le_trans P5.len (oi10.below b hb)
      have os11 := os10.same t1 fun b hb he => by
        have h1 := oi10.below b he
        subst hb
        have := os.lt
        omega
      have n2 : (Call tab false 182 [zi1, .int .i64 101] G10).bind (elder H.length false G10) = some (.int .i64 (101 + (L.length * 1 : Nat)), G11) := by rw [n1]; exact elder_pre P10 P11
      have d1 := held183 true G11 zi1 βi _ L.length 101 oi11 hnL (by omega) (by omega)
      obtain ⟨x4, G12, q7, r7, p12⟩ := cp_true (pu := true) (bkC_length hw) rfl (call105 (SlR.pre P11 hs) hw hbig)
      have P12 := P11.trans p12
      obtain ⟨y4, G13, q8, r8, p13⟩ := cp_true (pu := true) (bkC_length hwc) rfl (call105 (SlR.pre P12 ht) hwc (by omega))
      obtain ⟨r4, G14, β4, w4, p14, o4⟩ := call126 (pu := true) hw hwc hbig (by omega) (SlR.pre p13 r7) r8
      rw [hL] at o4
      have p1114 := (p12.trans p13).trans p14
      have e3 := eq180 hnL G14 r4 zs1 o4.sl (os11.pre p1114).sl
      have d2 := held183 true G14 zi1 βi _ L.length 101 (oi11.pre p1114) hnL (by omega) (by omega)
      have P14 := P11.trans p1114
      have hneg : ¬ ((101 : Int) + ((L.length * 1 : Nat) : Int) < 0) := by omega
      have hneg2 : ¬ ((101 : Int) + ((b.length * 12 : Nat) : Int) + ((c.length * 12 : Nat) : Int) < 0) := by omega
      simp [c38, k38, hsz, hsz', hsz2, hsz2', wbOf, q1, q2, w1, q3, q4, w2, q5, i1, q6, i2, m1, m2, e1, e2, n2, d1, q7, q8, w4, e3, d2, hneg, hneg2, skip, P14.take, -Int.natCast_add, -Int.natCast_mul, -Nat.mul_one]
    · have hsz2' : 1000000 - (b.length : Int) - (c.length : Int) < 0 := by omega
      rw [if_pos hsz2'] at hsz2
      simp [c38, k38, hsz, hsz', hsz2]
  · have hsz' : 1000000 - (b.length : Int) < 0 := by omega
    rw [if_pos hsz'] at hsz
    simp [c38, k38, hsz]
end Fb
