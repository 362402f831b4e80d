/- What each function computes. -/
import Derived.Test.YtimijcjjmeemeaaDoorUse2
set_option linter.unusedVariables false
set_option linter.unusedSimpArgs false
namespace Fb
open Go
theorem call483 {G : Heap} {P b : Nat} {ws : List (List UInt8)} (h1w : 1 ≤ ws.length) (hb : G[b]? = some ⟨ws.map str, 1, 0, false⟩) (hbP : b ≠ P) (hn : ws.length ≤ 1000001) (hw : ∀ i, (ws.getD i []).length ≤ 1000000)
    (hP : G[P]? = some ⟨stB5 0 (fun _ => 0) (.slice none 0 0), 1, 0, false⟩) : ∃ r, Call tab false 483 [slc b 0 0 ws.length ws.length, adr P 0 0] G = some r ∧ P483 G P ws r := by
  refine Call_ex t483 (.inl rfl) rfl ?_
  show WK tab G.length true k483 [] (ini [slc b 0 0 ws.length ws.length, adr P 0 0]) G (Q483 G.length G P ws)
  have hbl : b < G.length := (List.getElem?_eq_some_iff.1 hb).1
  obtain ⟨w0, hw0⟩ : ∃ w0, w0 = ws.getD 0 [] := ⟨_, rfl⟩
  obtain ⟨G1, hG1⟩ : ∃ G1, G1 = G ++ [(⟨wrdL.map str, 1, 0, false⟩ : Blk)] := ⟨_, rfl⟩
  have p1 : Pre G G1 := by rw [hG1]; exact Pre.one
  have gb1 : G1[b]? = some ⟨ws.map str, 1, 0, false⟩ := by rw [p1.get hbl]; exact hb
  have gW : G1[G.length]? = some ⟨wrdL.map str, 1, 0, false⟩ := by rw [hG1]; exact get_last
  have hr0 : rd G1 b 0 0 1 = some [str w0] := by rw [hw0]; exact ws_rd gb1 (by omega)
  have ha0 : idxAV 1 (slc b 0 0 ws.length ws.length) (.int .i64 0) = some (adr b 0 0) := by rw [idxAV_slc]; show Option.map _ (at' ws.length (.int .i64 ((0 : Nat) : Int))) = _; rw [at_nat (by omega)]; simp
  have hf3 : fill [.string ⟨#[]⟩, .string ⟨#[]⟩, .string ⟨#[]⟩] [(0, 1, .string ⟨#[119, 104, 111, 108, 101]⟩), (1, 1, .string ⟨#[99, 111, 112, 121]⟩), (2, 1, .string ⟨#[109, 111, 118, 101]⟩)] = some (wrdL.map str) := rfl
  have hf5 : fill [.int .i64 0, .int .i64 0, .int .i64 0] [(0, 1, .int .i64 1), (1, 1, .int .i64 2), (2, 1, .int .i64 4)] = some [.int .i64 1, .int .i64 2, .int .i64 4] := rfl
  have hs5 : stc (agg [.int .i64 0, .int .i64 0, .int .i64 0]) 0 [.int .i64 1, .int .i64 2, .int .i64 4] = some (agg [.int .i64 1, .int .i64 2, .int .i64 4]) := rfl
  have hT : k483 = headC 5 k483 (tailC 5 k483) := rfl
  have hset0 : G.set P ⟨stB5 0 (fun _ => 0) (.slice none 0 0), 1, 0, false⟩ = G := set_self hP
  have hbad : ¬ hdOk ws → P483 G P ws (.int .i64 0, G1.take G.length) := fun h => by
    unfold P483
    rw [if_neg h, p1.take]
    exact ⟨_, by rw [hset0]⟩
  have hS := hdN_spec w0
  obtain ⟨N, hN⟩ : ∃ N : Nat, N = if hdN w0 = -1 then 3 else (hdN w0).toNat := ⟨_, rfl⟩
  have hN3 : N ≤ 3 ∧ (∀ j, j < N → wrd j ≠ w0) ∧ (N < 3 → wrd N = w0 ∧ hdN w0 = N) ∧ (N = 3 → hdN w0 = -1) := by
    rcases hS with ⟨h1, h2⟩ | ⟨a, h1, h2, h3, h4⟩
    · rw [if_pos h1] at hN
      subst hN
      exact ⟨Nat.le_refl _, h2, fun h => by omega, fun _ => h1⟩
    · rw [if_neg (by omega), h2] at hN
      have : N = a := by omega
      subst this
      exact ⟨by omega, h4, fun _ => ⟨h3, h2⟩, fun h => by omega⟩
  clear hN hS
  obtain ⟨hN3, hNj, hNi, hN4⟩ := hN3
  have hrep : rep 3 [.string ⟨#[]⟩] = [.string ⟨#[]⟩, .string ⟨#[]⟩, .string ⟨#[]⟩] := rfl
  rw [hT]
  obtain ⟨T, hTT⟩ : ∃ T, T = tailC 5 k483 := ⟨_, rfl⟩
  rw [← hTT]
  simp [headC, k483, hf5, hs5, hrep, hf3, ← hG1]
  refine WK_loop (fun i e G' => e 0 = slc b 0 0 ws.length ws.length ∧ e 1 = adr P 0 0 ∧ e 5 = agg [.int .i64 1, .int .i64 2, .int .i64 4] ∧ e 6 = slc G.length 0 0 3 3 ∧ e 7 = .int .i64 (i : Int) ∧ G' = G1) N ?_ (Nat.zero_le _)
    ⟨by simp, by simp, by simp, by simp, by simp, rfl⟩
  rintro i e G' _ hi ⟨h0, h1, h5, h6, h7, rfl⟩
  by_cases hiN : i = N
  · subst hiN
    by_cases h3 : i = 3
    · subst h3
      have hno : ¬ hdOk ws := fun hc => by
        have := hc.1
        rw [← hw0, hN4 rfl] at this
        omega
      have hR := hbad hno
      simp [b483_1, h7, skip]
      rw [hTT]
      simp [tailC, k483, h7, skip, Q483]
      exact hR
    · obtain ⟨hwi, hdi⟩ := hNi (by omega)
      have hlt : ((i : Int) < 3) := by omega
      have ha6 : idxAV 1 (slc G.length 0 0 3 3) (.int .i64 (i : Int)) = some (adr G.length i 0) := by rw [idxAV_slc, at_nat (by omega)]; simp
      have hr6 : rd G' G.length i 0 1 = some [str (wrd i)] := ws_rd (ws := wrdL) gW (by show i < 3; omega)
      have hq := eqV_s (a := w0) (b := wrd i)
      rw [hwi] at hr6 hq
      have hdq : decide (w0 = w0) = true := decide_eq_true rfl
      rw [hdq] at hq
      simp [b483_1, h7, hlt, h0, ha0, hr0, h6, ha6, hr6, hq]
      rw [hTT]
      have ha : ((i : Nat) : Int) = hdN (ws.getD 0 []) := by rw [← hw0, hdi]
      have hcnt : ldc 1 false (agg [.int .i64 1, .int .i64 2, .int .i64 4]) i = some (.int .i64 ((nmK (i : Int) + 1 : Nat) : Int)) := by
        rcases (show i = 0 ∨ i = 1 ∨ i = 2 by omega) with rfl | rfl | rfl <;> rfl
      have hat : at' 3 (.int .i64 (i : Int)) = some i := at_nat (by omega)
      have hi3 : ((i : Int) == 3) = false := by simp; omega
      by_cases hlen : nmK (i : Int) + 1 ≤ ws.length
      · have hTz6 : tailC 5 k483 = headC 1 (tailC 5 k483) (tailC 6 k483) := rfl
        rw [hTz6]
        obtain ⟨Tz6, hTTz6⟩ : ∃ T, T = tailC 6 k483 := ⟨_, rfl⟩
        rw [← hTTz6]
        have hl2 : ¬ (ws.length : Int) < ((nmK (i : Int) + 1 : Nat) : Int) := by omega
        simp [headC, tailC, k483, h7, h5, h0, hi3, hat, hcnt, hl2, -Int.natCast_add]
        rw [hTTz6, hG1]
        exact c483_7 (P := P) (b := b) (ws := ws) (a := (i : Int)) rfl ha (by omega) hlen hb hbP hn hw hP (by simp [h0]) (by simp [h1]) (by simp [h5]) (by simp [h7])
      · have hno : ¬ hdOk ws := fun hc => by
          have := hc.2.1
          rw [← ha] at this
          exact hlen this
        have hR := hbad hno
        have hl2 : (ws.length : Int) < ((nmK (i : Int) + 1 : Nat) : Int) := by omega
        simp [tailC, k483, h7, h5, h0, hi3, hat, hcnt, hl2, -Int.natCast_add, Q483]
        exact hR
  · have hlt : ((i : Int) < 3) := by omega
    have hne := hNj i (by omega)
    have ha6 : idxAV 1 (slc G.length 0 0 3 3) (.int .i64 (i : Int)) = some (adr G.length i 0) := by rw [idxAV_slc, at_nat (by omega)]; simp
    have hr6 : rd G' G.length i 0 1 = some [str (wrd i)] := ws_rd (ws := wrdL) gW (by show i < 3; omega)
    have hq := eqV_s (a := w0) (b := wrd i)
    have hdq : decide (w0 = wrd i) = false := decide_eq_false fun e => hne e.symm
    rw [hdq] at hq
    have w1 : IntKind.wrap .i64 ((i : Int) + 1) = ((i + 1 : Nat) : Int) := by rw [wrap64 (by omega)]; omega
    simp [b483_1, h7, hlt, h0, ha0, hr0, h6, ha6, hr6, hq, w1]
    exact ⟨by omega, by simp [h1], by simp [h5]⟩
/-- A row out of a word, as the spec reads it. -/
def rwS (w : List UInt8) : Option (Int × Int) := if (spl 58 [] w).length = 2 then (match numL ((spl 58 [] w).getD 0 []), numL ((spl 58 [] w).getD 1 []) with
  | some y, some b => if y < 12 ∧ b ≤ 4095 then some ((y : Int), (b : Int)) else none
  | _, _ => none) else none
def rwT (w : List UInt8) : Int × Int := (rwS w).getD (0, 0)
def spK (ws : List (List UInt8)) : Nat := nmK (hdN (ws.getD 0 []))
def spOk (ws : List (List UInt8)) : Prop := hdOk ws ∧ ws.length ≤ spK ws + 1 + 12 ∧ ∀ w ∈ ws.drop (spK ws + 1), (rwS w).isSome = true
instance {ws : List (List UInt8)} : Decidable (spOk ws) := by unfold spOk; infer_instance
def spS (ws : List (List UInt8)) : Sted := ⟨hdN (ws.getD 0 []), nmV ws (spK ws) 0, nmV ws (spK ws) 1, nmV ws (spK ws) 2, (ws.drop (spK ws + 1)).map rwT⟩
def spP (ws : List (List UInt8)) : Option Sted := if spOk ws then some (spS ws) else none
def lnQ (l : List UInt8) : Option Sted := spP (spl 32 [] l)
def lnE (l : List UInt8) : Sted := (lnQ l).getD default
def spR (t : List UInt8) : Option (List Sted) :=
  if (spl 10 [] t).getD ((spl 10 [] t).length - 1) [] = [] ∧ (spl 10 [] t).length - 1 ≤ 40 ∧ (∀ l ∈ rdL t, (lnQ l).isSome = true) ∧ okSts ((rdL t).map lnE) = true then some ((rdL t).map lnE) else none
def RsR2 (H : Heap) (r : Value × Heap) : Option (List Sted) → Prop
  | some l => ∃ x G, r = (tup [x, .int .i64 0], G) ∧ StX H.length G x l ∧ Pre H G
  | none => ∃ x G, r = (tup [x, .int .i64 5], G) ∧ StX H.length G x [] ∧ Pre H G
def Q289 (H : Heap) (o : Option (List Sted)) : Ex → Env → Heap → Prop := fun x e' H' => (∀ i, x ≠ .exit i) ∧ ∃ r, (resVs e' H' [.t 2, .t 3]).map (finish H.length H') = some r ∧ RsR2 H r o
theorem fail289 {H G : Heap} (p : Pre H G) : ∃ r, finish H.length (G ++ [⟨[], 5, 0, false⟩]) [slc G.length 0 0 0 0, .int .i64 5] = r ∧ RsR2 H r none := by
  obtain ⟨b', ver', G', e1, hS', hP'⟩ := (StD.new (n0 := H.length) (G := G) p.len).fin (p.app) (rest := [.int .i64 5]) rfl
  exact ⟨_, e1, _, G', rfl, .inr ⟨b', ver', rfl, hS'⟩, hP'⟩
/-- Where the spec's ReadSteps gives up. -/
def Bad289 (H : Heap) (e' : Env) (G' : Heap) : Prop := ∃ G0, Pre H G0 ∧ G' = G0 ++ [⟨[], 5, 0, false⟩] ∧ e' 2 = slc G0.length 0 0 0 0 ∧ e' 3 = .int .i64 5
/-- The rows of a line. -/
theorem inner289 {H G2 : Heap} {P wb k : Nat} {ws : List (List UInt8)} {a : Int} {f : Nat → Int} {x0 x4 x6 v5 v7 : Value} {fs : List Fr} {Q : Ex → Env → Heap → Prop} {e : Env}
    (pH : Pre H G2) (hPH : H.length ≤ P) (hPl : P < G2.length) (hb : G2[wb]? = some ⟨ws.map str, 1, 0, false⟩) (hbP : wb ≠ P) (hw : ∀ i, (ws.getD i []).length ≤ 1000000) (hn : ws.length ≤ 1000001) (hkw : k + 1 ≤ ws.length)
    (h0 : e 0 = x0) (h4 : e 4 = x4) (h5 : e 5 = v5) (h6 : e 6 = x6) (h7 : e 7 = v7) (h8 : e 8 = slc wb 0 0 ws.length ws.length) (h9 : e 9 = adr P 0 0) (h11 : e 11 = .int .i64 ((k + 1 : Nat) : Int))
    (hbad : ∀ e' G', (∃ w ∈ ws.drop (k + 1), (rwS w).isSome = false) → Bad289 H e' G' → KK tab H.length false .ret fs e' G' Q)
    (hq : ∀ e' G' y, (∀ w ∈ ws.drop (k + 1), (rwS w).isSome = true) → e' 0 = x0 → e' 4 = x4 → e' 5 = v5 → e' 6 = x6 → e' 7 = v7 → e' 9 = adr P 0 0 →
      GrN (G2.set P ⟨stB5 a f y, 1, 0, false⟩) G' y 2 (ws.length - (k + 1)) (chsC ((ws.drop (k + 1)).map rwT)) → KK tab H.length false (.exit 2) fs e' G' Q) :
    WK tab H.length false (.loop b289_1) fs e (G2.set P ⟨stB5 a f (.slice none 0 0), 1, 0, false⟩) Q := by
  have hPs : ∀ c : Blk, (G2.set P c)[P]? = some c := fun c => by rw [List.getElem?_set_self hPl]
  have hbs : ∀ c : Blk, (G2.set P c)[wb]? = some ⟨ws.map str, 1, 0, false⟩ := fun c => by rw [List.getElem?_set_ne (Ne.symm hbP)]; exact hb
  have hls : ∀ c : Blk, (G2.set P c).length = G2.length := fun c => by simp
  have hbl : wb < G2.length := (List.getElem?_eq_some_iff.1 hb).1
  have pHs : ∀ c : Blk, Pre H (G2.set P c) := fun c => pH.set hPH
  refine WP_from 11 (k + 1) ws.length _ rfl (fun j e G => e 0 = x0 ∧ e 4 = x4 ∧ e 5 = v5 ∧ e 6 = x6 ∧ e 7 = v7 ∧ e 8 = slc wb 0 0 ws.length ws.length ∧ e 9 = adr P 0 0 ∧
    (∀ w ∈ (ws.drop (k + 1)).take (j - (k + 1)), (rwS w).isSome = true) ∧ ∃ y, GrN (G2.set P ⟨stB5 a f y, 1, 0, false⟩) G y 2 (j - (k + 1)) (chsC (((ws.drop (k + 1)).take (j - (k + 1))).map rwT))) (by omega) hkw ?_ ?_ h11
    ⟨h0, h4, h5, h6, h7, h8, h9, by simp, .slice none 0 0, .inr ⟨rfl, by omega, by simp [chsC, rowsC], .refl⟩⟩
  · rintro j e G hj1 hj hjj e4' h11 ⟨h0, h4, h5, h6, h7, h8, h9, hall, y, hg⟩
    have p := hg.pre
    have gW : G[wb]? = some ⟨ws.map str, 1, 0, false⟩ := by rw [p.get (by rw [hls]; exact hbl)]; exact hbs _
    have gP : G[P]? = some ⟨stB5 a f y, 1, 0, false⟩ := by rw [p.get (by rw [hls]; exact hPl)]; exact hPs _
    have pG : Pre H G := (pHs _).trans p
    have ha : idxAV 1 (slc wb 0 0 ws.length ws.length) (.int .i64 (j : Int)) = some (adr wb j 0) := by rw [idxAV_slc, at_nat hj]; simp
    have hr := ws_rd gW hj
    obtain ⟨w, hwd⟩ : ∃ w, w = ws.getD j [] := ⟨_, rfl⟩
    rw [← hwd] at hr
    have hwl : w.length ≤ 1000000 := by rw [hwd]; exact hw _
    have hji : k + 1 + (j - (k + 1)) = j := by omega
    have hget : (ws.drop (k + 1))[j - (k + 1)]? = some w := by
      rw [List.getElem?_drop, hji, hwd, List.getD_eq_getElem?_getD, List.getElem?_eq_getElem hj]; rfl
    have htk : (ws.drop (k + 1)).take (j + 1 - (k + 1)) = (ws.drop (k + 1)).take (j - (k + 1)) ++ [w] := by
      rw [show j + 1 - (k + 1) = j - (k + 1) + 1 by omega, List.take_add_one, hget]; rfl
    have hmem : w ∈ ws.drop (k + 1) := List.mem_iff_getElem?.2 ⟨_, hget⟩
    have c1 := call481 (pu := true) (c := 58) (H := G) hwl
    obtain ⟨ps, hps⟩ : ∃ ps, ps = spl 58 [] w := ⟨_, rfl⟩
    rw [← hps] at c1
    obtain ⟨G1, hG1⟩ : ∃ G1, G1 = G ++ [(⟨ps.map str, 1, 0, false⟩ : Blk)] := ⟨_, rfl⟩
    rw [← hG1] at c1
    have c1 : Call tab true 481 [str w, .int .u8 58] G = some (slc G.length 0 0 ps.length ps.length, G1) := c1
    have p1 : Pre G G1 := by rw [hG1]; exact Pre.one
    have gp : G1[G.length]? = some ⟨ps.map str, 1, 0, false⟩ := by rw [hG1]; exact get_last
    have hf0 : fill ([] : List Value) [] = some [] := rfl
    have hrw : rwS w = if ps.length = 2 then (match numL (ps.getD 0 []), numL (ps.getD 1 []) with
        | some y, some b => if y < 12 ∧ b ≤ 4095 then some ((y : Int), (b : Int)) else none
        | _, _ => none) else none := by rw [hps]; rfl
    have hB : ∀ e', (rwS w).isSome = false → e' 2 = slc G1.length 0 0 0 0 → e' 3 = .int .i64 5 → KK tab H.length false .ret fs e' (G1 ++ [⟨[], 5, 0, false⟩]) Q := fun e' h q2 q3 =>
      hbad e' _ ⟨w, hmem, h⟩ ⟨G1, pG.trans p1, rfl, q2, q3⟩
    by_cases hl2 : ps.length = 2
    · rw [if_pos hl2] at hrw
      have hl2i : ((ps.length : Int) == 2) = true := by simp; omega
      have at0 : at' 2 (.int .i64 0) = some 0 := rfl
      have at1 : at' 2 (.int .i64 1) = some 1 := rfl
      have r0 := ws_rd gp (i := 0) (by omega)
      have r1 := ws_rd gp (i := 1) (by omega)
      obtain ⟨p0, hp0⟩ : ∃ p0, p0 = ps.getD 0 [] := ⟨_, rfl⟩
      obtain ⟨p1', hp1⟩ : ∃ p1, p1 = ps.getD 1 [] := ⟨_, rfl⟩
      rw [← hp0] at r0 hrw
      rw [← hp1] at r1 hrw
      have c2 := call484 (pu := true) (l := p0) (H := G1)
      have c3 := call484 (pu := true) (l := p1') (H := G1)
      cases n0 : numL p0 with
      | none =>
        have hno : (rwS w).isSome = false := by rw [hrw, n0]; rfl
        rw [n0] at c2
        cases n1 : numL p1' with
        | none =>
          rw [n1] at c3
          simp [b289_1, h11, h8, hjj, ha, hr, c1, hl2, at0, at1, r0, r1, c2, c3, skip, hf0, rep]
          exact hB _ hno rfl rfl
        | some n =>
          rw [n1] at c3
          simp [b289_1, h11, h8, hjj, ha, hr, c1, hl2, at0, at1, r0, r1, c2, c3, skip, hf0, rep]
          exact hB _ hno rfl rfl
      | some m =>
        rw [n0] at c2
        cases n1 : numL p1' with
        | none =>
          have hno : (rwS w).isSome = false := by rw [hrw, n0, n1]; rfl
          rw [n1] at c3
          simp [b289_1, h11, h8, hjj, ha, hr, c1, hl2, at0, at1, r0, r1, c2, c3, skip, hf0, rep]
          exact hB _ hno rfl rfl
        | some n =>
          rw [n1] at c3
          by_cases hrg : m < 12 ∧ n ≤ 4095
          · have hs : rwS w = some ((m : Int), (n : Int)) := by rw [hrw, n0, n1]; dsimp only; rw [if_pos hrg]
            have g1 : ¬ (12 : Int) ≤ m := by omega
            have g2 : ¬ (4095 : Int) < n := by omega
            have wm : IntKind.wrap .i8 (m : Int) = m := wrap8 (by omega)
            have wn : IntKind.wrap .u16 (n : Int) = n := wrapu16 (by omega)
            have hg1 := hg.app p1
            have gP1 : G1[P]? = some ⟨stB5 a f y, 1, 0, false⟩ := by rw [p1.get (List.getElem?_eq_some_iff.1 gP).1]; exact gP
            have r4 : rd G1 P 4 0 1 = some [y] := by rw [rd_at gP1 rfl (by simp [stB5])]; rfl
            have hf1 : fill [.int .i8 0, .int .u16 0] [(0, 1, .int .i8 (m : Int)), (1, 1, .int .u16 (n : Int))] = some (chC ((m : Int), (n : Int))) := rfl
            have hf2 := fill_one (z := [.int .i8 0, .int .u16 0]) (v := agg (chC ((m : Int), (n : Int)))) (esz := 2) rfl rfl
            obtain ⟨y', G', hpush, hg'⟩ := hg1.push0 (n0 := H.length) (c := chC ((m : Int), (n : Int))) (bytes := 4) (by rw [hls]; have := pH.len; omega) rfl (by have : roomMax = 140737488355328 := rfl; omega) (wb := false)
            have p' := hg'.pre
            have gP' : G'[P]? = some ⟨stB5 a f y, 1, 0, false⟩ := by rw [p'.get (by rw [hls]; exact hPl)]; exact hPs _
            have hwr := wr_at (n0 := H.length) (wb := false) (off := 4) (vs := [y']) (ver := 0) gP' rfl rfl (by simp [may]; omega) (by simp [stB5])
            have hsp : splice (stB5 a f y) 4 [y'] = stB5 a f y' := rfl
            simp only [hsp] at hwr
            have hgs := hg'.setBase (P := P) (k := ⟨stB5 a f y', 1, 0, false⟩) (by rw [hls]; exact hPl)
            rw [List.set_set, chsC_push] at hgs
            have hcy : cellsOf y' = [y'] := by rcases hg' with ⟨_, _, rfl, _⟩ | ⟨rfl, _⟩ <;> rfl
            have hrd : rwT w = ((m : Int), (n : Int)) := by unfold rwT; rw [hs]; rfl
            have hmap : ((ws.drop (k + 1)).take (j - (k + 1))).map rwT ++ [((m : Int), (n : Int))] = ((ws.drop (k + 1)).take (j + 1 - (k + 1))).map rwT := by rw [htk, List.map_append, List.map_cons, hrd]; rfl
            rw [hmap, show j - (k + 1) + 1 = j + 1 - (k + 1) by omega] at hgs
            have hall2 : ∀ w' ∈ (ws.drop (k + 1)).take (j + 1 - (k + 1)), (rwS w').isSome = true := fun w' hw' => by
              rw [htk] at hw'
              rcases List.mem_append.1 hw' with h | h
              · exact hall w' h
              · rw [List.mem_singleton] at h; rw [h, hs]; rfl
            have hkeep : ∃ y, GrN (G2.set P ⟨stB5 a f y, 1, 0, false⟩) (G'.set P ⟨stB5 a f y', 1, 0, false⟩) y 2 (j + 1 - (k + 1)) (chsC (((ws.drop (k + 1)).take (j + 1 - (k + 1))).map rwT)) := ⟨y', hgs⟩
            rw [show j + 1 - (k + 1) = j - k by omega] at hall2 hkeep
            simp [b289_1, h11, h8, hjj, ha, hr, c1, hl2, at0, at1, r0, r1, c2, c3, g1, g2, h9, r4, wm, wn, hf1, hf2, hpush, hwr, wbOf, hcy, e4', -List.map_take, -List.map_drop]
            exact ⟨h0, h4, h5, h6, h7, hall2, hkeep⟩
          · have hno : (rwS w).isSome = false := by rw [hrw, n0, n1]; dsimp only; rw [if_neg hrg]; rfl
            by_cases hm : m < 12
            · have g1 : ¬ (12 : Int) ≤ m := by omega
              have g2 : (4095 : Int) < n := by omega
              simp [b289_1, h11, h8, hjj, ha, hr, c1, hl2, at0, at1, r0, r1, c2, c3, g1, g2, skip, hf0, rep]
              exact hB _ hno rfl rfl
            · have g1 : (12 : Int) ≤ m := by omega
              simp [b289_1, h11, h8, hjj, ha, hr, c1, hl2, at0, at1, r0, r1, c2, c3, g1, skip, hf0, rep]
              exact hB _ hno rfl rfl
    · have hno : (rwS w).isSome = false := by rw [hrw, if_neg hl2]; rfl
      have hl2i : ((ps.length : Int) == 2) = false := by simp; omega
      simp [b289_1, h11, h8, hjj, ha, hr, c1, hl2i, bne, hf0, rep]
      exact hB _ hno rfl rfl
  · rintro e G h11 ⟨h0, h4, h5, h6, h7, h8, h9, hall, y, hg⟩
    have hdl : (ws.drop (k + 1)).take (ws.length - (k + 1)) = ws.drop (k + 1) := List.take_of_length_le (by simp)
    rw [hdl] at hall hg
    simp [b289_1, h11, h8]
    exact hq _ _ y hall (by simp [h0]) (by simp [h4]) (by simp [h5]) (by simp [h6]) (by simp [h7]) (by simp [h9]) hg
theorem bad_fin {H : Heap} {o : Option (List Sted)} {e' : Env} {G' : Heap} (h : Bad289 H e' G') (ho : o = none) : Q289 H o .ret e' G' := by
  obtain ⟨G0, p, h1, h2, h3⟩ := h
  obtain ⟨r, e1, R⟩ := fail289 p
  refine ⟨fun i h => Ex.noConfusion h, r, ?_, by rw [ho]; exact R⟩
  simp [resVs, resV, h1, h2, h3, e1]
theorem rwS_W {w : List UInt8} {m : Int × Int} (h : rwS w = some m) : 0 ≤ m.1 ∧ m.1 ≤ 11 ∧ 0 ≤ m.2 ∧ m.2 ≤ 4095 := by
  unfold rwS at h
  split at h
  · split at h
    · split at h
      · cases h; dsimp only; omega
      · cases h
    · cases h
  · cases h
theorem spP_W {ws : List (List UInt8)} {s : Sted} (h : spP ws = some s) : StW s ∧ s.rows.length ≤ 12 ∧ 0 ≤ s.a ∧ s.a ≤ 2 := by
  unfold spP at h
  split at h
  · rename_i hok
    cases h
    have hac := hdN_cases (ws.getD 0 [])
    have h0 := hok.1.1
    have hnv : ∀ i, -12 ≤ nmV ws (spK ws) i ∧ nmV ws (spK ws) i ≤ 40 := fun i => nmV_i8 hok.1.2.2
    have g0 := hnv 0
    have g1 := hnv 1
    have g2 := hnv 2
    refine ⟨⟨⟨by simp only [spS]; omega, by simp only [spS]; omega⟩, ⟨by simp only [spS]; omega, by simp only [spS]; omega⟩, ⟨by simp only [spS]; omega, by simp only [spS]; omega⟩, ⟨by simp only [spS]; omega, by simp only [spS]; omega⟩, fun m hm => ?_⟩, ?_, by simp only [spS]; omega, by simp only [spS]; omega⟩
    · simp only [spS] at hm
      obtain ⟨w, hw, rfl⟩ := List.mem_map.1 hm
      have hs := hok.2.2 w hw
      unfold rwT
      cases hr : rwS w with
      | none => rw [hr] at hs; cases hs
      | some m =>
        have := rwS_W hr
        simp only [Option.getD_some]
        exact ⟨⟨by omega, by omega⟩, by omega, by omega⟩
    · have := hok.2.1
      simp [spS]; omega
  · cases h
theorem call289 {pu : Bool} {H : Heap} {t : List UInt8} (hl : t.length ≤ 1000000) : ∃ r, Call tab pu 289 [str t] H = some r ∧ RsR2 H r (spR t) := by
  refine Call_ex t289 (.inr rfl) rfl ?_
  show WK tab H.length false k289 [] (ini [str t]) H (Q289 H (spR t))
  obtain ⟨ls, hls⟩ : ∃ ls, ls = spl 10 [] t := ⟨_, rfl⟩
  have hcnt : ls.length ≤ 1000001 := by
    have := spl_count 10 t []
    rw [hls]; omega
  have hpos : 1 ≤ ls.length := by
    rcases Nat.eq_zero_or_pos ls.length with h | h
    · exact absurd (List.length_eq_zero_iff.1 h) (by rw [hls]; exact spl_ne 10 t [])
    · exact h
  have hw : ∀ i, (ls.getD i []).length ≤ 1000000 := fun i => by rw [hls]; have := spl_lens 10 t i; omega
  have c1 := call481 (pu := true) (c := 10) (H := H) hl
  rw [← hls] at c1
  obtain ⟨H1, hH1⟩ : ∃ H1, H1 = H ++ [(⟨ls.map str, 1, 0, false⟩ : Blk)] := ⟨_, rfl⟩
  rw [← hH1] at c1
  have c1 : Call tab true 481 [str t, .int .u8 10] H = some (slc H.length 0 0 ls.length ls.length, H1) := c1
  have p1 : Pre H H1 := by rw [hH1]; exact Pre.one
  have l1 : H1.length = H.length + 1 := by rw [hH1]; simp
  have gL1 : H1[H.length]? = some ⟨ls.map str, 1, 0, false⟩ := by rw [hH1]; exact get_last
  have w1 : IntKind.wrap .i64 ((ls.length : Int) - 1) = ((ls.length - 1 : Nat) : Int) := by rw [wrap64 (by omega)]; omega
  have ha : idxAV 1 (slc H.length 0 0 ls.length ls.length) (.int .i64 ((ls.length - 1 : Nat) : Int)) = some (adr H.length (ls.length - 1) 0) := by rw [idxAV_slc, at_nat (by omega)]; simp
  have hr := ws_rd gL1 (i := ls.length - 1) (by omega)
  have hf0 : fill ([] : List Value) [] = some [] := rfl
  have hrl : rdL t = ls.take (ls.length - 1) := by rw [rdL, ← hls, List.dropLast_eq_take]
  have hsp : spR t = if ls.getD (ls.length - 1) [] = [] ∧ ls.length - 1 ≤ 40 ∧ (∀ l ∈ rdL t, (lnQ l).isSome = true) ∧ okSts ((rdL t).map lnE) = true then some ((rdL t).map lnE) else none := by rw [hls]; rfl
  obtain ⟨z, hz⟩ : ∃ z, z = ls.getD (ls.length - 1) [] := ⟨_, rfl⟩
  rw [← hz] at hr hsp
  obtain ⟨n, hn⟩ : ∃ n, n = ls.length - 1 := ⟨_, rfl⟩
  rw [← hn] at ha hr w1 hsp hrl
  have hbadN : ∀ {e' : Env} {G : Heap} , spR t = none → Pre H G → e' 2 = slc G.length 0 0 0 0 → e' 3 = .int .i64 5 → Q289 H (spR t) .ret e' (G ++ [⟨[], 5, 0, false⟩]) := fun hno p h2 h3 => bad_fin ⟨_, p, rfl, h2, h3⟩ hno
  by_cases hz0 : z = []
  · by_cases h40 : n ≤ 40
    · have hc40 : decide ((40 : Int) < (n : Int)) = false := decide_eq_false (by omega)
      obtain ⟨H2, hH2⟩ : ∃ H2, H2 = H1 ++ [(⟨[], 5, 0, false⟩ : Blk)] := ⟨_, rfl⟩
      have p2 : Pre H1 H2 := by rw [hH2]; exact Pre.one
      have hD0 : StD H.length H2 H1.length 0 [] := by rw [hH2]; exact StD.new p1.len
      have gL2 : H2[H.length]? = some ⟨ls.map str, 1, 0, false⟩ := by rw [p2.get (by omega)]; exact gL1
      simp [k289, c1, w1, ha, hr, hz0, hc40, hf0, rep, ← hH2, l1]
      refine WP_count 7 n _ rfl (fun i e G => e 5 = .int .i64 (n : Int) ∧ e 4 = slc H.length 0 0 ls.length ls.length ∧ ∃ ver, e 6 = slc (H.length + 1) 0 ver i i ∧ Pre H G ∧
        StD H.length G (H.length + 1) ver ((ls.take i).map lnE) ∧ G[H.length]? = some ⟨ls.map str, 1, 0, false⟩ ∧ ∀ l ∈ ls.take i, (lnQ l).isSome = true) (by omega) ?_ ?_ (by simp)
        ⟨by simp, by simp, 0, by simp, p1.trans p2, by rw [l1] at hD0; simpa using hD0, gL2, by simp⟩
      · rintro i e G _ hi hii e4' h7 ⟨h5, h4, ver, h6, pG, hS, gL, hall⟩
        have ha : idxAV 1 (slc H.length 0 0 ls.length ls.length) (.int .i64 (i : Int)) = some (adr H.length i 0) := by rw [idxAV_slc, at_nat (by omega)]; simp
        have hr := ws_rd gL (i := i) (by omega)
        obtain ⟨w, hwd⟩ : ∃ w, w = ls.getD i [] := ⟨_, rfl⟩
        rw [← hwd] at hr
        have hwl : w.length ≤ 1000000 := by rw [hwd]; exact hw _
        have htk : ls.take (i + 1) = ls.take i ++ [w] := by rw [take_at' (by omega : i < ls.length), hwd]
        have hlen : ((ls.take i).map lnE).length = i := by simp; omega
        have hmem : w ∈ rdL t := by
          rw [hrl, hwd]
          have : (ls.take n)[i]? = some (ls.getD i []) := by
            rw [List.getElem?_take, if_pos (by omega), List.getD_eq_getElem?_getD, List.getElem?_eq_getElem (by omega)]; rfl
          exact List.mem_of_getElem? this
        obtain ⟨ws, hws⟩ : ∃ ws, ws = spl 32 [] w := ⟨_, rfl⟩
        have hwcnt : ws.length ≤ 1000001 := by
          have := spl_count 32 w []
          rw [hws]; omega
        have hwpos : 1 ≤ ws.length := by
          rcases Nat.eq_zero_or_pos ws.length with h | h
          · exact absurd (List.length_eq_zero_iff.1 h) (by rw [hws]; exact spl_ne 32 w [])
          · exact h
        have hww : ∀ i, (ws.getD i []).length ≤ 1000000 := fun i => by rw [hws]; have := spl_lens 32 w i; omega
        have hlnQ : lnQ w = spP ws := by rw [hws]; rfl
        have hnoW : ¬ spOk ws → spR t = none := fun h => by
          rw [hsp, if_neg]
          intro hc
          have := hc.2.2.1 w hmem
          rw [hlnQ, spP, if_neg h] at this
          cases this
        have c2 := call481 (pu := true) (c := 32) (H := G) hwl
        rw [← hws] at c2
        obtain ⟨G1, hG1⟩ : ∃ G1, G1 = G ++ [(⟨ws.map str, 1, 0, false⟩ : Blk)] := ⟨_, rfl⟩
        rw [← hG1] at c2
        have c2 : Call tab true 481 [str w, .int .u8 32] G = some (slc G.length 0 0 ws.length ws.length, G1) := c2
        have q1 : Pre G G1 := by rw [hG1]; exact Pre.one
        have m1 : G1.length = G.length + 1 := by rw [hG1]; simp
        have gW1 : G1[G.length]? = some ⟨ws.map str, 1, 0, false⟩ := by rw [hG1]; exact get_last
        obtain ⟨G2, hG2⟩ : ∃ G2, G2 = G1 ++ [(⟨stB5 0 (fun _ => 0) (.slice none 0 0), 1, 0, false⟩ : Blk)] := ⟨_, rfl⟩
        have q2 : Pre G1 G2 := by rw [hG2]; exact Pre.one
        have m2 : G2.length = G.length + 2 := by rw [hG2]; simp [m1]
        have gW2 : G2[G.length]? = some ⟨ws.map str, 1, 0, false⟩ := by rw [q2.get (by omega)]; exact gW1
        have gP2 : G2[G.length + 1]? = some ⟨stB5 0 (fun _ => 0) (.slice none 0 0), 1, 0, false⟩ := by rw [hG2, ← m1]; exact get_last
        have lG := pG.len
        obtain ⟨r, c3, R3⟩ := call483 (G := G2) (P := G.length + 1) (b := G.length) (ws := ws) hwpos gW2 (by omega) hwcnt hww gP2
        have hsf : G2.set (G.length + 1) ⟨stB5 0 (fun _ => 0) (.slice none 0 0), 1, 0, false⟩ = G2 := set_self gP2
        have pHG2 : Pre H G2 := pG.trans (q1.trans q2)
        have pset : ∀ c : Blk, Pre H (G2.set (G.length + 1) c) := fun c => pHG2.set (Nat.le_succ_of_le lG)
        have hels : ∀ (v : Value) (c : Blk), elder H.length false G2 (v, G2.set (G.length + 1) c) = some (v, G2.set (G.length + 1) c) := fun v c => elder_same (by
          rw [(pset c).take, pHG2.take])
        have hag : cellsOf (agg (stB5 0 (fun _ => 0) (.slice none 0 0))) = stB5 0 (fun _ => 0) (.slice none 0 0) := by simp [cellsOf, agg]
        have hwr := wr_at (n0 := H.length) (wb := false) (off := 0) (vs := stB5 0 (fun _ => 0) (.slice none 0 0)) (ver := 0) gP2 rfl rfl (by simp [may]; omega) (by simp [stB5])
        have hf5 : fill [.int .i8 0, .int .i8 0, .int .i8 0, .int .i8 0, .slice none 0 0] [] = some [.int .i8 0, .int .i8 0, .int .i8 0, .int .i8 0, .slice none 0 0] := rfl
        have hsp0 : splice (stB5 0 (fun _ => 0) (.slice none 0 0)) 0 (stB5 0 (fun _ => 0) (.slice none 0 0)) = stB5 0 (fun _ => 0) (.slice none 0 0) := rfl
        rw [hsp0, hsf] at hwr
        by_cases hok : hdOk ws
        · unfold P483 at R3
          rw [if_pos hok] at R3
          subst R3
          have hke : nmK (hdN (ws.getD 0 [])) = spK ws := rfl
          rw [hke] at c3
          obtain ⟨k, hk⟩ : ∃ k, k = spK ws := ⟨_, rfl⟩
          obtain ⟨a, haD⟩ : ∃ a, a = hdN (ws.getD 0 []) := ⟨_, rfl⟩
          obtain ⟨f, hf⟩ : ∃ f, f = nmV ws k := ⟨_, rfl⟩
          have hk3 : k ≤ 3 := by rw [hk]; unfold spK nmK; split; · omega
                                 split <;> omega
          have hkw : k + 1 ≤ ws.length := by rw [hk]; exact hok.2.1
          rw [← hk, ← haD, ← hf] at c3
          have hz1 : ((((k + 1 : Nat) : Int)) == 0) = false := by simp; omega
          have w12 : IntKind.wrap .i64 (((k + 1 : Nat) : Int) + 12) = ((k + 13 : Nat) : Int) := by rw [wrap64 (by omega)]; omega
          by_cases h12 : ws.length ≤ k + 13
          · have hg12 : ¬ k + 13 < ws.length := by omega
            have lG2 : H.length ≤ G.length + 1 := Nat.le_succ_of_le lG
            simp only [stB5] at hwr hG2
            simp [b289_2, h7, h5, h4, hii, ha, hr, c2, m1, hf5, ← hG2, hwr, wbOf, c3, hels, hf0, rep, hz1, w12, hg12, -Int.natCast_add]
            refine inner289 (H := H) (G2 := G2) (P := G.length + 1) (wb := G.length) (k := k) (ws := ws) (a := a) (f := f) pHG2 lG2 (by omega) gW2 (by omega) hww hwcnt hkw rfl rfl rfl rfl rfl rfl rfl rfl ?_ ?_
            · intro e' G' ⟨w', hw', hs'⟩ hB
              have hno := hnoW fun h => by
                have := h.2.2 w' (by rw [← hk]; exact hw')
                rw [hs'] at this; cases this
              simp
              exact bad_fin hB hno
            · intro e' G' y hall' g0 g4 g5 g6 g7 g9 hg
              simp at g5 g4 g6 g7 g9
              have p' := hg.pre
              have hPset : ∀ c : Blk, (G2.set (G.length + 1) c)[G.length + 1]? = some c := fun c => by rw [List.getElem?_set_self (by omega)]
              have gP' : G'[G.length + 1]? = some ⟨stB5 a f y, 1, 0, false⟩ := by rw [p'.get (by simp; omega)]; exact hPset _
              have r5 : rd G' (G.length + 1) 0 0 5 = some (stB5 a f y) := by rw [rd_at gP' rfl (by simp [stB5])]; rfl
              have hokS : spOk ws := ⟨hok, by rw [← hk]; omega, by rw [← hk]; exact hall'⟩
              obtain ⟨s, hs⟩ : ∃ s, s = spS ws := ⟨_, rfl⟩
              have hlW : lnE w = s := by unfold lnE; rw [hlnQ, spP, if_pos hokS, hs]; rfl
              have hsrows : s.rows = (ws.drop (k + 1)).map rwT := by rw [hs, hk]; rfl
              have hcS : stB5 a f y = stC s y := by rw [hs, haD, hf, hk]; rfl
              have pB : Pre G (G2.set (G.length + 1) ⟨stB5 a f y, 1, 0, false⟩) := (q1.trans q2).set (Nat.le_succ _)
              have hy : GrN (G2.set (G.length + 1) ⟨stB5 a f y, 1, 0, false⟩) G' y 2 s.rows.length (chsC s.rows) := by
                rw [hsrows, List.length_map, List.length_drop]; exact hg
              obtain ⟨G3, hpush, hS3, hkeep, hpre⟩ := (hS.pre pB).push p' hy (pset _).len (by rw [hlen]; have : roomMax = 140737488355328 := rfl; omega) (wb := false)
              rw [hlen, ← hcS] at hpush
              have gL2 : G'[H.length]? = some ⟨ls.map str, 1, 0, false⟩ := by
                rw [(pB.trans p').get (List.getElem?_eq_some_iff.1 gL).1]; exact gL
              have hS4 : StD H.length G3 (H.length + 1) (ver + 1) ((ls.take (i + 1)).map lnE) := by
                rw [htk, List.map_append, List.map_cons, hlW]; exact hS3
              have hall4 : ∀ l ∈ ls.take (i + 1), (lnQ l).isSome = true := fun l hl => by
                rw [htk] at hl
                rcases List.mem_append.1 hl with h | h
                · exact hall l h
                · rw [List.mem_singleton] at h; subst h; rw [hlnQ, spP, if_pos hokS]; rfl
              have hf2 := fill_one (z := [.int .i8 0, .int .i8 0, .int .i8 0, .int .i8 0, .slice none 0 0]) (v := agg (stB5 a f y)) (esz := 5) rfl rfl
              have hcs : cellsOf (agg (stB5 a f y)) = stB5 a f y := by simp [cellsOf, agg, stB5]
              rw [hcs] at hf2
              simp [g9, g6, g7, h6, h7, r5, hf2, hpush, wbOf, e4']
              exact ⟨g5.trans h5, g4.trans h4, ver + 1, rfl, hpre H ((pset _).trans p') (by omega), by simpa using hS4, hkeep _ _ (by omega) gL2, hall4⟩
          · have hg12 : k + 13 < ws.length := by omega
            have hno := hnoW fun h => by have := h.2.1; rw [← hk] at this; omega
            simp only [stB5] at hwr hG2
            simp [b289_2, h7, h5, h4, hii, ha, hr, c2, m1, hf5, ← hG2, hwr, wbOf, c3, hels, hf0, rep, hz1, w12, hg12, -Int.natCast_add]
            exact hbadN hno (pset _) (by show slc _ _ _ _ _ = _; simp) rfl
        · unfold P483 at R3
          rw [if_neg hok] at R3
          obtain ⟨cells, rfl⟩ := R3
          have hno := hnoW fun h => hok h.1
          simp only [stB5] at hwr hG2
          simp [b289_2, h7, h5, h4, hii, ha, hr, c2, m1, hf5, ← hG2, hwr, wbOf, c3, hels, skip, hf0, rep]
          exact hbadN hno (pset _) (by show slc _ _ _ _ _ = _; simp) rfl
      · rintro e G _ h7 ⟨h5, h4, ver, h6, pG, hS, gL, hall⟩
        rw [← hrl] at hS hall
        obtain ⟨l, hldef⟩ : ∃ l, l = (rdL t).map lnE := ⟨_, rfl⟩
        have hlen : l.length = n := by rw [hldef, hrl]; simp; omega
        rw [← hldef] at hS hsp
        have hsts := hS.sts
        rw [hlen] at hsts
        have hW : StsW l := by
          refine ⟨fun s hs => ?_, by omega, fun s hs => ?_⟩ <;>
          · rw [hldef] at hs
            obtain ⟨w, hw', rfl⟩ := List.mem_map.1 hs
            have hsome := hall w hw'
            unfold lnE lnQ
            unfold lnQ at hsome
            cases hp : spP (spl 32 [] w) with
            | none => rw [hp] at hsome; cases hsome
            | some s =>
              obtain ⟨g1, g2, _⟩ := spP_W hp
              first
              | exact g1
              | (show s.rows.length ≤ 1000000
                 omega)
        have c386 := call386 (pu := true) hsts hW
        cases hk : okSts l with
        | false =>
          rw [hk] at c386
          have hno : spR t = none := by rw [hsp, if_neg]; intro hc; rw [hk] at hc; cases hc.2.2.2
          simp [b289_2, h7, h5, h6, c386, hf0, rep]
          exact hbadN hno pG rfl rfl
        | true =>
          rw [hk] at c386
          have hyes : spR t = some l := by rw [hsp, if_pos ⟨hz0, h40, hall, hk⟩]
          obtain ⟨b', ver', G', e1, hS', hP'⟩ := hS.fin pG (rest := [.int .i64 0]) rfl
          rw [hlen] at e1
          have hR : RsR2 H (tup [slc b' 0 ver' n n, .int .i64 0], G') (some l) := ⟨_, G', rfl, .inr ⟨b', ver', by rw [hlen], hS'⟩, hP'⟩
          simp [b289_2, h7, h5, h6, c386, Q289, e1, hyes]
          exact hR
    · have hno : spR t = none := by rw [hsp, if_neg]; intro hc; exact h40 hc.2.1
      have hc40 : decide ((40 : Int) < (n : Int)) = true := decide_eq_true (by omega)
      simp [k289, c1, w1, ha, hr, hz0, hc40, hf0, rep]
      exact hbadN hno p1 rfl rfl
  · have hno : spR t = none := by rw [hsp, if_neg]; intro hc; exact hz0 hc.1
    simp [k289, c1, w1, ha, hr, hz0, hf0, rep, skip]
    exact hbadN hno p1 rfl rfl
theorem tail_ne {c : UInt8} {L : List (List UInt8)} (h : L ≠ []) : Lib.joinTail [c] L = c :: Lib.join L [c] := by
  cases L with
  | nil => exact absurd rfl h
  | cons x r => rw [Lib.join_cons]; simp [Lib.joinTail]
theorem join_spl (c : UInt8) : ∀ (l cur : List UInt8), Lib.join (spl c cur l) [c] = cur ++ l
  | [], cur => by rw [spl, Lib.join_cons]; simp [Lib.joinTail]
  | x :: r, cur => by
    rw [spl]
    split
    · rename_i h
      rw [Lib.join_cons, tail_ne (spl_ne c r []), join_spl c r []]
      simp [h]
    · rw [join_spl c r (cur ++ [x])]; simp
theorem cat_flat {t : Nat → List UInt8} : ∀ n, catT t n = ((List.range n).map fun i => t i ++ [10]).flatten
  | 0 => rfl
  | n + 1 => by rw [catT, cat_flat n, List.range_succ]; simp
theorem stepsTx_flat {l : List Sted} : stepsTx l = (l.map fun s => stepTx s ++ [10]).flatten := by
  rw [stepsTx, cat_flat]
  congr 1
  apply List.ext_getElem?
  intro i
  by_cases hi : i < l.length
  · simp [at0, hi]
  · rw [List.getElem?_eq_none (by simp; omega), List.getElem?_eq_none (by simp; omega)]
theorem join_last : ∀ D : List (List UInt8), Lib.join (D ++ [[]]) [10] = (D.map fun w => w ++ [10]).flatten
  | [] => by rw [List.nil_append, Lib.join_cons]; simp [Lib.joinTail]
  | x :: D => by
    rw [List.cons_append, Lib.join_cons, tail_ne (by simp), join_last D]; simp
theorem text_lines {t : List UInt8} (h : (spl 10 [] t).getD ((spl 10 [] t).length - 1) [] = []) : t = ((rdL t).map fun w => w ++ [10]).flatten := by
  have h1 := join_spl 10 t []
  have hne := spl_ne 10 t []
  obtain ⟨D, hD⟩ : ∃ D, D = spl 10 [] t := ⟨_, rfl⟩
  have hr : rdL t = D.dropLast := by rw [hD]; rfl
  rw [← hD] at h h1 hne
  have h2 : D = D.dropLast ++ [[]] := by
    have := (List.dropLast_concat_getLast hne).symm
    rw [List.getLast_eq_getElem] at this
    rw [List.getD_eq_getElem?_getD, List.getElem?_eq_getElem (by have := List.length_pos_iff.2 hne; omega)] at h
    simp only [Option.getD_some] at h
    rw [h] at this
    exact this
  rw [hr, ← join_last, ← h2, h1]; rfl
theorem rwS_row {w : List UInt8} {m : Int × Int} (h : rwS w = some m) : rowW m = w := by
  unfold rwS at h
  split at h
  · rename_i h2
    have h1 := join_spl 58 w []
    generalize spl 58 [] w = L at h h2 h1
    match L, h2 with
    | [p, q], _ =>
      simp only [List.getD_cons_zero, List.getD_cons_succ] at h
      split at h
      · rename_i y b hy hb
        split at h
        · cases h
          obtain ⟨e1, _⟩ := numL_iff.1 hy
          obtain ⟨e2, _⟩ := numL_iff.1 hb
          unfold rowW
          rw [itoa_nat, itoa_nat, ← e1, ← e2]
          rw [Lib.join_cons] at h1
          simpa [Lib.joinTail] using h1
        · cases h
      · cases h
  · cases h
theorem rwS_W2 {m : Int × Int} (h : 0 ≤ m.1 ∧ m.1 ≤ 11 ∧ 1 ≤ m.2 ∧ m.2 ≤ 4095) : rwS (rowW m) = some m := by
  obtain ⟨a, b⟩ := m
  dsimp only at h
  obtain ⟨y, rfl⟩ := Int.eq_ofNat_of_zero_le h.1
  obtain ⟨z, rfl⟩ := Int.eq_ofNat_of_zero_le (show 0 ≤ b by omega)
  have hs : spl 58 [] (rowW ((y : Int), (z : Int))) = [Lib.decDigits y, Lib.decDigits z] := by
    have := spl_join 58 (l := [Lib.itoa (y : Int), Lib.itoa (z : Int)]) (by simp) (by
      intro w hw
      simp at hw
      rcases hw with rfl | rfl <;> exact (itoa_sep _).2.2)
    rw [Lib.join_cons] at this
    rw [← itoa_nat, ← itoa_nat, ← this]
    congr 1
    simp [rowW, Lib.joinTail]
  have n1 : numL (Lib.decDigits y) = some y := numL_iff.2 ⟨rfl, dec_len (by omega)⟩
  have n2 : numL (Lib.decDigits z) = some z := numL_iff.2 ⟨rfl, dec_len (by omega)⟩
  unfold rwS
  rw [hs, if_pos (show [Lib.decDigits y, Lib.decDigits z].length = 2 from rfl)]
  simp only [List.getD_cons_zero, List.getD_cons_succ, n1, n2]
  rw [if_pos (by omega)]
/-- A line that the spec reads is the step's line. -/
theorem spP_words {ws : List (List UInt8)} {s : Sted} (h : spP ws = some s) : ws = wordsS s := by
  unfold spP at h
  split at h
  · rename_i hok
    cases h
    obtain ⟨⟨h0, hk, hn⟩, _, hr⟩ := hok
    have hwd : wrd (hdN (ws.getD 0 [])).toNat = ws.getD 0 [] := by
      rcases hdN_spec (ws.getD 0 []) with ⟨e, _⟩ | ⟨a, ha, e, e2, _⟩
      · omega
      · rw [e, ← e2]; simp
    have hrows : ((ws.drop (spK ws + 1)).map rwT).map rowW = ws.drop (spK ws + 1) := by
      rw [List.map_map]
      refine map_id_of fun w hw => ?_
      have := hr w hw
      show rowW ((rwS w).getD (0, 0)) = w
      cases e : rwS w with
      | none => rw [e] at this; cases this
      | some m => exact rwS_row e
    have hnum : ∀ i, i < spK ws → Lib.itoa (nmV ws (spK ws) i) = ws.getD (i + 1) [] := fun i hi => by
      have := hn i hi
      unfold nmV
      rw [if_pos hi]
      cases e : nmAt ws i with
      | none => rw [e] at this; cases this
      | some v => exact ((rdIn_iff (by omega) (by omega)).1 e).1.symm
    have hK : spK ws = nmK (hdN (ws.getD 0 [])) := rfl
    rw [wordsS]
    show ws = wrd (hdN (ws.getD 0 [])).toNat :: (numW (spS ws) ++ ((ws.drop (spK ws + 1)).map rwT).map rowW)
    rw [hrows, hwd]
    have ha := hdN_cases (ws.getD 0 [])
    have hsa : (spS ws).a = hdN (ws.getD 0 []) := rfl
    rw [← hK] at hk
    rcases (show hdN (ws.getD 0 []) = 0 ∨ hdN (ws.getD 0 []) = 1 ∨ hdN (ws.getD 0 []) = 2 by omega) with e | e | e
    · have hk0 : spK ws = 0 := by rw [hK, e]; rfl
      unfold numW
      rw [hsa, if_pos e, hk0]
      rw [hk0] at hk
      match ws, hk with
      | x :: r, _ => rfl
    · have hk0 : spK ws = 1 := by rw [hK, e]; rfl
      have n0 := hnum 0 (by omega)
      unfold numW
      rw [hsa, if_neg (by omega), if_pos e]
      show _ = _ :: ([Lib.itoa (nmV ws (spK ws) 0)] ++ _)
      rw [n0, hk0]
      rw [hk0] at hk
      match ws, hk with
      | x :: y :: r, _ => rfl
    · have hk0 : spK ws = 3 := by rw [hK, e]; rfl
      have n0 := hnum 0 (by omega)
      have n1 := hnum 1 (by omega)
      have n2 := hnum 2 (by omega)
      unfold numW
      rw [hsa, if_neg (by omega), if_neg (by omega)]
      show _ = _ :: ([Lib.itoa (nmV ws (spK ws) 0), Lib.itoa (nmV ws (spK ws) 1), Lib.itoa (nmV ws (spK ws) 2)] ++ _)
      rw [n0, n1, n2, hk0]
      rw [hk0] at hk
      match ws, hk with
      | x :: y :: z :: u :: r, _ => rfl
  · cases h
theorem lnQ_tx {w : List UInt8} {s : Sted} (h : lnQ w = some s) (ha : 0 ≤ s.a ∧ s.a ≤ 2) : stepTx s = w := by
  have h1 := join_spl 32 w []
  rw [spP_words h] at h1
  rw [stepTx_join ha, h1]; rfl
theorem lnQ_of {s : Sted} (h : LnS s) (hr : s.rows.length ≤ 12) : lnQ (stepTx s) = some s := by
  have hi := implP_tx h
  unfold lnP at hi
  unfold lnQ
  rw [spl_step h.a] at hi ⊢
  have hd : hdN ((wordsS s).getD 0 []) = s.a := hdN_wrd h.a
  have hk := numW_len (s := s)
  have hdrop : (wordsS s).drop (nmK s.a + 1) = s.rows.map rowW := by
    rw [wordsS, List.drop_succ_cons, ← hk, List.drop_left]
  have hK : spK (wordsS s) = nmK s.a := by unfold spK; rw [hd]
  unfold implP at hi
  split at hi
  · cases hi
  · split at hi
    · rename_i h0 hok
      have hi := Option.some.inj hi
      rw [hd] at hok hi
      have hOk : spOk (wordsS s) := by
        refine ⟨⟨by rw [hd]; exact h.a.1, by rw [hd]; exact hok.1, by rw [hd]; exact hok.2.1⟩, ?_, ?_⟩
        · rw [hK, wordsS, List.length_cons, List.length_append, hk, List.length_map]; omega
        · rw [hK, hdrop]
          intro w hw
          obtain ⟨m, hm, rfl⟩ := List.mem_map.1 hw
          rw [rwS_W2 (h.r m hm)]; rfl
      unfold spP
      rw [if_pos hOk]
      congr 1
      refine Eq.trans ?_ hi
      unfold spS ipS
      rw [hd, hK, hdrop]
      congr 1
      rw [List.map_map, List.map_map]
      refine List.map_congr_left fun m hm => ?_
      show (rwS (rowW m)).getD (0, 0) = (rwI (rowW m)).getD (0, 0)
      rw [rwS_W2 (h.r m hm), rwI_W (h.r m hm)]
    · cases hi
theorem spR_tx {t : List UInt8} {l : List Sted} (h : spR t = some l) : stepsTx l = t ∧ okSts l = true := by
  unfold spR at h
  split at h
  · rename_i hc
    obtain ⟨h1, h2, h3, h4⟩ := hc
    cases h
    refine ⟨?_, h4⟩
    rw [stepsTx_flat, List.map_map]
    have ht := text_lines h1
    have : (rdL t).map ((fun s => stepTx s ++ [10]) ∘ lnE) = (rdL t).map fun w => w ++ [10] := by
      refine List.map_congr_left fun w hw => ?_
      have hs := h3 w hw
      show stepTx ((lnQ w).getD default) ++ [10] = w ++ [10]
      cases e : lnQ w with
      | none => rw [e] at hs; cases hs
      | some s =>
        have hsa := (spP_W (show spP (spl 32 [] w) = some s from e)).2.2
        rw [Option.getD_some, lnQ_tx e hsa]
    rw [this]; exact ht.symm
  · cases h
theorem spR_of {l : List Sted} (h : okSts l = true) : spR (stepsTx l) = some l := by
  have hn := okSts_len h
  have ha : ∀ i, i < l.length → 0 ≤ (at0 l i).a ∧ (at0 l i).a ≤ 2 := fun i hi => okSt_a (okSts_get h hi)
  have hln : ∀ s ∈ l, lnQ (stepTx s) = some s := fun s hs => by
    obtain ⟨i, hi, rfl⟩ := mem_at0 hs
    exact lnQ_of (okSt_ln (okSts_get h hi) (by omega)) (okSt_rows2 (okSts_get h hi)).1
  have hrd := spl_steps ha
  have hmap : (rdL (stepsTx l)).map lnE = l := by
    rw [hrd, List.map_map]
    refine map_id_of fun s hs => ?_
    show (lnQ (stepTx s)).getD default = s
    rw [hln s hs]; rfl
  have hspl : spl 10 [] (stepsTx l) = (List.range l.length).map (fun i => stepTx (at0 l i)) ++ [[]] := spl_cat fun i hi => stepTx_no (ha i hi)
  unfold spR
  rw [if_pos, hmap]
  refine ⟨?_, ?_, fun w hw => ?_, by rw [hmap]; exact h⟩
  · rw [hspl]; simp
  · rw [hspl]; simp; omega
  · rw [hrd] at hw
    obtain ⟨s, hs, rfl⟩ := List.mem_map.1 hw
    rw [hln s hs]; rfl
theorem imR_inv {t : List UInt8} {l : List Sted} (h : imR t = some l) : stepsTx l = t ∧ okSts l = true := by
  unfold imR at h
  split at h
  · rename_i hc
    cases h
    exact ⟨hc.2.2, hc.2.1⟩
  · cases h
theorem spR_im {t : List UInt8} : spR t = imR t := by
  cases h : spR t with
  | some l =>
    obtain ⟨rfl, h2⟩ := spR_tx h
    exact (imR_tx h2).symm
  | none =>
    cases h' : imR t with
    | none => rfl
    | some l =>
      obtain ⟨rfl, h2⟩ := imR_inv h'
      rw [spR_of h2] at h; cases h
/-- What both programs answer. -/
def rdsL (t : List UInt8) : List Sted := (imR t).getD []
def rdsC (t : List UInt8) : Int := if (imR t).isSome = true then 0 else 5
theorem rdsL_ok {t : List UInt8} : okSts (rdsL t) = true := by
  unfold rdsL
  cases h : imR t with
  | none => exact okSts_of (by simp) fun i hi => by simp at hi
  | some l => exact (imR_inv h).2
theorem call289r {pu : Bool} {H : Heap} {t : List UInt8} (hl : t.length ≤ 1000000) : ∃ x G, Call tab pu 289 [str t] H = some (tup [x, .int .i64 (rdsC t)], G) ∧ StX H.length G x (rdsL t) ∧ Pre H G := by
  obtain ⟨r, h, R⟩ := call289 (pu := pu) (H := H) hl
  rw [spR_im] at R
  unfold rdsC rdsL
  cases e : imR t with
  | none =>
    rw [e] at R
    obtain ⟨x, G, rfl, R⟩ := R
    exact ⟨x, G, h, R⟩
  | some l =>
    rw [e] at R
    obtain ⟨x, G, rfl, R⟩ := R
    exact ⟨x, G, h, R⟩
theorem call290r {pu : Bool} {H : Heap} {t : List UInt8} (hd : Wd H) (hl : t.length ≤ 1000000) : ∃ x G, Call tab2 pu 290 [str t] H = some (tup [x, .int .i64 (rdsC t)], G) ∧ StX H.length G x (rdsL t) ∧ Pre H G := by
  obtain ⟨r, h, R⟩ := call290 (pu := pu) hd hl
  unfold rdsC rdsL
  cases e : imR t with
  | none =>
    rw [e] at R
    have R : r = (tup [.slice none 0 0, .int .i64 5], H) := R
    subst R
    exact ⟨_, _, h, .inl ⟨rfl, rfl⟩, .refl⟩
  | some l =>
    rw [e] at R
    obtain ⟨x, G, rfl, R⟩ := R
    exact ⟨x, G, h, R⟩
theorem call59 {H : Heap} {t : List UInt8} (hd : Wd H) : ∃ H', Call tab2 false 59 [str t] H = some (.bool true, H') := by
  refine ⟨H, Call_wp u59 (.inl rfl) rfl ?_⟩
  by_cases hbig : t.length ≤ 1000000
  · have h1 : ¬ (1000000 : Int) < t.length := by omega
    have hok := rdsL_ok (t := t)
    obtain ⟨L, hL⟩ : ∃ L, L = rdsL t := ⟨_, rfl⟩
    obtain ⟨c, hc⟩ : ∃ c, c = rdsC t := ⟨_, rfl⟩
    have hn := okSts_len hok
    have hr : ∀ s ∈ rdsL t, s.rows.length ≤ 12 := fun s hs => by
      obtain ⟨i, hi, rfl⟩ := mem_at0 hs
      exact (okSt_rows2 (okSts_get hok hi)).1
    obtain ⟨rs, G1, q1, X1, p1⟩ := call289r (pu := true) (H := H) hbig
    obtain ⟨ri, G2, q2, X2, p2⟩ := call290r (pu := true) (hd.pre p1) hbig
    rw [← hL] at hn hr X1 X2
    rw [← hc] at q1 q2
    have hn6 : L.length ≤ 1000000 := by omega
    have hr6 : ∀ s ∈ L, s.rows.length ≤ 1000000 := fun s h => by have := hr s h; omega
    have hr5 : ∀ s ∈ L, s.rows.length ≤ 100000 := fun s h => by have := hr s h; omega
    have P2 := p1.trans p2
    have e1 := up (call213 (pu := true) X2.sts (X1.sts.pre p2) hn6 hr6)
    obtain ⟨G3, n1, n2, n3, n4⟩ := markX X2 (by omega) hr5 p2.len
    have hG1 := p1.len
    have P3 : Pre H G3 := pre_of_get (by rw [n2]; exact P2.len) fun j hj => by rw [n3 j (by omega), P2.get hj]
    have p13 : Pre G1 G3 := pre_of_get (by rw [n2]; exact p2.len) fun j hj => by rw [n3 j hj, p2.get hj]
    have n5 : (Call tab2 false 181 [ri, .int .i64 101] G2).bind (elder H.length false G2) = some (.int .i64 (mkT L), G3) := by rw [up n1]; exact elder_pre P2 P3
    have d1 := up (heldX (pu := true) n4 (by omega) hr5)
    obtain ⟨r4, G4, q4, X4, p4⟩ := call290r (pu := true) (hd.pre P3) hbig
    rw [← hL] at X4
    rw [← hc] at q4
    have e4 := up (call213 (pu := true) X4.sts (X1.sts.pre (p13.trans p4)) hn6 hr6)
    have d2 := up (heldX (pu := true) (n4.pre p4) (by omega) hr5)
    have hneg : ¬ mkT L < 0 := by unfold mkT mkP; omega
    simp [c59, k59, h1, wbOf, up q1, q2, e1, n5, d1, q4, e4, d2, hneg, skip, (P3.trans p4).take]
  · have h1 : (1000000 : Int) < t.length := by omega
    simp [c59, k59, h1]
end Fb
