/- What each function computes. -/
import Derived.Test.YtkkncjfgnielgaaUse0
set_option linter.unusedVariables false
set_option linter.unusedSimpArgs false
namespace Fb
open Go
theorem call119 {b : List (List Int)} (hw : BkW b) (hn : b.length ≤ 1000000) : RsF 119 12 b.length (bkC b) 12 (ghR b).length (bkC (ghR b)) (ghC b) := by
  intro H x h
  have hc := call318 (pu := true) h hw (by omega)
  have hr : okB b = true → ghR b = ghL b (b.length - 1) := fun hk => by rw [ghR, if_pos hk]
  refine ⟨slc H.length 0 0 (ghR b).length (ghR b).length, H ++ [⟨bkC (ghR b), 12, 0, false⟩], some H.length, Call_wp t119 (.inr rfl) rfl ?_, Pre.one, own_new ghR_cells⟩
  cases hk : okB b with
  | false =>
    have hfin := (Gr.new (H := H) (esz := 12) .refl).fin2 (c := 1) (by intro v hv; simp at hv)
    simp [c119, k119, hc, hk, fill, rep, hfin, ghC, ghR, bkC, rowsC]
  | true =>
    have hr := hr hk
    have hcode : ghC b = 0 := by rw [ghC, if_pos hk]
    simp [c119, k119, hc, hk, fill, rep]
    by_cases h0 : b.length = 0
    · have hlen : lenV x = some (.int .i64 0) := by rw [SlR.lenV h, h0]; rfl
      refine WK_loop (fun i e G => e 0 = x ∧ e 5 = .int .i64 1 ∧ ∃ g, e 4 = g ∧ Gr H G g 12 0 []) 0 ?_ (Nat.zero_le _) ⟨by simp, by simp, by simp; exact Gr.new .refl⟩
      rintro i e G _ hi ⟨h0', h5, g, h4, hg⟩
      have hfin := hg.fin2 (c := 0) (by intro v hv; simp at hv)
      have hnil : ghR b = [] := by rw [hr, h0]; rfl
      simp [b119_1, h5, h0', hlen, h4, hfin, hnil, hcode, bkC, rowsC]
    · refine WP_from 5 1 b.length _ rfl (fun i e G => e 0 = x ∧ ∃ g, e 4 = g ∧ Gr H G g 12 (i - 1) (bkC (ghL b (i - 1)))) (by omega) (by omega) ?_ ?_ (by simp) (by simp; exact Gr.new .refl)
      · rintro i e G hi1 hi hii e5 h5 ⟨h0', g, h4, hg⟩
        obtain ⟨q, off, ver, ha, hr1⟩ := Bk.get (h.pre hg.pre) hw (i := i - 1) (by omega)
        obtain ⟨q', off', ver', ha', hr2⟩ := Bk.get (h.pre hg.pre) hw (i := i) hi
        have l1 := (hw.fr (i := i - 1) (by omega)).len
        have l2 := (hw.fr (i := i) hi).len
        have c1 : IntKind.wrap .i64 ((i : Int) - 1) = ((i - 1 : Nat) : Int) := by rw [wrap64 (by omega)]; omega
        have hml : (mixF lessI (fr b (i - 1)) (fr b i)).length = 12 := mixF_length
        obtain ⟨g', G', hpush, hg'⟩ := hg.push (c := cs .u16 (mixF lessI (fr b (i - 1)) (fr b i))) (bytes := 24) (by simp [hml]) (room24 (by omega)) (wb := false)
        have hsucc := ghL_succ (b := b) (k := i - 1)
        rw [show i - 1 + 1 = i by omega] at hsucc hg'
        rw [← hsucc] at hg'
        simp [b119_1, h5, h0', h4, hii, h.lenV, c1, ha, ha', call349 l1 l2 hr1 hr2, zs_cs, fillF hml, hpush, wbOf, e5]
        exact hg'
      · rintro e G h5 ⟨h0', g, h4, hg⟩
        have hfin := hg.fin2 (c := 0) bkC_flat
        have hl : (ghL b (b.length - 1)).length = b.length - 1 := ghL_len
        simp [b119_1, h5, h0', h.lenV, h4, hfin, hr, hl, hcode]
theorem ghR_W {b : List (List Int)} : ∀ f ∈ ghR b, f.length = 12 := by
  intro f hf
  unfold ghR at hf; split at hf
  · exact ghL_W f hf
  · simp at hf
theorem eqBk {b : List (List Int)} (hw : ∀ f ∈ b, f.length = 12) (hn : b.length ≤ 1000000) : EqF 121 12 b.length (bkC b) :=
  eqS_EqF s121 (by omega) fun G i hi => by
    have : elem (bkC b) 12 i = cs .u16 (fr b i) := rows_elem (f := frC) (esz := 12) (fun f hf => by simp [frC, hw f hf]) hi
    rw [this]; exact call78 (hw _ (at0_mem hi))
theorem s16 : tab 16 = some (.fn (lbsC 103 105 107 119 120 122 121 122 123)) := t16
theorem call16 {H : Heap} {x : Value} {b : List (List Int)} (hs : Bk H x b) (hw : BkW b) (hn : b.length ≤ 9223372036854775807) : ∃ H', Call tab false 16 [x] H = some (.bool true, H') :=
  lbs_call s16 s103 hs hn (bkC_length hw) rfl (fun G h hb => call105 h hw hb) (fun G y z h1 h2 hb => call107 h1 h2 hw hb) (fun hb => call119 hw hb) (fun hb => call120 hw hb) (fun hb => eqBk ghR_W (ghR_len hb)) mark122 mark122 held123 ghR_len
end Fb
