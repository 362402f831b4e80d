/- Code: regions in sequence, branches, blocks, loops. -/
import Derived.Test.YtimijcjjmeemeaaSoundI
import Derived.LoopN
set_option linter.unusedVariables false
set_option linter.unusedSimpArgs false
namespace Fb
open Go

section
variable {P : Program} {inv : FuncId → Option Nat} {isPure : Nat → Bool} {h : Hint} {nt : Nat}
variable {cl : Cl} {n0 B0 : Nat} {wb : Bool} {C0 : Cx} {w0 : World}
theorem region_sound {Gl : Glb} (hmix : P.follows .mixedOrders = true) (hcl : ClOk P C0.ρ Gl cl) (hG : Prot Gl C0 w0) (hGB : ∀ B o, Gl B = some o → B < B0) (hel : ClEld cl) (hi : (∀ f i, inv f = some i → C0.ρ i = f) ∧ ∀ g, h.pin = some g → Gl.pin = some g) (hB : B0 ≤ w0.heap.size) (hnC : n0 ≤ C0.H.length) {id : Nat} {ops : Array Oper} {draw : Bool} {outs : List Nat} {ss : List Stm}
    (hc : compReg P inv isPure h nt ops draw = .reg outs ss) {C : Cx} {e e1 : Env} {H' : Heap} {a : Act} {w : World} (hrun : Fb.ops cl n0 wb ss e C.H = some (e1, H')) (hb : Bd h nt n0 B0 C0 w0 C e a w)
    {Q : Exit → Act → World → Prop} (hQ : ∀ C' a' w', C'.H = H' → Bd h nt n0 B0 C0 w0 C' (mask e e1 outs) a' w' → Q .normal a' w') : (Code.region id ops draw).wp P Q a w := by
  obtain ⟨E, Hs, hE0, hH0, hE1, hH1, htick⟩ := trace hrun
  rcases compReg_spec hc with ⟨s, hs, hbad, hg⟩ | ⟨am, xs, dep, ss0, rfl, hR, rfl, hlen, hsub, hseq, hdraw⟩
  · exfalso
    obtain ⟨p, hp⟩ := List.getElem?_of_mem hs
    rcases htick p s hp with ⟨_, _, v, hv, _⟩ | ⟨hw, _⟩
    · rw [hbad] at hv; cases hv
    · rw [hg] at hw; cases hw
  · have hT : Trace cl n0 wb xs E Hs := fun p i s hp => htick p s (by simp [hp])
    have hxl : (xs.map (·.2)).length = xs.length := by simp
    rw [hxl] at hE1 hH1
    have hn0 : n0 ≤ (Hs 0).length := by rw [hH0]; exact Nat.le_trans hnC hb.ext.len
    have h0 : ∀ s, h.keep.contains s = false → E 0 s = U := fun s hs => by rw [hE0]; exact hb.un s hs
    have hfin : ∀ D C a w, (∀ p, p < xs.length → D p) → Sim h nt am xs dep E Hs n0 B0 C0 w0 D C a w → Q .normal a w := fun D C' a' w' hD hS => by
      obtain ⟨g1, g2⟩ := sim_end hR hT h0 hsub hD hS
      rw [hE0, hE1] at g2
      exact hQ C' a' w' (g1.trans hH1) g2
    have hstart : ∀ w1 : World, w1.heap = w.heap → w1.os = w.os → w1.output = w.output → w1.tape = w.tape → ∃ C', Sim h nt am xs dep E Hs n0 B0 C0 w0 (fun _ => False) C' a w1 := fun w1 e1 e2 e3 e4 => by
      refine sim_start hel hR hT hn0 hnC hB (C := C) ?_ hH0.symm
      rw [hE0]
      obtain ⟨⟨p1, p2, p3, p4, p5, p6, p7⟩, b2, b3, b4, b5⟩ := hb
      refine ⟨⟨p1, fun p hp hh => ?_, p3, p4, p5, p6, p7⟩, b2, ⟨fun b B δ hs => ?_, b3.one⟩, ⟨b4.toLater, b4.len, b4.fresh, by rw [e1]; exact b4.hsz, b4.un, fun B hB hk => by rw [e1]; exact b4.keep B hB hk, ⟨e2.trans b4.os.1, e3.trans b4.os.2.1, e4.trans b4.os.2.2⟩, fun a ha => by rw [← b4.fz a ha]; unfold World.frozen?; rw [e1]⟩, b5⟩
      · obtain ⟨B, g1, ⟨cs, elem, k1, k2, k3⟩, g3, g4⟩ := p2 p hp hh
        exact ⟨B, g1, ⟨cs, elem, by rw [e1]; exact k1, k2, k3⟩, g3, g4⟩
      · rw [e1]; exact b3.blk b B δ hs
    cases hdr : draw with
    | false =>
      obtain ⟨hl, hid⟩ := hseq hdr
      obtain ⟨C', hS⟩ := hstart w rfl rfl rfl rfl
      refine wp_region ?_
      rw [← hl, List.range_eq_range']
      exact walk_seq hcl hG hGB hel hi hR hT h0 hn0 hB hnC hl hid hfin xs.length 0 C' a w (by omega) (sim_congr hS fun p _ => by simp)
    | true =>
      obtain ⟨hback, hcov, hdis, hbit⟩ := hdraw hdr
      obtain ⟨C', hS⟩ := hstart { w with drawn := w.drawn + 1 } rfl rfl rfl rfl
      refine wp_region_any hmix ?_
      have hrep : ∀ i, (Array.replicate ops.size false).getD i false = false := fun i => by
        rw [Array.getD_eq_getD_getElem?, Array.getElem?_replicate]; split <;> rfl
      refine walk_any hcl hG hGB hel hi hR hT h0 hn0 hB hnC hback hcov hdis hbit hfin ops.size _ C' a _ (by simp) ?_ (fun j o _ hj => by have hj : (Array.replicate ops.size false).getD j false = true := hj; rw [hrep] at hj; cases hj) (sim_congr hS fun p _ => ⟨fun h => h.elim, ?_⟩)
      · unfold left; rw [Array.toList_replicate]; exact Nat.le_trans List.countP_le_length (by simp)
      · rintro ⟨i, s, _, h2⟩
        rw [hrep] at h2; cases h2
def toExit : Ex → Exit
  | .normal => .normal
  | .exit i => .exit i
  | .ret => .ret
theorem code_sound {Gl : Glb} (hmix : P.follows .mixedOrders = true) (hcl : ClOk P C0.ρ Gl cl) (hG : Prot Gl C0 w0) (hGB : ∀ B o, Gl B = some o → B < B0) (hel : ClEld cl) (hi : (∀ f i, inv f = some i → C0.ρ i = f) ∧ ∀ g, h.pin = some g → Gl.pin = some g) (hB : B0 ≤ w0.heap.size) (hnC : n0 ≤ C0.H.length) {k : Nat} : ∀ {c : Code} {cd : Cd}, compCode P inv isPure h nt c = some cd →
    ∀ {C : Cx} {e e' : Env} {H' : Heap} {x : Ex} {a : Act} {w : World}, code cl n0 wb k cd e C.H = some (x, e', H') → Bd h nt n0 B0 C0 w0 C e a w →
    ∀ {Q : Exit → Act → World → Prop}, (∀ C' a' w', C'.H = H' → Bd h nt n0 B0 C0 w0 C' e' a' w' → Q (toExit x) a' w') → c.wp P Q a w := by
  intro c
  induction c with
  | skip =>
    intro cd hc C e e' H' x a w hr hb Q hQ
    cases hc; cases hr
    exact wp_skip (hQ C a w rfl hb)
  | ret =>
    intro cd hc C e e' H' x a w hr hb Q hQ
    cases hc; cases hr
    exact wp_ret (hQ C a w rfl hb)
  | exit i =>
    intro cd hc C e e' H' x a w hr hb Q hQ
    cases hc; cases hr
    exact wp_exit (hQ C a w rfl hb)
  | region id ops draw =>
    intro cd hc C e e' H' x a w hr hb Q hQ
    simp only [compCode, Option.some.injEq] at hc
    have : ∃ outs ss, compReg P inv isPure h nt ops draw = .reg outs ss := by
      unfold compReg badReg
      simp only
      split
      · exact ⟨_, _, rfl⟩
      · split <;> split <;> exact ⟨_, _, rfl⟩
    obtain ⟨outs, ss, hreg⟩ := this
    rw [hreg] at hc
    subst hc
    simp only [code] at hr
    split at hr
    · rename_i e1 H1 hops
      cases hr
      exact region_sound hmix hcl hG hGB hel hi hB hnC hreg hops hb hQ
    · cases hr
  | seq c1 c2 ih1 ih2 =>
    intro cd hc C e e' H' x a w hr hb Q hQ
    simp only [compCode, bind, Option.bind_eq_some_iff, pure, Option.some.injEq] at hc
    obtain ⟨d1, h1, d2, h2, rfl⟩ := hc
    simp only [code] at hr
    cases hx : code cl n0 wb k d1 e C.H with
    | none => rw [hx] at hr; cases hr
    | some r =>
      obtain ⟨y, e1, H1⟩ := r
      rw [hx] at hr
      refine wp_seq (ih1 h1 hx hb fun C' a' w' hH hb' => ?_)
      cases y with
      | normal => subst hH; exact ih2 h2 hr hb' hQ
      | exit i => cases hr; exact hQ C' a' w' hH hb'
      | ret => cases hr; exact hQ C' a' w' hH hb'
  | cond t c1 c2 ih1 ih2 =>
    intro cd hc C e e' H' x a w hr hb Q hQ
    simp only [compCode] at hc
    split at hc
    · rename_i t
      split at hc
      · rename_i hk
        simp only [bind, Option.bind_eq_some_iff, pure, Option.some.injEq] at hc
        obtain ⟨d1, h1, d2, h2, rfl⟩ := hc
        simp only [Bool.and_eq_true, Bool.not_eq_true'] at hk
        have hv := hb.st.plain t hk.1 rfl hk.2
        simp only [code] at hr
        split at hr
        · rename_i hbt
          rw [show e t = .bool true from hbt] at hv
          exact wp_cond_true hv.bool_inv (ih1 h1 hr hb hQ)
        · rename_i hbt
          rw [show e t = .bool false from hbt] at hv
          exact wp_cond_false hv.bool_inv (ih2 h2 hr hb hQ)
        · cases hr
      · cases hc
    · rename_i v
      simp only [bind, Option.bind_eq_some_iff, pure, Option.some.injEq] at hc
      obtain ⟨d1, h1, d2, h2, rfl⟩ := hc
      cases v with
      | true => exact wp_cond_true rfl (ih1 h1 hr hb hQ)
      | false => exact wp_cond_false rfl (ih2 h2 hr hb hQ)
    · cases hc
  | block id c ih =>
    intro cd hc C e e' H' x a w hr hb Q hQ
    simp only [compCode, bind, Option.bind_eq_some_iff, pure, Option.some.injEq] at hc
    obtain ⟨d, h1, rfl⟩ := hc
    simp only [code] at hr
    cases hx : code cl n0 wb k d e C.H with
    | none => rw [hx] at hr; cases hr
    | some r =>
      obtain ⟨y, e1, H1⟩ := r
      rw [hx] at hr
      refine wp_block (ih h1 hx hb fun C' a' w' hH hb' => ?_)
      cases y with
      | normal => cases hr; exact hQ C' a' w' hH hb'
      | ret => cases hr; exact hQ C' a' w' hH hb'
      | exit i =>
        simp only at hr
        simp only [toExit, Exit.inBlock]
        split at hr
        · rename_i hid
          cases hr
          rw [if_pos hid]; exact hQ C' a' w' hH hb'
        · rename_i hid
          cases hr
          rw [if_neg hid]; exact hQ C' a' w' hH hb'
  | loop c ih =>
    intro cd hc C e e' H' x a w hr hb Q hQ
    simp only [compCode, bind, Option.bind_eq_some_iff, pure, Option.some.injEq] at hc
    obtain ⟨d, h1, rfl⟩ := hc
    simp only [code] at hr
    have key : ∀ n C e a w, iter (code cl n0 wb k d) n e C.H = some (x, e', H') → Bd h nt n0 B0 C0 w0 C e a w → Code.rounds P c Q n a w := by
      intro n
      induction n with
      | zero => intro C e a w hr _; simp [iter] at hr
      | succ n ihn =>
        intro C e a w hr hb
        simp only [iter] at hr
        rw [rounds_succ]
        cases hx : code cl n0 wb k d e C.H with
        | none => rw [hx] at hr; cases hr
        | some r =>
          obtain ⟨y, e1, H1⟩ := r
          rw [hx] at hr
          refine ih h1 hx hb fun C' a' w' hH hb' => ?_
          cases y with
          | normal => subst hH; exact ihn C' e1 a' w' hr hb'
          | exit i => cases hr; exact hQ C' a' w' hH hb'
          | ret => cases hr; exact hQ C' a' w' hH hb'
    exact wp_loop_rounds k (key k C e a w hr hb)
  | _ => intro cd hc; cases hc
/- The heap, over code. -/
theorem ops_eld (hel : ClEld cl) : ∀ {ss : List Stm} {e e' : Env} {H H' : Heap}, n0 ≤ H.length → ops cl n0 wb ss e H = some (e', H') → Eld n0 wb H H'
  | [], e, e', H, H', _, hr => by cases hr; exact .refl
  | s :: r, e, e', H, H', hn, hr => by
    simp only [ops] at hr
    split at hr
    · split at hr
      · split at hr
        · rename_i v H1 hv
          split at hr
          · have h1 := ev1_eld hel hn hv
            exact h1.trans (ops_eld hel (Nat.le_trans hn h1.1) hr)
          · cases hr
        · cases hr
      · cases hr
    · exact ops_eld hel hn hr
theorem code_eld (hel : ClEld cl) {k : Nat} : ∀ {c : Cd} {e e' : Env} {H H' : Heap} {x : Ex}, n0 ≤ H.length → code cl n0 wb k c e H = some (x, e', H') → Eld n0 wb H H' := by
  intro c
  induction c with
  | skip => intro e e' H H' x hn hr; cases hr; exact .refl
  | ret => intro e e' H H' x hn hr; cases hr; exact .refl
  | exit i => intro e e' H H' x hn hr; cases hr; exact .refl
  | reg outs ss =>
    intro e e' H H' x hn hr
    simp only [code] at hr
    split at hr
    · cases hr; exact ops_eld hel hn ‹_›
    · cases hr
  | seq a b iha ihb =>
    intro e e' H H' x hn hr
    simp only [code] at hr
    cases hx : code cl n0 wb k a e H with
    | none => rw [hx] at hr; cases hr
    | some r =>
      obtain ⟨y, e1, H1⟩ := r
      rw [hx] at hr
      have h1 := iha hn hx
      cases y with
      | normal => exact h1.trans (ihb (Nat.le_trans hn h1.1) hr)
      | exit i => cases hr; exact h1
      | ret => cases hr; exact h1
  | cond c a b iha ihb =>
    intro e e' H H' x hn hr
    simp only [code] at hr
    split at hr
    · exact iha hn hr
    · exact ihb hn hr
    · cases hr
  | block id b ih =>
    intro e e' H H' x hn hr
    simp only [code] at hr
    cases hx : code cl n0 wb k b e H with
    | none => rw [hx] at hr; cases hr
    | some r =>
      obtain ⟨y, e1, H1⟩ := r
      rw [hx] at hr
      have h1 := ih hn hx
      cases y with
      | normal => cases hr; exact h1
      | ret => cases hr; exact h1
      | exit i => dsimp only at hr; split at hr <;> cases hr <;> exact h1
  | loop b ih =>
    intro e e' H H' x hn hr
    simp only [code] at hr
    have key : ∀ n e H, n0 ≤ H.length → iter (code cl n0 wb k b) n e H = some (x, e', H') → Eld n0 wb H H' := by
      intro n
      induction n with
      | zero => intro e H _ hr; simp [iter] at hr
      | succ n ihn =>
        intro e H hn hr
        simp only [iter] at hr
        cases hx : code cl n0 wb k b e H with
        | none => rw [hx] at hr; cases hr
        | some r =>
          obtain ⟨y, e1, H1⟩ := r
          rw [hx] at hr
          have h1 := ih hn hx
          cases y with
          | normal => exact h1.trans (ihn e1 H1 (Nat.le_trans hn h1.1) hr)
          | exit i => cases hr; exact h1
          | ret => cases hr; exact h1
    exact key k e H hn hr
end
end Fb
