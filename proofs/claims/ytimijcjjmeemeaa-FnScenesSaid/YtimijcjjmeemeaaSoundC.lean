/- Calls; and my language's own frames. -/
import Derived.Test.YtimijcjjmeemeaaSoundA
set_option linter.unusedVariables false
set_option linter.unusedSimpArgs false
namespace Fb
open Go

section
variable {P : Program} {inv : FuncId → Option Nat} {isPure : Nat → Bool} {h : Hint} {C : Cx} {l : Look} {e : Env} {a : Act} {w : World} {Gl : Glb}
/-- A function that a call enters. -/
def Callable (P : Program) (f : FuncId) : Prop := ∃ fn, P.funcs[f]? = some fn ∧ (fn.name == "runtime.NumGoroutine") = false ∧ fn.body.isNone = false
/-- What calls compute is what the model's calls compute. -/
def ClOk (P : Program) (ρ : Nat → FuncId) (Gl : Glb) (cl : Cl) : Prop := ∀ pu f xs H v H', cl pu f xs H = some (v, H') → Callable P (ρ f) ∧
  ∀ (C : Cx) (w : World) (args : List Value), C.H = H → C.ρ = ρ → WR C w → Prot Gl C w → VRs C xs args →
    Calls P (ρ f) args.toArray w fun en w' => ∃ v', en = .returned v' ∧ Acts C.H.length w.heap.size C w H' v v' w'
theorem Acts.weaken {n0 n1 B0 B1 : Nat} {H' : Heap} {v v' : Value} {w' : World} (hE : Acts n0 B0 C w H' v v' w') (hn : n1 ≤ n0) (hB : B1 ≤ B0) : Acts n1 B1 C w H' v v' w' :=
  let ⟨C', h1, h2, h3, h4⟩ := hE; ⟨C', h1, h2, h3.weaken hn hB, h4⟩
theorem run_callFunc {f : FuncId} (hf : Callable P f) {args : Array Value} : (callFunc f args).run P w = .ok (.enter f args) w := by
  obtain ⟨fn, h1, h2, h3⟩ := hf
  unfold callFunc
  simp only [Sem.run_bind, run_program, Result.andThen_ok, h1, h2, Bool.false_eq_true, if_false, h3, Sem.run_pure]
theorem call_ends {ρ : Nat → FuncId} {cl : Cl} (hcl : ClOk P ρ Gl cl) (hG : Prot Gl C w) (hρ : C.ρ = ρ) (hW : WR C w) {o : Oper} {pu : Bool} {f : Nat} {xs args : List Value} {v : Value} {H' : Heap} (hr : cl pu f xs C.H = some (v, H')) (hx : VRs C xs args)
    (hrun : Callable P (ρ f) → (execOp a.eval o).run P w = .ok (.enter (ρ f) args.toArray) w) {n1 B0 : Nat} (hn1 : n1 ≤ C.H.length) (hB0 : B0 ≤ w.heap.size) : Ends P o a w fun v' w' => Acts n1 B0 C w H' v v' w' := by
  obtain ⟨h1, h2⟩ := hcl _ _ _ _ _ _ hr
  exact .enter (hrun h1) (Calls.mono (h2 C w args rfl hρ hW hG hx) fun en w' ⟨v', he, hA⟩ => ⟨v', he, hA.weaken hn1 hB0⟩)
theorem call_sound {ρ : Nat → FuncId} {cl : Cl} (hcl : ClOk P ρ Gl cl) (hG : Prot Gl C w) (hρ : C.ρ = ρ) (hi : Inv inv h C) (hA : At C h l e a w) (hW : WR C w) {o : Oper} {c : Op1} (hc : comp1 P inv isPure h l o = some c) (hcc : c.calls = true) {n0 : Nat} {wb : Bool} {v : Value} {H' : Heap}
    (hv : ev1 cl n0 wb e C.H c = some (v, H')) {n1 B0 : Nat} (hn1 : n1 ≤ C.H.length) (hB0 : B0 ≤ w.heap.size) : Ends P o a w fun v' w' => Acts n1 B0 C w H' v v' w' := by
  obtain ⟨dst, op, ty, pos, after, guard⟩ := o
  have hsp := comp1_spec hc
  cases hsp with
  | other hx => cases c <;> first | cases hx; done | cases hcc
  | @call f i args ts xs hf hx =>
    have hxs := opds_sound hi hA hx
    have hif : ρ i = f := by rw [← hρ]; exact hi.1 f i hf
    have hr : ∃ pu, cl pu i (xs.map (·.ev e)) C.H = some (v, H') := by
      simp only [ev1] at hv
      split at hv
      · exact ⟨_, hv⟩
      · obtain ⟨r, hr, hv⟩ := Option.bind_eq_some_iff.1 hv
        unfold elder at hv
        split at hv
        · cases hv; exact ⟨_, hr⟩
        · split at hv
          · cases hv; exact ⟨_, hr⟩
          · cases hv
    obtain ⟨pu, hr⟩ := hr
    refine call_ends hcl hG hρ hW hr hxs (fun hcal => ?_) hn1 hB0
    simp only [execOp, resolve, Act.eval, Deferred.ofValue, Sem.run_bind, Sem.run_pure, Result.andThen_ok, invoke, Array.append_empty, Array.empty_append]
    rw [← hif, run_callFunc hcal]
    congr 2
    apply Array.ext'
    simp
  | @callv x x' args ts xs hx' hx =>
    have hxs := opds_sound hi hA hx
    have h1 := opd_sound hi hA hx'
    simp only [ev1] at hv
    split at hv
    · rename_i f a0 cs hp
      split at hv
      · rename_i hem
        rw [hp] at h1
        have hem : a0 = #[] := by simpa using hem
        subst hem
        obtain ⟨cs', hev, hcs⟩ : ∃ cs', a.eval x = .func (.func (C.ρ f)) #[] cs' ∧ VRs C cs.toList cs'.toList := by
          generalize a.eval x = z at h1
          cases h1 with
          | func hs hc => exact ⟨_, rfl, hs, fun i h1 h2 => hc i h1 h2⟩
        refine call_ends hcl hG hρ hW hv (hxs.append hcs) (fun hcal => ?_) hn1 hB0
        simp only [execOp, resolve, hev, Deferred.ofValue, Sem.run_bind, Sem.run_pure, Result.andThen_ok, invoke, Array.empty_append]
        rw [hρ, run_callFunc hcal]
        congr 2
        apply Array.ext'
        simp
      · cases hv
    · cases hv
  | _ => cases hcc
/-- Whatever acts. -/
theorem act_sound {ρ : Nat → FuncId} {cl : Cl} (hcl : ClOk P ρ Gl cl) (hG : Prot Gl C w) (hρ : C.ρ = ρ) (hi : Inv inv h C) (hA : At C h l e a w) (hW : WR C w) {o : Oper} {c : Op1} (hc : comp1 P inv isPure h l o = some c) (hm : c.meets = .acts) {n0 : Nat} {wb : Bool} {v : Value} {H' : Heap}
    (hv : ev1 cl n0 wb e C.H c = some (v, H')) {n1 B0 : Nat} (hn1 : n1 ≤ C.H.length) (hB0 : B0 ≤ w.heap.size) : Ends P o a w fun v' w' => Acts n1 B0 C w H' v v' w' := by
  cases c with
  | st n x y => exact store_sound hi hA hW hc hv n1 B0
  | cpy esz x y => exact copy_sound hi hA hW hc hv n1 B0
  | clr z x => exact clear_sound hi hA hW hc hv n1 B0
  | apm esz bytes z x y => exact apm_sound hi hA hW hc hv n1 B0 hn1 hB0
  | app esz bytes x y => exact append_sound hi hA hW hc hv n1 B0 hn1 hB0
  | call p f xs => exact call_sound hcl hG hρ hi hA hW hc rfl hv hn1 hB0
  | callv x xs => exact call_sound hcl hG hρ hi hA hW hc rfl hv hn1 hB0
  | _ => cases hm
end

/- My own language: what a step leaves alone. -/
/-- What lies below n0 is as it was, or, where it may be written, has at most something new that leads nowhere. -/
def Eld (n0 : Nat) (wb : Bool) (H H' : Heap) : Prop := H.length ≤ H'.length ∧ ∀ b, b < n0 → ∀ k, H[b]? = some k →
  ∃ k', H'[b]? = some k' ∧ k'.ro = k.ro ∧ k'.esz = k.esz ∧ (wb = false ∨ k.ro = true → k' = k) ∧ ∀ v ∈ k'.cells, v ∈ k.cells ∨ old0 0 v = true
theorem Eld.refl {n0 : Nat} {wb : Bool} {H : Heap} : Eld n0 wb H H := ⟨Nat.le_refl _, fun b _ k hk => ⟨k, hk, rfl, rfl, fun _ => rfl, fun v hv => .inl hv⟩⟩
theorem Eld.trans {n0 : Nat} {wb : Bool} {H H' H'' : Heap} (h : Eld n0 wb H H') (h' : Eld n0 wb H' H'') : Eld n0 wb H H'' := by
  refine ⟨Nat.le_trans h.1 h'.1, fun b hb k hk => ?_⟩
  obtain ⟨k1, hk1, r1, s1, e1, v1⟩ := h.2 b hb k hk
  obtain ⟨k2, hk2, r2, s2, e2, v2⟩ := h'.2 b hb k1 hk1
  refine ⟨k2, hk2, r2.trans r1, s2.trans s1, fun hh => ?_, fun v hv => ?_⟩
  · rw [e2 (hh.imp id fun hr => r1.trans hr), e1 hh]
  · rcases v2 v hv with h3 | h3
    · exact v1 v h3
    · exact .inr h3
theorem Eld.same {n0 : Nat} {wb : Bool} {H H' : Heap} (hl : H.length ≤ H'.length) (hs : ∀ b, b < n0 → b < H.length → H'[b]? = H[b]?) : Eld n0 wb H H' :=
  ⟨hl, fun b hb k hk => ⟨k, by rw [hs b hb (List.getElem?_eq_some_iff.1 hk).1]; exact hk, rfl, rfl, fun _ => rfl, fun v hv => .inl hv⟩⟩
theorem Eld.more {n0 : Nat} {wb : Bool} {H L : Heap} : Eld n0 wb H (H ++ L) := .same (by simp) fun b _ hb => List.getElem?_append_left hb
theorem mem_splice {cs vs : List Value} {o : Nat} {v : Value} (h : v ∈ splice cs o vs) : v ∈ cs ∨ v ∈ vs := by
  unfold splice at h
  rcases List.mem_append.1 h with h | h
  · rcases List.mem_append.1 h with h | h
    · exact .inl (List.mem_of_mem_take h)
    · exact .inr h
  · exact .inl (List.mem_of_mem_drop h)
theorem Eld.set {n0 : Nat} {wb : Bool} {H : Heap} {b : Nat} {k k' : Blk} (hk : H[b]? = some k) {vs : List Value} (hro : k.ro = false) (hr : k'.ro = k.ro) (hz : k'.esz = k.esz) (hv : ∀ v ∈ k'.cells, v ∈ k.cells ∨ v ∈ vs)
    (hm : may n0 wb b vs = true) : Eld n0 wb H (H.set b k') := by
  refine ⟨by simp, fun x hx kx hkx => ?_⟩
  by_cases hxb : x = b
  · subst hxb
    have e1 : k = kx := Option.some.inj (hk.symm.trans hkx)
    subst e1
    have hlt : ¬ n0 ≤ x := by omega
    simp only [may, hlt, decide_false, Bool.false_or, Bool.and_eq_true] at hm
    refine ⟨k', by rw [set_get hk, if_pos rfl], hr, hz, ?_, fun v h1 => (hv v h1).imp id fun h2 => List.all_eq_true.1 hm.2 v h2⟩
    rintro (h | h)
    · rw [hm.1] at h; cases h
    · rw [hro] at h; cases h
  · exact ⟨kx, by rw [set_get hk, if_neg hxb]; exact hkx, rfl, rfl, fun _ => rfl, fun v hv => .inl hv⟩
theorem wr_eld {n0 : Nat} {wb : Bool} {H H' : Heap} {b off ver : Nat} {vs : List Value} (hw : wr n0 wb H b off ver vs = some H') : Eld n0 wb H H' ∧ ∀ x, x ≠ b → H'[x]? = H[x]? := by
  have hw0 := hw
  unfold wr at hw
  split at hw
  · rename_i k hk
    split at hw
    · rename_i hc
      cases hw
      exact ⟨.set hk hc.2.1 rfl rfl (fun v hv => mem_splice hv) hc.2.2.1, fun x hx => by rw [set_get hk, if_neg hx]⟩
    · cases hw
  · cases hw
theorem append_eld {n0 : Nat} {wb : Bool} {esz bytes n : Nat} {H H' : Heap} {x v : Value} {cs : List Value} (hw : appendTo n0 wb esz bytes H x n cs = some (v, H')) :
    Eld n0 wb H H' ∧ ∀ b, b < H.length → some b ≠ blkOf x → H'[b]? = H[b]? := by
  unfold appendTo at hw
  split at hw
  · split at hw
    · cases hw; exact ⟨.refl, fun _ _ _ => rfl⟩
    · split at hw
      · cases hw; exact ⟨.more, fun b hb _ => List.getElem?_append_left hb⟩
      · cases hw
  · rename_i b off ver len cap
    split at hw
    · obtain ⟨H1, h1, hw⟩ := Option.map_eq_some_iff.1 hw
      cases hw
      obtain ⟨h2, h3⟩ := wr_eld h1
      exact ⟨h2, fun x _ hx => h3 x (fun e => hx (by rw [e]; rfl))⟩
    · split at hw
      · rename_i k hk
        split at hw
        · rename_i hc
          cases hw
          exact ⟨.set hk hc.2.1 rfl rfl (fun v hv => List.mem_append.1 hv) hc.2.2.1, fun x _ hx => by
            rw [set_get hk, if_neg (fun e => hx (by rw [e]; rfl))]⟩
        · cases hw
      · cases hw
  · cases hw
/-- What calls do to what was there. -/
def ClEld (cl : Cl) : Prop := ∀ pu f xs H v H', cl pu f xs H = some (v, H') → Eld H.length true H H' ∧ (pu = true → Eld H.length false H H')
theorem Eld.le {n0 n1 : Nat} {wb wb' : Bool} {H H' : Heap} (h : Eld n0 wb H H') (hn : n1 ≤ n0) (hw : wb' = false → wb = false) : Eld n1 wb' H H' :=
  ⟨h.1, fun b hb k hk => let ⟨k', h1, h2, h3, h4, h5⟩ := h.2 b (Nat.lt_of_lt_of_le hb hn) k hk; ⟨k', h1, h2, h3, fun hh => h4 (hh.imp hw id), h5⟩⟩
theorem Eld.get {n0 : Nat} {H H' : Heap} (h : Eld n0 false H H') {b : Nat} (hb : b < n0) (hl : b < H.length) : H'[b]? = H[b]? := by
  obtain ⟨k', h1, _, _, h4, _⟩ := h.2 b hb H[b] (List.getElem?_eq_getElem hl)
  rw [h1, h4 (.inl rfl), List.getElem?_eq_getElem hl]
theorem ev1_eld {cl : Cl} (hcl : ClEld cl) {n0 : Nat} {wb : Bool} {e : Env} {H H' : Heap} {o : Op1} {v : Value} (hn : n0 ≤ H.length) (hv : ev1 cl n0 wb e H o = some (v, H')) : Eld n0 wb H H' := by
  have hmap : ∀ {r : Option Value}, r.map (·, H) = some (v, H') → Eld n0 wb H H' := by
    intro r hr
    obtain ⟨_, _, hr⟩ := Option.map_eq_some_iff.1 hr
    cases hr; exact .refl
  cases o with
  | ld n g x =>
    rw [show ev1 cl n0 wb e H (.ld n g x) = _ from rfl] at hv
    simp only [ev1] at hv
    split at hv
    · obtain ⟨_, _, hv⟩ := Option.bind_eq_some_iff.1 hv; exact hmap hv
    · cases hv
  | slcA => exact hmap hv
  | slcP => exact hmap hv
  | b2s x =>
    simp only [ev1] at hv
    split at hv
    · cases hv; exact .refl
    · obtain ⟨_, _, hv⟩ := Option.bind_eq_some_iff.1 hv
      obtain ⟨_, _, hv⟩ := Option.map_eq_some_iff.1 hv
      cases hv; exact .refl
    · cases hv
  | st n x y =>
    simp only [ev1] at hv
    split at hv
    · split at hv
      · obtain ⟨_, h1, hv⟩ := Option.map_eq_some_iff.1 hv
        cases hv; exact (wr_eld h1).1
      · cases hv
    · cases hv
  | new => cases hv; exact .more
  | box n x =>
    simp only [ev1] at hv
    split at hv
    · cases hv; exact .more
    · cases hv
  | bldS =>
    simp only [ev1] at hv
    obtain ⟨_, _, hv⟩ := Option.map_eq_some_iff.1 hv
    cases hv; exact .more
  | mkS =>
    simp only [ev1] at hv
    split at hv
    · split at hv
      · cases hv; exact .more
      · cases hv
    · cases hv
  | app =>
    simp only [ev1] at hv
    obtain ⟨⟨n, cs⟩, _, hv⟩ := Option.bind_eq_some_iff.1 hv
    exact (append_eld hv).1
  | cpy =>
    simp only [ev1] at hv
    obtain ⟨⟨n, cs⟩, _, hv⟩ := Option.bind_eq_some_iff.1 hv
    split at hv
    · cases hv; exact .refl
    · obtain ⟨_, h1, hv⟩ := Option.map_eq_some_iff.1 hv
      cases hv; exact (wr_eld h1).1
    · cases hv
  | apm =>
    simp only [ev1] at hv
    split at hv
    · split at hv
      · cases hv; exact .more
      · cases hv
    · cases hv
  | clr =>
    simp only [ev1] at hv
    split at hv
    · cases hv; exact .refl
    · obtain ⟨_, h1, hv⟩ := Option.map_eq_some_iff.1 hv
      cases hv; exact (wr_eld h1).1
    · cases hv
  | call p f xs =>
    simp only [ev1] at hv
    split at hv
    · rename_i hp
      exact ((hcl _ _ _ _ _ _ hv).2 rfl).le hn (fun _ => rfl)
    · obtain ⟨r, hr, hv⟩ := Option.bind_eq_some_iff.1 hv
      have h1 := (hcl _ _ _ _ _ _ hr).1
      unfold elder at hv
      split at hv
      · rename_i hwb
        cases hv
        exact h1.le hn (fun h => by rw [hwb] at h; cases h)
      · split at hv
        · rename_i ht
          cases hv
          refine .same h1.1 fun b hb _ => ?_
          have := congrArg (fun l => l[b]?) ht
          simpa [List.getElem?_take, hb] using this
        · cases hv
  | callv x xs =>
    simp only [ev1] at hv
    split at hv
    · split at hv
      · exact ((hcl _ _ _ _ _ _ hv).2 rfl).le hn (fun _ => rfl)
      · cases hv
    · cases hv
  | _ => first | exact hmap hv | (cases hv; done) | (cases hv; exact .refl)
end Fb
