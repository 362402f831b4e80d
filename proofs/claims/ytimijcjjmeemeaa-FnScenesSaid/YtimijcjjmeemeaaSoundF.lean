/- Frames of my own language's operations: on which slots and blocks they lean. -/
import Derived.Test.YtimijcjjmeemeaaSoundT
set_option linter.unusedVariables false
set_option linter.unusedSimpArgs false
namespace Fb
open Go

section
variable {e e' : Env} {cl : Cl} {n0 : Nat} {wb : Bool} {H H' : Heap}
theorem ev_congr {x : Opd} (h : ∀ s ∈ x.rs, e s = e' s) : x.ev e = x.ev e' := by
  cases x with
  | t n => exact h n (by simp [Opd.rs])
  | _ => rfl
theorem evs_congr {xs : List Opd} (h : ∀ s ∈ rsOf xs, e s = e' s) : ∀ x ∈ xs, x.ev e = x.ev e' := fun x hx => ev_congr fun s hs => h s (List.mem_flatMap.2 ⟨x, hx, hs⟩)
theorem map_ev_congr {xs : List Opd} (h : ∀ s ∈ rsOf xs, e s = e' s) : xs.map (·.ev e) = xs.map (·.ev e') := List.map_congr_left (evs_congr h)
theorem opt_congr {x : Option Opd} (h : ∀ y ∈ x.toList, y.ev e = y.ev e') : x.map (·.ev e) = x.map (·.ev e') := by
  cases x with
  | none => rfl
  | some y => simp [h y (by simp)]
theorem parts_congr {ps : List (Nat × Nat × Opd)} (h : ∀ s ∈ rsOf (ps.map (·.2.2)), e s = e' s) : (ps.map fun q => (q.1, q.2.1, q.2.2.ev e)) = ps.map fun q => (q.1, q.2.1, q.2.2.ev e') :=
  List.map_congr_left fun q hq => by rw [evs_congr h q.2.2 (List.mem_map_of_mem hq)]
theorem offOf_congr {p : Nat} {b : Option Nat} (hp : e p = e' p) (hb : ∀ s ∈ b.toList, e s = e' s) : offOf e p b = offOf e' p b := by
  cases b with
  | none => simp only [offOf, hp]
  | some s => simp only [offOf, hb s (by simp)]
theorem ev1_congr {o : Op1} (h : ∀ s ∈ o.reads, e s = e' s) : ev1 cl n0 wb e H o = ev1 cl n0 wb e' H o := by
  cases o with
  | mov x | un _ x | conv _ x | ext x _ | fld _ _ _ x | len x | lens x | nil x | fldP _ x | slcP _ _ x | ld _ _ x | b2s x | box _ x | cap x | clr _ x =>
    have := ev_congr (x := x) (e := e) (e' := e') h
    simp only [ev1, nval, this]
  | pick c a b =>
    have hc := evs_congr (xs := [c, a, b]) h
    simp only [ev1, nval, hc c (by simp), hc a (by simp), hc b (by simp)]
  | bin _ x y | eq _ _ x y | idx _ _ _ x y | idxs x y | mn x y | mx x y | idxA _ x y | idxP _ _ x y | st _ x y | mkS _ _ _ x y | app _ _ x y | cpy _ x y | apm _ _ _ x y =>
    have hc := evs_congr (xs := [x, y]) h
    simp only [ev1, nval, hc x (by simp), hc y (by simp)]
  | mkf f xs | call _ f xs =>
    have hc := map_ev_congr (xs := xs) h
    simp only [ev1, nval, hc]
  | callv x xs =>
    have hc := evs_congr (xs := x :: xs) h
    have h2 : xs.map (·.ev e) = xs.map (·.ev e') := List.map_congr_left fun y hy => hc y (by simp [hy])
    simp only [ev1, hc x (by simp), h2]
  | slcs x lo hi =>
    have hc := evs_congr (xs := x :: lo.toList ++ hi.toList) h
    simp only [ev1, nval, hc x (by simp), opt_congr (x := lo) fun y hy => hc y (by simp only [List.mem_append, List.mem_cons, hy]; simp), opt_congr (x := hi) fun y hy => hc y (by simp only [List.mem_append, List.mem_cons, hy]; simp)]
  | slcA _ x lo hi m =>
    have hc := evs_congr (xs := x :: lo.toList ++ hi.toList ++ m.toList) h
    simp only [ev1, hc x (by simp), opt_congr (x := lo) fun y hy => hc y (by simp only [List.mem_append, List.mem_cons, hy]; simp), opt_congr (x := hi) fun y hy => hc y (by simp only [List.mem_append, List.mem_cons, hy]; simp),
      opt_congr (x := m) fun y hy => hc y (by simp only [List.mem_append, List.mem_cons, hy]; simp)]
  | agg z ps | bldS _ _ z ps =>
    have hc := parts_congr (ps := ps) h
    simp only [ev1, nval, hc]
  | zero | new | bad => rfl
  | adrI p b _ _ i =>
    have hb := offOf_congr (p := p) (b := b) (h p (by simp [Op1.reads])) (fun s hs => h s (by simp only [Op1.reads, List.mem_append, List.mem_cons, hs]; simp))
    have hi := ev_congr (x := i) fun s hs => h s (by simp only [Op1.reads, List.mem_append, List.mem_cons, hs]; simp)
    simp only [ev1, nval, hb, hi]
  | adrF p b _ =>
    have hb := offOf_congr (p := p) (b := b) (h p (by simp [Op1.reads])) (fun s hs => h s (by simp only [Op1.reads, List.mem_append, List.mem_cons, hs]; simp))
    simp only [ev1, nval, hb]
  | ldV p b _ _ =>
    have hp := h p (by simp [Op1.reads])
    have hb := offOf_congr (p := p) (b := b) hp (fun s hs => h s (by simp only [Op1.reads, List.mem_append, List.mem_cons, hs]; simp))
    simp only [ev1, nval, hb, hp]
  | stV p b _ x =>
    have hp := h p (by simp [Op1.reads])
    have hb := offOf_congr (p := p) (b := b) hp (fun s hs => h s (by simp only [Op1.reads, List.mem_append, List.mem_cons, hs]; simp))
    have hi := ev_congr (x := x) fun s hs => h s (by simp only [Op1.reads, List.mem_append, List.mem_cons, hs]; simp)
    simp only [ev1, nval, hb, hp, hi]
theorem mods_congr {o : Op1} (h : ∀ s ∈ o.reads, e s = e' s) : mods e o = mods e' o := by
  cases o with
  | st _ x y | app _ _ x y | cpy _ x y =>
    have hc := evs_congr (xs := [x, y]) h
    simp only [mods, hc x (by simp)]
  | clr _ x =>
    have := ev_congr (x := x) (e := e) (e' := e') h
    simp only [mods, this]
  | _ => rfl
/-- A read leans on one block. -/
theorem read_frame {o : Op1} (hm : o.meets = .reads) (hb : ∀ x b, o.from = some x → blkOf (x.ev e) = some b → b < H.length → H'[b]? = H[b]?) {v : Value} {H1 : Heap} (hv : ev1 cl n0 wb e H o = some (v, H1)) :
    H1 = H ∧ ev1 cl n0 wb e H' o = some (v, H') := by
  cases o with
  | ld n g x =>
    simp only [ev1] at hv ⊢
    split at hv
    · rename_i b off ver hp
      obtain ⟨cs, h1, hv⟩ := Option.bind_eq_some_iff.1 hv
      have := hb x b rfl (by rw [hp]; rfl) (by obtain ⟨k, hk, _⟩ := rd_inv h1; exact (List.getElem?_eq_some_iff.1 hk).1)
      obtain ⟨v', h2, hv⟩ := Option.map_eq_some_iff.1 hv
      cases hv
      refine ⟨rfl, ?_⟩
      have h1' : rd H' b off ver n = some cs := by unfold rd at h1 ⊢; rw [this]; exact h1
      rw [h1']
      simp only [Option.bind_some, h2, Option.map_some]
    · cases hv
  | slcA esz x lo hi mx =>
    simp only [ev1] at hv ⊢
    obtain ⟨v', h2, hv⟩ := Option.map_eq_some_iff.1 hv
    cases hv
    refine ⟨rfl, ?_⟩
    have : slcAV H' esz (x.ev e) (lo.map (·.ev e)) (hi.map (·.ev e)) (mx.map (·.ev e)) = some v := by
      unfold slcAV at h2 ⊢
      split at h2
      · rename_i b off ver n cap hp
        have hlt : b < H.length := by
          rcases Nat.lt_or_ge b H.length with h | h
          · exact h
          · rw [List.getElem?_eq_none h] at h2; cases h2
        rw [hb x b rfl (by rw [hp]; rfl) hlt]; exact h2
      · exact h2
      · cases h2
    rw [this]; rfl
  | slcP n esz x =>
    simp only [ev1] at hv ⊢
    obtain ⟨v', h2, hv⟩ := Option.map_eq_some_iff.1 hv
    cases hv
    refine ⟨rfl, ?_⟩
    have : slcPV H' n esz (x.ev e) = some v := by
      unfold slcPV at h2 ⊢
      split at h2
      · rename_i b off ver hp
        have hlt : b < H.length := by
          rcases Nat.lt_or_ge b H.length with h | h
          · exact h
          · rw [List.getElem?_eq_none h] at h2; cases h2
        rw [hb x b rfl (by rw [hp]; rfl) hlt]; exact h2
      · cases h2
    rw [this]; rfl
  | b2s x =>
    simp only [ev1] at hv ⊢
    split at hv
    · cases hv; exact ⟨rfl, rfl⟩
    · rename_i b off ver n cap hp
      obtain ⟨cs, h1, hv⟩ := Option.bind_eq_some_iff.1 hv
      have := hb x b rfl (by rw [hp]; rfl) (by obtain ⟨k, hk, _⟩ := rd_inv h1; exact (List.getElem?_eq_some_iff.1 hk).1)
      obtain ⟨bs, h2, hv⟩ := Option.map_eq_some_iff.1 hv
      cases hv
      refine ⟨rfl, ?_⟩
      have h1' : rd H' b off ver n = some cs := by unfold rd at h1 ⊢; rw [this]; exact h1
      rw [h1']
      simp only [Option.bind_some, h2, Option.map_some]
    · cases hv
  | _ => cases hm
/-- Blocks that an act does not name stay as they are. -/
theorem act_frame (hcl : ClEld cl) {o : Op1} (hm : o.meets = .acts) {v : Value} (hv : ev1 cl n0 wb e H o = some (v, H')) {b : Nat} (hb : b < H.length)
    (hq : o.quiet = true ∨ (o.calls = false ∧ b ∉ mods e o)) : H'[b]? = H[b]? := by
  cases o with
  | st n x y =>
    simp only [ev1] at hv
    split at hv
    · rename_i b' off ver hp
      split at hv
      · obtain ⟨_, h1, hv⟩ := Option.map_eq_some_iff.1 hv
        cases hv
        refine (wr_eld h1).2 b fun e1 => ?_
        rcases hq with hq | ⟨_, hq⟩
        · cases hq
        · simp [mods, hp, blkOf, e1] at hq
      · cases hv
    · cases hv
  | app esz bytes x y =>
    simp only [ev1] at hv
    obtain ⟨⟨n, cs⟩, _, hv⟩ := Option.bind_eq_some_iff.1 hv
    refine (append_eld hv).2 b hb fun e1 => ?_
    rcases hq with hq | ⟨_, hq⟩
    · cases hq
    · simp [mods, ← e1] at hq
  | cpy esz x y =>
    simp only [ev1] at hv
    obtain ⟨⟨n, cs⟩, _, hv⟩ := Option.bind_eq_some_iff.1 hv
    split at hv
    · cases hv; rfl
    · rename_i b' off ver len cap hp
      obtain ⟨_, h1, hv⟩ := Option.map_eq_some_iff.1 hv
      cases hv
      refine (wr_eld h1).2 b fun e1 => ?_
      rcases hq with hq | ⟨_, hq⟩
      · cases hq
      · simp [mods, hp, blkOf, e1] at hq
    · cases hv
  | apm =>
    simp only [ev1] at hv
    split at hv
    · split at hv
      · cases hv; exact List.getElem?_append_left hb
      · cases hv
    · cases hv
  | clr z x =>
    simp only [ev1] at hv
    split at hv
    · cases hv; rfl
    · rename_i b' off ver len cap hp
      obtain ⟨_, h1, hv⟩ := Option.map_eq_some_iff.1 hv
      cases hv
      refine (wr_eld h1).2 b fun e1 => ?_
      rcases hq with hq | ⟨_, hq⟩
      · cases hq
      · simp [mods, hp, blkOf, e1] at hq
    · cases hv
  | call p f xs =>
    rcases hq with hq | ⟨hq, _⟩
    · simp only [Op1.quiet] at hq
      subst hq
      simp only [ev1, if_true] at hv
      exact ((hcl _ _ _ _ _ _ hv).2 rfl).get hb hb
    · cases hq
  | callv x xs =>
    simp only [ev1] at hv
    split at hv
    · split at hv
      · exact ((hcl _ _ _ _ _ _ hv).2 rfl).get hb hb
      · cases hv
    · cases hv
  | _ => cases hm
theorem put_other {d : Option Nat} {v : Value} {s : Nat} (h : d ≠ some s) : put e d v s = e s := by
  cases d with
  | none => rfl
  | some d => simp only [put, upd]; rw [if_neg (fun e => h (by rw [e]))]
theorem skip_other {o : Op1} {d : Option Nat} {s : Nat} (h : d ≠ some s) : skip o e d s = e s := by
  unfold skip; split
  · rfl
  · exact put_other h
end

/- A run through a region, step by step. -/
def Tick (cl : Cl) (n0 : Nat) (wb : Bool) (s : Stm) (e : Env) (H : Heap) (e' : Env) (H' : Heap) : Prop :=
  (wanted e s.g = true ∧ (apart e s = true ∧ stays e H H' s = true) ∧ ∃ v, ev1 cl n0 wb e H s.o = some (v, H') ∧ e' = put e s.d v) ∨ (wanted e s.g = false ∧ H' = H ∧ e' = skip s.o e s.d)
theorem trace {cl : Cl} {n0 : Nat} {wb : Bool} : ∀ {ss : List Stm} {e : Env} {H : Heap} {e' : Env} {H' : Heap}, ops cl n0 wb ss e H = some (e', H') →
    ∃ (E : Nat → Env) (Hs : Nat → Heap), E 0 = e ∧ Hs 0 = H ∧ E ss.length = e' ∧ Hs ss.length = H' ∧ ∀ p s, ss[p]? = some s → Tick cl n0 wb s (E p) (Hs p) (E (p + 1)) (Hs (p + 1))
  | [], e, H, e', H', h => by
    cases h
    exact ⟨fun _ => e, fun _ => H, rfl, rfl, rfl, rfl, fun p s hs => by simp at hs⟩
  | s :: r, e, H, e', H', h => by
    have key : ∃ e1 H1, Tick cl n0 wb s e H e1 H1 ∧ ops cl n0 wb r e1 H1 = some (e', H') := by
      simp only [ops] at h
      split at h
      · rename_i hw
        split at h
        · rename_i ha
          split at h
          · rename_i v H1 hv
            split at h
            · rename_i hl
              exact ⟨_, _, .inl ⟨hw, ⟨ha, hl⟩, v, hv, rfl⟩, h⟩
            · cases h
          · cases h
        · cases h
      · rename_i hw
        exact ⟨_, _, .inr ⟨by simpa using hw, rfl, rfl⟩, h⟩
    obtain ⟨e1, H1, h1, h2⟩ := key
    obtain ⟨E, Hs, hE, hH, hE', hH', hst⟩ := trace h2
    refine ⟨fun p => match p with | 0 => e | p + 1 => E p, fun p => match p with | 0 => H | p + 1 => Hs p, rfl, rfl, hE', hH', fun p s' hs => ?_⟩
    cases p with
    | zero =>
      cases hs
      simp only [hE, hH]; exact h1
    | succ p => exact hst p s' (by simpa using hs)
end Fb
