/- What an operation was, by what became of it. -/
import Derived.Test.YtimijcjjmeemeaaSoundV
set_option linter.unusedVariables false
set_option linter.unusedSimpArgs false
namespace Fb
open Go

def Op1.state : Op1 → Bool
  | .adrI .. | .adrF .. | .stV .. | .ld .. | .b2s .. | .slcA .. | .slcP .. | .st .. | .new .. | .box .. | .bldS .. | .mkS .. | .app .. | .cpy .. | .clr .. | .apm .. | .call .. | .callv .. => true
  | _ => false
section
variable (P : Program) (inv : FuncId → Option Nat) (isPure : Nat → Bool) (h : Hint) (l : Look)
inductive Spec : Option Nat → Op → Op1 → Prop
  | other {d : Option Nat} {op : Op} {c : Op1} (hc : c.state = false) : Spec d op c
  | new {d : Option Nat} {t : TypeId} {z : List Value} (hz : zeroOf P t = some z) (hok : okZero z = true) : Spec d (.alloc t) (.new 1 z)
  | box {d : Option Nat} {t : TypeId} {x : Operand} {y : Opd} {q : Nat × Bool} (hx : opd inv h l x = some y) (hq : lay P t = some q) (h0 : q.1 ≠ 0) : Spec d (.box t x) (.box q.1 y)
  | bldS {d : Option Nat} {t e : TypeId} {n : Nat} {ps : Array (Nat × Operand)} {z : List Value} {q : Nat × Bool} {qs : List (Nat × Nat × Opd)} (hu : P.underlying t = some (.slice e)) (hz : zeroOf P e = some z) (hok : okZero z = true)
      (hq : lay P e = some q) (hl : z.length = q.1) (hn : n * q.1 ≤ 2 ^ 24) (hp : parts inv h l (fun i => some (i * q.1, q.1)) ps.toList = some qs) : Spec d (.buildSlice t n ps) (.bldS q.1 n z qs)
  | mkS {d : Option Nat} {t e : TypeId} {n c : Operand} {z : List Value} {q : Nat × Bool} {n' c' : Opd} (hu : P.underlying t = some (.slice e)) (hz : zeroOf P e = some z) (hok : okZero z = true)
      (hq : lay P e = some q) (hl : z.length = q.1) (hb : P.bytesOf e ≠ 0) (hn : opd inv h l n = some n') (hc : opd inv h l c = some c') : Spec d (.makeSlice t n c) (.mkS q.1 (P.bytesOf e) z n' c')
  | ld {d : Option Nat} {t : TypeId} {x : Operand} {y : Opd} {q : Nat × Bool} (hx : opd inv h l x = some y) (hq : lay P t = some q) : Spec d (.load t x) (.ld (ldSize q) q.2 y)
  | st {d : Option Nat} {t : TypeId} {x v : Operand} {x' v' : Opd} {q : Nat × Bool} (hx : opd inv h l x = some x') (hv : opd inv h l v = some v') (hq : lay P t = some q) (h0 : q.1 ≠ 0) : Spec d (.store t x v) (.st q.1 x' v')
  | stV {d : Option Nat} {t : TypeId} {x v : Operand} {p : Nat} {s : Option Nat} {v' : Opd} {q : Nat × Bool} (hx : inVar h l x = some (p, s)) (hv : opd inv h l v = some v') (hq : lay P t = some q) (h0 : q.1 ≠ 0) : Spec d (.store t x v) (.stV p s q.1 v')
  | b2s {d : Option Nat} {s t e : TypeId} {x : Operand} {y : Opd} (hx : opd inv h l x = some y) (hs : P.underlying s = some (.slice e)) (he : P.underlying e = some (.int .u8)) (ht : P.underlying t = some .string) : Spec d (.convert s t x) (.b2s y)
  | adrI {d : Option Nat} {t e : TypeId} {n : Nat} {x i : Operand} {i' : Opd} {p : Nat} {s : Option Nat} {q : Nat × Bool} (hu : P.underlying t = some (.array n e)) (hq : lay P e = some q) (hx : inVar h l x = some (p, s)) (hi : opd inv h l i = some i') :
      Spec d (.indexAddr t x i) (.adrI p s n q.1 i')
  | adrF {d : Option Nat} {t : TypeId} {fs : Array Field} {f : Nat} {fd : Field} {x : Operand} {p : Nat} {s : Option Nat} {q : Nat × Bool} (hu : P.underlying t = some (.struct fs)) (hf : fs[f]? = some fd) (hq : lay P fd.type = some q) (h0 : q.1 ≠ 0)
      (hx : inVar h l x = some (p, s)) : Spec d (.fieldAddr t x f) (.adrF p s fd.offset)
  | slcA {d : Option Nat} {t e : TypeId} {x : Operand} {lo hi mx : Option Operand} {x' : Opd} {lo' hi' mx' : Option Opd} {q : Nat × Bool} (hu : P.underlying t = some (.slice e)) (hq : lay P e = some q) (hx : opd inv h l x = some x')
      (hlo : optOpd inv h l lo = some lo') (hhi : optOpd inv h l hi = some hi') (hmx : optOpd inv h l mx = some mx') (hm : mx.isSome = true → hi.isSome = true) : Spec d (.slice t x lo hi mx) (.slcA q.1 x' lo' hi' mx')
  | slcP {d : Option Nat} {t e : TypeId} {n : Nat} {x : Operand} {x' : Opd} {q : Nat × Bool} (hu : P.underlying t = some (.array n e)) (hq : lay P e = some q) (hx : opd inv h l x = some x') : Spec d (.slice t x none none none) (.slcP n q.1 x')
  | app {d : Option Nat} {t u e e' : TypeId} {x y : Operand} {x' y' : Opd} {z : List Value} {q : Nat × Bool} (hu : P.underlying t = some (.slice e)) (hu' : P.underlying u = some (.slice e')) (hz : zeroOf P e = some z) (hq : lay P e = some q) (hl : z.length = q.1) (h0 : q.1 ≠ 0) (hb : P.bytesOf e ≠ 0)
      (hx : opd inv h l x = some x') (hy : opd inv h l y = some y') : Spec d (.call ⟨.builtin .append, #[x, y], #[t, u]⟩) (.app q.1 (P.bytesOf e) x' y')
  | cpy {d : Option Nat} {t u e : TypeId} {x y : Operand} {x' y' : Opd} {q : Nat × Bool} (hu : P.underlying t = some (.slice e)) (hq : lay P e = some q) (hx : opd inv h l x = some x') (hy : opd inv h l y = some y') :
      Spec d (.call ⟨.builtin .copy, #[x, y], #[t, u]⟩) (.cpy q.1 x' y')
  | apm {d : Option Nat} {t u e : TypeId} {kk : IntKind} {x y : Operand} {x' y' : Opd} {z : List Value} {q : Nat × Bool} (hu : P.underlying t = some (.slice e)) (hu' : P.underlying u = some (.int kk)) (hz : zeroOf P e = some z) (hq : lay P e = some q) (hok : okZero z = true) (hl : z.length = q.1) (h0 : q.1 ≠ 0) (hb : P.bytesOf e ≠ 0)
      (hx : opd inv h l x = some x') (hy : opd inv h l y = some y') : Spec d (.call ⟨.builtin .append, #[x, y], #[t, u]⟩) (.apm q.1 (P.bytesOf e) z x' y')
  | clr {d : Option Nat} {t e : TypeId} {x : Operand} {x' : Opd} {z : List Value} {q : Nat × Bool} (hu : P.underlying t = some (.slice e)) (hz : zeroOf P e = some z) (hq : lay P e = some q) (hok : okZero z = true) (hl : z.length = q.1) (hx : opd inv h l x = some x') :
      Spec d (.call ⟨.builtin .clear, #[x], #[t]⟩) (.clr z x')
  | call {d : Option Nat} {f : FuncId} {i : Nat} {args : Array Operand} {ts : Array TypeId} {xs : List Opd} (hf : inv f = some i) (hx : opds inv h l args.toList = some xs) : Spec d (.call ⟨.value (.func f), args, ts⟩) (.call (isPure i) i xs)
  | callv {d : Option Nat} {x : Operand} {x' : Opd} {args : Array Operand} {ts : Array TypeId} {xs : List Opd} (hx' : opd inv h l x = some x') (hx : opds inv h l args.toList = some xs) : Spec d (.call ⟨.value x, args, ts⟩) (.callv x' xs)
end
section
variable {P : Program} {inv : FuncId → Option Nat} {isPure : Nat → Bool} {h : Hint} {l : Look}
theorem comp1_spec {o : Oper} {c : Op1} (hc : comp1 P inv isPure h l o = some c) : Spec P inv isPure h l o.dst o.op c := by
  obtain ⟨dst, op, ty, pos, after, guard⟩ := o
  have fin : ∀ {f : Opd → Op1} {x : Operand}, (∀ y, (f y).state = false) → (opd inv h l x).map f = some c → Spec P inv isPure h l dst op c := by
    intro f x hf hc
    obtain ⟨y, _, rfl⟩ := Option.map_eq_some_iff.1 hc
    exact .other (hf y)
  cases op with
  | move x => exact fin (fun _ => rfl) hc
  | assign x => exact fin (fun _ => rfl) hc
  | pick x y z =>
    simp only [comp1, bind, Option.bind_eq_some_iff, pure, Option.some.injEq] at hc
    obtain ⟨_, _, _, _, _, _, rfl⟩ := hc
    exact .other rfl
  | alloc t =>
    simp only [comp1, bind, Option.bind_eq_some_iff] at hc
    obtain ⟨z, hz, q, hq, hc⟩ := hc
    split at hc
    · cases hc
    · rename_i hok
      split at hc
      · cases hc; exact .other rfl
      · cases hc; exact .new hz (by simpa using hok)
  | box t x =>
    simp only [comp1, bind, Option.bind_eq_some_iff] at hc
    obtain ⟨y, hy, q, hq, hc⟩ := hc
    split at hc
    · cases hc
    · rename_i h0
      split at hc
      · cases hc; exact .other rfl
      · cases hc; exact .box hy hq h0
  | build t ps =>
    simp only [comp1, bind, Option.bind_eq_some_iff] at hc
    obtain ⟨z, hz, hc⟩ := hc
    split at hc
    · cases hc
    · split at hc
      · split at hc
        · cases hc
        · obtain ⟨_, _, rfl⟩ := Option.map_eq_some_iff.1 hc; exact .other rfl
      · obtain ⟨_, _, hc⟩ := Option.bind_eq_some_iff.1 hc
        obtain ⟨_, _, rfl⟩ := Option.map_eq_some_iff.1 hc; exact .other rfl
      · cases hc
  | buildSlice t n ps =>
    simp only [comp1] at hc
    split at hc
    · rename_i hu
      simp only [bind, Option.bind_eq_some_iff] at hc
      obtain ⟨z, hz, q, hq, hc⟩ := hc
      split at hc
      · cases hc
      · rename_i hn
        obtain ⟨_, hp, rfl⟩ := Option.map_eq_some_iff.1 hc
        simp only [Bool.or_eq_true, Bool.not_eq_true', bne_iff_ne, ne_eq, decide_eq_true_eq, not_or, Bool.not_eq_false, Decidable.not_not, Nat.not_lt] at hn
        exact .bldS hu hz hn.1.1 hq hn.1.2 (by omega) hp
    · cases hc
  | load t x =>
    simp only [comp1, bind, Option.bind_eq_some_iff] at hc
    obtain ⟨q, hq, hc⟩ := hc
    split at hc
    · cases hc; exact .other rfl
    · obtain ⟨y, hy, rfl⟩ := Option.map_eq_some_iff.1 hc; exact .ld hy hq
  | store t x y =>
    simp only [comp1, bind, Option.bind_eq_some_iff] at hc
    obtain ⟨y', hy, q, hq, hc⟩ := hc
    split at hc
    · cases hc
    · rename_i h0
      split at hc
      · cases hc; exact .stV ‹_› hy hq h0
      · obtain ⟨x', hx, rfl⟩ := Option.map_eq_some_iff.1 hc; exact .st hx hy hq h0
  | nilCheck x => exact fin (fun _ => rfl) hc
  | binOp op t x y u =>
    simp only [comp1, bind, Option.bind_eq_some_iff] at hc
    obtain ⟨x', hx, y', hy, hc⟩ := hc
    split at hc
    · cases hc; exact .other rfl
    · cases hc; exact .other rfl
    · obtain ⟨k, hk, rfl⟩ := Option.map_eq_some_iff.1 hc; exact .other rfl
    · obtain ⟨k, hk, rfl⟩ := Option.map_eq_some_iff.1 hc; exact .other rfl
    · cases hc
  | unOp op t x => exact fin (fun _ => rfl) hc
  | convert s d x =>
    simp only [comp1, bind, Option.bind_eq_some_iff] at hc
    obtain ⟨y, hy, hc⟩ := hc
    split at hc
    · cases hc; exact .other rfl
    · rename_i hs hd
      split at hc
      · cases hc; exact .b2s hy hs ‹_› hd
      · cases hc
    · cases hc
  | extract x i => exact fin (fun _ => rfl) hc
  | index t x i =>
    simp only [comp1, bind, Option.bind_eq_some_iff] at hc
    obtain ⟨x', hx, i', hi', hc⟩ := hc
    split at hc
    · obtain ⟨q, hq, hc⟩ := Option.bind_eq_some_iff.1 hc
      split at hc
      · cases hc
      · cases hc; exact .other rfl
    · cases hc; exact .other rfl
    · cases hc
  | field t x f =>
    simp only [comp1, bind, Option.bind_eq_some_iff] at hc
    obtain ⟨x', hx, hc⟩ := hc
    split at hc
    · split at hc
      · obtain ⟨q, hq, hc⟩ := Option.bind_eq_some_iff.1 hc
        cases hc; exact .other rfl
      · cases hc
    · cases hc
  | indexAddr t x i =>
    simp only [comp1, bind, Option.bind_eq_some_iff] at hc
    obtain ⟨i', hi', hc⟩ := hc
    split at hc
    · obtain ⟨q, hq, hc⟩ := Option.bind_eq_some_iff.1 hc
      split at hc
      · cases hc; exact .adrI ‹_› hq ‹_› hi'
      · obtain ⟨y, hy, rfl⟩ := Option.map_eq_some_iff.1 hc; exact .other rfl
    · obtain ⟨q, hq, hc⟩ := Option.bind_eq_some_iff.1 hc
      obtain ⟨y, hy, rfl⟩ := Option.map_eq_some_iff.1 hc; exact .other rfl
    · cases hc
  | fieldAddr t x f =>
    simp only [comp1] at hc
    split at hc
    · split at hc
      · obtain ⟨q, hq, hc⟩ := Option.bind_eq_some_iff.1 hc
        split at hc
        · cases hc
        · rename_i h0
          split at hc
          · cases hc; exact .adrF ‹_› ‹_› hq h0 ‹_›
          · obtain ⟨y, hy, rfl⟩ := Option.map_eq_some_iff.1 hc; exact .other rfl
      · cases hc
    · cases hc
  | makeFunc fn xs cs =>
    cases fn with
    | func f =>
      simp only [comp1] at hc
      split at hc
      · cases hc
      · simp only [bind, Option.bind_eq_some_iff, pure, Option.some.injEq] at hc
        obtain ⟨i, hi', ys, hys, rfl⟩ := hc
        exact .other rfl
    | _ => cases hc
  | slice t x lo hi mx =>
    simp only [comp1, bind, Option.bind_eq_some_iff] at hc
    obtain ⟨x', hx, lo', hlo, hi', hhi, mx', hmx, hc⟩ := hc
    split at hc
    · split at hc
      · cases hc; exact .other rfl
      · cases hc
    · rename_i hu
      obtain ⟨q, hq, hc⟩ := Option.bind_eq_some_iff.1 hc
      split at hc
      · cases hc
      · rename_i hm
        cases hc
        refine .slcA hu hq hx hlo hhi hmx (fun h1 => ?_)
        cases hi with
        | none => exact absurd (by simp [h1]) hm
        | some _ => rfl
    · rename_i hu
      obtain ⟨q, hq, hc⟩ := Option.bind_eq_some_iff.1 hc
      split at hc
      · rename_i hn
        cases hc
        simp only [Bool.and_eq_true, Option.isNone_iff_eq_none] at hn
        obtain ⟨⟨rfl, rfl⟩, rfl⟩ := hn
        exact .slcP hu hq hx
      · cases hc
    · cases hc
  | makeSlice t n c =>
    simp only [comp1] at hc
    split at hc
    · rename_i hu
      simp only [bind, Option.bind_eq_some_iff] at hc
      obtain ⟨z, hz, q, hq, hc⟩ := hc
      split at hc
      · cases hc
      · rename_i hn
        simp only [Option.bind_eq_some_iff, pure, Option.some.injEq] at hc
        obtain ⟨n', hn', c', hc', rfl⟩ := hc
        simp only [Bool.or_eq_true, Bool.not_eq_true', bne_iff_ne, ne_eq, decide_eq_true_eq, not_or, Bool.not_eq_false, Decidable.not_not] at hn
        exact .mkS hu hz hn.1.1 hq hn.1.2 hn.2 hn' hc'
    · cases hc
  | call cc =>
    obtain ⟨callee, args, ts⟩ := cc
    simp only [comp1] at hc
    split at hc
    · simp only [bind, Option.bind_eq_some_iff, pure, Option.some.injEq] at hc
      obtain ⟨i, hi, xs, hxs, rfl⟩ := hc; exact .call hi hxs
    · simp only [bind, Option.bind_eq_some_iff, pure, Option.some.injEq] at hc
      obtain ⟨x, hx, xs, hxs, rfl⟩ := hc; exact .callv hx hxs
    · rename_i b _
      split at hc
      · split at hc
        · exact fin (fun _ => rfl) hc
        · exact fin (fun _ => rfl) hc
        · cases hc
      · simp only [bind, Option.bind_eq_some_iff, pure, Option.some.injEq] at hc
        obtain ⟨_, _, _, _, rfl⟩ := hc; exact .other rfl
      · simp only [bind, Option.bind_eq_some_iff, pure, Option.some.injEq] at hc
        obtain ⟨_, _, _, _, rfl⟩ := hc; exact .other rfl
      · rename_i x y t u hargs hts
        have ha : args = #[x, y] := Array.toList_inj.1 (by simpa using hargs)
        have ht : ts = #[t, u] := Array.toList_inj.1 (by simpa using hts)
        subst ha; subst ht
        split at hc
        · rename_i hu hu'
          simp only [bind, Option.bind_eq_some_iff] at hc
          obtain ⟨z, hz, q, hq, hc⟩ := hc
          split at hc
          · cases hc
          · rename_i hn
            simp only [Option.bind_eq_some_iff, pure, Option.some.injEq] at hc
            obtain ⟨x', hx, y', hy, rfl⟩ := hc
            simp only [Bool.or_eq_true, bne_iff_ne, ne_eq, decide_eq_true_eq, not_or, Decidable.not_not] at hn
            exact .app hu hu' hz hq hn.1.1 hn.1.2 hn.2 hx hy
        · rename_i hu hu'
          simp only [bind, Option.bind_eq_some_iff] at hc
          obtain ⟨z, hz, q, hq, hc⟩ := hc
          split at hc
          · cases hc
          · rename_i hn
            simp only [Option.bind_eq_some_iff, pure, Option.some.injEq] at hc
            obtain ⟨x', hx, y', hy, rfl⟩ := hc
            simp only [Bool.or_eq_true, Bool.not_eq_true', bne_iff_ne, ne_eq, decide_eq_true_eq, not_or, Decidable.not_not, Bool.not_eq_false] at hn
            exact .apm hu hu' hz hq hn.1.1.1 hn.1.1.2 hn.1.2 hn.2 hx hy
        · cases hc
      · rename_i x y t u hargs hts
        have ha : args = #[x, y] := Array.toList_inj.1 (by simpa using hargs)
        have ht : ts = #[t, u] := Array.toList_inj.1 (by simpa using hts)
        subst ha; subst ht
        split at hc
        · rename_i hu
          simp only [bind, Option.bind_eq_some_iff, pure, Option.some.injEq] at hc
          obtain ⟨q, hq, x', hx, y', hy, rfl⟩ := hc
          exact .cpy hu hq hx hy
        · cases hc
      · split at hc
        · exact fin (fun _ => rfl) hc
        · cases hc
      · rename_i x t hargs hts
        have ha : args = #[x] := Array.toList_inj.1 (by simpa using hargs)
        have ht : ts = #[t] := Array.toList_inj.1 (by simpa using hts)
        subst ha; subst ht
        split at hc
        · rename_i hu
          simp only [bind, Option.bind_eq_some_iff] at hc
          obtain ⟨z, hz, q, hq, hc⟩ := hc
          split at hc
          · cases hc
          · rename_i hn
            simp only [Option.bind_eq_some_iff, pure, Option.some.injEq] at hc
            obtain ⟨x', hx, rfl⟩ := hc
            simp only [Bool.or_eq_true, Bool.not_eq_true', bne_iff_ne, ne_eq, not_or, Decidable.not_not, Bool.not_eq_false] at hn
            exact .clr hu hz hq hn.1 hn.2 hx
        · cases hc
      · cases hc
    · cases hc
  | _ => cases hc
end
end Fb
