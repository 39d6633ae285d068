/- A part of the proof of the law DebuggerSessionMatchesSpec (second form): part 1. -/
import Derived.OrdersHeld
import Derived.Below
import Derived.WalkKit
import Derived.WalkLawsBesides
import Derived.WalkSpells
import Derived.Lib.ConvBytes
import Derived.RangeFuncRecord
import Derived.MapKept
import Derived.RangeFuncNested
import Derived.RangeFuncLeaves
import Derived.RangeFuncCalls
import Derived.TacticsIn
import Derived.OrdersIn
import Derived.Test.YtecibcjckinngaaGreatDoorProg
import Derived.KernelRfl
set_option linter.unusedSimpArgs false
/- A small program logic over the machine: symbolic frames (an association list for the temporaries), symbolic memory (own blocks, own rows, frozen facts), and the rules of control. It states nothing of any program. -/
set_option linter.unusedVariables false
namespace Go.Proofs.YtecibcjckinngaaGreatDoor
open Go Go.RowKit

/-! ### Frames -/
abbrev Env := List (Nat × Value)
def Env.get : Env → Nat → Option Value
  | [], _ => none
  | (k, v) :: e, t => match Nat.beq k t with
    | true => some v
    | false => Env.get e t
def Env.op (e : Env) : Operand → Option Value
  | .tmp t => e.get t
  | .const v => some v
  | .global g => some (.pointer (some ⟨g, 0, none⟩))
  | .func f => some (.func (.func f) #[] #[])
structure EnvOK (ds : List Deferred) (n : Nat) (e : Env) (a : Act) : Prop where
  size : a.tmps.size = n
  defers : a.defers = ds
  get : ∀ t v, e.get t = some v → t < n ∧ a.tmps.getD t undef = v

theorem EnvOK.op {ds : List Deferred} {n : Nat} {e : Env} {a : Act} (h : EnvOK ds n e a) {x : Operand} {v : Value} (hx : e.op x = some v) : a.eval x = v := by
  cases x with
  | tmp t => exact (h.get t v hx).2
  | const c => exact Option.some.inj hx
  | global g => exact Option.some.inj hx
  | func f => exact Option.some.inj hx

theorem EnvOK.put {ds : List Deferred} {n : Nat} {e : Env} {a : Act} (h : EnvOK ds n e a) {d : Nat} (hd : Nat.blt d n = true) (v : Value) : EnvOK ds n ((d, v) :: e) (a.put (some d) v) := by
  have hdn : d < n := by simpa using hd
  refine ⟨by simp [Act.put, h.size], h.defers, fun t u ht => ?_⟩
  simp only [Env.get] at ht
  by_cases hk : d = t
  · subst hk
    simp at ht
    subst ht
    refine ⟨hdn, ?_⟩
    simp [Act.put, h.size, hdn]
  · have hb : Nat.beq d t = false := by
      cases hh : Nat.beq d t with
      | false => rfl
      | true => exact absurd (Nat.eq_of_beq_eq_true hh) hk
    rw [hb] at ht
    obtain ⟨h1, h2⟩ := h.get t u ht
    refine ⟨h1, ?_⟩
    simp only [Act.put]
    rw [← h2]
    simp [Array.getElem?_setIfInBounds_ne hk]

theorem EnvOK.skip {ds : List Deferred} {n : Nat} {e : Env} {a : Act} (h : EnvOK ds n e a) : EnvOK ds n e (a.put none undef) := h

/-- What is known of 'e' is known of 'e''. -/
def Env.Sub (e' e : Env) : Prop := ∀ t v, e'.get t = some v → e.get t = some v
theorem Env.Sub.nil {e : Env} : Env.Sub [] e := fun _ _ h => by simp [Env.get] at h
theorem Env.Sub.cons {e' e : Env} {k : Nat} {v : Value} (h : e.get k = some v) (hs : Env.Sub e' e) : Env.Sub ((k, v) :: e') e := by
  intro t u ht
  simp only [Env.get] at ht
  cases hh : Nat.beq k t with
  | true =>
    rw [hh] at ht
    obtain rfl := Nat.eq_of_beq_eq_true hh
    obtain rfl := Option.some.inj ht
    exact h
  | false => rw [hh] at ht; exact hs t u ht
theorem Env.Sub.refl (e : Env) : Env.Sub e e := fun _ _ h => h
theorem EnvOK.sub {ds : List Deferred} {n : Nat} {e e' : Env} {a : Act} (h : EnvOK ds n e a) (hs : Env.Sub e' e) : EnvOK ds n e' a := ⟨h.size, h.defers, fun t v ht => h.get t v (hs t v ht)⟩

/-! ### Memory -/
/-- What is known of one piece of memory of the call's own. 'box': a block, cell by cell. 'row': a slice of the call's own, its elements' cells. 'fz': a fact that hangs on no block that is still written; 'fn': the same, and on no block that is kept. -/
inductive Ent where
  | box (g : Nat) (cs : List Value) (t : TypeId)
  | row (t : TypeId) (sz : Nat) (a : Option Addr) (n c : Nat) (xs : List Value)
  | mp (g : Nat) (es : Array MapEntry) (clk : Nat)
  | dfr (g : Nat)
  | fz (φ : World → Prop)
  | fn (φ : World → Prop)
  | gone

def Ent.fact : Ent → Option (World → Prop)
  | .fz φ => some φ
  | .fn φ => some φ
  | _ => none
def Ent.new : Ent → Bool
  | .fn _ => true
  | _ => false

def Ent.blk : Ent → Option Nat
  | .box g _ _ => some g
  | .row _ _ (some a) _ _ _ => some a.block
  | .mp g _ _ => some g
  | .dfr g => some g
  | _ => none

def Ent.holds (K : Nat → Prop) (w : World) : Ent → Prop
  | .box g cs t => ¬ K g ∧ w.heap[g]? = some (.cells cs.toArray t (0, 0))
  | .row t sz a n c xs => xs.length = n * sz ∧ n ≤ c ∧ c ≤ maxLen ∧ ((a = none ∧ n = 0 ∧ c = 0) ∨
      ∃ g off cur, a = some ⟨g, off, none⟩ ∧ ¬ K g ∧ w.heap[g]? = some (.cells cur t (0, 0)) ∧ off + c * sz ≤ cur.size ∧ (cur.toList.drop off).take (n * sz) = xs)
  | .mp g es clk => ¬ K g ∧ w.heap[g]? = some (.map es clk)
  | .dfr g => ¬ K g ∧ w.heap[g]? = some (.deferred (some []))
  | .fz _ => True
  | .fn _ => True
  | .gone => True

abbrev Hp := List (Nat × Ent)
def Hp.get : Hp → Nat → Option Ent
  | [], _ => none
  | (k, v) :: e, t => match Nat.beq k t with
    | true => some v
    | false => Hp.get e t

theorem Hp.get_cons {k t : Nat} {v e : Ent} {H : Hp} (h : Hp.get ((k, v) :: H) t = some e) : (k = t ∧ v = e) ∨ (k ≠ t ∧ H.get t = some e) := by
  simp only [Hp.get] at h
  cases hh : Nat.beq k t with
  | true => rw [hh] at h; exact .inl ⟨Nat.eq_of_beq_eq_true hh, Option.some.inj h⟩
  | false =>
    rw [hh] at h
    refine .inr ⟨fun he => ?_, h⟩
    subst he
    rw [Nat.beq_refl] at hh
    cases hh
theorem Hp.get_same {k : Nat} {v : Ent} {H : Hp} : Hp.get ((k, v) :: H) k = some v := by simp [Hp.get]
theorem Hp.get_ne {k t : Nat} {v : Ent} {H : Hp} (h : k ≠ t) : Hp.get ((k, v) :: H) t = H.get t := by
  simp only [Hp.get]
  have : Nat.beq k t = false := by
    cases hh : Nat.beq k t with
    | false => rfl
    | true => exact absurd (Nat.eq_of_beq_eq_true hh) h
  rw [this]

/-- 'φ' holds in every world that has the blocks 'S' of 'w'. -/
def Supp (S : Nat → Prop) (w : World) (φ : World → Prop) : Prop := ∀ w', (∀ b, S b → w'.heap[b]? = w.heap[b]?) → φ w'
theorem Supp.self {S : Nat → Prop} {w : World} {φ : World → Prop} (h : Supp S w φ) : φ w := h w fun _ _ => rfl
theorem Supp.keep {S : Nat → Prop} {w w' : World} {φ : World → Prop} (h : Supp S w φ) (hk : ∀ b, S b → w'.heap[b]? = w.heap[b]?) : Supp S w' φ :=
  fun w'' h'' => h w'' fun b hb => (h'' b hb).trans (hk b hb)
theorem Supp.imp {S : Nat → Prop} {w : World} {φ ψ : World → Prop} (h : Supp S w φ) (hi : ∀ w, φ w → ψ w) : Supp S w ψ := fun w' h' => hi _ (h w' h')

/-- The blocks 'K' are as they were; the streams too; no block has gone. -/
structure Kp (K : Nat → Prop) (w0 w : World) : Prop where
  os : w.os = w0.os
  tape : w.tape = w0.tape
  output : w.output = w0.output
  size : w0.heap.size ≤ w.heap.size
  block : ∀ b, K b → w.heap[b]? = w0.heap[b]?
theorem Kp.refl (K : Nat → Prop) (w : World) : Kp K w w := ⟨rfl, rfl, rfl, Nat.le_refl _, fun _ _ => rfl⟩
theorem Kp.trans {K : Nat → Prop} {a b c : World} (h : Kp K a b) (h' : Kp K b c) : Kp K a c := ⟨h'.os.trans h.os, h'.tape.trans h.tape, h'.output.trans h.output, Nat.le_trans h.size h'.size, fun i hi => (h'.block i hi).trans (h.block i hi)⟩
theorem Kp.mono {K K' : Nat → Prop} {a b : World} (h : Kp K a b) (hk : ∀ i, K' i → K i) : Kp K' a b := ⟨h.os, h.tape, h.output, h.size, fun i hi => h.block i (hk i hi)⟩
theorem Kp.below {a b : World} {n : Nat} (h : Kp (· < n) a b) : Below n a b := ⟨h.os, h.tape, h.output, h.size, h.block⟩
theorem Kp.of_below {a b : World} {n : Nat} (h : Below n a b) : Kp (· < n) a b := ⟨h.os, h.tape, h.output, h.size, h.block⟩
/-- All blocks are as they were. -/
abbrev Grew (w w' : World) : Prop := Kp (· < w.heap.size) w w'

/-- What holds of the memory: the blocks 'K' are as they were in 'w0'; each entry holds; no two entries meet. -/
structure Sep (K : Nat → Prop) (w0 : World) (H : Hp) (w : World) : Prop where
  kp : Kp K w0 w
  bs : ∀ b, K b → b < w.heap.size
  holds : ∀ t e, H.get t = some e → e.holds K w
  apart : ∀ t t' e e' b, H.get t = some e → H.get t' = some e' → t ≠ t' → e.blk = some b → e'.blk = some b → False
  fz : ∀ t e φ, H.get t = some e → e.fact = some φ → ∃ S : Nat → Prop, (∀ b, S b → b < w.heap.size ∧ (e.new = true → ¬ K b) ∧ ∀ t' e', H.get t' = some e' → e'.blk ≠ some b) ∧ Supp S w φ

theorem Ent.blk_ge {K : Nat → Prop} {w : World} {e : Ent} (h : e.holds K w) {b : Nat} (hb : e.blk = some b) : ¬ K b ∧ b < w.heap.size := by
  have lt : ∀ {g : Nat} {o : Obj}, w.heap[g]? = some o → g < w.heap.size := fun hh => (Array.getElem?_eq_some_iff.1 hh).1
  cases e with
  | box g cs t => obtain rfl := Option.some.inj hb; exact ⟨h.1, lt h.2⟩
  | mp g es c => obtain rfl := Option.some.inj hb; exact ⟨h.1, lt h.2⟩
  | dfr g => obtain rfl := Option.some.inj hb; exact ⟨h.1, lt h.2⟩
  | row t sz a n c xs =>
    obtain ⟨_, _, _, hh⟩ := h
    rcases hh with ⟨rfl, _⟩ | ⟨g, off, cur, rfl, hg, hcur, _⟩
    · cases hb
    · obtain rfl := Option.some.inj hb; exact ⟨hg, lt hcur⟩
  | fz φ => cases hb
  | fn φ => cases hb
  | gone => cases hb

theorem Ent.holds_keep {K : Nat → Prop} {w w' : World} {e : Ent} (h : e.holds K w) (hk : ∀ b, e.blk = some b → w'.heap[b]? = w.heap[b]?) : e.holds K w' := by
  cases e with
  | box g cs t => exact ⟨h.1, (hk g rfl).trans h.2⟩
  | mp g es c => exact ⟨h.1, (hk g rfl).trans h.2⟩
  | dfr g => exact ⟨h.1, (hk g rfl).trans h.2⟩
  | row t sz a n c xs =>
    obtain ⟨h1, h2, h3, hh⟩ := h
    refine ⟨h1, h2, h3, ?_⟩
    rcases hh with hh | ⟨g, off, cur, rfl, hg, hcur, hr⟩
    · exact .inl hh
    · exact .inr ⟨g, off, cur, rfl, hg, (hk g rfl).trans hcur, hr⟩
  | fz φ => trivial
  | fn φ => trivial
  | gone => trivial
theorem Ent.holds_mono {K K' : Nat → Prop} {w : World} {e : Ent} (h : e.holds K w) (hb : ∀ b, K' b → K b) : e.holds K' w := by
  cases e with
  | box g cs t => exact ⟨fun hk => h.1 (hb _ hk), h.2⟩
  | mp g es c => exact ⟨fun hk => h.1 (hb _ hk), h.2⟩
  | dfr g => exact ⟨fun hk => h.1 (hb _ hk), h.2⟩
  | row t sz a n c xs =>
    obtain ⟨h1, h2, h3, hh⟩ := h
    refine ⟨h1, h2, h3, ?_⟩
    rcases hh with hh | ⟨g, off, cur, rfl, hg, hr⟩
    · exact .inl hh
    · exact .inr ⟨g, off, cur, rfl, fun hk => hg (hb _ hk), hr⟩
  | fz φ => trivial
  | fn φ => trivial
  | gone => trivial

/-- The world goes on: no block that is old, and not the entry's at 't', has turned; the entry at 't' is 'e' from now on. -/
theorem Sep.upd {K : Nat → Prop} {w0 w w' : World} {H : Hp} (hS : Sep K w0 H w) (t : Nat) (e : Ent)
    (hos : w'.os = w.os) (htp : w'.tape = w.tape) (hout : w'.output = w.output) (hsz : w.heap.size ≤ w'.heap.size)
    (hb : ∀ b, b < w.heap.size → (∀ e0, H.get t = some e0 → e0.blk ≠ some b) → w'.heap[b]? = w.heap[b]?)
    (he : e.holds K w') (hnew : ∀ b, e.blk = some b → w.heap.size ≤ b ∨ ∃ e0, H.get t = some e0 ∧ e0.blk = some b)
    (hfz : ∀ φ, e.fact = some φ → ∃ S : Nat → Prop, (∀ b, S b → b < w'.heap.size ∧ (e.new = true → ¬ K b) ∧ ∀ t' e', Hp.get ((t, e) :: H) t' = some e' → e'.blk ≠ some b) ∧ Supp S w' φ) :
    Sep K w0 ((t, e) :: H) w' := by
  have hold : ∀ b, K b → w'.heap[b]? = w.heap[b]? := fun b hlt => hb b (hS.bs b hlt) fun e0 h0 hk => (Ent.blk_ge (hS.holds t e0 h0) hk).1 hlt
  refine ⟨hS.kp.trans ⟨hos, htp, hout, hsz, hold⟩, fun b hk => Nat.lt_of_lt_of_le (hS.bs b hk) hsz, ?_, ?_, ?_⟩
  · intro t1 e1 h1
    rcases Hp.get_cons h1 with ⟨rfl, rfl⟩ | ⟨hne, h1⟩
    · exact he
    · refine Ent.holds_keep (hS.holds t1 e1 h1) fun b hbk => hb b (Ent.blk_ge (hS.holds t1 e1 h1) hbk).2 fun e0 h0 hk => ?_
      exact hS.apart t t1 e0 e1 b h0 h1 hne hk hbk
  · intro t1 t2 e1 e2 b h1 h2 hne hb1 hb2
    have key : ∀ t3 e3, t ≠ t3 → H.get t3 = some e3 → e3.blk = some b → e.blk = some b → False := fun t3 e3 hn h3 hb3 hbe => by
      rcases hnew b hbe with hge | ⟨e0, h0, hk⟩
      · have := (Ent.blk_ge (hS.holds t3 e3 h3) hb3).2
        omega
      · exact hS.apart t t3 e0 e3 b h0 h3 hn hk hb3
    rcases Hp.get_cons h1 with ⟨rfl, rfl⟩ | ⟨hne1, h1⟩
    · rcases Hp.get_cons h2 with ⟨rfl, rfl⟩ | ⟨hne2, h2⟩
      · exact hne rfl
      · exact key t2 e2 hne2 h2 hb2 hb1
    · rcases Hp.get_cons h2 with ⟨rfl, rfl⟩ | ⟨hne2, h2⟩
      · exact key t1 e1 hne1 h1 hb1 hb2
      · exact hS.apart t1 t2 e1 e2 b h1 h2 hne hb1 hb2
  · intro t1 e1 φ h1 hf
    rcases Hp.get_cons h1 with ⟨rfl, rfl⟩ | ⟨hne, h1⟩
    · exact hfz φ hf
    · obtain ⟨S, hSb, hsup⟩ := hS.fz t1 e1 φ h1 hf
      refine ⟨S, fun b hb1 => ⟨Nat.lt_of_lt_of_le (hSb b hb1).1 hsz, (hSb b hb1).2.1, fun t2 e2 h2 hk => ?_⟩, hsup.keep fun b hb1 => hb b (hSb b hb1).1 fun e0 h0 => (hSb b hb1).2.2 t e0 h0⟩
      rcases Hp.get_cons h2 with ⟨rfl, rfl⟩ | ⟨hne2, h2⟩
      · rcases hnew b hk with hge | ⟨e0, h0, hk0⟩
        · have := (hSb b hb1).1
          omega
        · exact (hSb b hb1).2.2 t e0 h0 hk0
      · exact (hSb b hb1).2.2 t2 e2 h2 hk

/-- No entry turns. -/
theorem Sep.keep {K : Nat → Prop} {w0 w w' : World} {H : Hp} (hS : Sep K w0 H w) (hb : Grew w w') : Sep K w0 H w' := by
  refine ⟨hS.kp.trans (hb.mono hS.bs), fun b hk => Nat.lt_of_lt_of_le (hS.bs b hk) hb.size, fun t e h => Ent.holds_keep (hS.holds t e h) fun b hbk => hb.block b (Ent.blk_ge (hS.holds t e h) hbk).2, hS.apart, fun t e φ h hf => ?_⟩
  obtain ⟨S, hSb, hsup⟩ := hS.fz t e φ h hf
  exact ⟨S, fun b hb1 => ⟨Nat.lt_of_lt_of_le (hSb b hb1).1 hb.size, (hSb b hb1).2⟩, hsup.keep fun b hb1 => hb.block b (hSb b hb1).1⟩

/-- What is known of fewer entries. -/
def Hp.Sub (H' H : Hp) : Prop := ∀ t e, H'.get t = some e → H.get t = some e
theorem Hp.Sub.nil {H : Hp} : Hp.Sub [] H := fun _ _ h => by simp [Hp.get] at h
theorem Hp.Sub.cons {H' H : Hp} {k : Nat} {v : Ent} (h : H.get k = some v) (hs : Hp.Sub H' H) : Hp.Sub ((k, v) :: H') H := by
  intro t u ht
  rcases Hp.get_cons ht with ⟨rfl, rfl⟩ | ⟨_, ht⟩
  · exact h
  · exact hs t u ht
theorem Hp.Sub.refl (H : Hp) : Hp.Sub H H := fun _ _ h => h
theorem Sep.sub {K : Nat → Prop} {w0 w : World} {H H' : Hp} (hS : Sep K w0 H w) (hs : Hp.Sub H' H) : Sep K w0 H' w :=
  ⟨hS.kp, hS.bs, fun t e h => hS.holds t e (hs t e h), fun t t' e e' b h h' => hS.apart t t' e e' b (hs t e h) (hs t' e' h'), fun t e φ h hf => by
    obtain ⟨S, hSb, hsup⟩ := hS.fz t e φ (hs _ _ h) hf
    exact ⟨S, fun b hb => ⟨(hSb b hb).1, (hSb b hb).2.1, fun t' e' h' => (hSb b hb).2.2 t' e' (hs _ _ h')⟩, hsup⟩⟩
theorem Sep.get_fz {K : Nat → Prop} {w0 w : World} {H : Hp} (hS : Sep K w0 H w) {t : Nat} {φ : World → Prop} (h : H.get t = some (.fz φ)) : φ w := by
  obtain ⟨S, _, hsup⟩ := hS.fz t _ φ h rfl
  exact hsup.self
theorem Sep.get_fn {K : Nat → Prop} {w0 w : World} {H : Hp} (hS : Sep K w0 H w) {t : Nat} {φ : World → Prop} (h : H.get t = some (.fn φ)) : φ w := by
  obtain ⟨S, _, hsup⟩ := hS.fz t _ φ h rfl
  exact hsup.self

/-! ### The judgement -/
/-- What stays the same in one call. -/
structure Cx where
  P : Program
  f : FuncId
  n : Nat
  K : Nat → Prop
  w0 : World
  R : Ending → World → Prop
  ds : List Deferred

def bf (f : FuncId) : Frame := { (default : Frame) with fn := f, kind := .normal }

def Run (C : Cx) (k : List Item) (a : Act) (w : World) : Prop :=
  ∀ cs, ∃ e w' fr, C.R e w' ∧ Comes C.P (lone ((bf C.f).at a k) cs w) (lone fr cs w') e ∧ fr.fn = C.f ∧ fr.leaving C.P w' e

theorem Run.of_steps {C : Cx} {k k' : List Item} {a a' : Act} {w w' : World} (hs : ∀ cs, Steps C.P (lone ((bf C.f).at a k) cs w) (lone ((bf C.f).at a' k') cs w')) (h : Run C k' a' w') : Run C k a w := by
  intro cs
  obtain ⟨e, w1, fr, hR, hc, hfn, hl⟩ := h cs
  exact ⟨e, w1, fr, hR, hc.of_steps (hs cs), hfn, hl⟩

def RunE (C : Cx) (k : List Item) (e : Env) (H : Hp) : Prop := ∀ a w, EnvOK C.ds C.n e a → Sep C.K C.w0 H w → Run C k a w

/-- What a region must come to. -/
def QN (q : Act → World → Prop) : Exit → Act → World → Prop := fun ex a w => ex = .normal ∧ q a w
def QK (C : Cx) (k : List Item) : Exit → Act → World → Prop := QN (Run C k)

def OpsE (C : Cx) (ops : Array Oper) (os : List Oper) (q : Act → World → Prop) (e : Env) (H : Hp) : Prop :=
  ∀ a w, EnvOK C.ds C.n e a → Sep C.K C.w0 H w → wpList C.P ops (QN q) os a w

section
variable {C : Cx} {k : List Item} {e : Env} {H : Hp}

theorem RunE.weaken {e' : Env} {H' : Hp} (he : Env.Sub e' e) (hh : Hp.Sub H' H) (h : RunE C k e' H') : RunE C k e H :=
  fun a w ha hw => h a w (ha.sub he) (hw.sub hh)
theorem OpsE.weaken {ops : Array Oper} {os : List Oper} {q : Act → World → Prop} {e' : Env} {H' : Hp} (he : Env.Sub e' e) (hh : Hp.Sub H' H) (h : OpsE C ops os q e' H') : OpsE C ops os q e H :=
  fun a w ha hw => h a w (ha.sub he) (hw.sub hh)

theorem r_of_code {c : Code} {k : List Item} {a : Act} {w : World} {C : Cx} (h : c.wp C.P (QK C k) a w) : Run C (.code c :: k) a w := by
  intro cs
  obtain ⟨ex, a', w', ⟨rfl, hr⟩, harr⟩ := h (bf C.f) k cs
  obtain ⟨e1, w1, fr, hR, hc, hfn, hl⟩ := hr cs
  exact ⟨e1, w1, fr, hR, hc.of_steps harr, hfn, hl⟩

theorem r_region {id : Nat} {os : List Oper} (h : OpsE C os.toArray os (Run C k) e H) : RunE C (.code (.region id os.toArray false) :: k) e H :=
  fun a w ha hw => r_of_code (wp_region_lit (h a w ha hw))

theorem r_seq {x y : Code} (h : RunE C (.code x :: .code y :: k) e H) : RunE C (.code (.seq x y) :: k) e H :=
  fun a w ha hw => (h a w ha hw).of_steps fun _ => .one step_seq
theorem r_skip (h : RunE C k e H) : RunE C (.code .skip :: k) e H := fun a w ha hw => (h a w ha hw).of_steps fun _ => .one step_skip
theorem r_label {l : Nat} (h : RunE C k e H) : RunE C (.code (.label l) :: k) e H := fun a w ha hw => (h a w ha hw).of_steps fun _ => .one step_label
theorem r_inBlock {id : Nat} (h : RunE C k e H) : RunE C (.inBlock id :: k) e H := fun a w ha hw => (h a w ha hw).of_steps fun _ => .one step_inBlock
theorem step_inScope {P : Program} {b : Frame} {a : Act} {k : List Item} {cs : List Frame} {w : World} {c : Code} : step P (lone (b.at a (.inScope c :: k)) cs w) = .next (lone (b.at a k) cs w) :=
  step_lone_go (by simp [stepG, stepG.exec, Frame.at])
theorem step_scope' {P : Program} {b : Frame} {a : Act} {k : List Item} {cs : List Frame} {w : World} {c : Code} : step P (lone (b.at a (.code (.scope c) :: k)) cs w) = .next (lone (b.at a (.code c :: .inScope c :: k)) cs w) :=
  step_lone_go (by simp [stepG, stepG.exec, Frame.at])
theorem r_inScope {c : Code} (h : RunE C k e H) : RunE C (.inScope c :: k) e H := fun a w ha hw => (h a w ha hw).of_steps fun _ => .one step_inScope
theorem r_scope {c : Code} (h : RunE C (.code c :: .inScope c :: k) e H) : RunE C (.code (.scope c) :: k) e H := fun a w ha hw => (h a w ha hw).of_steps fun _ => .one step_scope'
theorem r_block {id : Nat} {c : Code} (h : RunE C (.code c :: .inBlock id :: k) e H) : RunE C (.code (.block id c) :: k) e H := fun a w ha hw => (h a w ha hw).of_steps fun _ => .one step_block
theorem r_loop {c : Code} (h : RunE C (.code c :: .inLoop c :: k) e H) : RunE C (.code (.loop c) :: k) e H := fun a w ha hw => (h a w ha hw).of_steps fun _ => .one step_loop
theorem r_inLoop {c : Code} (h : RunE C (.code c :: .inLoop c :: k) e H) : RunE C (.inLoop c :: k) e H := fun a w ha hw => (h a w ha hw).of_steps fun _ => .one step_inLoop
theorem r_exit {id : Nat} {k' : List Item} (hx : exitTo id k = some k') (h : RunE C k' e H) : RunE C (.code (.exit id) :: k) e H := fun a w ha hw => (h a w ha hw).of_steps fun _ => .one (step_exit hx)
theorem r_goto {l : Nat} {k' : List Item} (hx : gotoIn l k = some k') (h : RunE C k' e H) : RunE C (.code (.goto l) :: k) e H := fun a w ha hw => (h a w ha hw).of_steps fun _ => .one (step_goto hx)

/-- A loop: 'I' holds at its head, 'μ' goes down. -/
theorem r_rounds {ι : Type} {c : Code} (E : ι → Env) (G : ι → Hp) (I : ι → Prop) (μ : ι → Nat)
    (step : ∀ x, I x → (∀ y, I y → μ y < μ x → RunE C (.code c :: .inLoop c :: k) (E y) (G y)) → RunE C (.code c :: .inLoop c :: k) (E x) (G x)) :
    ∀ x, I x → RunE C (.code c :: .inLoop c :: k) (E x) (G x) := by
  have key : ∀ n x, μ x = n → I x → RunE C (.code c :: .inLoop c :: k) (E x) (G x) := by
    intro n
    induction n using Nat.strongRecOn with
    | _ n ih =>
      intro x hn hI
      exact step x hI fun y hy hlt => ih (μ y) (hn ▸ hlt) y rfl hy
  exact fun x hI => key _ x rfl hI

theorem r_rounds2 {ι κ : Type} {c : Code} (E : ι → κ → Env) (G : ι → κ → Hp) (I : ι → κ → Prop) (μ : ι → κ → Nat)
    (step : ∀ x x2, I x x2 → (∀ y y2, I y y2 → μ y y2 < μ x x2 → RunE C (.code c :: .inLoop c :: k) (E y y2) (G y y2)) → RunE C (.code c :: .inLoop c :: k) (E x x2) (G x x2)) :
    ∀ x x2, I x x2 → RunE C (.code c :: .inLoop c :: k) (E x x2) (G x x2) := fun x x2 h =>
  r_rounds (ι := ι × κ) (fun z => E z.1 z.2) (fun z => G z.1 z.2) (fun z => I z.1 z.2) (fun z => μ z.1 z.2) (fun z hz ih => step z.1 z.2 hz fun y y2 hy hlt => ih (y, y2) hy hlt) (x, x2) h
theorem r_rounds3 {ι κ ν : Type} {c : Code} (E : ι → κ → ν → Env) (G : ι → κ → ν → Hp) (I : ι → κ → ν → Prop) (μ : ι → κ → ν → Nat)
    (step : ∀ x x2 x3, I x x2 x3 → (∀ y y2 y3, I y y2 y3 → μ y y2 y3 < μ x x2 x3 → RunE C (.code c :: .inLoop c :: k) (E y y2 y3) (G y y2 y3)) → RunE C (.code c :: .inLoop c :: k) (E x x2 x3) (G x x2 x3)) :
    ∀ x x2 x3, I x x2 x3 → RunE C (.code c :: .inLoop c :: k) (E x x2 x3) (G x x2 x3) := fun x x2 x3 h =>
  r_rounds (ι := ι × κ × ν) (fun z => E z.1 z.2.1 z.2.2) (fun z => G z.1 z.2.1 z.2.2) (fun z => I z.1 z.2.1 z.2.2) (fun z => μ z.1 z.2.1 z.2.2) (fun z hz ih => step z.1 z.2.1 z.2.2 hz fun y y2 y3 hy hlt => ih (y, y2, y3) hy hlt) (x, x2, x3) h
theorem r_rounds4 {ι κ ν ο : Type} {c : Code} (E : ι → κ → ν → ο → Env) (G : ι → κ → ν → ο → Hp) (I : ι → κ → ν → ο → Prop) (μ : ι → κ → ν → ο → Nat)
    (step : ∀ x x2 x3 x4, I x x2 x3 x4 → (∀ y y2 y3 y4, I y y2 y3 y4 → μ y y2 y3 y4 < μ x x2 x3 x4 → RunE C (.code c :: .inLoop c :: k) (E y y2 y3 y4) (G y y2 y3 y4)) → RunE C (.code c :: .inLoop c :: k) (E x x2 x3 x4) (G x x2 x3 x4)) :
    ∀ x x2 x3 x4, I x x2 x3 x4 → RunE C (.code c :: .inLoop c :: k) (E x x2 x3 x4) (G x x2 x3 x4) := fun x x2 x3 x4 h =>
  r_rounds (ι := ι × κ × ν × ο) (fun z => E z.1 z.2.1 z.2.2.1 z.2.2.2) (fun z => G z.1 z.2.1 z.2.2.1 z.2.2.2) (fun z => I z.1 z.2.1 z.2.2.1 z.2.2.2) (fun z => μ z.1 z.2.1 z.2.2.1 z.2.2.2) (fun z hz ih => step z.1 z.2.1 z.2.2.1 z.2.2.2 hz fun y y2 y3 y4 hy hlt => ih (y, y2, y3, y4) hy hlt) (x, x2, x3, x4) h

/-- Ways meet: what holds where they meet is proved once. -/
theorem o_cut {ops : Array Oper} {os : List Oper} (e' : Env) (H' : Hp) (h : RunE C k e' H') (h1 : RunE C k e' H' → OpsE C ops os (Run C k) e H) : OpsE C ops os (Run C k) e H := h1 h
theorem r_cut {x : Item} (e' : Env) (H' : Hp) (h : RunE C k e' H') (h1 : RunE C k e' H' → RunE C (x :: k) e H) : RunE C (x :: k) e H := h1 h
theorem Env.Sub.consE {e' e : Env} {k : Nat} {v v' : Value} (h : e.get k = some v') (hv : v' = v) (hs : Env.Sub e' e) : Env.Sub ((k, v) :: e') e := Env.Sub.cons (hv ▸ h) hs
theorem RunE.derive {t t' : Nat} {φ ψ : World → Prop} (h : H.get t = some (.fz φ)) (hi : ∀ w, φ w → ψ w) (hs : ∀ {K : Nat → Prop} {w0 w : World}, Sep K w0 H w → Sep K w0 ((t', .fz ψ) :: H) w) (hr : RunE C k e ((t', .fz ψ) :: H)) : RunE C k e H :=
  fun a w ha hw => hr a w ha (hs hw)

/-- A test, its outcome not known. -/
theorem r_if {c : Operand} {x y : Code} {φ : Prop} {inst : Decidable φ} (hc : e.op c = some (.bool (@decide φ inst))) (ht : φ → RunE C (.code x :: k) e H) (hf : ¬ φ → RunE C (.code y :: k) e H) : RunE C (.code (.cond c x y) :: k) e H := by
  intro a w ha hw
  by_cases hp : φ
  · exact (ht hp a w ha hw).of_steps fun _ => .one (step_cond (t := true) ((ha.op hc).trans (by rw [decide_eq_true hp])))
  · exact (hf hp a w ha hw).of_steps fun _ => .one (step_cond (t := false) ((ha.op hc).trans (by rw [decide_eq_false hp])))
theorem r_ifb {c : Operand} {x y : Code} {b : Bool} (hc : e.op c = some (.bool b)) (ht : b = true → RunE C (.code x :: k) e H) (hf : b = false → RunE C (.code y :: k) e H) : RunE C (.code (.cond c x y) :: k) e H := by
  intro a w ha hw
  cases b with
  | true => exact (ht rfl a w ha hw).of_steps fun _ => .one (step_cond (t := true) (ha.op hc))
  | false => exact (hf rfl a w ha hw).of_steps fun _ => .one (step_cond (t := false) (ha.op hc))
theorem r_ift {c : Operand} {x y : Code} (hc : e.op c = some (.bool true)) (h : RunE C (.code x :: k) e H) : RunE C (.code (.cond c x y) :: k) e H :=
  fun a w ha hw => (h a w ha hw).of_steps fun _ => .one (step_cond (t := true) (ha.op hc))
theorem r_iff {c : Operand} {x y : Code} (hc : e.op c = some (.bool false)) (h : RunE C (.code y :: k) e H) : RunE C (.code (.cond c x y) :: k) e H :=
  fun a w ha hw => (h a w ha hw).of_steps fun _ => .one (step_cond (t := false) (ha.op hc))

/-- What the result variables hold. -/
def resVal (e : Env) (w : World) : ResultVar → Option Value
  | .tmp t => e.get t
  | .cell _ _ => none
theorem r_ret {fn : Func} {v : Value} (hf : C.P.funcs[C.f]? = some fn) (hr : ∀ a w, EnvOK C.ds C.n e a → Sep C.K C.w0 H w → (results fn a.tmps).run C.P w = .ok v w)
    (hR : ∀ w, Sep C.K C.w0 H w → C.R (.returned v) w) (hds : C.ds = [] := by rfl) : RunE C (.code .ret :: k) e H := by
  intro a w ha hw cs
  refine ⟨.returned v, w, _, hR w hw, .one step_ret, rfl, rfl, ha.defers.trans hds, rfl, fn, hf, ?_⟩
  exact hr a w ha hw
theorem r_end {fn : Func} {v : Value} (hf : C.P.funcs[C.f]? = some fn) (hr : ∀ a w, EnvOK C.ds C.n e a → Sep C.K C.w0 H w → (results fn a.tmps).run C.P w = .ok v w)
    (hR : ∀ w, Sep C.K C.w0 H w → C.R (.returned v) w) (hds : C.ds = [] := by rfl) : RunE C [] e H := by
  intro a w ha hw cs
  refine ⟨.returned v, w, _, hR w hw, .one step_end, rfl, rfl, ha.defers.trans hds, rfl, fn, hf, ?_⟩
  exact hr a w ha hw
end
end Go.Proofs.YtecibcjckinngaaGreatDoor
/- The operations that change no memory, one lemma an operation; and how a sequential region takes them. -/
set_option linter.unusedVariables false
namespace Go.Proofs.YtecibcjckinngaaGreatDoor
open Go Go.RowKit

def Quiet (C : Cx) (e : Env) (H : Hp) (o : Oper) (v : Value) : Prop :=
  ∀ a w, EnvOK C.ds C.n e a → Sep C.K C.w0 H w → (execOp a.eval o).run C.P w = .ok (.value v) w

section
variable {C : Cx} {k : Act → World → Prop} {e : Env} {H : Hp} {ops : Array Oper} {os : List Oper} {d : Nat} {op : Op} {t : TypeId} {p : String} {af : Array Edge} {g : Option (Nat × Bool)} {v : Value}

/-- One operation of a sequential region, not guarded, that changes no memory. -/
theorem s1 (hdn : Nat.blt d C.n = true) (hq : Quiet C e H ⟨some d, op, t, p, af, none⟩ v) (h : OpsE C ops os k ((d, v) :: e) H) :
    OpsE C ops (⟨some d, op, t, p, af, none⟩ :: os) k e H := by
  intro a w ha hw
  simp only [wpList, Region.wanted, if_true]
  refine .inl ?_
  simp only [Oper.wp, hq a w ha hw, Oper.upon]
  exact h _ w (ha.put hdn v) hw

theorem o_end {k : List Item} (h : RunE C k e H) : OpsE C ops [] (Run C k) e H := fun a w ha hw => ⟨rfl, h a w ha hw⟩
theorem o_endq (h : ∀ a w, EnvOK C.ds C.n e a → Sep C.K C.w0 H w → k a w) : OpsE C ops [] k e H := fun a w ha hw => ⟨rfl, h a w ha hw⟩

theorem yielded_of {ops : Array Oper} {j s : Nat} {a : Act} {ds : List Deferred} {n : Nat} {e : Env} {b : Bool} (ha : EnvOK ds n e a) (hj : (ops[j]?).bind (·.dst) = some s) (hs : e.get s = some (.bool b)) : yielded ops a.tmps j = some b := by
  obtain ⟨hlt, hv⟩ := ha.get s _ hs
  have hsz : s < a.tmps.size := by rw [ha.size]; exact hlt
  have : a.tmps[s]? = some (.bool b) := by
    rw [Array.getD_eq_getD_getElem?, Array.getElem?_eq_getElem hsz] at hv
    rw [Array.getElem?_eq_getElem hsz]
    exact congrArg some hv
  simp [yielded, hj, this]

/-- A guard that says yes. -/
theorem g_on {dst : Option Nat} {j s : Nat} {b : Bool} (hj : (ops[j]?).bind (·.dst) = some s) (hs : e.get s = some (.bool b)) (h : OpsE C ops (⟨dst, op, t, p, af, none⟩ :: os) k e H) :
    OpsE C ops (⟨dst, op, t, p, af, some (j, b)⟩ :: os) k e H := by
  intro a w ha hw
  have := h a w ha hw
  simp only [wpList, Region.wanted, yielded_of ha hj hs, beq_self_eq_true, if_true] at this ⊢
  exact this
/-- A guard that says no. -/
theorem g_off {j s : Nat} {b : Bool} (hj : (ops[j]?).bind (·.dst) = some s) (hs : e.get s = some (.bool (!b))) (hdn : Nat.blt d C.n = true) (h : OpsE C ops os k ((d, undef) :: e) H) :
    OpsE C ops (⟨some d, op, t, p, af, some (j, b)⟩ :: os) k e H := by
  intro a w ha hw
  have hw' : (some (!b) == some b) = false := by cases b <;> rfl
  simp only [wpList, Region.wanted, yielded_of ha hj hs, hw', Bool.false_eq_true, if_false]
  exact h _ w (ha.put hdn undef) hw
/-- A guard whose outcome isn't known. -/
theorem g_split {o : Oper} {s : Nat} {φ : Prop} {inst : Decidable φ} (hs : e.get s = some (.bool (@decide φ inst))) (ht : φ → OpsE C ops (o :: os) k ((s, .bool true) :: e) H) (hf : ¬ φ → OpsE C ops (o :: os) k ((s, .bool false) :: e) H) :
    OpsE C ops (o :: os) k e H := by
  intro a w ha hw
  have sub : ∀ b, decide φ = b → EnvOK C.ds C.n ((s, .bool b) :: e) a := fun b hb => by
    refine ⟨ha.size, ha.defers, fun t v ht => ?_⟩
    simp only [Env.get] at ht
    cases hh : Nat.beq s t with
    | true =>
      rw [hh] at ht
      obtain rfl := Nat.eq_of_beq_eq_true hh
      obtain rfl := Option.some.inj ht
      rw [← hb]
      exact ha.get s _ hs
    | false => rw [hh] at ht; exact ha.get t v ht
  by_cases hp : φ
  · exact ht hp a w (sub true (decide_eq_true hp)) hw
  · exact hf hp a w (sub false (decide_eq_false hp)) hw
theorem g_splitb {o : Oper} {s : Nat} {b : Bool} (hs : e.get s = some (.bool b)) (ht : b = true → OpsE C ops (o :: os) k ((s, .bool true) :: e) H) (hf : b = false → OpsE C ops (o :: os) k ((s, .bool false) :: e) H) :
    OpsE C ops (o :: os) k e H := by
  refine g_split (φ := b = true) (inst := instDecidableEqBool b true) (s := s) (by rw [hs]; simp) ht (fun h => hf (by simpa using h))
theorem s_out {os' : List Oper} {e' : Env} {H' : Hp} (he : Env.Sub e' e) (hh : Hp.Sub H' H) (h : OpsE C ops os k e' H') : OpsE C ops os k e H := h.weaken he hh

/-! ### The lemmas -/
theorem q_move {x : Operand} (hx : e.op x = some v) : Quiet C e H ⟨some d, .move x, t, p, af, g⟩ v := fun a w ha _ => by simp [execOp, ha.op hx]
theorem q_assign {x : Operand} (hx : e.op x = some v) : Quiet C e H ⟨some d, .assign x, t, p, af, g⟩ v := fun a w ha _ => by simp [execOp, ha.op hx]
theorem q_pickt {c x y : Operand} (hc : e.op c = some (.bool true)) (hx : e.op x = some v) : Quiet C e H ⟨some d, .pick c x y, t, p, af, g⟩ v := fun a w ha _ => by
  simp [execOp, ha.op hx, ha.op hc, asBool]
theorem q_pickf {c x y : Operand} (hc : e.op c = some (.bool false)) (hx : e.op y = some v) : Quiet C e H ⟨some d, .pick c x y, t, p, af, g⟩ v := fun a w ha _ => by
  simp [execOp, ha.op hx, ha.op hc, asBool]

theorem run_sizeOf1 {P : Program} {t : TypeId} {s : Nat} (h : P.cellsOf t = s) (hp : 0 < s) (w : World) : (sizeOf t).run P w = .ok s w := by
  unfold Program.cellsOf at h
  cases hi : P.info? t with
  | none => rw [hi] at h; simp at h; omega
  | some i => rw [hi] at h; simp at h; simp [sizeOf, typeInfo, hi, h]

theorem q_fieldAddr {x : Operand} {a : Addr} {i off s : Nat} {ty : TypeId} (ho : (C.P.underlying ty).bind (fun | .struct fs => (fs[i]?).map (fun f => (f.offset, C.P.cellsOf f.type)) | _ => none) = some (off, s)) (hs : Nat.blt 0 s = true)
    (hx : e.op x = some (.pointer (some a))) : Quiet C e H ⟨some d, .fieldAddr ty x i, t, p, af, g⟩ (.pointer (some (a.add off))) := fun act w ha _ => by
  have hs' : 0 < s := by simpa using hs
  cases hu : C.P.underlying ty with
  | none => rw [hu] at ho; cases ho
  | some dd =>
    rw [hu] at ho
    cases dd <;> simp only [Option.bind_some] at ho <;> try cases ho
    rename_i fs
    cases hf : fs[i]? with
    | none => rw [hf] at ho; cases ho
    | some f =>
      rw [hf] at ho
      simp only [Option.map_some, Option.some.injEq, Prod.mk.injEq] at ho
      obtain ⟨rfl, hs2⟩ := ho
      have hz := run_sizeOf1 (P := C.P) hs2 hs' w
      have hne : s ≠ 0 := by omega
      simp [execOp, ha.op hx, Instr.fieldAt, run_underlying hu, hf, Instr.sureAddr, fieldPlace, hz, hne]

theorem q_indexAddr {x y : Operand} {ty el : TypeId} {sz : Nat} {ad : Option Addr} {n c : Nat} {kk : IntKind} {j : Int} (hu : C.P.underlying ty = some (.slice el)) (hz : C.P.cellsOf el = sz) (hzp : Nat.blt 0 sz = true)
    (hx : e.op x = some (.slice ad n c)) (hy : e.op y = some (.int kk j)) (h0 : 0 ≤ j) (h1 : j < n) (hs : ∀ w, Sep C.K C.w0 H w → ad.isSome = true) :
    Quiet C e H ⟨some d, .indexAddr ty x y, t, p, af, g⟩ (.pointer (some ((ad.getD ⟨0, 0, none⟩).add (j.toNat * sz)))) := fun act w ha hw => by
  obtain ⟨a, rfl⟩ := Option.isSome_iff_exists.1 (hs w hw)
  have hsz := run_sizeOf1 (P := C.P) hz (by simpa using hzp) w
  simp [execOp, ha.op hx, ha.op hy, Instr.indexAt, asIntOf, run_underlying hu, h0, h1, hsz]

theorem run_loadCells1 {P : Program} {w : World} {a : Addr} {cs : List Value} (h : ∀ j v, cs[j]? = some v → w.cell? (a.add j) = some v) : (loadCells a cs.length).run P w = .ok cs.toArray w := run_loadCells_list w a cs h

/-- A load of one cell. -/
theorem q_load {x : Operand} {ty : TypeId} {a : Addr} (hu : (C.P.underlying ty).map (fun | .struct _ | .array _ _ => true | _ => false) = some false) (hx : e.op x = some (.pointer (some a)))
    (hc : ∀ w, Sep C.K C.w0 H w → w.cell? a = some v) : Quiet C e H ⟨some d, .load ty x, t, p, af, g⟩ v := fun act w ha hw => by
  cases h : C.P.underlying ty with
  | none => rw [h] at hu; cases hu
  | some dd =>
    rw [h] at hu
    cases dd <;> simp only [Option.map_some, Option.some.injEq, Bool.true_eq_false] at hu <;>
      simp [execOp, ha.op hx, Instr.loadAt, Instr.sureAddr, loadVar, isAgg, run_underlying h, load, Sem.run, hc w hw]
/-- A load of a struct, cell by cell. -/
theorem q_loads {x : Operand} {ty : TypeId} {a : Addr} {cs : List Value} (hu : (C.P.underlying ty).map (fun | .struct _ | .array _ _ => true | _ => false) = some true) (hz : C.P.cellsOf ty = cs.length) (hzp : Nat.blt 0 cs.length = true) (hx : e.op x = some (.pointer (some a)))
    (hc : ∀ w, Sep C.K C.w0 H w → ∀ j v, cs[j]? = some v → w.cell? (a.add j) = some v) : Quiet C e H ⟨some d, .load ty x, t, p, af, g⟩ (.agg cs.toArray) := fun act w ha hw => by
  have hsz := run_sizeOf1 (P := C.P) hz (by simpa using hzp) w
  have hl := run_loadCells1 (P := C.P) (hc w hw)
  cases h : C.P.underlying ty with
  | none => rw [h] at hu; cases hu
  | some dd =>
    rw [h] at hu
    cases dd <;> simp only [Option.map_some, Option.some.injEq, Bool.false_eq_true] at hu <;>
      simp [execOp, ha.op hx, Instr.loadAt, Instr.sureAddr, loadVar, isAgg, run_underlying h, hsz, hl]

theorem q_len {x : Operand} {ty el : TypeId} {ad : Option Addr} {n c : Nat} (hu : C.P.underlying ty = some (.slice el)) (hx : e.op x = some (.slice ad n c)) :
    Quiet C e H ⟨some d, .call { callee := .builtin .len, args := #[x], argTypes := #[ty] }, t, p, af, g⟩ (.int .i64 n) := fun act w ha hw => by
  simp [execOp, resolve, invoke, builtin, ha.op hx, Builtin.len_, run_underlying hu, goInt]
theorem q_cap {x : Operand} {ty el : TypeId} {ad : Option Addr} {n c : Nat} (hu : C.P.underlying ty = some (.slice el)) (hx : e.op x = some (.slice ad n c)) :
    Quiet C e H ⟨some d, .call { callee := .builtin .cap, args := #[x], argTypes := #[ty] }, t, p, af, g⟩ (.int .i64 c) := fun act w ha hw => by
  simp [execOp, resolve, invoke, builtin, ha.op hx, Builtin.cap_, run_underlying hu, goInt]
theorem q_lens {x : Operand} {ty : TypeId} {s : ByteArray} (hu : C.P.underlying ty = some .string) (hx : e.op x = some (.string s)) :
    Quiet C e H ⟨some d, .call { callee := .builtin .len, args := #[x], argTypes := #[ty] }, t, p, af, g⟩ (.int .i64 s.size) := fun act w ha hw => by
  simp [execOp, resolve, invoke, builtin, ha.op hx, Builtin.len_, run_underlying hu, goInt]

section cmp
variable {x y : Operand} {kk : IntKind} {m n : Int} {t1 t2 : TypeId}
theorem q_lss (hx : e.op x = some (.int kk m)) (hy : e.op y = some (.int kk n)) : Quiet C e H ⟨some d, .binOp .lss t1 x y t2, t, p, af, g⟩ (.bool (decide (m < n))) := fun act w ha hw => by
  simp [execOp, ha.op hx, ha.op hy, eqGuard, binOp, Op.intCmp]
theorem q_leq (hx : e.op x = some (.int kk m)) (hy : e.op y = some (.int kk n)) : Quiet C e H ⟨some d, .binOp .leq t1 x y t2, t, p, af, g⟩ (.bool (decide (m ≤ n))) := fun act w ha hw => by
  simp [execOp, ha.op hx, ha.op hy, eqGuard, binOp, Op.intCmp]
theorem q_gtr (hx : e.op x = some (.int kk m)) (hy : e.op y = some (.int kk n)) : Quiet C e H ⟨some d, .binOp .gtr t1 x y t2, t, p, af, g⟩ (.bool (decide (n < m))) := fun act w ha hw => by
  simp [execOp, ha.op hx, ha.op hy, eqGuard, binOp, Op.intCmp]
theorem q_geq (hx : e.op x = some (.int kk m)) (hy : e.op y = some (.int kk n)) : Quiet C e H ⟨some d, .binOp .geq t1 x y t2, t, p, af, g⟩ (.bool (decide (n ≤ m))) := fun act w ha hw => by
  simp [execOp, ha.op hx, ha.op hy, eqGuard, binOp, Op.intCmp]
theorem q_eql (hx : e.op x = some (.int kk m)) (hy : e.op y = some (.int kk n)) : Quiet C e H ⟨some d, .binOp .eql t1 x y t2, t, p, af, g⟩ (.bool (decide (m = n))) := fun act w ha hw => by
  simp [execOp, ha.op hx, ha.op hy, eqGuard, binOp, Op.intCmp]
  rfl
theorem q_neq (hx : e.op x = some (.int kk m)) (hy : e.op y = some (.int kk n)) : Quiet C e H ⟨some d, .binOp .neq t1 x y t2, t, p, af, g⟩ (.bool (decide (m ≠ n))) := fun act w ha hw => by
  simp [execOp, ha.op hx, ha.op hy, eqGuard, binOp, Op.intCmp]
  rfl
end cmp
section arith
variable {x y : Operand} {m n : Int} {t1 t2 : TypeId}
theorem wrap_i64 {n : Int} (h : -9223372036854775808 ≤ n ∧ n ≤ 9223372036854775807) : IntKind.i64.wrap n = n := by
  exact IntWalk.i64_in _ (by omega)
theorem q_add (hx : e.op x = some (.int .i64 m)) (hy : e.op y = some (.int .i64 n)) (hr : -9223372036854775808 ≤ m + n ∧ m + n ≤ 9223372036854775807) : Quiet C e H ⟨some d, .binOp .add t1 x y t2, t, p, af, g⟩ (.int .i64 (m + n)) := fun act w ha hw => by
  simp [execOp, ha.op hx, ha.op hy, eqGuard, binOp, Op.intArith, wrap_i64 hr]
theorem q_sub (hx : e.op x = some (.int .i64 m)) (hy : e.op y = some (.int .i64 n)) (hr : -9223372036854775808 ≤ m - n ∧ m - n ≤ 9223372036854775807) : Quiet C e H ⟨some d, .binOp .sub t1 x y t2, t, p, af, g⟩ (.int .i64 (m - n)) := fun act w ha hw => by
  simp [execOp, ha.op hx, ha.op hy, eqGuard, binOp, Op.intArith, wrap_i64 hr]
theorem q_mul (hx : e.op x = some (.int .i64 m)) (hy : e.op y = some (.int .i64 n)) (hr : -9223372036854775808 ≤ m * n ∧ m * n ≤ 9223372036854775807) : Quiet C e H ⟨some d, .binOp .mul t1 x y t2, t, p, af, g⟩ (.int .i64 (m * n)) := fun act w ha hw => by
  simp [execOp, ha.op hx, ha.op hy, eqGuard, binOp, Op.intArith, wrap_i64 hr]
variable {kk : IntKind}
theorem q_addk (hx : e.op x = some (.int kk m)) (hy : e.op y = some (.int kk n)) : Quiet C e H ⟨some d, .binOp .add t1 x y t2, t, p, af, g⟩ (.int kk (kk.wrap (m + n))) := fun act w ha hw => by
  simp [execOp, ha.op hx, ha.op hy, eqGuard, binOp, Op.intArith]
theorem q_subk (hx : e.op x = some (.int kk m)) (hy : e.op y = some (.int kk n)) : Quiet C e H ⟨some d, .binOp .sub t1 x y t2, t, p, af, g⟩ (.int kk (kk.wrap (m - n))) := fun act w ha hw => by
  simp [execOp, ha.op hx, ha.op hy, eqGuard, binOp, Op.intArith]
theorem q_mulk (hx : e.op x = some (.int kk m)) (hy : e.op y = some (.int kk n)) : Quiet C e H ⟨some d, .binOp .mul t1 x y t2, t, p, af, g⟩ (.int kk (kk.wrap (m * n))) := fun act w ha hw => by
  simp [execOp, ha.op hx, ha.op hy, eqGuard, binOp, Op.intArith]
end arith
theorem q_not {x : Operand} {t1 : TypeId} {φ : Prop} {inst : Decidable φ} (hx : e.op x = some (.bool (@decide φ inst))) : Quiet C e H ⟨some d, .unOp .not t1 x, t, p, af, g⟩ (.bool (decide (¬ φ))) := fun act w ha hw => by
  simp [execOp, ha.op hx, Op.unary]
theorem q_notb {x : Operand} {t1 : TypeId} {b : Bool} (hx : e.op x = some (.bool b)) : Quiet C e H ⟨some d, .unOp .not t1 x, t, p, af, g⟩ (.bool (!b)) := fun act w ha hw => by
  simp [execOp, ha.op hx, Op.unary]
theorem q_extract {x : Operand} {i : Nat} {vs : Array Value} (hx : e.op x = some (.tuple vs)) (hv : vs[i]? = some v) : Quiet C e H ⟨some d, .extract x i, t, p, af, g⟩ v := fun act w ha hw => by
  simp [execOp, ha.op hx, Instr.extract, hv]
theorem q_nil {x : Operand} {a : Addr} (hx : e.op x = some (.pointer (some a))) : Quiet C e H ⟨some d, .nilCheck x, t, p, af, g⟩ (.pointer (some a)) := fun act w ha hw => by
  simp [execOp, ha.op hx]
theorem q_func {fn : Fn} {first captured : Array Operand} {vs us : Array Value} (h1 : ∀ a, EnvOK C.ds C.n e a → first.map a.eval = vs) (h2 : ∀ a, EnvOK C.ds C.n e a → captured.map a.eval = us) :
    Quiet C e H ⟨some d, .makeFunc fn first captured, t, p, af, g⟩ (.func fn vs us) := fun act w ha hw => by
  simp [execOp, Instr.makeFunc, h1 act ha, h2 act ha]
end
end Go.Proofs.YtecibcjckinngaaGreatDoor
/- The operations that make or change memory: boxes, stores, rows, append, make; calls. -/
set_option linter.unusedVariables false
namespace Go.Proofs.YtecibcjckinngaaGreatDoor
open Go Go.RowKit

theorem add0 (g n : Nat) : (⟨g, 0, none⟩ : Addr).add n = ⟨g, n, none⟩ := by unfold Addr.add; split <;> simp_all
theorem addn (g o n : Nat) : (⟨g, o, none⟩ : Addr).add n = ⟨g, o + n, none⟩ := Addr.add_lit g o n
theorem addadd (a : Addr) (m n : Nat) (h : a.spot = none) : (a.add m).add n = a.add (m + n) := by
  cases a with
  | mk b o s => simp only at h; subst h; rw [addn, addn, addn, Nat.add_assoc]

/-! ### Rows -/
theorem row_cell {K : Nat → Prop} {w : World} {el : TypeId} {sz : Nat} {a : Option Addr} {n c : Nat} {xs : List Value} (h : (Ent.row el sz a n c xs).holds K w) {j : Nat} {u : Value} (hu : xs[j]? = some u) :
    ∃ ad, a = some ad ∧ ad.spot = none ∧ w.cell? (ad.add j) = some u := by
  obtain ⟨hl, hnc, hm, hh⟩ := h
  rcases hh with ⟨rfl, rfl, _⟩ | ⟨g, off, cur, rfl, hg, hcur, hsz, htake⟩
  · have : xs = [] := List.eq_nil_of_length_eq_zero (by simpa using hl)
    subst this
    simp at hu
  · refine ⟨_, rfl, rfl, ?_⟩
    rw [addn, cell_of_row w g (off + j) cur el (0, 0) hcur]
    rw [← htake, List.getElem?_take] at hu
    split at hu
    · rw [List.getElem?_drop] at hu
      simpa using hu
    · cases hu
theorem row_some {K : Nat → Prop} {w : World} {el : TypeId} {sz : Nat} {a : Option Addr} {n c : Nat} {xs : List Value} (h : (Ent.row el sz a n c xs).holds K w) (hn : 0 < n) : a.isSome = true := by
  obtain ⟨hl, hnc, hm, hh⟩ := h
  rcases hh with ⟨rfl, rfl, _⟩ | ⟨g, off, cur, rfl, _⟩
  · omega
  · rfl

theorem run_append_row {P : Program} {w : World} {K : Nat → Prop} {t ty el : TypeId} {z : Value} {sz bytes : Nat} (ht : P.underlying t = some (.slice el)) (hinfo : (P.info? el).map (fun i => (i.zero, i.size, i.bytes)) = some (some z, sz, bytes))
    (hz : z.cells.size = sz) (hsz : 0 < sz) (hby : 0 < bytes) {a : Option Addr} {n c : Nat} {xs : List Value} (hrow : (Ent.row el sz a n c xs).holds K w) (hbase : ¬ K w.heap.size)
    {b : Option Addr} {m c2 : Nat} {news : List Value} (hl : news.length = m * sz) (hsrc : ∀ j u, news[j]? = some u → ∃ ad, b = some ad ∧ w.cell? (ad.add j) = some u) (h1 : ∀ u ∈ news, u.oneCell' = true)
    (hbound : (n + m) * bytes ≤ 140737488355328) :
    ∃ a' c' w', (Builtin.append_ #[t, t] ty #[.slice a n c, .slice b m c2]).run P w = .ok (.slice a' (n + m) c') w' ∧ (Ent.row el sz a' (n + m) c' (xs ++ news)).holds K w' ∧ w.grownBy w' (a.map (·.block)) ∧
      (∀ k, a'.map (·.block) = some k → w.heap.size ≤ k ∨ a.map (·.block) = some k) := by
  obtain ⟨i, hi, hii⟩ := Option.map_eq_some_iff.1 hinfo
  simp only [Prod.mk.injEq] at hii
  obtain ⟨hz0, hz1, hz2⟩ := hii
  have hrow' := hrow
  obtain ⟨hxl, hnc, hcm, hh⟩ := hrow
  have hsmall : n + m ≤ 140737488355328 := Nat.le_trans (Nat.le_mul_of_pos_right _ hby) hbound
  have hsmall' : n + m ≤ maxLen := by simp only [maxLen]; omega
  have hlen : (xs ++ news).length = (n + m) * sz := by rw [List.length_append, hxl, hl, Nat.add_mul]
  by_cases hm0 : m = 0
  · subst hm0
    have hn0 : news = [] := List.eq_nil_of_length_eq_zero (by simpa using hl)
    subst hn0
    refine ⟨a, c, w, ?_, by simpa using hrow', ⟨rfl, rfl, rfl, Nat.le_refl _, fun _ _ _ => rfl⟩, fun k hk => .inr hk⟩
    cases a with
    | none => cases b <;> simp [Builtin.append_, run_underlying ht, sizeOf, typeInfo, hi, Builtin.lenOf, Builtin.firstCells, loadCells, loadCellsFrom, hnc]
    | some ad => cases b <;> simp [Builtin.append_, run_underlying ht, sizeOf, typeInfo, hi, Builtin.lenOf, Builtin.firstCells, loadCells, loadCellsFrom, hnc, storeCells]
  have hmp : 0 < m := Nat.pos_of_ne_zero hm0
  have hbs : ∃ ad, b = some ad := by
    cases hn : news with
    | nil => rw [hn] at hl; simp at hl; rcases Nat.mul_eq_zero.1 hl.symm with h | h <;> omega
    | cons u us => obtain ⟨ad, h, _⟩ := hsrc 0 u (by rw [hn]; rfl); exact ⟨ad, h⟩
  obtain ⟨bd, rfl⟩ := hbs
  have hnews : ∀ j u, news[j]? = some u → w.cell? (bd.add j) = some u := fun j u hu => by
    obtain ⟨ad, h, hc⟩ := hsrc j u hu
    cases h
    exact hc
  have grown : ∀ old row,  old < n + m → (Ent.row el sz (some ⟨w.heap.size, 0, none⟩) (n + m) (grownCap w (n + m) old el) (xs ++ news)).holds K (w.drew.alloc (.cells (xs.toArray ++ news.toArray ++ Builtin.zeroCells z.cells (grownCap w (n + m) old el - (n + m))) el)) ∧
      w.grownBy (w.drew.alloc (.cells (xs.toArray ++ news.toArray ++ Builtin.zeroCells z.cells (grownCap w (n + m) old el - (n + m))) el)) row := by
    intro old row ho
    have hge := grownCap_ge w (n + m) old el
    have hcm := grownCap_le_maxLen w (n + m) old el hsmall'
    refine ⟨⟨hlen, hge, hcm, .inr ⟨w.heap.size, 0, _, rfl, hbase, heap_alloc_new w.drew _, ?_, ?_⟩⟩, ⟨rfl, rfl, rfl, by simp, fun k hk _ => Go.heap_alloc_old w.drew _ hk⟩⟩
    · simp only [Array.size_append, List.size_toArray, size_zeroCells, hz, hxl, hl, ← Nat.add_mul]
      rw [Nat.zero_add]
      exact Nat.mul_le_mul_right _ (by omega)
    · simp only [Array.toList_append, List.append_assoc, List.drop_zero]
      rw [← List.append_assoc, ← hlen]
      exact List.take_left
  rcases hh with ⟨rfl, rfl, rfl⟩ | ⟨g, off, cur, rfl, hbg, hg, hcs, htake⟩
  · have hx : xs = [] := List.eq_nil_of_length_eq_zero (by simpa using hxl)
    subst hx
    have hr := run_append_nil (P := P) w t ty el i z ht hi hz0 bd m c2 news (by rw [hz1]; exact hl) hnews hmp (by omega) (by rw [hz2]; have hb := hbound; simp only [Nat.zero_add] at hb; omega)
    have hgr := grown 0 ((none : Option Addr).map (·.block)) (by omega)
    simp only [Nat.zero_add, List.nil_append, Array.empty_append] at hgr ⊢
    refine ⟨_, _, _, hr, hgr.1, hgr.2, fun k hk => .inl ?_⟩
    simp at hk
    omega
  · by_cases hroom : n + m ≤ c
    · have hfit : off + n * sz + news.length ≤ cur.size := by
        refine Nat.le_trans ?_ hcs
        rw [hl, Nat.add_assoc, ← Nat.add_mul]
        exact Nat.add_le_add_left (Nat.mul_le_mul_right _ hroom) _
      have hf := run_firstCells_some (P := P) w sz m bd m c2 news hl hnews
      have hst := run_storeCells_at P g (off + n * sz) el news 0 cur w hg (by simpa using hfit) h1
      simp only [Nat.add_zero] at hst
      refine ⟨some ⟨g, off, none⟩, c, _, ?_, ⟨hlen, hroom, hcm, .inr ⟨g, off, _, rfl, hbg, setRow_heap w g cur (cur.toList.take (off + n * sz) ++ news ++ cur.toList.drop (off + n * sz + news.length)).toArray el _ hg, ?_, ?_⟩⟩, ⟨rfl, rfl, rfl, by simp [World.setRow], fun k _ hk => setRow_other w g k _ (fun e => hk (by simp [e]))⟩, fun k hk => .inr hk⟩
      · simp [Builtin.append_, run_underlying ht, sizeOf, typeInfo, hi, hz1, Builtin.lenOf, hroom, hf, Addr.add_lit, hst]
      · simp only [List.size_toArray, List.length_append, List.length_take, List.length_drop, Array.length_toList]
        omega
      · have h2 : (cur.toList.take (off + n * sz)).length = off + n * sz := by simp; omega
        have h3 : List.drop off (cur.toList.take (off + n * sz)) = xs := by
          rw [List.drop_take, ← htake]
          congr 1
          omega
        rw [List.append_assoc, List.drop_append_of_le_length (by omega), h3, ← List.append_assoc, ← hlen]
        exact List.take_left
    · have holds : ∀ j u, xs[j]? = some u → w.cell? ((⟨g, off, none⟩ : Addr).add j) = some u := fun j u hu => by
        obtain ⟨ad, h, _, hc⟩ := row_cell hrow' hu
        cases h
        exact hc
      have hr := run_append_grow (P := P) w t ty el i z ht hi hz0 ⟨g, off, none⟩ n c xs (by rw [hz1]; exact hxl) holds bd m c2 news (by rw [hz1]; exact hl) hnews (by omega) (by omega) (by rw [hz2]; exact growslice_fits (by omega) hbound)
      have hgr := grown c (some g) (by omega)
      exact ⟨_, _, _, hr, hgr.1, by simpa using hgr.2, fun k hk => .inl (by simp at hk; omega)⟩
end Go.Proofs.YtecibcjckinngaaGreatDoor
/- The operations that make or change memory, as rules of the judgement; calls; the entry into a function and its return. -/
set_option linter.unusedVariables false
namespace Go.Proofs.YtecibcjckinngaaGreatDoor
open Go Go.RowKit

theorem Sep.fresh {K : Nat → Prop} {w0 w : World} {H : Hp} (hS : Sep K w0 H w) : ¬ K w.heap.size := fun h => Nat.lt_irrefl _ (hS.bs _ h)

theorem Sep.alloc {K : Nat → Prop} {w0 w : World} {H : Hp} (hS : Sep K w0 H w) (t : Nat) (cs : List Value) (T : TypeId) : Sep K w0 ((t, .box w.heap.size cs T) :: H) (w.alloc (.cells cs.toArray T)) :=
  hS.upd t _ rfl rfl rfl (by simp) (fun b hb _ => Go.heap_alloc_old w _ hb) ⟨hS.fresh, heap_alloc_new w _⟩ (fun b hb => by obtain rfl := Option.some.inj hb; exact .inl (Nat.le_refl _)) (fun φ h => by cases h)

theorem Sep.allocRow {K : Nat → Prop} {w0 w : World} {H : Hp} (hS : Sep K w0 H w) (t : Nat) (cur : Array Value) (T : TypeId) (sz n c : Nat) (xs : List Value) (hc : cur.size = c * sz) (hn : n ≤ c) (hm : c ≤ maxLen) (hx : xs.length = n * sz) (htk : cur.toList.take (n * sz) = xs) :
    Sep K w0 ((t, .row T sz (some ⟨w.heap.size, 0, none⟩) n c xs) :: H) (w.alloc (.cells cur T)) :=
  hS.upd t _ rfl rfl rfl (by simp) (fun b hb _ => Go.heap_alloc_old w _ hb) ⟨hx, hn, hm, .inr ⟨_, 0, cur, rfl, hS.fresh, heap_alloc_new w _, by omega, by simpa using htk⟩⟩ (fun b hb => by obtain rfl := Option.some.inj hb; exact .inl (Nat.le_refl _)) (fun φ h => by cases h)

theorem Sep.set {K : Nat → Prop} {w0 w : World} {H : Hp} (hS : Sep K w0 H w) {t g : Nat} {e0 e : Ent} {cur : Array Value} (h0 : H.get t = some e0) (hb0 : e0.blk = some g) (hb1 : ∀ b, e.blk = some b → b = g) (he : e.holds K (w.setRow g cur)) (hnf : ∀ φ, e.fact ≠ some φ) : Sep K w0 ((t, e) :: H) (w.setRow g cur) :=
  hS.upd t e rfl rfl rfl (by simp [World.setRow]) (fun b _ hne => setRow_other w g b _ (fun hbg => hne e0 h0 (by rw [hb0, hbg]))) he (fun b hb => .inr ⟨e0, h0, by rw [hb0, hb1 b hb]⟩) (fun φ h => absurd h (hnf φ))

section
variable {C : Cx} {k : Act → World → Prop} {e : Env} {H : Hp} {ops : Array Oper} {os : List Oper} {d : Nat} {op : Op} {t : TypeId} {p : String} {af : Array Edge} {g : Option (Nat × Bool)} {v : Value}

/-- An operation that turns the memory: it leaves 'vf x' and the memory 'Hf x', for some x. -/
def Effect {ι : Type} (C : Cx) (e : Env) (H : Hp) (o : Oper) (vf : ι → Value) (Hf : ι → Hp) (Good : ι → Prop) : Prop :=
  ∀ a w, EnvOK C.ds C.n e a → Sep C.K C.w0 H w → ∀ (next : Act → World → Prop) (Q : Exit → Act → World → Prop), (∀ x w', Good x → Sep C.K C.w0 (Hf x) w' → next (a.put o.dst (vf x)) w') → o.wp C.P a w next Q

theorem eff_ok {o : Oper} {v : Value} {a : Act} {w w' : World} {next : Act → World → Prop} {Q : Exit → Act → World → Prop} (hr : (execOp a.eval o).run C.P w = .ok (.value v) w') (h : next (a.put o.dst v) w') : o.wp C.P a w next Q := by
  simp only [Oper.wp, hr, Oper.upon]; exact h
theorem eff_oku {o : Oper} {a : Act} {w w' : World} {next : Act → World → Prop} {Q : Exit → Act → World → Prop} (hr : (execOp a.eval o).run C.P w = .ok .skip w') (h : next (a.put o.dst undef) w') : o.wp C.P a w next Q := by
  simp only [Oper.wp, hr, Oper.upon]; exact h

/-- It is taken in a sequential region. -/
theorem sx {ι : Type} {vf : ι → Value} {Hf : ι → Hp} {Good : ι → Prop} (hdn : Nat.blt d C.n = true) (hq : Effect C e H ⟨some d, op, t, p, af, none⟩ vf Hf Good) (h : ∀ x, Good x → OpsE C ops os k ((d, vf x) :: e) (Hf x)) :
    OpsE C ops (⟨some d, op, t, p, af, none⟩ :: os) k e H := by
  intro a w ha hw
  simp only [wpList, Region.wanted, if_true]
  exact .inl (hq a w ha hw _ _ fun x w' hg hw' => h x hg _ w' (ha.put hdn (vf x)) hw')
theorem sxn {ι : Type} {vf : ι → Value} {Hf : ι → Hp} {Good : ι → Prop} (hq : Effect C e H ⟨none, op, t, p, af, none⟩ vf Hf Good) (h : ∀ x, Good x → OpsE C ops os k e (Hf x)) :
    OpsE C ops (⟨none, op, t, p, af, none⟩ :: os) k e H := by
  intro a w ha hw
  simp only [wpList, Region.wanted, if_true]
  exact .inl (hq a w ha hw _ _ fun x w' hg hw' => h x hg _ w' ha.skip hw')

theorem e_box {x : Operand} {T : TypeId} {cs : List Value} (hx : e.op x = some v) (hv : v.cells = cs.toArray) : Effect C e H ⟨some d, .box T x, t, p, af, g⟩ (fun b : Nat => .pointer (some ⟨b, 0, none⟩)) (fun b => (d, .box b cs T) :: H) (fun _ => True) := by
  intro a w ha hw next Q h
  refine eff_ok (v := .pointer (some ⟨w.heap.size, 0, none⟩)) (w' := w.alloc (.cells cs.toArray T)) ?_ (h _ _ trivial (hw.alloc d cs T))
  simp [execOp, ha.op hx, Instr.box, newVar, newRow, hv]
/-- The zero value's cells. -/
def ZeroIs (P : Program) (T : TypeId) (cs : List Value) : Prop := (P.info? T).map (fun i => i.zero.map (·.cells)) = some (some cs.toArray)
theorem e_alloc {T : TypeId} {cs : List Value} (hz : ZeroIs C.P T cs) : Effect C e H ⟨some d, .alloc T, t, p, af, g⟩ (fun b : Nat => .pointer (some ⟨b, 0, none⟩)) (fun b => (d, .box b cs T) :: H) (fun _ => True) := by
  intro a w ha hw next Q h
  obtain ⟨i, hi, hzz⟩ := Option.map_eq_some_iff.1 hz
  obtain ⟨z, hz0, hv⟩ := Option.map_eq_some_iff.1 hzz
  refine eff_ok (v := .pointer (some ⟨w.heap.size, 0, none⟩)) (w' := w.alloc (.cells cs.toArray T)) ?_ (h _ _ trivial (hw.alloc d cs T))
  simp [execOp, Instr.alloc, zeroValue, typeInfo, hi, hz0, newVar, newRow, hv]

/-- The list with 'news' laid over it from place 'off' on. -/
inductive Over : List Value → Nat → List Value → List Value → Prop
  | nil (l : List Value) : Over l 0 [] l
  | cons {l l' news : List Value} {x y : Value} (h : Over l 0 news l') : Over (x :: l) 0 (y :: news) (y :: l')
  | skip {l l' news : List Value} {x : Value} {n : Nat} (h : Over l n news l') : Over (x :: l) (n + 1) news (x :: l')
theorem Over.eq {l news l' : List Value} {n : Nat} (h : Over l n news l') : l'.length = l.length ∧ n + news.length ≤ l.length ∧ l' = l.take n ++ news ++ l.drop (n + news.length) := by
  induction h with
  | nil l => simp
  | cons h ih => obtain ⟨h1, h2, h3⟩ := ih; refine ⟨by simp [h1], by simp; omega, by simpa using h3⟩
  | skip h ih =>
    obtain ⟨h1, h2, h3⟩ := ih
    refine ⟨by simp [h1], by simp; omega, ?_⟩
    rw [h3]
    simp [Nat.add_right_comm]

theorem run_store_at {P : Program} {w : World} {g off : Nat} {cur : Array Value} {T ty : TypeId} {v : Value} (hg : w.heap[g]? = some (.cells cur T (0, 0))) (hsz : P.cellsOf ty = v.cells.size) (hp : 0 < v.cells.size) (h1 : ∀ u ∈ v.cells.toList, u.oneCell' = true) (hfit : off + v.cells.size ≤ cur.size) :
    (Instr.storeAt ty (.pointer (some ⟨g, off, none⟩)) v).run P w = .ok () (w.setRow g (cur.toList.take off ++ v.cells.toList ++ cur.toList.drop (off + v.cells.size)).toArray) := by
  have hst := run_storeCells_at P g off T v.cells.toList 0 cur w hg (by simpa using hfit) h1
  simp only [Nat.add_zero, Array.length_toList] at hst
  simp [Instr.storeAt, Instr.sureAddr, storeVar, run_sizeOf1 hsz hp, hst]

/-- A store into a box. -/
theorem e_store {x y : Operand} {ty T : TypeId} {gg off tg : Nat} {cs cs' news : List Value} (hx : e.op x = some (.pointer (some ⟨gg, off, none⟩))) (hy : e.op y = some v) (hv : v.cells = news.toArray) (hb : H.get tg = some (.box gg cs T))
    (hsz : C.P.cellsOf ty = news.length) (hp : Nat.blt 0 news.length = true) (h1 : news.all (·.oneCell') = true) (ho : Over cs off news cs') : Effect C e H ⟨none, .store ty x y, t, p, af, g⟩ (fun _ : Unit => undef) (fun _ => (tg, .box gg cs' T) :: H) (fun _ => True) := by
  intro a w ha hw next Q h
  obtain ⟨hk, hcur⟩ := hw.holds tg _ hb
  obtain ⟨hl, hle, heq⟩ := ho.eq
  have hvs : v.cells.size = news.length := by rw [hv]; simp
  have hst := run_store_at (P := C.P) (ty := ty) (v := v) (off := off) hcur (by rw [hvs]; exact hsz) (by rw [hvs]; simpa using hp) (by rw [hv]; simpa using h1) (by rw [hvs]; simpa using hle)
  have hcs : (cs.toArray.toList.take off ++ v.cells.toList ++ cs.toArray.toList.drop (off + v.cells.size)).toArray = cs'.toArray := by rw [hvs, hv, heq]
  rw [hcs] at hst
  refine eff_oku (w' := w.setRow gg cs'.toArray) ?_ (h () _ trivial ?_)
  · simp [execOp, ha.op hx, ha.op hy, hst]
  · exact hw.set hb rfl (fun b hb => by obtain rfl := Option.some.inj hb; rfl) ⟨hk, setRow_heap w gg cs.toArray cs'.toArray T _ hcur⟩ (fun φ h => by cases h)

theorem splice_take (L news : List Value) (off m N : Nat) (h1 : off + N ≤ L.length) (h2 : m + news.length ≤ N) :
    ((L.take (off + m) ++ news ++ L.drop (off + m + news.length)).drop off).take N = ((L.drop off).take N).take m ++ news ++ ((L.drop off).take N).drop (m + news.length) := by
  obtain ⟨A, M, rfl, rfl⟩ : ∃ A M : List Value, L = A ++ M ∧ A.length = off := ⟨L.take off, L.drop off, (List.take_append_drop _ _).symm, by simp; omega⟩
  have hM : N ≤ M.length := by simp at h1; omega
  have e1 : (A ++ M).take (A.length + m) = A ++ M.take m := by rw [List.take_length_add_append]
  have e2 : (A ++ M).drop (A.length + m + news.length) = M.drop (m + news.length) := by rw [Nat.add_assoc, List.drop_length_add_append]
  rw [e1, e2, List.append_assoc, List.append_assoc, List.drop_left, List.drop_left, List.take_take, Nat.min_eq_left (by omega), List.drop_take, ← List.append_assoc]
  have h3 : (M.take m ++ news).length = m + news.length := by simp; omega
  rw [List.take_append, h3, List.take_of_length_le (by omega)]

/-- A store into a row of the call's own. -/
theorem e_setrow {x y : Operand} {ty el : TypeId} {tg sz n c m : Nat} {ad : Option Addr} {pt : Addr} {xs xs' news : List Value} (hx : e.op x = some (.pointer (some pt))) (hy : e.op y = some v) (hv : v.cells = news.toArray) (hb : H.get tg = some (.row el sz ad n c xs))
    (hpt : ∀ g o, ad = some ⟨g, o, none⟩ → pt = ⟨g, o + m, none⟩) (hsz : C.P.cellsOf ty = news.length) (hp : Nat.blt 0 news.length = true) (h1 : news.all (·.oneCell') = true) (hle : m + news.length ≤ n * sz) (hxs : xs.take m ++ news ++ xs.drop (m + news.length) = xs') : Effect C e H ⟨none, .store ty x y, t, p, af, g⟩ (fun _ : Unit => undef) (fun _ => (tg, .row el sz ad n c xs') :: H) (fun _ => True) := by
  intro a w ha hw next Q h
  have hrow := hw.holds tg _ hb
  obtain ⟨hxl, hnc, hcm, hh⟩ := hrow
  have hnp : 0 < news.length := by simpa using hp
  rcases hh with ⟨rfl, rfl, rfl⟩ | ⟨gg, off, cur, rfl, hk, hcur, hcs, htake⟩
  · omega
  obtain rfl := hpt gg off rfl
  have hvs : v.cells.size = news.length := by rw [hv]; simp
  have hns : n * sz ≤ c * sz := Nat.mul_le_mul_right _ hnc
  have hst := run_store_at (P := C.P) (ty := ty) (v := v) (off := off + m) hcur (by rw [hvs]; exact hsz) (by rw [hvs]; exact hnp) (by rw [hv]; simpa using h1) (by rw [hvs]; omega)
  refine eff_oku (w' := w.setRow gg (cur.toList.take (off + m) ++ v.cells.toList ++ cur.toList.drop (off + m + v.cells.size)).toArray) ?_ (h () _ trivial ?_)
  · simp [execOp, ha.op hx, ha.op hy, hst]
  · refine hw.set hb rfl (fun b hb => by obtain rfl := Option.some.inj hb; rfl) ⟨?_, hnc, hcm, .inr ⟨gg, off, _, rfl, hk, setRow_heap w gg cur (cur.toList.take (off + m) ++ v.cells.toList ++ cur.toList.drop (off + m + v.cells.size)).toArray el _ hcur, ?_, ?_⟩⟩ (fun φ h => by cases h)
    · rw [← hxs]; simp; omega
    · simp [hvs]; omega
    · rw [← hxs, ← htake, hvs, hv]
      exact splice_take _ _ _ _ _ (by rw [Array.length_toList]; omega) (by omega)
end
end Go.Proofs.YtecibcjckinngaaGreatDoor
/- Append, make, slice literals, calls; entry and return. -/
set_option linter.unusedVariables false
namespace Go.Proofs.YtecibcjckinngaaGreatDoor
open Go Go.RowKit

/-! ### What a slice's cells are, whatever it is made of -/
/-- The slice '.slice b m _' shows the cells 'news'. -/
def Shows (w : World) (b : Option Addr) (news : List Value) : Prop := ∀ j u, news[j]? = some u → ∃ ad, b = some ad ∧ w.cell? (ad.add j) = some u
theorem Shows.row {K : Nat → Prop} {w : World} {el : TypeId} {sz : Nat} {a : Option Addr} {n c : Nat} {xs : List Value} (h : (Ent.row el sz a n c xs).holds K w) : Shows w a xs := fun j u hu => by
  obtain ⟨ad, h1, _, h3⟩ := row_cell h hu
  exact ⟨ad, h1, h3⟩
theorem Shows.none {w : World} {b : Option Addr} : Shows w b [] := fun j u hu => by simp at hu
theorem Shows.isSome {w : World} {b : Option Addr} {news : List Value} (h : Shows w b news) (hp : 0 < news.length) : b.isSome = true := by
  cases hn : news with
  | nil => rw [hn] at hp; simp at hp
  | cons u us => obtain ⟨ad, h1, _⟩ := h 0 u (by rw [hn]; rfl); rw [h1]; rfl

section
variable {C : Cx} {k : Act → World → Prop} {e : Env} {H : Hp} {ops : Array Oper} {os : List Oper} {d : Nat} {op : Op} {t : TypeId} {p : String} {af : Array Edge} {g : Option (Nat × Bool)} {v : Value}

theorem Sep.ofRow {K : Nat → Prop} {w0 w w' : World} {H : Hp} (hS : Sep K w0 H w) {tg : Nat} {el : TypeId} {sz n c n' c' : Nat} {a a' : Option Addr} {xs xs' : List Value} (h0 : H.get tg = some (.row el sz a n c xs)) (hr : (Ent.row el sz a' n' c' xs').holds K w') (hg : w.grownBy w' (a.map (·.block)))
    (hn : ∀ k, a'.map (·.block) = some k → w.heap.size ≤ k ∨ a.map (·.block) = some k) : Sep K w0 ((tg, .row el sz a' n' c' xs') :: H) w' := by
  have hblk : ∀ (b : Option Addr) (m c : Nat) (xs : List Value), (Ent.row el sz b m c xs).blk = b.map (·.block) := fun b m c xs => by cases b <;> rfl
  refine hS.upd tg _ hg.os hg.tape hg.output hg.size (fun b hb hne => hg.block b hb (fun he => ?_)) hr (fun b hb => ?_) (fun φ h => by cases h)
  · exact hne _ h0 (by rw [hblk, ← he])
  · rw [hblk] at hb
    rcases hn b hb with h | h
    · exact .inl h
    · exact .inr ⟨_, h0, by rw [hblk, h]⟩

/-- append(row, what shows 'news'): the row of the call's own at 'tg' becomes the row at 'tg' with 'news' behind. -/
theorem e_append {x y : Operand} {ty el : TypeId} {z : Value} {sz bytes tg n c m c2 : Nat} {ad b : Option Addr} {xs news : List Value} (ht : C.P.underlying ty = some (.slice el)) (hinfo : (C.P.info? el).map (fun i => (i.zero, i.size, i.bytes)) = some (some z, sz, bytes))
    (hz : z.cells.size = sz) (hsz : Nat.blt 0 sz = true) (hby : Nat.blt 0 bytes = true) (hx : e.op x = some (.slice ad n c)) (hy : e.op y = some (.slice b m c2)) (hb : H.get tg = some (.row el sz ad n c xs))
    (hl : news.length = m * sz) (hsrc : ∀ w, Sep C.K C.w0 H w → Shows w b news) (h1 : ∀ u ∈ news, u.oneCell' = true) (hbound : (n + m) * bytes ≤ 140737488355328) :
    Effect C e H ⟨some d, .call { callee := .builtin .append, args := #[x, y], argTypes := #[ty, ty] }, t, p, af, g⟩ (fun x : Option Addr × Nat => .slice x.1 (n + m) x.2) (fun x => (tg, .row el sz x.1 (n + m) x.2 (xs ++ news)) :: H) (fun _ => True) := by
  intro a w ha hw next Q h
  obtain ⟨a', c', w', hr, hrow, hg, hn⟩ := run_append_row (P := C.P) (ty := t) ht hinfo hz (by simpa using hsz) (by simpa using hby) (hw.holds tg _ hb) hw.fresh hl (hsrc w hw) h1 hbound (c2 := c2)
  refine eff_ok (v := .slice a' (n + m) c') (w' := w') ?_ (h (a', c') _ trivial (hw.ofRow hb hrow hg hn))
  simp [execOp, resolve, invoke, builtin, ha.op hx, ha.op hy, hr]

/-- make([]T, n, c). -/
theorem e_make {x y : Operand} {ty el : TypeId} {z : Value} {sz bytes : Nat} {kl kc : IntKind} {n c : Nat} (ht : C.P.underlying ty = some (.slice el)) (hinfo : (C.P.info? el).map (fun i => (i.zero, i.size, i.bytes)) = some (some z, sz, bytes)) (hz : z.cells.size = sz)
    (hx : e.op x = some (.int kl n)) (hy : e.op y = some (.int kc c)) (hnc : n ≤ c) (hb : bytes * c ≤ 281474976710656) (hm : c ≤ 9223372036854775807) :
    Effect C e H ⟨some d, .makeSlice ty x y, t, p, af, g⟩ (fun a : Addr => .slice (some a) n c) (fun a => (d, .row el sz (some a) n c (List.replicate n z.cells.toList).flatten) :: H) (fun _ => True) := by
  intro a w ha hw next Q h
  obtain ⟨i, hi, hii⟩ := Option.map_eq_some_iff.1 hinfo
  simp only [Prod.mk.injEq] at hii
  obtain ⟨hz0, hz1, hz2⟩ := hii
  have hr := run_make (P := C.P) w ty el i z ht hi hz0 kl kc (n : Int) (c : Int) (by omega) (by omega) (by rw [hz2, ← Int.natCast_mul]; omega) (by omega)
  simp only [Int.toNat_natCast] at hr
  refine eff_ok (v := .slice (some ⟨w.heap.size, 0, none⟩) n c) (w' := w.alloc (.cells (madeCells z.cells (c * i.size)) el)) ?_ (h _ _ trivial (hw.allocRow d (madeCells z.cells (c * i.size)) el sz n c _ ?_ hnc ?_ ?_ ?_))
  · simp [execOp, ha.op hx, ha.op hy, hr]
  · rw [size_madeCells, hz1]
  · simp only [maxLen]; omega
  · simp [hz]
  · rw [hz1]
    have e1 : ∀ m : Nat, m * sz ≤ c * sz → (madeCells z.cells (c * sz)).toList.take (m * sz) = (List.replicate m z.cells.toList).flatten := by
      intro m
      induction m with
      | zero => intro _; simp
      | succ m ih =>
        intro hm
        have hm' : m * sz ≤ c * sz := by rw [Nat.succ_mul] at hm; omega
        rw [List.replicate_succ', List.flatten_append, ← ih hm', Nat.succ_mul, List.take_add]
        congr 1
        simp only [List.flatten_cons, List.flatten_nil, List.append_nil]
        apply List.ext_getElem
        · simp [madeCells, hz]; rw [Nat.succ_mul] at hm; omega
        · intro j h1 h2
          have hj : j < sz := by rw [Array.length_toList, hz] at h2; exact h2
          simp only [List.getElem_take, List.getElem_drop, madeCells, Array.toList_map, List.getElem_map, Array.getElem_toList, Array.getElem_range]
          have : (m * sz + j) % z.cells.size = j := by rw [hz, Nat.add_comm, Nat.add_mul_mod_self_right, Nat.mod_eq_of_lt hj]
          rw [getElem!_pos z.cells _ (by rw [this, hz]; exact hj)]
          simp only [this]
    exact e1 n (Nat.mul_le_mul_right _ hnc)

/-! ### Calls -/
/-- The function has a body: a call enters it. -/
def Enters (P : Program) (f : FuncId) : Prop := ∀ args w, (callFunc f args).run P w = .ok (.enter f args) w
theorem enters_of {P : Program} {f : FuncId} {fn : Func} (hf : P.funcs[f]? = some fn) (hn : (fn.name == "runtime.NumGoroutine") = false) (hb : fn.body.isSome = true) : Enters P f := by
  intro args w
  simp only [beq_eq_false_iff_ne] at hn
  cases h : fn.body with
  | none => rw [h] at hb; cases hb
  | some c => simp [callFunc, hf, hn, h]

theorem Sep.join {K : Nat → Prop} {w0 w w' : World} {H H1 : Hp} (hS : Sep K w0 H w) (h1 : Sep (· < w.heap.size) w H1 w') (hfz : ∀ t φ, H1.get t ≠ some (.fz φ)) : Sep K w0 (H1 ++ H) w' := by
  have hk := hS.keep h1.kp
  have hget : ∀ t e, Hp.get (H1 ++ H) t = some e → H1.get t = some e ∨ (H1.get t = none ∧ H.get t = some e) := by
    intro t e
    induction H1 with
    | nil => intro h; exact .inr ⟨rfl, h⟩
    | cons x xs ih =>
      intro h
      obtain ⟨kx, vx⟩ := x
      simp only [List.cons_append, Hp.get] at h ⊢
      cases hb : Nat.beq kx t with
      | true => rw [hb] at h; exact .inl h
      | false =>
        rw [hb] at h
        clear ih hfz h1 hk
        have : ∀ (L : Hp), Hp.get (L ++ H) t = some e → L.get t = some e ∨ (L.get t = none ∧ H.get t = some e) := by
          intro L
          induction L with
          | nil => intro h; exact .inr ⟨rfl, h⟩
          | cons y ys ih =>
            intro h
            obtain ⟨ky, vy⟩ := y
            simp only [List.cons_append, Hp.get] at h ⊢
            cases hb2 : Nat.beq ky t with
            | true => rw [hb2] at h; exact .inl h
            | false => rw [hb2] at h; exact ih h
        exact this xs h
  have hge : ∀ t e b, H1.get t = some e → e.blk = some b → w.heap.size ≤ b := fun t e b h hb => by
    have := (Ent.blk_ge (h1.holds t e h) hb).1
    omega
  have hlt : ∀ t e b, H.get t = some e → e.blk = some b → b < w.heap.size := fun t e b h hb => (Ent.blk_ge (hS.holds t e h) hb).2
  refine ⟨hk.kp, hk.bs, ?_, ?_, ?_⟩
  · intro t e h
    rcases hget t e h with h | ⟨_, h⟩
    · exact Ent.holds_mono (h1.holds t e h) hS.bs
    · exact hk.holds t e h
  · intro t t' e e' b h h' hne hb hb'
    rcases hget t e h with h | ⟨_, h⟩ <;> rcases hget t' e' h' with h' | ⟨_, h'⟩
    · exact h1.apart t t' e e' b h h' hne hb hb'
    · have := hge t e b h hb; have := hlt t' e' b h' hb'; omega
    · have := hge t' e' b h' hb'; have := hlt t e b h hb; omega
    · exact hS.apart t t' e e' b h h' hne hb hb'
  · intro t e φ h hf
    rcases hget t _ h with h | ⟨_, h⟩
    · obtain ⟨S, hSb, hsup⟩ := h1.fz t e φ h hf
      have hn : e.new = true := by
        cases e with
        | fn φ => rfl
        | fz φ => exact absurd h (hfz t φ)
        | _ => cases hf
      refine ⟨S, fun b hb => ⟨(hSb b hb).1, fun _ hkb => (hSb b hb).2.1 hn (hS.bs b hkb), fun t' e' h' hbk => ?_⟩, hsup⟩
      rcases hget t' e' h' with h' | ⟨_, h'⟩
      · exact (hSb b hb).2.2 t' e' h' hbk
      · exact (hSb b hb).2.1 hn (hlt t' e' b h' hbk)
    · obtain ⟨S2, hSb2, hsup2⟩ := hS.fz t e φ h hf
      refine ⟨S2, fun b hb => ⟨Nat.lt_of_lt_of_le (hSb2 b hb).1 h1.kp.size, (hSb2 b hb).2.1, fun t' e' h' hbk => ?_⟩, hsup2.keep fun b hb => h1.kp.block b (hSb2 b hb).1⟩
      rcases hget t' e' h' with h' | ⟨_, h'⟩
      · have := hge t' e' b h' hbk; have := (hSb2 b hb).1; omega
      · exact (hSb2 b hb).2.2 t' e' h' hbk

/-- A call's outcome: it returns 'v'; all blocks are as they were. -/
abbrev RetV (P : Program) (f : FuncId) (args : Array Value) (w : World) (v : Value) : Prop := Calls P f args w fun e w' => e = .returned v ∧ Grew w w'
/-- A call's outcome: it returns 'vf x' and has made the memory 'Ef x', for some good 'x'. -/
abbrev RetX {ι : Type} (P : Program) (f : FuncId) (args : Array Value) (w : World) (vf : ι → Value) (Ef : ι → Hp) (Good : ι → Prop) : Prop :=
  Calls P f args w fun e w' => ∃ x, Good x ∧ e = .returned (vf x) ∧ Sep (· < w.heap.size) w (Ef x) w'

theorem e_enter {f : FuncId} {xs : Array Operand} {callee : Operand} {tys : Array TypeId} {args : Array Value} {R : Ending → World → Prop} {first captured : Array Value} {a : Act} {w : World} {dst : Option Nat} {next : Act → World → Prop} {Q : Exit → Act → World → Prop} (he : Enters C.P f) (hc : a.eval callee = .func (.func f) first captured) (hx : xs.map a.eval = args)
    (hC : Calls C.P f (first ++ args ++ captured) w R) (h : ∀ e w', R e w' → ∃ v, e = .returned v ∧ next (a.put dst v) w') :
    (⟨dst, .call { callee := .value callee, args := xs, argTypes := tys }, t, p, af, g⟩ : Oper).wp C.P a w next Q := by
  have hr : (execOp a.eval ⟨dst, .call { callee := .value callee, args := xs, argTypes := tys }, t, p, af, g⟩).run C.P w = .ok (.enter f (first ++ args ++ captured)) w := by
    have h0 := he (first ++ args ++ captured) w
    rw [Array.append_assoc] at h0
    simp [execOp, resolve, hc, hx, Deferred.ofValue, invoke, h0]
  simp only [Oper.wp, hr, Oper.upon]
  refine hC.mono fun e1 w' hR => ?_
  obtain ⟨v, rfl, hw⟩ := h e1 w' hR
  exact hw

inductive Evs (e : Env) : List Operand → List Value → Prop
  | nil : Evs e [] []
  | cons {x : Operand} {v : Value} {xs : List Operand} {vs : List Value} (h : e.op x = some v) (hs : Evs e xs vs) : Evs e (x :: xs) (v :: vs)
theorem EnvOK.evs {ds : List Deferred} {n : Nat} {e : Env} {a : Act} (h : EnvOK ds n e a) {xs : List Operand} {vs : List Value} (hx : Evs e xs vs) : xs.map a.eval = vs := by
  induction hx with
  | nil => rfl
  | cons h1 _ ih => simp [h.op h1, ih]

/-- A call of a named function that hands back 'v' and leaves the memory as it was. -/
theorem e_call {f : FuncId} {xs : List Operand} {tys : Array TypeId} {args : List Value} {dst : Option Nat} (he : Enters C.P f) (hx : Evs e xs args) (hC : ∀ w, Sep C.K C.w0 H w → RetV C.P f args.toArray w v) :
    Effect C e H ⟨dst, .call { callee := .value (.func f), args := xs.toArray, argTypes := tys }, t, p, af, g⟩ (fun _ : Unit => v) (fun _ => H) (fun _ => True) := by
  intro a w ha hw next Q h
  have hC' : Calls C.P f (#[] ++ args.toArray ++ #[]) w (fun e w' => e = .returned v ∧ Grew w w') := by simpa using hC w hw
  exact e_enter he rfl (by rw [List.map_toArray, ha.evs hx]) hC' fun e1 w' h12 => ⟨v, h12.1, h () _ trivial (hw.keep h12.2)⟩
/-- The same of a function value. -/
theorem e_callf {f : FuncId} {callee : Operand} {xs : List Operand} {tys : Array TypeId} {args cap : List Value} {dst : Option Nat} (he : Enters C.P f) (hc : e.op callee = some (.func (.func f) #[] cap.toArray)) (hx : Evs e xs args) (hC : ∀ w, Sep C.K C.w0 H w → RetV C.P f (args ++ cap).toArray w v) :
    Effect C e H ⟨dst, .call { callee := .value callee, args := xs.toArray, argTypes := tys }, t, p, af, g⟩ (fun _ : Unit => v) (fun _ => H) (fun _ => True) := by
  intro a w ha hw next Q h
  have hC' : Calls C.P f (#[] ++ args.toArray ++ cap.toArray) w (fun e w' => e = .returned v ∧ Grew w w') := by simpa using hC w hw
  exact e_enter he (ha.op hc) (by rw [List.map_toArray, ha.evs hx]) hC' fun e1 w' h12 => ⟨v, h12.1, h () _ trivial (hw.keep h12.2)⟩
/-- A call that makes memory. -/
theorem e_callx {ι : Type} {vf : ι → Value} {Ef : ι → Hp} {Good : ι → Prop} {f : FuncId} {xs : List Operand} {tys : Array TypeId} {args : List Value} {dst : Option Nat} (he : Enters C.P f) (hx : Evs e xs args) (hC : ∀ w, Sep C.K C.w0 H w → RetX C.P f args.toArray w vf Ef Good)
    (hfz : ∀ x t φ, (Ef x).get t ≠ some (.fz φ)) : Effect C e H ⟨dst, .call { callee := .value (.func f), args := xs.toArray, argTypes := tys }, t, p, af, g⟩ vf (fun x => Ef x ++ H) Good := by
  intro a w ha hw next Q h
  have hC' : Calls C.P f (#[] ++ args.toArray ++ #[]) w (fun e w' => ∃ x, Good x ∧ e = .returned (vf x) ∧ Sep (· < w.heap.size) w (Ef x) w') := by simpa using hC w hw
  refine e_enter he rfl (by rw [List.map_toArray, ha.evs hx]) hC' fun e1 w' hh => ?_
  obtain ⟨x, hg, h1, h2⟩ := hh
  exact ⟨vf x, h1, h x _ hg (hw.join h2 fun t φ => hfz x t φ)⟩
end

/-! ### The entry into a function, and its return -/
def Env.args : Nat → List Value → Env
  | _, [] => []
  | i, v :: vs => (i, v) :: Env.args (i + 1) vs
theorem Env.args_get : ∀ (vs : List Value) (i t : Nat) (v : Value), Env.get (Env.args i vs) t = some v → ∃ j, t = i + j ∧ vs[j]? = some v
  | [], i, t, v, h => by simp [Env.args, Env.get] at h
  | u :: us, i, t, v, h => by
    simp only [Env.args, Env.get] at h
    cases hb : Nat.beq i t with
    | true =>
      rw [hb] at h
      obtain rfl := Nat.eq_of_beq_eq_true hb
      exact ⟨0, rfl, by simpa using h⟩
    | false =>
      rw [hb] at h
      obtain ⟨j, h1, h2⟩ := Env.args_get us (i + 1) t v h
      exact ⟨j + 1, by omega, by simpa using h2⟩

theorem calls_of {P : Program} {f : FuncId} {fn : Func} {c : Code} {n : Nat} {args : List Value} {w : World} {R : Ending → World → Prop} {K : Nat → Prop} {H : Hp} (hf : P.funcs[f]? = some fn) (hb : fn.body = some c) (hn : fn.ntmps = n) (hle : Nat.ble args.length n = true)
    (hS : Sep K w H w) (h : RunE ⟨P, f, n, K, w, R, []⟩ [.code c] (Env.args 0 args) H) : Calls P f args.toArray w R := by
  have hle' : args.length ≤ n := Nat.le_of_ble_eq_true hle
  have ha : EnvOK [] n (Env.args 0 args) { tmps := args.toArray ++ Array.replicate (fn.ntmps - args.toArray.size) undef, defers := [] } := by
    refine ⟨by simp [hn]; omega, rfl, fun t v ht => ?_⟩
    obtain ⟨j, rfl, hj⟩ := Env.args_get args 0 t v ht
    have hjl : j < args.length := (List.getElem?_eq_some_iff.1 hj).1
    refine ⟨by omega, ?_⟩
    rw [Nat.zero_add, Array.getD_eq_getD_getElem?, Array.getElem?_append_left (by simpa using hjl)]
    simp [hj]
  intro cs
  obtain ⟨e, w', fr, hR, hc, hfn, hl⟩ := h _ w ha hS cs
  refine ⟨e, w', fr, hR, ?_, hfn, hl⟩
  have henter : Frame.enter P f args.toArray .normal = (bf f).at { tmps := args.toArray ++ Array.replicate (fn.ntmps - args.toArray.size) undef, defers := [] } [.code c] := by
    simp [Frame.enter, Frame.at, hf, hb, bf]
  rw [henter]
  exact hc

/-- The start: facts on what is there. -/
theorem Sep.start {w : World} {H : Hp} (h : ∀ t e, H.get t = some e → ∃ φ, e = .fz φ ∧ Supp (· < w.heap.size) w φ) : Sep (· < w.heap.size) w H w := by
  have hblk : ∀ t e, H.get t = some e → e.blk = none := fun t e ht => by obtain ⟨φ, rfl, _⟩ := h t e ht; rfl
  refine ⟨Kp.refl _ _, fun b hb => hb, fun t e ht => by obtain ⟨φ, rfl, _⟩ := h t e ht; trivial, fun t t' e e' b ht _ _ hb => (by rw [hblk t e ht] at hb; cases hb), fun t e φ ht hf => ?_⟩
  obtain ⟨ψ, rfl, hs⟩ := h t _ ht
  cases hf
  exact ⟨_, fun b hb => ⟨hb, fun h => (by cases h), fun t' e' ht' hb' => (by rw [hblk t' e' ht'] at hb'; cases hb')⟩, hs⟩
end Go.Proofs.YtecibcjckinngaaGreatDoor
/- Go's data as Lean data, with the addresses at which they lie; what memory must show for them. -/
set_option linter.unusedVariables false
namespace Go.Proofs.YtecibcjckinngaaGreatDoor
open Go Go.RowKit

/-- A kind of data: its cells, and what else memory must show. -/
class Enc (α : Type) where
  sz : Nat
  by_ : Nat
  enc : α → List Value
  len : ∀ x, (enc x).length = sz
  one : ∀ x, ∀ v ∈ enc x, v.oneCell' = true
  ok : World → α → Prop
  mono : ∀ (w w' : World) (x : α), ok w x → (∀ p v, w.cell? p = some v → w'.cell? p = some v) → ok w' x
open Enc

def nth {α : Type} [Inhabited α] (l : List α) (i : Nat) : α := l.getD i default
theorem nth_eq {α : Type} [Inhabited α] {l : List α} {i : Nat} (h : i < l.length) : nth l i = l[i] := by simp [nth, h]
theorem nth_mem {α : Type} [Inhabited α] {l : List α} {i : Nat} (h : i < l.length) : nth l i ∈ l := by rw [nth_eq h]; exact List.getElem_mem h

def encs {α : Type} [Enc α] (l : List α) : List Value := (l.map enc).flatten
theorem encs_nil {α : Type} [Enc α] : encs ([] : List α) = [] := rfl
theorem encs_append {α : Type} [Enc α] (l l' : List α) : encs (l ++ l') = encs l ++ encs l' := by simp [encs]
theorem encs_one {α : Type} [Enc α] (x : α) : encs [x] = enc x := by simp [encs]
theorem encs_length {α : Type} [Enc α] (l : List α) : (encs l).length = l.length * sz α := by
  induction l with
  | nil => simp [encs]
  | cons x xs ih => simp only [encs, List.map_cons, List.flatten_cons, List.length_append, List.length_cons] at ih ⊢; rw [ih, len, Nat.succ_mul, Nat.add_comm]
theorem encs_get {α : Type} [Enc α] [Inhabited α] : ∀ (l : List α) (i j : Nat), i < l.length → j < sz α → (encs l)[i * sz α + j]? = (enc (nth l i))[j]?
  | [], i, j, hi, hj => by simp at hi
  | x :: xs, 0, j, hi, hj => by
    simp only [encs, List.map_cons, List.flatten_cons, Nat.zero_mul, Nat.zero_add, nth, List.getD_cons_zero]
    rw [List.getElem?_append_left (by rw [len]; exact hj)]
  | x :: xs, i + 1, j, hi, hj => by
    have ih := encs_get xs i j (by simpa using hi) hj
    simp only [encs, List.map_cons, List.flatten_cons, nth, List.getD_cons_succ] at ih ⊢
    rw [List.getElem?_append_right (by rw [len, Nat.succ_mul]; omega), len]
    rw [show (i + 1) * sz α + j - sz α = i * sz α + j from by rw [Nat.succ_mul]; omega]
    exact ih
theorem encs_oneCell {α : Type} [Enc α] (l : List α) : ∀ v ∈ encs l, v.oneCell' = true := by
  intro v hv
  simp only [encs, List.mem_flatten, List.mem_map] at hv
  obtain ⟨_, ⟨x, _, rfl⟩, hv⟩ := hv
  exact one x v hv

/-- A slice: where it lies, its capacity, its elements. -/
structure Sl (α : Type) where
  addr : Option Addr
  cap : Nat
  el : List α
instance {α : Type} : Inhabited (Sl α) := ⟨⟨none, 0, []⟩⟩
abbrev Sl.val {α : Type} (s : Sl α) : Value := .slice s.addr s.el.length s.cap

structure Sl.OK {α : Type} [Enc α] (w : World) (s : Sl α) : Prop where
  lc : s.el.length ≤ s.cap
  cm : s.cap ≤ maxLen
  lb : s.el.length * by_ α ≤ 140737488355328
  sh : Shows w s.addr (encs s.el)
  el : ∀ x ∈ s.el, ok w x

instance instSl {α : Type} [Enc α] : Enc (Sl α) := {
  sz := 1
  by_ := 24
  enc := fun s => [s.val]
  len := fun _ => rfl
  one := fun s v hv => by simp at hv; subst hv; rfl
  ok := Sl.OK
  mono := fun w w' s h hk => ⟨h.lc, h.cm, h.lb, fun j u hu => by obtain ⟨ad, h1, h2⟩ := h.sh j u hu; exact ⟨ad, h1, hk _ _ h2⟩, fun x hx => mono w w' x (h.el x hx) hk⟩ }
instance : Enc Int := {
  sz := 1
  by_ := 8
  enc := fun n => [.int .i64 n]
  len := fun _ => rfl
  one := fun s v hv => by simp at hv; subst hv; rfl
  ok := fun _ n => -9223372036854775808 ≤ n ∧ n ≤ 9223372036854775807
  mono := fun _ _ _ h _ => h }
instance : Enc Bool := {
  sz := 1
  by_ := 1
  enc := fun b => [.bool b]
  len := fun _ => rfl
  one := fun s v hv => by simp at hv; subst hv; rfl
  ok := fun _ _ => True
  mono := fun _ _ _ h _ => h }
instance : Enc ByteArray := {
  sz := 1
  by_ := 16
  enc := fun s => [.string s]
  len := fun _ => rfl
  one := fun s v hv => by simp at hv; subst hv; rfl
  ok := fun _ s => s.size ≤ 140737488355328
  mono := fun _ _ _ h _ => h }
instance : Enc UInt32 := {
  sz := 1
  by_ := 4
  enc := fun n => [.int .u32 n.toNat]
  len := fun _ => rfl
  one := fun s v hv => by simp at hv; subst hv; rfl
  ok := fun _ _ => True
  mono := fun _ _ _ h _ => h }

structure IntM where
  neg : Bool
  limbs : Sl UInt32
  deriving Inhabited
structure ValM where
  kind : Int
  num : IntM
  den : IntM
  text : ByteArray
  ref : Int
  deriving Inhabited
structure ObjM where
  kind : Int
  name : ByteArray
  cls : Int
  refs : Sl Int
  order : Sl Int
  names : Sl ByteArray
  items : Sl ValM
  keys : Sl ValM
  code : Int
  state : Int
  deriving Inhabited
structure HeapM where
  objects : Sl ObjM
  deriving Inhabited

instance : Enc IntM := {
  sz := 2
  by_ := 32
  enc := fun x => [.bool x.neg, x.limbs.val]
  len := fun _ => rfl
  one := fun s v hv => by simp at hv; rcases hv with rfl | rfl <;> rfl
  ok := fun w x => ok w x.limbs
  mono := fun w w' x h hk => mono w w' x.limbs h hk }
structure ValM.OK (w : World) (x : ValM) : Prop where
  kind : ok w x.kind
  num : ok w x.num
  den : ok w x.den
  text : ok w x.text
  ref : ok w x.ref
instance : Enc ValM := {
  sz := 7
  by_ := 96
  enc := fun x => [.int .i64 x.kind, .bool x.num.neg, x.num.limbs.val, .bool x.den.neg, x.den.limbs.val, .string x.text, .int .i64 x.ref]
  len := fun _ => rfl
  one := fun s v hv => by simp at hv; rcases hv with rfl | rfl | rfl | rfl | rfl | rfl | rfl <;> rfl
  ok := ValM.OK
  mono := fun w w' x h hk => ⟨h.kind, mono w w' x.num h.num hk, mono w w' x.den h.den hk, h.text, h.ref⟩ }
structure ObjM.OK (w : World) (x : ObjM) : Prop where
  kind : ok w x.kind
  name : ok w x.name
  cls : ok w x.cls
  refs : ok w x.refs
  order : ok w x.order
  names : ok w x.names
  items : ok w x.items
  keys : ok w x.keys
  code : ok w x.code
  state : ok w x.state
instance : Enc ObjM := {
  sz := 10
  by_ := 168
  enc := fun x => [.int .i64 x.kind, .string x.name, .int .i64 x.cls, x.refs.val, x.order.val, x.names.val, x.items.val, x.keys.val, .int .i64 x.code, .int .i64 x.state]
  len := fun _ => rfl
  one := fun s v hv => by simp at hv; rcases hv with rfl | rfl | rfl | rfl | rfl | rfl | rfl | rfl | rfl | rfl <;> rfl
  ok := ObjM.OK
  mono := fun w w' x h hk => ⟨h.kind, h.name, h.cls, mono w w' x.refs h.refs hk, mono w w' x.order h.order hk, mono w w' x.names h.names hk, mono w w' x.items h.items hk, mono w w' x.keys h.keys hk, h.code, h.state⟩ }
instance : Enc HeapM := {
  sz := 1
  by_ := 24
  enc := fun x => [x.objects.val]
  len := fun _ => rfl
  one := fun s v hv => by simp at hv; subst hv; rfl
  ok := fun w x => ok w x.objects
  mono := fun w w' x h hk => mono w w' x.objects h hk }

theorem cell_keep {w w' : World} (h : ∀ b, b < w.heap.size → w'.heap[b]? = w.heap[b]?) : ∀ p v, w.cell? p = some v → w'.cell? p = some v := fun p v hv => by
  rw [World.cell?_of_block (h p.block (World.block_lt_of_cell? w p hv))]
  exact hv
theorem supp_ok {α : Type} [Enc α] {w : World} {x : α} (h : ok w x) : Supp (· < w.heap.size) w (fun w => ok w x) := fun w' h' => mono w w' x h (cell_keep h')

theorem add_add (a : Addr) (m n : Nat) : (a.add m).add n = a.add (m + n) := by
  cases a with
  | mk b o s =>
    unfold Addr.add
    by_cases hm : m = 0
    · subst hm; simp
    · by_cases hn : n = 0
      · subst hn; simp [hm]
      · have : m + n ≠ 0 := by omega
        simp [hm, hn, Nat.add_assoc]
abbrev Pt (a : Option Addr) (m : Nat) : Addr := (a.getD ⟨0, 0, none⟩).add m
theorem Shows.cell {w : World} {a : Option Addr} {xs : List Value} (h : Shows w a xs) {m : Nat} {v : Value} (hv : xs[m]? = some v) : w.cell? (Pt a m) = some v := by
  obtain ⟨ad, rfl, h2⟩ := h m v hv
  exact h2
section
set_option linter.unusedSectionVars false
variable {α : Type} [Enc α] [Inhabited α]
theorem Shows.cellAt {w : World} {a : Option Addr} {l : List α} (h : Shows w a (encs l)) {i j : Nat} (hi : i < l.length) {v : Value} (hv : (enc (nth l i))[j]? = some v) : w.cell? ((Pt a (i * sz α)).add j) = some v := by
  have hj : j < sz α := by
    have := (List.getElem?_eq_some_iff.1 hv).1
    rw [len] at this
    exact this
  rw [add_add]
  exact h.cell (by rw [encs_get l i j hi hj]; exact hv)
theorem Sl.OK.cell {w : World} {s : Sl α} (h : ok w s) {i j : Nat} (hi : i < s.el.length) {v : Value} (hv : (enc (nth s.el i))[j]? = some v) : w.cell? ((Pt s.addr (i * sz α)).add j) = some v := (show Sl.OK w s from h).sh.cellAt hi hv
theorem Sl.OK.cells {w : World} {s : Sl α} (h : ok w s) {i : Nat} (hi : i < s.el.length) : ∀ j v, (enc (nth s.el i))[j]? = some v → w.cell? ((Pt s.addr (i * sz α)).add j) = some v := fun j v hv => Sl.OK.cell h hi hv
theorem Sl.OK.nthOK {w : World} {s : Sl α} (h : ok w s) {i : Nat} (hi : i < s.el.length) : ok w (nth s.el i) := (show Sl.OK w s from h).el _ (nth_mem hi)
theorem Sl.OK.isSome {w : World} {s : Sl α} (h : ok w s) (hp : 0 < sz α) {i : Nat} (hi : i < s.el.length) : s.addr.isSome = true := by
  refine (show Sl.OK w s from h).sh.isSome ?_
  rw [encs_length]
  exact Nat.mul_pos (by omega) hp
theorem Sl.OK.cell0 {w : World} {s : Sl α} (h : ok w s) {i : Nat} (hi : i < s.el.length) {v : Value} (hv : (enc (nth s.el i))[0]? = some v) : w.cell? (Pt s.addr (i * sz α)) = some v := by
  have := Sl.OK.cell h hi hv
  rwa [show ((Pt s.addr (i * sz α)).add 0) = Pt s.addr (i * sz α) from rfl] at this
/-- A row of the call's own, as a slice. -/
theorem ok_row {K : Nat → Prop} {w : World} {el : TypeId} {a : Option Addr} {c : Nat} {l : List α} (h : (Ent.row el (sz α) a l.length c (encs l)).holds K w) (hl : l.length * by_ α ≤ 140737488355328) (he : ∀ x ∈ l, ok w x) : ok w (⟨a, c, l⟩ : Sl α) :=
  ⟨h.2.1, h.2.2.1, hl, Shows.row h, he⟩
theorem row_cellAt {K : Nat → Prop} {w : World} {el : TypeId} {a : Option Addr} {c n : Nat} {l : List α} (h : (Ent.row el (sz α) a n c (encs l)).holds K w) {i j : Nat} (hi : i < l.length) {v : Value} (hv : (enc (nth l i))[j]? = some v) : w.cell? ((Pt a (i * sz α)).add j) = some v := (Shows.row h).cellAt hi hv
theorem row_cellAt0 {K : Nat → Prop} {w : World} {el : TypeId} {a : Option Addr} {c n : Nat} {l : List α} (h : (Ent.row el (sz α) a n c (encs l)).holds K w) {i : Nat} (hi : i < l.length) {v : Value} (hv : (enc (nth l i))[0]? = some v) : w.cell? (Pt a (i * sz α)) = some v := row_cellAt h hi hv
end
theorem Sep.box {K : Nat → Prop} {w0 w : World} {H : Hp} (hS : Sep K w0 H w) {tg g j : Nat} {cs : List Value} {T : TypeId} {v : Value} (hb : H.get tg = some (.box g cs T)) (hv : cs[j]? = some v) : w.cell? ⟨g, j, none⟩ = some v := by
  obtain ⟨_, h⟩ := hS.holds tg _ hb
  rw [cell_of_row w g j _ T (0, 0) h]
  simpa using hv
theorem Sep.boxes {K : Nat → Prop} {w0 w : World} {H : Hp} (hS : Sep K w0 H w) {tg g : Nat} {cs : List Value} {T : TypeId} (hb : H.get tg = some (.box g cs T)) : ∀ j v, cs[j]? = some v → w.cell? ((⟨g, 0, none⟩ : Addr).add j) = some v := fun j v hv => by
  rw [add0]
  exact hS.box hb hv
theorem Sep.row {K : Nat → Prop} {w0 w : World} {H : Hp} (hS : Sep K w0 H w) {tg : Nat} {el : TypeId} {sz n c : Nat} {a : Option Addr} {xs : List Value} (hb : H.get tg = some (.row el sz a n c xs)) : (Ent.row el sz a n c xs).holds K w := hS.holds tg _ hb

/-- The start, with facts on what is there. -/
inductive Facts (w : World) : Hp → Prop
  | nil : Facts w []
  | cons {t : Nat} {φ : World → Prop} {H : Hp} (h : Supp (· < w.heap.size) w φ) (hs : Facts w H) : Facts w ((t, .fz φ) :: H)
theorem Facts.sep {w : World} {H : Hp} (h : Facts w H) : Sep (· < w.heap.size) w H w := by
  refine Sep.start ?_
  induction h with
  | nil => intro t e h; simp [Hp.get] at h
  | cons h1 _ ih =>
    intro t e h
    rcases Hp.get_cons h with ⟨_, rfl⟩ | ⟨_, h⟩
    · exact ⟨_, rfl, h1⟩
    · exact ih t e h
/-- A fact that follows from one that is known. -/
theorem Sep.derive {K : Nat → Prop} {w0 w : World} {H : Hp} (hS : Sep K w0 H w) {t t' : Nat} {φ ψ : World → Prop} (h : H.get t = some (.fz φ)) (hi : ∀ w, φ w → ψ w) (hn : H.get t' = none) : Sep K w0 ((t', .fz ψ) :: H) w := by
  obtain ⟨S, hSb, hsup⟩ := hS.fz t _ φ h rfl
  refine hS.upd t' _ rfl rfl rfl (Nat.le_refl _) (fun _ _ _ => rfl) trivial (fun b hb => by cases hb) fun φ' he => ?_
  cases he
  refine ⟨S, fun b hb => ⟨(hSb b hb).1, fun h => (by cases h), fun t2 e2 h2 hk => ?_⟩, hsup.imp hi⟩
  rcases Hp.get_cons h2 with ⟨_, rfl⟩ | ⟨_, h2⟩
  · cases hk
  · exact (hSb b hb).2.2 t2 e2 h2 hk
end Go.Proofs.YtecibcjckinngaaGreatDoor
/- A region that draws its order: what only reads is taken first, wherever the condition S on the world holds behind each operation but the last. (After Derived/OrdersHeld.lean, whose law asks S behind the last one too.) -/
set_option linter.unusedVariables false
namespace Go.Proofs.YtecibcjckinngaaGreatDoor
open Go Go.RowKit

section
variable {P : Program} {ops : Array Oper} {Q : Exit → Act → World → Prop} {md : Region.Mode} {S : World → Prop}

def waits (md : Region.Mode) (ops : Array Oper) (j i : Nat) : Bool := match ops[j]? with
  | some o => o.after.any fun e => Region.binds md e && e.on == i
  | none => false
/-- Operation j waits for every other one, itself or through one that it waits for. -/
def isLast (md : Region.Mode) (ops : Array Oper) (j : Nat) : Bool := (List.range ops.size).all fun i => i == j || waits md ops j i || match ops[j]? with
  | some o => o.after.any fun e => Region.binds md e && waits md ops e.on i
  | none => false
/-- What a listed operation waits for is listed. -/
def closedB (md : Region.Mode) (ops : Array Oper) (listed : Array Bool) : Bool := (List.range ops.size).all fun d => !(listed.getD d false) || match ops[d]? with
  | some o => o.after.all fun e => !(Region.binds md e) || listed.getD e.on false
  | none => true
def Closed (md : Region.Mode) (ops : Array Oper) (listed : Array Bool) : Prop := ∀ (d : Nat) (o : Oper), ops[d]? = some o → listed.getD d false = true → ∀ e ∈ o.after, Region.binds md e = true → listed.getD e.on false = true
theorem closed_of {md : Region.Mode} {ops : Array Oper} {listed : Array Bool} (h : closedB md ops listed = true) : Closed md ops listed := fun d o ho hd e he hb => by
  have hlt : d < ops.size := (Array.getElem?_eq_some_iff.1 ho).1
  have := List.all_eq_true.1 h d (List.mem_range.2 hlt)
  simp only [ho, hd, Bool.not_true, Bool.false_or] at this
  have h2 := Array.all_eq_true'.1 this e he
  simpa [hb] using h2
theorem getD_ft {listed : Array Bool} {i : Nat} (h : i < listed.size ∨ True) (h0 : listed.getD i true = false) : listed.getD i false = false := by
  rcases Nat.lt_or_ge i listed.size with h' | h'
  · simpa [h'] using h0
  · simp [h']
theorem closed_set {md : Region.Mode} {ops : Array Oper} {listed : Array Bool} {j : Nat} (hc : Closed md ops listed) (hj : j ∈ Region.ready md ops listed) : Closed md ops (listed.setIfInBounds j true) := fun d o ho hd e he hb => by
  have key : listed.getD e.on false = true := by
    by_cases hdj : d = j
    · subst hdj
      obtain ⟨_, o', ho', hall⟩ := mem_ready.1 hj
      rw [ho] at ho'; cases ho'
      exact hall e he hb
    · rw [getD_set_ne false (Ne.symm hdj)] at hd
      exact hc d o ho hd e he hb
  exact getD_set_true key

def wpAnyS (P : Program) (md : Region.Mode) (ops : Array Oper) (Q : Exit → Act → World → Prop) (S : World → Prop) : Nat → Array Bool → Act → World → Prop
  | 0, listed, a, w => Region.ready md ops listed = [] ∧ Q .normal a w
  | fuel + 1, listed, a, w =>
    (Region.ready md ops listed = [] → Q .normal a w) ∧
    ∀ i ∈ Region.ready md ops listed, wpOp P ops Q i (fun a' w' => (isLast md ops i = false → S w') ∧ wpAnyS P md ops Q S fuel (listed.setIfInBounds i true) a' w') a w

theorem wpAny_of_S : ∀ (fuel : Nat) (listed : Array Bool) (a : Act) (w : World), wpAnyS P md ops Q S fuel listed a w → wpAny P md ops Q fuel listed a w
  | 0, _, _, _, h => h
  | fuel + 1, _, _, _, h => ⟨h.1, fun i hi => wpOp_mono (fun a' w' h' => wpAny_of_S fuel _ a' w' h'.2) (h.2 i hi)⟩

theorem wpAnyS_imp {S' : World → Prop} (hS : ∀ w, S' w → S w) : ∀ (fuel : Nat) (listed : Array Bool) (a : Act) (w : World), wpAnyS P md ops Q S' fuel listed a w → wpAnyS P md ops Q S fuel listed a w
  | 0, _, _, _, h => h
  | fuel + 1, _, _, _, h => ⟨h.1, fun i hi => wpOp_mono (fun a' w' h' => ⟨fun hj => hS _ (h'.1 hj), wpAnyS_imp hS fuel _ a' w' h'.2⟩) (h.2 i hi)⟩

theorem wpAnyS_first {i : Nat} {oi : Oper} {v : Value} (hi : ops[i]? = some oi) (hsel : ∀ (j : Nat) (o : Oper) cs b, ops[j]? = some o → o.op ≠ .select cs b)
    (hQ : ∀ c a w, Q (.panic c) (a.put oi.dst v) w → Q (.panic c) a w) :
    ∀ (fuel : Nat) (listed : Array Bool) (a : Act) (w : World),
      Closed md ops listed → (∀ j oj, ops[j]? = some oj → j ≠ i → listed.getD j true = false → (∀ e ∈ oj.after, Region.binds md e = true → e.on ≠ i) → oi.apart ops oj = true) →
      i ∈ Region.ready md ops listed → YieldsIf P ops S oi v a → S w →
      wpAnyS P md ops Q S fuel (listed.setIfInBounds i true) (a.put oi.dst v) w → wpAnyS P md ops Q S (fuel + 1) listed a w := by
  intro fuel
  induction fuel with
  | zero =>
    intro listed a w _ _ hr hy hS H
    refine ⟨fun h => (by rw [h] at hr; cases hr), fun j hj => ?_⟩
    by_cases hji : j = i
    · subst hji; exact hy.wpOp hi hS ⟨fun _ => hS, H⟩
    · have := ready_mono hj hji
      rw [H.1] at this
      cases this
  | succ fuel ih =>
    intro listed a w hcl hfree hr hy hS H
    refine ⟨fun h => (by rw [h] at hr; cases hr), fun j hj => ?_⟩
    by_cases hji : j = i
    · subst hji; exact hy.wpOp hi hS ⟨fun _ => hS, H⟩
    · have h1 := H.2 j (ready_mono hj hji)
      obtain ⟨hjun, oj, hoj, hall⟩ := mem_ready.1 hj
      have hnot : ∀ e ∈ oj.after, Region.binds md e = true → e.on ≠ i := fun e he hb heq => by
        have h1 := hall e he hb
        have h0 := (mem_ready.1 hr).1
        rw [heq] at h1
        rcases Nat.lt_or_ge i listed.size with h' | h'
        · simp [h'] at h0 h1; rw [h0] at h1; cases h1
        · simp [Array.getElem?_eq_none h'] at h1
      have h2 := wpOp_putIf hoj (hfree j oj hoj hji hjun hnot) (fun cs b => hsel i oi cs b hi) (fun cs b => hsel j oj cs b hoj) hQ hy h1
      have hfree' : ∀ k ok, ops[k]? = some ok → k ≠ i → (listed.setIfInBounds j true).getD k true = false →
          (∀ e ∈ ok.after, Region.binds md e = true → e.on ≠ i) → oi.apart ops ok = true := fun k ok hk hki hun hno => by
        refine hfree k ok hk hki ?_ hno
        by_cases hjk : j = k
        · subst hjk; exact hjun
        · rw [getD_set_ne true hjk] at hun; exact hun
      have hnl : isLast md ops j = false := by
        cases hl : isLast md ops j with
        | false => rfl
        | true =>
          have hlt : i < ops.size := (Array.getElem?_eq_some_iff.1 hi).1
          have h0 := getD_ft (.inr trivial) (mem_ready.1 hr).1
          have := List.all_eq_true.1 hl i (List.mem_range.2 hlt)
          simp only [hoj, waits, Bool.or_eq_true, beq_iff_eq] at this
          rcases this with (h | h) | h
          · exact absurd h.symm hji
          · obtain ⟨e, he, hb⟩ := Array.any_eq_true'.1 h
            simp only [Bool.and_eq_true, beq_iff_eq] at hb
            exact absurd hb.2 (hnot e he hb.1)
          · obtain ⟨e, he, hb⟩ := Array.any_eq_true'.1 h
            simp only [Bool.and_eq_true] at hb
            have hle := hall e he hb.1
            cases hoe : ops[e.on]? with
            | none => rw [hoe] at hb; simp at hb
            | some oe =>
              rw [hoe] at hb
              obtain ⟨e2, he2, hb2⟩ := Array.any_eq_true'.1 hb.2
              simp only [Bool.and_eq_true, beq_iff_eq] at hb2
              have h1 := hcl e.on oe hoe hle e2 he2 hb2.1
              rw [hb2.2, h0] at h1
              cases h1
      refine wpOp_mono (fun a' w' h3 => ⟨fun _ => h3.2.1 hnl, ih (listed.setIfInBounds j true) a' w' (closed_set hcl hj) hfree' (ready_mono hr (Ne.symm hji)) h3.1 (h3.2.1 hnl) ?_⟩) h2
      rw [Array.setIfInBounds_comm _ _ hji]
      exact h3.2.2

theorem wpAnyS_take {i : Nat} {oi : Oper} {v : Value} {fuel : Nat} {listed : Array Bool} {a : Act} {w : World} (hi : ops[i]? = some oi)
    (hcl : Closed md ops listed) (hs : Region.noSelect ops = true) (hf : Region.free md ops listed i = true) (hr : (Region.ready md ops listed).contains i = true)
    (hQ : ∀ c a w, Q (.panic c) (a.put oi.dst v) w → Q (.panic c) a w) (hy : YieldsIf P ops S oi v a) (hS : S w)
    (h : wpAnyS P md ops Q S fuel (listed.setIfInBounds i true) (a.put oi.dst v) w) : wpAnyS P md ops Q S (fuel + 1) listed a w :=
  wpAnyS_first hi (Region.noSelect_spec hs) hQ fuel listed a w hcl (Region.free_spec hi hf) (by simpa using hr) hy hS h
end

section
variable {C : Cx} {k : Act → World → Prop} {e : Env} {H : Hp} {ops : Array Oper} {d : Nat} {op : Op} {t : TypeId} {p : String} {af : Array Edge} {g : Option (Nat × Bool)} {v : Value} {S : Hp} {m : Nat} {ls : List Bool}

/-- A region that draws, some of it done ('ls'). 'S': what of the memory no operation of it but the last turns. -/
def AnyE (C : Cx) (ops : Array Oper) (S : Hp) (m : Nat) (ls : List Bool) (k : Act → World → Prop) (e : Env) (H : Hp) : Prop :=
  ∀ a w, EnvOK C.ds C.n e a → Sep C.K C.w0 H w → Sep C.K C.w0 S w → wpAnyS C.P .any ops (QN k) (Sep C.K C.w0 S) m ls.toArray a w

theorem Kp.drew (K : Nat → Prop) (w : World) : Kp K w w.drew := ⟨rfl, rfl, rfl, Nat.le_refl _, fun _ _ => rfl⟩

/-- 'S' is the memory at the region's head, less what its last operation writes. -/
theorem r_draw {k : List Item} {id : Nat} {os : List Oper} {n : Nat} (S : Hp) (hm : C.P.follows .mixedOrders = true) (hn : os.length = n) (hS : Hp.Sub S H) (h : AnyE C os.toArray S n (List.replicate n false) (Run C k) e H) : RunE C (.code (.region id os.toArray true) :: k) e H := by
  intro a w ha hw
  have hw' : Sep C.K C.w0 H w.drew := hw.keep (Kp.drew _ w)
  have := h a w.drew ha hw' (hw'.sub hS)
  refine r_of_code (wp_region_any hm ?_)
  have hsz : os.toArray.size = n := by simpa using hn
  rw [hsz]
  have hrep : (List.replicate n false).toArray = Array.replicate n false := by simp
  rw [← hrep]
  exact wpAny_of_S _ _ _ _ this

theorem d_endq (hr : Region.ready .any ops ls.toArray = []) (h : ∀ a w, EnvOK C.ds C.n e a → Sep C.K C.w0 H w → k a w) : AnyE C ops S m ls k e H := by
  intro a w ha hw _
  cases m with
  | zero => exact ⟨hr, rfl, h a w ha hw⟩
  | succ m => exact ⟨fun _ => ⟨rfl, h a w ha hw⟩, by rw [hr]; simp⟩
theorem d_end {k : List Item} (hr : Region.ready .any ops ls.toArray = []) (h : RunE C k e H) : AnyE C ops S m ls (Run C k) e H := d_endq hr h

/-- Number i, which only reads, is taken next. -/
theorem d1 (i : Nat) {ls' : List Bool} (hi : ops[i]? = some ⟨some d, op, t, p, af, none⟩) (hc : (Region.noSelect ops && Region.free .any ops ls.toArray i && (Region.ready .any ops ls.toArray).contains i && closedB .any ops ls.toArray) = true) (hl : ls.set i true = ls') (hdn : Nat.blt d C.n = true)
    (hq : Quiet C e S ⟨some d, op, t, p, af, none⟩ v) (h : AnyE C ops S m ls' k ((d, v) :: e) H) : AnyE C ops S (m + 1) ls k e H := by
  intro a w ha hw hS
  simp only [Bool.and_eq_true] at hc
  refine wpAnyS_take hi (closed_of hc.2) hc.1.1.1 hc.1.1.2 hc.1.2 (fun c a w hh => by cases hh.1) (v := v) (.inl ⟨rfl, fun w' hw' => hq a w' ha hw'⟩) hS ?_
  have := h _ w (ha.put hdn v) hw hS
  rw [← hl] at this
  simpa using this
/-- The same, guarded, the guard says yes. -/
theorem d1g (i : Nat) {ls' : List Bool} {j s : Nat} {b : Bool} (hi : ops[i]? = some ⟨some d, op, t, p, af, some (j, b)⟩) (hc : (Region.noSelect ops && Region.free .any ops ls.toArray i && (Region.ready .any ops ls.toArray).contains i && closedB .any ops ls.toArray) = true) (hl : ls.set i true = ls') (hdn : Nat.blt d C.n = true)
    (hj : (ops[j]?).bind (·.dst) = some s) (hs : e.get s = some (.bool b)) (hq : Quiet C e S ⟨some d, op, t, p, af, some (j, b)⟩ v) (h : AnyE C ops S m ls' k ((d, v) :: e) H) : AnyE C ops S (m + 1) ls k e H := by
  intro a w ha hw hS
  simp only [Bool.and_eq_true] at hc
  refine wpAnyS_take hi (closed_of hc.2) hc.1.1.1 hc.1.1.2 hc.1.2 (fun c a w hh => by cases hh.1) (v := v) (.inl ⟨by simp [Region.wanted, yielded_of ha hj hs], fun w' hw' => hq a w' ha hw'⟩) hS ?_
  have := h _ w (ha.put hdn v) hw hS
  rw [← hl] at this
  simpa using this
/-- The guard says no. -/
theorem d1o (i : Nat) {ls' : List Bool} {j s : Nat} {b : Bool} (hi : ops[i]? = some ⟨some d, op, t, p, af, some (j, b)⟩) (hc : (Region.noSelect ops && Region.free .any ops ls.toArray i && (Region.ready .any ops ls.toArray).contains i && closedB .any ops ls.toArray) = true) (hl : ls.set i true = ls') (hdn : Nat.blt d C.n = true)
    (hj : (ops[j]?).bind (·.dst) = some s) (hs : e.get s = some (.bool (!b))) (h : AnyE C ops S m ls' k ((d, undef) :: e) H) : AnyE C ops S (m + 1) ls k e H := by
  intro a w ha hw hS
  simp only [Bool.and_eq_true] at hc
  refine wpAnyS_take hi (closed_of hc.2) hc.1.1.1 hc.1.1.2 hc.1.2 (fun c a w hh => by cases hh.1) (v := undef) (.inr ⟨by simp only [Region.wanted, yielded_of ha hj hs]; cases b <;> rfl, rfl⟩) hS ?_
  have := h _ w (ha.put hdn undef) hw hS
  rw [← hl] at this
  simpa using this

theorem AnyE.know {φ : Prop} {inst : Decidable φ} {s : Nat} (hs : e.get s = some (.bool (@decide φ inst))) (ht : φ → AnyE C ops S m ls k ((s, .bool true) :: e) H) (hf : ¬ φ → AnyE C ops S m ls k ((s, .bool false) :: e) H) : AnyE C ops S m ls k e H := by
  intro a w ha hw
  have sub : ∀ b, decide φ = b → EnvOK C.ds C.n ((s, .bool b) :: e) a := fun b hb => by
    refine ⟨ha.size, ha.defers, fun t v ht => ?_⟩
    simp only [Env.get] at ht
    cases hh : Nat.beq s t with
    | true =>
      rw [hh] at ht
      obtain rfl := Nat.eq_of_beq_eq_true hh
      obtain rfl := Option.some.inj ht
      rw [← hb]
      exact ha.get s _ hs
    | false => rw [hh] at ht; exact ha.get t v ht
  by_cases hp : φ
  · exact ht hp a w (sub true (decide_eq_true hp)) hw
  · exact hf hp a w (sub false (decide_eq_false hp)) hw
theorem AnyE.knowb {b : Bool} {s : Nat} (hs : e.get s = some (.bool b)) (ht : b = true → AnyE C ops S m ls k ((s, .bool true) :: e) H) (hf : b = false → AnyE C ops S m ls k ((s, .bool false) :: e) H) : AnyE C ops S m ls k e H :=
  AnyE.know (φ := b = true) (inst := instDecidableEqBool b true) (s := s) (by rw [hs]; simp) ht (fun h => hf (by simpa using h))
theorem AnyE.weaken {e' : Env} {H' : Hp} (he : Env.Sub e' e) (hh : Hp.Sub H' H) (h : AnyE C ops S m ls k e' H') : AnyE C ops S m ls k e H :=
  fun a w ha hw hS => h a w (ha.sub he) (hw.sub hh) hS

/-- Number i alone may come up: it is run as in a sequential region; what it must come to. -/
theorem d_all (i : Nat) {ls' : List Bool} {o : Oper} (hi : ops[i]? = some o) (hr : Region.ready .any ops ls.toArray = [i]) (hl : ls.set i true = ls')
    (h : ∀ a w, EnvOK C.ds C.n e a → Sep C.K C.w0 H w → Sep C.K C.w0 S w → wpOp C.P ops (QN k) i (fun a' w' => (isLast .any ops i = false → Sep C.K C.w0 S w') ∧ wpAnyS C.P .any ops (QN k) (Sep C.K C.w0 S) m ls'.toArray a' w') a w) : AnyE C ops S (m + 1) ls k e H := by
  intro a w ha hw hS
  refine ⟨fun h0 => (by rw [hr] at h0; cases h0), fun j hj => ?_⟩
  rw [hr] at hj
  obtain rfl : j = i := by simpa using hj
  have hla : ls.toArray.setIfInBounds j true = ls'.toArray := by rw [← hl]; simp
  rw [hla]
  exact h a w ha hw hS
theorem want_none {o : Oper} (h : o.guard = none) : ∀ a, EnvOK C.ds C.n e a → Region.wanted o (yielded ops a.tmps) = true := fun a _ => by simp [Region.wanted, h]
theorem want_some {o : Oper} {j s : Nat} {b : Bool} (h : o.guard = some (j, b)) (hj : (ops[j]?).bind (·.dst) = some s) (hs : e.get s = some (.bool b)) : ∀ a, EnvOK C.ds C.n e a → Region.wanted o (yielded ops a.tmps) = true := fun a ha => by simp [Region.wanted, h, yielded_of ha hj hs]
theorem Hp.Sub.more {S H L : Hp} (h : Hp.Sub S H) (hL : ∀ t, L.get t ≠ none → S.get t = none) : Hp.Sub S (L ++ H) := by
  intro t e ht
  have h1 := h t e ht
  have : ∀ (L : Hp), L.get t = none → Hp.get (L ++ H) t = H.get t := by
    intro L
    induction L with
    | nil => intro _; rfl
    | cons y ys ih =>
      intro hn
      obtain ⟨ky, vy⟩ := y
      simp only [List.cons_append, Hp.get] at hn ⊢
      cases hb2 : Nat.beq ky t with
      | true => rw [hb2] at hn; cases hn
      | false => rw [hb2] at hn; exact ih hn
  rw [this L]
  · exact h1
  · cases hl : L.get t with
    | none => rfl
    | some x =>
      have := hL t (by rw [hl]; simp)
      rw [this] at ht
      cases ht

/-- More is known to stay as it is. -/
theorem AnyE.more {S' : Hp} (h1 : Hp.Sub S S') (h2 : Hp.Sub S' H) (h : AnyE C ops S' m ls k e H) : AnyE C ops S m ls k e H :=
  fun a w ha hw _ => wpAnyS_imp (fun w' hw' => hw'.sub h1) _ _ _ _ (h a w ha hw (hw.sub h2))

/-- Number i, which turns the memory, comes up alone, and is not the last. -/
theorem dx (i : Nat) {ls' : List Bool} {ι : Type} {vf : ι → Value} {Hf : ι → Hp} {Good : ι → Prop} (hi : ops[i]? = some ⟨some d, op, t, p, af, g⟩) (hr : Region.ready .any ops ls.toArray = [i]) (hl : ls.set i true = ls') (hdn : Nat.blt d C.n = true)
    (hw : ∀ a, EnvOK C.ds C.n e a → Region.wanted ⟨some d, op, t, p, af, g⟩ (yielded ops a.tmps) = true) (hq : Effect C e H ⟨some d, op, t, p, af, g⟩ vf Hf Good) (hS : ∀ x, Hp.Sub S (Hf x))
    (h : ∀ x, Good x → AnyE C ops S m ls' k ((d, vf x) :: e) (Hf x)) : AnyE C ops S (m + 1) ls k e H := by
  refine d_all i hi hr hl fun a w ha hw0 hS0 => ?_
  unfold wpOp
  simp only [hi]
  rw [if_pos (hw a ha)]
  exact .inl (hq a w ha hw0 _ _ fun x w' hg hw1 => ⟨fun _ => hw1.sub (hS x), h x hg _ w' (ha.put hdn _) hw1 (hw1.sub (hS x))⟩)
/-- The same, guarded, and the guard says no. -/
theorem dxo (i : Nat) {ls' : List Bool} {j s : Nat} {b : Bool} (hi : ops[i]? = some ⟨some d, op, t, p, af, some (j, b)⟩) (hr : Region.ready .any ops ls.toArray = [i]) (hl : ls.set i true = ls') (hdn : Nat.blt d C.n = true)
    (hj : (ops[j]?).bind (·.dst) = some s) (hs : e.get s = some (.bool (!b))) (h : AnyE C ops S m ls' k ((d, undef) :: e) H) : AnyE C ops S (m + 1) ls k e H := by
  refine d_all i hi hr hl fun a w ha hw0 hS0 => ?_
  unfold wpOp
  simp only [hi]
  have hw' : Region.wanted ⟨some d, op, t, p, af, some (j, b)⟩ (yielded ops a.tmps) = false := by simp only [Region.wanted, yielded_of ha hj hs]; cases b <;> rfl
  rw [if_neg (by rw [hw']; simp)]
  exact ⟨fun _ => hS0, h _ w (ha.put hdn _) hw0 hS0⟩
/-- The last one. -/
theorem dxlq (i : Nat) {ls' : List Bool} {ι : Type} {vf : ι → Value} {Hf : ι → Hp} {Good : ι → Prop} {op : Op} (hi : ops[i]? = some ⟨some d, op, t, p, af, none⟩) (hr : Region.ready .any ops ls.toArray = [i]) (hl : ls.set i true = ls') (hdn : Nat.blt d C.n = true)
    (hla : isLast .any ops i = true) (hr' : Region.ready .any ops ls'.toArray = []) (hq : Effect C e H ⟨some d, op, t, p, af, none⟩ vf Hf Good) (h : ∀ x, Good x → ∀ a w, EnvOK C.ds C.n ((d, vf x) :: e) a → Sep C.K C.w0 (Hf x) w → k a w) : AnyE C ops S (m + 1) ls k e H := by
  refine d_all i hi hr hl fun a w ha hw0 hS0 => ?_
  unfold wpOp
  simp only [hi]
  rw [if_pos (by simp [Region.wanted])]
  refine .inl (hq a w ha hw0 _ _ fun x w' hg hw1 => ⟨fun hf => (by rw [hla] at hf; cases hf), ?_⟩)
  cases m with
  | zero => exact ⟨hr', rfl, h x hg _ w' (ha.put hdn _) hw1⟩
  | succ m => exact ⟨fun _ => ⟨rfl, h x hg _ w' (ha.put hdn _) hw1⟩, by rw [hr']; simp⟩
theorem dxl {k : List Item} (i : Nat) {ls' : List Bool} {ι : Type} {vf : ι → Value} {Hf : ι → Hp} {Good : ι → Prop} {op : Op} (hi : ops[i]? = some ⟨some d, op, t, p, af, none⟩) (hr : Region.ready .any ops ls.toArray = [i]) (hl : ls.set i true = ls') (hdn : Nat.blt d C.n = true)
    (hla : isLast .any ops i = true) (hr' : Region.ready .any ops ls'.toArray = []) (hq : Effect C e H ⟨some d, op, t, p, af, none⟩ vf Hf Good) (h : ∀ x, Good x → RunE C k ((d, vf x) :: e) (Hf x)) : AnyE C ops S (m + 1) ls (Run C k) e H :=

  dxlq i hi hr hl hdn hla hr' hq h

theorem dxlnq (i : Nat) {ls' : List Bool} {ι : Type} {vf : ι → Value} {Hf : ι → Hp} {Good : ι → Prop} {op : Op} (hi : ops[i]? = some ⟨none, op, t, p, af, none⟩) (hr : Region.ready .any ops ls.toArray = [i]) (hl : ls.set i true = ls')
    (hla : isLast .any ops i = true) (hr' : Region.ready .any ops ls'.toArray = []) (hq : Effect C e H ⟨none, op, t, p, af, none⟩ vf Hf Good) (h : ∀ x, Good x → ∀ a w, EnvOK C.ds C.n e a → Sep C.K C.w0 (Hf x) w → k a w) : AnyE C ops S (m + 1) ls k e H := by
  refine d_all i hi hr hl fun a w ha hw0 hS0 => ?_
  unfold wpOp
  simp only [hi]
  rw [if_pos (by simp [Region.wanted])]
  refine .inl (hq a w ha hw0 _ _ fun x w' hg hw1 => ⟨fun hf => (by rw [hla] at hf; cases hf), ?_⟩)
  cases m with
  | zero => exact ⟨hr', rfl, h x hg _ w' ha.skip hw1⟩
  | succ m => exact ⟨fun _ => ⟨rfl, h x hg _ w' ha.skip hw1⟩, by rw [hr']; simp⟩
theorem dxln {k : List Item} (i : Nat) {ls' : List Bool} {ι : Type} {vf : ι → Value} {Hf : ι → Hp} {Good : ι → Prop} {op : Op} (hi : ops[i]? = some ⟨none, op, t, p, af, none⟩) (hr : Region.ready .any ops ls.toArray = [i]) (hl : ls.set i true = ls')
    (hla : isLast .any ops i = true) (hr' : Region.ready .any ops ls'.toArray = []) (hq : Effect C e H ⟨none, op, t, p, af, none⟩ vf Hf Good) (h : ∀ x, Good x → RunE C k e (Hf x)) : AnyE C ops S (m + 1) ls (Run C k) e H :=

  dxlnq i hi hr hl hla hr' hq h

/-- An operation of a region, not guarded, dst none, sequential order of the rest. -/
theorem dxn (i : Nat) {ls' : List Bool} {ι : Type} {vf : ι → Value} {Hf : ι → Hp} {Good : ι → Prop} {op : Op} (hi : ops[i]? = some ⟨none, op, t, p, af, g⟩) (hr : Region.ready .any ops ls.toArray = [i]) (hl : ls.set i true = ls')
    (hw : ∀ a, EnvOK C.ds C.n e a → Region.wanted ⟨none, op, t, p, af, g⟩ (yielded ops a.tmps) = true) (hq : Effect C e H ⟨none, op, t, p, af, g⟩ vf Hf Good) (hS : ∀ x, Hp.Sub S (Hf x))
    (h : ∀ x, Good x → AnyE C ops S m ls' k e (Hf x)) : AnyE C ops S (m + 1) ls k e H := by
  refine d_all i hi hr hl fun a w ha hw0 hS0 => ?_
  unfold wpOp
  simp only [hi]
  rw [if_pos (hw a ha)]
  exact .inl (hq a w ha hw0 _ _ fun x w' hg hw1 => ⟨fun _ => hw1.sub (hS x), h x hg _ w' ha.skip hw1 (hw1.sub (hS x))⟩)
end
end Go.Proofs.YtecibcjckinngaaGreatDoor
/- More operations: literals, slicing, strings, comparisons; what a function hands back. -/
set_option linter.unusedVariables false
namespace Go.Proofs.YtecibcjckinngaaGreatDoor
open Go Go.RowKit
section
variable {C : Cx} {k : Act → World → Prop} {e : Env} {H : Hp} {ops : Array Oper} {os : List Oper} {d : Nat} {op : Op} {t : TypeId} {p : String} {af : Array Edge} {g : Option (Nat × Bool)} {v : Value}

inductive Prt (e : Env) : List (Nat × Operand) → List (Nat × Value) → Prop
  | nil : Prt e [] []
  | cons {i : Nat} {x : Operand} {v : Value} {xs : List (Nat × Operand)} {vs : List (Nat × Value)} (h : e.op x = some v) (hs : Prt e xs vs) : Prt e ((i, x) :: xs) ((i, v) :: vs)
theorem EnvOK.prt {ds : List Deferred} {n : Nat} {e : Env} {a : Act} (h : EnvOK ds n e a) {xs : List (Nat × Operand)} {vs : List (Nat × Value)} (hx : Prt e xs vs) : xs.map (fun (i, x) => (i, a.eval x)) = vs := by
  induction hx with
  | nil => rfl
  | cons h1 _ ih => simp [h.op h1, ih]

theorem q_build {ty : TypeId} {xs : List (Nat × Operand)} {vs : List (Nat × Value)} {cs : List Value} (hx : Prt e xs vs) (hb : C.P.built ty vs = some cs.toArray) : Quiet C e H ⟨some d, .build ty xs.toArray, t, p, af, g⟩ (.agg cs.toArray) := fun a w ha _ => by
  have h1 : (xs.toArray.map fun (i, x) => (i, a.eval x)) = vs.toArray := by rw [List.map_toArray, ha.prt hx]
  have hr := run_build w ty vs.toArray cs.toArray (P := C.P) hb
  simp only [execOp]
  rw [h1]
  simp [hr]

theorem e_bslice {ty el : TypeId} {z : Value} {sz n : Nat} {xs : List (Nat × Operand)} {vs : List (Nat × Value)} {cs : List Value} (hu : C.P.underlying ty = some (.slice el)) (hz : (C.P.info? el).map (fun i => (i.zero, i.size)) = some (some z, sz)) (hx : Prt e xs vs)
    (hf : Instr.fill (fun i => some (i * sz, sz)) ((Array.range (n * sz)).map (z.cells[· % z.cells.size]!)) vs = some cs.toArray) (hl : cs.length = n * sz) (hn : Nat.ble (n * sz) 16777216 = true) (h0 : Nat.blt 0 (n * sz) = true) :
    Effect C e H ⟨some d, .buildSlice ty n xs.toArray, t, p, af, g⟩ (fun b : Nat => .slice (some ⟨b, 0, none⟩) n n) (fun b => (d, .row el sz (some ⟨b, 0, none⟩) n n cs) :: H) (fun _ => True) := by
  intro a w ha hw next Q h
  obtain ⟨i, hi, hii⟩ := Option.map_eq_some_iff.1 hz
  simp only [Prod.mk.injEq] at hii
  obtain ⟨hz0, hz1⟩ := hii
  have hn' : n * sz ≤ 16777216 := Nat.le_of_ble_eq_true hn
  have h0' : 0 < n * sz := by simpa using h0
  have hszp : 0 < sz := Nat.pos_of_mul_pos_left h0'
  have hnn : n ≤ n * sz := Nat.le_mul_of_pos_right _ hszp
  have h1 : (xs.toArray.map fun (i, x) => (i, a.eval x)) = vs.toArray := by rw [List.map_toArray, ha.prt hx]
  refine eff_ok (v := .slice (some ⟨w.heap.size, 0, none⟩) n n) (w' := w.alloc (.cells cs.toArray el)) ?_ (h _ _ trivial (hw.allocRow d cs.toArray el sz n n cs (by simpa using hl) (Nat.le_refl _) (by simp only [maxLen]; omega) hl (by rw [← hl]; simp)))
  have h2 : ¬ 16777216 < n * sz := by omega
  have h3 : n * sz ≠ 0 := by omega
  simp only [execOp, Instr.buildSlice]
  rw [h1]
  subst hz1
  have hne : ¬ (n = 0 ∨ i.size = 0) := fun h => by rcases h with h | h <;> rw [h] at h3 <;> simp at h3
  simp [run_underlying hu, sizeOf, typeInfo, hi, zeroValue, hz0, h2, newRow, hf]
  exact fun h => absurd h h3

/-- One result variable's value. -/
def resOne (tmps : Array Value) : ResultVar → Sem Value
  | .tmp t => pure (tmps.getD t undef)
  | .cell a t => do loadVar t (← asAddr (tmps.getD a undef))
theorem results_eq (fn : Func) (tmps : Array Value) : results fn tmps = (do let vs ← fn.results.mapM (resOne tmps); pure (if h : vs.size = 1 then vs[0] else .tuple vs)) := by
  unfold results
  rfl
def Res1 (C : Cx) (e : Env) (H : Hp) (x : ResultVar) (v : Value) : Prop := ∀ a w, EnvOK C.ds C.n e a → Sep C.K C.w0 H w → (resOne a.tmps x).run C.P w = .ok v w
theorem res_tmp {s : Nat} (h : e.get s = some v) : Res1 C e H (.tmp s) v := fun a w ha _ => by simp only [resOne, (ha.get s v h).2]; rfl
theorem res_cell {s ty tg b T : Nat} {cs : List Value} (hu : (C.P.underlying ty).map (fun | .struct _ | .array _ _ => true | _ => false) = some true) (hz : C.P.cellsOf ty = cs.length) (hzp : Nat.blt 0 cs.length = true) (h : e.get s = some (.pointer (some ⟨b, 0, none⟩))) (hb : H.get tg = some (.box b cs T)) : Res1 C e H (.cell s ty) (.agg cs.toArray) := fun a w ha hw => by
  have hsz := run_sizeOf1 (P := C.P) hz (by simpa using hzp) w
  have hl := run_loadCells1 (P := C.P) (hw.boxes hb)
  simp only [resOne, (ha.get s _ h).2]
  cases hh : C.P.underlying ty with
  | none => rw [hh] at hu; cases hu
  | some dd =>
    rw [hh] at hu
    cases dd <;> simp only [Option.map_some, Option.some.injEq, Bool.false_eq_true] at hu <;> simp [asAddr, loadVar, isAgg, run_underlying hh, hsz, hl]

theorem res0 {fn : Func} {n : Nat} (hr : fn.results = #[]) : ∀ a w, EnvOK C.ds C.n e a → Sep C.K C.w0 H w → (results fn a.tmps).run C.P w = .ok (.tuple #[]) w := fun a w ha hw => by simp [results, hr]
theorem res1 {fn : Func} {x : ResultVar} (hr : fn.results = #[x]) (h : Res1 C e H x v) : ∀ a w, EnvOK C.ds C.n e a → Sep C.K C.w0 H w → (results fn a.tmps).run C.P w = .ok v w := fun a w ha hw => by
  have h1 := h a w ha hw
  rw [results_eq, hr]
  simp [h1]
theorem res2 {fn : Func} {x y : ResultVar} {u : Value} (hr : fn.results = #[x, y]) (h : Res1 C e H x v) (h' : Res1 C e H y u) : ∀ a w, EnvOK C.ds C.n e a → Sep C.K C.w0 H w → (results fn a.tmps).run C.P w = .ok (.tuple #[v, u]) w := fun a w ha hw => by
  have h1 := h a w ha hw
  have h2 := h' a w ha hw
  rw [results_eq, hr]
  simp [h1, h2]
theorem res3 {fn : Func} {x y z : ResultVar} {u u' : Value} (hr : fn.results = #[x, y, z]) (h : Res1 C e H x v) (h' : Res1 C e H y u) (h'' : Res1 C e H z u') : ∀ a w, EnvOK C.ds C.n e a → Sep C.K C.w0 H w → (results fn a.tmps).run C.P w = .ok (.tuple #[v, u, u']) w := fun a w ha hw => by
  have h1 := h a w ha hw
  have h2 := h' a w ha hw
  have h3 := h'' a w ha hw
  rw [results_eq, hr]
  simp [h1, h2, h3]

/-- The result is a row of the call's own. -/
theorem Sep.one {K : Nat → Prop} {w0 w : World} {H : Hp} (hS : Sep K w0 H w) {t t' : Nat} {x : Ent} (h : H.get t = some x) (hnf : ∀ φ, x ≠ .fz φ) : Sep K w0 [(t', x)] w := by
  refine ⟨hS.kp, hS.bs, ?_, ?_, ?_⟩
  · intro t1 e1 h1
    rcases Hp.get_cons h1 with ⟨_, rfl⟩ | ⟨_, h1⟩
    · exact hS.holds t _ h
    · simp [Hp.get] at h1
  · intro t1 t2 e1 e2 b h1 h2 hne _ _
    rcases Hp.get_cons h1 with ⟨rfl, rfl⟩ | ⟨_, h1⟩
    · rcases Hp.get_cons h2 with ⟨rfl, rfl⟩ | ⟨_, h2⟩
      · exact hne rfl
      · simp [Hp.get] at h2
    · simp [Hp.get] at h1
  · intro t1 e1 φ h1 hf
    rcases Hp.get_cons h1 with ⟨_, rfl⟩ | ⟨_, h1⟩
    · obtain ⟨S, hSb, hsup⟩ := hS.fz t _ φ h hf
      refine ⟨S, fun b hb => ⟨(hSb b hb).1, (hSb b hb).2.1, fun t2 e2 h2 => ?_⟩, hsup⟩
      rcases Hp.get_cons h2 with ⟨_, rfl⟩ | ⟨_, h2⟩
      · exact (hSb b hb).2.2 t _ h
      · simp [Hp.get] at h2
    · simp [Hp.get] at h1
theorem nofz {t : Nat} {x : Ent} (hnf : ∀ φ, x ≠ .fz φ) : ∀ t' φ, Hp.get [(t, x)] t' ≠ some (.fz φ) := fun t' φ h => by
  rcases Hp.get_cons h with ⟨_, h⟩ | ⟨_, h⟩
  · exact hnf φ h
  · simp [Hp.get] at h
end
end Go.Proofs.YtecibcjckinngaaGreatDoor
/- Rows of typed data: append, make, store. -/
set_option linter.unusedVariables false
namespace Go.Proofs.YtecibcjckinngaaGreatDoor
open Go Go.RowKit Enc
theorem Shows.cellsAt {α : Type} [Enc α] [Inhabited α] {w : World} {a : Option Addr} {l : List α} (h : Shows w a (encs l)) {i : Nat} (hi : i < l.length) : ∀ j v, (enc (nth l i))[j]? = some v → w.cell? ((Pt a (i * sz α)).add j) = some v := fun j v hv => h.cellAt hi hv

theorem encs_set {α : Type} [Enc α] : ∀ (l : List α) (i : Nat), i < l.length → ∀ x : α, (encs l).take (i * sz α) ++ enc x ++ (encs l).drop (i * sz α + (enc x).length) = encs (l.set i x)
  | [], i, h, x => by simp at h
  | y :: ys, 0, h, x => by
    simp only [encs, List.map_cons, List.flatten_cons, Nat.zero_mul, List.take_zero, List.nil_append, Nat.zero_add, List.set_cons_zero]
    rw [len, List.drop_append_of_le_length (by rw [len]; exact Nat.le_refl _), ← len y, List.drop_length, List.nil_append]
  | y :: ys, i + 1, h, x => by
    have ih := encs_set ys i (by simpa using h) x
    simp only [encs, List.map_cons, List.flatten_cons, List.set_cons_succ] at ih ⊢
    rw [← ih, len]
    rw [List.take_append, List.drop_append, len]
    rw [List.take_of_length_le (by rw [len, Nat.succ_mul]; omega)]
    rw [List.drop_eq_nil_of_le (by rw [len, Nat.succ_mul]; omega)]
    rw [show (i + 1) * sz α - sz α = i * sz α from by rw [Nat.succ_mul]; omega, show (i + 1) * sz α + sz α - sz α = i * sz α + sz α from by rw [Nat.succ_mul]; omega]
    simp only [List.append_assoc, List.nil_append]
theorem mk_rep {α : Type} [Enc α] (n : Nat) (x : α) {cs : List Value} (h : enc x = cs) : (List.replicate n cs).flatten = encs (List.replicate n x) := by
  simp [encs, h]
theorem nofzrow {el : TypeId} {s n c : Nat} {a : Option Addr} {xs : List Value} : ∀ φ, Ent.row el s a n c xs ≠ .fz φ := fun φ h => by cases h
theorem pt_el (ad : Option Addr) (m : Nat) : ∀ g o, ad = some ⟨g, o, none⟩ → Pt ad m = ⟨g, o + m, none⟩ := fun g o h => by subst h; exact addn g o m

/-- A call that hands back a new row. -/
abbrev RetRow {α : Type} [Enc α] (P : Program) (f : FuncId) (args : Array Value) (w : World) (el : TypeId) (l : List α) : Prop :=
  ∀ tg : Nat, RetX P f args w (fun x : Option Addr × Nat => .slice x.1 l.length x.2) (fun x => [(tg, .row el (sz α) x.1 l.length x.2 (encs l))]) (fun _ => True)
section
variable {C : Cx} {k : Act → World → Prop} {e : Env} {H : Hp} {ops : Array Oper} {os : List Oper} {d : Nat} {op : Op} {t : TypeId} {p : String} {af : Array Edge} {g : Option (Nat × Bool)} {v : Value} {α : Type} [Enc α]

theorem e_appendL {x y : Operand} {ty el : TypeId} {z : Value} {bytes tg c m c2 : Nat} {ad b : Option Addr} {l l' : List α} (ht : C.P.underlying ty = some (.slice el)) (hinfo : (C.P.info? el).map (fun i => (i.zero, i.size, i.bytes)) = some (some z, sz α, bytes))
    (hz : z.cells.size = sz α) (hsz : Nat.blt 0 (sz α) = true) (hby : Nat.blt 0 bytes = true) (hx : e.op x = some (.slice ad l.length c)) (hy : e.op y = some (.slice b m c2)) (hb : H.get tg = some (.row el (sz α) ad l.length c (encs l)))
    (hm : l'.length = m) (hsrc : ∀ w, Sep C.K C.w0 H w → Shows w b (encs l')) (hbound : (l.length + l'.length) * bytes ≤ 140737488355328) :
    Effect C e H ⟨some d, .call { callee := .builtin .append, args := #[x, y], argTypes := #[ty, ty] }, t, p, af, g⟩ (fun x : Option Addr × Nat => .slice x.1 (l ++ l').length x.2) (fun x => (tg, .row el (sz α) x.1 (l ++ l').length x.2 (encs (l ++ l'))) :: H) (fun _ => True) := by
  subst hm
  have h := e_append (C := C) (d := d) (t := t) (p := p) (af := af) (g := g) ht hinfo hz hsz hby hx hy hb (by rw [encs_length]) hsrc (encs_oneCell l') hbound
  simpa only [encs_append, List.length_append] using h

theorem Sep.nilRow {K : Nat → Prop} {w0 w : World} {H : Hp} (hS : Sep K w0 H w) (tg : Nat) (el : TypeId) (s : Nat) : Sep K w0 ((tg, .row el s none 0 0 []) :: H) w :=
  hS.upd tg _ rfl rfl rfl (Nat.le_refl _) (fun _ _ _ => rfl) ⟨by simp, Nat.le_refl _, Nat.zero_le _, .inl ⟨rfl, rfl, rfl⟩⟩ (fun b hb => by cases hb) (fun φ h => by cases h)

theorem e_append0 {x y : Operand} {ty el : TypeId} {z : Value} {bytes tg m c2 : Nat} {b : Option Addr} {l : List α} (ht : C.P.underlying ty = some (.slice el)) (hinfo : (C.P.info? el).map (fun i => (i.zero, i.size, i.bytes)) = some (some z, sz α, bytes))
    (hz : z.cells.size = sz α) (hsz : Nat.blt 0 (sz α) = true) (hby : Nat.blt 0 bytes = true) (hx : e.op x = some (.slice none 0 0)) (hy : e.op y = some (.slice b m c2))
    (hm : l.length = m) (hsrc : ∀ w, Sep C.K C.w0 H w → Shows w b (encs l)) (hbound : l.length * bytes ≤ 140737488355328) :
    Effect C e H ⟨some d, .call { callee := .builtin .append, args := #[x, y], argTypes := #[ty, ty] }, t, p, af, g⟩ (fun x : Option Addr × Nat => .slice x.1 l.length x.2) (fun x => (tg, .row el (sz α) x.1 l.length x.2 (encs l)) :: H) (fun _ => True) := by
  subst hm
  intro a w ha hw next Q h
  obtain ⟨a', c', w', hr, hrow, hg, hn⟩ := run_append_row (P := C.P) (ty := t) (el := el) (sz := sz α) ht hinfo hz (by simpa using hsz) (by simpa using hby) ((hw.nilRow tg el (sz α)).holds tg _ Hp.get_same) hw.fresh (by rw [encs_length]) (hsrc w hw) (encs_oneCell l) (by simpa using hbound) (c2 := c2)
  simp only [Nat.zero_add, List.nil_append] at hr hrow
  refine eff_ok (v := .slice a' l.length c') (w' := w') ?_ (h (a', c') _ trivial (((hw.nilRow tg el (sz α)).ofRow Hp.get_same hrow hg hn).sub ?_))
  · simp [execOp, resolve, invoke, builtin, ha.op hx, ha.op hy, hr]
  · intro t1 e1 h1
    rcases Hp.get_cons h1 with ⟨rfl, rfl⟩ | ⟨hne, h1⟩
    · exact Hp.get_same
    · rw [Hp.get_ne hne, Hp.get_ne hne]; exact h1

theorem e_makeL {x y : Operand} {ty el : TypeId} {z : Value} {bytes : Nat} {kl kc : IntKind} {n c : Nat} {l : List α} (ht : C.P.underlying ty = some (.slice el)) (hinfo : (C.P.info? el).map (fun i => (i.zero, i.size, i.bytes)) = some (some z, sz α, bytes)) (hz : z.cells.size = sz α)
    (hx : e.op x = some (.int kl n)) (hy : e.op y = some (.int kc c)) (hnc : n ≤ c) (hb : bytes * c ≤ 281474976710656) (hm : c ≤ 9223372036854775807) (hl : (List.replicate n z.cells.toList).flatten = encs l) (hln : l.length = n) :
    Effect C e H ⟨some d, .makeSlice ty x y, t, p, af, g⟩ (fun a : Addr => .slice (some a) l.length c) (fun a => (d, .row el (sz α) (some a) l.length c (encs l)) :: H) (fun _ => True) := by
  subst hln
  have h := e_make (C := C) (e := e) (H := H) (d := d) (t := t) (p := p) (af := af) (g := g) ht hinfo hz hx hy hnc hb hm
  rwa [hl] at h
theorem e_bslice0 {ty el : TypeId} {z : Value} {s : Nat} (hu : C.P.underlying ty = some (.slice el)) (hz : (C.P.info? el).map (fun i => (i.zero, i.size)) = some (some z, s)) :
    Effect C e H ⟨some d, .buildSlice ty 0 #[], t, p, af, g⟩ (fun b : Nat => .slice (some ⟨b, 0, none⟩) 0 0) (fun b => (d, .row el s (some ⟨b, 0, none⟩) 0 0 (encs ([] : List α))) :: H) (fun _ => True) := by
  intro a w ha hw next Q h
  obtain ⟨i, hi, hii⟩ := Option.map_eq_some_iff.1 hz
  simp only [Prod.mk.injEq] at hii
  obtain ⟨hz0, hz1⟩ := hii
  refine eff_ok (v := .slice (some ⟨w.heap.size, 0, none⟩) 0 0) (w' := w.alloc (.cells #[] el)) ?_ (h _ _ trivial (hw.allocRow d #[] el s 0 0 [] (by simp) (Nat.le_refl _) (by simp [maxLen]) (by simp) (by simp)))
  simp [execOp, Instr.buildSlice, run_underlying hu, sizeOf, typeInfo, hi, newRow, Instr.fill]
  congr 2
  exact Array.eq_empty_of_size_eq_zero (by simp)
end
end Go.Proofs.YtecibcjckinngaaGreatDoor
/- Slicing, comparisons with nil, strings; zeros appended. -/
set_option linter.unusedVariables false
namespace Go.Proofs.YtecibcjckinngaaGreatDoor
open Go Go.RowKit Enc
section
variable {C : Cx} {k : Act → World → Prop} {e : Env} {H : Hp} {ops : Array Oper} {os : List Oper} {d : Nat} {op : Op} {t : TypeId} {p : String} {af : Array Edge} {g : Option (Nat × Bool)} {v : Value}

theorem q_nilslice {x y : Operand} {ty el t2 : TypeId} {a : Option Addr} {n c m c' : Nat} (hu : C.P.underlying ty = some (.slice el)) (hx : e.op x = some (.slice a n c)) (hy : e.op y = some (.slice none m c')) : Quiet C e H ⟨some d, .binOp .eql ty x y t2, t, p, af, g⟩ (.bool (decide (a = none))) := fun act w ha hw => by
  have h1 : (binOp .eql ty (.slice a n c) (.slice none m c')).run C.P w = .ok (.bool a.isNone) w := by
    simp only [binOp]
    simp [Op.equal, Op.maxDepth, Lib.run_equalIn_slice_nil w 9999 ty el a n c m c' hu]
  have h2 : decide (a = none) = a.isNone := by cases a <;> rfl
  rw [h2]
  simp [execOp, ha.op hx, ha.op hy, eqGuard, h1]
theorem q_notnilslice {x y : Operand} {ty el t2 : TypeId} {a : Option Addr} {n c m c' : Nat} (hu : C.P.underlying ty = some (.slice el)) (hx : e.op x = some (.slice a n c)) (hy : e.op y = some (.slice none m c')) : Quiet C e H ⟨some d, .binOp .neq ty x y t2, t, p, af, g⟩ (.bool (decide (a ≠ none))) := fun act w ha hw => by
  have h1 := run_neq_slice_nil_any (P := C.P) w ty el a n c m c' hu
  have h2 : decide (a ≠ none) = !a.isNone := by cases a <;> rfl
  rw [h2]
  simp [execOp, ha.op hx, ha.op hy, eqGuard, h1]

theorem toList_inj {s s' : ByteArray} : (s.toList == s'.toList) = decide (s = s') := by
  by_cases h : s = s'
  · subst h; simp
  · have : s.toList ≠ s'.toList := fun hh => h (by
      have h1 : s.data.toList = s'.data.toList := by simpa [ByteArray.toList_eq] using hh
      cases s; cases s'; congr; exact Array.toList_inj.1 h1)
    rw [decide_eq_false h]
    simpa using this
theorem q_seql {x y : Operand} {t1 t2 : TypeId} {a b : ByteArray} (hx : e.op x = some (.string a)) (hy : e.op y = some (.string b)) : Quiet C e H ⟨some d, .binOp .eql t1 x y t2, t, p, af, g⟩ (.bool (decide (a = b))) := fun act w ha hw => by
  rw [← toList_inj]
  simp [execOp, ha.op hx, ha.op hy, eqGuard, binOp, Op.stringOp]
theorem q_sneq {x y : Operand} {t1 t2 : TypeId} {a b : ByteArray} (hx : e.op x = some (.string a)) (hy : e.op y = some (.string b)) : Quiet C e H ⟨some d, .binOp .neq t1 x y t2, t, p, af, g⟩ (.bool (decide (a ≠ b))) := fun act w ha hw => by
  have : decide (a ≠ b) = !(a.toList == b.toList) := by rw [toList_inj]; simp
  rw [this]
  simp [execOp, ha.op hx, ha.op hy, eqGuard, binOp, Op.stringOp]
theorem q_beql {x y : Operand} {t1 t2 : TypeId} {a b : Bool} (hu : C.P.underlying t1 = some .bool) (hx : e.op x = some (.bool a)) (hy : e.op y = some (.bool b)) : Quiet C e H ⟨some d, .binOp .eql t1 x y t2, t, p, af, g⟩ (.bool (decide (a = b))) := fun act w ha hw => by
  have : decide (a = b) = (a == b) := by cases a <;> cases b <;> rfl
  have h1 := run_eql_bool (P := C.P) w t1 a b hu
  rw [← this] at h1
  simp [execOp, ha.op hx, ha.op hy, eqGuard, h1]
theorem q_bneq {x y : Operand} {t1 t2 : TypeId} {a b : Bool} (hu : C.P.underlying t1 = some .bool) (hx : e.op x = some (.bool a)) (hy : e.op y = some (.bool b)) : Quiet C e H ⟨some d, .binOp .neq t1 x y t2, t, p, af, g⟩ (.bool (decide (a ≠ b))) := fun act w ha hw => by
  have : decide (a ≠ b) = !(a == b) := by cases a <;> cases b <;> rfl
  have h1 := run_neq_bool (P := C.P) w t1 a b hu
  rw [← this] at h1
  simp [execOp, ha.op hx, ha.op hy, eqGuard, h1]
theorem q_min {x y : Operand} {tys : Array TypeId} {m n : Int} (hx : e.op x = some (.int .i64 m)) (hy : e.op y = some (.int .i64 n)) : Quiet C e H ⟨some d, .call { callee := .builtin .min, args := #[x, y], argTypes := tys }, t, p, af, g⟩ (.int .i64 (min m n)) := fun act w ha hw => by
  have h1 := run_min_int2 (P := C.P) w tys t .i64 .i64 m n
  have h2 : (if n < m then n else m) = min m n := by omega
  simp [execOp, resolve, invoke, builtin, ha.op hx, ha.op hy, h1, h2]
theorem q_max {x y : Operand} {tys : Array TypeId} {m n : Int} (hx : e.op x = some (.int .i64 m)) (hy : e.op y = some (.int .i64 n)) : Quiet C e H ⟨some d, .call { callee := .builtin .max, args := #[x, y], argTypes := tys }, t, p, af, g⟩ (.int .i64 (max m n)) := fun act w ha hw => by
  have h1 := run_max_int2 (P := C.P) w tys t .i64 .i64 m n
  have h2 : (if m < n then n else m) = max m n := by omega
  simp [execOp, resolve, invoke, builtin, ha.op hx, ha.op hy, h1, h2]
/-- A byte of a string. -/
theorem q_sindex {x y : Operand} {ty : TypeId} {s : ByteArray} {kk : IntKind} {j : Int} (hu : C.P.underlying ty = some .string) (hx : e.op x = some (.string s)) (hy : e.op y = some (.int kk j)) (h0 : 0 ≤ j) (h1 : j < s.size) :
    Quiet C e H ⟨some d, .index ty x y, t, p, af, g⟩ (.int .u8 ((s.data.toList.getD j.toNat 0).toNat : Int)) := fun act w ha hw => by
  have hlt : j.toNat < s.size := by omega
  have : s[j.toNat]? = some (s.data.toList.getD j.toNat 0) := by
    have h2 : j.toNat < s.data.toList.length := by simpa using hlt
    rw [List.getD_eq_getElem?_getD, List.getElem?_eq_getElem h2]
    simp [hlt]
    rfl
  simp [execOp, ha.op hx, ha.op hy, Instr.index, asIntOf, run_underlying hu, h0, this]

/-! ### Slicing what is only read -/
/-- s[lo:hi], as Go lays it. -/
def Sl.sub {α : Type} [Enc α] (s : Sl α) (lo hi : Nat) : Sl α := ⟨if s.cap = lo then s.addr else s.addr.map (·.add (lo * sz α)), s.cap - lo, (s.el.drop lo).take (hi - lo)⟩
theorem Sl.sub_len {α : Type} [Enc α] (s : Sl α) {lo hi : Nat} (h : lo ≤ hi) (h' : hi ≤ s.el.length) : (s.sub lo hi).el.length = hi - lo := by simp [Sl.sub]; omega
theorem encs_sub {α : Type} [Enc α] : ∀ (l : List α) (i : Nat), (encs l).drop (i * sz α) = encs (l.drop i)
  | l, 0 => by simp
  | [], i + 1 => by simp [encs]
  | x :: xs, i + 1 => by
    have ih := encs_sub xs i
    simp only [encs, List.map_cons, List.flatten_cons, List.drop_succ_cons] at ih ⊢
    rw [List.drop_append, len, List.drop_eq_nil_of_le (by rw [len, Nat.succ_mul]; omega), List.nil_append, show (i + 1) * sz α - sz α = i * sz α from by rw [Nat.succ_mul]; omega]
    exact ih
theorem encs_tk {α : Type} [Enc α] : ∀ (l : List α) (i : Nat), (encs l).take (i * sz α) = encs (l.take i)
  | l, 0 => by simp [encs]
  | [], i + 1 => by simp [encs]
  | x :: xs, i + 1 => by
    have ih := encs_tk xs i
    simp only [encs, List.map_cons, List.flatten_cons, List.take_succ_cons] at ih ⊢
    rw [List.take_append, len, List.take_of_length_le (by rw [len, Nat.succ_mul]; omega), show (i + 1) * sz α - sz α = i * sz α from by rw [Nat.succ_mul]; omega, ih]
theorem Sl.OK.sub {α : Type} [Enc α] {w : World} {s : Sl α} (h : ok w s) {lo hi : Nat} (h1 : lo ≤ hi) (h2 : hi ≤ s.el.length) : ok w (s.sub lo hi) := by
  have h : Sl.OK w s := h
  have hl := s.sub_len h1 h2
  have hlc := h.lc
  refine ⟨?_, ?_, ?_, ?_, ?_⟩
  · rw [hl]; show hi - lo ≤ s.cap - lo; omega
  · show s.cap - lo ≤ maxLen; have := h.cm; omega
  · rw [hl]; exact Nat.le_trans (Nat.mul_le_mul_right _ (by omega)) h.lb
  · intro j u hu
    have hj : (encs s.el)[lo * sz α + j]? = some u := by
      have e1 : encs (s.sub lo hi).el = ((encs s.el).drop (lo * sz α)).take ((hi - lo) * sz α) := by rw [encs_sub, encs_tk]; rfl
      rw [e1, List.getElem?_take] at hu
      split at hu
      · rwa [List.getElem?_drop] at hu
      · cases hu
    obtain ⟨ad, ha, hc⟩ := h.sh _ u hj
    by_cases hcap : s.cap = lo
    · exfalso
      have : hi = lo := by omega
      subst this
      have h3 : (encs (s.sub hi hi).el) = [] := by simp [Sl.sub, encs]
      rw [h3] at hu
      simp at hu
    · refine ⟨ad.add (lo * sz α), by simp [Sl.sub, hcap, ha], ?_⟩
      rw [add_add]
      exact hc
  · intro x hx
    exact h.el x (List.mem_of_mem_drop (List.mem_of_mem_take hx))

theorem bnd {C : Cx} {w : World} {x : Value} {kk : IntKind} {n y : Nat} {code : BoundsCode} (h : n ≤ y) : (Instr.sliceBound (.int kk (n : Int)) y code).run C.P w = .ok n w := by
  have := run_sliceBound (P := C.P) w kk (n : Int) y code (by omega) (by omega)
  simpa using this
theorem q_slice_lh {x lo hi : Operand} {ty el : TypeId} {α : Type} [Enc α] {s : Sl α} {kl kh : IntKind} {l h : Nat} (hu : C.P.underlying ty = some (.slice el)) (hz : C.P.cellsOf el = sz α) (hzp : Nat.blt 0 (sz α) = true) (hx : e.op x = some s.val) (hl : e.op lo = some (.int kl l)) (hh : e.op hi = some (.int kh h)) (h1 : l ≤ h) (h2 : h ≤ s.el.length) (h3 : s.el.length ≤ s.cap) :
    Quiet C e H ⟨some d, .slice ty x (some lo) (some hi) none, t, p, af, g⟩ (s.sub l h).val := fun act w ha hw => by
  have hsz := run_sizeOf1 (P := C.P) hz (by simpa using hzp) w
  have b1 := bnd (C := C) (w := w) (x := .nilIface) (kk := kh) (n := h) (y := s.cap) (code := .sliceAcap) (by omega)
  have b2 := bnd (C := C) (w := w) (x := .nilIface) (kk := kl) (n := l) (y := h) (code := .sliceB) (by omega)
  have h4 : (s.sub l h).el.length = h - l := s.sub_len h1 h2
  simp [execOp, ha.op hx, ha.op hl, ha.op hh, Instr.sliceAt, Instr.slice, run_underlying hu, Instr.sliceBounds, b1, b2, hsz, Sl.val, h4]
  exact ⟨rfl, rfl⟩
theorem q_slice_h {x hi : Operand} {ty el : TypeId} {α : Type} [Enc α] {s : Sl α} {kh : IntKind} {h : Nat} (hu : C.P.underlying ty = some (.slice el)) (hz : C.P.cellsOf el = sz α) (hzp : Nat.blt 0 (sz α) = true) (hx : e.op x = some s.val) (hh : e.op hi = some (.int kh h)) (h2 : h ≤ s.el.length) (h3 : s.el.length ≤ s.cap) :
    Quiet C e H ⟨some d, .slice ty x none (some hi) none, t, p, af, g⟩ (s.sub 0 h).val := fun act w ha hw => by
  have hsz := run_sizeOf1 (P := C.P) hz (by simpa using hzp) w
  have b1 := bnd (C := C) (w := w) (x := .nilIface) (kk := kh) (n := h) (y := s.cap) (code := .sliceAcap) (by omega)
  have h4 : (s.sub 0 h).el.length = h := by rw [s.sub_len (Nat.zero_le _) h2]; rfl
  simp [execOp, ha.op hx, ha.op hh, Instr.sliceAt, Instr.slice, run_underlying hu, Instr.sliceBounds, b1, hsz, Sl.val, h4]
  refine ⟨?_, rfl⟩
  simp [Sl.sub]
theorem q_slice_l {x lo : Operand} {ty el : TypeId} {α : Type} [Enc α] {s : Sl α} {kl : IntKind} {l : Nat} (hu : C.P.underlying ty = some (.slice el)) (hz : C.P.cellsOf el = sz α) (hzp : Nat.blt 0 (sz α) = true) (hx : e.op x = some s.val) (hl : e.op lo = some (.int kl l)) (h2 : l ≤ s.el.length) (h3 : s.el.length ≤ s.cap) :
    Quiet C e H ⟨some d, .slice ty x (some lo) none none, t, p, af, g⟩ (s.sub l s.el.length).val := fun act w ha hw => by
  have hsz := run_sizeOf1 (P := C.P) hz (by simpa using hzp) w
  have b2 := bnd (C := C) (w := w) (x := .nilIface) (kk := kl) (n := l) (y := s.el.length) (code := .sliceB) (by omega)
  have h4 : (s.sub l s.el.length).el.length = s.el.length - l := s.sub_len h2 (Nat.le_refl _)
  simp [execOp, ha.op hx, ha.op hl, Instr.sliceAt, Instr.slice, run_underlying hu, Instr.sliceBounds, b2, hsz, Sl.val, h4]
  exact ⟨rfl, rfl⟩

/-! ### Slicing a row of the call's own -/
/-- row[:h]. -/
theorem e_cut {α : Type} [Enc α] {x hi : Operand} {ty el : TypeId} {kh : IntKind} {tg n c h : Nat} {a : Option Addr} {l : List α} (hu : C.P.underlying ty = some (.slice el)) (hz : C.P.cellsOf el = sz α) (hzp : Nat.blt 0 (sz α) = true) (hx : e.op x = some (.slice a n c)) (hh : e.op hi = some (.int kh h)) (hb : H.get tg = some (.row el (sz α) a n c (encs l))) (h2 : h ≤ n) (hn : n = l.length) :
    Effect C e H ⟨some d, .slice ty x none (some hi) none, t, p, af, g⟩ (fun _ : Unit => .slice a (l.take h).length c) (fun _ => (tg, .row el (sz α) a (l.take h).length c (encs (l.take h))) :: H) (fun _ => True) := by
  rw [show (l.take h).length = h from by rw [List.length_take]; omega]
  intro act w ha hw next Q hk
  obtain ⟨h3, h4, h5, h6⟩ := hw.holds tg _ hb
  have hsz := run_sizeOf1 (P := C.P) hz (by simpa using hzp) w
  have b1 := bnd (C := C) (w := w) (x := .nilIface) (kk := kh) (n := h) (y := c) (code := .sliceAcap) (by omega)
  refine eff_ok (v := .slice a h c) (w' := w) ?_ (hk () w trivial (hw.upd tg _ rfl rfl rfl (Nat.le_refl _) (fun _ _ _ => rfl) ⟨?_, by omega, h5, ?_⟩ (fun b hbk => .inr ⟨_, hb, ?_⟩) (fun φ h => by cases h)))
  · simp [execOp, ha.op hx, ha.op hh, Instr.sliceAt, Instr.slice, run_underlying hu, Instr.sliceBounds, b1, hsz]
    intro _
    cases a <;> simp [Addr.add]
  · rw [encs_length, List.length_take, ← hn, Nat.min_eq_left h2]
  · rcases h6 with ⟨ha0, hn0, hc0⟩ | ⟨gg, off, cur, h7, h8, h9, h10, h11⟩
    · exact .inl ⟨ha0, by omega, hc0⟩
    · refine .inr ⟨gg, off, cur, h7, h8, h9, h10, ?_⟩
      rw [← encs_tk, ← h11, List.take_take, Nat.min_eq_left (Nat.mul_le_mul_right _ h2)]
  · cases a <;> exact hbk
/-- row[1:], row[l:]. -/
theorem e_drop {α : Type} [Enc α] {x lo : Operand} {ty el : TypeId} {kl : IntKind} {tg n c j : Nat} {a : Option Addr} {l : List α} (hu : C.P.underlying ty = some (.slice el)) (hz : C.P.cellsOf el = sz α) (hzp : Nat.blt 0 (sz α) = true) (hx : e.op x = some (.slice a n c)) (hl : e.op lo = some (.int kl j)) (hb : H.get tg = some (.row el (sz α) a n c (encs l))) (h2 : j ≤ n) (hn : n = l.length) :
    Effect C e H ⟨some d, .slice ty x (some lo) none none, t, p, af, g⟩ (fun a' : Option Addr => .slice a' (l.drop j).length (c - j)) (fun a' => (tg, .row el (sz α) a' (l.drop j).length (c - j) (encs (l.drop j))) :: H) (fun _ => True) := by
  rw [show (l.drop j).length = n - j from by rw [List.length_drop]; omega]
  intro act w ha hw next Q hk
  obtain ⟨h3, h4, h5, h6⟩ := hw.holds tg _ hb
  have hsz := run_sizeOf1 (P := C.P) hz (by simpa using hzp) w
  have hszp : 0 < sz α := by simpa using hzp
  have b2 := bnd (C := C) (w := w) (x := .nilIface) (kk := kl) (n := j) (y := n) (code := .sliceB) (by omega)
  refine eff_ok (v := .slice (if c = j then a else a.map (·.add (j * sz α))) (n - j) (c - j)) (w' := w) ?_ (hk (if c = j then a else a.map (·.add (j * sz α))) w trivial (hw.upd tg _ rfl rfl rfl (Nat.le_refl _) (fun _ _ _ => rfl) ⟨?_, by omega, by omega, ?_⟩ (fun b hbk => .inr ⟨_, hb, ?_⟩) (fun φ h => by cases h)))
  · simp [execOp, ha.op hx, ha.op hl, Instr.sliceAt, Instr.slice, run_underlying hu, Instr.sliceBounds, b2, hsz]
  · rw [encs_length, List.length_drop, ← hn]
  · rcases h6 with ⟨ha0, hn0, hc0⟩ | ⟨gg, off, cur, h7, h8, h9, h10, h11⟩
    · refine .inl ⟨?_, by omega, by omega⟩
      subst ha0
      split <;> rfl
    · subst h7
      by_cases hcj : c = j
      · refine .inr ⟨gg, off, cur, by rw [if_pos hcj], h8, h9, ?_, ?_⟩
        · have : 0 ≤ c * sz α := Nat.zero_le _
          rw [hcj, Nat.sub_self]
          omega
        · have hnj : n - j = 0 := by omega
          have hlj : l.drop j = [] := List.drop_eq_nil_of_le (by omega)
          rw [hnj, hlj]
          simp [encs]
      · refine .inr ⟨gg, off + j * sz α, cur, by rw [if_neg hcj]; simp [addn], h8, h9, ?_, ?_⟩
        · rw [Nat.sub_mul]
          have : j * sz α ≤ c * sz α := Nat.mul_le_mul_right _ (by omega)
          omega
        · rw [← encs_sub, ← h11, Nat.sub_mul, ← List.drop_drop, List.drop_take]
  · have hbl : ∀ (a : Option Addr) (m c : Nat) (xs : List Value), (Ent.row el (sz α) a m c xs).blk = a.map (·.block) := fun a m c xs => by cases a <;> rfl
    rw [hbl] at hbk ⊢
    rw [← hbk]
    split
    · rfl
    · cases a with
      | none => rfl
      | some ad => simp only [Option.map_some]; unfold Addr.add; split <;> rfl
theorem made_take (z : Array Value) (n k : Nat) : ∀ m : Nat, m * z.size ≤ k → (madeCells z k).toList.take (m * z.size) = (List.replicate m z.toList).flatten := by
  intro m
  induction m with
  | zero => intro _; simp
  | succ m ih =>
    intro hm
    have hm' : m * z.size ≤ k := by rw [Nat.succ_mul] at hm; omega
    rw [List.replicate_succ', List.flatten_append, ← ih hm', Nat.succ_mul, List.take_add]
    congr 1
    simp only [List.flatten_cons, List.flatten_nil, List.append_nil]
    apply List.ext_getElem
    · simp [madeCells]; rw [Nat.succ_mul] at hm; omega
    · intro j h1 h2
      have hj : j < z.size := by simpa using h2
      simp only [List.getElem_take, List.getElem_drop, madeCells, Array.toList_map, List.getElem_map, Array.getElem_toList, Array.getElem_range]
      have : (m * z.size + j) % z.size = j := by rw [Nat.add_comm, Nat.add_mul_mod_self_right, Nat.mod_eq_of_lt hj]
      rw [getElem!_pos z _ (by rw [this]; exact hj)]
      simp only [this]
theorem q_slice_nil {x hi : Operand} {ty el : TypeId} {kh : IntKind} (hu : C.P.underlying ty = some (.slice el)) {s : Nat} (hz : C.P.cellsOf el = s) (hzp : Nat.blt 0 s = true) (hx : e.op x = some (.slice none 0 0)) (hh : e.op hi = some (.int kh ((0 : Nat) : Int))) :
    Quiet C e H ⟨some d, .slice ty x none (some hi) none, t, p, af, g⟩ (.slice none 0 0) := fun act w ha hw => by
  have hsz := run_sizeOf1 (P := C.P) hz (by simpa using hzp) w
  have b1 := bnd (C := C) (w := w) (x := .nilIface) (kk := kh) (n := 0) (y := 0) (code := .sliceAcap) (by omega)
  simp only [Int.natCast_zero] at b1 hh
  simp [execOp, ha.op hx, ha.op hh, Instr.sliceAt, Instr.slice, run_underlying hu, Instr.sliceBounds, b1, hsz]
/-- append(nil, make([]T, n)...), n positive. -/
theorem e_appendz {α : Type} [Enc α] {x y : Operand} {ty ty2 el : TypeId} {k2 : IntKind} {z : Value} {bytes tg n : Nat} {m : Int} {l : List α} (ht : C.P.underlying ty = some (.slice el)) (ht2 : C.P.underlying ty2 = some (.int k2)) (hinfo : (C.P.info? el).map (fun i => (i.zero, i.size, i.bytes)) = some (some z, sz α, bytes))
    (hz : z.cells.size = sz α) (hx : e.op x = some (.slice none 0 0)) (hy : e.op y = some (.int .i64 m)) (hm : m = (n : Int)) (hn : 0 < n) (hbound : n * bytes ≤ 140737488355328) (hby : Nat.blt 0 bytes = true) (hsz : Nat.blt 0 (sz α) = true) (hl : (List.replicate n z.cells.toList).flatten = encs l) (hln : l.length = n) :
    Effect C e H ⟨some d, .call { callee := .builtin .append, args := #[x, y], argTypes := #[ty, ty2] }, t, p, af, g⟩ (fun x : Option Addr × Nat => .slice x.1 l.length x.2) (fun x => (tg, .row el (sz α) x.1 l.length x.2 (encs l)) :: H) (fun _ => True) := by
  subst hln
  subst hm
  intro a w ha hw next Q h
  obtain ⟨i, hi, hii⟩ := Option.map_eq_some_iff.1 hinfo
  simp only [Prod.mk.injEq] at hii
  obtain ⟨hz0, hz1, hz2⟩ := hii
  have hbp : 0 < bytes := by simpa using hby
  have hsmall : l.length ≤ 140737488355328 := Nat.le_trans (Nat.le_mul_of_pos_right _ hbp) hbound
  have hwrap : IntKind.i64.wrap (l.length : Int) = (l.length : Int) := IntWalk.i64_in _ (by omega)
  have hnn : ¬ ((l.length : Int) < 0) := by omega
  have hb1 : ¬ (281474976710656 < (l.length : Int) * (i.bytes : Int)) := by rw [hz2, ← Int.natCast_mul]; omega
  have hcap : Builtin.nextslicecap l.length 0 * i.bytes ≤ 281474976710656 := by rw [hz2]; exact growslice_fits (by omega) hbound
  have hb2 : ¬ (281474976710656 < Builtin.nextslicecap l.length 0 * i.bytes) := by omega
  have hb3 : ¬ (9223372036854775807 < (l.length : Int)) := by omega
  have hge := grownCap_ge w l.length 0 el
  have hcm := grownCap_le_maxLen w l.length 0 el (by simp only [maxLen]; omega)
  have hne : ¬ l.length = 0 := by omega
  have hzc : (Builtin.zeroCells z.cells l.length).toList = encs l := by
    rw [← hl]
    have := made_take z.cells l.length (l.length * z.cells.size) l.length (Nat.le_refl _)
    rw [List.take_of_length_le (by simp [size_madeCells])] at this
    exact this
  have hszc : (Builtin.zeroCells z.cells l.length).size = l.length * sz α := by rw [size_zeroCells, hz]
  have hrun : (Builtin.append_ #[ty, ty2] t #[.slice none 0 0, .int .i64 (l.length : Int)]).run C.P w = .ok (.slice (some ⟨w.heap.size, 0, none⟩) l.length (grownCap w l.length 0 el))
      (w.drew.alloc (.cells (#[] ++ (if l.length * i.size = 0 then #[] else Builtin.zeroCells z.cells l.length) ++ Builtin.zeroCells z.cells (grownCap w l.length 0 el - l.length)) el)) := by
    by_cases hsz0 : l.length * i.size = 0
    · simp [Builtin.append_, run_underlying ht, run_underlying ht2, sizeOf, typeInfo, zeroValue, hi, hz0, asInt, asIntOf, hwrap, hnn, hb1, hb2, hb3, hne, Builtin.firstCells, Question.forced, newRow, grownCap, hsz0]
    · simp [Builtin.append_, run_underlying ht, run_underlying ht2, sizeOf, typeInfo, zeroValue, hi, hz0, asInt, asIntOf, hwrap, hnn, hb1, hb2, hb3, hne, Builtin.firstCells, Question.forced, newRow, grownCap, hsz0]
  have hszp : 0 < sz α := by simpa using hsz
  have hne2 : ¬ (l.length * i.size = 0) := by rw [hz1]; have := Nat.mul_pos hn hszp; omega
  rw [if_neg hne2] at hrun
  refine eff_ok (v := .slice (some ⟨w.heap.size, 0, none⟩) l.length (grownCap w l.length 0 el)) (w' := w.drew.alloc (.cells (#[] ++ Builtin.zeroCells z.cells l.length ++ Builtin.zeroCells z.cells (grownCap w l.length 0 el - l.length)) el)) ?_
    (h (some ⟨w.heap.size, 0, none⟩, grownCap w l.length 0 el) _ trivial ((hw.keep (Kp.drew _ w)).allocRow tg _ el (sz α) l.length (grownCap w l.length 0 el) (encs l) ?_ hge hcm (encs_length l) ?_))
  · simp only [execOp, resolve, invoke, builtin, Sem.run_bind, Sem.run_pure, Result.andThen_ok, List.map_toArray, List.map_cons, List.map_nil, ha.op hx, ha.op hy, hrun]
  · simp only [Array.size_append, Array.size_empty, size_zeroCells, hz, ← Nat.add_mul, Nat.zero_add]
    congr 1
    omega
  · have h3 : (encs l).length = l.length * sz α := encs_length l
    simp only [Array.toList_append, Array.toList_empty, List.nil_append, hzc]
    rw [← h3]
    exact List.take_left
end
end Go.Proofs.YtecibcjckinngaaGreatDoor
/- Calls that turn the caller's memory; rows that are written no more. -/
set_option linter.unusedVariables false
namespace Go.Proofs.YtecibcjckinngaaGreatDoor
open Go Go.RowKit Enc

/-- The entries of 'H'' are entries of 'H' under other tags: those of 'ts', each once. -/
inductive Ren (H : Hp) : Hp → List Nat → Prop
  | nil : Ren H [] []
  | cons {H' : Hp} {ts : List Nat} {t t0 : Nat} {e : Ent} (h : H.get t0 = some e) (hn : ts.contains t0 = false) (hs : Ren H H' ts) : Ren H ((t, e) :: H') (t0 :: ts)
theorem Ren.get {H H' : Hp} {ts : List Nat} (h : Ren H H' ts) : ∀ t e, H'.get t = some e → ∃ t0 ∈ ts, H.get t0 = some e := by
  induction h with
  | nil => intro t e h; simp [Hp.get] at h
  | cons h1 _ _ ih =>
    intro t e h
    rcases Hp.get_cons h with ⟨_, rfl⟩ | ⟨_, h⟩
    · exact ⟨_, List.mem_cons_self .., h1⟩
    · obtain ⟨t0, h2, h3⟩ := ih t e h; exact ⟨t0, List.mem_cons_of_mem _ h2, h3⟩
theorem Ren.two {H H' : Hp} {ts : List Nat} (h : Ren H H' ts) : ∀ t t' e e', H'.get t = some e → H'.get t' = some e' → t ≠ t' → ∃ t0 t1, t0 ≠ t1 ∧ H.get t0 = some e ∧ H.get t1 = some e' := by
  induction h with
  | nil => intro t t' e e' h; simp [Hp.get] at h
  | @cons H' ts t2 t0 e0 h1 hn hr ih =>
    intro t t' e e' h h' hne
    have hn' : t0 ∉ ts := by simpa using hn
    rcases Hp.get_cons h with ⟨rfl, rfl⟩ | ⟨h2, h⟩
    · rcases Hp.get_cons h' with ⟨rfl, rfl⟩ | ⟨_, h'⟩
      · exact absurd rfl hne
      · obtain ⟨t3, h3, h4⟩ := hr.get _ _ h'
        exact ⟨t0, t3, fun h => hn' (h ▸ h3), h1, h4⟩
    · rcases Hp.get_cons h' with ⟨rfl, rfl⟩ | ⟨_, h'⟩
      · obtain ⟨t3, h3, h4⟩ := hr.get _ _ h
        exact ⟨t3, t0, fun h => hn' (h ▸ h3), h4, h1⟩
      · exact ih _ _ _ _ h h' hne
theorem Sep.ren {K : Nat → Prop} {w0 w : World} {H H' : Hp} {ts : List Nat} (hS : Sep K w0 H w) (h : Ren H H' ts) : Sep K w0 H' w := by
  refine ⟨hS.kp, hS.bs, fun t e ht => ?_, fun t t' e e' b ht ht' hne hb hb' => ?_, fun t e φ ht hf => ?_⟩
  · obtain ⟨t0, _, h0⟩ := h.get t e ht; exact hS.holds t0 e h0
  · obtain ⟨t0, t1, hn, h0, h1⟩ := h.two t t' e e' ht ht' hne; exact hS.apart t0 t1 e e' b h0 h1 hn hb hb'
  · obtain ⟨t0, _, h0⟩ := h.get t e ht
    obtain ⟨S, hSb, hs⟩ := hS.fz t0 e φ h0 hf
    exact ⟨S, fun b hb => ⟨(hSb b hb).1, (hSb b hb).2.1, fun t' e' h' => by obtain ⟨t1, _, h1⟩ := h.get t' e' h'; exact (hSb b hb).2.2 t1 e' h1⟩, hs⟩

/-- 'φ' hangs on no block of the entries 'ts'. -/
def Bears (H : Hp) (ts : List Nat) (w : World) (φ : World → Prop) : Prop := ∃ S : Nat → Prop, (∀ b, S b → b < w.heap.size ∧ ∀ t ∈ ts, ∀ e, H.get t = some e → e.blk ≠ some b) ∧ Supp S w φ
theorem Bears.imp {H : Hp} {ts : List Nat} {w : World} {φ ψ : World → Prop} (h : Bears H ts w φ) (hi : ∀ w, φ w → ψ w) : Bears H ts w ψ := by
  obtain ⟨S, h1, h2⟩ := h; exact ⟨S, h1, h2.imp hi⟩
theorem Bears.and {H : Hp} {ts : List Nat} {w : World} {φ ψ : World → Prop} (h : Bears H ts w φ) (h' : Bears H ts w ψ) : Bears H ts w (fun w => φ w ∧ ψ w) := by
  obtain ⟨S, h1, h2⟩ := h; obtain ⟨S', h1', h2'⟩ := h'
  exact ⟨fun b => S b ∨ S' b, fun b hb => hb.elim (h1 b) (h1' b), fun w' h => ⟨h2 w' fun b hb => h b (.inl hb), h2' w' fun b hb => h b (.inr hb)⟩⟩
theorem Bears.pure {H : Hp} {ts : List Nat} {w : World} {φ : World → Prop} (h : ∀ w, φ w) : Bears H ts w φ := ⟨fun _ => False, fun b hb => hb.elim, fun w' _ => h w'⟩
section
variable {K : Nat → Prop} {w0 w : World} {H : Hp} {ts : List Nat}
theorem Sep.bears_fz (hS : Sep K w0 H w) {t : Nat} {φ : World → Prop} (h : H.get t = some (.fz φ)) : Bears H ts w φ := by
  obtain ⟨S, h1, h2⟩ := hS.fz t _ φ h rfl
  exact ⟨S, fun b hb => ⟨(h1 b hb).1, fun t' _ e' h' => (h1 b hb).2.2 t' e' h'⟩, h2⟩
theorem Sep.bears_fn (hS : Sep K w0 H w) {t : Nat} {φ : World → Prop} (h : H.get t = some (.fn φ)) : Bears H ts w φ := by
  obtain ⟨S, h1, h2⟩ := hS.fz t _ φ h rfl
  exact ⟨S, fun b hb => ⟨(h1 b hb).1, fun t' _ e' h' => (h1 b hb).2.2 t' e' h'⟩, h2⟩
/-- What hangs on an entry alone. -/
theorem Sep.bears_ent (hS : Sep K w0 H w) {t : Nat} {e : Ent} (h : H.get t = some e) (hn : ts.contains t = false) {φ : World → Prop} (hφ : ∀ w' : World, e.holds (fun _ => False) w' → φ w') : Bears H ts w φ := by
  refine ⟨fun b => e.blk = some b, fun b hb => ⟨(Ent.blk_ge (hS.holds t e h) hb).2, fun t' ht' e' h' hb' => ?_⟩, fun w' hw' => hφ w' ?_⟩
  · exact hS.apart t t' e e' b h h' (fun hh => (by simpa using hn : t ∉ ts) (hh ▸ ht')) hb hb'
  · exact Ent.holds_keep (Ent.holds_mono (hS.holds t e h) (fun _ h => h.elim)) fun b hb => hw' b hb
variable {α : Type} [Enc α] [Inhabited α]
theorem Sep.bears_row (hS : Sep K w0 H w) {t : Nat} {el : TypeId} {a : Option Addr} {c : Nat} {l : List α} (h : H.get t = some (.row el (sz α) a l.length c (encs l))) (hn : ts.contains t = false) (hl : l.length * by_ α ≤ 140737488355328) (he : Bears H ts w (fun w => ∀ x ∈ l, ok w x)) : Bears H ts w (fun w => ok w (⟨a, c, l⟩ : Sl α)) :=
  ((hS.bears_ent (φ := fun w => (Ent.row el (sz α) a l.length c (encs l)).holds (fun _ => False) w) h hn (fun w' h => h)).and he).imp fun w' h => ok_row h.1 hl h.2

/-- A row that is written no more. -/
theorem Sep.freeze (hS : Sep K w0 H w) {t : Nat} {e : Ent} {φ : World → Prop} (h : H.get t = some e) (hφ : ∃ S : Nat → Prop, (∀ b, S b → b < w.heap.size ∧ ¬ K b ∧ ∀ t' e', t' ≠ t → H.get t' = some e' → e'.blk ≠ some b) ∧ Supp S w φ) : Sep K w0 ((t, .fn φ) :: H) w := by
  refine hS.upd t _ rfl rfl rfl (Nat.le_refl _) (fun _ _ _ => rfl) trivial (fun b hb => by cases hb) fun φ' hf => ?_
  cases hf
  obtain ⟨S, h1, h2⟩ := hφ
  refine ⟨S, fun b hb => ⟨(h1 b hb).1, fun _ => (h1 b hb).2.1, fun t' e' h' hb' => ?_⟩, h2⟩
  rcases Hp.get_cons h' with ⟨_, rfl⟩ | ⟨hne, h'⟩
  · cases hb'
  · exact (h1 b hb).2.2 t' e' (Ne.symm hne) h' hb'
theorem Sep.freezeRow (hS : Sep K w0 H w) {t : Nat} {el : TypeId} {a : Option Addr} {c : Nat} {l : List α} (h : H.get t = some (.row el (sz α) a l.length c (encs l))) (hl : l.length * by_ α ≤ 140737488355328) (he : ∀ w, ∀ x ∈ l, ok w x) : Sep K w0 ((t, .fn (fun w => ok w (⟨a, c, l⟩ : Sl α))) :: H) w := by
  refine hS.freeze h ⟨fun b => (Ent.row el (sz α) a l.length c (encs l)).blk = some b, fun b hb => ⟨(Ent.blk_ge (hS.holds t _ h) hb).2, (Ent.blk_ge (hS.holds t _ h) hb).1, fun t' e' hne h' hb' => hS.apart t t' _ e' b h h' (Ne.symm hne) hb hb'⟩, fun w' hw' => ok_row (Ent.holds_keep (hS.holds t _ h) fun b hb => hw' b hb) hl (he w')⟩
theorem Sep.freezeRow' (hS : Sep K w0 H w) {t t2 : Nat} {el : TypeId} {a : Option Addr} {c : Nat} {l : List α} (h : H.get t = some (.row el (sz α) a l.length c (encs l))) (hl : l.length * by_ α ≤ 140737488355328) {ψ : World → Prop} (h2 : H.get t2 = some (.fn ψ)) (he : ∀ w, ψ w → ∀ x ∈ l, ok w x) : Sep K w0 ((t, .fn (fun w => ok w (⟨a, c, l⟩ : Sl α))) :: H) w := by
  obtain ⟨S, h3, h4⟩ := hS.fz t2 _ ψ h2 rfl
  refine hS.freeze h ⟨fun b => (Ent.row el (sz α) a l.length c (encs l)).blk = some b ∨ S b, fun b hb => ?_, fun w' hw' => ok_row (Ent.holds_keep (hS.holds t _ h) fun b hb => hw' b (.inl hb)) hl (he w' (h4 w' fun b hb => hw' b (.inr hb)))⟩
  rcases hb with hb | hb
  · exact ⟨(Ent.blk_ge (hS.holds t _ h) hb).2, (Ent.blk_ge (hS.holds t _ h) hb).1, fun t' e' hne h' hb' => hS.apart t t' _ e' b h h' (Ne.symm hne) hb hb'⟩
  · exact ⟨(h3 b hb).1, (h3 b hb).2.1 rfl, fun t' e' _ h' => (h3 b hb).2.2 t' e' h'⟩
/-- A new fact from several that are known. -/
theorem Sep.fnOf (hS : Sep K w0 H w) (t : Nat) (hn : H.get t = none) {φ : World → Prop} (h : ∃ S : Nat → Prop, (∀ b, S b → b < w.heap.size ∧ ¬ K b ∧ ∀ t' e', H.get t' = some e' → e'.blk ≠ some b) ∧ Supp S w φ) : Sep K w0 ((t, .fn φ) :: H) w := by
  refine hS.upd t _ rfl rfl rfl (Nat.le_refl _) (fun _ _ _ => rfl) trivial (fun b hb => by cases hb) fun φ' hf => ?_
  cases hf
  obtain ⟨S, h1, h2⟩ := h
  refine ⟨S, fun b hb => ⟨(h1 b hb).1, fun _ => (h1 b hb).2.1, fun t' e' h' hb' => ?_⟩, h2⟩
  rcases Hp.get_cons h' with ⟨_, rfl⟩ | ⟨hne, h'⟩
  · cases hb'
  · exact (h1 b hb).2.2 t' e' h' hb'
theorem Sep.fnAnd (hS : Sep K w0 H w) {t t1 t2 : Nat} (hn : H.get t = none) {φ ψ χ : World → Prop} (h1 : H.get t1 = some (.fn φ)) (h2 : H.get t2 = some (.fn ψ)) (hi : ∀ w, φ w → ψ w → χ w) : Sep K w0 ((t, .fn χ) :: H) w := by
  obtain ⟨S, h3, h4⟩ := hS.fz t1 _ φ h1 rfl
  obtain ⟨S', h5, h6⟩ := hS.fz t2 _ ψ h2 rfl
  refine hS.fnOf t hn ⟨fun b => S b ∨ S' b, fun b hb => ?_, fun w' hw => hi w' (h4 w' fun b hb => hw b (.inl hb)) (h6 w' fun b hb => hw b (.inr hb))⟩
  rcases hb with hb | hb
  · exact ⟨(h3 b hb).1, (h3 b hb).2.1 rfl, (h3 b hb).2.2⟩
  · exact ⟨(h5 b hb).1, (h5 b hb).2.1 rfl, (h5 b hb).2.2⟩
theorem Sep.fnImp (hS : Sep K w0 H w) {t t1 : Nat} (hn : H.get t = none) {φ χ : World → Prop} (h1 : H.get t1 = some (.fn φ)) (hi : ∀ w, φ w → χ w) : Sep K w0 ((t, .fn χ) :: H) w := hS.fnAnd hn h1 h1 fun w h _ => hi w h
theorem Sep.fnTrue (hS : Sep K w0 H w) {t : Nat} (hn : H.get t = none) {χ : World → Prop} (hi : ∀ w, χ w) : Sep K w0 ((t, .fn χ) :: H) w := hS.fnOf t hn ⟨fun _ => False, fun b hb => hb.elim, fun w' _ => hi w'⟩
end

/-- A call that turns memory: what is owned and known when it begins, what when it ends. -/
abbrev CallM {ι : Type} (P : Program) (f : FuncId) (args : Array Value) (w : World) (H0 : Hp) (vf : ι → Value) (H1 : ι → Hp) (Good : ι → Prop) : Prop :=
  ∀ K : Nat → Prop, Sep K w H0 w → Calls P f args w fun e w' => ∃ x, Good x ∧ e = .returned (vf x) ∧ Sep K w (H1 x) w'

/-- Facts that ride along, under tags of their own. -/
inductive Rides (H : Hp) (ts : List Nat) (w : World) : Hp → Prop
  | nil : Rides H ts w []
  | cons {t : Nat} {φ : World → Prop} {F : Hp} (h : Bears H ts w φ) (hs : Rides H ts w F) : Rides H ts w ((t, .fz φ) :: F)
theorem Rides.get {H : Hp} {ts : List Nat} {w : World} {F : Hp} (h : Rides H ts w F) : ∀ t e, F.get t = some e → ∃ φ, e = .fz φ ∧ Bears H ts w φ := by
  induction h with
  | nil => intro t e h; simp [Hp.get] at h
  | cons h1 _ ih =>
    intro t e h
    rcases Hp.get_cons h with ⟨_, rfl⟩ | ⟨_, h⟩
    · exact ⟨_, rfl, h1⟩
    · exact ih t e h
theorem Hp.get_append {A B : Hp} {t : Nat} {e : Ent} (h : Hp.get (A ++ B) t = some e) : A.get t = some e ∨ (A.get t = none ∧ B.get t = some e) := by
  induction A with
  | nil => exact .inr ⟨rfl, h⟩
  | cons x xs ih =>
    obtain ⟨k, v⟩ := x
    simp only [List.cons_append, Hp.get] at h ⊢
    cases hb : Nat.beq k t with
    | true => rw [hb] at h; exact .inl h
    | false => rw [hb] at h; exact ih h

/-- The blocks that a callee leaves alone. -/
def Spare (H : Hp) (ts : List Nat) (w : World) : Nat → Prop := fun b => b < w.heap.size ∧ ∀ t ∈ ts, ∀ e, H.get t = some e → e.blk ≠ some b

/-- No facts among the entries. -/
def Hp.own : Hp → Bool
  | [] => true
  | (_, .fz _) :: _ => false
  | (_, .fn _) :: _ => false
  | _ :: H => Hp.own H
theorem Hp.own_get : ∀ {H : Hp}, H.own = true → ∀ t e, H.get t = some e → e.fact = none
  | [], _, t, e, h => by simp [Hp.get] at h
  | (k, x) :: H, ho, t, e, h => by
    have hx : x.fact = none ∧ Hp.own H = true := by cases x <;> simp_all [Hp.own, Ent.fact]
    rcases Hp.get_cons h with ⟨_, rfl⟩ | ⟨_, h⟩
    · exact hx.1
    · exact Hp.own_get hx.2 t e h

theorem Sep.lend {K : Nat → Prop} {w0 w : World} {H A F : Hp} {ts : List Nat} (hS : Sep K w0 H w) (hr : Ren H A ts) (ho : A.own = true) (hF : Rides H ts w F) : Sep (Spare H ts w) w (A ++ F) w := by
  have hnb : ∀ t e, F.get t = some e → e.blk = none := fun t e h => by obtain ⟨φ, rfl, _⟩ := hF.get t e h; rfl
  refine ⟨Kp.refl _ _, fun b hb => hb.1, fun t e h => ?_, fun t t' e e' b h h' hne hb hb' => ?_, fun t e φ h hf => ?_⟩
  · rcases Hp.get_append h with h | ⟨_, h⟩
    · obtain ⟨t0, ht0, h0⟩ := hr.get t e h
      have hh := hS.holds t0 e h0
      have hne : ∀ b, e.blk = some b → ¬ Spare H ts w b := fun b hb hs => hs.2 t0 ht0 e h0 hb
      cases e with
      | box g cs T => exact ⟨hne g rfl, hh.2⟩
      | mp g es c => exact ⟨hne g rfl, hh.2⟩
      | dfr g => exact ⟨hne g rfl, hh.2⟩
      | row T s a n c xs =>
        obtain ⟨h1, h2, h3, h4⟩ := hh
        refine ⟨h1, h2, h3, ?_⟩
        rcases h4 with h4 | ⟨g, off, cur, rfl, hg, h5⟩
        · exact .inl h4
        · exact .inr ⟨g, off, cur, rfl, hne g rfl, h5⟩
      | fz φ => trivial
      | fn φ => trivial
      | gone => trivial
    · obtain ⟨φ, rfl, _⟩ := hF.get t e h; trivial
  · rcases Hp.get_append h with h | ⟨_, h⟩
    · rcases Hp.get_append h' with h' | ⟨_, h'⟩
      · obtain ⟨t0, t1, hn, h0, h1⟩ := hr.two t t' e e' h h' hne; exact hS.apart t0 t1 e e' b h0 h1 hn hb hb'
      · rw [hnb _ _ h'] at hb'; cases hb'
    · rw [hnb _ _ h] at hb; cases hb
  · have key : ∀ b : Nat, (∀ t ∈ ts, ∀ e, H.get t = some e → e.blk ≠ some b) → ∀ t' e', Hp.get (A ++ F) t' = some e' → e'.blk ≠ some b := fun b hb t' e' h' hbk => by
      rcases Hp.get_append h' with h' | ⟨_, h'⟩
      · obtain ⟨t0, ht0, h0⟩ := hr.get t' e' h'; exact hb t0 ht0 e' h0 hbk
      · rw [hnb _ _ h'] at hbk; cases hbk
    rcases Hp.get_append h with h | ⟨_, h⟩
    · rw [Hp.own_get ho t e h] at hf; cases hf
    · obtain ⟨ψ, rfl, S, h1, h2⟩ := hF.get t e h
      cases hf
      exact ⟨S, fun b hb => ⟨(h1 b hb).1, (fun h => by cases h), key b (h1 b hb).2⟩, h2⟩

/-- All that was lent is given back, or gone. -/
def Hp.covers (H' H : Hp) (ts : List Nat) : Prop := ∀ t ∈ ts, H'.get t ≠ none
theorem Sep.back {K : Nat → Prop} {w0 w w' : World} {H H1 Hn : Hp} {ts us : List Nat} (hS : Sep K w0 H w) (h1 : Sep (Spare H ts w) w H1 w') (hr : Ren H1 Hn us) (hcov : ∀ t ∈ ts, Hn.get t ≠ none) (hfz : ∀ t φ, Hn.get t ≠ some (.fz φ)) : Sep K w0 (Hn ++ H) w' := by
  have h2 := h1.ren hr
  have hold : ∀ b, K b → Spare H ts w b := fun b hb => ⟨hS.bs b hb, fun t _ e he hbk => (Ent.blk_ge (hS.holds t e he) hbk).1 hb⟩
  have hother : ∀ t e b, Hn.get t = none → H.get t = some e → e.blk = some b → Spare H ts w b := fun t e b hn h hb =>
    ⟨(Ent.blk_ge (hS.holds t e h) hb).2, fun t' ht' e' h' hb' => hS.apart t t' e e' b h h' (fun hh => hcov t' ht' (hh ▸ hn)) hb hb'⟩
  refine ⟨hS.kp.trans (h2.kp.mono hold), fun b hb => h2.bs b (hold b hb), fun t e h => ?_, fun t t' e e' b h h' hne hb hb' => ?_, fun t e φ h hf => ?_⟩
  · rcases Hp.get_append h with h | ⟨hn, h⟩
    · exact Ent.holds_mono (h2.holds t e h) hold
    · exact Ent.holds_keep (hS.holds t e h) fun b hb => h2.kp.block b (hother t e b hn h hb)
  · rcases Hp.get_append h with h | ⟨hn, h⟩
    · rcases Hp.get_append h' with h' | ⟨hn', h'⟩
      · exact h2.apart t t' e e' b h h' hne hb hb'
      · exact (Ent.blk_ge (h2.holds t e h) hb).1 (hother t' e' b hn' h' hb')
    · rcases Hp.get_append h' with h' | ⟨hn', h'⟩
      · exact (Ent.blk_ge (h2.holds t' e' h') hb').1 (hother t e b hn h hb)
      · exact hS.apart t t' e e' b h h' hne hb hb'
  · rcases Hp.get_append h with h | ⟨hn, h⟩
    · obtain ⟨S, h3, h4⟩ := h2.fz t e φ h hf
      have hnew : e.new = true := by
        cases e with
        | fn φ => rfl
        | fz φ => exact absurd h (hfz t φ)
        | _ => cases hf
      refine ⟨S, fun b hb => ⟨(h3 b hb).1, fun _ hk => (h3 b hb).2.1 hnew (hold b hk), fun t' e' h' hb' => ?_⟩, h4⟩
      rcases Hp.get_append h' with h' | ⟨hn', h'⟩
      · exact (h3 b hb).2.2 t' e' h' hb'
      · exact (h3 b hb).2.1 hnew (hother t' e' b hn' h' hb')
    · obtain ⟨S, h3, h4⟩ := hS.fz t e φ h hf
      have hsp : ∀ b, S b → Spare H ts w b := fun b hb => ⟨(h3 b hb).1, fun t' _ e' h' => (h3 b hb).2.2 t' e' h'⟩
      refine ⟨S, fun b hb => ⟨Nat.lt_of_lt_of_le (h3 b hb).1 h2.kp.size, (h3 b hb).2.1, fun t' e' h' hb' => ?_⟩, h4.keep fun b hb => h2.kp.block b (hsp b hb)⟩
      rcases Hp.get_append h' with h' | ⟨hn', h'⟩
      · exact (Ent.blk_ge (h2.holds t' e' h') hb').1 (hsp b hb)
      · exact (h3 b hb).2.2 t' e' h' hb'

section
variable {C : Cx} {k : List Item} {e : Env} {H : Hp} {ops : Array Oper} {os : List Oper} {d : Nat} {op : Op} {t : TypeId} {p : String} {af : Array Edge} {g : Option (Nat × Bool)}
/-- The general call. -/
theorem e_callm {ι : Type} {vf : ι → Value} {A F : Hp} {H1 Hn : ι → Hp} {Good : ι → Prop} {ts us : List Nat} {f : FuncId} {callee : Operand} {xs : List Operand} {tys : Array TypeId} {args cap : List Value} {dst : Option Nat} (he : Enters C.P f) (hc : callee = .func f ∧ cap = [] ∨ e.op callee = some (.func (.func f) #[] cap.toArray)) (hx : Evs e xs args)
    (hr : Ren H A ts) (ho : A.own = true) (hF : ∀ w, Sep C.K C.w0 H w → Rides H ts w F) (hC : ∀ w, Sep C.K C.w0 H w → CallM C.P f (args ++ cap).toArray w (A ++ F) vf H1 Good)
    (hb : ∀ x, Ren (H1 x) (Hn x) us) (hcov : ∀ x, ∀ t ∈ ts, (Hn x).get t ≠ none) (hfz : ∀ x, (Hn x).all (fun q => match q.2 with | .fz _ => false | _ => true) = true) :
    Effect C e H ⟨dst, .call { callee := .value callee, args := xs.toArray, argTypes := tys }, t, p, af, g⟩ vf (fun x => Hn x ++ H) Good := by
  intro a w ha hw next Q h
  have hC' : Calls C.P f (#[] ++ args.toArray ++ cap.toArray) w (fun e w' => ∃ x, Good x ∧ e = .returned (vf x) ∧ Sep (Spare H ts w) w (H1 x) w') := by simpa using hC w hw _ (hw.lend hr ho (hF w hw))
  have hcv : a.eval callee = .func (.func f) #[] cap.toArray := by
    rcases hc with ⟨rfl, rfl⟩ | hc
    · rfl
    · exact ha.op hc
  refine e_enter he hcv (by rw [List.map_toArray, ha.evs hx]) hC' fun e1 w' hh => ?_
  obtain ⟨x, hg, h1, h2⟩ := hh
  refine ⟨vf x, h1, h x _ hg (hw.back h2 (hb x) (hcov x) fun t φ hh => ?_)⟩
  have hm : ∀ (L : Hp) t u, L.get t = some u → (t, u) ∈ L := fun L => by
    induction L with
    | nil => intro t u h; simp [Hp.get] at h
    | cons y ys ih =>
      intro t u h
      obtain ⟨ky, vy⟩ := y
      rcases Hp.get_cons h with ⟨rfl, rfl⟩ | ⟨_, h⟩
      · exact List.mem_cons_self ..
      · exact List.mem_cons_of_mem _ (ih t u h)
  have := List.all_eq_true.1 (hfz x) _ (hm _ _ _ hh)
  cases this
end
/-- The callee's side. -/
theorem callm_of {ι : Type} {P : Program} {f : FuncId} {fn : Func} {c : Code} {n : Nat} {args : List Value} {w : World} {vf : ι → Value} {H0 : Hp} {H1 : ι → Hp} {Good : ι → Prop} (hf : P.funcs[f]? = some fn) (hb : fn.body = some c) (hn : fn.ntmps = n) (hle : Nat.ble args.length n = true)
    (h : ∀ K, RunE ⟨P, f, n, K, w, fun e w' => ∃ x, Good x ∧ e = .returned (vf x) ∧ Sep K w (H1 x) w', []⟩ [.code c] (Env.args 0 args) H0) : CallM P f args.toArray w H0 vf H1 Good :=
  fun K hS => calls_of hf hb hn hle hS (h K)
/-- A general rule: what is known turns, the memory does not. -/
theorem r_know {C : Cx} {k : List Item} {e : Env} {H H' : Hp} (hs : ∀ w, Sep C.K C.w0 H w → Sep C.K C.w0 H' w) (h : RunE C k e H') : RunE C k e H := fun a w ha hw => h a w ha (hs w hw)
end Go.Proofs.YtecibcjckinngaaGreatDoor
/- Further operations: known conditions, bytes, arrays, the arithmetic of unsigned numbers. -/
set_option linter.unusedVariables false
namespace Go.Proofs.YtecibcjckinngaaGreatDoor
open Go Go.RowKit Enc
section
variable {C : Cx} {k : List Item} {e : Env} {H : Hp}
theorem r_ifT {c : Operand} {x y : Code} {φ : Prop} {inst : Decidable φ} (hc : e.op c = some (.bool (@decide φ inst))) (hp : φ) (h : RunE C (.code x :: k) e H) : RunE C (.code (.cond c x y) :: k) e H := r_ift (hc.trans (by rw [decide_eq_true hp])) h
theorem r_ifF {c : Operand} {x y : Code} {φ : Prop} {inst : Decidable φ} (hc : e.op c = some (.bool (@decide φ inst))) (hp : ¬ φ) (h : RunE C (.code y :: k) e H) : RunE C (.code (.cond c x y) :: k) e H := r_iff (hc.trans (by rw [decide_eq_false hp])) h
theorem r_ifbT {c : Operand} {x y : Code} {b : Bool} (hc : e.op c = some (.bool b)) (hp : b = true) (h : RunE C (.code x :: k) e H) : RunE C (.code (.cond c x y) :: k) e H := r_ift (hc.trans (by rw [hp])) h
theorem r_ifbF {c : Operand} {x y : Code} {b : Bool} (hc : e.op c = some (.bool b)) (hp : ¬ b = true) (h : RunE C (.code y :: k) e H) : RunE C (.code (.cond c x y) :: k) e H := r_iff (hc.trans (by rw [Bool.eq_false_iff.2 hp])) h
end
section
variable {C : Cx} {k : Act → World → Prop} {e : Env} {H : Hp} {ops : Array Oper} {os : List Oper} {d : Nat} {op : Op} {t : TypeId} {p : String} {af : Array Edge}
theorem yielded_undef {ops : Array Oper} {j s : Nat} {a : Act} {ds : List Deferred} {n : Nat} {e : Env} (ha : EnvOK ds n e a) (hj : (ops[j]?).bind (·.dst) = some s) (hs : e.get s = some undef) : yielded ops a.tmps j = none := by
  obtain ⟨hlt, hv⟩ := ha.get s _ hs
  have hsz : s < a.tmps.size := by rw [ha.size]; exact hlt
  have : a.tmps[s]? = some undef := by
    rw [Array.getD_eq_getD_getElem?, Array.getElem?_eq_getElem hsz] at hv
    rw [Array.getElem?_eq_getElem hsz]
    exact congrArg some hv
  simp [yielded, hj, this, undef]
/-- A guard on what was not done. -/
theorem g_offu {j s : Nat} {b : Bool} (hj : (ops[j]?).bind (·.dst) = some s) (hs : e.get s = some undef) (hdn : Nat.blt d C.n = true) (h : OpsE C ops os k ((d, undef) :: e) H) :
    OpsE C ops (⟨some d, op, t, p, af, some (j, b)⟩ :: os) k e H := by
  intro a w ha hw
  have hw' : ((none : Option Bool) == some b) = false := rfl
  simp only [wpList, Region.wanted, yielded_undef ha hj hs, hw', Bool.false_eq_true, if_false]
  exact h _ w (ha.put hdn undef) hw
variable {S : Hp} {m : Nat} {ls : List Bool}
theorem d1ou (i : Nat) {ls' : List Bool} {j s : Nat} {b : Bool} (hi : ops[i]? = some ⟨some d, op, t, p, af, some (j, b)⟩) (hc : (Region.noSelect ops && Region.free .any ops ls.toArray i && (Region.ready .any ops ls.toArray).contains i && closedB .any ops ls.toArray) = true) (hl : ls.set i true = ls') (hdn : Nat.blt d C.n = true)
    (hj : (ops[j]?).bind (·.dst) = some s) (hs : e.get s = some undef) (h : AnyE C ops S m ls' k ((d, undef) :: e) H) : AnyE C ops S (m + 1) ls k e H := by
  intro a w ha hw hS
  simp only [Bool.and_eq_true] at hc
  refine wpAnyS_take hi (closed_of hc.2) hc.1.1.1 hc.1.1.2 hc.1.2 (fun c a w hh => by cases hh.1) (v := undef) (.inr ⟨by simp only [Region.wanted, yielded_undef ha hj hs]; cases b <;> rfl, rfl⟩) hS ?_
  have := h _ w (ha.put hdn undef) hw hS
  rw [← hl] at this
  simpa using this
theorem dxou (i : Nat) {ls' : List Bool} {j s : Nat} {b : Bool} (hi : ops[i]? = some ⟨some d, op, t, p, af, some (j, b)⟩) (hr : Region.ready .any ops ls.toArray = [i]) (hl : ls.set i true = ls') (hdn : Nat.blt d C.n = true)
    (hj : (ops[j]?).bind (·.dst) = some s) (hs : e.get s = some undef) (h : AnyE C ops S m ls' k ((d, undef) :: e) H) : AnyE C ops S (m + 1) ls k e H := by
  refine d_all i hi hr hl fun a w ha hw0 hS0 => ?_
  unfold wpOp
  simp only [hi]
  have hw' : Region.wanted ⟨some d, op, t, p, af, some (j, b)⟩ (yielded ops a.tmps) = false := by simp only [Region.wanted, yielded_undef ha hj hs]; cases b <;> rfl
  rw [if_neg (by rw [hw']; simp)]
  exact ⟨fun _ => hS0, h _ w (ha.put hdn _) hw0 hS0⟩
end
instance : Enc UInt8 := {
  sz := 1
  by_ := 1
  enc := fun n => [.int .u8 n.toNat]
  len := fun _ => rfl
  one := fun s v hv => by simp at hv; subst hv; rfl
  ok := fun _ _ => True
  mono := fun _ _ _ h _ => h }
instance instEncUnit : Enc Unit := {
  sz := 0
  by_ := 0
  enc := fun _ => []
  len := fun _ => rfl
  one := fun s v hv => by simp at hv
  ok := fun _ _ => True
  mono := fun _ _ _ h _ => h }
section
variable {C : Cx} {k : Act → World → Prop} {e : Env} {H : Hp} {ops : Array Oper} {os : List Oper} {d : Nat} {op : Op} {t : TypeId} {p : String} {af : Array Edge} {g : Option (Nat × Bool)} {v : Value}
theorem encs_bytes (s : ByteArray) : encs s.data.toList = (s.data.map fun b => Value.int .u8 b.toNat).toList := by
  simp only [encs, Array.toList_map]
  induction s.data.toList with
  | nil => rfl
  | cons x xs ih => simp only [List.map_cons, List.flatten_cons, ih]; rfl
/-- []byte(s): a new row, that is only read. -/
theorem e_tobytes {x : Operand} {src dst el : TypeId} {s : ByteArray} (hs : C.P.underlying src = some .string) (hd : C.P.underlying dst = some (.slice el)) (hel : C.P.underlying el = some (.int .u8)) (hx : e.op x = some (.string s)) (hb : s.size ≤ 140737488355328) :
    Effect C e H ⟨some d, .convert src dst x, t, p, af, g⟩ (fun q : Option Addr × Nat => .slice q.1 s.data.toList.length q.2) (fun q => (d, .fn (fun w => ok w (⟨q.1, q.2, s.data.toList⟩ : Sl UInt8))) :: H) (fun _ => True) := by
  intro a w ha hw next Q h
  have hr := Lib.run_convert_string_bytes (P := C.P) w src dst el s hs hd hel
  have hlen : s.data.toList.length = s.size := by simp
  have hge := grownCap_ge w s.size 0 el
  have hge2 : s.data.toList.length ≤ grownCap w s.size 0 el := by rw [hlen]; exact hge
  have hcm := grownCap_le_maxLen w s.size 0 el (by simp only [maxLen]; omega)
  refine eff_ok (v := .slice (some ⟨w.heap.size, 0, none⟩) s.data.toList.length (grownCap w s.size 0 el)) (w' := Lib.bytesWorld w el s) ?_ (h (some ⟨w.heap.size, 0, none⟩, grownCap w s.size 0 el) _ trivial ?_)
  · rw [hlen]
    simp [execOp, ha.op hx, hr]
  · refine hw.upd d _ ?_ ?_ ?_ ?_ (fun b hb _ => Lib.bytesWorld_at_old w el s b hb) trivial (fun b hb => by cases hb) fun φ hf => ?_
    · simp [Lib.bytesWorld, World.freeze, World.alloc, World.drew, -World.alloc_eq, -World.drew_eq]
    · simp [Lib.bytesWorld, World.freeze, World.alloc, World.drew, -World.alloc_eq, -World.drew_eq]
    · simp [Lib.bytesWorld, World.freeze, World.alloc, World.drew, -World.alloc_eq, -World.drew_eq]
    · rw [Lib.bytesWorld_size]; omega
    · cases hf
      refine ⟨fun b => b = w.heap.size, fun b hb => ⟨by rw [Lib.bytesWorld_size]; omega, fun _ hk => ?_, fun t' e' h' hbk => ?_⟩, fun w' hw' => ?_⟩
      · subst hb
        exact hw.fresh hk
      · subst hb
        rcases Hp.get_cons h' with ⟨_, rfl⟩ | ⟨_, h'⟩
        · cases hbk
        · have := (Ent.blk_ge (hw.holds t' e' h') hbk).2; omega
      · refine ⟨hge2, hcm, by simpa [by_] using hb, fun j u hu => ⟨_, rfl, ?_⟩, fun _ _ => trivial⟩
        rw [add0]
        have hj : j < s.size := by
          have := (List.getElem?_eq_some_iff.1 hu).1
          rw [encs_length, hlen] at this
          simpa [sz] using this
        have h1 : w'.cell? ⟨w.heap.size, j, none⟩ = (Lib.bytesWorld w el s).cell? ⟨w.heap.size, j, none⟩ := World.cell?_of_block (hw' _ rfl)
        rw [h1, Lib.bytesWorld_cell w el s j hj]
        rw [encs_bytes] at hu
        rw [← hu]
        simp [List.getD_eq_getElem?_getD, hj]
/-- A part of an array that is no cell of memory. -/
theorem q_aindex {α : Type} [Enc α] [Inhabited α] {x y : Operand} {ty el : TypeId} {kk : IntKind} {j : Int} {i : Nat} {l : List α} (hu : C.P.underlying ty = some (.array l.length el)) {fs : Array Go.Field} (hel : C.P.underlying el = some (.struct fs)) (hz : C.P.cellsOf el = sz α) (hzp : Nat.blt 0 (sz α) = true)
    (hx : e.op x = some (.agg (encs l).toArray)) (hy : e.op y = some (.int kk j)) (hj : j = i) (hi : i < l.length) :
    Quiet C e H ⟨some d, .index ty x y, t, p, af, g⟩ (.agg (enc (nth l i)).toArray) := fun act w ha hw => by
  subst hj
  have hsz := run_sizeOf1 (P := C.P) hz (by simpa using hzp) w
  have he : List.take (sz α) (List.drop (i * sz α) (encs l)) = enc (nth l i) := by
    apply List.ext_getElem?
    intro m
    by_cases hm : m < sz α
    · rw [← encs_get l i m hi hm, List.getElem?_take, if_pos (by omega), List.getElem?_drop]
    · rw [List.getElem?_eq_none (by simp; omega), List.getElem?_eq_none (by simp [len]; omega)]
  simp [execOp, ha.op hx, ha.op hy, Instr.index, asIntOf, run_underlying hu, hi, part, isAgg, run_underlying hel, hsz, he]
section arith
variable {x y : Operand} {t1 t2 : TypeId} {kk k2 : IntKind} {m n : Int}
theorem q_quok (hx : e.op x = some (.int kk m)) (hy : e.op y = some (.int kk n)) (hn : n ≠ 0) : Quiet C e H ⟨some d, .binOp .quo t1 x y t2, t, p, af, g⟩ (.int kk (kk.wrap (m.tdiv n))) := fun act w ha hw => by
  simp [execOp, ha.op hx, ha.op hy, eqGuard, binOp, Op.intDiv, hn]
theorem q_remk (hx : e.op x = some (.int kk m)) (hy : e.op y = some (.int kk n)) (hn : n ≠ 0) : Quiet C e H ⟨some d, .binOp .rem t1 x y t2, t, p, af, g⟩ (.int kk (m.tmod n)) := fun act w ha hw => by
  simp [execOp, ha.op hx, ha.op hy, eqGuard, binOp, Op.intDiv, hn]
theorem q_shl (hx : e.op x = some (.int kk m)) (hy : e.op y = some (.int k2 n)) (hn : 0 ≤ n) : Quiet C e H ⟨some d, .binOp .shl t1 x y t2, t, p, af, g⟩ (.int kk (kk.wrap (m * 2 ^ (min n.toNat kk.bits)))) := fun act w ha hw => by
  have : ¬ n < 0 := by omega
  simp [execOp, ha.op hx, ha.op hy, eqGuard, binOp, Op.shift, this]
theorem q_shr (hx : e.op x = some (.int kk m)) (hy : e.op y = some (.int k2 n)) (hn : 0 ≤ n) : Quiet C e H ⟨some d, .binOp .shr t1 x y t2, t, p, af, g⟩ (.int kk (m.fdiv (2 ^ (min n.toNat kk.bits)))) := fun act w ha hw => by
  have : ¬ n < 0 := by omega
  simp [execOp, ha.op hx, ha.op hy, eqGuard, binOp, Op.shift, this]
theorem q_or (hx : e.op x = some (.int kk m)) (hy : e.op y = some (.int kk n)) : Quiet C e H ⟨some d, .binOp .or t1 x y t2, t, p, af, g⟩ (.int kk (kk.wrap (BitVec.ofInt kk.bits m ||| BitVec.ofInt kk.bits n).toNat)) := fun act w ha hw => by
  simp [execOp, ha.op hx, ha.op hy, eqGuard, binOp, Op.intBits]
theorem q_and (hx : e.op x = some (.int kk m)) (hy : e.op y = some (.int kk n)) : Quiet C e H ⟨some d, .binOp .and t1 x y t2, t, p, af, g⟩ (.int kk (kk.wrap (BitVec.ofInt kk.bits m &&& BitVec.ofInt kk.bits n).toNat)) := fun act w ha hw => by
  simp [execOp, ha.op hx, ha.op hy, eqGuard, binOp, Op.intBits]
theorem q_conv {src dst : TypeId} {u : TypeDesc} (hs : C.P.underlying src = some u) (hd : C.P.underlying dst = some (.int k2)) (hx : e.op x = some (.int kk m)) : Quiet C e H ⟨some d, .convert src dst x, t, p, af, g⟩ (.int k2 (k2.wrap m)) := fun act w ha hw => by
  simp [execOp, ha.op hx, convert, run_underlying hs, run_underlying hd, Conv.intToInt]
/-- The same value, called otherwise. -/
theorem Quiet.as {o : Oper} {v v' : Value} (h : Quiet C e H o v) (hv : v = v') : Quiet C e H o v' := hv ▸ h
end arith
end
/-- The shape of a kind of objects: which fields it uses. -/
structure ShapeM where
  name : Bool
  cls : Bool
  refs : Bool
  names : Bool
  keys : Bool
  code : Bool
  states : Bool
  items : Int
  deriving Inhabited
instance : Enc ShapeM := {
  sz := 8
  by_ := 16
  enc := fun x => [.bool x.name, .bool x.cls, .bool x.refs, .bool x.names, .bool x.keys, .bool x.code, .bool x.states, .int .i64 x.items]
  len := fun _ => rfl
  one := fun s v hv => by simp at hv; rcases hv with rfl | rfl | rfl | rfl | rfl | rfl | rfl | rfl <;> rfl
  ok := fun _ _ => True
  mono := fun _ _ _ h _ => h }
/-- A function without captured variables. -/
structure FnM where
  id : FuncId
  deriving Inhabited
instance : Enc FnM := {
  sz := 1
  by_ := 8
  enc := fun x => [.func (.func x.id) #[] #[]]
  len := fun _ => rfl
  one := fun s v hv => by simp at hv; subst hv; rfl
  ok := fun _ _ => True
  mono := fun _ _ _ h _ => h }
theorem wrap_u8 {n : Int} (h : 0 ≤ n ∧ n < 256) : IntKind.u8.wrap n = n := by simp [IntKind.wrap, IntKind.bits, IntKind.signed]; omega
theorem wrap_u32 {n : Int} (h : 0 ≤ n ∧ n < 4294967296) : IntKind.u32.wrap n = n := by simp [IntKind.wrap, IntKind.bits, IntKind.signed]; omega
theorem wrap_u64 {n : Int} (h : 0 ≤ n ∧ n < 18446744073709551616) : IntKind.u64.wrap n = n := by simp [IntKind.wrap, IntKind.bits, IntKind.signed]; omega
end Go.Proofs.YtecibcjckinngaaGreatDoor
/- A region that draws its order, where several operations may come up. -/
set_option linter.unusedVariables false
namespace Go.Proofs.YtecibcjckinngaaGreatDoor
open Go Go.RowKit Enc
theorem take_drop_get {cs ds : List Value} {off j : Nat} {u : Value} (h : (cs.drop off).take ds.length = ds) (hu : ds[j]? = some u) : cs[off + j]? = some u := by
  rw [← h, List.getElem?_take] at hu
  split at hu
  · rwa [List.getElem?_drop] at hu
  · cases hu
/-- A part of a box. -/
theorem Sep.boxpart {K : Nat → Prop} {w0 w : World} {H : Hp} (hS : Sep K w0 H w) {tg g off : Nat} {cs ds : List Value} {T : TypeId} (hb : H.get tg = some (.box g cs T)) (h : (cs.drop off).take ds.length = ds) : ∀ j v, ds[j]? = some v → w.cell? ((⟨g, off, none⟩ : Addr).add j) = some v := fun j v hv => by
  rw [addn]
  exact hS.box hb (take_drop_get h hv)
/-- A part of an element. -/
theorem Sl.OK.part {α : Type} [Enc α] [Inhabited α] {w : World} {s : Sl α} (h : ok w s) {i off : Nat} (hi : i < s.el.length) {ds : List Value} (hd : ((enc (nth s.el i)).drop off).take ds.length = ds) : ∀ j v, ds[j]? = some v → w.cell? (((Pt s.addr (i * sz α)).add off).add j) = some v := fun j v hv => by
  rw [add_add]
  exact Sl.OK.cell h hi (take_drop_get hd hv)
theorem nb_dec (b : Bool) : (!b) = decide (¬ b = true) := by cases b <;> rfl
theorem nb_t {b : Bool} (h : (!b) = true) : ¬ b = true := by cases b <;> simp_all
theorem nb_f {b : Bool} (h : (!b) = false) : ¬ ¬ b = true := by cases b <;> simp_all
theorem b_dec (b : Bool) : b = decide (b = true) := by cases b <;> rfl
section
variable {C : Cx} {k : Act → World → Prop} {e : Env} {H : Hp} {ops : Array Oper} {d : Nat} {op : Op} {t : TypeId} {p : String} {af : Array Edge} {g : Option (Nat × Bool)} {v : Value} {S : Hp} {m : Nat} {ls : List Bool}
/-- Number i comes up. -/
def AnyAt (C : Cx) (ops : Array Oper) (S : Hp) (m : Nat) (ls : List Bool) (k : Act → World → Prop) (e : Env) (H : Hp) (i : Nat) : Prop :=
  ∀ a w, EnvOK C.ds C.n e a → Sep C.K C.w0 H w → Sep C.K C.w0 S w → wpOp C.P ops (QN k) i (fun a' w' => (isLast .any ops i = false → Sep C.K C.w0 S w') ∧ wpAnyS C.P .any ops (QN k) (Sep C.K C.w0 S) m (ls.set i true).toArray a' w') a w
theorem AnyE.two {i j : Nat} (hr : Region.ready .any ops ls.toArray = [i, j]) (hi : AnyAt C ops S m ls k e H i) (hj : AnyAt C ops S m ls k e H j) : AnyE C ops S (m + 1) ls k e H := by
  intro a w ha hw hS
  refine ⟨fun h0 => (by rw [hr] at h0; cases h0), fun x hx => ?_⟩
  rw [hr] at hx
  have hla : ls.toArray.setIfInBounds x true = (ls.set x true).toArray := by simp
  rw [hla]
  rcases List.mem_cons.1 hx with rfl | hx
  · exact hi a w ha hw hS
  · obtain rfl : x = j := by simpa using hx
    exact hj a w ha hw hS
theorem AnyE.three {i j l : Nat} (hr : Region.ready .any ops ls.toArray = [i, j, l]) (hi : AnyAt C ops S m ls k e H i) (hj : AnyAt C ops S m ls k e H j) (hl : AnyAt C ops S m ls k e H l) : AnyE C ops S (m + 1) ls k e H := by
  intro a w ha hw hS
  refine ⟨fun h0 => (by rw [hr] at h0; cases h0), fun x hx => ?_⟩
  rw [hr] at hx
  have hla : ls.toArray.setIfInBounds x true = (ls.set x true).toArray := by simp
  rw [hla]
  rcases List.mem_cons.1 hx with rfl | hx
  · exact hi a w ha hw hS
  · rcases List.mem_cons.1 hx with rfl | hx
    · exact hj a w ha hw hS
    · obtain rfl : x = l := by simpa using hx
      exact hl a w ha hw hS
/-- It turns the memory, and is not the last. -/
theorem da {i : Nat} {ls' : List Bool} {ι : Type} {vf : ι → Value} {Hf : ι → Hp} {Good : ι → Prop} (hi : ops[i]? = some ⟨some d, op, t, p, af, g⟩) (hl : ls.set i true = ls') (hdn : Nat.blt d C.n = true)
    (hw : ∀ a, EnvOK C.ds C.n e a → Region.wanted ⟨some d, op, t, p, af, g⟩ (yielded ops a.tmps) = true) (hq : Effect C e H ⟨some d, op, t, p, af, g⟩ vf Hf Good) (hS : ∀ x, Hp.Sub S (Hf x))
    (h : ∀ x, Good x → AnyE C ops S m ls' k ((d, vf x) :: e) (Hf x)) : AnyAt C ops S m ls k e H i := by
  intro a w ha hw0 hS0
  subst hl
  unfold wpOp
  simp only [hi]
  rw [if_pos (hw a ha)]
  exact .inl (hq a w ha hw0 _ _ fun x w' hg hw1 => ⟨fun _ => hw1.sub (hS x), h x hg _ w' (ha.put hdn _) hw1 (hw1.sub (hS x))⟩)
theorem dan {i : Nat} {ls' : List Bool} {ι : Type} {vf : ι → Value} {Hf : ι → Hp} {Good : ι → Prop} (hi : ops[i]? = some ⟨none, op, t, p, af, g⟩) (hl : ls.set i true = ls')
    (hw : ∀ a, EnvOK C.ds C.n e a → Region.wanted ⟨none, op, t, p, af, g⟩ (yielded ops a.tmps) = true) (hq : Effect C e H ⟨none, op, t, p, af, g⟩ vf Hf Good) (hS : ∀ x, Hp.Sub S (Hf x))
    (h : ∀ x, Good x → AnyE C ops S m ls' k e (Hf x)) : AnyAt C ops S m ls k e H i := by
  intro a w ha hw0 hS0
  subst hl
  unfold wpOp
  simp only [hi]
  rw [if_pos (hw a ha)]
  exact .inl (hq a w ha hw0 _ _ fun x w' hg hw1 => ⟨fun _ => hw1.sub (hS x), h x hg _ w' ha.skip hw1 (hw1.sub (hS x))⟩)
/-- What changes no memory is an effect, too. -/
theorem Effect.of {o : Oper} (h : Quiet C e H o v) : Effect C e H o (fun _ : Unit => v) (fun _ => H) (fun _ => True) := by
  intro a w ha hw next Q hn
  simp only [Oper.wp, h a w ha hw, Oper.upon]
  exact hn () w trivial hw
/-- The rest is shown once, for all that the region may leave. -/
theorem r_cutx {k : List Item} {ι : Type} {x : Item} (e' : ι → Env) (H' : ι → Hp) (h : ∀ q, RunE C k (e' q) (H' q)) (h1 : (∀ q, RunE C k (e' q) (H' q)) → RunE C (x :: k) e H) : RunE C (x :: k) e H := h1 h
end
end Go.Proofs.YtecibcjckinngaaGreatDoor
/- Operations on strings; quotients; digits. -/
set_option linter.unusedVariables false
namespace Go.Proofs.YtecibcjckinngaaGreatDoor
open Go Go.RowKit Enc
section
variable {C : Cx} {k : Act → World → Prop} {e : Env} {H : Hp} {ops : Array Oper} {os : List Oper} {d : Nat} {op : Op} {t : TypeId} {p : String} {af : Array Edge} {g : Option (Nat × Bool)} {v : Value}
theorem q_sadd {x y : Operand} {t1 t2 : TypeId} {a b : ByteArray} (hx : e.op x = some (.string a)) (hy : e.op y = some (.string b)) (hb : a.size + b.size ≤ 9223372036854775807) : Quiet C e H ⟨some d, .binOp .add t1 x y t2, t, p, af, g⟩ (.string (a ++ b)) := fun act w ha hw => by
  have : ¬ ((a.size + b.size : Nat) : Int) > IntKind.i64.max := by
    have : IntKind.i64.max = 9223372036854775807 := by rfl
    omega
  simp [execOp, ha.op hx, ha.op hy, eqGuard, binOp, Op.stringOp]
  omega
theorem q_sslice {x lo hi : Operand} {ty : TypeId} {s : ByteArray} {kl kh : IntKind} {l h : Nat} (hu : C.P.underlying ty = some .string) (hx : e.op x = some (.string s)) (hl : e.op lo = some (.int kl l)) (hh : e.op hi = some (.int kh h)) (h1 : l ≤ h) (h2 : h ≤ s.size) :
    Quiet C e H ⟨some d, .slice ty x (some lo) (some hi) none, t, p, af, g⟩ (.string (s.extract l h)) := fun act w ha hw => by
  have b1 := bnd (C := C) (w := w) (x := .nilIface) (kk := kh) (n := h) (y := s.size) (code := .sliceAlen) (by omega)
  have b2 := bnd (C := C) (w := w) (x := .nilIface) (kk := kl) (n := l) (y := h) (code := .sliceB) (by omega)
  simp [execOp, ha.op hx, ha.op hl, ha.op hh, Instr.sliceAt, Instr.slice, run_underlying hu, Instr.sliceBounds, b1, b2]
theorem q_sslice_l {x lo : Operand} {ty : TypeId} {s : ByteArray} {kl : IntKind} {l : Nat} (hu : C.P.underlying ty = some .string) (hx : e.op x = some (.string s)) (hl : e.op lo = some (.int kl l)) (h1 : l ≤ s.size) :
    Quiet C e H ⟨some d, .slice ty x (some lo) none none, t, p, af, g⟩ (.string (s.extract l s.size)) := fun act w ha hw => by
  have b2 := bnd (C := C) (w := w) (x := .nilIface) (kk := kl) (n := l) (y := s.size) (code := .sliceB) (by omega)
  simp [execOp, ha.op hx, ha.op hl, Instr.sliceAt, Instr.slice, run_underlying hu, Instr.sliceBounds, b2]
theorem q_rune {x : Operand} {src dst : TypeId} {u : TypeDesc} {kk : IntKind} {n : Int} (hs : C.P.underlying src = some u) (hd : C.P.underlying dst = some .string) (hx : e.op x = some (.int kk n)) : Quiet C e H ⟨some d, .convert src dst x, t, p, af, g⟩ (.string (Utf8.encode n)) := fun act w ha hw => by
  simp [execOp, ha.op hx, convert, run_underlying hs, run_underlying hd, Conv.intToString]
theorem encode_ascii {n : Int} (h : 0 ≤ n ∧ n < 128) : Utf8.encode n = ⟨#[UInt8.ofNat n.toNat]⟩ := by
  have hv : Utf8.valid n = true := by simp [Utf8.valid]; omega
  unfold Utf8.encode
  simp only [hv, if_true]
  rw [if_pos (by omega)]
theorem wrap_i32 {n : Int} (h : -2147483648 ≤ n ∧ n < 2147483648) : IntKind.i32.wrap n = n := by simp [IntKind.wrap, IntKind.bits, IntKind.signed]; omega
theorem q_quo {x y : Operand} {t1 t2 : TypeId} {m n : Int} (hx : e.op x = some (.int .i64 m)) (hy : e.op y = some (.int .i64 n)) (hn : 0 < n) (hm : -9223372036854775808 ≤ m ∧ m ≤ 9223372036854775807) : Quiet C e H ⟨some d, .binOp .quo t1 x y t2, t, p, af, g⟩ (.int .i64 (m.tdiv n)) := by
  have h1 := q_quok (C := C) (e := e) (H := H) (d := d) (t := t) (p := p) (af := af) (g := g) (t1 := t1) (t2 := t2) hx hy (by omega)
  refine h1.as (congrArg _ (wrap_i64 ?_))
  rcases Int.le_total 0 m with h0 | h0
  · have h2 := Int.tdiv_nonneg h0 (Int.le_of_lt hn)
    have h3 := Int.tdiv_le_self n h0
    omega
  · have h2 := Int.tdiv_nonneg (a := -m) (b := n) (by omega) (Int.le_of_lt hn)
    have h3 := Int.tdiv_le_self (a := -m) n (by omega)
    rw [Int.neg_tdiv] at h2 h3
    omega
theorem q_neg {x : Operand} {t1 : TypeId} {m : Int} (hx : e.op x = some (.int .i64 m)) (hm : -9223372036854775807 ≤ m ∧ m ≤ 9223372036854775807) : Quiet C e H ⟨some d, .unOp .neg t1 x, t, p, af, g⟩ (.int .i64 (-m)) := fun act w ha hw => by
  have := wrap_i64 (n := 0 - m) (by omega)
  simp [execOp, ha.op hx, Op.unary, Op.intArith]
  rw [Int.zero_sub] at this
  exact this
end
end Go.Proofs.YtecibcjckinngaaGreatDoor
/- Further operations: fields of structs, maps, parts of elements, values against nil; boxes and maps that are written no more. -/
set_option linter.unusedVariables false
namespace Go.Proofs.YtecibcjckinngaaGreatDoor
open Go Go.RowKit Enc
/-- The cell at the head of block g. -/
def CellIs (w : World) (g : Nat) (v : Value) : Prop := w.cell? ⟨g, 0, none⟩ = some v
/-- The block g shows the data x. -/
def BoxIs {α : Type} [Enc α] (w : World) (g : Nat) (x : α) : Prop := ∀ j v, (enc x)[j]? = some v → w.cell? ((⟨g, 0, none⟩ : Addr).add j) = some v
/-- The block g is a map. -/
def MapIs (w : World) (g : Nat) (es : Array MapEntry) (n : Nat) : Prop := w.heap[g]? = some (.map es n)
theorem BoxIs.keep {α : Type} [Enc α] {w w' : World} {g : Nat} {x : α} (h : BoxIs w g x) (hk : ∀ b, b < w.heap.size → w'.heap[b]? = w.heap[b]?) : BoxIs w' g x := fun j v hv => cell_keep hk _ _ (h j v hv)
theorem CellIs.keep {w w' : World} {g : Nat} {v : Value} (h : CellIs w g v) (hk : ∀ b, b < w.heap.size → w'.heap[b]? = w.heap[b]?) : CellIs w' g v := cell_keep hk _ _ h
theorem supp_box {α : Type} [Enc α] {w : World} {g : Nat} {x : α} (h : BoxIs w g x) : Supp (· < w.heap.size) w (fun w => BoxIs w g x) := fun w' h' => h.keep h'
theorem supp_cell {w : World} {g : Nat} {v : Value} (h : CellIs w g v) : Supp (· < w.heap.size) w (fun w => CellIs w g v) := fun w' h' => h.keep h'
theorem supp_map {w : World} {g : Nat} {es : Array MapEntry} {n : Nat} (h : MapIs w g es n) : Supp (· < w.heap.size) w (fun w => MapIs w g es n) := fun w' h' => by
  have hlt : g < w.heap.size := (Array.getElem?_eq_some_iff.1 h).1
  exact (h' g hlt).trans h
theorem cell_local {w w' : World} {g n : Nat} (h : w'.heap[g]? = w.heap[g]?) : w'.cell? ⟨g, n, none⟩ = w.cell? ⟨g, n, none⟩ := by
  unfold World.cell?; simp only [h]
theorem supp_box1 {α : Type} [Enc α] {w : World} {g : Nat} {x : α} (h : BoxIs w g x) : Supp (· = g) w (fun w => BoxIs w g x) := fun w' h' j v hv => by
  have := h j v hv
  rw [add0] at this ⊢
  rw [cell_local (h' g rfl)]; exact this
theorem supp_cell1 {w : World} {g : Nat} {v : Value} (h : CellIs w g v) : Supp (· = g) w (fun w => CellIs w g v) := fun w' h' => (cell_local (h' g rfl)).trans h
theorem supp_map1 {w : World} {g : Nat} {es : Array MapEntry} {n : Nat} (h : MapIs w g es n) : Supp (· = g) w (fun w => MapIs w g es n) := fun w' h' => (h' g rfl).trans h
section
variable {K : Nat → Prop} {w0 w : World} {H : Hp}
theorem Sep.freezeAt (hS : Sep K w0 H w) {t g : Nat} {e : Ent} (h : H.get t = some e) (hb : e.blk = some g) {φ : World → Prop} (hφ : Supp (· = g) w φ) : Sep K w0 ((t, .fn φ) :: H) w := by
  have hg := Ent.blk_ge (hS.holds t e h) hb
  refine hS.freeze h ⟨(· = g), fun b hbb => ?_, hφ⟩
  subst hbb
  exact ⟨hg.2, hg.1, fun t' e' hne h' hb' => hS.apart t t' e e' b h h' (Ne.symm hne) hb hb'⟩
theorem Sep.freezeBox (hS : Sep K w0 H w) {t g : Nat} {v : Value} {cs : List Value} {T : TypeId} (h : H.get t = some (.box g (v :: cs) T)) : Sep K w0 ((t, .fn (fun w => CellIs w g v)) :: H) w :=
  hS.freezeAt h rfl (supp_cell1 (by
    have := hS.boxes h 0 v rfl
    rw [add0] at this; exact this))
theorem Sep.freezeBoxes {α : Type} [Enc α] (hS : Sep K w0 H w) {t g : Nat} {x : α} {T : TypeId} (h : H.get t = some (.box g (enc x) T)) : Sep K w0 ((t, .fn (fun w => BoxIs w g x)) :: H) w :=
  hS.freezeAt h rfl (supp_box1 (hS.boxes h))
theorem Sep.freezeMap (hS : Sep K w0 H w) {t g : Nat} {es : Array MapEntry} {n : Nat} (h : H.get t = some (.mp g es n)) : Sep K w0 ((t, .fn (fun w => MapIs w g es n)) :: H) w :=
  hS.freezeAt h rfl (supp_map1 (hS.holds t _ h).2)
end
section
variable {C : Cx} {k : Act → World → Prop} {e : Env} {H : Hp} {ops : Array Oper} {os : List Oper} {d : Nat} {op : Op} {t : TypeId} {p : String} {af : Array Edge} {g : Option (Nat × Bool)} {v : Value}
/-- A field of a struct that is no cell of memory. -/
theorem q_field1 {x : Operand} {T : TypeId} {fs : Array Go.Field} {f : Go.Field} {i : Nat} {cs : Array Value} (hu : C.P.underlying T = some (.struct fs)) (hf : fs[i]? = some f) (hx : e.op x = some (.agg cs)) (hp : ∀ w, (part f.type cs f.offset).run C.P w = .ok v w) :
    Quiet C e H ⟨some d, .field T x i, t, p, af, g⟩ v := fun act w hact hw => by
  simp [execOp, hact.op hx, Instr.field, run_underlying hu, hf, asAgg, hp]
theorem checkKey_str {P : Program} {kt : TypeId} (hk : P.underlying kt = some .string) (b : Bool) (n : Nat) (s : ByteArray) (w : World) : (Instr.checkKey b (n + 1) kt (.string s)).run P w = .ok () w := by
  rw [Instr.checkKey]
  simp [run_underlying hk]
theorem findKey_str {P : Program} {kt : TypeId} (hk : P.underlying kt = some .string) {s : ByteArray} {es : List MapEntry} {r : Option (Nat × Value)} (hr : Instr.findNow .string (.string s) es 0 = some r) (w : World) : (Instr.findKey kt (.string s) es).run P w = .ok r w := by
  unfold Instr.findKey
  simp [run_underlying hk, hr]
theorem q_mkfunc {fn : Fn} {xs : List Operand} {us : List Value} (hx : Evs e xs us) : Quiet C e H ⟨some d, .makeFunc fn #[] xs.toArray, t, p, af, g⟩ (.func fn #[] us.toArray) :=
  q_func (fun a ha => by simp) (fun a ha => by rw [← ha.evs hx]; simp)
/-- A map of strings, read. -/
theorem q_lookup {m x : Operand} {T kt el : TypeId} {gm : Nat} {es : Array MapEntry} {n : Nat} {s : ByteArray} {z : Value} {r : Option (Nat × Value)} (hu : C.P.underlying T = some (.map kt el)) (hk : C.P.underlying kt = some .string) (hz : (C.P.info? el).map (fun i => i.zero) = some (some z))
    (hm : e.op m = some (.map (some gm))) (hx : e.op x = some (.string s)) (hM : ∀ w, Sep C.K C.w0 H w → MapIs w gm es n) (hr : Instr.findNow .string (.string s) es.toList 0 = some r) :
    Quiet C e H ⟨some d, .lookup T m x true, t, p, af, g⟩ (.tuple #[(r.map (·.2)).getD z, .bool r.isSome]) := fun act w hact hw => by
  have hM' := hM w hw
  unfold MapIs at hM'
  obtain ⟨i, hi, hz0⟩ := Option.map_eq_some_iff.1 hz
  simp only [execOp, hact.op hm, hact.op hx, Instr.lookup]
  have hck : (Instr.checkKey es.isEmpty 10000 kt (.string s)).run C.P w = .ok () w := checkKey_str hk _ 9999 s w
  have hg : (getObj gm).run C.P w = .ok (.map es n) w := by simp [getObj, Sem.run, hM']
  have hf : (Instr.findKey kt (.string s) es.toList).run C.P w = .ok r w := findKey_str hk hr w
  have hzz : (zeroValue el).run C.P w = .ok z w := by simp [zeroValue, typeInfo, hi, hz0]
  cases r with
  | none => simp [run_underlying hu, hg, hck, hf, hzz]
  | some q => simp [run_underlying hu, hg, hck, hf]
theorem Sep.allocMap {K : Nat → Prop} {w0 w : World} {H : Hp} (hS : Sep K w0 H w) (t : Nat) : Sep K w0 ((t, .mp w.heap.size #[] 0) :: H) (w.alloc (.map #[] 0)) :=
  hS.upd t _ rfl rfl rfl (by simp) (fun b hb _ => Go.heap_alloc_old w _ hb) ⟨hS.fresh, heap_alloc_new w _⟩ (fun b hb => by obtain rfl := Option.some.inj hb; exact .inl (Nat.le_refl _)) (fun φ h => by cases h)
theorem e_makemap {T : TypeId} : Effect C e H ⟨some d, .makeMap T none, t, p, af, g⟩ (fun b : Nat => .map (some b)) (fun b => (d, .mp b #[] 0) :: H) (fun _ => True) := by
  intro a w ha hw next Q h
  refine eff_ok (v := .map (some w.heap.size)) (w' := w.alloc (.map #[] 0)) ?_ (h _ _ trivial (hw.allocMap d))
  simp [execOp, Instr.makeMap]
/-- A new key. -/
theorem e_insert {m x y : Operand} {T kt el : TypeId} {gm tg : Nat} {es : Array MapEntry} {n : Nat} {s : ByteArray} (hu : C.P.underlying T = some (.map kt el)) (hk : C.P.underlying kt = some .string)
    (hm : e.op m = some (.map (some gm))) (hx : e.op x = some (.string s)) (hy : e.op y = some v) (hb : H.get tg = some (.mp gm es n)) (hr : Instr.findNow .string (.string s) es.toList 0 = some none) :
    Effect C e H ⟨none, .insert T m x y, t, p, af, g⟩ (fun _ : Unit => undef) (fun _ => (tg, .mp gm (es.push { key := .string s, val := v, born := n }) (n + 1)) :: H) (fun _ => True) := by
  intro a w ha hw next Q h
  have hM := hw.holds tg _ hb
  obtain ⟨hK, hM'⟩ := hM
  have hlt : gm < w.heap.size := (Array.getElem?_eq_some_iff.1 hM').1
  refine eff_oku (w' := w.putObj gm (.map (es.push { key := .string s, val := v, born := n }) (n + 1))) ?_ (h () _ trivial ?_)
  · have hck : (Instr.checkKey false 10000 kt (.string s)).run C.P w = .ok () w := checkKey_str hk _ 9999 s w
    have hg : (getObj gm).run C.P w = .ok (.map es n) w := by simp [getObj, Sem.run, hM']
    have hf : (Instr.findKey kt (.string s) es.toList).run C.P w = .ok none w := findKey_str hk hr w
    have hs : (setObj gm (.map (es.push { key := .string s, val := v, born := n }) (n + 1))).run C.P w = .ok () (w.putObj gm (.map (es.push { key := .string s, val := v, born := n }) (n + 1))) := by simp [setObj, Sem.run, hM', World.putObj]
    simp only [execOp, ha.op hm, ha.op hx, ha.op hy, Instr.mapUpdate]
    simp [run_underlying hu, hg, hck, hf, hs]
  · refine hw.upd tg _ rfl rfl rfl (by simp [World.putObj]) (fun b hb' hne => World.putObj_heap_other (Ne.symm (fun e => hne _ hb (by rw [e]; rfl)))) ⟨hK, World.putObj_heap_same hlt⟩ (fun b hbb => .inr ⟨_, hb, hbb⟩) (fun φ h => by cases h)
end
theorem encs_setpart {α : Type} [Enc α] [Inhabited α] : ∀ (l : List α) (i off : Nat) (news : List Value) (x' : α), i < l.length → off + news.length ≤ sz α → (enc (nth l i)).take off ++ news ++ (enc (nth l i)).drop (off + news.length) = enc x' →
    (encs l).take (i * sz α + off) ++ news ++ (encs l).drop (i * sz α + off + news.length) = encs (l.set i x')
  | [], i, off, news, x', hi, _, _ => by simp at hi
  | y :: ys, 0, off, news, x', hi, hle, hx => by
    simp only [nth, List.getD_cons_zero] at hx
    simp only [encs, List.map_cons, List.flatten_cons, Nat.zero_mul, Nat.zero_add, List.set_cons_zero]
    have hl := len y
    rw [List.take_append_of_le_length (by omega), List.drop_append_of_le_length (by omega), ← hx]
    simp
  | y :: ys, i + 1, off, news, x', hi, hle, hx => by
    have hi' : i < ys.length := by simpa using hi
    have ih := encs_setpart ys i off news x' hi' hle (by simpa only [nth, List.getD_cons_succ] using hx)
    have hl := len y
    simp only [encs, List.map_cons, List.flatten_cons, List.set_cons_succ] at ih ⊢
    rw [← ih]
    have e1 : (i + 1) * sz α + off = (enc y).length + (i * sz α + off) := by rw [hl, Nat.add_mul]; omega
    rw [e1, List.take_length_add_append, Nat.add_assoc, List.drop_length_add_append]
    simp
end Go.Proofs.YtecibcjckinngaaGreatDoor
/- A call that has ranged over a function: its return; regions that run in a round. -/
set_option linter.unusedVariables false
namespace Go.Proofs.YtecibcjckinngaaGreatDoor
open Go Go.RowKit Enc
section
variable {C : Cx} {k : List Item} {e : Env} {H : Hp}
theorem dfr_gone {K : Nat → Prop} {w0 w : World} (hS : Sep K w0 H w) {T D : Nat} (h : H.get T = some (.dfr D)) : Sep K w0 ((T, .gone) :: H) (w.putObj D (.deferred none)) := by
  have hh := hS.holds T _ h
  have hlt : D < w.heap.size := (Array.getElem?_eq_some_iff.1 hh.2).1
  refine hS.upd T _ rfl rfl rfl (by simp [World.putObj]) (fun b hb hne => World.putObj_heap_other (fun e => hne _ h (by rw [e]; rfl))) trivial (fun b hb => by cases hb) (fun φ hf => by cases hf)
/-- The return of a call that has ranged over a function. -/
theorem r_retD {fn : Func} {v : Value} {T D : Nat} (hf : C.P.funcs[C.f]? = some fn) (hds : C.ds = [{ target := .collected D, args := #[] }]) (hD : H.get T = some (.dfr D))
    (hr : ∀ a w, EnvOK C.ds C.n e a → Sep C.K C.w0 ((T, .gone) :: H) w → (results fn a.tmps).run C.P w = .ok v w)
    (hR : ∀ w, Sep C.K C.w0 ((T, .gone) :: H) w → C.R (.returned v) w) : RunE C (.code .ret :: k) e H := by
  intro a w ha hw cs
  have hw' := dfr_gone hw hD
  have hk := (hw.holds T _ hD).2
  have hd : a.defers = [{ target := .collected D, args := #[] }] := ha.defers.trans hds
  have h2 : step C.P (lone { (bf C.f).at a (.code .ret :: k) with mode := .returning } cs w) = .next (lone { { (bf C.f).at a (.code .ret :: k) with mode := .returning } with defers := [] ++ [] } cs (w.putObj D (.deferred none))) :=
    step_collected (fr := { (bf C.f).at a (.code .ret :: k) with mode := .returning }) (by simp) hd rfl (run_takeDeferred hk)
  refine ⟨.returned v, w.putObj D (.deferred none), _, hR _ hw', Steps.head step_ret (.one h2), rfl, rfl, rfl, rfl, fn, hf, ?_⟩
  exact hr a _ ha hw'
end
/-! ### Rounds -/
section
variable {P : Program} {ops : Array Oper} {Q : Exit → Act → World → Prop} {l n : Nat}
theorem upon_in {o : Oper} {a : Act} {K : Act → World → Prop} {r : Result Next} (h : o.upon P a K Q r) : o.uponIn (Fence.wide.inRound l) n P a K Q r := by
  cases r with
  | ok x w =>
    cases x with
    | value v => exact h
    | skip => exact h
    | defer d => exact h
    | enter f args => exact ⟨fun hd => by simp [Fence.wide] at hd, CallsIn.inRound l (callsIn_wide.2 h)⟩
    | row r args => exact ⟨fun hd => by simp [Fence.wide] at hd, fun c cs _ => let ⟨v, w', hv, hs⟩ := h c cs; ⟨v, w', hv, stepsIn_wide.2 hs⟩⟩
    | _ => exact absurd h (by simp [Oper.upon])
  | halt x w =>
    cases x with
    | panic v => exact h
    | _ => exact absurd h (by simp [Oper.upon])
/-- No operation defers. -/
def NoDefer (ops : Array Oper) : Prop := ∀ (i : Nat) (o : Oper), ops[i]? = some o → ∀ c, o.op ≠ Op.defer c
theorem op_in (hnd : NoDefer ops) (hQ : ¬ LetsOut Q) {i : Nat} {a : Act} {w : World} {K : Act → World → Prop} (h : wpOp P ops Q i K a w) : wpOpIn (Fence.wide.inRound l) n P ops Q i K a w := by
  unfold wpOp at h
  unfold wpOpIn
  cases hi : ops[i]? with
  | none => simpa [hi] using h
  | some o =>
    simp only [hi] at h ⊢
    split
    · rename_i hw
      rw [if_pos hw] at h
      rcases h with h | ⟨_, h⟩
      · refine ⟨fun _ _ => trivial, ?_⟩
        rw [show (Fence.wide.inRound l).round = some l from rfl, Oper.semAt_some l _ o (hnd i o hi)]
        exact upon_in h
      · exact absurd h hQ
    · rename_i hw
      rw [if_neg hw] at h
      exact ⟨fun _ _ => trivial, h⟩
theorem any_in (hnd : NoDefer ops) (hQ : ¬ LetsOut Q) {md : Region.Mode} : ∀ (m : Nat) (ls : Array Bool) (a : Act) (w : World), wpAny P md ops Q m ls a w → wpAnyIn (Fence.wide.inRound l) n P md ops Q m ls a w
  | 0, _, _, _, h => h
  | m + 1, ls, a, w, h => ⟨h.1, fun i hi => op_in hnd hQ (wpOp_mono (fun a' w' h' => any_in hnd hQ m _ a' w' h') (h.2 i hi))⟩
theorem list_in (hQ : ¬ LetsOut Q) : ∀ (os : List Oper) (hnd : ∀ o ∈ os, ∀ c, o.op ≠ Op.defer c) (a : Act) (w : World), wpList P ops Q os a w → wpListIn (Fence.wide.inRound l) n P ops Q os a w
  | [], _, _, _, h => h
  | o :: os, hnd, a, w, h => by
    have hm : ∀ a w, wpList P ops Q os a w → wpListIn (Fence.wide.inRound l) n P ops Q os a w := fun a w h => list_in hQ os (fun o ho => hnd o (List.mem_cons_of_mem _ ho)) a w h
    simp only [wpList] at h
    simp only [wpListIn]
    split
    · rename_i hw
      rw [if_pos hw] at h
      rcases h with h | ⟨_, h⟩
      · refine ⟨fun _ _ => trivial, ?_⟩
        rw [show (Fence.wide.inRound l).round = some l from rfl, Oper.semAt_some l _ o (hnd o (by simp))]
        exact upon_in (Oper.wp_mono (P := P) (Q := Q) (o := o) hm h)
      · exact absurd h hQ
    · rename_i hw
      rw [if_neg hw] at h
      exact ⟨fun _ _ => trivial, hm _ _ h⟩
theorem qn_out (q : Act → World → Prop) : ¬ LetsOut (QN q) := fun ⟨_, _, h⟩ => by cases h.1
end
/-- A sequential region in a round. -/
theorem region_in {C : Cx} {q : Act → World → Prop} {e : Env} {H : Hp} {l n id : Nat} {os : List Oper} (hnd : ∀ o ∈ os, ∀ c, o.op ≠ Op.defer c) (h : OpsE C os.toArray os q e H) {a : Act} {w : World} (ha : EnvOK C.ds C.n e a) (hw : Sep C.K C.w0 H w) :
    (Code.region id os.toArray false).wpIn (Fence.wide.inRound l) n C.P (QN q) a w :=
  wpIn_region_lit (list_in (qn_out q) os hnd a w (h a w ha hw))
/-- A drawn region in a round. -/
theorem draw_in {C : Cx} {q : Act → World → Prop} {e : Env} {H : Hp} {l n id m : Nat} {os : List Oper} (S : Hp) (hm : C.P.follows .mixedOrders = true) (hn : os.length = m) (hS : Hp.Sub S H) (hnd : NoDefer os.toArray) (h : AnyE C os.toArray S m (List.replicate m false) q e H) {a : Act} {w : World} (ha : EnvOK C.ds C.n e a) (hw : Sep C.K C.w0 H w) :
    (Code.region id os.toArray true).wpIn (Fence.wide.inRound l) n C.P (QN q) a w := by
  have hw' : Sep C.K C.w0 H w.drew := hw.keep (Kp.drew _ w)
  have := h a w.drew ha hw' (hw'.sub hS)
  refine wpIn_region_any hm ?_
  have hsz : os.toArray.size = m := by simpa using hn
  rw [hsz]
  have hrep : (List.replicate m false).toArray = Array.replicate m false := by simp
  rw [← hrep]
  exact any_in hnd (qn_out q) _ _ _ _ (wpAny_of_S _ _ _ _ this)
end Go.Proofs.YtecibcjckinngaaGreatDoor
/- Facts on the types and functions of the loaded program: each is computed. -/
namespace Go.Proofs.YtecibcjckinngaaGreatDoor
open Go
theorem ag104 : (Tryz.prog.underlying 104).map (fun | .struct _ | .array _ _ => true | _ => false) = some true := by kernel_rfl
theorem ag22 : (Tryz.prog.underlying 22).map (fun | .struct _ | .array _ _ => true | _ => false) = some false := by kernel_rfl
theorem ag23 : (Tryz.prog.underlying 23).map (fun | .struct _ | .array _ _ => true | _ => false) = some false := by kernel_rfl
theorem ag25 : (Tryz.prog.underlying 25).map (fun | .struct _ | .array _ _ => true | _ => false) = some true := by kernel_rfl
theorem ag3 : (Tryz.prog.underlying 3).map (fun | .struct _ | .array _ _ => true | _ => false) = some false := by kernel_rfl
theorem ag35 : (Tryz.prog.underlying 35).map (fun | .struct _ | .array _ _ => true | _ => false) = some false := by kernel_rfl
theorem ag40 : (Tryz.prog.underlying 40).map (fun | .struct _ | .array _ _ => true | _ => false) = some false := by kernel_rfl
theorem ag42 : (Tryz.prog.underlying 42).map (fun | .struct _ | .array _ _ => true | _ => false) = some true := by kernel_rfl
theorem ag5 : (Tryz.prog.underlying 5).map (fun | .struct _ | .array _ _ => true | _ => false) = some false := by kernel_rfl
theorem ag54 : (Tryz.prog.underlying 54).map (fun | .struct _ | .array _ _ => true | _ => false) = some true := by kernel_rfl
theorem ag64 : (Tryz.prog.underlying 64).map (fun | .struct _ | .array _ _ => true | _ => false) = some true := by kernel_rfl
theorem ag71 : (Tryz.prog.underlying 71).map (fun | .struct _ | .array _ _ => true | _ => false) = some true := by kernel_rfl
theorem ag75 : (Tryz.prog.underlying 75).map (fun | .struct _ | .array _ _ => true | _ => false) = some false := by kernel_rfl
theorem ag77 : (Tryz.prog.underlying 77).map (fun | .struct _ | .array _ _ => true | _ => false) = some true := by kernel_rfl
theorem ag9 : (Tryz.prog.underlying 9).map (fun | .struct _ | .array _ _ => true | _ => false) = some false := by kernel_rfl
theorem ag95 : (Tryz.prog.underlying 95).map (fun | .struct _ | .array _ _ => true | _ => false) = some true := by kernel_rfl
theorem en10 : Enters Tryz.prog 10 := enters_of Tryz.func10 (by kernel_rfl) (by kernel_rfl)
theorem en11 : Enters Tryz.prog 11 := enters_of Tryz.func11 (by kernel_rfl) (by kernel_rfl)
theorem en12 : Enters Tryz.prog 12 := enters_of Tryz.func12 (by kernel_rfl) (by kernel_rfl)
theorem en13 : Enters Tryz.prog 13 := enters_of Tryz.func13 (by kernel_rfl) (by kernel_rfl)
theorem en14 : Enters Tryz.prog 14 := enters_of Tryz.func14 (by kernel_rfl) (by kernel_rfl)
theorem en15 : Enters Tryz.prog 15 := enters_of Tryz.func15 (by kernel_rfl) (by kernel_rfl)
theorem en16 : Enters Tryz.prog 16 := enters_of Tryz.func16 (by kernel_rfl) (by kernel_rfl)
theorem en17 : Enters Tryz.prog 17 := enters_of Tryz.func17 (by kernel_rfl) (by kernel_rfl)
theorem en18 : Enters Tryz.prog 18 := enters_of Tryz.func18 (by kernel_rfl) (by kernel_rfl)
theorem en19 : Enters Tryz.prog 19 := enters_of Tryz.func19 (by kernel_rfl) (by kernel_rfl)
theorem en20 : Enters Tryz.prog 20 := enters_of Tryz.func20 (by kernel_rfl) (by kernel_rfl)
theorem en21 : Enters Tryz.prog 21 := enters_of Tryz.func21 (by kernel_rfl) (by kernel_rfl)
theorem en22 : Enters Tryz.prog 22 := enters_of Tryz.func22 (by kernel_rfl) (by kernel_rfl)
theorem en23 : Enters Tryz.prog 23 := enters_of Tryz.func23 (by kernel_rfl) (by kernel_rfl)
theorem en24 : Enters Tryz.prog 24 := enters_of Tryz.func24 (by kernel_rfl) (by kernel_rfl)
theorem en25 : Enters Tryz.prog 25 := enters_of Tryz.func25 (by kernel_rfl) (by kernel_rfl)
theorem en26 : Enters Tryz.prog 26 := enters_of Tryz.func26 (by kernel_rfl) (by kernel_rfl)
theorem en27 : Enters Tryz.prog 27 := enters_of Tryz.func27 (by kernel_rfl) (by kernel_rfl)
theorem en28 : Enters Tryz.prog 28 := enters_of Tryz.func28 (by kernel_rfl) (by kernel_rfl)
theorem en29 : Enters Tryz.prog 29 := enters_of Tryz.func29 (by kernel_rfl) (by kernel_rfl)
theorem en3 : Enters Tryz.prog 3 := enters_of Tryz.func3 (by kernel_rfl) (by kernel_rfl)
theorem en30 : Enters Tryz.prog 30 := enters_of Tryz.func30 (by kernel_rfl) (by kernel_rfl)
theorem en31 : Enters Tryz.prog 31 := enters_of Tryz.func31 (by kernel_rfl) (by kernel_rfl)
theorem en32 : Enters Tryz.prog 32 := enters_of Tryz.func32 (by kernel_rfl) (by kernel_rfl)
theorem en33 : Enters Tryz.prog 33 := enters_of Tryz.func33 (by kernel_rfl) (by kernel_rfl)
theorem en34 : Enters Tryz.prog 34 := enters_of Tryz.func34 (by kernel_rfl) (by kernel_rfl)
theorem en35 : Enters Tryz.prog 35 := enters_of Tryz.func35 (by kernel_rfl) (by kernel_rfl)
theorem en36 : Enters Tryz.prog 36 := enters_of Tryz.func36 (by kernel_rfl) (by kernel_rfl)
theorem en37 : Enters Tryz.prog 37 := enters_of Tryz.func37 (by kernel_rfl) (by kernel_rfl)
theorem en38 : Enters Tryz.prog 38 := enters_of Tryz.func38 (by kernel_rfl) (by kernel_rfl)
theorem en39 : Enters Tryz.prog 39 := enters_of Tryz.func39 (by kernel_rfl) (by kernel_rfl)
theorem en4 : Enters Tryz.prog 4 := enters_of Tryz.func4 (by kernel_rfl) (by kernel_rfl)
theorem en40 : Enters Tryz.prog 40 := enters_of Tryz.func40 (by kernel_rfl) (by kernel_rfl)
theorem en41 : Enters Tryz.prog 41 := enters_of Tryz.func41 (by kernel_rfl) (by kernel_rfl)
theorem en42 : Enters Tryz.prog 42 := enters_of Tryz.func42 (by kernel_rfl) (by kernel_rfl)
theorem en43 : Enters Tryz.prog 43 := enters_of Tryz.func43 (by kernel_rfl) (by kernel_rfl)
theorem en44 : Enters Tryz.prog 44 := enters_of Tryz.func44 (by kernel_rfl) (by kernel_rfl)
theorem en45 : Enters Tryz.prog 45 := enters_of Tryz.func45 (by kernel_rfl) (by kernel_rfl)
theorem en46 : Enters Tryz.prog 46 := enters_of Tryz.func46 (by kernel_rfl) (by kernel_rfl)
theorem en47 : Enters Tryz.prog 47 := enters_of Tryz.func47 (by kernel_rfl) (by kernel_rfl)
theorem en48 : Enters Tryz.prog 48 := enters_of Tryz.func48 (by kernel_rfl) (by kernel_rfl)
theorem en49 : Enters Tryz.prog 49 := enters_of Tryz.func49 (by kernel_rfl) (by kernel_rfl)
theorem en5 : Enters Tryz.prog 5 := enters_of Tryz.func5 (by kernel_rfl) (by kernel_rfl)
theorem en50 : Enters Tryz.prog 50 := enters_of Tryz.func50 (by kernel_rfl) (by kernel_rfl)
theorem en51 : Enters Tryz.prog 51 := enters_of Tryz.func51 (by kernel_rfl) (by kernel_rfl)
theorem en52 : Enters Tryz.prog 52 := enters_of Tryz.func52 (by kernel_rfl) (by kernel_rfl)
theorem en53 : Enters Tryz.prog 53 := enters_of Tryz.func53 (by kernel_rfl) (by kernel_rfl)
theorem en54 : Enters Tryz.prog 54 := enters_of Tryz.func54 (by kernel_rfl) (by kernel_rfl)
theorem en55 : Enters Tryz.prog 55 := enters_of Tryz.func55 (by kernel_rfl) (by kernel_rfl)
theorem en56 : Enters Tryz.prog 56 := enters_of Tryz.func56 (by kernel_rfl) (by kernel_rfl)
theorem en57 : Enters Tryz.prog 57 := enters_of Tryz.func57 (by kernel_rfl) (by kernel_rfl)
theorem en58 : Enters Tryz.prog 58 := enters_of Tryz.func58 (by kernel_rfl) (by kernel_rfl)
theorem en59 : Enters Tryz.prog 59 := enters_of Tryz.func59 (by kernel_rfl) (by kernel_rfl)
theorem en6 : Enters Tryz.prog 6 := enters_of Tryz.func6 (by kernel_rfl) (by kernel_rfl)
theorem en60 : Enters Tryz.prog 60 := enters_of Tryz.func60 (by kernel_rfl) (by kernel_rfl)
theorem en61 : Enters Tryz.prog 61 := enters_of Tryz.func61 (by kernel_rfl) (by kernel_rfl)
theorem en62 : Enters Tryz.prog 62 := enters_of Tryz.func62 (by kernel_rfl) (by kernel_rfl)
theorem en63 : Enters Tryz.prog 63 := enters_of Tryz.func63 (by kernel_rfl) (by kernel_rfl)
theorem en64 : Enters Tryz.prog 64 := enters_of Tryz.func64 (by kernel_rfl) (by kernel_rfl)
theorem en65 : Enters Tryz.prog 65 := enters_of Tryz.func65 (by kernel_rfl) (by kernel_rfl)
theorem en66 : Enters Tryz.prog 66 := enters_of Tryz.func66 (by kernel_rfl) (by kernel_rfl)
theorem en67 : Enters Tryz.prog 67 := enters_of Tryz.func67 (by kernel_rfl) (by kernel_rfl)
theorem en68 : Enters Tryz.prog 68 := enters_of Tryz.func68 (by kernel_rfl) (by kernel_rfl)
theorem en69 : Enters Tryz.prog 69 := enters_of Tryz.func69 (by kernel_rfl) (by kernel_rfl)
theorem en7 : Enters Tryz.prog 7 := enters_of Tryz.func7 (by kernel_rfl) (by kernel_rfl)
theorem en70 : Enters Tryz.prog 70 := enters_of Tryz.func70 (by kernel_rfl) (by kernel_rfl)
theorem en71 : Enters Tryz.prog 71 := enters_of Tryz.func71 (by kernel_rfl) (by kernel_rfl)
theorem en72 : Enters Tryz.prog 72 := enters_of Tryz.func72 (by kernel_rfl) (by kernel_rfl)
theorem en73 : Enters Tryz.prog 73 := enters_of Tryz.func73 (by kernel_rfl) (by kernel_rfl)
theorem en74 : Enters Tryz.prog 74 := enters_of Tryz.func74 (by kernel_rfl) (by kernel_rfl)
theorem en75 : Enters Tryz.prog 75 := enters_of Tryz.func75 (by kernel_rfl) (by kernel_rfl)
theorem en76 : Enters Tryz.prog 76 := enters_of Tryz.func76 (by kernel_rfl) (by kernel_rfl)
theorem en77 : Enters Tryz.prog 77 := enters_of Tryz.func77 (by kernel_rfl) (by kernel_rfl)
theorem en8 : Enters Tryz.prog 8 := enters_of Tryz.func8 (by kernel_rfl) (by kernel_rfl)
theorem en86 : Enters Tryz.prog 86 := enters_of Tryz.func86 (by kernel_rfl) (by kernel_rfl)
theorem en87 : Enters Tryz.prog 87 := enters_of Tryz.func87 (by kernel_rfl) (by kernel_rfl)
theorem en88 : Enters Tryz.prog 88 := enters_of Tryz.func88 (by kernel_rfl) (by kernel_rfl)
theorem en89 : Enters Tryz.prog 89 := enters_of Tryz.func89 (by kernel_rfl) (by kernel_rfl)
theorem en9 : Enters Tryz.prog 9 := enters_of Tryz.func9 (by kernel_rfl) (by kernel_rfl)
theorem en91 : Enters Tryz.prog 91 := enters_of Tryz.func91 (by kernel_rfl) (by kernel_rfl)
theorem en92 : Enters Tryz.prog 92 := enters_of Tryz.func92 (by kernel_rfl) (by kernel_rfl)
theorem en93 : Enters Tryz.prog 93 := enters_of Tryz.func93 (by kernel_rfl) (by kernel_rfl)
theorem in104 : (Tryz.prog.info? 104).map (fun i => (i.zero, i.size, i.bytes)) = some (some (.agg #[.string ByteArray.empty, .string ByteArray.empty, .int .i64 (0 : Int), .int .i64 (0 : Int)]), 4, 48) := by kernel_rfl
theorem in3 : (Tryz.prog.info? 3).map (fun i => (i.zero, i.size, i.bytes)) = some (some (.int .i64 (0 : Int)), 1, 8) := by kernel_rfl
theorem in42 : (Tryz.prog.info? 42).map (fun i => (i.zero, i.size, i.bytes)) = some (some (.agg #[.int .i64 (0 : Int), .string ByteArray.empty, .string ByteArray.empty, .int .i64 (0 : Int), .int .i64 (0 : Int), .int .i64 (0 : Int), .string ByteArray.empty, .slice none 0 0]), 8, 104) := by kernel_rfl
theorem in54 : (Tryz.prog.info? 54).map (fun i => (i.zero, i.size, i.bytes)) = some (some (.agg #[.string ByteArray.empty, .string ByteArray.empty, .int .i64 (0 : Int)]), 3, 40) := by kernel_rfl
theorem in64 : (Tryz.prog.info? 64).map (fun i => (i.zero, i.size, i.bytes)) = some (some (.agg #[.string ByteArray.empty, .int .i64 (0 : Int), .string ByteArray.empty, .string ByteArray.empty]), 4, 56) := by kernel_rfl
theorem in71 : (Tryz.prog.info? 71).map (fun i => (i.zero, i.size, i.bytes)) = some (some (.agg #[.string ByteArray.empty, .string ByteArray.empty]), 2, 32) := by kernel_rfl
theorem in9 : (Tryz.prog.info? 9).map (fun i => (i.zero, i.size, i.bytes)) = some (some (.string ByteArray.empty), 1, 16) := by kernel_rfl
theorem in95 : (Tryz.prog.info? 95).map (fun i => (i.zero, i.size, i.bytes)) = some (some (.agg #[.string ByteArray.empty, .string ByteArray.empty]), 2, 32) := by kernel_rfl
theorem of104_0 : (Tryz.prog.underlying 104).bind (fun | .struct fs => (fs[0]?).map (fun f => (f.offset, Tryz.prog.cellsOf f.type)) | _ => none) = some (0, 3) := by kernel_rfl
theorem of104_1 : (Tryz.prog.underlying 104).bind (fun | .struct fs => (fs[1]?).map (fun f => (f.offset, Tryz.prog.cellsOf f.type)) | _ => none) = some (3, 1) := by kernel_rfl
theorem of25_0 : (Tryz.prog.underlying 25).bind (fun | .struct fs => (fs[0]?).map (fun f => (f.offset, Tryz.prog.cellsOf f.type)) | _ => none) = some (0, 1) := by kernel_rfl
theorem of25_1 : (Tryz.prog.underlying 25).bind (fun | .struct fs => (fs[1]?).map (fun f => (f.offset, Tryz.prog.cellsOf f.type)) | _ => none) = some (1, 1) := by kernel_rfl
theorem of37_0 : (Tryz.prog.underlying 37).bind (fun | .struct fs => (fs[0]?).map (fun f => (f.offset, Tryz.prog.cellsOf f.type)) | _ => none) = some (0, 1) := by kernel_rfl
theorem of37_1 : (Tryz.prog.underlying 37).bind (fun | .struct fs => (fs[1]?).map (fun f => (f.offset, Tryz.prog.cellsOf f.type)) | _ => none) = some (1, 1) := by kernel_rfl
theorem of37_2 : (Tryz.prog.underlying 37).bind (fun | .struct fs => (fs[2]?).map (fun f => (f.offset, Tryz.prog.cellsOf f.type)) | _ => none) = some (2, 1) := by kernel_rfl
theorem of42_0 : (Tryz.prog.underlying 42).bind (fun | .struct fs => (fs[0]?).map (fun f => (f.offset, Tryz.prog.cellsOf f.type)) | _ => none) = some (0, 1) := by kernel_rfl
theorem of42_1 : (Tryz.prog.underlying 42).bind (fun | .struct fs => (fs[1]?).map (fun f => (f.offset, Tryz.prog.cellsOf f.type)) | _ => none) = some (1, 1) := by kernel_rfl
theorem of42_2 : (Tryz.prog.underlying 42).bind (fun | .struct fs => (fs[2]?).map (fun f => (f.offset, Tryz.prog.cellsOf f.type)) | _ => none) = some (2, 1) := by kernel_rfl
theorem of42_3 : (Tryz.prog.underlying 42).bind (fun | .struct fs => (fs[3]?).map (fun f => (f.offset, Tryz.prog.cellsOf f.type)) | _ => none) = some (3, 1) := by kernel_rfl
theorem of42_4 : (Tryz.prog.underlying 42).bind (fun | .struct fs => (fs[4]?).map (fun f => (f.offset, Tryz.prog.cellsOf f.type)) | _ => none) = some (4, 1) := by kernel_rfl
theorem of42_5 : (Tryz.prog.underlying 42).bind (fun | .struct fs => (fs[5]?).map (fun f => (f.offset, Tryz.prog.cellsOf f.type)) | _ => none) = some (5, 1) := by kernel_rfl
theorem of42_6 : (Tryz.prog.underlying 42).bind (fun | .struct fs => (fs[6]?).map (fun f => (f.offset, Tryz.prog.cellsOf f.type)) | _ => none) = some (6, 1) := by kernel_rfl
theorem of42_7 : (Tryz.prog.underlying 42).bind (fun | .struct fs => (fs[7]?).map (fun f => (f.offset, Tryz.prog.cellsOf f.type)) | _ => none) = some (7, 1) := by kernel_rfl
theorem of54_0 : (Tryz.prog.underlying 54).bind (fun | .struct fs => (fs[0]?).map (fun f => (f.offset, Tryz.prog.cellsOf f.type)) | _ => none) = some (0, 1) := by kernel_rfl
theorem of54_1 : (Tryz.prog.underlying 54).bind (fun | .struct fs => (fs[1]?).map (fun f => (f.offset, Tryz.prog.cellsOf f.type)) | _ => none) = some (1, 1) := by kernel_rfl
theorem of54_2 : (Tryz.prog.underlying 54).bind (fun | .struct fs => (fs[2]?).map (fun f => (f.offset, Tryz.prog.cellsOf f.type)) | _ => none) = some (2, 1) := by kernel_rfl
theorem of64_0 : (Tryz.prog.underlying 64).bind (fun | .struct fs => (fs[0]?).map (fun f => (f.offset, Tryz.prog.cellsOf f.type)) | _ => none) = some (0, 1) := by kernel_rfl
theorem of64_1 : (Tryz.prog.underlying 64).bind (fun | .struct fs => (fs[1]?).map (fun f => (f.offset, Tryz.prog.cellsOf f.type)) | _ => none) = some (1, 1) := by kernel_rfl
theorem of64_2 : (Tryz.prog.underlying 64).bind (fun | .struct fs => (fs[2]?).map (fun f => (f.offset, Tryz.prog.cellsOf f.type)) | _ => none) = some (2, 1) := by kernel_rfl
theorem of64_3 : (Tryz.prog.underlying 64).bind (fun | .struct fs => (fs[3]?).map (fun f => (f.offset, Tryz.prog.cellsOf f.type)) | _ => none) = some (3, 1) := by kernel_rfl
theorem of77_0 : (Tryz.prog.underlying 77).bind (fun | .struct fs => (fs[0]?).map (fun f => (f.offset, Tryz.prog.cellsOf f.type)) | _ => none) = some (0, 1) := by kernel_rfl
theorem of77_1 : (Tryz.prog.underlying 77).bind (fun | .struct fs => (fs[1]?).map (fun f => (f.offset, Tryz.prog.cellsOf f.type)) | _ => none) = some (1, 1) := by kernel_rfl
theorem of95_0 : (Tryz.prog.underlying 95).bind (fun | .struct fs => (fs[0]?).map (fun f => (f.offset, Tryz.prog.cellsOf f.type)) | _ => none) = some (0, 1) := by kernel_rfl
theorem of95_1 : (Tryz.prog.underlying 95).bind (fun | .struct fs => (fs[1]?).map (fun f => (f.offset, Tryz.prog.cellsOf f.type)) | _ => none) = some (1, 1) := by kernel_rfl
theorem z104 : Tryz.prog.cellsOf 104 = 4 := by kernel_rfl
theorem z22 : Tryz.prog.cellsOf 22 = 1 := by kernel_rfl
theorem z23 : Tryz.prog.cellsOf 23 = 1 := by kernel_rfl
theorem z25 : Tryz.prog.cellsOf 25 = 2 := by kernel_rfl
theorem z3 : Tryz.prog.cellsOf 3 = 1 := by kernel_rfl
theorem z35 : Tryz.prog.cellsOf 35 = 1 := by kernel_rfl
theorem z40 : Tryz.prog.cellsOf 40 = 1 := by kernel_rfl
theorem z42 : Tryz.prog.cellsOf 42 = 8 := by kernel_rfl
theorem z5 : Tryz.prog.cellsOf 5 = 1 := by kernel_rfl
theorem z54 : Tryz.prog.cellsOf 54 = 3 := by kernel_rfl
theorem z64 : Tryz.prog.cellsOf 64 = 4 := by kernel_rfl
theorem z71 : Tryz.prog.cellsOf 71 = 2 := by kernel_rfl
theorem z75 : Tryz.prog.cellsOf 75 = 1 := by kernel_rfl
theorem z77 : Tryz.prog.cellsOf 77 = 2 := by kernel_rfl
theorem z9 : Tryz.prog.cellsOf 9 = 1 := by kernel_rfl
theorem z95 : Tryz.prog.cellsOf 95 = 2 := by kernel_rfl
theorem zi104 : (Tryz.prog.info? 104).map (fun i => (i.zero, i.size)) = some (some (.agg #[.string ByteArray.empty, .string ByteArray.empty, .int .i64 (0 : Int), .int .i64 (0 : Int)]), 4) := by kernel_rfl
theorem zi3 : (Tryz.prog.info? 3).map (fun i => (i.zero, i.size)) = some (some (.int .i64 (0 : Int)), 1) := by kernel_rfl
theorem zi42 : (Tryz.prog.info? 42).map (fun i => (i.zero, i.size)) = some (some (.agg #[.int .i64 (0 : Int), .string ByteArray.empty, .string ByteArray.empty, .int .i64 (0 : Int), .int .i64 (0 : Int), .int .i64 (0 : Int), .string ByteArray.empty, .slice none 0 0]), 8) := by kernel_rfl
theorem zi54 : (Tryz.prog.info? 54).map (fun i => (i.zero, i.size)) = some (some (.agg #[.string ByteArray.empty, .string ByteArray.empty, .int .i64 (0 : Int)]), 3) := by kernel_rfl
theorem zi64 : (Tryz.prog.info? 64).map (fun i => (i.zero, i.size)) = some (some (.agg #[.string ByteArray.empty, .int .i64 (0 : Int), .string ByteArray.empty, .string ByteArray.empty]), 4) := by kernel_rfl
theorem zi71 : (Tryz.prog.info? 71).map (fun i => (i.zero, i.size)) = some (some (.agg #[.string ByteArray.empty, .string ByteArray.empty]), 2) := by kernel_rfl
theorem zi9 : (Tryz.prog.info? 9).map (fun i => (i.zero, i.size)) = some (some (.string ByteArray.empty), 1) := by kernel_rfl
theorem zi95 : (Tryz.prog.info? 95).map (fun i => (i.zero, i.size)) = some (some (.agg #[.string ByteArray.empty, .string ByteArray.empty]), 2) := by kernel_rfl
theorem zz104 : ZeroIs Tryz.prog 104 [.string ByteArray.empty, .string ByteArray.empty, .int .i64 (0 : Int), .int .i64 (0 : Int)] := by unfold ZeroIs; kernel_rfl
theorem zz108 : ZeroIs Tryz.prog 108 [.pointer none, .slice none 0 0] := by unfold ZeroIs; kernel_rfl
theorem zz23 : ZeroIs Tryz.prog 23 [.slice none 0 0] := by unfold ZeroIs; kernel_rfl
theorem zz25 : ZeroIs Tryz.prog 25 [.int .i64 (0 : Int), .int .i64 (0 : Int)] := by unfold ZeroIs; kernel_rfl
theorem zz3 : ZeroIs Tryz.prog 3 [.int .i64 (0 : Int)] := by unfold ZeroIs; kernel_rfl
theorem zz42 : ZeroIs Tryz.prog 42 [.int .i64 (0 : Int), .string ByteArray.empty, .string ByteArray.empty, .int .i64 (0 : Int), .int .i64 (0 : Int), .int .i64 (0 : Int), .string ByteArray.empty, .slice none 0 0] := by unfold ZeroIs; kernel_rfl
theorem zz54 : ZeroIs Tryz.prog 54 [.string ByteArray.empty, .string ByteArray.empty, .int .i64 (0 : Int)] := by unfold ZeroIs; kernel_rfl
theorem zz64 : ZeroIs Tryz.prog 64 [.string ByteArray.empty, .int .i64 (0 : Int), .string ByteArray.empty, .string ByteArray.empty] := by unfold ZeroIs; kernel_rfl
theorem zz71 : ZeroIs Tryz.prog 71 [.string ByteArray.empty, .string ByteArray.empty] := by unfold ZeroIs; kernel_rfl
theorem zz77 : ZeroIs Tryz.prog 77 [.int .i64 (0 : Int), .nilFunc] := by unfold ZeroIs; kernel_rfl
theorem zz95 : ZeroIs Tryz.prog 95 [.string ByteArray.empty, .string ByteArray.empty] := by unfold ZeroIs; kernel_rfl
end Go.Proofs.YtecibcjckinngaaGreatDoor
