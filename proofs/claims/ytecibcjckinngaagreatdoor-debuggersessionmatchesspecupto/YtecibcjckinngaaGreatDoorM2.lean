/- A part of the proof of the law DebuggerSessionMatchesSpec (second form): part 2. -/
import Derived.Test.YtecibcjckinngaaGreatDoorM1
import Derived.Lib.LaidTab
import Derived.Lib.SplitLaws
import Derived.Shelf.Unicode.DecodeSlow
import Derived.Test.YtecibcjckinngaaGreatDoorShelf
import Derived.Lib.ItoaLen
import Derived.Laws.Cover4
set_option linter.unusedSimpArgs false
/- Plain facts on lists, bytes and names; the kinds of data of packages api, debugger and profile. -/
set_option linter.unusedVariables false
namespace Go.Proofs.YtecibcjckinngaaGreatDoor
open Go Enc
structure LocM where
  name : ByteArray
  text : ByteArray
  deriving Inhabited
structure EvM where
  kind : Int
  mod : ByteArray
  fn : ByteArray
  line : Int
  depth : Int
  fuel : Int
  text : ByteArray
  locals : Sl LocM
  deriving Inhabited
structure BrkM where
  mod : ByteArray
  line : Int
  name : ByteArray
  text : ByteArray
  deriving Inhabited, DecidableEq
structure PlcM where
  mod : ByteArray
  fn : ByteArray
  line : Int
  deriving Inhabited, DecidableEq
structure FunM where
  mod : ByteArray
  fn : ByteArray
  deriving Inhabited, DecidableEq
structure ActM where
  place : PlcM
  stop : Int
  deriving Inhabited
structure LocM.OK (w : World) (x : LocM) : Prop where
  name : ok w x.name
  text : ok w x.text
instance : Enc LocM := {
  sz := 2
  by_ := 32
  enc := fun x => [.string x.name, .string x.text]
  len := fun _ => rfl
  one := fun s v hv => by simp at hv; rcases hv with rfl | rfl <;> rfl
  ok := LocM.OK
  mono := fun w w' x h hk => ⟨h.name, h.text⟩ }
structure EvM.OK (w : World) (x : EvM) : Prop where
  kind : ok w x.kind
  mod : ok w x.mod
  fn : ok w x.fn
  line : ok w x.line
  depth : ok w x.depth
  fuel : ok w x.fuel
  text : ok w x.text
  locals : ok w x.locals
instance : Enc EvM := {
  sz := 8
  by_ := 104
  enc := fun x => [.int .i64 x.kind, .string x.mod, .string x.fn, .int .i64 x.line, .int .i64 x.depth, .int .i64 x.fuel, .string x.text, x.locals.val]
  len := fun _ => rfl
  one := fun s v hv => by simp at hv; rcases hv with rfl | rfl | rfl | rfl | rfl | rfl | rfl | rfl <;> rfl
  ok := EvM.OK
  mono := fun w w' x h hk => ⟨h.kind, h.mod, h.fn, h.line, h.depth, h.fuel, h.text, mono w w' x.locals h.locals hk⟩ }
structure BrkM.OK (w : World) (x : BrkM) : Prop where
  mod : ok w x.mod
  line : ok w x.line
  name : ok w x.name
  text : ok w x.text
instance : Enc BrkM := {
  sz := 4
  by_ := 56
  enc := fun x => [.string x.mod, .int .i64 x.line, .string x.name, .string x.text]
  len := fun _ => rfl
  one := fun s v hv => by simp at hv; rcases hv with rfl | rfl | rfl | rfl <;> rfl
  ok := BrkM.OK
  mono := fun w w' x h hk => ⟨h.mod, h.line, h.name, h.text⟩ }
structure PlcM.OK (w : World) (x : PlcM) : Prop where
  mod : ok w x.mod
  fn : ok w x.fn
  line : ok w x.line
instance : Enc PlcM := {
  sz := 3
  by_ := 40
  enc := fun x => [.string x.mod, .string x.fn, .int .i64 x.line]
  len := fun _ => rfl
  one := fun s v hv => by simp at hv; rcases hv with rfl | rfl | rfl <;> rfl
  ok := PlcM.OK
  mono := fun w w' x h hk => ⟨h.mod, h.fn, h.line⟩ }
structure FunM.OK (w : World) (x : FunM) : Prop where
  mod : ok w x.mod
  fn : ok w x.fn
instance : Enc FunM := {
  sz := 2
  by_ := 32
  enc := fun x => [.string x.mod, .string x.fn]
  len := fun _ => rfl
  one := fun s v hv => by simp at hv; rcases hv with rfl | rfl <;> rfl
  ok := FunM.OK
  mono := fun w w' x h hk => ⟨h.mod, h.fn⟩ }
structure ActM.OK (w : World) (x : ActM) : Prop where
  place : ok w x.place
  stop : ok w x.stop
instance : Enc ActM := {
  sz := 4
  by_ := 48
  enc := fun x => [.string x.place.mod, .string x.place.fn, .int .i64 x.place.line, .int .i64 x.stop]
  len := fun _ => rfl
  one := fun s v hv => by simp at hv; rcases hv with rfl | rfl | rfl | rfl <;> rfl
  ok := ActM.OK
  mono := fun w w' x h hk => ⟨mono w w' x.place h.place hk, h.stop⟩ }

theorem Sl.OK.le {α : Type} [Enc α] {w : World} {s : Sl α} (h : ok w s) (hb : 0 < by_ α) : s.el.length ≤ 140737488355328 :=
  Nat.le_trans (Nat.le_mul_of_pos_right _ hb) (show Sl.OK w s from h).lb
theorem ext_nth {α : Type} [Inhabited α] {l l' : List α} (h : l.length = l'.length) (he : ∀ j, j < l.length → nth l j = nth l' j) : l = l' := by
  apply List.ext_getElem h
  intro j h1 h2
  have := he j h1
  rwa [nth_eq h1, nth_eq h2] at this
theorem mem_nth {α : Type} [Inhabited α] {l : List α} {x : α} (h : x ∈ l) : ∃ j, j < l.length ∧ nth l j = x := by
  obtain ⟨j, hj, e⟩ := List.getElem_of_mem h
  exact ⟨j, hj, by rw [nth_eq hj]; exact e⟩
theorem ret_bool {b b' : Bool} (h : b = b') : Ending.returned (.bool b) = Ending.returned (.bool b') := by rw [h]
theorem take_succ_nth {α : Type} [Inhabited α] {l : List α} {i : Nat} (h : i < l.length) : l.take (i + 1) = l.take i ++ [nth l i] := by
  rw [List.take_succ_eq_append_getElem h, nth_eq h]

/-- The first place where p says yes, or -1. -/
def idxOf {α : Type} (p : α → Bool) : List α → Int
  | [] => -1
  | x :: l => if p x = true then 0 else if idxOf p l < 0 then -1 else idxOf p l + 1
theorem idxOf_at {α : Type} [Inhabited α] {p : α → Bool} : ∀ (l : List α) (i : Nat), (∀ j, j < i → p (nth l j) = false) → i < l.length → p (nth l i) = true → idxOf p l = i
  | [], i, _, hi, _ => by simp at hi
  | x :: l, 0, _, _, hn => by simp only [nth, List.getD_cons_zero] at hn; simp [idxOf, hn]
  | x :: l, i + 1, hb, hi, hn => by
    have h0 := hb 0 (by omega)
    simp only [nth, List.getD_cons_zero] at h0
    have := idxOf_at l i (fun j hj => by have := hb (j + 1) (by omega); simpa only [nth, List.getD_cons_succ] using this) (by simpa using hi) (by simpa only [nth, List.getD_cons_succ] using hn)
    simp only [idxOf, h0, this, Bool.false_eq_true, if_false]
    rw [if_neg (by omega)]
    omega
theorem idxOf_none {α : Type} [Inhabited α] {p : α → Bool} : ∀ (l : List α), (∀ j, j < l.length → p (nth l j) = false) → idxOf p l = -1
  | [], _ => rfl
  | x :: l, hb => by
    have h0 := hb 0 (by simp)
    simp only [nth, List.getD_cons_zero] at h0
    have := idxOf_none l (fun j hj => by have := hb (j + 1) (by simpa using hj); simpa only [nth, List.getD_cons_succ] using this)
    simp [idxOf, h0, this]
theorem idxOf_range {α : Type} (p : α → Bool) : ∀ (l : List α), -1 ≤ idxOf p l ∧ idxOf p l < l.length
  | [] => by simp [idxOf]
  | x :: l => by have := idxOf_range p l; simp only [idxOf, List.length_cons]; split <;> (try split) <;> omega
theorem idxOf_any {α : Type} {p : α → Bool} : ∀ (l : List α), decide (0 ≤ idxOf p l) = l.any p
  | [] => by simp [idxOf]
  | x :: l => by
    have ih := idxOf_any (p := p) l
    have hr := idxOf_range p l
    by_cases h : p x = true
    · simp [idxOf, h]
    · simp only [idxOf, h, List.any_cons]
      rw [← ih]
      by_cases h2 : idxOf p l < 0
      · simp [h2]
      · simp only [h2, if_false]; simp; omega
/-- x lies in l. -/
def has {α : Type} [DecidableEq α] (l : List α) (x : α) : Bool := l.any (fun y => decide (x = y))
theorem has_iff {α : Type} [DecidableEq α] {l : List α} {x : α} : has l x = true ↔ x ∈ l := by
  simp [has]
theorem has_not {α : Type} [DecidableEq α] {l : List α} {x : α} : has l x = false ↔ x ∉ l := by
  rw [← has_iff, Bool.not_eq_true]

theorem ret_int {a b : Int} (h : a = b) : Ending.returned (.int .i64 a) = Ending.returned (.int .i64 b) := by rw [h]
/-- A fault: code and index. -/
abbrev Flt := Int × Int
abbrev fv (f : Flt) : Value := .agg #[.int .i64 f.1, .int .i64 f.2]

/-- What i rounds make of s. -/
def foldN {σ : Type} (f : Nat → σ → σ) (s : σ) : Nat → σ
  | 0 => s
  | i + 1 => f i (foldN f s i)
theorem foldN_len {β : Type} {f : Nat → List β → List β} {s : List β} (k : Nat) (h : ∀ i l, (f i l).length ≤ l.length + k) : ∀ i, (foldN f s i).length ≤ s.length + k * i
  | 0 => by simp [foldN]
  | i + 1 => by
    have := h i (foldN f s i)
    have := foldN_len k h (s := s) i
    simp only [foldN]
    rw [Nat.mul_succ]
    omega
theorem foldN_foldl {σ α : Type} [Inhabited α] (f : σ → α → σ) (s : σ) (l : List α) : foldN (fun i acc => f acc (nth l i)) s l.length = l.foldl f s := by
  have key : ∀ i, i ≤ l.length → foldN (fun i acc => f acc (nth l i)) s i = (l.take i).foldl f s := fun i => by
    induction i with
    | zero => intro _; simp [foldN]
    | succ i ih =>
      intro h
      rw [foldN, ih (by omega), take_succ_nth (by omega)]
      simp
  rw [key _ (Nat.le_refl _), List.take_length]

theorem nth_app_l {α : Type} [Inhabited α] {a b : List α} {i : Nat} (h : i < a.length) : nth (a ++ b) i = nth a i := by
  simp only [nth, List.getD_eq_getElem?_getD]; rw [List.getElem?_append_left h]
theorem nth_app_r {α : Type} [Inhabited α] {a b : List α} {i j : Nat} (h : j + a.length = i) : nth (a ++ b) i = nth b j := by
  simp only [nth, List.getD_eq_getElem?_getD]; rw [List.getElem?_append_right (by omega), show i - a.length = j from by omega]

theorem nth_set {α : Type} [Inhabited α] (l : List α) (i j : Nat) (x : α) : nth (l.set i x) j = if i = j ∧ j < l.length then x else nth l j := by
  simp only [nth, List.getD_eq_getElem?_getD, List.getElem?_set]
  by_cases h : i = j
  · subst h
    by_cases h2 : i < l.length
    · simp [h2]
    · simp [h2]
  · simp [h]
theorem nth_default {α : Type} [Inhabited α] {l : List α} {i : Nat} (h : l.length ≤ i) : nth l i = default := by simp [nth, h]

/-- A new row and a fault. -/
abbrev RetRowF {α : Type} [Enc α] (P : Program) (f : FuncId) (args : Array Value) (w : World) (el : TypeId) (r : List α × Flt) : Prop :=
  ∀ tg : Nat, RetX P f args w (fun x : Option Addr × Nat => .tuple #[.slice x.1 r.1.length x.2, fv r.2]) (fun x => [(tg, .row el (sz α) x.1 r.1.length x.2 (encs r.1))]) (fun _ => True)

theorem pushes_len {β : Type} {f : Nat → β} : ∀ n, (foldN (fun i acc => acc ++ [f i]) ([] : List β) n).length = n
  | 0 => rfl
  | n + 1 => by simp [foldN, pushes_len n]
theorem pushes_at {β : Type} [Inhabited β] {f : Nat → β} : ∀ n k, k < n → nth (foldN (fun i acc => acc ++ [f i]) ([] : List β) n) k = f k
  | 0, k, h => by omega
  | n + 1, k, h => by
    simp only [foldN]
    by_cases hk : k < n
    · rw [nth_app_l (by rw [pushes_len]; exact hk)]
      exact pushes_at n k hk
    · rw [nth_app_r (j := 0) (by rw [pushes_len]; omega)]
      have : k = n := by omega
      subst this
      rfl

/-- The first fault among n. -/
def firstFault (f : Nat → Flt) (n : Nat) : Flt := match (List.range n).find? (fun i => decide ((f i).1 ≠ 0)) with
  | some i => f i
  | none => (0, 0)
theorem firstFault_at {f : Nat → Flt} {n i : Nat} (hb : ∀ j, j < i → (f j).1 = 0) (hi : i < n) (hn : (f i).1 ≠ 0) : firstFault f n = f i := by
  have : (List.range n).find? (fun i => decide ((f i).1 ≠ 0)) = some i := by
    rw [List.find?_range_eq_some]
    exact ⟨by simpa using hn, by simpa using hi, fun j hj => by simpa using hb j hj⟩
  rw [firstFault, this]
theorem firstFault_none {f : Nat → Flt} {n : Nat} (hb : ∀ j, j < n → (f j).1 = 0) : firstFault f n = (0, 0) := by
  have : (List.range n).find? (fun i => decide ((f i).1 ≠ 0)) = none := by
    rw [List.find?_range_eq_none]
    exact fun j hj => by simpa using hb j hj
  rw [firstFault, this]

theorem ret_flt {f g : Flt} (h : f = g) : Ending.returned (fv f) = Ending.returned (fv g) := by rw [h]

theorem firstFault_zero {f : Nat → Flt} {n : Nat} (hf : ∀ i, (f i).1 = 0 → f i = (0, 0)) (h : (firstFault f n).1 = 0) : firstFault f n = (0, 0) := by
  unfold firstFault at h ⊢
  split at h
  · rename_i i _; exact hf i h
  · rfl

theorem firstFault_all {f : Nat → Flt} {n : Nat} (h : (firstFault f n).1 = 0) : ∀ i, i < n → (f i).1 = 0 := by
  intro i hi
  unfold firstFault at h
  split at h
  · rename_i k hk
    have := List.find?_some hk
    simp at this
    exact absurd h this
  · rename_i hk
    rw [List.find?_range_eq_none] at hk
    simpa using hk i hi

theorem size_empty {s : ByteArray} (h : ¬ s = (⟨#[]⟩ : ByteArray)) : 0 < s.size := by
  rcases Nat.eq_zero_or_pos s.size with h0 | h0
  · exact absurd (by cases s with | mk d => have : d = #[] := Array.eq_empty_of_size_eq_zero h0; subst this; rfl) h
  · exact h0
def nameByte (b : Int) : Bool := !decide ((((b < 97 ∨ 122 < b) ∧ (b < 65 ∨ 90 < b)) ∧ (b < 48 ∨ 57 < b)) ∧ b ≠ 95)
def badStart (s : ByteArray) : Prop := (s = (⟨#[]⟩ : ByteArray) ∨ (24 : Int) < ((s.size : Nat) : Int)) ∨ ((48 : Int) ≤ (((s.data.toList.getD (0 : Int).toNat 0).toNat : Nat) : Int) ∧ (((s.data.toList.getD (0 : Int).toNat 0).toNat : Nat) : Int) ≤ 57)
instance (s : ByteArray) : Decidable (badStart s) := by unfold badStart; infer_instance
/-- The text is a name. -/
def isNameB (s : ByteArray) : Bool := !decide (badStart s) && s.data.toList.all (fun b => nameByte b.toNat)
theorem isName_a {s : ByteArray} (h : badStart s) : isNameB s = false := by simp [isNameB, h]
theorem isName_b {s : ByteArray} {i : Nat} (hi : i < s.data.toList.length) (h : nameByte ((nth s.data.toList i).toNat) = false) : isNameB s = false := by
  have : s.data.toList.all (fun b => nameByte b.toNat) = false := by
    rw [List.all_eq_false]
    exact ⟨_, nth_mem hi, by simp only [h]; decide⟩
  simp only [isNameB, this, Bool.and_false]
theorem isName_c {s : ByteArray} (h : ¬ badStart s) (hb : ∀ j, j < s.data.toList.length → nameByte ((nth s.data.toList j).toNat) = true) : isNameB s = true := by
  have : s.data.toList.all (fun b => nameByte b.toNat) = true := by
    rw [List.all_eq_true]
    intro x hx
    obtain ⟨j, hj, rfl⟩ := mem_nth hx
    exact hb j hj
  simp only [isNameB, this, h, decide_false]; rfl

theorem nb_f2 {b : Bool} (h : (!b) = false) : b = true := by cases b <;> simp_all

theorem all_no {α : Type} [Inhabited α] {p : α → Bool} {l : List α} {i : Nat} (hi : i < l.length) (h : p (nth l i) = false) : l.all p = false := by
  rw [List.all_eq_false]; exact ⟨_, nth_mem hi, by simp [h]⟩
theorem all_yes {α : Type} [Inhabited α] {p : α → Bool} {l : List α} (h : ∀ j, j < l.length → p (nth l j) = true) : l.all p = true := by
  rw [List.all_eq_true]; intro x hx; obtain ⟨j, hj, rfl⟩ := mem_nth hx; exact h j hj

theorem name_byte_n {c : Int} (h : ¬ ((((97 ≤ c ∧ c ≤ 122) ∨ (65 ≤ c ∧ c ≤ 90)) ∨ c = 95) ∨ (48 ≤ c ∧ c ≤ 57))) : nameByte c = false := by
  unfold nameByte; rw [decide_eq_true (by omega)]; rfl
theorem name_byte_y {c : Int} (h : ¬ ¬ ((((97 ≤ c ∧ c ≤ 122) ∨ (65 ≤ c ∧ c ≤ 90)) ∨ c = 95) ∨ (48 ≤ c ∧ c ≤ 57))) : nameByte c = true := by
  unfold nameByte; rw [decide_eq_false (by omega)]; rfl
theorem ok_nil {α : Type} [Enc α] {w : World} : ok w (⟨none, 0, []⟩ : Sl α) := ⟨Nat.le_refl _, Nat.zero_le _, by simp, fun j u h => by simp [encs] at h, fun x h => by simp at h⟩
end Go.Proofs.YtecibcjckinngaaGreatDoor
/- How the program's structs are compared. -/
set_option linter.unusedVariables false
namespace Go.Proofs.YtecibcjckinngaaGreatDoor
open Go Enc Go.RowKit
theorem ba_beq (a b : ByteArray) : (a == b) = decide (a = b) := by
  have h : (a == b) = (a.data == b.data) := by cases a; cases b; rfl
  rw [h]
  by_cases e : a = b
  · subst e; simp
  · have : a.data ≠ b.data := fun h => e (by cases a; cases b; simp_all)
    simp [e, this]
theorem part9 {cs : Array Value} {i : Nat} {v : Value} (h : cs[i]? = some v) (w : World) : (part 9 cs i).run Tryz.prog w = .ok v w := by
  simp [part, isAgg, run_underlying Tryz.underlying9, h]
theorem part3 {cs : Array Value} {i : Nat} {v : Value} (h : cs[i]? = some v) (w : World) : (part 3 cs i).run Tryz.prog w = .ok v w := by
  simp [part, isAgg, run_underlying Tryz.underlying3, h]
theorem eqin9 (n : Nat) (a b : ByteArray) (w : World) : (Op.equalIn (n + 1) 9 (.string a) (.string b)).run Tryz.prog w = .ok (decide (a = b)) w := by
  rw [Op.equalIn]
  simp [run_underlying Tryz.underlying9, ba_beq]
theorem eqin3 (n : Nat) (k : IntKind) (a b : Int) (w : World) : (Op.equalIn (n + 1) 3 (.int k a) (.int k b)).run Tryz.prog w = .ok (decide (a = b)) w := by
  rw [Op.equalIn]
  simp [run_underlying Tryz.underlying3]
  by_cases h : a = b
  · simp [h]
  · simp [h]
theorem eq71 (a e : ByteArray) (b f : ByteArray) (w : World) : (Op.equal 71 (.agg #[.string a, .string b]) (.agg #[.string e, .string f])).run Tryz.prog w = .ok (decide (a = e ∧ b = f)) w := by
  show (Op.equalIn (9998 + 1 + 1) 71 (.agg #[.string a, .string b]) (.agg #[.string e, .string f])).run Tryz.prog w = _
  rw [Op.equalIn]
  simp [run_underlying Tryz.underlying71, part9 (cs := #[.string a, .string b]) (i := 0) rfl, part9 (cs := #[.string a, .string b]) (i := 1) rfl, part9 (cs := #[.string e, .string f]) (i := 0) rfl, part9 (cs := #[.string e, .string f]) (i := 1) rfl, eqin3 9998, eqin9 9998]
  by_cases h0 : a = e <;> by_cases h1 : b = f <;> simp [h0, h1]
theorem eq25 (a e : Int) (b f : Int) (w : World) : (Op.equal 25 (.agg #[.int .i64 a, .int .i64 b]) (.agg #[.int .i64 e, .int .i64 f])).run Tryz.prog w = .ok (decide (a = e ∧ b = f)) w := by
  show (Op.equalIn (9998 + 1 + 1) 25 (.agg #[.int .i64 a, .int .i64 b]) (.agg #[.int .i64 e, .int .i64 f])).run Tryz.prog w = _
  rw [Op.equalIn]
  simp [run_underlying Tryz.underlying25, part3 (cs := #[.int .i64 a, .int .i64 b]) (i := 0) rfl, part3 (cs := #[.int .i64 a, .int .i64 b]) (i := 1) rfl, part3 (cs := #[.int .i64 e, .int .i64 f]) (i := 0) rfl, part3 (cs := #[.int .i64 e, .int .i64 f]) (i := 1) rfl, eqin3 9998, eqin9 9998]
  by_cases h0 : a = e <;> by_cases h1 : b = f <;> simp [h0, h1]
theorem eq64 (a e : ByteArray) (b f : Int) (c g : ByteArray) (d h : ByteArray) (w : World) : (Op.equal 64 (.agg #[.string a, .int .i64 b, .string c, .string d]) (.agg #[.string e, .int .i64 f, .string g, .string h])).run Tryz.prog w = .ok (decide (a = e ∧ b = f ∧ c = g ∧ d = h)) w := by
  show (Op.equalIn (9998 + 1 + 1) 64 (.agg #[.string a, .int .i64 b, .string c, .string d]) (.agg #[.string e, .int .i64 f, .string g, .string h])).run Tryz.prog w = _
  rw [Op.equalIn]
  simp [run_underlying Tryz.underlying64, part9 (cs := #[.string a, .int .i64 b, .string c, .string d]) (i := 0) rfl, part3 (cs := #[.string a, .int .i64 b, .string c, .string d]) (i := 1) rfl, part9 (cs := #[.string a, .int .i64 b, .string c, .string d]) (i := 2) rfl, part9 (cs := #[.string a, .int .i64 b, .string c, .string d]) (i := 3) rfl, part9 (cs := #[.string e, .int .i64 f, .string g, .string h]) (i := 0) rfl, part3 (cs := #[.string e, .int .i64 f, .string g, .string h]) (i := 1) rfl, part9 (cs := #[.string e, .int .i64 f, .string g, .string h]) (i := 2) rfl, part9 (cs := #[.string e, .int .i64 f, .string g, .string h]) (i := 3) rfl, eqin3 9998, eqin9 9998]
  by_cases h0 : a = e <;> by_cases h1 : b = f <;> by_cases h2 : c = g <;> by_cases h3 : d = h <;> simp [h0, h1, h2, h3]
theorem eq54 (a e : ByteArray) (b f : ByteArray) (c g : Int) (w : World) : (Op.equal 54 (.agg #[.string a, .string b, .int .i64 c]) (.agg #[.string e, .string f, .int .i64 g])).run Tryz.prog w = .ok (decide (a = e ∧ b = f ∧ c = g)) w := by
  show (Op.equalIn (9998 + 1 + 1) 54 (.agg #[.string a, .string b, .int .i64 c]) (.agg #[.string e, .string f, .int .i64 g])).run Tryz.prog w = _
  rw [Op.equalIn]
  simp [run_underlying Tryz.underlying54, part9 (cs := #[.string a, .string b, .int .i64 c]) (i := 0) rfl, part9 (cs := #[.string a, .string b, .int .i64 c]) (i := 1) rfl, part3 (cs := #[.string a, .string b, .int .i64 c]) (i := 2) rfl, part9 (cs := #[.string e, .string f, .int .i64 g]) (i := 0) rfl, part9 (cs := #[.string e, .string f, .int .i64 g]) (i := 1) rfl, part3 (cs := #[.string e, .string f, .int .i64 g]) (i := 2) rfl, eqin3 9998, eqin9 9998]
  by_cases h0 : a = e <;> by_cases h1 : b = f <;> by_cases h2 : c = g <;> simp [h0, h1, h2]
theorem guard71 : Tryz.prog.eqGuardType Tryz.prog.depth 71 = false := by kernel_rfl
theorem guard25 : Tryz.prog.eqGuardType Tryz.prog.depth 25 = false := by kernel_rfl
theorem guard64 : Tryz.prog.eqGuardType Tryz.prog.depth 64 = false := by kernel_rfl
theorem guard54 : Tryz.prog.eqGuardType Tryz.prog.depth 54 = false := by kernel_rfl
theorem q_feq71_eql {n f : Nat} {K : Nat → Prop} {w0 : World} {R : Ending → World → Prop} {ds : List Deferred} {e : Env} {H : Hp} {dd : Nat} {t t2 : TypeId} {p : String} {af : Array Edge} {g : Option (Nat × Bool)} {x y : Operand} {u0 v0 : ByteArray} {u1 v1 : ByteArray} (hx : e.op x = some (.agg #[.string u0, .string u1])) (hy : e.op y = some (.agg #[.string v0, .string v1])) : Quiet ⟨Tryz.prog, f, n, K, w0, R, ds⟩ e H ⟨some dd, .binOp .eql 71 x y t2, t, p, af, g⟩ (.bool (decide (u0 = v0 ∧ u1 = v1))) := fun act w ha hw => by
  have h := eq71 u0 v0 u1 v1 w
  simp [execOp, ha.op hx, ha.op hy, eqGuard, guard71, binOp, h]
theorem q_feq71_neq {n f : Nat} {K : Nat → Prop} {w0 : World} {R : Ending → World → Prop} {ds : List Deferred} {e : Env} {H : Hp} {dd : Nat} {t t2 : TypeId} {p : String} {af : Array Edge} {g : Option (Nat × Bool)} {x y : Operand} {u0 v0 : ByteArray} {u1 v1 : ByteArray} (hx : e.op x = some (.agg #[.string u0, .string u1])) (hy : e.op y = some (.agg #[.string v0, .string v1])) : Quiet ⟨Tryz.prog, f, n, K, w0, R, ds⟩ e H ⟨some dd, .binOp .neq 71 x y t2, t, p, af, g⟩ (.bool (decide (¬ (u0 = v0 ∧ u1 = v1)))) := fun act w ha hw => by
  have h := eq71 u0 v0 u1 v1 w
  simp [execOp, ha.op hx, ha.op hy, eqGuard, guard71, binOp, h]
theorem q_feq25_eql {n f : Nat} {K : Nat → Prop} {w0 : World} {R : Ending → World → Prop} {ds : List Deferred} {e : Env} {H : Hp} {dd : Nat} {t t2 : TypeId} {p : String} {af : Array Edge} {g : Option (Nat × Bool)} {x y : Operand} {u0 v0 : Int} {u1 v1 : Int} (hx : e.op x = some (.agg #[.int .i64 u0, .int .i64 u1])) (hy : e.op y = some (.agg #[.int .i64 v0, .int .i64 v1])) : Quiet ⟨Tryz.prog, f, n, K, w0, R, ds⟩ e H ⟨some dd, .binOp .eql 25 x y t2, t, p, af, g⟩ (.bool (decide (u0 = v0 ∧ u1 = v1))) := fun act w ha hw => by
  have h := eq25 u0 v0 u1 v1 w
  simp [execOp, ha.op hx, ha.op hy, eqGuard, guard25, binOp, h]
theorem q_feq25_neq {n f : Nat} {K : Nat → Prop} {w0 : World} {R : Ending → World → Prop} {ds : List Deferred} {e : Env} {H : Hp} {dd : Nat} {t t2 : TypeId} {p : String} {af : Array Edge} {g : Option (Nat × Bool)} {x y : Operand} {u0 v0 : Int} {u1 v1 : Int} (hx : e.op x = some (.agg #[.int .i64 u0, .int .i64 u1])) (hy : e.op y = some (.agg #[.int .i64 v0, .int .i64 v1])) : Quiet ⟨Tryz.prog, f, n, K, w0, R, ds⟩ e H ⟨some dd, .binOp .neq 25 x y t2, t, p, af, g⟩ (.bool (decide (¬ (u0 = v0 ∧ u1 = v1)))) := fun act w ha hw => by
  have h := eq25 u0 v0 u1 v1 w
  simp [execOp, ha.op hx, ha.op hy, eqGuard, guard25, binOp, h]
theorem q_feq64_eql {n f : Nat} {K : Nat → Prop} {w0 : World} {R : Ending → World → Prop} {ds : List Deferred} {e : Env} {H : Hp} {dd : Nat} {t t2 : TypeId} {p : String} {af : Array Edge} {g : Option (Nat × Bool)} {x y : Operand} {u0 v0 : ByteArray} {u1 v1 : Int} {u2 v2 : ByteArray} {u3 v3 : ByteArray} (hx : e.op x = some (.agg #[.string u0, .int .i64 u1, .string u2, .string u3])) (hy : e.op y = some (.agg #[.string v0, .int .i64 v1, .string v2, .string v3])) : Quiet ⟨Tryz.prog, f, n, K, w0, R, ds⟩ e H ⟨some dd, .binOp .eql 64 x y t2, t, p, af, g⟩ (.bool (decide (u0 = v0 ∧ u1 = v1 ∧ u2 = v2 ∧ u3 = v3))) := fun act w ha hw => by
  have h := eq64 u0 v0 u1 v1 u2 v2 u3 v3 w
  simp [execOp, ha.op hx, ha.op hy, eqGuard, guard64, binOp, h]
theorem q_feq64_neq {n f : Nat} {K : Nat → Prop} {w0 : World} {R : Ending → World → Prop} {ds : List Deferred} {e : Env} {H : Hp} {dd : Nat} {t t2 : TypeId} {p : String} {af : Array Edge} {g : Option (Nat × Bool)} {x y : Operand} {u0 v0 : ByteArray} {u1 v1 : Int} {u2 v2 : ByteArray} {u3 v3 : ByteArray} (hx : e.op x = some (.agg #[.string u0, .int .i64 u1, .string u2, .string u3])) (hy : e.op y = some (.agg #[.string v0, .int .i64 v1, .string v2, .string v3])) : Quiet ⟨Tryz.prog, f, n, K, w0, R, ds⟩ e H ⟨some dd, .binOp .neq 64 x y t2, t, p, af, g⟩ (.bool (decide (¬ (u0 = v0 ∧ u1 = v1 ∧ u2 = v2 ∧ u3 = v3)))) := fun act w ha hw => by
  have h := eq64 u0 v0 u1 v1 u2 v2 u3 v3 w
  simp [execOp, ha.op hx, ha.op hy, eqGuard, guard64, binOp, h]
theorem q_feq54_eql {n f : Nat} {K : Nat → Prop} {w0 : World} {R : Ending → World → Prop} {ds : List Deferred} {e : Env} {H : Hp} {dd : Nat} {t t2 : TypeId} {p : String} {af : Array Edge} {g : Option (Nat × Bool)} {x y : Operand} {u0 v0 : ByteArray} {u1 v1 : ByteArray} {u2 v2 : Int} (hx : e.op x = some (.agg #[.string u0, .string u1, .int .i64 u2])) (hy : e.op y = some (.agg #[.string v0, .string v1, .int .i64 v2])) : Quiet ⟨Tryz.prog, f, n, K, w0, R, ds⟩ e H ⟨some dd, .binOp .eql 54 x y t2, t, p, af, g⟩ (.bool (decide (u0 = v0 ∧ u1 = v1 ∧ u2 = v2))) := fun act w ha hw => by
  have h := eq54 u0 v0 u1 v1 u2 v2 w
  simp [execOp, ha.op hx, ha.op hy, eqGuard, guard54, binOp, h]
theorem q_feq54_neq {n f : Nat} {K : Nat → Prop} {w0 : World} {R : Ending → World → Prop} {ds : List Deferred} {e : Env} {H : Hp} {dd : Nat} {t t2 : TypeId} {p : String} {af : Array Edge} {g : Option (Nat × Bool)} {x y : Operand} {u0 v0 : ByteArray} {u1 v1 : ByteArray} {u2 v2 : Int} (hx : e.op x = some (.agg #[.string u0, .string u1, .int .i64 u2])) (hy : e.op y = some (.agg #[.string v0, .string v1, .int .i64 v2])) : Quiet ⟨Tryz.prog, f, n, K, w0, R, ds⟩ e H ⟨some dd, .binOp .neq 54 x y t2, t, p, af, g⟩ (.bool (decide (¬ (u0 = v0 ∧ u1 = v1 ∧ u2 = v2)))) := fun act w ha hw => by
  have h := eq54 u0 v0 u1 v1 u2 v2 w
  simp [execOp, ha.op hx, ha.op hy, eqGuard, guard54, binOp, h]
end Go.Proofs.YtecibcjckinngaaGreatDoor
/- Walks over names, lists of strings, and package slices at the program's own types. -/
set_option linter.unusedVariables false
namespace Go.Proofs.YtecibcjckinngaaGreatDoor
open Go Go.RowKit Enc
attribute [local irreducible] Effect OpsE RunE AnyE AnyAt Quiet Res1


theorem c6 (a b : Int) (w : World) : RetV Tryz.prog 6 #[.int .i64 a, .int .i64 b] w (fv (a, b)) := by
  refine calls_of (args := [.int .i64 a, .int .i64 b]) Tryz.func6 rfl Tryz.ntmps6 rfl (H := []) (Facts.sep (.nil)) ?_
  refine r_seq ?_
  refine r_region ?_
  refine sx rfl (e_alloc zz25) (fun g1 _ => ?_)
  refine o_end ?_
  refine r_seq ?_
  refine r_region ?_
  refine s1 rfl (q_move rfl) ?_
  refine s1 rfl (q_move rfl) ?_
  refine s1 rfl (q_build (cs := [.int .i64 a, .int .i64 b]) (.cons rfl (.cons rfl (.nil))) (by kernel_rfl)) ?_
  refine sxn (e_store (tg := 4) (news := [.int .i64 a, .int .i64 b]) rfl rfl rfl rfl z25 rfl rfl (.cons (.cons (.nil _)))) (fun _ _ => ?_)
  refine o_end ?_
  refine r_ret Tryz.func6 (res1 Tryz.results6 (res_cell (cs := [.int .i64 a, .int .i64 b]) ag25 z25 rfl (s := 4) (tg := 4) rfl rfl)) (fun w hw => ?_)
  exact ⟨rfl, hw.kp⟩


theorem c12 (n a b : Int) (w : World) : RetV Tryz.prog 12 #[.int .i64 n, .int .i64 a, .int .i64 b] w (.bool (decide (a ≤ n ∧ n ≤ b))) := by
  refine calls_of (args := [.int .i64 n, .int .i64 a, .int .i64 b]) Tryz.func12 rfl Tryz.ntmps12 rfl (H := []) (Facts.sep (.nil)) ?_
  refine r_seq ?_
  refine r_region ?_
  refine s1 rfl (q_assign rfl) ?_
  refine o_end ?_
  refine r_seq ?_
  refine r_cut [(6, .bool (decide ((a ≤ n) ∧ (n ≤ b))))] [] ?_ (fun key => ?_)
  · refine r_ret Tryz.func12 (res1 Tryz.results12 (res_tmp (s := 6) rfl)) (fun w hw => ?_)
    exact ⟨rfl, hw.kp⟩
  · refine r_region ?_
    refine s1 rfl (q_move rfl) ?_
    refine s1 rfl (q_move rfl) ?_
    refine s1 rfl (q_leq rfl rfl) ?_
    refine s1 rfl (q_move rfl) ?_
    refine g_split (s := 10) rfl (fun hp1 => ?_) (fun hp1 => ?_)
    · refine g_on rfl rfl ?_
      refine s1 rfl (q_move rfl) ?_
      refine g_on rfl rfl ?_
      refine s1 rfl (q_move rfl) ?_
      refine g_on rfl rfl ?_
      refine s1 rfl (q_leq rfl rfl) ?_
      refine s1 rfl (q_pickt rfl rfl) ?_
      refine s1 rfl (q_assign rfl) ?_
      refine o_end ?_
      exact key.weaken (.consE rfl (congrArg Value.bool (by first | (simp only [hp1, ne_eq, not_true_eq_false, not_false_eq_true, true_or, or_true, false_or, or_false, true_and, and_true, false_and, and_false, Bool.decide_eq_true] <;> first | exact nb_dec _ | exact b_dec _ | (simp; done)) | exact nb_dec _ | exact b_dec _ | (simp; done) | (exfalso; omega))) (.nil)) (.nil)
    · refine g_off rfl rfl rfl ?_
      refine g_off rfl rfl rfl ?_
      refine g_off rfl rfl rfl ?_
      refine s1 rfl (q_pickf rfl rfl) ?_
      refine s1 rfl (q_assign rfl) ?_
      refine o_end ?_
      exact key.weaken (.consE rfl (congrArg Value.bool (decide_eq_false (fun h => hp1 h.1)).symm) (.nil)) (.nil)


theorem c43 (n : Int) (w : World) : RetV Tryz.prog 43 #[.int .u8 n] w (.bool (decide (48 ≤ n ∧ n ≤ 57))) := by
  refine calls_of (args := [.int .u8 n]) Tryz.func43 rfl Tryz.ntmps43 rfl (H := []) (Facts.sep (.nil)) ?_
  refine r_seq ?_
  refine r_region ?_
  refine s1 rfl (q_assign rfl) ?_
  refine o_end ?_
  refine r_seq ?_
  refine r_cut [(2, .bool (decide (((48 : Int) ≤ n) ∧ (n ≤ (57 : Int)))))] [] ?_ (fun key => ?_)
  · refine r_ret Tryz.func43 (res1 Tryz.results43 (res_tmp (s := 2) rfl)) (fun w hw => ?_)
    exact ⟨rfl, hw.kp⟩
  · refine r_region ?_
    refine s1 rfl (q_move rfl) ?_
    refine s1 rfl (q_geq rfl rfl) ?_
    refine s1 rfl (q_move rfl) ?_
    refine g_split (s := 5) rfl (fun hp1 => ?_) (fun hp1 => ?_)
    · refine g_on rfl rfl ?_
      refine s1 rfl (q_move rfl) ?_
      refine g_on rfl rfl ?_
      refine s1 rfl (q_leq rfl rfl) ?_
      refine s1 rfl (q_pickt rfl rfl) ?_
      refine s1 rfl (q_assign rfl) ?_
      refine o_end ?_
      exact key.weaken (.consE rfl (congrArg Value.bool (by first | (simp only [hp1, ne_eq, not_true_eq_false, not_false_eq_true, true_or, or_true, false_or, or_false, true_and, and_true, false_and, and_false, Bool.decide_eq_true] <;> first | exact nb_dec _ | exact b_dec _ | (simp; done)) | exact nb_dec _ | exact b_dec _ | (simp; done) | (exfalso; omega))) (.nil)) (.nil)
    · refine g_off rfl rfl rfl ?_
      refine g_off rfl rfl rfl ?_
      refine s1 rfl (q_pickf rfl rfl) ?_
      refine s1 rfl (q_assign rfl) ?_
      refine o_end ?_
      exact key.weaken (.consE rfl (congrArg Value.bool (decide_eq_false (fun h => hp1 h.1)).symm) (.nil)) (.nil)


theorem c69 (s : ByteArray) (w : World) (hb : s.size ≤ 140737488355328) : RetV Tryz.prog 69 #[.string s] w (.bool (isNameB s)) := by
  have hlen : s.data.toList.length = s.size := by simp
  refine calls_of (args := [.string s]) Tryz.func69 rfl Tryz.ntmps69 rfl (H := []) (Facts.sep (.nil)) ?_
  refine r_seq ?_
  refine r_region ?_
  refine s1 rfl (q_assign rfl) ?_
  refine o_end ?_
  refine r_seq ?_
  refine r_seq ?_
  refine r_cut [(0, .string s), (21, .bool (decide (((s = (⟨#[]⟩ : ByteArray)) ∨ ((24 : Int) < ((s.size : Nat) : Int))) ∨ (((48 : Int) ≤ ((s.data.toList.getD (0 : Int).toNat 0).toNat : Int)) ∧ (((s.data.toList.getD (0 : Int).toNat 0).toNat : Int) ≤ (57 : Int))))))] [] ?_ (fun key => ?_)
  · refine r_if rfl (fun hp1 => ?_) (fun hp1 => ?_)
    · refine r_seq ?_
      refine r_region ?_
      refine s1 rfl (q_assign rfl) ?_
      refine o_end ?_
      refine r_ret Tryz.func69 (res1 Tryz.results69 (res_tmp (s := 2) rfl)) (fun w hw => ?_)
      exact ⟨ret_bool (isName_a hp1).symm, hw.kp⟩
    · refine r_skip ?_
      refine r_seq ?_
      refine r_seq ?_
      refine r_region ?_
      refine s1 rfl (q_move rfl) ?_
      refine sx rfl (e_tobytes Tryz.underlying9 Tryz.underlying106 Tryz.underlying5 rfl (by omega)) (fun ⟨a1, c2⟩ _ => ?_)
      refine s1 rfl (q_len Tryz.underlying106 rfl) ?_
      refine s1 rfl (q_move rfl) ?_
      refine o_end ?_
      refine r_block ?_
      refine r_loop ?_
      refine RunE.weaken ?_ ?_ (r_rounds (fun (i : Nat) => [(23, .slice a1 s.data.toList.length c2), (24, .int .i64 ((s.data.toList.length : Nat) : Int)), (25, .int .i64 ((i : Nat) : Int))]) (fun (i : Nat) => [(23, .fn (fun w => ok w (⟨a1, c2, s.data.toList⟩ : Sl UInt8)))]) (fun (i : Nat) => i ≤ s.data.toList.length ∧ ∀ j, j < i → nameByte ((nth s.data.toList j).toNat) = true) (fun (i : Nat) => s.data.toList.length - i) ?_ 0 ?_)
      · exact (.cons rfl (.cons rfl (.cons rfl (.nil))))
      · exact (.cons rfl (.nil))
      · intro i hI0 ih0
        obtain ⟨hI1, hI2⟩ := hI0
        refine r_seq ?_
        refine r_region ?_
        refine s1 rfl (q_lss rfl rfl) ?_
        refine o_end ?_
        refine r_seq ?_
        refine r_if rfl (fun hp2 => ?_) (fun hp2 => ?_)
        · refine r_skip ?_
          refine r_seq ?_
          refine r_block ?_
          refine r_seq ?_
          refine r_region ?_
          refine s1 rfl (q_indexAddr Tryz.underlying106 z5 rfl rfl rfl (by first | omega | (have := size_empty (s := s) (by assumption); omega) | (have := size_empty (s := s) (fun h => by simp_all); omega)) (by first | omega | (have := size_empty (s := s) (by assumption); omega) | (have := size_empty (s := s) (fun h => by simp_all); omega)) (fun w hw => Sl.OK.isSome (hw.get_fn (t := 23) rfl) (by decide) (i := i) (by dsimp only; first | omega | (have := size_empty (s := s) (by assumption); omega) | (have := size_empty (s := s) (fun h => by simp_all); omega)))) ?_
          refine s1 rfl (q_load ag5 rfl (fun w hw => Sl.OK.cell0 (hw.get_fn (t := 23) rfl) (i := i) (by dsimp only; first | omega | (have := size_empty (s := s) (by assumption); omega) | (have := size_empty (s := s) (fun h => by simp_all); omega)) rfl)) ?_
          refine s1 rfl (q_assign rfl) ?_
          refine o_end ?_
          refine r_seq ?_
          refine r_cut [(23, .slice a1 s.data.toList.length c2), (24, .int .i64 ((s.data.toList.length : Nat) : Int)), (25, .int .i64 ((i : Nat) : Int)), (54, .bool (decide (((((((nth s.data.toList i).toNat : Int) < (97 : Int)) ∨ ((122 : Int) < ((nth s.data.toList i).toNat : Int))) ∧ ((((nth s.data.toList i).toNat : Int) < (65 : Int)) ∨ ((90 : Int) < ((nth s.data.toList i).toNat : Int)))) ∧ ((((nth s.data.toList i).toNat : Int) < (48 : Int)) ∨ ((57 : Int) < ((nth s.data.toList i).toNat : Int)))) ∧ (((nth s.data.toList i).toNat : Int) ≠ (95 : Int)))))] [(23, .fn (fun w => ok w (⟨a1, c2, s.data.toList⟩ : Sl UInt8)))] ?_ (fun key => ?_)
          · refine r_if rfl (fun hp3 => ?_) (fun hp3 => ?_)
            · refine r_seq ?_
              refine r_region ?_
              refine s1 rfl (q_assign rfl) ?_
              refine o_end ?_
              refine r_ret Tryz.func69 (res1 Tryz.results69 (res_tmp (s := 2) rfl)) (fun w hw => ?_)
              exact ⟨ret_bool (isName_b (i := i) (by omega) (by simp only [nameByte]; rw [decide_eq_true (by assumption)]; rfl)).symm, hw.kp⟩
            · refine r_skip ?_
              refine r_inBlock ?_
              refine r_region ?_
              refine s1 rfl (q_add rfl rfl (by omega)) ?_
              refine s1 rfl (q_move rfl) ?_
              refine o_end ?_
              refine r_inLoop ?_
              refine RunE.weaken ?_ ?_ (ih0 (i + 1) ?_ ?_)
              · exact (.cons rfl (.cons rfl (.cons rfl (.nil))))
              · exact (.cons rfl (.nil))
              · exact ⟨by omega, fun j hj => by rcases Nat.lt_succ_iff_lt_or_eq.1 hj with h | rfl; exact hI2 j h; simp only [nameByte]; rw [decide_eq_false (by assumption)]; rfl⟩
              · omega
          · refine r_region ?_
            refine s1 rfl (q_move rfl) ?_
            refine s1 rfl (q_lss rfl rfl) ?_
            refine s1 rfl (q_move rfl) ?_
            refine g_split (s := 31) rfl (fun hp4 => ?_) (fun hp4 => ?_)
            · refine g_off rfl rfl rfl ?_
              refine g_off rfl rfl rfl ?_
              refine s1 rfl (q_pickt rfl rfl) ?_
              refine s1 rfl (q_move rfl) ?_
              refine g_on rfl rfl ?_
              refine s1 rfl (q_move rfl) ?_
              refine g_on rfl rfl ?_
              refine s1 rfl (q_lss rfl rfl) ?_
              refine g_on rfl rfl ?_
              refine s1 rfl (q_move rfl) ?_
              refine g_split (s := 38) rfl (fun hp5 => ?_) (fun hp5 => ?_)
              · refine g_off rfl rfl rfl ?_
                refine g_off rfl rfl rfl ?_
                refine g_on rfl rfl ?_
                refine s1 rfl (q_pickt rfl rfl) ?_
                refine s1 rfl (q_pickt rfl rfl) ?_
                refine s1 rfl (q_move rfl) ?_
                refine g_on rfl rfl ?_
                refine s1 rfl (q_move rfl) ?_
                refine g_on rfl rfl ?_
                refine s1 rfl (q_lss rfl rfl) ?_
                refine g_on rfl rfl ?_
                refine s1 rfl (q_move rfl) ?_
                refine g_split (s := 46) rfl (fun hp6 => ?_) (fun hp6 => ?_)
                · refine g_off rfl rfl rfl ?_
                  refine g_off rfl rfl rfl ?_
                  refine g_on rfl rfl ?_
                  refine s1 rfl (q_pickt rfl rfl) ?_
                  refine s1 rfl (q_pickt rfl rfl) ?_
                  refine s1 rfl (q_move rfl) ?_
                  refine g_on rfl rfl ?_
                  refine s1 rfl (q_move rfl) ?_
                  refine g_on rfl rfl ?_
                  refine s1 rfl (q_neq rfl rfl) ?_
                  refine s1 rfl (q_pickt rfl rfl) ?_
                  refine o_end ?_
                  exact key.weaken (.cons rfl (.cons rfl (.cons rfl (.consE rfl (congrArg Value.bool (by first | (simp only [hp4, hp5, hp6, ne_eq, not_true_eq_false, not_false_eq_true, true_or, or_true, false_or, or_false, true_and, and_true, false_and, and_false, Bool.decide_eq_true] <;> first | exact nb_dec _ | exact b_dec _ | (simp; done)) | exact nb_dec _ | exact b_dec _ | (simp; done) | (exfalso; omega))) (.nil))))) (.cons rfl (.nil))
                · refine g_on rfl rfl ?_
                  refine s1 rfl (q_move rfl) ?_
                  refine g_on rfl rfl ?_
                  refine s1 rfl (q_gtr rfl rfl) ?_
                  refine g_on rfl rfl ?_
                  refine s1 rfl (q_pickf rfl rfl) ?_
                  refine s1 rfl (q_pickt rfl rfl) ?_
                  refine s1 rfl (q_move rfl) ?_
                  refine g_split (s := 51) rfl (fun hp7 => ?_) (fun hp7 => ?_)
                  · refine g_on rfl rfl ?_
                    refine s1 rfl (q_move rfl) ?_
                    refine g_on rfl rfl ?_
                    refine s1 rfl (q_neq rfl rfl) ?_
                    refine s1 rfl (q_pickt rfl rfl) ?_
                    refine o_end ?_
                    exact key.weaken (.cons rfl (.cons rfl (.cons rfl (.consE rfl (congrArg Value.bool (by first | (simp only [hp4, hp5, hp6, hp7, ne_eq, not_true_eq_false, not_false_eq_true, true_or, or_true, false_or, or_false, true_and, and_true, false_and, and_false, Bool.decide_eq_true] <;> first | exact nb_dec _ | exact b_dec _ | (simp; done)) | exact nb_dec _ | exact b_dec _ | (simp; done) | (exfalso; omega))) (.nil))))) (.cons rfl (.nil))
                  · refine g_off rfl rfl rfl ?_
                    refine g_off rfl rfl rfl ?_
                    refine s1 rfl (q_pickf rfl rfl) ?_
                    refine o_end ?_
                    exact key.weaken (.cons rfl (.cons rfl (.cons rfl (.consE rfl (congrArg Value.bool (decide_eq_false (fun h => (fun h => (fun h => h.elim hp6 hp7) h.2) h.1)).symm) (.nil))))) (.cons rfl (.nil))
              · refine g_on rfl rfl ?_
                refine s1 rfl (q_move rfl) ?_
                refine g_on rfl rfl ?_
                refine s1 rfl (q_gtr rfl rfl) ?_
                refine g_on rfl rfl ?_
                refine s1 rfl (q_pickf rfl rfl) ?_
                refine s1 rfl (q_pickt rfl rfl) ?_
                refine s1 rfl (q_move rfl) ?_
                refine g_split (s := 43) rfl (fun hp8 => ?_) (fun hp8 => ?_)
                · refine g_on rfl rfl ?_
                  refine s1 rfl (q_move rfl) ?_
                  refine g_on rfl rfl ?_
                  refine s1 rfl (q_lss rfl rfl) ?_
                  refine g_on rfl rfl ?_
                  refine s1 rfl (q_move rfl) ?_
                  refine g_split (s := 46) rfl (fun hp9 => ?_) (fun hp9 => ?_)
                  · refine g_off rfl rfl rfl ?_
                    refine g_off rfl rfl rfl ?_
                    refine g_on rfl rfl ?_
                    refine s1 rfl (q_pickt rfl rfl) ?_
                    refine s1 rfl (q_pickt rfl rfl) ?_
                    refine s1 rfl (q_move rfl) ?_
                    refine g_on rfl rfl ?_
                    refine s1 rfl (q_move rfl) ?_
                    refine g_on rfl rfl ?_
                    refine s1 rfl (q_neq rfl rfl) ?_
                    refine s1 rfl (q_pickt rfl rfl) ?_
                    refine o_end ?_
                    exact key.weaken (.cons rfl (.cons rfl (.cons rfl (.consE rfl (congrArg Value.bool (by first | (simp only [hp4, hp5, hp8, hp9, ne_eq, not_true_eq_false, not_false_eq_true, true_or, or_true, false_or, or_false, true_and, and_true, false_and, and_false, Bool.decide_eq_true] <;> first | exact nb_dec _ | exact b_dec _ | (simp; done)) | exact nb_dec _ | exact b_dec _ | (simp; done) | (exfalso; omega))) (.nil))))) (.cons rfl (.nil))
                  · refine g_on rfl rfl ?_
                    refine s1 rfl (q_move rfl) ?_
                    refine g_on rfl rfl ?_
                    refine s1 rfl (q_gtr rfl rfl) ?_
                    refine g_on rfl rfl ?_
                    refine s1 rfl (q_pickf rfl rfl) ?_
                    refine s1 rfl (q_pickt rfl rfl) ?_
                    refine s1 rfl (q_move rfl) ?_
                    refine g_split (s := 51) rfl (fun hp10 => ?_) (fun hp10 => ?_)
                    · refine g_on rfl rfl ?_
                      refine s1 rfl (q_move rfl) ?_
                      refine g_on rfl rfl ?_
                      refine s1 rfl (q_neq rfl rfl) ?_
                      refine s1 rfl (q_pickt rfl rfl) ?_
                      refine o_end ?_
                      exact key.weaken (.cons rfl (.cons rfl (.cons rfl (.consE rfl (congrArg Value.bool (by first | (simp only [hp4, hp5, hp8, hp9, hp10, ne_eq, not_true_eq_false, not_false_eq_true, true_or, or_true, false_or, or_false, true_and, and_true, false_and, and_false, Bool.decide_eq_true] <;> first | exact nb_dec _ | exact b_dec _ | (simp; done)) | exact nb_dec _ | exact b_dec _ | (simp; done) | (exfalso; omega))) (.nil))))) (.cons rfl (.nil))
                    · refine g_off rfl rfl rfl ?_
                      refine g_off rfl rfl rfl ?_
                      refine s1 rfl (q_pickf rfl rfl) ?_
                      refine o_end ?_
                      exact key.weaken (.cons rfl (.cons rfl (.cons rfl (.consE rfl (congrArg Value.bool (decide_eq_false (fun h => (fun h => (fun h => h.elim hp9 hp10) h.2) h.1)).symm) (.nil))))) (.cons rfl (.nil))
                · refine g_off rfl rfl rfl ?_
                  refine g_off rfl rfl rfl ?_
                  refine g_off rfl rfl rfl ?_
                  refine g_offu rfl rfl rfl ?_
                  refine g_offu rfl rfl rfl ?_
                  refine g_off rfl rfl rfl ?_
                  refine s1 rfl (q_pickf rfl rfl) ?_
                  refine s1 rfl (q_move rfl) ?_
                  refine g_off rfl rfl rfl ?_
                  refine g_off rfl rfl rfl ?_
                  refine s1 rfl (q_pickf rfl rfl) ?_
                  refine o_end ?_
                  exact key.weaken (.cons rfl (.cons rfl (.cons rfl (.consE rfl (congrArg Value.bool (decide_eq_false (fun h => (fun h => (fun h => (fun h => h.elim hp5 hp8) h.2) h.1) h.1)).symm) (.nil))))) (.cons rfl (.nil))
            · refine g_on rfl rfl ?_
              refine s1 rfl (q_move rfl) ?_
              refine g_on rfl rfl ?_
              refine s1 rfl (q_gtr rfl rfl) ?_
              refine s1 rfl (q_pickf rfl rfl) ?_
              refine s1 rfl (q_move rfl) ?_
              refine g_split (s := 35) rfl (fun hp11 => ?_) (fun hp11 => ?_)
              · refine g_on rfl rfl ?_
                refine s1 rfl (q_move rfl) ?_
                refine g_on rfl rfl ?_
                refine s1 rfl (q_lss rfl rfl) ?_
                refine g_on rfl rfl ?_
                refine s1 rfl (q_move rfl) ?_
                refine g_split (s := 38) rfl (fun hp12 => ?_) (fun hp12 => ?_)
                · refine g_off rfl rfl rfl ?_
                  refine g_off rfl rfl rfl ?_
                  refine g_on rfl rfl ?_
                  refine s1 rfl (q_pickt rfl rfl) ?_
                  refine s1 rfl (q_pickt rfl rfl) ?_
                  refine s1 rfl (q_move rfl) ?_
                  refine g_on rfl rfl ?_
                  refine s1 rfl (q_move rfl) ?_
                  refine g_on rfl rfl ?_
                  refine s1 rfl (q_lss rfl rfl) ?_
                  refine g_on rfl rfl ?_
                  refine s1 rfl (q_move rfl) ?_
                  refine g_split (s := 46) rfl (fun hp13 => ?_) (fun hp13 => ?_)
                  · refine g_off rfl rfl rfl ?_
                    refine g_off rfl rfl rfl ?_
                    refine g_on rfl rfl ?_
                    refine s1 rfl (q_pickt rfl rfl) ?_
                    refine s1 rfl (q_pickt rfl rfl) ?_
                    refine s1 rfl (q_move rfl) ?_
                    refine g_on rfl rfl ?_
                    refine s1 rfl (q_move rfl) ?_
                    refine g_on rfl rfl ?_
                    refine s1 rfl (q_neq rfl rfl) ?_
                    refine s1 rfl (q_pickt rfl rfl) ?_
                    refine o_end ?_
                    exact key.weaken (.cons rfl (.cons rfl (.cons rfl (.consE rfl (congrArg Value.bool (by first | (simp only [hp4, hp11, hp12, hp13, ne_eq, not_true_eq_false, not_false_eq_true, true_or, or_true, false_or, or_false, true_and, and_true, false_and, and_false, Bool.decide_eq_true] <;> first | exact nb_dec _ | exact b_dec _ | (simp; done)) | exact nb_dec _ | exact b_dec _ | (simp; done) | (exfalso; omega))) (.nil))))) (.cons rfl (.nil))
                  · refine g_on rfl rfl ?_
                    refine s1 rfl (q_move rfl) ?_
                    refine g_on rfl rfl ?_
                    refine s1 rfl (q_gtr rfl rfl) ?_
                    refine g_on rfl rfl ?_
                    refine s1 rfl (q_pickf rfl rfl) ?_
                    refine s1 rfl (q_pickt rfl rfl) ?_
                    refine s1 rfl (q_move rfl) ?_
                    refine g_split (s := 51) rfl (fun hp14 => ?_) (fun hp14 => ?_)
                    · refine g_on rfl rfl ?_
                      refine s1 rfl (q_move rfl) ?_
                      refine g_on rfl rfl ?_
                      refine s1 rfl (q_neq rfl rfl) ?_
                      refine s1 rfl (q_pickt rfl rfl) ?_
                      refine o_end ?_
                      exact key.weaken (.cons rfl (.cons rfl (.cons rfl (.consE rfl (congrArg Value.bool (by first | (simp only [hp4, hp11, hp12, hp13, hp14, ne_eq, not_true_eq_false, not_false_eq_true, true_or, or_true, false_or, or_false, true_and, and_true, false_and, and_false, Bool.decide_eq_true] <;> first | exact nb_dec _ | exact b_dec _ | (simp; done)) | exact nb_dec _ | exact b_dec _ | (simp; done) | (exfalso; omega))) (.nil))))) (.cons rfl (.nil))
                    · refine g_off rfl rfl rfl ?_
                      refine g_off rfl rfl rfl ?_
                      refine s1 rfl (q_pickf rfl rfl) ?_
                      refine o_end ?_
                      exact key.weaken (.cons rfl (.cons rfl (.cons rfl (.consE rfl (congrArg Value.bool (decide_eq_false (fun h => (fun h => (fun h => h.elim hp13 hp14) h.2) h.1)).symm) (.nil))))) (.cons rfl (.nil))
                · refine g_on rfl rfl ?_
                  refine s1 rfl (q_move rfl) ?_
                  refine g_on rfl rfl ?_
                  refine s1 rfl (q_gtr rfl rfl) ?_
                  refine g_on rfl rfl ?_
                  refine s1 rfl (q_pickf rfl rfl) ?_
                  refine s1 rfl (q_pickt rfl rfl) ?_
                  refine s1 rfl (q_move rfl) ?_
                  refine g_split (s := 43) rfl (fun hp15 => ?_) (fun hp15 => ?_)
                  · refine g_on rfl rfl ?_
                    refine s1 rfl (q_move rfl) ?_
                    refine g_on rfl rfl ?_
                    refine s1 rfl (q_lss rfl rfl) ?_
                    refine g_on rfl rfl ?_
                    refine s1 rfl (q_move rfl) ?_
                    refine g_split (s := 46) rfl (fun hp16 => ?_) (fun hp16 => ?_)
                    · refine g_off rfl rfl rfl ?_
                      refine g_off rfl rfl rfl ?_
                      refine g_on rfl rfl ?_
                      refine s1 rfl (q_pickt rfl rfl) ?_
                      refine s1 rfl (q_pickt rfl rfl) ?_
                      refine s1 rfl (q_move rfl) ?_
                      refine g_on rfl rfl ?_
                      refine s1 rfl (q_move rfl) ?_
                      refine g_on rfl rfl ?_
                      refine s1 rfl (q_neq rfl rfl) ?_
                      refine s1 rfl (q_pickt rfl rfl) ?_
                      refine o_end ?_
                      exact key.weaken (.cons rfl (.cons rfl (.cons rfl (.consE rfl (congrArg Value.bool (by first | (simp only [hp4, hp11, hp12, hp15, hp16, ne_eq, not_true_eq_false, not_false_eq_true, true_or, or_true, false_or, or_false, true_and, and_true, false_and, and_false, Bool.decide_eq_true] <;> first | exact nb_dec _ | exact b_dec _ | (simp; done)) | exact nb_dec _ | exact b_dec _ | (simp; done) | (exfalso; omega))) (.nil))))) (.cons rfl (.nil))
                    · refine g_on rfl rfl ?_
                      refine s1 rfl (q_move rfl) ?_
                      refine g_on rfl rfl ?_
                      refine s1 rfl (q_gtr rfl rfl) ?_
                      refine g_on rfl rfl ?_
                      refine s1 rfl (q_pickf rfl rfl) ?_
                      refine s1 rfl (q_pickt rfl rfl) ?_
                      refine s1 rfl (q_move rfl) ?_
                      refine g_split (s := 51) rfl (fun hp17 => ?_) (fun hp17 => ?_)
                      · refine g_on rfl rfl ?_
                        refine s1 rfl (q_move rfl) ?_
                        refine g_on rfl rfl ?_
                        refine s1 rfl (q_neq rfl rfl) ?_
                        refine s1 rfl (q_pickt rfl rfl) ?_
                        refine o_end ?_
                        exact key.weaken (.cons rfl (.cons rfl (.cons rfl (.consE rfl (congrArg Value.bool (by first | (simp only [hp4, hp11, hp12, hp15, hp16, hp17, ne_eq, not_true_eq_false, not_false_eq_true, true_or, or_true, false_or, or_false, true_and, and_true, false_and, and_false, Bool.decide_eq_true] <;> first | exact nb_dec _ | exact b_dec _ | (simp; done)) | exact nb_dec _ | exact b_dec _ | (simp; done) | (exfalso; omega))) (.nil))))) (.cons rfl (.nil))
                      · refine g_off rfl rfl rfl ?_
                        refine g_off rfl rfl rfl ?_
                        refine s1 rfl (q_pickf rfl rfl) ?_
                        refine o_end ?_
                        exact key.weaken (.cons rfl (.cons rfl (.cons rfl (.consE rfl (congrArg Value.bool (decide_eq_false (fun h => (fun h => (fun h => h.elim hp16 hp17) h.2) h.1)).symm) (.nil))))) (.cons rfl (.nil))
                  · refine g_off rfl rfl rfl ?_
                    refine g_off rfl rfl rfl ?_
                    refine g_off rfl rfl rfl ?_
                    refine g_offu rfl rfl rfl ?_
                    refine g_offu rfl rfl rfl ?_
                    refine g_off rfl rfl rfl ?_
                    refine s1 rfl (q_pickf rfl rfl) ?_
                    refine s1 rfl (q_move rfl) ?_
                    refine g_off rfl rfl rfl ?_
                    refine g_off rfl rfl rfl ?_
                    refine s1 rfl (q_pickf rfl rfl) ?_
                    refine o_end ?_
                    exact key.weaken (.cons rfl (.cons rfl (.cons rfl (.consE rfl (congrArg Value.bool (decide_eq_false (fun h => (fun h => (fun h => (fun h => h.elim hp12 hp15) h.2) h.1) h.1)).symm) (.nil))))) (.cons rfl (.nil))
              · refine g_off rfl rfl rfl ?_
                refine g_off rfl rfl rfl ?_
                refine g_off rfl rfl rfl ?_
                refine g_offu rfl rfl rfl ?_
                refine g_offu rfl rfl rfl ?_
                refine g_off rfl rfl rfl ?_
                refine s1 rfl (q_pickf rfl rfl) ?_
                refine s1 rfl (q_move rfl) ?_
                iterate 3 refine g_off rfl rfl rfl ?_
                refine g_offu rfl rfl rfl ?_
                refine g_offu rfl rfl rfl ?_
                refine g_off rfl rfl rfl ?_
                refine s1 rfl (q_pickf rfl rfl) ?_
                refine s1 rfl (q_move rfl) ?_
                refine g_off rfl rfl rfl ?_
                refine g_off rfl rfl rfl ?_
                refine s1 rfl (q_pickf rfl rfl) ?_
                refine o_end ?_
                exact key.weaken (.cons rfl (.cons rfl (.cons rfl (.consE rfl (congrArg Value.bool (decide_eq_false (fun h => (fun h => (fun h => (fun h => h.elim hp4 hp11) h.1) h.1) h.1)).symm) (.nil))))) (.cons rfl (.nil))
        · refine r_exit rfl ?_
          refine r_seq ?_
          refine r_region ?_
          refine s1 rfl (q_assign rfl) ?_
          refine o_end ?_
          refine r_ret Tryz.func69 (res1 Tryz.results69 (res_tmp (s := 2) rfl)) (fun w hw => ?_)
          exact ⟨ret_bool (isName_c hp1 (fun j hj => hI2 j (by omega))).symm, hw.kp⟩
      · exact ⟨by omega, fun j hj => by omega⟩
  · refine r_region ?_
    refine s1 rfl (q_move rfl) ?_
    refine s1 rfl (q_seql rfl rfl) ?_
    refine s1 rfl (q_move rfl) ?_
    refine g_split (s := 7) rfl (fun hp18 => ?_) (fun hp18 => ?_)
    · refine g_off rfl rfl rfl ?_
      refine g_off rfl rfl rfl ?_
      refine g_off rfl rfl rfl ?_
      refine s1 rfl (q_pickt rfl rfl) ?_
      refine s1 rfl (q_move rfl) ?_
      iterate 4 refine g_off rfl rfl rfl ?_
      iterate 3 refine g_offu rfl rfl rfl ?_
      refine g_off rfl rfl rfl ?_
      refine s1 rfl (q_pickt rfl rfl) ?_
      refine o_end ?_
      exact key.weaken (.cons rfl (.consE rfl (congrArg Value.bool (decide_eq_true (Or.inl (Or.inl hp18))).symm) (.nil))) (.nil)
    · refine g_on rfl rfl ?_
      refine s1 rfl (q_move rfl) ?_
      refine g_on rfl rfl ?_
      refine s1 rfl (q_lens Tryz.underlying9 rfl) ?_
      refine g_on rfl rfl ?_
      refine s1 rfl (q_gtr rfl rfl) ?_
      refine s1 rfl (q_pickf rfl rfl) ?_
      refine s1 rfl (q_move rfl) ?_
      refine g_split (s := 12) rfl (fun hp19 => ?_) (fun hp19 => ?_)
      · refine g_off rfl rfl rfl ?_
        iterate 3 refine g_off rfl rfl rfl ?_
        iterate 3 refine g_offu rfl rfl rfl ?_
        refine g_off rfl rfl rfl ?_
        refine s1 rfl (q_pickt rfl rfl) ?_
        refine o_end ?_
        exact key.weaken (.cons rfl (.consE rfl (congrArg Value.bool (decide_eq_true (Or.inl (Or.inr hp19))).symm) (.nil))) (.nil)
      · refine g_on rfl rfl ?_
        refine s1 rfl (q_move rfl) ?_
        refine g_on rfl rfl ?_
        refine s1 rfl (q_sindex Tryz.underlying9 rfl rfl (by first | omega | (have := size_empty (s := s) (by assumption); omega) | (have := size_empty (s := s) (fun h => by simp_all); omega)) (by first | omega | (have := size_empty (s := s) (by assumption); omega) | (have := size_empty (s := s) (fun h => by simp_all); omega))) ?_
        refine g_on rfl rfl ?_
        refine s1 rfl (q_geq rfl rfl) ?_
        refine g_on rfl rfl ?_
        refine s1 rfl (q_move rfl) ?_
        refine g_split (s := 16) rfl (fun hp20 => ?_) (fun hp20 => ?_)
        · refine g_on rfl rfl ?_
          refine s1 rfl (q_move rfl) ?_
          refine g_on rfl rfl ?_
          refine s1 rfl (q_sindex Tryz.underlying9 rfl rfl (by first | omega | (have := size_empty (s := s) (by assumption); omega) | (have := size_empty (s := s) (fun h => by simp_all); omega)) (by first | omega | (have := size_empty (s := s) (by assumption); omega) | (have := size_empty (s := s) (fun h => by simp_all); omega))) ?_
          refine g_on rfl rfl ?_
          refine s1 rfl (q_leq rfl rfl) ?_
          refine g_on rfl rfl ?_
          refine s1 rfl (q_pickt rfl rfl) ?_
          refine s1 rfl (q_pickf rfl rfl) ?_
          refine o_end ?_
          exact key.weaken (.cons rfl (.consE rfl (congrArg Value.bool (by first | (simp only [hp18, hp19, hp20, ne_eq, not_true_eq_false, not_false_eq_true, true_or, or_true, false_or, or_false, true_and, and_true, false_and, and_false, Bool.decide_eq_true] <;> first | exact nb_dec _ | exact b_dec _ | (simp; done)) | exact nb_dec _ | exact b_dec _ | (simp; done) | (exfalso; omega))) (.nil))) (.nil)
        · refine g_off rfl rfl rfl ?_
          refine g_off rfl rfl rfl ?_
          refine g_off rfl rfl rfl ?_
          refine g_on rfl rfl ?_
          refine s1 rfl (q_pickf rfl rfl) ?_
          refine s1 rfl (q_pickf rfl rfl) ?_
          refine o_end ?_
          exact key.weaken (.cons rfl (.consE rfl (congrArg Value.bool (decide_eq_false (fun h => h.elim (fun h => h.elim hp18 hp19) (fun h => hp20 h.1))).symm) (.nil))) (.nil)


theorem c42 (s : ByteArray) (w : World) (hb : s.size ≤ 140737488355328) : RetV Tryz.prog 42 #[.string s] w (.bool (isNameB s)) := by
  refine calls_of (args := [.string s]) Tryz.func42 rfl Tryz.ntmps42 rfl (H := []) (Facts.sep (.nil)) ?_
  refine r_seq ?_
  refine r_region ?_
  refine s1 rfl (q_assign rfl) ?_
  refine o_end ?_
  refine r_seq ?_
  refine r_region ?_
  refine s1 rfl (q_move rfl) ?_
  refine sx rfl (e_call en69 (.cons rfl (.nil)) ((fun w hw => c69 s w (by omega)))) (fun _ _ => ?_)
  refine s1 rfl (q_assign rfl) ?_
  refine o_end ?_
  refine r_ret Tryz.func42 (res1 Tryz.results42 (res_tmp (s := 2) rfl)) (fun w hw => ?_)
  exact ⟨rfl, hw.kp⟩


theorem c74 (s : ByteArray) (w : World) (hb : s.size ≤ 140737488355328) : RetV Tryz.prog 74 #[.string s] w (.bool (!isNameB s)) := by
  refine calls_of (args := [.string s]) Tryz.func74 rfl Tryz.ntmps74 rfl (H := []) (Facts.sep (.nil)) ?_
  refine r_seq ?_
  refine r_region ?_
  refine s1 rfl (q_assign rfl) ?_
  refine o_end ?_
  refine r_seq ?_
  refine r_region ?_
  refine s1 rfl (q_move rfl) ?_
  refine sx rfl (e_call en42 (.cons rfl (.nil)) ((fun w hw => c42 s w (by omega)))) (fun _ _ => ?_)
  refine s1 rfl (q_notb rfl) ?_
  refine s1 rfl (q_assign rfl) ?_
  refine o_end ?_
  refine r_ret Tryz.func74 (res1 Tryz.results74 (res_tmp (s := 2) rfl)) (fun w hw => ?_)
  exact ⟨rfl, hw.kp⟩


theorem c86 (s : ByteArray) (w : World) (hb : s.size ≤ 140737488355328) : RetV Tryz.prog 86 #[.string s] w (.bool (!isNameB s)) := by
  refine calls_of (args := [.string s]) Tryz.func86 rfl Tryz.ntmps86 rfl (H := []) (Facts.sep (.nil)) ?_
  refine r_seq ?_
  refine r_region ?_
  refine s1 rfl (q_assign rfl) ?_
  refine o_end ?_
  refine r_seq ?_
  refine r_region ?_
  refine s1 rfl (q_move rfl) ?_
  refine sx rfl (e_call en42 (.cons rfl (.nil)) ((fun w hw => c42 s w (by omega)))) (fun _ _ => ?_)
  refine s1 rfl (q_notb rfl) ?_
  refine s1 rfl (q_assign rfl) ?_
  refine o_end ?_
  refine r_ret Tryz.func86 (res1 Tryz.results86 (res_tmp (s := 2) rfl)) (fun w hw => ?_)
  exact ⟨rfl, hw.kp⟩


theorem c14 (s : ByteArray) (w : World) (hb : s.size ≤ 140737488355328) : RetV Tryz.prog 14 #[.string s] w (.bool (isNameB s)) := by
  have hlen : s.data.toList.length = s.size := by simp
  refine calls_of (args := [.string s]) Tryz.func14 rfl Tryz.ntmps14 rfl (H := []) (Facts.sep (.nil)) ?_
  refine r_seq ?_
  refine r_region ?_
  refine s1 rfl (q_assign rfl) ?_
  refine o_end ?_
  refine r_seq ?_
  refine r_seq ?_
  refine r_cut [(0, .string s), (16, .bool (decide (((s = (⟨#[]⟩ : ByteArray)) ∨ ((24 : Int) < ((s.size : Nat) : Int))) ∨ (48 ≤ ((s.data.toList.getD (0 : Int).toNat 0).toNat : Int) ∧ ((s.data.toList.getD (0 : Int).toNat 0).toNat : Int) ≤ 57))))] [] ?_ (fun key => ?_)
  · refine r_if rfl (fun hp1 => ?_) (fun hp1 => ?_)
    · refine r_seq ?_
      refine r_region ?_
      refine s1 rfl (q_assign rfl) ?_
      refine o_end ?_
      refine r_ret Tryz.func14 (res1 Tryz.results14 (res_tmp (s := 2) rfl)) (fun w hw => ?_)
      exact ⟨ret_bool (isName_a hp1).symm, hw.kp⟩
    · refine r_skip ?_
      refine r_seq ?_
      refine r_seq ?_
      refine r_region ?_
      refine s1 rfl (q_assign rfl) ?_
      refine o_end ?_
      refine r_block ?_
      refine r_loop ?_
      refine RunE.weaken ?_ ?_ (r_rounds (fun (i : Nat) => [(0, .string s), (3, .int .i64 ((i : Nat) : Int))]) (fun (i : Nat) => []) (fun (i : Nat) => i ≤ s.size ∧ ∀ j, j < i → nameByte ((nth s.data.toList j).toNat) = true) (fun (i : Nat) => s.size - i) ?_ 0 ?_)
      · exact (.cons rfl (.cons rfl (.nil)))
      · exact (.nil)
      · intro i hI0 ih0
        obtain ⟨hI1, hI2⟩ := hI0
        refine r_seq ?_
        refine r_seq ?_
        refine r_region ?_
        refine s1 rfl (q_move rfl) ?_
        refine s1 rfl (q_move rfl) ?_
        refine s1 rfl (q_lens Tryz.underlying9 rfl) ?_
        refine s1 rfl (q_lss rfl rfl) ?_
        refine o_end ?_
        refine r_if rfl (fun hp2 => ?_) (fun hp2 => ?_)
        · refine r_skip ?_
          refine r_seq ?_
          refine r_block ?_
          refine r_seq ?_
          refine r_region ?_
          refine s1 rfl (q_move rfl) ?_
          refine s1 rfl (q_move rfl) ?_
          refine s1 rfl (q_sindex Tryz.underlying9 rfl rfl (by first | omega | (have := size_empty (s := s) (by assumption); omega) | (have := size_empty (s := s) (fun h => by simp_all); omega)) (by first | omega | (have := size_empty (s := s) (by assumption); omega) | (have := size_empty (s := s) (fun h => by simp_all); omega))) ?_
          refine s1 rfl (q_assign rfl) ?_
          refine o_end ?_
          refine r_seq ?_
          refine r_cut [(0, .string s), (3, .int .i64 ((i : Nat) : Int)), (48, .bool (decide (¬ ((((((97 : Int) ≤ ((s.data.toList.getD ((i : Nat) : Int).toNat 0).toNat : Int)) ∧ (((s.data.toList.getD ((i : Nat) : Int).toNat 0).toNat : Int) ≤ (122 : Int))) ∨ (((65 : Int) ≤ ((s.data.toList.getD ((i : Nat) : Int).toNat 0).toNat : Int)) ∧ (((s.data.toList.getD ((i : Nat) : Int).toNat 0).toNat : Int) ≤ (90 : Int)))) ∨ (((s.data.toList.getD ((i : Nat) : Int).toNat 0).toNat : Int) = (95 : Int))) ∨ (48 ≤ ((s.data.toList.getD ((i : Nat) : Int).toNat 0).toNat : Int) ∧ ((s.data.toList.getD ((i : Nat) : Int).toNat 0).toNat : Int) ≤ 57)))))] [] ?_ (fun key => ?_)
          · refine r_if rfl (fun hp3 => ?_) (fun hp3 => ?_)
            · refine r_seq ?_
              refine r_region ?_
              refine s1 rfl (q_assign rfl) ?_
              refine o_end ?_
              refine r_ret Tryz.func14 (res1 Tryz.results14 (res_tmp (s := 2) rfl)) (fun w hw => ?_)
              exact ⟨ret_bool (isName_b (i := i) (by omega) (name_byte_n hp3)).symm, hw.kp⟩
            · refine r_skip ?_
              refine r_inBlock ?_
              refine r_region ?_
              refine s1 rfl (q_move rfl) ?_
              refine s1 rfl (q_add rfl rfl (by omega)) ?_
              refine s1 rfl (q_assign rfl) ?_
              refine o_end ?_
              refine r_inLoop ?_
              refine RunE.weaken ?_ ?_ (ih0 (i + 1) ?_ ?_)
              · exact (.cons rfl (.cons rfl (.nil)))
              · exact (.nil)
              · exact ⟨by omega, fun j hj => by rcases Nat.lt_succ_iff_lt_or_eq.1 hj with h | rfl; exact hI2 j h; exact name_byte_y hp3⟩
              · omega
          · refine r_region ?_
            refine s1 rfl (q_move rfl) ?_
            refine s1 rfl (q_geq rfl rfl) ?_
            refine s1 rfl (q_move rfl) ?_
            refine g_split (s := 28) rfl (fun hp4 => ?_) (fun hp4 => ?_)
            · refine g_on rfl rfl ?_
              refine s1 rfl (q_move rfl) ?_
              refine g_on rfl rfl ?_
              refine s1 rfl (q_leq rfl rfl) ?_
              refine s1 rfl (q_pickt rfl rfl) ?_
              refine s1 rfl (q_move rfl) ?_
              refine g_split (s := 32) rfl (fun hp5 => ?_) (fun hp5 => ?_)
              · refine g_off rfl rfl rfl ?_
                refine g_off rfl rfl rfl ?_
                refine g_off rfl rfl rfl ?_
                refine g_offu rfl rfl rfl ?_
                refine g_offu rfl rfl rfl ?_
                refine g_off rfl rfl rfl ?_
                refine s1 rfl (q_pickt rfl rfl) ?_
                refine s1 rfl (q_move rfl) ?_
                refine g_off rfl rfl rfl ?_
                refine g_off rfl rfl rfl ?_
                refine s1 rfl (q_pickt rfl rfl) ?_
                refine s1 rfl (q_move rfl) ?_
                refine g_off rfl rfl rfl ?_
                refine g_off rfl rfl rfl ?_
                refine s1 rfl (q_pickt rfl rfl) ?_
                refine s1 rfl (q_notb rfl) ?_
                refine o_end ?_
                exact key.weaken (.cons rfl (.cons rfl (.consE rfl (congrArg Value.bool (decide_eq_false (fun h => h (Or.inl (Or.inl (Or.inl ⟨hp4, hp5⟩))))).symm) (.nil)))) (.nil)
              · refine g_on rfl rfl ?_
                refine s1 rfl (q_move rfl) ?_
                refine g_on rfl rfl ?_
                refine s1 rfl (q_geq rfl rfl) ?_
                refine g_on rfl rfl ?_
                refine s1 rfl (q_move rfl) ?_
                refine g_split (s := 35) rfl (fun hp6 => ?_) (fun hp6 => ?_)
                · refine g_on rfl rfl ?_
                  refine s1 rfl (q_move rfl) ?_
                  refine g_on rfl rfl ?_
                  refine s1 rfl (q_leq rfl rfl) ?_
                  refine g_on rfl rfl ?_
                  refine s1 rfl (q_pickt rfl rfl) ?_
                  refine s1 rfl (q_pickf rfl rfl) ?_
                  refine s1 rfl (q_move rfl) ?_
                  refine g_split (s := 40) rfl (fun hp7 => ?_) (fun hp7 => ?_)
                  · refine g_off rfl rfl rfl ?_
                    refine g_off rfl rfl rfl ?_
                    refine s1 rfl (q_pickt rfl rfl) ?_
                    refine s1 rfl (q_move rfl) ?_
                    refine g_off rfl rfl rfl ?_
                    refine g_off rfl rfl rfl ?_
                    refine s1 rfl (q_pickt rfl rfl) ?_
                    refine s1 rfl (q_notb rfl) ?_
                    refine o_end ?_
                    exact key.weaken (.cons rfl (.cons rfl (.consE rfl (congrArg Value.bool (decide_eq_false (fun h => h (Or.inl (Or.inl (Or.inr ⟨hp6, hp7⟩))))).symm) (.nil)))) (.nil)
                  · refine g_on rfl rfl ?_
                    refine s1 rfl (q_move rfl) ?_
                    refine g_on rfl rfl ?_
                    refine s1 rfl (q_eql rfl rfl) ?_
                    refine s1 rfl (q_pickf rfl rfl) ?_
                    refine s1 rfl (q_move rfl) ?_
                    refine g_split (s := 44) rfl (fun hp8 => ?_) (fun hp8 => ?_)
                    · refine g_off rfl rfl rfl ?_
                      refine g_off rfl rfl rfl ?_
                      refine s1 rfl (q_pickt rfl rfl) ?_
                      refine s1 rfl (q_notb rfl) ?_
                      refine o_end ?_
                      exact key.weaken (.cons rfl (.cons rfl (.consE rfl (congrArg Value.bool (decide_eq_false (fun h => h (Or.inl (Or.inr hp8)))).symm) (.nil)))) (.nil)
                    · refine g_on rfl rfl ?_
                      refine s1 rfl (q_move rfl) ?_
                      refine g_on rfl rfl ?_
                      refine sx rfl (e_call en43 (.cons rfl (.nil)) ((fun w hw => c43 ((s.data.toList.getD ((i : Nat) : Int).toNat 0).toNat : Int) w))) (fun _ _ => ?_)
                      refine s1 rfl (q_pickf rfl rfl) ?_
                      refine s1 rfl (q_not rfl) ?_
                      refine o_end ?_
                      exact key.weaken (.cons rfl (.cons rfl (.consE rfl (congrArg Value.bool (by first | (simp only [hp4, hp5, hp6, hp7, hp8, ne_eq, not_true_eq_false, not_false_eq_true, true_or, or_true, false_or, or_false, true_and, and_true, false_and, and_false, Bool.decide_eq_true] <;> first | exact nb_dec _ | exact b_dec _ | (simp; done)) | exact nb_dec _ | exact b_dec _ | (simp; done) | (exfalso; omega))) (.nil)))) (.nil)
                · refine g_off rfl rfl rfl ?_
                  refine g_off rfl rfl rfl ?_
                  refine g_on rfl rfl ?_
                  refine s1 rfl (q_pickf rfl rfl) ?_
                  refine s1 rfl (q_pickf rfl rfl) ?_
                  refine s1 rfl (q_move rfl) ?_
                  refine g_on rfl rfl ?_
                  refine s1 rfl (q_move rfl) ?_
                  refine g_on rfl rfl ?_
                  refine s1 rfl (q_eql rfl rfl) ?_
                  refine s1 rfl (q_pickf rfl rfl) ?_
                  refine s1 rfl (q_move rfl) ?_
                  refine g_split (s := 44) rfl (fun hp9 => ?_) (fun hp9 => ?_)
                  · refine g_off rfl rfl rfl ?_
                    refine g_off rfl rfl rfl ?_
                    refine s1 rfl (q_pickt rfl rfl) ?_
                    refine s1 rfl (q_notb rfl) ?_
                    refine o_end ?_
                    exact key.weaken (.cons rfl (.cons rfl (.consE rfl (congrArg Value.bool (decide_eq_false (fun h => h (Or.inl (Or.inr hp9)))).symm) (.nil)))) (.nil)
                  · refine g_on rfl rfl ?_
                    refine s1 rfl (q_move rfl) ?_
                    refine g_on rfl rfl ?_
                    refine sx rfl (e_call en43 (.cons rfl (.nil)) ((fun w hw => c43 ((s.data.toList.getD ((i : Nat) : Int).toNat 0).toNat : Int) w))) (fun _ _ => ?_)
                    refine s1 rfl (q_pickf rfl rfl) ?_
                    refine s1 rfl (q_not rfl) ?_
                    refine o_end ?_
                    exact key.weaken (.cons rfl (.cons rfl (.consE rfl (congrArg Value.bool (by first | (simp only [hp4, hp5, hp6, hp9, ne_eq, not_true_eq_false, not_false_eq_true, true_or, or_true, false_or, or_false, true_and, and_true, false_and, and_false, Bool.decide_eq_true] <;> first | exact nb_dec _ | exact b_dec _ | (simp; done)) | exact nb_dec _ | exact b_dec _ | (simp; done) | (exfalso; omega))) (.nil)))) (.nil)
            · refine g_off rfl rfl rfl ?_
              refine g_off rfl rfl rfl ?_
              refine s1 rfl (q_pickf rfl rfl) ?_
              refine s1 rfl (q_move rfl) ?_
              refine g_on rfl rfl ?_
              refine s1 rfl (q_move rfl) ?_
              refine g_on rfl rfl ?_
              refine s1 rfl (q_geq rfl rfl) ?_
              refine g_on rfl rfl ?_
              refine s1 rfl (q_move rfl) ?_
              refine g_split (s := 35) rfl (fun hp10 => ?_) (fun hp10 => ?_)
              · refine g_on rfl rfl ?_
                refine s1 rfl (q_move rfl) ?_
                refine g_on rfl rfl ?_
                refine s1 rfl (q_leq rfl rfl) ?_
                refine g_on rfl rfl ?_
                refine s1 rfl (q_pickt rfl rfl) ?_
                refine s1 rfl (q_pickf rfl rfl) ?_
                refine s1 rfl (q_move rfl) ?_
                refine g_split (s := 40) rfl (fun hp11 => ?_) (fun hp11 => ?_)
                · refine g_off rfl rfl rfl ?_
                  refine g_off rfl rfl rfl ?_
                  refine s1 rfl (q_pickt rfl rfl) ?_
                  refine s1 rfl (q_move rfl) ?_
                  refine g_off rfl rfl rfl ?_
                  refine g_off rfl rfl rfl ?_
                  refine s1 rfl (q_pickt rfl rfl) ?_
                  refine s1 rfl (q_notb rfl) ?_
                  refine o_end ?_
                  exact key.weaken (.cons rfl (.cons rfl (.consE rfl (congrArg Value.bool (decide_eq_false (fun h => h (Or.inl (Or.inl (Or.inr ⟨hp10, hp11⟩))))).symm) (.nil)))) (.nil)
                · refine g_on rfl rfl ?_
                  refine s1 rfl (q_move rfl) ?_
                  refine g_on rfl rfl ?_
                  refine s1 rfl (q_eql rfl rfl) ?_
                  refine s1 rfl (q_pickf rfl rfl) ?_
                  refine s1 rfl (q_move rfl) ?_
                  refine g_split (s := 44) rfl (fun hp12 => ?_) (fun hp12 => ?_)
                  · refine g_off rfl rfl rfl ?_
                    refine g_off rfl rfl rfl ?_
                    refine s1 rfl (q_pickt rfl rfl) ?_
                    refine s1 rfl (q_notb rfl) ?_
                    refine o_end ?_
                    exact key.weaken (.cons rfl (.cons rfl (.consE rfl (congrArg Value.bool (decide_eq_false (fun h => h (Or.inl (Or.inr hp12)))).symm) (.nil)))) (.nil)
                  · refine g_on rfl rfl ?_
                    refine s1 rfl (q_move rfl) ?_
                    refine g_on rfl rfl ?_
                    refine sx rfl (e_call en43 (.cons rfl (.nil)) ((fun w hw => c43 ((s.data.toList.getD ((i : Nat) : Int).toNat 0).toNat : Int) w))) (fun _ _ => ?_)
                    refine s1 rfl (q_pickf rfl rfl) ?_
                    refine s1 rfl (q_not rfl) ?_
                    refine o_end ?_
                    exact key.weaken (.cons rfl (.cons rfl (.consE rfl (congrArg Value.bool (by first | (simp only [hp4, hp10, hp11, hp12, ne_eq, not_true_eq_false, not_false_eq_true, true_or, or_true, false_or, or_false, true_and, and_true, false_and, and_false, Bool.decide_eq_true] <;> first | exact nb_dec _ | exact b_dec _ | (simp; done)) | exact nb_dec _ | exact b_dec _ | (simp; done) | (exfalso; omega))) (.nil)))) (.nil)
              · refine g_off rfl rfl rfl ?_
                refine g_off rfl rfl rfl ?_
                refine g_on rfl rfl ?_
                refine s1 rfl (q_pickf rfl rfl) ?_
                refine s1 rfl (q_pickf rfl rfl) ?_
                refine s1 rfl (q_move rfl) ?_
                refine g_on rfl rfl ?_
                refine s1 rfl (q_move rfl) ?_
                refine g_on rfl rfl ?_
                refine s1 rfl (q_eql rfl rfl) ?_
                refine s1 rfl (q_pickf rfl rfl) ?_
                refine s1 rfl (q_move rfl) ?_
                refine g_split (s := 44) rfl (fun hp13 => ?_) (fun hp13 => ?_)
                · refine g_off rfl rfl rfl ?_
                  refine g_off rfl rfl rfl ?_
                  refine s1 rfl (q_pickt rfl rfl) ?_
                  refine s1 rfl (q_notb rfl) ?_
                  refine o_end ?_
                  exact key.weaken (.cons rfl (.cons rfl (.consE rfl (congrArg Value.bool (decide_eq_false (fun h => h (Or.inl (Or.inr hp13)))).symm) (.nil)))) (.nil)
                · refine g_on rfl rfl ?_
                  refine s1 rfl (q_move rfl) ?_
                  refine g_on rfl rfl ?_
                  refine sx rfl (e_call en43 (.cons rfl (.nil)) ((fun w hw => c43 ((s.data.toList.getD ((i : Nat) : Int).toNat 0).toNat : Int) w))) (fun _ _ => ?_)
                  refine s1 rfl (q_pickf rfl rfl) ?_
                  refine s1 rfl (q_not rfl) ?_
                  refine o_end ?_
                  exact key.weaken (.cons rfl (.cons rfl (.consE rfl (congrArg Value.bool (by first | (simp only [hp4, hp10, hp13, ne_eq, not_true_eq_false, not_false_eq_true, true_or, or_true, false_or, or_false, true_and, and_true, false_and, and_false, Bool.decide_eq_true] <;> first | exact nb_dec _ | exact b_dec _ | (simp; done)) | exact nb_dec _ | exact b_dec _ | (simp; done) | (exfalso; omega))) (.nil)))) (.nil)
        · refine r_exit rfl ?_
          refine r_seq ?_
          refine r_region ?_
          refine s1 rfl (q_assign rfl) ?_
          refine o_end ?_
          refine r_ret Tryz.func14 (res1 Tryz.results14 (res_tmp (s := 2) rfl)) (fun w hw => ?_)
          exact ⟨ret_bool (isName_c hp1 (fun j hj => hI2 j (by omega))).symm, hw.kp⟩
      · exact ⟨by omega, fun j hj => by omega⟩
  · refine r_region ?_
    refine s1 rfl (q_move rfl) ?_
    refine s1 rfl (q_seql rfl rfl) ?_
    refine s1 rfl (q_move rfl) ?_
    refine g_split (s := 7) rfl (fun hp14 => ?_) (fun hp14 => ?_)
    · refine g_off rfl rfl rfl ?_
      refine g_off rfl rfl rfl ?_
      refine g_off rfl rfl rfl ?_
      refine s1 rfl (q_pickt rfl rfl) ?_
      refine s1 rfl (q_move rfl) ?_
      iterate 3 refine g_off rfl rfl rfl ?_
      refine s1 rfl (q_pickt rfl rfl) ?_
      refine o_end ?_
      exact key.weaken (.cons rfl (.consE rfl (congrArg Value.bool (decide_eq_true (Or.inl (Or.inl hp14))).symm) (.nil))) (.nil)
    · refine g_on rfl rfl ?_
      refine s1 rfl (q_move rfl) ?_
      refine g_on rfl rfl ?_
      refine s1 rfl (q_lens Tryz.underlying9 rfl) ?_
      refine g_on rfl rfl ?_
      refine s1 rfl (q_gtr rfl rfl) ?_
      refine s1 rfl (q_pickf rfl rfl) ?_
      refine s1 rfl (q_move rfl) ?_
      refine g_split (s := 12) rfl (fun hp15 => ?_) (fun hp15 => ?_)
      · refine g_off rfl rfl rfl ?_
        refine g_off rfl rfl rfl ?_
        refine g_off rfl rfl rfl ?_
        refine s1 rfl (q_pickt rfl rfl) ?_
        refine o_end ?_
        exact key.weaken (.cons rfl (.consE rfl (congrArg Value.bool (decide_eq_true (Or.inl (Or.inr hp15))).symm) (.nil))) (.nil)
      · refine g_on rfl rfl ?_
        refine s1 rfl (q_move rfl) ?_
        refine g_on rfl rfl ?_
        refine s1 rfl (q_sindex Tryz.underlying9 rfl rfl (by first | omega | (have := size_empty (s := s) (by assumption); omega) | (have := size_empty (s := s) (fun h => by simp_all); omega)) (by first | omega | (have := size_empty (s := s) (by assumption); omega) | (have := size_empty (s := s) (fun h => by simp_all); omega))) ?_
        refine g_on rfl rfl ?_
        refine sx rfl (e_call en43 (.cons rfl (.nil)) ((fun w hw => c43 ((s.data.toList.getD (0 : Int).toNat 0).toNat : Int) w))) (fun _ _ => ?_)
        refine s1 rfl (q_pickf rfl rfl) ?_
        refine o_end ?_
        exact key.weaken (.cons rfl (.consE rfl (congrArg Value.bool (by first | (simp only [hp14, hp15, ne_eq, not_true_eq_false, not_false_eq_true, true_or, or_true, false_or, or_false, true_and, and_true, false_and, and_false, Bool.decide_eq_true] <;> first | exact nb_dec _ | exact b_dec _ | (simp; done)) | exact nb_dec _ | exact b_dec _ | (simp; done) | (exfalso; omega))) (.nil))) (.nil)


theorem c8 (a b : Sl ByteArray) (w : World) (ha : ok w a) (hb : ok w b) : RetV Tryz.prog 8 #[.slice a.addr a.el.length a.cap, .slice b.addr b.el.length b.cap] w (.bool (decide (a.el = b.el))) := by
  have L0 := Sl.OK.le ha (by decide)
  refine calls_of (args := [.slice a.addr a.el.length a.cap, .slice b.addr b.el.length b.cap]) Tryz.func8 rfl Tryz.ntmps8 rfl (H := [(100, .fz (fun w => ok w a)), (101, .fz (fun w => ok w b))]) (Facts.sep (.cons (supp_ok ha) (.cons (supp_ok hb) (.nil)))) ?_
  refine r_seq ?_
  refine r_region ?_
  refine s1 rfl (q_assign rfl) ?_
  refine o_end ?_
  refine r_seq ?_
  refine r_seq ?_
  refine r_region ?_
  refine s1 rfl (q_move rfl) ?_
  refine s1 rfl (q_len Tryz.underlying23 rfl) ?_
  refine s1 rfl (q_move rfl) ?_
  refine s1 rfl (q_len Tryz.underlying23 rfl) ?_
  refine s1 rfl (q_neq rfl rfl) ?_
  refine o_end ?_
  refine r_if rfl (fun hp1 => ?_) (fun hp1 => ?_)
  · refine r_seq ?_
    refine r_region ?_
    refine s1 rfl (q_assign rfl) ?_
    refine o_end ?_
    refine r_ret Tryz.func8 (res1 Tryz.results8 (res_tmp (s := 4) rfl)) (fun w hw => ?_)
    exact ⟨ret_bool (decide_eq_false (fun h => hp1 (by rw [h]))).symm, hw.kp⟩
  · refine r_skip ?_
    refine r_seq ?_
    refine r_seq ?_
    refine r_region ?_
    refine s1 rfl (q_assign rfl) ?_
    refine o_end ?_
    refine r_block ?_
    refine r_loop ?_
    refine RunE.weaken ?_ ?_ (r_rounds (fun (i : Nat) => [(0, .slice a.addr a.el.length a.cap), (1, .slice b.addr b.el.length b.cap), (5, .int .i64 ((i : Nat) : Int))]) (fun (i : Nat) => [(100, .fz (fun w => ok w a)), (101, .fz (fun w => ok w b))]) (fun (i : Nat) => i ≤ a.el.length ∧ a.el.length = b.el.length ∧ ∀ j, j < i → nth a.el j = nth b.el j) (fun (i : Nat) => a.el.length - i) ?_ 0 ?_)
    · exact (.cons rfl (.cons rfl (.cons rfl (.nil))))
    · exact (.cons rfl (.cons rfl (.nil)))
    · intro i hI0 ih0
      obtain ⟨hI1, hI2, hI3⟩ := hI0
      refine r_seq ?_
      refine r_seq ?_
      refine r_region ?_
      refine s1 rfl (q_move rfl) ?_
      refine s1 rfl (q_move rfl) ?_
      refine s1 rfl (q_len Tryz.underlying23 rfl) ?_
      refine s1 rfl (q_lss rfl rfl) ?_
      refine o_end ?_
      refine r_if rfl (fun hp2 => ?_) (fun hp2 => ?_)
      · refine r_skip ?_
        refine r_seq ?_
        refine r_block ?_
        refine r_seq ?_
        refine r_draw [(100, .fz (fun w => ok w a)), (101, .fz (fun w => ok w b))] (by kernel_rfl) rfl (.cons rfl (.cons rfl (.nil))) ?_
        refine d1 0 rfl (by kernel_rfl) rfl rfl (q_move rfl) ?_
        refine d1 1 rfl (by kernel_rfl) rfl rfl (q_move rfl) ?_
        refine d1 2 rfl (by kernel_rfl) rfl rfl (q_indexAddr Tryz.underlying23 z9 rfl rfl rfl (by omega) (by omega) (fun w hw => Sl.OK.isSome (hw.get_fz (t := 100) rfl) (by decide) (i := i) (by omega))) ?_
        refine d1 3 rfl (by kernel_rfl) rfl rfl (q_load ag9 rfl (fun w hw => Sl.OK.cell0 (hw.get_fz (t := 100) rfl) (i := i) (by omega) rfl)) ?_
        refine d1 4 rfl (by kernel_rfl) rfl rfl (q_move rfl) ?_
        refine d1 5 rfl (by kernel_rfl) rfl rfl (q_move rfl) ?_
        refine d1 6 rfl (by kernel_rfl) rfl rfl (q_indexAddr Tryz.underlying23 z9 rfl rfl rfl (by omega) (by omega) (fun w hw => Sl.OK.isSome (hw.get_fz (t := 101) rfl) (by decide) (i := i) (by omega))) ?_
        refine d1 7 rfl (by kernel_rfl) rfl rfl (q_load ag9 rfl (fun w hw => Sl.OK.cell0 (hw.get_fz (t := 101) rfl) (i := i) (by omega) rfl)) ?_
        refine d1 8 rfl (by kernel_rfl) rfl rfl (q_sneq rfl rfl) ?_
        refine d_end (by kernel_rfl) ?_
        refine r_if rfl (fun hp3 => ?_) (fun hp3 => ?_)
        · refine r_seq ?_
          refine r_region ?_
          refine s1 rfl (q_assign rfl) ?_
          refine o_end ?_
          refine r_ret Tryz.func8 (res1 Tryz.results8 (res_tmp (s := 4) rfl)) (fun w hw => ?_)
          exact ⟨ret_bool (decide_eq_false (fun h => hp3 (by rw [h]))).symm, hw.kp⟩
        · refine r_skip ?_
          refine r_inBlock ?_
          refine r_region ?_
          refine s1 rfl (q_move rfl) ?_
          refine s1 rfl (q_add rfl rfl (by omega)) ?_
          refine s1 rfl (q_assign rfl) ?_
          refine o_end ?_
          refine r_inLoop ?_
          refine RunE.weaken ?_ ?_ (ih0 (i + 1) ?_ ?_)
          · exact (.cons rfl (.cons rfl (.cons rfl (.nil))))
          · exact (.cons rfl (.cons rfl (.nil)))
          · exact ⟨by omega, hI2, fun j hj => by rcases Nat.lt_succ_iff_lt_or_eq.1 hj with h | rfl; exact hI3 j h; exact Decidable.not_not.1 hp3⟩
          · omega
      · refine r_exit rfl ?_
        refine r_seq ?_
        refine r_region ?_
        refine s1 rfl (q_assign rfl) ?_
        refine o_end ?_
        refine r_ret Tryz.func8 (res1 Tryz.results8 (res_tmp (s := 4) rfl)) (fun w hw => ?_)
        exact ⟨ret_bool (decide_eq_true (ext_nth hI2 (fun j hj => hI3 j (by omega)))).symm, hw.kp⟩
    · exact ⟨by omega, by omega, fun j hj => by omega⟩

end Go.Proofs.YtecibcjckinngaaGreatDoor
/- The contracts of the library's functions, off the kit's shelf, in this proof's own words. -/
set_option linter.unusedVariables false
namespace Go.Proofs.YtecibcjckinngaaGreatDoor
open Go Go.RowKit Enc
/-- The library's tables lie where they are laid. -/
structure Tabs (w : World) : Prop where
  len : ∃ m : Int, w.cell? ⟨0, 0, none⟩ = some (.int .i64 m)
  esyn : ∃ te pe, w.cell? ⟨1, 0, none⟩ = some (.iface te pe)
  eran : ∃ te pe, w.cell? ⟨2, 0, none⟩ = some (.iface te pe)
  pow : Lib.TabIs Tryz.prog w "internal/strconv.uint64pow10" .u64 Lib.pow10Tab
def dot : ByteArray := ⟨#[46]⟩
def sp : ByteArray := ⟨#[32]⟩
theorem Tabs.keep {w w' : World} (h : Tabs w) (hk : ∀ b, b < w.heap.size → w'.heap[b]? = w.heap[b]?) : Tabs w' := by
  have hc := cell_keep hk
  obtain ⟨⟨m, h1⟩, ⟨a, b, h2⟩, ⟨a', b', h3⟩, h4⟩ := h
  refine ⟨⟨m, hc _ _ h1⟩, ⟨a, b, hc _ _ h2⟩, ⟨a', b', hc _ _ h3⟩, ?_⟩
  unfold Lib.TabIs World.var? at h4 ⊢
  cases hg : Tryz.prog.globalNamed "internal/strconv.uint64pow10" with
  | none => rw [hg] at h4; simp at h4
  | some g =>
    rw [hg] at h4
    simp only [Option.bind_some] at h4 ⊢
    have hlt : g < w.heap.size := by
      rcases Nat.lt_or_ge g w.heap.size with h' | h'
      · exact h'
      · rw [Array.getElem?_eq_none h'] at h4; simp at h4
    rw [hk g hlt]
    exact h4
theorem supp_tabs {w : World} (h : Tabs w) : Supp (· < w.heap.size) w (fun w => Tabs w) := fun w' h' => h.keep h'
/-- The text consists of names with full stops between them. -/
def dottedB (s : ByteArray) : Bool := decide (((s.size : Nat) : Int) ≤ 60) && !(Lib.splitB dot 0 (Lib.countB s dot) s).any (fun t => !isNameB t)
theorem dotted_eq (s : ByteArray) : decide (((s.size : Nat) : Int) ≤ 60 ∧ ¬ (Lib.splitB dot 0 (Lib.countB s dot) s).any (fun t => !isNameB t) = true) = dottedB s := by
  unfold dottedB
  rw [Bool.decide_and]
  cases (Lib.splitB dot 0 (Lib.countB s dot) s).any (fun t => !isNameB t) <;> simp
theorem encs_strings (l : List ByteArray) : encs l = l.map Value.string := by
  induction l with
  | nil => rfl
  | cons x xs ih => simp only [encs, List.map_cons, List.flatten_cons] at ih ⊢; rw [ih]; rfl
theorem splitB_len (s : ByteArray) : (Lib.splitB dot 0 (Lib.countB s dot) s).length = Lib.countB s dot + 1 := Lib.splitB_all dot (by decide) 0 _ s rfl
theorem splitB_size (sep : ByteArray) : ∀ (k : Nat) (s : ByteArray), ∀ x ∈ Lib.splitB sep 0 k s, x.size ≤ s.size
  | 0, s, x, hx => by simp [Lib.splitB] at hx; subst hx; exact Nat.le_refl _
  | k + 1, s, x, hx => by
    unfold Lib.splitB at hx
    split at hx
    · simp at hx; subst hx; exact Nat.le_refl _
    · rcases List.mem_cons.1 hx with rfl | hx
      · simp [ByteArray.size_extract]; omega
      · have := splitB_size sep k _ x hx
        simp [ByteArray.size_extract] at this
        omega
theorem sep0 (w : World) : Sep (· < w.heap.size) w [] w := Sep.start (fun t e h => by simp [Hp.get] at h)
theorem c73 (s : ByteArray) (w : World) (hs : s.size ≤ 1048576) (hT : Tabs w) : RetRow Tryz.prog 73 #[.string s, .string dot] w 9 (Lib.splitB dot 0 (Lib.countB s dot) s) := by
  intro tg
  obtain ⟨m, hm⟩ := hT.len
  refine (Tryz.strings_Split s dot m w (by omega) hm (by decide)).mono ?_
  rintro e w' ⟨rfl, rfl⟩
  refine ⟨(some ⟨w.heap.size, 0, none⟩, Lib.countB s dot + 1), trivial, by rw [splitB_len], ?_⟩
  have hc := Lib.countB_le dot (by decide) _ s (Nat.le_refl _)
  have h1 := (sep0 w).allocRow tg ((Lib.splitB dot 0 (Lib.countB s dot) s).map Value.string).toArray 9 1 (Lib.countB s dot + 1) (Lib.countB s dot + 1) (encs (Lib.splitB dot 0 (Lib.countB s dot) s)) (by simp [splitB_len]) (Nat.le_refl _) (by simp only [maxLen]; omega) (by rw [encs_length, splitB_len]; rfl) (by rw [encs_strings, List.take_of_length_le]; simp [splitB_len])
  simpa [splitB_len, sz] using h1
/-- At most four pieces. -/
def split4 (s : ByteArray) : List ByteArray := Lib.splitB sp 0 (min 4 (s.size + 1) - 1) s
theorem split4_len (s : ByteArray) : (split4 s).length ≤ min 4 (s.size + 1) := by
  have := Lib.splitB_length_le sp 0 (min 4 (s.size + 1) - 1) s
  unfold split4
  omega
theorem c34 (s : ByteArray) (w : World) (hs : s.size ≤ 1048576) (hT : Tabs w) : RetRow Tryz.prog 34 #[.string s, .string sp, .int .i64 4] w 9 (split4 s) := by
  intro tg
  obtain ⟨m, hm⟩ := hT.len
  refine (Tryz.strings_SplitN s sp 4 m w (by omega) hm (by decide) (by decide) (by decide)).mono ?_
  rintro e w' ⟨rfl, rfl⟩
  refine ⟨(some ⟨w.heap.size, 0, none⟩, min 4 (s.size + 1)), trivial, rfl, ?_⟩
  have hl := split4_len s
  have h1 := (sep0 w).allocRow tg (Lib.cellsOf (split4 s) (min 4 (s.size + 1))) 9 1 (split4 s).length (min 4 (s.size + 1)) (encs (split4 s)) (by rw [Lib.cellsOf_size hl]; omega) hl (by simp only [maxLen]; omega) (by rw [encs_length]; rfl) (by
    rw [encs_strings, Nat.mul_one]
    simp [Lib.cellsOf])
  simpa [sz, split4] using h1
theorem drew_kp {K : Nat → Prop} (w : World) : ∀ n, Kp K w (w.drewN n)
  | 0 => Kp.refl K w
  | n + 1 => (drew_kp w n).trans ⟨rfl, rfl, rfl, Nat.le_refl _, fun _ _ => rfl⟩
def itoaB (n : Int) : ByteArray := ⟨(Lib.itoa n).toArray⟩
theorem c59 (n : Int) (w : World) (hn : -9223372036854775808 ≤ n ∧ n ≤ 9223372036854775807) (hT : Tabs w) : RetV Tryz.prog 59 #[.int .i64 n] w (.string (itoaB n)) := by
  refine (Tryz.strconv_Itoa n hn.1 hn.2 w hT.pow).mono ?_
  rintro e w' ⟨rfl, k, os, rfl⟩
  have hd := drew_kp (K := fun _ => True) w k
  refine ⟨rfl, hd.os, hd.tape, hd.output, ?_, fun b hb => ?_⟩
  · have := hd.size
    simp only [Go.Sort.grow, Array.size_append]; omega
  · have h1 := hd.block b trivial
    have h2 := hd.size
    simp only [Go.Sort.grow]
    rw [Array.getElem?_append_left (by omega)]
    exact h1
theorem c40 (s p : ByteArray) (w : World) : RetV Tryz.prog 40 #[.string s, .string p] w (.bool (Lib.hasPrefix s.data.toList p.data.toList)) := by
  refine (Tryz.strings_HasPrefix s p w).mono ?_
  rintro e w' ⟨rfl, rfl⟩
  exact ⟨rfl, Kp.refl _ _⟩
/-- What stands ahead of the first space, what behind it, and whether there is one. -/
def cut1 (s : ByteArray) : ByteArray := ⟨(Lib.cut s.data.toList sp.data.toList).1.toArray⟩
def cut2 (s : ByteArray) : ByteArray := ⟨(Lib.cut s.data.toList sp.data.toList).2.1.toArray⟩
def cut3 (s : ByteArray) : Bool := (Lib.cut s.data.toList sp.data.toList).2.2
theorem c30 (s : ByteArray) (w : World) (hs : s.size ≤ 1048576) (hT : Tabs w) : RetV Tryz.prog 30 #[.string s, .string sp] w (.tuple #[.string (cut1 s), .string (cut2 s), .bool (cut3 s)]) := by
  obtain ⟨m, hm⟩ := hT.len
  refine (Tryz.strings_Cut s sp m w (by omega) hm).mono ?_
  rintro e w' ⟨rfl, n, rfl⟩
  exact ⟨rfl, drew_kp w n⟩
def joinB (l : List ByteArray) (sep : ByteArray) : ByteArray := ⟨(Lib.join (l.map (·.data.toList)) sep.data.toList).toArray⟩
theorem c38 (l : Sl ByteArray) (sep : ByteArray) (w : World) (hl : ok w l) (hp : 0 < l.el.length) (hs : ∀ a, l.addr = some a → a.spot = none) (hlen : (joinB l.el sep).size ≤ 140737488355328) : RetV Tryz.prog 38 #[.slice l.addr l.el.length l.cap, .string sep] w (.string (joinB l.el sep)) := by
  obtain ⟨a, ha⟩ := Option.isSome_iff_exists.1 (Sl.OK.isSome hl (by decide) (i := 0) hp)
  have hsp := hs a ha
  obtain ⟨b, o, sp0⟩ := a
  simp only at hsp
  subst hsp
  have hok := (show Sl.OK w l from hl)
  have hc : ∀ (j : Nat) x, l.el[j]? = some x → w.cell? ⟨b, o + j, none⟩ = some (.string x) := fun j x hx => by
    obtain ⟨ad, h1, h2⟩ := hok.sh j (.string x) (by rw [encs_strings, List.getElem?_map, hx]; rfl)
    rw [ha] at h1
    cases h1
    rwa [addn] at h2
  have hb : b < w.heap.size := by
    have := hc 0 (l.el[0]) (by simp [hp])
    exact World.block_lt_of_cell? w _ this
  have hj : l.el.length ≤ 140737488355328 := Sl.OK.le hl (by decide)
  rw [ha]
  refine (Tryz.strings_Join b o l.cap l.el sep w hc hb hj hok.lc (by simpa [joinB, ByteArray.size] using hlen)).mono ?_
  rintro e w' ⟨rfl, hw⟩
  exact ⟨rfl, Kp.of_below hw⟩
end Go.Proofs.YtecibcjckinngaaGreatDoor
/- What the reference's functions on texts compute, as plain functions on the data. -/
set_option linter.unusedVariables false
namespace Go.Proofs.YtecibcjckinngaaGreatDoor
open Go Enc
def isCut (s : ByteArray) (c : Int) (i : Nat) : Prop := (((i : Nat) : Int) = ((s.size : Nat) : Int)) ∨ (((s.data.toList.getD ((i : Nat) : Int).toNat 0).toNat : Int) = c)
instance (s : ByteArray) (c : Int) (i : Nat) : Decidable (isCut s c i) := by unfold isCut; infer_instance
/-- The pieces after i rounds, and where the next one begins. -/
def spl (s : ByteArray) (c : Int) : Nat → List ByteArray × Nat
  | 0 => ([], 0)
  | i + 1 => if isCut s c i then ((spl s c i).1 ++ [s.extract (spl s c i).2 i], i + 1) else spl s c i
theorem spl_y1 {s : ByteArray} {c : Int} {i : Nat} (h : isCut s c i) : (spl s c i).1 ++ [s.extract (spl s c i).2 i] = (spl s c (i + 1)).1 := by simp only [spl, if_pos h]
theorem spl_y2 {s : ByteArray} {c : Int} {i : Nat} (h : isCut s c i) : ((i : Nat) : Int) + 1 = (((spl s c (i + 1)).2 : Nat) : Int) := by simp only [spl, if_pos h]; omega
theorem spl_n {s : ByteArray} {c : Int} {i : Nat} (h : ¬ isCut s c i) : spl s c i = spl s c (i + 1) := by simp only [spl, if_neg h]
theorem spl_le {s : ByteArray} {c : Int} : ∀ i, (spl s c i).2 ≤ i ∧ (spl s c i).1.length ≤ i
  | 0 => ⟨Nat.le_refl _, Nat.le_refl _⟩
  | i + 1 => by
    have ih := spl_le (s := s) (c := c) i
    by_cases h : isCut s c i
    · simp only [spl, if_pos h, List.length_append, List.length_cons, List.length_nil]; omega
    · simp only [spl, if_neg h]; omega
/-- Divided at each occurrence of a byte. -/
def splR (s : ByteArray) (c : Int) : List ByteArray := (spl s c (s.size + 1)).1
theorem spl_size {s : ByteArray} {c : Int} : ∀ i, ∀ x ∈ (spl s c i).1, x.size ≤ s.size
  | 0, x, hx => by simp [spl] at hx
  | i + 1, x, hx => by
    by_cases h : isCut s c i
    · simp only [spl, if_pos h, List.mem_append, List.mem_singleton] at hx
      rcases hx with hx | rfl
      · exact spl_size i x hx
      · simp [ByteArray.size_extract]; omega
    · simp only [spl, if_neg h] at hx
      exact spl_size i x hx
/-- Each piece is a name. -/
def dottedR (s : ByteArray) : Bool := (splR s 46).all isNameB && decide (((s.size : Nat) : Int) ≤ 60)
/-- Joined with a text between two of them. -/
def joinN (l : List ByteArray) (b : ByteArray) : Nat → ByteArray
  | 0 => ⟨#[]⟩
  | i + 1 => (if 0 < i then joinN l b i ++ b else joinN l b i) ++ nth l i
theorem dottedR_a {s : ByteArray} {i : Nat} (hi : i < (splR s 46).length) (h : isNameB (nth (splR s 46) i) = false) : dottedR s = false := by rw [dottedR, all_no hi h]; rfl
theorem dottedR_b {s : ByteArray} (h : ∀ j, j < (splR s 46).length → isNameB (nth (splR s 46) j) = true) : decide (((s.size : Nat) : Int) ≤ 60) = dottedR s := by rw [dottedR, all_yes h, Bool.true_and]
theorem splR_len (s : ByteArray) (c : Int) : (splR s c).length ≤ s.size + 1 := (spl_le _).2
theorem splR_size {s : ByteArray} {c : Int} : ∀ x ∈ splR s c, x.size ≤ s.size := spl_size _
/-- The text of the first variable with a name, and whether there is one. -/
def varOf : List LocM → ByteArray → ByteArray × Bool
  | [], _ => (⟨#[]⟩, false)
  | v :: l, n => if v.name = n then (v.text, true) else varOf l n
theorem varOf_at {n : ByteArray} : ∀ (l : List LocM) (i : Nat), (∀ j, j < i → (nth l j).name ≠ n) → i < l.length → (nth l i).name = n → varOf l n = ((nth l i).text, true)
  | [], i, _, hi, _ => by simp at hi
  | v :: l, 0, _, _, h => by simp only [nth, List.getD_cons_zero] at h ⊢; rw [varOf, if_pos h]
  | v :: l, i + 1, hb, hi, h => by
    have h0 := hb 0 (by omega)
    simp only [nth, List.getD_cons_zero] at h0
    have := varOf_at l i (fun j hj => by have := hb (j + 1) (by omega); simpa only [nth, List.getD_cons_succ] using this) (by simpa using hi) (by simpa only [nth, List.getD_cons_succ] using h)
    rw [varOf, if_neg h0, this]
    simp only [nth, List.getD_cons_succ]
theorem varOf_none {n : ByteArray} : ∀ (l : List LocM), (∀ j, j < l.length → (nth l j).name ≠ n) → varOf l n = (⟨#[]⟩, false)
  | [], _ => rfl
  | v :: l, hb => by
    have h0 := hb 0 (by simp)
    simp only [nth, List.getD_cons_zero] at h0
    rw [varOf, if_neg h0, varOf_none l (fun j hj => by have := hb (j + 1) (by simpa using hj); simpa only [nth, List.getD_cons_succ] using this)]
theorem ret_var {f g : ByteArray × Bool} (h : f = g) : Ending.returned (.tuple #[.string f.1, .bool f.2]) = Ending.returned (.tuple #[.string g.1, .bool g.2]) := by rw [h]
/-! ### Decimal numerals -/
theorem tq_pos {n : Int} (h : 0 ≤ n) : n.tdiv 10 = n / 10 ∧ n.tmod 10 = n % 10 := ⟨Int.tdiv_eq_ediv_of_nonneg h, Int.tmod_eq_emod_of_nonneg h⟩
theorem tq_neg {n : Int} (h : n < 0) : n.tdiv 10 = -((-n) / 10) ∧ n.tmod 10 = -((-n) % 10) := by
  have h1 := tq_pos (n := -n) (by omega)
  rw [Int.neg_tdiv, Int.neg_tmod] at h1
  omega
theorem itoaB_size {n : Int} (h : -9223372036854775808 ≤ n ∧ n ≤ 9223372036854775807) : (itoaB n).size ≤ 21 := by
  have := Lib.itoa_length_le n h.1 h.2
  simpa [itoaB, ByteArray.size] using this
theorem bytes_app (a b : List UInt8) : (⟨(a ++ b).toArray⟩ : ByteArray) = ⟨a.toArray⟩ ++ ⟨b.toArray⟩ := by
  apply ByteArray.ext
  simp
theorem itoaB_pos {u : Nat} : itoaB (u : Int) = ⟨(Lib.decDigits u).toArray⟩ := by rw [itoaB, Lib.itoa_nonneg]
theorem itoaB_neg {u : Nat} (h : 1 ≤ u) : itoaB (-(u : Int)) = ⟨(45 :: Lib.decDigits u).toArray⟩ := by rw [itoaB, Lib.itoa_neg u h]
theorem enc_digit {c : Nat} (h : c < 80) : Utf8.encode (48 + (c : Int)) = ⟨#[UInt8.ofNat (48 + c)]⟩ := by
  rw [encode_ascii (by omega)]
  have : (48 + (c : Int)).toNat = 48 + c := by omega
  rw [this]
theorem dd_big {u : Nat} (h : ¬ u < 10) : Lib.decDigits u = Lib.decDigits (u / 10) ++ [UInt8.ofNat (48 + u % 10)] := by rw [Lib.decDigits, dif_neg h]
theorem dec_small {n : Int} (h0 : 0 ≤ n) (h1 : n < 10) : Utf8.encode (48 + n) = itoaB n := by
  obtain ⟨u, rfl⟩ := Int.eq_ofNat_of_zero_le h0
  rw [itoaB_pos, Lib.decDigits_one (by omega), enc_digit (by omega)]
theorem dec_big {n : Int} (h : 10 ≤ n) : itoaB (n.tdiv 10) ++ Utf8.encode (48 + n.tmod 10) = itoaB n := by
  obtain ⟨u, rfl⟩ := Int.eq_ofNat_of_zero_le (show 0 ≤ n by omega)
  have ht := tq_pos (n := (u : Int)) (by omega)
  rw [ht.1, ht.2, show ((u : Int) / 10) = ((u / 10 : Nat) : Int) from by omega, show ((u : Int) % 10) = ((u % 10 : Nat) : Int) from by omega]
  rw [itoaB_pos, itoaB_pos, enc_digit (by omega), dd_big (u := u) (by omega), bytes_app]
theorem dec_nsmall {n : Int} (h0 : n < 0) (h1 : ¬ n < -9) : (⟨#[45]⟩ : ByteArray) ++ Utf8.encode (48 - n) = itoaB n := by
  obtain ⟨u, hu⟩ := Int.eq_ofNat_of_zero_le (show 0 ≤ -n by omega)
  obtain rfl : n = -(u : Int) := by omega
  rw [itoaB_neg (by omega), Lib.decDigits_one (by omega), show 48 - -(u : Int) = 48 + (u : Int) from by omega, enc_digit (by omega)]
  exact (bytes_app [45] [UInt8.ofNat (48 + u)]).symm
theorem dec_nbig {n : Int} (h : n < -9) : ((⟨#[45]⟩ : ByteArray) ++ itoaB (-(n.tdiv 10))) ++ Utf8.encode (48 - n.tmod 10) = itoaB n := by
  obtain ⟨u, hu⟩ := Int.eq_ofNat_of_zero_le (show 0 ≤ -n by omega)
  obtain rfl : n = -(u : Int) := by omega
  have ht := tq_neg (n := -(u : Int)) (by omega)
  rw [ht.1, ht.2, show -(-(- -(u : Int) / 10)) = ((u / 10 : Nat) : Int) from by omega, show 48 - -(- -(u : Int) % 10) = 48 + ((u % 10 : Nat) : Int) from by omega]
  rw [itoaB_pos, itoaB_neg (by omega), enc_digit (by omega), dd_big (u := u) (by omega)]
  have h1 := bytes_app (45 :: Lib.decDigits (u / 10)) [UInt8.ofNat (48 + u % 10)]
  have h2 := bytes_app [45] (Lib.decDigits (u / 10))
  simp only [List.cons_append, List.nil_append] at h1 h2
  rw [h1, h2]
theorem ret_str {a b : ByteArray} (h : a = b) : Ending.returned (.string a) = Ending.returned (.string b) := by rw [h]
/-- The text of a place. -/
def placeB (q : PlcM) : ByteArray := ((((q.mod ++ (⟨#[58]⟩ : ByteArray)) ++ itoaB q.line) ++ (⟨#[32]⟩ : ByteArray)) ++ q.fn)
end Go.Proofs.YtecibcjckinngaaGreatDoor
/- Walks over package slices, dotted names, Split and Join. -/
set_option linter.unusedVariables false
namespace Go.Proofs.YtecibcjckinngaaGreatDoor
open Go Go.RowKit Enc
attribute [local irreducible] Effect OpsE RunE AnyE AnyAt Quiet Res1


theorem c88 (l : Sl ByteArray) (m : FuncId) (cap : List Value) (p : ByteArray → Bool) (w : World) (hl : ok w l) (hen : Enters Tryz.prog m) (hcl : ∀ x ∈ l.el, ∀ w', Grew w w' → RetV Tryz.prog m ([.string x] ++ cap : List Value).toArray w' (.bool (p x))) : RetV Tryz.prog 88 #[.slice l.addr l.el.length l.cap, .func (.func m) #[] cap.toArray] w (.int .i64 (idxOf p l.el)) := by
  have L0 := Sl.OK.le hl (by decide)
  refine calls_of (args := [.slice l.addr l.el.length l.cap, .func (.func m) #[] cap.toArray]) Tryz.func88 rfl Tryz.ntmps88 rfl (H := [(100, .fz (fun w => ok w l))]) (Facts.sep (.cons (supp_ok hl) (.nil))) ?_
  refine r_seq ?_
  refine r_region ?_
  refine s1 rfl (q_assign rfl) ?_
  refine o_end ?_
  refine r_seq ?_
  refine r_seq ?_
  refine r_region ?_
  refine s1 rfl (q_move rfl) ?_
  refine s1 rfl (q_len Tryz.underlying23 rfl) ?_
  refine s1 rfl (q_move rfl) ?_
  refine o_end ?_
  refine r_block ?_
  refine r_loop ?_
  refine RunE.weaken ?_ ?_ (r_rounds (fun (i : Nat) => [(0, .slice l.addr l.el.length l.cap), (1, .func (.func m) #[] cap.toArray), (7, .int .i64 ((l.el.length : Nat) : Int)), (8, .int .i64 ((i : Nat) : Int))]) (fun (i : Nat) => [(100, .fz (fun w => ok w l))]) (fun (i : Nat) => i ≤ l.el.length ∧ ∀ j, j < i → p (nth l.el j) = false) (fun (i : Nat) => l.el.length - i) ?_ 0 ?_)
  · exact (.cons rfl (.cons rfl (.cons rfl (.cons rfl (.nil)))))
  · exact (.cons rfl (.nil))
  · intro i hI0 ih0
    obtain ⟨hI1, hI2⟩ := hI0
    refine r_seq ?_
    refine r_region ?_
    refine s1 rfl (q_lss rfl rfl) ?_
    refine o_end ?_
    refine r_seq ?_
    refine r_if rfl (fun hp1 => ?_) (fun hp1 => ?_)
    · refine r_skip ?_
      refine r_seq ?_
      refine r_block ?_
      refine r_seq ?_
      refine r_region ?_
      refine s1 rfl (q_move rfl) ?_
      refine s1 rfl (q_assign rfl) ?_
      refine o_end ?_
      refine r_seq ?_
      refine r_region ?_
      iterate 3 refine s1 rfl (q_move rfl) ?_
      refine s1 rfl (q_indexAddr Tryz.underlying23 z9 rfl rfl rfl (by omega) (by omega) (fun w hw => Sl.OK.isSome (hw.get_fz (t := 100) rfl) (by decide) (i := i) (by omega))) ?_
      refine s1 rfl (q_load ag9 rfl (fun w hw => Sl.OK.cell0 (hw.get_fz (t := 100) rfl) (i := i) (by omega) rfl)) ?_
      refine sx rfl (e_callf (cap := cap) hen rfl (.cons rfl (.nil)) ((fun w hw => hcl _ (nth_mem (by omega)) w hw.kp))) (fun _ _ => ?_)
      refine o_end ?_
      refine r_ifb rfl (fun hp2 => ?_) (fun hp2 => ?_)
      · refine r_seq ?_
        refine r_region ?_
        refine s1 rfl (q_move rfl) ?_
        refine s1 rfl (q_assign rfl) ?_
        refine o_end ?_
        refine r_ret Tryz.func88 (res1 Tryz.results88 (res_tmp (s := 4) rfl)) (fun w hw => ?_)
        exact ⟨ret_int (idxOf_at (p := p) l.el i hI2 (by omega) hp2).symm, hw.kp⟩
      · refine r_skip ?_
        refine r_inBlock ?_
        refine r_region ?_
        refine s1 rfl (q_add rfl rfl (by omega)) ?_
        refine s1 rfl (q_move rfl) ?_
        refine o_end ?_
        refine r_inLoop ?_
        refine RunE.weaken ?_ ?_ (ih0 (i + 1) ?_ ?_)
        · exact (.cons rfl (.cons rfl (.cons rfl (.cons rfl (.nil)))))
        · exact (.cons rfl (.nil))
        · exact ⟨by omega, fun j hj => by rcases Nat.lt_succ_iff_lt_or_eq.1 hj with h | rfl; exact hI2 j h; exact hp2⟩
        · omega
    · refine r_exit rfl ?_
      refine r_seq ?_
      refine r_region ?_
      refine s1 rfl (q_assign rfl) ?_
      refine o_end ?_
      refine r_ret Tryz.func88 (res1 Tryz.results88 (res_tmp (s := 4) rfl)) (fun w hw => ?_)
      exact ⟨ret_int (idxOf_none (p := p) l.el (fun j hj => hI2 j (by omega))).symm, hw.kp⟩
  · exact ⟨by omega, fun j hj => by omega⟩


theorem c72 (l : Sl ByteArray) (m : FuncId) (cap : List Value) (p : ByteArray → Bool) (w : World) (hl : ok w l) (hen : Enters Tryz.prog m) (hcl : ∀ x ∈ l.el, ∀ w', Grew w w' → RetV Tryz.prog m ([.string x] ++ cap : List Value).toArray w' (.bool (p x))) : RetV Tryz.prog 72 #[.slice l.addr l.el.length l.cap, .func (.func m) #[] cap.toArray] w (.bool (l.el.any p)) := by
  refine calls_of (args := [.slice l.addr l.el.length l.cap, .func (.func m) #[] cap.toArray]) Tryz.func72 rfl Tryz.ntmps72 rfl (H := [(100, .fz (fun w => ok w l))]) (Facts.sep (.cons (supp_ok hl) (.nil))) ?_
  refine r_seq ?_
  refine r_region ?_
  refine s1 rfl (q_assign rfl) ?_
  refine o_end ?_
  refine r_seq ?_
  refine r_region ?_
  refine s1 rfl (q_move rfl) ?_
  refine s1 rfl (q_move rfl) ?_
  refine sx rfl (e_call en88 (.cons rfl (.cons rfl (.nil))) ((fun w hw => c88 l m cap p w (hw.get_fz (t := 100) rfl) hen (fun x hx w' hw' => hcl x hx w' (Kp.trans hw.kp (hw'.mono (fun i hi => Nat.lt_of_lt_of_le hi hw.kp.size))))))) (fun _ _ => ?_)
  refine s1 rfl (q_geq rfl rfl) ?_
  refine s1 rfl (q_assign rfl) ?_
  refine o_end ?_
  refine r_ret Tryz.func72 (res1 Tryz.results72 (res_tmp (s := 4) rfl)) (fun w hw => ?_)
  exact ⟨ret_bool (idxOf_any _), hw.kp⟩


theorem c93 (l : Sl BrkM) (m : FuncId) (cap : List Value) (p : BrkM → Bool) (w : World) (hl : ok w l) (hen : Enters Tryz.prog m) (hcl : ∀ x ∈ l.el, ∀ w', Grew w w' → RetV Tryz.prog m ([.agg (enc x).toArray] ++ cap : List Value).toArray w' (.bool (p x))) : RetV Tryz.prog 93 #[.slice l.addr l.el.length l.cap, .func (.func m) #[] cap.toArray] w (.int .i64 (idxOf p l.el)) := by
  have L0 := Sl.OK.le hl (by decide)
  refine calls_of (args := [.slice l.addr l.el.length l.cap, .func (.func m) #[] cap.toArray]) Tryz.func93 rfl Tryz.ntmps93 rfl (H := [(100, .fz (fun w => ok w l))]) (Facts.sep (.cons (supp_ok hl) (.nil))) ?_
  refine r_seq ?_
  refine r_region ?_
  refine s1 rfl (q_assign rfl) ?_
  refine o_end ?_
  refine r_seq ?_
  refine r_seq ?_
  refine r_region ?_
  refine s1 rfl (q_move rfl) ?_
  refine s1 rfl (q_len Tryz.underlying35 rfl) ?_
  refine s1 rfl (q_move rfl) ?_
  refine o_end ?_
  refine r_block ?_
  refine r_loop ?_
  refine RunE.weaken ?_ ?_ (r_rounds (fun (i : Nat) => [(0, .slice l.addr l.el.length l.cap), (1, .func (.func m) #[] cap.toArray), (7, .int .i64 ((l.el.length : Nat) : Int)), (8, .int .i64 ((i : Nat) : Int))]) (fun (i : Nat) => [(100, .fz (fun w => ok w l))]) (fun (i : Nat) => i ≤ l.el.length ∧ ∀ j, j < i → p (nth l.el j) = false) (fun (i : Nat) => l.el.length - i) ?_ 0 ?_)
  · exact (.cons rfl (.cons rfl (.cons rfl (.cons rfl (.nil)))))
  · exact (.cons rfl (.nil))
  · intro i hI0 ih0
    obtain ⟨hI1, hI2⟩ := hI0
    refine r_seq ?_
    refine r_region ?_
    refine s1 rfl (q_lss rfl rfl) ?_
    refine o_end ?_
    refine r_seq ?_
    refine r_if rfl (fun hp1 => ?_) (fun hp1 => ?_)
    · refine r_skip ?_
      refine r_seq ?_
      refine r_block ?_
      refine r_seq ?_
      refine r_region ?_
      refine s1 rfl (q_move rfl) ?_
      refine s1 rfl (q_assign rfl) ?_
      refine o_end ?_
      refine r_seq ?_
      refine r_region ?_
      iterate 3 refine s1 rfl (q_move rfl) ?_
      refine s1 rfl (q_indexAddr Tryz.underlying35 z64 rfl rfl rfl (by omega) (by omega) (fun w hw => Sl.OK.isSome (hw.get_fz (t := 100) rfl) (by decide) (i := i) (by omega))) ?_
      refine s1 rfl (q_loads (cs := enc (nth l.el i)) ag64 z64 rfl rfl (fun w hw => Sl.OK.cells (hw.get_fz (t := 100) rfl) (i := i) (by omega))) ?_
      refine sx rfl (e_callf (cap := cap) hen rfl (.cons rfl (.nil)) ((fun w hw => hcl _ (nth_mem (by omega)) w hw.kp))) (fun _ _ => ?_)
      refine o_end ?_
      refine r_ifb rfl (fun hp2 => ?_) (fun hp2 => ?_)
      · refine r_seq ?_
        refine r_region ?_
        refine s1 rfl (q_move rfl) ?_
        refine s1 rfl (q_assign rfl) ?_
        refine o_end ?_
        refine r_ret Tryz.func93 (res1 Tryz.results93 (res_tmp (s := 4) rfl)) (fun w hw => ?_)
        exact ⟨ret_int (idxOf_at (p := p) l.el i hI2 (by omega) hp2).symm, hw.kp⟩
      · refine r_skip ?_
        refine r_inBlock ?_
        refine r_region ?_
        refine s1 rfl (q_add rfl rfl (by omega)) ?_
        refine s1 rfl (q_move rfl) ?_
        refine o_end ?_
        refine r_inLoop ?_
        refine RunE.weaken ?_ ?_ (ih0 (i + 1) ?_ ?_)
        · exact (.cons rfl (.cons rfl (.cons rfl (.cons rfl (.nil)))))
        · exact (.cons rfl (.nil))
        · exact ⟨by omega, fun j hj => by rcases Nat.lt_succ_iff_lt_or_eq.1 hj with h | rfl; exact hI2 j h; exact hp2⟩
        · omega
    · refine r_exit rfl ?_
      refine r_seq ?_
      refine r_region ?_
      refine s1 rfl (q_assign rfl) ?_
      refine o_end ?_
      refine r_ret Tryz.func93 (res1 Tryz.results93 (res_tmp (s := 4) rfl)) (fun w hw => ?_)
      exact ⟨ret_int (idxOf_none (p := p) l.el (fun j hj => hI2 j (by omega))).symm, hw.kp⟩
  · exact ⟨by omega, fun j hj => by omega⟩


theorem c76 (l : Sl BrkM) (m : FuncId) (cap : List Value) (p : BrkM → Bool) (w : World) (hl : ok w l) (hen : Enters Tryz.prog m) (hcl : ∀ x ∈ l.el, ∀ w', Grew w w' → RetV Tryz.prog m ([.agg (enc x).toArray] ++ cap : List Value).toArray w' (.bool (p x))) : RetV Tryz.prog 76 #[.slice l.addr l.el.length l.cap, .func (.func m) #[] cap.toArray] w (.bool (l.el.any p)) := by
  refine calls_of (args := [.slice l.addr l.el.length l.cap, .func (.func m) #[] cap.toArray]) Tryz.func76 rfl Tryz.ntmps76 rfl (H := [(100, .fz (fun w => ok w l))]) (Facts.sep (.cons (supp_ok hl) (.nil))) ?_
  refine r_seq ?_
  refine r_region ?_
  refine s1 rfl (q_assign rfl) ?_
  refine o_end ?_
  refine r_seq ?_
  refine r_region ?_
  refine s1 rfl (q_move rfl) ?_
  refine s1 rfl (q_move rfl) ?_
  refine sx rfl (e_call en93 (.cons rfl (.cons rfl (.nil))) ((fun w hw => c93 l m cap p w (hw.get_fz (t := 100) rfl) hen (fun x hx w' hw' => hcl x hx w' (Kp.trans hw.kp (hw'.mono (fun i hi => Nat.lt_of_lt_of_le hi hw.kp.size))))))) (fun _ _ => ?_)
  refine s1 rfl (q_geq rfl rfl) ?_
  refine s1 rfl (q_assign rfl) ?_
  refine o_end ?_
  refine r_ret Tryz.func76 (res1 Tryz.results76 (res_tmp (s := 4) rfl)) (fun w hw => ?_)
  exact ⟨ret_bool (idxOf_any _), hw.kp⟩


theorem c51 (s : ByteArray) (w : World) (hb : s.size ≤ 140737488355328) (hT : Tabs w) : RetV Tryz.prog 51 #[.string s] w (.bool (dottedB s)) := by
  refine calls_of (args := [.string s]) Tryz.func51 rfl Tryz.ntmps51 rfl (H := [(199, .fz (fun w => Tabs w))]) (Facts.sep (.cons (supp_tabs hT) (.nil))) ?_
  refine r_seq ?_
  refine r_region ?_
  refine s1 rfl (q_assign rfl) ?_
  refine o_end ?_
  refine r_seq ?_
  refine r_cut [(2, .bool (decide ((((s.size : Nat) : Int) ≤ (60 : Int)) ∧ (¬ ((Lib.splitB dot 0 (Lib.countB s dot) s).any (fun t => !isNameB t) = true)))))] [(199, .fz (fun w => Tabs w))] ?_ (fun key => ?_)
  · refine r_ret Tryz.func51 (res1 Tryz.results51 (res_tmp (s := 2) rfl)) (fun w hw => ?_)
    exact ⟨ret_bool (dotted_eq s), hw.kp⟩
  · refine r_region ?_
    refine s1 rfl (q_move rfl) ?_
    refine s1 rfl (q_lens Tryz.underlying9 rfl) ?_
    refine s1 rfl (q_leq rfl rfl) ?_
    refine s1 rfl (q_move rfl) ?_
    refine g_split (s := 6) rfl (fun hp1 => ?_) (fun hp1 => ?_)
    · refine g_on rfl rfl ?_
      refine s1 rfl (q_move rfl) ?_
      refine g_on rfl rfl ?_
      refine sx rfl (e_callx en73 (.cons rfl (.cons rfl (.nil))) ((fun w hw => c73 s w (by omega) (hw.get_fz (t := 199) rfl) 8)) (fun _ => nofz (fun _ h => by cases h))) (fun ⟨a1, c2⟩ _ => ?_)
      refine g_on rfl rfl ?_
      refine sx rfl (e_call en72 (.cons rfl (.cons rfl (.nil))) ((fun w hw => c72 (⟨a1, c2, Lib.splitB dot 0 (Lib.countB s dot) s⟩ : Sl ByteArray) 74 [] (fun t => !isNameB t) w (ok_row (hw.row (tg := 8) rfl) (by rw [splitB_len]; have := Lib.countB_le dot (by decide) _ s (Nat.le_refl _); simp only [by_]; omega) (fun x hx => by have := splitB_size _ _ _ x hx; simp only [ok]; omega)) en74 (fun x hx w' _ => c74 x w' (by have := splitB_size _ _ _ x hx; omega))))) (fun _ _ => ?_)
      refine g_on rfl rfl ?_
      refine s1 rfl (q_notb rfl) ?_
      refine s1 rfl (q_pickt rfl rfl) ?_
      refine s1 rfl (q_assign rfl) ?_
      refine o_end ?_
      exact key.weaken (.consE rfl (congrArg Value.bool (by first | (simp only [hp1, ne_eq, not_true_eq_false, not_false_eq_true, true_or, or_true, false_or, or_false, true_and, and_true, false_and, and_false, Bool.decide_eq_true] <;> first | exact nb_dec _ | exact b_dec _ | (simp; done)) | exact nb_dec _ | exact b_dec _ | (simp; done) | (exfalso; omega))) (.nil)) (.cons rfl (.nil))
    · refine g_off rfl rfl rfl ?_
      iterate 3 refine g_off rfl rfl rfl ?_
      refine s1 rfl (q_pickf rfl rfl) ?_
      refine s1 rfl (q_assign rfl) ?_
      refine o_end ?_
      exact key.weaken (.consE rfl (congrArg Value.bool (decide_eq_false (fun h => hp1 h.1)).symm) (.nil)) (.cons rfl (.nil))


theorem c70 (s : ByteArray) (w : World) (hb : s.size ≤ 140737488355328) (hT : Tabs w) : RetV Tryz.prog 70 #[.string s] w (.bool (dottedB s)) := by
  refine calls_of (args := [.string s]) Tryz.func70 rfl Tryz.ntmps70 rfl (H := [(199, .fz (fun w => Tabs w))]) (Facts.sep (.cons (supp_tabs hT) (.nil))) ?_
  refine r_seq ?_
  refine r_region ?_
  refine s1 rfl (q_assign rfl) ?_
  refine o_end ?_
  refine r_seq ?_
  refine r_cut [(2, .bool (decide ((((s.size : Nat) : Int) ≤ (60 : Int)) ∧ (¬ ((Lib.splitB dot 0 (Lib.countB s dot) s).any (fun t => !isNameB t) = true)))))] [(199, .fz (fun w => Tabs w))] ?_ (fun key => ?_)
  · refine r_ret Tryz.func70 (res1 Tryz.results70 (res_tmp (s := 2) rfl)) (fun w hw => ?_)
    exact ⟨ret_bool (dotted_eq s), hw.kp⟩
  · refine r_region ?_
    refine s1 rfl (q_move rfl) ?_
    refine s1 rfl (q_lens Tryz.underlying9 rfl) ?_
    refine s1 rfl (q_leq rfl rfl) ?_
    refine s1 rfl (q_move rfl) ?_
    refine g_split (s := 6) rfl (fun hp1 => ?_) (fun hp1 => ?_)
    · refine g_on rfl rfl ?_
      refine s1 rfl (q_move rfl) ?_
      refine g_on rfl rfl ?_
      refine sx rfl (e_callx en73 (.cons rfl (.cons rfl (.nil))) ((fun w hw => c73 s w (by omega) (hw.get_fz (t := 199) rfl) 8)) (fun _ => nofz (fun _ h => by cases h))) (fun ⟨a1, c2⟩ _ => ?_)
      refine g_on rfl rfl ?_
      refine sx rfl (e_call en72 (.cons rfl (.cons rfl (.nil))) ((fun w hw => c72 (⟨a1, c2, Lib.splitB dot 0 (Lib.countB s dot) s⟩ : Sl ByteArray) 86 [] (fun t => !isNameB t) w (ok_row (hw.row (tg := 8) rfl) (by rw [splitB_len]; have := Lib.countB_le dot (by decide) _ s (Nat.le_refl _); simp only [by_]; omega) (fun x hx => by have := splitB_size _ _ _ x hx; simp only [ok]; omega)) en86 (fun x hx w' _ => c86 x w' (by have := splitB_size _ _ _ x hx; omega))))) (fun _ _ => ?_)
      refine g_on rfl rfl ?_
      refine s1 rfl (q_notb rfl) ?_
      refine s1 rfl (q_pickt rfl rfl) ?_
      refine s1 rfl (q_assign rfl) ?_
      refine o_end ?_
      exact key.weaken (.consE rfl (congrArg Value.bool (by first | (simp only [hp1, ne_eq, not_true_eq_false, not_false_eq_true, true_or, or_true, false_or, or_false, true_and, and_true, false_and, and_false, Bool.decide_eq_true] <;> first | exact nb_dec _ | exact b_dec _ | (simp; done)) | exact nb_dec _ | exact b_dec _ | (simp; done) | (exfalso; omega))) (.nil)) (.cons rfl (.nil))
    · refine g_off rfl rfl rfl ?_
      iterate 3 refine g_off rfl rfl rfl ?_
      refine s1 rfl (q_pickf rfl rfl) ?_
      refine s1 rfl (q_assign rfl) ?_
      refine o_end ?_
      exact key.weaken (.consE rfl (congrArg Value.bool (decide_eq_false (fun h => hp1 h.1)).symm) (.nil)) (.cons rfl (.nil))


theorem c19 (s : ByteArray) (c : Int) (w : World) (hb : s.size ≤ 1048576) : RetRow Tryz.prog 19 #[.string s, .int .u8 c] w 9 (splR s c) := by
  intro tg
  refine calls_of (args := [.string s, .int .u8 c]) Tryz.func19 rfl Tryz.ntmps19 rfl (H := []) (Facts.sep (.nil)) ?_
  refine r_seq ?_
  refine r_region ?_
  refine s1 rfl (q_assign rfl) ?_
  refine o_end ?_
  refine r_seq ?_
  refine r_region ?_
  refine s1 rfl (q_assign rfl) ?_
  refine o_end ?_
  refine r_seq ?_
  refine r_region ?_
  refine s1 rfl (q_assign rfl) ?_
  refine o_end ?_
  refine r_seq ?_
  refine r_seq ?_
  refine r_region ?_
  refine s1 rfl (q_assign rfl) ?_
  refine o_end ?_
  refine r_block ?_
  refine r_know (fun w hw => hw.nilRow 500 9 1) ?_
  refine r_loop ?_
  refine RunE.weaken ?_ ?_ (r_rounds3 (fun (i : Nat) (a1 : Option Addr) (c2 : Nat) => [(0, .string s), (1, .int .u8 c), (5, .slice a1 (((spl s c i).1).length) c2), (6, .int .i64 (((spl s c i).2 : Nat) : Int)), (7, .int .i64 ((i : Nat) : Int))]) (fun (i : Nat) (a1 : Option Addr) (c2 : Nat) => [(500, .row 9 1 a1 (((spl s c i).1).length) c2 (encs ((spl s c i).1)))]) (fun (i : Nat) (a1 : Option Addr) (c2 : Nat) => i ≤ s.size + 1) (fun (i : Nat) (a1 : Option Addr) (c2 : Nat) => s.size + 1 - i) ?_ 0 none 0 ?_)
  · exact (.cons rfl (.cons rfl (.cons rfl (.cons rfl (.cons rfl (.nil))))))
  · exact (.cons rfl (.nil))
  · intro i a1 c2 hI0 ih0
    have hS := spl_le (s := s) (c := c) i
    refine r_seq ?_
    refine r_seq ?_
    refine r_region ?_
    refine s1 rfl (q_move rfl) ?_
    refine s1 rfl (q_move rfl) ?_
    refine s1 rfl (q_lens Tryz.underlying9 rfl) ?_
    refine s1 rfl (q_leq rfl rfl) ?_
    refine o_end ?_
    refine r_if rfl (fun hp1 => ?_) (fun hp1 => ?_)
    · refine r_skip ?_
      refine r_seq ?_
      refine r_block ?_
      refine r_seq ?_
      refine r_cut [(0, .string s), (1, .int .u8 c), (5, .slice a1 (((spl s c i).1).length) c2), (6, .int .i64 (((spl s c i).2 : Nat) : Int)), (7, .int .i64 ((i : Nat) : Int)), (24, .bool (decide ((((i : Nat) : Int) = ((s.size : Nat) : Int)) ∨ (((s.data.toList.getD ((i : Nat) : Int).toNat 0).toNat : Int) = c))))] [(500, .row 9 1 a1 (((spl s c i).1).length) c2 (encs ((spl s c i).1)))] ?_ (fun key => ?_)
      · refine r_if rfl (fun hp2 => ?_) (fun hp2 => ?_)
        · refine r_seq ?_
          refine r_region ?_
          iterate 4 refine s1 rfl (q_move rfl) ?_
          refine s1 rfl (q_sslice (l := (spl s c i).2) (h := i) Tryz.underlying9 rfl rfl rfl (by omega) (by omega)) ?_
          refine sx rfl (e_bslice (cs := encs ([s.extract ((spl s c i).2) i] : List ByteArray)) Tryz.underlying23 zi9 (.cons rfl (.nil)) (by kernel_rfl) rfl rfl rfl) (fun g3 _ => ?_)
          refine sx rfl (e_appendL (tg := 500) (l := (spl s c i).1) (l' := ([s.extract ((spl s c i).2) i] : List ByteArray)) Tryz.underlying23 in9 rfl rfl rfl rfl rfl rfl rfl (fun w hw => Shows.row (hw.row (tg := 30) rfl)) (by simp only [List.length_cons, List.length_nil]; omega)) (fun ⟨a4, c5⟩ _ => ?_)
          refine s1 rfl (q_assign rfl) ?_
          refine o_end ?_
          refine r_region ?_
          refine s1 rfl (q_move rfl) ?_
          refine s1 rfl (q_add rfl rfl (by omega)) ?_
          refine s1 rfl (q_assign rfl) ?_
          refine o_end ?_
          refine r_inBlock ?_
          refine r_region ?_
          refine s1 rfl (q_move rfl) ?_
          refine s1 rfl (q_add rfl rfl (by omega)) ?_
          refine s1 rfl (q_assign rfl) ?_
          refine o_end ?_
          rw [show ((spl s c i).1) ++ ([s.extract ((spl s c i).2) i] : List ByteArray) = (spl s c (i + 1)).1 from (spl_y1 hp2)]
          refine r_inLoop ?_
          refine RunE.weaken ?_ ?_ (ih0 (i + 1) a4 c5 ?_ ?_)
          · exact (.cons rfl (.cons rfl (.cons rfl (.consE rfl (congrArg (Value.int .i64) (by first | exact spl_y2 hp2 | rw [spl_n hp2])) (.cons rfl (.nil))))))
          · exact (.cons rfl (.nil))
          · omega
          · omega
        · refine r_skip ?_
          refine r_inBlock ?_
          refine r_region ?_
          refine s1 rfl (q_move rfl) ?_
          refine s1 rfl (q_add rfl rfl (by omega)) ?_
          refine s1 rfl (q_assign rfl) ?_
          refine o_end ?_
          rw [show (spl s c i).1 = (spl s c (i + 1)).1 from (by rw [spl_n hp2])]
          refine r_inLoop ?_
          refine RunE.weaken ?_ ?_ (ih0 (i + 1) a1 c2 ?_ ?_)
          · exact (.cons rfl (.cons rfl (.cons rfl (.consE rfl (congrArg (Value.int .i64) (by first | exact spl_y2 hp2 | rw [spl_n hp2])) (.cons rfl (.nil))))))
          · exact (.cons rfl (.nil))
          · omega
          · omega
      · refine r_region ?_
        refine s1 rfl (q_move rfl) ?_
        refine s1 rfl (q_move rfl) ?_
        refine s1 rfl (q_lens Tryz.underlying9 rfl) ?_
        refine s1 rfl (q_eql rfl rfl) ?_
        refine s1 rfl (q_move rfl) ?_
        refine g_split (s := 18) rfl (fun hp3 => ?_) (fun hp3 => ?_)
        · refine g_off rfl rfl rfl ?_
          iterate 4 refine g_off rfl rfl rfl ?_
          refine s1 rfl (q_pickt rfl rfl) ?_
          refine o_end ?_
          exact key.weaken (.cons rfl (.cons rfl (.cons rfl (.cons rfl (.cons rfl (.consE rfl (congrArg Value.bool (decide_eq_true (Or.inl hp3)).symm) (.nil))))))) (.cons rfl (.nil))
        · refine g_on rfl rfl ?_
          refine s1 rfl (q_move rfl) ?_
          refine g_on rfl rfl ?_
          refine s1 rfl (q_move rfl) ?_
          refine g_on rfl rfl ?_
          refine s1 rfl (q_sindex Tryz.underlying9 rfl rfl (by omega) (by omega)) ?_
          refine g_on rfl rfl ?_
          refine s1 rfl (q_move rfl) ?_
          refine g_on rfl rfl ?_
          refine s1 rfl (q_eql rfl rfl) ?_
          refine s1 rfl (q_pickf rfl rfl) ?_
          refine o_end ?_
          exact key.weaken (.cons rfl (.cons rfl (.cons rfl (.cons rfl (.cons rfl (.consE rfl (congrArg Value.bool (by first | (simp only [hp3, ne_eq, not_true_eq_false, not_false_eq_true, true_or, or_true, false_or, or_false, true_and, and_true, false_and, and_false, Bool.decide_eq_true] <;> first | exact nb_dec _ | exact b_dec _ | (simp; done)) | exact nb_dec _ | exact b_dec _ | (simp; done) | (exfalso; omega))) (.nil))))))) (.cons rfl (.nil))
    · refine r_exit rfl ?_
      refine r_seq ?_
      refine r_region ?_
      refine s1 rfl (q_move rfl) ?_
      refine s1 rfl (q_assign rfl) ?_
      refine o_end ?_
      refine r_ret Tryz.func19 (res1 Tryz.results19 (res_tmp (s := 4) rfl)) (fun w hw => ?_)
      have hi : i = s.size + 1 := by omega
      subst hi
      exact ⟨(a1, c2), trivial, rfl, hw.one (t := 500) rfl nofzrow⟩
  · exact Nat.zero_le _


theorem c13 (s : ByteArray) (w : World) (hb : s.size ≤ 1048576) : RetV Tryz.prog 13 #[.string s] w (.bool (dottedR s)) := by
  have hL := splR_len s 46
  refine calls_of (args := [.string s]) Tryz.func13 rfl Tryz.ntmps13 rfl (H := []) (Facts.sep (.nil)) ?_
  refine r_seq ?_
  refine r_region ?_
  refine s1 rfl (q_assign rfl) ?_
  refine o_end ?_
  refine r_seq ?_
  refine r_region ?_
  refine s1 rfl (q_move rfl) ?_
  refine sx rfl (e_callx en19 (.cons rfl (.cons rfl (.nil))) ((fun w hw => c19 s (46 : Int) w (by omega) 6)) (fun _ => nofz (fun _ h => by cases h))) (fun ⟨a1, c2⟩ _ => ?_)
  refine s1 rfl (q_assign rfl) ?_
  refine o_end ?_
  refine r_seq ?_
  refine r_seq ?_
  refine r_region ?_
  refine s1 rfl (q_assign rfl) ?_
  refine o_end ?_
  refine r_block ?_
  refine r_loop ?_
  refine RunE.weaken ?_ ?_ (r_rounds (fun (i : Nat) => [(0, .string s), (3, .slice a1 ((splR s (46 : Int)).length) c2), (4, .int .i64 ((i : Nat) : Int))]) (fun (i : Nat) => [(6, .row 9 1 a1 ((splR s (46 : Int)).length) c2 (encs (splR s (46 : Int))))]) (fun (i : Nat) => i ≤ (splR s 46).length ∧ ∀ j, j < i → isNameB (nth (splR s 46) j) = true) (fun (i : Nat) => (splR s 46).length - i) ?_ 0 ?_)
  · exact (.cons rfl (.cons rfl (.cons rfl (.nil))))
  · exact (.cons rfl (.nil))
  · intro i hI0 ih0
    obtain ⟨hI1, hI2⟩ := hI0
    refine r_seq ?_
    refine r_seq ?_
    refine r_region ?_
    refine s1 rfl (q_move rfl) ?_
    refine s1 rfl (q_move rfl) ?_
    refine s1 rfl (q_len Tryz.underlying23 rfl) ?_
    refine s1 rfl (q_lss rfl rfl) ?_
    refine o_end ?_
    refine r_if rfl (fun hp1 => ?_) (fun hp1 => ?_)
    · refine r_skip ?_
      refine r_seq ?_
      refine r_block ?_
      refine r_seq ?_
      refine r_region ?_
      refine s1 rfl (q_move rfl) ?_
      refine s1 rfl (q_move rfl) ?_
      refine s1 rfl (q_indexAddr Tryz.underlying23 z9 rfl rfl rfl (by omega) (by omega) (fun w hw => row_some (hw.row (tg := 6) rfl) (by omega))) ?_
      refine s1 rfl (q_load ag9 rfl (fun w hw => row_cellAt0 (l := splR s (46 : Int)) (hw.row (tg := 6) rfl) (i := i) (by omega) rfl)) ?_
      refine sx rfl (e_call en14 (.cons rfl (.nil)) ((fun w hw => c14 (nth (splR s (46 : Int)) i) w (by have := splR_size (s := s) (c := 46) _ (nth_mem (i := i) (by omega)); omega)))) (fun _ _ => ?_)
      refine s1 rfl (q_notb rfl) ?_
      refine o_end ?_
      refine r_ifb rfl (fun hp2 => ?_) (fun hp2 => ?_)
      · refine r_seq ?_
        refine r_region ?_
        refine s1 rfl (q_assign rfl) ?_
        refine o_end ?_
        refine r_ret Tryz.func13 (res1 Tryz.results13 (res_tmp (s := 2) rfl)) (fun w hw => ?_)
        exact ⟨ret_bool (dottedR_a (i := i) (by omega) (by simpa using hp2)).symm, hw.kp⟩
      · refine r_skip ?_
        refine r_inBlock ?_
        refine r_region ?_
        refine s1 rfl (q_move rfl) ?_
        refine s1 rfl (q_add rfl rfl (by omega)) ?_
        refine s1 rfl (q_assign rfl) ?_
        refine o_end ?_
        refine r_inLoop ?_
        refine RunE.weaken ?_ ?_ (ih0 (i + 1) ?_ ?_)
        · exact (.cons rfl (.cons rfl (.cons rfl (.nil))))
        · exact (.cons rfl (.nil))
        · exact ⟨by omega, fun j hj => by rcases Nat.lt_succ_iff_lt_or_eq.1 hj with h | rfl; exact hI2 j h; exact nb_f2 hp2⟩
        · omega
    · refine r_exit rfl ?_
      refine r_seq ?_
      refine r_region ?_
      refine s1 rfl (q_move rfl) ?_
      refine s1 rfl (q_lens Tryz.underlying9 rfl) ?_
      refine s1 rfl (q_leq rfl rfl) ?_
      refine s1 rfl (q_assign rfl) ?_
      refine o_end ?_
      refine r_ret Tryz.func13 (res1 Tryz.results13 (res_tmp (s := 2) rfl)) (fun w hw => ?_)
      exact ⟨ret_bool (dottedR_b (fun j hj => hI2 j (by omega))), hw.kp⟩
  · exact ⟨by omega, fun j hj => by omega⟩


theorem c50 (e : EvM) (n : ByteArray) (w : World) (he : ok w e) : RetV Tryz.prog 50 #[.agg (enc e).toArray, .string n] w (.tuple #[.string (varOf e.locals.el n).1, .bool (varOf e.locals.el n).2]) := by
  have L0 := Sl.OK.le (EvM.OK.locals he) (by decide)
  refine calls_of (args := [.agg (enc e).toArray, .string n]) Tryz.func50 rfl Tryz.ntmps50 rfl (H := [(100, .fz (fun w => ok w e))]) (Facts.sep (.cons (supp_ok he) (.nil))) ?_
  refine r_seq ?_
  refine r_region ?_
  refine sx rfl (e_box rfl (cs := enc e) rfl) (fun g1 _ => ?_)
  refine s1 rfl (q_assign rfl) ?_
  refine s1 rfl (q_assign rfl) ?_
  refine o_end ?_
  refine r_seq ?_
  refine r_seq ?_
  refine r_region ?_
  refine s1 rfl (q_assign rfl) ?_
  refine o_end ?_
  refine r_block ?_
  refine r_loop ?_
  refine RunE.weaken ?_ ?_ (r_rounds (fun (i : Nat) => [(1, .string n), (2, .pointer (some ⟨g1, 0, none⟩)), (6, .int .i64 ((i : Nat) : Int))]) (fun (i : Nat) => [(100, .fz (fun w => ok w e)), (2, .box g1 (enc e) 42)]) (fun (i : Nat) => i ≤ e.locals.el.length ∧ ∀ j, j < i → (nth e.locals.el j).name ≠ n) (fun (i : Nat) => e.locals.el.length - i) ?_ 0 ?_)
  · exact (.cons rfl (.cons rfl (.cons rfl (.nil))))
  · exact (.cons rfl (.cons rfl (.nil)))
  · intro i hI0 ih0
    obtain ⟨hI1, hI2⟩ := hI0
    refine r_seq ?_
    refine r_seq ?_
    refine r_region ?_
    refine s1 rfl (q_move rfl) ?_
    refine s1 rfl (q_fieldAddr of42_7 rfl rfl) ?_
    refine s1 rfl (q_load ag40 rfl (fun w hw => hw.box (tg := 2) rfl rfl)) ?_
    refine s1 rfl (q_len Tryz.underlying40 rfl) ?_
    refine s1 rfl (q_lss rfl rfl) ?_
    refine o_end ?_
    refine r_if rfl (fun hp1 => ?_) (fun hp1 => ?_)
    · refine r_skip ?_
      refine r_seq ?_
      refine r_block ?_
      refine r_seq ?_
      refine r_region ?_
      refine s1 rfl (q_fieldAddr of42_7 rfl rfl) ?_
      refine s1 rfl (q_load ag40 rfl (fun w hw => hw.box (tg := 2) rfl rfl)) ?_
      refine s1 rfl (q_move rfl) ?_
      refine s1 rfl (q_indexAddr Tryz.underlying40 z95 rfl rfl rfl (by omega) (by omega) (fun w hw => Sl.OK.isSome (EvM.OK.locals (hw.get_fz (t := 100) rfl)) (by decide) (i := i) (by omega))) ?_
      refine s1 rfl (q_fieldAddr of95_0 rfl rfl) ?_
      refine s1 rfl (q_load ag9 rfl (fun w hw => Sl.OK.cell (EvM.OK.locals (hw.get_fz (t := 100) rfl)) (i := i) (j := 0) (by omega) rfl)) ?_
      refine s1 rfl (q_move rfl) ?_
      refine s1 rfl (q_seql rfl rfl) ?_
      refine o_end ?_
      refine r_if rfl (fun hp2 => ?_) (fun hp2 => ?_)
      · refine r_seq ?_
        refine r_region ?_
        refine s1 rfl (q_fieldAddr of42_7 rfl rfl) ?_
        refine s1 rfl (q_load ag40 rfl (fun w hw => hw.box (tg := 2) rfl rfl)) ?_
        refine s1 rfl (q_move rfl) ?_
        refine s1 rfl (q_indexAddr Tryz.underlying40 z95 rfl rfl rfl (by omega) (by omega) (fun w hw => Sl.OK.isSome (EvM.OK.locals (hw.get_fz (t := 100) rfl)) (by decide) (i := i) (by omega))) ?_
        refine s1 rfl (q_fieldAddr of95_1 rfl rfl) ?_
        refine s1 rfl (q_load ag9 rfl (fun w hw => Sl.OK.cell (EvM.OK.locals (hw.get_fz (t := 100) rfl)) (i := i) (j := 1) (by omega) rfl)) ?_
        refine s1 rfl (q_assign rfl) ?_
        refine s1 rfl (q_assign rfl) ?_
        refine o_end ?_
        refine r_ret Tryz.func50 (res2 Tryz.results50 (res_tmp (s := 4) rfl) (res_tmp (s := 5) rfl)) (fun w hw => ?_)
        exact ⟨ret_var (g := varOf e.locals.el n) (varOf_at e.locals.el i hI2 (by omega) hp2).symm, hw.kp⟩
      · refine r_skip ?_
        refine r_inBlock ?_
        refine r_region ?_
        refine s1 rfl (q_move rfl) ?_
        refine s1 rfl (q_add rfl rfl (by omega)) ?_
        refine s1 rfl (q_assign rfl) ?_
        refine o_end ?_
        refine r_inLoop ?_
        refine RunE.weaken ?_ ?_ (ih0 (i + 1) ?_ ?_)
        · exact (.cons rfl (.cons rfl (.cons rfl (.nil))))
        · exact (.cons rfl (.cons rfl (.nil)))
        · exact ⟨by omega, fun j hj => by rcases Nat.lt_succ_iff_lt_or_eq.1 hj with h | rfl; exact hI2 j h; exact hp2⟩
        · omega
    · refine r_exit rfl ?_
      refine r_seq ?_
      refine r_region ?_
      refine s1 rfl (q_assign rfl) ?_
      refine s1 rfl (q_assign rfl) ?_
      refine o_end ?_
      refine r_ret Tryz.func50 (res2 Tryz.results50 (res_tmp (s := 4) rfl) (res_tmp (s := 5) rfl)) (fun w hw => ?_)
      exact ⟨ret_var (g := varOf e.locals.el n) (varOf_none e.locals.el (fun j hj => hI2 j (by omega))).symm, hw.kp⟩
  · exact ⟨by omega, fun j hj => by omega⟩


theorem c68 (e : EvM) (n : ByteArray) (w : World) (he : ok w e) : RetV Tryz.prog 68 #[.agg (enc e).toArray, .string n] w (.tuple #[.string (varOf e.locals.el n).1, .bool (varOf e.locals.el n).2]) := by
  have L0 := Sl.OK.le (EvM.OK.locals he) (by decide)
  refine calls_of (args := [.agg (enc e).toArray, .string n]) Tryz.func68 rfl Tryz.ntmps68 rfl (H := [(100, .fz (fun w => ok w e))]) (Facts.sep (.cons (supp_ok he) (.nil))) ?_
  refine r_seq ?_
  refine r_region ?_
  refine sx rfl (e_box rfl (cs := enc e) rfl) (fun g1 _ => ?_)
  refine s1 rfl (q_assign rfl) ?_
  refine s1 rfl (q_assign rfl) ?_
  refine o_end ?_
  refine r_seq ?_
  refine r_seq ?_
  refine r_region ?_
  refine s1 rfl (q_fieldAddr of42_7 rfl rfl) ?_
  refine s1 rfl (q_load ag40 rfl (fun w hw => hw.box (tg := 2) rfl rfl)) ?_
  refine s1 rfl (q_len Tryz.underlying40 rfl) ?_
  refine s1 rfl (q_move rfl) ?_
  refine o_end ?_
  refine r_block ?_
  refine r_loop ?_
  refine RunE.weaken ?_ ?_ (r_rounds (fun (i : Nat) => [(1, .string n), (9, .slice e.locals.addr e.locals.el.length e.locals.cap), (10, .int .i64 ((e.locals.el.length : Nat) : Int)), (11, .int .i64 ((i : Nat) : Int))]) (fun (i : Nat) => [(100, .fz (fun w => ok w e)), (2, .box g1 (enc e) 42)]) (fun (i : Nat) => i ≤ e.locals.el.length ∧ ∀ j, j < i → (nth e.locals.el j).name ≠ n) (fun (i : Nat) => e.locals.el.length - i) ?_ 0 ?_)
  · exact (.cons rfl (.cons rfl (.cons rfl (.cons rfl (.nil)))))
  · exact (.cons rfl (.cons rfl (.nil)))
  · intro i hI0 ih0
    obtain ⟨hI1, hI2⟩ := hI0
    refine r_seq ?_
    refine r_region ?_
    refine s1 rfl (q_lss rfl rfl) ?_
    refine o_end ?_
    refine r_seq ?_
    refine r_if rfl (fun hp1 => ?_) (fun hp1 => ?_)
    · refine r_skip ?_
      refine r_seq ?_
      refine r_block ?_
      refine r_seq ?_
      refine r_region ?_
      refine s1 rfl (q_indexAddr Tryz.underlying40 z95 rfl rfl rfl (by omega) (by omega) (fun w hw => Sl.OK.isSome (EvM.OK.locals (hw.get_fz (t := 100) rfl)) (by decide) (i := i) (by omega))) ?_
      refine s1 rfl (q_loads (cs := enc (nth e.locals.el i)) ag95 z95 rfl rfl (fun w hw => Sl.OK.cells (EvM.OK.locals (hw.get_fz (t := 100) rfl)) (i := i) (by omega))) ?_
      refine sx rfl (e_alloc zz95) (fun g2 _ => ?_)
      refine sxn (e_store (tg := 7) (news := enc (nth e.locals.el i)) rfl rfl rfl rfl z95 rfl rfl (.cons (.cons (.nil _)))) (fun _ _ => ?_)
      refine o_end ?_
      refine r_seq ?_
      refine r_region ?_
      refine s1 rfl (q_fieldAddr of95_0 rfl rfl) ?_
      refine s1 rfl (q_load ag9 rfl (fun w hw => hw.box (tg := 7) rfl rfl)) ?_
      refine s1 rfl (q_move rfl) ?_
      refine s1 rfl (q_seql rfl rfl) ?_
      refine o_end ?_
      refine r_if rfl (fun hp2 => ?_) (fun hp2 => ?_)
      · refine r_seq ?_
        refine r_region ?_
        refine s1 rfl (q_fieldAddr of95_1 rfl rfl) ?_
        refine s1 rfl (q_load ag9 rfl (fun w hw => hw.box (tg := 7) rfl rfl)) ?_
        refine s1 rfl (q_assign rfl) ?_
        refine s1 rfl (q_assign rfl) ?_
        refine o_end ?_
        refine r_ret Tryz.func68 (res2 Tryz.results68 (res_tmp (s := 4) rfl) (res_tmp (s := 5) rfl)) (fun w hw => ?_)
        exact ⟨ret_var (g := varOf e.locals.el n) (varOf_at e.locals.el i hI2 (by omega) hp2).symm, hw.kp⟩
      · refine r_skip ?_
        refine r_inBlock ?_
        refine r_region ?_
        refine s1 rfl (q_add rfl rfl (by omega)) ?_
        refine s1 rfl (q_move rfl) ?_
        refine o_end ?_
        refine r_inLoop ?_
        refine RunE.weaken ?_ ?_ (ih0 (i + 1) ?_ ?_)
        · exact (.cons rfl (.cons rfl (.cons rfl (.cons rfl (.nil)))))
        · exact (.cons rfl (.cons rfl (.nil)))
        · exact ⟨by omega, fun j hj => by rcases Nat.lt_succ_iff_lt_or_eq.1 hj with h | rfl; exact hI2 j h; exact hp2⟩
        · omega
    · refine r_exit rfl ?_
      refine r_seq ?_
      refine r_region ?_
      refine s1 rfl (q_assign rfl) ?_
      refine s1 rfl (q_assign rfl) ?_
      refine o_end ?_
      refine r_ret Tryz.func68 (res2 Tryz.results68 (res_tmp (s := 4) rfl) (res_tmp (s := 5) rfl)) (fun w hw => ?_)
      exact ⟨ret_var (g := varOf e.locals.el n) (varOf_none e.locals.el (fun j hj => hI2 j (by omega))).symm, hw.kp⟩
  · exact ⟨by omega, fun j hj => by omega⟩


theorem c27s (n : Int) (w : World) (h0 : -9223372036854775808 ≤ n ∧ n ≤ 9223372036854775807) (ih : ∀ m : Int, m.natAbs < n.natAbs → ∀ w : World, (-9223372036854775808 ≤ m ∧ m ≤ 9223372036854775807) → RetV Tryz.prog 27 #[.int .i64 m] w (.string (itoaB m))) : RetV Tryz.prog 27 #[.int .i64 n] w (.string (itoaB n)) := by
  refine calls_of (args := [.int .i64 n]) Tryz.func27 rfl Tryz.ntmps27 rfl (H := []) (Facts.sep (.nil)) ?_
  refine r_seq ?_
  refine r_region ?_
  refine s1 rfl (q_assign rfl) ?_
  refine o_end ?_
  refine r_seq ?_
  refine r_seq ?_
  refine r_region ?_
  refine s1 rfl (q_move rfl) ?_
  refine s1 rfl (q_lss rfl rfl) ?_
  refine o_end ?_
  refine r_if rfl (fun hp1 => ?_) (fun hp1 => ?_)
  · have ht := tq_neg (n := n) (by omega)
    refine r_seq ?_
    refine r_seq ?_
    refine r_region ?_
    refine s1 rfl (q_move rfl) ?_
    refine s1 rfl (q_lss rfl rfl) ?_
    refine o_end ?_
    refine r_if rfl (fun hp2 => ?_) (fun hp2 => ?_)
    · refine r_seq ?_
      refine r_region ?_
      refine s1 rfl (q_move rfl) ?_
      refine s1 rfl (q_quo rfl rfl (by omega) (by omega)) ?_
      refine s1 rfl (q_neg rfl (by omega)) ?_
      refine sx rfl (e_call en27 (.cons rfl (.nil)) ((fun w hw => ih (-(Int.tdiv n (10 : Int))) (by omega) w (by omega)))) (fun _ _ => ?_)
      refine s1 rfl (q_sadd rfl rfl (by first | (have hz := itoaB_size (n := n.tdiv 10) (by omega); (try simp only [ByteArray.size_append]); have he := encode_size_le (48 + n.tmod 10); omega) | (have hz := itoaB_size (n := -(n.tdiv 10)) (by omega); (try simp only [ByteArray.size_append]); have he := encode_size_le (48 - n.tmod 10); have h1 : (⟨#[45]⟩ : ByteArray).size = 1 := rfl; omega) | (have he := encode_size_le (48 - n); have h1 : (⟨#[45]⟩ : ByteArray).size = 1 := rfl; omega))) ?_
      refine s1 rfl (q_move rfl) ?_
      refine s1 rfl (q_remk rfl rfl (by omega)) ?_
      refine s1 rfl (q_sub rfl rfl (by omega)) ?_
      refine s1 rfl (Quiet.as (q_conv Tryz.underlying3 Tryz.underlying21 rfl) (congrArg (Value.int .i32) (wrap_i32 (by omega)))) ?_
      refine s1 rfl (q_rune Tryz.underlying21 Tryz.underlying9 rfl) ?_
      refine s1 rfl (q_sadd rfl rfl (by first | (have hz := itoaB_size (n := n.tdiv 10) (by omega); (try simp only [ByteArray.size_append]); have he := encode_size_le (48 + n.tmod 10); omega) | (have hz := itoaB_size (n := -(n.tdiv 10)) (by omega); (try simp only [ByteArray.size_append]); have he := encode_size_le (48 - n.tmod 10); have h1 : (⟨#[45]⟩ : ByteArray).size = 1 := rfl; omega) | (have he := encode_size_le (48 - n); have h1 : (⟨#[45]⟩ : ByteArray).size = 1 := rfl; omega))) ?_
      refine s1 rfl (q_assign rfl) ?_
      refine o_end ?_
      refine r_ret Tryz.func27 (res1 Tryz.results27 (res_tmp (s := 2) rfl)) (fun w hw => ?_)
      exact ⟨ret_str (dec_nbig hp2), hw.kp⟩
    · refine r_skip ?_
      refine r_seq ?_
      refine r_region ?_
      refine s1 rfl (q_move rfl) ?_
      refine s1 rfl (q_sub rfl rfl (by omega)) ?_
      refine s1 rfl (Quiet.as (q_conv Tryz.underlying3 Tryz.underlying21 rfl) (congrArg (Value.int .i32) (wrap_i32 (by omega)))) ?_
      refine s1 rfl (q_rune Tryz.underlying21 Tryz.underlying9 rfl) ?_
      refine s1 rfl (q_sadd rfl rfl (by first | (have hz := itoaB_size (n := n.tdiv 10) (by omega); (try simp only [ByteArray.size_append]); have he := encode_size_le (48 + n.tmod 10); omega) | (have hz := itoaB_size (n := -(n.tdiv 10)) (by omega); (try simp only [ByteArray.size_append]); have he := encode_size_le (48 - n.tmod 10); have h1 : (⟨#[45]⟩ : ByteArray).size = 1 := rfl; omega) | (have he := encode_size_le (48 - n); have h1 : (⟨#[45]⟩ : ByteArray).size = 1 := rfl; omega))) ?_
      refine s1 rfl (q_assign rfl) ?_
      refine o_end ?_
      refine r_ret Tryz.func27 (res1 Tryz.results27 (res_tmp (s := 2) rfl)) (fun w hw => ?_)
      exact ⟨ret_str (dec_nsmall hp1 hp2), hw.kp⟩
  · have ht := tq_pos (n := n) (by omega)
    refine r_skip ?_
    refine r_seq ?_
    refine r_seq ?_
    refine r_region ?_
    refine s1 rfl (q_move rfl) ?_
    refine s1 rfl (q_lss rfl rfl) ?_
    refine o_end ?_
    refine r_if rfl (fun hp3 => ?_) (fun hp3 => ?_)
    · refine r_seq ?_
      refine r_region ?_
      refine s1 rfl (q_move rfl) ?_
      refine s1 rfl (q_add rfl rfl (by omega)) ?_
      refine s1 rfl (Quiet.as (q_conv Tryz.underlying3 Tryz.underlying21 rfl) (congrArg (Value.int .i32) (wrap_i32 (by omega)))) ?_
      refine s1 rfl (q_rune Tryz.underlying21 Tryz.underlying9 rfl) ?_
      refine s1 rfl (q_assign rfl) ?_
      refine o_end ?_
      refine r_ret Tryz.func27 (res1 Tryz.results27 (res_tmp (s := 2) rfl)) (fun w hw => ?_)
      exact ⟨ret_str (dec_small (by omega) (by omega)), hw.kp⟩
    · refine r_skip ?_
      refine r_seq ?_
      refine r_region ?_
      refine s1 rfl (q_move rfl) ?_
      refine s1 rfl (q_quo rfl rfl (by omega) (by omega)) ?_
      refine sx rfl (e_call en27 (.cons rfl (.nil)) ((fun w hw => ih (Int.tdiv n (10 : Int)) (by omega) w (by omega)))) (fun _ _ => ?_)
      refine s1 rfl (q_move rfl) ?_
      refine s1 rfl (q_remk rfl rfl (by omega)) ?_
      refine s1 rfl (q_add rfl rfl (by omega)) ?_
      refine s1 rfl (Quiet.as (q_conv Tryz.underlying3 Tryz.underlying21 rfl) (congrArg (Value.int .i32) (wrap_i32 (by omega)))) ?_
      refine s1 rfl (q_rune Tryz.underlying21 Tryz.underlying9 rfl) ?_
      refine s1 rfl (q_sadd rfl rfl (by first | (have hz := itoaB_size (n := n.tdiv 10) (by omega); (try simp only [ByteArray.size_append]); have he := encode_size_le (48 + n.tmod 10); omega) | (have hz := itoaB_size (n := -(n.tdiv 10)) (by omega); (try simp only [ByteArray.size_append]); have he := encode_size_le (48 - n.tmod 10); have h1 : (⟨#[45]⟩ : ByteArray).size = 1 := rfl; omega) | (have he := encode_size_le (48 - n); have h1 : (⟨#[45]⟩ : ByteArray).size = 1 := rfl; omega))) ?_
      refine s1 rfl (q_assign rfl) ?_
      refine o_end ?_
      refine r_ret Tryz.func27 (res1 Tryz.results27 (res_tmp (s := 2) rfl)) (fun w hw => ?_)
      exact ⟨ret_str (dec_big (by omega)), hw.kp⟩

theorem c27 (n : Int) (w : World) (h0 : -9223372036854775808 ≤ n ∧ n ≤ 9223372036854775807) : RetV Tryz.prog 27 #[.int .i64 n] w (.string (itoaB n)) := by
  induction hn : n.natAbs using Nat.strongRecOn generalizing n w with
  | ind k IH => exact c27s n w h0 (fun m hm w' hb => IH m.natAbs (by omega) m w' hb rfl)


theorem c33 (q : PlcM) (w : World) (hq : ok w q) (hT : Tabs w) (h1 : q.mod.size ≤ 1048576 ∧ q.fn.size ≤ 1048576) : RetV Tryz.prog 33 #[.agg (enc q).toArray] w (.string (placeB q)) := by
  have h0 := PlcM.OK.line hq
  simp only [ok] at h0
  refine calls_of (args := [.agg (enc q).toArray]) Tryz.func33 rfl Tryz.ntmps33 rfl (H := [(100, .fz (fun w => ok w q)), (199, .fz (fun w => Tabs w))]) (Facts.sep (.cons (supp_ok hq) (.cons (supp_tabs hT) (.nil)))) ?_
  refine r_seq ?_
  refine r_region ?_
  refine sx rfl (e_box rfl (cs := enc q) rfl) (fun g1 _ => ?_)
  refine s1 rfl (q_assign rfl) ?_
  refine o_end ?_
  refine r_seq ?_
  refine r_draw [(100, .fz (fun w => ok w q)), (199, .fz (fun w => Tabs w)), (1, .box g1 (enc q) 54)] (by kernel_rfl) rfl (.cons rfl (.cons rfl (.cons rfl (.nil)))) ?_
  refine d1 0 rfl (by kernel_rfl) rfl rfl (q_fieldAddr of54_0 rfl rfl) ?_
  refine d1 1 rfl (by kernel_rfl) rfl rfl (q_load ag9 rfl (fun w hw => hw.box (tg := 1) rfl rfl)) ?_
  refine d1 2 rfl (by kernel_rfl) rfl rfl (q_sadd rfl rfl (by have hz := itoaB_size h0; have hy : (⟨#[58]⟩ : ByteArray).size = 1 := rfl; have hx : (⟨#[32]⟩ : ByteArray).size = 1 := rfl; (try simp only [ByteArray.size_append]); omega)) ?_
  refine d1 3 rfl (by kernel_rfl) rfl rfl (q_fieldAddr of54_2 rfl rfl) ?_
  refine d1 4 rfl (by kernel_rfl) rfl rfl (q_load ag3 rfl (fun w hw => hw.box (tg := 1) rfl rfl)) ?_
  refine d1 8 rfl (by kernel_rfl) rfl rfl (q_fieldAddr of54_1 rfl rfl) ?_
  refine d1 9 rfl (by kernel_rfl) rfl rfl (q_load ag9 rfl (fun w hw => hw.box (tg := 1) rfl rfl)) ?_
  refine dx 5 rfl (by kernel_rfl) rfl rfl (want_none rfl) (e_call en59 (.cons rfl (.nil)) ((fun w hw => c59 q.line w (by omega) (hw.get_fz (t := 199) rfl)))) (fun _ => (.cons rfl (.cons rfl (.cons rfl (.nil))))) (fun _ _ => ?_)
  refine d1 6 rfl (by kernel_rfl) rfl rfl (q_sadd rfl rfl (by have hz := itoaB_size h0; have hy : (⟨#[58]⟩ : ByteArray).size = 1 := rfl; have hx : (⟨#[32]⟩ : ByteArray).size = 1 := rfl; (try simp only [ByteArray.size_append]); omega)) ?_
  refine d1 7 rfl (by kernel_rfl) rfl rfl (q_sadd rfl rfl (by have hz := itoaB_size h0; have hy : (⟨#[58]⟩ : ByteArray).size = 1 := rfl; have hx : (⟨#[32]⟩ : ByteArray).size = 1 := rfl; (try simp only [ByteArray.size_append]); omega)) ?_
  refine d1 10 rfl (by kernel_rfl) rfl rfl (q_sadd rfl rfl (by have hz := itoaB_size h0; have hy : (⟨#[58]⟩ : ByteArray).size = 1 := rfl; have hx : (⟨#[32]⟩ : ByteArray).size = 1 := rfl; (try simp only [ByteArray.size_append]); omega)) ?_
  refine d1 11 rfl (by kernel_rfl) rfl rfl (q_assign rfl) ?_
  refine d_end (by kernel_rfl) ?_
  refine r_ret Tryz.func33 (res1 Tryz.results33 (res_tmp (s := 2) rfl)) (fun w hw => ?_)
  exact ⟨rfl, hw.kp⟩


theorem c21 (q : PlcM) (w : World) (hq : ok w q) (hT : Tabs w) (h1 : q.mod.size ≤ 1048576 ∧ q.fn.size ≤ 1048576) : RetV Tryz.prog 21 #[.agg (enc q).toArray] w (.string (placeB q)) := by
  have h0 := PlcM.OK.line hq
  simp only [ok] at h0
  refine calls_of (args := [.agg (enc q).toArray]) Tryz.func21 rfl Tryz.ntmps21 rfl (H := [(100, .fz (fun w => ok w q)), (199, .fz (fun w => Tabs w))]) (Facts.sep (.cons (supp_ok hq) (.cons (supp_tabs hT) (.nil)))) ?_
  refine r_seq ?_
  refine r_region ?_
  refine sx rfl (e_box rfl (cs := enc q) rfl) (fun g1 _ => ?_)
  refine s1 rfl (q_assign rfl) ?_
  refine o_end ?_
  refine r_seq ?_
  refine r_draw [(100, .fz (fun w => ok w q)), (199, .fz (fun w => Tabs w)), (1, .box g1 (enc q) 54)] (by kernel_rfl) rfl (.cons rfl (.cons rfl (.cons rfl (.nil)))) ?_
  refine d1 0 rfl (by kernel_rfl) rfl rfl (q_fieldAddr of54_0 rfl rfl) ?_
  refine d1 1 rfl (by kernel_rfl) rfl rfl (q_load ag9 rfl (fun w hw => hw.box (tg := 1) rfl rfl)) ?_
  refine d1 2 rfl (by kernel_rfl) rfl rfl (q_sadd rfl rfl (by have hz := itoaB_size h0; have hy : (⟨#[58]⟩ : ByteArray).size = 1 := rfl; have hx : (⟨#[32]⟩ : ByteArray).size = 1 := rfl; (try simp only [ByteArray.size_append]); omega)) ?_
  refine d1 3 rfl (by kernel_rfl) rfl rfl (q_fieldAddr of54_2 rfl rfl) ?_
  refine d1 4 rfl (by kernel_rfl) rfl rfl (q_load ag3 rfl (fun w hw => hw.box (tg := 1) rfl rfl)) ?_
  refine d1 8 rfl (by kernel_rfl) rfl rfl (q_fieldAddr of54_1 rfl rfl) ?_
  refine d1 9 rfl (by kernel_rfl) rfl rfl (q_load ag9 rfl (fun w hw => hw.box (tg := 1) rfl rfl)) ?_
  refine dx 5 rfl (by kernel_rfl) rfl rfl (want_none rfl) (e_call en27 (.cons rfl (.nil)) ((fun w hw => c27 q.line w (by omega)))) (fun _ => (.cons rfl (.cons rfl (.cons rfl (.nil))))) (fun _ _ => ?_)
  refine d1 6 rfl (by kernel_rfl) rfl rfl (q_sadd rfl rfl (by have hz := itoaB_size h0; have hy : (⟨#[58]⟩ : ByteArray).size = 1 := rfl; have hx : (⟨#[32]⟩ : ByteArray).size = 1 := rfl; (try simp only [ByteArray.size_append]); omega)) ?_
  refine d1 7 rfl (by kernel_rfl) rfl rfl (q_sadd rfl rfl (by have hz := itoaB_size h0; have hy : (⟨#[58]⟩ : ByteArray).size = 1 := rfl; have hx : (⟨#[32]⟩ : ByteArray).size = 1 := rfl; (try simp only [ByteArray.size_append]); omega)) ?_
  refine d1 10 rfl (by kernel_rfl) rfl rfl (q_sadd rfl rfl (by have hz := itoaB_size h0; have hy : (⟨#[58]⟩ : ByteArray).size = 1 := rfl; have hx : (⟨#[32]⟩ : ByteArray).size = 1 := rfl; (try simp only [ByteArray.size_append]); omega)) ?_
  refine d1 11 rfl (by kernel_rfl) rfl rfl (q_assign rfl) ?_
  refine d_end (by kernel_rfl) ?_
  refine r_ret Tryz.func21 (res1 Tryz.results21 (res_tmp (s := 2) rfl)) (fun w hw => ?_)
  exact ⟨rfl, hw.kp⟩


theorem c25 (l : Sl ByteArray) (b : ByteArray) (w : World) (hl : ok w l) (hb : b.size ≤ 1048576) (hj : ∀ i, i ≤ l.el.length → (joinN l.el b i).size ≤ 1048576) : RetV Tryz.prog 25 #[.slice l.addr l.el.length l.cap, .string b] w (.string (joinN l.el b l.el.length)) := by
  have L0 := Sl.OK.le hl (by decide)
  refine calls_of (args := [.slice l.addr l.el.length l.cap, .string b]) Tryz.func25 rfl Tryz.ntmps25 rfl (H := [(100, .fz (fun w => ok w l))]) (Facts.sep (.cons (supp_ok hl) (.nil))) ?_
  refine r_seq ?_
  refine r_region ?_
  refine s1 rfl (q_assign rfl) ?_
  refine o_end ?_
  refine r_seq ?_
  refine r_region ?_
  refine s1 rfl (q_assign rfl) ?_
  refine o_end ?_
  refine r_seq ?_
  refine r_seq ?_
  refine r_region ?_
  refine s1 rfl (q_assign rfl) ?_
  refine o_end ?_
  refine r_block ?_
  refine r_loop ?_
  refine RunE.weaken ?_ ?_ (r_rounds (fun (i : Nat) => [(0, .slice l.addr l.el.length l.cap), (1, .string b), (5, .string (joinN l.el b i)), (6, .int .i64 ((i : Nat) : Int))]) (fun (i : Nat) => [(100, .fz (fun w => ok w l))]) (fun (i : Nat) => i ≤ l.el.length) (fun (i : Nat) => l.el.length - i) ?_ 0 ?_)
  · exact (.cons rfl (.cons rfl (.consE rfl (rfl) (.cons rfl (.nil)))))
  · exact (.cons rfl (.nil))
  · intro i hI0 ih0
    have hJ := hj i hI0
    refine r_seq ?_
    refine r_seq ?_
    refine r_region ?_
    refine s1 rfl (q_move rfl) ?_
    refine s1 rfl (q_move rfl) ?_
    refine s1 rfl (q_len Tryz.underlying23 rfl) ?_
    refine s1 rfl (q_lss rfl rfl) ?_
    refine o_end ?_
    refine r_if rfl (fun hp1 => ?_) (fun hp1 => ?_)
    · refine r_skip ?_
      refine r_seq ?_
      refine r_block ?_
      refine r_seq ?_
      refine r_seq ?_
      refine r_region ?_
      refine s1 rfl (q_move rfl) ?_
      refine s1 rfl (q_gtr rfl rfl) ?_
      refine o_end ?_
      refine r_if rfl (fun hp2 => ?_) (fun hp2 => ?_)
      · refine r_region ?_
        refine s1 rfl (q_move rfl) ?_
        refine s1 rfl (q_move rfl) ?_
        refine s1 rfl (q_sadd rfl rfl (by first | omega | (have he := (show Sl.OK _ l from hl).el _ (nth_mem (i := i) (by omega)); simp only [ok] at he; (try simp only [ByteArray.size_append]); omega))) ?_
        refine s1 rfl (q_assign rfl) ?_
        refine o_end ?_
        refine r_region ?_
        iterate 3 refine s1 rfl (q_move rfl) ?_
        refine s1 rfl (q_indexAddr Tryz.underlying23 z9 rfl rfl rfl (by omega) (by omega) (fun w hw => Sl.OK.isSome (hw.get_fz (t := 100) rfl) (by decide) (i := i) (by omega))) ?_
        refine s1 rfl (q_load ag9 rfl (fun w hw => Sl.OK.cell0 (hw.get_fz (t := 100) rfl) (i := i) (by omega) rfl)) ?_
        refine s1 rfl (q_sadd rfl rfl (by first | omega | (have he := (show Sl.OK _ l from hl).el _ (nth_mem (i := i) (by omega)); simp only [ok] at he; (try simp only [ByteArray.size_append]); omega))) ?_
        refine s1 rfl (q_assign rfl) ?_
        refine o_end ?_
        refine r_inBlock ?_
        refine r_region ?_
        refine s1 rfl (q_move rfl) ?_
        refine s1 rfl (q_add rfl rfl (by omega)) ?_
        refine s1 rfl (q_assign rfl) ?_
        refine o_end ?_
        refine r_inLoop ?_
        refine RunE.weaken ?_ ?_ (ih0 (i + 1) ?_ ?_)
        · exact (.cons rfl (.cons rfl (.consE rfl (congrArg Value.string (by simp only [joinN]; first | rw [if_pos (by omega)] | rw [if_neg (by omega)])) (.cons rfl (.nil)))))
        · exact (.cons rfl (.nil))
        · omega
        · omega
      · refine r_skip ?_
        refine r_region ?_
        iterate 3 refine s1 rfl (q_move rfl) ?_
        refine s1 rfl (q_indexAddr Tryz.underlying23 z9 rfl rfl rfl (by omega) (by omega) (fun w hw => Sl.OK.isSome (hw.get_fz (t := 100) rfl) (by decide) (i := i) (by omega))) ?_
        refine s1 rfl (q_load ag9 rfl (fun w hw => Sl.OK.cell0 (hw.get_fz (t := 100) rfl) (i := i) (by omega) rfl)) ?_
        refine s1 rfl (q_sadd rfl rfl (by first | omega | (have he := (show Sl.OK _ l from hl).el _ (nth_mem (i := i) (by omega)); simp only [ok] at he; (try simp only [ByteArray.size_append]); omega))) ?_
        refine s1 rfl (q_assign rfl) ?_
        refine o_end ?_
        refine r_inBlock ?_
        refine r_region ?_
        refine s1 rfl (q_move rfl) ?_
        refine s1 rfl (q_add rfl rfl (by omega)) ?_
        refine s1 rfl (q_assign rfl) ?_
        refine o_end ?_
        refine r_inLoop ?_
        refine RunE.weaken ?_ ?_ (ih0 (i + 1) ?_ ?_)
        · exact (.cons rfl (.cons rfl (.consE rfl (congrArg Value.string (by simp only [joinN]; first | rw [if_pos (by omega)] | rw [if_neg (by omega)])) (.cons rfl (.nil)))))
        · exact (.cons rfl (.nil))
        · omega
        · omega
    · refine r_exit rfl ?_
      refine r_seq ?_
      refine r_region ?_
      refine s1 rfl (q_move rfl) ?_
      refine s1 rfl (q_assign rfl) ?_
      refine o_end ?_
      refine r_ret Tryz.func25 (res1 Tryz.results25 (res_tmp (s := 4) rfl)) (fun w hw => ?_)
      have hi : i = l.el.length := by omega
      subst hi
      exact ⟨rfl, hw.kp⟩
  · exact Nat.zero_le _

end Go.Proofs.YtecibcjckinngaaGreatDoor
/- What the checks of traces compute, as plain functions on the data. -/
set_option linter.unusedVariables false
namespace Go.Proofs.YtecibcjckinngaaGreatDoor
open Go Enc
def kindBad (e : EvM) : Prop := (e.kind < (1 : Int)) ∨ ((4 : Int) < e.kind)
def formBad (e : EvM) : Prop := ((e.kind ≠ (1 : Int)) ∧ ((0 : Int) < ((e.locals.el.length : Nat) : Int))) ∨ ((¬ ((e.kind = (3 : Int)) ∨ (e.kind = (4 : Int)))) ∧ (e.text ≠ (⟨#[]⟩ : ByteArray)))
def namesBad (e : EvM) : Prop := (¬ (dottedB e.mod = true)) ∨ (¬ (isNameB e.fn = true))
def rangeBad (e : EvM) (f : Int) : Prop := (e.line < (0 : Int)) ∨ (e.fuel < f)
instance (e : EvM) : Decidable (kindBad e) := by unfold kindBad; infer_instance
instance (e : EvM) : Decidable (formBad e) := by unfold formBad; infer_instance
instance (e : EvM) : Decidable (namesBad e) := by unfold namesBad; infer_instance
instance (e : EvM) (f : Int) : Decidable (rangeBad e f) := by unfold rangeBad; infer_instance
/-- The fault of an event apart from the functions that are active. -/
def shapeCode (e : EvM) (f : Int) : Int := if kindBad e then 5 else if formBad e then 6 else if namesBad e then 7 else if rangeBad e f then 4 else 0
theorem shape_a {e : EvM} {f : Int} (h1 : kindBad e) : shapeCode e f = 5 := if_pos h1
theorem shape_b {e : EvM} {f : Int} (h1 : ¬ kindBad e) (h2 : formBad e) : shapeCode e f = 6 := by rw [shapeCode, if_neg h1, if_pos h2]
theorem shape_c {e : EvM} {f : Int} (h1 : ¬ kindBad e) (h2 : ¬ formBad e) (h3 : namesBad e) : shapeCode e f = 7 := by rw [shapeCode, if_neg h1, if_neg h2, if_pos h3]
theorem shape_d {e : EvM} {f : Int} (h1 : ¬ kindBad e) (h2 : ¬ formBad e) (h3 : ¬ namesBad e) (h4 : rangeBad e f) : shapeCode e f = 4 := by rw [shapeCode, if_neg h1, if_neg h2, if_neg h3, if_pos h4]
theorem shape_e {e : EvM} {f : Int} (h1 : ¬ kindBad e) (h2 : ¬ formBad e) (h3 : ¬ namesBad e) (h4 : ¬ rangeBad e f) : shapeCode e f = 0 := by rw [shapeCode, if_neg h1, if_neg h2, if_neg h3, if_neg h4]
/-- The function of an event. -/
def funOf (e : EvM) : FunM := ⟨e.mod, e.fn⟩
/-- The active functions with the one that an event calls. -/
def pushed (a : List FunM) (e : EvM) : List FunM := if e.kind = 2 then a ++ [funOf e] else a
/-- The active functions behind an event. -/
def popped (a : List FunM) (e : EvM) : List FunM := if e.kind = 3 ∨ e.kind = 4 then a.take (a.length - 1) else a
def actN (l : List EvM) : Nat → List FunM
  | 0 => []
  | i + 1 => popped (pushed (actN l i) (nth l i)) (nth l i)
def fuelN (l : List EvM) : Nat → Int
  | 0 => 0
  | i + 1 => (nth l i).fuel
/-- The fault of an event, if those before it have none. -/
def evF (l : List EvM) (i : Nat) : Flt :=
  if shapeCode (nth l i) (fuelN l i) ≠ 0 then (shapeCode (nth l i) (fuelN l i), ((i : Nat) : Int))
  else if (((pushed (actN l i) (nth l i)).length : Nat) : Int) = 0 ∨ (nth l i).depth ≠ (((pushed (actN l i) (nth l i)).length : Nat) : Int) then (11, ((i : Nat) : Int))
  else if nth (pushed (actN l i) (nth l i)) ((pushed (actN l i) (nth l i)).length - 1) ≠ funOf (nth l i) then (19, ((i : Nat) : Int)) else (0, 0)
/-- The fault of a trace. -/
def traceFault (l : List EvM) : Flt := if (20000 : Int) < ((l.length : Nat) : Int) then (2, -1) else firstFault (evF l) l.length
theorem pushed_len (a : List FunM) (e : EvM) : (pushed a e).length ≤ a.length + 1 := by unfold pushed; split <;> simp
theorem popped_len (a : List FunM) (e : EvM) : (popped a e).length ≤ a.length := by unfold popped; split <;> simp
theorem actN_len (l : List EvM) : ∀ i, (actN l i).length ≤ i
  | 0 => Nat.le_refl _
  | i + 1 => by
    have h1 := actN_len l i
    have h2 := pushed_len (actN l i) (nth l i)
    have h3 := popped_len (pushed (actN l i) (nth l i)) (nth l i)
    simp only [actN]
    omega
theorem tr_len {l : List EvM} (h : (20000 : Int) < ((l.length : Nat) : Int)) : traceFault l = (2, -1) := if_pos h
theorem tr_at {l : List EvM} {i : Nat} {f : Flt} (h : ¬ (20000 : Int) < ((l.length : Nat) : Int)) (hb : ∀ j, j < i → (evF l j).1 = 0) (hi : i < l.length) (hf : evF l i = f) (hn : f.1 ≠ 0) : traceFault l = f := by
  subst hf; rw [traceFault, if_neg h, firstFault_at hb hi hn]
theorem tr_none {l : List EvM} (h : ¬ (20000 : Int) < ((l.length : Nat) : Int)) (hb : ∀ j, j < l.length → (evF l j).1 = 0) : traceFault l = (0, 0) := by
  rw [traceFault, if_neg h, firstFault_none hb]
theorem ev_a {l : List EvM} {i : Nat} (h : shapeCode (nth l i) (fuelN l i) ≠ 0) : evF l i = (shapeCode (nth l i) (fuelN l i), ((i : Nat) : Int)) := if_pos h
theorem ev_b {l : List EvM} {i : Nat} (h : ¬ shapeCode (nth l i) (fuelN l i) ≠ 0) (h2 : (((pushed (actN l i) (nth l i)).length : Nat) : Int) = 0 ∨ (nth l i).depth ≠ (((pushed (actN l i) (nth l i)).length : Nat) : Int)) : evF l i = (11, ((i : Nat) : Int)) := by rw [evF, if_neg h, if_pos h2]
theorem ev_c {l : List EvM} {i : Nat} (h : ¬ shapeCode (nth l i) (fuelN l i) ≠ 0) (h2 : ¬ ((((pushed (actN l i) (nth l i)).length : Nat) : Int) = 0 ∨ (nth l i).depth ≠ (((pushed (actN l i) (nth l i)).length : Nat) : Int))) (h3 : nth (pushed (actN l i) (nth l i)) ((pushed (actN l i) (nth l i)).length - 1) ≠ funOf (nth l i)) : evF l i = (19, ((i : Nat) : Int)) := by rw [evF, if_neg h, if_neg h2, if_pos h3]
theorem ev_d {l : List EvM} {i : Nat} (h : ¬ shapeCode (nth l i) (fuelN l i) ≠ 0) (h2 : ¬ ((((pushed (actN l i) (nth l i)).length : Nat) : Int) = 0 ∨ (nth l i).depth ≠ (((pushed (actN l i) (nth l i)).length : Nat) : Int))) (h3 : ¬ nth (pushed (actN l i) (nth l i)) ((pushed (actN l i) (nth l i)).length - 1) ≠ funOf (nth l i)) : (evF l i).1 = 0 := by rw [evF, if_neg h, if_neg h2, if_neg h3]
theorem fun_eq {a : FunM} {e : EvM} : a = funOf e ↔ (a.mod = e.mod ∧ a.fn = e.fn) := by
  cases a; simp [funOf]
theorem last_eq {a : List FunM} {e : EvM} : nth a (a.length - 1) = funOf e ↔ ((nth a (((a.length : Nat) : Int) - 1).toNat).mod = e.mod ∧ (nth a (((a.length : Nat) : Int) - 1).toNat).fn = e.fn) := by
  rw [fun_eq, show (((a.length : Nat) : Int) - 1).toNat = a.length - 1 from by omega]
theorem ev_c' {l : List EvM} {i : Nat} (h : shapeCode (nth l i) (fuelN l i) = 0) (h2 : ¬ ((((pushed (actN l i) (nth l i)).length : Nat) : Int) = 0 ∨ (nth l i).depth ≠ (((pushed (actN l i) (nth l i)).length : Nat) : Int))) (h3 : ¬ ((nth (pushed (actN l i) (nth l i)) ((((pushed (actN l i) (nth l i)).length : Nat) : Int) - 1).toNat).mod = (nth l i).mod ∧ (nth (pushed (actN l i) (nth l i)) ((((pushed (actN l i) (nth l i)).length : Nat) : Int) - 1).toNat).fn = (nth l i).fn)) : evF l i = (19, ((i : Nat) : Int)) :=
  ev_c (not_not_intro h) h2 (fun hq => h3 (last_eq.1 hq))
theorem ev_d' {l : List EvM} {i : Nat} (h : shapeCode (nth l i) (fuelN l i) = 0) (h2 : ¬ ((((pushed (actN l i) (nth l i)).length : Nat) : Int) = 0 ∨ (nth l i).depth ≠ (((pushed (actN l i) (nth l i)).length : Nat) : Int))) (h3 : ¬ ¬ ((nth (pushed (actN l i) (nth l i)) ((((pushed (actN l i) (nth l i)).length : Nat) : Int) - 1).toNat).mod = (nth l i).mod ∧ (nth (pushed (actN l i) (nth l i)) ((((pushed (actN l i) (nth l i)).length : Nat) : Int) - 1).toNat).fn = (nth l i).fn)) : (evF l i).1 = 0 :=
  ev_d (not_not_intro h) h2 (fun hq => h3 (fun hr => hq (last_eq.2 hr)))
theorem push_y {a : List FunM} {e : EvM} (h : e.kind = 2) : a ++ [(⟨e.mod, e.fn⟩ : FunM)] = pushed a e := (if_pos h).symm
theorem push_n {a : List FunM} {e : EvM} (h : ¬ e.kind = 2) : a = pushed a e := (if_neg h).symm
theorem pop_y {a : List FunM} {e : EvM} (h : e.kind = 3 ∨ e.kind = 4) : a.take (a.length - 1) = popped a e := (if_pos h).symm
theorem pop_n {a : List FunM} {e : EvM} (h : ¬ (e.kind = 3 ∨ e.kind = 4)) : a = popped a e := (if_neg h).symm
end Go.Proofs.YtecibcjckinngaaGreatDoor
/- Walks over the checks of traces. -/
set_option linter.unusedVariables false
namespace Go.Proofs.YtecibcjckinngaaGreatDoor
open Go Go.RowKit Enc
attribute [local irreducible] Effect OpsE RunE AnyE AnyAt Quiet Res1


theorem c28 (e : EvM) (f : Int) (w : World) (he : ok w e) (hT : Tabs w) (hs : e.mod.size ≤ 1048576 ∧ e.fn.size ≤ 1048576) : RetV Tryz.prog 28 #[.agg (enc e).toArray, .int .i64 f] w (.int .i64 (shapeCode e f)) := by
  have L0 := Sl.OK.le (EvM.OK.locals he) (by decide)
  refine calls_of (args := [.agg (enc e).toArray, .int .i64 f]) Tryz.func28 rfl Tryz.ntmps28 rfl (H := [(100, .fz (fun w => ok w e)), (199, .fz (fun w => Tabs w))]) (Facts.sep (.cons (supp_ok he) (.cons (supp_tabs hT) (.nil)))) ?_
  refine r_seq ?_
  refine r_region ?_
  refine sx rfl (e_box rfl (cs := enc e) rfl) (fun g1 _ => ?_)
  refine s1 rfl (q_assign rfl) ?_
  refine o_end ?_
  refine r_seq ?_
  refine r_cut [(1, .int .i64 f), (2, .pointer (some ⟨g1, 0, none⟩)), (5, .bool (decide ((e.kind = (3 : Int)) ∨ (e.kind = (4 : Int)))))] [(100, .fz (fun w => ok w e)), (199, .fz (fun w => Tabs w)), (2, .box g1 (enc e) 42)] ?_ (fun key => ?_)
  · refine r_seq ?_
    refine r_block ?_
    refine r_seq ?_
    refine r_cut [(1, .int .i64 f), (2, .pointer (some ⟨g1, 0, none⟩)), (5, .bool (decide ((e.kind = (3 : Int)) ∨ (e.kind = (4 : Int))))), (14, .bool (decide ((e.kind < (1 : Int)) ∨ ((4 : Int) < e.kind))))] [(100, .fz (fun w => ok w e)), (199, .fz (fun w => Tabs w)), (2, .box g1 (enc e) 42)] ?_ (fun key => ?_)
    · refine r_if rfl (fun hp1 => ?_) (fun hp1 => ?_)
      · refine r_seq ?_
        refine r_region ?_
        refine s1 rfl (q_assign rfl) ?_
        refine o_end ?_
        refine r_ret Tryz.func28 (res1 Tryz.results28 (res_tmp (s := 4) rfl)) (fun w hw => ?_)
        exact ⟨ret_int (shape_a hp1).symm, hw.kp⟩
      · refine r_seq ?_
        refine r_cut [(1, .int .i64 f), (2, .pointer (some ⟨g1, 0, none⟩)), (23, .bool (decide (((¬ (e.kind = (1 : Int))) ∧ ((0 : Int) < ((e.locals.el.length : Nat) : Int))) ∨ ((¬ ((e.kind = (3 : Int)) ∨ (e.kind = (4 : Int)))) ∧ (e.text ≠ (⟨#[]⟩ : ByteArray))))))] [(100, .fz (fun w => ok w e)), (199, .fz (fun w => Tabs w)), (2, .box g1 (enc e) 42)] ?_ (fun key => ?_)
        · refine r_if rfl (fun hp2 => ?_) (fun hp2 => ?_)
          · refine r_seq ?_
            refine r_region ?_
            refine s1 rfl (q_assign rfl) ?_
            refine o_end ?_
            refine r_ret Tryz.func28 (res1 Tryz.results28 (res_tmp (s := 4) rfl)) (fun w hw => ?_)
            exact ⟨ret_int (shape_b hp1 hp2).symm, hw.kp⟩
          · refine r_seq ?_
            refine r_cut [(1, .int .i64 f), (2, .pointer (some ⟨g1, 0, none⟩)), (42, .bool (decide ((¬ (dottedB e.mod = true)) ∨ (¬ (isNameB e.fn = true)))))] [(100, .fz (fun w => ok w e)), (199, .fz (fun w => Tabs w)), (2, .box g1 (enc e) 42)] ?_ (fun key => ?_)
            · refine r_if rfl (fun hp3 => ?_) (fun hp3 => ?_)
              · refine r_seq ?_
                refine r_region ?_
                refine s1 rfl (q_assign rfl) ?_
                refine o_end ?_
                refine r_ret Tryz.func28 (res1 Tryz.results28 (res_tmp (s := 4) rfl)) (fun w hw => ?_)
                exact ⟨ret_int (shape_c hp1 hp2 hp3).symm, hw.kp⟩
              · refine r_seq ?_
                refine r_cut [(53, .bool (decide ((e.line < (0 : Int)) ∨ (e.fuel < f))))] [(100, .fz (fun w => ok w e)), (199, .fz (fun w => Tabs w)), (2, .box g1 (enc e) 42)] ?_ (fun key => ?_)
                · refine r_if rfl (fun hp4 => ?_) (fun hp4 => ?_)
                  · refine r_seq ?_
                    refine r_region ?_
                    refine s1 rfl (q_assign rfl) ?_
                    refine o_end ?_
                    refine r_ret Tryz.func28 (res1 Tryz.results28 (res_tmp (s := 4) rfl)) (fun w hw => ?_)
                    exact ⟨ret_int (shape_d hp1 hp2 hp3 hp4).symm, hw.kp⟩
                  · refine r_skip ?_
                    refine r_inBlock ?_
                    refine r_seq ?_
                    refine r_region ?_
                    refine s1 rfl (q_assign rfl) ?_
                    refine o_end ?_
                    refine r_ret Tryz.func28 (res1 Tryz.results28 (res_tmp (s := 4) rfl)) (fun w hw => ?_)
                    exact ⟨ret_int (shape_e hp1 hp2 hp3 hp4).symm, hw.kp⟩
                · refine r_region ?_
                  refine s1 rfl (q_fieldAddr of42_3 rfl rfl) ?_
                  refine s1 rfl (q_load ag3 rfl (fun w hw => hw.box (tg := 2) rfl rfl)) ?_
                  refine s1 rfl (q_lss rfl rfl) ?_
                  refine s1 rfl (q_move rfl) ?_
                  refine g_split (s := 57) rfl (fun hp5 => ?_) (fun hp5 => ?_)
                  · refine g_off rfl rfl rfl ?_
                    iterate 3 refine g_off rfl rfl rfl ?_
                    refine s1 rfl (q_pickt rfl rfl) ?_
                    refine s1 rfl (q_assign rfl) ?_
                    refine o_end ?_
                    exact key.weaken (.consE rfl (congrArg Value.bool (decide_eq_true (Or.inl hp5)).symm) (.nil)) (.cons rfl (.cons rfl (.cons rfl (.nil))))
                  · refine g_on rfl rfl ?_
                    refine s1 rfl (q_fieldAddr of42_5 rfl rfl) ?_
                    refine g_on rfl rfl ?_
                    refine s1 rfl (q_load ag3 rfl (fun w hw => hw.box (tg := 2) rfl rfl)) ?_
                    refine g_on rfl rfl ?_
                    refine s1 rfl (q_move rfl) ?_
                    refine g_on rfl rfl ?_
                    refine s1 rfl (q_lss rfl rfl) ?_
                    refine s1 rfl (q_pickf rfl rfl) ?_
                    refine s1 rfl (q_assign rfl) ?_
                    refine o_end ?_
                    exact key.weaken (.consE rfl (congrArg Value.bool (by first | (simp only [hp5, ne_eq, not_true_eq_false, not_false_eq_true, true_or, or_true, false_or, or_false, true_and, and_true, false_and, and_false, Bool.decide_eq_true] <;> first | exact nb_dec _ | exact b_dec _ | (simp; done)) | exact nb_dec _ | exact b_dec _ | (simp; done) | (exfalso; omega))) (.nil)) (.cons rfl (.cons rfl (.cons rfl (.nil))))
            · refine r_region ?_
              refine s1 rfl (q_fieldAddr of42_1 rfl rfl) ?_
              refine s1 rfl (q_load ag9 rfl (fun w hw => hw.box (tg := 2) rfl rfl)) ?_
              refine sx rfl (e_call en51 (.cons rfl (.nil)) ((fun w hw => c51 e.mod w (by omega) (hw.get_fz (t := 199) rfl)))) (fun _ _ => ?_)
              refine s1 rfl (q_notb rfl) ?_
              refine s1 rfl (q_move rfl) ?_
              refine g_splitb (s := 47) rfl (fun hp6 => ?_) (fun hp6 => ?_)
              · refine g_off rfl rfl rfl ?_
                iterate 3 refine g_off rfl rfl rfl ?_
                refine s1 rfl (q_pickt rfl rfl) ?_
                refine s1 rfl (q_assign rfl) ?_
                refine o_end ?_
                exact key.weaken (.cons rfl (.cons rfl (.consE rfl (congrArg Value.bool (decide_eq_true (Or.inl (nb_t hp6))).symm) (.nil)))) (.cons rfl (.cons rfl (.cons rfl (.nil))))
              · refine g_on rfl rfl ?_
                refine s1 rfl (q_fieldAddr of42_2 rfl rfl) ?_
                refine g_on rfl rfl ?_
                refine s1 rfl (q_load ag9 rfl (fun w hw => hw.box (tg := 2) rfl rfl)) ?_
                refine g_on rfl rfl ?_
                refine sx rfl (e_call en42 (.cons rfl (.nil)) ((fun w hw => c42 e.fn w (by omega)))) (fun _ _ => ?_)
                refine g_on rfl rfl ?_
                refine s1 rfl (q_notb rfl) ?_
                refine s1 rfl (q_pickf rfl rfl) ?_
                refine s1 rfl (q_assign rfl) ?_
                refine o_end ?_
                exact key.weaken (.cons rfl (.cons rfl (.consE rfl (congrArg Value.bool (by first | (simp only [(nb_f hp6), (Decidable.not_not.1 (nb_f hp6)), ne_eq, not_true_eq_false, not_false_eq_true, true_or, or_true, false_or, or_false, true_and, and_true, false_and, and_false, Bool.decide_eq_true] <;> first | exact nb_dec _ | exact b_dec _ | (simp; done)) | exact nb_dec _ | exact b_dec _ | (simp; done) | (exfalso; omega))) (.nil)))) (.cons rfl (.cons rfl (.cons rfl (.nil))))
        · refine r_region ?_
          refine s1 rfl (q_fieldAddr of42_0 rfl rfl) ?_
          refine s1 rfl (q_load ag3 rfl (fun w hw => hw.box (tg := 2) rfl rfl)) ?_
          refine s1 rfl (q_neq rfl rfl) ?_
          refine s1 rfl (q_move rfl) ?_
          refine g_split (s := 27) rfl (fun hp7 => ?_) (fun hp7 => ?_)
          · refine g_on rfl rfl ?_
            refine s1 rfl (q_fieldAddr of42_7 rfl rfl) ?_
            refine g_on rfl rfl ?_
            refine s1 rfl (q_load ag40 rfl (fun w hw => hw.box (tg := 2) rfl rfl)) ?_
            refine g_on rfl rfl ?_
            refine s1 rfl (q_len Tryz.underlying40 rfl) ?_
            refine g_on rfl rfl ?_
            refine s1 rfl (q_gtr rfl rfl) ?_
            refine s1 rfl (q_pickt rfl rfl) ?_
            refine s1 rfl (q_move rfl) ?_
            refine g_split (s := 33) rfl (fun hp8 => ?_) (fun hp8 => ?_)
            · refine g_off rfl rfl rfl ?_
              refine g_off rfl rfl rfl ?_
              refine g_off rfl rfl rfl ?_
              iterate 3 refine g_offu rfl rfl rfl ?_
              refine g_off rfl rfl rfl ?_
              refine s1 rfl (q_pickt rfl rfl) ?_
              refine s1 rfl (q_assign rfl) ?_
              refine o_end ?_
              exact key.weaken (.cons rfl (.cons rfl (.consE rfl (congrArg Value.bool (decide_eq_true (Or.inl ⟨hp7, hp8⟩)).symm) (.nil)))) (.cons rfl (.cons rfl (.cons rfl (.nil))))
            · refine g_on rfl rfl ?_
              refine s1 rfl (q_move rfl) ?_
              refine g_on rfl rfl ?_
              refine s1 rfl (q_not rfl) ?_
              refine g_on rfl rfl ?_
              refine s1 rfl (q_move rfl) ?_
              refine g_split (s := 36) rfl (fun hp9 => ?_) (fun hp9 => ?_)
              · refine g_on rfl rfl ?_
                refine s1 rfl (q_fieldAddr of42_6 rfl rfl) ?_
                refine g_on rfl rfl ?_
                refine s1 rfl (q_load ag9 rfl (fun w hw => hw.box (tg := 2) rfl rfl)) ?_
                refine g_on rfl rfl ?_
                refine s1 rfl (q_sneq rfl rfl) ?_
                refine g_on rfl rfl ?_
                refine s1 rfl (q_pickt rfl rfl) ?_
                refine s1 rfl (q_pickf rfl rfl) ?_
                refine s1 rfl (q_assign rfl) ?_
                refine o_end ?_
                exact key.weaken (.cons rfl (.cons rfl (.consE rfl (congrArg Value.bool (by first | (simp only [hp7, hp8, hp9, (fun h => hp9 (Or.inl h)), (fun h => hp9 (Or.inr h)), ne_eq, not_true_eq_false, not_false_eq_true, true_or, or_true, false_or, or_false, true_and, and_true, false_and, and_false, Bool.decide_eq_true] <;> first | exact nb_dec _ | exact b_dec _ | (simp; done)) | exact nb_dec _ | exact b_dec _ | (simp; done) | (exfalso; omega))) (.nil)))) (.cons rfl (.cons rfl (.cons rfl (.nil))))
              · refine g_off rfl rfl rfl ?_
                refine g_off rfl rfl rfl ?_
                refine g_off rfl rfl rfl ?_
                refine g_on rfl rfl ?_
                refine s1 rfl (q_pickf rfl rfl) ?_
                refine s1 rfl (q_pickf rfl rfl) ?_
                refine s1 rfl (q_assign rfl) ?_
                refine o_end ?_
                exact key.weaken (.cons rfl (.cons rfl (.consE rfl (congrArg Value.bool (decide_eq_false (fun h => h.elim (fun h => hp8 h.2) (fun h => hp9 h.1))).symm) (.nil)))) (.cons rfl (.cons rfl (.cons rfl (.nil))))
          · refine g_off rfl rfl rfl ?_
            iterate 3 refine g_off rfl rfl rfl ?_
            refine s1 rfl (q_pickf rfl rfl) ?_
            refine s1 rfl (q_move rfl) ?_
            refine g_on rfl rfl ?_
            refine s1 rfl (q_move rfl) ?_
            refine g_on rfl rfl ?_
            refine s1 rfl (q_not rfl) ?_
            refine g_on rfl rfl ?_
            refine s1 rfl (q_move rfl) ?_
            refine g_split (s := 36) rfl (fun hp10 => ?_) (fun hp10 => ?_)
            · refine g_on rfl rfl ?_
              refine s1 rfl (q_fieldAddr of42_6 rfl rfl) ?_
              refine g_on rfl rfl ?_
              refine s1 rfl (q_load ag9 rfl (fun w hw => hw.box (tg := 2) rfl rfl)) ?_
              refine g_on rfl rfl ?_
              refine s1 rfl (q_sneq rfl rfl) ?_
              refine g_on rfl rfl ?_
              refine s1 rfl (q_pickt rfl rfl) ?_
              refine s1 rfl (q_pickf rfl rfl) ?_
              refine s1 rfl (q_assign rfl) ?_
              refine o_end ?_
              exact key.weaken (.cons rfl (.cons rfl (.consE rfl (congrArg Value.bool (by first | (simp only [hp7, (Decidable.not_not.1 hp7), hp10, (fun h => hp10 (Or.inl h)), (fun h => hp10 (Or.inr h)), ne_eq, not_true_eq_false, not_false_eq_true, true_or, or_true, false_or, or_false, true_and, and_true, false_and, and_false, Bool.decide_eq_true] <;> first | exact nb_dec _ | exact b_dec _ | (simp; done)) | exact nb_dec _ | exact b_dec _ | (simp; done) | (exfalso; omega))) (.nil)))) (.cons rfl (.cons rfl (.cons rfl (.nil))))
            · refine g_off rfl rfl rfl ?_
              refine g_off rfl rfl rfl ?_
              refine g_off rfl rfl rfl ?_
              refine g_on rfl rfl ?_
              refine s1 rfl (q_pickf rfl rfl) ?_
              refine s1 rfl (q_pickf rfl rfl) ?_
              refine s1 rfl (q_assign rfl) ?_
              refine o_end ?_
              exact key.weaken (.cons rfl (.cons rfl (.consE rfl (congrArg Value.bool (decide_eq_false (fun h => h.elim (fun h => hp7 h.1) (fun h => hp10 h.1))).symm) (.nil)))) (.cons rfl (.cons rfl (.cons rfl (.nil))))
    · refine r_region ?_
      refine s1 rfl (q_fieldAddr of42_0 rfl rfl) ?_
      refine s1 rfl (q_load ag3 rfl (fun w hw => hw.box (tg := 2) rfl rfl)) ?_
      refine s1 rfl (q_lss rfl rfl) ?_
      refine s1 rfl (q_move rfl) ?_
      refine g_split (s := 18) rfl (fun hp11 => ?_) (fun hp11 => ?_)
      · refine g_off rfl rfl rfl ?_
        refine g_off rfl rfl rfl ?_
        refine g_off rfl rfl rfl ?_
        refine s1 rfl (q_pickt rfl rfl) ?_
        refine s1 rfl (q_assign rfl) ?_
        refine o_end ?_
        exact key.weaken (.cons rfl (.cons rfl (.cons rfl (.consE rfl (congrArg Value.bool (decide_eq_true (Or.inl hp11)).symm) (.nil))))) (.cons rfl (.cons rfl (.cons rfl (.nil))))
      · refine g_on rfl rfl ?_
        refine s1 rfl (q_fieldAddr of42_0 rfl rfl) ?_
        refine g_on rfl rfl ?_
        refine s1 rfl (q_load ag3 rfl (fun w hw => hw.box (tg := 2) rfl rfl)) ?_
        refine g_on rfl rfl ?_
        refine s1 rfl (q_gtr rfl rfl) ?_
        refine s1 rfl (q_pickf rfl rfl) ?_
        refine s1 rfl (q_assign rfl) ?_
        refine o_end ?_
        exact key.weaken (.cons rfl (.cons rfl (.cons rfl (.consE rfl (congrArg Value.bool (by first | (simp only [hp11, ne_eq, not_true_eq_false, not_false_eq_true, true_or, or_true, false_or, or_false, true_and, and_true, false_and, and_false, Bool.decide_eq_true] <;> first | exact nb_dec _ | exact b_dec _ | (simp; done)) | exact nb_dec _ | exact b_dec _ | (simp; done) | (exfalso; omega))) (.nil))))) (.cons rfl (.cons rfl (.cons rfl (.nil))))
  · refine r_region ?_
    refine s1 rfl (q_fieldAddr of42_0 rfl rfl) ?_
    refine s1 rfl (q_load ag3 rfl (fun w hw => hw.box (tg := 2) rfl rfl)) ?_
    refine s1 rfl (q_eql rfl rfl) ?_
    refine s1 rfl (q_move rfl) ?_
    refine g_split (s := 9) rfl (fun hp12 => ?_) (fun hp12 => ?_)
    · refine g_off rfl rfl rfl ?_
      refine g_off rfl rfl rfl ?_
      refine g_off rfl rfl rfl ?_
      refine s1 rfl (q_pickt rfl rfl) ?_
      refine s1 rfl (q_assign rfl) ?_
      refine o_end ?_
      exact key.weaken (.cons rfl (.cons rfl (.consE rfl (congrArg Value.bool (decide_eq_true (Or.inl hp12)).symm) (.nil)))) (.cons rfl (.cons rfl (.cons rfl (.nil))))
    · refine g_on rfl rfl ?_
      refine s1 rfl (q_fieldAddr of42_0 rfl rfl) ?_
      refine g_on rfl rfl ?_
      refine s1 rfl (q_load ag3 rfl (fun w hw => hw.box (tg := 2) rfl rfl)) ?_
      refine g_on rfl rfl ?_
      refine s1 rfl (q_eql rfl rfl) ?_
      refine s1 rfl (q_pickf rfl rfl) ?_
      refine s1 rfl (q_assign rfl) ?_
      refine o_end ?_
      exact key.weaken (.cons rfl (.cons rfl (.consE rfl (congrArg Value.bool (by first | (simp only [hp12, ne_eq, not_true_eq_false, not_false_eq_true, true_or, or_true, false_or, or_false, true_and, and_true, false_and, and_false, Bool.decide_eq_true] <;> first | exact nb_dec _ | exact b_dec _ | (simp; done)) | exact nb_dec _ | exact b_dec _ | (simp; done) | (exfalso; omega))) (.nil)))) (.cons rfl (.cons rfl (.cons rfl (.nil))))


theorem c29 (e : EvM) (w : World) (he : ok w e) : RetV Tryz.prog 29 #[.agg (enc e).toArray] w (.agg (enc (⟨e.mod, e.fn⟩ : FunM)).toArray) := by
  refine calls_of (args := [.agg (enc e).toArray]) Tryz.func29 rfl Tryz.ntmps29 rfl (H := [(100, .fz (fun w => ok w e))]) (Facts.sep (.cons (supp_ok he) (.nil))) ?_
  refine r_seq ?_
  refine r_region ?_
  refine sx rfl (e_box rfl (cs := enc e) rfl) (fun g1 _ => ?_)
  refine sx rfl (e_alloc zz71) (fun g2 _ => ?_)
  refine o_end ?_
  refine r_seq ?_
  refine r_region ?_
  refine s1 rfl (q_fieldAddr of42_1 rfl rfl) ?_
  refine s1 rfl (q_load ag9 rfl (fun w hw => hw.box (tg := 1) rfl rfl)) ?_
  refine s1 rfl (q_fieldAddr of42_2 rfl rfl) ?_
  refine s1 rfl (q_load ag9 rfl (fun w hw => hw.box (tg := 1) rfl rfl)) ?_
  refine s1 rfl (q_build (cs := [.string e.mod, .string e.fn]) (.cons rfl (.cons rfl (.nil))) (by kernel_rfl)) ?_
  refine sxn (e_store (tg := 2) (news := [.string e.mod, .string e.fn]) rfl rfl rfl rfl z71 rfl rfl (.cons (.cons (.nil _)))) (fun _ _ => ?_)
  refine o_end ?_
  refine r_ret Tryz.func29 (res1 Tryz.results29 (res_cell (cs := [.string e.mod, .string e.fn]) ag71 z71 rfl (s := 2) (tg := 2) rfl rfl)) (fun w hw => ?_)
  exact ⟨rfl, hw.kp⟩


theorem c10 (l : Sl EvM) (w : World) (hl : ok w l) (hT : Tabs w) (hs : ∀ e ∈ l.el, e.mod.size ≤ 1048576 ∧ e.fn.size ≤ 1048576) : RetV Tryz.prog 10 #[.slice l.addr l.el.length l.cap] w (fv (traceFault l.el)) := by
  have L0 := Sl.OK.le hl (by decide)
  refine calls_of (args := [.slice l.addr l.el.length l.cap]) Tryz.func10 rfl Tryz.ntmps10 rfl (H := [(100, .fz (fun w => ok w l)), (199, .fz (fun w => Tabs w))]) (Facts.sep (.cons (supp_ok hl) (.cons (supp_tabs hT) (.nil)))) ?_
  refine r_seq ?_
  refine r_region ?_
  refine sx rfl (e_alloc zz25) (fun g1 _ => ?_)
  refine o_end ?_
  refine r_seq ?_
  refine r_seq ?_
  refine r_region ?_
  refine s1 rfl (q_move rfl) ?_
  refine s1 rfl (q_len Tryz.underlying22 rfl) ?_
  refine s1 rfl (q_gtr rfl rfl) ?_
  refine o_end ?_
  refine r_if rfl (fun hp1 => ?_) (fun hp1 => ?_)
  · refine r_seq ?_
    refine r_region ?_
    refine s1 rfl (q_build (cs := [.int .i64 (2 : Int), .int .i64 (-1 : Int)]) (.cons rfl (.cons rfl (.nil))) (by kernel_rfl)) ?_
    refine sxn (e_store (tg := 2) (news := [.int .i64 (2 : Int), .int .i64 (-1 : Int)]) rfl rfl rfl rfl z25 rfl rfl (.cons (.cons (.nil _)))) (fun _ _ => ?_)
    refine o_end ?_
    refine r_ret Tryz.func10 (res1 Tryz.results10 (res_cell (cs := [.int .i64 (2 : Int), .int .i64 (-1 : Int)]) ag25 z25 rfl (s := 2) (tg := 2) rfl rfl)) (fun w hw => ?_)
    exact ⟨ret_flt (tr_len hp1).symm, hw.kp⟩
  · refine r_skip ?_
    refine r_seq ?_
    refine r_region ?_
    refine s1 rfl (q_assign rfl) ?_
    refine o_end ?_
    refine r_seq ?_
    refine r_region ?_
    refine s1 rfl (q_assign rfl) ?_
    refine o_end ?_
    refine r_seq ?_
    refine r_seq ?_
    refine r_region ?_
    refine s1 rfl (q_move rfl) ?_
    refine s1 rfl (q_len Tryz.underlying22 rfl) ?_
    refine s1 rfl (q_move rfl) ?_
    refine o_end ?_
    refine r_block ?_
    refine r_know (fun w hw => hw.nilRow 500 71 2) ?_
    refine r_loop ?_
    refine RunE.weaken ?_ ?_ (r_rounds3 (fun (i : Nat) (a2 : Option Addr) (c3 : Nat) => [(2, .pointer (some ⟨g1, 0, none⟩)), (3, .slice a2 ((actN l.el i).length) c3), (4, .int .i64 (fuelN l.el i)), (13, .slice l.addr l.el.length l.cap), (14, .int .i64 ((l.el.length : Nat) : Int)), (15, .int .i64 ((i : Nat) : Int))]) (fun (i : Nat) (a2 : Option Addr) (c3 : Nat) => [(100, .fz (fun w => ok w l)), (199, .fz (fun w => Tabs w)), (2, .box g1 [.int .i64 (0 : Int), .int .i64 (0 : Int)] 25), (500, .row 71 2 a2 ((actN l.el i).length) c3 (encs (actN l.el i)))]) (fun (i : Nat) (a2 : Option Addr) (c3 : Nat) => i ≤ l.el.length ∧ ∀ j, j < i → (evF l.el j).1 = 0) (fun (i : Nat) (a2 : Option Addr) (c3 : Nat) => l.el.length - i) ?_ 0 none 0 ?_)
    · exact (.cons rfl (.cons rfl (.cons rfl (.cons rfl (.cons rfl (.cons rfl (.nil)))))))
    · exact (.cons rfl (.cons rfl (.cons rfl (.cons rfl (.nil)))))
    · intro i a2 c3 hI0 ih0
      obtain ⟨hI1, hI2⟩ := hI0
      have hA := actN_len l.el i
      have hP := pushed_len (actN l.el i) (nth l.el i)
      refine r_seq ?_
      refine r_region ?_
      refine s1 rfl (q_lss rfl rfl) ?_
      refine o_end ?_
      refine r_seq ?_
      refine r_if rfl (fun hp2 => ?_) (fun hp2 => ?_)
      · refine r_skip ?_
        refine r_seq ?_
        refine r_block ?_
        refine r_seq ?_
        refine r_region ?_
        refine s1 rfl (q_move rfl) ?_
        refine s1 rfl (q_indexAddr Tryz.underlying22 z42 rfl rfl rfl (by omega) (by omega) (fun w hw => Sl.OK.isSome (hw.get_fz (t := 100) rfl) (by decide) (i := i) (by omega))) ?_
        refine s1 rfl (q_loads (cs := enc (nth l.el i)) ag42 z42 rfl rfl (fun w hw => Sl.OK.cells (hw.get_fz (t := 100) rfl) (i := i) (by omega))) ?_
        refine sx rfl (e_alloc zz42) (fun g4 _ => ?_)
        refine s1 rfl (q_assign rfl) ?_
        refine sxn (e_store (tg := 6) (news := enc (nth l.el i)) rfl rfl rfl rfl z42 rfl rfl (.cons (.cons (.cons (.cons (.cons (.cons (.cons (.cons (.nil _)))))))))) (fun _ _ => ?_)
        refine o_end ?_
        refine r_seq ?_
        refine r_region ?_
        refine s1 rfl (q_loads (cs := enc (nth l.el i)) ag42 z42 rfl rfl (fun w hw => hw.boxes (tg := 6) rfl)) ?_
        refine s1 rfl (q_move rfl) ?_
        refine sx rfl (e_call en28 (.cons rfl (.cons rfl (.nil))) ((fun w hw => c28 (nth l.el i) (fuelN l.el i) w (Sl.OK.nthOK (hw.get_fz (t := 100) rfl) (i := i) (by omega)) (hw.get_fz (t := 199) rfl) (by exact hs _ (nth_mem (i := i) (by omega)))))) (fun _ _ => ?_)
        refine s1 rfl (q_assign rfl) ?_
        refine o_end ?_
        refine r_seq ?_
        refine r_region ?_
        refine s1 rfl (q_fieldAddr of42_5 rfl rfl) ?_
        refine s1 rfl (q_load ag3 rfl (fun w hw => hw.box (tg := 6) rfl rfl)) ?_
        refine s1 rfl (q_assign rfl) ?_
        refine o_end ?_
        refine r_seq ?_
        refine r_seq ?_
        refine r_cut [(2, .pointer (some ⟨g1, 0, none⟩)), (3, .slice a2 ((actN l.el i).length) c3), (4, .int .i64 ((nth l.el i).fuel)), (5, .int .i64 ((i : Nat) : Int)), (6, .pointer (some ⟨g4, 0, none⟩)), (7, .int .i64 (shapeCode (nth l.el i) (fuelN l.el i))), (13, .slice l.addr l.el.length l.cap), (14, .int .i64 ((l.el.length : Nat) : Int)), (15, .int .i64 ((i : Nat) : Int)), (31, .bool (decide ((shapeCode (nth l.el i) (fuelN l.el i) = (0 : Int)) ∧ ((nth l.el i).kind = (2 : Int)))))] [(100, .fz (fun w => ok w l)), (199, .fz (fun w => Tabs w)), (2, .box g1 [.int .i64 (0 : Int), .int .i64 (0 : Int)] 25), (500, .row 71 2 a2 ((actN l.el i).length) c3 (encs (actN l.el i))), (6, .box g4 (enc (nth l.el i)) 42)] ?_ (fun key => ?_)
        · refine r_if rfl (fun hp3 => ?_) (fun hp3 => ?_)
          · refine r_region ?_
            refine s1 rfl (q_move rfl) ?_
            refine s1 rfl (q_loads (cs := enc (nth l.el i)) ag42 z42 rfl rfl (fun w hw => hw.boxes (tg := 6) rfl)) ?_
            refine sx rfl (e_call en29 (.cons rfl (.nil)) ((fun w hw => c29 (nth l.el i) w (Sl.OK.nthOK (hw.get_fz (t := 100) rfl) (i := i) (by omega))))) (fun _ _ => ?_)
            refine sx rfl (e_bslice (cs := encs ([(⟨(nth l.el i).mod, (nth l.el i).fn⟩ : FunM)] : List FunM)) Tryz.underlying68 zi71 (.cons rfl (.nil)) (by kernel_rfl) rfl rfl rfl) (fun g5 _ => ?_)
            refine sx rfl (e_appendL (tg := 500) (l := actN l.el i) (l' := ([(⟨(nth l.el i).mod, (nth l.el i).fn⟩ : FunM)] : List FunM)) Tryz.underlying68 in71 rfl rfl rfl rfl rfl rfl rfl (fun w hw => Shows.row (hw.row (tg := 35) rfl)) (by simp only [List.length_cons, List.length_nil]; omega)) (fun ⟨a6, c7⟩ _ => ?_)
            rw [show (actN l.el i) ++ ([(⟨(nth l.el i).mod, (nth l.el i).fn⟩ : FunM)] : List FunM) = pushed (actN l.el i) (nth l.el i) from (push_y (And.right (by assumption)))]
            refine s1 rfl (q_assign rfl) ?_
            refine o_end ?_
            refine r_seq ?_
            refine r_region ?_
            refine s1 rfl (q_move rfl) ?_
            refine s1 rfl (q_len Tryz.underlying68 rfl) ?_
            refine s1 rfl (q_assign rfl) ?_
            refine o_end ?_
            refine r_seq ?_
            refine r_seq ?_
            refine r_region ?_
            refine s1 rfl (q_move rfl) ?_
            refine s1 rfl (q_eql rfl rfl) ?_
            refine o_end ?_
            refine r_ifT rfl (hp3.1) ?_
            refine r_block ?_
            refine r_seq ?_
            refine r_cut [(2, .pointer (some ⟨g1, 0, none⟩)), (3, .slice a6 ((pushed (actN l.el i) (nth l.el i)).length) c7), (4, .int .i64 ((nth l.el i).fuel)), (5, .int .i64 ((i : Nat) : Int)), (6, .pointer (some ⟨g4, 0, none⟩)), (7, .int .i64 (shapeCode (nth l.el i) (fuelN l.el i))), (8, .int .i64 (((pushed (actN l.el i) (nth l.el i)).length : Nat) : Int)), (13, .slice l.addr l.el.length l.cap), (14, .int .i64 ((l.el.length : Nat) : Int)), (15, .int .i64 ((i : Nat) : Int)), (41, .bool (decide (((((pushed (actN l.el i) (nth l.el i)).length : Nat) : Int) = (0 : Int)) ∨ (¬ ((nth l.el i).depth = (((pushed (actN l.el i) (nth l.el i)).length : Nat) : Int))))))] [(100, .fz (fun w => ok w l)), (199, .fz (fun w => Tabs w)), (2, .box g1 [.int .i64 (0 : Int), .int .i64 (0 : Int)] 25), (500, .row 71 2 a6 ((pushed (actN l.el i) (nth l.el i)).length) c7 (encs (pushed (actN l.el i) (nth l.el i)))), (6, .box g4 (enc (nth l.el i)) 42), (35, .row 71 2 (some ⟨g5, 0, none⟩) (([(⟨(nth l.el i).mod, (nth l.el i).fn⟩ : FunM)] : List FunM).length) 1 (encs ([(⟨(nth l.el i).mod, (nth l.el i).fn⟩ : FunM)] : List FunM)))] ?_ (fun key => ?_)
            · refine r_if rfl (fun hp4 => ?_) (fun hp4 => ?_)
              · refine r_region ?_
                refine s1 rfl (q_assign rfl) ?_
                refine o_end ?_
                refine r_inBlock ?_
                refine r_seq ?_
                refine r_seq ?_
                refine r_region ?_
                refine s1 rfl (q_move rfl) ?_
                refine s1 rfl (q_neq rfl rfl) ?_
                refine o_end ?_
                refine r_ifT rfl (by decide) ?_
                refine r_seq ?_
                refine r_region ?_
                refine s1 rfl (q_move rfl) ?_
                refine s1 rfl (q_move rfl) ?_
                refine s1 rfl (q_build (cs := [.int .i64 (11 : Int), .int .i64 ((i : Nat) : Int)]) (.cons rfl (.cons rfl (.nil))) (by kernel_rfl)) ?_
                refine sxn (e_store (tg := 2) (news := [.int .i64 (11 : Int), .int .i64 ((i : Nat) : Int)]) rfl rfl rfl rfl z25 rfl rfl (.cons (.cons (.nil _)))) (fun _ _ => ?_)
                refine o_end ?_
                refine r_ret Tryz.func10 (res1 Tryz.results10 (res_cell (cs := [.int .i64 (11 : Int), .int .i64 ((i : Nat) : Int)]) ag25 z25 rfl (s := 2) (tg := 2) rfl rfl)) (fun w hw => ?_)
                exact ⟨ret_flt (tr_at (f := (11, ((i : Nat) : Int))) hp1 hI2 (by omega) (ev_b (by omega) (by assumption)) (by simp)).symm, hw.kp⟩
              · refine r_seq ?_
                refine r_draw [(100, .fz (fun w => ok w l)), (199, .fz (fun w => Tabs w)), (2, .box g1 [.int .i64 (0 : Int), .int .i64 (0 : Int)] 25), (500, .row 71 2 a6 ((pushed (actN l.el i) (nth l.el i)).length) c7 (encs (pushed (actN l.el i) (nth l.el i)))), (6, .box g4 (enc (nth l.el i)) 42), (35, .row 71 2 (some ⟨g5, 0, none⟩) (([(⟨(nth l.el i).mod, (nth l.el i).fn⟩ : FunM)] : List FunM).length) 1 (encs ([(⟨(nth l.el i).mod, (nth l.el i).fn⟩ : FunM)] : List FunM)))] (by kernel_rfl) rfl (.cons rfl (.cons rfl (.cons rfl (.cons rfl (.cons rfl (.cons rfl (.nil))))))) ?_
                refine d1 0 rfl (by kernel_rfl) rfl rfl (q_move rfl) ?_
                refine d1 1 rfl (by kernel_rfl) rfl rfl (q_move rfl) ?_
                refine d1 2 rfl (by kernel_rfl) rfl rfl (q_sub rfl rfl (by omega)) ?_
                refine d1 3 rfl (by kernel_rfl) rfl rfl (q_indexAddr Tryz.underlying68 z71 rfl rfl rfl (by omega) (by omega) (fun w hw => row_some (hw.row (tg := 500) rfl) (by omega))) ?_
                refine d1 4 rfl (by kernel_rfl) rfl rfl (q_loads (cs := enc (nth (pushed (actN l.el i) (nth l.el i)) (((((pushed (actN l.el i) (nth l.el i)).length : Nat) : Int) - (1 : Int)).toNat))) ag71 z71 rfl rfl (fun w hw => (Shows.row (hw.row (tg := 500) rfl)).cellsAt (i := ((((pushed (actN l.el i) (nth l.el i)).length : Nat) : Int) - (1 : Int)).toNat) (by omega))) ?_
                refine d1 5 rfl (by kernel_rfl) rfl rfl (q_loads (cs := enc (nth l.el i)) ag42 z42 rfl rfl (fun w hw => hw.boxes (tg := 6) rfl)) ?_
                refine dx 6 rfl (by kernel_rfl) rfl rfl (want_none rfl) (e_call en29 (.cons rfl (.nil)) ((fun w hw => c29 (nth l.el i) w (Sl.OK.nthOK (hw.get_fz (t := 100) rfl) (i := i) (by omega))))) (fun _ => (.cons rfl (.cons rfl (.cons rfl (.cons rfl (.cons rfl (.cons rfl (.nil)))))))) (fun _ _ => ?_)
                refine d1 7 rfl (by kernel_rfl) rfl rfl (q_feq71_neq rfl rfl) ?_
                refine d1 8 rfl (by kernel_rfl) rfl rfl (q_assign rfl) ?_
                refine d_end (by kernel_rfl) ?_
                refine r_if rfl (fun hp5 => ?_) (fun hp5 => ?_)
                · refine r_region ?_
                  refine s1 rfl (q_assign rfl) ?_
                  refine o_end ?_
                  refine r_inBlock ?_
                  refine r_seq ?_
                  refine r_seq ?_
                  refine r_region ?_
                  refine s1 rfl (q_move rfl) ?_
                  refine s1 rfl (q_neq rfl rfl) ?_
                  refine o_end ?_
                  refine r_ifT rfl (by decide) ?_
                  refine r_seq ?_
                  refine r_region ?_
                  refine s1 rfl (q_move rfl) ?_
                  refine s1 rfl (q_move rfl) ?_
                  refine s1 rfl (q_build (cs := [.int .i64 (19 : Int), .int .i64 ((i : Nat) : Int)]) (.cons rfl (.cons rfl (.nil))) (by kernel_rfl)) ?_
                  refine sxn (e_store (tg := 2) (news := [.int .i64 (19 : Int), .int .i64 ((i : Nat) : Int)]) rfl rfl rfl rfl z25 rfl rfl (.cons (.cons (.nil _)))) (fun _ _ => ?_)
                  refine o_end ?_
                  refine r_ret Tryz.func10 (res1 Tryz.results10 (res_cell (cs := [.int .i64 (19 : Int), .int .i64 ((i : Nat) : Int)]) ag25 z25 rfl (s := 2) (tg := 2) rfl rfl)) (fun w hw => ?_)
                  exact ⟨ret_flt (tr_at (f := (19, ((i : Nat) : Int))) hp1 hI2 (by omega) (ev_c' (by omega) (by assumption) (by assumption)) (by simp)).symm, hw.kp⟩
                · refine r_skip ?_
                  refine r_inBlock ?_
                  refine r_seq ?_
                  refine r_seq ?_
                  refine r_region ?_
                  refine s1 rfl (q_move rfl) ?_
                  refine s1 rfl (q_neq rfl rfl) ?_
                  refine o_end ?_
                  refine r_ifF rfl ((fun h => h hp3.1)) ?_
                  refine r_skip ?_
                  refine r_seq ?_
                  refine r_cut [(2, .pointer (some ⟨g1, 0, none⟩)), (3, .slice a6 ((pushed (actN l.el i) (nth l.el i)).length) c7), (4, .int .i64 ((nth l.el i).fuel)), (8, .int .i64 (((pushed (actN l.el i) (nth l.el i)).length : Nat) : Int)), (13, .slice l.addr l.el.length l.cap), (14, .int .i64 ((l.el.length : Nat) : Int)), (15, .int .i64 ((i : Nat) : Int)), (71, .bool (decide (((nth l.el i).kind = (3 : Int)) ∨ ((nth l.el i).kind = (4 : Int)))))] [(100, .fz (fun w => ok w l)), (199, .fz (fun w => Tabs w)), (2, .box g1 [.int .i64 (0 : Int), .int .i64 (0 : Int)] 25), (500, .row 71 2 a6 ((pushed (actN l.el i) (nth l.el i)).length) c7 (encs (pushed (actN l.el i) (nth l.el i)))), (6, .box g4 (enc (nth l.el i)) 42), (35, .row 71 2 (some ⟨g5, 0, none⟩) (([(⟨(nth l.el i).mod, (nth l.el i).fn⟩ : FunM)] : List FunM).length) 1 (encs ([(⟨(nth l.el i).mod, (nth l.el i).fn⟩ : FunM)] : List FunM)))] ?_ (fun key => ?_)
                  · refine r_if rfl (fun hp6 => ?_) (fun hp6 => ?_)
                    · refine r_region ?_
                      refine s1 rfl (q_move rfl) ?_
                      refine s1 rfl (q_move rfl) ?_
                      refine s1 rfl (Quiet.as (q_sub rfl rfl (by omega)) (congrArg (Value.int .i64) (by omega : _ = (((((pushed (actN l.el i) (nth l.el i)).length) - 1 : Nat) : Int))))) ?_
                      refine sx rfl (e_cut (tg := 500) (l := pushed (actN l.el i) (nth l.el i)) (h := ((pushed (actN l.el i) (nth l.el i)).length) - 1) Tryz.underlying68 z71 rfl rfl rfl rfl (by omega) rfl) (fun _ _ => ?_)
                      refine s1 rfl (q_assign rfl) ?_
                      refine o_end ?_
                      refine r_inBlock ?_
                      refine r_region ?_
                      refine s1 rfl (q_add rfl rfl (by omega)) ?_
                      refine s1 rfl (q_move rfl) ?_
                      refine o_end ?_
                      rw [show (pushed (actN l.el i) (nth l.el i)).take (((pushed (actN l.el i) (nth l.el i)).length) - 1) = actN l.el (i + 1) from (pop_y (by assumption))]
                      refine r_inLoop ?_
                      refine RunE.weaken ?_ ?_ (ih0 (i + 1) a6 c7 ?_ ?_)
                      · exact (.cons rfl (.cons rfl (.cons rfl (.cons rfl (.cons rfl (.cons rfl (.nil)))))))
                      · exact (.cons rfl (.cons rfl (.cons rfl (.cons rfl (.nil)))))
                      · exact ⟨by omega, fun j hj => by rcases Nat.lt_succ_iff_lt_or_eq.1 hj with h | rfl; exact hI2 j h; exact ev_d' (by omega) (by assumption) (by assumption)⟩
                      · omega
                    · refine r_skip ?_
                      refine r_inBlock ?_
                      refine r_region ?_
                      refine s1 rfl (q_add rfl rfl (by omega)) ?_
                      refine s1 rfl (q_move rfl) ?_
                      refine o_end ?_
                      rw [show pushed (actN l.el i) (nth l.el i) = actN l.el (i + 1) from (pop_n (by assumption))]
                      refine r_inLoop ?_
                      refine RunE.weaken ?_ ?_ (ih0 (i + 1) a6 c7 ?_ ?_)
                      · exact (.cons rfl (.cons rfl (.cons rfl (.cons rfl (.cons rfl (.cons rfl (.nil)))))))
                      · exact (.cons rfl (.cons rfl (.cons rfl (.cons rfl (.nil)))))
                      · exact ⟨by omega, fun j hj => by rcases Nat.lt_succ_iff_lt_or_eq.1 hj with h | rfl; exact hI2 j h; exact ev_d' (by omega) (by assumption) (by assumption)⟩
                      · omega
                  · refine r_region ?_
                    refine s1 rfl (q_fieldAddr of42_0 rfl rfl) ?_
                    refine s1 rfl (q_load ag3 rfl (fun w hw => hw.box (tg := 6) rfl rfl)) ?_
                    refine s1 rfl (q_eql rfl rfl) ?_
                    refine s1 rfl (q_move rfl) ?_
                    refine g_split (s := 67) rfl (fun hp7 => ?_) (fun hp7 => ?_)
                    · refine g_off rfl rfl rfl ?_
                      refine g_off rfl rfl rfl ?_
                      refine g_off rfl rfl rfl ?_
                      refine s1 rfl (q_pickt rfl rfl) ?_
                      refine o_end ?_
                      exact key.weaken (.cons rfl (.cons rfl (.cons rfl (.cons rfl (.cons rfl (.cons rfl (.cons rfl (.consE rfl (congrArg Value.bool (decide_eq_true (Or.inl hp7)).symm) (.nil))))))))) (.cons rfl (.cons rfl (.cons rfl (.cons rfl (.cons rfl (.cons rfl (.nil)))))))
                    · refine g_on rfl rfl ?_
                      refine s1 rfl (q_fieldAddr of42_0 rfl rfl) ?_
                      refine g_on rfl rfl ?_
                      refine s1 rfl (q_load ag3 rfl (fun w hw => hw.box (tg := 6) rfl rfl)) ?_
                      refine g_on rfl rfl ?_
                      refine s1 rfl (q_eql rfl rfl) ?_
                      refine s1 rfl (q_pickf rfl rfl) ?_
                      refine o_end ?_
                      exact key.weaken (.cons rfl (.cons rfl (.cons rfl (.cons rfl (.cons rfl (.cons rfl (.cons rfl (.consE rfl (congrArg Value.bool (by first | (simp only [hp7, ne_eq, not_true_eq_false, not_false_eq_true, true_or, or_true, false_or, or_false, true_and, and_true, false_and, and_false, Bool.decide_eq_true] <;> first | exact nb_dec _ | exact b_dec _ | (simp; done)) | exact nb_dec _ | exact b_dec _ | (simp; done) | (exfalso; omega))) (.nil))))))))) (.cons rfl (.cons rfl (.cons rfl (.cons rfl (.cons rfl (.cons rfl (.nil)))))))
            · refine r_region ?_
              refine s1 rfl (q_move rfl) ?_
              refine s1 rfl (q_eql rfl rfl) ?_
              refine s1 rfl (q_move rfl) ?_
              refine g_split (s := 44) rfl (fun hp8 => ?_) (fun hp8 => ?_)
              · refine g_off rfl rfl rfl ?_
                iterate 3 refine g_off rfl rfl rfl ?_
                refine s1 rfl (q_pickt rfl rfl) ?_
                refine s1 rfl (q_assign rfl) ?_
                refine o_end ?_
                exact key.weaken (.cons rfl (.cons rfl (.cons rfl (.cons rfl (.cons rfl (.cons rfl (.cons rfl (.cons rfl (.cons rfl (.cons rfl (.consE rfl (congrArg Value.bool (decide_eq_true (Or.inl hp8)).symm) (.nil)))))))))))) (.cons rfl (.cons rfl (.cons rfl (.cons rfl (.cons rfl (.cons rfl (.nil)))))))
              · refine g_on rfl rfl ?_
                refine s1 rfl (q_fieldAddr of42_4 rfl rfl) ?_
                refine g_on rfl rfl ?_
                refine s1 rfl (q_load ag3 rfl (fun w hw => hw.box (tg := 6) rfl rfl)) ?_
                refine g_on rfl rfl ?_
                refine s1 rfl (q_move rfl) ?_
                refine g_on rfl rfl ?_
                refine s1 rfl (q_neq rfl rfl) ?_
                refine s1 rfl (q_pickf rfl rfl) ?_
                refine s1 rfl (q_assign rfl) ?_
                refine o_end ?_
                exact key.weaken (.cons rfl (.cons rfl (.cons rfl (.cons rfl (.cons rfl (.cons rfl (.cons rfl (.cons rfl (.cons rfl (.cons rfl (.consE rfl (congrArg Value.bool (by first | (simp only [hp8, ne_eq, not_true_eq_false, not_false_eq_true, true_or, or_true, false_or, or_false, true_and, and_true, false_and, and_false, Bool.decide_eq_true] <;> first | exact nb_dec _ | exact b_dec _ | (simp; done)) | exact nb_dec _ | exact b_dec _ | (simp; done) | (exfalso; omega))) (.nil)))))))))))) (.cons rfl (.cons rfl (.cons rfl (.cons rfl (.cons rfl (.cons rfl (.nil)))))))
          · refine r_skip ?_
            refine r_seq ?_
            refine r_region ?_
            refine s1 rfl (q_move rfl) ?_
            refine s1 rfl (q_len Tryz.underlying68 rfl) ?_
            refine s1 rfl (q_assign rfl) ?_
            refine o_end ?_
            refine r_seq ?_
            refine r_seq ?_
            refine r_region ?_
            refine s1 rfl (q_move rfl) ?_
            refine s1 rfl (q_eql rfl rfl) ?_
            refine o_end ?_
            refine r_if rfl (fun hp9 => ?_) (fun hp9 => ?_)
            · rw [show actN l.el i = pushed (actN l.el i) (nth l.el i) from push_n (fun hq => hp3 ⟨hp9, hq⟩)]
              refine r_block ?_
              refine r_seq ?_
              refine r_cut [(2, .pointer (some ⟨g1, 0, none⟩)), (3, .slice a2 ((pushed (actN l.el i) (nth l.el i)).length) c3), (4, .int .i64 ((nth l.el i).fuel)), (5, .int .i64 ((i : Nat) : Int)), (6, .pointer (some ⟨g4, 0, none⟩)), (7, .int .i64 (shapeCode (nth l.el i) (fuelN l.el i))), (8, .int .i64 (((pushed (actN l.el i) (nth l.el i)).length : Nat) : Int)), (13, .slice l.addr l.el.length l.cap), (14, .int .i64 ((l.el.length : Nat) : Int)), (15, .int .i64 ((i : Nat) : Int)), (41, .bool (decide (((((pushed (actN l.el i) (nth l.el i)).length : Nat) : Int) = (0 : Int)) ∨ (¬ ((nth l.el i).depth = (((pushed (actN l.el i) (nth l.el i)).length : Nat) : Int))))))] [(100, .fz (fun w => ok w l)), (199, .fz (fun w => Tabs w)), (2, .box g1 [.int .i64 (0 : Int), .int .i64 (0 : Int)] 25), (500, .row 71 2 a2 ((pushed (actN l.el i) (nth l.el i)).length) c3 (encs (pushed (actN l.el i) (nth l.el i)))), (6, .box g4 (enc (nth l.el i)) 42)] ?_ (fun key => ?_)
              · refine r_if rfl (fun hp10 => ?_) (fun hp10 => ?_)
                · refine r_region ?_
                  refine s1 rfl (q_assign rfl) ?_
                  refine o_end ?_
                  refine r_inBlock ?_
                  refine r_seq ?_
                  refine r_seq ?_
                  refine r_region ?_
                  refine s1 rfl (q_move rfl) ?_
                  refine s1 rfl (q_neq rfl rfl) ?_
                  refine o_end ?_
                  refine r_ifT rfl (by decide) ?_
                  refine r_seq ?_
                  refine r_region ?_
                  refine s1 rfl (q_move rfl) ?_
                  refine s1 rfl (q_move rfl) ?_
                  refine s1 rfl (q_build (cs := [.int .i64 (11 : Int), .int .i64 ((i : Nat) : Int)]) (.cons rfl (.cons rfl (.nil))) (by kernel_rfl)) ?_
                  refine sxn (e_store (tg := 2) (news := [.int .i64 (11 : Int), .int .i64 ((i : Nat) : Int)]) rfl rfl rfl rfl z25 rfl rfl (.cons (.cons (.nil _)))) (fun _ _ => ?_)
                  refine o_end ?_
                  refine r_ret Tryz.func10 (res1 Tryz.results10 (res_cell (cs := [.int .i64 (11 : Int), .int .i64 ((i : Nat) : Int)]) ag25 z25 rfl (s := 2) (tg := 2) rfl rfl)) (fun w hw => ?_)
                  exact ⟨ret_flt (tr_at (f := (11, ((i : Nat) : Int))) hp1 hI2 (by omega) (ev_b (by omega) (by assumption)) (by simp)).symm, hw.kp⟩
                · refine r_seq ?_
                  refine r_draw [(100, .fz (fun w => ok w l)), (199, .fz (fun w => Tabs w)), (2, .box g1 [.int .i64 (0 : Int), .int .i64 (0 : Int)] 25), (500, .row 71 2 a2 ((pushed (actN l.el i) (nth l.el i)).length) c3 (encs (pushed (actN l.el i) (nth l.el i)))), (6, .box g4 (enc (nth l.el i)) 42)] (by kernel_rfl) rfl (.cons rfl (.cons rfl (.cons rfl (.cons rfl (.cons rfl (.nil)))))) ?_
                  refine d1 0 rfl (by kernel_rfl) rfl rfl (q_move rfl) ?_
                  refine d1 1 rfl (by kernel_rfl) rfl rfl (q_move rfl) ?_
                  refine d1 2 rfl (by kernel_rfl) rfl rfl (q_sub rfl rfl (by omega)) ?_
                  refine d1 3 rfl (by kernel_rfl) rfl rfl (q_indexAddr Tryz.underlying68 z71 rfl rfl rfl (by omega) (by omega) (fun w hw => row_some (hw.row (tg := 500) rfl) (by omega))) ?_
                  refine d1 4 rfl (by kernel_rfl) rfl rfl (q_loads (cs := enc (nth (pushed (actN l.el i) (nth l.el i)) (((((pushed (actN l.el i) (nth l.el i)).length : Nat) : Int) - (1 : Int)).toNat))) ag71 z71 rfl rfl (fun w hw => (Shows.row (hw.row (tg := 500) rfl)).cellsAt (i := ((((pushed (actN l.el i) (nth l.el i)).length : Nat) : Int) - (1 : Int)).toNat) (by omega))) ?_
                  refine d1 5 rfl (by kernel_rfl) rfl rfl (q_loads (cs := enc (nth l.el i)) ag42 z42 rfl rfl (fun w hw => hw.boxes (tg := 6) rfl)) ?_
                  refine dx 6 rfl (by kernel_rfl) rfl rfl (want_none rfl) (e_call en29 (.cons rfl (.nil)) ((fun w hw => c29 (nth l.el i) w (Sl.OK.nthOK (hw.get_fz (t := 100) rfl) (i := i) (by omega))))) (fun _ => (.cons rfl (.cons rfl (.cons rfl (.cons rfl (.cons rfl (.nil))))))) (fun _ _ => ?_)
                  refine d1 7 rfl (by kernel_rfl) rfl rfl (q_feq71_neq rfl rfl) ?_
                  refine d1 8 rfl (by kernel_rfl) rfl rfl (q_assign rfl) ?_
                  refine d_end (by kernel_rfl) ?_
                  refine r_if rfl (fun hp11 => ?_) (fun hp11 => ?_)
                  · refine r_region ?_
                    refine s1 rfl (q_assign rfl) ?_
                    refine o_end ?_
                    refine r_inBlock ?_
                    refine r_seq ?_
                    refine r_seq ?_
                    refine r_region ?_
                    refine s1 rfl (q_move rfl) ?_
                    refine s1 rfl (q_neq rfl rfl) ?_
                    refine o_end ?_
                    refine r_ifT rfl (by decide) ?_
                    refine r_seq ?_
                    refine r_region ?_
                    refine s1 rfl (q_move rfl) ?_
                    refine s1 rfl (q_move rfl) ?_
                    refine s1 rfl (q_build (cs := [.int .i64 (19 : Int), .int .i64 ((i : Nat) : Int)]) (.cons rfl (.cons rfl (.nil))) (by kernel_rfl)) ?_
                    refine sxn (e_store (tg := 2) (news := [.int .i64 (19 : Int), .int .i64 ((i : Nat) : Int)]) rfl rfl rfl rfl z25 rfl rfl (.cons (.cons (.nil _)))) (fun _ _ => ?_)
                    refine o_end ?_
                    refine r_ret Tryz.func10 (res1 Tryz.results10 (res_cell (cs := [.int .i64 (19 : Int), .int .i64 ((i : Nat) : Int)]) ag25 z25 rfl (s := 2) (tg := 2) rfl rfl)) (fun w hw => ?_)
                    exact ⟨ret_flt (tr_at (f := (19, ((i : Nat) : Int))) hp1 hI2 (by omega) (ev_c' (by omega) (by assumption) (by assumption)) (by simp)).symm, hw.kp⟩
                  · refine r_skip ?_
                    refine r_inBlock ?_
                    refine r_seq ?_
                    refine r_seq ?_
                    refine r_region ?_
                    refine s1 rfl (q_move rfl) ?_
                    refine s1 rfl (q_neq rfl rfl) ?_
                    refine o_end ?_
                    refine r_ifF rfl ((fun h => h hp9)) ?_
                    refine r_skip ?_
                    refine r_seq ?_
                    refine r_cut [(2, .pointer (some ⟨g1, 0, none⟩)), (3, .slice a2 ((pushed (actN l.el i) (nth l.el i)).length) c3), (4, .int .i64 ((nth l.el i).fuel)), (8, .int .i64 (((pushed (actN l.el i) (nth l.el i)).length : Nat) : Int)), (13, .slice l.addr l.el.length l.cap), (14, .int .i64 ((l.el.length : Nat) : Int)), (15, .int .i64 ((i : Nat) : Int)), (71, .bool (decide (((nth l.el i).kind = (3 : Int)) ∨ ((nth l.el i).kind = (4 : Int)))))] [(100, .fz (fun w => ok w l)), (199, .fz (fun w => Tabs w)), (2, .box g1 [.int .i64 (0 : Int), .int .i64 (0 : Int)] 25), (500, .row 71 2 a2 ((pushed (actN l.el i) (nth l.el i)).length) c3 (encs (pushed (actN l.el i) (nth l.el i)))), (6, .box g4 (enc (nth l.el i)) 42)] ?_ (fun key => ?_)
                    · refine r_if rfl (fun hp12 => ?_) (fun hp12 => ?_)
                      · refine r_region ?_
                        refine s1 rfl (q_move rfl) ?_
                        refine s1 rfl (q_move rfl) ?_
                        refine s1 rfl (Quiet.as (q_sub rfl rfl (by omega)) (congrArg (Value.int .i64) (by omega : _ = (((((pushed (actN l.el i) (nth l.el i)).length) - 1 : Nat) : Int))))) ?_
                        refine sx rfl (e_cut (tg := 500) (l := pushed (actN l.el i) (nth l.el i)) (h := ((pushed (actN l.el i) (nth l.el i)).length) - 1) Tryz.underlying68 z71 rfl rfl rfl rfl (by omega) rfl) (fun _ _ => ?_)
                        refine s1 rfl (q_assign rfl) ?_
                        refine o_end ?_
                        refine r_inBlock ?_
                        refine r_region ?_
                        refine s1 rfl (q_add rfl rfl (by omega)) ?_
                        refine s1 rfl (q_move rfl) ?_
                        refine o_end ?_
                        rw [show (pushed (actN l.el i) (nth l.el i)).take (((pushed (actN l.el i) (nth l.el i)).length) - 1) = actN l.el (i + 1) from (pop_y (by assumption))]
                        refine r_inLoop ?_
                        refine RunE.weaken ?_ ?_ (ih0 (i + 1) a2 c3 ?_ ?_)
                        · exact (.cons rfl (.cons rfl (.cons rfl (.cons rfl (.cons rfl (.cons rfl (.nil)))))))
                        · exact (.cons rfl (.cons rfl (.cons rfl (.cons rfl (.nil)))))
                        · exact ⟨by omega, fun j hj => by rcases Nat.lt_succ_iff_lt_or_eq.1 hj with h | rfl; exact hI2 j h; exact ev_d' (by omega) (by assumption) (by assumption)⟩
                        · omega
                      · refine r_skip ?_
                        refine r_inBlock ?_
                        refine r_region ?_
                        refine s1 rfl (q_add rfl rfl (by omega)) ?_
                        refine s1 rfl (q_move rfl) ?_
                        refine o_end ?_
                        rw [show pushed (actN l.el i) (nth l.el i) = actN l.el (i + 1) from (pop_n (by assumption))]
                        refine r_inLoop ?_
                        refine RunE.weaken ?_ ?_ (ih0 (i + 1) a2 c3 ?_ ?_)
                        · exact (.cons rfl (.cons rfl (.cons rfl (.cons rfl (.cons rfl (.cons rfl (.nil)))))))
                        · exact (.cons rfl (.cons rfl (.cons rfl (.cons rfl (.nil)))))
                        · exact ⟨by omega, fun j hj => by rcases Nat.lt_succ_iff_lt_or_eq.1 hj with h | rfl; exact hI2 j h; exact ev_d' (by omega) (by assumption) (by assumption)⟩
                        · omega
                    · refine r_region ?_
                      refine s1 rfl (q_fieldAddr of42_0 rfl rfl) ?_
                      refine s1 rfl (q_load ag3 rfl (fun w hw => hw.box (tg := 6) rfl rfl)) ?_
                      refine s1 rfl (q_eql rfl rfl) ?_
                      refine s1 rfl (q_move rfl) ?_
                      refine g_split (s := 67) rfl (fun hp13 => ?_) (fun hp13 => ?_)
                      · refine g_off rfl rfl rfl ?_
                        refine g_off rfl rfl rfl ?_
                        refine g_off rfl rfl rfl ?_
                        refine s1 rfl (q_pickt rfl rfl) ?_
                        refine o_end ?_
                        exact key.weaken (.cons rfl (.cons rfl (.cons rfl (.cons rfl (.cons rfl (.cons rfl (.cons rfl (.consE rfl (congrArg Value.bool (decide_eq_true (Or.inl hp13)).symm) (.nil))))))))) (.cons rfl (.cons rfl (.cons rfl (.cons rfl (.cons rfl (.nil))))))
                      · refine g_on rfl rfl ?_
                        refine s1 rfl (q_fieldAddr of42_0 rfl rfl) ?_
                        refine g_on rfl rfl ?_
                        refine s1 rfl (q_load ag3 rfl (fun w hw => hw.box (tg := 6) rfl rfl)) ?_
                        refine g_on rfl rfl ?_
                        refine s1 rfl (q_eql rfl rfl) ?_
                        refine s1 rfl (q_pickf rfl rfl) ?_
                        refine o_end ?_
                        exact key.weaken (.cons rfl (.cons rfl (.cons rfl (.cons rfl (.cons rfl (.cons rfl (.cons rfl (.consE rfl (congrArg Value.bool (by first | (simp only [hp13, ne_eq, not_true_eq_false, not_false_eq_true, true_or, or_true, false_or, or_false, true_and, and_true, false_and, and_false, Bool.decide_eq_true] <;> first | exact nb_dec _ | exact b_dec _ | (simp; done)) | exact nb_dec _ | exact b_dec _ | (simp; done) | (exfalso; omega))) (.nil))))))))) (.cons rfl (.cons rfl (.cons rfl (.cons rfl (.cons rfl (.nil))))))
              · refine r_region ?_
                refine s1 rfl (q_move rfl) ?_
                refine s1 rfl (q_eql rfl rfl) ?_
                refine s1 rfl (q_move rfl) ?_
                refine g_split (s := 44) rfl (fun hp14 => ?_) (fun hp14 => ?_)
                · refine g_off rfl rfl rfl ?_
                  iterate 3 refine g_off rfl rfl rfl ?_
                  refine s1 rfl (q_pickt rfl rfl) ?_
                  refine s1 rfl (q_assign rfl) ?_
                  refine o_end ?_
                  exact key.weaken (.cons rfl (.cons rfl (.cons rfl (.cons rfl (.cons rfl (.cons rfl (.cons rfl (.cons rfl (.cons rfl (.cons rfl (.consE rfl (congrArg Value.bool (decide_eq_true (Or.inl hp14)).symm) (.nil)))))))))))) (.cons rfl (.cons rfl (.cons rfl (.cons rfl (.cons rfl (.nil))))))
                · refine g_on rfl rfl ?_
                  refine s1 rfl (q_fieldAddr of42_4 rfl rfl) ?_
                  refine g_on rfl rfl ?_
                  refine s1 rfl (q_load ag3 rfl (fun w hw => hw.box (tg := 6) rfl rfl)) ?_
                  refine g_on rfl rfl ?_
                  refine s1 rfl (q_move rfl) ?_
                  refine g_on rfl rfl ?_
                  refine s1 rfl (q_neq rfl rfl) ?_
                  refine s1 rfl (q_pickf rfl rfl) ?_
                  refine s1 rfl (q_assign rfl) ?_
                  refine o_end ?_
                  exact key.weaken (.cons rfl (.cons rfl (.cons rfl (.cons rfl (.cons rfl (.cons rfl (.cons rfl (.cons rfl (.cons rfl (.cons rfl (.consE rfl (congrArg Value.bool (by first | (simp only [hp14, ne_eq, not_true_eq_false, not_false_eq_true, true_or, or_true, false_or, or_false, true_and, and_true, false_and, and_false, Bool.decide_eq_true] <;> first | exact nb_dec _ | exact b_dec _ | (simp; done)) | exact nb_dec _ | exact b_dec _ | (simp; done) | (exfalso; omega))) (.nil)))))))))))) (.cons rfl (.cons rfl (.cons rfl (.cons rfl (.cons rfl (.nil))))))
            · refine r_skip ?_
              refine r_seq ?_
              refine r_seq ?_
              refine r_region ?_
              refine s1 rfl (q_move rfl) ?_
              refine s1 rfl (q_neq rfl rfl) ?_
              refine o_end ?_
              refine r_ifT rfl (hp9) ?_
              refine r_seq ?_
              refine r_region ?_
              refine s1 rfl (q_move rfl) ?_
              refine s1 rfl (q_move rfl) ?_
              refine s1 rfl (q_build (cs := [.int .i64 (shapeCode (nth l.el i) (fuelN l.el i)), .int .i64 ((i : Nat) : Int)]) (.cons rfl (.cons rfl (.nil))) (by kernel_rfl)) ?_
              refine sxn (e_store (tg := 2) (news := [.int .i64 (shapeCode (nth l.el i) (fuelN l.el i)), .int .i64 ((i : Nat) : Int)]) rfl rfl rfl rfl z25 rfl rfl (.cons (.cons (.nil _)))) (fun _ _ => ?_)
              refine o_end ?_
              refine r_ret Tryz.func10 (res1 Tryz.results10 (res_cell (cs := [.int .i64 (shapeCode (nth l.el i) (fuelN l.el i)), .int .i64 ((i : Nat) : Int)]) ag25 z25 rfl (s := 2) (tg := 2) rfl rfl)) (fun w hw => ?_)
              exact ⟨ret_flt (tr_at (f := (shapeCode (nth l.el i) (fuelN l.el i), ((i : Nat) : Int))) hp1 hI2 (by omega) (ev_a (by assumption)) (by assumption)).symm, hw.kp⟩
        · refine r_region ?_
          refine s1 rfl (q_move rfl) ?_
          refine s1 rfl (q_eql rfl rfl) ?_
          refine s1 rfl (q_move rfl) ?_
          refine g_split (s := 27) rfl (fun hp15 => ?_) (fun hp15 => ?_)
          · refine g_on rfl rfl ?_
            refine s1 rfl (q_fieldAddr of42_0 rfl rfl) ?_
            refine g_on rfl rfl ?_
            refine s1 rfl (q_load ag3 rfl (fun w hw => hw.box (tg := 6) rfl rfl)) ?_
            refine g_on rfl rfl ?_
            refine s1 rfl (q_eql rfl rfl) ?_
            refine s1 rfl (q_pickt rfl rfl) ?_
            refine o_end ?_
            exact key.weaken (.cons rfl (.cons rfl (.cons rfl (.cons rfl (.cons rfl (.cons rfl (.cons rfl (.cons rfl (.cons rfl (.consE rfl (congrArg Value.bool (by first | (simp only [hp15, ne_eq, not_true_eq_false, not_false_eq_true, true_or, or_true, false_or, or_false, true_and, and_true, false_and, and_false, Bool.decide_eq_true] <;> first | exact nb_dec _ | exact b_dec _ | (simp; done)) | exact nb_dec _ | exact b_dec _ | (simp; done) | (exfalso; omega))) (.nil))))))))))) (.cons rfl (.cons rfl (.cons rfl (.cons rfl (.cons rfl (.nil))))))
          · refine g_off rfl rfl rfl ?_
            refine g_off rfl rfl rfl ?_
            refine g_off rfl rfl rfl ?_
            refine s1 rfl (q_pickf rfl rfl) ?_
            refine o_end ?_
            exact key.weaken (.cons rfl (.cons rfl (.cons rfl (.cons rfl (.cons rfl (.cons rfl (.cons rfl (.cons rfl (.cons rfl (.consE rfl (congrArg Value.bool (decide_eq_false (fun h => hp15 h.1)).symm) (.nil))))))))))) (.cons rfl (.cons rfl (.cons rfl (.cons rfl (.cons rfl (.nil))))))
      · refine r_exit rfl ?_
        refine r_seq ?_
        refine r_region ?_
        refine s1 rfl (q_build (cs := [.int .i64 (0 : Int), .int .i64 (0 : Int)]) (.nil) (by kernel_rfl)) ?_
        refine sxn (e_store (tg := 2) (news := [.int .i64 (0 : Int), .int .i64 (0 : Int)]) rfl rfl rfl rfl z25 rfl rfl (.cons (.cons (.nil _)))) (fun _ _ => ?_)
        refine o_end ?_
        refine r_ret Tryz.func10 (res1 Tryz.results10 (res_cell (cs := [.int .i64 (0 : Int), .int .i64 (0 : Int)]) ag25 z25 rfl (s := 2) (tg := 2) rfl rfl)) (fun w hw => ?_)
        exact ⟨ret_flt (tr_none hp1 (fun j hj => hI2 j (by omega))).symm, hw.kp⟩
    · exact ⟨by omega, fun j hj => by omega⟩

end Go.Proofs.YtecibcjckinngaaGreatDoor
/- What the reference's check of traces computes. -/
set_option linter.unusedVariables false
namespace Go.Proofs.YtecibcjckinngaaGreatDoor
open Go Enc
/-- The numbers of the events that called the active functions. -/
def pushR (a : List Int) (e : EvM) (i : Nat) : List Int := if e.kind = 2 then a ++ [((i : Nat) : Int)] else a
def popR (a : List Int) (e : EvM) : List Int := if (2 : Int) < e.kind then a.take (a.length - 1) else a
def idxN (l : List EvM) : Nat → List Int
  | 0 => []
  | i + 1 => popR (pushR (idxN l i) (nth l i) i) (nth l i)
def formBadR (e : EvM) : Prop := ((e.kind ≠ (1 : Int)) ∧ ((0 : Int) < ((e.locals.el.length : Nat) : Int))) ∨ (((e.kind = (1 : Int)) ∨ (e.kind = (2 : Int))) ∧ (e.text ≠ (⟨#[]⟩ : ByteArray)))
def namesBadR (e : EvM) : Prop := (¬ (dottedR e.mod = true)) ∨ (¬ (isNameB e.fn = true))
def rangeBadR (l : List EvM) (i : Nat) : Prop := (((nth l i).line < (0 : Int)) ∨ ((nth l i).fuel < (0 : Int))) ∨ (((0 : Int) < ((i : Nat) : Int)) ∧ ((nth l i).fuel < (nth l (((i : Nat) : Int) - 1).toNat).fuel))
instance (e : EvM) : Decidable (formBadR e) := by unfold formBadR; infer_instance
instance (e : EvM) : Decidable (namesBadR e) := by unfold namesBadR; infer_instance
instance (l : List EvM) (i : Nat) : Decidable (rangeBadR l i) := by unfold rangeBadR; infer_instance
theorem pushR_len (a : List Int) (e : EvM) (i : Nat) : (pushR a e i).length ≤ a.length + 1 := by unfold pushR; split <;> simp
theorem idxN_len (l : List EvM) : ∀ i, (idxN l i).length ≤ i
  | 0 => Nat.le_refl _
  | i + 1 => by
    have h1 := idxN_len l i
    have h2 := pushR_len (idxN l i) (nth l i) i
    have h3 : (popR (pushR (idxN l i) (nth l i) i) (nth l i)).length ≤ (pushR (idxN l i) (nth l i) i).length := by unfold popR; split <;> simp
    simp only [idxN]
    omega
theorem idxN_lt (l : List EvM) : ∀ i, ∀ x ∈ idxN l i, 0 ≤ x ∧ x < i
  | 0, x, h => by simp [idxN] at h
  | i + 1, x, h => by
    have h1 : x ∈ pushR (idxN l i) (nth l i) i := by
      simp only [idxN, popR] at h
      split at h
      · exact List.mem_of_mem_take h
      · exact h
    unfold pushR at h1
    split at h1
    · rcases List.mem_append.1 h1 with h2 | h2
      · have := idxN_lt l i x h2; omega
      · simp at h2; omega
    · have := idxN_lt l i x h1; omega
theorem pushR_lt (l : List EvM) (i : Nat) : ∀ x ∈ pushR (idxN l i) (nth l i) i, 0 ≤ x ∧ x ≤ i := fun x h => by
  unfold pushR at h
  split at h
  · rcases List.mem_append.1 h with h2 | h2
    · have := idxN_lt l i x h2; omega
    · simp at h2; omega
  · have := idxN_lt l i x h; omega
end Go.Proofs.YtecibcjckinngaaGreatDoor
/- The reference's check of traces is the check of traces. -/
set_option linter.unusedVariables false
namespace Go.Proofs.YtecibcjckinngaaGreatDoor
open Go Enc
theorem ev_ok {l : List EvM} {i : Nat} (h : (evF l i).1 = 0) : ¬ kindBad (nth l i) ∧ ¬ rangeBad (nth l i) (fuelN l i) := by
  unfold evF at h
  split at h
  · rename_i h1; exact absurd h h1
  · rename_i h1
    have h2 := Decidable.not_not.1 h1
    unfold shapeCode at h2
    split at h2
    · simp at h2
    · split at h2
      · simp at h2
      · split at h2
        · simp at h2
        · split at h2
          · simp at h2
          · rename_i a b c d; exact ⟨a, d⟩
theorem fuel_ok {l : List EvM} : ∀ i, (∀ j, j < i → (evF l j).1 = 0) → 0 ≤ fuelN l i
  | 0, _ => by simp [fuelN]
  | i + 1, h => by
    have ih := fuel_ok i (fun j hj => h j (by omega))
    have h1 := (ev_ok (h i (by omega))).2
    simp only [rangeBad, not_or] at h1
    simp only [fuelN]
    omega
theorem act_idx {l : List EvM} : ∀ i, (∀ j, j < i → (evF l j).1 = 0) → actN l i = (idxN l i).map (fun x => funOf (nth l x.toNat))
  | 0, _ => rfl
  | i + 1, h => by
    have ih := act_idx i (fun j hj => h j (by omega))
    have hk := (ev_ok (h i (by omega))).1
    simp only [kindBad, not_or] at hk
    have hp : pushed (actN l i) (nth l i) = (pushR (idxN l i) (nth l i) i).map (fun x => funOf (nth l x.toNat)) := by
      unfold pushed pushR
      split <;> simp [ih]
    simp only [actN, idxN, hp]
    unfold popped popR
    by_cases h3 : (2 : Int) < (nth l i).kind
    · rw [if_pos (by omega), if_pos h3, List.length_map, List.map_take]
    · rw [if_neg (by omega), if_neg h3]
theorem push_idx {l : List EvM} {i : Nat} (h : ∀ j, j < i → (evF l j).1 = 0) : pushed (actN l i) (nth l i) = (pushR (idxN l i) (nth l i) i).map (fun x => funOf (nth l x.toNat)) := by
  have ih := act_idx i h
  unfold pushed pushR
  split <;> simp [ih]
end Go.Proofs.YtecibcjckinngaaGreatDoor
/- Splitting: the reference's Split and the library's are one. -/
set_option linter.unusedVariables false
namespace Go.Proofs.YtecibcjckinngaaGreatDoor
open Go Enc
/-- Divided at each occurrence of a byte. -/
def splitL (c : UInt8) : List UInt8 → List (List UInt8)
  | [] => [[]]
  | b :: l => if b = c then [] :: splitL c l else match splitL c l with
    | [] => [[b]]
    | x :: xs => (b :: x) :: xs
theorem splitL_none {c : UInt8} : ∀ (a : List UInt8), (∀ x ∈ a, x ≠ c) → splitL c a = [a]
  | [], _ => rfl
  | b :: a, h => by
    rw [splitL, if_neg (h b (by simp)), splitL_none a (fun x hx => h x (by simp [hx]))]
theorem splitL_seg {c : UInt8} {r : List UInt8} : ∀ (a : List UInt8), (∀ x ∈ a, x ≠ c) → splitL c (a ++ c :: r) = a :: splitL c r
  | [], _ => by simp [splitL]
  | b :: a, h => by
    rw [List.cons_append, splitL, if_neg (h b (by simp)), splitL_seg a (fun x hx => h x (by simp [hx]))]
theorem splitK_eq (c : UInt8) : ∀ l, Lib.splitK [c] 0 (Lib.count l [c]) l = splitL c l
  | [] => by rw [Lib.count_one]; rfl
  | b :: l => by
    have ih := splitK_eq c l
    by_cases h : b = c
    · subst h
      rw [Lib.count_cons_eq, Nat.add_comm, Lib.splitK]
      have hix : Lib.index (b :: l) [b] = ((0 : Nat) : Int) := by rw [Lib.index]; simp [List.isPrefixOf]
      rw [hix, splitL, if_pos rfl, ← ih]
      simp
    · rw [Lib.count_cons_ne b c l h, splitL, if_neg h, ← ih]
      have hp : ([c] : List UInt8).isPrefixOf (b :: l) = false := by simp [List.isPrefixOf, Ne.symm h]
      have hix : Lib.index (b :: l) [c] = if Lib.index l [c] == -1 then -1 else Lib.index l [c] + 1 := by rw [Lib.index, hp]; simp
      cases hk : Lib.count l [c] with
      | zero => simp [Lib.splitK]
      | succ k =>
        obtain ⟨i, hi⟩ := Lib.index_of_count (s := l) (old := [c]) (by omega)
        have hne : (Lib.index l [c] == -1) = false := by rw [hi]; simp
        rw [Lib.splitK, Lib.splitK, hix, hne, hi]
        simp
        omega
theorem extract_list (s : ByteArray) (a b : Nat) : (s.extract a b).data.toList = (s.data.toList.drop a).take (b - a) := by
  rw [Lib.extract_data]
theorem spl_inv {s : ByteArray} {c : UInt8} : ∀ i, i ≤ s.size → splitL c s.data.toList = (spl s c.toNat i).1.map (·.data.toList) ++ splitL c (s.data.toList.drop (spl s c.toNat i).2) ∧ ∀ j, (spl s c.toNat i).2 ≤ j → j < i → s.data.toList.getD j 0 ≠ c
  | 0, _ => by simp [spl]
  | i + 1, hi => by
    obtain ⟨h1, h2⟩ := spl_inv (s := s) (c := c) i (by omega)
    have hlen : s.data.toList.length = s.size := by simp
    have hle := (spl_le (s := s) (c := (c.toNat : Int)) i).1
    by_cases h : isCut s c.toNat i
    · have hc : s.data.toList.getD i 0 = c := by
        rcases h with h | h
        · omega
        · exact UInt8.toNat_inj.1 (Int.ofNat_inj.1 h)
      simp only [spl, if_pos h]
      refine ⟨?_, fun j hj hj2 => by omega⟩
      rw [h1, List.map_append, List.append_assoc]
      congr 1
      have hd : s.data.toList.drop (spl s c.toNat i).2 = (s.data.toList.drop (spl s c.toNat i).2).take (i - (spl s c.toNat i).2) ++ c :: s.data.toList.drop (i + 1) := by
        conv => lhs; rw [← List.take_append_drop (i - (spl s c.toNat i).2) (s.data.toList.drop (spl s c.toNat i).2)]
        congr 1
        rw [List.drop_drop, show (spl s c.toNat i).2 + (i - (spl s c.toNat i).2) = i from by omega, List.drop_eq_getElem_cons (by omega)]
        congr 1
        rw [← hc, List.getD_eq_getElem?_getD, List.getElem?_eq_getElem (by omega)]; rfl
      rw [hd, splitL_seg _ (fun x hx => ?_)]
      · simp [extract_list]
      · obtain ⟨j, hj, rfl⟩ := List.getElem_of_mem hx
        simp only [List.length_take, List.length_drop] at hj
        have := h2 ((spl s c.toNat i).2 + j) (by omega) (by omega)
        rw [List.getD_eq_getElem?_getD, List.getElem?_eq_getElem (by omega)] at this
        simpa using this
    · simp only [spl, if_neg h]
      refine ⟨h1, fun j hj hj2 => ?_⟩
      rcases Nat.lt_succ_iff_lt_or_eq.1 hj2 with h3 | rfl
      · exact h2 j hj h3
      · intro hc
        exact h (Or.inr (congrArg (fun x : UInt8 => ((x.toNat : Nat) : Int)) hc))
theorem splR_eq (s : ByteArray) (c : UInt8) : (splR s c.toNat).map (·.data.toList) = splitL c s.data.toList := by
  obtain ⟨h1, h2⟩ := spl_inv (s := s) (c := c) s.size (Nat.le_refl _)
  have hlen : s.data.toList.length = s.size := by simp
  have hcut : isCut s c.toNat s.size := Or.inl rfl
  rw [splR, spl, if_pos hcut, List.map_append, h1]
  congr 1
  rw [splitL_none]
  · simp only [List.map_cons, List.map_nil, extract_list]
    rw [List.take_of_length_le (by simp)]
  · intro x hx
    obtain ⟨j, hj, rfl⟩ := List.getElem_of_mem hx
    simp only [List.length_drop] at hj
    have := h2 ((spl s c.toNat s.size).2 + j) (by omega) (by omega)
    rw [List.getD_eq_getElem?_getD, List.getElem?_eq_getElem (by omega)] at this
    simpa using this
end Go.Proofs.YtecibcjckinngaaGreatDoor
