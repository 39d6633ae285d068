/- A part of the proof of the law DebuggerSessionMatchesSpec (second form): part 3. -/
import Derived.Test.YtecibcjckinngaaGreatDoorM2
set_option linter.unusedSimpArgs false
/- The reference's conditions on an event are those of the check of traces; dotted names. -/
set_option linter.unusedVariables false
namespace Go.Proofs.YtecibcjckinngaaGreatDoor
open Go Enc
/-! ### Dotted names -/
def nameL (l : List UInt8) : Bool := isNameB ⟨l.toArray⟩
theorem nameL_eq (t : ByteArray) : isNameB t = nameL t.data.toList := by simp [nameL]
theorem all_nameL (l : List ByteArray) : l.all isNameB = (l.map (·.data.toList)).all nameL := by
  induction l with
  | nil => rfl
  | cons x xs ih => simp only [List.all_cons, List.map_cons, ih, nameL_eq]
theorem any_not_all (l : List ByteArray) : (!l.any (fun t => !isNameB t)) = l.all isNameB := by
  induction l with
  | nil => rfl
  | cons x xs ih => simp only [List.any_cons, List.all_cons, ← ih]; cases isNameB x <;> simp
theorem countB_dot (s : ByteArray) : Lib.countB s dot = Lib.count s.data.toList [46] := rfl
theorem dotted_RB (s : ByteArray) : dottedR s = dottedB s := by
  rw [dottedR, dottedB, any_not_all, Bool.and_comm, all_nameL, all_nameL, Lib.splitB_data]
  have h := splR_eq s 46
  rw [show (splR s 46) = splR s ((46 : UInt8).toNat : Int) from rfl, h, countB_dot]
  rw [show dot.data.toList = [46] from rfl, splitK_eq]
/-! ### The conditions on an event -/
theorem evS {l : List EvM} {i : Nat} {c : Int} (hc : c ≠ 0) (h : shapeCode (nth l i) (fuelN l i) = c) : evF l i = (c, ((i : Nat) : Int)) := by
  rw [ev_a (by rw [h]; exact hc), h]
theorem evR_a {l : List EvM} {i : Nat} (h : ¬ ((1 : Int) ≤ (nth l i).kind ∧ (nth l i).kind ≤ 4)) : evF l i = (5, ((i : Nat) : Int)) :=
  evS (by decide) (shape_a (by unfold kindBad; omega))
theorem formR {e : EvM} (h : (1 : Int) ≤ e.kind ∧ e.kind ≤ 4) : formBadR e ↔ formBad e := by
  unfold formBadR formBad
  have h1 : (e.kind = 1 ∨ e.kind = 2) ↔ ¬ (e.kind = 3 ∨ e.kind = 4) := by omega
  rw [h1]
theorem kindG {e : EvM} (h : (1 : Int) ≤ e.kind ∧ e.kind ≤ 4) : ¬ kindBad e := by unfold kindBad; omega
theorem evR_b {l : List EvM} {i : Nat} (h : ¬ ¬ ((1 : Int) ≤ (nth l i).kind ∧ (nth l i).kind ≤ 4)) (h2 : formBadR (nth l i)) : evF l i = (6, ((i : Nat) : Int)) := by
  have h := Decidable.not_not.1 h
  exact evS (by decide) (shape_b (kindG h) ((formR h).1 h2))
theorem namesR {e : EvM} : namesBadR e ↔ namesBad e := by unfold namesBadR namesBad; rw [dotted_RB]
theorem evR_c {l : List EvM} {i : Nat} (h : ¬ ¬ ((1 : Int) ≤ (nth l i).kind ∧ (nth l i).kind ≤ 4)) (h2 : ¬ formBadR (nth l i)) (h3 : namesBadR (nth l i)) : evF l i = (7, ((i : Nat) : Int)) := by
  have h := Decidable.not_not.1 h
  exact evS (by decide) (shape_c (kindG h) (fun q => h2 ((formR h).2 q)) (namesR.1 h3))
theorem rangeR {l : List EvM} {i : Nat} (hb : ∀ j, j < i → (evF l j).1 = 0) : rangeBadR l i ↔ rangeBad (nth l i) (fuelN l i) := by
  unfold rangeBadR rangeBad
  have h0 := fuel_ok i hb
  cases i with
  | zero => simp [fuelN]
  | succ j =>
    have e : (((j + 1 : Nat) : Int) - 1).toNat = j := by omega
    rw [e]
    simp only [fuelN] at h0 ⊢
    omega
theorem evR_d {l : List EvM} {i : Nat} (hb : ∀ j, j < i → (evF l j).1 = 0) (h : ¬ ¬ ((1 : Int) ≤ (nth l i).kind ∧ (nth l i).kind ≤ 4)) (h2 : ¬ formBadR (nth l i)) (h3 : ¬ namesBadR (nth l i)) (h4 : rangeBadR l i) : evF l i = (4, ((i : Nat) : Int)) := by
  have h := Decidable.not_not.1 h
  exact evS (by decide) (shape_d (kindG h) (fun q => h2 ((formR h).2 q)) (fun q => h3 (namesR.2 q)) ((rangeR hb).1 h4))
theorem shapeR {l : List EvM} {i : Nat} (hb : ∀ j, j < i → (evF l j).1 = 0) (h : ¬ ¬ ((1 : Int) ≤ (nth l i).kind ∧ (nth l i).kind ≤ 4)) (h2 : ¬ formBadR (nth l i)) (h3 : ¬ namesBadR (nth l i)) (h4 : ¬ rangeBadR l i) : ¬ shapeCode (nth l i) (fuelN l i) ≠ 0 := by
  have h := Decidable.not_not.1 h
  rw [shape_e (kindG h) (fun q => h2 ((formR h).2 q)) (fun q => h3 (namesR.2 q)) (fun q => h4 ((rangeR hb).2 q))]
  simp
theorem push_lenR {l : List EvM} {i : Nat} (hb : ∀ j, j < i → (evF l j).1 = 0) : (pushed (actN l i) (nth l i)).length = (pushR (idxN l i) (nth l i) i).length := by
  rw [push_idx hb, List.length_map]
theorem evR_e {l : List EvM} {i : Nat} (hb : ∀ j, j < i → (evF l j).1 = 0) (h : ¬ ¬ ((1 : Int) ≤ (nth l i).kind ∧ (nth l i).kind ≤ 4)) (h2 : ¬ formBadR (nth l i)) (h3 : ¬ namesBadR (nth l i)) (h4 : ¬ rangeBadR l i)
    (h5 : ((((pushR (idxN l i) (nth l i) i).length : Nat) : Int) = (0 : Int)) ∨ (¬ ((nth l i).depth = (((pushR (idxN l i) (nth l i) i).length : Nat) : Int)))) : evF l i = (11, ((i : Nat) : Int)) :=
  ev_b (shapeR hb h h2 h3 h4) (by rw [push_lenR hb]; exact h5)
theorem nth_map {α β : Type} [Inhabited α] [Inhabited β] (f : α → β) {l : List α} {i : Nat} (h : i < l.length) : nth (l.map f) i = f (nth l i) := by
  simp [nth, List.getD_eq_getElem?_getD, h]
theorem lastR {l : List EvM} {i : Nat} (hb : ∀ j, j < i → (evF l j).1 = 0) (hn : ¬ (((pushR (idxN l i) (nth l i) i).length : Nat) : Int) = 0) :
    nth (pushed (actN l i) (nth l i)) ((pushed (actN l i) (nth l i)).length - 1) = funOf (nth l ((nth (pushR (idxN l i) (nth l i) i) (((((pushR (idxN l i) (nth l i) i).length : Nat) : Int) - (1 : Int)).toNat)).toNat)) := by
  rw [push_lenR hb, push_idx hb, nth_map _ (by omega)]
  rw [show (((((pushR (idxN l i) (nth l i) i).length : Nat) : Int) - (1 : Int)).toNat) = (pushR (idxN l i) (nth l i) i).length - 1 from by omega]
theorem evR_f {l : List EvM} {i : Nat} (hb : ∀ j, j < i → (evF l j).1 = 0) (h : ¬ ¬ ((1 : Int) ≤ (nth l i).kind ∧ (nth l i).kind ≤ 4)) (h2 : ¬ formBadR (nth l i)) (h3 : ¬ namesBadR (nth l i)) (h4 : ¬ rangeBadR l i)
    (h5 : ¬ (((((pushR (idxN l i) (nth l i) i).length : Nat) : Int) = (0 : Int)) ∨ (¬ ((nth l i).depth = (((pushR (idxN l i) (nth l i) i).length : Nat) : Int)))))
    (h6 : (((nth l ((nth (pushR (idxN l i) (nth l i) i) (((((pushR (idxN l i) (nth l i) i).length : Nat) : Int) - (1 : Int)).toNat)).toNat)).mod) ≠ ((nth l i).mod)) ∨ (((nth l ((nth (pushR (idxN l i) (nth l i) i) (((((pushR (idxN l i) (nth l i) i).length : Nat) : Int) - (1 : Int)).toNat)).toNat)).fn) ≠ ((nth l i).fn))) :
    evF l i = (19, ((i : Nat) : Int)) := by
  refine ev_c (shapeR hb h h2 h3 h4) (by rw [push_lenR hb]; exact h5) ?_
  rw [lastR hb (fun q => h5 (Or.inl q))]
  intro q
  have q1 := congrArg FunM.mod q
  have q2 := congrArg FunM.fn q
  rcases h6 with h6 | h6
  · exact h6 q1
  · exact h6 q2
theorem evR_g {l : List EvM} {i : Nat} (hb : ∀ j, j < i → (evF l j).1 = 0) (h : ¬ ¬ ((1 : Int) ≤ (nth l i).kind ∧ (nth l i).kind ≤ 4)) (h2 : ¬ formBadR (nth l i)) (h3 : ¬ namesBadR (nth l i)) (h4 : ¬ rangeBadR l i)
    (h5 : ¬ (((((pushR (idxN l i) (nth l i) i).length : Nat) : Int) = (0 : Int)) ∨ (¬ ((nth l i).depth = (((pushR (idxN l i) (nth l i) i).length : Nat) : Int)))))
    (h6 : ¬ ((((nth l ((nth (pushR (idxN l i) (nth l i) i) (((((pushR (idxN l i) (nth l i) i).length : Nat) : Int) - (1 : Int)).toNat)).toNat)).mod) ≠ ((nth l i).mod)) ∨ (((nth l ((nth (pushR (idxN l i) (nth l i) i) (((((pushR (idxN l i) (nth l i) i).length : Nat) : Int) - (1 : Int)).toNat)).toNat)).fn) ≠ ((nth l i).fn)))) :
    (evF l i).1 = 0 := by
  refine ev_d (shapeR hb h h2 h3 h4) (by rw [push_lenR hb]; exact h5) ?_
  rw [lastR hb (fun q => h5 (Or.inl q))]
  intro q
  apply q
  simp only [not_or, Decidable.not_not] at h6
  unfold funOf
  rw [h6.1, h6.2]
end Go.Proofs.YtecibcjckinngaaGreatDoor
/- Walk over the reference's check of traces. -/
set_option linter.unusedVariables false
namespace Go.Proofs.YtecibcjckinngaaGreatDoor
open Go Go.RowKit Enc
attribute [local irreducible] Effect OpsE RunE AnyE AnyAt Quiet Res1


theorem c5 (l : Sl EvM) (w : World) (hl : ok w l) (hs : ∀ e ∈ l.el, e.mod.size ≤ 1048576 ∧ e.fn.size ≤ 1048576) : RetV Tryz.prog 5 #[.slice l.addr l.el.length l.cap] w (fv (traceFault l.el)) := by
  have L0 := Sl.OK.le hl (by decide)
  refine calls_of (args := [.slice l.addr l.el.length l.cap]) Tryz.func5 rfl Tryz.ntmps5 rfl (H := [(100, .fz (fun w => ok w l))]) (Facts.sep (.cons (supp_ok hl) (.nil))) ?_
  refine r_seq ?_
  refine r_region ?_
  refine sx rfl (e_alloc zz25) (fun g1 _ => ?_)
  refine o_end ?_
  refine r_seq ?_
  refine r_seq ?_
  refine r_region ?_
  refine s1 rfl (q_move rfl) ?_
  refine s1 rfl (q_len Tryz.underlying22 rfl) ?_
  refine s1 rfl (q_gtr rfl rfl) ?_
  refine o_end ?_
  refine r_if rfl (fun hp1 => ?_) (fun hp1 => ?_)
  · refine r_seq ?_
    refine r_region ?_
    refine sx rfl (e_call en6 (.cons rfl (.cons rfl (.nil))) ((fun w hw => c6 (2 : Int) (-1 : Int) w))) (fun _ _ => ?_)
    refine sxn (e_store (tg := 2) (news := [.int .i64 (2 : Int), .int .i64 (-1 : Int)]) rfl rfl rfl rfl z25 rfl rfl (.cons (.cons (.nil _)))) (fun _ _ => ?_)
    refine o_end ?_
    refine r_ret Tryz.func5 (res1 Tryz.results5 (res_cell (cs := [.int .i64 (2 : Int), .int .i64 (-1 : Int)]) ag25 z25 rfl (s := 2) (tg := 2) rfl rfl)) (fun w hw => ?_)
    exact ⟨ret_flt (tr_len hp1).symm, hw.kp⟩
  · refine r_skip ?_
    refine r_seq ?_
    refine r_region ?_
    refine s1 rfl (q_assign rfl) ?_
    refine o_end ?_
    refine r_seq ?_
    refine r_seq ?_
    refine r_region ?_
    refine s1 rfl (q_assign rfl) ?_
    refine o_end ?_
    refine r_block ?_
    refine r_know (fun w hw => hw.nilRow 500 3 1) ?_
    refine r_loop ?_
    refine RunE.weaken ?_ ?_ (r_rounds3 (fun (i : Nat) (a2 : Option Addr) (c3 : Nat) => [(0, .slice l.addr l.el.length l.cap), (2, .pointer (some ⟨g1, 0, none⟩)), (3, .slice a2 ((idxN l.el i).length) c3), (4, .int .i64 ((i : Nat) : Int))]) (fun (i : Nat) (a2 : Option Addr) (c3 : Nat) => [(100, .fz (fun w => ok w l)), (2, .box g1 [.int .i64 (0 : Int), .int .i64 (0 : Int)] 25), (500, .row 3 1 a2 ((idxN l.el i).length) c3 (encs (idxN l.el i)))]) (fun (i : Nat) (a2 : Option Addr) (c3 : Nat) => i ≤ l.el.length ∧ ∀ j, j < i → (evF l.el j).1 = 0) (fun (i : Nat) (a2 : Option Addr) (c3 : Nat) => l.el.length - i) ?_ 0 none 0 ?_)
    · exact (.cons rfl (.cons rfl (.cons rfl (.cons rfl (.nil)))))
    · exact (.cons rfl (.cons rfl (.cons rfl (.nil))))
    · intro i a2 c3 hI0 ih0
      obtain ⟨hI1, hI2⟩ := hI0
      have hA := idxN_len l.el i
      have hP := pushR_len (idxN l.el i) (nth l.el i) i
      refine r_seq ?_
      refine r_seq ?_
      refine r_region ?_
      refine s1 rfl (q_move rfl) ?_
      refine s1 rfl (q_move rfl) ?_
      refine s1 rfl (q_len Tryz.underlying22 rfl) ?_
      refine s1 rfl (q_lss rfl rfl) ?_
      refine o_end ?_
      refine r_if rfl (fun hp2 => ?_) (fun hp2 => ?_)
      · refine r_skip ?_
        refine r_seq ?_
        refine r_block ?_
        refine r_seq ?_
        refine r_region ?_
        refine s1 rfl (q_move rfl) ?_
        refine s1 rfl (q_move rfl) ?_
        refine s1 rfl (q_indexAddr Tryz.underlying22 z42 rfl rfl rfl (by omega) (by omega) (fun w hw => Sl.OK.isSome (hw.get_fz (t := 100) rfl) (by decide) (i := i) (by omega))) ?_
        refine s1 rfl (q_loads (cs := enc (nth l.el i)) ag42 z42 rfl rfl (fun w hw => Sl.OK.cells (hw.get_fz (t := 100) rfl) (i := i) (by omega))) ?_
        refine sx rfl (e_alloc zz42) (fun g4 _ => ?_)
        refine sxn (e_store (tg := 5) (news := enc (nth l.el i)) rfl rfl rfl rfl z42 rfl rfl (.cons (.cons (.cons (.cons (.cons (.cons (.cons (.cons (.nil _)))))))))) (fun _ _ => ?_)
        refine o_end ?_
        refine r_seq ?_
        refine r_seq ?_
        refine r_region ?_
        refine s1 rfl (q_fieldAddr of42_0 rfl rfl) ?_
        refine s1 rfl (q_load ag3 rfl (fun w hw => hw.box (tg := 5) rfl rfl)) ?_
        refine sx rfl (e_call en12 (.cons rfl (.cons rfl (.cons rfl (.nil)))) ((fun w hw => c12 ((nth l.el i).kind) (1 : Int) (4 : Int) w))) (fun _ _ => ?_)
        refine s1 rfl (q_not rfl) ?_
        refine o_end ?_
        refine r_if rfl (fun hp3 => ?_) (fun hp3 => ?_)
        · refine r_seq ?_
          refine r_region ?_
          refine s1 rfl (q_move rfl) ?_
          refine sx rfl (e_call en6 (.cons rfl (.cons rfl (.nil))) ((fun w hw => c6 (5 : Int) ((i : Nat) : Int) w))) (fun _ _ => ?_)
          refine sxn (e_store (tg := 2) (news := [.int .i64 (5 : Int), .int .i64 ((i : Nat) : Int)]) rfl rfl rfl rfl z25 rfl rfl (.cons (.cons (.nil _)))) (fun _ _ => ?_)
          refine o_end ?_
          refine r_ret Tryz.func5 (res1 Tryz.results5 (res_cell (cs := [.int .i64 (5 : Int), .int .i64 ((i : Nat) : Int)]) ag25 z25 rfl (s := 2) (tg := 2) rfl rfl)) (fun w hw => ?_)
          exact ⟨ret_flt (tr_at (f := (5, ((i : Nat) : Int))) hp1 hI2 (by omega) (evR_a hp3) (by simp)).symm, hw.kp⟩
        · refine r_skip ?_
          refine r_seq ?_
          refine r_seq ?_
          refine r_cut [(0, .slice l.addr l.el.length l.cap), (2, .pointer (some ⟨g1, 0, none⟩)), (3, .slice a2 ((idxN l.el i).length) c3), (4, .int .i64 ((i : Nat) : Int)), (5, .pointer (some ⟨g4, 0, none⟩)), (50, .bool (decide (((¬ ((nth l.el i).kind = (1 : Int))) ∧ ((0 : Int) < ((((nth l.el i).locals).el.length : Nat) : Int))) ∨ ((((nth l.el i).kind = (1 : Int)) ∨ ((nth l.el i).kind = (2 : Int))) ∧ (((nth l.el i).text) ≠ (⟨#[]⟩ : ByteArray))))))] [(100, .fz (fun w => ok w l)), (2, .box g1 [.int .i64 (0 : Int), .int .i64 (0 : Int)] 25), (500, .row 3 1 a2 ((idxN l.el i).length) c3 (encs (idxN l.el i))), (5, .box g4 (enc (nth l.el i)) 42)] ?_ (fun key => ?_)
          · refine r_if rfl (fun hp4 => ?_) (fun hp4 => ?_)
            · refine r_seq ?_
              refine r_region ?_
              refine s1 rfl (q_move rfl) ?_
              refine sx rfl (e_call en6 (.cons rfl (.cons rfl (.nil))) ((fun w hw => c6 (6 : Int) ((i : Nat) : Int) w))) (fun _ _ => ?_)
              refine sxn (e_store (tg := 2) (news := [.int .i64 (6 : Int), .int .i64 ((i : Nat) : Int)]) rfl rfl rfl rfl z25 rfl rfl (.cons (.cons (.nil _)))) (fun _ _ => ?_)
              refine o_end ?_
              refine r_ret Tryz.func5 (res1 Tryz.results5 (res_cell (cs := [.int .i64 (6 : Int), .int .i64 ((i : Nat) : Int)]) ag25 z25 rfl (s := 2) (tg := 2) rfl rfl)) (fun w hw => ?_)
              exact ⟨ret_flt (tr_at (f := (6, ((i : Nat) : Int))) hp1 hI2 (by omega) (evR_b hp3 hp4) (by simp)).symm, hw.kp⟩
            · refine r_skip ?_
              refine r_seq ?_
              refine r_seq ?_
              refine r_cut [(0, .slice l.addr l.el.length l.cap), (2, .pointer (some ⟨g1, 0, none⟩)), (3, .slice a2 ((idxN l.el i).length) c3), (4, .int .i64 ((i : Nat) : Int)), (5, .pointer (some ⟨g4, 0, none⟩)), (62, .bool (decide ((¬ (dottedR ((nth l.el i).mod) = true)) ∨ (¬ (isNameB ((nth l.el i).fn) = true)))))] [(100, .fz (fun w => ok w l)), (2, .box g1 [.int .i64 (0 : Int), .int .i64 (0 : Int)] 25), (500, .row 3 1 a2 ((idxN l.el i).length) c3 (encs (idxN l.el i))), (5, .box g4 (enc (nth l.el i)) 42)] ?_ (fun key => ?_)
              · refine r_if rfl (fun hp5 => ?_) (fun hp5 => ?_)
                · refine r_seq ?_
                  refine r_region ?_
                  refine s1 rfl (q_move rfl) ?_
                  refine sx rfl (e_call en6 (.cons rfl (.cons rfl (.nil))) ((fun w hw => c6 (7 : Int) ((i : Nat) : Int) w))) (fun _ _ => ?_)
                  refine sxn (e_store (tg := 2) (news := [.int .i64 (7 : Int), .int .i64 ((i : Nat) : Int)]) rfl rfl rfl rfl z25 rfl rfl (.cons (.cons (.nil _)))) (fun _ _ => ?_)
                  refine o_end ?_
                  refine r_ret Tryz.func5 (res1 Tryz.results5 (res_cell (cs := [.int .i64 (7 : Int), .int .i64 ((i : Nat) : Int)]) ag25 z25 rfl (s := 2) (tg := 2) rfl rfl)) (fun w hw => ?_)
                  exact ⟨ret_flt (tr_at (f := (7, ((i : Nat) : Int))) hp1 hI2 (by omega) (evR_c hp3 hp4 hp5) (by simp)).symm, hw.kp⟩
                · refine r_skip ?_
                  refine r_seq ?_
                  refine r_seq ?_
                  refine r_cut [(0, .slice l.addr l.el.length l.cap), (2, .pointer (some ⟨g1, 0, none⟩)), (3, .slice a2 ((idxN l.el i).length) c3), (4, .int .i64 ((i : Nat) : Int)), (5, .pointer (some ⟨g4, 0, none⟩)), (87, .bool (decide ((((nth l.el i).line < (0 : Int)) ∨ ((nth l.el i).fuel < (0 : Int))) ∨ (((0 : Int) < ((i : Nat) : Int)) ∧ ((nth l.el i).fuel < (nth l.el ((((i : Nat) : Int) - (1 : Int)).toNat)).fuel)))))] [(100, .fz (fun w => ok w l)), (2, .box g1 [.int .i64 (0 : Int), .int .i64 (0 : Int)] 25), (500, .row 3 1 a2 ((idxN l.el i).length) c3 (encs (idxN l.el i))), (5, .box g4 (enc (nth l.el i)) 42)] ?_ (fun key => ?_)
                  · refine r_if rfl (fun hp6 => ?_) (fun hp6 => ?_)
                    · refine r_seq ?_
                      refine r_region ?_
                      refine s1 rfl (q_move rfl) ?_
                      refine sx rfl (e_call en6 (.cons rfl (.cons rfl (.nil))) ((fun w hw => c6 (4 : Int) ((i : Nat) : Int) w))) (fun _ _ => ?_)
                      refine sxn (e_store (tg := 2) (news := [.int .i64 (4 : Int), .int .i64 ((i : Nat) : Int)]) rfl rfl rfl rfl z25 rfl rfl (.cons (.cons (.nil _)))) (fun _ _ => ?_)
                      refine o_end ?_
                      refine r_ret Tryz.func5 (res1 Tryz.results5 (res_cell (cs := [.int .i64 (4 : Int), .int .i64 ((i : Nat) : Int)]) ag25 z25 rfl (s := 2) (tg := 2) rfl rfl)) (fun w hw => ?_)
                      exact ⟨ret_flt (tr_at (f := (4, ((i : Nat) : Int))) hp1 hI2 (by omega) (evR_d hI2 hp3 hp4 hp5 hp6) (by simp)).symm, hw.kp⟩
                    · refine r_skip ?_
                      refine r_seq ?_
                      refine r_seq ?_
                      refine r_region ?_
                      refine s1 rfl (q_fieldAddr of42_0 rfl rfl) ?_
                      refine s1 rfl (q_load ag3 rfl (fun w hw => hw.box (tg := 5) rfl rfl)) ?_
                      refine s1 rfl (q_eql rfl rfl) ?_
                      refine o_end ?_
                      refine r_if rfl (fun hp7 => ?_) (fun hp7 => ?_)
                      · refine r_region ?_
                        refine s1 rfl (q_move rfl) ?_
                        refine s1 rfl (q_move rfl) ?_
                        refine sx rfl (e_bslice (cs := encs ([((i : Nat) : Int)] : List Int)) Tryz.underlying39 zi3 (.cons rfl (.nil)) (by kernel_rfl) rfl rfl rfl) (fun g5 _ => ?_)
                        refine sx rfl (e_appendL (tg := 500) (l := idxN l.el i) (l' := ([((i : Nat) : Int)] : List Int)) Tryz.underlying39 in3 rfl rfl rfl rfl rfl rfl rfl (fun w hw => Shows.row (hw.row (tg := 95) rfl)) (by simp only [List.length_cons, List.length_nil]; omega)) (fun ⟨a6, c7⟩ _ => ?_)
                        rw [show (idxN l.el i) ++ ([((i : Nat) : Int)] : List Int) = pushR (idxN l.el i) (nth l.el i) i from (if_pos (by assumption)).symm]
                        refine s1 rfl (q_assign rfl) ?_
                        refine o_end ?_
                        refine r_seq ?_
                        refine r_seq ?_
                        refine r_cut [(0, .slice l.addr l.el.length l.cap), (2, .pointer (some ⟨g1, 0, none⟩)), (3, .slice a6 ((pushR (idxN l.el i) (nth l.el i) i).length) c7), (4, .int .i64 ((i : Nat) : Int)), (5, .pointer (some ⟨g4, 0, none⟩)), (106, .bool (decide (((((pushR (idxN l.el i) (nth l.el i) i).length : Nat) : Int) = (0 : Int)) ∨ (¬ ((nth l.el i).depth = (((pushR (idxN l.el i) (nth l.el i) i).length : Nat) : Int))))))] [(100, .fz (fun w => ok w l)), (2, .box g1 [.int .i64 (0 : Int), .int .i64 (0 : Int)] 25), (500, .row 3 1 a6 ((pushR (idxN l.el i) (nth l.el i) i).length) c7 (encs (pushR (idxN l.el i) (nth l.el i) i))), (5, .box g4 (enc (nth l.el i)) 42), (95, .row 3 1 (some ⟨g5, 0, none⟩) (([((i : Nat) : Int)] : List Int).length) 1 (encs ([((i : Nat) : Int)] : List Int)))] ?_ (fun key => ?_)
                        · refine r_if rfl (fun hp8 => ?_) (fun hp8 => ?_)
                          · refine r_seq ?_
                            refine r_region ?_
                            refine s1 rfl (q_move rfl) ?_
                            refine sx rfl (e_call en6 (.cons rfl (.cons rfl (.nil))) ((fun w hw => c6 (11 : Int) ((i : Nat) : Int) w))) (fun _ _ => ?_)
                            refine sxn (e_store (tg := 2) (news := [.int .i64 (11 : Int), .int .i64 ((i : Nat) : Int)]) rfl rfl rfl rfl z25 rfl rfl (.cons (.cons (.nil _)))) (fun _ _ => ?_)
                            refine o_end ?_
                            refine r_ret Tryz.func5 (res1 Tryz.results5 (res_cell (cs := [.int .i64 (11 : Int), .int .i64 ((i : Nat) : Int)]) ag25 z25 rfl (s := 2) (tg := 2) rfl rfl)) (fun w hw => ?_)
                            exact ⟨ret_flt (tr_at (f := (11, ((i : Nat) : Int))) hp1 hI2 (by omega) (evR_e hI2 hp3 hp4 hp5 hp6 hp8) (by simp)).symm, hw.kp⟩
                          · have hx := pushR_lt l.el i (nth (pushR (idxN l.el i) (nth l.el i) i) (((((pushR (idxN l.el i) (nth l.el i) i).length : Nat) : Int) - (1 : Int)).toNat)) (nth_mem (by omega))
                            refine r_skip ?_
                            refine r_seq ?_
                            refine r_region ?_
                            iterate 3 refine s1 rfl (q_move rfl) ?_
                            refine s1 rfl (q_len Tryz.underlying39 rfl) ?_
                            refine s1 rfl (q_sub rfl rfl (by omega)) ?_
                            refine s1 rfl (q_indexAddr Tryz.underlying39 z3 rfl rfl rfl (by omega) (by omega) (fun w hw => row_some (hw.row (tg := 500) rfl) (by omega))) ?_
                            refine s1 rfl (q_load ag3 rfl (fun w hw => row_cellAt0 (l := pushR (idxN l.el i) (nth l.el i) i) (hw.row (tg := 500) rfl) (i := ((((pushR (idxN l.el i) (nth l.el i) i).length : Nat) : Int) - (1 : Int)).toNat) (by omega) rfl)) ?_
                            refine s1 rfl (q_indexAddr Tryz.underlying22 z42 rfl rfl rfl (by omega) (by omega) (fun w hw => Sl.OK.isSome (hw.get_fz (t := 100) rfl) (by decide) (i := (nth (pushR (idxN l.el i) (nth l.el i) i) (((((pushR (idxN l.el i) (nth l.el i) i).length : Nat) : Int) - (1 : Int)).toNat)).toNat) (by omega))) ?_
                            refine s1 rfl (q_loads (cs := enc (nth l.el ((nth (pushR (idxN l.el i) (nth l.el i) i) (((((pushR (idxN l.el i) (nth l.el i) i).length : Nat) : Int) - (1 : Int)).toNat)).toNat))) ag42 z42 rfl rfl (fun w hw => Sl.OK.cells (hw.get_fz (t := 100) rfl) (i := (nth (pushR (idxN l.el i) (nth l.el i) i) (((((pushR (idxN l.el i) (nth l.el i) i).length : Nat) : Int) - (1 : Int)).toNat)).toNat) (by omega))) ?_
                            refine sx rfl (e_alloc zz42) (fun g8 _ => ?_)
                            refine sxn (e_store (tg := 6) (news := enc (nth l.el ((nth (pushR (idxN l.el i) (nth l.el i) i) (((((pushR (idxN l.el i) (nth l.el i) i).length : Nat) : Int) - (1 : Int)).toNat)).toNat))) rfl rfl rfl rfl z42 rfl rfl (.cons (.cons (.cons (.cons (.cons (.cons (.cons (.cons (.nil _)))))))))) (fun _ _ => ?_)
                            refine o_end ?_
                            refine r_seq ?_
                            refine r_seq ?_
                            refine r_cut [(0, .slice l.addr l.el.length l.cap), (2, .pointer (some ⟨g1, 0, none⟩)), (3, .slice a6 ((pushR (idxN l.el i) (nth l.el i) i).length) c7), (4, .int .i64 ((i : Nat) : Int)), (5, .pointer (some ⟨g4, 0, none⟩)), (129, .bool (decide ((((nth l.el ((nth (pushR (idxN l.el i) (nth l.el i) i) (((((pushR (idxN l.el i) (nth l.el i) i).length : Nat) : Int) - (1 : Int)).toNat)).toNat)).mod) ≠ ((nth l.el i).mod)) ∨ (((nth l.el ((nth (pushR (idxN l.el i) (nth l.el i) i) (((((pushR (idxN l.el i) (nth l.el i) i).length : Nat) : Int) - (1 : Int)).toNat)).toNat)).fn) ≠ ((nth l.el i).fn)))))] [(100, .fz (fun w => ok w l)), (2, .box g1 [.int .i64 (0 : Int), .int .i64 (0 : Int)] 25), (500, .row 3 1 a6 ((pushR (idxN l.el i) (nth l.el i) i).length) c7 (encs (pushR (idxN l.el i) (nth l.el i) i))), (5, .box g4 (enc (nth l.el i)) 42), (95, .row 3 1 (some ⟨g5, 0, none⟩) (([((i : Nat) : Int)] : List Int).length) 1 (encs ([((i : Nat) : Int)] : List Int))), (6, .box g8 (enc (nth l.el ((nth (pushR (idxN l.el i) (nth l.el i) i) (((((pushR (idxN l.el i) (nth l.el i) i).length : Nat) : Int) - (1 : Int)).toNat)).toNat))) 42)] ?_ (fun key => ?_)
                            · refine r_if rfl (fun hp9 => ?_) (fun hp9 => ?_)
                              · refine r_seq ?_
                                refine r_region ?_
                                refine s1 rfl (q_move rfl) ?_
                                refine sx rfl (e_call en6 (.cons rfl (.cons rfl (.nil))) ((fun w hw => c6 (19 : Int) ((i : Nat) : Int) w))) (fun _ _ => ?_)
                                refine sxn (e_store (tg := 2) (news := [.int .i64 (19 : Int), .int .i64 ((i : Nat) : Int)]) rfl rfl rfl rfl z25 rfl rfl (.cons (.cons (.nil _)))) (fun _ _ => ?_)
                                refine o_end ?_
                                refine r_ret Tryz.func5 (res1 Tryz.results5 (res_cell (cs := [.int .i64 (19 : Int), .int .i64 ((i : Nat) : Int)]) ag25 z25 rfl (s := 2) (tg := 2) rfl rfl)) (fun w hw => ?_)
                                exact ⟨ret_flt (tr_at (f := (19, ((i : Nat) : Int))) hp1 hI2 (by omega) (evR_f hI2 hp3 hp4 hp5 hp6 hp8 hp9) (by simp)).symm, hw.kp⟩
                              · refine r_skip ?_
                                refine r_seq ?_
                                refine r_region ?_
                                refine s1 rfl (q_fieldAddr of42_0 rfl rfl) ?_
                                refine s1 rfl (q_load ag3 rfl (fun w hw => hw.box (tg := 5) rfl rfl)) ?_
                                refine s1 rfl (q_gtr rfl rfl) ?_
                                refine o_end ?_
                                refine r_if rfl (fun hp10 => ?_) (fun hp10 => ?_)
                                · refine r_region ?_
                                  refine s1 rfl (q_move rfl) ?_
                                  refine s1 rfl (q_move rfl) ?_
                                  refine s1 rfl (q_len Tryz.underlying39 rfl) ?_
                                  refine s1 rfl (Quiet.as (q_sub rfl rfl (by omega)) (congrArg (Value.int .i64) (by omega : _ = (((((pushR (idxN l.el i) (nth l.el i) i).length) - 1 : Nat) : Int))))) ?_
                                  refine sx rfl (e_cut (tg := 500) (l := pushR (idxN l.el i) (nth l.el i) i) (h := ((pushR (idxN l.el i) (nth l.el i) i).length) - 1) Tryz.underlying39 z3 rfl rfl rfl rfl (by omega) rfl) (fun _ _ => ?_)
                                  refine s1 rfl (q_assign rfl) ?_
                                  refine o_end ?_
                                  refine r_inBlock ?_
                                  refine r_region ?_
                                  refine s1 rfl (q_move rfl) ?_
                                  refine s1 rfl (q_add rfl rfl (by omega)) ?_
                                  refine s1 rfl (q_assign rfl) ?_
                                  refine o_end ?_
                                  rw [show (pushR (idxN l.el i) (nth l.el i) i).take (((pushR (idxN l.el i) (nth l.el i) i).length) - 1) = idxN l.el (i + 1) from (if_pos (by assumption)).symm]
                                  refine r_inLoop ?_
                                  refine RunE.weaken ?_ ?_ (ih0 (i + 1) a6 c7 ?_ ?_)
                                  · exact (.cons rfl (.cons rfl (.cons rfl (.cons rfl (.nil)))))
                                  · exact (.cons rfl (.cons rfl (.cons rfl (.nil))))
                                  · exact ⟨by omega, fun j hj => by rcases Nat.lt_succ_iff_lt_or_eq.1 hj with h | rfl; exact hI2 j h; first | exact evR_g hI2 hp3 hp4 hp5 hp6 hp8 hp9 | exact evR_g hI2 hp3 hp4 hp5 hp6 hp13 hp14⟩
                                  · omega
                                · refine r_skip ?_
                                  refine r_inBlock ?_
                                  refine r_region ?_
                                  refine s1 rfl (q_move rfl) ?_
                                  refine s1 rfl (q_add rfl rfl (by omega)) ?_
                                  refine s1 rfl (q_assign rfl) ?_
                                  refine o_end ?_
                                  rw [show pushR (idxN l.el i) (nth l.el i) i = idxN l.el (i + 1) from (if_neg (by assumption)).symm]
                                  refine r_inLoop ?_
                                  refine RunE.weaken ?_ ?_ (ih0 (i + 1) a6 c7 ?_ ?_)
                                  · exact (.cons rfl (.cons rfl (.cons rfl (.cons rfl (.nil)))))
                                  · exact (.cons rfl (.cons rfl (.cons rfl (.nil))))
                                  · exact ⟨by omega, fun j hj => by rcases Nat.lt_succ_iff_lt_or_eq.1 hj with h | rfl; exact hI2 j h; first | exact evR_g hI2 hp3 hp4 hp5 hp6 hp8 hp9 | exact evR_g hI2 hp3 hp4 hp5 hp6 hp13 hp14⟩
                                  · omega
                            · refine r_region ?_
                              refine s1 rfl (q_fieldAddr of42_1 rfl rfl) ?_
                              refine s1 rfl (q_load ag9 rfl (fun w hw => hw.box (tg := 6) rfl rfl)) ?_
                              refine s1 rfl (q_fieldAddr of42_1 rfl rfl) ?_
                              refine s1 rfl (q_load ag9 rfl (fun w hw => hw.box (tg := 5) rfl rfl)) ?_
                              refine s1 rfl (q_sneq rfl rfl) ?_
                              refine s1 rfl (q_move rfl) ?_
                              refine g_split (s := 123) rfl (fun hp11 => ?_) (fun hp11 => ?_)
                              · refine g_off rfl rfl rfl ?_
                                iterate 4 refine g_off rfl rfl rfl ?_
                                refine s1 rfl (q_pickt rfl rfl) ?_
                                refine o_end ?_
                                exact key.weaken (.cons rfl (.cons rfl (.cons rfl (.cons rfl (.cons rfl (.consE rfl (congrArg Value.bool (decide_eq_true (Or.inl hp11)).symm) (.nil))))))) (.cons rfl (.cons rfl (.cons rfl (.cons rfl (.cons rfl (.cons rfl (.nil)))))))
                              · refine g_on rfl rfl ?_
                                refine s1 rfl (q_fieldAddr of42_2 rfl rfl) ?_
                                refine g_on rfl rfl ?_
                                refine s1 rfl (q_load ag9 rfl (fun w hw => hw.box (tg := 6) rfl rfl)) ?_
                                refine g_on rfl rfl ?_
                                refine s1 rfl (q_fieldAddr of42_2 rfl rfl) ?_
                                refine g_on rfl rfl ?_
                                refine s1 rfl (q_load ag9 rfl (fun w hw => hw.box (tg := 5) rfl rfl)) ?_
                                refine g_on rfl rfl ?_
                                refine s1 rfl (q_sneq rfl rfl) ?_
                                refine s1 rfl (q_pickf rfl rfl) ?_
                                refine o_end ?_
                                exact key.weaken (.cons rfl (.cons rfl (.cons rfl (.cons rfl (.cons rfl (.consE rfl (congrArg Value.bool (by first | (simp only [hp11, ne_eq, not_true_eq_false, not_false_eq_true, true_or, or_true, false_or, or_false, true_and, and_true, false_and, and_false, Bool.decide_eq_true] <;> first | exact nb_dec _ | exact b_dec _ | (simp; done)) | exact nb_dec _ | exact b_dec _ | (simp; done) | (exfalso; omega))) (.nil))))))) (.cons rfl (.cons rfl (.cons rfl (.cons rfl (.cons rfl (.cons rfl (.nil)))))))
                        · refine r_region ?_
                          refine s1 rfl (q_move rfl) ?_
                          refine s1 rfl (q_len Tryz.underlying39 rfl) ?_
                          refine s1 rfl (q_eql rfl rfl) ?_
                          refine s1 rfl (q_move rfl) ?_
                          refine g_split (s := 100) rfl (fun hp12 => ?_) (fun hp12 => ?_)
                          · refine g_off rfl rfl rfl ?_
                            iterate 4 refine g_off rfl rfl rfl ?_
                            refine s1 rfl (q_pickt rfl rfl) ?_
                            refine o_end ?_
                            exact key.weaken (.cons rfl (.cons rfl (.cons rfl (.cons rfl (.cons rfl (.consE rfl (congrArg Value.bool (decide_eq_true (Or.inl hp12)).symm) (.nil))))))) (.cons rfl (.cons rfl (.cons rfl (.cons rfl (.cons rfl (.nil))))))
                          · refine g_on rfl rfl ?_
                            refine s1 rfl (q_fieldAddr of42_4 rfl rfl) ?_
                            refine g_on rfl rfl ?_
                            refine s1 rfl (q_load ag3 rfl (fun w hw => hw.box (tg := 5) rfl rfl)) ?_
                            refine g_on rfl rfl ?_
                            refine s1 rfl (q_move rfl) ?_
                            refine g_on rfl rfl ?_
                            refine s1 rfl (q_len Tryz.underlying39 rfl) ?_
                            refine g_on rfl rfl ?_
                            refine s1 rfl (q_neq rfl rfl) ?_
                            refine s1 rfl (q_pickf rfl rfl) ?_
                            refine o_end ?_
                            exact key.weaken (.cons rfl (.cons rfl (.cons rfl (.cons rfl (.cons rfl (.consE rfl (congrArg Value.bool (by first | (simp only [hp12, ne_eq, not_true_eq_false, not_false_eq_true, true_or, or_true, false_or, or_false, true_and, and_true, false_and, and_false, Bool.decide_eq_true] <;> first | exact nb_dec _ | exact b_dec _ | (simp; done)) | exact nb_dec _ | exact b_dec _ | (simp; done) | (exfalso; omega))) (.nil))))))) (.cons rfl (.cons rfl (.cons rfl (.cons rfl (.cons rfl (.nil))))))
                      · rw [show idxN l.el i = pushR (idxN l.el i) (nth l.el i) i from (if_neg hp7).symm]
                        refine r_skip ?_
                        refine r_seq ?_
                        refine r_seq ?_
                        refine r_cut [(0, .slice l.addr l.el.length l.cap), (2, .pointer (some ⟨g1, 0, none⟩)), (3, .slice a2 ((pushR (idxN l.el i) (nth l.el i) i).length) c3), (4, .int .i64 ((i : Nat) : Int)), (5, .pointer (some ⟨g4, 0, none⟩)), (106, .bool (decide (((((pushR (idxN l.el i) (nth l.el i) i).length : Nat) : Int) = (0 : Int)) ∨ (¬ ((nth l.el i).depth = (((pushR (idxN l.el i) (nth l.el i) i).length : Nat) : Int))))))] [(100, .fz (fun w => ok w l)), (2, .box g1 [.int .i64 (0 : Int), .int .i64 (0 : Int)] 25), (500, .row 3 1 a2 ((pushR (idxN l.el i) (nth l.el i) i).length) c3 (encs (pushR (idxN l.el i) (nth l.el i) i))), (5, .box g4 (enc (nth l.el i)) 42)] ?_ (fun key => ?_)
                        · refine r_if rfl (fun hp13 => ?_) (fun hp13 => ?_)
                          · refine r_seq ?_
                            refine r_region ?_
                            refine s1 rfl (q_move rfl) ?_
                            refine sx rfl (e_call en6 (.cons rfl (.cons rfl (.nil))) ((fun w hw => c6 (11 : Int) ((i : Nat) : Int) w))) (fun _ _ => ?_)
                            refine sxn (e_store (tg := 2) (news := [.int .i64 (11 : Int), .int .i64 ((i : Nat) : Int)]) rfl rfl rfl rfl z25 rfl rfl (.cons (.cons (.nil _)))) (fun _ _ => ?_)
                            refine o_end ?_
                            refine r_ret Tryz.func5 (res1 Tryz.results5 (res_cell (cs := [.int .i64 (11 : Int), .int .i64 ((i : Nat) : Int)]) ag25 z25 rfl (s := 2) (tg := 2) rfl rfl)) (fun w hw => ?_)
                            exact ⟨ret_flt (tr_at (f := (11, ((i : Nat) : Int))) hp1 hI2 (by omega) (evR_e hI2 hp3 hp4 hp5 hp6 hp13) (by simp)).symm, hw.kp⟩
                          · have hx := pushR_lt l.el i (nth (pushR (idxN l.el i) (nth l.el i) i) (((((pushR (idxN l.el i) (nth l.el i) i).length : Nat) : Int) - (1 : Int)).toNat)) (nth_mem (by omega))
                            refine r_skip ?_
                            refine r_seq ?_
                            refine r_region ?_
                            iterate 3 refine s1 rfl (q_move rfl) ?_
                            refine s1 rfl (q_len Tryz.underlying39 rfl) ?_
                            refine s1 rfl (q_sub rfl rfl (by omega)) ?_
                            refine s1 rfl (q_indexAddr Tryz.underlying39 z3 rfl rfl rfl (by omega) (by omega) (fun w hw => row_some (hw.row (tg := 500) rfl) (by omega))) ?_
                            refine s1 rfl (q_load ag3 rfl (fun w hw => row_cellAt0 (l := pushR (idxN l.el i) (nth l.el i) i) (hw.row (tg := 500) rfl) (i := ((((pushR (idxN l.el i) (nth l.el i) i).length : Nat) : Int) - (1 : Int)).toNat) (by omega) rfl)) ?_
                            refine s1 rfl (q_indexAddr Tryz.underlying22 z42 rfl rfl rfl (by omega) (by omega) (fun w hw => Sl.OK.isSome (hw.get_fz (t := 100) rfl) (by decide) (i := (nth (pushR (idxN l.el i) (nth l.el i) i) (((((pushR (idxN l.el i) (nth l.el i) i).length : Nat) : Int) - (1 : Int)).toNat)).toNat) (by omega))) ?_
                            refine s1 rfl (q_loads (cs := enc (nth l.el ((nth (pushR (idxN l.el i) (nth l.el i) i) (((((pushR (idxN l.el i) (nth l.el i) i).length : Nat) : Int) - (1 : Int)).toNat)).toNat))) ag42 z42 rfl rfl (fun w hw => Sl.OK.cells (hw.get_fz (t := 100) rfl) (i := (nth (pushR (idxN l.el i) (nth l.el i) i) (((((pushR (idxN l.el i) (nth l.el i) i).length : Nat) : Int) - (1 : Int)).toNat)).toNat) (by omega))) ?_
                            refine sx rfl (e_alloc zz42) (fun g9 _ => ?_)
                            refine sxn (e_store (tg := 6) (news := enc (nth l.el ((nth (pushR (idxN l.el i) (nth l.el i) i) (((((pushR (idxN l.el i) (nth l.el i) i).length : Nat) : Int) - (1 : Int)).toNat)).toNat))) rfl rfl rfl rfl z42 rfl rfl (.cons (.cons (.cons (.cons (.cons (.cons (.cons (.cons (.nil _)))))))))) (fun _ _ => ?_)
                            refine o_end ?_
                            refine r_seq ?_
                            refine r_seq ?_
                            refine r_cut [(0, .slice l.addr l.el.length l.cap), (2, .pointer (some ⟨g1, 0, none⟩)), (3, .slice a2 ((pushR (idxN l.el i) (nth l.el i) i).length) c3), (4, .int .i64 ((i : Nat) : Int)), (5, .pointer (some ⟨g4, 0, none⟩)), (129, .bool (decide ((((nth l.el ((nth (pushR (idxN l.el i) (nth l.el i) i) (((((pushR (idxN l.el i) (nth l.el i) i).length : Nat) : Int) - (1 : Int)).toNat)).toNat)).mod) ≠ ((nth l.el i).mod)) ∨ (((nth l.el ((nth (pushR (idxN l.el i) (nth l.el i) i) (((((pushR (idxN l.el i) (nth l.el i) i).length : Nat) : Int) - (1 : Int)).toNat)).toNat)).fn) ≠ ((nth l.el i).fn)))))] [(100, .fz (fun w => ok w l)), (2, .box g1 [.int .i64 (0 : Int), .int .i64 (0 : Int)] 25), (500, .row 3 1 a2 ((pushR (idxN l.el i) (nth l.el i) i).length) c3 (encs (pushR (idxN l.el i) (nth l.el i) i))), (5, .box g4 (enc (nth l.el i)) 42), (6, .box g9 (enc (nth l.el ((nth (pushR (idxN l.el i) (nth l.el i) i) (((((pushR (idxN l.el i) (nth l.el i) i).length : Nat) : Int) - (1 : Int)).toNat)).toNat))) 42)] ?_ (fun key => ?_)
                            · refine r_if rfl (fun hp14 => ?_) (fun hp14 => ?_)
                              · refine r_seq ?_
                                refine r_region ?_
                                refine s1 rfl (q_move rfl) ?_
                                refine sx rfl (e_call en6 (.cons rfl (.cons rfl (.nil))) ((fun w hw => c6 (19 : Int) ((i : Nat) : Int) w))) (fun _ _ => ?_)
                                refine sxn (e_store (tg := 2) (news := [.int .i64 (19 : Int), .int .i64 ((i : Nat) : Int)]) rfl rfl rfl rfl z25 rfl rfl (.cons (.cons (.nil _)))) (fun _ _ => ?_)
                                refine o_end ?_
                                refine r_ret Tryz.func5 (res1 Tryz.results5 (res_cell (cs := [.int .i64 (19 : Int), .int .i64 ((i : Nat) : Int)]) ag25 z25 rfl (s := 2) (tg := 2) rfl rfl)) (fun w hw => ?_)
                                exact ⟨ret_flt (tr_at (f := (19, ((i : Nat) : Int))) hp1 hI2 (by omega) (evR_f hI2 hp3 hp4 hp5 hp6 hp13 hp14) (by simp)).symm, hw.kp⟩
                              · refine r_skip ?_
                                refine r_seq ?_
                                refine r_region ?_
                                refine s1 rfl (q_fieldAddr of42_0 rfl rfl) ?_
                                refine s1 rfl (q_load ag3 rfl (fun w hw => hw.box (tg := 5) rfl rfl)) ?_
                                refine s1 rfl (q_gtr rfl rfl) ?_
                                refine o_end ?_
                                refine r_if rfl (fun hp15 => ?_) (fun hp15 => ?_)
                                · refine r_region ?_
                                  refine s1 rfl (q_move rfl) ?_
                                  refine s1 rfl (q_move rfl) ?_
                                  refine s1 rfl (q_len Tryz.underlying39 rfl) ?_
                                  refine s1 rfl (Quiet.as (q_sub rfl rfl (by omega)) (congrArg (Value.int .i64) (by omega : _ = (((((pushR (idxN l.el i) (nth l.el i) i).length) - 1 : Nat) : Int))))) ?_
                                  refine sx rfl (e_cut (tg := 500) (l := pushR (idxN l.el i) (nth l.el i) i) (h := ((pushR (idxN l.el i) (nth l.el i) i).length) - 1) Tryz.underlying39 z3 rfl rfl rfl rfl (by omega) rfl) (fun _ _ => ?_)
                                  refine s1 rfl (q_assign rfl) ?_
                                  refine o_end ?_
                                  refine r_inBlock ?_
                                  refine r_region ?_
                                  refine s1 rfl (q_move rfl) ?_
                                  refine s1 rfl (q_add rfl rfl (by omega)) ?_
                                  refine s1 rfl (q_assign rfl) ?_
                                  refine o_end ?_
                                  rw [show (pushR (idxN l.el i) (nth l.el i) i).take (((pushR (idxN l.el i) (nth l.el i) i).length) - 1) = idxN l.el (i + 1) from (if_pos (by assumption)).symm]
                                  refine r_inLoop ?_
                                  refine RunE.weaken ?_ ?_ (ih0 (i + 1) a2 c3 ?_ ?_)
                                  · exact (.cons rfl (.cons rfl (.cons rfl (.cons rfl (.nil)))))
                                  · exact (.cons rfl (.cons rfl (.cons rfl (.nil))))
                                  · exact ⟨by omega, fun j hj => by rcases Nat.lt_succ_iff_lt_or_eq.1 hj with h | rfl; exact hI2 j h; first | exact evR_g hI2 hp3 hp4 hp5 hp6 hp8 hp9 | exact evR_g hI2 hp3 hp4 hp5 hp6 hp13 hp14⟩
                                  · omega
                                · refine r_skip ?_
                                  refine r_inBlock ?_
                                  refine r_region ?_
                                  refine s1 rfl (q_move rfl) ?_
                                  refine s1 rfl (q_add rfl rfl (by omega)) ?_
                                  refine s1 rfl (q_assign rfl) ?_
                                  refine o_end ?_
                                  rw [show pushR (idxN l.el i) (nth l.el i) i = idxN l.el (i + 1) from (if_neg (by assumption)).symm]
                                  refine r_inLoop ?_
                                  refine RunE.weaken ?_ ?_ (ih0 (i + 1) a2 c3 ?_ ?_)
                                  · exact (.cons rfl (.cons rfl (.cons rfl (.cons rfl (.nil)))))
                                  · exact (.cons rfl (.cons rfl (.cons rfl (.nil))))
                                  · exact ⟨by omega, fun j hj => by rcases Nat.lt_succ_iff_lt_or_eq.1 hj with h | rfl; exact hI2 j h; first | exact evR_g hI2 hp3 hp4 hp5 hp6 hp8 hp9 | exact evR_g hI2 hp3 hp4 hp5 hp6 hp13 hp14⟩
                                  · omega
                            · refine r_region ?_
                              refine s1 rfl (q_fieldAddr of42_1 rfl rfl) ?_
                              refine s1 rfl (q_load ag9 rfl (fun w hw => hw.box (tg := 6) rfl rfl)) ?_
                              refine s1 rfl (q_fieldAddr of42_1 rfl rfl) ?_
                              refine s1 rfl (q_load ag9 rfl (fun w hw => hw.box (tg := 5) rfl rfl)) ?_
                              refine s1 rfl (q_sneq rfl rfl) ?_
                              refine s1 rfl (q_move rfl) ?_
                              refine g_split (s := 123) rfl (fun hp16 => ?_) (fun hp16 => ?_)
                              · refine g_off rfl rfl rfl ?_
                                iterate 4 refine g_off rfl rfl rfl ?_
                                refine s1 rfl (q_pickt rfl rfl) ?_
                                refine o_end ?_
                                exact key.weaken (.cons rfl (.cons rfl (.cons rfl (.cons rfl (.cons rfl (.consE rfl (congrArg Value.bool (decide_eq_true (Or.inl hp16)).symm) (.nil))))))) (.cons rfl (.cons rfl (.cons rfl (.cons rfl (.cons rfl (.nil))))))
                              · refine g_on rfl rfl ?_
                                refine s1 rfl (q_fieldAddr of42_2 rfl rfl) ?_
                                refine g_on rfl rfl ?_
                                refine s1 rfl (q_load ag9 rfl (fun w hw => hw.box (tg := 6) rfl rfl)) ?_
                                refine g_on rfl rfl ?_
                                refine s1 rfl (q_fieldAddr of42_2 rfl rfl) ?_
                                refine g_on rfl rfl ?_
                                refine s1 rfl (q_load ag9 rfl (fun w hw => hw.box (tg := 5) rfl rfl)) ?_
                                refine g_on rfl rfl ?_
                                refine s1 rfl (q_sneq rfl rfl) ?_
                                refine s1 rfl (q_pickf rfl rfl) ?_
                                refine o_end ?_
                                exact key.weaken (.cons rfl (.cons rfl (.cons rfl (.cons rfl (.cons rfl (.consE rfl (congrArg Value.bool (by first | (simp only [hp16, ne_eq, not_true_eq_false, not_false_eq_true, true_or, or_true, false_or, or_false, true_and, and_true, false_and, and_false, Bool.decide_eq_true] <;> first | exact nb_dec _ | exact b_dec _ | (simp; done)) | exact nb_dec _ | exact b_dec _ | (simp; done) | (exfalso; omega))) (.nil))))))) (.cons rfl (.cons rfl (.cons rfl (.cons rfl (.cons rfl (.nil))))))
                        · refine r_region ?_
                          refine s1 rfl (q_move rfl) ?_
                          refine s1 rfl (q_len Tryz.underlying39 rfl) ?_
                          refine s1 rfl (q_eql rfl rfl) ?_
                          refine s1 rfl (q_move rfl) ?_
                          refine g_split (s := 100) rfl (fun hp17 => ?_) (fun hp17 => ?_)
                          · refine g_off rfl rfl rfl ?_
                            iterate 4 refine g_off rfl rfl rfl ?_
                            refine s1 rfl (q_pickt rfl rfl) ?_
                            refine o_end ?_
                            exact key.weaken (.cons rfl (.cons rfl (.cons rfl (.cons rfl (.cons rfl (.consE rfl (congrArg Value.bool (decide_eq_true (Or.inl hp17)).symm) (.nil))))))) (.cons rfl (.cons rfl (.cons rfl (.cons rfl (.nil)))))
                          · refine g_on rfl rfl ?_
                            refine s1 rfl (q_fieldAddr of42_4 rfl rfl) ?_
                            refine g_on rfl rfl ?_
                            refine s1 rfl (q_load ag3 rfl (fun w hw => hw.box (tg := 5) rfl rfl)) ?_
                            refine g_on rfl rfl ?_
                            refine s1 rfl (q_move rfl) ?_
                            refine g_on rfl rfl ?_
                            refine s1 rfl (q_len Tryz.underlying39 rfl) ?_
                            refine g_on rfl rfl ?_
                            refine s1 rfl (q_neq rfl rfl) ?_
                            refine s1 rfl (q_pickf rfl rfl) ?_
                            refine o_end ?_
                            exact key.weaken (.cons rfl (.cons rfl (.cons rfl (.cons rfl (.cons rfl (.consE rfl (congrArg Value.bool (by first | (simp only [hp17, ne_eq, not_true_eq_false, not_false_eq_true, true_or, or_true, false_or, or_false, true_and, and_true, false_and, and_false, Bool.decide_eq_true] <;> first | exact nb_dec _ | exact b_dec _ | (simp; done)) | exact nb_dec _ | exact b_dec _ | (simp; done) | (exfalso; omega))) (.nil))))))) (.cons rfl (.cons rfl (.cons rfl (.cons rfl (.nil)))))
                  · refine r_draw [(100, .fz (fun w => ok w l)), (2, .box g1 [.int .i64 (0 : Int), .int .i64 (0 : Int)] 25), (500, .row 3 1 a2 ((idxN l.el i).length) c3 (encs (idxN l.el i))), (5, .box g4 (enc (nth l.el i)) 42)] (by kernel_rfl) rfl (.cons rfl (.cons rfl (.cons rfl (.cons rfl (.nil))))) ?_
                    refine d1 0 rfl (by kernel_rfl) rfl rfl (q_fieldAddr of42_3 rfl rfl) ?_
                    refine d1 1 rfl (by kernel_rfl) rfl rfl (q_load ag3 rfl (fun w hw => hw.box (tg := 5) rfl rfl)) ?_
                    refine d1 2 rfl (by kernel_rfl) rfl rfl (q_lss rfl rfl) ?_
                    refine d1 3 rfl (by kernel_rfl) rfl rfl (q_move rfl) ?_
                    refine AnyE.know (s := 68) rfl (fun hp18 => ?_) (fun hp18 => ?_)
                    · refine d1o 4 rfl (by kernel_rfl) rfl rfl rfl rfl ?_
                      refine d1o 5 rfl (by kernel_rfl) rfl rfl rfl rfl ?_
                      refine d1o 6 rfl (by kernel_rfl) rfl rfl rfl rfl ?_
                      refine d1 7 rfl (by kernel_rfl) rfl rfl (q_pickt rfl rfl) ?_
                      refine d1 8 rfl (by kernel_rfl) rfl rfl (q_move rfl) ?_
                      refine d1o 9 rfl (by kernel_rfl) rfl rfl rfl rfl ?_
                      refine d1o 10 rfl (by kernel_rfl) rfl rfl rfl rfl ?_
                      refine d1o 11 rfl (by kernel_rfl) rfl rfl rfl rfl ?_
                      refine d1ou 12 rfl (by kernel_rfl) rfl rfl rfl rfl ?_
                      refine d1ou 13 rfl (by kernel_rfl) rfl rfl rfl rfl ?_
                      refine d1ou 14 rfl (by kernel_rfl) rfl rfl rfl rfl ?_
                      refine d1ou 15 rfl (by kernel_rfl) rfl rfl rfl rfl ?_
                      refine d1ou 16 rfl (by kernel_rfl) rfl rfl rfl rfl ?_
                      refine d1ou 17 rfl (by kernel_rfl) rfl rfl rfl rfl ?_
                      refine d1ou 18 rfl (by kernel_rfl) rfl rfl rfl rfl ?_
                      refine d1ou 19 rfl (by kernel_rfl) rfl rfl rfl rfl ?_
                      refine d1ou 20 rfl (by kernel_rfl) rfl rfl rfl rfl ?_
                      refine d1o 21 rfl (by kernel_rfl) rfl rfl rfl rfl ?_
                      refine d1 22 rfl (by kernel_rfl) rfl rfl (q_pickt rfl rfl) ?_
                      refine d_end (by kernel_rfl) ?_
                      exact key.weaken (.cons rfl (.cons rfl (.cons rfl (.cons rfl (.cons rfl (.consE rfl (congrArg Value.bool (decide_eq_true (Or.inl (Or.inl hp18))).symm) (.nil))))))) (.cons rfl (.cons rfl (.cons rfl (.cons rfl (.nil)))))
                    · refine d1g 4 rfl (by kernel_rfl) rfl rfl rfl rfl (q_fieldAddr of42_5 rfl rfl) ?_
                      refine d1g 5 rfl (by kernel_rfl) rfl rfl rfl rfl (q_load ag3 rfl (fun w hw => hw.box (tg := 5) rfl rfl)) ?_
                      refine d1g 6 rfl (by kernel_rfl) rfl rfl rfl rfl (q_lss rfl rfl) ?_
                      refine d1 7 rfl (by kernel_rfl) rfl rfl (q_pickf rfl rfl) ?_
                      refine d1 8 rfl (by kernel_rfl) rfl rfl (q_move rfl) ?_
                      refine AnyE.know (s := 73) rfl (fun hp19 => ?_) (fun hp19 => ?_)
                      · refine d1o 9 rfl (by kernel_rfl) rfl rfl rfl rfl ?_
                        refine d1o 10 rfl (by kernel_rfl) rfl rfl rfl rfl ?_
                        refine d1o 11 rfl (by kernel_rfl) rfl rfl rfl rfl ?_
                        refine d1ou 12 rfl (by kernel_rfl) rfl rfl rfl rfl ?_
                        refine d1ou 13 rfl (by kernel_rfl) rfl rfl rfl rfl ?_
                        refine d1ou 14 rfl (by kernel_rfl) rfl rfl rfl rfl ?_
                        refine d1ou 15 rfl (by kernel_rfl) rfl rfl rfl rfl ?_
                        refine d1ou 16 rfl (by kernel_rfl) rfl rfl rfl rfl ?_
                        refine d1ou 17 rfl (by kernel_rfl) rfl rfl rfl rfl ?_
                        refine d1ou 18 rfl (by kernel_rfl) rfl rfl rfl rfl ?_
                        refine d1ou 19 rfl (by kernel_rfl) rfl rfl rfl rfl ?_
                        refine d1ou 20 rfl (by kernel_rfl) rfl rfl rfl rfl ?_
                        refine d1o 21 rfl (by kernel_rfl) rfl rfl rfl rfl ?_
                        refine d1 22 rfl (by kernel_rfl) rfl rfl (q_pickt rfl rfl) ?_
                        refine d_end (by kernel_rfl) ?_
                        exact key.weaken (.cons rfl (.cons rfl (.cons rfl (.cons rfl (.cons rfl (.consE rfl (congrArg Value.bool (decide_eq_true (Or.inl (Or.inr hp19))).symm) (.nil))))))) (.cons rfl (.cons rfl (.cons rfl (.cons rfl (.nil)))))
                      · refine d1g 9 rfl (by kernel_rfl) rfl rfl rfl rfl (q_move rfl) ?_
                        refine d1g 10 rfl (by kernel_rfl) rfl rfl rfl rfl (q_gtr rfl rfl) ?_
                        refine d1g 11 rfl (by kernel_rfl) rfl rfl rfl rfl (q_move rfl) ?_
                        refine AnyE.know (s := 76) rfl (fun hp20 => ?_) (fun hp20 => ?_)
                        · refine d1g 12 rfl (by kernel_rfl) rfl rfl rfl rfl (q_fieldAddr of42_5 rfl rfl) ?_
                          refine d1g 13 rfl (by kernel_rfl) rfl rfl rfl rfl (q_load ag3 rfl (fun w hw => hw.box (tg := 5) rfl rfl)) ?_
                          refine d1g 14 rfl (by kernel_rfl) rfl rfl rfl rfl (q_move rfl) ?_
                          refine d1g 15 rfl (by kernel_rfl) rfl rfl rfl rfl (q_move rfl) ?_
                          refine d1g 16 rfl (by kernel_rfl) rfl rfl rfl rfl (q_sub rfl rfl (by omega)) ?_
                          refine d1g 17 rfl (by kernel_rfl) rfl rfl rfl rfl (q_indexAddr Tryz.underlying22 z42 rfl rfl rfl (by omega) (by omega) (fun w hw => Sl.OK.isSome (hw.get_fz (t := 100) rfl) (by decide) (i := (((i : Nat) : Int) - (1 : Int)).toNat) (by omega))) ?_
                          refine d1g 18 rfl (by kernel_rfl) rfl rfl rfl rfl (q_fieldAddr of42_5 rfl rfl) ?_
                          refine d1g 19 rfl (by kernel_rfl) rfl rfl rfl rfl (q_load ag3 rfl (fun w hw => Sl.OK.cell (hw.get_fz (t := 100) rfl) (i := (((i : Nat) : Int) - (1 : Int)).toNat) (j := 5) (by omega) rfl)) ?_
                          refine d1g 20 rfl (by kernel_rfl) rfl rfl rfl rfl (q_lss rfl rfl) ?_
                          refine d1g 21 rfl (by kernel_rfl) rfl rfl rfl rfl (q_pickt rfl rfl) ?_
                          refine d1 22 rfl (by kernel_rfl) rfl rfl (q_pickf rfl rfl) ?_
                          refine d_end (by kernel_rfl) ?_
                          exact key.weaken (.cons rfl (.cons rfl (.cons rfl (.cons rfl (.cons rfl (.consE rfl (congrArg Value.bool (by first | (simp only [hp18, hp19, hp20, ne_eq, not_true_eq_false, not_false_eq_true, true_or, or_true, false_or, or_false, true_and, and_true, false_and, and_false, Bool.decide_eq_true] <;> first | exact nb_dec _ | exact b_dec _ | (simp; done)) | exact nb_dec _ | exact b_dec _ | (simp; done) | (exfalso; omega))) (.nil))))))) (.cons rfl (.cons rfl (.cons rfl (.cons rfl (.nil)))))
                        · refine d1o 12 rfl (by kernel_rfl) rfl rfl rfl rfl ?_
                          refine d1o 13 rfl (by kernel_rfl) rfl rfl rfl rfl ?_
                          refine d1o 14 rfl (by kernel_rfl) rfl rfl rfl rfl ?_
                          refine d1o 15 rfl (by kernel_rfl) rfl rfl rfl rfl ?_
                          refine d1o 16 rfl (by kernel_rfl) rfl rfl rfl rfl ?_
                          refine d1o 17 rfl (by kernel_rfl) rfl rfl rfl rfl ?_
                          refine d1o 18 rfl (by kernel_rfl) rfl rfl rfl rfl ?_
                          refine d1o 19 rfl (by kernel_rfl) rfl rfl rfl rfl ?_
                          refine d1o 20 rfl (by kernel_rfl) rfl rfl rfl rfl ?_
                          refine d1g 21 rfl (by kernel_rfl) rfl rfl rfl rfl (q_pickf rfl rfl) ?_
                          refine d1 22 rfl (by kernel_rfl) rfl rfl (q_pickf rfl rfl) ?_
                          refine d_end (by kernel_rfl) ?_
                          exact key.weaken (.cons rfl (.cons rfl (.cons rfl (.cons rfl (.cons rfl (.consE rfl (congrArg Value.bool (decide_eq_false (fun h => h.elim (fun h => h.elim hp18 hp19) (fun h => hp20 h.1))).symm) (.nil))))))) (.cons rfl (.cons rfl (.cons rfl (.cons rfl (.nil)))))
              · refine r_region ?_
                refine s1 rfl (q_fieldAddr of42_1 rfl rfl) ?_
                refine s1 rfl (q_load ag9 rfl (fun w hw => hw.box (tg := 5) rfl rfl)) ?_
                refine sx rfl (e_call en13 (.cons rfl (.nil)) ((fun w hw => c13 ((nth l.el i).mod) w (by have := hs _ (nth_mem (i := i) (by omega)); omega)))) (fun _ _ => ?_)
                refine s1 rfl (q_notb rfl) ?_
                refine s1 rfl (q_move rfl) ?_
                refine g_splitb (s := 57) rfl (fun hp21 => ?_) (fun hp21 => ?_)
                · refine g_off rfl rfl rfl ?_
                  iterate 3 refine g_off rfl rfl rfl ?_
                  refine s1 rfl (q_pickt rfl rfl) ?_
                  refine o_end ?_
                  exact key.weaken (.cons rfl (.cons rfl (.cons rfl (.cons rfl (.cons rfl (.consE rfl (congrArg Value.bool (decide_eq_true (Or.inl (nb_t hp21))).symm) (.nil))))))) (.cons rfl (.cons rfl (.cons rfl (.cons rfl (.nil)))))
                · refine g_on rfl rfl ?_
                  refine s1 rfl (q_fieldAddr of42_2 rfl rfl) ?_
                  refine g_on rfl rfl ?_
                  refine s1 rfl (q_load ag9 rfl (fun w hw => hw.box (tg := 5) rfl rfl)) ?_
                  refine g_on rfl rfl ?_
                  refine sx rfl (e_call en14 (.cons rfl (.nil)) ((fun w hw => c14 ((nth l.el i).fn) w (by have := hs _ (nth_mem (i := i) (by omega)); omega)))) (fun _ _ => ?_)
                  refine g_on rfl rfl ?_
                  refine s1 rfl (q_notb rfl) ?_
                  refine s1 rfl (q_pickf rfl rfl) ?_
                  refine o_end ?_
                  exact key.weaken (.cons rfl (.cons rfl (.cons rfl (.cons rfl (.cons rfl (.consE rfl (congrArg Value.bool (by first | (simp only [(nb_f hp21), (Decidable.not_not.1 (nb_f hp21)), ne_eq, not_true_eq_false, not_false_eq_true, true_or, or_true, false_or, or_false, true_and, and_true, false_and, and_false, Bool.decide_eq_true] <;> first | exact nb_dec _ | exact b_dec _ | (simp; done)) | exact nb_dec _ | exact b_dec _ | (simp; done) | (exfalso; omega))) (.nil))))))) (.cons rfl (.cons rfl (.cons rfl (.cons rfl (.nil)))))
          · refine r_region ?_
            refine s1 rfl (q_fieldAddr of42_0 rfl rfl) ?_
            refine s1 rfl (q_load ag3 rfl (fun w hw => hw.box (tg := 5) rfl rfl)) ?_
            refine s1 rfl (q_neq rfl rfl) ?_
            refine s1 rfl (q_move rfl) ?_
            refine g_split (s := 30) rfl (fun hp22 => ?_) (fun hp22 => ?_)
            · refine g_on rfl rfl ?_
              refine s1 rfl (q_fieldAddr of42_7 rfl rfl) ?_
              refine g_on rfl rfl ?_
              refine s1 rfl (q_load ag40 rfl (fun w hw => hw.box (tg := 5) rfl rfl)) ?_
              refine g_on rfl rfl ?_
              refine s1 rfl (q_len Tryz.underlying40 rfl) ?_
              refine g_on rfl rfl ?_
              refine s1 rfl (q_gtr rfl rfl) ?_
              refine s1 rfl (q_pickt rfl rfl) ?_
              refine s1 rfl (q_move rfl) ?_
              refine g_split (s := 36) rfl (fun hp23 => ?_) (fun hp23 => ?_)
              · refine g_off rfl rfl rfl ?_
                iterate 3 refine g_off rfl rfl rfl ?_
                iterate 3 refine g_offu rfl rfl rfl ?_
                refine g_off rfl rfl rfl ?_
                refine g_off rfl rfl rfl ?_
                iterate 3 refine g_offu rfl rfl rfl ?_
                refine g_off rfl rfl rfl ?_
                refine s1 rfl (q_pickt rfl rfl) ?_
                refine o_end ?_
                exact key.weaken (.cons rfl (.cons rfl (.cons rfl (.cons rfl (.cons rfl (.consE rfl (congrArg Value.bool (decide_eq_true (Or.inl ⟨hp22, hp23⟩)).symm) (.nil))))))) (.cons rfl (.cons rfl (.cons rfl (.cons rfl (.nil)))))
              · refine g_on rfl rfl ?_
                refine s1 rfl (q_fieldAddr of42_0 rfl rfl) ?_
                refine g_on rfl rfl ?_
                refine s1 rfl (q_load ag3 rfl (fun w hw => hw.box (tg := 5) rfl rfl)) ?_
                refine g_on rfl rfl ?_
                refine s1 rfl (q_eql rfl rfl) ?_
                refine g_on rfl rfl ?_
                refine s1 rfl (q_move rfl) ?_
                refine g_split (s := 40) rfl (fun hp24 => ?_) (fun hp24 => ?_)
                · refine g_off rfl rfl rfl ?_
                  refine g_off rfl rfl rfl ?_
                  refine g_off rfl rfl rfl ?_
                  refine g_on rfl rfl ?_
                  refine s1 rfl (q_pickt rfl rfl) ?_
                  refine g_on rfl rfl ?_
                  refine s1 rfl (q_move rfl) ?_
                  refine g_on rfl rfl ?_
                  refine s1 rfl (q_fieldAddr of42_6 rfl rfl) ?_
                  refine g_on rfl rfl ?_
                  refine s1 rfl (q_load ag9 rfl (fun w hw => hw.box (tg := 5) rfl rfl)) ?_
                  refine g_on rfl rfl ?_
                  refine s1 rfl (q_sneq rfl rfl) ?_
                  refine g_on rfl rfl ?_
                  refine s1 rfl (q_pickt rfl rfl) ?_
                  refine s1 rfl (q_pickf rfl rfl) ?_
                  refine o_end ?_
                  exact key.weaken (.cons rfl (.cons rfl (.cons rfl (.cons rfl (.cons rfl (.consE rfl (congrArg Value.bool (by first | (simp only [hp22, hp24, hp23, ne_eq, not_true_eq_false, not_false_eq_true, true_or, or_true, false_or, or_false, true_and, and_true, false_and, and_false, Bool.decide_eq_true] <;> first | exact nb_dec _ | exact b_dec _ | (simp; done)) | exact nb_dec _ | exact b_dec _ | (simp; done) | (exfalso; omega))) (.nil))))))) (.cons rfl (.cons rfl (.cons rfl (.cons rfl (.nil)))))
                · refine g_on rfl rfl ?_
                  refine s1 rfl (q_fieldAddr of42_0 rfl rfl) ?_
                  refine g_on rfl rfl ?_
                  refine s1 rfl (q_load ag3 rfl (fun w hw => hw.box (tg := 5) rfl rfl)) ?_
                  refine g_on rfl rfl ?_
                  refine s1 rfl (q_eql rfl rfl) ?_
                  refine g_on rfl rfl ?_
                  refine s1 rfl (q_pickf rfl rfl) ?_
                  refine g_on rfl rfl ?_
                  refine s1 rfl (q_move rfl) ?_
                  refine g_split (s := 45) rfl (fun hp25 => ?_) (fun hp25 => ?_)
                  · refine g_on rfl rfl ?_
                    refine s1 rfl (q_fieldAddr of42_6 rfl rfl) ?_
                    refine g_on rfl rfl ?_
                    refine s1 rfl (q_load ag9 rfl (fun w hw => hw.box (tg := 5) rfl rfl)) ?_
                    refine g_on rfl rfl ?_
                    refine s1 rfl (q_sneq rfl rfl) ?_
                    refine g_on rfl rfl ?_
                    refine s1 rfl (q_pickt rfl rfl) ?_
                    refine s1 rfl (q_pickf rfl rfl) ?_
                    refine o_end ?_
                    exact key.weaken (.cons rfl (.cons rfl (.cons rfl (.cons rfl (.cons rfl (.consE rfl (congrArg Value.bool (by first | (simp only [hp22, hp24, hp23, hp25, ne_eq, not_true_eq_false, not_false_eq_true, true_or, or_true, false_or, or_false, true_and, and_true, false_and, and_false, Bool.decide_eq_true] <;> first | exact nb_dec _ | exact b_dec _ | (simp; done)) | exact nb_dec _ | exact b_dec _ | (simp; done) | (exfalso; omega))) (.nil))))))) (.cons rfl (.cons rfl (.cons rfl (.cons rfl (.nil)))))
                  · refine g_off rfl rfl rfl ?_
                    refine g_off rfl rfl rfl ?_
                    refine g_off rfl rfl rfl ?_
                    refine g_on rfl rfl ?_
                    refine s1 rfl (q_pickf rfl rfl) ?_
                    refine s1 rfl (q_pickf rfl rfl) ?_
                    refine o_end ?_
                    exact key.weaken (.cons rfl (.cons rfl (.cons rfl (.cons rfl (.cons rfl (.consE rfl (congrArg Value.bool (decide_eq_false (fun h => h.elim (fun h => hp23 h.2) (fun h => (fun h => h.elim hp24 hp25) h.1))).symm) (.nil))))))) (.cons rfl (.cons rfl (.cons rfl (.cons rfl (.nil)))))
            · refine g_off rfl rfl rfl ?_
              iterate 3 refine g_off rfl rfl rfl ?_
              refine s1 rfl (q_pickf rfl rfl) ?_
              refine s1 rfl (q_move rfl) ?_
              refine g_on rfl rfl ?_
              refine s1 rfl (q_fieldAddr of42_0 rfl rfl) ?_
              refine g_on rfl rfl ?_
              refine s1 rfl (q_load ag3 rfl (fun w hw => hw.box (tg := 5) rfl rfl)) ?_
              refine g_on rfl rfl ?_
              refine s1 rfl (q_eql rfl rfl) ?_
              refine g_on rfl rfl ?_
              refine s1 rfl (q_move rfl) ?_
              refine g_split (s := 40) rfl (fun hp26 => ?_) (fun hp26 => ?_)
              · refine g_off rfl rfl rfl ?_
                refine g_off rfl rfl rfl ?_
                refine g_off rfl rfl rfl ?_
                refine g_on rfl rfl ?_
                refine s1 rfl (q_pickt rfl rfl) ?_
                refine g_on rfl rfl ?_
                refine s1 rfl (q_move rfl) ?_
                refine g_on rfl rfl ?_
                refine s1 rfl (q_fieldAddr of42_6 rfl rfl) ?_
                refine g_on rfl rfl ?_
                refine s1 rfl (q_load ag9 rfl (fun w hw => hw.box (tg := 5) rfl rfl)) ?_
                refine g_on rfl rfl ?_
                refine s1 rfl (q_sneq rfl rfl) ?_
                refine g_on rfl rfl ?_
                refine s1 rfl (q_pickt rfl rfl) ?_
                refine s1 rfl (q_pickf rfl rfl) ?_
                refine o_end ?_
                exact key.weaken (.cons rfl (.cons rfl (.cons rfl (.cons rfl (.cons rfl (.consE rfl (congrArg Value.bool (by first | (simp only [hp22, hp26, ne_eq, not_true_eq_false, not_false_eq_true, true_or, or_true, false_or, or_false, true_and, and_true, false_and, and_false, Bool.decide_eq_true] <;> first | exact nb_dec _ | exact b_dec _ | (simp; done)) | exact nb_dec _ | exact b_dec _ | (simp; done) | (exfalso; omega))) (.nil))))))) (.cons rfl (.cons rfl (.cons rfl (.cons rfl (.nil)))))
              · refine g_on rfl rfl ?_
                refine s1 rfl (q_fieldAddr of42_0 rfl rfl) ?_
                refine g_on rfl rfl ?_
                refine s1 rfl (q_load ag3 rfl (fun w hw => hw.box (tg := 5) rfl rfl)) ?_
                refine g_on rfl rfl ?_
                refine s1 rfl (q_eql rfl rfl) ?_
                refine g_on rfl rfl ?_
                refine s1 rfl (q_pickf rfl rfl) ?_
                refine g_on rfl rfl ?_
                refine s1 rfl (q_move rfl) ?_
                refine g_split (s := 45) rfl (fun hp27 => ?_) (fun hp27 => ?_)
                · refine g_on rfl rfl ?_
                  refine s1 rfl (q_fieldAddr of42_6 rfl rfl) ?_
                  refine g_on rfl rfl ?_
                  refine s1 rfl (q_load ag9 rfl (fun w hw => hw.box (tg := 5) rfl rfl)) ?_
                  refine g_on rfl rfl ?_
                  refine s1 rfl (q_sneq rfl rfl) ?_
                  refine g_on rfl rfl ?_
                  refine s1 rfl (q_pickt rfl rfl) ?_
                  refine s1 rfl (q_pickf rfl rfl) ?_
                  refine o_end ?_
                  exact key.weaken (.cons rfl (.cons rfl (.cons rfl (.cons rfl (.cons rfl (.consE rfl (congrArg Value.bool (by first | (simp only [hp22, hp26, hp27, ne_eq, not_true_eq_false, not_false_eq_true, true_or, or_true, false_or, or_false, true_and, and_true, false_and, and_false, Bool.decide_eq_true] <;> first | exact nb_dec _ | exact b_dec _ | (simp; done)) | exact nb_dec _ | exact b_dec _ | (simp; done) | (exfalso; omega))) (.nil))))))) (.cons rfl (.cons rfl (.cons rfl (.cons rfl (.nil)))))
                · refine g_off rfl rfl rfl ?_
                  refine g_off rfl rfl rfl ?_
                  refine g_off rfl rfl rfl ?_
                  refine g_on rfl rfl ?_
                  refine s1 rfl (q_pickf rfl rfl) ?_
                  refine s1 rfl (q_pickf rfl rfl) ?_
                  refine o_end ?_
                  exact key.weaken (.cons rfl (.cons rfl (.cons rfl (.cons rfl (.cons rfl (.consE rfl (congrArg Value.bool (decide_eq_false (fun h => h.elim (fun h => hp22 h.1) (fun h => (fun h => h.elim hp26 hp27) h.1))).symm) (.nil))))))) (.cons rfl (.cons rfl (.cons rfl (.cons rfl (.nil)))))
      · refine r_exit rfl ?_
        refine r_seq ?_
        refine r_region ?_
        refine sx rfl (e_call en6 (.cons rfl (.cons rfl (.nil))) ((fun w hw => c6 (0 : Int) (0 : Int) w))) (fun _ _ => ?_)
        refine sxn (e_store (tg := 2) (news := [.int .i64 (0 : Int), .int .i64 (0 : Int)]) rfl rfl rfl rfl z25 rfl rfl (.cons (.cons (.nil _)))) (fun _ _ => ?_)
        refine o_end ?_
        refine r_ret Tryz.func5 (res1 Tryz.results5 (res_cell (cs := [.int .i64 (0 : Int), .int .i64 (0 : Int)]) ag25 z25 rfl (s := 2) (tg := 2) rfl rfl)) (fun w hw => ?_)
        exact ⟨ret_flt (tr_none hp1 (fun j hj => hI2 j (by omega))).symm, hw.kp⟩
    · exact ⟨by omega, fun j hj => by omega⟩

end Go.Proofs.YtecibcjckinngaaGreatDoor
/- What the checks of breakpoints compute, as plain functions on the data. -/
set_option linter.unusedVariables false
namespace Go.Proofs.YtecibcjckinngaaGreatDoor
open Go Enc
def sameB (x y : BrkM) : Bool := decide (x.mod = y.mod ∧ x.line = y.line ∧ x.name = y.name ∧ x.text = y.text)
def bNames (b : BrkM) : Prop := (¬ (dottedB b.mod = true)) ∨ ((b.name ≠ (⟨#[]⟩ : ByteArray)) ∧ (¬ (isNameB b.name = true)))
def bForm (b : BrkM) : Prop := (b.name = (⟨#[]⟩ : ByteArray)) ∧ (b.text ≠ (⟨#[]⟩ : ByteArray))
instance (b : BrkM) : Decidable (bNames b) := by unfold bNames; infer_instance
instance (b : BrkM) : Decidable (bForm b) := by unfold bForm; infer_instance
def brkCode (l : List BrkM) (i : Nat) : Int :=
  if bNames (nth l i) then 7 else if (nth l i).line < (1 : Int) then 4 else if bForm (nth l i) then 6 else if (4000 : Int) < (((nth l i).text.size : Nat) : Int) then 3 else if (l.take i).any (sameB (nth l i)) = true then 8 else 0
def brkF (l : List BrkM) (i : Nat) : Flt := if brkCode l i ≠ 0 then (brkCode l i, ((i : Nat) : Int)) else (0, 0)
def breaksFault (l : List BrkM) : Flt := if (50 : Int) < ((l.length : Nat) : Int) then (2, -1) else firstFault (brkF l) l.length
theorem br_len {l : List BrkM} (h : (50 : Int) < ((l.length : Nat) : Int)) : breaksFault l = (2, -1) := if_pos h
theorem br_at {l : List BrkM} {i : Nat} {f : Flt} (h : ¬ (50 : Int) < ((l.length : Nat) : Int)) (hb : ∀ j, j < i → (brkF l j).1 = 0) (hi : i < l.length) (hf : brkF l i = f) (hn : f.1 ≠ 0) : breaksFault l = f := by
  subst hf; rw [breaksFault, if_neg h, firstFault_at hb hi hn]
theorem br_none {l : List BrkM} (h : ¬ (50 : Int) < ((l.length : Nat) : Int)) (hb : ∀ j, j < l.length → (brkF l j).1 = 0) : breaksFault l = (0, 0) := by
  rw [breaksFault, if_neg h, firstFault_none hb]
theorem bkC {l : List BrkM} {i : Nat} {c : Int} (hc : c ≠ 0) (h : brkCode l i = c) : brkF l i = (c, ((i : Nat) : Int)) := by
  rw [brkF, if_pos (by rw [h]; exact hc), h]
theorem bk_a {l : List BrkM} {i : Nat} (h : bNames (nth l i)) : brkF l i = (7, ((i : Nat) : Int)) := bkC (by decide) (if_pos h)
theorem bk_b {l : List BrkM} {i : Nat} (h : ¬ bNames (nth l i)) (h2 : (nth l i).line < (1 : Int)) : brkF l i = (4, ((i : Nat) : Int)) := bkC (by decide) (by rw [brkCode, if_neg h, if_pos h2])
theorem bk_c {l : List BrkM} {i : Nat} (h : ¬ bNames (nth l i)) (h2 : ¬ (nth l i).line < (1 : Int)) (h3 : bForm (nth l i)) : brkF l i = (6, ((i : Nat) : Int)) := bkC (by decide) (by rw [brkCode, if_neg h, if_neg h2, if_pos h3])
theorem bk_d {l : List BrkM} {i : Nat} (h : ¬ bNames (nth l i)) (h2 : ¬ (nth l i).line < (1 : Int)) (h3 : ¬ bForm (nth l i)) (h4 : (4000 : Int) < (((nth l i).text.size : Nat) : Int)) : brkF l i = (3, ((i : Nat) : Int)) := bkC (by decide) (by rw [brkCode, if_neg h, if_neg h2, if_neg h3, if_pos h4])
theorem bk_e {l : List BrkM} {i : Nat} (h : ¬ bNames (nth l i)) (h2 : ¬ (nth l i).line < (1 : Int)) (h3 : ¬ bForm (nth l i)) (h4 : ¬ (4000 : Int) < (((nth l i).text.size : Nat) : Int)) (h5 : (l.take i).any (sameB (nth l i)) = true) : brkF l i = (8, ((i : Nat) : Int)) := bkC (by decide) (by rw [brkCode, if_neg h, if_neg h2, if_neg h3, if_neg h4, if_pos h5])
theorem bk_g {l : List BrkM} {i : Nat} (h : ¬ bNames (nth l i)) (h2 : ¬ (nth l i).line < (1 : Int)) (h3 : ¬ bForm (nth l i)) (h4 : ¬ (4000 : Int) < (((nth l i).text.size : Nat) : Int)) (h5 : (l.take i).any (sameB (nth l i)) = false) : (brkF l i).1 = 0 := by
  have hc : brkCode l i = 0 := by rw [brkCode, if_neg h, if_neg h2, if_neg h3, if_neg h4, if_neg (by rw [h5]; simp)]
  rw [brkF, if_neg (by rw [hc]; simp)]
theorem bkR {b : BrkM} : ((¬ (dottedR b.mod = true)) ∨ ((b.name ≠ (⟨#[]⟩ : ByteArray)) ∧ (¬ (isNameB b.name = true)))) ↔ bNames b := by rw [dotted_RB]; rfl
theorem same_at {x y : BrkM} (h : y.mod = x.mod ∧ y.line = x.line ∧ y.name = x.name ∧ y.text = x.text) : sameB x y = true := decide_eq_true ⟨h.1.symm, h.2.1.symm, h.2.2.1.symm, h.2.2.2.symm⟩
theorem same_n {x y : BrkM} (h : ¬ (y.mod = x.mod ∧ y.line = x.line ∧ y.name = x.name ∧ y.text = x.text)) : sameB x y = false := decide_eq_false (fun q => h ⟨q.1.symm, q.2.1.symm, q.2.2.1.symm, q.2.2.2.symm⟩)
theorem any_take_y {l : List BrkM} {x : BrkM} {i k : Nat} (hk : k < i) (hi : i < l.length) (h : sameB x (nth l k) = true) : (l.take i).any (sameB x) = true := by
  rw [List.any_eq_true]
  refine ⟨nth l k, ?_, h⟩
  rw [nth_eq (by omega)]
  exact List.mem_take_iff_getElem.2 ⟨k, by omega, rfl⟩
theorem any_take_n {l : List BrkM} {x : BrkM} {i : Nat} (hi : i ≤ l.length) (h : ∀ j, j < i → sameB x (nth l j) = false) : (l.take i).any (sameB x) = false := by
  rw [List.any_eq_false]
  intro y hy
  obtain ⟨j, hj, rfl⟩ := List.mem_take_iff_getElem.1 hy
  have := h j (by omega)
  rw [nth_eq (by omega)] at this
  rw [this]; simp
end Go.Proofs.YtecibcjckinngaaGreatDoor
/- Walks over breakpoints. -/
set_option linter.unusedVariables false
namespace Go.Proofs.YtecibcjckinngaaGreatDoor
open Go Go.RowKit Enc
attribute [local irreducible] Effect OpsE RunE AnyE AnyAt Quiet Res1


theorem c87 (l : Sl BrkM) (x : BrkM) (w : World) (hl : ok w l) : RetV Tryz.prog 87 #[.slice l.addr l.el.length l.cap, .agg (enc x).toArray] w (.int .i64 (idxOf (sameB x) l.el)) := by
  have L0 := Sl.OK.le hl (by decide)
  refine calls_of (args := [.slice l.addr l.el.length l.cap, .agg (enc x).toArray]) Tryz.func87 rfl Tryz.ntmps87 rfl (H := [(100, .fz (fun w => ok w l))]) (Facts.sep (.cons (supp_ok hl) (.nil))) ?_
  refine r_seq ?_
  refine r_region ?_
  refine sx rfl (e_box rfl (cs := enc x) rfl) (fun g1 _ => ?_)
  refine s1 rfl (q_assign rfl) ?_
  refine o_end ?_
  refine r_seq ?_
  refine r_seq ?_
  refine r_region ?_
  refine s1 rfl (q_move rfl) ?_
  refine s1 rfl (q_len Tryz.underlying35 rfl) ?_
  refine s1 rfl (q_move rfl) ?_
  refine o_end ?_
  refine r_block ?_
  refine r_loop ?_
  refine RunE.weaken ?_ ?_ (r_rounds (fun (i : Nat) => [(0, .slice l.addr l.el.length l.cap), (3, .pointer (some ⟨g1, 0, none⟩)), (7, .int .i64 ((l.el.length : Nat) : Int)), (8, .int .i64 ((i : Nat) : Int))]) (fun (i : Nat) => [(100, .fz (fun w => ok w l)), (3, .box g1 (enc x) 64)]) (fun (i : Nat) => i ≤ l.el.length ∧ ∀ j, j < i → sameB x (nth l.el j) = false) (fun (i : Nat) => l.el.length - i) ?_ 0 ?_)
  · exact (.cons rfl (.cons rfl (.cons rfl (.cons rfl (.nil)))))
  · exact (.cons rfl (.cons rfl (.nil)))
  · intro i hI0 ih0
    obtain ⟨hI1, hI2⟩ := hI0
    refine r_seq ?_
    refine r_region ?_
    refine s1 rfl (q_lss rfl rfl) ?_
    refine o_end ?_
    refine r_seq ?_
    refine r_if rfl (fun hp1 => ?_) (fun hp1 => ?_)
    · refine r_skip ?_
      refine r_seq ?_
      refine r_block ?_
      refine r_seq ?_
      refine r_region ?_
      refine s1 rfl (q_move rfl) ?_
      refine s1 rfl (q_assign rfl) ?_
      refine o_end ?_
      refine r_seq ?_
      refine r_draw [(100, .fz (fun w => ok w l)), (3, .box g1 (enc x) 64)] (by kernel_rfl) rfl (.cons rfl (.cons rfl (.nil))) ?_
      refine d1 0 rfl (by kernel_rfl) rfl rfl (q_loads (cs := enc x) ag64 z64 rfl rfl (fun w hw => hw.boxes (tg := 3) rfl)) ?_
      refine d1 1 rfl (by kernel_rfl) rfl rfl (q_move rfl) ?_
      refine d1 2 rfl (by kernel_rfl) rfl rfl (q_move rfl) ?_
      refine d1 3 rfl (by kernel_rfl) rfl rfl (q_indexAddr Tryz.underlying35 z64 rfl rfl rfl (by omega) (by omega) (fun w hw => Sl.OK.isSome (hw.get_fz (t := 100) rfl) (by decide) (i := i) (by omega))) ?_
      refine d1 4 rfl (by kernel_rfl) rfl rfl (q_loads (cs := enc (nth l.el i)) ag64 z64 rfl rfl (fun w hw => Sl.OK.cells (hw.get_fz (t := 100) rfl) (i := i) (by omega))) ?_
      refine d1 5 rfl (by kernel_rfl) rfl rfl (q_feq64_eql rfl rfl) ?_
      refine d_end (by kernel_rfl) ?_
      refine r_if rfl (fun hp2 => ?_) (fun hp2 => ?_)
      · refine r_seq ?_
        refine r_region ?_
        refine s1 rfl (q_move rfl) ?_
        refine s1 rfl (q_assign rfl) ?_
        refine o_end ?_
        refine r_ret Tryz.func87 (res1 Tryz.results87 (res_tmp (s := 4) rfl)) (fun w hw => ?_)
        exact ⟨ret_int (idxOf_at (p := sameB x) l.el i hI2 (by omega) (decide_eq_true hp2)).symm, hw.kp⟩
      · refine r_skip ?_
        refine r_inBlock ?_
        refine r_region ?_
        refine s1 rfl (q_add rfl rfl (by omega)) ?_
        refine s1 rfl (q_move rfl) ?_
        refine o_end ?_
        refine r_inLoop ?_
        refine RunE.weaken ?_ ?_ (ih0 (i + 1) ?_ ?_)
        · exact (.cons rfl (.cons rfl (.cons rfl (.cons rfl (.nil)))))
        · exact (.cons rfl (.cons rfl (.nil)))
        · exact ⟨by omega, fun j hj => by rcases Nat.lt_succ_iff_lt_or_eq.1 hj with h | rfl; exact hI2 j h; exact decide_eq_false hp2⟩
        · omega
    · refine r_exit rfl ?_
      refine r_seq ?_
      refine r_region ?_
      refine s1 rfl (q_assign rfl) ?_
      refine o_end ?_
      refine r_ret Tryz.func87 (res1 Tryz.results87 (res_tmp (s := 4) rfl)) (fun w hw => ?_)
      exact ⟨ret_int (idxOf_none (p := sameB x) l.el (fun j hj => hI2 j (by omega))).symm, hw.kp⟩
  · exact ⟨by omega, fun j hj => by omega⟩


theorem c71 (l : Sl BrkM) (x : BrkM) (w : World) (hl : ok w l) : RetV Tryz.prog 71 #[.slice l.addr l.el.length l.cap, .agg (enc x).toArray] w (.bool (l.el.any (sameB x))) := by
  refine calls_of (args := [.slice l.addr l.el.length l.cap, .agg (enc x).toArray]) Tryz.func71 rfl Tryz.ntmps71 rfl (H := [(100, .fz (fun w => ok w l))]) (Facts.sep (.cons (supp_ok hl) (.nil))) ?_
  refine r_seq ?_
  refine r_region ?_
  refine sx rfl (e_box rfl (cs := enc x) rfl) (fun g1 _ => ?_)
  refine s1 rfl (q_assign rfl) ?_
  refine o_end ?_
  refine r_seq ?_
  refine r_region ?_
  refine s1 rfl (q_move rfl) ?_
  refine s1 rfl (q_loads (cs := enc x) ag64 z64 rfl rfl (fun w hw => hw.boxes (tg := 3) rfl)) ?_
  refine sx rfl (e_call en87 (.cons rfl (.cons rfl (.nil))) ((fun w hw => c87 l x w (hw.get_fz (t := 100) rfl)))) (fun _ _ => ?_)
  refine s1 rfl (q_geq rfl rfl) ?_
  refine s1 rfl (q_assign rfl) ?_
  refine o_end ?_
  refine r_ret Tryz.func71 (res1 Tryz.results71 (res_tmp (s := 4) rfl)) (fun w hw => ?_)
  exact ⟨ret_bool (idxOf_any _), hw.kp⟩


theorem c44 (l : Sl BrkM) (w : World) (hl : ok w l) (hT : Tabs w) (hs : ∀ b ∈ l.el, b.mod.size ≤ 1048576) : RetV Tryz.prog 44 #[.slice l.addr l.el.length l.cap] w (fv (breaksFault l.el)) := by
  have L0 := Sl.OK.le hl (by decide)
  have LC := (show Sl.OK w l from hl).lc
  refine calls_of (args := [.slice l.addr l.el.length l.cap]) Tryz.func44 rfl Tryz.ntmps44 rfl (H := [(100, .fz (fun w => ok w l)), (199, .fz (fun w => Tabs w))]) (Facts.sep (.cons (supp_ok hl) (.cons (supp_tabs hT) (.nil)))) ?_
  refine r_seq ?_
  refine r_region ?_
  refine sx rfl (e_alloc zz25) (fun g1 _ => ?_)
  refine o_end ?_
  refine r_seq ?_
  refine r_seq ?_
  refine r_region ?_
  refine s1 rfl (q_move rfl) ?_
  refine s1 rfl (q_len Tryz.underlying35 rfl) ?_
  refine s1 rfl (q_gtr rfl rfl) ?_
  refine o_end ?_
  refine r_if rfl (fun hp1 => ?_) (fun hp1 => ?_)
  · refine r_seq ?_
    refine r_region ?_
    refine s1 rfl (q_build (cs := [.int .i64 (2 : Int), .int .i64 (-1 : Int)]) (.cons rfl (.cons rfl (.nil))) (by kernel_rfl)) ?_
    refine sxn (e_store (tg := 2) (news := [.int .i64 (2 : Int), .int .i64 (-1 : Int)]) rfl rfl rfl rfl z25 rfl rfl (.cons (.cons (.nil _)))) (fun _ _ => ?_)
    refine o_end ?_
    refine r_ret Tryz.func44 (res1 Tryz.results44 (res_cell (cs := [.int .i64 (2 : Int), .int .i64 (-1 : Int)]) ag25 z25 rfl (s := 2) (tg := 2) rfl rfl)) (fun w hw => ?_)
    exact ⟨ret_flt (br_len hp1).symm, hw.kp⟩
  · refine r_skip ?_
    refine r_seq ?_
    refine r_seq ?_
    refine r_region ?_
    refine s1 rfl (q_move rfl) ?_
    refine s1 rfl (q_len Tryz.underlying35 rfl) ?_
    refine s1 rfl (q_move rfl) ?_
    refine o_end ?_
    refine r_block ?_
    refine r_loop ?_
    refine RunE.weaken ?_ ?_ (r_rounds (fun (i : Nat) => [(0, .slice l.addr l.el.length l.cap), (2, .pointer (some ⟨g1, 0, none⟩)), (10, .slice l.addr l.el.length l.cap), (11, .int .i64 ((l.el.length : Nat) : Int)), (12, .int .i64 ((i : Nat) : Int))]) (fun (i : Nat) => [(100, .fz (fun w => ok w l)), (199, .fz (fun w => Tabs w)), (2, .box g1 [.int .i64 (0 : Int), .int .i64 (0 : Int)] 25)]) (fun (i : Nat) => i ≤ l.el.length ∧ ∀ j, j < i → (brkF l.el j).1 = 0) (fun (i : Nat) => l.el.length - i) ?_ 0 ?_)
    · exact (.cons rfl (.cons rfl (.cons rfl (.cons rfl (.cons rfl (.nil))))))
    · exact (.cons rfl (.cons rfl (.cons rfl (.nil))))
    · intro i hI0 ih0
      obtain ⟨hI1, hI2⟩ := hI0
      refine r_seq ?_
      refine r_region ?_
      refine s1 rfl (q_lss rfl rfl) ?_
      refine o_end ?_
      refine r_seq ?_
      refine r_if rfl (fun hp2 => ?_) (fun hp2 => ?_)
      · refine r_skip ?_
        refine r_seq ?_
        refine r_block ?_
        refine r_seq ?_
        refine r_region ?_
        refine s1 rfl (q_move rfl) ?_
        refine s1 rfl (q_indexAddr Tryz.underlying35 z64 rfl rfl rfl (by omega) (by omega) (fun w hw => Sl.OK.isSome (hw.get_fz (t := 100) rfl) (by decide) (i := i) (by omega))) ?_
        refine s1 rfl (q_loads (cs := enc (nth l.el i)) ag64 z64 rfl rfl (fun w hw => Sl.OK.cells (hw.get_fz (t := 100) rfl) (i := i) (by omega))) ?_
        refine sx rfl (e_alloc zz64) (fun g2 _ => ?_)
        refine s1 rfl (q_assign rfl) ?_
        refine sxn (e_store (tg := 4) (news := enc (nth l.el i)) rfl rfl rfl rfl z64 rfl rfl (.cons (.cons (.cons (.cons (.nil _)))))) (fun _ _ => ?_)
        refine o_end ?_
        refine r_seq ?_
        refine r_region ?_
        refine s1 rfl (q_assign rfl) ?_
        refine o_end ?_
        refine r_seq ?_
        refine r_block ?_
        refine r_seq ?_
        refine r_cut [(0, .slice l.addr l.el.length l.cap), (2, .pointer (some ⟨g1, 0, none⟩)), (3, .int .i64 ((i : Nat) : Int)), (4, .pointer (some ⟨g2, 0, none⟩)), (5, .int .i64 (0 : Int)), (10, .slice l.addr l.el.length l.cap), (11, .int .i64 ((l.el.length : Nat) : Int)), (12, .int .i64 ((i : Nat) : Int)), (17, .bool (decide ((¬ (dottedB ((nth l.el i).mod) = true)) ∨ ((((nth l.el i).name) ≠ (⟨#[]⟩ : ByteArray)) ∧ (¬ (isNameB ((nth l.el i).name) = true))))))] [(100, .fz (fun w => ok w l)), (199, .fz (fun w => Tabs w)), (2, .box g1 [.int .i64 (0 : Int), .int .i64 (0 : Int)] 25), (4, .box g2 (enc (nth l.el i)) 64)] ?_ (fun key => ?_)
        · refine r_if rfl (fun hp3 => ?_) (fun hp3 => ?_)
          · refine r_region ?_
            refine s1 rfl (q_assign rfl) ?_
            refine o_end ?_
            refine r_inBlock ?_
            refine r_seq ?_
            refine r_region ?_
            refine s1 rfl (q_move rfl) ?_
            refine s1 rfl (q_neq rfl rfl) ?_
            refine o_end ?_
            refine r_ifT rfl (by decide) ?_
            refine r_seq ?_
            refine r_region ?_
            refine s1 rfl (q_move rfl) ?_
            refine s1 rfl (q_move rfl) ?_
            refine s1 rfl (q_build (cs := [.int .i64 (7 : Int), .int .i64 ((i : Nat) : Int)]) (.cons rfl (.cons rfl (.nil))) (by kernel_rfl)) ?_
            refine sxn (e_store (tg := 2) (news := [.int .i64 (7 : Int), .int .i64 ((i : Nat) : Int)]) rfl rfl rfl rfl z25 rfl rfl (.cons (.cons (.nil _)))) (fun _ _ => ?_)
            refine o_end ?_
            refine r_ret Tryz.func44 (res1 Tryz.results44 (res_cell (cs := [.int .i64 (7 : Int), .int .i64 ((i : Nat) : Int)]) ag25 z25 rfl (s := 2) (tg := 2) rfl rfl)) (fun w hw => ?_)
            exact ⟨ret_flt (br_at (f := (7, ((i : Nat) : Int))) hp1 hI2 (by omega) (bk_a hp3) (by simp)).symm, hw.kp⟩
          · refine r_seq ?_
            refine r_region ?_
            refine s1 rfl (q_fieldAddr of64_1 rfl rfl) ?_
            refine s1 rfl (q_load ag3 rfl (fun w hw => hw.box (tg := 4) rfl rfl)) ?_
            refine s1 rfl (q_lss rfl rfl) ?_
            refine s1 rfl (q_assign rfl) ?_
            refine o_end ?_
            refine r_if rfl (fun hp4 => ?_) (fun hp4 => ?_)
            · refine r_region ?_
              refine s1 rfl (q_assign rfl) ?_
              refine o_end ?_
              refine r_inBlock ?_
              refine r_seq ?_
              refine r_region ?_
              refine s1 rfl (q_move rfl) ?_
              refine s1 rfl (q_neq rfl rfl) ?_
              refine o_end ?_
              refine r_ifT rfl (by decide) ?_
              refine r_seq ?_
              refine r_region ?_
              refine s1 rfl (q_move rfl) ?_
              refine s1 rfl (q_move rfl) ?_
              refine s1 rfl (q_build (cs := [.int .i64 (4 : Int), .int .i64 ((i : Nat) : Int)]) (.cons rfl (.cons rfl (.nil))) (by kernel_rfl)) ?_
              refine sxn (e_store (tg := 2) (news := [.int .i64 (4 : Int), .int .i64 ((i : Nat) : Int)]) rfl rfl rfl rfl z25 rfl rfl (.cons (.cons (.nil _)))) (fun _ _ => ?_)
              refine o_end ?_
              refine r_ret Tryz.func44 (res1 Tryz.results44 (res_cell (cs := [.int .i64 (4 : Int), .int .i64 ((i : Nat) : Int)]) ag25 z25 rfl (s := 2) (tg := 2) rfl rfl)) (fun w hw => ?_)
              exact ⟨ret_flt (br_at (f := (4, ((i : Nat) : Int))) hp1 hI2 (by omega) (bk_b hp3 hp4) (by simp)).symm, hw.kp⟩
            · refine r_seq ?_
              refine r_cut [(0, .slice l.addr l.el.length l.cap), (2, .pointer (some ⟨g1, 0, none⟩)), (3, .int .i64 ((i : Nat) : Int)), (4, .pointer (some ⟨g2, 0, none⟩)), (5, .int .i64 (0 : Int)), (10, .slice l.addr l.el.length l.cap), (11, .int .i64 ((l.el.length : Nat) : Int)), (12, .int .i64 ((i : Nat) : Int)), (37, .bool (decide ((((nth l.el i).name) = (⟨#[]⟩ : ByteArray)) ∧ (((nth l.el i).text) ≠ (⟨#[]⟩ : ByteArray)))))] [(100, .fz (fun w => ok w l)), (199, .fz (fun w => Tabs w)), (2, .box g1 [.int .i64 (0 : Int), .int .i64 (0 : Int)] 25), (4, .box g2 (enc (nth l.el i)) 64)] ?_ (fun key => ?_)
              · refine r_if rfl (fun hp5 => ?_) (fun hp5 => ?_)
                · refine r_region ?_
                  refine s1 rfl (q_assign rfl) ?_
                  refine o_end ?_
                  refine r_inBlock ?_
                  refine r_seq ?_
                  refine r_region ?_
                  refine s1 rfl (q_move rfl) ?_
                  refine s1 rfl (q_neq rfl rfl) ?_
                  refine o_end ?_
                  refine r_ifT rfl (by decide) ?_
                  refine r_seq ?_
                  refine r_region ?_
                  refine s1 rfl (q_move rfl) ?_
                  refine s1 rfl (q_move rfl) ?_
                  refine s1 rfl (q_build (cs := [.int .i64 (6 : Int), .int .i64 ((i : Nat) : Int)]) (.cons rfl (.cons rfl (.nil))) (by kernel_rfl)) ?_
                  refine sxn (e_store (tg := 2) (news := [.int .i64 (6 : Int), .int .i64 ((i : Nat) : Int)]) rfl rfl rfl rfl z25 rfl rfl (.cons (.cons (.nil _)))) (fun _ _ => ?_)
                  refine o_end ?_
                  refine r_ret Tryz.func44 (res1 Tryz.results44 (res_cell (cs := [.int .i64 (6 : Int), .int .i64 ((i : Nat) : Int)]) ag25 z25 rfl (s := 2) (tg := 2) rfl rfl)) (fun w hw => ?_)
                  exact ⟨ret_flt (br_at (f := (6, ((i : Nat) : Int))) hp1 hI2 (by omega) (bk_c hp3 hp4 hp5) (by simp)).symm, hw.kp⟩
                · refine r_seq ?_
                  refine r_region ?_
                  refine s1 rfl (q_fieldAddr of64_3 rfl rfl) ?_
                  refine s1 rfl (q_load ag9 rfl (fun w hw => hw.box (tg := 4) rfl rfl)) ?_
                  refine s1 rfl (q_lens Tryz.underlying9 rfl) ?_
                  refine s1 rfl (q_gtr rfl rfl) ?_
                  refine s1 rfl (q_assign rfl) ?_
                  refine o_end ?_
                  refine r_if rfl (fun hp6 => ?_) (fun hp6 => ?_)
                  · refine r_region ?_
                    refine s1 rfl (q_assign rfl) ?_
                    refine o_end ?_
                    refine r_inBlock ?_
                    refine r_seq ?_
                    refine r_region ?_
                    refine s1 rfl (q_move rfl) ?_
                    refine s1 rfl (q_neq rfl rfl) ?_
                    refine o_end ?_
                    refine r_ifT rfl (by decide) ?_
                    refine r_seq ?_
                    refine r_region ?_
                    refine s1 rfl (q_move rfl) ?_
                    refine s1 rfl (q_move rfl) ?_
                    refine s1 rfl (q_build (cs := [.int .i64 (3 : Int), .int .i64 ((i : Nat) : Int)]) (.cons rfl (.cons rfl (.nil))) (by kernel_rfl)) ?_
                    refine sxn (e_store (tg := 2) (news := [.int .i64 (3 : Int), .int .i64 ((i : Nat) : Int)]) rfl rfl rfl rfl z25 rfl rfl (.cons (.cons (.nil _)))) (fun _ _ => ?_)
                    refine o_end ?_
                    refine r_ret Tryz.func44 (res1 Tryz.results44 (res_cell (cs := [.int .i64 (3 : Int), .int .i64 ((i : Nat) : Int)]) ag25 z25 rfl (s := 2) (tg := 2) rfl rfl)) (fun w hw => ?_)
                    exact ⟨ret_flt (br_at (f := (3, ((i : Nat) : Int))) hp1 hI2 (by omega) (bk_d hp3 hp4 hp5 hp6) (by simp)).symm, hw.kp⟩
                  · refine r_seq ?_
                    refine r_draw [(100, .fz (fun w => ok w l)), (199, .fz (fun w => Tabs w)), (2, .box g1 [.int .i64 (0 : Int), .int .i64 (0 : Int)] 25), (4, .box g2 (enc (nth l.el i)) 64)] (by kernel_rfl) rfl (.cons rfl (.cons rfl (.cons rfl (.cons rfl (.nil))))) ?_
                    refine d1 0 rfl (by kernel_rfl) rfl rfl (q_move rfl) ?_
                    refine d1 1 rfl (by kernel_rfl) rfl rfl (q_move rfl) ?_
                    refine d1 2 rfl (by kernel_rfl) rfl rfl (q_slice_h (s := l) Tryz.underlying35 z64 rfl rfl rfl (by omega) (by omega)) ?_
                    refine d1 3 rfl (by kernel_rfl) rfl rfl (q_loads (cs := enc (nth l.el i)) ag64 z64 rfl rfl (fun w hw => hw.boxes (tg := 4) rfl)) ?_
                    refine dx 4 rfl (by kernel_rfl) rfl rfl (want_none rfl) (e_call en71 (.cons rfl (.cons rfl (.nil))) ((fun w hw => c71 (l.sub 0 i) (nth l.el i) w (Sl.OK.sub (hw.get_fz (t := 100) rfl) (lo := 0) (hi := i) (by omega) (by omega))))) (fun _ => (.cons rfl (.cons rfl (.cons rfl (.cons rfl (.nil)))))) (fun _ _ => ?_)
                    refine d1 5 rfl (by kernel_rfl) rfl rfl (q_assign rfl) ?_
                    refine d_end (by kernel_rfl) ?_
                    refine r_ifb rfl (fun hp7 => ?_) (fun hp7 => ?_)
                    · refine r_region ?_
                      refine s1 rfl (q_assign rfl) ?_
                      refine o_end ?_
                      refine r_inBlock ?_
                      refine r_seq ?_
                      refine r_region ?_
                      refine s1 rfl (q_move rfl) ?_
                      refine s1 rfl (q_neq rfl rfl) ?_
                      refine o_end ?_
                      refine r_ifT rfl (by decide) ?_
                      refine r_seq ?_
                      refine r_region ?_
                      refine s1 rfl (q_move rfl) ?_
                      refine s1 rfl (q_move rfl) ?_
                      refine s1 rfl (q_build (cs := [.int .i64 (8 : Int), .int .i64 ((i : Nat) : Int)]) (.cons rfl (.cons rfl (.nil))) (by kernel_rfl)) ?_
                      refine sxn (e_store (tg := 2) (news := [.int .i64 (8 : Int), .int .i64 ((i : Nat) : Int)]) rfl rfl rfl rfl z25 rfl rfl (.cons (.cons (.nil _)))) (fun _ _ => ?_)
                      refine o_end ?_
                      refine r_ret Tryz.func44 (res1 Tryz.results44 (res_cell (cs := [.int .i64 (8 : Int), .int .i64 ((i : Nat) : Int)]) ag25 z25 rfl (s := 2) (tg := 2) rfl rfl)) (fun w hw => ?_)
                      exact ⟨ret_flt (br_at (f := (8, ((i : Nat) : Int))) hp1 hI2 (by omega) (bk_e hp3 hp4 hp5 hp6 hp7) (by simp)).symm, hw.kp⟩
                    · refine r_skip ?_
                      refine r_inBlock ?_
                      refine r_seq ?_
                      refine r_region ?_
                      refine s1 rfl (q_move rfl) ?_
                      refine s1 rfl (q_neq rfl rfl) ?_
                      refine o_end ?_
                      refine r_ifF rfl (by decide) ?_
                      refine r_skip ?_
                      refine r_inBlock ?_
                      refine r_region ?_
                      refine s1 rfl (q_add rfl rfl (by omega)) ?_
                      refine s1 rfl (q_move rfl) ?_
                      refine o_end ?_
                      refine r_inLoop ?_
                      refine RunE.weaken ?_ ?_ (ih0 (i + 1) ?_ ?_)
                      · exact (.cons rfl (.cons rfl (.cons rfl (.cons rfl (.cons rfl (.nil))))))
                      · exact (.cons rfl (.cons rfl (.cons rfl (.nil))))
                      · exact ⟨by omega, fun j hj => by rcases Nat.lt_succ_iff_lt_or_eq.1 hj with h | rfl; exact hI2 j h; exact bk_g hp3 hp4 hp5 hp6 hp7⟩
                      · omega
              · refine r_region ?_
                refine s1 rfl (q_fieldAddr of64_2 rfl rfl) ?_
                refine s1 rfl (q_load ag9 rfl (fun w hw => hw.box (tg := 4) rfl rfl)) ?_
                refine s1 rfl (q_seql rfl rfl) ?_
                refine s1 rfl (q_move rfl) ?_
                refine g_split (s := 41) rfl (fun hp8 => ?_) (fun hp8 => ?_)
                · refine g_on rfl rfl ?_
                  refine s1 rfl (q_fieldAddr of64_3 rfl rfl) ?_
                  refine g_on rfl rfl ?_
                  refine s1 rfl (q_load ag9 rfl (fun w hw => hw.box (tg := 4) rfl rfl)) ?_
                  refine g_on rfl rfl ?_
                  refine s1 rfl (q_sneq rfl rfl) ?_
                  refine s1 rfl (q_pickt rfl rfl) ?_
                  refine s1 rfl (q_assign rfl) ?_
                  refine o_end ?_
                  exact key.weaken (.cons rfl (.cons rfl (.cons rfl (.cons rfl (.cons rfl (.cons rfl (.cons rfl (.cons rfl (.consE rfl (congrArg Value.bool (by first | (simp only [hp8, ne_eq, not_true_eq_false, not_false_eq_true, true_or, or_true, false_or, or_false, true_and, and_true, false_and, and_false, Bool.decide_eq_true] <;> first | exact nb_dec _ | exact b_dec _ | (simp; done)) | exact nb_dec _ | exact b_dec _ | (simp; done) | (exfalso; omega))) (.nil)))))))))) (.cons rfl (.cons rfl (.cons rfl (.cons rfl (.nil)))))
                · refine g_off rfl rfl rfl ?_
                  refine g_off rfl rfl rfl ?_
                  refine g_off rfl rfl rfl ?_
                  refine s1 rfl (q_pickf rfl rfl) ?_
                  refine s1 rfl (q_assign rfl) ?_
                  refine o_end ?_
                  exact key.weaken (.cons rfl (.cons rfl (.cons rfl (.cons rfl (.cons rfl (.cons rfl (.cons rfl (.cons rfl (.consE rfl (congrArg Value.bool (decide_eq_false (fun h => hp8 h.1)).symm) (.nil)))))))))) (.cons rfl (.cons rfl (.cons rfl (.cons rfl (.nil)))))
        · refine r_region ?_
          refine s1 rfl (q_fieldAddr of64_0 rfl rfl) ?_
          refine s1 rfl (q_load ag9 rfl (fun w hw => hw.box (tg := 4) rfl rfl)) ?_
          refine sx rfl (e_call en70 (.cons rfl (.nil)) ((fun w hw => c70 ((nth l.el i).mod) w (by first | omega | (have hq := BrkM.OK.name (Sl.OK.nthOK (show ok _ l from hl) (i := i) (by omega)); simp only [ok] at hq; omega) | (have hq := hs _ (nth_mem (i := i) (by omega)); omega)) (hw.get_fz (t := 199) rfl)))) (fun _ _ => ?_)
          refine s1 rfl (q_notb rfl) ?_
          refine s1 rfl (q_move rfl) ?_
          refine g_splitb (s := 22) rfl (fun hp9 => ?_) (fun hp9 => ?_)
          · refine g_off rfl rfl rfl ?_
            iterate 3 refine g_off rfl rfl rfl ?_
            iterate 4 refine g_offu rfl rfl rfl ?_
            refine g_off rfl rfl rfl ?_
            refine s1 rfl (q_pickt rfl rfl) ?_
            refine s1 rfl (q_assign rfl) ?_
            refine o_end ?_
            exact key.weaken (.cons rfl (.cons rfl (.cons rfl (.cons rfl (.cons rfl (.cons rfl (.cons rfl (.cons rfl (.consE rfl (congrArg Value.bool (decide_eq_true (Or.inl (nb_t hp9))).symm) (.nil)))))))))) (.cons rfl (.cons rfl (.cons rfl (.cons rfl (.nil)))))
          · refine g_on rfl rfl ?_
            refine s1 rfl (q_fieldAddr of64_2 rfl rfl) ?_
            refine g_on rfl rfl ?_
            refine s1 rfl (q_load ag9 rfl (fun w hw => hw.box (tg := 4) rfl rfl)) ?_
            refine g_on rfl rfl ?_
            refine s1 rfl (q_sneq rfl rfl) ?_
            refine g_on rfl rfl ?_
            refine s1 rfl (q_move rfl) ?_
            refine g_split (s := 26) rfl (fun hp10 => ?_) (fun hp10 => ?_)
            · refine g_on rfl rfl ?_
              refine s1 rfl (q_fieldAddr of64_2 rfl rfl) ?_
              refine g_on rfl rfl ?_
              refine s1 rfl (q_load ag9 rfl (fun w hw => hw.box (tg := 4) rfl rfl)) ?_
              refine g_on rfl rfl ?_
              refine sx rfl (e_call en42 (.cons rfl (.nil)) ((fun w hw => c42 ((nth l.el i).name) w (by first | omega | (have hq := BrkM.OK.name (Sl.OK.nthOK (show ok _ l from hl) (i := i) (by omega)); simp only [ok] at hq; omega) | (have hq := hs _ (nth_mem (i := i) (by omega)); omega))))) (fun _ _ => ?_)
              refine g_on rfl rfl ?_
              refine s1 rfl (q_notb rfl) ?_
              refine g_on rfl rfl ?_
              refine s1 rfl (q_pickt rfl rfl) ?_
              refine s1 rfl (q_pickf rfl rfl) ?_
              refine s1 rfl (q_assign rfl) ?_
              refine o_end ?_
              exact key.weaken (.cons rfl (.cons rfl (.cons rfl (.cons rfl (.cons rfl (.cons rfl (.cons rfl (.cons rfl (.consE rfl (congrArg Value.bool (by first | (simp only [(nb_f hp9), (Decidable.not_not.1 (nb_f hp9)), hp10, ne_eq, not_true_eq_false, not_false_eq_true, true_or, or_true, false_or, or_false, true_and, and_true, false_and, and_false, Bool.decide_eq_true] <;> first | exact nb_dec _ | exact b_dec _ | (simp; done)) | exact nb_dec _ | exact b_dec _ | (simp; done) | (exfalso; omega))) (.nil)))))))))) (.cons rfl (.cons rfl (.cons rfl (.cons rfl (.nil)))))
            · refine g_off rfl rfl rfl ?_
              iterate 3 refine g_off rfl rfl rfl ?_
              refine g_on rfl rfl ?_
              refine s1 rfl (q_pickf rfl rfl) ?_
              refine s1 rfl (q_pickf rfl rfl) ?_
              refine s1 rfl (q_assign rfl) ?_
              refine o_end ?_
              exact key.weaken (.cons rfl (.cons rfl (.cons rfl (.cons rfl (.cons rfl (.cons rfl (.cons rfl (.cons rfl (.consE rfl (congrArg Value.bool (decide_eq_false (fun h => h.elim (nb_f hp9) (fun h => hp10 h.1))).symm) (.nil)))))))))) (.cons rfl (.cons rfl (.cons rfl (.cons rfl (.nil)))))
      · refine r_exit rfl ?_
        refine r_seq ?_
        refine r_region ?_
        refine s1 rfl (q_build (cs := [.int .i64 (0 : Int), .int .i64 (0 : Int)]) (.nil) (by kernel_rfl)) ?_
        refine sxn (e_store (tg := 2) (news := [.int .i64 (0 : Int), .int .i64 (0 : Int)]) rfl rfl rfl rfl z25 rfl rfl (.cons (.cons (.nil _)))) (fun _ _ => ?_)
        refine o_end ?_
        refine r_ret Tryz.func44 (res1 Tryz.results44 (res_cell (cs := [.int .i64 (0 : Int), .int .i64 (0 : Int)]) ag25 z25 rfl (s := 2) (tg := 2) rfl rfl)) (fun w hw => ?_)
        exact ⟨ret_flt (br_none hp1 (fun j hj => hI2 j (by omega))).symm, hw.kp⟩
    · exact ⟨by omega, fun j hj => by omega⟩


theorem c26 (l : Sl BrkM) (w : World) (hl : ok w l) (hs : ∀ b ∈ l.el, b.mod.size ≤ 1048576) : RetV Tryz.prog 26 #[.slice l.addr l.el.length l.cap] w (fv (breaksFault l.el)) := by
  have L0 := Sl.OK.le hl (by decide)
  refine calls_of (args := [.slice l.addr l.el.length l.cap]) Tryz.func26 rfl Tryz.ntmps26 rfl (H := [(100, .fz (fun w => ok w l))]) (Facts.sep (.cons (supp_ok hl) (.nil))) ?_
  refine r_seq ?_
  refine r_region ?_
  refine sx rfl (e_alloc zz25) (fun g1 _ => ?_)
  refine o_end ?_
  refine r_seq ?_
  refine r_seq ?_
  refine r_region ?_
  refine s1 rfl (q_move rfl) ?_
  refine s1 rfl (q_len Tryz.underlying35 rfl) ?_
  refine s1 rfl (q_gtr rfl rfl) ?_
  refine o_end ?_
  refine r_if rfl (fun hp1 => ?_) (fun hp1 => ?_)
  · refine r_seq ?_
    refine r_region ?_
    refine sx rfl (e_call en6 (.cons rfl (.cons rfl (.nil))) ((fun w hw => c6 (2 : Int) (-1 : Int) w))) (fun _ _ => ?_)
    refine sxn (e_store (tg := 2) (news := [.int .i64 (2 : Int), .int .i64 (-1 : Int)]) rfl rfl rfl rfl z25 rfl rfl (.cons (.cons (.nil _)))) (fun _ _ => ?_)
    refine o_end ?_
    refine r_ret Tryz.func26 (res1 Tryz.results26 (res_cell (cs := [.int .i64 (2 : Int), .int .i64 (-1 : Int)]) ag25 z25 rfl (s := 2) (tg := 2) rfl rfl)) (fun w hw => ?_)
    exact ⟨ret_flt (br_len hp1).symm, hw.kp⟩
  · refine r_skip ?_
    refine r_seq ?_
    refine r_seq ?_
    refine r_region ?_
    refine s1 rfl (q_assign rfl) ?_
    refine o_end ?_
    refine r_block ?_
    refine r_loop ?_
    refine RunE.weaken ?_ ?_ (r_rounds (fun (i : Nat) => [(0, .slice l.addr l.el.length l.cap), (2, .pointer (some ⟨g1, 0, none⟩)), (3, .int .i64 ((i : Nat) : Int))]) (fun (i : Nat) => [(100, .fz (fun w => ok w l)), (2, .box g1 [.int .i64 (0 : Int), .int .i64 (0 : Int)] 25)]) (fun (i : Nat) => i ≤ l.el.length ∧ ∀ j, j < i → (brkF l.el j).1 = 0) (fun (i : Nat) => l.el.length - i) ?_ 0 ?_)
    · exact (.cons rfl (.cons rfl (.cons rfl (.nil))))
    · exact (.cons rfl (.cons rfl (.nil)))
    · intro i hI0 ih0
      obtain ⟨hI1, hI2⟩ := hI0
      refine r_seq ?_
      refine r_seq ?_
      refine r_region ?_
      refine s1 rfl (q_move rfl) ?_
      refine s1 rfl (q_move rfl) ?_
      refine s1 rfl (q_len Tryz.underlying35 rfl) ?_
      refine s1 rfl (q_lss rfl rfl) ?_
      refine o_end ?_
      refine r_if rfl (fun hp2 => ?_) (fun hp2 => ?_)
      · refine r_skip ?_
        refine r_seq ?_
        refine r_block ?_
        refine r_seq ?_
        refine r_region ?_
        refine s1 rfl (q_move rfl) ?_
        refine s1 rfl (q_move rfl) ?_
        refine s1 rfl (q_indexAddr Tryz.underlying35 z64 rfl rfl rfl (by omega) (by omega) (fun w hw => Sl.OK.isSome (hw.get_fz (t := 100) rfl) (by decide) (i := i) (by omega))) ?_
        refine s1 rfl (q_loads (cs := enc (nth l.el i)) ag64 z64 rfl rfl (fun w hw => Sl.OK.cells (hw.get_fz (t := 100) rfl) (i := i) (by omega))) ?_
        refine sx rfl (e_alloc zz64) (fun g2 _ => ?_)
        refine sxn (e_store (tg := 4) (news := enc (nth l.el i)) rfl rfl rfl rfl z64 rfl rfl (.cons (.cons (.cons (.cons (.nil _)))))) (fun _ _ => ?_)
        refine o_end ?_
        refine r_seq ?_
        refine r_seq ?_
        refine r_cut [(0, .slice l.addr l.el.length l.cap), (2, .pointer (some ⟨g1, 0, none⟩)), (3, .int .i64 ((i : Nat) : Int)), (4, .pointer (some ⟨g2, 0, none⟩)), (34, .bool (decide ((¬ (dottedR ((nth l.el i).mod) = true)) ∨ ((((nth l.el i).name) ≠ (⟨#[]⟩ : ByteArray)) ∧ (¬ (isNameB ((nth l.el i).name) = true))))))] [(100, .fz (fun w => ok w l)), (2, .box g1 [.int .i64 (0 : Int), .int .i64 (0 : Int)] 25), (4, .box g2 (enc (nth l.el i)) 64)] ?_ (fun key => ?_)
        · refine r_if rfl (fun hp3 => ?_) (fun hp3 => ?_)
          · refine r_seq ?_
            refine r_region ?_
            refine s1 rfl (q_move rfl) ?_
            refine sx rfl (e_call en6 (.cons rfl (.cons rfl (.nil))) ((fun w hw => c6 (7 : Int) ((i : Nat) : Int) w))) (fun _ _ => ?_)
            refine sxn (e_store (tg := 2) (news := [.int .i64 (7 : Int), .int .i64 ((i : Nat) : Int)]) rfl rfl rfl rfl z25 rfl rfl (.cons (.cons (.nil _)))) (fun _ _ => ?_)
            refine o_end ?_
            refine r_ret Tryz.func26 (res1 Tryz.results26 (res_cell (cs := [.int .i64 (7 : Int), .int .i64 ((i : Nat) : Int)]) ag25 z25 rfl (s := 2) (tg := 2) rfl rfl)) (fun w hw => ?_)
            exact ⟨ret_flt (br_at (f := (7, ((i : Nat) : Int))) hp1 hI2 (by omega) (bk_a (bkR.1 hp3)) (by simp)).symm, hw.kp⟩
          · refine r_skip ?_
            refine r_seq ?_
            refine r_seq ?_
            refine r_region ?_
            refine s1 rfl (q_fieldAddr of64_1 rfl rfl) ?_
            refine s1 rfl (q_load ag3 rfl (fun w hw => hw.box (tg := 4) rfl rfl)) ?_
            refine s1 rfl (q_lss rfl rfl) ?_
            refine o_end ?_
            refine r_if rfl (fun hp4 => ?_) (fun hp4 => ?_)
            · refine r_seq ?_
              refine r_region ?_
              refine s1 rfl (q_move rfl) ?_
              refine sx rfl (e_call en6 (.cons rfl (.cons rfl (.nil))) ((fun w hw => c6 (4 : Int) ((i : Nat) : Int) w))) (fun _ _ => ?_)
              refine sxn (e_store (tg := 2) (news := [.int .i64 (4 : Int), .int .i64 ((i : Nat) : Int)]) rfl rfl rfl rfl z25 rfl rfl (.cons (.cons (.nil _)))) (fun _ _ => ?_)
              refine o_end ?_
              refine r_ret Tryz.func26 (res1 Tryz.results26 (res_cell (cs := [.int .i64 (4 : Int), .int .i64 ((i : Nat) : Int)]) ag25 z25 rfl (s := 2) (tg := 2) rfl rfl)) (fun w hw => ?_)
              exact ⟨ret_flt (br_at (f := (4, ((i : Nat) : Int))) hp1 hI2 (by omega) (bk_b (fun q => hp3 (bkR.2 q)) hp4) (by simp)).symm, hw.kp⟩
            · refine r_skip ?_
              refine r_seq ?_
              refine r_seq ?_
              refine r_cut [(0, .slice l.addr l.el.length l.cap), (2, .pointer (some ⟨g1, 0, none⟩)), (3, .int .i64 ((i : Nat) : Int)), (4, .pointer (some ⟨g2, 0, none⟩)), (49, .bool (decide ((((nth l.el i).name) = (⟨#[]⟩ : ByteArray)) ∧ (((nth l.el i).text) ≠ (⟨#[]⟩ : ByteArray)))))] [(100, .fz (fun w => ok w l)), (2, .box g1 [.int .i64 (0 : Int), .int .i64 (0 : Int)] 25), (4, .box g2 (enc (nth l.el i)) 64)] ?_ (fun key => ?_)
              · refine r_if rfl (fun hp5 => ?_) (fun hp5 => ?_)
                · refine r_seq ?_
                  refine r_region ?_
                  refine s1 rfl (q_move rfl) ?_
                  refine sx rfl (e_call en6 (.cons rfl (.cons rfl (.nil))) ((fun w hw => c6 (6 : Int) ((i : Nat) : Int) w))) (fun _ _ => ?_)
                  refine sxn (e_store (tg := 2) (news := [.int .i64 (6 : Int), .int .i64 ((i : Nat) : Int)]) rfl rfl rfl rfl z25 rfl rfl (.cons (.cons (.nil _)))) (fun _ _ => ?_)
                  refine o_end ?_
                  refine r_ret Tryz.func26 (res1 Tryz.results26 (res_cell (cs := [.int .i64 (6 : Int), .int .i64 ((i : Nat) : Int)]) ag25 z25 rfl (s := 2) (tg := 2) rfl rfl)) (fun w hw => ?_)
                  exact ⟨ret_flt (br_at (f := (6, ((i : Nat) : Int))) hp1 hI2 (by omega) (bk_c (fun q => hp3 (bkR.2 q)) hp4 hp5) (by simp)).symm, hw.kp⟩
                · refine r_skip ?_
                  refine r_seq ?_
                  refine r_seq ?_
                  refine r_region ?_
                  refine s1 rfl (q_fieldAddr of64_3 rfl rfl) ?_
                  refine s1 rfl (q_load ag9 rfl (fun w hw => hw.box (tg := 4) rfl rfl)) ?_
                  refine s1 rfl (q_lens Tryz.underlying9 rfl) ?_
                  refine s1 rfl (q_gtr rfl rfl) ?_
                  refine o_end ?_
                  refine r_if rfl (fun hp6 => ?_) (fun hp6 => ?_)
                  · refine r_seq ?_
                    refine r_region ?_
                    refine s1 rfl (q_move rfl) ?_
                    refine sx rfl (e_call en6 (.cons rfl (.cons rfl (.nil))) ((fun w hw => c6 (3 : Int) ((i : Nat) : Int) w))) (fun _ _ => ?_)
                    refine sxn (e_store (tg := 2) (news := [.int .i64 (3 : Int), .int .i64 ((i : Nat) : Int)]) rfl rfl rfl rfl z25 rfl rfl (.cons (.cons (.nil _)))) (fun _ _ => ?_)
                    refine o_end ?_
                    refine r_ret Tryz.func26 (res1 Tryz.results26 (res_cell (cs := [.int .i64 (3 : Int), .int .i64 ((i : Nat) : Int)]) ag25 z25 rfl (s := 2) (tg := 2) rfl rfl)) (fun w hw => ?_)
                    exact ⟨ret_flt (br_at (f := (3, ((i : Nat) : Int))) hp1 hI2 (by omega) (bk_d (fun q => hp3 (bkR.2 q)) hp4 hp5 hp6) (by simp)).symm, hw.kp⟩
                  · refine r_skip ?_
                    refine r_seq ?_
                    refine r_region ?_
                    refine s1 rfl (q_assign rfl) ?_
                    refine o_end ?_
                    refine r_block ?_
                    refine r_loop ?_
                    refine RunE.weaken ?_ ?_ (r_rounds (fun (k : Nat) => [(0, .slice l.addr l.el.length l.cap), (2, .pointer (some ⟨g1, 0, none⟩)), (3, .int .i64 ((i : Nat) : Int)), (4, .pointer (some ⟨g2, 0, none⟩)), (5, .int .i64 ((k : Nat) : Int))]) (fun (k : Nat) => [(100, .fz (fun w => ok w l)), (2, .box g1 [.int .i64 (0 : Int), .int .i64 (0 : Int)] 25), (4, .box g2 (enc (nth l.el i)) 64)]) (fun (k : Nat) => k ≤ i ∧ ∀ j, j < k → sameB (nth l.el i) (nth l.el j) = false) (fun (k : Nat) => i - k) ?_ 0 ?_)
                    · exact (.cons rfl (.cons rfl (.cons rfl (.cons rfl (.cons rfl (.nil))))))
                    · exact (.cons rfl (.cons rfl (.cons rfl (.nil))))
                    · intro k hI1 ih1
                      obtain ⟨hK1, hK2⟩ := hI1
                      refine r_seq ?_
                      refine r_seq ?_
                      refine r_region ?_
                      refine s1 rfl (q_move rfl) ?_
                      refine s1 rfl (q_move rfl) ?_
                      refine s1 rfl (q_lss rfl rfl) ?_
                      refine o_end ?_
                      refine r_if rfl (fun hp7 => ?_) (fun hp7 => ?_)
                      · refine r_skip ?_
                        refine r_seq ?_
                        refine r_block ?_
                        refine r_seq ?_
                        refine r_draw [(100, .fz (fun w => ok w l)), (2, .box g1 [.int .i64 (0 : Int), .int .i64 (0 : Int)] 25), (4, .box g2 (enc (nth l.el i)) 64)] (by kernel_rfl) rfl (.cons rfl (.cons rfl (.cons rfl (.nil)))) ?_
                        refine d1 0 rfl (by kernel_rfl) rfl rfl (q_move rfl) ?_
                        refine d1 1 rfl (by kernel_rfl) rfl rfl (q_move rfl) ?_
                        refine d1 2 rfl (by kernel_rfl) rfl rfl (q_indexAddr Tryz.underlying35 z64 rfl rfl rfl (by omega) (by omega) (fun w hw => Sl.OK.isSome (hw.get_fz (t := 100) rfl) (by decide) (i := k) (by omega))) ?_
                        refine d1 3 rfl (by kernel_rfl) rfl rfl (q_loads (cs := enc (nth l.el k)) ag64 z64 rfl rfl (fun w hw => Sl.OK.cells (hw.get_fz (t := 100) rfl) (i := k) (by omega))) ?_
                        refine d1 4 rfl (by kernel_rfl) rfl rfl (q_loads (cs := enc (nth l.el i)) ag64 z64 rfl rfl (fun w hw => hw.boxes (tg := 4) rfl)) ?_
                        refine d1 5 rfl (by kernel_rfl) rfl rfl (q_feq64_eql rfl rfl) ?_
                        refine d_end (by kernel_rfl) ?_
                        refine r_if rfl (fun hp8 => ?_) (fun hp8 => ?_)
                        · refine r_seq ?_
                          refine r_region ?_
                          refine s1 rfl (q_move rfl) ?_
                          refine sx rfl (e_call en6 (.cons rfl (.cons rfl (.nil))) ((fun w hw => c6 (8 : Int) ((i : Nat) : Int) w))) (fun _ _ => ?_)
                          refine sxn (e_store (tg := 2) (news := [.int .i64 (8 : Int), .int .i64 ((i : Nat) : Int)]) rfl rfl rfl rfl z25 rfl rfl (.cons (.cons (.nil _)))) (fun _ _ => ?_)
                          refine o_end ?_
                          refine r_ret Tryz.func26 (res1 Tryz.results26 (res_cell (cs := [.int .i64 (8 : Int), .int .i64 ((i : Nat) : Int)]) ag25 z25 rfl (s := 2) (tg := 2) rfl rfl)) (fun w hw => ?_)
                          exact ⟨ret_flt (br_at (f := (8, ((i : Nat) : Int))) hp1 hI2 (by omega) (bk_e (fun q => hp3 (bkR.2 q)) hp4 hp5 hp6 (any_take_y (k := k) (by omega) (by omega) (same_at hp8))) (by simp)).symm, hw.kp⟩
                        · refine r_skip ?_
                          refine r_inBlock ?_
                          refine r_region ?_
                          refine s1 rfl (q_move rfl) ?_
                          refine s1 rfl (q_add rfl rfl (by omega)) ?_
                          refine s1 rfl (q_assign rfl) ?_
                          refine o_end ?_
                          refine r_inLoop ?_
                          refine RunE.weaken ?_ ?_ (ih1 (k + 1) ?_ ?_)
                          · exact (.cons rfl (.cons rfl (.cons rfl (.cons rfl (.cons rfl (.nil))))))
                          · exact (.cons rfl (.cons rfl (.cons rfl (.nil))))
                          · exact ⟨by omega, fun j hj => by rcases Nat.lt_succ_iff_lt_or_eq.1 hj with h | rfl; exact hK2 j h; exact same_n hp8⟩
                          · omega
                      · refine r_exit rfl ?_
                        refine r_inBlock ?_
                        refine r_region ?_
                        refine s1 rfl (q_move rfl) ?_
                        refine s1 rfl (q_add rfl rfl (by omega)) ?_
                        refine s1 rfl (q_assign rfl) ?_
                        refine o_end ?_
                        refine r_inLoop ?_
                        refine RunE.weaken ?_ ?_ (ih0 (i + 1) ?_ ?_)
                        · exact (.cons rfl (.cons rfl (.cons rfl (.nil))))
                        · exact (.cons rfl (.cons rfl (.nil)))
                        · exact ⟨by omega, fun j hj => by rcases Nat.lt_succ_iff_lt_or_eq.1 hj with h | rfl; exact hI2 j h; exact bk_g (fun q => hp3 (bkR.2 q)) hp4 hp5 hp6 (any_take_n (by omega) (fun j hj => hK2 j (by omega)))⟩
                        · omega
                    · exact ⟨by omega, fun j hj => by omega⟩
              · refine r_region ?_
                refine s1 rfl (q_fieldAddr of64_2 rfl rfl) ?_
                refine s1 rfl (q_load ag9 rfl (fun w hw => hw.box (tg := 4) rfl rfl)) ?_
                refine s1 rfl (q_seql rfl rfl) ?_
                refine s1 rfl (q_move rfl) ?_
                refine g_split (s := 45) rfl (fun hp9 => ?_) (fun hp9 => ?_)
                · refine g_on rfl rfl ?_
                  refine s1 rfl (q_fieldAddr of64_3 rfl rfl) ?_
                  refine g_on rfl rfl ?_
                  refine s1 rfl (q_load ag9 rfl (fun w hw => hw.box (tg := 4) rfl rfl)) ?_
                  refine g_on rfl rfl ?_
                  refine s1 rfl (q_sneq rfl rfl) ?_
                  refine s1 rfl (q_pickt rfl rfl) ?_
                  refine o_end ?_
                  exact key.weaken (.cons rfl (.cons rfl (.cons rfl (.cons rfl (.consE rfl (congrArg Value.bool (by first | (simp only [hp9, ne_eq, not_true_eq_false, not_false_eq_true, true_or, or_true, false_or, or_false, true_and, and_true, false_and, and_false, Bool.decide_eq_true] <;> first | exact nb_dec _ | exact b_dec _ | (simp; done)) | exact nb_dec _ | exact b_dec _ | (simp; done) | (exfalso; omega))) (.nil)))))) (.cons rfl (.cons rfl (.cons rfl (.nil))))
                · refine g_off rfl rfl rfl ?_
                  refine g_off rfl rfl rfl ?_
                  refine g_off rfl rfl rfl ?_
                  refine s1 rfl (q_pickf rfl rfl) ?_
                  refine o_end ?_
                  exact key.weaken (.cons rfl (.cons rfl (.cons rfl (.cons rfl (.consE rfl (congrArg Value.bool (decide_eq_false (fun h => hp9 h.1)).symm) (.nil)))))) (.cons rfl (.cons rfl (.cons rfl (.nil))))
        · refine r_region ?_
          refine s1 rfl (q_fieldAddr of64_0 rfl rfl) ?_
          refine s1 rfl (q_load ag9 rfl (fun w hw => hw.box (tg := 4) rfl rfl)) ?_
          refine sx rfl (e_call en13 (.cons rfl (.nil)) ((fun w hw => c13 ((nth l.el i).mod) w (by first | omega | (have hq := BrkM.OK.name (Sl.OK.nthOK (show ok _ l from hl) (i := i) (by omega)); simp only [ok] at hq; omega) | (have hq := hs _ (nth_mem (i := i) (by omega)); omega))))) (fun _ _ => ?_)
          refine s1 rfl (q_notb rfl) ?_
          refine s1 rfl (q_move rfl) ?_
          refine g_splitb (s := 24) rfl (fun hp10 => ?_) (fun hp10 => ?_)
          · refine g_off rfl rfl rfl ?_
            iterate 3 refine g_off rfl rfl rfl ?_
            iterate 4 refine g_offu rfl rfl rfl ?_
            refine g_off rfl rfl rfl ?_
            refine s1 rfl (q_pickt rfl rfl) ?_
            refine o_end ?_
            exact key.weaken (.cons rfl (.cons rfl (.cons rfl (.cons rfl (.consE rfl (congrArg Value.bool (decide_eq_true (Or.inl (nb_t hp10))).symm) (.nil)))))) (.cons rfl (.cons rfl (.cons rfl (.nil))))
          · refine g_on rfl rfl ?_
            refine s1 rfl (q_fieldAddr of64_2 rfl rfl) ?_
            refine g_on rfl rfl ?_
            refine s1 rfl (q_load ag9 rfl (fun w hw => hw.box (tg := 4) rfl rfl)) ?_
            refine g_on rfl rfl ?_
            refine s1 rfl (q_sneq rfl rfl) ?_
            refine g_on rfl rfl ?_
            refine s1 rfl (q_move rfl) ?_
            refine g_split (s := 28) rfl (fun hp11 => ?_) (fun hp11 => ?_)
            · refine g_on rfl rfl ?_
              refine s1 rfl (q_fieldAddr of64_2 rfl rfl) ?_
              refine g_on rfl rfl ?_
              refine s1 rfl (q_load ag9 rfl (fun w hw => hw.box (tg := 4) rfl rfl)) ?_
              refine g_on rfl rfl ?_
              refine sx rfl (e_call en14 (.cons rfl (.nil)) ((fun w hw => c14 ((nth l.el i).name) w (by first | omega | (have hq := BrkM.OK.name (Sl.OK.nthOK (show ok _ l from hl) (i := i) (by omega)); simp only [ok] at hq; omega) | (have hq := hs _ (nth_mem (i := i) (by omega)); omega))))) (fun _ _ => ?_)
              refine g_on rfl rfl ?_
              refine s1 rfl (q_notb rfl) ?_
              refine g_on rfl rfl ?_
              refine s1 rfl (q_pickt rfl rfl) ?_
              refine s1 rfl (q_pickf rfl rfl) ?_
              refine o_end ?_
              exact key.weaken (.cons rfl (.cons rfl (.cons rfl (.cons rfl (.consE rfl (congrArg Value.bool (by first | (simp only [(nb_f hp10), (Decidable.not_not.1 (nb_f hp10)), hp11, ne_eq, not_true_eq_false, not_false_eq_true, true_or, or_true, false_or, or_false, true_and, and_true, false_and, and_false, Bool.decide_eq_true] <;> first | exact nb_dec _ | exact b_dec _ | (simp; done)) | exact nb_dec _ | exact b_dec _ | (simp; done) | (exfalso; omega))) (.nil)))))) (.cons rfl (.cons rfl (.cons rfl (.nil))))
            · refine g_off rfl rfl rfl ?_
              iterate 3 refine g_off rfl rfl rfl ?_
              refine g_on rfl rfl ?_
              refine s1 rfl (q_pickf rfl rfl) ?_
              refine s1 rfl (q_pickf rfl rfl) ?_
              refine o_end ?_
              exact key.weaken (.cons rfl (.cons rfl (.cons rfl (.cons rfl (.consE rfl (congrArg Value.bool (decide_eq_false (fun h => h.elim (nb_f hp10) (fun h => hp11 h.1))).symm) (.nil)))))) (.cons rfl (.cons rfl (.cons rfl (.nil))))
      · refine r_exit rfl ?_
        refine r_seq ?_
        refine r_region ?_
        refine sx rfl (e_call en6 (.cons rfl (.cons rfl (.nil))) ((fun w hw => c6 (0 : Int) (0 : Int) w))) (fun _ _ => ?_)
        refine sxn (e_store (tg := 2) (news := [.int .i64 (0 : Int), .int .i64 (0 : Int)]) rfl rfl rfl rfl z25 rfl rfl (.cons (.cons (.nil _)))) (fun _ _ => ?_)
        refine o_end ?_
        refine r_ret Tryz.func26 (res1 Tryz.results26 (res_cell (cs := [.int .i64 (0 : Int), .int .i64 (0 : Int)]) ag25 z25 rfl (s := 2) (tg := 2) rfl rfl)) (fun w hw => ?_)
        exact ⟨ret_flt (br_none hp1 (fun j hj => hI2 j (by omega))).symm, hw.kp⟩
    · exact ⟨by omega, fun j hj => by omega⟩

end Go.Proofs.YtecibcjckinngaaGreatDoor
/- Breakpoints that are hit, depths, motions, as plain functions on the data. -/
set_option linter.unusedVariables false
namespace Go.Proofs.YtecibcjckinngaaGreatDoor
open Go Enc
theorem box_of_cell {α : Type} [Enc α] {w : World} {g : Nat} {x : α} {v : Value} (he : enc x = [v]) (h : CellIs w g v) : BoxIs w g x := fun j u hu => by
  rw [he] at hu
  cases j with
  | zero => simp at hu; subst hu; rw [add0]; exact h
  | succ j => simp at hu
/-- The event hits the breakpoint. -/
def hitB (e : EvM) (b : BrkM) : Bool := decide (((b.mod = e.mod) ∧ (b.line = e.line)) ∧ ((b.name = (⟨#[]⟩ : ByteArray)) ∨ (((varOf e.locals.el b.name).2 = true) ∧ (((varOf e.locals.el b.name).1) = b.text))))
theorem hit_a {e : EvM} {b : BrkM} (h : (b.mod ≠ e.mod) ∨ (¬ (b.line = e.line))) : hitB e b = false := decide_eq_false (fun q => h.elim (fun r => r q.1.1) (fun r => r q.1.2))
theorem hit_b {e : EvM} {b : BrkM} (h : ¬ ((b.mod ≠ e.mod) ∨ (¬ (b.line = e.line)))) (h2 : ¬ ((b.name = (⟨#[]⟩ : ByteArray)) ∨ (((varOf e.locals.el b.name).2 = true) ∧ (((varOf e.locals.el b.name).1) = b.text)))) : hitB e b = false := decide_eq_false (fun q => h2 q.2)
theorem hit_c {e : EvM} {b : BrkM} (h : ¬ ((b.mod ≠ e.mod) ∨ (¬ (b.line = e.line)))) (h2 : ((b.name = (⟨#[]⟩ : ByteArray)) ∨ (((varOf e.locals.el b.name).2 = true) ∧ (((varOf e.locals.el b.name).1) = b.text)))) : hitB e b = true := decide_eq_true ⟨⟨Decidable.not_not.1 (fun q => h (Or.inl q)), Decidable.not_not.1 (fun q => h (Or.inr q))⟩, h2⟩
theorem any_at {α : Type} [Inhabited α] {p : α → Bool} {l : List α} {i : Nat} (hi : i < l.length) (h : p (nth l i) = true) : l.any p = true := List.any_eq_true.2 ⟨_, nth_mem hi, h⟩
theorem any_none {α : Type} [Inhabited α] {p : α → Bool} {l : List α} (h : ∀ j, j < l.length → p (nth l j) = false) : l.any p = false := by
  rw [List.any_eq_false]
  intro x hx
  obtain ⟨j, hj, rfl⟩ := mem_nth hx
  rw [h j hj]; simp
/-- The depth at a position. -/
def depthP (l : List EvM) (p : Int) : Int := if (p < (0 : Int)) ∨ (p = ((l.length : Nat) : Int)) then 0 else (nth l p.toNat).depth
/-- The first place from k on, or the length (or k). -/
def nextL {α : Type} (q : α → Bool) : List α → Nat
  | [] => 0
  | x :: l => if q x = true then 0 else nextL q l + 1
def nextF {α : Type} (q : α → Bool) (l : List α) (k : Nat) : Nat := k + nextL q (l.drop k)
/-- The last place before k, or -1. -/
def prevF {α : Type} [Inhabited α] (q : α → Bool) (l : List α) : Nat → Int
  | 0 => -1
  | k + 1 => if q (nth l k) = true then ((k : Nat) : Int) else prevF q l k
theorem nextF_at {α : Type} [Inhabited α] {q : α → Bool} {l : List α} {k : Nat} (hk : k < l.length) (h : q (nth l k) = true) : nextF q l k = k := by
  rw [nth_eq hk] at h
  rw [nextF, List.drop_eq_getElem_cons hk, nextL, if_pos h]; rfl
theorem nextF_no {α : Type} [Inhabited α] {q : α → Bool} {l : List α} {k : Nat} (hk : k < l.length) (h : ¬ q (nth l k) = true) : nextF q l k = nextF q l (k + 1) := by
  rw [nth_eq hk] at h
  rw [nextF, List.drop_eq_getElem_cons hk, nextL, if_neg h, nextF]; omega
theorem nextF_out {α : Type} {q : α → Bool} {l : List α} {k : Nat} (hk : l.length ≤ k) : nextF q l k = k := by
  rw [nextF, List.drop_eq_nil_of_le hk, nextL]; rfl
theorem nextF_ge {α : Type} {q : α → Bool} {l : List α} {k : Nat} : k ≤ nextF q l k := Nat.le_add_right _ _
theorem nextL_le {α : Type} (q : α → Bool) : ∀ l : List α, nextL q l ≤ l.length
  | [] => Nat.le_refl _
  | x :: l => by have := nextL_le q l; rw [nextL]; split <;> simp <;> omega
theorem nextF_le {α : Type} {q : α → Bool} {l : List α} {k : Nat} (hk : k ≤ l.length) : nextF q l k ≤ l.length := by
  have := nextL_le q (l.drop k)
  rw [List.length_drop] at this
  unfold nextF; omega
theorem prevF_lt {α : Type} [Inhabited α] {q : α → Bool} {l : List α} : ∀ k : Nat, -1 ≤ prevF q l k ∧ prevF q l k < k
  | 0 => by simp [prevF]
  | k + 1 => by have := prevF_lt (q := q) (l := l) k; rw [prevF]; split <;> omega
/-- What a stop must be for a motion. -/
def stopQ (good : EvM → Bool) (e : EvM) : Bool := decide (e.kind = (1 : Int)) && good e
/-- Where a motion that looks at position a next ends. -/
def mvR (l : List EvM) (q : EvM → Bool) (st a : Int) : Int := if st = 1 then ((min (nextF q l a.toNat) l.length : Nat) : Int) else prevF q l (a + 1).toNat
theorem mv_step {l : List EvM} {q : EvM → Bool} {st a : Int} (hs : st = 1 ∨ st = -1) (h0 : 0 ≤ a) (h1 : a < ((l.length : Nat) : Int)) (h : ¬ q (nth l a.toNat) = true) : mvR l q st a = mvR l q st (a + st) := by
  rcases hs with rfl | rfl
  · simp only [mvR, if_true]
    rw [nextF_no (by omega) h, show (a + 1).toNat = a.toNat + 1 from by omega]
  · simp only [mvR, show ((-1 : Int) = 1) = False from by simp, if_false]
    rw [show (a + 1).toNat = a.toNat + 1 from by omega, prevF, if_neg h, show (a + -1 + 1).toNat = a.toNat from by omega]
theorem mv_found {l : List EvM} {q : EvM → Bool} {st a : Int} (h0 : 0 ≤ a) (h1 : a < ((l.length : Nat) : Int)) (h : q (nth l a.toNat) = true) : max (-1) (min a ((l.length : Nat) : Int)) = mvR l q st a := by
  unfold mvR
  split
  · rw [nextF_at (by omega) h]; omega
  · rw [show (a + 1).toNat = a.toNat + 1 from by omega, prevF, if_pos h]; omega
theorem mv_out {l : List EvM} {q : EvM → Bool} {st a : Int} (hs : st = 1 ∨ st = -1) (hf : st = 1 → 0 ≤ a) (hb : st = -1 → a < ((l.length : Nat) : Int)) (h : ¬ (0 ≤ a ∧ a < ((l.length : Nat) : Int))) : max (-1) (min a ((l.length : Nat) : Int)) = mvR l q st a := by
  rcases hs with rfl | rfl
  · have := hf rfl
    simp only [mvR, if_true]
    have := nextF_ge (q := q) (l := l) (k := a.toNat)
    omega
  · have := hb rfl
    simp only [mvR, show ((-1 : Int) = 1) = False from by simp, if_false]
    rw [show (a + 1).toNat = 0 from by omega, prevF]; omega
theorem stopQ_y {good : EvM → Bool} {e : EvM} (h : e.kind = 1) (h2 : good e = true) : stopQ good e = true := by rw [stopQ, decide_eq_true h, h2]; rfl
theorem stopQ_a {good : EvM → Bool} {e : EvM} (h : ¬ e.kind = 1) : ¬ stopQ good e = true := by rw [stopQ, decide_eq_false h]; simp
theorem stopQ_b {good : EvM → Bool} {e : EvM} (h2 : ¬ good e = true) : ¬ stopQ good e = true := by rw [stopQ]; simp [h2]
theorem stopQ_iff {good : EvM → Bool} {e : EvM} : (e.kind = 1 ∧ good e = true) ↔ stopQ good e = true := by rw [stopQ]; simp
end Go.Proofs.YtecibcjckinngaaGreatDoor
/- Walks over the motions: what hits a breakpoint, depths, the closures, move. -/
set_option linter.unusedVariables false
namespace Go.Proofs.YtecibcjckinngaaGreatDoor
open Go Go.RowKit Enc
attribute [local irreducible] Effect OpsE RunE AnyE AnyAt Quiet Res1


theorem c77 (b : BrkM) (g : Nat) (e : EvM) (w : World) (hx : BoxIs w g e) (he : ok w e) : RetV Tryz.prog 77 #[.agg (enc b).toArray, .pointer (some ⟨g, 0, none⟩)] w (.bool (hitB e b)) := by
  refine calls_of (args := [.agg (enc b).toArray, .pointer (some ⟨g, 0, none⟩)]) Tryz.func77 rfl Tryz.ntmps77 rfl (H := [(100, .fz (fun w => BoxIs w g e)), (101, .fz (fun w => ok w e))]) (Facts.sep (.cons (supp_box hx) (.cons (supp_ok he) (.nil)))) ?_
  refine r_seq ?_
  refine r_region ?_
  refine sx rfl (e_box rfl (cs := enc b) rfl) (fun g1 _ => ?_)
  refine s1 rfl (q_assign rfl) ?_
  refine o_end ?_
  refine r_seq ?_
  refine r_region ?_
  refine s1 rfl (q_loads (cs := enc e) ag42 z42 rfl rfl (fun w hw => (hw.get_fz (t := 100) rfl))) ?_
  refine s1 rfl (q_fieldAddr of64_2 rfl rfl) ?_
  refine s1 rfl (q_load ag9 rfl (fun w hw => hw.box (tg := 2) rfl rfl)) ?_
  refine sx rfl (e_call en68 (.cons rfl (.cons rfl (.nil))) ((fun w hw => c68 e b.name w (hw.get_fz (t := 101) rfl)))) (fun _ _ => ?_)
  refine s1 rfl (q_move rfl) ?_
  refine s1 rfl (q_extract rfl rfl) ?_
  refine s1 rfl (q_extract rfl rfl) ?_
  refine s1 rfl (q_assign rfl) ?_
  refine s1 rfl (q_assign rfl) ?_
  refine o_end ?_
  refine r_seq ?_
  refine r_cut [(3, .bool (decide (((b.mod = e.mod) ∧ (b.line = e.line)) ∧ ((b.name = (⟨#[]⟩ : ByteArray)) ∨ (((varOf e.locals.el b.name).2 = true) ∧ (((varOf e.locals.el b.name).1) = b.text))))))] [(100, .fz (fun w => BoxIs w g e)), (101, .fz (fun w => ok w e)), (2, .box g1 (enc b) 64)] ?_ (fun key => ?_)
  · refine r_ret Tryz.func77 (res1 Tryz.results77 (res_tmp (s := 3) rfl)) (fun w hw => ?_)
    exact ⟨rfl, hw.kp⟩
  · refine r_region ?_
    refine s1 rfl (q_fieldAddr of64_0 rfl rfl) ?_
    refine s1 rfl (q_load ag9 rfl (fun w hw => hw.box (tg := 2) rfl rfl)) ?_
    refine s1 rfl (q_fieldAddr of42_1 rfl rfl) ?_
    refine s1 rfl (q_load ag9 rfl (fun w hw => (hw.get_fz (t := 100) rfl) 1 _ rfl)) ?_
    refine s1 rfl (q_seql rfl rfl) ?_
    refine s1 rfl (q_move rfl) ?_
    refine g_split (s := 18) rfl (fun hp1 => ?_) (fun hp1 => ?_)
    · refine g_on rfl rfl ?_
      refine s1 rfl (q_fieldAddr of64_1 rfl rfl) ?_
      refine g_on rfl rfl ?_
      refine s1 rfl (q_load ag3 rfl (fun w hw => hw.box (tg := 2) rfl rfl)) ?_
      refine g_on rfl rfl ?_
      refine s1 rfl (q_fieldAddr of42_3 rfl rfl) ?_
      refine g_on rfl rfl ?_
      refine s1 rfl (q_load ag3 rfl (fun w hw => (hw.get_fz (t := 100) rfl) 3 _ rfl)) ?_
      refine g_on rfl rfl ?_
      refine s1 rfl (q_eql rfl rfl) ?_
      refine s1 rfl (q_pickt rfl rfl) ?_
      refine s1 rfl (q_move rfl) ?_
      refine g_split (s := 25) rfl (fun hp2 => ?_) (fun hp2 => ?_)
      · refine g_on rfl rfl ?_
        refine s1 rfl (q_fieldAddr of64_2 rfl rfl) ?_
        refine g_on rfl rfl ?_
        refine s1 rfl (q_load ag9 rfl (fun w hw => hw.box (tg := 2) rfl rfl)) ?_
        refine g_on rfl rfl ?_
        refine s1 rfl (q_seql rfl rfl) ?_
        refine g_on rfl rfl ?_
        refine s1 rfl (q_move rfl) ?_
        refine g_split (s := 29) rfl (fun hp3 => ?_) (fun hp3 => ?_)
        · refine g_off rfl rfl rfl ?_
          refine g_off rfl rfl rfl ?_
          iterate 4 refine g_offu rfl rfl rfl ?_
          refine g_off rfl rfl rfl ?_
          refine g_on rfl rfl ?_
          refine s1 rfl (q_pickt rfl rfl) ?_
          refine s1 rfl (q_pickt rfl rfl) ?_
          refine s1 rfl (q_assign rfl) ?_
          refine o_end ?_
          exact key.weaken (.consE rfl (congrArg Value.bool (decide_eq_true ⟨⟨hp1, hp2⟩, (Or.inl hp3)⟩).symm) (.nil)) (.cons rfl (.cons rfl (.cons rfl (.nil))))
        · refine g_on rfl rfl ?_
          refine s1 rfl (q_move rfl) ?_
          refine g_on rfl rfl ?_
          refine s1 rfl (q_move rfl) ?_
          refine g_splitb (s := 31) rfl (fun hp4 => ?_) (fun hp4 => ?_)
          · refine g_on rfl rfl ?_
            refine s1 rfl (q_move rfl) ?_
            refine g_on rfl rfl ?_
            refine s1 rfl (q_fieldAddr of64_3 rfl rfl) ?_
            refine g_on rfl rfl ?_
            refine s1 rfl (q_load ag9 rfl (fun w hw => hw.box (tg := 2) rfl rfl)) ?_
            refine g_on rfl rfl ?_
            refine s1 rfl (q_seql rfl rfl) ?_
            refine g_on rfl rfl ?_
            refine s1 rfl (q_pickt rfl rfl) ?_
            refine g_on rfl rfl ?_
            refine s1 rfl (q_pickf rfl rfl) ?_
            refine s1 rfl (q_pickt rfl rfl) ?_
            refine s1 rfl (q_assign rfl) ?_
            refine o_end ?_
            exact key.weaken (.consE rfl (congrArg Value.bool (by first | (simp only [hp1, hp2, hp3, hp4, ne_eq, not_true_eq_false, not_false_eq_true, true_or, or_true, false_or, or_false, true_and, and_true, false_and, and_false, Bool.decide_eq_true] <;> first | exact nb_dec _ | exact b_dec _ | (simp; done)) | exact nb_dec _ | exact b_dec _ | (simp; done) | (exfalso; omega))) (.nil)) (.cons rfl (.cons rfl (.cons rfl (.nil))))
          · refine g_off rfl rfl rfl ?_
            iterate 3 refine g_off rfl rfl rfl ?_
            refine g_on rfl rfl ?_
            refine s1 rfl (q_pickf rfl rfl) ?_
            refine g_on rfl rfl ?_
            refine s1 rfl (q_pickf rfl rfl) ?_
            refine s1 rfl (q_pickt rfl rfl) ?_
            refine s1 rfl (q_assign rfl) ?_
            refine o_end ?_
            exact key.weaken (.consE rfl (congrArg Value.bool (decide_eq_false (fun h => (fun h => h.elim hp3 (fun h => (Bool.eq_false_iff.1 hp4) h.1)) h.2)).symm) (.nil)) (.cons rfl (.cons rfl (.cons rfl (.nil))))
      · refine g_off rfl rfl rfl ?_
        iterate 3 refine g_off rfl rfl rfl ?_
        iterate 7 refine g_offu rfl rfl rfl ?_
        refine g_off rfl rfl rfl ?_
        refine s1 rfl (q_pickf rfl rfl) ?_
        refine s1 rfl (q_assign rfl) ?_
        refine o_end ?_
        exact key.weaken (.consE rfl (congrArg Value.bool (decide_eq_false (fun h => (fun h => hp2 h.2) h.1)).symm) (.nil)) (.cons rfl (.cons rfl (.cons rfl (.nil))))
    · refine g_off rfl rfl rfl ?_
      iterate 4 refine g_off rfl rfl rfl ?_
      refine s1 rfl (q_pickf rfl rfl) ?_
      refine s1 rfl (q_move rfl) ?_
      iterate 4 refine g_off rfl rfl rfl ?_
      iterate 7 refine g_offu rfl rfl rfl ?_
      refine g_off rfl rfl rfl ?_
      refine s1 rfl (q_pickf rfl rfl) ?_
      refine s1 rfl (q_assign rfl) ?_
      refine o_end ?_
      exact key.weaken (.consE rfl (congrArg Value.bool (decide_eq_false (fun h => (fun h => hp1 h.1) h.1)).symm) (.nil)) (.cons rfl (.cons rfl (.cons rfl (.nil))))


theorem c58 (e : EvM) (l : Sl BrkM) (w : World) (he : ok w e) (hl : ok w l) : RetV Tryz.prog 58 #[.agg (enc e).toArray, .slice l.addr l.el.length l.cap] w (.bool (l.el.any (hitB e))) := by
  refine calls_of (args := [.agg (enc e).toArray, .slice l.addr l.el.length l.cap]) Tryz.func58 rfl Tryz.ntmps58 rfl (H := [(100, .fz (fun w => ok w e)), (101, .fz (fun w => ok w l))]) (Facts.sep (.cons (supp_ok he) (.cons (supp_ok hl) (.nil)))) ?_
  refine r_seq ?_
  refine r_region ?_
  refine sx rfl (e_box rfl (cs := enc e) rfl) (fun g1 _ => ?_)
  refine s1 rfl (q_assign rfl) ?_
  refine o_end ?_
  refine r_seq ?_
  refine r_region ?_
  refine s1 rfl (q_move rfl) ?_
  refine s1 rfl (q_mkfunc (.cons rfl (.nil))) ?_
  refine sx rfl (e_call en76 (.cons rfl (.cons rfl (.nil))) ((fun w hw => c76 l 77 [.pointer (some ⟨g1, 0, none⟩)] (hitB e) w (hw.get_fz (t := 101) rfl) en77 (fun x hx w' hw' => c77 x g1 e w' (BoxIs.keep (hw.boxes (tg := 2) rfl) hw'.block) (supp_ok (w := w) (x := e) (hw.get_fz (t := 100) rfl) w' hw'.block))))) (fun _ _ => ?_)
  refine s1 rfl (q_assign rfl) ?_
  refine o_end ?_
  refine r_ret Tryz.func58 (res1 Tryz.results58 (res_tmp (s := 4) rfl)) (fun w hw => ?_)
  exact ⟨rfl, hw.kp⟩


theorem c47 (e : EvM) (l : Sl BrkM) (w : World) (he : ok w e) (hl : ok w l) : RetV Tryz.prog 47 #[.agg (enc e).toArray, .slice l.addr l.el.length l.cap] w (.bool (l.el.any (hitB e))) := by
  have L0 := Sl.OK.le hl (by decide)
  refine calls_of (args := [.agg (enc e).toArray, .slice l.addr l.el.length l.cap]) Tryz.func47 rfl Tryz.ntmps47 rfl (H := [(100, .fz (fun w => ok w e)), (101, .fz (fun w => ok w l))]) (Facts.sep (.cons (supp_ok he) (.cons (supp_ok hl) (.nil)))) ?_
  refine r_seq ?_
  refine r_region ?_
  refine sx rfl (e_box rfl (cs := enc e) rfl) (fun g1 _ => ?_)
  refine s1 rfl (q_assign rfl) ?_
  refine o_end ?_
  refine r_seq ?_
  refine r_seq ?_
  refine r_region ?_
  refine s1 rfl (q_assign rfl) ?_
  refine o_end ?_
  refine r_block ?_
  refine r_loop ?_
  refine RunE.weaken ?_ ?_ (r_rounds (fun (i : Nat) => [(1, .slice l.addr l.el.length l.cap), (2, .pointer (some ⟨g1, 0, none⟩)), (5, .int .i64 ((i : Nat) : Int))]) (fun (i : Nat) => [(100, .fz (fun w => ok w e)), (101, .fz (fun w => ok w l)), (2, .box g1 (enc e) 42)]) (fun (i : Nat) => i ≤ l.el.length ∧ ∀ j, j < i → hitB e (nth l.el j) = false) (fun (i : Nat) => l.el.length - i) ?_ 0 ?_)
  · exact (.cons rfl (.cons rfl (.cons rfl (.nil))))
  · exact (.cons rfl (.cons rfl (.cons rfl (.nil))))
  · intro i hI0 ih0
    obtain ⟨hI1, hI2⟩ := hI0
    refine r_seq ?_
    refine r_seq ?_
    refine r_region ?_
    refine s1 rfl (q_move rfl) ?_
    refine s1 rfl (q_move rfl) ?_
    refine s1 rfl (q_len Tryz.underlying35 rfl) ?_
    refine s1 rfl (q_lss rfl rfl) ?_
    refine o_end ?_
    refine r_if rfl (fun hp1 => ?_) (fun hp1 => ?_)
    · refine r_skip ?_
      refine r_seq ?_
      refine r_block ?_
      refine r_seq ?_
      refine r_region ?_
      refine s1 rfl (q_move rfl) ?_
      refine s1 rfl (q_move rfl) ?_
      refine s1 rfl (q_indexAddr Tryz.underlying35 z64 rfl rfl rfl (by omega) (by omega) (fun w hw => Sl.OK.isSome (hw.get_fz (t := 101) rfl) (by decide) (i := i) (by omega))) ?_
      refine s1 rfl (q_loads (cs := enc (nth l.el i)) ag64 z64 rfl rfl (fun w hw => Sl.OK.cells (hw.get_fz (t := 101) rfl) (i := i) (by omega))) ?_
      refine sx rfl (e_alloc zz64) (fun g2 _ => ?_)
      refine sxn (e_store (tg := 6) (news := enc (nth l.el i)) rfl rfl rfl rfl z64 rfl rfl (.cons (.cons (.cons (.cons (.nil _)))))) (fun _ _ => ?_)
      refine o_end ?_
      refine r_seq ?_
      refine r_seq ?_
      refine r_cut [(1, .slice l.addr l.el.length l.cap), (2, .pointer (some ⟨g1, 0, none⟩)), (5, .int .i64 ((i : Nat) : Int)), (6, .pointer (some ⟨g2, 0, none⟩)), (30, .bool (decide ((((nth l.el i).mod) ≠ e.mod) ∨ (¬ ((nth l.el i).line = e.line)))))] [(100, .fz (fun w => ok w e)), (101, .fz (fun w => ok w l)), (2, .box g1 (enc e) 42), (6, .box g2 (enc (nth l.el i)) 64)] ?_ (fun key => ?_)
      · refine r_if rfl (fun hp2 => ?_) (fun hp2 => ?_)
        · refine r_exit rfl ?_
          refine r_region ?_
          refine s1 rfl (q_move rfl) ?_
          refine s1 rfl (q_add rfl rfl (by omega)) ?_
          refine s1 rfl (q_assign rfl) ?_
          refine o_end ?_
          refine r_inLoop ?_
          refine RunE.weaken ?_ ?_ (ih0 (i + 1) ?_ ?_)
          · exact (.cons rfl (.cons rfl (.cons rfl (.nil))))
          · exact (.cons rfl (.cons rfl (.cons rfl (.nil))))
          · exact ⟨by omega, fun j hj => by rcases Nat.lt_succ_iff_lt_or_eq.1 hj with h | rfl; exact hI2 j h; first | exact hit_a hp2 | exact hit_b hp2 hp3⟩
          · omega
        · refine r_skip ?_
          refine r_seq ?_
          refine r_region ?_
          refine s1 rfl (q_loads (cs := enc e) ag42 z42 rfl rfl (fun w hw => hw.boxes (tg := 2) rfl)) ?_
          refine s1 rfl (q_fieldAddr of64_2 rfl rfl) ?_
          refine s1 rfl (q_load ag9 rfl (fun w hw => hw.box (tg := 6) rfl rfl)) ?_
          refine sx rfl (e_call en50 (.cons rfl (.cons rfl (.nil))) ((fun w hw => c50 e ((nth l.el i).name) w (hw.get_fz (t := 100) rfl)))) (fun _ _ => ?_)
          refine s1 rfl (q_move rfl) ?_
          refine s1 rfl (q_extract rfl rfl) ?_
          refine s1 rfl (q_extract rfl rfl) ?_
          refine s1 rfl (q_assign rfl) ?_
          refine s1 rfl (q_assign rfl) ?_
          refine o_end ?_
          refine r_seq ?_
          refine r_cut [(1, .slice l.addr l.el.length l.cap), (2, .pointer (some ⟨g1, 0, none⟩)), (5, .int .i64 ((i : Nat) : Int)), (49, .bool (decide ((((nth l.el i).name) = (⟨#[]⟩ : ByteArray)) ∨ (((varOf e.locals.el ((nth l.el i).name)).2 = true) ∧ (((varOf e.locals.el ((nth l.el i).name)).1) = ((nth l.el i).text))))))] [(100, .fz (fun w => ok w e)), (101, .fz (fun w => ok w l)), (2, .box g1 (enc e) 42), (6, .box g2 (enc (nth l.el i)) 64)] ?_ (fun key => ?_)
          · refine r_if rfl (fun hp3 => ?_) (fun hp3 => ?_)
            · refine r_seq ?_
              refine r_region ?_
              refine s1 rfl (q_assign rfl) ?_
              refine o_end ?_
              refine r_ret Tryz.func47 (res1 Tryz.results47 (res_tmp (s := 4) rfl)) (fun w hw => ?_)
              exact ⟨ret_bool (any_at (i := i) (by omega) (hit_c hp2 hp3)).symm, hw.kp⟩
            · refine r_skip ?_
              refine r_inBlock ?_
              refine r_region ?_
              refine s1 rfl (q_move rfl) ?_
              refine s1 rfl (q_add rfl rfl (by omega)) ?_
              refine s1 rfl (q_assign rfl) ?_
              refine o_end ?_
              refine r_inLoop ?_
              refine RunE.weaken ?_ ?_ (ih0 (i + 1) ?_ ?_)
              · exact (.cons rfl (.cons rfl (.cons rfl (.nil))))
              · exact (.cons rfl (.cons rfl (.cons rfl (.nil))))
              · exact ⟨by omega, fun j hj => by rcases Nat.lt_succ_iff_lt_or_eq.1 hj with h | rfl; exact hI2 j h; first | exact hit_a hp2 | exact hit_b hp2 hp3⟩
              · omega
          · refine r_region ?_
            refine s1 rfl (q_fieldAddr of64_2 rfl rfl) ?_
            refine s1 rfl (q_load ag9 rfl (fun w hw => hw.box (tg := 6) rfl rfl)) ?_
            refine s1 rfl (q_seql rfl rfl) ?_
            refine s1 rfl (q_move rfl) ?_
            refine g_split (s := 41) rfl (fun hp4 => ?_) (fun hp4 => ?_)
            · refine g_off rfl rfl rfl ?_
              refine g_off rfl rfl rfl ?_
              iterate 4 refine g_offu rfl rfl rfl ?_
              refine g_off rfl rfl rfl ?_
              refine s1 rfl (q_pickt rfl rfl) ?_
              refine o_end ?_
              exact key.weaken (.cons rfl (.cons rfl (.cons rfl (.consE rfl (congrArg Value.bool (decide_eq_true (Or.inl hp4)).symm) (.nil))))) (.cons rfl (.cons rfl (.cons rfl (.cons rfl (.nil)))))
            · refine g_on rfl rfl ?_
              refine s1 rfl (q_move rfl) ?_
              refine g_on rfl rfl ?_
              refine s1 rfl (q_move rfl) ?_
              refine g_splitb (s := 43) rfl (fun hp5 => ?_) (fun hp5 => ?_)
              · refine g_on rfl rfl ?_
                refine s1 rfl (q_move rfl) ?_
                refine g_on rfl rfl ?_
                refine s1 rfl (q_fieldAddr of64_3 rfl rfl) ?_
                refine g_on rfl rfl ?_
                refine s1 rfl (q_load ag9 rfl (fun w hw => hw.box (tg := 6) rfl rfl)) ?_
                refine g_on rfl rfl ?_
                refine s1 rfl (q_seql rfl rfl) ?_
                refine g_on rfl rfl ?_
                refine s1 rfl (q_pickt rfl rfl) ?_
                refine s1 rfl (q_pickf rfl rfl) ?_
                refine o_end ?_
                exact key.weaken (.cons rfl (.cons rfl (.cons rfl (.consE rfl (congrArg Value.bool (by first | (simp only [hp4, hp5, ne_eq, not_true_eq_false, not_false_eq_true, true_or, or_true, false_or, or_false, true_and, and_true, false_and, and_false, Bool.decide_eq_true] <;> first | exact nb_dec _ | exact b_dec _ | (simp; done)) | exact nb_dec _ | exact b_dec _ | (simp; done) | (exfalso; omega))) (.nil))))) (.cons rfl (.cons rfl (.cons rfl (.cons rfl (.nil)))))
              · refine g_off rfl rfl rfl ?_
                iterate 3 refine g_off rfl rfl rfl ?_
                refine g_on rfl rfl ?_
                refine s1 rfl (q_pickf rfl rfl) ?_
                refine s1 rfl (q_pickf rfl rfl) ?_
                refine o_end ?_
                exact key.weaken (.cons rfl (.cons rfl (.cons rfl (.consE rfl (congrArg Value.bool (decide_eq_false (fun h => h.elim hp4 (fun h => (Bool.eq_false_iff.1 hp5) h.1))).symm) (.nil))))) (.cons rfl (.cons rfl (.cons rfl (.cons rfl (.nil)))))
      · refine r_region ?_
        refine s1 rfl (q_fieldAddr of64_0 rfl rfl) ?_
        refine s1 rfl (q_load ag9 rfl (fun w hw => hw.box (tg := 6) rfl rfl)) ?_
        refine s1 rfl (q_fieldAddr of42_1 rfl rfl) ?_
        refine s1 rfl (q_load ag9 rfl (fun w hw => hw.box (tg := 2) rfl rfl)) ?_
        refine s1 rfl (q_sneq rfl rfl) ?_
        refine s1 rfl (q_move rfl) ?_
        refine g_split (s := 24) rfl (fun hp6 => ?_) (fun hp6 => ?_)
        · refine g_off rfl rfl rfl ?_
          iterate 4 refine g_off rfl rfl rfl ?_
          refine s1 rfl (q_pickt rfl rfl) ?_
          refine o_end ?_
          exact key.weaken (.cons rfl (.cons rfl (.cons rfl (.cons rfl (.consE rfl (congrArg Value.bool (decide_eq_true (Or.inl hp6)).symm) (.nil)))))) (.cons rfl (.cons rfl (.cons rfl (.cons rfl (.nil)))))
        · refine g_on rfl rfl ?_
          refine s1 rfl (q_fieldAddr of64_1 rfl rfl) ?_
          refine g_on rfl rfl ?_
          refine s1 rfl (q_load ag3 rfl (fun w hw => hw.box (tg := 6) rfl rfl)) ?_
          refine g_on rfl rfl ?_
          refine s1 rfl (q_fieldAddr of42_3 rfl rfl) ?_
          refine g_on rfl rfl ?_
          refine s1 rfl (q_load ag3 rfl (fun w hw => hw.box (tg := 2) rfl rfl)) ?_
          refine g_on rfl rfl ?_
          refine s1 rfl (q_neq rfl rfl) ?_
          refine s1 rfl (q_pickf rfl rfl) ?_
          refine o_end ?_
          exact key.weaken (.cons rfl (.cons rfl (.cons rfl (.cons rfl (.consE rfl (congrArg Value.bool (by first | (simp only [hp6, ne_eq, not_true_eq_false, not_false_eq_true, true_or, or_true, false_or, or_false, true_and, and_true, false_and, and_false, Bool.decide_eq_true] <;> first | exact nb_dec _ | exact b_dec _ | (simp; done)) | exact nb_dec _ | exact b_dec _ | (simp; done) | (exfalso; omega))) (.nil)))))) (.cons rfl (.cons rfl (.cons rfl (.cons rfl (.nil)))))
    · refine r_exit rfl ?_
      refine r_seq ?_
      refine r_region ?_
      refine s1 rfl (q_assign rfl) ?_
      refine o_end ?_
      refine r_ret Tryz.func47 (res1 Tryz.results47 (res_tmp (s := 4) rfl)) (fun w hw => ?_)
      exact ⟨ret_bool (any_none (fun j hj => hI2 j (by omega))).symm, hw.kp⟩
  · exact ⟨by omega, fun j hj => by omega⟩


theorem c53 (l : Sl EvM) (p : Int) (w : World) (hl : ok w l) (hp : -1 ≤ p ∧ p ≤ l.el.length) : RetV Tryz.prog 53 #[.slice l.addr l.el.length l.cap, .int .i64 p] w (.int .i64 (depthP l.el p)) := by
  have L0 := Sl.OK.le hl (by decide)
  refine calls_of (args := [.slice l.addr l.el.length l.cap, .int .i64 p]) Tryz.func53 rfl Tryz.ntmps53 rfl (H := [(100, .fz (fun w => ok w l))]) (Facts.sep (.cons (supp_ok hl) (.nil))) ?_
  refine r_seq ?_
  refine r_region ?_
  refine s1 rfl (q_assign rfl) ?_
  refine o_end ?_
  refine r_seq ?_
  refine r_seq ?_
  refine r_cut [(0, .slice l.addr l.el.length l.cap), (1, .int .i64 p), (12, .bool (decide ((p < (0 : Int)) ∨ (p = ((l.el.length : Nat) : Int)))))] [(100, .fz (fun w => ok w l))] ?_ (fun key => ?_)
  · refine r_if rfl (fun hp1 => ?_) (fun hp1 => ?_)
    · refine r_seq ?_
      refine r_region ?_
      refine s1 rfl (q_assign rfl) ?_
      refine o_end ?_
      refine r_ret Tryz.func53 (res1 Tryz.results53 (res_tmp (s := 4) rfl)) (fun w hw => ?_)
      exact ⟨ret_int (if_pos hp1).symm, hw.kp⟩
    · refine r_skip ?_
      refine r_seq ?_
      refine r_region ?_
      refine s1 rfl (q_move rfl) ?_
      refine s1 rfl (q_move rfl) ?_
      refine s1 rfl (q_indexAddr Tryz.underlying22 z42 rfl rfl rfl (by omega) (by omega) (fun w hw => Sl.OK.isSome (hw.get_fz (t := 100) rfl) (by decide) (i := p.toNat) (by omega))) ?_
      refine s1 rfl (q_fieldAddr of42_4 rfl rfl) ?_
      refine s1 rfl (q_load ag3 rfl (fun w hw => Sl.OK.cell (hw.get_fz (t := 100) rfl) (i := p.toNat) (j := 4) (by omega) rfl)) ?_
      refine s1 rfl (q_assign rfl) ?_
      refine o_end ?_
      refine r_ret Tryz.func53 (res1 Tryz.results53 (res_tmp (s := 4) rfl)) (fun w hw => ?_)
      exact ⟨ret_int (if_neg hp1).symm, hw.kp⟩
  · refine r_region ?_
    refine s1 rfl (q_move rfl) ?_
    refine s1 rfl (q_lss rfl rfl) ?_
    refine s1 rfl (q_move rfl) ?_
    refine g_split (s := 7) rfl (fun hp2 => ?_) (fun hp2 => ?_)
    · refine g_off rfl rfl rfl ?_
      iterate 3 refine g_off rfl rfl rfl ?_
      refine s1 rfl (q_pickt rfl rfl) ?_
      refine o_end ?_
      exact key.weaken (.cons rfl (.cons rfl (.consE rfl (congrArg Value.bool (decide_eq_true (Or.inl hp2)).symm) (.nil)))) (.cons rfl (.nil))
    · refine g_on rfl rfl ?_
      refine s1 rfl (q_move rfl) ?_
      refine g_on rfl rfl ?_
      refine s1 rfl (q_move rfl) ?_
      refine g_on rfl rfl ?_
      refine s1 rfl (q_len Tryz.underlying22 rfl) ?_
      refine g_on rfl rfl ?_
      refine s1 rfl (q_eql rfl rfl) ?_
      refine s1 rfl (q_pickf rfl rfl) ?_
      refine o_end ?_
      exact key.weaken (.cons rfl (.cons rfl (.consE rfl (congrArg Value.bool (by first | (simp only [hp2, ne_eq, not_true_eq_false, not_false_eq_true, true_or, or_true, false_or, or_false, true_and, and_true, false_and, and_false, Bool.decide_eq_true] <;> first | exact nb_dec _ | exact b_dec _ | (simp; done)) | exact nb_dec _ | exact b_dec _ | (simp; done) | (exfalso; omega))) (.nil)))) (.cons rfl (.nil))


theorem c54 (e : EvM) (w : World) : RetV Tryz.prog 54 #[.agg (enc e).toArray] w (.bool true) := by
  refine calls_of (args := [.agg (enc e).toArray]) Tryz.func54 rfl Tryz.ntmps54 rfl (H := []) (Facts.sep (.nil)) ?_
  refine r_seq ?_
  refine r_region ?_
  refine sx rfl (e_box rfl (cs := enc e) rfl) (fun g1 _ => ?_)
  refine s1 rfl (q_assign rfl) ?_
  refine o_end ?_
  refine r_seq ?_
  refine r_region ?_
  refine s1 rfl (q_assign rfl) ?_
  refine o_end ?_
  refine r_ret Tryz.func54 (res1 Tryz.results54 (res_tmp (s := 2) rfl)) (fun w hw => ?_)
  exact ⟨rfl, hw.kp⟩


theorem c55 (e : EvM) (g : Nat) (d : Int) (w : World) (hx : CellIs w g (.int .i64 d)) : RetV Tryz.prog 55 #[.agg (enc e).toArray, .pointer (some ⟨g, 0, none⟩)] w (.bool (decide ((d = (0 : Int)) ∨ (e.depth ≤ d)))) := by
  refine calls_of (args := [.agg (enc e).toArray, .pointer (some ⟨g, 0, none⟩)]) Tryz.func55 rfl Tryz.ntmps55 rfl (H := [(100, .fz (fun w => BoxIs w g d))]) (Facts.sep (.cons (supp_box (box_of_cell rfl hx)) (.nil))) ?_
  refine r_seq ?_
  refine r_region ?_
  refine sx rfl (e_box rfl (cs := enc e) rfl) (fun g1 _ => ?_)
  refine s1 rfl (q_assign rfl) ?_
  refine o_end ?_
  refine r_seq ?_
  refine r_cut [(3, .bool (decide ((d = (0 : Int)) ∨ (e.depth ≤ d))))] [(100, .fz (fun w => BoxIs w g d)), (2, .box g1 (enc e) 42)] ?_ (fun key => ?_)
  · refine r_ret Tryz.func55 (res1 Tryz.results55 (res_tmp (s := 3) rfl)) (fun w hw => ?_)
    exact ⟨rfl, hw.kp⟩
  · refine r_region ?_
    refine s1 rfl (q_load ag3 rfl (fun w hw => (hw.get_fz (t := 100) rfl) 0 _ rfl)) ?_
    refine s1 rfl (q_eql rfl rfl) ?_
    refine s1 rfl (q_move rfl) ?_
    refine g_split (s := 6) rfl (fun hp1 => ?_) (fun hp1 => ?_)
    · refine g_off rfl rfl rfl ?_
      iterate 3 refine g_off rfl rfl rfl ?_
      refine s1 rfl (q_pickt rfl rfl) ?_
      refine s1 rfl (q_assign rfl) ?_
      refine o_end ?_
      exact key.weaken (.consE rfl (congrArg Value.bool (decide_eq_true (Or.inl hp1)).symm) (.nil)) (.cons rfl (.cons rfl (.nil)))
    · refine g_on rfl rfl ?_
      refine s1 rfl (q_fieldAddr of42_4 rfl rfl) ?_
      refine g_on rfl rfl ?_
      refine s1 rfl (q_load ag3 rfl (fun w hw => hw.box (tg := 2) rfl rfl)) ?_
      refine g_on rfl rfl ?_
      refine s1 rfl (q_load ag3 rfl (fun w hw => (hw.get_fz (t := 100) rfl) 0 _ rfl)) ?_
      refine g_on rfl rfl ?_
      refine s1 rfl (q_leq rfl rfl) ?_
      refine s1 rfl (q_pickf rfl rfl) ?_
      refine s1 rfl (q_assign rfl) ?_
      refine o_end ?_
      exact key.weaken (.consE rfl (congrArg Value.bool (by first | (simp only [hp1, ne_eq, not_true_eq_false, not_false_eq_true, true_or, or_true, false_or, or_false, true_and, and_true, false_and, and_false, Bool.decide_eq_true] <;> first | exact nb_dec _ | exact b_dec _ | (simp; done)) | exact nb_dec _ | exact b_dec _ | (simp; done) | (exfalso; omega))) (.nil)) (.cons rfl (.cons rfl (.nil)))


theorem c56 (e : EvM) (g : Nat) (d : Int) (w : World) (hx : CellIs w g (.int .i64 d)) : RetV Tryz.prog 56 #[.agg (enc e).toArray, .pointer (some ⟨g, 0, none⟩)] w (.bool (decide ((d = (0 : Int)) ∨ (e.depth < d)))) := by
  refine calls_of (args := [.agg (enc e).toArray, .pointer (some ⟨g, 0, none⟩)]) Tryz.func56 rfl Tryz.ntmps56 rfl (H := [(100, .fz (fun w => BoxIs w g d))]) (Facts.sep (.cons (supp_box (box_of_cell rfl hx)) (.nil))) ?_
  refine r_seq ?_
  refine r_region ?_
  refine sx rfl (e_box rfl (cs := enc e) rfl) (fun g1 _ => ?_)
  refine s1 rfl (q_assign rfl) ?_
  refine o_end ?_
  refine r_seq ?_
  refine r_cut [(3, .bool (decide ((d = (0 : Int)) ∨ (e.depth < d))))] [(100, .fz (fun w => BoxIs w g d)), (2, .box g1 (enc e) 42)] ?_ (fun key => ?_)
  · refine r_ret Tryz.func56 (res1 Tryz.results56 (res_tmp (s := 3) rfl)) (fun w hw => ?_)
    exact ⟨rfl, hw.kp⟩
  · refine r_region ?_
    refine s1 rfl (q_load ag3 rfl (fun w hw => (hw.get_fz (t := 100) rfl) 0 _ rfl)) ?_
    refine s1 rfl (q_eql rfl rfl) ?_
    refine s1 rfl (q_move rfl) ?_
    refine g_split (s := 6) rfl (fun hp1 => ?_) (fun hp1 => ?_)
    · refine g_off rfl rfl rfl ?_
      iterate 3 refine g_off rfl rfl rfl ?_
      refine s1 rfl (q_pickt rfl rfl) ?_
      refine s1 rfl (q_assign rfl) ?_
      refine o_end ?_
      exact key.weaken (.consE rfl (congrArg Value.bool (decide_eq_true (Or.inl hp1)).symm) (.nil)) (.cons rfl (.cons rfl (.nil)))
    · refine g_on rfl rfl ?_
      refine s1 rfl (q_fieldAddr of42_4 rfl rfl) ?_
      refine g_on rfl rfl ?_
      refine s1 rfl (q_load ag3 rfl (fun w hw => hw.box (tg := 2) rfl rfl)) ?_
      refine g_on rfl rfl ?_
      refine s1 rfl (q_load ag3 rfl (fun w hw => (hw.get_fz (t := 100) rfl) 0 _ rfl)) ?_
      refine g_on rfl rfl ?_
      refine s1 rfl (q_lss rfl rfl) ?_
      refine s1 rfl (q_pickf rfl rfl) ?_
      refine s1 rfl (q_assign rfl) ?_
      refine o_end ?_
      exact key.weaken (.consE rfl (congrArg Value.bool (by first | (simp only [hp1, ne_eq, not_true_eq_false, not_false_eq_true, true_or, or_true, false_or, or_false, true_and, and_true, false_and, and_false, Bool.decide_eq_true] <;> first | exact nb_dec _ | exact b_dec _ | (simp; done)) | exact nb_dec _ | exact b_dec _ | (simp; done) | (exfalso; omega))) (.nil)) (.cons rfl (.cons rfl (.nil)))


theorem c57 (e : EvM) (g : Nat) (l : Sl BrkM) (w : World) (hx : CellIs w g l.val) (he : ok w e) (hl : ok w l) : RetV Tryz.prog 57 #[.agg (enc e).toArray, .pointer (some ⟨g, 0, none⟩)] w (.bool (l.el.any (hitB e))) := by
  refine calls_of (args := [.agg (enc e).toArray, .pointer (some ⟨g, 0, none⟩)]) Tryz.func57 rfl Tryz.ntmps57 rfl (H := [(100, .fz (fun w => BoxIs w g l)), (101, .fz (fun w => ok w e)), (102, .fz (fun w => ok w l))]) (Facts.sep (.cons (supp_box (box_of_cell rfl hx)) (.cons (supp_ok he) (.cons (supp_ok hl) (.nil))))) ?_
  refine r_seq ?_
  refine r_region ?_
  refine sx rfl (e_box rfl (cs := enc e) rfl) (fun g1 _ => ?_)
  refine s1 rfl (q_assign rfl) ?_
  refine o_end ?_
  refine r_seq ?_
  refine r_region ?_
  refine s1 rfl (q_loads (cs := enc e) ag42 z42 rfl rfl (fun w hw => hw.boxes (tg := 2) rfl)) ?_
  refine s1 rfl (q_load ag35 rfl (fun w hw => (hw.get_fz (t := 100) rfl) 0 _ rfl)) ?_
  refine sx rfl (e_call en58 (.cons rfl (.cons rfl (.nil))) ((fun w hw => c58 e l w (hw.get_fz (t := 101) rfl) (hw.get_fz (t := 102) rfl)))) (fun _ _ => ?_)
  refine s1 rfl (q_assign rfl) ?_
  refine o_end ?_
  refine r_ret Tryz.func57 (res1 Tryz.results57 (res_tmp (s := 3) rfl)) (fun w hw => ?_)
  exact ⟨rfl, hw.kp⟩


theorem c32 (l : Sl EvM) (p st : Int) (m : FuncId) (cap : List Value) (good : EvM → Bool) (w : World) (hl : ok w l) (hp : -1 ≤ p ∧ p ≤ l.el.length) (hst : st = 1 ∨ st = -1) (hen : Enters Tryz.prog m) (hcl : ∀ x ∈ l.el, ∀ w', Grew w w' → RetV Tryz.prog m ([.agg (enc x).toArray] ++ cap : List Value).toArray w' (.bool (good x))) : RetV Tryz.prog 32 #[.slice l.addr l.el.length l.cap, .int .i64 p, .agg #[.int .i64 st, .func (.func m) #[] cap.toArray]] w (.int .i64 (mvR l.el (stopQ good) st (p + st))) := by
  have L0 := Sl.OK.le hl (by decide)
  refine calls_of (args := [.slice l.addr l.el.length l.cap, .int .i64 p, .agg #[.int .i64 st, .func (.func m) #[] cap.toArray]]) Tryz.func32 rfl Tryz.ntmps32 rfl (H := [(100, .fz (fun w => ok w l))]) (Facts.sep (.cons (supp_ok hl) (.nil))) ?_
  refine r_seq ?_
  refine r_region ?_
  refine sx rfl (e_box rfl (cs := [.int .i64 st, .func (.func m) #[] cap.toArray]) rfl) (fun g1 _ => ?_)
  refine s1 rfl (q_assign rfl) ?_
  refine o_end ?_
  refine r_seq ?_
  refine r_seq ?_
  refine r_region ?_
  refine s1 rfl (q_move rfl) ?_
  refine s1 rfl (q_fieldAddr of77_0 rfl rfl) ?_
  refine s1 rfl (q_load ag3 rfl (fun w hw => hw.box (tg := 5) rfl rfl)) ?_
  refine s1 rfl (q_add rfl rfl (by omega)) ?_
  refine s1 rfl (q_assign rfl) ?_
  refine o_end ?_
  refine r_block ?_
  refine r_loop ?_
  refine RunE.weaken ?_ ?_ (r_rounds (fun (a : Int) => [(0, .slice l.addr l.el.length l.cap), (1, .int .i64 a), (5, .pointer (some ⟨g1, 0, none⟩))]) (fun (a : Int) => [(100, .fz (fun w => ok w l)), (5, .box g1 [.int .i64 st, .func (.func m) #[] cap.toArray] 77)]) (fun (a : Int) => mvR l.el (stopQ good) st a = mvR l.el (stopQ good) st (p + st) ∧ -2 ≤ a ∧ a ≤ l.el.length + 1 ∧ (st = 1 → 0 ≤ a) ∧ (st = -1 → a < ((l.el.length : Nat) : Int))) (fun (a : Int) => (if st = 1 then ((l.el.length : Nat) : Int) + 1 - a else a + 2).toNat) ?_ (p + st) ?_)
  · exact (.cons rfl (.cons rfl (.cons rfl (.nil))))
  · exact (.cons rfl (.cons rfl (.nil)))
  · intro a hI0 ih0
    obtain ⟨hI1, hI2, hI3, hI4, hI5⟩ := hI0
    refine r_seq ?_
    refine r_seq ?_
    refine r_cut [(0, .slice l.addr l.el.length l.cap), (1, .int .i64 a), (5, .pointer (some ⟨g1, 0, none⟩)), (18, .bool (decide (((0 : Int) ≤ a) ∧ (a < ((l.el.length : Nat) : Int)))))] [(100, .fz (fun w => ok w l)), (5, .box g1 [.int .i64 st, .func (.func m) #[] cap.toArray] 77)] ?_ (fun key => ?_)
    · refine r_if rfl (fun hp1 => ?_) (fun hp1 => ?_)
      · refine r_skip ?_
        refine r_seq ?_
        refine r_block ?_
        refine r_seq ?_
        refine r_cut [(0, .slice l.addr l.el.length l.cap), (1, .int .i64 a), (5, .pointer (some ⟨g1, 0, none⟩)), (37, .bool (decide (((nth l.el a.toNat).kind = (1 : Int)) ∧ (good (nth l.el a.toNat) = true))))] [(100, .fz (fun w => ok w l)), (5, .box g1 [.int .i64 st, .func (.func m) #[] cap.toArray] 77)] ?_ (fun key => ?_)
        · refine r_if rfl (fun hp2 => ?_) (fun hp2 => ?_)
          · refine r_exit rfl ?_
            refine r_seq ?_
            refine r_region ?_
            refine s1 rfl (q_move rfl) ?_
            refine s1 rfl (q_move rfl) ?_
            refine s1 rfl (q_len Tryz.underlying22 rfl) ?_
            refine s1 rfl (q_min rfl rfl) ?_
            refine s1 rfl (q_max rfl rfl) ?_
            refine s1 rfl (q_assign rfl) ?_
            refine o_end ?_
            refine r_ret Tryz.func32 (res1 Tryz.results32 (res_tmp (s := 6) rfl)) (fun w hw => ?_)
            exact ⟨ret_int ((mv_found hp1.1 hp1.2 (stopQ_iff.1 hp2)).trans hI1), hw.kp⟩
          · refine r_skip ?_
            refine r_inBlock ?_
            refine r_region ?_
            refine s1 rfl (q_move rfl) ?_
            refine s1 rfl (q_fieldAddr of77_0 rfl rfl) ?_
            refine s1 rfl (q_load ag3 rfl (fun w hw => hw.box (tg := 5) rfl rfl)) ?_
            refine s1 rfl (q_add rfl rfl (by omega)) ?_
            refine s1 rfl (q_assign rfl) ?_
            refine o_end ?_
            refine r_inLoop ?_
            refine RunE.weaken ?_ ?_ (ih0 (a + st) ?_ ?_)
            · exact (.cons rfl (.cons rfl (.cons rfl (.nil))))
            · exact (.cons rfl (.cons rfl (.nil)))
            · exact ⟨(mv_step hst hp1.1 hp1.2 (fun q => hp2 (stopQ_iff.2 q))).symm.trans hI1, by omega, by omega, fun q => by omega, fun q => by omega⟩
            · rcases hst with rfl | rfl <;> simp <;> omega
        · refine r_draw [(100, .fz (fun w => ok w l)), (5, .box g1 [.int .i64 st, .func (.func m) #[] cap.toArray] 77)] (by kernel_rfl) rfl (.cons rfl (.cons rfl (.nil))) ?_
          refine d1 0 rfl (by kernel_rfl) rfl rfl (q_move rfl) ?_
          refine d1 1 rfl (by kernel_rfl) rfl rfl (q_move rfl) ?_
          refine d1 2 rfl (by kernel_rfl) rfl rfl (q_indexAddr Tryz.underlying22 z42 rfl rfl rfl (by omega) (by omega) (fun w hw => Sl.OK.isSome (hw.get_fz (t := 100) rfl) (by decide) (i := a.toNat) (by omega))) ?_
          refine d1 3 rfl (by kernel_rfl) rfl rfl (q_fieldAddr of42_0 rfl rfl) ?_
          refine d1 4 rfl (by kernel_rfl) rfl rfl (q_load ag3 rfl (fun w hw => Sl.OK.cell (hw.get_fz (t := 100) rfl) (i := a.toNat) (j := 0) (by omega) rfl)) ?_
          refine d1 5 rfl (by kernel_rfl) rfl rfl (q_eql rfl rfl) ?_
          refine d1 6 rfl (by kernel_rfl) rfl rfl (q_move rfl) ?_
          refine AnyE.know (s := 29) rfl (fun hp3 => ?_) (fun hp3 => ?_)
          · refine d1g 7 rfl (by kernel_rfl) rfl rfl rfl rfl (q_fieldAddr of77_1 rfl rfl) ?_
            refine d1g 8 rfl (by kernel_rfl) rfl rfl rfl rfl (q_load ag75 rfl (fun w hw => hw.box (tg := 5) rfl rfl)) ?_
            refine d1g 9 rfl (by kernel_rfl) rfl rfl rfl rfl (q_move rfl) ?_
            refine d1g 10 rfl (by kernel_rfl) rfl rfl rfl rfl (q_move rfl) ?_
            refine d1g 11 rfl (by kernel_rfl) rfl rfl rfl rfl (q_indexAddr Tryz.underlying22 z42 rfl rfl rfl (by omega) (by omega) (fun w hw => Sl.OK.isSome (hw.get_fz (t := 100) rfl) (by decide) (i := a.toNat) (by omega))) ?_
            refine d1g 12 rfl (by kernel_rfl) rfl rfl rfl rfl (q_loads (cs := enc (nth l.el a.toNat)) ag42 z42 rfl rfl (fun w hw => Sl.OK.cells (hw.get_fz (t := 100) rfl) (i := a.toNat) (by omega))) ?_
            refine dx 13 rfl (by kernel_rfl) rfl rfl (want_some rfl rfl rfl) (e_callf (cap := cap) hen rfl (.cons rfl (.nil)) ((fun w hw => hcl _ (nth_mem (by omega)) w hw.kp))) (fun _ => (.cons rfl (.cons rfl (.nil)))) (fun _ _ => ?_)
            refine d1 14 rfl (by kernel_rfl) rfl rfl (q_pickt rfl rfl) ?_
            refine d_end (by kernel_rfl) ?_
            exact key.weaken (.cons rfl (.cons rfl (.cons rfl (.consE rfl (congrArg Value.bool (by first | (simp only [hp3, ne_eq, not_true_eq_false, not_false_eq_true, true_or, or_true, false_or, or_false, true_and, and_true, false_and, and_false, Bool.decide_eq_true] <;> first | exact nb_dec _ | exact b_dec _ | (simp; done)) | exact nb_dec _ | exact b_dec _ | (simp; done) | (exfalso; omega))) (.nil))))) (.cons rfl (.cons rfl (.nil)))
          · refine d1o 7 rfl (by kernel_rfl) rfl rfl rfl rfl ?_
            refine d1o 8 rfl (by kernel_rfl) rfl rfl rfl rfl ?_
            refine d1o 9 rfl (by kernel_rfl) rfl rfl rfl rfl ?_
            refine d1o 10 rfl (by kernel_rfl) rfl rfl rfl rfl ?_
            refine d1o 11 rfl (by kernel_rfl) rfl rfl rfl rfl ?_
            refine d1o 12 rfl (by kernel_rfl) rfl rfl rfl rfl ?_
            refine d1o 13 rfl (by kernel_rfl) rfl rfl rfl rfl ?_
            refine d1 14 rfl (by kernel_rfl) rfl rfl (q_pickf rfl rfl) ?_
            refine d_end (by kernel_rfl) ?_
            exact key.weaken (.cons rfl (.cons rfl (.cons rfl (.consE rfl (congrArg Value.bool (decide_eq_false (fun h => hp3 h.1)).symm) (.nil))))) (.cons rfl (.cons rfl (.nil)))
      · refine r_exit rfl ?_
        refine r_seq ?_
        refine r_region ?_
        refine s1 rfl (q_move rfl) ?_
        refine s1 rfl (q_move rfl) ?_
        refine s1 rfl (q_len Tryz.underlying22 rfl) ?_
        refine s1 rfl (q_min rfl rfl) ?_
        refine s1 rfl (q_max rfl rfl) ?_
        refine s1 rfl (q_assign rfl) ?_
        refine o_end ?_
        refine r_ret Tryz.func32 (res1 Tryz.results32 (res_tmp (s := 6) rfl)) (fun w hw => ?_)
        exact ⟨ret_int ((mv_out hst hI4 hI5 hp1).trans hI1), hw.kp⟩
    · refine r_region ?_
      refine s1 rfl (q_move rfl) ?_
      refine s1 rfl (q_geq rfl rfl) ?_
      refine s1 rfl (q_move rfl) ?_
      refine g_split (s := 13) rfl (fun hp4 => ?_) (fun hp4 => ?_)
      · refine g_on rfl rfl ?_
        refine s1 rfl (q_move rfl) ?_
        refine g_on rfl rfl ?_
        refine s1 rfl (q_move rfl) ?_
        refine g_on rfl rfl ?_
        refine s1 rfl (q_len Tryz.underlying22 rfl) ?_
        refine g_on rfl rfl ?_
        refine s1 rfl (q_lss rfl rfl) ?_
        refine s1 rfl (q_pickt rfl rfl) ?_
        refine o_end ?_
        exact key.weaken (.cons rfl (.cons rfl (.cons rfl (.consE rfl (congrArg Value.bool (by first | (simp only [hp4, ne_eq, not_true_eq_false, not_false_eq_true, true_or, or_true, false_or, or_false, true_and, and_true, false_and, and_false, Bool.decide_eq_true] <;> first | exact nb_dec _ | exact b_dec _ | (simp; done)) | exact nb_dec _ | exact b_dec _ | (simp; done) | (exfalso; omega))) (.nil))))) (.cons rfl (.cons rfl (.nil)))
      · refine g_off rfl rfl rfl ?_
        iterate 3 refine g_off rfl rfl rfl ?_
        refine s1 rfl (q_pickf rfl rfl) ?_
        refine o_end ?_
        exact key.weaken (.cons rfl (.cons rfl (.cons rfl (.consE rfl (congrArg Value.bool (decide_eq_false (fun h => hp4 h.1)).symm) (.nil))))) (.cons rfl (.cons rfl (.nil)))
  · exact ⟨rfl, by omega, by omega, fun q => by omega, fun q => by omega⟩

end Go.Proofs.YtecibcjckinngaaGreatDoor
/- The table of motions: which command looks where for what. -/
set_option linter.unusedVariables false
namespace Go.Proofs.YtecibcjckinngaaGreatDoor
open Go Go.RowKit Enc
def sStep : ByteArray := ⟨#[115, 116, 101, 112]⟩
def sOver : ByteArray := ⟨#[111, 118, 101, 114]⟩
def sOut : ByteArray := ⟨#[111, 117, 116]⟩
def sGo : ByteArray := ⟨#[103, 111]⟩
def sBack : ByteArray := ⟨#[98, 97, 99, 107]⟩
def sUnder : ByteArray := ⟨#[117, 110, 100, 101, 114]⟩
def sRewind : ByteArray := ⟨#[114, 101, 119, 105, 110, 100]⟩
abbrev fAny : Value := .func (.func 54) #[] #[]
abbrev fLevel (g : Nat) : Value := .func (.func 55) #[] #[.pointer (some ⟨g, 0, none⟩)]
abbrev fAbove (g : Nat) : Value := .func (.func 56) #[] #[.pointer (some ⟨g, 0, none⟩)]
abbrev fMark (g : Nat) : Value := .func (.func 57) #[] #[.pointer (some ⟨g, 0, none⟩)]
abbrev ment (s : ByteArray) (st : Int) (f : Value) (n : Nat) : MapEntry := { key := .string s, val := .agg #[.int .i64 st, f], born := n }
def motEs (g gb : Nat) : Array MapEntry := ((((((#[].push (ment sStep 1 fAny 0)).push (ment sOver 1 (fLevel g) 1)).push (ment sOut 1 (fAbove g) 2)).push (ment sGo 1 (fMark gb) 3)).push (ment sBack (-1) fAny 4)).push (ment sUnder (-1) (fLevel g) 5)).push (ment sRewind (-1) (fMark gb) 6)
/-- The way of a command: 1, -1, or 0 where it is no motion. -/
def motSt (s : ByteArray) : Int := if s = sStep then 1 else if s = sOver then 1 else if s = sOut then 1 else if s = sGo then 1 else if s = sBack then -1 else if s = sUnder then -1 else if s = sRewind then -1 else 0
def motOk (s : ByteArray) : Bool := decide (motSt s ≠ 0)
def motFn (g gb : Nat) (s : ByteArray) : Value := if s = sStep then fAny else if s = sOver then fLevel g else if s = sOut then fAbove g else if s = sGo then fMark gb else if s = sBack then fAny else if s = sUnder then fLevel g else if s = sRewind then fMark gb else .nilFunc
def motFind (g gb : Nat) (s : ByteArray) : Option (Nat × Value) := if s = sStep then some (0, .agg #[.int .i64 1, fAny]) else if s = sOver then some (1, .agg #[.int .i64 1, fLevel g]) else if s = sOut then some (2, .agg #[.int .i64 1, fAbove g]) else if s = sGo then some (3, .agg #[.int .i64 1, fMark gb]) else if s = sBack then some (4, .agg #[.int .i64 (-1), fAny]) else if s = sUnder then some (5, .agg #[.int .i64 (-1), fLevel g]) else if s = sRewind then some (6, .agg #[.int .i64 (-1), fMark gb]) else none
theorem findNow_cons {s k : ByteArray} {v : Value} {n i : Nat} {es : List MapEntry} : Instr.findNow .string (.string s) ({ key := .string k, val := v, born := n } :: es) i = if s = k then some (some (i, v)) else Instr.findNow .string (.string s) es (i + 1) := by
  rw [Instr.findNow]
  simp only [Instr.sameNow, ba_beq]
  by_cases h : s = k
  · simp [h]
  · simp [h]
theorem mot_find (g gb : Nat) (s : ByteArray) : Instr.findNow .string (.string s) (motEs g gb).toList 0 = some (motFind g gb s) := by
  simp only [motEs, Array.toList_push, List.nil_append, List.cons_append, ment, findNow_cons, motFind]
  repeat (split; rfl)
  rfl
theorem mot_val (g gb : Nat) (s : ByteArray) : ((motFind g gb s).map (·.2)).getD (.agg #[.int .i64 (0 : Int), .nilFunc]) = .agg #[.int .i64 (motSt s), motFn g gb s] := by
  unfold motFind motSt motFn
  by_cases h1 : s = sStep
  · simp [h1]
  by_cases h2 : s = sOver
  · simp only [if_neg h1, if_pos h2]; rfl
  by_cases h3 : s = sOut
  · simp only [if_neg h1, if_neg h2, if_pos h3]; rfl
  by_cases h4 : s = sGo
  · simp only [if_neg h1, if_neg h2, if_neg h3, if_pos h4]; rfl
  by_cases h5 : s = sBack
  · simp only [if_neg h1, if_neg h2, if_neg h3, if_neg h4, if_pos h5]; rfl
  by_cases h6 : s = sUnder
  · simp only [if_neg h1, if_neg h2, if_neg h3, if_neg h4, if_neg h5, if_pos h6]; rfl
  by_cases h7 : s = sRewind
  · simp only [if_neg h1, if_neg h2, if_neg h3, if_neg h4, if_neg h5, if_neg h6, if_pos h7]; rfl
  · simp only [if_neg h1, if_neg h2, if_neg h3, if_neg h4, if_neg h5, if_neg h6, if_neg h7]; rfl
theorem mot_some (g gb : Nat) (s : ByteArray) : (motFind g gb s).isSome = motOk s := by
  unfold motFind motOk motSt
  by_cases h1 : s = sStep
  · simp [h1]
  by_cases h2 : s = sOver
  · simp only [if_neg h1, if_pos h2]; rfl
  by_cases h3 : s = sOut
  · simp only [if_neg h1, if_neg h2, if_pos h3]; rfl
  by_cases h4 : s = sGo
  · simp only [if_neg h1, if_neg h2, if_neg h3, if_pos h4]; rfl
  by_cases h5 : s = sBack
  · simp only [if_neg h1, if_neg h2, if_neg h3, if_neg h4, if_pos h5]; rfl
  by_cases h6 : s = sUnder
  · simp only [if_neg h1, if_neg h2, if_neg h3, if_neg h4, if_neg h5, if_pos h6]; rfl
  by_cases h7 : s = sRewind
  · simp only [if_neg h1, if_neg h2, if_neg h3, if_neg h4, if_neg h5, if_neg h6, if_pos h7]; rfl
  · simp only [if_neg h1, if_neg h2, if_neg h3, if_neg h4, if_neg h5, if_neg h6, if_neg h7]; rfl
/-- Whether an event is good for a motion from the depth d. -/
def goodP (brk : List BrkM) (d : Int) (s : ByteArray) (e : EvM) : Bool :=
  if s = sStep ∨ s = sBack then true else if s = sOver ∨ s = sUnder then decide ((d = (0 : Int)) ∨ (e.depth ≤ d)) else if s = sOut then decide ((d = (0 : Int)) ∨ (e.depth < d)) else brk.any (hitB e)
theorem RetV.eqv {P : Program} {f : FuncId} {args : Array Value} {w : World} {v v' : Value} (h : RetV P f args w v) (hv : v = v') : RetV P f args w v' := hv ▸ h
theorem mot_fn {g gb : Nat} {s : ByteArray} (h : motOk s = true) (d : Int) (brk : Sl BrkM) : ∃ m cap, motFn g gb s = .func (.func m) #[] (cap : List Value).toArray ∧ Enters Tryz.prog m ∧ (motSt s = 1 ∨ motSt s = -1) ∧
    (∀ w, CellIs w g (.int .i64 d) → CellIs w gb brk.val → ok w brk → ∀ e : EvM, ok w e → RetV Tryz.prog m ([.agg (enc e).toArray] ++ cap : List Value).toArray w (.bool (goodP brk.el d s e))) := by
  by_cases h1 : s = sStep
  · exact ⟨54, [], by simp only [motFn, if_pos h1], en54, Or.inl (by simp only [motSt, if_pos h1]), fun w _ _ _ e _ => (c54 e w).eqv (by rw [goodP, if_pos (Or.inl h1)])⟩
  by_cases h2 : s = sOver
  · exact ⟨55, [.pointer (some ⟨g, 0, none⟩)], by simp only [motFn, if_neg h1, if_pos h2], en55, Or.inl (by simp only [motSt, if_neg h1, if_pos h2]), fun w hd _ _ e _ => (c55 e g d w hd).eqv (by subst h2; rw [goodP, if_neg (by decide), if_pos (Or.inl rfl)])⟩
  by_cases h3 : s = sOut
  · exact ⟨56, [.pointer (some ⟨g, 0, none⟩)], by simp only [motFn, if_neg h1, if_neg h2, if_pos h3], en56, Or.inl (by simp only [motSt, if_neg h1, if_neg h2, if_pos h3]), fun w hd _ _ e _ => (c56 e g d w hd).eqv (by subst h3; rw [goodP, if_neg (by decide), if_neg (by decide), if_pos rfl])⟩
  by_cases h4 : s = sGo
  · exact ⟨57, [.pointer (some ⟨gb, 0, none⟩)], by simp only [motFn, if_neg h1, if_neg h2, if_neg h3, if_pos h4], en57, Or.inl (by simp only [motSt, if_neg h1, if_neg h2, if_neg h3, if_pos h4]), fun w _ hb hl e he => (c57 e gb brk w hb he hl).eqv (by subst h4; rw [goodP, if_neg (by decide), if_neg (by decide), if_neg (by decide)])⟩
  by_cases h5 : s = sBack
  · exact ⟨54, [], by simp only [motFn, if_neg h1, if_neg h2, if_neg h3, if_neg h4, if_pos h5], en54, Or.inr (by simp only [motSt, if_neg h1, if_neg h2, if_neg h3, if_neg h4, if_pos h5]), fun w _ _ _ e _ => (c54 e w).eqv (by rw [goodP, if_pos (Or.inr h5)])⟩
  by_cases h6 : s = sUnder
  · exact ⟨55, [.pointer (some ⟨g, 0, none⟩)], by simp only [motFn, if_neg h1, if_neg h2, if_neg h3, if_neg h4, if_neg h5, if_pos h6], en55, Or.inr (by simp only [motSt, if_neg h1, if_neg h2, if_neg h3, if_neg h4, if_neg h5, if_pos h6]), fun w hd _ _ e _ => (c55 e g d w hd).eqv (by subst h6; rw [goodP, if_neg (by decide), if_pos (Or.inr rfl)])⟩
  by_cases h7 : s = sRewind
  · exact ⟨57, [.pointer (some ⟨gb, 0, none⟩)], by simp only [motFn, if_neg h1, if_neg h2, if_neg h3, if_neg h4, if_neg h5, if_neg h6, if_pos h7], en57, Or.inr (by simp only [motSt, if_neg h1, if_neg h2, if_neg h3, if_neg h4, if_neg h5, if_neg h6, if_pos h7]), fun w _ hb hl e he => (c57 e gb brk w hb he hl).eqv (by subst h7; rw [goodP, if_neg (by decide), if_neg (by decide), if_neg (by decide)])⟩
  · exfalso
    have hz : motSt s = 0 := by simp only [motSt, if_neg h1, if_neg h2, if_neg h3, if_neg h4, if_neg h5, if_neg h6, if_neg h7]
    rw [motOk, hz] at h
    simp at h
end Go.Proofs.YtecibcjckinngaaGreatDoor
/- Walk over the table of motions. -/
set_option linter.unusedVariables false
namespace Go.Proofs.YtecibcjckinngaaGreatDoor
open Go Go.RowKit Enc
attribute [local irreducible] Effect OpsE RunE AnyE AnyAt Quiet Res1


theorem c31 (l : Sl EvM) (b : Sl BrkM) (p : Int) (w : World) (hl : ok w l) (hp : -1 ≤ p ∧ p ≤ l.el.length) : ∀ t0 t1 t2 : Nat, RetX Tryz.prog 31 #[.slice l.addr l.el.length l.cap, .slice b.addr b.el.length b.cap, .int .i64 p] w (fun x : Nat × Nat × Nat => .map (some x.1)) (fun x => [(t0, .fn (fun w => MapIs w x.1 (motEs x.2.1 x.2.2) 7)), (t1, .fn (fun w => CellIs w x.2.1 (.int .i64 (depthP l.el p)))), (t2, .fn (fun w => CellIs w x.2.2 b.val))]) (fun _ => True) := by
  intro t0 t1 t2
  have L0 := Sl.OK.le hl (by decide)
  refine calls_of (args := [.slice l.addr l.el.length l.cap, .slice b.addr b.el.length b.cap, .int .i64 p]) Tryz.func31 rfl Tryz.ntmps31 rfl (H := [(100, .fz (fun w => ok w l))]) (Facts.sep (.cons (supp_ok hl) (.nil))) ?_
  refine r_seq ?_
  refine r_region ?_
  refine sx rfl (e_box rfl (cs := [.slice b.addr b.el.length b.cap]) rfl) (fun g1 _ => ?_)
  refine s1 rfl (q_assign rfl) ?_
  refine o_end ?_
  refine r_seq ?_
  refine r_region ?_
  refine s1 rfl (q_move rfl) ?_
  refine s1 rfl (q_move rfl) ?_
  refine sx rfl (e_call en53 (.cons rfl (.cons rfl (.nil))) ((fun w hw => c53 l p w (hw.get_fz (t := 100) rfl) (by omega)))) (fun _ _ => ?_)
  refine sx rfl (e_alloc zz3) (fun g2 _ => ?_)
  refine sxn (e_store (tg := 7) (news := [.int .i64 (depthP l.el p)]) rfl rfl rfl rfl z3 rfl rfl (.cons (.nil _))) (fun _ _ => ?_)
  refine o_end ?_
  refine r_seq ?_
  refine r_region ?_
  refine s1 rfl (q_assign rfl) ?_
  refine o_end ?_
  refine r_seq ?_
  refine r_region ?_
  refine s1 rfl (q_mkfunc (.cons rfl (.nil))) ?_
  refine s1 rfl (q_assign rfl) ?_
  refine o_end ?_
  refine r_seq ?_
  refine r_region ?_
  refine s1 rfl (q_mkfunc (.cons rfl (.nil))) ?_
  refine s1 rfl (q_assign rfl) ?_
  refine o_end ?_
  refine r_seq ?_
  refine r_region ?_
  refine s1 rfl (q_mkfunc (.cons rfl (.nil))) ?_
  refine s1 rfl (q_assign rfl) ?_
  refine o_end ?_
  refine r_seq ?_
  refine r_region ?_
  refine sx rfl (e_makemap) (fun g3 _ => ?_)
  refine s1 rfl (q_move rfl) ?_
  refine s1 rfl (q_build (cs := [.int .i64 (1 : Int), .func (.func 54) #[] #[]]) (.cons rfl (.cons rfl (.nil))) (by kernel_rfl)) ?_
  refine sxn (e_insert (tg := 18) Tryz.underlying79 Tryz.underlying9 rfl rfl rfl rfl (by kernel_rfl)) (fun _ _ => ?_)
  refine s1 rfl (q_move rfl) ?_
  refine s1 rfl (q_build (cs := [.int .i64 (1 : Int), .func (.func 55) #[] #[.pointer (some ⟨g2, 0, none⟩)]]) (.cons rfl (.cons rfl (.nil))) (by kernel_rfl)) ?_
  refine sxn (e_insert (tg := 18) Tryz.underlying79 Tryz.underlying9 rfl rfl rfl rfl (by kernel_rfl)) (fun _ _ => ?_)
  refine s1 rfl (q_move rfl) ?_
  refine s1 rfl (q_build (cs := [.int .i64 (1 : Int), .func (.func 56) #[] #[.pointer (some ⟨g2, 0, none⟩)]]) (.cons rfl (.cons rfl (.nil))) (by kernel_rfl)) ?_
  refine sxn (e_insert (tg := 18) Tryz.underlying79 Tryz.underlying9 rfl rfl rfl rfl (by kernel_rfl)) (fun _ _ => ?_)
  refine s1 rfl (q_move rfl) ?_
  refine s1 rfl (q_build (cs := [.int .i64 (1 : Int), .func (.func 57) #[] #[.pointer (some ⟨g1, 0, none⟩)]]) (.cons rfl (.cons rfl (.nil))) (by kernel_rfl)) ?_
  refine sxn (e_insert (tg := 18) Tryz.underlying79 Tryz.underlying9 rfl rfl rfl rfl (by kernel_rfl)) (fun _ _ => ?_)
  refine s1 rfl (q_move rfl) ?_
  refine s1 rfl (q_build (cs := [.int .i64 (-1 : Int), .func (.func 54) #[] #[]]) (.cons rfl (.cons rfl (.nil))) (by kernel_rfl)) ?_
  refine sxn (e_insert (tg := 18) Tryz.underlying79 Tryz.underlying9 rfl rfl rfl rfl (by kernel_rfl)) (fun _ _ => ?_)
  refine s1 rfl (q_move rfl) ?_
  refine s1 rfl (q_build (cs := [.int .i64 (-1 : Int), .func (.func 55) #[] #[.pointer (some ⟨g2, 0, none⟩)]]) (.cons rfl (.cons rfl (.nil))) (by kernel_rfl)) ?_
  refine sxn (e_insert (tg := 18) Tryz.underlying79 Tryz.underlying9 rfl rfl rfl rfl (by kernel_rfl)) (fun _ _ => ?_)
  refine s1 rfl (q_move rfl) ?_
  refine s1 rfl (q_build (cs := [.int .i64 (-1 : Int), .func (.func 57) #[] #[.pointer (some ⟨g1, 0, none⟩)]]) (.cons rfl (.cons rfl (.nil))) (by kernel_rfl)) ?_
  refine sxn (e_insert (tg := 18) Tryz.underlying79 Tryz.underlying9 rfl rfl rfl rfl (by kernel_rfl)) (fun _ _ => ?_)
  refine s1 rfl (q_move rfl) ?_
  refine s1 rfl (q_assign rfl) ?_
  refine o_end ?_
  refine r_ret Tryz.func31 (res1 Tryz.results31 (res_tmp (s := 6) rfl)) (fun w hw => ?_)
  have hf := ((hw.freezeMap (t := 18) rfl).freezeBox (t := 7) rfl).freezeBox (t := 4) rfl
  exact ⟨(g3, g2, g1), trivial, rfl, hf.ren (.cons (t0 := 18) rfl rfl (.cons (t0 := 7) rfl rfl (.cons (t0 := 4) rfl rfl .nil)))⟩

end Go.Proofs.YtecibcjckinngaaGreatDoor
/- Active functions at a position, as plain functions on the data; what a valid trace shows. -/
set_option linter.unusedVariables false
namespace Go.Proofs.YtecibcjckinngaaGreatDoor
open Go Enc
/-- A trace without a fault. -/
structure Valid (l : List EvM) : Prop where
  len : l.length ≤ 20000
  ev : ∀ j, j < l.length → (evF l j).1 = 0
theorem valid_of {l : List EvM} (h : (traceFault l).1 = 0) : Valid l := by
  unfold traceFault at h
  split at h
  · simp at h
  · rename_i h1
    exact ⟨by omega, firstFault_all h⟩
theorem tr_zero {l : List EvM} (h : (traceFault l).1 = 0) : traceFault l = (0, 0) := by
  have hv := valid_of h
  exact tr_none (by have := hv.len; omega) hv.ev
/-- What holds of an event without a fault. -/
structure EvOk (l : List EvM) (i : Nat) : Prop where
  k1 : 1 ≤ (nth l i).kind
  k4 : (nth l i).kind ≤ 4
  mod : dottedB (nth l i).mod = true
  fn : isNameB (nth l i).fn = true
  line : 0 ≤ (nth l i).line
  pos : 0 < (pushed (actN l i) (nth l i)).length
  depth : (nth l i).depth = (((pushed (actN l i) (nth l i)).length : Nat) : Int)
theorem ev_okk {l : List EvM} {i : Nat} (h : (evF l i).1 = 0) : EvOk l i := by
  have h0 := ev_ok h
  have hs : shapeCode (nth l i) (fuelN l i) = 0 := by
    unfold evF at h
    split at h
    · rename_i h1; exact absurd h h1
    · rename_i h1; exact Decidable.not_not.1 h1
  have hn : ¬ namesBad (nth l i) := by
    intro hb
    unfold shapeCode at hs
    rw [if_neg h0.1] at hs
    split at hs
    · simp at hs
    · simp at hs
  have h2 : ¬ ((((pushed (actN l i) (nth l i)).length : Nat) : Int) = 0 ∨ (nth l i).depth ≠ (((pushed (actN l i) (nth l i)).length : Nat) : Int)) := by
    intro hb
    rw [ev_b (by rw [hs]; simp) hb] at h
    simp at h
  simp only [kindBad, rangeBad, namesBad, not_or, Decidable.not_not] at h0 hn h2
  exact ⟨by omega, by omega, hn.1, hn.2, by omega, by omega, h2.2⟩
theorem Valid.at {l : List EvM} (h : Valid l) {i : Nat} (hi : i < l.length) : EvOk l i := ev_okk (h.ev i hi)
def actOf (e : EvM) : ActM := ⟨⟨e.mod, e.fn, e.line⟩, -1⟩
def actUp (a : List ActM) (e : EvM) (i : Nat) : List ActM := a.set (a.length - 1) ⟨⟨(nth a (a.length - 1)).place.mod, (nth a (a.length - 1)).place.fn, e.line⟩, ((i : Nat) : Int)⟩
/-- The functions that are active behind the first i events, for a look at position p. -/
def actS (l : List EvM) (p : Int) : Nat → List ActM
  | 0 => []
  | i + 1 => if (nth l i).kind = 2 then actS l p i ++ [actOf (nth l i)] else if (nth l i).kind = 1 then actUp (actS l p i) (nth l i) i else if ((i : Nat) : Int) < p then (actS l p i).take ((actS l p i).length - 1) else actS l p i
def activeP (l : List EvM) (p : Int) : List ActM := if p < 0 ∨ p = ((l.length : Nat) : Int) then [] else actS l p (p + 1).toNat
theorem act_a {l : List EvM} {p : Int} {i : Nat} (h : (nth l i).kind = 2) : actS l p i ++ [(⟨(⟨(nth l i).mod, (nth l i).fn, (nth l i).line⟩ : PlcM), (-1 : Int)⟩ : ActM)] = actS l p (i + 1) := by rw [actS, if_pos h]; rfl
theorem set_set' {α : Type} (l : List α) (i : Nat) (x y : α) : (l.set i x).set i y = l.set i y := by
  induction l generalizing i with
  | nil => rfl
  | cons z zs ih => cases i with
    | zero => rfl
    | succ i => simp only [List.set_cons_succ, ih]
theorem act_b {l : List EvM} {p : Int} {i k : Nat} (hk : k = (actS l p i).length - 1) (hk2 : k < (actS l p i).length) (h : ¬ (nth l i).kind = 2) (h2 : (nth l i).kind = 1) :
    ((actS l p i).set k (⟨⟨(nth (actS l p i) k).place.mod, (nth (actS l p i) k).place.fn, (nth l i).line⟩, (nth (actS l p i) k).stop⟩ : ActM)).set k (⟨(nth ((actS l p i).set k (⟨⟨(nth (actS l p i) k).place.mod, (nth (actS l p i) k).place.fn, (nth l i).line⟩, (nth (actS l p i) k).stop⟩ : ActM)) k).place, ((i : Nat) : Int)⟩ : ActM) = actS l p (i + 1) := by
  rw [actS, if_neg h, if_pos h2, actUp, set_set', nth_set, if_pos ⟨rfl, hk2⟩, ← hk]
theorem act_c {l : List EvM} {p : Int} {i : Nat} (h : ¬ (nth l i).kind = 2) (h2 : ¬ (nth l i).kind = 1) (h3 : ((i : Nat) : Int) < p) : (actS l p i).take ((actS l p i).length - 1) = actS l p (i + 1) := by rw [actS, if_neg h, if_neg h2, if_pos h3]
theorem act_d {l : List EvM} {p : Int} {i : Nat} (h : ¬ (nth l i).kind = 2) (h2 : ¬ (nth l i).kind = 1) (h3 : ¬ ((i : Nat) : Int) < p) : actS l p i = actS l p (i + 1) := by rw [actS, if_neg h, if_neg h2, if_neg h3]
theorem actUp_len (a : List ActM) (e : EvM) (i : Nat) : (actUp a e i).length = a.length := by simp [actUp]
theorem popped_len2 {a : List FunM} {e : EvM} (h : 1 ≤ e.kind ∧ e.kind ≤ 4) : (popped a e).length = if e.kind = 1 ∨ e.kind = 2 then a.length else a.length - 1 := by
  unfold popped
  by_cases hk : e.kind = 1 ∨ e.kind = 2
  · rw [if_neg (by omega), if_pos hk]
  · rw [if_pos (by omega), if_neg hk, List.length_take]; omega
theorem pushed_len2 (a : List FunM) (e : EvM) : (pushed a e).length = if e.kind = 2 then a.length + 1 else a.length := by
  unfold pushed; split <;> simp
theorem actS_len {l : List EvM} (hv : Valid l) {p : Int} : ∀ i, ((i : Nat) : Int) ≤ p → i ≤ l.length → (actS l p i).length = (actN l i).length
  | 0, _, _ => rfl
  | i + 1, h, hi => by
    have ih := actS_len hv (p := p) i (by omega) (by omega)
    have ho := hv.at (i := i) (by omega)
    have h1 := ho.k1; have h4 := ho.k4
    rw [actN, popped_len2 ⟨h1, h4⟩, pushed_len2, actS]
    by_cases h2 : (nth l i).kind = 2
    · rw [if_pos h2, if_pos h2, if_pos (Or.inr h2)]; simp [ih]
    · rw [if_neg h2, if_neg h2]
      by_cases h3 : (nth l i).kind = 1
      · rw [if_pos h3, if_pos (Or.inl h3), actUp_len, ih]
      · rw [if_neg h3, if_pos (by omega), if_neg (by omega), List.length_take, ih]; omega
/-- There is an active function at each event. -/
theorem actS_pos {l : List EvM} (hv : Valid l) {p : Int} {i : Nat} (h : ((i : Nat) : Int) ≤ p) (hi : i < l.length) (h2 : ¬ (nth l i).kind = 2) : 0 < (actS l p i).length := by
  have ho := (hv.at hi).pos
  rw [pushed_len2, if_neg h2] at ho
  rw [actS_len hv i h (by omega)]; exact ho
theorem actS_le (l : List EvM) (p : Int) : ∀ i, (actS l p i).length ≤ i
  | 0 => Nat.le_refl _
  | i + 1 => by
    have ih := actS_le l p i
    rw [actS]
    split
    · simp; omega
    · split
      · rw [actUp_len]; omega
      · split
        · simp; omega
        · omega
theorem sub_nth {α : Type} [Enc α] [Inhabited α] {s : Sl α} {k i : Nat} (h : i < k) : nth (s.sub 0 k).el i = nth s.el i := by
  show nth (s.el.take k) i = nth s.el i
  simp only [nth, List.getD_eq_getElem?_getD]
  rw [List.getElem?_take_of_lt h]
theorem pt_part (ad : Option Addr) (m n : Nat) : ∀ g o, ad = some ⟨g, o, none⟩ → ((Pt ad m).add n) = ⟨g, o + (m + n), none⟩ := fun g o h => by
  rw [pt_el ad m g o h, addn, Nat.add_assoc]
/-- All that the active functions show comes of the trace. -/
theorem act_all {l : List EvM} {p : Int} (Q : ActM → Prop) (h1 : ∀ j, j < l.length → Q (actOf (nth l j))) (h2 : ∀ (a : ActM) j, Q a → j < l.length → Q ⟨⟨a.place.mod, a.place.fn, (nth l j).line⟩, ((j : Nat) : Int)⟩) (hd : Q default) : ∀ i, i ≤ l.length → ∀ x ∈ actS l p i, Q x
  | 0, _, x, hx => by simp [actS] at hx
  | i + 1, hi, x, hx => by
    have ih := act_all (p := p) Q h1 h2 hd i (by omega)
    rw [actS] at hx
    split at hx
    · rcases List.mem_append.1 hx with hx | hx
      · exact ih x hx
      · simp at hx; subst hx; exact h1 i (by omega)
    · split at hx
      · unfold actUp at hx
        rcases List.mem_or_eq_of_mem_set hx with hx | hx
        · exact ih x hx
        · subst hx
          refine h2 _ i ?_ (by omega)
          by_cases hl : (actS l p i).length - 1 < (actS l p i).length
          · exact ih _ (nth_mem hl)
          · rw [nth_default (by omega)]; exact hd
      · split at hx
        · exact ih x (List.mem_of_mem_take hx)
        · exact ih x hx
/-- The places of active functions. -/
def plcs (a : List ActM) : List PlcM := a.map (·.place)
theorem plcs_take {a : List ActM} {i : Nat} (h : i < a.length) : plcs (a.take i) ++ [(nth a i).place] = plcs (a.take (i + 1)) := by
  rw [take_succ_nth h]; simp [plcs]
end Go.Proofs.YtecibcjckinngaaGreatDoor
/- Walks over the active functions: active, places, show, position, Stack, Show, Move. -/
set_option linter.unusedVariables false
namespace Go.Proofs.YtecibcjckinngaaGreatDoor
open Go Go.RowKit Enc
attribute [local irreducible] Effect OpsE RunE AnyE AnyAt Quiet Res1


theorem c37 (l : Sl EvM) (p : Int) (w : World) (hl : ok w l) (hv : Valid l.el) (hp : -1 ≤ p ∧ p ≤ l.el.length) : RetRow Tryz.prog 37 #[.slice l.addr l.el.length l.cap, .int .i64 p] w 104 (activeP l.el p) := by
  intro tg
  have L0 := Sl.OK.le hl (by decide)
  have LC := (show Sl.OK w l from hl).lc
  have LV := hv.len
  refine calls_of (args := [.slice l.addr l.el.length l.cap, .int .i64 p]) Tryz.func37 rfl Tryz.ntmps37 rfl (H := [(100, .fz (fun w => ok w l))]) (Facts.sep (.cons (supp_ok hl) (.nil))) ?_
  refine r_seq ?_
  refine r_region ?_
  refine s1 rfl (q_assign rfl) ?_
  refine o_end ?_
  refine r_seq ?_
  refine r_region ?_
  refine s1 rfl (q_assign rfl) ?_
  refine o_end ?_
  refine r_seq ?_
  refine r_seq ?_
  refine r_cut [(0, .slice l.addr l.el.length l.cap), (1, .int .i64 p), (5, .slice none 0 0), (16, .bool (decide ((p < (0 : Int)) ∨ (p = ((l.el.length : Nat) : Int)))))] [(100, .fz (fun w => ok w l))] ?_ (fun key => ?_)
  · refine r_if rfl (fun hp1 => ?_) (fun hp1 => ?_)
    · refine r_seq ?_
      refine r_region ?_
      refine s1 rfl (q_assign rfl) ?_
      refine o_end ?_
      refine r_ret Tryz.func37 (res1 Tryz.results37 (res_tmp (s := 4) rfl)) (fun w hw => ?_)
      rw [show activeP l.el p = [] from if_pos hp1]
      exact ⟨(none, 0), trivial, rfl, (hw.nilRow 0 104 4).one (t := 0) rfl nofzrow⟩
    · refine r_skip ?_
      refine r_seq ?_
      refine r_seq ?_
      refine r_region ?_
      refine s1 rfl (q_move rfl) ?_
      refine s1 rfl (q_move rfl) ?_
      refine s1 rfl (Quiet.as (q_add rfl rfl (by omega)) (congrArg (Value.int .i64) (by omega : _ = ((((p + 1).toNat : Nat) : Int))))) ?_
      refine s1 rfl (q_slice_h (s := l) Tryz.underlying22 z42 rfl rfl rfl (by omega) (by omega)) ?_
      refine s1 rfl (q_len Tryz.underlying22 rfl) ?_
      refine s1 rfl (q_move rfl) ?_
      refine o_end ?_
      refine r_block ?_
      refine r_know (fun w hw => hw.nilRow 500 104 4) ?_
      refine r_loop ?_
      refine RunE.weaken ?_ ?_ (r_rounds3 (fun (i : Nat) (a1 : Option Addr) (c2 : Nat) => [(1, .int .i64 p), (5, .slice a1 ((actS l.el p i).length) c2), (20, .slice ((l.sub 0 ((p + 1).toNat)).addr) ((l.sub 0 ((p + 1).toNat)).el.length) ((l.sub 0 ((p + 1).toNat)).cap)), (21, .int .i64 (((l.sub 0 ((p + 1).toNat)).el.length : Nat) : Int)), (22, .int .i64 ((i : Nat) : Int))]) (fun (i : Nat) (a1 : Option Addr) (c2 : Nat) => [(100, .fz (fun w => ok w l)), (500, .row 104 4 a1 ((actS l.el p i).length) c2 (encs (actS l.el p i)))]) (fun (i : Nat) (a1 : Option Addr) (c2 : Nat) => i ≤ (l.sub 0 (p + 1).toNat).el.length) (fun (i : Nat) (a1 : Option Addr) (c2 : Nat) => (l.sub 0 (p + 1).toNat).el.length - i) ?_ 0 none 0 ?_)
      · exact (.cons rfl (.cons rfl (.cons rfl (.cons rfl (.cons rfl (.nil))))))
      · exact (.cons rfl (.cons rfl (.nil)))
      · intro i a1 c2 hI0 ih0
        have hsl := Sl.sub_len l (lo := 0) (hi := (p + 1).toNat) (by omega) (by omega)
        have hA := actS_le l.el p i
        have hB : i < (l.sub 0 (p + 1).toNat).el.length → ¬ (nth l.el i).kind = 2 → 0 < (actS l.el p i).length := fun q1 q2 => actS_pos hv (by omega) (by omega) q2
        refine r_seq ?_
        refine r_region ?_
        refine s1 rfl (q_lss rfl rfl) ?_
        refine o_end ?_
        refine r_seq ?_
        refine r_if rfl (fun hp2 => ?_) (fun hp2 => ?_)
        · refine r_skip ?_
          refine r_seq ?_
          refine r_block ?_
          refine r_seq ?_
          refine r_region ?_
          refine s1 rfl (q_move rfl) ?_
          refine s1 rfl (q_indexAddr Tryz.underlying22 z42 rfl rfl rfl (by first | omega | (simp only [List.length_set]; omega)) (by first | omega | (simp only [List.length_set]; omega)) (fun w hw => Sl.OK.isSome (Sl.OK.sub (hw.get_fz (t := 100) rfl) (lo := 0) (hi := (p + 1).toNat) (by omega) (by omega)) (by decide) (i := i) (by first | omega | (simp only [List.length_set]; omega)))) ?_
          refine s1 rfl (Quiet.as (q_loads (cs := enc (nth (l.sub 0 (p + 1).toNat).el i)) ag42 z42 rfl rfl (fun w hw => Sl.OK.cells (Sl.OK.sub (hw.get_fz (t := 100) rfl) (lo := 0) (hi := (p + 1).toNat) (by omega) (by omega)) (i := i) (by omega))) (by rw [sub_nth (by omega)])) ?_
          refine sx rfl (e_alloc zz42) (fun g3 _ => ?_)
          refine s1 rfl (q_assign rfl) ?_
          refine sxn (e_store (tg := 7) (news := enc (nth l.el i)) rfl rfl rfl rfl z42 rfl rfl (.cons (.cons (.cons (.cons (.cons (.cons (.cons (.cons (.nil _)))))))))) (fun _ _ => ?_)
          refine o_end ?_
          refine r_seq ?_
          refine r_region ?_
          refine s1 rfl (q_move rfl) ?_
          refine s1 rfl (q_len Tryz.underlying87 rfl) ?_
          refine s1 rfl (q_assign rfl) ?_
          refine o_end ?_
          refine r_seq ?_
          refine r_region ?_
          refine s1 rfl (q_fieldAddr of42_0 rfl rfl) ?_
          refine s1 rfl (q_load ag3 rfl (fun w hw => hw.box (tg := 7) rfl rfl)) ?_
          refine o_end ?_
          refine r_block ?_
          refine r_seq ?_
          refine r_region ?_
          refine s1 rfl (q_eql rfl rfl) ?_
          refine s1 rfl (q_assign rfl) ?_
          refine o_end ?_
          refine r_if rfl (fun hp3 => ?_) (fun hp3 => ?_)
          · refine r_region ?_
            refine s1 rfl (q_move rfl) ?_
            refine s1 rfl (q_fieldAddr of42_1 rfl rfl) ?_
            refine s1 rfl (q_load ag9 rfl (fun w hw => hw.box (tg := 7) rfl rfl)) ?_
            refine s1 rfl (q_fieldAddr of42_2 rfl rfl) ?_
            refine s1 rfl (q_load ag9 rfl (fun w hw => hw.box (tg := 7) rfl rfl)) ?_
            refine s1 rfl (q_fieldAddr of42_3 rfl rfl) ?_
            refine s1 rfl (q_load ag3 rfl (fun w hw => hw.box (tg := 7) rfl rfl)) ?_
            refine s1 rfl (q_build (cs := [.string ((nth l.el i).mod), .string ((nth l.el i).fn), .int .i64 ((nth l.el i).line)]) (.cons rfl (.cons rfl (.cons rfl (.nil)))) (by kernel_rfl)) ?_
            refine s1 rfl (q_build (cs := [.string ((nth l.el i).mod), .string ((nth l.el i).fn), .int .i64 ((nth l.el i).line), .int .i64 (-1 : Int)]) (.cons rfl (.cons rfl (.nil))) (by kernel_rfl)) ?_
            refine sx rfl (e_bslice (cs := encs ([(⟨(⟨(nth l.el i).mod, (nth l.el i).fn, (nth l.el i).line⟩ : PlcM), (-1 : Int)⟩ : ActM)] : List ActM)) Tryz.underlying87 zi104 (.cons rfl (.nil)) (by kernel_rfl) rfl rfl rfl) (fun g4 _ => ?_)
            refine sx rfl (e_appendL (tg := 500) (l := actS l.el p i) (l' := ([(⟨(⟨(nth l.el i).mod, (nth l.el i).fn, (nth l.el i).line⟩ : PlcM), (-1 : Int)⟩ : ActM)] : List ActM)) Tryz.underlying87 in104 rfl rfl rfl rfl rfl rfl rfl (fun w hw => Shows.row (hw.row (tg := 49) rfl)) (by simp only [List.length_cons, List.length_nil]; omega)) (fun ⟨a5, c6⟩ _ => ?_)
            refine s1 rfl (q_assign rfl) ?_
            refine o_end ?_
            refine r_inBlock ?_
            refine r_inBlock ?_
            refine r_region ?_
            refine s1 rfl (q_add rfl rfl (by omega)) ?_
            refine s1 rfl (q_move rfl) ?_
            refine o_end ?_
            rw [show (actS l.el p i) ++ ([(⟨(⟨(nth l.el i).mod, (nth l.el i).fn, (nth l.el i).line⟩ : PlcM), (-1 : Int)⟩ : ActM)] : List ActM) = actS l.el p (i + 1) from (act_a (by assumption))]
            refine r_inLoop ?_
            refine RunE.weaken ?_ ?_ (ih0 (i + 1) a5 c6 ?_ ?_)
            · exact (.cons rfl (.cons rfl (.cons rfl (.cons rfl (.cons rfl (.nil))))))
            · exact (.cons rfl (.cons rfl (.nil)))
            · omega
            · omega
          · have hC := hB (by omega) hp3
            refine r_seq ?_
            refine r_region ?_
            refine s1 rfl (q_eql rfl rfl) ?_
            refine s1 rfl (q_assign rfl) ?_
            refine o_end ?_
            refine r_if rfl (fun hp4 => ?_) (fun hp4 => ?_)
            · obtain ⟨k, hk⟩ : ∃ k, (actS l.el p i).length - 1 = k := ⟨_, rfl⟩
              refine r_region ?_
              refine s1 rfl (q_move rfl) ?_
              refine s1 rfl (q_move rfl) ?_
              refine s1 rfl (Quiet.as (q_sub rfl rfl (by omega)) (congrArg (Value.int .i64) (by omega : _ = (((k : Nat) : Int))))) ?_
              refine s1 rfl (q_move rfl) ?_
              refine s1 rfl (q_move rfl) ?_
              refine s1 rfl (Quiet.as (q_sub rfl rfl (by omega)) (congrArg (Value.int .i64) (by omega : _ = (((k : Nat) : Int))))) ?_
              refine s1 rfl (q_fieldAddr of42_3 rfl rfl) ?_
              refine s1 rfl (q_load ag3 rfl (fun w hw => hw.box (tg := 7) rfl rfl)) ?_
              refine s1 rfl (q_move rfl) ?_
              refine s1 rfl (q_indexAddr Tryz.underlying87 z104 rfl rfl rfl (by first | omega | (simp only [List.length_set]; omega)) (by first | omega | (simp only [List.length_set]; omega)) (fun w hw => row_some (hw.row (tg := 500) rfl) (by first | omega | (simp only [List.length_set]; omega)))) ?_
              refine s1 rfl (q_fieldAddr of104_0 rfl rfl) ?_
              refine s1 rfl (q_fieldAddr of54_2 rfl rfl) ?_
              refine sxn (e_setrow (tg := 500) (m := k * 4 + 2) (news := [.int .i64 ((nth l.el i).line)]) (xs' := encs ((actS l.el p i).set k (⟨⟨(nth (actS l.el p i) k).place.mod, (nth (actS l.el p i) k).place.fn, (nth l.el i).line⟩, (nth (actS l.el p i) k).stop⟩ : ActM))) rfl rfl rfl rfl (pt_part _ _ _) z3 rfl rfl (by (try simp only [List.length_set]); simp only [sz, List.length]; omega) (encs_setpart (actS l.el p i) k 2 _ (⟨⟨(nth (actS l.el p i) k).place.mod, (nth (actS l.el p i) k).place.fn, (nth l.el i).line⟩, (nth (actS l.el p i) k).stop⟩ : ActM) (by first | omega | (simp only [List.length_set]; omega)) (by simp only [sz, List.length]; omega) rfl)) (fun _ _ => ?_)
              rw [show (actS l.el p i).length = ((actS l.el p i).set k (⟨⟨(nth (actS l.el p i) k).place.mod, (nth (actS l.el p i) k).place.fn, (nth l.el i).line⟩, (nth (actS l.el p i) k).stop⟩ : ActM)).length from List.length_set.symm]
              refine s1 rfl (q_indexAddr Tryz.underlying87 z104 rfl rfl rfl (by first | omega | (simp only [List.length_set]; omega)) (by first | omega | (simp only [List.length_set]; omega)) (fun w hw => row_some (hw.row (tg := 500) rfl) (by first | omega | (simp only [List.length_set]; omega)))) ?_
              refine s1 rfl (q_fieldAddr of104_1 rfl rfl) ?_
              refine sxn (e_setrow (tg := 500) (m := k * 4 + 3) (news := [.int .i64 ((i : Nat) : Int)]) (xs' := encs (((actS l.el p i).set k (⟨⟨(nth (actS l.el p i) k).place.mod, (nth (actS l.el p i) k).place.fn, (nth l.el i).line⟩, (nth (actS l.el p i) k).stop⟩ : ActM)).set k (⟨(nth ((actS l.el p i).set k (⟨⟨(nth (actS l.el p i) k).place.mod, (nth (actS l.el p i) k).place.fn, (nth l.el i).line⟩, (nth (actS l.el p i) k).stop⟩ : ActM)) k).place, ((i : Nat) : Int)⟩ : ActM))) rfl rfl rfl rfl (pt_part _ _ _) z3 rfl rfl (by (try simp only [List.length_set]); simp only [sz, List.length]; omega) (encs_setpart ((actS l.el p i).set k (⟨⟨(nth (actS l.el p i) k).place.mod, (nth (actS l.el p i) k).place.fn, (nth l.el i).line⟩, (nth (actS l.el p i) k).stop⟩ : ActM)) k 3 _ (⟨(nth ((actS l.el p i).set k (⟨⟨(nth (actS l.el p i) k).place.mod, (nth (actS l.el p i) k).place.fn, (nth l.el i).line⟩, (nth (actS l.el p i) k).stop⟩ : ActM)) k).place, ((i : Nat) : Int)⟩ : ActM) (by first | omega | (simp only [List.length_set]; omega)) (by simp only [sz, List.length]; omega) rfl)) (fun _ _ => ?_)
              rw [show ((actS l.el p i).set k (⟨⟨(nth (actS l.el p i) k).place.mod, (nth (actS l.el p i) k).place.fn, (nth l.el i).line⟩, (nth (actS l.el p i) k).stop⟩ : ActM)).length = (((actS l.el p i).set k (⟨⟨(nth (actS l.el p i) k).place.mod, (nth (actS l.el p i) k).place.fn, (nth l.el i).line⟩, (nth (actS l.el p i) k).stop⟩ : ActM)).set k (⟨(nth ((actS l.el p i).set k (⟨⟨(nth (actS l.el p i) k).place.mod, (nth (actS l.el p i) k).place.fn, (nth l.el i).line⟩, (nth (actS l.el p i) k).stop⟩ : ActM)) k).place, ((i : Nat) : Int)⟩ : ActM)).length from List.length_set.symm]
              refine o_end ?_
              refine r_inBlock ?_
              refine r_inBlock ?_
              refine r_region ?_
              refine s1 rfl (q_add rfl rfl (by omega)) ?_
              refine s1 rfl (q_move rfl) ?_
              refine o_end ?_
              rw [show ((actS l.el p i).set k (⟨⟨(nth (actS l.el p i) k).place.mod, (nth (actS l.el p i) k).place.fn, (nth l.el i).line⟩, (nth (actS l.el p i) k).stop⟩ : ActM)).set k (⟨(nth ((actS l.el p i).set k (⟨⟨(nth (actS l.el p i) k).place.mod, (nth (actS l.el p i) k).place.fn, (nth l.el i).line⟩, (nth (actS l.el p i) k).stop⟩ : ActM)) k).place, ((i : Nat) : Int)⟩ : ActM) = actS l.el p (i + 1) from (act_b hk.symm (by omega) (by assumption) (by assumption))]
              refine r_inLoop ?_
              refine RunE.weaken ?_ ?_ (ih0 (i + 1) a1 c2 ?_ ?_)
              · exact (.cons rfl (.cons rfl (.cons rfl (.cons rfl (.cons rfl (.nil))))))
              · exact (.cons rfl (.cons rfl (.nil)))
              · omega
              · omega
            · refine r_seq ?_
              refine r_region ?_
              refine s1 rfl (q_move rfl) ?_
              refine s1 rfl (q_move rfl) ?_
              refine s1 rfl (q_lss rfl rfl) ?_
              refine o_end ?_
              refine r_if rfl (fun hp5 => ?_) (fun hp5 => ?_)
              · refine r_region ?_
                refine s1 rfl (q_move rfl) ?_
                refine s1 rfl (q_move rfl) ?_
                refine s1 rfl (Quiet.as (q_sub rfl rfl (by omega)) (congrArg (Value.int .i64) (by omega : _ = (((((actS l.el p i).length) - 1 : Nat) : Int))))) ?_
                refine sx rfl (e_cut (tg := 500) (l := actS l.el p i) (h := ((actS l.el p i).length) - 1) Tryz.underlying87 z104 rfl rfl rfl rfl (by omega) rfl) (fun _ _ => ?_)
                refine s1 rfl (q_assign rfl) ?_
                refine o_end ?_
                refine r_inBlock ?_
                refine r_inBlock ?_
                refine r_region ?_
                refine s1 rfl (q_add rfl rfl (by omega)) ?_
                refine s1 rfl (q_move rfl) ?_
                refine o_end ?_
                rw [show (actS l.el p i).take (((actS l.el p i).length) - 1) = actS l.el p (i + 1) from (act_c (by assumption) (by assumption) (by assumption))]
                refine r_inLoop ?_
                refine RunE.weaken ?_ ?_ (ih0 (i + 1) a1 c2 ?_ ?_)
                · exact (.cons rfl (.cons rfl (.cons rfl (.cons rfl (.cons rfl (.nil))))))
                · exact (.cons rfl (.cons rfl (.nil)))
                · omega
                · omega
              · refine r_skip ?_
                refine r_inBlock ?_
                refine r_inBlock ?_
                refine r_region ?_
                refine s1 rfl (q_add rfl rfl (by omega)) ?_
                refine s1 rfl (q_move rfl) ?_
                refine o_end ?_
                rw [show actS l.el p i = actS l.el p (i + 1) from (act_d (by assumption) (by assumption) (by assumption))]
                refine r_inLoop ?_
                refine RunE.weaken ?_ ?_ (ih0 (i + 1) a1 c2 ?_ ?_)
                · exact (.cons rfl (.cons rfl (.cons rfl (.cons rfl (.cons rfl (.nil))))))
                · exact (.cons rfl (.cons rfl (.nil)))
                · omega
                · omega
        · refine r_exit rfl ?_
          refine r_seq ?_
          refine r_region ?_
          refine s1 rfl (q_move rfl) ?_
          refine s1 rfl (q_assign rfl) ?_
          refine o_end ?_
          refine r_ret Tryz.func37 (res1 Tryz.results37 (res_tmp (s := 4) rfl)) (fun w hw => ?_)
          have hi : i = (p + 1).toNat := by omega
          subst hi
          rw [show activeP l.el p = actS l.el p (p + 1).toNat from if_neg hp1]
          exact ⟨(a1, c2), trivial, rfl, hw.one (t := 500) rfl nofzrow⟩
      · exact Nat.zero_le _
  · refine r_region ?_
    refine s1 rfl (q_move rfl) ?_
    refine s1 rfl (q_lss rfl rfl) ?_
    refine s1 rfl (q_move rfl) ?_
    refine g_split (s := 11) rfl (fun hp6 => ?_) (fun hp6 => ?_)
    · refine g_off rfl rfl rfl ?_
      iterate 3 refine g_off rfl rfl rfl ?_
      refine s1 rfl (q_pickt rfl rfl) ?_
      refine o_end ?_
      exact key.weaken (.cons rfl (.cons rfl (.cons rfl (.consE rfl (congrArg Value.bool (decide_eq_true (Or.inl hp6)).symm) (.nil))))) (.cons rfl (.nil))
    · refine g_on rfl rfl ?_
      refine s1 rfl (q_move rfl) ?_
      refine g_on rfl rfl ?_
      refine s1 rfl (q_move rfl) ?_
      refine g_on rfl rfl ?_
      refine s1 rfl (q_len Tryz.underlying22 rfl) ?_
      refine g_on rfl rfl ?_
      refine s1 rfl (q_eql rfl rfl) ?_
      refine s1 rfl (q_pickf rfl rfl) ?_
      refine o_end ?_
      exact key.weaken (.cons rfl (.cons rfl (.cons rfl (.consE rfl (congrArg Value.bool (by first | (simp only [hp6, ne_eq, not_true_eq_false, not_false_eq_true, true_or, or_true, false_or, or_false, true_and, and_true, false_and, and_false, Bool.decide_eq_true] <;> first | exact nb_dec _ | exact b_dec _ | (simp; done)) | exact nb_dec _ | exact b_dec _ | (simp; done) | (exfalso; omega))) (.nil))))) (.cons rfl (.nil))


theorem c36 (a : Sl ActM) (w : World) (ha : ok w a) (hn : a.el.length ≤ 1048576) : RetRow Tryz.prog 36 #[.slice a.addr a.el.length a.cap] w 54 (plcs a.el) := by
  intro tg
  have L0 := Sl.OK.le ha (by decide)
  refine calls_of (args := [.slice a.addr a.el.length a.cap]) Tryz.func36 rfl Tryz.ntmps36 rfl (H := [(100, .fz (fun w => ok w a))]) (Facts.sep (.cons (supp_ok ha) (.nil))) ?_
  refine r_seq ?_
  refine r_region ?_
  refine s1 rfl (q_assign rfl) ?_
  refine o_end ?_
  refine r_seq ?_
  refine r_region ?_
  refine s1 rfl (q_assign rfl) ?_
  refine o_end ?_
  refine r_seq ?_
  refine r_seq ?_
  refine r_region ?_
  refine s1 rfl (q_move rfl) ?_
  refine s1 rfl (q_len Tryz.underlying87 rfl) ?_
  refine s1 rfl (q_move rfl) ?_
  refine o_end ?_
  refine r_block ?_
  refine r_know (fun w hw => hw.nilRow 500 54 3) ?_
  refine r_loop ?_
  refine RunE.weaken ?_ ?_ (r_rounds3 (fun (i : Nat) (a1 : Option Addr) (c2 : Nat) => [(3, .slice a1 ((plcs (a.el.take i)).length) c2), (6, .slice a.addr a.el.length a.cap), (7, .int .i64 ((a.el.length : Nat) : Int)), (8, .int .i64 ((i : Nat) : Int))]) (fun (i : Nat) (a1 : Option Addr) (c2 : Nat) => [(100, .fz (fun w => ok w a)), (500, .row 54 3 a1 ((plcs (a.el.take i)).length) c2 (encs (plcs (a.el.take i))))]) (fun (i : Nat) (a1 : Option Addr) (c2 : Nat) => i ≤ a.el.length) (fun (i : Nat) (a1 : Option Addr) (c2 : Nat) => a.el.length - i) ?_ 0 none 0 ?_)
  · exact (.cons rfl (.cons rfl (.cons rfl (.cons rfl (.nil)))))
  · exact (.cons rfl (.cons rfl (.nil)))
  · intro i a1 c2 hI0 ih0
    have hpl : (plcs (a.el.take i)).length = i := by simp only [plcs, List.length_map, List.length_take]; omega
    refine r_seq ?_
    refine r_region ?_
    refine s1 rfl (q_lss rfl rfl) ?_
    refine o_end ?_
    refine r_seq ?_
    refine r_if rfl (fun hp1 => ?_) (fun hp1 => ?_)
    · refine r_skip ?_
      refine r_seq ?_
      refine r_block ?_
      refine r_seq ?_
      refine r_region ?_
      refine s1 rfl (q_indexAddr Tryz.underlying87 z104 rfl rfl rfl (by omega) (by omega) (fun w hw => Sl.OK.isSome (hw.get_fz (t := 100) rfl) (by decide) (i := i) (by omega))) ?_
      refine s1 rfl (q_loads (cs := enc (nth a.el i)) ag104 z104 rfl rfl (fun w hw => Sl.OK.cells (hw.get_fz (t := 100) rfl) (i := i) (by omega))) ?_
      refine sx rfl (e_alloc zz104) (fun g3 _ => ?_)
      refine sxn (e_store (tg := 5) (news := enc (nth a.el i)) rfl rfl rfl rfl z104 rfl rfl (.cons (.cons (.cons (.cons (.nil _)))))) (fun _ _ => ?_)
      refine o_end ?_
      refine r_region ?_
      refine s1 rfl (q_move rfl) ?_
      refine s1 rfl (q_fieldAddr of104_0 rfl rfl) ?_
      refine s1 rfl (q_loads (cs := enc ((nth a.el i).place)) ag54 z54 rfl rfl (fun w hw => hw.boxpart (tg := 5) (off := 0) rfl rfl)) ?_
      refine sx rfl (e_bslice (cs := encs ([(nth a.el i).place] : List PlcM)) Tryz.underlying50 zi54 (.cons rfl (.nil)) (by kernel_rfl) rfl rfl rfl) (fun g4 _ => ?_)
      refine sx rfl (e_appendL (tg := 500) (l := plcs (a.el.take i)) (l' := ([(nth a.el i).place] : List PlcM)) Tryz.underlying50 in54 rfl rfl rfl rfl rfl rfl rfl (fun w hw => Shows.row (hw.row (tg := 15) rfl)) (by simp only [List.length_cons, List.length_nil]; omega)) (fun ⟨a5, c6⟩ _ => ?_)
      refine s1 rfl (q_assign rfl) ?_
      refine o_end ?_
      refine r_inBlock ?_
      refine r_region ?_
      refine s1 rfl (q_add rfl rfl (by omega)) ?_
      refine s1 rfl (q_move rfl) ?_
      refine o_end ?_
      rw [show (plcs (a.el.take i)) ++ ([(nth a.el i).place] : List PlcM) = plcs (a.el.take (i + 1)) from (plcs_take (by omega))]
      refine r_inLoop ?_
      refine RunE.weaken ?_ ?_ (ih0 (i + 1) a5 c6 ?_ ?_)
      · exact (.cons rfl (.cons rfl (.cons rfl (.cons rfl (.nil)))))
      · exact (.cons rfl (.cons rfl (.nil)))
      · omega
      · omega
    · refine r_exit rfl ?_
      refine r_seq ?_
      refine r_region ?_
      refine s1 rfl (q_move rfl) ?_
      refine s1 rfl (q_assign rfl) ?_
      refine o_end ?_
      refine r_ret Tryz.func36 (res1 Tryz.results36 (res_tmp (s := 2) rfl)) (fun w hw => ?_)
      have hi : i = a.el.length := by omega
      subst hi
      have ht : a.el.take a.el.length = a.el := List.take_of_length_le (Nat.le_refl _)
      rw [ht] at hw ⊢
      exact ⟨(a1, c2), trivial, rfl, hw.one (t := 500) rfl nofzrow⟩
  · exact Nat.zero_le _

end Go.Proofs.YtecibcjckinngaaGreatDoor
/- What show, position, Stack, Show and Move compute. -/
set_option linter.unusedVariables false
namespace Go.Proofs.YtecibcjckinngaaGreatDoor
open Go Go.RowKit Enc
theorem act_ok {w : World} {l : Sl EvM} (hl : ok w l) {p : Int} (hp : p ≤ l.el.length) : ∀ x ∈ activeP l.el p, ok w x := by
  have he : ∀ j, j < l.el.length → ok w (nth l.el j) := fun j hj => Sl.OK.nthOK hl hj
  have hlen := Sl.OK.le hl (by decide)
  intro x hx
  unfold activeP at hx
  split at hx
  · simp at hx
  · refine act_all (l := l.el) (p := p) (fun x => ok w x) (fun j hj => ?_) (fun a j ha hj => ?_) ?_ (p + 1).toNat (by omega) x hx
    · have h := he j hj
      exact ⟨⟨EvM.OK.mod h, EvM.OK.fn h, EvM.OK.line h⟩, by show (-9223372036854775808 : Int) ≤ -1 ∧ (-1 : Int) ≤ 9223372036854775807; decide⟩
    · have h := he j hj
      exact ⟨⟨ha.place.mod, ha.place.fn, EvM.OK.line h⟩, by simp only [ok]; omega⟩
    · exact ⟨⟨by show (0 : Nat) ≤ _; omega, by show (0 : Nat) ≤ _; omega, by simp only [ok]; decide⟩, by simp only [ok]; decide⟩
theorem plc_ok {w : World} {l : Sl EvM} (hl : ok w l) {p : Int} (hp : p ≤ l.el.length) : ∀ x ∈ plcs (activeP l.el p), ok w x := by
  intro x hx
  unfold plcs at hx
  obtain ⟨a, ha, rfl⟩ := List.mem_map.1 hx
  exact (act_ok hl hp a ha).place
theorem activeP_len (l : List EvM) (p : Int) (hp : p ≤ l.length) : (activeP l p).length ≤ l.length := by
  unfold activeP
  split
  · simp
  · have := actS_le l p (p + 1).toNat; omega
theorem act_stop {l : List EvM} {p : Int} (hp : p ≤ l.length) : ∀ x ∈ activeP l p, x.stop < ((l.length : Nat) : Int) := by
  intro x hx
  unfold activeP at hx
  split at hx
  · simp at hx
  · refine act_all (l := l) (p := p) (fun x => x.stop < ((l.length : Nat) : Int)) (fun j hj => ?_) (fun a j ha hj => ?_) ?_ (p + 1).toNat (by omega) x hx
    · simp only [actOf]; omega
    · simp only; omega
    · have hd : (default : ActM).stop = 0 := rfl
      rw [hd]; omega
/-- The text of a variable at a position, and whether there is one. -/
def showP (l : List EvM) (p : Int) (n : ByteArray) : ByteArray × Bool :=
  if (((activeP l p).length : Nat) : Int) = (0 : Int) ∨ (nth (activeP l p) ((activeP l p).length - 1)).stop < 0 then (⟨#[]⟩, false) else varOf (nth l (nth (activeP l p) ((activeP l p).length - 1)).stop.toNat).locals.el n
theorem nb_F {b : Bool} (h : ¬ ¬ b = true) : ¬ (!b) = true := by simpa using h
theorem nb_T {b : Bool} (h : ¬ b = true) : (!b) = true := by simpa using h
def posFault (l : List EvM) (p : Int) : Flt := if (traceFault l).1 ≠ 0 then traceFault l else if p < -1 ∨ ((l.length : Nat) : Int) < p then (4, -2) else (0, 0)
theorem pos_a {l : List EvM} {p : Int} (h : (traceFault l).1 ≠ 0) : posFault l p = traceFault l := if_pos h
theorem pos_b {l : List EvM} {p : Int} (h : ¬ (traceFault l).1 ≠ 0) (h2 : p < -1 ∨ ((l.length : Nat) : Int) < p) : posFault l p = (4, -2) := by rw [posFault, if_neg h, if_pos h2]
theorem pos_c {l : List EvM} {p : Int} (h : ¬ (traceFault l).1 ≠ 0) (h2 : ¬ (p < -1 ∨ ((l.length : Nat) : Int) < p)) : posFault l p = (0, 0) := by rw [posFault, if_neg h, if_neg h2]
/-- Where a command leads. -/
def moveP (l : List EvM) (brk : List BrkM) (p : Int) (s : ByteArray) : Int := mvR l (stopQ (goodP brk (depthP l p) s)) (motSt s) (p + motSt s)
theorem c32m (l : Sl EvM) (b : Sl BrkM) (p : Int) (g gb : Nat) (s : ByteArray) (w : World) (hl : ok w l) (hb : ok w b) (hp : -1 ≤ p ∧ p ≤ l.el.length) (hs : motOk s = true) (hd : CellIs w g (.int .i64 (depthP l.el p))) (hgb : CellIs w gb b.val) :
    RetV Tryz.prog 32 #[l.val, .int .i64 p, .agg #[.int .i64 (motSt s), motFn g gb s]] w (.int .i64 (moveP l.el b.el p s)) := by
  obtain ⟨m, cap, hf, hen, hst, hg⟩ := mot_fn (g := g) (gb := gb) hs (depthP l.el p) b
  rw [hf]
  exact c32 l p (motSt s) m cap (goodP b.el (depthP l.el p) s) w hl hp hst hen (fun x hx w' hw' => hg w' (hd.keep hw'.block) (hgb.keep hw'.block) (supp_ok hb w' hw'.block) x ((show Sl.OK w' l from supp_ok hl w' hw'.block).el x hx))
theorem mot_one (g gb : Nat) (s : ByteArray) : (motFn g gb s).oneCell' = true := by
  unfold motFn
  repeat (split; rfl)
  rfl
theorem zu77 : (Tryz.prog.info? 77).map (fun i => i.zero) = some (some (.agg #[.int .i64 (0 : Int), .nilFunc])) := by kernel_rfl
theorem mot_look (g gb : Nat) (s : ByteArray) : Value.tuple #[((motFind g gb s).map (·.2)).getD (.agg #[.int .i64 (0 : Int), .nilFunc]), .bool (motFind g gb s).isSome] = .tuple #[.agg #[.int .i64 (motSt s), motFn g gb s], .bool (motOk s)] := by
  rw [mot_val, mot_some]
theorem nofz3 {a b c : Nat} {φ ψ χ : World → Prop} : ∀ t' ξ, Hp.get [(a, .fn φ), (b, .fn ψ), (c, .fn χ)] t' ≠ some (.fz ξ) := fun t' ξ h => by
  rcases Hp.get_cons h with ⟨_, h⟩ | ⟨_, h⟩
  · cases h
  rcases Hp.get_cons h with ⟨_, h⟩ | ⟨_, h⟩
  · cases h
  rcases Hp.get_cons h with ⟨_, h⟩ | ⟨_, h⟩
  · cases h
  · cases h
end Go.Proofs.YtecibcjckinngaaGreatDoor
