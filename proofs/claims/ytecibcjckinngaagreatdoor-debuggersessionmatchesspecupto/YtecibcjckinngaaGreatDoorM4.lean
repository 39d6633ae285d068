/- A part of the proof of the law DebuggerSessionMatchesSpec (second form): part 4. -/
import Derived.Test.YtecibcjckinngaaGreatDoorM3
import Derived.Lib.AtoiAllCases
import Derived.Lib.AtoiErrMem
set_option linter.unusedSimpArgs false
/- Walks over show, position, Stack, Show, Move. -/
set_option linter.unusedVariables false
namespace Go.Proofs.YtecibcjckinngaaGreatDoor
open Go Go.RowKit Enc
attribute [local irreducible] Effect OpsE RunE AnyE AnyAt Quiet Res1


theorem c41 (l : Sl EvM) (p : Int) (n : ByteArray) (w : World) (hl : ok w l) (hv : Valid l.el) (hp : -1 ≤ p ∧ p ≤ l.el.length) : RetV Tryz.prog 41 #[.slice l.addr l.el.length l.cap, .int .i64 p, .string n] w (.tuple #[.string (showP l.el p n).1, .bool (showP l.el p n).2]) := by
  have L0 := Sl.OK.le hl (by decide)
  have LA := activeP_len l.el p hp.2
  have LV := hv.len
  refine calls_of (args := [.slice l.addr l.el.length l.cap, .int .i64 p, .string n]) Tryz.func41 rfl Tryz.ntmps41 rfl (H := [(100, .fz (fun w => ok w l))]) (Facts.sep (.cons (supp_ok hl) (.nil))) ?_
  refine r_seq ?_
  refine r_region ?_
  refine s1 rfl (q_assign rfl) ?_
  refine s1 rfl (q_assign rfl) ?_
  refine o_end ?_
  refine r_seq ?_
  refine r_region ?_
  refine s1 rfl (q_move rfl) ?_
  refine s1 rfl (q_move rfl) ?_
  refine sx rfl (e_callx en37 (.cons rfl (.cons rfl (.nil))) ((fun w hw => c37 l p w (hw.get_fz (t := 100) rfl) hv (by omega) 11)) (fun _ => nofz (fun _ h => by cases h))) (fun ⟨a1, c2⟩ _ => ?_)
  refine s1 rfl (q_assign rfl) ?_
  refine o_end ?_
  refine r_seq ?_
  refine r_seq ?_
  refine r_cut [(0, .slice l.addr l.el.length l.cap), (2, .string n), (8, .slice a1 ((activeP l.el p).length) c2), (24, .bool (decide (((((activeP l.el p).length : Nat) : Int) = (0 : Int)) ∨ ((nth (activeP l.el p) (((activeP l.el p).length) - 1)).stop < (0 : Int)))))] [(100, .fz (fun w => ok w l)), (11, .row 104 4 a1 ((activeP l.el p).length) c2 (encs (activeP l.el p)))] ?_ (fun key => ?_)
  · refine r_if rfl (fun hp1 => ?_) (fun hp1 => ?_)
    · refine r_seq ?_
      refine r_region ?_
      refine s1 rfl (q_assign rfl) ?_
      refine s1 rfl (q_assign rfl) ?_
      refine o_end ?_
      refine r_ret Tryz.func41 (res2 Tryz.results41 (res_tmp (s := 6) rfl) (res_tmp (s := 7) rfl)) (fun w hw => ?_)
      exact ⟨ret_var (f := ((⟨#[]⟩ : ByteArray), false)) (g := showP l.el p n) (if_pos hp1).symm, hw.kp⟩
    · have hnn : ¬ (activeP l.el p).length = 0 := fun q => hp1 (Or.inl (by omega))
      have hst := act_stop (l := l.el) (p := p) hp.2 (nth (activeP l.el p) ((activeP l.el p).length - 1)) (nth_mem (by omega))
      have hs0 : ¬ (nth (activeP l.el p) ((activeP l.el p).length - 1)).stop < 0 := fun q => hp1 (Or.inr q)
      refine r_skip ?_
      refine r_seq ?_
      refine r_region ?_
      iterate 3 refine s1 rfl (q_move rfl) ?_
      refine s1 rfl (q_len Tryz.underlying87 rfl) ?_
      refine s1 rfl (Quiet.as (q_sub rfl rfl (by omega)) (congrArg (Value.int .i64) (by omega : _ = (((((activeP l.el p).length) - 1 : Nat) : Int))))) ?_
      refine s1 rfl (q_indexAddr Tryz.underlying87 z104 rfl rfl rfl (by omega) (by omega) (fun w hw => row_some (hw.row (tg := 11) rfl) (by omega))) ?_
      refine s1 rfl (q_fieldAddr of104_1 rfl rfl) ?_
      refine s1 rfl (q_load ag3 rfl (fun w hw => row_cellAt (l := activeP l.el p) (hw.row (tg := 11) rfl) (i := ((activeP l.el p).length) - 1) (j := 3) (by omega) rfl)) ?_
      refine s1 rfl (q_indexAddr Tryz.underlying22 z42 rfl rfl rfl (by omega) (by omega) (fun w hw => Sl.OK.isSome (hw.get_fz (t := 100) rfl) (by decide) (i := ((nth (activeP l.el p) (((activeP l.el p).length) - 1)).stop).toNat) (by omega))) ?_
      refine s1 rfl (q_loads (cs := enc (nth l.el (((nth (activeP l.el p) (((activeP l.el p).length) - 1)).stop).toNat))) ag42 z42 rfl rfl (fun w hw => Sl.OK.cells (hw.get_fz (t := 100) rfl) (i := ((nth (activeP l.el p) (((activeP l.el p).length) - 1)).stop).toNat) (by omega))) ?_
      refine s1 rfl (q_move rfl) ?_
      refine sx rfl (e_call en68 (.cons rfl (.cons rfl (.nil))) ((fun w hw => c68 (nth l.el (((nth (activeP l.el p) (((activeP l.el p).length) - 1)).stop).toNat)) n w (Sl.OK.nthOK (hw.get_fz (t := 100) rfl) (i := ((nth (activeP l.el p) (((activeP l.el p).length) - 1)).stop).toNat) (by omega))))) (fun _ _ => ?_)
      refine s1 rfl (q_extract rfl rfl) ?_
      refine s1 rfl (q_extract rfl rfl) ?_
      refine s1 rfl (q_assign rfl) ?_
      refine s1 rfl (q_assign rfl) ?_
      refine o_end ?_
      refine r_ret Tryz.func41 (res2 Tryz.results41 (res_tmp (s := 6) rfl) (res_tmp (s := 7) rfl)) (fun w hw => ?_)
      exact ⟨ret_var (f := varOf (nth l.el (nth (activeP l.el p) ((activeP l.el p).length - 1)).stop.toNat).locals.el n) (g := showP l.el p n) (if_neg hp1).symm, hw.kp⟩
  · refine r_region ?_
    refine s1 rfl (q_move rfl) ?_
    refine s1 rfl (q_len Tryz.underlying87 rfl) ?_
    refine s1 rfl (q_eql rfl rfl) ?_
    refine s1 rfl (q_move rfl) ?_
    refine g_split (s := 15) rfl (fun hp2 => ?_) (fun hp2 => ?_)
    · refine g_off rfl rfl rfl ?_
      iterate 7 refine g_off rfl rfl rfl ?_
      refine s1 rfl (q_pickt rfl rfl) ?_
      refine o_end ?_
      exact key.weaken (.cons rfl (.cons rfl (.cons rfl (.consE rfl (congrArg Value.bool (decide_eq_true (Or.inl hp2)).symm) (.nil))))) (.cons rfl (.cons rfl (.nil)))
    · refine g_on rfl rfl ?_
      refine s1 rfl (q_move rfl) ?_
      refine g_on rfl rfl ?_
      refine s1 rfl (q_move rfl) ?_
      refine g_on rfl rfl ?_
      refine s1 rfl (q_len Tryz.underlying87 rfl) ?_
      refine g_on rfl rfl ?_
      refine s1 rfl (Quiet.as (q_sub rfl rfl (by omega)) (congrArg (Value.int .i64) (by omega : _ = (((((activeP l.el p).length) - 1 : Nat) : Int))))) ?_
      refine g_on rfl rfl ?_
      refine s1 rfl (q_indexAddr Tryz.underlying87 z104 rfl rfl rfl (by omega) (by omega) (fun w hw => row_some (hw.row (tg := 11) rfl) (by omega))) ?_
      refine g_on rfl rfl ?_
      refine s1 rfl (q_fieldAddr of104_1 rfl rfl) ?_
      refine g_on rfl rfl ?_
      refine s1 rfl (q_load ag3 rfl (fun w hw => row_cellAt (l := activeP l.el p) (hw.row (tg := 11) rfl) (i := ((activeP l.el p).length) - 1) (j := 3) (by omega) rfl)) ?_
      refine g_on rfl rfl ?_
      refine s1 rfl (q_lss rfl rfl) ?_
      refine s1 rfl (q_pickf rfl rfl) ?_
      refine o_end ?_
      exact key.weaken (.cons rfl (.cons rfl (.cons rfl (.consE rfl (congrArg Value.bool (by first | (simp only [hp2, ne_eq, not_true_eq_false, not_false_eq_true, true_or, or_true, false_or, or_false, true_and, and_true, false_and, and_false, Bool.decide_eq_true] <;> first | exact nb_dec _ | exact b_dec _ | (simp; done)) | exact nb_dec _ | exact b_dec _ | (simp; done) | (exfalso; omega))) (.nil))))) (.cons rfl (.cons rfl (.nil)))


theorem c45 (l : Sl EvM) (p : Int) (w : World) (hl : ok w l) (hT : Tabs w) (hs : ∀ e ∈ l.el, e.mod.size ≤ 1048576 ∧ e.fn.size ≤ 1048576) : RetV Tryz.prog 45 #[.slice l.addr l.el.length l.cap, .int .i64 p] w (fv (posFault l.el p)) := by
  have L0 := Sl.OK.le hl (by decide)
  refine calls_of (args := [.slice l.addr l.el.length l.cap, .int .i64 p]) Tryz.func45 rfl Tryz.ntmps45 rfl (H := [(100, .fz (fun w => ok w l)), (199, .fz (fun w => Tabs w))]) (Facts.sep (.cons (supp_ok hl) (.cons (supp_tabs hT) (.nil)))) ?_
  refine r_seq ?_
  refine r_region ?_
  refine sx rfl (e_alloc zz25) (fun g1 _ => ?_)
  refine o_end ?_
  refine r_seq ?_
  refine r_seq ?_
  refine r_region ?_
  refine s1 rfl (q_move rfl) ?_
  refine sx rfl (e_call en10 (.cons rfl (.nil)) ((fun w hw => c10 l w (hw.get_fz (t := 100) rfl) (hw.get_fz (t := 199) rfl) (by assumption)))) (fun _ _ => ?_)
  refine sx rfl (e_alloc zz25) (fun g2 _ => ?_)
  refine sxn (e_store (tg := 5) (news := [.int .i64 ((traceFault l.el).1), .int .i64 ((traceFault l.el).2)]) rfl rfl rfl rfl z25 rfl rfl (.cons (.cons (.nil _)))) (fun _ _ => ?_)
  refine o_end ?_
  refine r_seq ?_
  refine r_region ?_
  refine s1 rfl (q_fieldAddr of25_0 rfl rfl) ?_
  refine s1 rfl (q_load ag3 rfl (fun w hw => hw.box (tg := 5) rfl rfl)) ?_
  refine s1 rfl (q_neq rfl rfl) ?_
  refine o_end ?_
  refine r_if rfl (fun hp1 => ?_) (fun hp1 => ?_)
  · refine r_seq ?_
    refine r_region ?_
    refine s1 rfl (q_loads (cs := [.int .i64 ((traceFault l.el).1), .int .i64 ((traceFault l.el).2)]) ag25 z25 rfl rfl (fun w hw => hw.boxes (tg := 5) rfl)) ?_
    refine sxn (e_store (tg := 4) (news := [.int .i64 ((traceFault l.el).1), .int .i64 ((traceFault l.el).2)]) rfl rfl rfl rfl z25 rfl rfl (.cons (.cons (.nil _)))) (fun _ _ => ?_)
    refine o_end ?_
    refine r_ret Tryz.func45 (res1 Tryz.results45 (res_cell (cs := [.int .i64 ((traceFault l.el).1), .int .i64 ((traceFault l.el).2)]) ag25 z25 rfl (s := 4) (tg := 4) rfl rfl)) (fun w hw => ?_)
    exact ⟨ret_flt (pos_a hp1).symm, hw.kp⟩
  · refine r_skip ?_
    refine r_seq ?_
    refine r_seq ?_
    refine r_cut [(4, .pointer (some ⟨g1, 0, none⟩)), (19, .bool (decide ((p < (-1 : Int)) ∨ (((l.el.length : Nat) : Int) < p))))] [(100, .fz (fun w => ok w l)), (199, .fz (fun w => Tabs w)), (4, .box g1 [.int .i64 (0 : Int), .int .i64 (0 : Int)] 25), (5, .box g2 [.int .i64 ((traceFault l.el).1), .int .i64 ((traceFault l.el).2)] 25)] ?_ (fun key => ?_)
    · refine r_if rfl (fun hp2 => ?_) (fun hp2 => ?_)
      · refine r_seq ?_
        refine r_region ?_
        refine s1 rfl (q_build (cs := [.int .i64 (4 : Int), .int .i64 (-2 : Int)]) (.cons rfl (.cons rfl (.nil))) (by kernel_rfl)) ?_
        refine sxn (e_store (tg := 4) (news := [.int .i64 (4 : Int), .int .i64 (-2 : Int)]) rfl rfl rfl rfl z25 rfl rfl (.cons (.cons (.nil _)))) (fun _ _ => ?_)
        refine o_end ?_
        refine r_ret Tryz.func45 (res1 Tryz.results45 (res_cell (cs := [.int .i64 (4 : Int), .int .i64 (-2 : Int)]) ag25 z25 rfl (s := 4) (tg := 4) rfl rfl)) (fun w hw => ?_)
        exact ⟨ret_flt (pos_b hp1 hp2).symm, hw.kp⟩
      · refine r_skip ?_
        refine r_seq ?_
        refine r_region ?_
        refine s1 rfl (q_build (cs := [.int .i64 (0 : Int), .int .i64 (0 : Int)]) (.nil) (by kernel_rfl)) ?_
        refine sxn (e_store (tg := 4) (news := [.int .i64 (0 : Int), .int .i64 (0 : Int)]) rfl rfl rfl rfl z25 rfl rfl (.cons (.cons (.nil _)))) (fun _ _ => ?_)
        refine o_end ?_
        refine r_ret Tryz.func45 (res1 Tryz.results45 (res_cell (cs := [.int .i64 (0 : Int), .int .i64 (0 : Int)]) ag25 z25 rfl (s := 4) (tg := 4) rfl rfl)) (fun w hw => ?_)
        exact ⟨ret_flt (pos_c hp1 hp2).symm, hw.kp⟩
    · refine r_region ?_
      refine s1 rfl (q_move rfl) ?_
      refine s1 rfl (q_lss rfl rfl) ?_
      refine s1 rfl (q_move rfl) ?_
      refine g_split (s := 14) rfl (fun hp3 => ?_) (fun hp3 => ?_)
      · refine g_off rfl rfl rfl ?_
        iterate 3 refine g_off rfl rfl rfl ?_
        refine s1 rfl (q_pickt rfl rfl) ?_
        refine o_end ?_
        exact key.weaken (.cons rfl (.consE rfl (congrArg Value.bool (decide_eq_true (Or.inl hp3)).symm) (.nil))) (.cons rfl (.cons rfl (.cons rfl (.cons rfl (.nil)))))
      · refine g_on rfl rfl ?_
        refine s1 rfl (q_move rfl) ?_
        refine g_on rfl rfl ?_
        refine s1 rfl (q_move rfl) ?_
        refine g_on rfl rfl ?_
        refine s1 rfl (q_len Tryz.underlying22 rfl) ?_
        refine g_on rfl rfl ?_
        refine s1 rfl (q_gtr rfl rfl) ?_
        refine s1 rfl (q_pickf rfl rfl) ?_
        refine o_end ?_
        exact key.weaken (.cons rfl (.consE rfl (congrArg Value.bool (by first | (simp only [hp3, ne_eq, not_true_eq_false, not_false_eq_true, true_or, or_true, false_or, or_false, true_and, and_true, false_and, and_false, Bool.decide_eq_true] <;> first | exact nb_dec _ | exact b_dec _ | (simp; done)) | exact nb_dec _ | exact b_dec _ | (simp; done) | (exfalso; omega))) (.nil))) (.cons rfl (.cons rfl (.cons rfl (.cons rfl (.nil)))))


theorem c18 (l : Sl EvM) (p : Int) (w : World) (hl : ok w l) (hv : Valid l.el) (hp : -1 ≤ p ∧ p ≤ l.el.length) (hT : Tabs w) (hs : ∀ e ∈ l.el, e.mod.size ≤ 1048576 ∧ e.fn.size ≤ 1048576) (hq : (posFault l.el p).1 = 0) : RetRowF Tryz.prog 18 #[.slice l.addr l.el.length l.cap, .int .i64 p] w 54 (plcs (activeP l.el p), ((0 : Int), (0 : Int))) := by
  intro tg
  have L0 := Sl.OK.le hl (by decide)
  have LA := activeP_len l.el p hp.2
  have LV := hv.len
  refine calls_of (args := [.slice l.addr l.el.length l.cap, .int .i64 p]) Tryz.func18 rfl Tryz.ntmps18 rfl (H := [(100, .fz (fun w => ok w l)), (199, .fz (fun w => Tabs w))]) (Facts.sep (.cons (supp_ok hl) (.cons (supp_tabs hT) (.nil)))) ?_
  refine r_seq ?_
  refine r_region ?_
  refine s1 rfl (q_assign rfl) ?_
  refine sx rfl (e_alloc zz25) (fun g1 _ => ?_)
  refine o_end ?_
  refine r_seq ?_
  refine r_seq ?_
  refine r_region ?_
  refine s1 rfl (q_move rfl) ?_
  refine s1 rfl (q_move rfl) ?_
  refine sx rfl (e_call en45 (.cons rfl (.cons rfl (.nil))) ((fun w hw => c45 l p w (hw.get_fz (t := 100) rfl) (hw.get_fz (t := 199) rfl) (by assumption)))) (fun _ _ => ?_)
  refine sx rfl (e_alloc zz25) (fun g2 _ => ?_)
  refine sxn (e_store (tg := 6) (news := [.int .i64 ((posFault l.el p).1), .int .i64 ((posFault l.el p).2)]) rfl rfl rfl rfl z25 rfl rfl (.cons (.cons (.nil _)))) (fun _ _ => ?_)
  refine o_end ?_
  refine r_seq ?_
  refine r_region ?_
  refine s1 rfl (q_fieldAddr of25_0 rfl rfl) ?_
  refine s1 rfl (q_load ag3 rfl (fun w hw => hw.box (tg := 6) rfl rfl)) ?_
  refine s1 rfl (q_neq rfl rfl) ?_
  refine o_end ?_
  refine r_ifF rfl ((fun h => h hq)) ?_
  refine r_skip ?_
  refine r_seq ?_
  refine r_region ?_
  refine s1 rfl (q_move rfl) ?_
  refine s1 rfl (q_move rfl) ?_
  refine sx rfl (e_callx en37 (.cons rfl (.cons rfl (.nil))) ((fun w hw => c37 l p w (hw.get_fz (t := 100) rfl) hv (by omega) 16)) (fun _ => nofz (fun _ h => by cases h))) (fun ⟨a3, c4⟩ _ => ?_)
  refine sx rfl (e_callx en36 (.cons rfl (.nil)) ((fun w hw => c36 (⟨a3, c4, activeP l.el p⟩ : Sl ActM) w (ok_row (hw.row (tg := 16) rfl) (by simp only [by_]; omega) (act_ok (hw.get_fz (t := 100) rfl) (by omega))) (by dsimp only; omega) 17)) (fun _ => nofz (fun _ h => by cases h))) (fun ⟨a5, c6⟩ _ => ?_)
  refine s1 rfl (q_build (cs := [.int .i64 (0 : Int), .int .i64 (0 : Int)]) (.nil) (by kernel_rfl)) ?_
  refine s1 rfl (q_assign rfl) ?_
  refine sxn (e_store (tg := 5) (news := [.int .i64 (0 : Int), .int .i64 (0 : Int)]) rfl rfl rfl rfl z25 rfl rfl (.cons (.cons (.nil _)))) (fun _ _ => ?_)
  refine o_end ?_
  refine r_ret Tryz.func18 (res2 Tryz.results18 (res_tmp (s := 4) rfl) (res_cell (cs := [.int .i64 (0 : Int), .int .i64 (0 : Int)]) ag25 z25 rfl (s := 5) (tg := 5) rfl rfl)) (fun w hw => ?_)
  exact ⟨(a5, c6), trivial, rfl, hw.one (t := 17) rfl nofzrow⟩


theorem c17 (l : Sl EvM) (p : Int) (n : ByteArray) (w : World) (hl : ok w l) (hv : Valid l.el) (hp : -1 ≤ p ∧ p ≤ l.el.length) (hT : Tabs w) (hs : ∀ e ∈ l.el, e.mod.size ≤ 1048576 ∧ e.fn.size ≤ 1048576) (hq : (posFault l.el p).1 = 0) (hn : isNameB n = true) (hns : n.size ≤ 1048576) : RetV Tryz.prog 17 #[.slice l.addr l.el.length l.cap, .int .i64 p, .string n] w (.tuple #[.string (showP l.el p n).1, .bool (showP l.el p n).2, fv (0, 0)]) := by
  have L0 := Sl.OK.le hl (by decide)
  have LA := activeP_len l.el p hp.2
  have LV := hv.len
  refine calls_of (args := [.slice l.addr l.el.length l.cap, .int .i64 p, .string n]) Tryz.func17 rfl Tryz.ntmps17 rfl (H := [(100, .fz (fun w => ok w l)), (199, .fz (fun w => Tabs w))]) (Facts.sep (.cons (supp_ok hl) (.cons (supp_tabs hT) (.nil)))) ?_
  refine r_seq ?_
  refine r_region ?_
  refine s1 rfl (q_assign rfl) ?_
  refine s1 rfl (q_assign rfl) ?_
  refine sx rfl (e_alloc zz25) (fun g1 _ => ?_)
  refine o_end ?_
  refine r_seq ?_
  refine r_seq ?_
  refine r_region ?_
  refine s1 rfl (q_move rfl) ?_
  refine s1 rfl (q_move rfl) ?_
  refine sx rfl (e_call en45 (.cons rfl (.cons rfl (.nil))) ((fun w hw => c45 l p w (hw.get_fz (t := 100) rfl) (hw.get_fz (t := 199) rfl) (by assumption)))) (fun _ _ => ?_)
  refine sx rfl (e_alloc zz25) (fun g2 _ => ?_)
  refine sxn (e_store (tg := 9) (news := [.int .i64 ((posFault l.el p).1), .int .i64 ((posFault l.el p).2)]) rfl rfl rfl rfl z25 rfl rfl (.cons (.cons (.nil _)))) (fun _ _ => ?_)
  refine o_end ?_
  refine r_seq ?_
  refine r_region ?_
  refine s1 rfl (q_fieldAddr of25_0 rfl rfl) ?_
  refine s1 rfl (q_load ag3 rfl (fun w hw => hw.box (tg := 9) rfl rfl)) ?_
  refine s1 rfl (q_neq rfl rfl) ?_
  refine o_end ?_
  refine r_ifF rfl ((fun h => h hq)) ?_
  refine r_skip ?_
  refine r_seq ?_
  refine r_seq ?_
  refine r_region ?_
  refine s1 rfl (q_move rfl) ?_
  refine sx rfl (e_call en42 (.cons rfl (.nil)) ((fun w hw => c42 n w (by omega)))) (fun _ _ => ?_)
  refine s1 rfl (q_notb rfl) ?_
  refine o_end ?_
  refine r_ifbF rfl ((nb_F (fun h => h hn))) ?_
  refine r_skip ?_
  refine r_seq ?_
  refine r_region ?_
  iterate 3 refine s1 rfl (q_move rfl) ?_
  refine sx rfl (e_call en41 (.cons rfl (.cons rfl (.cons rfl (.nil)))) ((fun w hw => c41 l p n w (hw.get_fz (t := 100) rfl) hv (by omega)))) (fun _ _ => ?_)
  refine s1 rfl (q_move rfl) ?_
  refine s1 rfl (q_extract rfl rfl) ?_
  refine s1 rfl (q_extract rfl rfl) ?_
  refine s1 rfl (q_assign rfl) ?_
  refine s1 rfl (q_assign rfl) ?_
  refine o_end ?_
  refine r_seq ?_
  refine r_region ?_
  refine s1 rfl (q_move rfl) ?_
  refine s1 rfl (q_move rfl) ?_
  refine s1 rfl (q_build (cs := [.int .i64 (0 : Int), .int .i64 (0 : Int)]) (.nil) (by kernel_rfl)) ?_
  refine s1 rfl (q_assign rfl) ?_
  refine s1 rfl (q_assign rfl) ?_
  refine sxn (e_store (tg := 8) (news := [.int .i64 (0 : Int), .int .i64 (0 : Int)]) rfl rfl rfl rfl z25 rfl rfl (.cons (.cons (.nil _)))) (fun _ _ => ?_)
  refine o_end ?_
  refine r_ret Tryz.func17 (res3 Tryz.results17 (res_tmp (s := 6) rfl) (res_tmp (s := 7) rfl) (res_cell (cs := [.int .i64 (0 : Int), .int .i64 (0 : Int)]) ag25 z25 rfl (s := 8) (tg := 8) rfl rfl)) (fun w hw => ?_)
  exact ⟨rfl, hw.kp⟩


theorem c15 (l : Sl EvM) (b : Sl BrkM) (p : Int) (c : ByteArray) (w : World) (hl : ok w l) (hv : Valid l.el) (hp : -1 ≤ p ∧ p ≤ l.el.length) (hb : ok w b) (hT : Tabs w) (hs : ∀ e ∈ l.el, e.mod.size ≤ 1048576 ∧ e.fn.size ≤ 1048576) (hbs : ∀ q ∈ b.el, q.mod.size ≤ 1048576) (hq : (posFault l.el p).1 = 0) (hq0 : (traceFault l.el).1 = 0) (hb0 : (breaksFault b.el).1 = 0) (hc : motOk c = true) : RetV Tryz.prog 15 #[.slice l.addr l.el.length l.cap, .slice b.addr b.el.length b.cap, .int .i64 p, .string c] w (.tuple #[.int .i64 (moveP l.el b.el p c), fv (0, 0)]) := by
  have L0 := Sl.OK.le hl (by decide)
  have LA := activeP_len l.el p hp.2
  have LV := hv.len
  refine calls_of (args := [.slice l.addr l.el.length l.cap, .slice b.addr b.el.length b.cap, .int .i64 p, .string c]) Tryz.func15 rfl Tryz.ntmps15 rfl (H := [(100, .fz (fun w => ok w l)), (101, .fz (fun w => ok w b)), (199, .fz (fun w => Tabs w))]) (Facts.sep (.cons (supp_ok hl) (.cons (supp_ok hb) (.cons (supp_tabs hT) (.nil))))) ?_
  refine r_seq ?_
  refine r_region ?_
  refine s1 rfl (q_assign rfl) ?_
  refine sx rfl (e_alloc zz25) (fun g1 _ => ?_)
  refine o_end ?_
  refine r_seq ?_
  refine r_seq ?_
  refine r_region ?_
  refine s1 rfl (q_move rfl) ?_
  refine sx rfl (e_call en10 (.cons rfl (.nil)) ((fun w hw => c10 l w (hw.get_fz (t := 100) rfl) (hw.get_fz (t := 199) rfl) (by assumption)))) (fun _ _ => ?_)
  refine sx rfl (e_alloc zz25) (fun g2 _ => ?_)
  refine sxn (e_store (tg := 10) (news := [.int .i64 ((traceFault l.el).1), .int .i64 ((traceFault l.el).2)]) rfl rfl rfl rfl z25 rfl rfl (.cons (.cons (.nil _)))) (fun _ _ => ?_)
  refine o_end ?_
  refine r_seq ?_
  refine r_region ?_
  refine s1 rfl (q_fieldAddr of25_0 rfl rfl) ?_
  refine s1 rfl (q_load ag3 rfl (fun w hw => hw.box (tg := 10) rfl rfl)) ?_
  refine s1 rfl (q_neq rfl rfl) ?_
  refine o_end ?_
  refine r_ifF rfl ((fun h => h hq0)) ?_
  refine r_skip ?_
  refine r_seq ?_
  refine r_seq ?_
  refine r_region ?_
  refine s1 rfl (q_move rfl) ?_
  refine sx rfl (e_call en44 (.cons rfl (.nil)) ((fun w hw => c44 b w (hw.get_fz (t := 101) rfl) (hw.get_fz (t := 199) rfl) (by assumption)))) (fun _ _ => ?_)
  refine sx rfl (e_alloc zz25) (fun g3 _ => ?_)
  refine sxn (e_store (tg := 11) (news := [.int .i64 ((breaksFault b.el).1), .int .i64 ((breaksFault b.el).2)]) rfl rfl rfl rfl z25 rfl rfl (.cons (.cons (.nil _)))) (fun _ _ => ?_)
  refine o_end ?_
  refine r_seq ?_
  refine r_region ?_
  refine s1 rfl (q_fieldAddr of25_0 rfl rfl) ?_
  refine s1 rfl (q_load ag3 rfl (fun w hw => hw.box (tg := 11) rfl rfl)) ?_
  refine s1 rfl (q_neq rfl rfl) ?_
  refine o_end ?_
  refine r_ifF rfl ((fun h => h hb0)) ?_
  refine r_skip ?_
  refine r_seq ?_
  refine r_seq ?_
  refine r_region ?_
  refine s1 rfl (q_move rfl) ?_
  refine s1 rfl (q_move rfl) ?_
  refine sx rfl (e_call en45 (.cons rfl (.cons rfl (.nil))) ((fun w hw => c45 l p w (hw.get_fz (t := 100) rfl) (hw.get_fz (t := 199) rfl) (by assumption)))) (fun _ _ => ?_)
  refine sx rfl (e_alloc zz25) (fun g4 _ => ?_)
  refine sxn (e_store (tg := 12) (news := [.int .i64 ((posFault l.el p).1), .int .i64 ((posFault l.el p).2)]) rfl rfl rfl rfl z25 rfl rfl (.cons (.cons (.nil _)))) (fun _ _ => ?_)
  refine o_end ?_
  refine r_seq ?_
  refine r_region ?_
  refine s1 rfl (q_fieldAddr of25_0 rfl rfl) ?_
  refine s1 rfl (q_load ag3 rfl (fun w hw => hw.box (tg := 12) rfl rfl)) ?_
  refine s1 rfl (q_neq rfl rfl) ?_
  refine o_end ?_
  refine r_ifF rfl ((fun h => h hq)) ?_
  refine r_skip ?_
  refine r_seq ?_
  refine r_region ?_
  iterate 3 refine s1 rfl (q_move rfl) ?_
  refine sx rfl (e_callx en31 (.cons rfl (.cons rfl (.cons rfl (.nil)))) (fun w hw => c31 l b p w (hw.get_fz (t := 100) rfl) (by omega) 43 1043 2043) (fun _ => nofz3)) (fun ⟨g5, g6, g7⟩ _ => ?_)
  refine s1 rfl (q_move rfl) ?_
  refine s1 rfl (Quiet.as (q_lookup (es := motEs g6 g7) (n := 7) Tryz.underlying79 Tryz.underlying9 zu77 rfl rfl (fun w hw => hw.get_fn (t := 43) rfl) (mot_find g6 g7 c)) (mot_look g6 g7 c)) ?_
  refine s1 rfl (q_move rfl) ?_
  refine s1 rfl (q_extract rfl rfl) ?_
  refine s1 rfl (q_extract rfl rfl) ?_
  refine sx rfl (e_alloc zz77) (fun g8 _ => ?_)
  refine sxn (e_store (tg := 13) (news := [.int .i64 (motSt c), motFn g6 g7 c]) rfl rfl rfl rfl z77 rfl (by simp [mot_one]; rfl) (.cons (.cons (.nil _)))) (fun _ _ => ?_)
  refine s1 rfl (q_assign rfl) ?_
  refine o_end ?_
  refine r_seq ?_
  refine r_seq ?_
  refine r_region ?_
  refine s1 rfl (q_move rfl) ?_
  refine s1 rfl (q_notb rfl) ?_
  refine o_end ?_
  refine r_ifbF rfl ((nb_F (fun h => h hc))) ?_
  refine r_skip ?_
  refine r_seq ?_
  refine r_region ?_
  refine s1 rfl (q_move rfl) ?_
  refine s1 rfl (q_move rfl) ?_
  refine s1 rfl (q_loads (cs := [.int .i64 (motSt c), motFn g6 g7 c]) ag77 z77 rfl rfl (fun w hw => hw.boxes (tg := 13) rfl)) ?_
  refine sx rfl (e_call en32 (.cons rfl (.cons rfl (.cons rfl (.nil)))) ((fun w hw => c32m l b p g6 g7 c w (hw.get_fz (t := 100) rfl) (hw.get_fz (t := 101) rfl) (by omega) hc (hw.get_fn (t := 1043) rfl) (hw.get_fn (t := 2043) rfl)))) (fun _ _ => ?_)
  refine s1 rfl (q_build (cs := [.int .i64 (0 : Int), .int .i64 (0 : Int)]) (.nil) (by kernel_rfl)) ?_
  refine s1 rfl (q_assign rfl) ?_
  refine sxn (e_store (tg := 9) (news := [.int .i64 (0 : Int), .int .i64 (0 : Int)]) rfl rfl rfl rfl z25 rfl rfl (.cons (.cons (.nil _)))) (fun _ _ => ?_)
  refine o_end ?_
  refine r_ret Tryz.func15 (res2 Tryz.results15 (res_tmp (s := 8) rfl) (res_cell (cs := [.int .i64 (0 : Int), .int .i64 (0 : Int)]) ag25 z25 rfl (s := 9) (tg := 9) rfl rfl)) (fun w hw => ?_)
  exact ⟨rfl, hw.kp⟩

end Go.Proofs.YtecibcjckinngaaGreatDoor
/- What the reference's functions on stacks, lines, places and moves compute. -/
set_option linter.unusedVariables false
namespace Go.Proofs.YtecibcjckinngaaGreatDoor
open Go Go.RowKit Enc
def stkN (l : List EvM) : Nat → List Int
  | 0 => []
  | i + 1 => if (nth l i).kind = (2 : Int) then (([] : List Int) ++ stkN l i) ++ [((i : Nat) : Int)] else if (¬ ((nth l i).kind = (1 : Int))) ∧ ((0 : Int) < (((stkN l i).length : Nat) : Int)) then (stkN l i).take ((stkN l i).length - 1) else stkN l i
theorem stk_a {l : List EvM} {i : Nat} (h : (nth l i).kind = (2 : Int)) : (([] : List Int) ++ stkN l i) ++ [((i : Nat) : Int)] = stkN l (i + 1) := by rw [stkN, if_pos h]
theorem stk_b {l : List EvM} {i : Nat} (h : ¬ (nth l i).kind = (2 : Int)) (h2 : (¬ ((nth l i).kind = (1 : Int))) ∧ ((0 : Int) < (((stkN l i).length : Nat) : Int))) : (stkN l i).take ((stkN l i).length - 1) = stkN l (i + 1) := by rw [stkN, if_neg h, if_pos h2]
theorem stk_c {l : List EvM} {i : Nat} (h : ¬ (nth l i).kind = (2 : Int)) (h2 : ¬ ((¬ ((nth l i).kind = (1 : Int))) ∧ ((0 : Int) < (((stkN l i).length : Nat) : Int)))) : stkN l i = stkN l (i + 1) := by rw [stkN, if_neg h, if_neg h2]
theorem stk_len (l : List EvM) : ∀ i, (stkN l i).length ≤ i
  | 0 => Nat.le_refl _
  | i + 1 => by
    have ih := stk_len l i
    rw [stkN]
    split
    · simp; omega
    · split
      · simp; omega
      · omega
theorem stk_lt (l : List EvM) : ∀ i, ∀ x ∈ stkN l i, 0 ≤ x ∧ x < ((i : Nat) : Int)
  | 0, x, h => by simp [stkN] at h
  | i + 1, x, h => by
    have ih := stk_lt l i
    rw [stkN] at h
    split at h
    · rw [List.nil_append] at h
      rcases List.mem_append.1 h with h | h
      · have := ih x h; omega
      · simp at h; omega
    · split at h
      · have := ih x (List.mem_of_mem_take h); omega
      · have := ih x h; omega
def lineN (l : List EvM) (f : Nat) : Nat → Int
  | 0 => (nth l f).line
  | i + 1 => if f + 1 ≤ i ∧ (((nth l i).kind = (1 : Int)) ∧ ((nth l i).depth = (nth l f).depth)) then (nth l i).line else lineN l f i
theorem line_start (l : List EvM) (f : Nat) : ∀ i, i ≤ f + 1 → lineN l f i = (nth l f).line
  | 0, _ => rfl
  | i + 1, h => by rw [lineN, if_neg (by omega), line_start l f i (by omega)]
theorem line_y {l : List EvM} {f i : Nat} (hf : f + 1 ≤ i) (h : ((nth l i).kind = (1 : Int)) ∧ ((nth l i).depth = (nth l f).depth)) : (nth l i).line = lineN l f (i + 1) := by rw [lineN, if_pos ⟨hf, h⟩]
theorem line_n {l : List EvM} {f i : Nat} (h : ¬ (((nth l i).kind = (1 : Int)) ∧ ((nth l i).depth = (nth l f).depth))) : lineN l f i = lineN l f (i + 1) := by rw [lineN, if_neg (fun q => h q.2)]
/-- The numbers of the events whose functions are active at a position. -/
def actR (l : List EvM) (p : Int) : List Int := if (nth l p.toNat).kind = (2 : Int) then (([] : List Int) ++ stkN l p.toNat) ++ [p] else stkN l p.toNat
theorem actR_lt {l : List EvM} {p : Int} (h0 : 0 ≤ p) : ∀ x ∈ actR l p, 0 ≤ x ∧ x ≤ p := by
  intro x hx
  unfold actR at hx
  split at hx
  · rw [List.nil_append] at hx
    rcases List.mem_append.1 hx with h | h
    · have := stk_lt l _ x h; omega
    · simp at h; omega
  · have := stk_lt l _ x hx; omega
theorem actR_len (l : List EvM) (p : Int) : (actR l p).length ≤ p.toNat + 1 := by
  have := stk_len l p.toNat
  unfold actR
  split
  · simp; omega
  · omega
def plcR (l : List EvM) (p : Int) (k : Int) : PlcM := ⟨(nth l k.toNat).mod, (nth l k.toNat).fn, lineN l k.toNat (p + 1).toNat⟩
/-- The places that are active at a position, as the reference has them. -/
def placesR (l : List EvM) (p : Int) : List PlcM := if 0 ≤ p ∧ p ≤ ((l.length : Nat) : Int) - 1 then (actR l p).map (plcR l p) else []
theorem map_take {α β : Type} [Inhabited α] {f : α → β} {a : List α} {i : Nat} (h : i < a.length) : (a.take i).map f ++ [f (nth a i)] = (a.take (i + 1)).map f := by
  rw [take_succ_nth h]; simp
end Go.Proofs.YtecibcjckinngaaGreatDoor
/- Walks over the reference's stacks, lines, places, shown texts. -/
set_option linter.unusedVariables false
namespace Go.Proofs.YtecibcjckinngaaGreatDoor
open Go Go.RowKit Enc
attribute [local irreducible] Effect OpsE RunE AnyE AnyAt Quiet Res1


theorem c48 (l : Sl EvM) (n : Int) (w : World) (hl : ok w l) (hv : l.el.length ≤ 20000) (hn : 0 ≤ n ∧ n ≤ l.el.length) : RetRow Tryz.prog 48 #[.slice l.addr l.el.length l.cap, .int .i64 n] w 3 (stkN l.el n.toNat) := by
  intro tg
  have L0 := Sl.OK.le hl (by decide)
  refine calls_of (args := [.slice l.addr l.el.length l.cap, .int .i64 n]) Tryz.func48 rfl Tryz.ntmps48 rfl (H := [(100, .fz (fun w => ok w l))]) (Facts.sep (.cons (supp_ok hl) (.nil))) ?_
  refine r_seq ?_
  refine r_region ?_
  refine s1 rfl (q_assign rfl) ?_
  refine o_end ?_
  refine r_seq ?_
  refine r_region ?_
  refine s1 rfl (q_assign rfl) ?_
  refine o_end ?_
  refine r_seq ?_
  refine r_seq ?_
  refine r_region ?_
  refine s1 rfl (q_assign rfl) ?_
  refine o_end ?_
  refine r_block ?_
  refine r_know (fun w hw => hw.nilRow 500 3 1) ?_
  refine r_loop ?_
  refine RunE.weaken ?_ ?_ (r_rounds3 (fun (i : Nat) (a1 : Option Addr) (c2 : Nat) => [(0, .slice l.addr l.el.length l.cap), (1, .int .i64 n), (5, .slice a1 ((stkN l.el i).length) c2), (6, .int .i64 ((i : Nat) : Int))]) (fun (i : Nat) (a1 : Option Addr) (c2 : Nat) => [(100, .fz (fun w => ok w l)), (500, .row 3 1 a1 ((stkN l.el i).length) c2 (encs (stkN l.el i)))]) (fun (i : Nat) (a1 : Option Addr) (c2 : Nat) => i ≤ n.toNat) (fun (i : Nat) (a1 : Option Addr) (c2 : Nat) => n.toNat - i) ?_ 0 none 0 ?_)
  · exact (.cons rfl (.cons rfl (.cons rfl (.cons rfl (.nil)))))
  · exact (.cons rfl (.cons rfl (.nil)))
  · intro i a1 c2 hI0 ih0
    have hS := stk_len l.el i
    refine r_seq ?_
    refine r_seq ?_
    refine r_region ?_
    refine s1 rfl (q_move rfl) ?_
    refine s1 rfl (q_move rfl) ?_
    refine s1 rfl (q_lss rfl rfl) ?_
    refine o_end ?_
    refine r_if rfl (fun hp1 => ?_) (fun hp1 => ?_)
    · refine r_skip ?_
      refine r_seq ?_
      refine r_block ?_
      refine r_seq ?_
      refine r_region ?_
      refine s1 rfl (q_move rfl) ?_
      refine s1 rfl (q_move rfl) ?_
      refine s1 rfl (q_indexAddr Tryz.underlying22 z42 rfl rfl rfl (by omega) (by omega) (fun w hw => Sl.OK.isSome (hw.get_fz (t := 100) rfl) (by decide) (i := i) (by omega))) ?_
      refine s1 rfl (q_fieldAddr of42_0 rfl rfl) ?_
      refine s1 rfl (q_load ag3 rfl (fun w hw => Sl.OK.cell (hw.get_fz (t := 100) rfl) (i := i) (j := 0) (by omega) rfl)) ?_
      refine s1 rfl (q_eql rfl rfl) ?_
      refine o_end ?_
      refine r_if rfl (fun hp2 => ?_) (fun hp2 => ?_)
      · refine r_region ?_
        refine sx rfl (e_bslice0 (α := Int) Tryz.underlying39 zi3) (fun g3 _ => ?_)
        refine s1 rfl (q_move rfl) ?_
        refine sx rfl (e_appendL (tg := 18) (l := ([] : List Int)) (l' := stkN l.el i) Tryz.underlying39 in3 rfl rfl rfl rfl rfl rfl rfl (fun w hw => Shows.row (hw.row (tg := 500) rfl)) (by simp only [List.length_cons, List.length_nil, List.length_append]; omega)) (fun ⟨a4, c5⟩ _ => ?_)
        refine s1 rfl (q_move rfl) ?_
        refine sx rfl (e_bslice (cs := encs ([((i : Nat) : Int)] : List Int)) Tryz.underlying39 zi3 (.cons rfl (.nil)) (by kernel_rfl) rfl rfl rfl) (fun g6 _ => ?_)
        refine sx rfl (e_appendL (tg := 18) (l := ([] : List Int) ++ (stkN l.el i)) (l' := ([((i : Nat) : Int)] : List Int)) Tryz.underlying39 in3 rfl rfl rfl rfl rfl rfl rfl (fun w hw => Shows.row (hw.row (tg := 22) rfl)) (by simp only [List.length_cons, List.length_nil, List.length_append]; omega)) (fun ⟨a7, c8⟩ _ => ?_)
        refine s1 rfl (q_assign rfl) ?_
        refine o_end ?_
        refine r_inBlock ?_
        refine r_region ?_
        refine s1 rfl (q_move rfl) ?_
        refine s1 rfl (q_add rfl rfl (by omega)) ?_
        refine s1 rfl (q_assign rfl) ?_
        refine o_end ?_
        refine r_know (fun w hw => hw.ren (.cons (t := 100) (t0 := 100) rfl rfl (.cons (t := 500) (t0 := 18) rfl rfl .nil))) ?_
        rw [show (([] : List Int) ++ (stkN l.el i)) ++ ([((i : Nat) : Int)] : List Int) = stkN l.el (i + 1) from (stk_a (by assumption))]
        refine r_inLoop ?_
        refine RunE.weaken ?_ ?_ (ih0 (i + 1) a7 c8 ?_ ?_)
        · exact (.cons rfl (.cons rfl (.cons rfl (.cons rfl (.nil)))))
        · exact (.cons rfl (.cons rfl (.nil)))
        · omega
        · omega
      · refine r_seq ?_
        refine r_cut [(0, .slice l.addr l.el.length l.cap), (1, .int .i64 n), (5, .slice a1 ((stkN l.el i).length) c2), (6, .int .i64 ((i : Nat) : Int)), (34, .bool (decide ((¬ ((nth l.el i).kind = (1 : Int))) ∧ ((0 : Int) < (((stkN l.el i).length : Nat) : Int)))))] [(100, .fz (fun w => ok w l)), (500, .row 3 1 a1 ((stkN l.el i).length) c2 (encs (stkN l.el i)))] ?_ (fun key => ?_)
        · refine r_if rfl (fun hp3 => ?_) (fun hp3 => ?_)
          · refine r_region ?_
            refine s1 rfl (q_move rfl) ?_
            refine s1 rfl (q_move rfl) ?_
            refine s1 rfl (q_len Tryz.underlying39 rfl) ?_
            refine s1 rfl (Quiet.as (q_sub rfl rfl (by omega)) (congrArg (Value.int .i64) (by omega : _ = (((((stkN l.el i).length) - 1 : Nat) : Int))))) ?_
            refine sx rfl (e_cut (tg := 500) (l := stkN l.el i) (h := ((stkN l.el i).length) - 1) Tryz.underlying39 z3 rfl rfl rfl rfl (by omega) rfl) (fun _ _ => ?_)
            refine s1 rfl (q_assign rfl) ?_
            refine o_end ?_
            refine r_inBlock ?_
            refine r_region ?_
            refine s1 rfl (q_move rfl) ?_
            refine s1 rfl (q_add rfl rfl (by omega)) ?_
            refine s1 rfl (q_assign rfl) ?_
            refine o_end ?_
            rw [show (stkN l.el i).take (((stkN l.el i).length) - 1) = stkN l.el (i + 1) from (stk_b (by assumption) (by assumption))]
            refine r_inLoop ?_
            refine RunE.weaken ?_ ?_ (ih0 (i + 1) a1 c2 ?_ ?_)
            · exact (.cons rfl (.cons rfl (.cons rfl (.cons rfl (.nil)))))
            · exact (.cons rfl (.cons rfl (.nil)))
            · omega
            · omega
          · refine r_skip ?_
            refine r_inBlock ?_
            refine r_region ?_
            refine s1 rfl (q_move rfl) ?_
            refine s1 rfl (q_add rfl rfl (by omega)) ?_
            refine s1 rfl (q_assign rfl) ?_
            refine o_end ?_
            rw [show stkN l.el i = stkN l.el (i + 1) from (stk_c (by assumption) (by assumption))]
            refine r_inLoop ?_
            refine RunE.weaken ?_ ?_ (ih0 (i + 1) a1 c2 ?_ ?_)
            · exact (.cons rfl (.cons rfl (.cons rfl (.cons rfl (.nil)))))
            · exact (.cons rfl (.cons rfl (.nil)))
            · omega
            · omega
        · refine r_region ?_
          refine s1 rfl (q_move rfl) ?_
          refine s1 rfl (q_move rfl) ?_
          refine s1 rfl (q_indexAddr Tryz.underlying22 z42 rfl rfl rfl (by omega) (by omega) (fun w hw => Sl.OK.isSome (hw.get_fz (t := 100) rfl) (by decide) (i := i) (by omega))) ?_
          refine s1 rfl (q_fieldAddr of42_0 rfl rfl) ?_
          refine s1 rfl (q_load ag3 rfl (fun w hw => Sl.OK.cell (hw.get_fz (t := 100) rfl) (i := i) (j := 0) (by omega) rfl)) ?_
          refine s1 rfl (q_neq rfl rfl) ?_
          refine s1 rfl (q_move rfl) ?_
          refine g_split (s := 30) rfl (fun hp4 => ?_) (fun hp4 => ?_)
          · refine g_on rfl rfl ?_
            refine s1 rfl (q_move rfl) ?_
            refine g_on rfl rfl ?_
            refine s1 rfl (q_len Tryz.underlying39 rfl) ?_
            refine g_on rfl rfl ?_
            refine s1 rfl (q_gtr rfl rfl) ?_
            refine s1 rfl (q_pickt rfl rfl) ?_
            refine o_end ?_
            exact key.weaken (.cons rfl (.cons rfl (.cons rfl (.cons rfl (.consE rfl (congrArg Value.bool (by first | (simp only [hp4, ne_eq, not_true_eq_false, not_false_eq_true, true_or, or_true, false_or, or_false, true_and, and_true, false_and, and_false, Bool.decide_eq_true] <;> first | exact nb_dec _ | exact b_dec _ | (simp; done)) | exact nb_dec _ | exact b_dec _ | (simp; done) | (exfalso; omega))) (.nil)))))) (.cons rfl (.cons rfl (.nil)))
          · refine g_off rfl rfl rfl ?_
            refine g_off rfl rfl rfl ?_
            refine g_off rfl rfl rfl ?_
            refine s1 rfl (q_pickf rfl rfl) ?_
            refine o_end ?_
            exact key.weaken (.cons rfl (.cons rfl (.cons rfl (.cons rfl (.consE rfl (congrArg Value.bool (decide_eq_false (fun h => hp4 h.1)).symm) (.nil)))))) (.cons rfl (.cons rfl (.nil)))
    · refine r_exit rfl ?_
      refine r_seq ?_
      refine r_region ?_
      refine s1 rfl (q_move rfl) ?_
      refine s1 rfl (q_assign rfl) ?_
      refine o_end ?_
      refine r_ret Tryz.func48 (res1 Tryz.results48 (res_tmp (s := 4) rfl)) (fun w hw => ?_)
      have hi : i = n.toNat := by omega
      subst hi
      exact ⟨(a1, c2), trivial, rfl, hw.one (t := 500) rfl nofzrow⟩
  · exact Nat.zero_le _


theorem c49 (l : Sl EvM) (f n : Int) (w : World) (hl : ok w l) (hn : 0 ≤ f ∧ f < n ∧ n ≤ l.el.length) : RetV Tryz.prog 49 #[.slice l.addr l.el.length l.cap, .int .i64 f, .int .i64 n] w (.int .i64 (lineN l.el f.toNat n.toNat)) := by
  have L0 := Sl.OK.le hl (by decide)
  refine calls_of (args := [.slice l.addr l.el.length l.cap, .int .i64 f, .int .i64 n]) Tryz.func49 rfl Tryz.ntmps49 rfl (H := [(100, .fz (fun w => ok w l))]) (Facts.sep (.cons (supp_ok hl) (.nil))) ?_
  refine r_seq ?_
  refine r_region ?_
  refine s1 rfl (q_assign rfl) ?_
  refine o_end ?_
  refine r_seq ?_
  refine r_region ?_
  refine s1 rfl (q_move rfl) ?_
  refine s1 rfl (q_move rfl) ?_
  refine s1 rfl (q_indexAddr Tryz.underlying22 z42 rfl rfl rfl (by omega) (by omega) (fun w hw => Sl.OK.isSome (hw.get_fz (t := 100) rfl) (by decide) (i := f.toNat) (by omega))) ?_
  refine s1 rfl (q_fieldAddr of42_3 rfl rfl) ?_
  refine s1 rfl (q_load ag3 rfl (fun w hw => Sl.OK.cell (hw.get_fz (t := 100) rfl) (i := f.toNat) (j := 3) (by omega) rfl)) ?_
  refine s1 rfl (q_assign rfl) ?_
  refine o_end ?_
  refine r_seq ?_
  refine r_region ?_
  refine s1 rfl (q_move rfl) ?_
  refine s1 rfl (q_move rfl) ?_
  refine s1 rfl (q_indexAddr Tryz.underlying22 z42 rfl rfl rfl (by omega) (by omega) (fun w hw => Sl.OK.isSome (hw.get_fz (t := 100) rfl) (by decide) (i := f.toNat) (by omega))) ?_
  refine s1 rfl (q_fieldAddr of42_4 rfl rfl) ?_
  refine s1 rfl (q_load ag3 rfl (fun w hw => Sl.OK.cell (hw.get_fz (t := 100) rfl) (i := f.toNat) (j := 4) (by omega) rfl)) ?_
  refine s1 rfl (q_assign rfl) ?_
  refine o_end ?_
  refine r_seq ?_
  refine r_seq ?_
  refine r_region ?_
  refine s1 rfl (q_move rfl) ?_
  refine s1 rfl (q_add rfl rfl (by omega)) ?_
  refine s1 rfl (q_assign rfl) ?_
  refine o_end ?_
  refine r_block ?_
  refine r_loop ?_
  refine RunE.weaken ?_ ?_ (r_rounds (fun (i : Nat) => [(0, .slice l.addr l.el.length l.cap), (2, .int .i64 n), (7, .int .i64 (lineN l.el f.toNat i)), (8, .int .i64 ((nth l.el f.toNat).depth)), (9, .int .i64 ((i : Nat) : Int))]) (fun (i : Nat) => [(100, .fz (fun w => ok w l))]) (fun (i : Nat) => f.toNat + 1 ≤ i ∧ i ≤ n.toNat) (fun (i : Nat) => n.toNat - i) ?_ (f.toNat + 1) ?_)
  · exact (.cons rfl (.cons rfl (.consE rfl (congrArg (Value.int .i64) (line_start l.el f.toNat (f.toNat + 1) (Nat.le_refl _)).symm) (.cons rfl (.consE rfl (congrArg (Value.int .i64) (by omega)) (.nil))))))
  · exact (.cons rfl (.nil))
  · intro i hI0 ih0
    obtain ⟨hI1, hI2⟩ := hI0
    refine r_seq ?_
    refine r_seq ?_
    refine r_region ?_
    refine s1 rfl (q_move rfl) ?_
    refine s1 rfl (q_move rfl) ?_
    refine s1 rfl (q_lss rfl rfl) ?_
    refine o_end ?_
    refine r_if rfl (fun hp1 => ?_) (fun hp1 => ?_)
    · refine r_skip ?_
      refine r_seq ?_
      refine r_block ?_
      refine r_seq ?_
      refine r_cut [(0, .slice l.addr l.el.length l.cap), (2, .int .i64 n), (7, .int .i64 (lineN l.el f.toNat i)), (8, .int .i64 ((nth l.el f.toNat).depth)), (9, .int .i64 ((i : Nat) : Int)), (41, .bool (decide (((nth l.el i).kind = (1 : Int)) ∧ ((nth l.el i).depth = (nth l.el f.toNat).depth))))] [(100, .fz (fun w => ok w l))] ?_ (fun key => ?_)
      · refine r_if rfl (fun hp2 => ?_) (fun hp2 => ?_)
        · refine r_region ?_
          refine s1 rfl (q_move rfl) ?_
          refine s1 rfl (q_move rfl) ?_
          refine s1 rfl (q_indexAddr Tryz.underlying22 z42 rfl rfl rfl (by omega) (by omega) (fun w hw => Sl.OK.isSome (hw.get_fz (t := 100) rfl) (by decide) (i := i) (by omega))) ?_
          refine s1 rfl (q_fieldAddr of42_3 rfl rfl) ?_
          refine s1 rfl (q_load ag3 rfl (fun w hw => Sl.OK.cell (hw.get_fz (t := 100) rfl) (i := i) (j := 3) (by omega) rfl)) ?_
          refine s1 rfl (q_assign rfl) ?_
          refine o_end ?_
          refine r_inBlock ?_
          refine r_region ?_
          refine s1 rfl (q_move rfl) ?_
          refine s1 rfl (q_add rfl rfl (by omega)) ?_
          refine s1 rfl (q_assign rfl) ?_
          refine o_end ?_
          refine r_inLoop ?_
          refine RunE.weaken ?_ ?_ (ih0 (i + 1) ?_ ?_)
          · exact (.cons rfl (.cons rfl (.consE rfl (congrArg (Value.int .i64) (line_y (by omega) hp2)) (.cons rfl (.cons rfl (.nil))))))
          · exact (.cons rfl (.nil))
          · exact ⟨by omega, by omega⟩
          · omega
        · refine r_skip ?_
          refine r_inBlock ?_
          refine r_region ?_
          refine s1 rfl (q_move rfl) ?_
          refine s1 rfl (q_add rfl rfl (by omega)) ?_
          refine s1 rfl (q_assign rfl) ?_
          refine o_end ?_
          refine r_inLoop ?_
          refine RunE.weaken ?_ ?_ (ih0 (i + 1) ?_ ?_)
          · exact (.cons rfl (.cons rfl (.consE rfl (congrArg (Value.int .i64) (line_n hp2)) (.cons rfl (.cons rfl (.nil))))))
          · exact (.cons rfl (.nil))
          · exact ⟨by omega, by omega⟩
          · omega
      · refine r_region ?_
        refine s1 rfl (q_move rfl) ?_
        refine s1 rfl (q_move rfl) ?_
        refine s1 rfl (q_indexAddr Tryz.underlying22 z42 rfl rfl rfl (by omega) (by omega) (fun w hw => Sl.OK.isSome (hw.get_fz (t := 100) rfl) (by decide) (i := i) (by omega))) ?_
        refine s1 rfl (q_fieldAddr of42_0 rfl rfl) ?_
        refine s1 rfl (q_load ag3 rfl (fun w hw => Sl.OK.cell (hw.get_fz (t := 100) rfl) (i := i) (j := 0) (by omega) rfl)) ?_
        refine s1 rfl (q_eql rfl rfl) ?_
        refine s1 rfl (q_move rfl) ?_
        refine g_split (s := 33) rfl (fun hp3 => ?_) (fun hp3 => ?_)
        · refine g_on rfl rfl ?_
          refine s1 rfl (q_move rfl) ?_
          refine g_on rfl rfl ?_
          refine s1 rfl (q_move rfl) ?_
          refine g_on rfl rfl ?_
          refine s1 rfl (q_indexAddr Tryz.underlying22 z42 rfl rfl rfl (by omega) (by omega) (fun w hw => Sl.OK.isSome (hw.get_fz (t := 100) rfl) (by decide) (i := i) (by omega))) ?_
          refine g_on rfl rfl ?_
          refine s1 rfl (q_fieldAddr of42_4 rfl rfl) ?_
          refine g_on rfl rfl ?_
          refine s1 rfl (q_load ag3 rfl (fun w hw => Sl.OK.cell (hw.get_fz (t := 100) rfl) (i := i) (j := 4) (by omega) rfl)) ?_
          refine g_on rfl rfl ?_
          refine s1 rfl (q_move rfl) ?_
          refine g_on rfl rfl ?_
          refine s1 rfl (q_eql rfl rfl) ?_
          refine s1 rfl (q_pickt rfl rfl) ?_
          refine o_end ?_
          exact key.weaken (.cons rfl (.cons rfl (.cons rfl (.cons rfl (.cons rfl (.consE rfl (congrArg Value.bool (by first | (simp only [hp3, ne_eq, not_true_eq_false, not_false_eq_true, true_or, or_true, false_or, or_false, true_and, and_true, false_and, and_false, Bool.decide_eq_true] <;> first | exact nb_dec _ | exact b_dec _ | (simp; done)) | exact nb_dec _ | exact b_dec _ | (simp; done) | (exfalso; omega))) (.nil))))))) (.cons rfl (.nil))
        · refine g_off rfl rfl rfl ?_
          iterate 6 refine g_off rfl rfl rfl ?_
          refine s1 rfl (q_pickf rfl rfl) ?_
          refine o_end ?_
          exact key.weaken (.cons rfl (.cons rfl (.cons rfl (.cons rfl (.cons rfl (.consE rfl (congrArg Value.bool (decide_eq_false (fun h => hp3 h.1)).symm) (.nil))))))) (.cons rfl (.nil))
    · refine r_exit rfl ?_
      refine r_seq ?_
      refine r_region ?_
      refine s1 rfl (q_move rfl) ?_
      refine s1 rfl (q_assign rfl) ?_
      refine o_end ?_
      refine r_ret Tryz.func49 (res1 Tryz.results49 (res_tmp (s := 6) rfl)) (fun w hw => ?_)
      have hi : i = n.toNat := by omega
      subst hi
      exact ⟨rfl, hw.kp⟩
  · exact ⟨by omega, by omega⟩


theorem c22 (l : Sl EvM) (p : Int) (w : World) (hl : ok w l) (hv : l.el.length ≤ 20000) (hp : -1 ≤ p ∧ p ≤ l.el.length) : RetRow Tryz.prog 22 #[.slice l.addr l.el.length l.cap, .int .i64 p] w 54 (placesR l.el p) := by
  intro tg
  have L0 := Sl.OK.le hl (by decide)
  have hSL := stk_len l.el p.toNat
  refine calls_of (args := [.slice l.addr l.el.length l.cap, .int .i64 p]) Tryz.func22 rfl Tryz.ntmps22 rfl (H := [(100, .fz (fun w => ok w l))]) (Facts.sep (.cons (supp_ok hl) (.nil))) ?_
  refine r_seq ?_
  refine r_region ?_
  refine s1 rfl (q_assign rfl) ?_
  refine o_end ?_
  refine r_seq ?_
  refine r_seq ?_
  refine r_region ?_
  refine s1 rfl (q_move rfl) ?_
  refine s1 rfl (q_move rfl) ?_
  refine s1 rfl (q_len Tryz.underlying22 rfl) ?_
  refine s1 rfl (q_sub rfl rfl (by omega)) ?_
  refine sx rfl (e_call en12 (.cons rfl (.cons rfl (.cons rfl (.nil)))) ((fun w hw => c12 p (0 : Int) (((l.el.length : Nat) : Int) - (1 : Int)) w))) (fun _ _ => ?_)
  refine s1 rfl (q_not rfl) ?_
  refine o_end ?_
  refine r_if rfl (fun hp1 => ?_) (fun hp1 => ?_)
  · refine r_seq ?_
    refine r_region ?_
    refine s1 rfl (q_assign rfl) ?_
    refine o_end ?_
    refine r_ret Tryz.func22 (res1 Tryz.results22 (res_tmp (s := 4) rfl)) (fun w hw => ?_)
    rw [show placesR l.el p = [] from if_neg hp1]
    exact ⟨(none, 0), trivial, rfl, (hw.nilRow 0 54 3).one (t := 0) rfl nofzrow⟩
  · refine r_skip ?_
    refine r_seq ?_
    refine r_region ?_
    refine s1 rfl (q_move rfl) ?_
    refine s1 rfl (q_move rfl) ?_
    refine sx rfl (e_callx en48 (.cons rfl (.cons rfl (.nil))) ((fun w hw => c48 l p w (hw.get_fz (t := 100) rfl) hv (by omega) 16)) (fun _ => nofz (fun _ h => by cases h))) (fun ⟨a1, c2⟩ _ => ?_)
    refine s1 rfl (q_assign rfl) ?_
    refine o_end ?_
    refine r_seq ?_
    refine r_seq ?_
    refine r_region ?_
    refine s1 rfl (q_move rfl) ?_
    refine s1 rfl (q_move rfl) ?_
    refine s1 rfl (q_indexAddr Tryz.underlying22 z42 rfl rfl rfl (by omega) (by omega) (fun w hw => Sl.OK.isSome (hw.get_fz (t := 100) rfl) (by decide) (i := p.toNat) (by omega))) ?_
    refine s1 rfl (q_fieldAddr of42_0 rfl rfl) ?_
    refine s1 rfl (q_load ag3 rfl (fun w hw => Sl.OK.cell (hw.get_fz (t := 100) rfl) (i := p.toNat) (j := 0) (by omega) rfl)) ?_
    refine s1 rfl (q_eql rfl rfl) ?_
    refine o_end ?_
    refine r_if rfl (fun hp2 => ?_) (fun hp2 => ?_)
    · refine r_region ?_
      refine sx rfl (e_bslice0 (α := Int) Tryz.underlying39 zi3) (fun g3 _ => ?_)
      refine s1 rfl (q_move rfl) ?_
      refine sx rfl (e_appendL (tg := 23) (l := ([] : List Int)) (l' := stkN l.el p.toNat) Tryz.underlying39 in3 rfl rfl rfl rfl rfl rfl rfl (fun w hw => Shows.row (hw.row (tg := 16) rfl)) (by simp only [List.length_cons, List.length_nil, List.length_append]; omega)) (fun ⟨a4, c5⟩ _ => ?_)
      refine s1 rfl (q_move rfl) ?_
      refine sx rfl (e_bslice (cs := encs ([p] : List Int)) Tryz.underlying39 zi3 (.cons rfl (.nil)) (by kernel_rfl) rfl rfl rfl) (fun g6 _ => ?_)
      refine sx rfl (e_appendL (tg := 23) (l := ([] : List Int) ++ (stkN l.el p.toNat)) (l' := ([p] : List Int)) Tryz.underlying39 in3 rfl rfl rfl rfl rfl rfl rfl (fun w hw => Shows.row (hw.row (tg := 27) rfl)) (by simp only [List.length_cons, List.length_nil, List.length_append]; omega)) (fun ⟨a7, c8⟩ _ => ?_)
      rw [show (([] : List Int) ++ (stkN l.el p.toNat)) ++ ([p] : List Int) = actR l.el p from (if_pos (by assumption)).symm]
      refine s1 rfl (q_assign rfl) ?_
      refine o_end ?_
      refine r_seq ?_
      refine r_region ?_
      refine s1 rfl (q_assign rfl) ?_
      refine o_end ?_
      refine r_seq ?_
      refine r_seq ?_
      refine r_region ?_
      refine s1 rfl (q_assign rfl) ?_
      refine o_end ?_
      refine r_block ?_
      refine r_know (fun w hw => hw.nilRow 501 54 3) ?_
      refine r_loop ?_
      refine RunE.weaken ?_ ?_ (r_rounds3 (fun (i : Nat) (a9 : Option Addr) (c10 : Nat) => [(0, .slice l.addr l.el.length l.cap), (1, .int .i64 p), (5, .slice a7 ((actR l.el p).length) c8), (6, .slice a9 ((((actR l.el p).take i).map (plcR l.el p)).length) c10), (7, .int .i64 ((i : Nat) : Int))]) (fun (i : Nat) (a9 : Option Addr) (c10 : Nat) => [(100, .fz (fun w => ok w l)), (23, .row 3 1 a7 ((actR l.el p).length) c8 (encs (actR l.el p))), (501, .row 54 3 a9 ((((actR l.el p).take i).map (plcR l.el p)).length) c10 (encs (((actR l.el p).take i).map (plcR l.el p))))]) (fun (i : Nat) (a9 : Option Addr) (c10 : Nat) => i ≤ (actR l.el p).length) (fun (i : Nat) (a9 : Option Addr) (c10 : Nat) => (actR l.el p).length - i) ?_ 0 none 0 ?_)
      · exact (.cons rfl (.cons rfl (.cons rfl (.cons rfl (.cons rfl (.nil))))))
      · exact (.cons rfl (.cons rfl (.cons rfl (.nil))))
      · intro i a9 c10 hI0 ih0
        have hAL := actR_len l.el p
        have hM : (((actR l.el p).take i).map (plcR l.el p)).length = i := by simp only [List.length_map, List.length_take]; omega
        refine r_seq ?_
        refine r_seq ?_
        refine r_region ?_
        refine s1 rfl (q_move rfl) ?_
        refine s1 rfl (q_move rfl) ?_
        refine s1 rfl (q_len Tryz.underlying39 rfl) ?_
        refine s1 rfl (q_lss rfl rfl) ?_
        refine o_end ?_
        refine r_if rfl (fun hp3 => ?_) (fun hp3 => ?_)
        · have hE := actR_lt (l := l.el) (p := p) (by omega) (nth (actR l.el p) i) (nth_mem (by omega))
          refine r_skip ?_
          refine r_seq ?_
          refine r_block ?_
          refine r_draw [(100, .fz (fun w => ok w l)), (23, .row 3 1 a7 ((actR l.el p).length) c8 (encs (actR l.el p)))] (by kernel_rfl) rfl (.cons rfl (.cons rfl (.nil))) ?_
          refine d1 0 rfl (by kernel_rfl) rfl rfl (q_move rfl) ?_
          refine d1 1 rfl (by kernel_rfl) rfl rfl (q_move rfl) ?_
          refine d1 2 rfl (by kernel_rfl) rfl rfl (q_move rfl) ?_
          refine d1 3 rfl (by kernel_rfl) rfl rfl (q_move rfl) ?_
          refine d1 4 rfl (by kernel_rfl) rfl rfl (q_indexAddr Tryz.underlying39 z3 rfl rfl rfl (by omega) (by omega) (fun w hw => row_some (hw.row (tg := 23) rfl) (by omega))) ?_
          refine d1 5 rfl (by kernel_rfl) rfl rfl (q_load ag3 rfl (fun w hw => row_cellAt0 (l := actR l.el p) (hw.row (tg := 23) rfl) (i := i) (by omega) rfl)) ?_
          refine d1 6 rfl (by kernel_rfl) rfl rfl (q_indexAddr Tryz.underlying22 z42 rfl rfl rfl (by omega) (by omega) (fun w hw => Sl.OK.isSome (hw.get_fz (t := 100) rfl) (by decide) (i := (nth (actR l.el p) i).toNat) (by omega))) ?_
          refine d1 7 rfl (by kernel_rfl) rfl rfl (q_fieldAddr of42_1 rfl rfl) ?_
          refine d1 8 rfl (by kernel_rfl) rfl rfl (q_load ag9 rfl (fun w hw => Sl.OK.cell (hw.get_fz (t := 100) rfl) (i := (nth (actR l.el p) i).toNat) (j := 1) (by omega) rfl)) ?_
          refine d1 9 rfl (by kernel_rfl) rfl rfl (q_move rfl) ?_
          refine d1 10 rfl (by kernel_rfl) rfl rfl (q_move rfl) ?_
          refine d1 11 rfl (by kernel_rfl) rfl rfl (q_move rfl) ?_
          refine d1 12 rfl (by kernel_rfl) rfl rfl (q_indexAddr Tryz.underlying39 z3 rfl rfl rfl (by omega) (by omega) (fun w hw => row_some (hw.row (tg := 23) rfl) (by omega))) ?_
          refine d1 13 rfl (by kernel_rfl) rfl rfl (q_load ag3 rfl (fun w hw => row_cellAt0 (l := actR l.el p) (hw.row (tg := 23) rfl) (i := i) (by omega) rfl)) ?_
          refine d1 14 rfl (by kernel_rfl) rfl rfl (q_indexAddr Tryz.underlying22 z42 rfl rfl rfl (by omega) (by omega) (fun w hw => Sl.OK.isSome (hw.get_fz (t := 100) rfl) (by decide) (i := (nth (actR l.el p) i).toNat) (by omega))) ?_
          refine d1 15 rfl (by kernel_rfl) rfl rfl (q_fieldAddr of42_2 rfl rfl) ?_
          refine d1 16 rfl (by kernel_rfl) rfl rfl (q_load ag9 rfl (fun w hw => Sl.OK.cell (hw.get_fz (t := 100) rfl) (i := (nth (actR l.el p) i).toNat) (j := 2) (by omega) rfl)) ?_
          refine d1 17 rfl (by kernel_rfl) rfl rfl (q_move rfl) ?_
          refine d1 18 rfl (by kernel_rfl) rfl rfl (q_move rfl) ?_
          refine d1 19 rfl (by kernel_rfl) rfl rfl (q_move rfl) ?_
          refine d1 20 rfl (by kernel_rfl) rfl rfl (q_indexAddr Tryz.underlying39 z3 rfl rfl rfl (by omega) (by omega) (fun w hw => row_some (hw.row (tg := 23) rfl) (by omega))) ?_
          refine d1 21 rfl (by kernel_rfl) rfl rfl (q_load ag3 rfl (fun w hw => row_cellAt0 (l := actR l.el p) (hw.row (tg := 23) rfl) (i := i) (by omega) rfl)) ?_
          refine d1 22 rfl (by kernel_rfl) rfl rfl (q_move rfl) ?_
          refine d1 23 rfl (by kernel_rfl) rfl rfl (q_add rfl rfl (by omega)) ?_
          refine dx 24 rfl (by kernel_rfl) rfl rfl (want_none rfl) (e_call en49 (.cons rfl (.cons rfl (.cons rfl (.nil)))) ((fun w hw => c49 l (nth (actR l.el p) i) (p + (1 : Int)) w (hw.get_fz (t := 100) rfl) (by omega)))) (fun _ => (.cons rfl (.cons rfl (.nil)))) (fun _ _ => ?_)
          refine d1 25 rfl (by kernel_rfl) rfl rfl (q_build (cs := [.string ((nth l.el ((nth (actR l.el p) i).toNat)).mod), .string ((nth l.el ((nth (actR l.el p) i).toNat)).fn), .int .i64 (lineN l.el (nth (actR l.el p) i).toNat (p + (1 : Int)).toNat)]) (.cons rfl (.cons rfl (.cons rfl (.nil)))) (by kernel_rfl)) ?_
          refine dx 26 rfl (by kernel_rfl) rfl rfl (want_none rfl) (e_bslice (cs := encs ([(⟨(nth l.el ((nth (actR l.el p) i).toNat)).mod, (nth l.el ((nth (actR l.el p) i).toNat)).fn, lineN l.el (nth (actR l.el p) i).toNat (p + (1 : Int)).toNat⟩ : PlcM)] : List PlcM)) Tryz.underlying50 zi54 (.cons rfl (.nil)) (by kernel_rfl) rfl rfl rfl) (fun _ => (.cons rfl (.cons rfl (.nil)))) (fun g11 _ => ?_)
          refine AnyE.more (S' := [(100, .fz (fun w => ok w l)), (23, .row 3 1 a7 ((actR l.el p).length) c8 (encs (actR l.el p))), (61, .row 54 3 (some ⟨g11, 0, none⟩) (([(⟨(nth l.el ((nth (actR l.el p) i).toNat)).mod, (nth l.el ((nth (actR l.el p) i).toNat)).fn, lineN l.el (nth (actR l.el p) i).toNat (p + (1 : Int)).toNat⟩ : PlcM)] : List PlcM).length) 1 (encs ([(⟨(nth l.el ((nth (actR l.el p) i).toNat)).mod, (nth l.el ((nth (actR l.el p) i).toNat)).fn, lineN l.el (nth (actR l.el p) i).toNat (p + (1 : Int)).toNat⟩ : PlcM)] : List PlcM)))]) (.cons rfl (.cons rfl (.nil))) (.cons rfl (.cons rfl (.cons rfl (.nil)))) ?_
          refine dx 27 rfl (by kernel_rfl) rfl rfl (want_none rfl) (e_appendL (tg := 501) (l := ((actR l.el p).take i).map (plcR l.el p)) (l' := ([(⟨(nth l.el ((nth (actR l.el p) i).toNat)).mod, (nth l.el ((nth (actR l.el p) i).toNat)).fn, lineN l.el (nth (actR l.el p) i).toNat (p + (1 : Int)).toNat⟩ : PlcM)] : List PlcM)) Tryz.underlying50 in54 rfl rfl rfl rfl rfl rfl rfl (fun w hw => Shows.row (hw.row (tg := 61) rfl)) (by simp only [List.length_cons, List.length_nil, List.length_append]; omega)) (fun _ => (.cons rfl (.cons rfl (.cons rfl (.nil))))) (fun ⟨a12, c13⟩ _ => ?_)
          refine d1 28 rfl (by kernel_rfl) rfl rfl (q_assign rfl) ?_
          refine d_end (by kernel_rfl) ?_
          refine r_inBlock ?_
          refine r_region ?_
          refine s1 rfl (q_move rfl) ?_
          refine s1 rfl (q_add rfl rfl (by omega)) ?_
          refine s1 rfl (q_assign rfl) ?_
          refine o_end ?_
          rw [show (((actR l.el p).take i).map (plcR l.el p)) ++ ([(⟨(nth l.el ((nth (actR l.el p) i).toNat)).mod, (nth l.el ((nth (actR l.el p) i).toNat)).fn, lineN l.el (nth (actR l.el p) i).toNat (p + (1 : Int)).toNat⟩ : PlcM)] : List PlcM) = ((actR l.el p).take (i + 1)).map (plcR l.el p) from (map_take (f := plcR l.el p) (by omega))]
          refine r_inLoop ?_
          refine RunE.weaken ?_ ?_ (ih0 (i + 1) a12 c13 ?_ ?_)
          · exact (.cons rfl (.cons rfl (.cons rfl (.cons rfl (.cons rfl (.nil))))))
          · exact (.cons rfl (.cons rfl (.cons rfl (.nil))))
          · omega
          · omega
        · refine r_exit rfl ?_
          refine r_seq ?_
          refine r_region ?_
          refine s1 rfl (q_move rfl) ?_
          refine s1 rfl (q_assign rfl) ?_
          refine o_end ?_
          refine r_ret Tryz.func22 (res1 Tryz.results22 (res_tmp (s := 4) rfl)) (fun w hw => ?_)
          have hi : i = (actR l.el p).length := by omega
          have ht : (actR l.el p).take i = actR l.el p := List.take_of_length_le (by omega)
          rw [ht] at hw ⊢
          rw [show placesR l.el p = (actR l.el p).map (plcR l.el p) from if_pos (Decidable.not_not.1 hp1)]
          exact ⟨(a9, c10), trivial, rfl, hw.one (t := 501) rfl nofzrow⟩
      · exact Nat.zero_le _
    · rw [show stkN l.el p.toNat = actR l.el p from (if_neg hp2).symm]
      refine r_skip ?_
      refine r_seq ?_
      refine r_region ?_
      refine s1 rfl (q_assign rfl) ?_
      refine o_end ?_
      refine r_seq ?_
      refine r_seq ?_
      refine r_region ?_
      refine s1 rfl (q_assign rfl) ?_
      refine o_end ?_
      refine r_block ?_
      refine r_know (fun w hw => hw.nilRow 501 54 3) ?_
      refine r_loop ?_
      refine RunE.weaken ?_ ?_ (r_rounds3 (fun (i : Nat) (a14 : Option Addr) (c15 : Nat) => [(0, .slice l.addr l.el.length l.cap), (1, .int .i64 p), (5, .slice a1 ((actR l.el p).length) c2), (6, .slice a14 ((((actR l.el p).take i).map (plcR l.el p)).length) c15), (7, .int .i64 ((i : Nat) : Int))]) (fun (i : Nat) (a14 : Option Addr) (c15 : Nat) => [(100, .fz (fun w => ok w l)), (16, .row 3 1 a1 ((actR l.el p).length) c2 (encs (actR l.el p))), (501, .row 54 3 a14 ((((actR l.el p).take i).map (plcR l.el p)).length) c15 (encs (((actR l.el p).take i).map (plcR l.el p))))]) (fun (i : Nat) (a14 : Option Addr) (c15 : Nat) => i ≤ (actR l.el p).length) (fun (i : Nat) (a14 : Option Addr) (c15 : Nat) => (actR l.el p).length - i) ?_ 0 none 0 ?_)
      · exact (.cons rfl (.cons rfl (.cons rfl (.cons rfl (.cons rfl (.nil))))))
      · exact (.cons rfl (.cons rfl (.cons rfl (.nil))))
      · intro i a14 c15 hI0 ih0
        have hAL := actR_len l.el p
        have hM : (((actR l.el p).take i).map (plcR l.el p)).length = i := by simp only [List.length_map, List.length_take]; omega
        refine r_seq ?_
        refine r_seq ?_
        refine r_region ?_
        refine s1 rfl (q_move rfl) ?_
        refine s1 rfl (q_move rfl) ?_
        refine s1 rfl (q_len Tryz.underlying39 rfl) ?_
        refine s1 rfl (q_lss rfl rfl) ?_
        refine o_end ?_
        refine r_if rfl (fun hp4 => ?_) (fun hp4 => ?_)
        · have hE := actR_lt (l := l.el) (p := p) (by omega) (nth (actR l.el p) i) (nth_mem (by omega))
          refine r_skip ?_
          refine r_seq ?_
          refine r_block ?_
          refine r_draw [(100, .fz (fun w => ok w l)), (16, .row 3 1 a1 ((actR l.el p).length) c2 (encs (actR l.el p)))] (by kernel_rfl) rfl (.cons rfl (.cons rfl (.nil))) ?_
          refine d1 0 rfl (by kernel_rfl) rfl rfl (q_move rfl) ?_
          refine d1 1 rfl (by kernel_rfl) rfl rfl (q_move rfl) ?_
          refine d1 2 rfl (by kernel_rfl) rfl rfl (q_move rfl) ?_
          refine d1 3 rfl (by kernel_rfl) rfl rfl (q_move rfl) ?_
          refine d1 4 rfl (by kernel_rfl) rfl rfl (q_indexAddr Tryz.underlying39 z3 rfl rfl rfl (by omega) (by omega) (fun w hw => row_some (hw.row (tg := 16) rfl) (by omega))) ?_
          refine d1 5 rfl (by kernel_rfl) rfl rfl (q_load ag3 rfl (fun w hw => row_cellAt0 (l := actR l.el p) (hw.row (tg := 16) rfl) (i := i) (by omega) rfl)) ?_
          refine d1 6 rfl (by kernel_rfl) rfl rfl (q_indexAddr Tryz.underlying22 z42 rfl rfl rfl (by omega) (by omega) (fun w hw => Sl.OK.isSome (hw.get_fz (t := 100) rfl) (by decide) (i := (nth (actR l.el p) i).toNat) (by omega))) ?_
          refine d1 7 rfl (by kernel_rfl) rfl rfl (q_fieldAddr of42_1 rfl rfl) ?_
          refine d1 8 rfl (by kernel_rfl) rfl rfl (q_load ag9 rfl (fun w hw => Sl.OK.cell (hw.get_fz (t := 100) rfl) (i := (nth (actR l.el p) i).toNat) (j := 1) (by omega) rfl)) ?_
          refine d1 9 rfl (by kernel_rfl) rfl rfl (q_move rfl) ?_
          refine d1 10 rfl (by kernel_rfl) rfl rfl (q_move rfl) ?_
          refine d1 11 rfl (by kernel_rfl) rfl rfl (q_move rfl) ?_
          refine d1 12 rfl (by kernel_rfl) rfl rfl (q_indexAddr Tryz.underlying39 z3 rfl rfl rfl (by omega) (by omega) (fun w hw => row_some (hw.row (tg := 16) rfl) (by omega))) ?_
          refine d1 13 rfl (by kernel_rfl) rfl rfl (q_load ag3 rfl (fun w hw => row_cellAt0 (l := actR l.el p) (hw.row (tg := 16) rfl) (i := i) (by omega) rfl)) ?_
          refine d1 14 rfl (by kernel_rfl) rfl rfl (q_indexAddr Tryz.underlying22 z42 rfl rfl rfl (by omega) (by omega) (fun w hw => Sl.OK.isSome (hw.get_fz (t := 100) rfl) (by decide) (i := (nth (actR l.el p) i).toNat) (by omega))) ?_
          refine d1 15 rfl (by kernel_rfl) rfl rfl (q_fieldAddr of42_2 rfl rfl) ?_
          refine d1 16 rfl (by kernel_rfl) rfl rfl (q_load ag9 rfl (fun w hw => Sl.OK.cell (hw.get_fz (t := 100) rfl) (i := (nth (actR l.el p) i).toNat) (j := 2) (by omega) rfl)) ?_
          refine d1 17 rfl (by kernel_rfl) rfl rfl (q_move rfl) ?_
          refine d1 18 rfl (by kernel_rfl) rfl rfl (q_move rfl) ?_
          refine d1 19 rfl (by kernel_rfl) rfl rfl (q_move rfl) ?_
          refine d1 20 rfl (by kernel_rfl) rfl rfl (q_indexAddr Tryz.underlying39 z3 rfl rfl rfl (by omega) (by omega) (fun w hw => row_some (hw.row (tg := 16) rfl) (by omega))) ?_
          refine d1 21 rfl (by kernel_rfl) rfl rfl (q_load ag3 rfl (fun w hw => row_cellAt0 (l := actR l.el p) (hw.row (tg := 16) rfl) (i := i) (by omega) rfl)) ?_
          refine d1 22 rfl (by kernel_rfl) rfl rfl (q_move rfl) ?_
          refine d1 23 rfl (by kernel_rfl) rfl rfl (q_add rfl rfl (by omega)) ?_
          refine dx 24 rfl (by kernel_rfl) rfl rfl (want_none rfl) (e_call en49 (.cons rfl (.cons rfl (.cons rfl (.nil)))) ((fun w hw => c49 l (nth (actR l.el p) i) (p + (1 : Int)) w (hw.get_fz (t := 100) rfl) (by omega)))) (fun _ => (.cons rfl (.cons rfl (.nil)))) (fun _ _ => ?_)
          refine d1 25 rfl (by kernel_rfl) rfl rfl (q_build (cs := [.string ((nth l.el ((nth (actR l.el p) i).toNat)).mod), .string ((nth l.el ((nth (actR l.el p) i).toNat)).fn), .int .i64 (lineN l.el (nth (actR l.el p) i).toNat (p + (1 : Int)).toNat)]) (.cons rfl (.cons rfl (.cons rfl (.nil)))) (by kernel_rfl)) ?_
          refine dx 26 rfl (by kernel_rfl) rfl rfl (want_none rfl) (e_bslice (cs := encs ([(⟨(nth l.el ((nth (actR l.el p) i).toNat)).mod, (nth l.el ((nth (actR l.el p) i).toNat)).fn, lineN l.el (nth (actR l.el p) i).toNat (p + (1 : Int)).toNat⟩ : PlcM)] : List PlcM)) Tryz.underlying50 zi54 (.cons rfl (.nil)) (by kernel_rfl) rfl rfl rfl) (fun _ => (.cons rfl (.cons rfl (.nil)))) (fun g16 _ => ?_)
          refine AnyE.more (S' := [(100, .fz (fun w => ok w l)), (16, .row 3 1 a1 ((actR l.el p).length) c2 (encs (actR l.el p))), (61, .row 54 3 (some ⟨g16, 0, none⟩) (([(⟨(nth l.el ((nth (actR l.el p) i).toNat)).mod, (nth l.el ((nth (actR l.el p) i).toNat)).fn, lineN l.el (nth (actR l.el p) i).toNat (p + (1 : Int)).toNat⟩ : PlcM)] : List PlcM).length) 1 (encs ([(⟨(nth l.el ((nth (actR l.el p) i).toNat)).mod, (nth l.el ((nth (actR l.el p) i).toNat)).fn, lineN l.el (nth (actR l.el p) i).toNat (p + (1 : Int)).toNat⟩ : PlcM)] : List PlcM)))]) (.cons rfl (.cons rfl (.nil))) (.cons rfl (.cons rfl (.cons rfl (.nil)))) ?_
          refine dx 27 rfl (by kernel_rfl) rfl rfl (want_none rfl) (e_appendL (tg := 501) (l := ((actR l.el p).take i).map (plcR l.el p)) (l' := ([(⟨(nth l.el ((nth (actR l.el p) i).toNat)).mod, (nth l.el ((nth (actR l.el p) i).toNat)).fn, lineN l.el (nth (actR l.el p) i).toNat (p + (1 : Int)).toNat⟩ : PlcM)] : List PlcM)) Tryz.underlying50 in54 rfl rfl rfl rfl rfl rfl rfl (fun w hw => Shows.row (hw.row (tg := 61) rfl)) (by simp only [List.length_cons, List.length_nil, List.length_append]; omega)) (fun _ => (.cons rfl (.cons rfl (.cons rfl (.nil))))) (fun ⟨a17, c18⟩ _ => ?_)
          refine d1 28 rfl (by kernel_rfl) rfl rfl (q_assign rfl) ?_
          refine d_end (by kernel_rfl) ?_
          refine r_inBlock ?_
          refine r_region ?_
          refine s1 rfl (q_move rfl) ?_
          refine s1 rfl (q_add rfl rfl (by omega)) ?_
          refine s1 rfl (q_assign rfl) ?_
          refine o_end ?_
          rw [show (((actR l.el p).take i).map (plcR l.el p)) ++ ([(⟨(nth l.el ((nth (actR l.el p) i).toNat)).mod, (nth l.el ((nth (actR l.el p) i).toNat)).fn, lineN l.el (nth (actR l.el p) i).toNat (p + (1 : Int)).toNat⟩ : PlcM)] : List PlcM) = ((actR l.el p).take (i + 1)).map (plcR l.el p) from (map_take (f := plcR l.el p) (by omega))]
          refine r_inLoop ?_
          refine RunE.weaken ?_ ?_ (ih0 (i + 1) a17 c18 ?_ ?_)
          · exact (.cons rfl (.cons rfl (.cons rfl (.cons rfl (.cons rfl (.nil))))))
          · exact (.cons rfl (.cons rfl (.cons rfl (.nil))))
          · omega
          · omega
        · refine r_exit rfl ?_
          refine r_seq ?_
          refine r_region ?_
          refine s1 rfl (q_move rfl) ?_
          refine s1 rfl (q_assign rfl) ?_
          refine o_end ?_
          refine r_ret Tryz.func22 (res1 Tryz.results22 (res_tmp (s := 4) rfl)) (fun w hw => ?_)
          have hi : i = (actR l.el p).length := by omega
          have ht : (actR l.el p).take i = actR l.el p := List.take_of_length_le (by omega)
          rw [ht] at hw ⊢
          rw [show placesR l.el p = (actR l.el p).map (plcR l.el p) from if_pos (Decidable.not_not.1 hp1)]
          exact ⟨(a14, c15), trivial, rfl, hw.one (t := 501) rfl nofzrow⟩
      · exact Nat.zero_le _


theorem c23a (l : Sl EvM) (p : Int) (n : ByteArray) (w : World) (hl : ok w l) (hp : p = -1 ∨ p = l.el.length) : RetV Tryz.prog 23 #[.slice l.addr l.el.length l.cap, .int .i64 p, .string n] w (.tuple #[.string (⟨#[]⟩ : ByteArray), .bool false]) := by
  have L0 := Sl.OK.le hl (by decide)
  have hr : ¬ ((0 : Int) ≤ p ∧ p ≤ (((l.el.length : Nat) : Int) - (1 : Int))) := by omega
  refine calls_of (args := [.slice l.addr l.el.length l.cap, .int .i64 p, .string n]) Tryz.func23 rfl Tryz.ntmps23 rfl (H := [(100, .fz (fun w => ok w l))]) (Facts.sep (.cons (supp_ok hl) (.nil))) ?_
  refine r_seq ?_
  refine r_region ?_
  refine s1 rfl (q_assign rfl) ?_
  refine s1 rfl (q_assign rfl) ?_
  refine o_end ?_
  refine r_seq ?_
  refine r_seq ?_
  refine r_region ?_
  refine s1 rfl (q_move rfl) ?_
  refine s1 rfl (q_move rfl) ?_
  refine s1 rfl (q_len Tryz.underlying22 rfl) ?_
  refine s1 rfl (q_sub rfl rfl (by omega)) ?_
  refine sx rfl (e_call en12 (.cons rfl (.cons rfl (.cons rfl (.nil)))) ((fun w hw => c12 p (0 : Int) (((l.el.length : Nat) : Int) - (1 : Int)) w))) (fun _ _ => ?_)
  refine s1 rfl (q_not rfl) ?_
  refine o_end ?_
  refine r_ifT rfl (hr) ?_
  refine r_seq ?_
  refine r_region ?_
  refine s1 rfl (q_assign rfl) ?_
  refine s1 rfl (q_assign rfl) ?_
  refine o_end ?_
  refine r_ret Tryz.func23 (res2 Tryz.results23 (res_tmp (s := 6) rfl) (res_tmp (s := 7) rfl)) (fun w hw => ?_)
  exact ⟨rfl, hw.kp⟩


theorem c23b (l : Sl EvM) (p : Int) (n : ByteArray) (w : World) (hl : ok w l) (hp : 0 ≤ p ∧ p < l.el.length) (hk : (nth l.el p.toNat).kind = (1 : Int)) : RetV Tryz.prog 23 #[.slice l.addr l.el.length l.cap, .int .i64 p, .string n] w (.tuple #[.string (varOf (nth l.el p.toNat).locals.el n).1, .bool (varOf (nth l.el p.toNat).locals.el n).2]) := by
  have L0 := Sl.OK.le hl (by decide)
  have hr : (0 : Int) ≤ p ∧ p ≤ (((l.el.length : Nat) : Int) - (1 : Int)) := by omega
  refine calls_of (args := [.slice l.addr l.el.length l.cap, .int .i64 p, .string n]) Tryz.func23 rfl Tryz.ntmps23 rfl (H := [(100, .fz (fun w => ok w l))]) (Facts.sep (.cons (supp_ok hl) (.nil))) ?_
  refine r_seq ?_
  refine r_region ?_
  refine s1 rfl (q_assign rfl) ?_
  refine s1 rfl (q_assign rfl) ?_
  refine o_end ?_
  refine r_seq ?_
  refine r_seq ?_
  refine r_region ?_
  refine s1 rfl (q_move rfl) ?_
  refine s1 rfl (q_move rfl) ?_
  refine s1 rfl (q_len Tryz.underlying22 rfl) ?_
  refine s1 rfl (q_sub rfl rfl (by omega)) ?_
  refine sx rfl (e_call en12 (.cons rfl (.cons rfl (.cons rfl (.nil)))) ((fun w hw => c12 p (0 : Int) (((l.el.length : Nat) : Int) - (1 : Int)) w))) (fun _ _ => ?_)
  refine s1 rfl (q_not rfl) ?_
  refine o_end ?_
  refine r_ifF rfl ((fun h => h hr)) ?_
  refine r_skip ?_
  refine r_seq ?_
  refine r_seq ?_
  refine r_region ?_
  refine s1 rfl (q_move rfl) ?_
  refine s1 rfl (q_assign rfl) ?_
  refine o_end ?_
  refine r_block ?_
  refine r_loop ?_
  refine r_seq ?_
  refine r_seq ?_
  refine r_region ?_
  refine s1 rfl (q_move rfl) ?_
  refine s1 rfl (q_geq rfl rfl) ?_
  refine o_end ?_
  refine r_ifT rfl (hp.1) ?_
  refine r_skip ?_
  refine r_seq ?_
  refine r_block ?_
  refine r_seq ?_
  refine r_seq ?_
  refine r_cut [(0, .slice l.addr l.el.length l.cap), (1, .int .i64 p), (2, .string n), (8, .int .i64 p), (38, .bool (decide (((nth l.el p.toNat).depth = (nth l.el p.toNat).depth) ∧ ((nth l.el p.toNat).kind = (1 : Int)))))] [(100, .fz (fun w => ok w l))] ?_ (fun key => ?_)
  · refine r_ifT rfl (⟨rfl, hk⟩) ?_
    refine r_seq ?_
    refine r_region ?_
    refine s1 rfl (q_move rfl) ?_
    refine s1 rfl (q_move rfl) ?_
    refine s1 rfl (q_indexAddr Tryz.underlying22 z42 rfl rfl rfl (by omega) (by omega) (fun w hw => Sl.OK.isSome (hw.get_fz (t := 100) rfl) (by decide) (i := p.toNat) (by omega))) ?_
    refine s1 rfl (q_loads (cs := enc (nth l.el p.toNat)) ag42 z42 rfl rfl (fun w hw => Sl.OK.cells (hw.get_fz (t := 100) rfl) (i := p.toNat) (by omega))) ?_
    refine s1 rfl (q_move rfl) ?_
    refine sx rfl (e_call en50 (.cons rfl (.cons rfl (.nil))) ((fun w hw => c50 (nth l.el p.toNat) n w (Sl.OK.nthOK (hw.get_fz (t := 100) rfl) (i := p.toNat) (by omega))))) (fun _ _ => ?_)
    refine s1 rfl (q_extract rfl rfl) ?_
    refine s1 rfl (q_extract rfl rfl) ?_
    refine s1 rfl (q_assign rfl) ?_
    refine s1 rfl (q_assign rfl) ?_
    refine o_end ?_
    refine r_ret Tryz.func23 (res2 Tryz.results23 (res_tmp (s := 6) rfl) (res_tmp (s := 7) rfl)) (fun w hw => ?_)
    exact ⟨rfl, hw.kp⟩
  · refine r_draw [(100, .fz (fun w => ok w l))] (by kernel_rfl) rfl (.cons rfl (.nil)) ?_
    refine d1 0 rfl (by kernel_rfl) rfl rfl (q_move rfl) ?_
    refine d1 1 rfl (by kernel_rfl) rfl rfl (q_move rfl) ?_
    refine d1 2 rfl (by kernel_rfl) rfl rfl (q_indexAddr Tryz.underlying22 z42 rfl rfl rfl (by omega) (by omega) (fun w hw => Sl.OK.isSome (hw.get_fz (t := 100) rfl) (by decide) (i := p.toNat) (by omega))) ?_
    refine d1 3 rfl (by kernel_rfl) rfl rfl (q_fieldAddr of42_4 rfl rfl) ?_
    refine d1 4 rfl (by kernel_rfl) rfl rfl (q_load ag3 rfl (fun w hw => Sl.OK.cell (hw.get_fz (t := 100) rfl) (i := p.toNat) (j := 4) (by omega) rfl)) ?_
    refine d1 5 rfl (by kernel_rfl) rfl rfl (q_move rfl) ?_
    refine d1 6 rfl (by kernel_rfl) rfl rfl (q_move rfl) ?_
    refine d1 7 rfl (by kernel_rfl) rfl rfl (q_indexAddr Tryz.underlying22 z42 rfl rfl rfl (by omega) (by omega) (fun w hw => Sl.OK.isSome (hw.get_fz (t := 100) rfl) (by decide) (i := p.toNat) (by omega))) ?_
    refine d1 8 rfl (by kernel_rfl) rfl rfl (q_fieldAddr of42_4 rfl rfl) ?_
    refine d1 9 rfl (by kernel_rfl) rfl rfl (q_load ag3 rfl (fun w hw => Sl.OK.cell (hw.get_fz (t := 100) rfl) (i := p.toNat) (j := 4) (by omega) rfl)) ?_
    refine d1 10 rfl (by kernel_rfl) rfl rfl (q_eql rfl rfl) ?_
    refine d1 11 rfl (by kernel_rfl) rfl rfl (q_move rfl) ?_
    refine AnyE.know (s := 31) rfl (fun hp1 => ?_) (fun hp1 => ?_)
    · refine d1g 12 rfl (by kernel_rfl) rfl rfl rfl rfl (q_move rfl) ?_
      refine d1g 13 rfl (by kernel_rfl) rfl rfl rfl rfl (q_move rfl) ?_
      refine d1g 14 rfl (by kernel_rfl) rfl rfl rfl rfl (q_indexAddr Tryz.underlying22 z42 rfl rfl rfl (by omega) (by omega) (fun w hw => Sl.OK.isSome (hw.get_fz (t := 100) rfl) (by decide) (i := p.toNat) (by omega))) ?_
      refine d1g 15 rfl (by kernel_rfl) rfl rfl rfl rfl (q_fieldAddr of42_0 rfl rfl) ?_
      refine d1g 16 rfl (by kernel_rfl) rfl rfl rfl rfl (q_load ag3 rfl (fun w hw => Sl.OK.cell (hw.get_fz (t := 100) rfl) (i := p.toNat) (j := 0) (by omega) rfl)) ?_
      refine d1g 17 rfl (by kernel_rfl) rfl rfl rfl rfl (q_eql rfl rfl) ?_
      refine d1 18 rfl (by kernel_rfl) rfl rfl (q_pickt rfl rfl) ?_
      refine d_end (by kernel_rfl) ?_
      exact key.weaken (.cons rfl (.cons rfl (.cons rfl (.cons rfl (.consE rfl (congrArg Value.bool (by first | (simp only [hp1, hk, ne_eq, not_true_eq_false, not_false_eq_true, true_or, or_true, false_or, or_false, true_and, and_true, false_and, and_false, Bool.decide_eq_true] <;> first | exact nb_dec _ | exact b_dec _ | (simp; done)) | exact nb_dec _ | exact b_dec _ | (simp; done) | (exfalso; omega))) (.nil)))))) (.cons rfl (.nil))
    · refine d1o 12 rfl (by kernel_rfl) rfl rfl rfl rfl ?_
      refine d1o 13 rfl (by kernel_rfl) rfl rfl rfl rfl ?_
      refine d1o 14 rfl (by kernel_rfl) rfl rfl rfl rfl ?_
      refine d1o 15 rfl (by kernel_rfl) rfl rfl rfl rfl ?_
      refine d1o 16 rfl (by kernel_rfl) rfl rfl rfl rfl ?_
      refine d1o 17 rfl (by kernel_rfl) rfl rfl rfl rfl ?_
      refine d1 18 rfl (by kernel_rfl) rfl rfl (q_pickf rfl rfl) ?_
      refine d_end (by kernel_rfl) ?_
      exact key.weaken (.cons rfl (.cons rfl (.cons rfl (.cons rfl (.consE rfl (congrArg Value.bool (decide_eq_false (fun h => hp1 h.1)).symm) (.nil)))))) (.cons rfl (.nil))

end Go.Proofs.YtecibcjckinngaaGreatDoor
/- What the reference's move computes. -/
set_option linter.unusedVariables false
namespace Go.Proofs.YtecibcjckinngaaGreatDoor
open Go Go.RowKit Enc
def fwR (c : ByteArray) : Bool := decide ((((c = sStep) ∨ (c = sOver)) ∨ (c = sOut)) ∨ (c = sGo))
theorem fwR_eq (c : ByteArray) : decide ((((c = sStep) ∨ (c = sOver)) ∨ (c = sOut)) ∨ (c = sGo)) = fwR c := rfl
def dR (l : List EvM) (p : Int) : Int := if (0 : Int) ≤ p ∧ p ≤ (((l.length : Nat) : Int) - (1 : Int)) then (nth l p.toNat).depth else (100000 : Int)
def qR (brk : List BrkM) (d : Int) (c : ByteArray) (e : EvM) : Bool :=
  decide (e.kind = (1 : Int)) && (if (c = sOver) ∨ (c = sUnder) then decide (e.depth ≤ d) else if c = sOut then decide (e.depth < d) else if (c = sGo) ∨ (c = sRewind) then brk.any (hitB e) else true)
theorem qr_a {brk : List BrkM} {d : Int} {c : ByteArray} {e : EvM} (h : (c = sOver) ∨ (c = sUnder)) : decide ((e.kind = (1 : Int)) ∧ (e.depth ≤ d)) = qR brk d c e := by rw [qR, if_pos h, Bool.decide_and]
theorem qr_b {brk : List BrkM} {d : Int} {c : ByteArray} {e : EvM} (h : ¬ ((c = sOver) ∨ (c = sUnder))) (h2 : c = sOut) : decide ((e.kind = (1 : Int)) ∧ (e.depth < d)) = qR brk d c e := by rw [qR, if_neg h, if_pos h2, Bool.decide_and]
theorem qr_c {brk : List BrkM} {d : Int} {c : ByteArray} {e : EvM} (h : ¬ ((c = sOver) ∨ (c = sUnder))) (h2 : ¬ c = sOut) (h3 : (c = sGo) ∨ (c = sRewind)) : decide ((e.kind = (1 : Int)) ∧ (brk.any (hitB e) = true)) = qR brk d c e := by rw [qR, if_neg h, if_neg h2, if_pos h3, Bool.decide_and, Bool.decide_eq_true]
theorem qr_d {brk : List BrkM} {d : Int} {c : ByteArray} {e : EvM} (h : ¬ ((c = sOver) ∨ (c = sUnder))) (h2 : ¬ c = sOut) (h3 : ¬ ((c = sGo) ∨ (c = sRewind))) : decide (e.kind = (1 : Int)) = qR brk d c e := by rw [qR, if_neg h, if_neg h2, if_neg h3, Bool.and_true]
def bestC (q : EvM → Bool) (p : Int) (fw : Bool) (e : EvM) (i : Nat) (best : Int) : Prop := ((((q e = true) ∧ (fw = true)) ∧ (p < ((i : Nat) : Int))) ∧ (((i : Nat) : Int) < best)) ∨ (((q e = true) ∧ (¬ (fw = true))) ∧ (((i : Nat) : Int) < p))
instance (q : EvM → Bool) (p : Int) (fw : Bool) (e : EvM) (i : Nat) (best : Int) : Decidable (bestC q p fw e i best) := by unfold bestC; infer_instance
def best0 (l : List EvM) (fw : Bool) : Int := if fw = true then ((l.length : Nat) : Int) else (-1 : Int)
def bestN (l : List EvM) (q : EvM → Bool) (p : Int) (fw : Bool) : Nat → Int
  | 0 => best0 l fw
  | i + 1 => if bestC q p fw (nth l i) i (bestN l q p fw i) then ((i : Nat) : Int) else bestN l q p fw i
theorem best_y {l : List EvM} {q : EvM → Bool} {p : Int} {fw : Bool} {i : Nat} (h : bestC q p fw (nth l i) i (bestN l q p fw i)) : ((i : Nat) : Int) = bestN l q p fw (i + 1) := (if_pos h).symm
theorem best_n {l : List EvM} {q : EvM → Bool} {p : Int} {fw : Bool} {i : Nat} (h : ¬ bestC q p fw (nth l i) i (bestN l q p fw i)) : bestN l q p fw i = bestN l q p fw (i + 1) := (if_neg h).symm
def movedR (l : List EvM) (brk : List BrkM) (p : Int) (c : ByteArray) : Int := if motOk c = true then bestN l (qR brk (dR l p) c) p (fwR c) l.length else 0
def noMot (c : ByteArray) : Prop := (((¬ (fwR c = true)) ∧ (c ≠ sBack)) ∧ (c ≠ sUnder)) ∧ (c ≠ sRewind)
theorem mot_no {c : ByteArray} (h : noMot c) : motOk c = false := by
  obtain ⟨⟨⟨h1, h2⟩, h3⟩, h4⟩ := h
  simp only [fwR, decide_eq_true_eq, not_or] at h1
  simp only [motOk, motSt, if_neg h1.1.1.1, if_neg h1.1.1.2, if_neg h1.1.2, if_neg h1.2, if_neg h2, if_neg h3, if_neg h4]
  rfl
theorem mot_yes {c : ByteArray} (h : ¬ noMot c) : motOk c = true := by
  refine decide_eq_true (fun hz => h ?_)
  have key : ∀ (x : ByteArray) (v : Int), v ≠ 0 → True := fun _ _ _ => trivial
  unfold motSt at hz
  by_cases h1 : c = sStep
  · rw [if_pos h1] at hz; simp at hz
  by_cases h2 : c = sOver
  · rw [if_neg h1, if_pos h2] at hz; simp at hz
  by_cases h3 : c = sOut
  · rw [if_neg h1, if_neg h2, if_pos h3] at hz; simp at hz
  by_cases h4 : c = sGo
  · rw [if_neg h1, if_neg h2, if_neg h3, if_pos h4] at hz; simp at hz
  by_cases h5 : c = sBack
  · rw [if_neg h1, if_neg h2, if_neg h3, if_neg h4, if_pos h5] at hz; simp at hz
  by_cases h6 : c = sUnder
  · rw [if_neg h1, if_neg h2, if_neg h3, if_neg h4, if_neg h5, if_pos h6] at hz; simp at hz
  by_cases h7 : c = sRewind
  · rw [if_neg h1, if_neg h2, if_neg h3, if_neg h4, if_neg h5, if_neg h6, if_pos h7] at hz; simp at hz
  · exact ⟨⟨⟨by simp only [fwR, decide_eq_true_eq, not_or]; exact ⟨⟨⟨h1, h2⟩, h3⟩, h4⟩, h5⟩, h6⟩, h7⟩
theorem ret_ib {a a' : Int} {b b' : Bool} (h : a = a') (h' : b = b') : Ending.returned (.tuple #[.int .i64 a, .bool b]) = Ending.returned (.tuple #[.int .i64 a', .bool b']) := by rw [h, h']
end Go.Proofs.YtecibcjckinngaaGreatDoor
/- Walk over the reference's move. -/
set_option linter.unusedVariables false
namespace Go.Proofs.YtecibcjckinngaaGreatDoor
open Go Go.RowKit Enc
attribute [local irreducible] Effect OpsE RunE AnyE AnyAt Quiet Res1


theorem c20 (l : Sl EvM) (b : Sl BrkM) (p : Int) (c : ByteArray) (w : World) (hl : ok w l) (hb : ok w b) (hp : -1 ≤ p ∧ p ≤ l.el.length) : RetV Tryz.prog 20 #[.slice l.addr l.el.length l.cap, .slice b.addr b.el.length b.cap, .int .i64 p, .string c] w (.tuple #[.int .i64 (movedR l.el b.el p c), .bool (motOk c)]) := by
  have L0 := Sl.OK.le hl (by decide)
  refine calls_of (args := [.slice l.addr l.el.length l.cap, .slice b.addr b.el.length b.cap, .int .i64 p, .string c]) Tryz.func20 rfl Tryz.ntmps20 rfl (H := [(100, .fz (fun w => ok w l)), (101, .fz (fun w => ok w b))]) (Facts.sep (.cons (supp_ok hl) (.cons (supp_ok hb) (.nil)))) ?_
  refine r_seq ?_
  refine r_region ?_
  refine s1 rfl (q_assign rfl) ?_
  refine s1 rfl (q_assign rfl) ?_
  refine o_end ?_
  refine r_seq ?_
  refine r_region ?_
  refine s1 rfl (q_assign rfl) ?_
  refine o_end ?_
  refine r_seq ?_
  refine r_seq ?_
  refine r_region ?_
  refine s1 rfl (q_move rfl) ?_
  refine s1 rfl (q_move rfl) ?_
  refine s1 rfl (q_len Tryz.underlying22 rfl) ?_
  refine s1 rfl (q_sub rfl rfl (by omega)) ?_
  refine sx rfl (e_call en12 (.cons rfl (.cons rfl (.cons rfl (.nil)))) ((fun w hw => c12 p (0 : Int) (((l.el.length : Nat) : Int) - (1 : Int)) w))) (fun _ _ => ?_)
  refine o_end ?_
  refine r_cut [(0, .slice l.addr l.el.length l.cap), (1, .slice b.addr b.el.length b.cap), (2, .int .i64 p), (3, .string c), (10, .int .i64 (dR l.el p))] [(100, .fz (fun w => ok w l)), (101, .fz (fun w => ok w b))] ?_ (fun key1 => ?_)
  · refine r_seq ?_
    refine r_cut [(0, .slice l.addr l.el.length l.cap), (1, .slice b.addr b.el.length b.cap), (2, .int .i64 p), (3, .string c), (10, .int .i64 (dR l.el p)), (11, .bool (fwR c))] [(100, .fz (fun w => ok w l)), (101, .fz (fun w => ok w b))] ?_ (fun key => ?_)
    · refine r_seq ?_
      refine r_seq ?_
      refine r_cut [(0, .slice l.addr l.el.length l.cap), (1, .slice b.addr b.el.length b.cap), (2, .int .i64 p), (3, .string c), (10, .int .i64 (dR l.el p)), (11, .bool (fwR c)), (52, .bool (decide ((((¬ (fwR c = true)) ∧ (c ≠ sBack)) ∧ (c ≠ sUnder)) ∧ (c ≠ sRewind))))] [(100, .fz (fun w => ok w l)), (101, .fz (fun w => ok w b))] ?_ (fun key => ?_)
      · refine r_if rfl (fun hp2 => ?_) (fun hp2 => ?_)
        · refine r_seq ?_
          refine r_region ?_
          refine s1 rfl (q_assign rfl) ?_
          refine s1 rfl (q_assign rfl) ?_
          refine o_end ?_
          refine r_ret Tryz.func20 (res2 Tryz.results20 (res_tmp (s := 8) rfl) (res_tmp (s := 9) rfl)) (fun w hw => ?_)
          exact ⟨ret_ib (if_neg (by rw [mot_no (by assumption)]; simp)).symm (mot_no (by assumption)).symm, hw.kp⟩
        · refine r_skip ?_
          refine r_seq ?_
          refine r_region ?_
          refine s1 rfl (q_assign rfl) ?_
          refine o_end ?_
          refine r_seq ?_
          refine r_seq ?_
          refine r_region ?_
          refine s1 rfl (q_move rfl) ?_
          refine o_end ?_
          refine r_cut [(0, .slice l.addr l.el.length l.cap), (1, .slice b.addr b.el.length b.cap), (2, .int .i64 p), (3, .string c), (10, .int .i64 (dR l.el p)), (11, .bool (fwR c)), (12, .int .i64 (best0 l.el (fwR c)))] [(100, .fz (fun w => ok w l)), (101, .fz (fun w => ok w b))] ?_ (fun key3 => ?_)
          · refine r_seq ?_
            refine r_seq ?_
            refine r_region ?_
            refine s1 rfl (q_assign rfl) ?_
            refine o_end ?_
            refine r_block ?_
            refine r_loop ?_
            refine RunE.weaken ?_ ?_ (r_rounds (fun (i : Nat) => [(0, .slice l.addr l.el.length l.cap), (1, .slice b.addr b.el.length b.cap), (2, .int .i64 p), (3, .string c), (10, .int .i64 (dR l.el p)), (11, .bool (fwR c)), (12, .int .i64 (bestN l.el (qR b.el (dR l.el p) c) p (fwR c) i)), (13, .int .i64 ((i : Nat) : Int))]) (fun (i : Nat) => [(100, .fz (fun w => ok w l)), (101, .fz (fun w => ok w b))]) (fun (i : Nat) => i ≤ l.el.length) (fun (i : Nat) => l.el.length - i) ?_ 0 ?_)
            · exact (.cons rfl (.cons rfl (.cons rfl (.cons rfl (.cons rfl (.cons rfl (.cons rfl (.cons rfl (.nil)))))))))
            · exact (.cons rfl (.cons rfl (.nil)))
            · intro i hI0 ih0
              refine r_seq ?_
              refine r_seq ?_
              refine r_region ?_
              refine s1 rfl (q_move rfl) ?_
              refine s1 rfl (q_move rfl) ?_
              refine s1 rfl (q_len Tryz.underlying22 rfl) ?_
              refine s1 rfl (q_lss rfl rfl) ?_
              refine o_end ?_
              refine r_if rfl (fun hp4 => ?_) (fun hp4 => ?_)
              · refine r_skip ?_
                refine r_seq ?_
                refine r_block ?_
                refine r_seq ?_
                refine r_region ?_
                refine s1 rfl (q_move rfl) ?_
                refine s1 rfl (q_move rfl) ?_
                refine s1 rfl (q_indexAddr Tryz.underlying22 z42 rfl rfl rfl (by omega) (by omega) (fun w hw => Sl.OK.isSome (hw.get_fz (t := 100) rfl) (by decide) (i := i) (by omega))) ?_
                refine s1 rfl (q_fieldAddr of42_0 rfl rfl) ?_
                refine s1 rfl (q_load ag3 rfl (fun w hw => Sl.OK.cell (hw.get_fz (t := 100) rfl) (i := i) (j := 0) (by omega) rfl)) ?_
                refine s1 rfl (q_eql rfl rfl) ?_
                refine s1 rfl (q_assign rfl) ?_
                refine o_end ?_
                refine r_seq ?_
                refine r_seq ?_
                refine r_cut [(0, .slice l.addr l.el.length l.cap), (1, .slice b.addr b.el.length b.cap), (2, .int .i64 p), (3, .string c), (10, .int .i64 (dR l.el p)), (11, .bool (fwR c)), (12, .int .i64 (bestN l.el (qR b.el (dR l.el p) c) p (fwR c) i)), (13, .int .i64 ((i : Nat) : Int)), (14, .bool (decide ((nth l.el i).kind = (1 : Int)))), (73, .bool (decide ((c = sOver) ∨ (c = sUnder))))] [(100, .fz (fun w => ok w l)), (101, .fz (fun w => ok w b))] ?_ (fun key => ?_)
                · refine r_if rfl (fun hp5 => ?_) (fun hp5 => ?_)
                  · refine r_cut [(0, .slice l.addr l.el.length l.cap), (1, .slice b.addr b.el.length b.cap), (2, .int .i64 p), (3, .string c), (10, .int .i64 (dR l.el p)), (11, .bool (fwR c)), (12, .int .i64 (bestN l.el (qR b.el (dR l.el p) c) p (fwR c) i)), (13, .int .i64 ((i : Nat) : Int)), (14, .bool (decide (((nth l.el i).kind = (1 : Int)) ∧ ((nth l.el i).depth ≤ dR l.el p))))] [(100, .fz (fun w => ok w l)), (101, .fz (fun w => ok w b))] ?_ (fun key => ?_)
                    · refine r_seq ?_
                      refine r_cut [(0, .slice l.addr l.el.length l.cap), (1, .slice b.addr b.el.length b.cap), (2, .int .i64 p), (3, .string c), (10, .int .i64 (dR l.el p)), (11, .bool (fwR c)), (12, .int .i64 (bestN l.el (qR b.el (dR l.el p) c) p (fwR c) i)), (13, .int .i64 ((i : Nat) : Int)), (136, .bool (decide (((((qR b.el (dR l.el p) c (nth l.el i) = true) ∧ (fwR c = true)) ∧ (p < ((i : Nat) : Int))) ∧ (((i : Nat) : Int) < bestN l.el (qR b.el (dR l.el p) c) p (fwR c) i)) ∨ (((qR b.el (dR l.el p) c (nth l.el i) = true) ∧ (¬ (fwR c = true))) ∧ (((i : Nat) : Int) < p)))))] [(100, .fz (fun w => ok w l)), (101, .fz (fun w => ok w b))] ?_ (fun key => ?_)
                      · refine r_if rfl (fun hp6 => ?_) (fun hp6 => ?_)
                        · refine r_region ?_
                          refine s1 rfl (q_move rfl) ?_
                          refine s1 rfl (q_assign rfl) ?_
                          refine o_end ?_
                          refine r_inBlock ?_
                          refine r_region ?_
                          refine s1 rfl (q_move rfl) ?_
                          refine s1 rfl (q_add rfl rfl (by omega)) ?_
                          refine s1 rfl (q_assign rfl) ?_
                          refine o_end ?_
                          refine r_inLoop ?_
                          refine RunE.weaken ?_ ?_ (ih0 (i + 1) ?_ ?_)
                          · exact (.cons rfl (.cons rfl (.cons rfl (.cons rfl (.cons rfl (.cons rfl (.consE rfl (congrArg (Value.int .i64) (best_y (by assumption))) (.cons rfl (.nil)))))))))
                          · exact (.cons rfl (.cons rfl (.nil)))
                          · omega
                          · omega
                        · refine r_skip ?_
                          refine r_inBlock ?_
                          refine r_region ?_
                          refine s1 rfl (q_move rfl) ?_
                          refine s1 rfl (q_add rfl rfl (by omega)) ?_
                          refine s1 rfl (q_assign rfl) ?_
                          refine o_end ?_
                          refine r_inLoop ?_
                          refine RunE.weaken ?_ ?_ (ih0 (i + 1) ?_ ?_)
                          · exact (.cons rfl (.cons rfl (.cons rfl (.cons rfl (.cons rfl (.cons rfl (.consE rfl (congrArg (Value.int .i64) (best_n (by assumption))) (.cons rfl (.nil)))))))))
                          · exact (.cons rfl (.cons rfl (.nil)))
                          · omega
                          · omega
                      · refine r_region ?_
                        refine s1 rfl (Quiet.as (q_move rfl) (congrArg Value.bool (qr_a (brk := b.el) (d := dR l.el p) (c := c) (e := nth l.el i) (by assumption)))) ?_
                        refine s1 rfl (q_move rfl) ?_
                        refine g_splitb (s := 112) rfl (fun hp7 => ?_) (fun hp7 => ?_)
                        · refine g_on rfl rfl ?_
                          refine s1 rfl (q_move rfl) ?_
                          refine s1 rfl (q_pickt rfl rfl) ?_
                          refine s1 rfl (q_move rfl) ?_
                          refine g_splitb (s := 115) rfl (fun hp8 => ?_) (fun hp8 => ?_)
                          · refine g_on rfl rfl ?_
                            refine s1 rfl (q_move rfl) ?_
                            refine g_on rfl rfl ?_
                            refine s1 rfl (q_move rfl) ?_
                            refine g_on rfl rfl ?_
                            refine s1 rfl (q_gtr rfl rfl) ?_
                            refine s1 rfl (q_pickt rfl rfl) ?_
                            refine s1 rfl (q_move rfl) ?_
                            refine g_split (s := 120) rfl (fun hp9 => ?_) (fun hp9 => ?_)
                            · refine g_on rfl rfl ?_
                              refine s1 rfl (q_move rfl) ?_
                              refine g_on rfl rfl ?_
                              refine s1 rfl (q_move rfl) ?_
                              refine g_on rfl rfl ?_
                              refine s1 rfl (q_lss rfl rfl) ?_
                              refine s1 rfl (q_pickt rfl rfl) ?_
                              refine s1 rfl (q_move rfl) ?_
                              refine g_split (s := 125) rfl (fun hp10 => ?_) (fun hp10 => ?_)
                              · refine g_off rfl rfl rfl ?_
                                refine g_off rfl rfl rfl ?_
                                refine g_offu rfl rfl rfl ?_
                                refine g_offu rfl rfl rfl ?_
                                refine g_off rfl rfl rfl ?_
                                refine g_off rfl rfl rfl ?_
                                iterate 3 refine g_offu rfl rfl rfl ?_
                                refine g_off rfl rfl rfl ?_
                                refine s1 rfl (q_pickt rfl rfl) ?_
                                refine o_end ?_
                                exact key.weaken (.cons rfl (.cons rfl (.cons rfl (.cons rfl (.cons rfl (.cons rfl (.cons rfl (.cons rfl (.consE rfl (congrArg Value.bool (decide_eq_true (Or.inl ⟨⟨⟨hp7, hp8⟩, hp9⟩, hp10⟩)).symm) (.nil)))))))))) (.cons rfl (.cons rfl (.nil)))
                              · refine g_on rfl rfl ?_
                                refine s1 rfl (Quiet.as (q_move rfl) (congrArg Value.bool (qr_a (brk := b.el) (d := dR l.el p) (c := c) (e := nth l.el i) (by assumption)))) ?_
                                refine g_on rfl rfl ?_
                                refine s1 rfl (q_move rfl) ?_
                                refine g_splitb (s := 127) rfl (fun hp11 => ?_) (fun hp11 => ?_)
                                · refine g_on rfl rfl ?_
                                  refine s1 rfl (q_move rfl) ?_
                                  refine g_on rfl rfl ?_
                                  refine s1 rfl (q_notb rfl) ?_
                                  refine g_on rfl rfl ?_
                                  refine s1 rfl (q_pickt rfl rfl) ?_
                                  refine g_on rfl rfl ?_
                                  refine s1 rfl (q_move rfl) ?_
                                  refine g_splitb (s := 131) rfl (fun hp12 => ?_) (fun hp12 => ?_)
                                  · exact absurd (nb_t hp12) (fun h => h hp8)
                                  · refine g_off rfl rfl rfl ?_
                                    refine g_off rfl rfl rfl ?_
                                    refine g_off rfl rfl rfl ?_
                                    refine g_on rfl rfl ?_
                                    refine s1 rfl (q_pickf rfl rfl) ?_
                                    refine s1 rfl (q_pickf rfl rfl) ?_
                                    refine o_end ?_
                                    exact key.weaken (.cons rfl (.cons rfl (.cons rfl (.cons rfl (.cons rfl (.cons rfl (.cons rfl (.cons rfl (.consE rfl (congrArg Value.bool (decide_eq_false (fun h => h.elim (fun h => hp10 h.2) (fun h => (fun h => (nb_f hp12) h.2) h.1))).symm) (.nil)))))))))) (.cons rfl (.cons rfl (.nil)))
                                · exact absurd hp7 (Bool.eq_false_iff.1 hp11)
                            · refine g_off rfl rfl rfl ?_
                              refine g_off rfl rfl rfl ?_
                              refine g_off rfl rfl rfl ?_
                              refine s1 rfl (q_pickf rfl rfl) ?_
                              refine s1 rfl (q_move rfl) ?_
                              refine g_on rfl rfl ?_
                              refine s1 rfl (Quiet.as (q_move rfl) (congrArg Value.bool (qr_a (brk := b.el) (d := dR l.el p) (c := c) (e := nth l.el i) (by assumption)))) ?_
                              refine g_on rfl rfl ?_
                              refine s1 rfl (q_move rfl) ?_
                              refine g_splitb (s := 127) rfl (fun hp13 => ?_) (fun hp13 => ?_)
                              · refine g_on rfl rfl ?_
                                refine s1 rfl (q_move rfl) ?_
                                refine g_on rfl rfl ?_
                                refine s1 rfl (q_notb rfl) ?_
                                refine g_on rfl rfl ?_
                                refine s1 rfl (q_pickt rfl rfl) ?_
                                refine g_on rfl rfl ?_
                                refine s1 rfl (q_move rfl) ?_
                                refine g_splitb (s := 131) rfl (fun hp14 => ?_) (fun hp14 => ?_)
                                · exact absurd (nb_t hp14) (fun h => h hp8)
                                · refine g_off rfl rfl rfl ?_
                                  refine g_off rfl rfl rfl ?_
                                  refine g_off rfl rfl rfl ?_
                                  refine g_on rfl rfl ?_
                                  refine s1 rfl (q_pickf rfl rfl) ?_
                                  refine s1 rfl (q_pickf rfl rfl) ?_
                                  refine o_end ?_
                                  exact key.weaken (.cons rfl (.cons rfl (.cons rfl (.cons rfl (.cons rfl (.cons rfl (.cons rfl (.cons rfl (.consE rfl (congrArg Value.bool (decide_eq_false (fun h => h.elim (fun h => (fun h => hp9 h.2) h.1) (fun h => (fun h => (nb_f hp14) h.2) h.1))).symm) (.nil)))))))))) (.cons rfl (.cons rfl (.nil)))
                              · exact absurd hp7 (Bool.eq_false_iff.1 hp13)
                          · refine g_off rfl rfl rfl ?_
                            refine g_off rfl rfl rfl ?_
                            refine g_off rfl rfl rfl ?_
                            refine s1 rfl (q_pickf rfl rfl) ?_
                            refine s1 rfl (q_move rfl) ?_
                            iterate 3 refine g_off rfl rfl rfl ?_
                            refine s1 rfl (q_pickf rfl rfl) ?_
                            refine s1 rfl (q_move rfl) ?_
                            refine g_on rfl rfl ?_
                            refine s1 rfl (Quiet.as (q_move rfl) (congrArg Value.bool (qr_a (brk := b.el) (d := dR l.el p) (c := c) (e := nth l.el i) (by assumption)))) ?_
                            refine g_on rfl rfl ?_
                            refine s1 rfl (q_move rfl) ?_
                            refine g_splitb (s := 127) rfl (fun hp15 => ?_) (fun hp15 => ?_)
                            · refine g_on rfl rfl ?_
                              refine s1 rfl (q_move rfl) ?_
                              refine g_on rfl rfl ?_
                              refine s1 rfl (q_notb rfl) ?_
                              refine g_on rfl rfl ?_
                              refine s1 rfl (q_pickt rfl rfl) ?_
                              refine g_on rfl rfl ?_
                              refine s1 rfl (q_move rfl) ?_
                              refine g_splitb (s := 131) rfl (fun hp16 => ?_) (fun hp16 => ?_)
                              · refine g_on rfl rfl ?_
                                refine s1 rfl (q_move rfl) ?_
                                refine g_on rfl rfl ?_
                                refine s1 rfl (q_move rfl) ?_
                                refine g_on rfl rfl ?_
                                refine s1 rfl (q_lss rfl rfl) ?_
                                refine g_on rfl rfl ?_
                                refine s1 rfl (q_pickt rfl rfl) ?_
                                refine s1 rfl (q_pickf rfl rfl) ?_
                                refine o_end ?_
                                exact key.weaken (.cons rfl (.cons rfl (.cons rfl (.cons rfl (.cons rfl (.cons rfl (.cons rfl (.cons rfl (.consE rfl (congrArg Value.bool (by first | (simp only [hp15, (Bool.eq_false_iff.1 hp8), (nb_t hp16), sStep, sOver, sOut, sGo, sBack, sUnder, sRewind, ne_eq, not_true_eq_false, not_false_eq_true, true_or, or_true, false_or, or_false, true_and, and_true, false_and, and_false, Bool.decide_eq_true] <;> first | exact nb_dec _ | exact b_dec _ | (simp; done)) | (simp only [hp15, (Bool.eq_false_iff.1 hp8), (nb_t hp16), fwR, sStep, sOver, sOut, sGo, sBack, sUnder, sRewind, ne_eq, not_true_eq_false, not_false_eq_true, true_or, or_true, false_or, or_false, true_and, and_true, false_and, and_false, Bool.decide_eq_true] <;> first | exact nb_dec _ | exact b_dec _ | (simp; done)) | exact nb_dec _ | exact b_dec _ | (simp; done) | (exfalso; omega))) (.nil)))))))))) (.cons rfl (.cons rfl (.nil)))
                              · exact absurd (Bool.eq_false_iff.1 hp8) (nb_f hp16)
                            · exact absurd hp7 (Bool.eq_false_iff.1 hp15)
                        · refine g_off rfl rfl rfl ?_
                          refine s1 rfl (q_pickf rfl rfl) ?_
                          refine s1 rfl (q_move rfl) ?_
                          iterate 3 refine g_off rfl rfl rfl ?_
                          refine s1 rfl (q_pickf rfl rfl) ?_
                          refine s1 rfl (q_move rfl) ?_
                          iterate 3 refine g_off rfl rfl rfl ?_
                          refine s1 rfl (q_pickf rfl rfl) ?_
                          refine s1 rfl (q_move rfl) ?_
                          refine g_on rfl rfl ?_
                          refine s1 rfl (Quiet.as (q_move rfl) (congrArg Value.bool (qr_a (brk := b.el) (d := dR l.el p) (c := c) (e := nth l.el i) (by assumption)))) ?_
                          refine g_on rfl rfl ?_
                          refine s1 rfl (q_move rfl) ?_
                          refine g_splitb (s := 127) rfl (fun hp17 => ?_) (fun hp17 => ?_)
                          · exact absurd hp17 (Bool.eq_false_iff.1 hp7)
                          · refine g_off rfl rfl rfl ?_
                            refine g_off rfl rfl rfl ?_
                            refine g_on rfl rfl ?_
                            refine s1 rfl (q_pickf rfl rfl) ?_
                            refine g_on rfl rfl ?_
                            refine s1 rfl (q_move rfl) ?_
                            iterate 3 refine g_off rfl rfl rfl ?_
                            refine g_on rfl rfl ?_
                            refine s1 rfl (q_pickf rfl rfl) ?_
                            refine s1 rfl (q_pickf rfl rfl) ?_
                            refine o_end ?_
                            exact key.weaken (.cons rfl (.cons rfl (.cons rfl (.cons rfl (.cons rfl (.cons rfl (.cons rfl (.cons rfl (.consE rfl (congrArg Value.bool (decide_eq_false (fun h => h.elim (fun h => (fun h => (fun h => (Bool.eq_false_iff.1 hp17) h.1) h.1) h.1) (fun h => (fun h => (Bool.eq_false_iff.1 hp17) h.1) h.1))).symm) (.nil)))))))))) (.cons rfl (.cons rfl (.nil)))
                    · refine r_region ?_
                      refine s1 rfl (q_move rfl) ?_
                      refine s1 rfl (q_move rfl) ?_
                      refine g_split (s := 75) rfl (fun hp18 => ?_) (fun hp18 => ?_)
                      · refine g_on rfl rfl ?_
                        refine s1 rfl (q_move rfl) ?_
                        refine g_on rfl rfl ?_
                        refine s1 rfl (q_move rfl) ?_
                        refine g_on rfl rfl ?_
                        refine s1 rfl (q_indexAddr Tryz.underlying22 z42 rfl rfl rfl (by omega) (by omega) (fun w hw => Sl.OK.isSome (hw.get_fz (t := 100) rfl) (by decide) (i := i) (by omega))) ?_
                        refine g_on rfl rfl ?_
                        refine s1 rfl (q_fieldAddr of42_4 rfl rfl) ?_
                        refine g_on rfl rfl ?_
                        refine s1 rfl (q_load ag3 rfl (fun w hw => Sl.OK.cell (hw.get_fz (t := 100) rfl) (i := i) (j := 4) (by omega) rfl)) ?_
                        refine g_on rfl rfl ?_
                        refine s1 rfl (q_move rfl) ?_
                        refine g_on rfl rfl ?_
                        refine s1 rfl (q_leq rfl rfl) ?_
                        refine s1 rfl (q_pickt rfl rfl) ?_
                        refine s1 rfl (q_assign rfl) ?_
                        refine o_end ?_
                        exact key.weaken (.cons rfl (.cons rfl (.cons rfl (.cons rfl (.cons rfl (.cons rfl (.cons rfl (.cons rfl (.consE rfl (congrArg Value.bool (by first | (simp only [hp18, sStep, sOver, sOut, sGo, sBack, sUnder, sRewind, ne_eq, not_true_eq_false, not_false_eq_true, true_or, or_true, false_or, or_false, true_and, and_true, false_and, and_false, Bool.decide_eq_true] <;> first | exact nb_dec _ | exact b_dec _ | (simp; done)) | (simp only [hp18, fwR, sStep, sOver, sOut, sGo, sBack, sUnder, sRewind, ne_eq, not_true_eq_false, not_false_eq_true, true_or, or_true, false_or, or_false, true_and, and_true, false_and, and_false, Bool.decide_eq_true] <;> first | exact nb_dec _ | exact b_dec _ | (simp; done)) | exact nb_dec _ | exact b_dec _ | (simp; done) | (exfalso; omega))) (.nil)))))))))) (.cons rfl (.cons rfl (.nil)))
                      · refine g_off rfl rfl rfl ?_
                        iterate 6 refine g_off rfl rfl rfl ?_
                        refine s1 rfl (q_pickf rfl rfl) ?_
                        refine s1 rfl (q_assign rfl) ?_
                        refine o_end ?_
                        exact key.weaken (.cons rfl (.cons rfl (.cons rfl (.cons rfl (.cons rfl (.cons rfl (.cons rfl (.cons rfl (.consE rfl (congrArg Value.bool (decide_eq_false (fun h => hp18 h.1)).symm) (.nil)))))))))) (.cons rfl (.cons rfl (.nil)))
                  · refine r_seq ?_
                    refine r_region ?_
                    refine s1 rfl (q_move rfl) ?_
                    refine s1 rfl (q_seql rfl rfl) ?_
                    refine o_end ?_
                    refine r_if rfl (fun hp19 => ?_) (fun hp19 => ?_)
                    · refine r_cut [(0, .slice l.addr l.el.length l.cap), (1, .slice b.addr b.el.length b.cap), (2, .int .i64 p), (3, .string c), (10, .int .i64 (dR l.el p)), (11, .bool (fwR c)), (12, .int .i64 (bestN l.el (qR b.el (dR l.el p) c) p (fwR c) i)), (13, .int .i64 ((i : Nat) : Int)), (14, .bool (decide (((nth l.el i).kind = (1 : Int)) ∧ ((nth l.el i).depth < dR l.el p))))] [(100, .fz (fun w => ok w l)), (101, .fz (fun w => ok w b))] ?_ (fun key => ?_)
                      · refine r_seq ?_
                        refine r_cut [(0, .slice l.addr l.el.length l.cap), (1, .slice b.addr b.el.length b.cap), (2, .int .i64 p), (3, .string c), (10, .int .i64 (dR l.el p)), (11, .bool (fwR c)), (12, .int .i64 (bestN l.el (qR b.el (dR l.el p) c) p (fwR c) i)), (13, .int .i64 ((i : Nat) : Int)), (136, .bool (decide (((((qR b.el (dR l.el p) c (nth l.el i) = true) ∧ (fwR c = true)) ∧ (p < ((i : Nat) : Int))) ∧ (((i : Nat) : Int) < bestN l.el (qR b.el (dR l.el p) c) p (fwR c) i)) ∨ (((qR b.el (dR l.el p) c (nth l.el i) = true) ∧ (¬ (fwR c = true))) ∧ (((i : Nat) : Int) < p)))))] [(100, .fz (fun w => ok w l)), (101, .fz (fun w => ok w b))] ?_ (fun key => ?_)
                        · refine r_if rfl (fun hp20 => ?_) (fun hp20 => ?_)
                          · refine r_region ?_
                            refine s1 rfl (q_move rfl) ?_
                            refine s1 rfl (q_assign rfl) ?_
                            refine o_end ?_
                            refine r_inBlock ?_
                            refine r_region ?_
                            refine s1 rfl (q_move rfl) ?_
                            refine s1 rfl (q_add rfl rfl (by omega)) ?_
                            refine s1 rfl (q_assign rfl) ?_
                            refine o_end ?_
                            refine r_inLoop ?_
                            refine RunE.weaken ?_ ?_ (ih0 (i + 1) ?_ ?_)
                            · exact (.cons rfl (.cons rfl (.cons rfl (.cons rfl (.cons rfl (.cons rfl (.consE rfl (congrArg (Value.int .i64) (best_y (by assumption))) (.cons rfl (.nil)))))))))
                            · exact (.cons rfl (.cons rfl (.nil)))
                            · omega
                            · omega
                          · refine r_skip ?_
                            refine r_inBlock ?_
                            refine r_region ?_
                            refine s1 rfl (q_move rfl) ?_
                            refine s1 rfl (q_add rfl rfl (by omega)) ?_
                            refine s1 rfl (q_assign rfl) ?_
                            refine o_end ?_
                            refine r_inLoop ?_
                            refine RunE.weaken ?_ ?_ (ih0 (i + 1) ?_ ?_)
                            · exact (.cons rfl (.cons rfl (.cons rfl (.cons rfl (.cons rfl (.cons rfl (.consE rfl (congrArg (Value.int .i64) (best_n (by assumption))) (.cons rfl (.nil)))))))))
                            · exact (.cons rfl (.cons rfl (.nil)))
                            · omega
                            · omega
                        · refine r_region ?_
                          refine s1 rfl (Quiet.as (q_move rfl) (congrArg Value.bool (qr_b (brk := b.el) (d := dR l.el p) (c := c) (e := nth l.el i) (by assumption) (by assumption)))) ?_
                          refine s1 rfl (q_move rfl) ?_
                          refine g_splitb (s := 112) rfl (fun hp21 => ?_) (fun hp21 => ?_)
                          · refine g_on rfl rfl ?_
                            refine s1 rfl (q_move rfl) ?_
                            refine s1 rfl (q_pickt rfl rfl) ?_
                            refine s1 rfl (q_move rfl) ?_
                            refine g_splitb (s := 115) rfl (fun hp22 => ?_) (fun hp22 => ?_)
                            · refine g_on rfl rfl ?_
                              refine s1 rfl (q_move rfl) ?_
                              refine g_on rfl rfl ?_
                              refine s1 rfl (q_move rfl) ?_
                              refine g_on rfl rfl ?_
                              refine s1 rfl (q_gtr rfl rfl) ?_
                              refine s1 rfl (q_pickt rfl rfl) ?_
                              refine s1 rfl (q_move rfl) ?_
                              refine g_split (s := 120) rfl (fun hp23 => ?_) (fun hp23 => ?_)
                              · refine g_on rfl rfl ?_
                                refine s1 rfl (q_move rfl) ?_
                                refine g_on rfl rfl ?_
                                refine s1 rfl (q_move rfl) ?_
                                refine g_on rfl rfl ?_
                                refine s1 rfl (q_lss rfl rfl) ?_
                                refine s1 rfl (q_pickt rfl rfl) ?_
                                refine s1 rfl (q_move rfl) ?_
                                refine g_split (s := 125) rfl (fun hp24 => ?_) (fun hp24 => ?_)
                                · refine g_off rfl rfl rfl ?_
                                  refine g_off rfl rfl rfl ?_
                                  refine g_offu rfl rfl rfl ?_
                                  refine g_offu rfl rfl rfl ?_
                                  refine g_off rfl rfl rfl ?_
                                  refine g_off rfl rfl rfl ?_
                                  iterate 3 refine g_offu rfl rfl rfl ?_
                                  refine g_off rfl rfl rfl ?_
                                  refine s1 rfl (q_pickt rfl rfl) ?_
                                  refine o_end ?_
                                  exact key.weaken (.cons rfl (.cons rfl (.cons rfl (.cons rfl (.cons rfl (.cons rfl (.cons rfl (.cons rfl (.consE rfl (congrArg Value.bool (decide_eq_true (Or.inl ⟨⟨⟨hp21, hp22⟩, hp23⟩, hp24⟩)).symm) (.nil)))))))))) (.cons rfl (.cons rfl (.nil)))
                                · refine g_on rfl rfl ?_
                                  refine s1 rfl (Quiet.as (q_move rfl) (congrArg Value.bool (qr_b (brk := b.el) (d := dR l.el p) (c := c) (e := nth l.el i) (by assumption) (by assumption)))) ?_
                                  refine g_on rfl rfl ?_
                                  refine s1 rfl (q_move rfl) ?_
                                  refine g_splitb (s := 127) rfl (fun hp25 => ?_) (fun hp25 => ?_)
                                  · refine g_on rfl rfl ?_
                                    refine s1 rfl (q_move rfl) ?_
                                    refine g_on rfl rfl ?_
                                    refine s1 rfl (q_notb rfl) ?_
                                    refine g_on rfl rfl ?_
                                    refine s1 rfl (q_pickt rfl rfl) ?_
                                    refine g_on rfl rfl ?_
                                    refine s1 rfl (q_move rfl) ?_
                                    refine g_splitb (s := 131) rfl (fun hp26 => ?_) (fun hp26 => ?_)
                                    · exact absurd (nb_t hp26) (fun h => h hp22)
                                    · refine g_off rfl rfl rfl ?_
                                      refine g_off rfl rfl rfl ?_
                                      refine g_off rfl rfl rfl ?_
                                      refine g_on rfl rfl ?_
                                      refine s1 rfl (q_pickf rfl rfl) ?_
                                      refine s1 rfl (q_pickf rfl rfl) ?_
                                      refine o_end ?_
                                      exact key.weaken (.cons rfl (.cons rfl (.cons rfl (.cons rfl (.cons rfl (.cons rfl (.cons rfl (.cons rfl (.consE rfl (congrArg Value.bool (decide_eq_false (fun h => h.elim (fun h => hp24 h.2) (fun h => (fun h => (nb_f hp26) h.2) h.1))).symm) (.nil)))))))))) (.cons rfl (.cons rfl (.nil)))
                                  · exact absurd hp21 (Bool.eq_false_iff.1 hp25)
                              · refine g_off rfl rfl rfl ?_
                                refine g_off rfl rfl rfl ?_
                                refine g_off rfl rfl rfl ?_
                                refine s1 rfl (q_pickf rfl rfl) ?_
                                refine s1 rfl (q_move rfl) ?_
                                refine g_on rfl rfl ?_
                                refine s1 rfl (Quiet.as (q_move rfl) (congrArg Value.bool (qr_b (brk := b.el) (d := dR l.el p) (c := c) (e := nth l.el i) (by assumption) (by assumption)))) ?_
                                refine g_on rfl rfl ?_
                                refine s1 rfl (q_move rfl) ?_
                                refine g_splitb (s := 127) rfl (fun hp27 => ?_) (fun hp27 => ?_)
                                · refine g_on rfl rfl ?_
                                  refine s1 rfl (q_move rfl) ?_
                                  refine g_on rfl rfl ?_
                                  refine s1 rfl (q_notb rfl) ?_
                                  refine g_on rfl rfl ?_
                                  refine s1 rfl (q_pickt rfl rfl) ?_
                                  refine g_on rfl rfl ?_
                                  refine s1 rfl (q_move rfl) ?_
                                  refine g_splitb (s := 131) rfl (fun hp28 => ?_) (fun hp28 => ?_)
                                  · exact absurd (nb_t hp28) (fun h => h hp22)
                                  · refine g_off rfl rfl rfl ?_
                                    refine g_off rfl rfl rfl ?_
                                    refine g_off rfl rfl rfl ?_
                                    refine g_on rfl rfl ?_
                                    refine s1 rfl (q_pickf rfl rfl) ?_
                                    refine s1 rfl (q_pickf rfl rfl) ?_
                                    refine o_end ?_
                                    exact key.weaken (.cons rfl (.cons rfl (.cons rfl (.cons rfl (.cons rfl (.cons rfl (.cons rfl (.cons rfl (.consE rfl (congrArg Value.bool (decide_eq_false (fun h => h.elim (fun h => (fun h => hp23 h.2) h.1) (fun h => (fun h => (nb_f hp28) h.2) h.1))).symm) (.nil)))))))))) (.cons rfl (.cons rfl (.nil)))
                                · exact absurd hp21 (Bool.eq_false_iff.1 hp27)
                            · refine g_off rfl rfl rfl ?_
                              refine g_off rfl rfl rfl ?_
                              refine g_off rfl rfl rfl ?_
                              refine s1 rfl (q_pickf rfl rfl) ?_
                              refine s1 rfl (q_move rfl) ?_
                              iterate 3 refine g_off rfl rfl rfl ?_
                              refine s1 rfl (q_pickf rfl rfl) ?_
                              refine s1 rfl (q_move rfl) ?_
                              refine g_on rfl rfl ?_
                              refine s1 rfl (Quiet.as (q_move rfl) (congrArg Value.bool (qr_b (brk := b.el) (d := dR l.el p) (c := c) (e := nth l.el i) (by assumption) (by assumption)))) ?_
                              refine g_on rfl rfl ?_
                              refine s1 rfl (q_move rfl) ?_
                              refine g_splitb (s := 127) rfl (fun hp29 => ?_) (fun hp29 => ?_)
                              · refine g_on rfl rfl ?_
                                refine s1 rfl (q_move rfl) ?_
                                refine g_on rfl rfl ?_
                                refine s1 rfl (q_notb rfl) ?_
                                refine g_on rfl rfl ?_
                                refine s1 rfl (q_pickt rfl rfl) ?_
                                refine g_on rfl rfl ?_
                                refine s1 rfl (q_move rfl) ?_
                                refine g_splitb (s := 131) rfl (fun hp30 => ?_) (fun hp30 => ?_)
                                · refine g_on rfl rfl ?_
                                  refine s1 rfl (q_move rfl) ?_
                                  refine g_on rfl rfl ?_
                                  refine s1 rfl (q_move rfl) ?_
                                  refine g_on rfl rfl ?_
                                  refine s1 rfl (q_lss rfl rfl) ?_
                                  refine g_on rfl rfl ?_
                                  refine s1 rfl (q_pickt rfl rfl) ?_
                                  refine s1 rfl (q_pickf rfl rfl) ?_
                                  refine o_end ?_
                                  exact key.weaken (.cons rfl (.cons rfl (.cons rfl (.cons rfl (.cons rfl (.cons rfl (.cons rfl (.cons rfl (.consE rfl (congrArg Value.bool (by first | (simp only [hp29, (Bool.eq_false_iff.1 hp22), (nb_t hp30), sStep, sOver, sOut, sGo, sBack, sUnder, sRewind, ne_eq, not_true_eq_false, not_false_eq_true, true_or, or_true, false_or, or_false, true_and, and_true, false_and, and_false, Bool.decide_eq_true] <;> first | exact nb_dec _ | exact b_dec _ | (simp; done)) | (simp only [hp29, (Bool.eq_false_iff.1 hp22), (nb_t hp30), fwR, sStep, sOver, sOut, sGo, sBack, sUnder, sRewind, ne_eq, not_true_eq_false, not_false_eq_true, true_or, or_true, false_or, or_false, true_and, and_true, false_and, and_false, Bool.decide_eq_true] <;> first | exact nb_dec _ | exact b_dec _ | (simp; done)) | exact nb_dec _ | exact b_dec _ | (simp; done) | (exfalso; omega))) (.nil)))))))))) (.cons rfl (.cons rfl (.nil)))
                                · exact absurd (Bool.eq_false_iff.1 hp22) (nb_f hp30)
                              · exact absurd hp21 (Bool.eq_false_iff.1 hp29)
                          · refine g_off rfl rfl rfl ?_
                            refine s1 rfl (q_pickf rfl rfl) ?_
                            refine s1 rfl (q_move rfl) ?_
                            iterate 3 refine g_off rfl rfl rfl ?_
                            refine s1 rfl (q_pickf rfl rfl) ?_
                            refine s1 rfl (q_move rfl) ?_
                            iterate 3 refine g_off rfl rfl rfl ?_
                            refine s1 rfl (q_pickf rfl rfl) ?_
                            refine s1 rfl (q_move rfl) ?_
                            refine g_on rfl rfl ?_
                            refine s1 rfl (Quiet.as (q_move rfl) (congrArg Value.bool (qr_b (brk := b.el) (d := dR l.el p) (c := c) (e := nth l.el i) (by assumption) (by assumption)))) ?_
                            refine g_on rfl rfl ?_
                            refine s1 rfl (q_move rfl) ?_
                            refine g_splitb (s := 127) rfl (fun hp31 => ?_) (fun hp31 => ?_)
                            · exact absurd hp31 (Bool.eq_false_iff.1 hp21)
                            · refine g_off rfl rfl rfl ?_
                              refine g_off rfl rfl rfl ?_
                              refine g_on rfl rfl ?_
                              refine s1 rfl (q_pickf rfl rfl) ?_
                              refine g_on rfl rfl ?_
                              refine s1 rfl (q_move rfl) ?_
                              iterate 3 refine g_off rfl rfl rfl ?_
                              refine g_on rfl rfl ?_
                              refine s1 rfl (q_pickf rfl rfl) ?_
                              refine s1 rfl (q_pickf rfl rfl) ?_
                              refine o_end ?_
                              exact key.weaken (.cons rfl (.cons rfl (.cons rfl (.cons rfl (.cons rfl (.cons rfl (.cons rfl (.cons rfl (.consE rfl (congrArg Value.bool (decide_eq_false (fun h => h.elim (fun h => (fun h => (fun h => (Bool.eq_false_iff.1 hp31) h.1) h.1) h.1) (fun h => (fun h => (Bool.eq_false_iff.1 hp31) h.1) h.1))).symm) (.nil)))))))))) (.cons rfl (.cons rfl (.nil)))
                      · refine r_region ?_
                        refine s1 rfl (q_move rfl) ?_
                        refine s1 rfl (q_move rfl) ?_
                        refine g_split (s := 87) rfl (fun hp32 => ?_) (fun hp32 => ?_)
                        · refine g_on rfl rfl ?_
                          refine s1 rfl (q_move rfl) ?_
                          refine g_on rfl rfl ?_
                          refine s1 rfl (q_move rfl) ?_
                          refine g_on rfl rfl ?_
                          refine s1 rfl (q_indexAddr Tryz.underlying22 z42 rfl rfl rfl (by omega) (by omega) (fun w hw => Sl.OK.isSome (hw.get_fz (t := 100) rfl) (by decide) (i := i) (by omega))) ?_
                          refine g_on rfl rfl ?_
                          refine s1 rfl (q_fieldAddr of42_4 rfl rfl) ?_
                          refine g_on rfl rfl ?_
                          refine s1 rfl (q_load ag3 rfl (fun w hw => Sl.OK.cell (hw.get_fz (t := 100) rfl) (i := i) (j := 4) (by omega) rfl)) ?_
                          refine g_on rfl rfl ?_
                          refine s1 rfl (q_move rfl) ?_
                          refine g_on rfl rfl ?_
                          refine s1 rfl (q_lss rfl rfl) ?_
                          refine s1 rfl (q_pickt rfl rfl) ?_
                          refine s1 rfl (q_assign rfl) ?_
                          refine o_end ?_
                          exact key.weaken (.cons rfl (.cons rfl (.cons rfl (.cons rfl (.cons rfl (.cons rfl (.cons rfl (.cons rfl (.consE rfl (congrArg Value.bool (by first | (simp only [hp32, sStep, sOver, sOut, sGo, sBack, sUnder, sRewind, ne_eq, not_true_eq_false, not_false_eq_true, true_or, or_true, false_or, or_false, true_and, and_true, false_and, and_false, Bool.decide_eq_true] <;> first | exact nb_dec _ | exact b_dec _ | (simp; done)) | (simp only [hp32, fwR, sStep, sOver, sOut, sGo, sBack, sUnder, sRewind, ne_eq, not_true_eq_false, not_false_eq_true, true_or, or_true, false_or, or_false, true_and, and_true, false_and, and_false, Bool.decide_eq_true] <;> first | exact nb_dec _ | exact b_dec _ | (simp; done)) | exact nb_dec _ | exact b_dec _ | (simp; done) | (exfalso; omega))) (.nil)))))))))) (.cons rfl (.cons rfl (.nil)))
                        · refine g_off rfl rfl rfl ?_
                          iterate 6 refine g_off rfl rfl rfl ?_
                          refine s1 rfl (q_pickf rfl rfl) ?_
                          refine s1 rfl (q_assign rfl) ?_
                          refine o_end ?_
                          exact key.weaken (.cons rfl (.cons rfl (.cons rfl (.cons rfl (.cons rfl (.cons rfl (.cons rfl (.cons rfl (.consE rfl (congrArg Value.bool (decide_eq_false (fun h => hp32 h.1)).symm) (.nil)))))))))) (.cons rfl (.cons rfl (.nil)))
                    · refine r_seq ?_
                      refine r_cut [(0, .slice l.addr l.el.length l.cap), (1, .slice b.addr b.el.length b.cap), (2, .int .i64 p), (3, .string c), (10, .int .i64 (dR l.el p)), (11, .bool (fwR c)), (12, .int .i64 (bestN l.el (qR b.el (dR l.el p) c) p (fwR c) i)), (13, .int .i64 ((i : Nat) : Int)), (14, .bool (decide ((nth l.el i).kind = (1 : Int)))), (101, .bool (decide ((c = sGo) ∨ (c = sRewind))))] [(100, .fz (fun w => ok w l)), (101, .fz (fun w => ok w b))] ?_ (fun key => ?_)
                      · refine r_if rfl (fun hp33 => ?_) (fun hp33 => ?_)
                        · refine r_cut [(0, .slice l.addr l.el.length l.cap), (1, .slice b.addr b.el.length b.cap), (2, .int .i64 p), (3, .string c), (10, .int .i64 (dR l.el p)), (11, .bool (fwR c)), (12, .int .i64 (bestN l.el (qR b.el (dR l.el p) c) p (fwR c) i)), (13, .int .i64 ((i : Nat) : Int)), (14, .bool (decide (((nth l.el i).kind = (1 : Int)) ∧ ((b.el).any (hitB (nth l.el i)) = true))))] [(100, .fz (fun w => ok w l)), (101, .fz (fun w => ok w b))] ?_ (fun key => ?_)
                          · refine r_seq ?_
                            refine r_cut [(0, .slice l.addr l.el.length l.cap), (1, .slice b.addr b.el.length b.cap), (2, .int .i64 p), (3, .string c), (10, .int .i64 (dR l.el p)), (11, .bool (fwR c)), (12, .int .i64 (bestN l.el (qR b.el (dR l.el p) c) p (fwR c) i)), (13, .int .i64 ((i : Nat) : Int)), (136, .bool (decide (((((qR b.el (dR l.el p) c (nth l.el i) = true) ∧ (fwR c = true)) ∧ (p < ((i : Nat) : Int))) ∧ (((i : Nat) : Int) < bestN l.el (qR b.el (dR l.el p) c) p (fwR c) i)) ∨ (((qR b.el (dR l.el p) c (nth l.el i) = true) ∧ (¬ (fwR c = true))) ∧ (((i : Nat) : Int) < p)))))] [(100, .fz (fun w => ok w l)), (101, .fz (fun w => ok w b))] ?_ (fun key => ?_)
                            · refine r_if rfl (fun hp34 => ?_) (fun hp34 => ?_)
                              · refine r_region ?_
                                refine s1 rfl (q_move rfl) ?_
                                refine s1 rfl (q_assign rfl) ?_
                                refine o_end ?_
                                refine r_inBlock ?_
                                refine r_region ?_
                                refine s1 rfl (q_move rfl) ?_
                                refine s1 rfl (q_add rfl rfl (by omega)) ?_
                                refine s1 rfl (q_assign rfl) ?_
                                refine o_end ?_
                                refine r_inLoop ?_
                                refine RunE.weaken ?_ ?_ (ih0 (i + 1) ?_ ?_)
                                · exact (.cons rfl (.cons rfl (.cons rfl (.cons rfl (.cons rfl (.cons rfl (.consE rfl (congrArg (Value.int .i64) (best_y (by assumption))) (.cons rfl (.nil)))))))))
                                · exact (.cons rfl (.cons rfl (.nil)))
                                · omega
                                · omega
                              · refine r_skip ?_
                                refine r_inBlock ?_
                                refine r_region ?_
                                refine s1 rfl (q_move rfl) ?_
                                refine s1 rfl (q_add rfl rfl (by omega)) ?_
                                refine s1 rfl (q_assign rfl) ?_
                                refine o_end ?_
                                refine r_inLoop ?_
                                refine RunE.weaken ?_ ?_ (ih0 (i + 1) ?_ ?_)
                                · exact (.cons rfl (.cons rfl (.cons rfl (.cons rfl (.cons rfl (.cons rfl (.consE rfl (congrArg (Value.int .i64) (best_n (by assumption))) (.cons rfl (.nil)))))))))
                                · exact (.cons rfl (.cons rfl (.nil)))
                                · omega
                                · omega
                            · refine r_region ?_
                              refine s1 rfl (Quiet.as (q_move rfl) (congrArg Value.bool (qr_c (brk := b.el) (d := dR l.el p) (c := c) (e := nth l.el i) (by assumption) (by assumption) (by assumption)))) ?_
                              refine s1 rfl (q_move rfl) ?_
                              refine g_splitb (s := 112) rfl (fun hp35 => ?_) (fun hp35 => ?_)
                              · refine g_on rfl rfl ?_
                                refine s1 rfl (q_move rfl) ?_
                                refine s1 rfl (q_pickt rfl rfl) ?_
                                refine s1 rfl (q_move rfl) ?_
                                refine g_splitb (s := 115) rfl (fun hp36 => ?_) (fun hp36 => ?_)
                                · refine g_on rfl rfl ?_
                                  refine s1 rfl (q_move rfl) ?_
                                  refine g_on rfl rfl ?_
                                  refine s1 rfl (q_move rfl) ?_
                                  refine g_on rfl rfl ?_
                                  refine s1 rfl (q_gtr rfl rfl) ?_
                                  refine s1 rfl (q_pickt rfl rfl) ?_
                                  refine s1 rfl (q_move rfl) ?_
                                  refine g_split (s := 120) rfl (fun hp37 => ?_) (fun hp37 => ?_)
                                  · refine g_on rfl rfl ?_
                                    refine s1 rfl (q_move rfl) ?_
                                    refine g_on rfl rfl ?_
                                    refine s1 rfl (q_move rfl) ?_
                                    refine g_on rfl rfl ?_
                                    refine s1 rfl (q_lss rfl rfl) ?_
                                    refine s1 rfl (q_pickt rfl rfl) ?_
                                    refine s1 rfl (q_move rfl) ?_
                                    refine g_split (s := 125) rfl (fun hp38 => ?_) (fun hp38 => ?_)
                                    · refine g_off rfl rfl rfl ?_
                                      refine g_off rfl rfl rfl ?_
                                      refine g_offu rfl rfl rfl ?_
                                      refine g_offu rfl rfl rfl ?_
                                      refine g_off rfl rfl rfl ?_
                                      refine g_off rfl rfl rfl ?_
                                      iterate 3 refine g_offu rfl rfl rfl ?_
                                      refine g_off rfl rfl rfl ?_
                                      refine s1 rfl (q_pickt rfl rfl) ?_
                                      refine o_end ?_
                                      exact key.weaken (.cons rfl (.cons rfl (.cons rfl (.cons rfl (.cons rfl (.cons rfl (.cons rfl (.cons rfl (.consE rfl (congrArg Value.bool (decide_eq_true (Or.inl ⟨⟨⟨hp35, hp36⟩, hp37⟩, hp38⟩)).symm) (.nil)))))))))) (.cons rfl (.cons rfl (.nil)))
                                    · refine g_on rfl rfl ?_
                                      refine s1 rfl (Quiet.as (q_move rfl) (congrArg Value.bool (qr_c (brk := b.el) (d := dR l.el p) (c := c) (e := nth l.el i) (by assumption) (by assumption) (by assumption)))) ?_
                                      refine g_on rfl rfl ?_
                                      refine s1 rfl (q_move rfl) ?_
                                      refine g_splitb (s := 127) rfl (fun hp39 => ?_) (fun hp39 => ?_)
                                      · refine g_on rfl rfl ?_
                                        refine s1 rfl (q_move rfl) ?_
                                        refine g_on rfl rfl ?_
                                        refine s1 rfl (q_notb rfl) ?_
                                        refine g_on rfl rfl ?_
                                        refine s1 rfl (q_pickt rfl rfl) ?_
                                        refine g_on rfl rfl ?_
                                        refine s1 rfl (q_move rfl) ?_
                                        refine g_splitb (s := 131) rfl (fun hp40 => ?_) (fun hp40 => ?_)
                                        · exact absurd (nb_t hp40) (fun h => h hp36)
                                        · refine g_off rfl rfl rfl ?_
                                          refine g_off rfl rfl rfl ?_
                                          refine g_off rfl rfl rfl ?_
                                          refine g_on rfl rfl ?_
                                          refine s1 rfl (q_pickf rfl rfl) ?_
                                          refine s1 rfl (q_pickf rfl rfl) ?_
                                          refine o_end ?_
                                          exact key.weaken (.cons rfl (.cons rfl (.cons rfl (.cons rfl (.cons rfl (.cons rfl (.cons rfl (.cons rfl (.consE rfl (congrArg Value.bool (decide_eq_false (fun h => h.elim (fun h => hp38 h.2) (fun h => (fun h => (nb_f hp40) h.2) h.1))).symm) (.nil)))))))))) (.cons rfl (.cons rfl (.nil)))
                                      · exact absurd hp35 (Bool.eq_false_iff.1 hp39)
                                  · refine g_off rfl rfl rfl ?_
                                    refine g_off rfl rfl rfl ?_
                                    refine g_off rfl rfl rfl ?_
                                    refine s1 rfl (q_pickf rfl rfl) ?_
                                    refine s1 rfl (q_move rfl) ?_
                                    refine g_on rfl rfl ?_
                                    refine s1 rfl (Quiet.as (q_move rfl) (congrArg Value.bool (qr_c (brk := b.el) (d := dR l.el p) (c := c) (e := nth l.el i) (by assumption) (by assumption) (by assumption)))) ?_
                                    refine g_on rfl rfl ?_
                                    refine s1 rfl (q_move rfl) ?_
                                    refine g_splitb (s := 127) rfl (fun hp41 => ?_) (fun hp41 => ?_)
                                    · refine g_on rfl rfl ?_
                                      refine s1 rfl (q_move rfl) ?_
                                      refine g_on rfl rfl ?_
                                      refine s1 rfl (q_notb rfl) ?_
                                      refine g_on rfl rfl ?_
                                      refine s1 rfl (q_pickt rfl rfl) ?_
                                      refine g_on rfl rfl ?_
                                      refine s1 rfl (q_move rfl) ?_
                                      refine g_splitb (s := 131) rfl (fun hp42 => ?_) (fun hp42 => ?_)
                                      · exact absurd (nb_t hp42) (fun h => h hp36)
                                      · refine g_off rfl rfl rfl ?_
                                        refine g_off rfl rfl rfl ?_
                                        refine g_off rfl rfl rfl ?_
                                        refine g_on rfl rfl ?_
                                        refine s1 rfl (q_pickf rfl rfl) ?_
                                        refine s1 rfl (q_pickf rfl rfl) ?_
                                        refine o_end ?_
                                        exact key.weaken (.cons rfl (.cons rfl (.cons rfl (.cons rfl (.cons rfl (.cons rfl (.cons rfl (.cons rfl (.consE rfl (congrArg Value.bool (decide_eq_false (fun h => h.elim (fun h => (fun h => hp37 h.2) h.1) (fun h => (fun h => (nb_f hp42) h.2) h.1))).symm) (.nil)))))))))) (.cons rfl (.cons rfl (.nil)))
                                    · exact absurd hp35 (Bool.eq_false_iff.1 hp41)
                                · refine g_off rfl rfl rfl ?_
                                  refine g_off rfl rfl rfl ?_
                                  refine g_off rfl rfl rfl ?_
                                  refine s1 rfl (q_pickf rfl rfl) ?_
                                  refine s1 rfl (q_move rfl) ?_
                                  iterate 3 refine g_off rfl rfl rfl ?_
                                  refine s1 rfl (q_pickf rfl rfl) ?_
                                  refine s1 rfl (q_move rfl) ?_
                                  refine g_on rfl rfl ?_
                                  refine s1 rfl (Quiet.as (q_move rfl) (congrArg Value.bool (qr_c (brk := b.el) (d := dR l.el p) (c := c) (e := nth l.el i) (by assumption) (by assumption) (by assumption)))) ?_
                                  refine g_on rfl rfl ?_
                                  refine s1 rfl (q_move rfl) ?_
                                  refine g_splitb (s := 127) rfl (fun hp43 => ?_) (fun hp43 => ?_)
                                  · refine g_on rfl rfl ?_
                                    refine s1 rfl (q_move rfl) ?_
                                    refine g_on rfl rfl ?_
                                    refine s1 rfl (q_notb rfl) ?_
                                    refine g_on rfl rfl ?_
                                    refine s1 rfl (q_pickt rfl rfl) ?_
                                    refine g_on rfl rfl ?_
                                    refine s1 rfl (q_move rfl) ?_
                                    refine g_splitb (s := 131) rfl (fun hp44 => ?_) (fun hp44 => ?_)
                                    · refine g_on rfl rfl ?_
                                      refine s1 rfl (q_move rfl) ?_
                                      refine g_on rfl rfl ?_
                                      refine s1 rfl (q_move rfl) ?_
                                      refine g_on rfl rfl ?_
                                      refine s1 rfl (q_lss rfl rfl) ?_
                                      refine g_on rfl rfl ?_
                                      refine s1 rfl (q_pickt rfl rfl) ?_
                                      refine s1 rfl (q_pickf rfl rfl) ?_
                                      refine o_end ?_
                                      exact key.weaken (.cons rfl (.cons rfl (.cons rfl (.cons rfl (.cons rfl (.cons rfl (.cons rfl (.cons rfl (.consE rfl (congrArg Value.bool (by first | (simp only [hp43, (Bool.eq_false_iff.1 hp36), (nb_t hp44), sStep, sOver, sOut, sGo, sBack, sUnder, sRewind, ne_eq, not_true_eq_false, not_false_eq_true, true_or, or_true, false_or, or_false, true_and, and_true, false_and, and_false, Bool.decide_eq_true] <;> first | exact nb_dec _ | exact b_dec _ | (simp; done)) | (simp only [hp43, (Bool.eq_false_iff.1 hp36), (nb_t hp44), fwR, sStep, sOver, sOut, sGo, sBack, sUnder, sRewind, ne_eq, not_true_eq_false, not_false_eq_true, true_or, or_true, false_or, or_false, true_and, and_true, false_and, and_false, Bool.decide_eq_true] <;> first | exact nb_dec _ | exact b_dec _ | (simp; done)) | exact nb_dec _ | exact b_dec _ | (simp; done) | (exfalso; omega))) (.nil)))))))))) (.cons rfl (.cons rfl (.nil)))
                                    · exact absurd (Bool.eq_false_iff.1 hp36) (nb_f hp44)
                                  · exact absurd hp35 (Bool.eq_false_iff.1 hp43)
                              · refine g_off rfl rfl rfl ?_
                                refine s1 rfl (q_pickf rfl rfl) ?_
                                refine s1 rfl (q_move rfl) ?_
                                iterate 3 refine g_off rfl rfl rfl ?_
                                refine s1 rfl (q_pickf rfl rfl) ?_
                                refine s1 rfl (q_move rfl) ?_
                                iterate 3 refine g_off rfl rfl rfl ?_
                                refine s1 rfl (q_pickf rfl rfl) ?_
                                refine s1 rfl (q_move rfl) ?_
                                refine g_on rfl rfl ?_
                                refine s1 rfl (Quiet.as (q_move rfl) (congrArg Value.bool (qr_c (brk := b.el) (d := dR l.el p) (c := c) (e := nth l.el i) (by assumption) (by assumption) (by assumption)))) ?_
                                refine g_on rfl rfl ?_
                                refine s1 rfl (q_move rfl) ?_
                                refine g_splitb (s := 127) rfl (fun hp45 => ?_) (fun hp45 => ?_)
                                · exact absurd hp45 (Bool.eq_false_iff.1 hp35)
                                · refine g_off rfl rfl rfl ?_
                                  refine g_off rfl rfl rfl ?_
                                  refine g_on rfl rfl ?_
                                  refine s1 rfl (q_pickf rfl rfl) ?_
                                  refine g_on rfl rfl ?_
                                  refine s1 rfl (q_move rfl) ?_
                                  iterate 3 refine g_off rfl rfl rfl ?_
                                  refine g_on rfl rfl ?_
                                  refine s1 rfl (q_pickf rfl rfl) ?_
                                  refine s1 rfl (q_pickf rfl rfl) ?_
                                  refine o_end ?_
                                  exact key.weaken (.cons rfl (.cons rfl (.cons rfl (.cons rfl (.cons rfl (.cons rfl (.cons rfl (.cons rfl (.consE rfl (congrArg Value.bool (decide_eq_false (fun h => h.elim (fun h => (fun h => (fun h => (Bool.eq_false_iff.1 hp45) h.1) h.1) h.1) (fun h => (fun h => (Bool.eq_false_iff.1 hp45) h.1) h.1))).symm) (.nil)))))))))) (.cons rfl (.cons rfl (.nil)))
                          · refine r_region ?_
                            refine s1 rfl (q_move rfl) ?_
                            refine s1 rfl (q_move rfl) ?_
                            refine g_split (s := 103) rfl (fun hp46 => ?_) (fun hp46 => ?_)
                            · refine g_on rfl rfl ?_
                              refine s1 rfl (q_move rfl) ?_
                              refine g_on rfl rfl ?_
                              refine s1 rfl (q_move rfl) ?_
                              refine g_on rfl rfl ?_
                              refine s1 rfl (q_indexAddr Tryz.underlying22 z42 rfl rfl rfl (by omega) (by omega) (fun w hw => Sl.OK.isSome (hw.get_fz (t := 100) rfl) (by decide) (i := i) (by omega))) ?_
                              refine g_on rfl rfl ?_
                              refine s1 rfl (q_loads (cs := enc (nth l.el i)) ag42 z42 rfl rfl (fun w hw => Sl.OK.cells (hw.get_fz (t := 100) rfl) (i := i) (by omega))) ?_
                              refine g_on rfl rfl ?_
                              refine s1 rfl (q_move rfl) ?_
                              refine g_on rfl rfl ?_
                              refine sx rfl (e_call en47 (.cons rfl (.cons rfl (.nil))) ((fun w hw => c47 (nth l.el i) b w (Sl.OK.nthOK (hw.get_fz (t := 100) rfl) (i := i) (by omega)) (hw.get_fz (t := 101) rfl)))) (fun _ _ => ?_)
                              refine s1 rfl (q_pickt rfl rfl) ?_
                              refine s1 rfl (q_assign rfl) ?_
                              refine o_end ?_
                              exact key.weaken (.cons rfl (.cons rfl (.cons rfl (.cons rfl (.cons rfl (.cons rfl (.cons rfl (.cons rfl (.consE rfl (congrArg Value.bool (by first | (simp only [hp46, sStep, sOver, sOut, sGo, sBack, sUnder, sRewind, ne_eq, not_true_eq_false, not_false_eq_true, true_or, or_true, false_or, or_false, true_and, and_true, false_and, and_false, Bool.decide_eq_true] <;> first | exact nb_dec _ | exact b_dec _ | (simp; done)) | (simp only [hp46, fwR, sStep, sOver, sOut, sGo, sBack, sUnder, sRewind, ne_eq, not_true_eq_false, not_false_eq_true, true_or, or_true, false_or, or_false, true_and, and_true, false_and, and_false, Bool.decide_eq_true] <;> first | exact nb_dec _ | exact b_dec _ | (simp; done)) | exact nb_dec _ | exact b_dec _ | (simp; done) | (exfalso; omega))) (.nil)))))))))) (.cons rfl (.cons rfl (.nil)))
                            · refine g_off rfl rfl rfl ?_
                              iterate 5 refine g_off rfl rfl rfl ?_
                              refine s1 rfl (q_pickf rfl rfl) ?_
                              refine s1 rfl (q_assign rfl) ?_
                              refine o_end ?_
                              exact key.weaken (.cons rfl (.cons rfl (.cons rfl (.cons rfl (.cons rfl (.cons rfl (.cons rfl (.cons rfl (.consE rfl (congrArg Value.bool (decide_eq_false (fun h => hp46 h.1)).symm) (.nil)))))))))) (.cons rfl (.cons rfl (.nil)))
                        · refine r_skip ?_
                          refine r_seq ?_
                          refine r_cut [(0, .slice l.addr l.el.length l.cap), (1, .slice b.addr b.el.length b.cap), (2, .int .i64 p), (3, .string c), (10, .int .i64 (dR l.el p)), (11, .bool (fwR c)), (12, .int .i64 (bestN l.el (qR b.el (dR l.el p) c) p (fwR c) i)), (13, .int .i64 ((i : Nat) : Int)), (136, .bool (decide (((((qR b.el (dR l.el p) c (nth l.el i) = true) ∧ (fwR c = true)) ∧ (p < ((i : Nat) : Int))) ∧ (((i : Nat) : Int) < bestN l.el (qR b.el (dR l.el p) c) p (fwR c) i)) ∨ (((qR b.el (dR l.el p) c (nth l.el i) = true) ∧ (¬ (fwR c = true))) ∧ (((i : Nat) : Int) < p)))))] [(100, .fz (fun w => ok w l)), (101, .fz (fun w => ok w b))] ?_ (fun key => ?_)
                          · refine r_if rfl (fun hp47 => ?_) (fun hp47 => ?_)
                            · refine r_region ?_
                              refine s1 rfl (q_move rfl) ?_
                              refine s1 rfl (q_assign rfl) ?_
                              refine o_end ?_
                              refine r_inBlock ?_
                              refine r_region ?_
                              refine s1 rfl (q_move rfl) ?_
                              refine s1 rfl (q_add rfl rfl (by omega)) ?_
                              refine s1 rfl (q_assign rfl) ?_
                              refine o_end ?_
                              refine r_inLoop ?_
                              refine RunE.weaken ?_ ?_ (ih0 (i + 1) ?_ ?_)
                              · exact (.cons rfl (.cons rfl (.cons rfl (.cons rfl (.cons rfl (.cons rfl (.consE rfl (congrArg (Value.int .i64) (best_y (by assumption))) (.cons rfl (.nil)))))))))
                              · exact (.cons rfl (.cons rfl (.nil)))
                              · omega
                              · omega
                            · refine r_skip ?_
                              refine r_inBlock ?_
                              refine r_region ?_
                              refine s1 rfl (q_move rfl) ?_
                              refine s1 rfl (q_add rfl rfl (by omega)) ?_
                              refine s1 rfl (q_assign rfl) ?_
                              refine o_end ?_
                              refine r_inLoop ?_
                              refine RunE.weaken ?_ ?_ (ih0 (i + 1) ?_ ?_)
                              · exact (.cons rfl (.cons rfl (.cons rfl (.cons rfl (.cons rfl (.cons rfl (.consE rfl (congrArg (Value.int .i64) (best_n (by assumption))) (.cons rfl (.nil)))))))))
                              · exact (.cons rfl (.cons rfl (.nil)))
                              · omega
                              · omega
                          · refine r_region ?_
                            refine s1 rfl (Quiet.as (q_move rfl) (congrArg Value.bool (qr_d (brk := b.el) (d := dR l.el p) (c := c) (e := nth l.el i) (by assumption) (by assumption) (by assumption)))) ?_
                            refine s1 rfl (q_move rfl) ?_
                            refine g_splitb (s := 112) rfl (fun hp48 => ?_) (fun hp48 => ?_)
                            · refine g_on rfl rfl ?_
                              refine s1 rfl (q_move rfl) ?_
                              refine s1 rfl (q_pickt rfl rfl) ?_
                              refine s1 rfl (q_move rfl) ?_
                              refine g_splitb (s := 115) rfl (fun hp49 => ?_) (fun hp49 => ?_)
                              · refine g_on rfl rfl ?_
                                refine s1 rfl (q_move rfl) ?_
                                refine g_on rfl rfl ?_
                                refine s1 rfl (q_move rfl) ?_
                                refine g_on rfl rfl ?_
                                refine s1 rfl (q_gtr rfl rfl) ?_
                                refine s1 rfl (q_pickt rfl rfl) ?_
                                refine s1 rfl (q_move rfl) ?_
                                refine g_split (s := 120) rfl (fun hp50 => ?_) (fun hp50 => ?_)
                                · refine g_on rfl rfl ?_
                                  refine s1 rfl (q_move rfl) ?_
                                  refine g_on rfl rfl ?_
                                  refine s1 rfl (q_move rfl) ?_
                                  refine g_on rfl rfl ?_
                                  refine s1 rfl (q_lss rfl rfl) ?_
                                  refine s1 rfl (q_pickt rfl rfl) ?_
                                  refine s1 rfl (q_move rfl) ?_
                                  refine g_split (s := 125) rfl (fun hp51 => ?_) (fun hp51 => ?_)
                                  · refine g_off rfl rfl rfl ?_
                                    refine g_off rfl rfl rfl ?_
                                    refine g_offu rfl rfl rfl ?_
                                    refine g_offu rfl rfl rfl ?_
                                    refine g_off rfl rfl rfl ?_
                                    refine g_off rfl rfl rfl ?_
                                    iterate 3 refine g_offu rfl rfl rfl ?_
                                    refine g_off rfl rfl rfl ?_
                                    refine s1 rfl (q_pickt rfl rfl) ?_
                                    refine o_end ?_
                                    exact key.weaken (.cons rfl (.cons rfl (.cons rfl (.cons rfl (.cons rfl (.cons rfl (.cons rfl (.cons rfl (.consE rfl (congrArg Value.bool (decide_eq_true (Or.inl ⟨⟨⟨hp48, hp49⟩, hp50⟩, hp51⟩)).symm) (.nil)))))))))) (.cons rfl (.cons rfl (.nil)))
                                  · refine g_on rfl rfl ?_
                                    refine s1 rfl (Quiet.as (q_move rfl) (congrArg Value.bool (qr_d (brk := b.el) (d := dR l.el p) (c := c) (e := nth l.el i) (by assumption) (by assumption) (by assumption)))) ?_
                                    refine g_on rfl rfl ?_
                                    refine s1 rfl (q_move rfl) ?_
                                    refine g_splitb (s := 127) rfl (fun hp52 => ?_) (fun hp52 => ?_)
                                    · refine g_on rfl rfl ?_
                                      refine s1 rfl (q_move rfl) ?_
                                      refine g_on rfl rfl ?_
                                      refine s1 rfl (q_notb rfl) ?_
                                      refine g_on rfl rfl ?_
                                      refine s1 rfl (q_pickt rfl rfl) ?_
                                      refine g_on rfl rfl ?_
                                      refine s1 rfl (q_move rfl) ?_
                                      refine g_splitb (s := 131) rfl (fun hp53 => ?_) (fun hp53 => ?_)
                                      · exact absurd (nb_t hp53) (fun h => h hp49)
                                      · refine g_off rfl rfl rfl ?_
                                        refine g_off rfl rfl rfl ?_
                                        refine g_off rfl rfl rfl ?_
                                        refine g_on rfl rfl ?_
                                        refine s1 rfl (q_pickf rfl rfl) ?_
                                        refine s1 rfl (q_pickf rfl rfl) ?_
                                        refine o_end ?_
                                        exact key.weaken (.cons rfl (.cons rfl (.cons rfl (.cons rfl (.cons rfl (.cons rfl (.cons rfl (.cons rfl (.consE rfl (congrArg Value.bool (decide_eq_false (fun h => h.elim (fun h => hp51 h.2) (fun h => (fun h => (nb_f hp53) h.2) h.1))).symm) (.nil)))))))))) (.cons rfl (.cons rfl (.nil)))
                                    · exact absurd hp48 (Bool.eq_false_iff.1 hp52)
                                · refine g_off rfl rfl rfl ?_
                                  refine g_off rfl rfl rfl ?_
                                  refine g_off rfl rfl rfl ?_
                                  refine s1 rfl (q_pickf rfl rfl) ?_
                                  refine s1 rfl (q_move rfl) ?_
                                  refine g_on rfl rfl ?_
                                  refine s1 rfl (Quiet.as (q_move rfl) (congrArg Value.bool (qr_d (brk := b.el) (d := dR l.el p) (c := c) (e := nth l.el i) (by assumption) (by assumption) (by assumption)))) ?_
                                  refine g_on rfl rfl ?_
                                  refine s1 rfl (q_move rfl) ?_
                                  refine g_splitb (s := 127) rfl (fun hp54 => ?_) (fun hp54 => ?_)
                                  · refine g_on rfl rfl ?_
                                    refine s1 rfl (q_move rfl) ?_
                                    refine g_on rfl rfl ?_
                                    refine s1 rfl (q_notb rfl) ?_
                                    refine g_on rfl rfl ?_
                                    refine s1 rfl (q_pickt rfl rfl) ?_
                                    refine g_on rfl rfl ?_
                                    refine s1 rfl (q_move rfl) ?_
                                    refine g_splitb (s := 131) rfl (fun hp55 => ?_) (fun hp55 => ?_)
                                    · exact absurd (nb_t hp55) (fun h => h hp49)
                                    · refine g_off rfl rfl rfl ?_
                                      refine g_off rfl rfl rfl ?_
                                      refine g_off rfl rfl rfl ?_
                                      refine g_on rfl rfl ?_
                                      refine s1 rfl (q_pickf rfl rfl) ?_
                                      refine s1 rfl (q_pickf rfl rfl) ?_
                                      refine o_end ?_
                                      exact key.weaken (.cons rfl (.cons rfl (.cons rfl (.cons rfl (.cons rfl (.cons rfl (.cons rfl (.cons rfl (.consE rfl (congrArg Value.bool (decide_eq_false (fun h => h.elim (fun h => (fun h => hp50 h.2) h.1) (fun h => (fun h => (nb_f hp55) h.2) h.1))).symm) (.nil)))))))))) (.cons rfl (.cons rfl (.nil)))
                                  · exact absurd hp48 (Bool.eq_false_iff.1 hp54)
                              · refine g_off rfl rfl rfl ?_
                                refine g_off rfl rfl rfl ?_
                                refine g_off rfl rfl rfl ?_
                                refine s1 rfl (q_pickf rfl rfl) ?_
                                refine s1 rfl (q_move rfl) ?_
                                iterate 3 refine g_off rfl rfl rfl ?_
                                refine s1 rfl (q_pickf rfl rfl) ?_
                                refine s1 rfl (q_move rfl) ?_
                                refine g_on rfl rfl ?_
                                refine s1 rfl (Quiet.as (q_move rfl) (congrArg Value.bool (qr_d (brk := b.el) (d := dR l.el p) (c := c) (e := nth l.el i) (by assumption) (by assumption) (by assumption)))) ?_
                                refine g_on rfl rfl ?_
                                refine s1 rfl (q_move rfl) ?_
                                refine g_splitb (s := 127) rfl (fun hp56 => ?_) (fun hp56 => ?_)
                                · refine g_on rfl rfl ?_
                                  refine s1 rfl (q_move rfl) ?_
                                  refine g_on rfl rfl ?_
                                  refine s1 rfl (q_notb rfl) ?_
                                  refine g_on rfl rfl ?_
                                  refine s1 rfl (q_pickt rfl rfl) ?_
                                  refine g_on rfl rfl ?_
                                  refine s1 rfl (q_move rfl) ?_
                                  refine g_splitb (s := 131) rfl (fun hp57 => ?_) (fun hp57 => ?_)
                                  · refine g_on rfl rfl ?_
                                    refine s1 rfl (q_move rfl) ?_
                                    refine g_on rfl rfl ?_
                                    refine s1 rfl (q_move rfl) ?_
                                    refine g_on rfl rfl ?_
                                    refine s1 rfl (q_lss rfl rfl) ?_
                                    refine g_on rfl rfl ?_
                                    refine s1 rfl (q_pickt rfl rfl) ?_
                                    refine s1 rfl (q_pickf rfl rfl) ?_
                                    refine o_end ?_
                                    exact key.weaken (.cons rfl (.cons rfl (.cons rfl (.cons rfl (.cons rfl (.cons rfl (.cons rfl (.cons rfl (.consE rfl (congrArg Value.bool (by first | (simp only [hp56, (Bool.eq_false_iff.1 hp49), (nb_t hp57), sStep, sOver, sOut, sGo, sBack, sUnder, sRewind, ne_eq, not_true_eq_false, not_false_eq_true, true_or, or_true, false_or, or_false, true_and, and_true, false_and, and_false, Bool.decide_eq_true] <;> first | exact nb_dec _ | exact b_dec _ | (simp; done)) | (simp only [hp56, (Bool.eq_false_iff.1 hp49), (nb_t hp57), fwR, sStep, sOver, sOut, sGo, sBack, sUnder, sRewind, ne_eq, not_true_eq_false, not_false_eq_true, true_or, or_true, false_or, or_false, true_and, and_true, false_and, and_false, Bool.decide_eq_true] <;> first | exact nb_dec _ | exact b_dec _ | (simp; done)) | exact nb_dec _ | exact b_dec _ | (simp; done) | (exfalso; omega))) (.nil)))))))))) (.cons rfl (.cons rfl (.nil)))
                                  · exact absurd (Bool.eq_false_iff.1 hp49) (nb_f hp57)
                                · exact absurd hp48 (Bool.eq_false_iff.1 hp56)
                            · refine g_off rfl rfl rfl ?_
                              refine s1 rfl (q_pickf rfl rfl) ?_
                              refine s1 rfl (q_move rfl) ?_
                              iterate 3 refine g_off rfl rfl rfl ?_
                              refine s1 rfl (q_pickf rfl rfl) ?_
                              refine s1 rfl (q_move rfl) ?_
                              iterate 3 refine g_off rfl rfl rfl ?_
                              refine s1 rfl (q_pickf rfl rfl) ?_
                              refine s1 rfl (q_move rfl) ?_
                              refine g_on rfl rfl ?_
                              refine s1 rfl (Quiet.as (q_move rfl) (congrArg Value.bool (qr_d (brk := b.el) (d := dR l.el p) (c := c) (e := nth l.el i) (by assumption) (by assumption) (by assumption)))) ?_
                              refine g_on rfl rfl ?_
                              refine s1 rfl (q_move rfl) ?_
                              refine g_splitb (s := 127) rfl (fun hp58 => ?_) (fun hp58 => ?_)
                              · exact absurd hp58 (Bool.eq_false_iff.1 hp48)
                              · refine g_off rfl rfl rfl ?_
                                refine g_off rfl rfl rfl ?_
                                refine g_on rfl rfl ?_
                                refine s1 rfl (q_pickf rfl rfl) ?_
                                refine g_on rfl rfl ?_
                                refine s1 rfl (q_move rfl) ?_
                                iterate 3 refine g_off rfl rfl rfl ?_
                                refine g_on rfl rfl ?_
                                refine s1 rfl (q_pickf rfl rfl) ?_
                                refine s1 rfl (q_pickf rfl rfl) ?_
                                refine o_end ?_
                                exact key.weaken (.cons rfl (.cons rfl (.cons rfl (.cons rfl (.cons rfl (.cons rfl (.cons rfl (.cons rfl (.consE rfl (congrArg Value.bool (decide_eq_false (fun h => h.elim (fun h => (fun h => (fun h => (Bool.eq_false_iff.1 hp58) h.1) h.1) h.1) (fun h => (fun h => (Bool.eq_false_iff.1 hp58) h.1) h.1))).symm) (.nil)))))))))) (.cons rfl (.cons rfl (.nil)))
                      · refine r_region ?_
                        refine s1 rfl (q_move rfl) ?_
                        refine s1 rfl (q_seql rfl rfl) ?_
                        refine s1 rfl (q_move rfl) ?_
                        refine g_split (s := 98) rfl (fun hp59 => ?_) (fun hp59 => ?_)
                        · refine g_off rfl rfl rfl ?_
                          refine g_off rfl rfl rfl ?_
                          refine s1 rfl (q_pickt rfl rfl) ?_
                          refine o_end ?_
                          exact key.weaken (.cons rfl (.cons rfl (.cons rfl (.cons rfl (.cons rfl (.cons rfl (.cons rfl (.cons rfl (.cons rfl (.consE rfl (congrArg Value.bool (decide_eq_true (Or.inl hp59)).symm) (.nil))))))))))) (.cons rfl (.cons rfl (.nil)))
                        · refine g_on rfl rfl ?_
                          refine s1 rfl (q_move rfl) ?_
                          refine g_on rfl rfl ?_
                          refine s1 rfl (q_seql rfl rfl) ?_
                          refine s1 rfl (q_pickf rfl rfl) ?_
                          refine o_end ?_
                          exact key.weaken (.cons rfl (.cons rfl (.cons rfl (.cons rfl (.cons rfl (.cons rfl (.cons rfl (.cons rfl (.cons rfl (.consE rfl (congrArg Value.bool (by first | (simp only [hp59, sStep, sOver, sOut, sGo, sBack, sUnder, sRewind, ne_eq, not_true_eq_false, not_false_eq_true, true_or, or_true, false_or, or_false, true_and, and_true, false_and, and_false, Bool.decide_eq_true] <;> first | exact nb_dec _ | exact b_dec _ | (simp; done)) | (simp only [hp59, fwR, sStep, sOver, sOut, sGo, sBack, sUnder, sRewind, ne_eq, not_true_eq_false, not_false_eq_true, true_or, or_true, false_or, or_false, true_and, and_true, false_and, and_false, Bool.decide_eq_true] <;> first | exact nb_dec _ | exact b_dec _ | (simp; done)) | exact nb_dec _ | exact b_dec _ | (simp; done) | (exfalso; omega))) (.nil))))))))))) (.cons rfl (.cons rfl (.nil)))
                · refine r_region ?_
                  refine s1 rfl (q_move rfl) ?_
                  refine s1 rfl (q_seql rfl rfl) ?_
                  refine s1 rfl (q_move rfl) ?_
                  refine g_split (s := 70) rfl (fun hp60 => ?_) (fun hp60 => ?_)
                  · refine g_off rfl rfl rfl ?_
                    refine g_off rfl rfl rfl ?_
                    refine s1 rfl (q_pickt rfl rfl) ?_
                    refine o_end ?_
                    exact key.weaken (.cons rfl (.cons rfl (.cons rfl (.cons rfl (.cons rfl (.cons rfl (.cons rfl (.cons rfl (.cons rfl (.consE rfl (congrArg Value.bool (decide_eq_true (Or.inl hp60)).symm) (.nil))))))))))) (.cons rfl (.cons rfl (.nil)))
                  · refine g_on rfl rfl ?_
                    refine s1 rfl (q_move rfl) ?_
                    refine g_on rfl rfl ?_
                    refine s1 rfl (q_seql rfl rfl) ?_
                    refine s1 rfl (q_pickf rfl rfl) ?_
                    refine o_end ?_
                    exact key.weaken (.cons rfl (.cons rfl (.cons rfl (.cons rfl (.cons rfl (.cons rfl (.cons rfl (.cons rfl (.cons rfl (.consE rfl (congrArg Value.bool (by first | (simp only [hp60, sStep, sOver, sOut, sGo, sBack, sUnder, sRewind, ne_eq, not_true_eq_false, not_false_eq_true, true_or, or_true, false_or, or_false, true_and, and_true, false_and, and_false, Bool.decide_eq_true] <;> first | exact nb_dec _ | exact b_dec _ | (simp; done)) | (simp only [hp60, fwR, sStep, sOver, sOut, sGo, sBack, sUnder, sRewind, ne_eq, not_true_eq_false, not_false_eq_true, true_or, or_true, false_or, or_false, true_and, and_true, false_and, and_false, Bool.decide_eq_true] <;> first | exact nb_dec _ | exact b_dec _ | (simp; done)) | exact nb_dec _ | exact b_dec _ | (simp; done) | (exfalso; omega))) (.nil))))))))))) (.cons rfl (.cons rfl (.nil)))
              · refine r_exit rfl ?_
                refine r_seq ?_
                refine r_region ?_
                refine s1 rfl (q_move rfl) ?_
                refine s1 rfl (q_assign rfl) ?_
                refine s1 rfl (q_assign rfl) ?_
                refine o_end ?_
                refine r_ret Tryz.func20 (res2 Tryz.results20 (res_tmp (s := 8) rfl) (res_tmp (s := 9) rfl)) (fun w hw => ?_)
                have hi : i = l.el.length := by omega
                subst hi
                exact ⟨ret_ib (if_pos (mot_yes (by assumption))).symm (mot_yes (by assumption)).symm, hw.kp⟩
            · exact Nat.zero_le _
          · refine r_ifb rfl (fun hp61 => ?_) (fun hp61 => ?_)
            · refine r_region ?_
              refine s1 rfl (q_move rfl) ?_
              refine s1 rfl (q_len Tryz.underlying22 rfl) ?_
              refine s1 rfl (q_assign rfl) ?_
              refine o_end ?_
              exact key3.weaken (.cons rfl (.cons rfl (.cons rfl (.cons rfl (.cons rfl (.cons rfl (.consE rfl (congrArg (Value.int .i64) (if_pos (by assumption)).symm) (.nil)))))))) (.cons rfl (.cons rfl (.nil)))
            · refine r_skip ?_
              exact key3.weaken (.cons rfl (.cons rfl (.cons rfl (.cons rfl (.cons rfl (.cons rfl (.consE rfl (congrArg (Value.int .i64) (if_neg (by simp; assumption)).symm) (.nil)))))))) (.cons rfl (.cons rfl (.nil)))
      · refine r_region ?_
        refine s1 rfl (q_move rfl) ?_
        refine s1 rfl (q_notb rfl) ?_
        refine s1 rfl (q_move rfl) ?_
        refine g_splitb (s := 41) rfl (fun hp62 => ?_) (fun hp62 => ?_)
        · refine g_on rfl rfl ?_
          refine s1 rfl (q_move rfl) ?_
          refine g_on rfl rfl ?_
          refine s1 rfl (q_sneq rfl rfl) ?_
          refine s1 rfl (q_pickt rfl rfl) ?_
          refine s1 rfl (q_move rfl) ?_
          refine g_split (s := 45) rfl (fun hp63 => ?_) (fun hp63 => ?_)
          · refine g_on rfl rfl ?_
            refine s1 rfl (q_move rfl) ?_
            refine g_on rfl rfl ?_
            refine s1 rfl (q_sneq rfl rfl) ?_
            refine s1 rfl (q_pickt rfl rfl) ?_
            refine s1 rfl (q_move rfl) ?_
            refine g_split (s := 49) rfl (fun hp64 => ?_) (fun hp64 => ?_)
            · refine g_on rfl rfl ?_
              refine s1 rfl (q_move rfl) ?_
              refine g_on rfl rfl ?_
              refine s1 rfl (q_sneq rfl rfl) ?_
              refine s1 rfl (q_pickt rfl rfl) ?_
              refine o_end ?_
              exact key.weaken (.cons rfl (.cons rfl (.cons rfl (.cons rfl (.cons rfl (.cons rfl (.consE rfl (congrArg Value.bool (by first | (simp only [(nb_t hp62), hp63, hp64, sStep, sOver, sOut, sGo, sBack, sUnder, sRewind, ne_eq, not_true_eq_false, not_false_eq_true, true_or, or_true, false_or, or_false, true_and, and_true, false_and, and_false, Bool.decide_eq_true] <;> first | exact nb_dec _ | exact b_dec _ | (simp; done)) | (simp only [(nb_t hp62), hp63, hp64, fwR, sStep, sOver, sOut, sGo, sBack, sUnder, sRewind, ne_eq, not_true_eq_false, not_false_eq_true, true_or, or_true, false_or, or_false, true_and, and_true, false_and, and_false, Bool.decide_eq_true] <;> first | exact nb_dec _ | exact b_dec _ | (simp; done)) | exact nb_dec _ | exact b_dec _ | (simp; done) | (exfalso; omega))) (.nil)))))))) (.cons rfl (.cons rfl (.nil)))
            · refine g_off rfl rfl rfl ?_
              refine g_off rfl rfl rfl ?_
              refine s1 rfl (q_pickf rfl rfl) ?_
              refine o_end ?_
              exact key.weaken (.cons rfl (.cons rfl (.cons rfl (.cons rfl (.cons rfl (.cons rfl (.consE rfl (congrArg Value.bool (decide_eq_false (fun h => (fun h => hp64 h.2) h.1)).symm) (.nil)))))))) (.cons rfl (.cons rfl (.nil)))
          · refine g_off rfl rfl rfl ?_
            refine g_off rfl rfl rfl ?_
            refine s1 rfl (q_pickf rfl rfl) ?_
            refine s1 rfl (q_move rfl) ?_
            refine g_off rfl rfl rfl ?_
            refine g_off rfl rfl rfl ?_
            refine s1 rfl (q_pickf rfl rfl) ?_
            refine o_end ?_
            exact key.weaken (.cons rfl (.cons rfl (.cons rfl (.cons rfl (.cons rfl (.cons rfl (.consE rfl (congrArg Value.bool (decide_eq_false (fun h => (fun h => (fun h => hp63 h.2) h.1) h.1)).symm) (.nil)))))))) (.cons rfl (.cons rfl (.nil)))
        · refine g_off rfl rfl rfl ?_
          refine g_off rfl rfl rfl ?_
          refine s1 rfl (q_pickf rfl rfl) ?_
          refine s1 rfl (q_move rfl) ?_
          refine g_off rfl rfl rfl ?_
          refine g_off rfl rfl rfl ?_
          refine s1 rfl (q_pickf rfl rfl) ?_
          refine s1 rfl (q_move rfl) ?_
          refine g_off rfl rfl rfl ?_
          refine g_off rfl rfl rfl ?_
          refine s1 rfl (q_pickf rfl rfl) ?_
          refine o_end ?_
          exact key.weaken (.cons rfl (.cons rfl (.cons rfl (.cons rfl (.cons rfl (.cons rfl (.consE rfl (congrArg Value.bool (decide_eq_false (fun h => (fun h => (fun h => (nb_f hp62) h.1) h.1) h.1)).symm) (.nil)))))))) (.cons rfl (.cons rfl (.nil)))
    · refine r_region ?_
      refine s1 rfl (q_move rfl) ?_
      refine s1 rfl (q_seql rfl rfl) ?_
      refine s1 rfl (q_move rfl) ?_
      refine g_split (s := 27) rfl (fun hp65 => ?_) (fun hp65 => ?_)
      · refine g_off rfl rfl rfl ?_
        refine g_off rfl rfl rfl ?_
        refine s1 rfl (q_pickt rfl rfl) ?_
        refine s1 rfl (q_move rfl) ?_
        refine g_off rfl rfl rfl ?_
        refine g_off rfl rfl rfl ?_
        refine s1 rfl (q_pickt rfl rfl) ?_
        refine s1 rfl (q_move rfl) ?_
        refine g_off rfl rfl rfl ?_
        refine g_off rfl rfl rfl ?_
        refine s1 rfl (q_pickt rfl rfl) ?_
        refine s1 rfl (q_assign rfl) ?_
        refine o_end ?_
        exact key.weaken (.cons rfl (.cons rfl (.cons rfl (.cons rfl (.cons rfl (.consE rfl (congrArg Value.bool (decide_eq_true (Or.inl (Or.inl (Or.inl hp65)))).symm) (.nil))))))) (.cons rfl (.cons rfl (.nil)))
      · refine g_on rfl rfl ?_
        refine s1 rfl (q_move rfl) ?_
        refine g_on rfl rfl ?_
        refine s1 rfl (q_seql rfl rfl) ?_
        refine s1 rfl (q_pickf rfl rfl) ?_
        refine s1 rfl (q_move rfl) ?_
        refine g_split (s := 31) rfl (fun hp66 => ?_) (fun hp66 => ?_)
        · refine g_off rfl rfl rfl ?_
          refine g_off rfl rfl rfl ?_
          refine s1 rfl (q_pickt rfl rfl) ?_
          refine s1 rfl (q_move rfl) ?_
          refine g_off rfl rfl rfl ?_
          refine g_off rfl rfl rfl ?_
          refine s1 rfl (q_pickt rfl rfl) ?_
          refine s1 rfl (q_assign rfl) ?_
          refine o_end ?_
          exact key.weaken (.cons rfl (.cons rfl (.cons rfl (.cons rfl (.cons rfl (.consE rfl (congrArg Value.bool (decide_eq_true (Or.inl (Or.inl (Or.inr hp66)))).symm) (.nil))))))) (.cons rfl (.cons rfl (.nil)))
        · refine g_on rfl rfl ?_
          refine s1 rfl (q_move rfl) ?_
          refine g_on rfl rfl ?_
          refine s1 rfl (q_seql rfl rfl) ?_
          refine s1 rfl (q_pickf rfl rfl) ?_
          refine s1 rfl (q_move rfl) ?_
          refine g_split (s := 35) rfl (fun hp67 => ?_) (fun hp67 => ?_)
          · refine g_off rfl rfl rfl ?_
            refine g_off rfl rfl rfl ?_
            refine s1 rfl (q_pickt rfl rfl) ?_
            refine s1 rfl (q_assign rfl) ?_
            refine o_end ?_
            exact key.weaken (.cons rfl (.cons rfl (.cons rfl (.cons rfl (.cons rfl (.consE rfl (congrArg Value.bool (decide_eq_true (Or.inl (Or.inr hp67))).symm) (.nil))))))) (.cons rfl (.cons rfl (.nil)))
          · refine g_on rfl rfl ?_
            refine s1 rfl (q_move rfl) ?_
            refine g_on rfl rfl ?_
            refine s1 rfl (q_seql rfl rfl) ?_
            refine s1 rfl (q_pickf rfl rfl) ?_
            refine s1 rfl (q_assign rfl) ?_
            refine o_end ?_
            exact key.weaken (.cons rfl (.cons rfl (.cons rfl (.cons rfl (.cons rfl (.consE rfl (congrArg Value.bool (by first | (simp only [hp65, hp66, hp67, sStep, sOver, sOut, sGo, sBack, sUnder, sRewind, ne_eq, not_true_eq_false, not_false_eq_true, true_or, or_true, false_or, or_false, true_and, and_true, false_and, and_false, Bool.decide_eq_true] <;> first | exact nb_dec _ | exact b_dec _ | (simp; done)) | (simp only [hp65, hp66, hp67, fwR, sStep, sOver, sOut, sGo, sBack, sUnder, sRewind, ne_eq, not_true_eq_false, not_false_eq_true, true_or, or_true, false_or, or_false, true_and, and_true, false_and, and_false, Bool.decide_eq_true] <;> first | exact nb_dec _ | exact b_dec _ | (simp; done)) | exact nb_dec _ | exact b_dec _ | (simp; done) | (exfalso; omega))) (.nil))))))) (.cons rfl (.cons rfl (.nil)))
  · refine r_if rfl (fun hp68 => ?_) (fun hp68 => ?_)
    · refine r_region ?_
      refine s1 rfl (q_move rfl) ?_
      refine s1 rfl (q_move rfl) ?_
      refine s1 rfl (q_indexAddr Tryz.underlying22 z42 rfl rfl rfl (by omega) (by omega) (fun w hw => Sl.OK.isSome (hw.get_fz (t := 100) rfl) (by decide) (i := p.toNat) (by omega))) ?_
      refine s1 rfl (q_fieldAddr of42_4 rfl rfl) ?_
      refine s1 rfl (q_load ag3 rfl (fun w hw => Sl.OK.cell (hw.get_fz (t := 100) rfl) (i := p.toNat) (j := 4) (by omega) rfl)) ?_
      refine s1 rfl (q_assign rfl) ?_
      refine o_end ?_
      exact key1.weaken (.cons rfl (.cons rfl (.cons rfl (.cons rfl (.consE rfl (congrArg (Value.int .i64) (if_pos (by assumption)).symm) (.nil)))))) (.cons rfl (.cons rfl (.nil)))
    · refine r_skip ?_
      exact key1.weaken (.cons rfl (.cons rfl (.cons rfl (.cons rfl (.consE rfl (congrArg (Value.int .i64) (if_neg (by assumption)).symm) (.nil)))))) (.cons rfl (.cons rfl (.nil)))

end Go.Proofs.YtecibcjckinngaaGreatDoor
/- strconv.Atoi in this proof's own words; numerals. -/
set_option linter.unusedVariables false
namespace Go.Proofs.YtecibcjckinngaaGreatDoor
open Go Go.RowKit Enc
def atoiOk (s : ByteArray) : Bool := match Lib.atoiAll s.data.toList with
  | .ok _ => true
  | _ => false
def atoiV (s : ByteArray) : Int := match Lib.atoiAll s.data.toList with
  | .ok v => v
  | .range => Lib.atoiSat s.data.toList
  | _ => 0
/-- What an error may be. -/
def ErrIs (s : ByteArray) (x : Value) : Prop := if atoiOk s = true then x = .nilIface else ∃ te pe, x = .iface te pe
theorem kp_bytes {w : World} {t : TypeId} {s : ByteArray} : Grew w (Lib.bytesWorld w t s) := Kp.of_below (Lib.bytesWorld_below w t s)
theorem c65 (s : ByteArray) (w : World) (hs : s.size ≤ 1048576) (hT : Tabs w) : RetX Tryz.prog 65 #[.string s] w (fun x : Value => .tuple #[.int .i64 (atoiV s), x]) (fun _ => []) (fun x => ErrIs s x) := by
  have hsep : ∀ {w' : World}, Grew w w' → Sep (· < w.heap.size) w [] w' := fun {w'} h => (sep0 w).keep h
  rcases hA : Lib.atoiAll s.data.toList with v | _ | _
  · refine (Tryz.strconv_Atoi_ok s (by omega) v hA w).mono ?_
    rintro e w' ⟨rfl, hw⟩
    refine ⟨.nilIface, by simp [ErrIs, atoiOk, hA], by simp [atoiV, hA], hsep ?_⟩
    rcases hw with rfl | ⟨t, rfl⟩
    · exact Kp.refl _ _
    · exact kp_bytes
  · obtain ⟨a, b, h⟩ := hT.esyn
    refine (Tryz.strconv_Atoi_syntax s (by omega) hA _ w h (Or.inr ⟨a, b, rfl⟩)).mono ?_
    rintro e w' ⟨N, rfl, _, _, hw⟩
    exact ⟨.iface 141 (.pointer (some ⟨N, 0, none⟩)), by simp [ErrIs, atoiOk, hA], by simp [atoiV, hA], hsep (Kp.of_below hw)⟩
  · obtain ⟨a, b, h⟩ := hT.eran
    refine (Tryz.strconv_Atoi_range s (by omega) hA _ w h (Or.inr ⟨a, b, rfl⟩)).mono ?_
    rintro e w' ⟨N, rfl, _, _, hw⟩
    exact ⟨.iface 141 (.pointer (some ⟨N, 0, none⟩)), by simp [ErrIs, atoiOk, hA], by simp [atoiV, hA], hsep (Kp.of_below hw)⟩
/-! ### Numerals -/
theorem atoiV_bd (s : ByteArray) : -9223372036854775808 ≤ atoiV s ∧ atoiV s ≤ 9223372036854775807 := by
  rcases hA : Lib.atoiAll s.data.toList with v | _ | _
  · simp only [atoiV, hA]; exact Lib.atoiAll_bounds hA
  · simp only [atoiV, hA]; decide
  · simp only [atoiV, hA]; exact Lib.atoiSat_bounds _
/-- What digits spell. -/
def dig1 (a : Nat) (c : UInt8) : Nat := 10 * a + (c.toNat - 48)
def dvL (acc : Nat) (l : List UInt8) : Nat := l.foldl dig1 acc
theorem dvL_nil (acc : Nat) : dvL acc [] = acc := List.foldl_nil
theorem dvL_cons (acc : Nat) (c : UInt8) (l : List UInt8) : dvL acc (c :: l) = dvL (dig1 acc c) l := List.foldl_cons ..
def digs (l : List UInt8) : Prop := ∀ c ∈ l, 48 ≤ c.toNat ∧ c.toNat ≤ 57
theorem dvL_app (a b : List UInt8) (acc : Nat) : dvL acc (a ++ b) = dvL (dvL acc a) b := List.foldl_append
theorem u8_dig {k : Nat} (h : k < 10) : (UInt8.ofNat (48 + k)).toNat = 48 + k := by
  rw [UInt8.toNat_ofNat']; omega
theorem dd_digs (u : Nat) : digs (Lib.decDigits u) := by
  induction u using Nat.strongRecOn with
  | ind u ih =>
    by_cases h : u < 10
    · rw [Lib.decDigits_one h]
      intro c hc
      simp only [List.mem_singleton] at hc; subst hc; rw [u8_dig h]; omega
    · rw [dd_big h]
      intro c hc
      rcases List.mem_append.1 hc with hc | hc
      · exact ih (u / 10) (by omega) c hc
      · simp only [List.mem_singleton] at hc; subst hc; rw [u8_dig (by omega)]; omega
theorem dd_val (u : Nat) : dvL 0 (Lib.decDigits u) = u := by
  induction u using Nat.strongRecOn with
  | ind u ih =>
    by_cases h : u < 10
    · rw [Lib.decDigits_one h]; simp only [dvL_cons, dvL_nil, dig1, u8_dig h]; omega
    · rw [dd_big h, dvL_app, ih (u / 10) (by omega)]
      simp only [dvL_cons, dvL_nil, dig1, u8_dig (show u % 10 < 10 by omega)]; omega
theorem dd_ne (u : Nat) : Lib.decDigits u ≠ [] := by
  by_cases h : u < 10
  · rw [Lib.decDigits_one h]; simp
  · rw [dd_big h]; simp
theorem dvL_mono (l : List UInt8) : ∀ (a : Nat), a ≤ dvL a l := by
  induction l with
  | nil => intro a; rw [dvL_nil]; exact Nat.le_refl _
  | cons c l ih =>
    intro a
    have h := ih (dig1 a c)
    rw [dvL_cons]
    simp only [dig1] at h ⊢
    omega
theorem parse_step {acc : Nat} {c : UInt8} {r : List UInt8} (hc : 48 ≤ c.toNat ∧ c.toNat ≤ 57) (h1 : ¬ 1844674407370955162 ≤ acc) (h2 : ¬ 18446744073709551616 ≤ acc * 10 + (c.toNat - 48)) : Lib.parseUint10 acc (c :: r) = Lib.parseUint10 (acc * 10 + (c.toNat - 48)) r := by
  rw [Lib.parseUint10, if_pos hc, if_neg h1, if_neg h2]
theorem parse_digs (l : List UInt8) : ∀ (acc : Nat), digs l → dvL acc l < 1000000000000000000 → Lib.parseUint10 acc l = .ok (dvL acc l) := by
  induction l with
  | nil => intro acc _ _; rw [dvL_nil, Lib.parseUint10]
  | cons c l ih =>
    intro acc hd hb
    have hc := hd c (by simp)
    rw [dvL_cons] at hb ⊢
    have hm := dvL_mono l (dig1 acc c)
    simp only [dig1] at hm hb ⊢
    rw [parse_step hc (by omega) (by omega), Nat.mul_comm acc 10]
    exact ih _ (fun x hx => hd x (by simp [hx])) hb
theorem atoi_dd {u : Nat} (h : u < 1000000000000000000) : Lib.atoiAll (Lib.decDigits u) = .ok (u : Int) := by
  have hd := dd_digs u
  have hv := dd_val u
  have hne := dd_ne u
  cases hl : Lib.decDigits u with
  | nil => exact absurd hl hne
  | cons c r =>
    rw [hl] at hd hv
    have hc := hd c (by simp)
    rw [Lib.atoiAll_plain c r (by omega) (by omega), Lib.parseMag, if_neg (by simp), parse_digs _ _ hd (by omega), hv, Lib.signless, if_neg (by omega)]
theorem atoi_itoa {u : Nat} (h : u < 1000000000000000000) : atoiOk (itoaB (u : Int)) = true ∧ atoiV (itoaB (u : Int)) = (u : Int) := by
  have : Lib.atoiAll (itoaB (u : Int)).data.toList = .ok (u : Int) := by
    rw [itoaB_pos]; simpa using atoi_dd h
  simp [atoiOk, atoiV, this]
end Go.Proofs.YtecibcjckinngaaGreatDoor
/- Numerals: the reference's Number, and what the program asks of a numeral. -/
set_option linter.unusedVariables false
namespace Go.Proofs.YtecibcjckinngaaGreatDoor
open Go Go.RowKit Enc
def negR (s : ByteArray) : Prop := ((0 : Int) < ((s.size : Nat) : Int)) ∧ (((s.data.toList.getD (0 : Int).toNat 0).toNat : Int) = (45 : Int))
instance (s : ByteArray) : Decidable (negR s) := by unfold negR; infer_instance
def fromR (s : ByteArray) : Nat := if negR s then 1 else 0
theorem from_a {s : ByteArray} (h : negR s) : (1 : Int) = ((fromR s : Nat) : Int) := by rw [fromR, if_pos h]; rfl
theorem from_b {s : ByteArray} (h : ¬ negR s) : (0 : Int) = ((fromR s : Nat) : Int) := by rw [fromR, if_neg h]; rfl
theorem fromR_le (s : ByteArray) : fromR s ≤ 1 ∧ fromR s ≤ s.size := by
  unfold fromR
  split
  · rename_i h; have := h.1; omega
  · omega
def badP (s : ByteArray) (i : Nat) : Prop := (¬ (48 ≤ ((s.data.toList.getD ((i : Nat) : Int).toNat 0).toNat : Int) ∧ ((s.data.toList.getD ((i : Nat) : Int).toNat 0).toNat : Int) ≤ 57)) ∨ ((8 : Int) < ((i : Nat) : Int) - ((fromR s : Nat) : Int))
instance (s : ByteArray) (i : Nat) : Decidable (badP s i) := by unfold badP; infer_instance
def badR (s : ByteArray) (i : Nat) : Bool := decide (badP s i)
theorem bad_n {s : ByteArray} {i : Nat} (h : ¬ badP s i) : badR s i = false := decide_eq_false h
theorem bad_y {s : ByteArray} {i : Nat} (h : badP s i) : badR s i = true := decide_eq_true h
def dvI (s : ByteArray) (f : Nat) : Nat → Int
  | 0 => 0
  | i + 1 => if f ≤ i then (((10 : Int) * dvI s f i) + ((s.data.toList.getD ((i : Nat) : Int).toNat 0).toNat : Int)) - (48 : Int) else 0
theorem dv_start (s : ByteArray) (f i : Nat) (h : i ≤ f) : dvI s f i = 0 := by
  cases i with
  | zero => rfl
  | succ i => rw [dvI, if_neg (by omega)]
theorem dv_step {s : ByteArray} {f i : Nat} (h : f ≤ i) : (((10 : Int) * dvI s f i) + ((s.data.toList.getD ((i : Nat) : Int).toNat 0).toNat : Int)) - (48 : Int) = dvI s f (i + 1) := by rw [dvI, if_pos h]
theorem dv_pow {s : ByteArray} {f : Nat} : ∀ k, (∀ j, f ≤ j → j < f + k → badR s j = false) → 0 ≤ dvI s f (f + k) ∧ dvI s f (f + k) < ((10 ^ k : Nat) : Int)
  | 0, _ => by rw [Nat.add_zero, dv_start s f f (Nat.le_refl _)]; simp
  | k + 1, h => by
    have ih := dv_pow k (fun j h1 h2 => h j h1 (by omega))
    have hb := of_decide_eq_false (h (f + k) (by omega) (by omega))
    simp only [badP, not_or, Decidable.not_not] at hb
    rw [show f + (k + 1) = (f + k) + 1 from rfl, dvI, if_pos (by omega), Nat.pow_succ]
    omega
theorem dv_bd {s : ByteArray} {i : Nat} (h1 : fromR s ≤ i) (h : ∀ j, fromR s ≤ j → j < i → badR s j = false) : 0 ≤ dvI s (fromR s) i ∧ dvI s (fromR s) i ≤ 999999999 := by
  obtain ⟨k, rfl⟩ := Nat.exists_eq_add_of_le h1
  have hp := dv_pow k h
  have hk : k ≤ 9 := by
    cases k with
    | zero => omega
    | succ k =>
      have hb := of_decide_eq_false (h (fromR s + k) (by omega) (by omega))
      simp only [badP, not_or, Decidable.not_not] at hb
      omega
  have h9 : 10 ^ k ≤ 10 ^ 9 := Nat.pow_le_pow_right (by omega) hk
  omega
def anyBad (s : ByteArray) : Bool := (List.range s.size).any (fun j => decide (fromR s ≤ j) && badR s j)
def numR (s : ByteArray) : Int × Bool :=
  if anyBad s = true then (0, false)
  else if ((fromR s : Nat) : Int) = (1 : Int) then (-(dvI s (fromR s) s.size), decide ((((fromR s : Nat) : Int) < ((s.size : Nat) : Int)) ∧ ((itoaB (-(dvI s (fromR s) s.size))) = s)))
  else (dvI s (fromR s) s.size, decide ((((fromR s : Nat) : Int) < ((s.size : Nat) : Int)) ∧ ((itoaB (dvI s (fromR s) s.size)) = s)))
theorem anyBad_y {s : ByteArray} {j : Nat} (h1 : fromR s ≤ j) (h2 : j < s.size) (h3 : badR s j = true) : anyBad s = true := by
  unfold anyBad
  rw [List.any_eq_true]
  exact ⟨j, List.mem_range.2 h2, by simp [h1, h3]⟩
theorem anyBad_n {s : ByteArray} (h : ∀ j, fromR s ≤ j → j < s.size → badR s j = false) : ¬ anyBad s = true := by
  unfold anyBad
  rw [List.any_eq_true]
  rintro ⟨j, hj, hb⟩
  simp only [Bool.and_eq_true, decide_eq_true_eq] at hb
  rw [h j hb.1 (List.mem_range.1 hj)] at hb
  simp at hb
theorem not_anyBad {s : ByteArray} (h : ¬ anyBad s = true) : ∀ j, fromR s ≤ j → j < s.size → badR s j = false := fun j h1 h2 => by
  cases hb : badR s j with
  | false => rfl
  | true => exact absurd (anyBad_y h1 h2 hb) h
theorem num_a {s : ByteArray} (h : anyBad s = true) : (((0 : Int), false) : Int × Bool) = numR s := (if_pos h).symm
theorem num_b {s : ByteArray} (h : ¬ anyBad s = true) (h2 : ((fromR s : Nat) : Int) = (1 : Int)) : (-(dvI s (fromR s) s.size), decide ((((fromR s : Nat) : Int) < ((s.size : Nat) : Int)) ∧ ((itoaB (-(dvI s (fromR s) s.size))) = s))) = numR s := by rw [numR, if_neg h, if_pos h2]
theorem num_c {s : ByteArray} (h : ¬ anyBad s = true) (h2 : ¬ ((fromR s : Nat) : Int) = (1 : Int)) : (dvI s (fromR s) s.size, decide ((((fromR s : Nat) : Int) < ((s.size : Nat) : Int)) ∧ ((itoaB (dvI s (fromR s) s.size)) = s))) = numR s := by rw [numR, if_neg h, if_neg h2]
theorem ret_num {f g : Int × Bool} (h : f = g) : Ending.returned (.tuple #[.int .i64 f.1, .bool f.2]) = Ending.returned (.tuple #[.int .i64 g.1, .bool g.2]) := by rw [h]
/-- What the program asks of a numeral. -/
def addOk (s : ByteArray) : Bool := atoiOk s && decide (itoaB (atoiV s) = s) && decide (0 ≤ atoiV s) && decide (s.size ≤ 9)
theorem itoaB_list (u : Nat) : (itoaB (u : Int)).data.toList = Lib.decDigits u := by rw [itoaB_pos]
theorem dvI_take {s : ByteArray} (hd : digs s.data.toList) : ∀ i, i ≤ s.data.toList.length → dvI s 0 i = ((dvL 0 (s.data.toList.take i) : Nat) : Int)
  | 0, _ => by simp [dvI, dvL_nil]
  | i + 1, hi => by
    have ih := dvI_take hd i (by omega)
    have hlt : i < s.data.toList.length := by omega
    have hb := hd _ (List.getElem_mem hlt)
    have hg : s.data.toList.getD ((i : Nat) : Int).toNat 0 = s.data.toList[i] := by
      show s.data.toList.getD i 0 = _
      rw [List.getD_eq_getElem?_getD, List.getElem?_eq_getElem hlt]; rfl
    rw [dvI, if_pos (Nat.zero_le _), ih, hg, List.take_succ_eq_append_getElem hlt, dvL_app, dvL_cons, dvL_nil, dig1]
    omega
theorem num_of {u : Nat} (hl : (Lib.decDigits u).length ≤ 9) : numR (itoaB (u : Int)) = ((u : Int), true) := by
  have hs := itoaB_list u
  have hd : digs (itoaB (u : Int)).data.toList := by rw [hs]; exact dd_digs u
  have hsz : (itoaB (u : Int)).size = (Lib.decDigits u).length := by rw [← hs]; simp
  have hne : 0 < (Lib.decDigits u).length := List.length_pos_iff.2 (dd_ne u)
  have hget : ∀ j, j < (itoaB (u : Int)).size → 48 ≤ ((itoaB (u : Int)).data.toList.getD j 0).toNat ∧ ((itoaB (u : Int)).data.toList.getD j 0).toNat ≤ 57 := fun j hj => by
    have hlt : j < (itoaB (u : Int)).data.toList.length := by simpa using hj
    rw [List.getD_eq_getElem?_getD, List.getElem?_eq_getElem hlt]
    exact hd _ (List.getElem_mem hlt)
  have hf : fromR (itoaB (u : Int)) = 0 := by
    rw [fromR, if_neg]
    intro hn
    have h0 := hget 0 (by omega)
    have h1 : (((itoaB (u : Int)).data.toList.getD 0 0).toNat : Int) = 45 := hn.2
    omega
  have hb : ¬ anyBad (itoaB (u : Int)) = true := anyBad_n (fun j h1 h2 => bad_n (by
    have h3 := hget j h2
    unfold badP
    rw [hf]
    show ¬ ((¬ (48 ≤ (((itoaB (u : Int)).data.toList.getD j 0).toNat : Int) ∧ (((itoaB (u : Int)).data.toList.getD j 0).toNat : Int) ≤ 57)) ∨ ((8 : Int) < ((j : Nat) : Int) - ((0 : Nat) : Int)))
    omega))
  have hv : dvI (itoaB (u : Int)) 0 (itoaB (u : Int)).size = (u : Int) := by
    rw [dvI_take hd _ (by simp), List.take_of_length_le (by simp), hs, dd_val]
  rw [← num_c hb (by rw [hf]; simp), hf, hv]
  simp
  omega
theorem num_law (s : ByteArray) : ((numR s).2 = true ∧ 0 ≤ (numR s).1) ↔ addOk s = true := by
  constructor
  · rintro ⟨h1, h2⟩
    have hb : ¬ anyBad s = true := fun q => by rw [← num_a q] at h1; simp at h1
    have hn := not_anyBad hb
    have hbd := dv_bd (fromR_le s).2 (fun j a b => hn j a b)
    have key : itoaB (numR s).1 = s ∧ (numR s).1 ≤ 999999999 := by
      by_cases hf : ((fromR s : Nat) : Int) = (1 : Int)
      · rw [← num_b hb hf] at h1 h2 ⊢
        exact ⟨(of_decide_eq_true h1).2, by simp only at h2 ⊢; omega⟩
      · rw [← num_c hb hf] at h1 h2 ⊢
        exact ⟨(of_decide_eq_true h1).2, by simp only; omega⟩
    obtain ⟨u, hu⟩ := Int.eq_ofNat_of_zero_le h2
    rw [hu] at key
    have hsz : s.size = (Lib.decDigits u).length := by rw [← key.1, ← itoaB_list u]; simp
    have hd : digs s.data.toList := by rw [← key.1, itoaB_list]; exact dd_digs u
    have h9 : s.size ≤ 9 := by
      have hlt : 0 < s.size := by rw [hsz]; exact List.length_pos_iff.2 (dd_ne u)
      have hf : fromR s = 0 := by
        rw [fromR, if_neg]
        intro q
        have q2 : ((s.data.toList.getD 0 0).toNat : Int) = 45 := q.2
        have hl0 : 0 < s.data.toList.length := by simpa using hlt
        rw [List.getD_eq_getElem?_getD, List.getElem?_eq_getElem hl0] at q2
        have := hd _ (List.getElem_mem hl0)
        simp only [Option.getD_some] at q2
        omega
      have hl := of_decide_eq_false (hn (s.size - 1) (by omega) (by omega))
      simp only [badP, not_or] at hl
      omega
    have ha := atoi_itoa (u := u) (by omega)
    rw [key.1] at ha
    simp only [addOk, ha.1, ha.2, key.1, Bool.true_and, Bool.and_eq_true, decide_eq_true_eq]
    exact ⟨⟨trivial, by omega⟩, h9⟩
  · intro h
    simp only [addOk, Bool.and_eq_true, decide_eq_true_eq] at h
    obtain ⟨⟨⟨h1, h2⟩, h3⟩, h4⟩ := h
    obtain ⟨u, hu⟩ := Int.eq_ofNat_of_zero_le h3
    rw [hu] at h2
    have hsz : s.size = (Lib.decDigits u).length := by rw [← h2, ← itoaB_list u]; simp
    have := num_of (u := u) (by omega)
    rw [h2] at this
    rw [this]
    simp
theorem num_val {s : ByteArray} (h : addOk s = true) : (numR s).1 = atoiV s := by
  simp only [addOk, Bool.and_eq_true, decide_eq_true_eq] at h
  obtain ⟨⟨⟨h1, h2⟩, h3⟩, h4⟩ := h
  obtain ⟨u, hu⟩ := Int.eq_ofNat_of_zero_le h3
  rw [hu] at h2
  have hsz : s.size = (Lib.decDigits u).length := by rw [← h2, ← itoaB_list u]; simp
  have := num_of (u := u) (by omega)
  rw [h2] at this
  rw [this, hu]
end Go.Proofs.YtecibcjckinngaaGreatDoor
/- Walks over numerals: Number. -/
set_option linter.unusedVariables false
namespace Go.Proofs.YtecibcjckinngaaGreatDoor
open Go Go.RowKit Enc
attribute [local irreducible] Effect OpsE RunE AnyE AnyAt Quiet Res1


theorem c24 (s : ByteArray) (w : World) (hb : s.size ≤ 1048576) : RetV Tryz.prog 24 #[.string s] w (.tuple #[.int .i64 (numR s).1, .bool (numR s).2]) := by
  have hlen : s.data.toList.length = s.size := by simp
  have hF := fromR_le s
  refine calls_of (args := [.string s]) Tryz.func24 rfl Tryz.ntmps24 rfl (H := []) (Facts.sep (.nil)) ?_
  refine r_seq ?_
  refine r_region ?_
  refine s1 rfl (q_assign rfl) ?_
  refine s1 rfl (q_assign rfl) ?_
  refine o_end ?_
  refine r_seq ?_
  refine r_region ?_
  refine s1 rfl (q_assign rfl) ?_
  refine o_end ?_
  refine r_seq ?_
  refine r_seq ?_
  refine r_cut [(0, .string s), (4, .int .i64 (0 : Int)), (14, .bool (decide (((0 : Int) < ((s.size : Nat) : Int)) ∧ (((s.data.toList.getD (0 : Int).toNat 0).toNat : Int) = (45 : Int)))))] [] ?_ (fun key => ?_)
  · refine r_cut [(0, .string s), (4, .int .i64 ((fromR s : Nat) : Int))] [] ?_ (fun key1 => ?_)
    · refine r_seq ?_
      refine r_region ?_
      refine s1 rfl (q_assign rfl) ?_
      refine o_end ?_
      refine r_seq ?_
      refine r_seq ?_
      refine r_region ?_
      refine s1 rfl (q_move rfl) ?_
      refine s1 rfl (q_assign rfl) ?_
      refine o_end ?_
      refine r_block ?_
      refine r_loop ?_
      refine RunE.weaken ?_ ?_ (r_rounds (fun (i : Nat) => [(0, .string s), (4, .int .i64 ((fromR s : Nat) : Int)), (5, .int .i64 (dvI s (fromR s) i)), (6, .int .i64 ((i : Nat) : Int))]) (fun (i : Nat) => []) (fun (i : Nat) => fromR s ≤ i ∧ i ≤ s.size ∧ ∀ j, fromR s ≤ j → j < i → badR s j = false) (fun (i : Nat) => s.size - i) ?_ (fromR s) ?_)
      · exact (.cons rfl (.cons rfl (.consE rfl (congrArg (Value.int .i64) (dv_start s (fromR s) (fromR s) (Nat.le_refl _)).symm) (.cons rfl (.nil)))))
      · exact (.nil)
      · intro i hI0 ih0
        obtain ⟨hI1, hI2, hI3⟩ := hI0
        have hD := dv_bd hI1 hI3
        refine r_seq ?_
        refine r_seq ?_
        refine r_region ?_
        refine s1 rfl (q_move rfl) ?_
        refine s1 rfl (q_move rfl) ?_
        refine s1 rfl (q_lens Tryz.underlying9 rfl) ?_
        refine s1 rfl (q_lss rfl rfl) ?_
        refine o_end ?_
        refine r_if rfl (fun hp2 => ?_) (fun hp2 => ?_)
        · refine r_skip ?_
          refine r_seq ?_
          refine r_block ?_
          refine r_seq ?_
          refine r_seq ?_
          refine r_cut [(0, .string s), (4, .int .i64 ((fromR s : Nat) : Int)), (5, .int .i64 (dvI s (fromR s) i)), (6, .int .i64 ((i : Nat) : Int)), (32, .bool (decide ((¬ (48 ≤ ((s.data.toList.getD ((i : Nat) : Int).toNat 0).toNat : Int) ∧ ((s.data.toList.getD ((i : Nat) : Int).toNat 0).toNat : Int) ≤ 57)) ∨ ((8 : Int) < ((i : Nat) : Int) - ((fromR s : Nat) : Int)))))] [] ?_ (fun key => ?_)
          · refine r_if rfl (fun hp3 => ?_) (fun hp3 => ?_)
            · refine r_seq ?_
              refine r_region ?_
              refine s1 rfl (q_assign rfl) ?_
              refine s1 rfl (q_assign rfl) ?_
              refine o_end ?_
              refine r_ret Tryz.func24 (res2 Tryz.results24 (res_tmp (s := 2) rfl) (res_tmp (s := 3) rfl)) (fun w hw => ?_)
              exact ⟨ret_num (num_a (anyBad_y hI1 (by omega) (bad_y hp3))), hw.kp⟩
            · refine r_skip ?_
              refine r_region ?_
              refine s1 rfl (q_move rfl) ?_
              refine s1 rfl (q_mul rfl rfl (by omega)) ?_
              refine s1 rfl (q_move rfl) ?_
              refine s1 rfl (q_move rfl) ?_
              refine s1 rfl (q_sindex Tryz.underlying9 rfl rfl (by omega) (by omega)) ?_
              refine s1 rfl (Quiet.as (q_conv Tryz.underlying5 Tryz.underlying3 rfl) (congrArg (Value.int .i64) (wrap_i64 (by omega)))) ?_
              refine s1 rfl (q_add rfl rfl (by omega)) ?_
              refine s1 rfl (q_sub rfl rfl (by omega)) ?_
              refine s1 rfl (q_assign rfl) ?_
              refine o_end ?_
              refine r_inBlock ?_
              refine r_region ?_
              refine s1 rfl (q_move rfl) ?_
              refine s1 rfl (q_add rfl rfl (by omega)) ?_
              refine s1 rfl (q_assign rfl) ?_
              refine o_end ?_
              refine r_inLoop ?_
              refine RunE.weaken ?_ ?_ (ih0 (i + 1) ?_ ?_)
              · exact (.cons rfl (.cons rfl (.consE rfl (congrArg (Value.int .i64) (dv_step (by omega))) (.cons rfl (.nil)))))
              · exact (.nil)
              · exact ⟨by omega, by omega, fun j hj hj2 => by rcases Nat.lt_succ_iff_lt_or_eq.1 hj2 with h | rfl; exact hI3 j hj h; exact bad_n hp3⟩
              · omega
          · refine r_region ?_
            refine s1 rfl (q_move rfl) ?_
            refine s1 rfl (q_move rfl) ?_
            refine s1 rfl (q_sindex Tryz.underlying9 rfl rfl (by omega) (by omega)) ?_
            refine sx rfl (e_call en43 (.cons rfl (.nil)) ((fun w hw => c43 ((s.data.toList.getD ((i : Nat) : Int).toNat 0).toNat : Int) w))) (fun _ _ => ?_)
            refine s1 rfl (q_not rfl) ?_
            refine s1 rfl (q_move rfl) ?_
            refine g_split (s := 27) rfl (fun hp4 => ?_) (fun hp4 => ?_)
            · refine g_off rfl rfl rfl ?_
              iterate 3 refine g_off rfl rfl rfl ?_
              refine s1 rfl (q_pickt rfl rfl) ?_
              refine o_end ?_
              exact key.weaken (.cons rfl (.cons rfl (.cons rfl (.cons rfl (.consE rfl (congrArg Value.bool (decide_eq_true (Or.inl hp4)).symm) (.nil)))))) (.nil)
            · refine g_on rfl rfl ?_
              refine s1 rfl (q_move rfl) ?_
              refine g_on rfl rfl ?_
              refine s1 rfl (q_move rfl) ?_
              refine g_on rfl rfl ?_
              refine s1 rfl (q_sub rfl rfl (by omega)) ?_
              refine g_on rfl rfl ?_
              refine s1 rfl (q_gtr rfl rfl) ?_
              refine s1 rfl (q_pickf rfl rfl) ?_
              refine o_end ?_
              exact key.weaken (.cons rfl (.cons rfl (.cons rfl (.cons rfl (.consE rfl (congrArg Value.bool (by first | (simp only [hp4, (Decidable.not_not.1 hp4), ne_eq, not_true_eq_false, not_false_eq_true, true_or, or_true, false_or, or_false, true_and, and_true, false_and, and_false, Bool.decide_eq_true] <;> first | exact nb_dec _ | exact b_dec _ | (simp; done)) | exact nb_dec _ | exact b_dec _ | (simp; done) | (exfalso; omega))) (.nil)))))) (.nil)
        · refine r_exit rfl ?_
          refine r_seq ?_
          refine r_seq ?_
          refine r_region ?_
          refine s1 rfl (q_move rfl) ?_
          refine s1 rfl (q_eql rfl rfl) ?_
          refine o_end ?_
          refine r_if rfl (fun hp5 => ?_) (fun hp5 => ?_)
          · refine r_region ?_
            refine s1 rfl (q_move rfl) ?_
            refine s1 rfl (q_neg rfl (by omega)) ?_
            refine s1 rfl (q_assign rfl) ?_
            refine o_end ?_
            refine r_seq ?_
            refine r_cut [(2, .int .i64 (-(dvI s (fromR s) i))), (3, .bool (decide ((((fromR s : Nat) : Int) < ((s.size : Nat) : Int)) ∧ ((itoaB (-(dvI s (fromR s) i))) = s))))] [] ?_ (fun key => ?_)
            · refine r_ret Tryz.func24 (res2 Tryz.results24 (res_tmp (s := 2) rfl) (res_tmp (s := 3) rfl)) (fun w hw => ?_)
              have hi : i = s.size := by omega
              subst hi
              exact ⟨ret_num (num_b (anyBad_n (fun j a b => hI3 j a b)) (by assumption)), hw.kp⟩
            · refine r_region ?_
              refine s1 rfl (q_move rfl) ?_
              refine s1 rfl (q_move rfl) ?_
              refine s1 rfl (q_lens Tryz.underlying9 rfl) ?_
              refine s1 rfl (q_move rfl) ?_
              refine s1 rfl (q_gtr rfl rfl) ?_
              refine s1 rfl (q_move rfl) ?_
              refine g_split (s := 50) rfl (fun hp6 => ?_) (fun hp6 => ?_)
              · refine g_on rfl rfl ?_
                refine s1 rfl (q_move rfl) ?_
                refine g_on rfl rfl ?_
                refine sx rfl (e_call en27 (.cons rfl (.nil)) ((fun w hw => c27 (-(dvI s (fromR s) i)) w (by omega)))) (fun _ _ => ?_)
                refine g_on rfl rfl ?_
                refine s1 rfl (q_move rfl) ?_
                refine g_on rfl rfl ?_
                refine s1 rfl (q_seql rfl rfl) ?_
                refine s1 rfl (q_pickt rfl rfl) ?_
                refine s1 rfl (q_assign rfl) ?_
                refine s1 rfl (q_assign rfl) ?_
                refine o_end ?_
                exact key.weaken (.cons rfl (.consE rfl (congrArg Value.bool (by first | (simp only [hp6, ne_eq, not_true_eq_false, not_false_eq_true, true_or, or_true, false_or, or_false, true_and, and_true, false_and, and_false, Bool.decide_eq_true] <;> first | exact nb_dec _ | exact b_dec _ | (simp; done)) | exact nb_dec _ | exact b_dec _ | (simp; done) | (exfalso; omega))) (.nil))) (.nil)
              · refine g_off rfl rfl rfl ?_
                iterate 3 refine g_off rfl rfl rfl ?_
                refine s1 rfl (q_pickf rfl rfl) ?_
                refine s1 rfl (q_assign rfl) ?_
                refine s1 rfl (q_assign rfl) ?_
                refine o_end ?_
                exact key.weaken (.cons rfl (.consE rfl (congrArg Value.bool (decide_eq_false (fun h => hp6 h.1)).symm) (.nil))) (.nil)
          · refine r_skip ?_
            refine r_seq ?_
            refine r_cut [(2, .int .i64 (dvI s (fromR s) i)), (3, .bool (decide ((((fromR s : Nat) : Int) < ((s.size : Nat) : Int)) ∧ ((itoaB (dvI s (fromR s) i)) = s))))] [] ?_ (fun key => ?_)
            · refine r_ret Tryz.func24 (res2 Tryz.results24 (res_tmp (s := 2) rfl) (res_tmp (s := 3) rfl)) (fun w hw => ?_)
              have hi : i = s.size := by omega
              subst hi
              exact ⟨ret_num (num_c (anyBad_n (fun j a b => hI3 j a b)) (by assumption)), hw.kp⟩
            · refine r_region ?_
              refine s1 rfl (q_move rfl) ?_
              refine s1 rfl (q_move rfl) ?_
              refine s1 rfl (q_lens Tryz.underlying9 rfl) ?_
              refine s1 rfl (q_move rfl) ?_
              refine s1 rfl (q_gtr rfl rfl) ?_
              refine s1 rfl (q_move rfl) ?_
              refine g_split (s := 50) rfl (fun hp7 => ?_) (fun hp7 => ?_)
              · refine g_on rfl rfl ?_
                refine s1 rfl (q_move rfl) ?_
                refine g_on rfl rfl ?_
                refine sx rfl (e_call en27 (.cons rfl (.nil)) ((fun w hw => c27 (dvI s (fromR s) i) w (by omega)))) (fun _ _ => ?_)
                refine g_on rfl rfl ?_
                refine s1 rfl (q_move rfl) ?_
                refine g_on rfl rfl ?_
                refine s1 rfl (q_seql rfl rfl) ?_
                refine s1 rfl (q_pickt rfl rfl) ?_
                refine s1 rfl (q_assign rfl) ?_
                refine s1 rfl (q_assign rfl) ?_
                refine o_end ?_
                exact key.weaken (.cons rfl (.consE rfl (congrArg Value.bool (by first | (simp only [hp7, ne_eq, not_true_eq_false, not_false_eq_true, true_or, or_true, false_or, or_false, true_and, and_true, false_and, and_false, Bool.decide_eq_true] <;> first | exact nb_dec _ | exact b_dec _ | (simp; done)) | exact nb_dec _ | exact b_dec _ | (simp; done) | (exfalso; omega))) (.nil))) (.nil)
              · refine g_off rfl rfl rfl ?_
                iterate 3 refine g_off rfl rfl rfl ?_
                refine s1 rfl (q_pickf rfl rfl) ?_
                refine s1 rfl (q_assign rfl) ?_
                refine s1 rfl (q_assign rfl) ?_
                refine o_end ?_
                exact key.weaken (.cons rfl (.consE rfl (congrArg Value.bool (decide_eq_false (fun h => hp7 h.1)).symm) (.nil))) (.nil)
      · exact ⟨by omega, by omega, fun j hj hj2 => by omega⟩
    · refine r_if rfl (fun hp8 => ?_) (fun hp8 => ?_)
      · refine r_region ?_
        refine s1 rfl (q_assign rfl) ?_
        refine o_end ?_
        exact key1.weaken (.cons rfl (.consE rfl (congrArg (Value.int .i64) (from_a (by assumption))) (.nil))) (.nil)
      · refine r_skip ?_
        exact key1.weaken (.cons rfl (.consE rfl (congrArg (Value.int .i64) (from_b (by assumption))) (.nil))) (.nil)
  · refine r_region ?_
    refine s1 rfl (q_move rfl) ?_
    refine s1 rfl (q_lens Tryz.underlying9 rfl) ?_
    refine s1 rfl (q_gtr rfl rfl) ?_
    refine s1 rfl (q_move rfl) ?_
    refine g_split (s := 10) rfl (fun hp9 => ?_) (fun hp9 => ?_)
    · refine g_on rfl rfl ?_
      refine s1 rfl (q_move rfl) ?_
      refine g_on rfl rfl ?_
      refine s1 rfl (q_sindex Tryz.underlying9 rfl rfl (by omega) (by omega)) ?_
      refine g_on rfl rfl ?_
      refine s1 rfl (q_eql rfl rfl) ?_
      refine s1 rfl (q_pickt rfl rfl) ?_
      refine o_end ?_
      exact key.weaken (.cons rfl (.cons rfl (.consE rfl (congrArg Value.bool (by first | (simp only [hp9, ne_eq, not_true_eq_false, not_false_eq_true, true_or, or_true, false_or, or_false, true_and, and_true, false_and, and_false, Bool.decide_eq_true] <;> first | exact nb_dec _ | exact b_dec _ | (simp; done)) | exact nb_dec _ | exact b_dec _ | (simp; done) | (exfalso; omega))) (.nil)))) (.nil)
    · refine g_off rfl rfl rfl ?_
      refine g_off rfl rfl rfl ?_
      refine g_off rfl rfl rfl ?_
      refine s1 rfl (q_pickf rfl rfl) ?_
      refine o_end ?_
      exact key.weaken (.cons rfl (.cons rfl (.consE rfl (congrArg Value.bool (decide_eq_false (fun h => hp9 h.1)).symm) (.nil)))) (.nil)

end Go.Proofs.YtecibcjckinngaaGreatDoor
/- Adding a breakpoint. -/
set_option linter.unusedVariables false
namespace Go.Proofs.YtecibcjckinngaaGreatDoor
open Go Go.RowKit Enc
theorem eqin_nn (n : Nat) (w : World) : (Op.equalIn (n + 1) 111 .nilIface .nilIface).run Tryz.prog w = .ok true w := by
  rw [Op.equalIn]
  simp [run_underlying Tryz.underlying111]
theorem eqin_vn (n : Nat) (te : TypeId) (pe : Value) (w : World) : (Op.equalIn (n + 1) 111 (.iface te pe) .nilIface).run Tryz.prog w = .ok false w := by
  rw [Op.equalIn]
  simp [run_underlying Tryz.underlying111]
theorem eq_nn (w : World) : (Op.equal 111 .nilIface .nilIface).run Tryz.prog w = .ok true w := eqin_nn 9999 w
theorem eq_vn (te : TypeId) (pe : Value) (w : World) : (Op.equal 111 (.iface te pe) .nilIface).run Tryz.prog w = .ok false w := eqin_vn 9999 te pe w
section
variable {f : FuncId} {n : Nat} {K : Nat → Prop} {w0 : World} {R : Ending → World → Prop} {ds : List Deferred} {e : Env} {H : Hp}
theorem q_errneq {x : Operand} {d : Nat} {t t2 : TypeId} {p : String} {af : Array Edge} {g : Option (Nat × Bool)} {v : Value} {s : ByteArray} (hx : e.op x = some v) (h : ErrIs s v) : Quiet ⟨Tryz.prog, f, n, K, w0, R, ds⟩ e H ⟨some d, .binOp .neq 111 x (.const .nilIface) t2, t, p, af, g⟩ (.bool (!atoiOk s)) := fun act w hact hw => by
  have hy : act.eval (.const .nilIface) = .nilIface := rfl
  unfold ErrIs at h
  cases hA : atoiOk s with
  | true =>
    rw [if_pos hA] at h
    subst h
    simp [execOp, hact.op hx, hy, eqGuard, binOp, eq_nn]
  | false =>
    rw [if_neg (by rw [hA]; simp)] at h
    obtain ⟨te, pe, rfl⟩ := h
    simp [execOp, hact.op hx, hy, eqGuard, binOp, eq_vn]
end
/-- A breakpoint of moderate size. -/
structure Small (b : BrkM) : Prop where
  mod : b.mod.size ≤ 1048576
  name : b.name.size ≤ 1048576
  text : b.text.size ≤ 1048576
  line : -9223372036854775808 ≤ b.line ∧ b.line ≤ 9223372036854775807
theorem Small.ok {b : BrkM} (h : Small b) (w : World) : Enc.ok w b :=
  ⟨by have := h.mod; simp only [Enc.ok]; omega, h.line, by have := h.name; simp only [Enc.ok]; omega, by have := h.text; simp only [Enc.ok]; omega⟩
def sWhat : ByteArray := ⟨#[119, 104, 97, 116, 63]⟩
def sRefused : ByteArray := ⟨#[114, 101, 102, 117, 115, 101, 100]⟩
def sBreakpoint : ByteArray := ⟨#[98, 114, 101, 97, 107, 112, 111, 105, 110, 116, 32]⟩
def newBrk (ws : List ByteArray) : BrkM := if ws.length = 4 then ⟨nth ws 0, atoiV (nth ws 1), nth ws 2, nth ws 3⟩ else ⟨nth ws 0, atoiV (nth ws 1), ⟨#[]⟩, ⟨#[]⟩⟩
def refuses (brk : List BrkM) (ws : List ByteArray) : Prop := (breaksFault (brk ++ [newBrk ws])).1 ≠ 0 ∨ (ws.length = 4 ∧ (newBrk ws).name = (⟨#[]⟩ : ByteArray))
instance (brk : List BrkM) (ws : List ByteArray) : Decidable (refuses brk ws) := by unfold refuses; infer_instance
/-- What adding a breakpoint answers, and the breakpoints behind it. -/
def addP (brk : List BrkM) (ws : List ByteArray) : ByteArray × List BrkM :=
  if addOk (nth ws 1) = true then
    if refuses brk ws then (sRefused, brk) else (sBreakpoint ++ itoaB (((brk ++ [newBrk ws]).length : Nat) : Int), brk ++ [newBrk ws])
  else (sWhat, brk)
theorem nil_el {α : Type} [Enc α] [Inhabited α] {w : World} {b : Sl α} (hb : Enc.ok w b) (hz : 0 < sz α) (h : b.addr = none) : b.el = [] := by
  cases hl : b.el with
  | nil => rfl
  | cons x xs =>
    have := Sl.OK.isSome hb hz (i := 0) (by rw [hl]; simp)
    rw [h] at this
    simp at this
theorem nth_size {l : List ByteArray} {m : Nat} (h : ∀ q ∈ l, q.size ≤ m) (i : Nat) : (nth l i).size ≤ m := by
  by_cases hi : i < l.length
  · exact h _ (nth_mem hi)
  · rw [nth_default (by omega)]; show (0 : Nat) ≤ m; omega
theorem new_small {ws : List ByteArray} (h : ∀ q ∈ ws, q.size ≤ 1048576) : Small (newBrk ws) := by
  have h1 := fun i => nth_size h i
  have h2 := atoiV_bd (nth ws 1)
  unfold newBrk
  split
  · exact ⟨h1 0, h1 2, h1 3, h2⟩
  · exact ⟨h1 0, by show (0 : Nat) ≤ _; omega, by show (0 : Nat) ≤ _; omega, h2⟩
theorem small_app {l : List BrkM} {b : BrkM} (h : ∀ q ∈ l, Small q) (hb : Small b) : ∀ q ∈ l ++ [b], Small q := by
  intro q hq
  rcases List.mem_append.1 hq with hq | hq
  · exact h q hq
  · simp only [List.mem_singleton] at hq; subst hq; exact hb
theorem new_y {ws : List ByteArray} (h : ((ws.length : Nat) : Int) = 4) : (⟨nth ws 0, atoiV (nth ws 1), nth ws 2, nth ws 3⟩ : BrkM) = newBrk ws := by rw [newBrk, if_pos (by omega)]
theorem new_n {ws : List ByteArray} (h : ¬ ((ws.length : Nat) : Int) = 4) : (⟨nth ws 0, atoiV (nth ws 1), ⟨#[]⟩, ⟨#[]⟩⟩ : BrkM) = newBrk ws := by rw [newBrk, if_neg (by omega)]
theorem addOk_n {s : ByteArray} (h : (((¬ (atoiOk s = true)) ∨ ((itoaB (atoiV s)) ≠ s)) ∨ (atoiV s < (0 : Int))) ∨ ((9 : Int) < ((s.size : Nat) : Int))) : ¬ addOk s = true := by
  intro q
  simp only [addOk, Bool.and_eq_true, decide_eq_true_eq] at q
  rcases h with ((h | h) | h) | h
  · exact h q.1.1.1
  · exact h q.1.1.2
  · have := q.1.2; omega
  · have := q.2; omega
theorem addOk_y {s : ByteArray} (h : ¬ ((((¬ (atoiOk s = true)) ∨ ((itoaB (atoiV s)) ≠ s)) ∨ (atoiV s < (0 : Int))) ∨ ((9 : Int) < ((s.size : Nat) : Int)))) : addOk s = true := by
  simp only [not_or, Decidable.not_not] at h
  simp only [addOk, h.1.1.1, h.1.1.2, Bool.true_and, Bool.and_eq_true, decide_eq_true_eq]
  exact ⟨⟨trivial, by omega⟩, by omega⟩
theorem add_a {brk : List BrkM} {ws : List ByteArray} (h : ¬ addOk (nth ws 1) = true) : addP brk ws = (sWhat, brk) := if_neg h
theorem add_b {brk : List BrkM} {ws : List ByteArray} (h : addOk (nth ws 1) = true) (h2 : refuses brk ws) : addP brk ws = (sRefused, brk) := by rw [addP, if_pos h, if_pos h2]
theorem add_c {brk : List BrkM} {ws : List ByteArray} (h : addOk (nth ws 1) = true) (h2 : ¬ refuses brk ws) : addP brk ws = (sBreakpoint ++ itoaB (((brk ++ [newBrk ws]).length : Nat) : Int), brk ++ [newBrk ws]) := by rw [addP, if_pos h, if_neg h2]
theorem ref_4 {brk : List BrkM} {ws : List ByteArray} (hl : ((ws.length : Nat) : Int) = 4) : refuses brk ws ↔ ((¬ ((breaksFault (brk ++ [newBrk ws])).1 = (0 : Int))) ∨ ((((ws.length : Nat) : Int) = (4 : Int)) ∧ ((nth ws 2) = (⟨#[]⟩ : ByteArray)))) := by
  have h4 : ws.length = 4 := by omega
  have hn : (newBrk ws).name = nth ws 2 := by rw [newBrk, if_pos h4]
  unfold refuses
  rw [hn]
  simp [hl, h4]
theorem ref_n {brk : List BrkM} {ws : List ByteArray} {P : Prop} (hl : ¬ ((ws.length : Nat) : Int) = 4) : refuses brk ws ↔ ((¬ ((breaksFault (brk ++ [newBrk ws])).1 = (0 : Int))) ∨ ((((ws.length : Nat) : Int) = (4 : Int)) ∧ P)) := by
  have h4 : ¬ ws.length = 4 := by omega
  unfold refuses
  simp [hl, h4]
section
variable {K : Nat → Prop} {w0 w : World} {H : Hp}
theorem sep_same (hS : Sep K w0 H w) {g : Nat} {cs : List Value} {brk : Sl BrkM} (h : H.get 50 = some (.box g cs 37)) : Sep K w0 [(50, .box g cs 37), (51, .fn (fun w => brk = brk ∨ Enc.ok w brk))] w :=
  ((hS.ren (.cons (t := 50) (t0 := 50) h rfl .nil)).fnTrue (t := 51) rfl (fun _ => Or.inl rfl)).ren (.cons (t0 := 50) rfl rfl (.cons (t0 := 51) rfl rfl .nil))
theorem sep_new (hS : Sep K w0 H w) {g tg : Nat} {cs : List Value} {brk : Sl BrkM} {a : Option Addr} {c : Nat} {l : List BrkM} (h : H.get 50 = some (.box g cs 37)) (hr : H.get tg = some (.row 64 (sz BrkM) a l.length c (encs l))) (hne : (50 == tg) = false) (hl : l.length ≤ 51) (hs : ∀ q ∈ l, Small q) :
    Sep K w0 [(50, .box g cs 37), (51, .fn (fun w => (⟨a, c, l⟩ : Sl BrkM) = brk ∨ Enc.ok w (⟨a, c, l⟩ : Sl BrkM)))] w := by
  have h1 := hS.freezeRow hr (by simp only [by_]; omega) (fun w q hq => (hs q hq).ok w)
  have hne' : 50 ≠ tg := by simpa using hne
  have h2 : Sep K w0 [(50, .box g cs 37), (52, .fn (fun w => Enc.ok w (⟨a, c, l⟩ : Sl BrkM)))] w := h1.ren (.cons (t0 := 50) ((Hp.get_ne (Ne.symm hne')).trans h) (by simpa using hne') (.cons (t0 := tg) Hp.get_same rfl .nil))
  exact (h2.fnImp (t := 51) (t1 := 52) rfl rfl (fun w hw => Or.inr hw)).ren (.cons (t0 := 50) rfl rfl (.cons (t0 := 51) rfl rfl .nil))
end
end Go.Proofs.YtecibcjckinngaaGreatDoor
