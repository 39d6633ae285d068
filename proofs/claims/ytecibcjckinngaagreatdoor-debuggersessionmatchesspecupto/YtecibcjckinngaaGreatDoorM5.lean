/- A part of the proof of the law DebuggerSessionMatchesSpec (second form): part 5. -/
import Derived.Test.YtecibcjckinngaaGreatDoorM4
import Derived.RangeFuncNested
import Derived.RangeFuncBound
import Derived.RangeFuncBox
import Derived.RangeFuncCalls
import Derived.RangeFuncLeaves
import Derived.Shelf.Abstract
import Derived.Shelf.RegionOpen
import Derived.WalkKit
import Derived.OwnWalkIn
import Derived.TacticsInMore
import Derived.LoopNIn
import Derived.LoopIn
set_option linter.unusedSimpArgs false
/- Walks over the adding of breakpoints: Clone, add. -/
set_option linter.unusedVariables false
namespace Go.Proofs.YtecibcjckinngaaGreatDoor
open Go Go.RowKit Enc
attribute [local irreducible] Effect OpsE RunE AnyE AnyAt Quiet Res1


theorem c66 (b : Sl BrkM) (w : World) (hb : ok w b) (hn : b.el.length ≤ 1048576) : RetRow Tryz.prog 66 #[.slice b.addr b.el.length b.cap] w 64 b.el := by
  intro tg
  refine calls_of (args := [.slice b.addr b.el.length b.cap]) Tryz.func66 rfl Tryz.ntmps66 rfl (H := [(100, .fz (fun w => ok w b))]) (Facts.sep (.cons (supp_ok hb) (.nil))) ?_
  refine r_seq ?_
  refine r_region ?_
  refine s1 rfl (q_assign rfl) ?_
  refine o_end ?_
  refine r_seq ?_
  refine r_seq ?_
  refine r_region ?_
  refine s1 rfl (q_move rfl) ?_
  refine s1 rfl (q_nilslice Tryz.underlying35 rfl rfl) ?_
  refine o_end ?_
  refine r_if rfl (fun hp1 => ?_) (fun hp1 => ?_)
  · refine r_seq ?_
    refine r_region ?_
    refine s1 rfl (q_assign rfl) ?_
    refine o_end ?_
    refine r_ret Tryz.func66 (res1 Tryz.results66 (res_tmp (s := 2) rfl)) (fun w hw => ?_)
    rw [show b.el = [] from nil_el hb (by decide) hp1]
    exact ⟨(none, 0), trivial, rfl, (hw.nilRow 0 64 4).one (t := 0) rfl nofzrow⟩
  · refine r_skip ?_
    refine r_seq ?_
    refine r_region ?_
    refine sx rfl (e_bslice0 (α := BrkM) Tryz.underlying35 zi64) (fun g1 _ => ?_)
    refine s1 rfl (q_move rfl) ?_
    refine sx rfl (e_appendL (tg := 5) (l := ([] : List BrkM)) (l' := b.el) Tryz.underlying35 in64 rfl rfl rfl rfl rfl rfl rfl (fun w hw => (show Sl.OK w _ from (hw.get_fz (t := 100) rfl)).sh) (by simp only [List.length_cons, List.length_nil]; omega)) (fun ⟨a2, c3⟩ _ => ?_)
    rw [show ([] : List BrkM) ++ b.el = b.el from (List.nil_append _)]
    refine s1 rfl (q_assign rfl) ?_
    refine o_end ?_
    refine r_ret Tryz.func66 (res1 Tryz.results66 (res_tmp (s := 2) rfl)) (fun w hw => ?_)
    exact ⟨(a2, c3), trivial, rfl, hw.one (t := 5) rfl nofzrow⟩


theorem c39 (g : Nat) (tr : Sl EvM) (p : Int) (brk : Sl BrkM) (ws : Sl ByteArray) (w : World) (hb : brk.el.length ≤ 50) (hbs : ∀ q ∈ brk.el, Small q) (hws : ∀ q ∈ ws.el, q.size ≤ 1048576) (hwl : ws.el.length = 2 ∨ ws.el.length = 4) : CallM Tryz.prog 39 #[.pointer (some ⟨g, 0, none⟩), .slice ws.addr ws.el.length ws.cap] w ([(50, .box g [.slice tr.addr tr.el.length tr.cap, .int .i64 p, .slice brk.addr brk.el.length brk.cap] 37)] ++ [(100, .fz (fun w => ok w brk)), (101, .fz (fun w => ok w ws)), (199, .fz (fun w => Tabs w))]) (fun x : Sl BrkM => .string (addP brk.el ws.el).1) (fun x => [(50, .box g [tr.val, .int .i64 p, x.val] 37), (51, .fn (fun w => x = brk ∨ ok w x))]) (fun x => x.el = (addP brk.el ws.el).2) := by
  have hnb := small_app hbs (new_small hws)
  have hLW : ws.el.length ≤ 4 := by omega
  have hn1 := nth_size hws 1
  have hav := atoiV_bd (nth ws.el 1)
  have hL51 : (brk.el ++ [newBrk ws.el]).length ≤ 51 := by simp only [List.length_append, List.length_cons, List.length_nil]; omega
  refine callm_of (args := [.pointer (some ⟨g, 0, none⟩), .slice ws.addr ws.el.length ws.cap]) Tryz.func39 rfl Tryz.ntmps39 rfl (fun K => ?_)
  refine r_seq ?_
  refine r_region ?_
  refine s1 rfl (q_assign rfl) ?_
  refine o_end ?_
  refine r_seq ?_
  refine r_region ?_
  refine s1 rfl (q_move rfl) ?_
  refine s1 rfl (q_indexAddr Tryz.underlying23 z9 rfl rfl rfl (by omega) (by omega) (fun w hw => Sl.OK.isSome (hw.get_fz (t := 101) rfl) (by decide) (i := 1) (by omega))) ?_
  refine s1 rfl (q_load ag9 rfl (fun w hw => Sl.OK.cell0 (hw.get_fz (t := 101) rfl) (i := 1) (by omega) rfl)) ?_
  refine sx rfl (e_callx en65 (.cons rfl (.nil)) (fun w hw => c65 (nth ws.el 1) w (by omega) (hw.get_fz (t := 199) rfl)) (fun _ t φ h => by simp [Hp.get] at h)) (fun x1 hx2 => ?_)
  refine s1 rfl (q_move rfl) ?_
  refine s1 rfl (q_extract rfl rfl) ?_
  refine s1 rfl (q_extract rfl rfl) ?_
  refine s1 rfl (q_assign rfl) ?_
  refine s1 rfl (q_assign rfl) ?_
  refine o_end ?_
  refine r_seq ?_
  refine r_seq ?_
  refine r_cut [(0, .pointer (some ⟨g, 0, none⟩)), (1, .slice ws.addr ws.el.length ws.cap), (5, .int .i64 (atoiV (nth ws.el 1))), (36, .bool (decide ((((¬ (atoiOk (nth ws.el 1) = true)) ∨ ((itoaB (atoiV (nth ws.el 1))) ≠ (nth ws.el 1))) ∨ (atoiV (nth ws.el 1) < (0 : Int))) ∨ ((9 : Int) < (((nth ws.el 1).size : Nat) : Int)))))] [(100, .fz (fun w => ok w brk)), (101, .fz (fun w => ok w ws)), (199, .fz (fun w => Tabs w)), (50, .box g [.slice tr.addr tr.el.length tr.cap, .int .i64 p, .slice brk.addr brk.el.length brk.cap] 37)] ?_ (fun key => ?_)
  · refine r_if rfl (fun hp1 => ?_) (fun hp1 => ?_)
    · refine r_seq ?_
      refine r_region ?_
      refine s1 rfl (q_assign rfl) ?_
      refine o_end ?_
      refine r_ret Tryz.func39 (res1 Tryz.results39 (res_tmp (s := 4) rfl)) (fun w hw => ?_)
      have hr := add_a (addOk_n hp1) (brk := brk.el) (ws := ws.el)
      exact ⟨brk, by rw [hr], by rw [hr]; rfl, sep_same hw rfl⟩
    · refine r_skip ?_
      refine r_seq ?_
      refine r_region ?_
      refine s1 rfl (q_move rfl) ?_
      refine s1 rfl (q_indexAddr Tryz.underlying23 z9 rfl rfl rfl (by omega) (by omega) (fun w hw => Sl.OK.isSome (hw.get_fz (t := 101) rfl) (by decide) (i := 0) (by omega))) ?_
      refine s1 rfl (q_load ag9 rfl (fun w hw => Sl.OK.cell0 (hw.get_fz (t := 101) rfl) (i := 0) (by omega) rfl)) ?_
      refine s1 rfl (q_move rfl) ?_
      refine s1 rfl (q_build (cs := [.string (nth ws.el 0), .int .i64 (atoiV (nth ws.el 1)), .string ByteArray.empty, .string ByteArray.empty]) (.cons rfl (.cons rfl (.nil))) (by kernel_rfl)) ?_
      refine sx rfl (e_alloc zz64) (fun g3 _ => ?_)
      refine sxn (e_store (tg := 7) (news := [.string (nth ws.el 0), .int .i64 (atoiV (nth ws.el 1)), .string ByteArray.empty, .string ByteArray.empty]) rfl rfl rfl rfl z64 rfl rfl (.cons (.cons (.cons (.cons (.nil _)))))) (fun _ _ => ?_)
      refine o_end ?_
      refine r_seq ?_
      refine r_seq ?_
      refine r_region ?_
      refine s1 rfl (q_move rfl) ?_
      refine s1 rfl (q_len Tryz.underlying23 rfl) ?_
      refine s1 rfl (q_eql rfl rfl) ?_
      refine o_end ?_
      refine r_if rfl (fun hp2 => ?_) (fun hp2 => ?_)
      · refine r_draw [(100, .fz (fun w => ok w brk)), (101, .fz (fun w => ok w ws)), (199, .fz (fun w => Tabs w)), (50, .box g [.slice tr.addr tr.el.length tr.cap, .int .i64 p, .slice brk.addr brk.el.length brk.cap] 37)] (by kernel_rfl) rfl (.cons rfl (.cons rfl (.cons rfl (.cons rfl (.nil))))) ?_
        refine d1 0 rfl (by kernel_rfl) rfl rfl (q_move rfl) ?_
        refine d1 1 rfl (by kernel_rfl) rfl rfl (q_indexAddr Tryz.underlying23 z9 rfl rfl rfl (by omega) (by omega) (fun w hw => Sl.OK.isSome (hw.get_fz (t := 101) rfl) (by decide) (i := 2) (by omega))) ?_
        refine d1 2 rfl (by kernel_rfl) rfl rfl (q_load ag9 rfl (fun w hw => Sl.OK.cell0 (hw.get_fz (t := 101) rfl) (i := 2) (by omega) rfl)) ?_
        refine d1 3 rfl (by kernel_rfl) rfl rfl (q_move rfl) ?_
        refine d1 4 rfl (by kernel_rfl) rfl rfl (q_indexAddr Tryz.underlying23 z9 rfl rfl rfl (by omega) (by omega) (fun w hw => Sl.OK.isSome (hw.get_fz (t := 101) rfl) (by decide) (i := 3) (by omega))) ?_
        refine d1 5 rfl (by kernel_rfl) rfl rfl (q_load ag9 rfl (fun w hw => Sl.OK.cell0 (hw.get_fz (t := 101) rfl) (i := 3) (by omega) rfl)) ?_
        refine d1 6 rfl (by kernel_rfl) rfl rfl (q_fieldAddr of64_2 rfl rfl) ?_
        refine dxn 7 rfl (by kernel_rfl) rfl (want_none rfl) (e_store (tg := 7) (news := [.string (nth ws.el 2)]) rfl rfl rfl rfl z9 rfl rfl (.skip (.skip (.cons (.nil _))))) (fun _ => (.cons rfl (.cons rfl (.cons rfl (.cons rfl (.nil)))))) (fun _ _ => ?_)
        refine d1 8 rfl (by kernel_rfl) rfl rfl (q_fieldAddr of64_3 rfl rfl) ?_
        refine dxln 9 rfl (by kernel_rfl) rfl (by kernel_rfl) (by kernel_rfl) (e_store (tg := 7) (news := [.string (nth ws.el 3)]) rfl rfl rfl rfl z9 rfl rfl (.skip (.skip (.skip (.cons (.nil _)))))) (fun _ _ => ?_)
        refine r_seq ?_
        refine r_cutx (fun q4 : (Option Addr × Nat) × Nat => [(0, .pointer (some ⟨g, 0, none⟩)), (1, .slice ws.addr ws.el.length ws.cap), (7, .pointer (some ⟨g3, 0, none⟩)), (8, .slice q4.1.1 ((brk.el ++ [newBrk ws.el]).length) q4.1.2)]) (fun q4 : (Option Addr × Nat) × Nat => [(100, .fz (fun w => ok w brk)), (101, .fz (fun w => ok w ws)), (199, .fz (fun w => Tabs w)), (50, .box g [.slice tr.addr tr.el.length tr.cap, .int .i64 p, .slice brk.addr brk.el.length brk.cap] 37), (7, .box g3 [.string (nth ws.el 0), .int .i64 (atoiV (nth ws.el 1)), .string (nth ws.el 2), .string (nth ws.el 3)] 64), (57, .row 64 4 q4.1.1 ((brk.el ++ [newBrk ws.el]).length) q4.1.2 (encs (brk.el ++ [newBrk ws.el]))), (59, .row 64 4 (some ⟨q4.2, 0, none⟩) (([(⟨nth ws.el 0, atoiV (nth ws.el 1), nth ws.el 2, nth ws.el 3⟩ : BrkM)] : List BrkM).length) 1 (encs ([(⟨nth ws.el 0, atoiV (nth ws.el 1), nth ws.el 2, nth ws.el 3⟩ : BrkM)] : List BrkM)))]) (fun q4 => ?_) (fun key => ?_)
        · refine r_seq ?_
          refine r_seq ?_
          refine r_cut [(0, .pointer (some ⟨g, 0, none⟩)), (8, .slice q4.1.1 ((brk.el ++ [newBrk ws.el]).length) q4.1.2), (74, .bool (decide ((¬ ((breaksFault (brk.el ++ [newBrk ws.el])).1 = (0 : Int))) ∨ ((((ws.el.length : Nat) : Int) = (4 : Int)) ∧ ((nth ws.el 2) = (⟨#[]⟩ : ByteArray))))))] [(100, .fz (fun w => ok w brk)), (101, .fz (fun w => ok w ws)), (199, .fz (fun w => Tabs w)), (50, .box g [.slice tr.addr tr.el.length tr.cap, .int .i64 p, .slice brk.addr brk.el.length brk.cap] 37), (7, .box g3 [.string (nth ws.el 0), .int .i64 (atoiV (nth ws.el 1)), .string (nth ws.el 2), .string (nth ws.el 3)] 64), (57, .row 64 4 q4.1.1 ((brk.el ++ [newBrk ws.el]).length) q4.1.2 (encs (brk.el ++ [newBrk ws.el]))), (59, .row 64 4 (some ⟨q4.2, 0, none⟩) (([(⟨nth ws.el 0, atoiV (nth ws.el 1), nth ws.el 2, nth ws.el 3⟩ : BrkM)] : List BrkM).length) 1 (encs ([(⟨nth ws.el 0, atoiV (nth ws.el 1), nth ws.el 2, nth ws.el 3⟩ : BrkM)] : List BrkM)))] ?_ (fun key => ?_)
          · refine r_if rfl (fun hp3 => ?_) (fun hp3 => ?_)
            · refine r_seq ?_
              refine r_region ?_
              refine s1 rfl (q_assign rfl) ?_
              refine o_end ?_
              refine r_ret Tryz.func39 (res1 Tryz.results39 (res_tmp (s := 4) rfl)) (fun w hw => ?_)
              have hr := add_b (addOk_y hp1) ((ref_4 hp2).2 hp3)
              exact ⟨brk, by rw [hr], by rw [hr]; rfl, sep_same hw rfl⟩
            · refine r_skip ?_
              refine r_seq ?_
              refine r_region ?_
              refine s1 rfl (q_move rfl) ?_
              refine s1 rfl (q_move rfl) ?_
              refine s1 rfl (q_nil rfl) ?_
              refine s1 rfl (q_fieldAddr of37_2 rfl rfl) ?_
              refine sxn (e_store (tg := 50) (news := [.slice q4.1.1 ((brk.el ++ [newBrk ws.el]).length) q4.1.2]) rfl rfl rfl rfl z35 rfl rfl (.skip (.skip (.cons (.nil _))))) (fun _ _ => ?_)
              refine o_end ?_
              refine r_seq ?_
              refine r_region ?_
              refine s1 rfl (q_move rfl) ?_
              refine s1 rfl (q_len Tryz.underlying35 rfl) ?_
              refine sx rfl (e_call en59 (.cons rfl (.nil)) ((fun w hw => c59 (((brk.el ++ [newBrk ws.el]).length : Nat) : Int) w (by omega) (hw.get_fz (t := 199) rfl)))) (fun _ _ => ?_)
              refine s1 rfl (q_sadd rfl rfl (by have hz := itoaB_size (n := (((brk.el ++ [newBrk ws.el]).length : Nat) : Int)) (by omega); have hy : (⟨#[98, 114, 101, 97, 107, 112, 111, 105, 110, 116, 32]⟩ : ByteArray).size = 11 := rfl; omega)) ?_
              refine s1 rfl (q_assign rfl) ?_
              refine o_end ?_
              refine r_ret Tryz.func39 (res1 Tryz.results39 (res_tmp (s := 4) rfl)) (fun w hw => ?_)
              have hr := add_c (addOk_y hp1) (fun q => hp3 ((ref_4 hp2).1 q))
              exact ⟨⟨q4.1.1, q4.1.2, brk.el ++ [newBrk ws.el]⟩, by rw [hr], by rw [hr]; rfl, sep_new hw (tg := 57) rfl rfl rfl (by simp only [List.length_append, List.length_cons, List.length_nil]; omega) hnb⟩
          · refine r_region ?_
            refine s1 rfl (q_move rfl) ?_
            refine sx rfl (e_call en44 (.cons rfl (.nil)) ((fun w hw => c44 (⟨q4.1.1, q4.1.2, brk.el ++ [newBrk ws.el]⟩ : Sl BrkM) w (ok_row (hw.row (tg := 57) rfl) (by simp only [by_, List.length_append, List.length_cons, List.length_nil]; omega) (fun q hq => (hnb q hq).ok _)) (hw.get_fz (t := 199) rfl) (by exact fun q hq => (hnb q hq).mod)))) (fun _ _ => ?_)
            refine s1 rfl (q_field1 Tryz.underlying25 rfl rfl (part3 rfl)) ?_
            refine s1 rfl (q_neq rfl rfl) ?_
            refine s1 rfl (q_move rfl) ?_
            refine g_split (s := 65) rfl (fun hp4 => ?_) (fun hp4 => ?_)
            · refine g_off rfl rfl rfl ?_
              iterate 3 refine g_off rfl rfl rfl ?_
              iterate 3 refine g_offu rfl rfl rfl ?_
              refine g_off rfl rfl rfl ?_
              refine s1 rfl (q_pickt rfl rfl) ?_
              refine o_end ?_
              exact key.weaken (.cons rfl (.cons rfl (.consE rfl (congrArg Value.bool (decide_eq_true (Or.inl hp4)).symm) (.nil)))) (.cons rfl (.cons rfl (.cons rfl (.cons rfl (.cons rfl (.cons rfl (.cons rfl (.nil))))))))
            · refine g_on rfl rfl ?_
              refine s1 rfl (q_move rfl) ?_
              refine g_on rfl rfl ?_
              refine s1 rfl (q_len Tryz.underlying23 rfl) ?_
              refine g_on rfl rfl ?_
              refine s1 rfl (q_eql rfl rfl) ?_
              refine g_on rfl rfl ?_
              refine s1 rfl (q_move rfl) ?_
              refine g_split (s := 69) rfl (fun hp5 => ?_) (fun hp5 => ?_)
              · refine g_on rfl rfl ?_
                refine s1 rfl (q_fieldAddr of64_2 rfl rfl) ?_
                refine g_on rfl rfl ?_
                refine s1 rfl (q_load ag9 rfl (fun w hw => hw.box (tg := 7) rfl rfl)) ?_
                refine g_on rfl rfl ?_
                refine s1 rfl (q_seql rfl rfl) ?_
                refine g_on rfl rfl ?_
                refine s1 rfl (q_pickt rfl rfl) ?_
                refine s1 rfl (q_pickf rfl rfl) ?_
                refine o_end ?_
                exact key.weaken (.cons rfl (.cons rfl (.consE rfl (congrArg Value.bool (by first | (simp only [hp4, (Decidable.not_not.1 hp4), hp5, ne_eq, not_true_eq_false, not_false_eq_true, true_or, or_true, false_or, or_false, true_and, and_true, false_and, and_false, Bool.decide_eq_true] <;> first | exact nb_dec _ | exact b_dec _ | (simp; done)) | exact nb_dec _ | exact b_dec _ | (simp; done) | (exfalso; omega))) (.nil)))) (.cons rfl (.cons rfl (.cons rfl (.cons rfl (.cons rfl (.cons rfl (.cons rfl (.nil))))))))
              · refine g_off rfl rfl rfl ?_
                refine g_off rfl rfl rfl ?_
                refine g_off rfl rfl rfl ?_
                refine g_on rfl rfl ?_
                refine s1 rfl (q_pickf rfl rfl) ?_
                refine s1 rfl (q_pickf rfl rfl) ?_
                refine o_end ?_
                exact key.weaken (.cons rfl (.cons rfl (.consE rfl (congrArg Value.bool (decide_eq_false (fun h => h.elim hp4 (fun h => hp5 h.1))).symm) (.nil)))) (.cons rfl (.cons rfl (.cons rfl (.cons rfl (.cons rfl (.cons rfl (.cons rfl (.nil))))))))
        · refine r_draw [(100, .fz (fun w => ok w brk)), (101, .fz (fun w => ok w ws)), (199, .fz (fun w => Tabs w)), (50, .box g [.slice tr.addr tr.el.length tr.cap, .int .i64 p, .slice brk.addr brk.el.length brk.cap] 37), (7, .box g3 [.string (nth ws.el 0), .int .i64 (atoiV (nth ws.el 1)), .string (nth ws.el 2), .string (nth ws.el 3)] 64)] (by kernel_rfl) rfl (.cons rfl (.cons rfl (.cons rfl (.cons rfl (.cons rfl (.nil)))))) ?_
          refine d1 0 rfl (by kernel_rfl) rfl rfl (q_move rfl) ?_
          refine d1 1 rfl (by kernel_rfl) rfl rfl (q_nil rfl) ?_
          refine d1 2 rfl (by kernel_rfl) rfl rfl (q_fieldAddr of37_2 rfl rfl) ?_
          refine d1 3 rfl (by kernel_rfl) rfl rfl (q_load ag35 rfl (fun w hw => hw.box (tg := 50) rfl rfl)) ?_
          refine d1 5 rfl (by kernel_rfl) rfl rfl (q_loads (cs := [.string (nth ws.el 0), .int .i64 (atoiV (nth ws.el 1)), .string (nth ws.el 2), .string (nth ws.el 3)]) ag64 z64 rfl rfl (fun w hw => hw.boxes (tg := 7) rfl)) ?_
          refine AnyE.two (i := 4) (j := 6) (by kernel_rfl) ?_ ?_
          · refine da rfl rfl rfl (want_none rfl) (e_callx en66 (.cons rfl (.nil)) ((fun w hw => c66 brk w (hw.get_fz (t := 100) rfl) (by omega) 57)) (fun _ => nofz (fun _ h => by cases h))) (fun _ => (.cons rfl (.cons rfl (.cons rfl (.cons rfl (.cons rfl (.nil))))))) (fun ⟨a5, c6⟩ _ => ?_)
            refine dx 6 rfl (by kernel_rfl) rfl rfl (want_none rfl) (e_bslice (cs := encs ([(⟨nth ws.el 0, atoiV (nth ws.el 1), nth ws.el 2, nth ws.el 3⟩ : BrkM)] : List BrkM)) Tryz.underlying35 zi64 (.cons rfl (.nil)) (by kernel_rfl) rfl rfl rfl) (fun _ => (.cons rfl (.cons rfl (.cons rfl (.cons rfl (.cons rfl (.nil))))))) (fun g7 _ => ?_)
            refine AnyE.more (S' := [(100, .fz (fun w => ok w brk)), (101, .fz (fun w => ok w ws)), (199, .fz (fun w => Tabs w)), (50, .box g [.slice tr.addr tr.el.length tr.cap, .int .i64 p, .slice brk.addr brk.el.length brk.cap] 37), (7, .box g3 [.string (nth ws.el 0), .int .i64 (atoiV (nth ws.el 1)), .string (nth ws.el 2), .string (nth ws.el 3)] 64), (59, .row 64 4 (some ⟨g7, 0, none⟩) (([(⟨nth ws.el 0, atoiV (nth ws.el 1), nth ws.el 2, nth ws.el 3⟩ : BrkM)] : List BrkM).length) 1 (encs ([(⟨nth ws.el 0, atoiV (nth ws.el 1), nth ws.el 2, nth ws.el 3⟩ : BrkM)] : List BrkM)))]) (.cons rfl (.cons rfl (.cons rfl (.cons rfl (.cons rfl (.nil)))))) (.cons rfl (.cons rfl (.cons rfl (.cons rfl (.cons rfl (.cons rfl (.nil))))))) ?_
            refine dx 7 rfl (by kernel_rfl) rfl rfl (want_none rfl) (e_appendL (tg := 57) (l := brk.el) (l' := ([(⟨nth ws.el 0, atoiV (nth ws.el 1), nth ws.el 2, nth ws.el 3⟩ : BrkM)] : List BrkM)) Tryz.underlying35 in64 rfl rfl rfl rfl rfl rfl rfl (fun w hw => Shows.row (hw.row (tg := 59) rfl)) (by simp only [List.length_cons, List.length_nil]; omega)) (fun _ => (.cons rfl (.cons rfl (.cons rfl (.cons rfl (.cons rfl (.cons rfl (.nil)))))))) (fun ⟨a8, c9⟩ _ => ?_)
            rw [show brk.el ++ ([(⟨nth ws.el 0, atoiV (nth ws.el 1), nth ws.el 2, nth ws.el 3⟩ : BrkM)] : List BrkM) = brk.el ++ [newBrk ws.el] from (congrArg (fun q => brk.el ++ [q]) (new_y (by assumption)))]
            refine d1 8 rfl (by kernel_rfl) rfl rfl (q_assign rfl) ?_
            refine d_end (by kernel_rfl) ?_
            exact (key ((a8, c9), g7)).weaken (.cons rfl (.cons rfl (.cons rfl (.cons rfl (.nil))))) (.cons rfl (.cons rfl (.cons rfl (.cons rfl (.cons rfl (.cons rfl (.cons rfl (.nil))))))))
          · refine da rfl rfl rfl (want_none rfl) (e_bslice (cs := encs ([(⟨nth ws.el 0, atoiV (nth ws.el 1), nth ws.el 2, nth ws.el 3⟩ : BrkM)] : List BrkM)) Tryz.underlying35 zi64 (.cons rfl (.nil)) (by kernel_rfl) rfl rfl rfl) (fun _ => (.cons rfl (.cons rfl (.cons rfl (.cons rfl (.cons rfl (.nil))))))) (fun g10 _ => ?_)
            refine AnyE.more (S' := [(100, .fz (fun w => ok w brk)), (101, .fz (fun w => ok w ws)), (199, .fz (fun w => Tabs w)), (50, .box g [.slice tr.addr tr.el.length tr.cap, .int .i64 p, .slice brk.addr brk.el.length brk.cap] 37), (7, .box g3 [.string (nth ws.el 0), .int .i64 (atoiV (nth ws.el 1)), .string (nth ws.el 2), .string (nth ws.el 3)] 64), (59, .row 64 4 (some ⟨g10, 0, none⟩) (([(⟨nth ws.el 0, atoiV (nth ws.el 1), nth ws.el 2, nth ws.el 3⟩ : BrkM)] : List BrkM).length) 1 (encs ([(⟨nth ws.el 0, atoiV (nth ws.el 1), nth ws.el 2, nth ws.el 3⟩ : BrkM)] : List BrkM)))]) (.cons rfl (.cons rfl (.cons rfl (.cons rfl (.cons rfl (.nil)))))) (.cons rfl (.cons rfl (.cons rfl (.cons rfl (.cons rfl (.cons rfl (.nil))))))) ?_
            refine dx 4 rfl (by kernel_rfl) rfl rfl (want_none rfl) (e_callx en66 (.cons rfl (.nil)) ((fun w hw => c66 brk w (hw.get_fz (t := 100) rfl) (by omega) 57)) (fun _ => nofz (fun _ h => by cases h))) (fun _ => (.cons rfl (.cons rfl (.cons rfl (.cons rfl (.cons rfl (.cons rfl (.nil)))))))) (fun ⟨a11, c12⟩ _ => ?_)
            refine dx 7 rfl (by kernel_rfl) rfl rfl (want_none rfl) (e_appendL (tg := 57) (l := brk.el) (l' := ([(⟨nth ws.el 0, atoiV (nth ws.el 1), nth ws.el 2, nth ws.el 3⟩ : BrkM)] : List BrkM)) Tryz.underlying35 in64 rfl rfl rfl rfl rfl rfl rfl (fun w hw => Shows.row (hw.row (tg := 59) rfl)) (by simp only [List.length_cons, List.length_nil]; omega)) (fun _ => (.cons rfl (.cons rfl (.cons rfl (.cons rfl (.cons rfl (.cons rfl (.nil)))))))) (fun ⟨a13, c14⟩ _ => ?_)
            rw [show brk.el ++ ([(⟨nth ws.el 0, atoiV (nth ws.el 1), nth ws.el 2, nth ws.el 3⟩ : BrkM)] : List BrkM) = brk.el ++ [newBrk ws.el] from (congrArg (fun q => brk.el ++ [q]) (new_y (by assumption)))]
            refine d1 8 rfl (by kernel_rfl) rfl rfl (q_assign rfl) ?_
            refine d_end (by kernel_rfl) ?_
            exact (key ((a13, c14), g10)).weaken (.cons rfl (.cons rfl (.cons rfl (.cons rfl (.nil))))) (.cons rfl (.cons rfl (.cons rfl (.cons rfl (.cons rfl (.cons rfl (.cons rfl (.nil))))))))
      · refine r_skip ?_
        refine r_seq ?_
        refine r_cutx (fun q15 : (Option Addr × Nat) × Nat => [(0, .pointer (some ⟨g, 0, none⟩)), (1, .slice ws.addr ws.el.length ws.cap), (7, .pointer (some ⟨g3, 0, none⟩)), (8, .slice q15.1.1 ((brk.el ++ [newBrk ws.el]).length) q15.1.2)]) (fun q15 : (Option Addr × Nat) × Nat => [(100, .fz (fun w => ok w brk)), (101, .fz (fun w => ok w ws)), (199, .fz (fun w => Tabs w)), (50, .box g [.slice tr.addr tr.el.length tr.cap, .int .i64 p, .slice brk.addr brk.el.length brk.cap] 37), (7, .box g3 [.string (nth ws.el 0), .int .i64 (atoiV (nth ws.el 1)), .string ByteArray.empty, .string ByteArray.empty] 64), (57, .row 64 4 q15.1.1 ((brk.el ++ [newBrk ws.el]).length) q15.1.2 (encs (brk.el ++ [newBrk ws.el]))), (59, .row 64 4 (some ⟨q15.2, 0, none⟩) (([(⟨nth ws.el 0, atoiV (nth ws.el 1), ByteArray.empty, ByteArray.empty⟩ : BrkM)] : List BrkM).length) 1 (encs ([(⟨nth ws.el 0, atoiV (nth ws.el 1), ByteArray.empty, ByteArray.empty⟩ : BrkM)] : List BrkM)))]) (fun q15 => ?_) (fun key => ?_)
        · refine r_seq ?_
          refine r_seq ?_
          refine r_cut [(0, .pointer (some ⟨g, 0, none⟩)), (8, .slice q15.1.1 ((brk.el ++ [newBrk ws.el]).length) q15.1.2), (74, .bool (decide ((¬ ((breaksFault (brk.el ++ [newBrk ws.el])).1 = (0 : Int))) ∨ ((((ws.el.length : Nat) : Int) = (4 : Int)) ∧ (ByteArray.empty = (⟨#[]⟩ : ByteArray))))))] [(100, .fz (fun w => ok w brk)), (101, .fz (fun w => ok w ws)), (199, .fz (fun w => Tabs w)), (50, .box g [.slice tr.addr tr.el.length tr.cap, .int .i64 p, .slice brk.addr brk.el.length brk.cap] 37), (7, .box g3 [.string (nth ws.el 0), .int .i64 (atoiV (nth ws.el 1)), .string ByteArray.empty, .string ByteArray.empty] 64), (57, .row 64 4 q15.1.1 ((brk.el ++ [newBrk ws.el]).length) q15.1.2 (encs (brk.el ++ [newBrk ws.el]))), (59, .row 64 4 (some ⟨q15.2, 0, none⟩) (([(⟨nth ws.el 0, atoiV (nth ws.el 1), ByteArray.empty, ByteArray.empty⟩ : BrkM)] : List BrkM).length) 1 (encs ([(⟨nth ws.el 0, atoiV (nth ws.el 1), ByteArray.empty, ByteArray.empty⟩ : BrkM)] : List BrkM)))] ?_ (fun key => ?_)
          · refine r_if rfl (fun hp6 => ?_) (fun hp6 => ?_)
            · refine r_seq ?_
              refine r_region ?_
              refine s1 rfl (q_assign rfl) ?_
              refine o_end ?_
              refine r_ret Tryz.func39 (res1 Tryz.results39 (res_tmp (s := 4) rfl)) (fun w hw => ?_)
              have hr := add_b (addOk_y hp1) ((ref_n hp2).2 hp6)
              exact ⟨brk, by rw [hr], by rw [hr]; rfl, sep_same hw rfl⟩
            · refine r_skip ?_
              refine r_seq ?_
              refine r_region ?_
              refine s1 rfl (q_move rfl) ?_
              refine s1 rfl (q_move rfl) ?_
              refine s1 rfl (q_nil rfl) ?_
              refine s1 rfl (q_fieldAddr of37_2 rfl rfl) ?_
              refine sxn (e_store (tg := 50) (news := [.slice q15.1.1 ((brk.el ++ [newBrk ws.el]).length) q15.1.2]) rfl rfl rfl rfl z35 rfl rfl (.skip (.skip (.cons (.nil _))))) (fun _ _ => ?_)
              refine o_end ?_
              refine r_seq ?_
              refine r_region ?_
              refine s1 rfl (q_move rfl) ?_
              refine s1 rfl (q_len Tryz.underlying35 rfl) ?_
              refine sx rfl (e_call en59 (.cons rfl (.nil)) ((fun w hw => c59 (((brk.el ++ [newBrk ws.el]).length : Nat) : Int) w (by omega) (hw.get_fz (t := 199) rfl)))) (fun _ _ => ?_)
              refine s1 rfl (q_sadd rfl rfl (by have hz := itoaB_size (n := (((brk.el ++ [newBrk ws.el]).length : Nat) : Int)) (by omega); have hy : (⟨#[98, 114, 101, 97, 107, 112, 111, 105, 110, 116, 32]⟩ : ByteArray).size = 11 := rfl; omega)) ?_
              refine s1 rfl (q_assign rfl) ?_
              refine o_end ?_
              refine r_ret Tryz.func39 (res1 Tryz.results39 (res_tmp (s := 4) rfl)) (fun w hw => ?_)
              have hr := add_c (addOk_y hp1) (fun q => hp6 ((ref_n hp2).1 q))
              exact ⟨⟨q15.1.1, q15.1.2, brk.el ++ [newBrk ws.el]⟩, by rw [hr], by rw [hr]; rfl, sep_new hw (tg := 57) rfl rfl rfl (by simp only [List.length_append, List.length_cons, List.length_nil]; omega) hnb⟩
          · refine r_region ?_
            refine s1 rfl (q_move rfl) ?_
            refine sx rfl (e_call en44 (.cons rfl (.nil)) ((fun w hw => c44 (⟨q15.1.1, q15.1.2, brk.el ++ [newBrk ws.el]⟩ : Sl BrkM) w (ok_row (hw.row (tg := 57) rfl) (by simp only [by_, List.length_append, List.length_cons, List.length_nil]; omega) (fun q hq => (hnb q hq).ok _)) (hw.get_fz (t := 199) rfl) (by exact fun q hq => (hnb q hq).mod)))) (fun _ _ => ?_)
            refine s1 rfl (q_field1 Tryz.underlying25 rfl rfl (part3 rfl)) ?_
            refine s1 rfl (q_neq rfl rfl) ?_
            refine s1 rfl (q_move rfl) ?_
            refine g_split (s := 65) rfl (fun hp7 => ?_) (fun hp7 => ?_)
            · refine g_off rfl rfl rfl ?_
              iterate 3 refine g_off rfl rfl rfl ?_
              iterate 3 refine g_offu rfl rfl rfl ?_
              refine g_off rfl rfl rfl ?_
              refine s1 rfl (q_pickt rfl rfl) ?_
              refine o_end ?_
              exact key.weaken (.cons rfl (.cons rfl (.consE rfl (congrArg Value.bool (decide_eq_true (Or.inl hp7)).symm) (.nil)))) (.cons rfl (.cons rfl (.cons rfl (.cons rfl (.cons rfl (.cons rfl (.cons rfl (.nil))))))))
            · refine g_on rfl rfl ?_
              refine s1 rfl (q_move rfl) ?_
              refine g_on rfl rfl ?_
              refine s1 rfl (q_len Tryz.underlying23 rfl) ?_
              refine g_on rfl rfl ?_
              refine s1 rfl (q_eql rfl rfl) ?_
              refine g_on rfl rfl ?_
              refine s1 rfl (q_move rfl) ?_
              refine g_split (s := 69) rfl (fun hp8 => ?_) (fun hp8 => ?_)
              · refine g_on rfl rfl ?_
                refine s1 rfl (q_fieldAddr of64_2 rfl rfl) ?_
                refine g_on rfl rfl ?_
                refine s1 rfl (q_load ag9 rfl (fun w hw => hw.box (tg := 7) rfl rfl)) ?_
                refine g_on rfl rfl ?_
                refine s1 rfl (q_seql rfl rfl) ?_
                refine g_on rfl rfl ?_
                refine s1 rfl (q_pickt rfl rfl) ?_
                refine s1 rfl (q_pickf rfl rfl) ?_
                refine o_end ?_
                exact key.weaken (.cons rfl (.cons rfl (.consE rfl (congrArg Value.bool (by first | (simp only [hp7, (Decidable.not_not.1 hp7), hp8, ne_eq, not_true_eq_false, not_false_eq_true, true_or, or_true, false_or, or_false, true_and, and_true, false_and, and_false, Bool.decide_eq_true] <;> first | exact nb_dec _ | exact b_dec _ | (simp; done)) | exact nb_dec _ | exact b_dec _ | (simp; done) | (exfalso; omega))) (.nil)))) (.cons rfl (.cons rfl (.cons rfl (.cons rfl (.cons rfl (.cons rfl (.cons rfl (.nil))))))))
              · refine g_off rfl rfl rfl ?_
                refine g_off rfl rfl rfl ?_
                refine g_off rfl rfl rfl ?_
                refine g_on rfl rfl ?_
                refine s1 rfl (q_pickf rfl rfl) ?_
                refine s1 rfl (q_pickf rfl rfl) ?_
                refine o_end ?_
                exact key.weaken (.cons rfl (.cons rfl (.consE rfl (congrArg Value.bool (decide_eq_false (fun h => h.elim hp7 (fun h => hp8 h.1))).symm) (.nil)))) (.cons rfl (.cons rfl (.cons rfl (.cons rfl (.cons rfl (.cons rfl (.cons rfl (.nil))))))))
        · refine r_draw [(100, .fz (fun w => ok w brk)), (101, .fz (fun w => ok w ws)), (199, .fz (fun w => Tabs w)), (50, .box g [.slice tr.addr tr.el.length tr.cap, .int .i64 p, .slice brk.addr brk.el.length brk.cap] 37), (7, .box g3 [.string (nth ws.el 0), .int .i64 (atoiV (nth ws.el 1)), .string ByteArray.empty, .string ByteArray.empty] 64)] (by kernel_rfl) rfl (.cons rfl (.cons rfl (.cons rfl (.cons rfl (.cons rfl (.nil)))))) ?_
          refine d1 0 rfl (by kernel_rfl) rfl rfl (q_move rfl) ?_
          refine d1 1 rfl (by kernel_rfl) rfl rfl (q_nil rfl) ?_
          refine d1 2 rfl (by kernel_rfl) rfl rfl (q_fieldAddr of37_2 rfl rfl) ?_
          refine d1 3 rfl (by kernel_rfl) rfl rfl (q_load ag35 rfl (fun w hw => hw.box (tg := 50) rfl rfl)) ?_
          refine d1 5 rfl (by kernel_rfl) rfl rfl (q_loads (cs := [.string (nth ws.el 0), .int .i64 (atoiV (nth ws.el 1)), .string ByteArray.empty, .string ByteArray.empty]) ag64 z64 rfl rfl (fun w hw => hw.boxes (tg := 7) rfl)) ?_
          refine AnyE.two (i := 4) (j := 6) (by kernel_rfl) ?_ ?_
          · refine da rfl rfl rfl (want_none rfl) (e_callx en66 (.cons rfl (.nil)) ((fun w hw => c66 brk w (hw.get_fz (t := 100) rfl) (by omega) 57)) (fun _ => nofz (fun _ h => by cases h))) (fun _ => (.cons rfl (.cons rfl (.cons rfl (.cons rfl (.cons rfl (.nil))))))) (fun ⟨a16, c17⟩ _ => ?_)
            refine dx 6 rfl (by kernel_rfl) rfl rfl (want_none rfl) (e_bslice (cs := encs ([(⟨nth ws.el 0, atoiV (nth ws.el 1), ByteArray.empty, ByteArray.empty⟩ : BrkM)] : List BrkM)) Tryz.underlying35 zi64 (.cons rfl (.nil)) (by kernel_rfl) rfl rfl rfl) (fun _ => (.cons rfl (.cons rfl (.cons rfl (.cons rfl (.cons rfl (.nil))))))) (fun g18 _ => ?_)
            refine AnyE.more (S' := [(100, .fz (fun w => ok w brk)), (101, .fz (fun w => ok w ws)), (199, .fz (fun w => Tabs w)), (50, .box g [.slice tr.addr tr.el.length tr.cap, .int .i64 p, .slice brk.addr brk.el.length brk.cap] 37), (7, .box g3 [.string (nth ws.el 0), .int .i64 (atoiV (nth ws.el 1)), .string ByteArray.empty, .string ByteArray.empty] 64), (59, .row 64 4 (some ⟨g18, 0, none⟩) (([(⟨nth ws.el 0, atoiV (nth ws.el 1), ByteArray.empty, ByteArray.empty⟩ : BrkM)] : List BrkM).length) 1 (encs ([(⟨nth ws.el 0, atoiV (nth ws.el 1), ByteArray.empty, ByteArray.empty⟩ : BrkM)] : List BrkM)))]) (.cons rfl (.cons rfl (.cons rfl (.cons rfl (.cons rfl (.nil)))))) (.cons rfl (.cons rfl (.cons rfl (.cons rfl (.cons rfl (.cons rfl (.nil))))))) ?_
            refine dx 7 rfl (by kernel_rfl) rfl rfl (want_none rfl) (e_appendL (tg := 57) (l := brk.el) (l' := ([(⟨nth ws.el 0, atoiV (nth ws.el 1), ByteArray.empty, ByteArray.empty⟩ : BrkM)] : List BrkM)) Tryz.underlying35 in64 rfl rfl rfl rfl rfl rfl rfl (fun w hw => Shows.row (hw.row (tg := 59) rfl)) (by simp only [List.length_cons, List.length_nil]; omega)) (fun _ => (.cons rfl (.cons rfl (.cons rfl (.cons rfl (.cons rfl (.cons rfl (.nil)))))))) (fun ⟨a19, c20⟩ _ => ?_)
            rw [show brk.el ++ ([(⟨nth ws.el 0, atoiV (nth ws.el 1), ByteArray.empty, ByteArray.empty⟩ : BrkM)] : List BrkM) = brk.el ++ [newBrk ws.el] from (congrArg (fun q => brk.el ++ [q]) (new_n (by assumption)))]
            refine d1 8 rfl (by kernel_rfl) rfl rfl (q_assign rfl) ?_
            refine d_end (by kernel_rfl) ?_
            exact (key ((a19, c20), g18)).weaken (.cons rfl (.cons rfl (.cons rfl (.cons rfl (.nil))))) (.cons rfl (.cons rfl (.cons rfl (.cons rfl (.cons rfl (.cons rfl (.cons rfl (.nil))))))))
          · refine da rfl rfl rfl (want_none rfl) (e_bslice (cs := encs ([(⟨nth ws.el 0, atoiV (nth ws.el 1), ByteArray.empty, ByteArray.empty⟩ : BrkM)] : List BrkM)) Tryz.underlying35 zi64 (.cons rfl (.nil)) (by kernel_rfl) rfl rfl rfl) (fun _ => (.cons rfl (.cons rfl (.cons rfl (.cons rfl (.cons rfl (.nil))))))) (fun g21 _ => ?_)
            refine AnyE.more (S' := [(100, .fz (fun w => ok w brk)), (101, .fz (fun w => ok w ws)), (199, .fz (fun w => Tabs w)), (50, .box g [.slice tr.addr tr.el.length tr.cap, .int .i64 p, .slice brk.addr brk.el.length brk.cap] 37), (7, .box g3 [.string (nth ws.el 0), .int .i64 (atoiV (nth ws.el 1)), .string ByteArray.empty, .string ByteArray.empty] 64), (59, .row 64 4 (some ⟨g21, 0, none⟩) (([(⟨nth ws.el 0, atoiV (nth ws.el 1), ByteArray.empty, ByteArray.empty⟩ : BrkM)] : List BrkM).length) 1 (encs ([(⟨nth ws.el 0, atoiV (nth ws.el 1), ByteArray.empty, ByteArray.empty⟩ : BrkM)] : List BrkM)))]) (.cons rfl (.cons rfl (.cons rfl (.cons rfl (.cons rfl (.nil)))))) (.cons rfl (.cons rfl (.cons rfl (.cons rfl (.cons rfl (.cons rfl (.nil))))))) ?_
            refine dx 4 rfl (by kernel_rfl) rfl rfl (want_none rfl) (e_callx en66 (.cons rfl (.nil)) ((fun w hw => c66 brk w (hw.get_fz (t := 100) rfl) (by omega) 57)) (fun _ => nofz (fun _ h => by cases h))) (fun _ => (.cons rfl (.cons rfl (.cons rfl (.cons rfl (.cons rfl (.cons rfl (.nil)))))))) (fun ⟨a22, c23⟩ _ => ?_)
            refine dx 7 rfl (by kernel_rfl) rfl rfl (want_none rfl) (e_appendL (tg := 57) (l := brk.el) (l' := ([(⟨nth ws.el 0, atoiV (nth ws.el 1), ByteArray.empty, ByteArray.empty⟩ : BrkM)] : List BrkM)) Tryz.underlying35 in64 rfl rfl rfl rfl rfl rfl rfl (fun w hw => Shows.row (hw.row (tg := 59) rfl)) (by simp only [List.length_cons, List.length_nil]; omega)) (fun _ => (.cons rfl (.cons rfl (.cons rfl (.cons rfl (.cons rfl (.cons rfl (.nil)))))))) (fun ⟨a24, c25⟩ _ => ?_)
            rw [show brk.el ++ ([(⟨nth ws.el 0, atoiV (nth ws.el 1), ByteArray.empty, ByteArray.empty⟩ : BrkM)] : List BrkM) = brk.el ++ [newBrk ws.el] from (congrArg (fun q => brk.el ++ [q]) (new_n (by assumption)))]
            refine d1 8 rfl (by kernel_rfl) rfl rfl (q_assign rfl) ?_
            refine d_end (by kernel_rfl) ?_
            exact (key ((a24, c25), g21)).weaken (.cons rfl (.cons rfl (.cons rfl (.cons rfl (.nil))))) (.cons rfl (.cons rfl (.cons rfl (.cons rfl (.cons rfl (.cons rfl (.cons rfl (.nil))))))))
  · refine r_draw [(100, .fz (fun w => ok w brk)), (101, .fz (fun w => ok w ws)), (199, .fz (fun w => Tabs w)), (50, .box g [.slice tr.addr tr.el.length tr.cap, .int .i64 p, .slice brk.addr brk.el.length brk.cap] 37)] (by kernel_rfl) rfl (.cons rfl (.cons rfl (.cons rfl (.cons rfl (.nil))))) ?_
    refine d1 0 rfl (by kernel_rfl) rfl rfl (q_move rfl) ?_
    refine d1 1 rfl (by kernel_rfl) rfl rfl (q_errneq rfl hx2) ?_
    refine d1 2 rfl (by kernel_rfl) rfl rfl (q_move rfl) ?_
    refine AnyE.knowb (s := 18) rfl (fun hp9 => ?_) (fun hp9 => ?_)
    · refine d1o 3 rfl (by kernel_rfl) rfl rfl rfl rfl ?_
      refine d1o 4 rfl (by kernel_rfl) rfl rfl rfl rfl ?_
      refine d1o 5 rfl (by kernel_rfl) rfl rfl rfl rfl ?_
      refine d1o 6 rfl (by kernel_rfl) rfl rfl rfl rfl ?_
      refine d1o 7 rfl (by kernel_rfl) rfl rfl rfl rfl ?_
      refine d1o 8 rfl (by kernel_rfl) rfl rfl rfl rfl ?_
      refine d1 9 rfl (by kernel_rfl) rfl rfl (q_pickt rfl rfl) ?_
      refine d1 10 rfl (by kernel_rfl) rfl rfl (q_move rfl) ?_
      refine d1o 11 rfl (by kernel_rfl) rfl rfl rfl rfl ?_
      refine d1o 12 rfl (by kernel_rfl) rfl rfl rfl rfl ?_
      refine d1 13 rfl (by kernel_rfl) rfl rfl (q_pickt rfl rfl) ?_
      refine d1 14 rfl (by kernel_rfl) rfl rfl (q_move rfl) ?_
      refine d1o 15 rfl (by kernel_rfl) rfl rfl rfl rfl ?_
      refine d1o 16 rfl (by kernel_rfl) rfl rfl rfl rfl ?_
      refine d1o 17 rfl (by kernel_rfl) rfl rfl rfl rfl ?_
      refine d1o 18 rfl (by kernel_rfl) rfl rfl rfl rfl ?_
      refine d1o 19 rfl (by kernel_rfl) rfl rfl rfl rfl ?_
      refine d1 20 rfl (by kernel_rfl) rfl rfl (q_pickt rfl rfl) ?_
      refine d_end (by kernel_rfl) ?_
      exact key.weaken (.cons rfl (.cons rfl (.cons rfl (.consE rfl (congrArg Value.bool (decide_eq_true (Or.inl (Or.inl (Or.inl (nb_t hp9))))).symm) (.nil))))) (.cons rfl (.cons rfl (.cons rfl (.cons rfl (.nil)))))
    · refine d1g 3 rfl (by kernel_rfl) rfl rfl rfl rfl (q_move rfl) ?_
      refine d1g 5 rfl (by kernel_rfl) rfl rfl rfl rfl (q_move rfl) ?_
      refine d1g 6 rfl (by kernel_rfl) rfl rfl rfl rfl (q_indexAddr Tryz.underlying23 z9 rfl rfl rfl (by omega) (by omega) (fun w hw => Sl.OK.isSome (hw.get_fz (t := 101) rfl) (by decide) (i := 1) (by omega))) ?_
      refine d1g 7 rfl (by kernel_rfl) rfl rfl rfl rfl (q_load ag9 rfl (fun w hw => Sl.OK.cell0 (hw.get_fz (t := 101) rfl) (i := 1) (by omega) rfl)) ?_
      refine dx 4 rfl (by kernel_rfl) rfl rfl (want_some rfl rfl rfl) (e_call en59 (.cons rfl (.nil)) ((fun w hw => c59 (atoiV (nth ws.el 1)) w (by omega) (hw.get_fz (t := 199) rfl)))) (fun _ => (.cons rfl (.cons rfl (.cons rfl (.cons rfl (.nil)))))) (fun _ _ => ?_)
      refine d1g 8 rfl (by kernel_rfl) rfl rfl rfl rfl (q_sneq rfl rfl) ?_
      refine d1 9 rfl (by kernel_rfl) rfl rfl (q_pickf rfl rfl) ?_
      refine d1 10 rfl (by kernel_rfl) rfl rfl (q_move rfl) ?_
      refine AnyE.know (s := 26) rfl (fun hp10 => ?_) (fun hp10 => ?_)
      · refine d1o 11 rfl (by kernel_rfl) rfl rfl rfl rfl ?_
        refine d1o 12 rfl (by kernel_rfl) rfl rfl rfl rfl ?_
        refine d1 13 rfl (by kernel_rfl) rfl rfl (q_pickt rfl rfl) ?_
        refine d1 14 rfl (by kernel_rfl) rfl rfl (q_move rfl) ?_
        refine d1o 15 rfl (by kernel_rfl) rfl rfl rfl rfl ?_
        refine d1o 16 rfl (by kernel_rfl) rfl rfl rfl rfl ?_
        refine d1o 17 rfl (by kernel_rfl) rfl rfl rfl rfl ?_
        refine d1o 18 rfl (by kernel_rfl) rfl rfl rfl rfl ?_
        refine d1o 19 rfl (by kernel_rfl) rfl rfl rfl rfl ?_
        refine d1 20 rfl (by kernel_rfl) rfl rfl (q_pickt rfl rfl) ?_
        refine d_end (by kernel_rfl) ?_
        exact key.weaken (.cons rfl (.cons rfl (.cons rfl (.consE rfl (congrArg Value.bool (decide_eq_true (Or.inl (Or.inl (Or.inr hp10)))).symm) (.nil))))) (.cons rfl (.cons rfl (.cons rfl (.cons rfl (.nil)))))
      · refine d1g 11 rfl (by kernel_rfl) rfl rfl rfl rfl (q_move rfl) ?_
        refine d1g 12 rfl (by kernel_rfl) rfl rfl rfl rfl (q_lss rfl rfl) ?_
        refine d1 13 rfl (by kernel_rfl) rfl rfl (q_pickf rfl rfl) ?_
        refine d1 14 rfl (by kernel_rfl) rfl rfl (q_move rfl) ?_
        refine AnyE.know (s := 30) rfl (fun hp11 => ?_) (fun hp11 => ?_)
        · refine d1o 15 rfl (by kernel_rfl) rfl rfl rfl rfl ?_
          refine d1o 16 rfl (by kernel_rfl) rfl rfl rfl rfl ?_
          refine d1o 17 rfl (by kernel_rfl) rfl rfl rfl rfl ?_
          refine d1o 18 rfl (by kernel_rfl) rfl rfl rfl rfl ?_
          refine d1o 19 rfl (by kernel_rfl) rfl rfl rfl rfl ?_
          refine d1 20 rfl (by kernel_rfl) rfl rfl (q_pickt rfl rfl) ?_
          refine d_end (by kernel_rfl) ?_
          exact key.weaken (.cons rfl (.cons rfl (.cons rfl (.consE rfl (congrArg Value.bool (decide_eq_true (Or.inl (Or.inr hp11))).symm) (.nil))))) (.cons rfl (.cons rfl (.cons rfl (.cons rfl (.nil)))))
        · refine d1g 15 rfl (by kernel_rfl) rfl rfl rfl rfl (q_move rfl) ?_
          refine d1g 16 rfl (by kernel_rfl) rfl rfl rfl rfl (q_indexAddr Tryz.underlying23 z9 rfl rfl rfl (by omega) (by omega) (fun w hw => Sl.OK.isSome (hw.get_fz (t := 101) rfl) (by decide) (i := 1) (by omega))) ?_
          refine d1g 17 rfl (by kernel_rfl) rfl rfl rfl rfl (q_load ag9 rfl (fun w hw => Sl.OK.cell0 (hw.get_fz (t := 101) rfl) (i := 1) (by omega) rfl)) ?_
          refine d1g 18 rfl (by kernel_rfl) rfl rfl rfl rfl (q_lens Tryz.underlying9 rfl) ?_
          refine d1g 19 rfl (by kernel_rfl) rfl rfl rfl rfl (q_gtr rfl rfl) ?_
          refine d1 20 rfl (by kernel_rfl) rfl rfl (q_pickf rfl rfl) ?_
          refine d_end (by kernel_rfl) ?_
          exact key.weaken (.cons rfl (.cons rfl (.cons rfl (.consE rfl (congrArg Value.bool (by first | (simp only [(nb_f hp9), (Decidable.not_not.1 (nb_f hp9)), hp10, hp11, ne_eq, not_true_eq_false, not_false_eq_true, true_or, or_true, false_or, or_false, true_and, and_true, false_and, and_false, Bool.decide_eq_true] <;> first | exact nb_dec _ | exact b_dec _ | (simp; done)) | exact nb_dec _ | exact b_dec _ | (simp; done) | (exfalso; omega))) (.nil))))) (.cons rfl (.cons rfl (.cons rfl (.cons rfl (.nil)))))

end Go.Proofs.YtecibcjckinngaaGreatDoor
/- slices.Backward: the iterator hands out the elements from the last to the first. -/
namespace Go.Proofs.YtecibcjckinngaaGreatDoor
open Go Go.RowKit Go.Shelf
attribute [local go_sem] Oper.semAt_some
/-- A slice of structs of three cells. -/
structure Pls (W : World) (Bs b off len cap : Nat) (f : Nat → Value × Value × Value) : Prop where
  box : W.cell? ⟨Bs, 0, none⟩ = some (.slice (some ⟨b, off, none⟩) len cap)
  c0 : ∀ j, j < len → W.cell? ⟨b, off + j * 3, none⟩ = some (f j).1
  c1 : ∀ j, j < len → W.cell? ⟨b, off + j * 3 + 1, none⟩ = some (f j).2.1
  c2 : ∀ j, j < len → W.cell? ⟨b, off + j * 3 + 2, none⟩ = some (f j).2.2
def down {α : Type} (f : Nat → α) (len k : Nat) : List α := (List.range k).map (fun j => f (len - 1 - j))
theorem down_succ {α : Type} (f : Nat → α) (len k : Nat) : down f len (k + 1) = down f len k ++ [f (len - 1 - k)] := by simp [down, List.range_succ]
set_option maxRecDepth 100000 in
set_option maxHeartbeats 2000000 in
theorem back_in (n : Nat) (hn : 1 ≤ n) (l Bs b off len cap : Nat) (hreach : len ≤ 1048576) (f : Nat → Value × Value × Value) {α : Type} (g : Nat → α) (encs : α → Array Value) (henc : ∀ j, j < len → encs (g j) = #[.int .i64 (j : Int), .agg #[(f j).1, (f j).2.1, (f j).2.2]])
    (Kp : World → World → Prop) (hKp : ∀ A B, Kp A B → Pls A Bs b off len cap f → Pls B Bs b off len cap f) (J Jx : List α → World → Prop)
    (hY : ∀ pre x W, J pre W → pre.length < len → YieldAt Fence.wide (n - 1) Tryz.prog l (encs x) W fun e W' =>
      (e = .returned (.bool true) ∧ J (pre ++ [x]) W' ∧ Kp W W') ∨ (e = .returned (.bool false) ∧ Jx (pre ++ [x]) W'))
    (W : World) (hP : Pls W Bs b off len cap f) (h0 : J [] W) :
    CallsIn Fence.wide n Tryz.prog 61 #[.func (.yield l) #[] #[], .pointer (some ⟨Bs, 0, none⟩)] W fun e W' => (∃ v, e = .returned v) ∧
      ((∃ ys, ys = down g len len ∧ J ys W') ∨ (∃ pre, (∃ k, k ≤ len ∧ pre = down g len k) ∧ Jx pre W')) := by
  have hro : Fence.wide.round = none := rfl
  refine callsIn_of_wp Tryz.func61 rfl trivial ?_ hro
  simp only [Tryz.ntmps61, List.size_toArray, List.length_cons, List.length_nil, Nat.reduceAdd, Nat.reduceSub, Array.replicate_succ, Array.replicate_zero, List.push_toArray, List.append_toArray, List.nil_append, List.cons_append]
  have hbx := hP.box
  gi_wp2
  gi_loopw [3] (fun i wr => ∃ k : Nat, k ≤ len ∧ i = .int .i64 ((len : Int) - 1 - (k : Int)) ∧ J (down g len k) wr ∧ Pls wr Bs b off len cap f)
    (fun i _ => (intOf i + 1).toNat)
  case atStart => exact ⟨0, Nat.zero_le _, by simp, h0, hP⟩
  case round =>
    obtain ⟨k, hk, rfl, hJs, hnx⟩ := hrel
    have hb2 := hnx.box
    by_cases hlt : k < len
    · have hcx0 := hnx.c0 (len - 1 - k) (by omega)
      have hcx1 := hnx.c1 (len - 1 - k) (by omega)
      have hcx2 := hnx.c2 (len - 1 - k) (by omega)
      obtain ⟨fn, tmps, assign, body, hy, hR⟩ := hY _ (g (len - 1 - k)) wr hJs (by simp [down]; omega)
      rw [henc _ (by omega), show (((len - 1 - k : Nat) : Int)) = (len : Int) - 1 - (k : Int) from by omega] at hy
      gi_wp2
      refine hR.mono ?_
      rintro e W3 (⟨rfl, hJ3, hk3⟩ | ⟨rfl, hJx3⟩)
      · have hn3 := hKp _ _ hk3 hnx
        gi_wp2
        go_roundw
        case rel => exact ⟨k + 1, by omega, by simp; omega, by rw [down_succ]; exact hJ3, hn3⟩
        case measure => simp [intOf]; omega
      · gi_wp2
        refine bodyPost_ret (results_none rfl _ _ _) rfl ?_
        exact ⟨⟨_, rfl⟩, .inr ⟨_, ⟨k + 1, by omega, (down_succ _ _ _).symm⟩, hJx3⟩⟩
    · obtain rfl : k = len := by omega
      gi_wp2
      go_end0
      exact ⟨⟨_, rfl⟩, .inl ⟨_, rfl, hJs⟩⟩
set_option maxRecDepth 100000 in
set_option maxHeartbeats 2000000 in
theorem back_nil_in (n : Nat) (l Bs : Nat) {α : Type} (J : List α → World → Prop) (W : World) (hB : W.cell? ⟨Bs, 0, none⟩ = some (.slice none 0 0)) (h0 : J [] W) :
    CallsIn Fence.wide n Tryz.prog 61 #[.func (.yield l) #[] #[], .pointer (some ⟨Bs, 0, none⟩)] W fun e W' => (∃ v, e = .returned v) ∧ J [] W' := by
  have hro : Fence.wide.round = none := rfl
  refine callsIn_of_wp Tryz.func61 rfl trivial ?_ hro
  simp only [Tryz.ntmps61, List.size_toArray, List.length_cons, List.length_nil, Nat.reduceAdd, Nat.reduceSub, Array.replicate_succ, Array.replicate_zero, List.push_toArray, List.append_toArray, List.nil_append, List.cons_append]
  gi_wp2
  gi_loopw [3] (fun i wr => i = .int .i64 (-1) ∧ J [] wr) (fun _ _ => 0)
  case atStart => exact ⟨rfl, h0⟩
  case round =>
    obtain ⟨rfl, hJs⟩ := hrel
    gi_wp2
    go_end0
    exact ⟨⟨_, rfl⟩, hJs⟩
/-- What the slice in the box Bs shows: nothing, or the values f. -/
def Shown3 (W : World) (Bs : Nat) (a : Option Addr) (len cap : Nat) (f : Nat → Value × Value × Value) : Prop :=
  W.cell? ⟨Bs, 0, none⟩ = some (.slice a len cap) ∧ ((a = none ∧ len = 0 ∧ cap = 0) ∨ ∃ b off, a = some ⟨b, off, none⟩ ∧ Pls W Bs b off len cap f)
theorem back_stops (n : Nat) (hn : 1 ≤ n) (Bs : Nat) (a : Option Addr) (len cap : Nat) (hreach : len ≤ 1048576) (f : Nat → Value × Value × Value) {α : Type} (g : Nat → α) (encs : α → Array Value) (henc : ∀ j, j < len → encs (g j) = #[.int .i64 (j : Int), .agg #[(f j).1, (f j).2.1, (f j).2.2]])
    (Kp : World → World → Prop) (hKp : ∀ A B, Kp A B → Shown3 A Bs a len cap f → Shown3 B Bs a len cap f) (w : World) (hP : Shown3 w Bs a len cap f) :
    SeqStopsK Fence.wide n Tryz.prog 61 #[.pointer (some ⟨Bs, 0, none⟩)] encs Kp (fun ys => ys = down g len len) (fun _ => True) len w := fun l J Jx W hW _ _ hY h0 => by
  have keep : ∀ p v, w.cell? p = some v → W.cell? p = some v := cell_keep hW.block
  have hP' : Shown3 W Bs a len cap f := by
    obtain ⟨h1, h2⟩ := hP
    refine ⟨keep _ _ h1, ?_⟩
    rcases h2 with h2 | ⟨b, off, ha, hp⟩
    · exact .inl h2
    · exact .inr ⟨b, off, ha, keep _ _ hp.box, fun j hj => keep _ _ (hp.c0 j hj), fun j hj => keep _ _ (hp.c1 j hj), fun j hj => keep _ _ (hp.c2 j hj)⟩
  rcases hP' with ⟨h1, ⟨rfl, rfl, rfl⟩ | ⟨b, off, rfl, hp⟩⟩
  · refine (back_nil_in n l Bs J W h1 h0).mono ?_
    rintro e W' ⟨he, hj⟩
    exact ⟨he, .inl ⟨[], rfl, hj⟩⟩
  · refine (back_in n hn l Bs b off len cap hreach f g encs henc Kp (fun A B hk hA => ?_) J Jx hY W hp h0).mono ?_
    · rcases hKp A B hk ⟨hA.box, .inr ⟨b, off, rfl, hA⟩⟩ with ⟨hb, ⟨h, _, _⟩ | ⟨b', off', h, hp'⟩⟩
      · cases h
      · cases h; exact hp'
    · rintro e W' ⟨he, ⟨ys, rfl, hj⟩ | ⟨pre, _, hj⟩⟩
      · exact ⟨he, .inl ⟨_, rfl, hj⟩⟩
      · exact ⟨he, .inr ⟨pre, trivial, hj⟩⟩
end Go.Proofs.YtecibcjckinngaaGreatDoor
/- A range over slices.Backward that collects the texts of places. -/
set_option linter.unusedVariables false
namespace Go.Proofs.YtecibcjckinngaaGreatDoor
open Go Go.RowKit Enc
def noDef (o : Oper) : Bool := match o.op with
  | .defer _ => false
  | _ => true
theorem noDef_list {os : List Oper} (h : os.all noDef = true) : ∀ o ∈ os, ∀ c, o.op ≠ Op.defer c := fun o ho c hc => by
  have := List.all_eq_true.1 h o ho
  simp [noDef, hc] at this
theorem noDef_ops {os : List Oper} (h : os.all noDef = true) : NoDefer os.toArray := fun i o ho c hc => noDef_list h o (by
  have : os[i]? = some o := by simpa using ho
  exact List.mem_of_getElem? this) c hc
/-- A place of moderate size. -/
structure Small3 (q : PlcM) : Prop where
  mod : q.mod.size ≤ 1048576
  fn : q.fn.size ≤ 1048576
  line : -9223372036854775808 ≤ q.line ∧ q.line ≤ 9223372036854775807
theorem Small3.ok {q : PlcM} (h : Small3 q) (w : World) : Enc.ok w q :=
  ⟨by have := h.mod; simp only [Enc.ok]; omega, by have := h.fn; simp only [Enc.ok]; omega, h.line⟩
theorem small3_nth {l : List PlcM} (h : ∀ q ∈ l, Small3 q) (i : Nat) : Small3 (nth l i) := by
  by_cases hi : i < l.length
  · exact h _ (nth_mem hi)
  · rw [nth_default (by omega)]; exact ⟨by show (0 : Nat) ≤ _; omega, by show (0 : Nat) ≤ _; omega, by show (-9223372036854775808 : Int) ≤ 0 ∧ (0 : Int) ≤ 9223372036854775807; decide⟩
abbrev XP := { x : Nat × PlcM // Small3 x.2 }
def pcell (q : PlcM) : Value × Value × Value := (.string q.mod, .string q.fn, .int .i64 q.line)
def xenc (x : XP) : Array Value := #[.int .i64 (x.1.1 : Int), .agg (enc x.1.2).toArray]
/-- The texts, the last place's first. -/
def whereL (ps : List PlcM) : List ByteArray := ps.reverse.map placeB
theorem down_where (ps : List PlcM) (hp : ∀ i, Small3 (nth ps i)) : (down (fun j => (⟨(j, nth ps j), hp j⟩ : XP)) ps.length ps.length).map (fun x => placeB x.1.2) = whereL ps := by
  unfold down whereL
  rw [List.map_map]
  apply List.ext_getElem
  · simp
  · intro i h1 h2
    simp only [List.length_map, List.length_range] at h1
    simp only [List.getElem_map, List.getElem_range, Function.comp, List.getElem_reverse]
    rw [nth_eq (by omega)]
/-- The loop's own memory, whatever has come. -/
def IW (K : Nat → Prop) (w : World) (gl : Nat) (pre : List XP) (W : World) : Prop :=
  ∃ A c, Sep K w [(12, .box gl [.slice A pre.length c] 23), (500, .row 9 1 A (pre.map (fun x => placeB x.1.2)).length c (encs (pre.map (fun x => placeB x.1.2))))] W
theorem sep_grown {K : Nat → Prop} {w0 W W' : World} {H : Hp} {row : Option Nat} {B : Nat} (hS : Sep K w0 H W) (hK : ∀ b, K b → b < B) (hH : ∀ t e, H.get t = some e → (∃ g cs T, e = .box g cs T) ∨ (∃ T s a n c xs, e = .row T s a n c xs)) (hg : W.grownBy W' row)
    (hr : ∀ r, row = some r → B ≤ r ∧ ∃ o : Obj, W.heap[r]? = some o ∧ o.isCells = false) : Sep K w0 H W' := by
  have hkb : ∀ b, K b → W'.heap[b]? = W.heap[b]? := fun b hb => hg.block b (hS.bs b hb) (fun e => by have := (hr b e.symm).1; have := hK b hb; omega)
  have hcell : ∀ (b : Nat) (cs : Array Value) (T : TypeId) (f : Nat × Nat), W.heap[b]? = some (Obj.cells cs T f) → W'.heap[b]? = W.heap[b]? := fun b cs T f hb => hg.block b (Array.getElem?_eq_some_iff.1 hb).1 (fun e => by
    obtain ⟨_, o, ho, hc⟩ := hr b e.symm
    rw [hb] at ho; cases ho; cases hc)
  refine ⟨hS.kp.trans ⟨hg.os, hg.tape, hg.output, hg.size, hkb⟩, fun b hb => Nat.lt_of_lt_of_le (hS.bs b hb) hg.size, fun t e he => ?_, hS.apart, fun t e φ he hf => ?_⟩
  · have hh := hS.holds t e he
    refine Ent.holds_keep hh (fun b hb => ?_)
    rcases hH t e he with ⟨g, cs, T, rfl⟩ | ⟨T, s, a, n, c, xs, rfl⟩
    · obtain rfl := Option.some.inj hb; exact hcell _ _ _ _ hh.2
    · obtain ⟨_, _, _, h4⟩ := hh
      rcases h4 with ⟨rfl, _⟩ | ⟨g, off, cur, rfl, _, hcur, _⟩
      · cases hb
      · obtain rfl := Option.some.inj hb; exact hcell _ _ _ _ hcur
  · rcases hH t e he with ⟨g, cs, T, rfl⟩ | ⟨T, s, a, n, c, xs, rfl⟩ <;> cases hf
theorem two_cells {g1 : Nat} {cs : List Value} {T1 : TypeId} {T s : Nat} {a : Option Addr} {n c : Nat} {xs : List Value} {t1 t2 : Nat} : ∀ t e, Hp.get [(t1, .box g1 cs T1), (t2, .row T s a n c xs)] t = some e → (∃ g cs T, e = .box g cs T) ∨ (∃ T s a n c xs, e = .row T s a n c xs) := fun t e h => by
  rcases Hp.get_cons h with ⟨_, rfl⟩ | ⟨_, h⟩
  · exact .inl ⟨_, _, _, rfl⟩
  · rcases Hp.get_cons h with ⟨_, rfl⟩ | ⟨_, h⟩
    · exact .inr ⟨_, _, _, _, _, _, rfl⟩
    · cases h
/-- What a fact on a cell hangs on. -/
theorem cell_dead {w : World} {g : Nat} (h : w.heap[g]? = some (.deferred none)) : w.cell? ⟨g, 0, none⟩ = none := by simp [World.cell?, h]
theorem supp_in {S : Nat → Prop} {w : World} {g : Nat} {v : Value} (h : Supp S w (fun w => CellIs w g v)) : S g := by
  by_cases hs : S g
  · exact hs
  · exfalso
    have h1 : (w.putObj g (.deferred none)).cell? ⟨g, 0, none⟩ = some v := h (w.putObj g (.deferred none)) (fun b hb => World.putObj_heap_other (fun e => hs (e ▸ hb)))
    have h2 : w.cell? ⟨g, 0, none⟩ = some v := h w (fun _ _ => rfl)
    have hlt : g < w.heap.size := World.block_lt_of_cell? w ⟨g, 0, none⟩ h2
    rw [cell_dead (World.putObj_heap_same hlt)] at h1
    cases h1
theorem back_sub {K : Nat → Prop} {w0 W W2 : World} {g : Nat} {cs : List Value} {s : Nat} {a : Option Addr} {n c : Nat} {xs : List Value} {H1 : Hp}
    (hI : Sep K w0 [(12, .box g cs 23), (500, .row 9 s a n c xs)] W) {e1 e2 : Ent} (h1 : Sep (Spare [(12, .box g cs 23), (500, .row 9 s a n c xs)] [12, 500] W) W H1 W2) (h12 : H1.get 12 = some e1) (h500 : H1.get 500 = some e2) (hn1 : ∀ φ, e1 ≠ .fz φ) (hn2 : ∀ φ, e2 ≠ .fz φ) : Sep K w0 [(12, e1), (500, e2)] W2 := by
  have hb := Sep.back (Hn := [(12, e1), (500, e2)]) (us := [12, 500]) hI h1 (.cons (t0 := 12) h12 rfl (.cons (t0 := 500) h500 rfl .nil)) (fun t ht => by
    simp only [List.mem_cons, List.not_mem_nil, or_false] at ht
    rcases ht with rfl | rfl <;> simp [Hp.get]) (fun t φ h => by
    rcases Hp.get_cons h with ⟨_, rfl⟩ | ⟨_, h⟩
    · exact hn1 φ rfl
    · rcases Hp.get_cons h with ⟨_, rfl⟩ | ⟨_, h⟩
      · exact hn2 φ rfl
      · cases h)
  exact hb.sub (.cons rfl (.cons rfl .nil))
abbrev KW (H : Hp) (w : World) : Nat → Prop := Spare H [12] w
theorem spare2 {K : Nat → Prop} {w0 W : World} {g : Nat} {cs : List Value} {s : Nat} {a : Option Addr} {n c : Nat} {xs : List Value} (hI : Sep K w0 [(12, .box g cs 23), (500, .row 9 s a n c xs)] W) {b : Nat} (hlt : b < W.heap.size) (h1 : b ≠ g) (h2 : ∀ T f, W.heap[b]? ≠ some (Obj.cells T 9 f) ∨ K b) : Spare [(12, .box g cs 23), (500, .row 9 s a n c xs)] [12, 500] W b := by
  refine ⟨hlt, fun t ht e he hb => ?_⟩
  simp only [List.mem_cons, List.not_mem_nil, or_false] at ht
  rcases ht with rfl | rfl
  · obtain rfl : Ent.box g cs 23 = e := Option.some.inj he
    exact h1 (Option.some.inj hb).symm
  · obtain rfl : Ent.row 9 s a n c xs = e := Option.some.inj he
    have hh := hI.holds 500 (.row 9 s a n c xs) rfl
    obtain ⟨_, _, _, h4⟩ := hh
    rcases h4 with ⟨rfl, _⟩ | ⟨g', off, cur, rfl, hk, hcur, _⟩
    · cases hb
    · obtain rfl := Option.some.inj hb
      rcases h2 cur (0, 0) with h | h
      · exact h hcur
      · exact hk h
abbrev pv (g : Nat) : Value := .pointer (some ⟨g, 0, none⟩)
abbrev loopMem (gl : Nat) (A : Option Addr) (c : Nat) (L : List ByteArray) : Hp := [(12, .box gl [.slice A L.length c] 23), (500, .row 9 1 A L.length c (encs L))]
/-- The loop variable is laid. -/
def AssignOK (n gl : Nat) (assign : Code) : Prop := ∀ (K : Nat → Prop) (w1 : World) (q : PlcM) (A : Option Addr) (c : Nat) (L : List ByteArray) (Q : Act → World → Prop) (m l : Nat) (a1 : Act) (W1 : World),
  (∀ a2 W2 g1, EnvOK [] n [(12, pv gl), (14, pv g1)] a2 → Sep K w1 (loopMem gl A c L ++ [(14, .box g1 (enc q) 54)]) W2 → Q a2 W2) →
  EnvOK [] n [(109, .agg (enc q).toArray), (12, pv gl)] a1 → Sep K w1 (loopMem gl A c L) W1 → assign.wpIn (Fence.wide.inRound l) m Tryz.prog (QN Q) a1 W1
/-- One round. -/
def BodyOK (n gl : Nat) (body : Code) : Prop := ∀ (K : Nat → Prop) (w1 : World) (q : PlcM) (hq : Small3 q) (A : Option Addr) (c : Nat) (L : List ByteArray) (hL : L.length ≤ 1048576) (gx : Nat) (Q : Act → World → Prop) (m l : Nat) (a1 : Act) (W1 : World),
  (∀ a2 W2 A2 c2, Sep K w1 (loopMem gl A2 c2 (L ++ [placeB q])) W2 → Q a2 W2) →
  EnvOK [] n [(12, pv gl), (14, pv gx)] a1 → Sep K w1 (loopMem gl A c L ++ [(100, .fz (fun w => BoxIs w gx q)), (199, .fz (fun w => Tabs w))]) W1 → body.wpIn (Fence.wide.inRound l) m Tryz.prog (QN Q) a1 W1
theorem keepsfrom_of {K : Nat → Prop} {w0 W W2 : World} {B g : Nat} {cs : List Value} {s : Nat} {a : Option Addr} {n c : Nat} {xs : List Value} {H1 : Hp}
    (hI : Sep K w0 [(12, .box g cs 23), (500, .row 9 s a n c xs)] W) (h1 : Sep (Spare [(12, .box g cs 23), (500, .row 9 s a n c xs)] [12, 500] W) W H1 W2) : KeepsFrom B W W2 := by
  refine ⟨h1.kp.size, fun b o _ hb ho => ?_⟩
  refine (h1.kp.block b (spare2 hI (Array.getElem?_eq_some_iff.1 hb).1 (fun e => ?_) (fun T f => .inl (fun h => ?_)))).trans hb
  · subst e
    have hh := hI.holds 12 (.box b cs 23) rfl
    rw [hh.2] at hb; cases hb; cases ho
  · rw [h] at hb; cases hb; cases ho
theorem kp_of {K : Nat → Prop} {w0 W W2 : World} {B g : Nat} {cs : List Value} {s : Nat} {a : Option Addr} {n c : Nat} {xs : List Value} {H1 : Hp} (hK : ∀ x, x < B → x ≠ g → K x)
    (hI : Sep K w0 [(12, .box g cs 23), (500, .row 9 s a n c xs)] W) (h1 : Sep (Spare [(12, .box g cs 23), (500, .row 9 s a n c xs)] [12, 500] W) W H1 W2) : ∀ x, x < B → x ≠ g → W2.heap[x]? = W.heap[x]? := fun x hx hg =>
  h1.kp.block x (spare2 hI (hI.bs x (hK x hx hg)) hg (fun T f => .inr (hK x hx hg)))
end Go.Proofs.YtecibcjckinngaaGreatDoor
/- The rule for a range over slices.Backward that collects the texts of places. -/
set_option linter.unusedVariables false
namespace Go.Proofs.YtecibcjckinngaaGreatDoor
open Go Go.RowKit Enc
theorem env_start {n : Nat} {ds : List Deferred} {e : Env} {a : Act} (ha : EnvOK ds n e a) (h108 : Nat.blt 108 n = true) (h109 : Nat.blt 109 n = true) {g : Nat} (h12 : e.get 12 = some (pv g)) (v1 v2 : Value) :
    EnvOK [] n [(109, v2), (12, pv g)] { tmps := ((#[108, 109] : Array Tmp).zip #[v1, v2]).foldl (fun t (p, v) => t.setIfInBounds p v) a.tmps, defers := [] } := by
  have h0 : EnvOK [] n e { tmps := a.tmps, defers := [] } := ⟨ha.size, rfl, ha.get⟩
  have h1 := (h0.put h108 v1).put h109 v2
  have e1 : ((#[108, 109] : Array Tmp).zip #[v1, v2]).foldl (fun t (p, v) => t.setIfInBounds p v) a.tmps = (a.tmps.setIfInBounds 108 v1).setIfInBounds 109 v2 := by simp
  rw [e1]
  exact EnvOK.sub h1 (.cons rfl (.cons (by
    show Env.get ((109, v2) :: (108, v1) :: e) 12 = _
    simp only [Env.get]
    exact h12) .nil))
theorem where_mem {K : Nat → Prop} {w0 w : World} {H : Hp} (hw : Sep K w0 H w) {gl : Nat} (hbox : H.get 12 = some (.box gl [.slice none 0 0] 23)) : IW (KW H w) w gl [] w := by
  have h := Sep.lend hw (A := [(12, .box gl [.slice none 0 0] 23)]) (F := []) (ts := [12]) (.cons (t0 := 12) hbox rfl .nil) rfl .nil
  exact ⟨none, 0, (h.nilRow 500 9 1).sub (.cons rfl (.cons rfl .nil))⟩
set_option maxHeartbeats 1000000 in
theorem r_where {n : Nat} {K : Nat → Prop} {w0 : World} {R : Ending → World → Prop} {k : List Item} {e : Env} {H : Hp} {assign body : Code} {gl gb : Nat} {a : Option Addr} {cap : Nat} {ps : List PlcM}
    (h108 : Nat.blt 108 n = true) (h109 : Nat.blt 109 n = true) (h12 : e.get 12 = some (pv gl)) (h107 : e.get 107 = some (.func (.func 61) #[] #[pv gb]))
    (hbox : H.get 12 = some (.box gl [.slice none 0 0] 23)) (hcell : H.get 107 = some (.fn (fun w => CellIs w gb (.slice a ps.length cap)))) (hrow : H.get 106 = some (.row 54 3 a ps.length cap (encs ps))) (htab : H.get 199 = some (.fz (fun w => Tabs w)))
    (hps : ∀ q ∈ ps, Small3 q) (hlen : ps.length ≤ 1048576) (hA : AssignOK n gl assign) (hB : BodyOK n gl body)
    (tail : ∀ D A c, RunE ⟨Tryz.prog, 11, n, K, w0, R, [{ target := .collected D, args := #[] }]⟩ k e ((900, .dfr D) :: (12, .box gl [.slice A (whereL ps).length c] 23) :: (500, .row 9 1 A (whereL ps).length c (encs (whereL ps))) :: H)) :
    RunE ⟨Tryz.prog, 11, n, K, w0, R, []⟩ (.code (.rangeFunc (.tmp 107) #[108, 109] assign body) :: k) e H := by
  intro act w ha hw
  have hn := small3_nth hps
  -- where the parts lie
  obtain ⟨S1, hS1, hS2⟩ := hw.fz 107 _ _ hcell rfl
  have hgb := hS1 gb (supp_in hS2)
  have hcb : CellIs w gb (.slice a ps.length cap) := hS2 w (fun _ _ => rfl)
  have hgl : gb ≠ gl := fun e => hgb.2.2 12 _ hbox (by rw [e]; rfl)
  have hr := hw.holds 106 _ hrow
  have hKW : ∀ x, x < w.heap.size → x ≠ gl → KW H w x := fun x hx hg => ⟨hx, fun t ht e he hb => by
    simp only [List.mem_cons, List.not_mem_nil, or_false] at ht
    subst ht
    rw [hbox] at he; cases he
    exact hg (Option.some.inj hb).symm⟩
  have hKlt : ∀ b, KW H w b → b < w.heap.size := fun b hb => hb.1
  -- what the slice shows
  have hrc : ∀ b off, a = some ⟨b, off, none⟩ → b < w.heap.size ∧ b ≠ gl := fun b off hab => by
    have hb : (Ent.row 54 3 a ps.length cap (encs ps)).blk = some b := by subst hab; rfl
    refine ⟨(Ent.blk_ge hr hb).2, fun e => hw.apart 106 12 _ _ b hrow hbox (by simp) hb (by rw [e]; rfl)⟩
  have hcells : ∀ b off, a = some ⟨b, off, none⟩ → Pls w gb b off ps.length cap (fun j => pcell (nth ps j)) := fun b off hab => by
    have hc : ∀ (i j : Nat) (v : Value), i < ps.length → (enc (nth ps i))[j]? = some v → w.cell? ⟨b, off + i * 3 + j, none⟩ = some v := fun i j v hi hv => by
      have h := row_cellAt (l := ps) hr hi hv
      rw [hab, show (Pt (some ⟨b, off, none⟩) (i * sz PlcM)) = (⟨b, off, none⟩ : Addr).add (i * 3) from rfl, addn, addn] at h
      exact h
    refine ⟨by rw [← hab]; exact hcb, fun j hj => ?_, fun j hj => ?_, fun j hj => ?_⟩
    · have := hc j 0 _ hj rfl; rwa [Nat.add_zero] at this
    · exact hc j 1 _ hj rfl
    · exact hc j 2 _ hj rfl
  have hshown : Shown3 w gb a ps.length cap (fun j => pcell (nth ps j)) := by
    refine ⟨hcb, ?_⟩
    obtain ⟨_, _, _, h4⟩ := hr
    rcases h4 with ⟨h, h2, h3⟩ | ⟨g, off, cur, h, _⟩
    · exact .inl ⟨h, h2, h3⟩
    · exact .inr ⟨g, off, h, hcells g off h⟩
  refine r_of_code (wpIn_wide (n := 3).1 ?_)
  refine wpIn_rangeFunc_ownH (α := XP) (gf := 61) (lb := #[pv gb]) (encs := xenc) (N := ps.length) (w0 := w) (S := fun ys => ys = down (fun j => (⟨(j, nth ps j), hn j⟩ : XP)) ps.length ps.length) (Sp := fun _ => True)
    (Kp := fun A B => ∀ x, x < w.heap.size → x ≠ gl → B.heap[x]? = A.heap[x]?) rfl (by omega) (ha.op h107) trivial en61
    (back_stops 2 (by omega) gb a ps.length cap hlen (fun j => pcell (nth ps j)) (fun j => (⟨(j, nth ps j), hn j⟩ : XP)) xenc (fun j _ => rfl) _ ?hKp w hshown)
    (fun h1 h2 x hx hg => (h2 x hx hg).trans (h1 x hx hg)) ?hKb (Below.refl _ _) (fun _ => rfl) (IW (KW H w) w gl) (fun _ _ _ => False) ?hI ?hIx (where_mem hw hbox)
    (fun x a' W => ∃ gx, EnvOK [] n [(12, pv gl), (14, pv gx)] a' ∧ W.heap[gx]? = some (.cells (enc x.1.2).toArray 54 (0, 0))) ?hAx ?assign ?body ?done ?stop
  case hKp =>
    rintro A B hk ⟨h1, h2⟩
    have hkg : ∀ g n v, g < w.heap.size → g ≠ gl → A.cell? ⟨g, n, none⟩ = some v → B.cell? ⟨g, n, none⟩ = some v := fun g n v hlt hne h => (cell_local (hk g hlt hne)).trans h
    refine ⟨hkg _ _ _ hgb.1 hgl h1, ?_⟩
    rcases h2 with h2 | ⟨b, off, hab, hp⟩
    · exact .inl h2
    · obtain ⟨hb1, hb2⟩ := hrc b off hab
      exact .inr ⟨b, off, hab, hkg _ _ _ hgb.1 hgl hp.box, fun j hj => hkg _ _ _ hb1 hb2 (hp.c0 j hj), fun j hj => hkg _ _ _ hb1 hb2 (hp.c1 j hj), fun j hj => hkg _ _ _ hb1 hb2 (hp.c2 j hj)⟩
  case hKb =>
    intro W l o o' hl hW _ _ x hx hg
    exact World.putObj_heap_other (by omega)
  case hI =>
    rintro pre W W' row ⟨A, c, hS⟩ hg hr
    exact ⟨A, c, sep_grown hS hKlt two_cells hg hr⟩
  case hIx => intro c s W W' row h; exact h.elim
  case hAx =>
    rintro x a' s W W' row ⟨gx, h1, h2⟩ hg hr
    exact ⟨gx, h1, (hg.block gx (Array.getElem?_eq_some_iff.1 h2).1 (fun e => by
      obtain ⟨_, o, ho, hc⟩ := hr gx e.symm
      rw [h2] at ho; cases ho; cases hc)).trans h2⟩
  case assign =>
    rintro l pre x W Kk ⟨A, c, hS⟩ hK
    rw [show pre.length = (pre.map (fun x : XP => placeB x.1.2)).length from (List.length_map ..).symm] at hS
    have hS' := Sep.lend hS (A := loopMem gl A c (pre.map (fun x : XP => placeB x.1.2))) (F := []) (ts := [12, 500]) (.cons (t0 := 12) rfl rfl (.cons (t0 := 500) rfl rfl .nil)) rfl .nil
    refine wpIn_mono (hA _ _ x.1.2 A c _ (fun a2 W2 => Kk a2 W2) _ l _ W (fun a2 W2 g1 ha2 hW2 => ?_) (env_start ha h108 h109 h12 _ _) hS') (fun ex a2 W2 hq => ?_)
    · refine hK a2 W2 (keepsfrom_of hS hW2) (kp_of hKW hS hW2) ⟨A, c, ?_⟩ ⟨g1, ha2, (hW2.holds 14 (.box g1 (enc x.1.2) 54) rfl).2⟩
      rw [show pre.length = (pre.map (fun x : XP => placeB x.1.2)).length from (List.length_map ..).symm]
      exact back_sub hS hW2 rfl rfl (fun φ h => by cases h) (fun φ h => by cases h)
    · obtain ⟨rfl, hq⟩ := hq; exact hq
  case body =>
    rintro l pre x a' W hl _ ⟨A, c, hS⟩ ⟨gx, hae, hgx⟩ hlt
    have hS0 := hS
    rw [show pre.length = (pre.map (fun x : XP => placeB x.1.2)).length from (List.length_map ..).symm] at hS
    have hbx : Bears (loopMem gl A c (pre.map (fun x : XP => placeB x.1.2))) [12, 500] W (fun w => BoxIs w gx x.1.2) := by
      refine ⟨(· = gx), fun b hb => ?_, supp_box1 (fun j v hv => ?_)⟩
      · subst hb
        refine ⟨(Array.getElem?_eq_some_iff.1 hgx).1, fun t ht e he hbk => ?_⟩
        simp only [List.mem_cons, List.not_mem_nil, or_false] at ht
        rcases ht with rfl | rfl
        · obtain rfl := Option.some.inj he
          have hh := hS.holds 12 (.box gl [.slice A (pre.map (fun x : XP => placeB x.1.2)).length c] 23) rfl
          obtain rfl := Option.some.inj hbk
          rw [hh.2] at hgx; cases hgx
        · obtain rfl := Option.some.inj he
          obtain ⟨_, _, _, h4⟩ := hS.holds 500 (.row 9 1 A (pre.map (fun x : XP => placeB x.1.2)).length c (encs (pre.map (fun x : XP => placeB x.1.2)))) rfl
          rcases h4 with ⟨rfl, _⟩ | ⟨g', off, cur, rfl, _, hcur, _⟩
          · cases hbk
          · obtain rfl := Option.some.inj hbk
            rw [hcur] at hgx; cases hgx
      · rw [add0]
        unfold World.cell?
        simp only [hgx]
        simpa using hv
    have htb : Bears (loopMem gl A c (pre.map (fun x : XP => placeB x.1.2))) [12, 500] W (fun w => Tabs w) := by
      obtain ⟨S2, hT1, hT2⟩ := hw.fz 199 _ _ htab rfl
      have hin : ∀ b, S2 b → KW H w b := fun b hb => hKW b (hT1 b hb).1 (fun e => (hT1 b hb).2.2 12 _ hbox (by rw [e]; rfl))
      refine ⟨S2, fun b hb => ?_, hT2.keep (fun b hb => hS.kp.block b (hin b hb))⟩
      have hsp := spare2 hS (hS.bs b (hin b hb)) (fun e => (hT1 b hb).2.2 12 _ hbox (by rw [e]; rfl)) (fun T f => .inr (hin b hb))
      exact ⟨hsp.1, hsp.2⟩
    have hS' := Sep.lend hS (A := loopMem gl A c (pre.map (fun x : XP => placeB x.1.2))) (F := [(100, .fz (fun w => BoxIs w gx x.1.2)), (199, .fz (fun w => Tabs w))]) (ts := [12, 500]) (.cons (t0 := 12) rfl rfl (.cons (t0 := 500) rfl rfl .nil)) rfl (.cons hbx (.cons htb .nil))
    refine wpIn_mono (hB _ _ x.1.2 x.2 A c _ (by simp only [List.length_map]; omega) gx (fun a2 W2 => KeepsFrom w.heap.size W W2 ∧ (∀ y, y < w.heap.size → y ≠ gl → W2.heap[y]? = W.heap[y]?) ∧ IW (KW H w) w gl (pre ++ [x]) W2) _ l _ W (fun a2 W2 A2 c2 hW2 => ?_) hae hS') (fun ex a2 W2 hq => ?_)
    · refine ⟨keepsfrom_of hS hW2, kp_of hKW hS hW2, A2, c2, ?_⟩
      have hb := back_sub hS hW2 rfl rfl (fun φ h => by cases h) (fun φ h => by cases h)
      rw [List.map_append, List.map_cons, List.map_nil, show (pre ++ [x]).length = (pre.map (fun x : XP => placeB x.1.2) ++ [placeB x.1.2]).length from by simp]
      exact hb
    · obtain ⟨rfl, hq⟩ := hq; exact hq
  case done =>
    rintro D xs W hD rfl ⟨A, c, hS⟩ hdf
    refine ⟨rfl, ?_⟩
    rw [show (down (fun j => (⟨(j, nth ps j), hn j⟩ : XP)) ps.length ps.length).length = (whereL ps).length from by rw [← down_where ps hn, List.length_map], down_where ps hn] at hS
    have hd1 : Sep (KW H w) w [(900, .dfr D), (12, .box gl [.slice A (whereL ps).length c] 23), (500, .row 9 1 A (whereL ps).length c (encs (whereL ps)))] W := by
      have hcl : ∀ t e, Hp.get (loopMem gl A c (whereL ps)) t = some e → e.blk ≠ some D := fun t e he hb => by
        rcases two_cells t e he with ⟨g, cs, T, rfl⟩ | ⟨T, s, a', n', c', xs, rfl⟩
        · have hh := hS.holds t _ he
          obtain rfl := Option.some.inj hb
          rw [hh.2] at hdf; cases hdf
        · obtain ⟨_, _, _, h4⟩ := hS.holds t _ he
          rcases h4 with ⟨rfl, _⟩ | ⟨g', off, cur, rfl, _, hcur, _⟩
          · cases hb
          · obtain rfl := Option.some.inj hb
            rw [hcur] at hdf; cases hdf
      refine ⟨hS.kp, hS.bs, fun t e he => ?_, fun t t' e e' b he he' hne hb hb' => ?_, fun t e φ he hf => ?_⟩
      · rcases Hp.get_cons he with ⟨_, rfl⟩ | ⟨_, he⟩
        · exact ⟨fun hk => by have := hKlt D hk; omega, hdf⟩
        · exact hS.holds t e he
      · rcases Hp.get_cons he with ⟨h1, rfl⟩ | ⟨_, he⟩
        · obtain rfl := Option.some.inj hb
          rcases Hp.get_cons he' with ⟨h2, rfl⟩ | ⟨_, he'⟩
          · exact hne (h1.symm.trans h2)
          · exact hcl t' e' he' hb'
        · rcases Hp.get_cons he' with ⟨h2, rfl⟩ | ⟨_, he'⟩
          · obtain rfl := Option.some.inj hb'
            exact hcl t e he hb
          · exact hS.apart t t' e e' b he he' hne hb hb'
      · rcases Hp.get_cons he with ⟨_, rfl⟩ | ⟨_, he⟩
        · cases hf
        · rcases two_cells t e he with ⟨g, cs, T, rfl⟩ | ⟨T, s, a', n', c', xs, rfl⟩ <;> cases hf
    have hback := Sep.back (Hn := [(900, .dfr D), (12, .box gl [.slice A (whereL ps).length c] 23), (500, .row 9 1 A (whereL ps).length c (encs (whereL ps)))]) (us := [900, 12, 500]) hw hd1 (.cons (t0 := 900) rfl rfl (.cons (t0 := 12) rfl rfl (.cons (t0 := 500) rfl rfl .nil))) (fun t ht => by
      simp only [List.mem_cons, List.not_mem_nil, or_false] at ht
      subst ht; simp [Hp.get]) (fun t φ h => by
      rcases Hp.get_cons h with ⟨_, h⟩ | ⟨_, h⟩
      · cases h
      · rcases two_cells t _ h with ⟨g, cs, T, h⟩ | ⟨T, s, a', n', c', xs, h⟩ <;> cases h)
    have hds : act.defers = [] := ha.defers
    refine tail D A c { act with defers := { target := .collected D, args := #[] } :: act.defers } W ⟨ha.size, by rw [hds], ha.get⟩ hback
  case stop => intro D c pre W _ _ h; exact h.elim
end Go.Proofs.YtecibcjckinngaaGreatDoor
/- What a command of a session does, as a plain function on the data. -/
set_option linter.unusedVariables false
namespace Go.Proofs.YtecibcjckinngaaGreatDoor
open Go Go.RowKit Enc
def sStart : ByteArray := ⟨#[115, 116, 97, 114, 116]⟩
def sEnd : ByteArray := ⟨#[101, 110, 100]⟩
def sClear : ByteArray := ⟨#[99, 108, 101, 97, 114]⟩
def sCleared : ByteArray := ⟨#[99, 108, 101, 97, 114, 101, 100]⟩
def sWhere : ByteArray := ⟨#[119, 104, 101, 114, 101]⟩
def sNowhere : ByteArray := ⟨#[110, 111, 119, 104, 101, 114, 101]⟩
def sBreak : ByteArray := ⟨#[98, 114, 101, 97, 107]⟩
def sShow : ByteArray := ⟨#[115, 104, 111, 119, 32]⟩
def sUnknown : ByteArray := ⟨#[117, 110, 107, 110, 111, 119, 110]⟩
def sSemi : ByteArray := ⟨#[59, 32]⟩
def whereP (l : List EvM) (p : Int) : ByteArray := if (((whereL (plcs (activeP l p))).length : Nat) : Int) = (0 : Int) then sNowhere else joinB (whereL (plcs (activeP l p))) sSemi
def isBrk (c : ByteArray) : Prop := (cut1 c = sBreak) ∧ (((((split4 (cut2 c)).length : Nat) : Int) = (2 : Int)) ∨ ((((split4 (cut2 c)).length : Nat) : Int) = (4 : Int)))
instance (c : ByteArray) : Decidable (isBrk c) := by unfold isBrk; infer_instance
def plcAt (l : List EvM) (p : Int) : PlcM := ⟨(nth l p.toNat).mod, (nth l p.toNat).fn, (nth l p.toNat).line⟩
def moveT (l : List EvM) (p : Int) : ByteArray := if p = (-1 : Int) then sStart else if p = ((l.length : Nat) : Int) then sEnd else placeB (plcAt l p)
def showT (l : List EvM) (p : Int) (c : ByteArray) : ByteArray := if ((showP l p (cut2 c)).2 = true) ∧ (isNameB (cut2 c) = true) then (showP l p (cut2 c)).1 else sUnknown
def isShow (c : ByteArray) : Bool := Lib.hasPrefix c.data.toList sShow.data.toList
/-- What a command answers, where it leads, and the breakpoints behind it. -/
def doP (l : List EvM) (brk : List BrkM) (p : Int) (c : ByteArray) : ByteArray × Int × List BrkM :=
  if motOk c = true then (moveT l (moveP l brk p c), moveP l brk p c, brk)
  else if c = sClear then (sCleared, p, [])
  else if c = sWhere then (whereP l p, p, brk)
  else if isBrk c then ((addP brk (split4 (cut2 c))).1, p, (addP brk (split4 (cut2 c))).2)
  else if isShow c = true then (showT l p c, p, brk)
  else (sWhat, p, brk)
theorem moveP_range {l : List EvM} {brk : List BrkM} {p : Int} {c : ByteArray} (hp : -1 ≤ p ∧ p ≤ ((l.length : Nat) : Int)) (hc : motOk c = true) : -1 ≤ moveP l brk p c ∧ moveP l brk p c ≤ ((l.length : Nat) : Int) := by
  obtain ⟨_, _, _, _, hst, _⟩ := mot_fn (g := 0) (gb := 0) hc 0 ⟨none, 0, []⟩
  unfold moveP mvR
  rcases hst with h | h
  · rw [h, if_pos rfl]; omega
  · rw [h, if_neg (by decide)]
    have := prevF_lt (q := stopQ (goodP brk (depthP l p) c)) (l := l) (p + -1 + 1).toNat
    omega
theorem do_a {l : List EvM} {brk : List BrkM} {p : Int} {c : ByteArray} (h : motOk c = true) : doP l brk p c = (moveT l (moveP l brk p c), moveP l brk p c, brk) := if_pos h
theorem do_b {l : List EvM} {brk : List BrkM} {p : Int} {c : ByteArray} (h : ¬ motOk c = true) (h2 : c = sClear) : doP l brk p c = (sCleared, p, []) := by rw [doP, if_neg h, if_pos h2]
theorem do_c {l : List EvM} {brk : List BrkM} {p : Int} {c : ByteArray} (h : ¬ motOk c = true) (h2 : ¬ c = sClear) (h3 : c = sWhere) : doP l brk p c = (whereP l p, p, brk) := by rw [doP, if_neg h, if_neg h2, if_pos h3]
theorem do_d {l : List EvM} {brk : List BrkM} {p : Int} {c : ByteArray} (h : ¬ motOk c = true) (h2 : ¬ c = sClear) (h3 : ¬ c = sWhere) (h4 : isBrk c) : doP l brk p c = ((addP brk (split4 (cut2 c))).1, p, (addP brk (split4 (cut2 c))).2) := by rw [doP, if_neg h, if_neg h2, if_neg h3, if_pos h4]
theorem do_e {l : List EvM} {brk : List BrkM} {p : Int} {c : ByteArray} (h : ¬ motOk c = true) (h2 : ¬ c = sClear) (h3 : ¬ c = sWhere) (h4 : ¬ isBrk c) (h5 : isShow c = true) : doP l brk p c = (showT l p c, p, brk) := by rw [doP, if_neg h, if_neg h2, if_neg h3, if_neg h4, if_pos h5]
theorem do_f {l : List EvM} {brk : List BrkM} {p : Int} {c : ByteArray} (h : ¬ motOk c = true) (h2 : ¬ c = sClear) (h3 : ¬ c = sWhere) (h4 : ¬ isBrk c) (h5 : ¬ isShow c = true) : doP l brk p c = (sWhat, p, brk) := by rw [doP, if_neg h, if_neg h2, if_neg h3, if_neg h4, if_neg h5]
theorem cut2_size (c : ByteArray) : (cut2 c).size ≤ c.size := by
  have h : (Lib.cut c.data.toList sp.data.toList).2.1.length ≤ c.data.toList.length := by
    by_cases hc : 0 ≤ Lib.index c.data.toList sp.data.toList
    · rw [Lib.cut, if_pos hc]; simp only [List.length_drop]; omega
    · rw [Lib.cut, if_neg hc]; simp
  rw [cut2]
  simp only [ByteArray.size, List.size_toArray]
  simpa using h
theorem split4_size (s : ByteArray) : ∀ x ∈ split4 s, x.size ≤ s.size := splitB_size sp _ s
/-- All that the active functions show is of moderate size. -/
theorem act_small {l : List EvM} (hl : l.length ≤ 20000) (hs : ∀ e ∈ l, e.mod.size ≤ 1048576 ∧ e.fn.size ≤ 1048576) (hi : ∀ e ∈ l, -9223372036854775808 ≤ e.line ∧ e.line ≤ 9223372036854775807) {p : Int} (hp : p ≤ l.length) : ∀ x ∈ plcs (activeP l p), Small3 x := by
  intro x hx
  unfold plcs at hx
  obtain ⟨a, ha, rfl⟩ := List.mem_map.1 hx
  unfold activeP at ha
  split at ha
  · simp at ha
  · refine act_all (l := l) (p := p) (fun x => Small3 x.place) (fun j hj => ?_) (fun a j ha hj => ?_) ?_ (p + 1).toNat (by omega) a ha
    · exact ⟨(hs _ (nth_mem hj)).1, (hs _ (nth_mem hj)).2, hi _ (nth_mem hj)⟩
    · exact ⟨ha.mod, ha.fn, hi _ (nth_mem hj)⟩
    · exact ⟨by show (0 : Nat) ≤ _; omega, by show (0 : Nat) ≤ _; omega, by show (-9223372036854775808 : Int) ≤ 0 ∧ (0 : Int) ≤ 9223372036854775807; decide⟩
theorem place_size {q : PlcM} (h : Small3 q) : (placeB q).size ≤ 2097200 := by
  have h1 := h.mod; have h2 := h.fn; have hz := itoaB_size h.line
  have hy : (⟨#[58]⟩ : ByteArray).size = 1 := rfl
  have hx : (⟨#[32]⟩ : ByteArray).size = 1 := rfl
  unfold placeB
  simp only [ByteArray.size_append]
  omega
theorem tail_size (sep : List UInt8) (m : Nat) (ls : List (List UInt8)) : (∀ x ∈ ls, x.length ≤ m) → (Lib.joinTail sep ls).length ≤ ls.length * (m + sep.length) := by
  induction ls with
  | nil => intro _; simp [Lib.joinTail]
  | cons x ls ih =>
    intro h
    have h1 := h x (by simp)
    have ih' := ih (fun z hz => h z (by simp [hz]))
    simp only [Lib.joinTail, List.map_cons, List.flatten_cons, List.length_append, List.length_cons, Nat.add_mul, Nat.one_mul] at ih' ⊢
    omega
theorem join_size (sep : List UInt8) (m : Nat) (ls : List (List UInt8)) (h : ∀ x ∈ ls, x.length ≤ m) : (Lib.join ls sep).length ≤ ls.length * (m + sep.length) := by
  cases ls with
  | nil => simp [Lib.join_nil]
  | cons x ls =>
    have h1 := h x (by simp)
    have h2 := tail_size sep m ls (fun z hz => h z (by simp [hz]))
    rw [Lib.join_cons]
    simp only [List.length_append, List.length_cons, Nat.add_mul, Nat.one_mul] at h2 ⊢
    omega
theorem whereL_size {ps : List PlcM} (h : ∀ q ∈ ps, Small3 q) : ∀ x ∈ whereL ps, x.size ≤ 2097200 := by
  intro x hx
  unfold whereL at hx
  obtain ⟨q, hq, rfl⟩ := List.mem_map.1 hx
  exact place_size (h q (List.mem_reverse.1 hq))
theorem where_size {ps : List PlcM} (h : ∀ q ∈ ps, Small3 q) (hl : ps.length ≤ 20000) : (joinB (whereL ps) sSemi).size ≤ 140737488355328 := by
  have hj := join_size sSemi.data.toList 2097200 ((whereL ps).map (·.data.toList)) (fun x hx => by
    obtain ⟨y, hy, rfl⟩ := List.mem_map.1 hx
    have := whereL_size h y hy
    simpa using this)
  have e1 : ((whereL ps).map (·.data.toList)).length = ps.length := by simp [whereL]
  have e2 : sSemi.data.toList.length = 2 := rfl
  rw [e1, e2] at hj
  have e3 : (joinB (whereL ps) sSemi).size = (Lib.join ((whereL ps).map (·.data.toList)) sSemi.data.toList).length := by simp [joinB, ByteArray.size]
  rw [e3]
  omega
theorem row_spot {K : Nat → Prop} {w : World} {el : TypeId} {s : Nat} {a : Option Addr} {n c : Nat} {xs : List Value} (h : (Ent.row el s a n c xs).holds K w) : ∀ ad, a = some ad → ad.spot = none := by
  intro ad hd
  obtain ⟨_, _, _, h4⟩ := h
  rcases h4 with ⟨h, _⟩ | ⟨g, off, cur, h, _⟩
  · rw [h] at hd; cases hd
  · rw [h] at hd; cases hd; rfl
theorem ev_plc_ok {w : World} {l : Sl EvM} (hl : Enc.ok w l) {i : Nat} (hi : i < l.el.length) : Enc.ok w (⟨(nth l.el i).mod, (nth l.el i).fn, (nth l.el i).line⟩ : PlcM) := by
  have h := Sl.OK.nthOK hl hi
  exact ⟨EvM.OK.mod h, EvM.OK.fn h, EvM.OK.line h⟩
theorem sep_nil {K : Nat → Prop} {w0 w : World} {H : Hp} (hS : Sep K w0 H w) {g : Nat} {cs : List Value} {brk : Sl BrkM} (h : H.get 50 = some (.box g cs 37)) : Sep K w0 [(50, .box g cs 37), (51, .fn (fun w => (⟨none, 0, []⟩ : Sl BrkM) = brk ∨ Enc.ok w (⟨none, 0, []⟩ : Sl BrkM)))] w :=
  ((hS.ren (.cons (t := 50) (t0 := 50) h rfl .nil)).fnTrue (t := 51) rfl (fun _ => Or.inr ok_nil)).ren (.cons (t0 := 50) rfl rfl (.cons (t0 := 51) rfl rfl .nil))
end Go.Proofs.YtecibcjckinngaaGreatDoor
/- Walk over a command of a session. -/
set_option linter.unusedVariables false
namespace Go.Proofs.YtecibcjckinngaaGreatDoor
open Go Go.RowKit Enc
attribute [local irreducible] Effect OpsE RunE AnyE AnyAt Quiet Res1


theorem c35 (b : Sl PlcM) (w : World) : ∀ t0 : Nat, RetX Tryz.prog 35 #[.slice b.addr b.el.length b.cap] w (fun g : Nat => .func (.func 61) #[] #[pv g]) (fun g => [(t0, .fn (fun w => CellIs w g b.val))]) (fun _ => True) := by
  intro t0
  refine calls_of (args := [.slice b.addr b.el.length b.cap]) Tryz.func35 rfl Tryz.ntmps35 rfl (H := []) (Facts.sep (.nil)) ?_
  refine r_seq ?_
  refine r_region ?_
  refine sx rfl (e_box rfl (cs := [.slice b.addr b.el.length b.cap]) rfl) (fun g1 _ => ?_)
  refine s1 rfl (q_assign rfl) ?_
  refine o_end ?_
  refine r_seq ?_
  refine r_region ?_
  refine s1 rfl (q_mkfunc (.cons rfl (.nil))) ?_
  refine s1 rfl (q_assign rfl) ?_
  refine o_end ?_
  refine r_ret Tryz.func35 (res1 Tryz.results35 (res_tmp (s := 2) rfl)) (fun w hw => ?_)
  exact ⟨g1, trivial, rfl, (hw.freezeBox (t := 1) rfl).ren (.cons (t0 := 1) rfl rfl .nil)⟩


theorem c11 (g : Nat) (tr : Sl EvM) (p : Int) (brk : Sl BrkM) (c : ByteArray) (w : World) (hv : Valid tr.el) (hs : ∀ e ∈ tr.el, e.mod.size ≤ 1048576 ∧ e.fn.size ≤ 1048576) (hp : -1 ≤ p ∧ p ≤ tr.el.length) (hbl : brk.el.length ≤ 50) (hbs : ∀ q ∈ brk.el, Small q) (hc : c.size ≤ 1048576) (hps : ∀ q ∈ plcs (activeP tr.el p), Small3 q) : CallM Tryz.prog 11 #[.pointer (some ⟨g, 0, none⟩), .string c] w ([(50, .box g [.slice tr.addr tr.el.length tr.cap, .int .i64 p, .slice brk.addr brk.el.length brk.cap] 37)] ++ [(100, .fz (fun w => ok w tr)), (101, .fz (fun w => ok w brk)), (199, .fz (fun w => Tabs w))]) (fun x : Sl BrkM => .string (doP tr.el brk.el p c).1) (fun x => [(50, .box g [tr.val, .int .i64 (doP tr.el brk.el p c).2.1, x.val] 37), (51, .fn (fun w => x = brk ∨ ok w x))]) (fun x => x.el = (doP tr.el brk.el p c).2.2) := by
  have LV := hv.len
  have LA := activeP_len tr.el p hp.2
  have hc2 := cut2_size c
  have hsl := split4_len (cut2 c)
  have hpl : (plcs (activeP tr.el p)).length = (activeP tr.el p).length := by simp [plcs]
  refine callm_of (args := [.pointer (some ⟨g, 0, none⟩), .string c]) Tryz.func11 rfl Tryz.ntmps11 rfl (fun K => ?_)
  refine r_seq ?_
  refine r_region ?_
  refine s1 rfl (q_assign rfl) ?_
  refine o_end ?_
  refine r_seq ?_
  refine r_region ?_
  refine s1 rfl (q_move rfl) ?_
  refine sx rfl (e_call en30 (.cons rfl (.cons rfl (.nil))) ((fun w hw => c30 c w (by omega) (hw.get_fz (t := 199) rfl)))) (fun _ _ => ?_)
  refine s1 rfl (q_move rfl) ?_
  iterate 3 refine s1 rfl (q_extract rfl rfl) ?_
  iterate 3 refine s1 rfl (q_assign rfl) ?_
  refine o_end ?_
  refine r_seq ?_
  refine r_seq ?_
  refine r_cutx (fun q1 : Nat × Nat × Nat × Nat => [(0, .pointer (some ⟨g, 0, none⟩)), (1, .string c), (5, .string (cut1 c)), (6, .string (cut2 c)), (8, .pointer (some ⟨q1.2.2.2, 0, none⟩)), (9, .bool (motOk c))]) (fun q1 : Nat × Nat × Nat × Nat => [(100, .fz (fun w => ok w tr)), (101, .fz (fun w => ok w brk)), (199, .fz (fun w => Tabs w)), (50, .box g [.slice tr.addr tr.el.length tr.cap, .int .i64 p, .slice brk.addr brk.el.length brk.cap] 37), (36, .fn (fun w => MapIs w q1.1 (motEs q1.2.1 q1.2.2.1) 7)), (1036, .fn (fun w => CellIs w q1.2.1 (.int .i64 (depthP tr.el p)))), (2036, .fn (fun w => CellIs w q1.2.2.1 (.slice brk.addr brk.el.length brk.cap))), (8, .box q1.2.2.2 [.int .i64 (motSt c), motFn q1.2.1 q1.2.2.1 c] 77)]) (fun q1 => ?_) (fun key => ?_)
  · refine r_seq ?_
    refine r_region ?_
    refine s1 rfl (q_move rfl) ?_
    refine o_end ?_
    refine r_ifb rfl (fun hp1 => ?_) (fun hp1 => ?_)
    · have hmr := moveP_range (brk := brk.el) hp hp1
      refine r_seq ?_
      refine r_draw [(100, .fz (fun w => ok w tr)), (101, .fz (fun w => ok w brk)), (199, .fz (fun w => Tabs w)), (50, .box g [.slice tr.addr tr.el.length tr.cap, .int .i64 p, .slice brk.addr brk.el.length brk.cap] 37), (36, .fn (fun w => MapIs w q1.1 (motEs q1.2.1 q1.2.2.1) 7)), (1036, .fn (fun w => CellIs w q1.2.1 (.int .i64 (depthP tr.el p)))), (2036, .fn (fun w => CellIs w q1.2.2.1 (.slice brk.addr brk.el.length brk.cap))), (8, .box q1.2.2.2 [.int .i64 (motSt c), motFn q1.2.1 q1.2.2.1 c] 77)] (by kernel_rfl) rfl (.cons rfl (.cons rfl (.cons rfl (.cons rfl (.cons rfl (.cons rfl (.cons rfl (.cons rfl (.nil))))))))) ?_
      refine d1 0 rfl (by kernel_rfl) rfl rfl (q_move rfl) ?_
      refine d1 1 rfl (by kernel_rfl) rfl rfl (q_move rfl) ?_
      refine d1 2 rfl (by kernel_rfl) rfl rfl (q_nil rfl) ?_
      refine d1 3 rfl (by kernel_rfl) rfl rfl (q_fieldAddr of37_0 rfl rfl) ?_
      refine d1 4 rfl (by kernel_rfl) rfl rfl (q_load ag22 rfl (fun w hw => hw.box (tg := 50) rfl rfl)) ?_
      refine d1 5 rfl (by kernel_rfl) rfl rfl (q_move rfl) ?_
      refine d1 6 rfl (by kernel_rfl) rfl rfl (q_nil rfl) ?_
      refine d1 7 rfl (by kernel_rfl) rfl rfl (q_fieldAddr of37_1 rfl rfl) ?_
      refine d1 8 rfl (by kernel_rfl) rfl rfl (q_load ag3 rfl (fun w hw => hw.box (tg := 50) rfl rfl)) ?_
      refine d1 9 rfl (by kernel_rfl) rfl rfl (q_loads (cs := [.int .i64 (motSt c), motFn q1.2.1 q1.2.2.1 c]) ag77 z77 rfl rfl (fun w hw => hw.boxes (tg := 8) rfl)) ?_
      refine dx 10 rfl (by kernel_rfl) rfl rfl (want_none rfl) (e_call en32 (.cons rfl (.cons rfl (.cons rfl (.nil)))) ((fun w hw => c32m tr brk p q1.2.1 q1.2.2.1 c w (hw.get_fz (t := 100) rfl) (hw.get_fz (t := 101) rfl) (by omega) (by assumption) (hw.get_fn (t := 1036) rfl) (hw.get_fn (t := 2036) rfl)))) (fun _ => (.cons rfl (.cons rfl (.cons rfl (.cons rfl (.cons rfl (.cons rfl (.cons rfl (.cons rfl (.nil)))))))))) (fun _ _ => ?_)
      refine d1 11 rfl (by kernel_rfl) rfl rfl (q_nil rfl) ?_
      refine d1 12 rfl (by kernel_rfl) rfl rfl (q_fieldAddr of37_1 rfl rfl) ?_
      refine dxln 13 rfl (by kernel_rfl) rfl (by kernel_rfl) (by kernel_rfl) (e_store (tg := 50) (news := [.int .i64 (moveP tr.el brk.el p c)]) rfl rfl rfl rfl z3 rfl rfl (.skip (.cons (.nil _)))) (fun _ _ => ?_)
      refine r_seq ?_
      refine r_seq ?_
      refine r_region ?_
      refine s1 rfl (q_move rfl) ?_
      refine s1 rfl (q_nil rfl) ?_
      refine s1 rfl (q_fieldAddr of37_1 rfl rfl) ?_
      refine s1 rfl (q_load ag3 rfl (fun w hw => hw.box (tg := 50) rfl rfl)) ?_
      refine o_end ?_
      refine r_block ?_
      refine r_seq ?_
      refine r_region ?_
      refine s1 rfl (q_eql rfl rfl) ?_
      refine s1 rfl (q_assign rfl) ?_
      refine o_end ?_
      refine r_if rfl (fun hp2 => ?_) (fun hp2 => ?_)
      · refine r_seq ?_
        refine r_region ?_
        refine s1 rfl (q_assign rfl) ?_
        refine o_end ?_
        refine r_ret Tryz.func11 (res1 Tryz.results11 (res_tmp (s := 4) rfl)) (fun w hw => ?_)
        have hr := do_a (l := tr.el) (brk := brk.el) (p := p) (c := c) (by assumption)
        exact ⟨brk, by rw [hr], by rw [hr]; (try dsimp only); unfold moveT; rw [if_pos (by assumption)]; rfl, by rw [hr]; exact sep_same hw rfl⟩
      · refine r_seq ?_
        refine r_region ?_
        refine s1 rfl (q_move rfl) ?_
        refine s1 rfl (q_nil rfl) ?_
        refine s1 rfl (q_fieldAddr of37_0 rfl rfl) ?_
        refine s1 rfl (q_load ag22 rfl (fun w hw => hw.box (tg := 50) rfl rfl)) ?_
        refine s1 rfl (q_len Tryz.underlying22 rfl) ?_
        refine s1 rfl (q_eql rfl rfl) ?_
        refine s1 rfl (q_assign rfl) ?_
        refine o_end ?_
        refine r_if rfl (fun hp3 => ?_) (fun hp3 => ?_)
        · refine r_seq ?_
          refine r_region ?_
          refine s1 rfl (q_assign rfl) ?_
          refine o_end ?_
          refine r_ret Tryz.func11 (res1 Tryz.results11 (res_tmp (s := 4) rfl)) (fun w hw => ?_)
          have hr := do_a (l := tr.el) (brk := brk.el) (p := p) (c := c) (by assumption)
          exact ⟨brk, by rw [hr], by rw [hr]; (try dsimp only); unfold moveT; rw [if_neg (by assumption), if_pos (by assumption)]; rfl, by rw [hr]; exact sep_same hw rfl⟩
        · refine r_skip ?_
          refine r_inBlock ?_
          refine r_seq ?_
          refine r_draw [(100, .fz (fun w => ok w tr)), (101, .fz (fun w => ok w brk)), (199, .fz (fun w => Tabs w)), (50, .box g [.slice tr.addr tr.el.length tr.cap, .int .i64 (moveP tr.el brk.el p c), .slice brk.addr brk.el.length brk.cap] 37), (36, .fn (fun w => MapIs w q1.1 (motEs q1.2.1 q1.2.2.1) 7)), (1036, .fn (fun w => CellIs w q1.2.1 (.int .i64 (depthP tr.el p)))), (2036, .fn (fun w => CellIs w q1.2.2.1 (.slice brk.addr brk.el.length brk.cap))), (8, .box q1.2.2.2 [.int .i64 (motSt c), motFn q1.2.1 q1.2.2.1 c] 77)] (by kernel_rfl) rfl (.cons rfl (.cons rfl (.cons rfl (.cons rfl (.cons rfl (.cons rfl (.cons rfl (.cons rfl (.nil))))))))) ?_
          refine d1 0 rfl (by kernel_rfl) rfl rfl (q_move rfl) ?_
          refine d1 1 rfl (by kernel_rfl) rfl rfl (q_nil rfl) ?_
          refine d1 2 rfl (by kernel_rfl) rfl rfl (q_fieldAddr of37_0 rfl rfl) ?_
          refine d1 3 rfl (by kernel_rfl) rfl rfl (q_load ag22 rfl (fun w hw => hw.box (tg := 50) rfl rfl)) ?_
          refine d1 4 rfl (by kernel_rfl) rfl rfl (q_move rfl) ?_
          refine d1 5 rfl (by kernel_rfl) rfl rfl (q_nil rfl) ?_
          refine d1 6 rfl (by kernel_rfl) rfl rfl (q_fieldAddr of37_1 rfl rfl) ?_
          refine d1 7 rfl (by kernel_rfl) rfl rfl (q_load ag3 rfl (fun w hw => hw.box (tg := 50) rfl rfl)) ?_
          refine d1 8 rfl (by kernel_rfl) rfl rfl (q_indexAddr Tryz.underlying22 z42 rfl rfl rfl (by omega) (by omega) (fun w hw => Sl.OK.isSome (hw.get_fz (t := 100) rfl) (by decide) (i := (moveP tr.el brk.el p c).toNat) (by omega))) ?_
          refine d1 9 rfl (by kernel_rfl) rfl rfl (q_loads (cs := enc (nth tr.el ((moveP tr.el brk.el p c).toNat))) ag42 z42 rfl rfl (fun w hw => Sl.OK.cells (hw.get_fz (t := 100) rfl) (i := (moveP tr.el brk.el p c).toNat) (by omega))) ?_
          refine dx 10 rfl (by kernel_rfl) rfl rfl (want_none rfl) (e_alloc zz42) (fun _ => (.cons rfl (.cons rfl (.cons rfl (.cons rfl (.cons rfl (.cons rfl (.cons rfl (.cons rfl (.nil)))))))))) (fun g2 _ => ?_)
          refine dxln 11 rfl (by kernel_rfl) rfl (by kernel_rfl) (by kernel_rfl) (e_store (tg := 10) (news := enc (nth tr.el ((moveP tr.el brk.el p c).toNat))) rfl rfl rfl rfl z42 rfl rfl (.cons (.cons (.cons (.cons (.cons (.cons (.cons (.cons (.nil _)))))))))) (fun _ _ => ?_)
          refine r_seq ?_
          refine r_region ?_
          refine s1 rfl (q_fieldAddr of42_1 rfl rfl) ?_
          refine s1 rfl (q_load ag9 rfl (fun w hw => hw.box (tg := 10) rfl rfl)) ?_
          refine s1 rfl (q_fieldAddr of42_2 rfl rfl) ?_
          refine s1 rfl (q_load ag9 rfl (fun w hw => hw.box (tg := 10) rfl rfl)) ?_
          refine s1 rfl (q_fieldAddr of42_3 rfl rfl) ?_
          refine s1 rfl (q_load ag3 rfl (fun w hw => hw.box (tg := 10) rfl rfl)) ?_
          refine s1 rfl (q_build (cs := [.string ((nth tr.el ((moveP tr.el brk.el p c).toNat)).mod), .string ((nth tr.el ((moveP tr.el brk.el p c).toNat)).fn), .int .i64 ((nth tr.el ((moveP tr.el brk.el p c).toNat)).line)]) (.cons rfl (.cons rfl (.cons rfl (.nil)))) (by kernel_rfl)) ?_
          refine sx rfl (e_call en33 (.cons rfl (.nil)) ((fun w hw => c33 (⟨(nth tr.el ((moveP tr.el brk.el p c).toNat)).mod, (nth tr.el ((moveP tr.el brk.el p c).toNat)).fn, (nth tr.el ((moveP tr.el brk.el p c).toNat)).line⟩ : PlcM) w (ev_plc_ok (hw.get_fz (t := 100) rfl) (by omega)) (hw.get_fz (t := 199) rfl) (by exact hs _ (nth_mem (i := (moveP tr.el brk.el p c).toNat) (by omega)))))) (fun _ _ => ?_)
          refine s1 rfl (q_assign rfl) ?_
          refine o_end ?_
          refine r_ret Tryz.func11 (res1 Tryz.results11 (res_tmp (s := 4) rfl)) (fun w hw => ?_)
          have hr := do_a (l := tr.el) (brk := brk.el) (p := p) (c := c) (by assumption)
          exact ⟨brk, by rw [hr], by rw [hr]; (try dsimp only); unfold moveT; rw [if_neg (by assumption), if_neg (by assumption)]; rfl, by rw [hr]; exact sep_same hw rfl⟩
    · refine r_skip ?_
      refine r_seq ?_
      refine r_region ?_
      refine s1 rfl (q_move rfl) ?_
      refine sx rfl (e_callx en34 (.cons rfl (.cons rfl (.cons rfl (.nil)))) ((fun w hw => c34 (cut2 c) w (by omega) (hw.get_fz (t := 199) rfl) 87)) (fun _ => nofz (fun _ h => by cases h))) (fun ⟨a3, c4⟩ _ => ?_)
      refine s1 rfl (q_assign rfl) ?_
      refine o_end ?_
      refine r_seq ?_
      refine r_block ?_
      refine r_seq ?_
      refine r_region ?_
      refine s1 rfl (q_move rfl) ?_
      refine s1 rfl (q_seql rfl rfl) ?_
      refine s1 rfl (q_assign rfl) ?_
      refine o_end ?_
      refine r_if rfl (fun hp4 => ?_) (fun hp4 => ?_)
      · refine r_seq ?_
        refine r_region ?_
        refine s1 rfl (q_move rfl) ?_
        refine s1 rfl (q_nil rfl) ?_
        refine s1 rfl (q_fieldAddr of37_2 rfl rfl) ?_
        refine sxn (e_store (tg := 50) (news := [.slice none 0 0]) rfl rfl rfl rfl z35 rfl rfl (.skip (.skip (.cons (.nil _))))) (fun _ _ => ?_)
        refine o_end ?_
        refine r_seq ?_
        refine r_region ?_
        refine s1 rfl (q_assign rfl) ?_
        refine o_end ?_
        refine r_ret Tryz.func11 (res1 Tryz.results11 (res_tmp (s := 4) rfl)) (fun w hw => ?_)
        have hnm : ¬ motOk c = true := by rw [hp1]; simp
        have hr := do_b (l := tr.el) (brk := brk.el) (p := p) (c := c) hnm hp4
        exact ⟨⟨none, 0, []⟩, by rw [hr], by rw [hr]; rfl, by rw [hr]; exact sep_nil hw rfl⟩
      · refine r_seq ?_
        refine r_region ?_
        refine s1 rfl (q_move rfl) ?_
        refine s1 rfl (q_seql rfl rfl) ?_
        refine s1 rfl (q_assign rfl) ?_
        refine o_end ?_
        refine r_if rfl (fun hp5 => ?_) (fun hp5 => ?_)
        · refine r_seq ?_
          refine r_region ?_
          refine sx rfl (e_alloc zz23) (fun g5 _ => ?_)
          refine o_end ?_
          refine r_seq ?_
          refine r_seq ?_
          refine r_draw [(100, .fz (fun w => ok w tr)), (101, .fz (fun w => ok w brk)), (199, .fz (fun w => Tabs w)), (50, .box g [.slice tr.addr tr.el.length tr.cap, .int .i64 p, .slice brk.addr brk.el.length brk.cap] 37), (36, .fn (fun w => MapIs w q1.1 (motEs q1.2.1 q1.2.2.1) 7)), (1036, .fn (fun w => CellIs w q1.2.1 (.int .i64 (depthP tr.el p)))), (2036, .fn (fun w => CellIs w q1.2.2.1 (.slice brk.addr brk.el.length brk.cap))), (8, .box q1.2.2.2 [.int .i64 (motSt c), motFn q1.2.1 q1.2.2.1 c] 77), (87, .row 9 1 a3 ((split4 (cut2 c)).length) c4 (encs (split4 (cut2 c)))), (12, .box g5 [.slice none 0 0] 23)] (by kernel_rfl) rfl (.cons rfl (.cons rfl (.cons rfl (.cons rfl (.cons rfl (.cons rfl (.cons rfl (.cons rfl (.cons rfl (.cons rfl (.nil))))))))))) ?_
          refine d1 0 rfl (by kernel_rfl) rfl rfl (q_move rfl) ?_
          refine d1 1 rfl (by kernel_rfl) rfl rfl (q_nil rfl) ?_
          refine d1 2 rfl (by kernel_rfl) rfl rfl (q_fieldAddr of37_0 rfl rfl) ?_
          refine d1 3 rfl (by kernel_rfl) rfl rfl (q_load ag22 rfl (fun w hw => hw.box (tg := 50) rfl rfl)) ?_
          refine d1 4 rfl (by kernel_rfl) rfl rfl (q_move rfl) ?_
          refine d1 5 rfl (by kernel_rfl) rfl rfl (q_nil rfl) ?_
          refine d1 6 rfl (by kernel_rfl) rfl rfl (q_fieldAddr of37_1 rfl rfl) ?_
          refine d1 7 rfl (by kernel_rfl) rfl rfl (q_load ag3 rfl (fun w hw => hw.box (tg := 50) rfl rfl)) ?_
          refine dx 8 rfl (by kernel_rfl) rfl rfl (want_none rfl) (e_callx en37 (.cons rfl (.cons rfl (.nil))) ((fun w hw => c37 tr p w (hw.get_fz (t := 100) rfl) hv (by omega) 105)) (fun _ => nofz (fun _ h => by cases h))) (fun _ => (.cons rfl (.cons rfl (.cons rfl (.cons rfl (.cons rfl (.cons rfl (.cons rfl (.cons rfl (.cons rfl (.cons rfl (.nil)))))))))))) (fun ⟨a6, c7⟩ _ => ?_)
          refine AnyE.more (S' := [(100, .fz (fun w => ok w tr)), (101, .fz (fun w => ok w brk)), (199, .fz (fun w => Tabs w)), (50, .box g [.slice tr.addr tr.el.length tr.cap, .int .i64 p, .slice brk.addr brk.el.length brk.cap] 37), (36, .fn (fun w => MapIs w q1.1 (motEs q1.2.1 q1.2.2.1) 7)), (1036, .fn (fun w => CellIs w q1.2.1 (.int .i64 (depthP tr.el p)))), (2036, .fn (fun w => CellIs w q1.2.2.1 (.slice brk.addr brk.el.length brk.cap))), (8, .box q1.2.2.2 [.int .i64 (motSt c), motFn q1.2.1 q1.2.2.1 c] 77), (87, .row 9 1 a3 ((split4 (cut2 c)).length) c4 (encs (split4 (cut2 c)))), (12, .box g5 [.slice none 0 0] 23), (105, .row 104 4 a6 ((activeP tr.el p).length) c7 (encs (activeP tr.el p)))]) (.cons rfl (.cons rfl (.cons rfl (.cons rfl (.cons rfl (.cons rfl (.cons rfl (.cons rfl (.cons rfl (.cons rfl (.nil))))))))))) (.cons rfl (.cons rfl (.cons rfl (.cons rfl (.cons rfl (.cons rfl (.cons rfl (.cons rfl (.cons rfl (.cons rfl (.cons rfl (.nil)))))))))))) ?_
          refine dx 9 rfl (by kernel_rfl) rfl rfl (want_none rfl) (e_callx en36 (.cons rfl (.nil)) ((fun w hw => c36 (⟨a6, c7, activeP tr.el p⟩ : Sl ActM) w (ok_row (hw.row (tg := 105) rfl) (by first | omega | (simp only [by_]; omega)) (act_ok (hw.get_fz (t := 100) rfl) (by omega))) (by dsimp only; omega) 106)) (fun _ => nofz (fun _ h => by cases h))) (fun _ => (.cons rfl (.cons rfl (.cons rfl (.cons rfl (.cons rfl (.cons rfl (.cons rfl (.cons rfl (.cons rfl (.cons rfl (.cons rfl (.nil))))))))))))) (fun ⟨a8, c9⟩ _ => ?_)
          refine AnyE.more (S' := [(100, .fz (fun w => ok w tr)), (101, .fz (fun w => ok w brk)), (199, .fz (fun w => Tabs w)), (50, .box g [.slice tr.addr tr.el.length tr.cap, .int .i64 p, .slice brk.addr brk.el.length brk.cap] 37), (36, .fn (fun w => MapIs w q1.1 (motEs q1.2.1 q1.2.2.1) 7)), (1036, .fn (fun w => CellIs w q1.2.1 (.int .i64 (depthP tr.el p)))), (2036, .fn (fun w => CellIs w q1.2.2.1 (.slice brk.addr brk.el.length brk.cap))), (8, .box q1.2.2.2 [.int .i64 (motSt c), motFn q1.2.1 q1.2.2.1 c] 77), (87, .row 9 1 a3 ((split4 (cut2 c)).length) c4 (encs (split4 (cut2 c)))), (12, .box g5 [.slice none 0 0] 23), (105, .row 104 4 a6 ((activeP tr.el p).length) c7 (encs (activeP tr.el p))), (106, .row 54 3 a8 ((plcs (activeP tr.el p)).length) c9 (encs (plcs (activeP tr.el p))))]) (.cons rfl (.cons rfl (.cons rfl (.cons rfl (.cons rfl (.cons rfl (.cons rfl (.cons rfl (.cons rfl (.cons rfl (.cons rfl (.nil)))))))))))) (.cons rfl (.cons rfl (.cons rfl (.cons rfl (.cons rfl (.cons rfl (.cons rfl (.cons rfl (.cons rfl (.cons rfl (.cons rfl (.cons rfl (.nil))))))))))))) ?_
          refine dx 10 rfl (by kernel_rfl) rfl rfl (want_none rfl) (e_callx en35 (.cons rfl (.nil)) ((fun w hw => c35 (⟨a8, c9, plcs (activeP tr.el p)⟩ : Sl PlcM) w 107)) (fun _ => nofz (fun _ h => by cases h))) (fun _ => (.cons rfl (.cons rfl (.cons rfl (.cons rfl (.cons rfl (.cons rfl (.cons rfl (.cons rfl (.cons rfl (.cons rfl (.cons rfl (.cons rfl (.nil)))))))))))))) (fun g10 _ => ?_)
          refine d_end (by kernel_rfl) ?_
          refine r_block ?_
          refine r_where (ps := plcs (activeP tr.el p)) rfl rfl rfl rfl rfl rfl rfl rfl hps (by omega) ?_ ?_ (fun D A cc => ?_)
          · intro K1 w1 q A c L Q m l a1 W1 hQ ha1 hw1
            refine region_in (C := ⟨Tryz.prog, 11, 158, K1, w1, fun _ _ => True, []⟩) (noDef_list rfl) ?_ ha1 hw1
            refine sx rfl (e_alloc zz54) (fun g1 _ => ?_)
            refine sxn (e_store (tg := 14) (news := enc q) rfl rfl rfl rfl z54 rfl rfl (.cons (.cons (.cons (.nil _))))) (fun _ _ => ?_)
            refine o_endq ?_
            exact fun a2 W2 ha2 hw2 => hQ a2 W2 g1 (ha2.sub (.cons rfl (.cons rfl .nil))) (hw2.sub (.cons rfl (.cons rfl (.cons rfl .nil))))
          · intro K1 w1 q hq A c L hL gx Q m l a1 W1 hQ ha1 hw1
            refine wpIn_block ?_
            refine wpIn_mono (draw_in (C := ⟨Tryz.prog, 11, 158, K1, w1, fun _ _ => True, []⟩) (q := Q) [(12, .box g5 [.slice A L.length c] 23), (100, .fz (fun w => BoxIs w gx q)), (199, .fz (fun w => Tabs w))] (by kernel_rfl) rfl (.cons rfl (.cons rfl (.cons rfl (.nil)))) (noDef_ops rfl) ?_ ha1 hw1) (fun ex a2 W2 h => by obtain ⟨rfl, h⟩ := h; exact ⟨rfl, h⟩)
            refine d1 0 rfl (by kernel_rfl) rfl rfl (q_load ag23 rfl (fun w hw => hw.box (tg := 12) rfl rfl)) ?_
            refine d1 1 rfl (by kernel_rfl) rfl rfl (q_loads (cs := enc q) ag54 z54 rfl rfl (fun w hw => (hw.get_fz (t := 100) rfl))) ?_
            refine dx 2 rfl (by kernel_rfl) rfl rfl (want_none rfl) (e_call en33 (.cons rfl (.nil)) ((fun w hw => c33 q w (hq.ok _) (hw.get_fz (t := 199) rfl) (by exact ⟨hq.mod, hq.fn⟩)))) (fun _ => (.cons rfl (.cons rfl (.cons rfl (.nil))))) (fun _ _ => ?_)
            refine dx 3 rfl (by kernel_rfl) rfl rfl (want_none rfl) (e_bslice (cs := encs ([placeB q] : List ByteArray)) Tryz.underlying23 zi9 (.cons rfl (.nil)) (by kernel_rfl) rfl rfl rfl) (fun _ => (.cons rfl (.cons rfl (.cons rfl (.nil))))) (fun g1 _ => ?_)
            refine AnyE.more (S' := [(12, .box g5 [.slice A L.length c] 23), (100, .fz (fun w => BoxIs w gx q)), (199, .fz (fun w => Tabs w)), (113, .row 9 1 (some ⟨g1, 0, none⟩) (([placeB q] : List ByteArray).length) 1 (encs ([placeB q] : List ByteArray)))]) (.cons rfl (.cons rfl (.cons rfl (.nil)))) (.cons rfl (.cons rfl (.cons rfl (.cons rfl (.nil))))) ?_
            refine dx 4 rfl (by kernel_rfl) rfl rfl (want_none rfl) (e_appendL (tg := 500) (l := L) (l' := ([placeB q] : List ByteArray)) Tryz.underlying23 in9 rfl rfl rfl rfl rfl rfl rfl (fun w hw => Shows.row (hw.row (tg := 113) rfl)) (by simp only [List.length_cons, List.length_nil]; omega)) (fun _ => (.cons rfl (.cons rfl (.cons rfl (.cons rfl (.nil)))))) (fun ⟨a2, c3⟩ _ => ?_)
            refine dxlnq 5 rfl (by kernel_rfl) rfl (by kernel_rfl) (by kernel_rfl) (e_store (tg := 12) (news := [.slice a2 ((L ++ ([placeB q] : List ByteArray)).length) c3]) rfl rfl rfl rfl z23 rfl rfl (.cons (.nil _))) (fun _ _ a2 W2 ha2 hw2 => ?_)
            exact hQ a2 W2 _ _ (hw2.sub (.cons rfl (.cons rfl .nil)))
          have hwl : (whereL (plcs (activeP tr.el p))).length = (plcs (activeP tr.el p)).length := by simp [whereL]
          refine r_inBlock ?_
          refine r_seq ?_
          refine r_seq ?_
          refine r_region ?_
          refine s1 rfl (q_load ag23 rfl (fun w hw => hw.box (tg := 12) rfl rfl)) ?_
          refine s1 rfl (q_len Tryz.underlying23 rfl) ?_
          refine s1 rfl (q_eql rfl rfl) ?_
          refine o_end ?_
          refine r_if rfl (fun hp6 => ?_) (fun hp6 => ?_)
          · refine r_seq ?_
            refine r_region ?_
            refine s1 rfl (q_assign rfl) ?_
            refine o_end ?_
            refine r_retD (T := 900) Tryz.func11 rfl rfl (res1 Tryz.results11 (res_tmp (s := 4) rfl)) (fun w hw => ?_)
            have hnm : ¬ motOk c = true := by rw [hp1]; simp
            have hr := do_c (l := tr.el) (brk := brk.el) (p := p) (c := c) hnm hp4 hp5
            exact ⟨brk, by rw [hr], by rw [hr]; (try dsimp only); unfold whereP; rw [if_pos hp6]; (try rfl), by rw [hr]; exact sep_same hw rfl⟩
          · refine r_skip ?_
            refine r_seq ?_
            refine r_region ?_
            refine s1 rfl (q_load ag23 rfl (fun w hw => hw.box (tg := 12) rfl rfl)) ?_
            refine sx rfl (e_call en38 (.cons rfl (.cons rfl (.nil))) ((fun w hw => c38 (⟨A, cc, whereL (plcs (activeP tr.el p))⟩ : Sl ByteArray) sSemi w (ok_row (hw.row (tg := 500) rfl) (by first | omega | (simp only [by_]; omega)) (fun x hx => by have := whereL_size hps x hx; simp only [ok]; omega)) (by dsimp only; omega) (row_spot (hw.row (tg := 500) rfl)) (where_size hps (by omega))))) (fun _ _ => ?_)
            refine s1 rfl (q_assign rfl) ?_
            refine o_end ?_
            refine r_retD (T := 900) Tryz.func11 rfl rfl (res1 Tryz.results11 (res_tmp (s := 4) rfl)) (fun w hw => ?_)
            have hnm : ¬ motOk c = true := by rw [hp1]; simp
            have hr := do_c (l := tr.el) (brk := brk.el) (p := p) (c := c) hnm hp4 hp5
            exact ⟨brk, by rw [hr], by rw [hr]; (try dsimp only); unfold whereP; rw [if_neg hp6]; (try rfl), by rw [hr]; exact sep_same hw rfl⟩
        · refine r_seq ?_
          refine r_cut [(0, .pointer (some ⟨g, 0, none⟩)), (1, .string c), (6, .string (cut2 c)), (11, .slice a3 ((split4 (cut2 c)).length) c4), (120, .bool (decide (((cut1 c) = sBreak) ∧ (((((split4 (cut2 c)).length : Nat) : Int) = (2 : Int)) ∨ ((((split4 (cut2 c)).length : Nat) : Int) = (4 : Int))))))] [(100, .fz (fun w => ok w tr)), (101, .fz (fun w => ok w brk)), (199, .fz (fun w => Tabs w)), (50, .box g [.slice tr.addr tr.el.length tr.cap, .int .i64 p, .slice brk.addr brk.el.length brk.cap] 37), (36, .fn (fun w => MapIs w q1.1 (motEs q1.2.1 q1.2.2.1) 7)), (1036, .fn (fun w => CellIs w q1.2.1 (.int .i64 (depthP tr.el p)))), (2036, .fn (fun w => CellIs w q1.2.2.1 (.slice brk.addr brk.el.length brk.cap))), (8, .box q1.2.2.2 [.int .i64 (motSt c), motFn q1.2.1 q1.2.2.1 c] 77), (87, .row 9 1 a3 ((split4 (cut2 c)).length) c4 (encs (split4 (cut2 c))))] ?_ (fun key => ?_)
          · refine r_if rfl (fun hp7 => ?_) (fun hp7 => ?_)
            · refine r_seq ?_
              refine r_region ?_
              refine s1 rfl (q_move rfl) ?_
              refine s1 rfl (q_move rfl) ?_
              refine sx rfl (e_callm (ts := [50]) (us := [50, 51]) en39 (Or.inl ⟨rfl, rfl⟩) (.cons rfl (.cons rfl (.nil))) (.cons (t := 50) (t0 := 50) rfl rfl .nil) rfl (fun w hw => .cons (t := 100) (hw.bears_fz (t := 101) rfl) (.cons (t := 101) (hw.bears_row (t := 87) rfl rfl (by simp only [by_]; omega) (Bears.pure (fun w x hx => by have := split4_size _ x hx; simp only [ok]; omega))) (.cons (t := 199) (hw.bears_fz (t := 199) rfl) .nil))) (fun w hw => c39 g tr p brk (⟨a3, c4, split4 (cut2 c)⟩ : Sl ByteArray) w hbl hbs (fun q hq => by have := split4_size _ q hq; omega) (by dsimp only; omega)) (fun x => .cons (t := 50) (t0 := 50) rfl rfl (.cons (t := 51) (t0 := 51) rfl rfl .nil)) (fun x t ht => by simp only [List.mem_cons, List.not_mem_nil, or_false] at ht; subst ht; simp [Hp.get]) (fun x => rfl)) (fun x11 hg12 => ?_)
              refine s1 rfl (q_assign rfl) ?_
              refine o_end ?_
              refine r_ret Tryz.func11 (res1 Tryz.results11 (res_tmp (s := 4) rfl)) (fun w hw => ?_)
              have hnm : ¬ motOk c = true := by rw [hp1]; simp
              have hr := do_d (l := tr.el) (brk := brk.el) (p := p) (c := c) hnm hp4 hp5 hp7
              exact ⟨x11, by rw [hr]; exact hg12, by rw [hr], by rw [hr]; exact hw.sub (.cons rfl (.cons rfl .nil))⟩
            · refine r_seq ?_
              refine r_region ?_
              refine s1 rfl (q_move rfl) ?_
              refine sx rfl (e_call en40 (.cons rfl (.cons rfl (.nil))) ((fun w hw => c40 c sShow w))) (fun _ _ => ?_)
              refine s1 rfl (q_assign rfl) ?_
              refine o_end ?_
              refine r_ifb rfl (fun hp8 => ?_) (fun hp8 => ?_)
              · refine r_seq ?_
                refine r_seq ?_
                refine r_draw [(100, .fz (fun w => ok w tr)), (101, .fz (fun w => ok w brk)), (199, .fz (fun w => Tabs w)), (50, .box g [.slice tr.addr tr.el.length tr.cap, .int .i64 p, .slice brk.addr brk.el.length brk.cap] 37), (36, .fn (fun w => MapIs w q1.1 (motEs q1.2.1 q1.2.2.1) 7)), (1036, .fn (fun w => CellIs w q1.2.1 (.int .i64 (depthP tr.el p)))), (2036, .fn (fun w => CellIs w q1.2.2.1 (.slice brk.addr brk.el.length brk.cap))), (8, .box q1.2.2.2 [.int .i64 (motSt c), motFn q1.2.1 q1.2.2.1 c] 77), (87, .row 9 1 a3 ((split4 (cut2 c)).length) c4 (encs (split4 (cut2 c))))] (by kernel_rfl) rfl (.cons rfl (.cons rfl (.cons rfl (.cons rfl (.cons rfl (.cons rfl (.cons rfl (.cons rfl (.cons rfl (.nil)))))))))) ?_
                refine d1 0 rfl (by kernel_rfl) rfl rfl (q_move rfl) ?_
                refine d1 1 rfl (by kernel_rfl) rfl rfl (q_nil rfl) ?_
                refine d1 2 rfl (by kernel_rfl) rfl rfl (q_fieldAddr of37_0 rfl rfl) ?_
                refine d1 3 rfl (by kernel_rfl) rfl rfl (q_load ag22 rfl (fun w hw => hw.box (tg := 50) rfl rfl)) ?_
                refine d1 4 rfl (by kernel_rfl) rfl rfl (q_move rfl) ?_
                refine d1 5 rfl (by kernel_rfl) rfl rfl (q_nil rfl) ?_
                refine d1 6 rfl (by kernel_rfl) rfl rfl (q_fieldAddr of37_1 rfl rfl) ?_
                refine d1 7 rfl (by kernel_rfl) rfl rfl (q_load ag3 rfl (fun w hw => hw.box (tg := 50) rfl rfl)) ?_
                refine d1 8 rfl (by kernel_rfl) rfl rfl (q_move rfl) ?_
                refine dx 9 rfl (by kernel_rfl) rfl rfl (want_none rfl) (e_call en41 (.cons rfl (.cons rfl (.cons rfl (.nil)))) ((fun w hw => c41 tr p (cut2 c) w (hw.get_fz (t := 100) rfl) hv (by omega)))) (fun _ => (.cons rfl (.cons rfl (.cons rfl (.cons rfl (.cons rfl (.cons rfl (.cons rfl (.cons rfl (.cons rfl (.nil))))))))))) (fun _ _ => ?_)
                refine d1 10 rfl (by kernel_rfl) rfl rfl (q_move rfl) ?_
                refine d1 11 rfl (by kernel_rfl) rfl rfl (q_extract rfl rfl) ?_
                refine d1 12 rfl (by kernel_rfl) rfl rfl (q_extract rfl rfl) ?_
                refine d1 13 rfl (by kernel_rfl) rfl rfl (q_assign rfl) ?_
                refine d1 14 rfl (by kernel_rfl) rfl rfl (q_assign rfl) ?_
                refine d_end (by kernel_rfl) ?_
                refine r_seq ?_
                refine r_cut [(15, .string ((showP tr.el p (cut2 c)).1)), (156, .bool (decide (((showP tr.el p (cut2 c)).2 = true) ∧ (isNameB (cut2 c) = true))))] [(100, .fz (fun w => ok w tr)), (101, .fz (fun w => ok w brk)), (199, .fz (fun w => Tabs w)), (50, .box g [.slice tr.addr tr.el.length tr.cap, .int .i64 p, .slice brk.addr brk.el.length brk.cap] 37), (36, .fn (fun w => MapIs w q1.1 (motEs q1.2.1 q1.2.2.1) 7)), (1036, .fn (fun w => CellIs w q1.2.1 (.int .i64 (depthP tr.el p)))), (2036, .fn (fun w => CellIs w q1.2.2.1 (.slice brk.addr brk.el.length brk.cap))), (8, .box q1.2.2.2 [.int .i64 (motSt c), motFn q1.2.1 q1.2.2.1 c] 77), (87, .row 9 1 a3 ((split4 (cut2 c)).length) c4 (encs (split4 (cut2 c))))] ?_ (fun key => ?_)
                · refine r_if rfl (fun hp9 => ?_) (fun hp9 => ?_)
                  · refine r_seq ?_
                    refine r_region ?_
                    refine s1 rfl (q_move rfl) ?_
                    refine s1 rfl (q_assign rfl) ?_
                    refine o_end ?_
                    refine r_ret Tryz.func11 (res1 Tryz.results11 (res_tmp (s := 4) rfl)) (fun w hw => ?_)
                    have hnm : ¬ motOk c = true := by rw [hp1]; simp
                    have hr := do_e (l := tr.el) (brk := brk.el) (p := p) (c := c) hnm hp4 hp5 hp7 hp8
                    exact ⟨brk, by rw [hr], by rw [hr]; (try dsimp only); unfold showT; rw [if_pos hp9]; (try rfl), by rw [hr]; exact sep_same hw rfl⟩
                  · refine r_skip ?_
                    refine r_seq ?_
                    refine r_region ?_
                    refine s1 rfl (q_assign rfl) ?_
                    refine o_end ?_
                    refine r_ret Tryz.func11 (res1 Tryz.results11 (res_tmp (s := 4) rfl)) (fun w hw => ?_)
                    have hnm : ¬ motOk c = true := by rw [hp1]; simp
                    have hr := do_e (l := tr.el) (brk := brk.el) (p := p) (c := c) hnm hp4 hp5 hp7 hp8
                    exact ⟨brk, by rw [hr], by rw [hr]; (try dsimp only); unfold showT; rw [if_neg hp9]; (try rfl), by rw [hr]; exact sep_same hw rfl⟩
                · refine r_region ?_
                  refine s1 rfl (q_move rfl) ?_
                  refine s1 rfl (q_move rfl) ?_
                  refine g_splitb (s := 153) rfl (fun hp10 => ?_) (fun hp10 => ?_)
                  · refine g_on rfl rfl ?_
                    refine s1 rfl (q_move rfl) ?_
                    refine g_on rfl rfl ?_
                    refine sx rfl (e_call en42 (.cons rfl (.nil)) ((fun w hw => c42 (cut2 c) w (by omega)))) (fun _ _ => ?_)
                    refine s1 rfl (q_pickt rfl rfl) ?_
                    refine o_end ?_
                    exact key.weaken (.cons rfl (.consE rfl (congrArg Value.bool (by first | (simp only [hp10, eq_self, sBreak, ne_eq, not_true_eq_false, not_false_eq_true, true_or, or_true, false_or, or_false, true_and, and_true, false_and, and_false, Bool.decide_eq_true] <;> first | exact nb_dec _ | exact b_dec _ | (simp; done)) | exact nb_dec _ | exact b_dec _ | (simp; done) | (exfalso; omega))) (.nil))) (.cons rfl (.cons rfl (.cons rfl (.cons rfl (.cons rfl (.cons rfl (.cons rfl (.cons rfl (.cons rfl (.nil))))))))))
                  · refine g_off rfl rfl rfl ?_
                    refine g_off rfl rfl rfl ?_
                    refine s1 rfl (q_pickf rfl rfl) ?_
                    refine o_end ?_
                    exact key.weaken (.cons rfl (.consE rfl (congrArg Value.bool (decide_eq_false (fun h => (Bool.eq_false_iff.1 hp10) h.1)).symm) (.nil))) (.cons rfl (.cons rfl (.cons rfl (.cons rfl (.cons rfl (.cons rfl (.cons rfl (.cons rfl (.cons rfl (.nil))))))))))
              · refine r_skip ?_
                refine r_inBlock ?_
                refine r_seq ?_
                refine r_region ?_
                refine s1 rfl (q_assign rfl) ?_
                refine o_end ?_
                refine r_ret Tryz.func11 (res1 Tryz.results11 (res_tmp (s := 4) rfl)) (fun w hw => ?_)
                have hnm : ¬ motOk c = true := by rw [hp1]; simp
                have hr := do_f (l := tr.el) (brk := brk.el) (p := p) (c := c) hnm hp4 hp5 hp7 (fun e => by rw [show isShow c = false from hp8] at e; cases e)
                exact ⟨brk, by rw [hr], by rw [hr]; rfl, by rw [hr]; exact sep_same hw rfl⟩
          · refine r_region ?_
            refine s1 rfl (q_move rfl) ?_
            refine s1 rfl (q_seql rfl rfl) ?_
            refine s1 rfl (q_move rfl) ?_
            refine g_split (s := 123) rfl (fun hp11 => ?_) (fun hp11 => ?_)
            · refine g_on rfl rfl ?_
              refine s1 rfl (q_move rfl) ?_
              refine g_on rfl rfl ?_
              refine s1 rfl (q_len Tryz.underlying23 rfl) ?_
              refine g_on rfl rfl ?_
              refine s1 rfl (q_eql rfl rfl) ?_
              refine g_on rfl rfl ?_
              refine s1 rfl (q_move rfl) ?_
              refine g_split (s := 127) rfl (fun hp12 => ?_) (fun hp12 => ?_)
              · refine g_off rfl rfl rfl ?_
                refine g_off rfl rfl rfl ?_
                refine g_off rfl rfl rfl ?_
                refine g_on rfl rfl ?_
                refine s1 rfl (q_pickt rfl rfl) ?_
                refine s1 rfl (q_pickt rfl rfl) ?_
                refine s1 rfl (q_assign rfl) ?_
                refine o_end ?_
                exact key.weaken (.cons rfl (.cons rfl (.cons rfl (.cons rfl (.consE rfl (congrArg Value.bool (decide_eq_true ⟨hp11, (Or.inl hp12)⟩).symm) (.nil)))))) (.cons rfl (.cons rfl (.cons rfl (.cons rfl (.cons rfl (.cons rfl (.cons rfl (.cons rfl (.cons rfl (.nil))))))))))
              · refine g_on rfl rfl ?_
                refine s1 rfl (q_move rfl) ?_
                refine g_on rfl rfl ?_
                refine s1 rfl (q_len Tryz.underlying23 rfl) ?_
                refine g_on rfl rfl ?_
                refine s1 rfl (q_eql rfl rfl) ?_
                refine g_on rfl rfl ?_
                refine s1 rfl (q_pickf rfl rfl) ?_
                refine s1 rfl (q_pickt rfl rfl) ?_
                refine s1 rfl (q_assign rfl) ?_
                refine o_end ?_
                exact key.weaken (.cons rfl (.cons rfl (.cons rfl (.cons rfl (.consE rfl (congrArg Value.bool (by first | (simp only [hp11, hp12, eq_self, sBreak, ne_eq, not_true_eq_false, not_false_eq_true, true_or, or_true, false_or, or_false, true_and, and_true, false_and, and_false, Bool.decide_eq_true] <;> first | exact nb_dec _ | exact b_dec _ | (simp; done)) | exact nb_dec _ | exact b_dec _ | (simp; done) | (exfalso; omega))) (.nil)))))) (.cons rfl (.cons rfl (.cons rfl (.cons rfl (.cons rfl (.cons rfl (.cons rfl (.cons rfl (.cons rfl (.nil))))))))))
            · refine g_off rfl rfl rfl ?_
              iterate 3 refine g_off rfl rfl rfl ?_
              iterate 3 refine g_offu rfl rfl rfl ?_
              refine g_off rfl rfl rfl ?_
              refine s1 rfl (q_pickf rfl rfl) ?_
              refine s1 rfl (q_assign rfl) ?_
              refine o_end ?_
              exact key.weaken (.cons rfl (.cons rfl (.cons rfl (.cons rfl (.consE rfl (congrArg Value.bool (decide_eq_false (fun h => hp11 h.1)).symm) (.nil)))))) (.cons rfl (.cons rfl (.cons rfl (.cons rfl (.cons rfl (.cons rfl (.cons rfl (.cons rfl (.cons rfl (.nil))))))))))
  · refine r_draw [(100, .fz (fun w => ok w tr)), (101, .fz (fun w => ok w brk)), (199, .fz (fun w => Tabs w)), (50, .box g [.slice tr.addr tr.el.length tr.cap, .int .i64 p, .slice brk.addr brk.el.length brk.cap] 37)] (by kernel_rfl) rfl (.cons rfl (.cons rfl (.cons rfl (.cons rfl (.nil))))) ?_
    refine d1 0 rfl (by kernel_rfl) rfl rfl (q_move rfl) ?_
    refine d1 1 rfl (by kernel_rfl) rfl rfl (q_nil rfl) ?_
    refine d1 2 rfl (by kernel_rfl) rfl rfl (q_fieldAddr of37_0 rfl rfl) ?_
    refine d1 3 rfl (by kernel_rfl) rfl rfl (q_load ag22 rfl (fun w hw => hw.box (tg := 50) rfl rfl)) ?_
    refine d1 4 rfl (by kernel_rfl) rfl rfl (q_move rfl) ?_
    refine d1 5 rfl (by kernel_rfl) rfl rfl (q_nil rfl) ?_
    refine d1 6 rfl (by kernel_rfl) rfl rfl (q_fieldAddr of37_2 rfl rfl) ?_
    refine d1 7 rfl (by kernel_rfl) rfl rfl (q_load ag35 rfl (fun w hw => hw.box (tg := 50) rfl rfl)) ?_
    refine d1 8 rfl (by kernel_rfl) rfl rfl (q_move rfl) ?_
    refine d1 9 rfl (by kernel_rfl) rfl rfl (q_nil rfl) ?_
    refine d1 10 rfl (by kernel_rfl) rfl rfl (q_fieldAddr of37_1 rfl rfl) ?_
    refine d1 11 rfl (by kernel_rfl) rfl rfl (q_load ag3 rfl (fun w hw => hw.box (tg := 50) rfl rfl)) ?_
    refine d1 13 rfl (by kernel_rfl) rfl rfl (q_move rfl) ?_
    refine AnyE.two (i := 12) (j := 18) (by kernel_rfl) ?_ ?_
    · refine da rfl rfl rfl (want_none rfl) (e_callx en31 (.cons rfl (.cons rfl (.cons rfl (.nil)))) (fun w hw => c31 tr brk p w (hw.get_fz (t := 100) rfl) (by omega) 36 1036 2036) (fun _ => nofz3)) (fun _ => (.cons rfl (.cons rfl (.cons rfl (.cons rfl (.nil)))))) (fun ⟨g13, g14, g15⟩ _ => ?_)
      refine AnyE.more (S' := [(100, .fz (fun w => ok w tr)), (101, .fz (fun w => ok w brk)), (199, .fz (fun w => Tabs w)), (50, .box g [.slice tr.addr tr.el.length tr.cap, .int .i64 p, .slice brk.addr brk.el.length brk.cap] 37), (36, .fn (fun w => MapIs w g13 (motEs g14 g15) 7)), (1036, .fn (fun w => CellIs w g14 (.int .i64 (depthP tr.el p)))), (2036, .fn (fun w => CellIs w g15 (.slice brk.addr brk.el.length brk.cap)))]) (.cons rfl (.cons rfl (.cons rfl (.cons rfl (.nil))))) (.cons rfl (.cons rfl (.cons rfl (.cons rfl (.cons rfl (.cons rfl (.cons rfl (.nil)))))))) ?_
      refine d1 14 rfl (by kernel_rfl) rfl rfl (Quiet.as (q_lookup (es := motEs g14 g15) (n := 7) Tryz.underlying79 Tryz.underlying9 zu77 rfl rfl (fun w hw => hw.get_fn (t := 36) rfl) (mot_find g14 g15 c)) (mot_look g14 g15 c)) ?_
      refine d1 15 rfl (by kernel_rfl) rfl rfl (q_move rfl) ?_
      refine d1 16 rfl (by kernel_rfl) rfl rfl (q_extract rfl rfl) ?_
      refine d1 17 rfl (by kernel_rfl) rfl rfl (q_extract rfl rfl) ?_
      refine dx 18 rfl (by kernel_rfl) rfl rfl (want_none rfl) (e_alloc zz77) (fun _ => (.cons rfl (.cons rfl (.cons rfl (.cons rfl (.cons rfl (.cons rfl (.cons rfl (.nil))))))))) (fun g16 _ => ?_)
      refine dxn 19 rfl (by kernel_rfl) rfl (want_none rfl) (e_store (tg := 8) (news := [.int .i64 (motSt c), motFn g14 g15 c]) rfl rfl rfl rfl z77 rfl (by simp [mot_one]; rfl) (.cons (.cons (.nil _)))) (fun _ => (.cons rfl (.cons rfl (.cons rfl (.cons rfl (.cons rfl (.cons rfl (.cons rfl (.nil))))))))) (fun _ _ => ?_)
      refine d1 20 rfl (by kernel_rfl) rfl rfl (q_assign rfl) ?_
      refine d_end (by kernel_rfl) ?_
      exact (key (g13, g14, g15, g16)).weaken (.cons rfl (.cons rfl (.cons rfl (.cons rfl (.cons rfl (.cons rfl (.nil))))))) (.cons rfl (.cons rfl (.cons rfl (.cons rfl (.cons rfl (.cons rfl (.cons rfl (.cons rfl (.nil)))))))))
    · refine da rfl rfl rfl (want_none rfl) (e_alloc zz77) (fun _ => (.cons rfl (.cons rfl (.cons rfl (.cons rfl (.nil)))))) (fun g17 _ => ?_)
      refine dx 12 rfl (by kernel_rfl) rfl rfl (want_none rfl) (e_callx en31 (.cons rfl (.cons rfl (.cons rfl (.nil)))) (fun w hw => c31 tr brk p w (hw.get_fz (t := 100) rfl) (by omega) 36 1036 2036) (fun _ => nofz3)) (fun _ => (.cons rfl (.cons rfl (.cons rfl (.cons rfl (.nil)))))) (fun ⟨g18, g19, g20⟩ _ => ?_)
      refine AnyE.more (S' := [(100, .fz (fun w => ok w tr)), (101, .fz (fun w => ok w brk)), (199, .fz (fun w => Tabs w)), (50, .box g [.slice tr.addr tr.el.length tr.cap, .int .i64 p, .slice brk.addr brk.el.length brk.cap] 37), (36, .fn (fun w => MapIs w g18 (motEs g19 g20) 7)), (1036, .fn (fun w => CellIs w g19 (.int .i64 (depthP tr.el p)))), (2036, .fn (fun w => CellIs w g20 (.slice brk.addr brk.el.length brk.cap)))]) (.cons rfl (.cons rfl (.cons rfl (.cons rfl (.nil))))) (.cons rfl (.cons rfl (.cons rfl (.cons rfl (.cons rfl (.cons rfl (.cons rfl (.nil)))))))) ?_
      refine d1 14 rfl (by kernel_rfl) rfl rfl (Quiet.as (q_lookup (es := motEs g19 g20) (n := 7) Tryz.underlying79 Tryz.underlying9 zu77 rfl rfl (fun w hw => hw.get_fn (t := 36) rfl) (mot_find g19 g20 c)) (mot_look g19 g20 c)) ?_
      refine d1 15 rfl (by kernel_rfl) rfl rfl (q_move rfl) ?_
      refine d1 16 rfl (by kernel_rfl) rfl rfl (q_extract rfl rfl) ?_
      refine d1 17 rfl (by kernel_rfl) rfl rfl (q_extract rfl rfl) ?_
      refine dxn 19 rfl (by kernel_rfl) rfl (want_none rfl) (e_store (tg := 8) (news := [.int .i64 (motSt c), motFn g19 g20 c]) rfl rfl rfl rfl z77 rfl (by simp [mot_one]; rfl) (.cons (.cons (.nil _)))) (fun _ => (.cons rfl (.cons rfl (.cons rfl (.cons rfl (.cons rfl (.cons rfl (.cons rfl (.nil))))))))) (fun _ _ => ?_)
      refine d1 20 rfl (by kernel_rfl) rfl rfl (q_assign rfl) ?_
      refine d_end (by kernel_rfl) ?_
      exact (key (g18, g19, g20, g17)).weaken (.cons rfl (.cons rfl (.cons rfl (.cons rfl (.cons rfl (.cons rfl (.nil))))))) (.cons rfl (.cons rfl (.cons rfl (.cons rfl (.cons rfl (.cons rfl (.cons rfl (.cons rfl (.nil)))))))))

end Go.Proofs.YtecibcjckinngaaGreatDoor
/- A session as plain functions on the data: its commands one after another. -/
set_option linter.unusedVariables false
namespace Go.Proofs.YtecibcjckinngaaGreatDoor
open Go Go.RowKit Enc
structure BrkOK (b : List BrkM) : Prop where
  len : b.length ≤ 50
  small : ∀ q ∈ b, Small q
/-- Where a session stands, and its breakpoints, ahead of command i. -/
def stP (l : List EvM) (cs : List ByteArray) : Nat → Int × List BrkM
  | 0 => (-1, [])
  | i + 1 => ((doP l (stP l cs i).2 (stP l cs i).1 (nth cs i)).2.1, (doP l (stP l cs i).2 (stP l cs i).1 (nth cs i)).2.2)
def posP (l : List EvM) (cs : List ByteArray) (i : Nat) : Int := (stP l cs i).1
def brkP (l : List EvM) (cs : List ByteArray) (i : Nat) : List BrkM := (stP l cs i).2
def answer (l : List EvM) (cs : List ByteArray) (i : Nat) : ByteArray := (doP l (brkP l cs i) (posP l cs i) (nth cs i)).1
def ansP (l : List EvM) (cs : List ByteArray) : Nat → List ByteArray
  | 0 => []
  | i + 1 => ansP l cs i ++ [answer l cs i]
theorem pos_0 (l : List EvM) (cs : List ByteArray) : posP l cs 0 = -1 := rfl
theorem brk_0 (l : List EvM) (cs : List ByteArray) : brkP l cs 0 = [] := rfl
theorem pos_next (l : List EvM) (cs : List ByteArray) (i : Nat) : posP l cs (i + 1) = (doP l (brkP l cs i) (posP l cs i) (nth cs i)).2.1 := rfl
theorem brk_next (l : List EvM) (cs : List ByteArray) (i : Nat) : brkP l cs (i + 1) = (doP l (brkP l cs i) (posP l cs i) (nth cs i)).2.2 := rfl
theorem ans_next (l : List EvM) (cs : List ByteArray) (i : Nat) : ansP l cs (i + 1) = ansP l cs i ++ [answer l cs i] := rfl
theorem ans_len (l : List EvM) (cs : List ByteArray) : ∀ i, (ansP l cs i).length = i
  | 0 => rfl
  | i + 1 => by rw [ans_next, List.length_append, ans_len l cs i]; rfl
theorem brk_len {l : List BrkM} (h : (breaksFault l).1 = 0) : l.length ≤ 50 := by
  unfold breaksFault at h
  split at h
  · simp at h
  · omega
theorem do_range {l : List EvM} {brk : List BrkM} {p : Int} {c : ByteArray} (hp : -1 ≤ p ∧ p ≤ ((l.length : Nat) : Int)) : -1 ≤ (doP l brk p c).2.1 ∧ (doP l brk p c).2.1 ≤ ((l.length : Nat) : Int) := by
  unfold doP
  split
  · rename_i h; exact moveP_range hp h
  repeat' split
  all_goals exact hp
theorem do_brk {l : List EvM} {brk : List BrkM} {p : Int} {c : ByteArray} (hb : BrkOK brk) (hc : c.size ≤ 1048576) : BrkOK (doP l brk p c).2.2 := by
  have hc2 := cut2_size c
  unfold doP
  split
  · exact hb
  split
  · exact ⟨Nat.zero_le _, fun q hq => by simp at hq⟩
  split
  · exact hb
  split
  · show BrkOK (addP brk (split4 (cut2 c))).2
    unfold addP
    split
    · split
      · exact hb
      · rename_i h
        have h1 : (breaksFault (brk ++ [newBrk (split4 (cut2 c))])).1 = 0 := by
          refine Decidable.byContradiction fun q => h (Or.inl q)
        exact ⟨brk_len h1, small_app hb.small (new_small fun q hq => by have := split4_size _ q hq; omega)⟩
    · exact hb
  repeat' split
  all_goals exact hb
theorem varOf_size {n : ByteArray} {m : Nat} : ∀ (l : List LocM), (∀ x ∈ l, x.text.size ≤ m) → (varOf l n).1.size ≤ m
  | [], _ => by show (0 : Nat) ≤ m; omega
  | v :: l, h => by
    rw [varOf]
    split
    · exact h v (by simp)
    · exact varOf_size l (fun x hx => h x (by simp [hx]))
theorem show_size {l : List EvM} {p : Int} {n : ByteArray} (h : ∀ e ∈ l, ∀ x ∈ e.locals.el, x.text.size ≤ 1048576) (hp : p ≤ ((l.length : Nat) : Int)) : (showP l p n).1.size ≤ 1048576 := by
  unfold showP
  split
  · show (0 : Nat) ≤ _; omega
  · rename_i hn
    have hst := act_stop (l := l) (p := p) hp (nth (activeP l p) ((activeP l p).length - 1)) (nth_mem (by omega))
    exact varOf_size _ (h _ (nth_mem (by omega)))
theorem do_size {l : List EvM} {brk : List BrkM} {p : Int} {c : ByteArray} (hv : Valid l) (hs : ∀ e ∈ l, e.mod.size ≤ 1048576 ∧ e.fn.size ≤ 1048576) (hx : ∀ e ∈ l, ∀ x ∈ e.locals.el, x.text.size ≤ 1048576)
    (hi : ∀ e ∈ l, -9223372036854775808 ≤ e.line ∧ e.line ≤ 9223372036854775807) (hb : BrkOK brk) (hp : -1 ≤ p ∧ p ≤ ((l.length : Nat) : Int)) : (doP l brk p c).1.size ≤ 140737488355328 := by
  have hS := act_small hv.len hs hi hp.2
  have hl := hv.len
  unfold doP
  split
  · rename_i h
    have hr := moveP_range (brk := brk) hp h
    show (moveT l (moveP l brk p c)).size ≤ _
    unfold moveT
    split
    · decide
    split
    · decide
    · have hm := nth_mem (l := l) (i := (moveP l brk p c).toNat) (by omega)
      have hq : Small3 (plcAt l (moveP l brk p c)) := ⟨(hs _ hm).1, (hs _ hm).2, hi _ hm⟩
      have := place_size hq
      omega
  split
  · show sCleared.size ≤ _; decide
  split
  · show (whereP l p).size ≤ _
    unfold whereP
    split
    · decide
    · refine where_size hS ?_
      have := activeP_len l p hp.2
      simp only [plcs, List.length_map]; omega
  split
  · show (addP brk (split4 (cut2 c))).1.size ≤ _
    unfold addP
    split
    · split
      · show sRefused.size ≤ _; decide
      · have h1 : (brk ++ [newBrk (split4 (cut2 c))]).length ≤ 51 := by have := hb.len; simp only [List.length_append, List.length_cons, List.length_nil]; omega
        have hz := itoaB_size (n := (((brk ++ [newBrk (split4 (cut2 c))]).length : Nat) : Int)) (by omega)
        have hy : sBreakpoint.size = 11 := rfl
        simp only [ByteArray.size_append]
        omega
    · show sWhat.size ≤ _; decide
  split
  · show (showT l p c).size ≤ _
    unfold showT
    split
    · have := show_size (n := cut2 c) hx hp.2
      omega
    · decide
  · show sWhat.size ≤ _; decide
theorem st_range {l : List EvM} {cs : List ByteArray} : ∀ i, -1 ≤ posP l cs i ∧ posP l cs i ≤ ((l.length : Nat) : Int)
  | 0 => by rw [pos_0]; omega
  | i + 1 => by rw [pos_next]; exact do_range (st_range i)
theorem st_brk {l : List EvM} {cs : List ByteArray} (hc : ∀ c ∈ cs, c.size ≤ 1048576) : ∀ i, BrkOK (brkP l cs i)
  | 0 => by rw [brk_0]; exact ⟨Nat.zero_le _, fun q hq => by simp at hq⟩
  | i + 1 => by rw [brk_next]; exact do_brk (st_brk hc i) (nth_size hc i)
theorem ans_size {l : List EvM} {cs : List ByteArray} (hv : Valid l) (hs : ∀ e ∈ l, e.mod.size ≤ 1048576 ∧ e.fn.size ≤ 1048576) (hx : ∀ e ∈ l, ∀ x ∈ e.locals.el, x.text.size ≤ 1048576)
    (hi : ∀ e ∈ l, -9223372036854775808 ≤ e.line ∧ e.line ≤ 9223372036854775807) (hc : ∀ c ∈ cs, c.size ≤ 1048576) : ∀ i, ∀ x ∈ ansP l cs i, x.size ≤ 140737488355328
  | 0 => fun x hx => by simp [ansP] at hx
  | i + 1 => fun x hm => by
    rw [ans_next] at hm
    rcases List.mem_append.1 hm with h | h
    · exact ans_size hv hs hx hi hc i x h
    · simp only [List.mem_singleton] at h
      subst h
      exact do_size hv hs hx hi (st_brk hc i) (st_range i)
/-- The first command that is too long. -/
def longAt (cs : List ByteArray) : Nat → Option Nat
  | 0 => none
  | n + 1 => if longAt cs n ≠ none then longAt cs n else if (4000 : Int) < (((nth cs n).size : Nat) : Int) then some n else none
/-- The fault of a session. -/
def sessF (l : List EvM) (cs : List ByteArray) : Flt :=
  if (traceFault l).1 ≠ 0 then traceFault l
  else if (200 : Int) < ((cs.length : Nat) : Int) then (2, -2)
  else match longAt cs cs.length with
    | some i => (3, 1000000 + ((i : Nat) : Int))
    | none => (0, 0)
/-- What a session answers. -/
def sessP (l : List EvM) (cs : List ByteArray) : List ByteArray × Flt := if (sessF l cs).1 ≠ 0 then ([], sessF l cs) else (ansP l cs cs.length, (0, 0))
theorem long_none {cs : List ByteArray} : ∀ n, (∀ j, j < n → ¬ (4000 : Int) < (((nth cs j).size : Nat) : Int)) → longAt cs n = none
  | 0, _ => rfl
  | n + 1, h => by
    have ih := long_none n (fun j hj => h j (by omega))
    rw [longAt, if_neg (by rw [ih]; simp), if_neg (h n (by omega))]
theorem long_some {cs : List ByteArray} {i : Nat} (hb : ∀ j, j < i → ¬ (4000 : Int) < (((nth cs j).size : Nat) : Int)) (h : (4000 : Int) < (((nth cs i).size : Nat) : Int)) : ∀ n, i < n → longAt cs n = some i
  | 0, hn => by omega
  | n + 1, hn => by
    rcases Nat.lt_succ_iff_lt_or_eq.1 hn with q | rfl
    · have ih := long_some hb h n q
      rw [longAt, if_pos (by rw [ih]; simp), ih]
    · rw [longAt, if_neg (by rw [long_none i hb]; simp), if_pos h]
theorem sess_a {l : List EvM} {cs : List ByteArray} (h : (traceFault l).1 ≠ 0) : sessF l cs = traceFault l := if_pos h
theorem sess_b {l : List EvM} {cs : List ByteArray} (h : ¬ (traceFault l).1 ≠ 0) (h2 : (200 : Int) < ((cs.length : Nat) : Int)) : sessF l cs = (2, -2) := by rw [sessF, if_neg h, if_pos h2]
theorem sess_c {l : List EvM} {cs : List ByteArray} {i : Nat} (h : ¬ (traceFault l).1 ≠ 0) (h2 : ¬ (200 : Int) < ((cs.length : Nat) : Int)) (hi : i < cs.length) (hb : ∀ j, j < i → ¬ (4000 : Int) < (((nth cs j).size : Nat) : Int)) (h3 : (4000 : Int) < (((nth cs i).size : Nat) : Int)) : sessF l cs = (3, 1000000 + ((i : Nat) : Int)) := by
  rw [sessF, if_neg h, if_neg h2, long_some hb h3 _ hi]
theorem sess_d {l : List EvM} {cs : List ByteArray} (h : ¬ (traceFault l).1 ≠ 0) (h2 : ¬ (200 : Int) < ((cs.length : Nat) : Int)) (hb : ∀ j, j < cs.length → ¬ (4000 : Int) < (((nth cs j).size : Nat) : Int)) : sessF l cs = (0, 0) := by
  rw [sessF, if_neg h, if_neg h2, long_none _ hb]
theorem sessP_f {l : List EvM} {cs : List ByteArray} {f : Flt} (h : sessF l cs = f) (hf : f.1 ≠ 0) : sessP l cs = ([], f) := by rw [sessP, if_pos (by rw [h]; exact hf), h]
theorem sessP_n {l : List EvM} {cs : List ByteArray} (h : sessF l cs = (0, 0)) : sessP l cs = (ansP l cs cs.length, (0, 0)) := by rw [sessP, if_neg (by rw [h]; simp)]
end Go.Proofs.YtecibcjckinngaaGreatDoor
/- Walk over a session. -/
set_option linter.unusedVariables false
namespace Go.Proofs.YtecibcjckinngaaGreatDoor
open Go Go.RowKit Enc
attribute [local irreducible] Effect OpsE RunE AnyE AnyAt Quiet Res1


theorem c4 (l : Sl EvM) (cs : Sl ByteArray) (w : World) (hl : ok w l) (hcs0 : ok w cs) (hT : Tabs w) (hs : ∀ e ∈ l.el, e.mod.size ≤ 1048576 ∧ e.fn.size ≤ 1048576) (hcl : ∀ c ∈ cs.el, c.size ≤ 1048576) : RetRowF Tryz.prog 4 #[.slice l.addr l.el.length l.cap, .slice cs.addr cs.el.length cs.cap] w 9 (sessP l.el cs.el) := by
  intro tg
  have L0 := Sl.OK.le hl (by decide)
  have L1 := Sl.OK.le hcs0 (by decide)
  have hli : ∀ e ∈ l.el, -9223372036854775808 ≤ e.line ∧ e.line ≤ 9223372036854775807 := fun e he => EvM.OK.line ((show Sl.OK w l from hl).el e he)
  refine calls_of (args := [.slice l.addr l.el.length l.cap, .slice cs.addr cs.el.length cs.cap]) Tryz.func4 rfl Tryz.ntmps4 rfl (H := [(100, .fz (fun w => ok w l)), (101, .fz (fun w => ok w cs)), (199, .fz (fun w => Tabs w))]) (Facts.sep (.cons (supp_ok hl) (.cons (supp_ok hcs0) (.cons (supp_tabs hT) (.nil))))) ?_
  refine r_seq ?_
  refine r_region ?_
  refine s1 rfl (q_assign rfl) ?_
  refine sx rfl (e_alloc zz25) (fun g1 _ => ?_)
  refine o_end ?_
  refine r_seq ?_
  refine r_seq ?_
  refine r_region ?_
  refine s1 rfl (q_move rfl) ?_
  refine sx rfl (e_call en10 (.cons rfl (.nil)) ((fun w hw => c10 l w (hw.get_fz (t := 100) rfl) (hw.get_fz (t := 199) rfl) (by assumption)))) (fun _ _ => ?_)
  refine sx rfl (e_alloc zz25) (fun g2 _ => ?_)
  refine sxn (e_store (tg := 6) (news := [.int .i64 ((traceFault l.el).1), .int .i64 ((traceFault l.el).2)]) rfl rfl rfl rfl z25 rfl rfl (.cons (.cons (.nil _)))) (fun _ _ => ?_)
  refine o_end ?_
  refine r_seq ?_
  refine r_region ?_
  refine s1 rfl (q_fieldAddr of25_0 rfl rfl) ?_
  refine s1 rfl (q_load ag3 rfl (fun w hw => hw.box (tg := 6) rfl rfl)) ?_
  refine s1 rfl (q_neq rfl rfl) ?_
  refine o_end ?_
  refine r_if rfl (fun hp1 => ?_) (fun hp1 => ?_)
  · refine r_seq ?_
    refine r_draw [(100, .fz (fun w => ok w l)), (101, .fz (fun w => ok w cs)), (199, .fz (fun w => Tabs w)), (6, .box g2 [.int .i64 ((traceFault l.el).1), .int .i64 ((traceFault l.el).2)] 25)] (by kernel_rfl) rfl (.cons rfl (.cons rfl (.cons rfl (.cons rfl (.nil))))) ?_
    refine d1 0 rfl (by kernel_rfl) rfl rfl (q_loads (cs := [.int .i64 ((traceFault l.el).1), .int .i64 ((traceFault l.el).2)]) ag25 z25 rfl rfl (fun w hw => hw.boxes (tg := 6) rfl)) ?_
    refine d1 1 rfl (by kernel_rfl) rfl rfl (q_assign rfl) ?_
    refine dxln 2 rfl (by kernel_rfl) rfl (by kernel_rfl) (by kernel_rfl) (e_store (tg := 5) (news := [.int .i64 ((traceFault l.el).1), .int .i64 ((traceFault l.el).2)]) rfl rfl rfl rfl z25 rfl rfl (.cons (.cons (.nil _)))) (fun _ _ => ?_)
    refine r_ret Tryz.func4 (res2 Tryz.results4 (res_tmp (s := 4) rfl) (res_cell (cs := [.int .i64 ((traceFault l.el).1), .int .i64 ((traceFault l.el).2)]) ag25 z25 rfl (s := 5) (tg := 5) rfl rfl)) (fun w hw => ?_)
    rw [sessP_f (sess_a hp1) hp1]
    exact ⟨(none, 0), trivial, rfl, (hw.nilRow 0 9 1).one (t := 0) rfl nofzrow⟩
  · have hv := valid_of (Decidable.not_not.1 hp1)
    refine r_skip ?_
    refine r_seq ?_
    refine r_seq ?_
    refine r_region ?_
    refine s1 rfl (q_move rfl) ?_
    refine s1 rfl (q_len Tryz.underlying23 rfl) ?_
    refine s1 rfl (q_gtr rfl rfl) ?_
    refine o_end ?_
    refine r_if rfl (fun hp2 => ?_) (fun hp2 => ?_)
    · refine r_seq ?_
      refine r_region ?_
      refine s1 rfl (q_build (cs := [.int .i64 (2 : Int), .int .i64 (-2 : Int)]) (.cons rfl (.cons rfl (.nil))) (by kernel_rfl)) ?_
      refine s1 rfl (q_assign rfl) ?_
      refine sxn (e_store (tg := 5) (news := [.int .i64 (2 : Int), .int .i64 (-2 : Int)]) rfl rfl rfl rfl z25 rfl rfl (.cons (.cons (.nil _)))) (fun _ _ => ?_)
      refine o_end ?_
      refine r_ret Tryz.func4 (res2 Tryz.results4 (res_tmp (s := 4) rfl) (res_cell (cs := [.int .i64 (2 : Int), .int .i64 (-2 : Int)]) ag25 z25 rfl (s := 5) (tg := 5) rfl rfl)) (fun w hw => ?_)
      rw [sessP_f (sess_b hp1 hp2) (by decide)]
      exact ⟨(none, 0), trivial, rfl, (hw.nilRow 0 9 1).one (t := 0) rfl nofzrow⟩
    · refine r_skip ?_
      refine r_seq ?_
      refine r_seq ?_
      refine r_region ?_
      refine s1 rfl (q_move rfl) ?_
      refine s1 rfl (q_len Tryz.underlying23 rfl) ?_
      refine s1 rfl (q_move rfl) ?_
      refine o_end ?_
      refine r_block ?_
      refine r_loop ?_
      refine RunE.weaken ?_ ?_ (r_rounds (fun (i : Nat) => [(0, .slice l.addr l.el.length l.cap), (1, .slice cs.addr cs.el.length cs.cap), (5, .pointer (some ⟨g1, 0, none⟩)), (23, .slice cs.addr cs.el.length cs.cap), (24, .int .i64 ((cs.el.length : Nat) : Int)), (25, .int .i64 ((i : Nat) : Int))]) (fun (i : Nat) => [(100, .fz (fun w => ok w l)), (101, .fz (fun w => ok w cs)), (199, .fz (fun w => Tabs w)), (5, .box g1 [.int .i64 (0 : Int), .int .i64 (0 : Int)] 25), (6, .box g2 [.int .i64 ((traceFault l.el).1), .int .i64 ((traceFault l.el).2)] 25)]) (fun (i : Nat) => i ≤ cs.el.length ∧ ∀ j, j < i → ¬ (4000 : Int) < (((nth cs.el j).size : Nat) : Int)) (fun (i : Nat) => cs.el.length - i) ?_ 0 ?_)
      · exact (.cons rfl (.cons rfl (.cons rfl (.cons rfl (.cons rfl (.cons rfl (.nil)))))))
      · exact (.cons rfl (.cons rfl (.cons rfl (.cons rfl (.cons rfl (.nil))))))
      · intro i hI0 ih0
        obtain ⟨hI1, hI2⟩ := hI0
        refine r_seq ?_
        refine r_region ?_
        refine s1 rfl (q_lss rfl rfl) ?_
        refine o_end ?_
        refine r_seq ?_
        refine r_if rfl (fun hp3 => ?_) (fun hp3 => ?_)
        · refine r_skip ?_
          refine r_seq ?_
          refine r_block ?_
          refine r_seq ?_
          refine r_region ?_
          refine s1 rfl (q_move rfl) ?_
          refine s1 rfl (q_indexAddr Tryz.underlying23 z9 rfl rfl rfl (by omega) (by omega) (fun w hw => Sl.OK.isSome (hw.get_fz (t := 101) rfl) (by decide) (i := i) (by omega))) ?_
          refine s1 rfl (q_load ag9 rfl (fun w hw => Sl.OK.cell0 (hw.get_fz (t := 101) rfl) (i := i) (by omega) rfl)) ?_
          refine s1 rfl (q_assign rfl) ?_
          refine s1 rfl (q_assign rfl) ?_
          refine o_end ?_
          refine r_seq ?_
          refine r_region ?_
          refine s1 rfl (q_move rfl) ?_
          refine s1 rfl (q_lens Tryz.underlying9 rfl) ?_
          refine s1 rfl (q_gtr rfl rfl) ?_
          refine o_end ?_
          refine r_if rfl (fun hp4 => ?_) (fun hp4 => ?_)
          · refine r_seq ?_
            refine r_region ?_
            refine s1 rfl (q_move rfl) ?_
            refine s1 rfl (q_add rfl rfl (by omega)) ?_
            refine s1 rfl (q_build (cs := [.int .i64 (3 : Int), .int .i64 ((1000000 : Int) + ((i : Nat) : Int))]) (.cons rfl (.cons rfl (.nil))) (by kernel_rfl)) ?_
            refine s1 rfl (q_assign rfl) ?_
            refine sxn (e_store (tg := 5) (news := [.int .i64 (3 : Int), .int .i64 ((1000000 : Int) + ((i : Nat) : Int))]) rfl rfl rfl rfl z25 rfl rfl (.cons (.cons (.nil _)))) (fun _ _ => ?_)
            refine o_end ?_
            refine r_ret Tryz.func4 (res2 Tryz.results4 (res_tmp (s := 4) rfl) (res_cell (cs := [.int .i64 (3 : Int), .int .i64 ((1000000 : Int) + ((i : Nat) : Int))]) ag25 z25 rfl (s := 5) (tg := 5) rfl rfl)) (fun w hw => ?_)
            rw [sessP_f (sess_c hp1 hp2 (by omega) hI2 hp4) (show (3 : Int) ≠ 0 by decide)]
            exact ⟨(none, 0), trivial, rfl, (hw.nilRow 0 9 1).one (t := 0) rfl nofzrow⟩
          · refine r_skip ?_
            refine r_inBlock ?_
            refine r_region ?_
            refine s1 rfl (q_add rfl rfl (by omega)) ?_
            refine s1 rfl (q_move rfl) ?_
            refine o_end ?_
            refine r_inLoop ?_
            refine RunE.weaken ?_ ?_ (ih0 (i + 1) ?_ ?_)
            · exact (.cons rfl (.cons rfl (.cons rfl (.cons rfl (.cons rfl (.cons rfl (.nil)))))))
            · exact (.cons rfl (.cons rfl (.cons rfl (.cons rfl (.cons rfl (.nil))))))
            · exact ⟨by omega, fun j hj => by rcases Nat.lt_succ_iff_lt_or_eq.1 hj with h | rfl; exact hI2 j h; assumption⟩
            · omega
        · refine r_exit rfl ?_
          refine r_seq ?_
          refine r_region ?_
          refine s1 rfl (q_move rfl) ?_
          refine s1 rfl (q_build (cs := [.slice l.addr l.el.length l.cap, .int .i64 (-1 : Int), .slice none 0 0]) (.cons rfl (.cons rfl (.nil))) (by kernel_rfl)) ?_
          refine sx rfl (e_box rfl (cs := [.slice l.addr l.el.length l.cap, .int .i64 (-1 : Int), .slice none 0 0]) rfl) (fun g3 _ => ?_)
          refine s1 rfl (q_assign rfl) ?_
          refine o_end ?_
          refine r_seq ?_
          refine r_region ?_
          refine s1 rfl (q_assign rfl) ?_
          refine o_end ?_
          refine r_seq ?_
          refine r_seq ?_
          refine r_region ?_
          refine s1 rfl (q_move rfl) ?_
          refine s1 rfl (q_len Tryz.underlying23 rfl) ?_
          refine s1 rfl (q_move rfl) ?_
          refine o_end ?_
          refine r_block ?_
          have hcs := sess_d (l := l.el) hp1 hp2 (fun j hj => hI2 j (by omega))
          refine r_know (fun w hw => (hw.nilRow 500 9 1).fnTrue (t := 51) rfl (χ := fun w => ok w (⟨none, 0, []⟩ : Sl BrkM)) (fun _ => ok_nil)) ?_
          refine r_loop ?_
          refine RunE.weaken ?_ ?_ (r_rounds4 (fun (i : Nat) (a4 : Option Addr) (c5 : Nat) (brk : Sl BrkM) => [(5, .pointer (some ⟨g1, 0, none⟩)), (9, .pointer (some ⟨g3, 0, none⟩)), (10, .slice a4 ((ansP l.el cs.el i).length) c5), (40, .slice cs.addr cs.el.length cs.cap), (41, .int .i64 ((cs.el.length : Nat) : Int)), (42, .int .i64 ((i : Nat) : Int))]) (fun (i : Nat) (a4 : Option Addr) (c5 : Nat) (brk : Sl BrkM) => [(100, .fz (fun w => ok w l)), (101, .fz (fun w => ok w cs)), (199, .fz (fun w => Tabs w)), (5, .box g1 [.int .i64 (0 : Int), .int .i64 (0 : Int)] 25), (6, .box g2 [.int .i64 ((traceFault l.el).1), .int .i64 ((traceFault l.el).2)] 25), (39, .box g3 [.slice l.addr l.el.length l.cap, .int .i64 (posP l.el cs.el i), .slice brk.addr brk.el.length brk.cap] 37), (500, .row 9 1 a4 ((ansP l.el cs.el i).length) c5 (encs (ansP l.el cs.el i))), (51, .fn (fun w => ok w brk))]) (fun (i : Nat) (a4 : Option Addr) (c5 : Nat) (brk : Sl BrkM) => i ≤ cs.el.length ∧ brk.el = brkP l.el cs.el i) (fun (i : Nat) (a4 : Option Addr) (c5 : Nat) (brk : Sl BrkM) => cs.el.length - i) ?_ 0 none 0 (⟨none, 0, []⟩) ?_)
          · exact (.cons rfl (.cons rfl (.cons rfl (.cons rfl (.cons rfl (.cons rfl (.nil)))))))
          · exact (.cons rfl (.cons rfl (.cons rfl (.cons rfl (.cons rfl (.cons rfl (.cons rfl (.cons rfl (.nil)))))))))
          · intro i a4 c5 brk hI1 ih1
            obtain ⟨hI1, hI2⟩ := hI1
            have hB := st_brk (l := l.el) hcl i
            have hP := st_range (l := l.el) (cs := cs.el) i
            have hS := act_small hv.len hs hli hP.2
            have hA := ans_len l.el cs.el i
            refine r_seq ?_
            refine r_region ?_
            refine s1 rfl (q_lss rfl rfl) ?_
            refine o_end ?_
            refine r_seq ?_
            refine r_if rfl (fun hp5 => ?_) (fun hp5 => ?_)
            · refine r_skip ?_
              refine r_seq ?_
              refine r_block ?_
              refine r_seq ?_
              refine r_region ?_
              refine s1 rfl (q_indexAddr Tryz.underlying23 z9 rfl rfl rfl (by omega) (by omega) (fun w hw => Sl.OK.isSome (hw.get_fz (t := 101) rfl) (by decide) (i := i) (by omega))) ?_
              refine s1 rfl (q_load ag9 rfl (fun w hw => Sl.OK.cell0 (hw.get_fz (t := 101) rfl) (i := i) (by omega) rfl)) ?_
              refine s1 rfl (q_assign rfl) ?_
              refine o_end ?_
              refine r_region ?_
              iterate 3 refine s1 rfl (q_move rfl) ?_
              refine sx rfl (e_callm (ts := [39]) (us := [50, 51]) (Hn := fun x : Sl BrkM => [(39, .box g3 [l.val, .int .i64 (doP l.el brk.el (posP l.el cs.el i) (nth cs.el i)).2.1, x.val] 37), (52, .fn (fun w => x = brk ∨ ok w x))]) en11 (Or.inl ⟨rfl, rfl⟩) (.cons rfl (.cons rfl (.nil))) (.cons (t := 50) (t0 := 39) rfl rfl .nil) rfl (fun w hw => .cons (t := 100) (hw.bears_fz (t := 100) rfl) (.cons (t := 101) (hw.bears_fn (t := 51) rfl) (.cons (t := 199) (hw.bears_fz (t := 199) rfl) .nil))) (fun w hw => c11 g3 l (posP l.el cs.el i) brk (nth cs.el i) w hv hs hP (by rw [hI2]; exact hB.len) (by rw [hI2]; exact hB.small) (nth_size hcl i) hS) (fun x => .cons (t := 39) (t0 := 50) rfl rfl (.cons (t := 52) (t0 := 51) rfl rfl .nil)) (fun x t ht => by simp only [List.mem_cons, List.not_mem_nil, or_false] at ht; subst ht; simp [Hp.get]) (fun x => rfl)) (fun x6 hg7 => ?_)
              refine sx rfl (e_bslice (cs := encs ([(doP l.el brk.el (posP l.el cs.el i) (nth cs.el i)).1] : List ByteArray)) Tryz.underlying23 zi9 (.cons rfl (.nil)) (by kernel_rfl) rfl rfl rfl) (fun g8 _ => ?_)
              refine sx rfl (e_appendL (tg := 500) (l := ansP l.el cs.el i) (l' := ([(doP l.el brk.el (posP l.el cs.el i) (nth cs.el i)).1] : List ByteArray)) Tryz.underlying23 in9 rfl rfl rfl rfl rfl rfl rfl (fun w hw => Shows.row (hw.row (tg := 50) rfl)) (by simp only [List.length_cons, List.length_nil]; omega)) (fun ⟨a9, c10⟩ _ => ?_)
              rw [show (ansP l.el cs.el i) ++ ([(doP l.el brk.el (posP l.el cs.el i) (nth cs.el i)).1] : List ByteArray) = ansP l.el cs.el (i + 1) from (by rw [ans_next, answer, hI2])]
              refine s1 rfl (q_assign rfl) ?_
              refine o_end ?_
              refine r_inBlock ?_
              refine r_region ?_
              refine s1 rfl (q_add rfl rfl (by omega)) ?_
              refine s1 rfl (q_move rfl) ?_
              refine o_end ?_
              refine r_know (fun w hw => hw.fnAnd (t := 53) rfl (t1 := 51) (t2 := 52) rfl rfl (χ := fun w => ok w x6) (fun w h1 h2 => h2.elim (fun e => e ▸ h1) id)) ?_
              refine r_know (fun w hw => hw.ren (.cons (t := 100) (t0 := 100) rfl rfl (.cons (t := 101) (t0 := 101) rfl rfl (.cons (t := 199) (t0 := 199) rfl rfl (.cons (t := 5) (t0 := 5) rfl rfl (.cons (t := 6) (t0 := 6) rfl rfl (.cons (t := 39) (t0 := 39) rfl rfl (.cons (t := 500) (t0 := 500) rfl rfl (.cons (t := 51) (t0 := 53) rfl rfl .nil))))))))) ?_
              rw [show (doP l.el brk.el (posP l.el cs.el i) (nth cs.el i)).2.1 = posP l.el cs.el (i + 1) from by rw [pos_next, hI2]]
              refine r_inLoop ?_
              refine RunE.weaken ?_ ?_ (ih1 (i + 1) a9 c10 x6 ?_ ?_)
              · exact (.cons rfl (.cons rfl (.cons rfl (.cons rfl (.cons rfl (.cons rfl (.nil)))))))
              · exact (.cons rfl (.cons rfl (.cons rfl (.cons rfl (.cons rfl (.cons rfl (.cons rfl (.cons rfl (.nil)))))))))
              · exact ⟨by omega, by rw [hg7, brk_next, hI2]⟩
              · omega
            · refine r_exit rfl ?_
              refine r_seq ?_
              refine r_region ?_
              refine s1 rfl (q_move rfl) ?_
              refine s1 rfl (q_build (cs := [.int .i64 (0 : Int), .int .i64 (0 : Int)]) (.nil) (by kernel_rfl)) ?_
              refine s1 rfl (q_assign rfl) ?_
              refine sxn (e_store (tg := 5) (news := [.int .i64 (0 : Int), .int .i64 (0 : Int)]) rfl rfl rfl rfl z25 rfl rfl (.cons (.cons (.nil _)))) (fun _ _ => ?_)
              refine o_end ?_
              refine r_ret Tryz.func4 (res2 Tryz.results4 (res_tmp (s := 4) rfl) (res_cell (cs := [.int .i64 (0 : Int), .int .i64 (0 : Int)]) ag25 z25 rfl (s := 5) (tg := 5) rfl rfl)) (fun w hw => ?_)
              have hi : i = cs.el.length := by omega
              subst hi
              rw [sessP_n hcs]
              exact ⟨(a4, c5), trivial, rfl, hw.one (t := 500) rfl nofzrow⟩
          · exact ⟨Nat.zero_le _, rfl⟩
      · exact ⟨by omega, fun j hj => by omega⟩

end Go.Proofs.YtecibcjckinngaaGreatDoor
/- The reference's moves and places are those of the package, on a trace without a fault. -/
set_option linter.unusedVariables false
namespace Go.Proofs.YtecibcjckinngaaGreatDoor
open Go Go.RowKit Enc
theorem nextF_first {q : EvM → Bool} {l : List EvM} {b : Nat} (hb : b < l.length) (h : q (nth l b) = true) : ∀ n k, k + n = b → (∀ j, k ≤ j → j < b → ¬ q (nth l j) = true) → nextF q l k = b
  | 0, k, hk, _ => by
    have : k = b := by omega
    subst this
    exact nextF_at hb h
  | n + 1, k, hk, hj => by
    rw [nextF_no (by omega) (hj k (Nat.le_refl _) (by omega))]
    exact nextF_first hb h n (k + 1) (by omega) (fun j h1 h2 => hj j (by omega) h2)
theorem nextF_none {q : EvM → Bool} {l : List EvM} : ∀ n k, k + n = l.length → (∀ j, k ≤ j → j < l.length → ¬ q (nth l j) = true) → nextF q l k = l.length
  | 0, k, hk, _ => by rw [nextF_out (by omega)]; omega
  | n + 1, k, hk, hj => by
    rw [nextF_no (by omega) (hj k (Nat.le_refl _) (by omega))]
    exact nextF_none n (k + 1) (by omega) (fun j h1 h2 => hj j (by omega) h2)
theorem best_key {l : List EvM} {q : EvM → Bool} {p : Int} : ∀ i, i ≤ l.length → (∃ b : Nat, bestN l q p true i = ((b : Nat) : Int) ∧ b < i ∧ p < ((b : Nat) : Int) ∧ q (nth l b) = true ∧ ∀ j : Nat, p < ((j : Nat) : Int) → j < b → ¬ q (nth l j) = true) ∨ (bestN l q p true i = ((l.length : Nat) : Int) ∧ ∀ j : Nat, p < ((j : Nat) : Int) → j < i → ¬ q (nth l j) = true) := by
  intro i
  induction i with
  | zero => intro _; exact Or.inr ⟨by rw [bestN, best0, if_pos rfl], fun j _ h => by omega⟩
  | succ i ih =>
    intro hi
    rcases ih (by omega) with ⟨b, h1, h2, h3, h4, h5⟩ | ⟨h1, h2⟩
    · refine Or.inl ⟨b, ?_, by omega, h3, h4, h5⟩
      rw [bestN, h1, if_neg]
      rintro (⟨⟨⟨_, _⟩, _⟩, h⟩ | ⟨⟨_, h⟩, _⟩)
      · omega
      · exact h rfl
    · by_cases hq : q (nth l i) = true ∧ p < ((i : Nat) : Int)
      · refine Or.inl ⟨i, ?_, by omega, hq.2, hq.1, h2⟩
        rw [bestN, h1, if_pos]
        exact Or.inl ⟨⟨⟨hq.1, rfl⟩, hq.2⟩, by omega⟩
      · refine Or.inr ⟨?_, fun j hj hji => ?_⟩
        · rw [bestN, h1, if_neg]
          rintro (⟨⟨⟨a, _⟩, b⟩, _⟩ | ⟨⟨_, h⟩, _⟩)
          · exact hq ⟨a, b⟩
          · exact h rfl
        · rcases Nat.lt_succ_iff_lt_or_eq.1 hji with h | rfl
          · exact h2 j hj h
          · exact fun h => hq ⟨h, hj⟩
theorem best_fw {l : List EvM} {q : EvM → Bool} {p : Int} (hp : -1 ≤ p ∧ p ≤ ((l.length : Nat) : Int)) : bestN l q p true l.length = mvR l q 1 (p + 1) := by
  rw [mvR, if_pos rfl]
  rcases best_key (q := q) (p := p) l.length (Nat.le_refl _) with ⟨b, h1, h2, h3, h4, h5⟩ | ⟨h1, h2⟩
  · rw [h1, nextF_first h2 h4 (b - (p + 1).toNat) (p + 1).toNat (by omega) (fun j a c => h5 j (by omega) c)]
    omega
  · rw [h1]
    by_cases hl : p = ((l.length : Nat) : Int)
    · rw [nextF_out (by omega)]; omega
    · rw [nextF_none (l.length - (p + 1).toNat) (p + 1).toNat (by omega) (fun j a c => h2 j (by omega) c)]
      omega
theorem best_bw {l : List EvM} {q : EvM → Bool} {p : Int} : ∀ i, bestN l q p false i = prevF q l (min i p.toNat)
  | 0 => by rw [bestN, best0, if_neg (by simp), Nat.zero_min, prevF]
  | i + 1 => by
    have ih := best_bw (l := l) (q := q) (p := p) i
    rw [bestN]
    by_cases h : ((i : Nat) : Int) < p
    · rw [show min (i + 1) p.toNat = i + 1 from by omega, prevF]
      rw [show min i p.toNat = i from by omega] at ih
      by_cases hq : q (nth l i) = true
      · rw [if_pos hq, if_pos]
        exact Or.inr ⟨⟨hq, by simp⟩, h⟩
      · rw [if_neg hq, if_neg, ih]
        rintro (⟨⟨⟨a, _⟩, _⟩, _⟩ | ⟨⟨a, _⟩, _⟩)
        · exact hq a
        · exact hq a
    · rw [show min (i + 1) p.toNat = min i p.toNat from by omega, if_neg, ih]
      rintro (⟨⟨⟨_, a⟩, _⟩, _⟩ | ⟨_, a⟩)
      · simp at a
      · exact h a
theorem nextL_congr {q q' : EvM → Bool} : ∀ l : List EvM, (∀ e ∈ l, q e = q' e) → nextL q l = nextL q' l
  | [], _ => rfl
  | x :: l, h => by rw [nextL, nextL, h x (by simp), nextL_congr l (fun e he => h e (by simp [he]))]
theorem prevF_congr {q q' : EvM → Bool} {l : List EvM} (h : ∀ e ∈ l, q e = q' e) : ∀ k, k ≤ l.length → prevF q l k = prevF q' l k
  | 0, _ => rfl
  | k + 1, hk => by rw [prevF, prevF, h _ (nth_mem (by omega)), prevF_congr h k (by omega)]
theorem mv_congr {q q' : EvM → Bool} {l : List EvM} (h : ∀ e ∈ l, q e = q' e) {st a : Int} (ha : st = 1 ∨ a + 1 ≤ ((l.length : Nat) : Int)) : mvR l q st a = mvR l q' st a := by
  unfold mvR
  by_cases hs : st = 1
  · rw [if_pos hs, if_pos hs, nextF, nextF, nextL_congr _ (fun e he => h e (List.mem_of_mem_drop he))]
  · rw [if_neg hs, if_neg hs, prevF_congr h _ (by omega)]
theorem ev_depth {l : List EvM} (hv : Valid l) {i : Nat} (hi : i < l.length) : 1 ≤ (nth l i).depth ∧ (nth l i).depth ≤ 20000 := by
  have h := hv.at hi
  have h1 := pushed_len (actN l i) (nth l i)
  have h2 := actN_len l i
  have h3 := hv.len
  have h4 := h.pos
  rw [h.depth]; omega
theorem q_same {l : List EvM} (hv : Valid l) {p : Int} (hp : -1 ≤ p ∧ p ≤ ((l.length : Nat) : Int)) {brk : List BrkM} {c : ByteArray} (hc : motOk c = true) : ∀ e ∈ l, qR brk (dR l p) c e = stopQ (goodP brk (depthP l p) c) e := by
  intro e he
  obtain ⟨i, hi, rfl⟩ := mem_nth he
  have hd := ev_depth hv hi
  unfold qR stopQ
  congr 1
  have hD : ∀ x : Int, x ≤ 20000 → (x ≤ dR l p ↔ (depthP l p = 0 ∨ x ≤ depthP l p)) ∧ (x < dR l p ↔ (depthP l p = 0 ∨ x < depthP l p)) := by
    intro x hx
    unfold dR depthP
    by_cases hr : (0 : Int) ≤ p ∧ p ≤ (((l.length : Nat) : Int) - (1 : Int))
    · have hdp := ev_depth hv (i := p.toNat) (by omega)
      rw [if_pos hr, if_neg (by omega)]
      constructor <;> constructor <;> intro h <;> omega
    · rw [if_neg hr, if_pos (by omega)]
      constructor <;> constructor <;> intro h <;> omega
  have hx := hD (nth l i).depth hd.2
  unfold goodP
  by_cases h1 : c = sOver ∨ c = sUnder
  · rw [if_pos h1, if_neg (by rintro (rfl | rfl) <;> revert h1 <;> decide), if_pos h1]
    exact decide_eq_decide.2 hx.1
  · rw [if_neg h1]
    by_cases h2 : c = sOut
    · subst h2
      rw [if_pos rfl, if_neg (by decide), if_neg (by decide), if_pos rfl]
      exact decide_eq_decide.2 hx.2
    · rw [if_neg h2]
      by_cases h3 : c = sGo ∨ c = sRewind
      · rw [if_pos h3, if_neg (by rintro (rfl | rfl) <;> revert h3 <;> decide), if_neg h1, if_neg h2]
      · rw [if_neg h3, if_pos]
        refine Decidable.byContradiction fun hn => ?_
        simp only [not_or] at h1 h3 hn
        have : motOk c = false := mot_no ⟨⟨⟨by simp only [fwR, decide_eq_true_eq, not_or]; exact ⟨⟨⟨hn.1, h1.1⟩, h2⟩, h3.1⟩, hn.2⟩, h1.2⟩, h3.2⟩
        rw [this] at hc; cases hc
theorem fw_st {c : ByteArray} (hc : motOk c = true) : (fwR c = true → motSt c = 1) ∧ (fwR c = false → motSt c = -1) := by
  have hb : ¬ noMot c := fun h => by rw [mot_no h] at hc; cases hc
  constructor
  · intro h
    simp only [fwR, decide_eq_true_eq] at h
    rcases h with ((rfl | rfl) | rfl) | rfl <;> rfl
  · intro h
    have h' : ¬ fwR c = true := by rw [h]; simp
    by_cases h1 : c = sBack
    · subst h1; rfl
    by_cases h2 : c = sUnder
    · subst h2; rfl
    by_cases h3 : c = sRewind
    · subst h3; rfl
    · exact absurd ⟨⟨⟨h', h1⟩, h2⟩, h3⟩ hb
theorem moved_move {l : List EvM} (hv : Valid l) {p : Int} (hp : -1 ≤ p ∧ p ≤ ((l.length : Nat) : Int)) {brk : List BrkM} {c : ByteArray} (hc : motOk c = true) : movedR l brk p c = moveP l brk p c := by
  obtain ⟨h1, h2⟩ := fw_st hc
  have hq := q_same hv hp (brk := brk) hc
  rw [movedR, if_pos hc, moveP]
  cases hf : fwR c with
  | true =>
    rw [h1 hf, best_fw hp]
    exact mv_congr hq (Or.inl rfl)
  | false =>
    rw [h2 hf, best_bw, ← mv_congr hq (Or.inr (by omega)), mvR, if_neg (by decide)]
    congr 1
    omega
/-- The place of an active function, as far as the first i events tell. -/
def frm (l : List EvM) (i : Nat) (k : Int) : PlcM := ⟨(nth l k.toNat).mod, (nth l k.toNat).fn, lineN l k.toNat i⟩
theorem frm_next {l : List EvM} {i : Nat} {k : Int} (h : ¬ ((nth l i).kind = 1 ∧ (nth l i).depth = (nth l k.toNat).depth)) : frm l (i + 1) k = frm l i k := by rw [frm, frm, ← line_n h]
theorem map_frm {l : List EvM} {i : Nat} (h : ¬ (nth l i).kind = 1) (ks : List Int) : ks.map (frm l (i + 1)) = ks.map (frm l i) := List.map_congr_left fun k _ => frm_next (fun q => h q.1)
theorem plcs_len (a : List ActM) : (plcs a).length = a.length := by simp [plcs]
/-- Whether an event behind the first i turns the places alike. -/
theorem act_frm {l : List EvM} (hv : Valid l) {p : Int} : ∀ i, ((i : Nat) : Int) ≤ p → i ≤ l.length → plcs (actS l p i) = (stkN l i).map (frm l i) ∧ ∀ j, j < (stkN l i).length → (nth l (nth (stkN l i) j).toNat).depth = ((j : Nat) : Int) + 1
  | 0, _, _ => ⟨rfl, fun j hj => by simp [stkN] at hj⟩
  | i + 1, hip, hil => by
    obtain ⟨h1, h2⟩ := act_frm hv (p := p) i (by omega) (by omega)
    have ho := hv.at (i := i) (by omega)
    have hlen : (stkN l i).length = (actS l p i).length := by have := congrArg List.length h1; simpa [plcs] using this.symm
    have hal := actS_len hv (p := p) i (by omega) (by omega)
    have hdp := ho.depth
    rw [pushed_len2] at hdp
    by_cases hk2 : (nth l i).kind = 2
    · rw [actS, if_pos hk2, stkN, if_pos hk2, List.nil_append]
      rw [if_pos hk2] at hdp
      constructor
      · rw [plcs, List.map_append, List.map_append, map_frm (by omega), ← h1]
        congr 1
        simp only [List.map_cons, List.map_nil, frm, actOf, Int.toNat_natCast]
        rw [line_start l i (i + 1) (Nat.le_refl _)]
      · intro j hj
        simp only [List.length_append, List.length_cons, List.length_nil] at hj
        by_cases hj2 : j < (stkN l i).length
        · rw [nth_app_l hj2]; exact h2 j hj2
        · rw [nth_app_r (j := 0) (by omega)]
          show (nth l ((i : Nat) : Int).toNat).depth = _
          rw [Int.toNat_natCast, hdp]
          omega
    · by_cases hk1 : (nth l i).kind = 1
      · have hpos := actS_pos hv (p := p) (i := i) (by omega) (by omega) hk2
        rw [if_neg hk2] at hdp
        rw [actS, if_neg hk2, if_pos hk1, stkN, if_neg hk2, if_neg (fun q => q.1 hk1)]
        refine ⟨?_, h2⟩
        have hmap : ∀ j, j < (actS l p i).length → nth (plcs (actS l p i)) j = frm l i (nth (stkN l i) j) := fun j hj => by rw [h1, nth_map _ (by omega)]
        refine ext_nth (by simp [plcs, actUp_len, hlen]) fun j hj => ?_
        rw [plcs_len, actUp_len] at hj
        rw [nth_map _ (by omega), plcs, nth_map _ (by rw [actUp_len]; omega), actUp, nth_set]
        have hjm := hmap j hj
        rw [plcs, nth_map _ hj] at hjm
        have hdj := h2 j (by omega)
        have hlt := stk_lt l i (nth (stkN l i) j) (nth_mem (by omega))
        by_cases hjl : (actS l p i).length - 1 = j
        · rw [if_pos ⟨hjl, hj⟩, hjl, hjm]
          simp only [frm]
          rw [← line_y (by omega) ⟨hk1, by rw [hdp, hdj]; omega⟩]
        · rw [if_neg (fun q => hjl q.1), hjm, frm_next]
          rintro ⟨_, q⟩
          rw [hdp, hdj] at q
          omega
      · rw [actS, if_neg hk2, if_neg hk1, if_pos (by omega), stkN, if_neg hk2]
        have ht : (if ¬(nth l i).kind = 1 ∧ 0 < (((stkN l i).length : Nat) : Int) then (stkN l i).take ((stkN l i).length - 1) else stkN l i) = (stkN l i).take ((stkN l i).length - 1) := by
          by_cases h0 : (0 : Int) < (((stkN l i).length : Nat) : Int)
          · rw [if_pos ⟨hk1, h0⟩]
          · rw [if_neg (fun q => h0 q.2), List.take_of_length_le (by omega)]
        rw [ht]
        constructor
        · rw [map_frm hk1, List.map_take, ← h1, plcs, plcs, List.map_take, hlen]
        · intro j hj
          rw [List.length_take] at hj
          rw [show nth ((stkN l i).take ((stkN l i).length - 1)) j = nth (stkN l i) j from by simp only [nth, List.getD_eq_getElem?_getD]; rw [List.getElem?_take_of_lt (by omega)]]
          exact h2 j (by omega)
theorem places_same {l : List EvM} (hv : Valid l) {p : Int} (hp : -1 ≤ p ∧ p ≤ ((l.length : Nat) : Int)) : placesR l p = plcs (activeP l p) := by
  unfold placesR activeP
  by_cases hr : 0 ≤ p ∧ p ≤ ((l.length : Nat) : Int) - 1
  · rw [if_pos hr, if_neg (by omega)]
    obtain ⟨i, rfl⟩ : ∃ i : Nat, p = ((i : Nat) : Int) := ⟨p.toNat, by omega⟩
    obtain ⟨h1, h2⟩ := act_frm hv (p := ((i : Nat) : Int)) i (Int.le_refl _) (by omega)
    have ho := hv.at (i := i) (by omega)
    have hlen : (stkN l i).length = (actS l ((i : Nat) : Int) i).length := by have := congrArg List.length h1; simpa [plcs] using this.symm
    have hal := actS_len hv (p := ((i : Nat) : Int)) i (by omega) (by omega)
    have hdp := ho.depth
    rw [pushed_len2] at hdp
    have hpl : ∀ k : Int, plcR l ((i : Nat) : Int) k = frm l (i + 1) k := fun k => by rw [plcR, frm, show (((i : Nat) : Int) + 1).toNat = i + 1 from by omega]
    rw [show (((i : Nat) : Int) + 1).toNat = i + 1 from by omega, show plcR l ((i : Nat) : Int) = frm l (i + 1) from funext hpl, actR, Int.toNat_natCast]
    by_cases hk2 : (nth l i).kind = 2
    · rw [actS, if_pos hk2, if_pos hk2, List.nil_append, List.map_append, map_frm (by omega), ← h1, plcs, plcs, List.map_append]
      congr 1
      simp only [List.map_cons, List.map_nil, frm, actOf, Int.toNat_natCast]
      rw [line_start l i (i + 1) (Nat.le_refl _)]
    · rw [if_neg hk2, actS, if_neg hk2]
      by_cases hk1 : (nth l i).kind = 1
      · have hpos := actS_pos hv (p := ((i : Nat) : Int)) (i := i) (Int.le_refl _) (by omega) hk2
        rw [if_neg hk2] at hdp
        rw [if_pos hk1]
        refine (ext_nth (by simp [plcs, actUp_len, hlen]) fun j hj => ?_).symm
        rw [plcs_len, actUp_len] at hj
        have hmap : ∀ j, j < (actS l ((i : Nat) : Int) i).length → nth (plcs (actS l ((i : Nat) : Int) i)) j = frm l i (nth (stkN l i) j) := fun j hj => by rw [h1, nth_map _ (by omega)]
        rw [nth_map _ (by omega), plcs, nth_map _ (by rw [actUp_len]; omega), actUp, nth_set]
        have hjm := hmap j hj
        rw [plcs, nth_map _ hj] at hjm
        have hdj := h2 j (by omega)
        have hlt := stk_lt l i (nth (stkN l i) j) (nth_mem (by omega))
        by_cases hjl : (actS l ((i : Nat) : Int) i).length - 1 = j
        · rw [if_pos ⟨hjl, hj⟩, hjl, hjm]
          simp only [frm]
          rw [← line_y (by omega) ⟨hk1, by rw [hdp, hdj]; omega⟩]
        · rw [if_neg (fun q => hjl q.1), hjm, frm_next]
          rintro ⟨_, q⟩
          rw [hdp, hdj] at q
          omega
      · rw [if_neg hk1, if_neg (by omega), map_frm hk1, ← h1]
  · rw [if_neg hr, if_pos (by omega)]; rfl
/-- At a line event a function shows the variables of that event. -/
theorem show_line {l : List EvM} (hv : Valid l) {p : Int} (hp : 0 ≤ p ∧ p < ((l.length : Nat) : Int)) (hk : (nth l p.toNat).kind = 1) (n : ByteArray) : showP l p n = varOf (nth l p.toNat).locals.el n := by
  obtain ⟨i, rfl⟩ : ∃ i : Nat, p = ((i : Nat) : Int) := ⟨p.toNat, by omega⟩
  rw [Int.toNat_natCast] at hk ⊢
  have hpos := actS_pos hv (p := ((i : Nat) : Int)) (i := i) (Int.le_refl _) (by omega) (by omega)
  have ha : activeP l ((i : Nat) : Int) = actUp (actS l ((i : Nat) : Int) i) (nth l i) i := by
    rw [activeP, if_neg (by omega), show (((i : Nat) : Int) + 1).toNat = i + 1 from by omega, actS, if_neg (by omega), if_pos hk]
  have ht : (nth (activeP l ((i : Nat) : Int)) ((activeP l ((i : Nat) : Int)).length - 1)).stop = ((i : Nat) : Int) := by
    rw [ha, actUp_len, actUp, nth_set, if_pos ⟨rfl, by omega⟩]
  rw [showP, ht, if_neg, Int.toNat_natCast]
  rw [ha, actUp_len]; omega
theorem show_out {l : List EvM} {p : Int} (hp : p = -1 ∨ p = ((l.length : Nat) : Int)) (n : ByteArray) : showP l p n = (⟨#[]⟩, false) := by
  rw [showP, if_pos]
  left
  rw [activeP, if_pos (by omega)]; rfl
/-- A session stands at a line event, ahead of all or behind all. -/
def stands (l : List EvM) (p : Int) : Prop := (p = -1 ∨ p = ((l.length : Nat) : Int)) ∨ ((0 ≤ p ∧ p < ((l.length : Nat) : Int)) ∧ (nth l p.toNat).kind = 1)
theorem prev_st {l : List EvM} {good : EvM → Bool} : ∀ k, k ≤ l.length → stands l (prevF (stopQ good) l k)
  | 0, _ => Or.inl (Or.inl rfl)
  | k + 1, hk => by
    rw [prevF]
    split
    · rename_i h
      exact Or.inr ⟨by omega, by rw [Int.toNat_natCast]; exact (stopQ_iff.2 h).1⟩
    · exact prev_st k (by omega)
theorem next_st {l : List EvM} {good : EvM → Bool} : ∀ n k, k + n = l.length → stands l ((nextF (stopQ good) l k : Nat) : Int)
  | 0, k, hk => by rw [nextF_out (by omega)]; exact Or.inl (Or.inr (by omega))
  | n + 1, k, hk => by
    by_cases h : stopQ good (nth l k) = true
    · rw [nextF_at (by omega) h]
      exact Or.inr ⟨by omega, by rw [Int.toNat_natCast]; exact (stopQ_iff.2 h).1⟩
    · rw [nextF_no (by omega) h]
      exact next_st n (k + 1) (by omega)
theorem move_st {l : List EvM} {brk : List BrkM} {p : Int} {c : ByteArray} (hp : -1 ≤ p ∧ p ≤ ((l.length : Nat) : Int)) (hc : motOk c = true) : stands l (moveP l brk p c) := by
  obtain ⟨h1, h2⟩ := fw_st hc
  unfold moveP
  cases hf : fwR c with
  | true =>
    rw [h1 hf, mvR, if_pos rfl]
    by_cases hl : p = ((l.length : Nat) : Int)
    · rw [nextF_out (by omega)]; exact Or.inl (Or.inr (by omega))
    · have hle := nextF_le (q := stopQ (goodP brk (depthP l p) c)) (l := l) (k := (p + 1).toNat) (by omega)
      rw [Nat.min_eq_left hle]
      exact next_st (l.length - (p + 1).toNat) _ (by omega)
  | false =>
    rw [h2 hf, mvR, if_neg (by decide)]
    exact prev_st _ (by omega)
theorem do_st {l : List EvM} {brk : List BrkM} {p : Int} {c : ByteArray} (hp : -1 ≤ p ∧ p ≤ ((l.length : Nat) : Int)) (hs : stands l p) : stands l (doP l brk p c).2.1 := by
  unfold doP
  split
  · rename_i h; exact move_st hp h
  repeat' split
  all_goals exact hs
theorem st_stands (l : List EvM) (cs : List ByteArray) : ∀ i, stands l (posP l cs i)
  | 0 => Or.inl (Or.inl rfl)
  | i + 1 => by rw [pos_next]; exact do_st (st_range i) (st_stands l cs i)
end Go.Proofs.YtecibcjckinngaaGreatDoor
/- A command's words, as the package and as the reference take them. -/
set_option linter.unusedVariables false
namespace Go.Proofs.YtecibcjckinngaaGreatDoor
open Go Go.RowKit Enc
theorem seg (c : UInt8) : ∀ l : List UInt8, ((∀ x ∈ l, x ≠ c) ∧ Lib.index l [c] = -1) ∨ ∃ a r, l = a ++ c :: r ∧ (∀ x ∈ a, x ≠ c) ∧ Lib.index l [c] = ((a.length : Nat) : Int)
  | [] => Or.inl ⟨fun x hx => by simp at hx, rfl⟩
  | b :: l => by
    by_cases h : b = c
    · subst h
      exact Or.inr ⟨[], l, rfl, fun x hx => by simp at hx, by rw [Lib.index]; simp [List.isPrefixOf]⟩
    · have hp : ([c] : List UInt8).isPrefixOf (b :: l) = false := by simp [List.isPrefixOf, Ne.symm h]
      have hix : Lib.index (b :: l) [c] = if Lib.index l [c] == -1 then -1 else Lib.index l [c] + 1 := by rw [Lib.index, hp]; simp
      rcases seg c l with ⟨h1, h2⟩ | ⟨a, r, h1, h2, h3⟩
      · refine Or.inl ⟨fun x hx => ?_, by rw [hix, h2]; rfl⟩
        rcases List.mem_cons.1 hx with rfl | hx
        · exact h
        · exact h1 x hx
      · refine Or.inr ⟨b :: a, r, by rw [h1]; rfl, fun x hx => ?_, ?_⟩
        · rcases List.mem_cons.1 hx with rfl | hx
          · exact h
          · exact h2 x hx
        · rw [hix, h3, if_neg (by simp only [beq_iff_eq]; omega), List.length_cons]; omega
theorem join_splitL (c : UInt8) : ∀ n l, l.length ≤ n → Lib.join (splitL c l) [c] = l
  | n, l, hn => by
    rcases seg c l with ⟨h1, _⟩ | ⟨a, r, h1, h2, _⟩
    · rw [splitL_none l h1, Lib.join_one]
    · subst h1
      cases n with
      | zero => simp at hn
      | succ n =>
        have ih := join_splitL c n r (by simp only [List.length_append, List.length_cons] at hn; omega)
        rw [splitL_seg a h2, Lib.join_cons]
        congr 1
        cases hs : splitL c r with
        | nil =>
          rw [hs, Lib.join_nil] at ih
          subst ih
          simp [splitL] at hs
        | cons x xs =>
          rw [hs, Lib.join_cons] at ih
          simp only [Lib.joinTail, List.map_cons, List.flatten_cons] at ih ⊢
          rw [← ih]
          simp [Lib.joinTail]
theorem splitL_pos (c : UInt8) (l : List UInt8) : 0 < (splitL c l).length := by
  rcases seg c l with ⟨h1, _⟩ | ⟨a, r, h1, h2, _⟩
  · rw [splitL_none l h1]; simp
  · rw [h1, splitL_seg a h2]; simp
def firstN (c : UInt8) (n : Nat) (L : List (List UInt8)) : List (List UInt8) := if L.length ≤ n then L else L.take n ++ [Lib.join (L.drop n) [c]]
theorem splitK_min (c : UInt8) : ∀ n l, Lib.splitK [c] 0 n l = firstN c n (splitL c l)
  | 0, l => by
    have := splitL_pos c l
    rw [Lib.splitK, firstN, if_neg (by omega), List.take_zero, List.drop_zero, join_splitL c l.length l (Nat.le_refl _)]; rfl
  | n + 1, l => by
    rcases seg c l with ⟨h1, h3⟩ | ⟨a, r, h1, h2, h3⟩
    · rw [Lib.splitK, h3, if_pos (by rfl), splitL_none l h1, firstN, if_pos (by simp)]
    · have ih := splitK_min c n r
      rw [Lib.splitK, h3, if_neg (by simp only [beq_iff_eq]; omega)]
      subst h1
      rw [splitL_seg a h2, Int.toNat_natCast, Nat.add_zero, List.take_left']
      · rw [show ([c] : List UInt8).length = 1 from rfl, show (a ++ c :: r).drop (a.length + 1) = r from by rw [show a ++ c :: r = (a ++ [c]) ++ r from by simp, List.drop_left' (by simp)], ih, firstN, firstN]
        by_cases hl : (splitL c r).length ≤ n
        · rw [if_pos hl, if_pos (by simp only [List.length_cons]; omega)]
        · rw [if_neg hl, if_neg (by simp only [List.length_cons]; omega)]; rfl
      · rfl
theorem ba_list {a b : ByteArray} (h : a.data.toList = b.data.toList) : a = b := by
  cases a; cases b
  simp only at h
  congr 1
  exact Array.toList_inj.1 h
theorem map_list {a b : List ByteArray} (h : a.map (·.data.toList) = b.map (·.data.toList)) : a = b := by
  induction a generalizing b with
  | nil => cases b with
    | nil => rfl
    | cons y b => simp at h
  | cons x a ih => cases b with
    | nil => simp at h
    | cons y b =>
      simp only [List.map_cons, List.cons.injEq] at h
      rw [ba_list h.1, ih h.2]
theorem words_list (c : ByteArray) : (splR c 32).map (·.data.toList) = splitL 32 c.data.toList := splR_eq c 32
theorem sp_list : sp.data.toList = [32] := rfl
/-- One word, or a word and the words of the rest. -/
theorem words_cut (c : ByteArray) : (splR c 32 = [c] ∧ cut1 c = c ∧ cut2 c = ⟨#[]⟩ ∧ ∀ x ∈ c.data.toList, x ≠ 32) ∨ (splR c 32 = cut1 c :: splR (cut2 c) 32 ∧ c.data.toList = (cut1 c).data.toList ++ 32 :: (cut2 c).data.toList ∧ ∀ x ∈ (cut1 c).data.toList, x ≠ 32) := by
  rcases seg 32 c.data.toList with ⟨h1, h2⟩ | ⟨a, r, h1, h2, h3⟩
  · refine Or.inl ⟨map_list ?_, ?_, ?_, h1⟩
    · rw [words_list, splitL_none _ h1]; rfl
    · apply ba_list
      rw [cut1, sp_list, Lib.cut, h2, if_neg (by decide)]
    · apply ba_list
      rw [cut2, sp_list, Lib.cut, h2, if_neg (by decide)]
  · have e : Lib.cut c.data.toList sp.data.toList = (a, r, true) := by
      rw [sp_list, Lib.cut, h3, if_pos (by omega), Int.toNat_natCast, h1, List.take_left' rfl]
      congr 2
      rw [show a ++ 32 :: r = (a ++ [32]) ++ r from by simp, List.drop_left' (by simp)]
    have e1 : (cut1 c).data.toList = a := by rw [cut1, e]
    have e2 : (cut2 c).data.toList = r := by rw [cut2, e]
    refine Or.inr ⟨map_list ?_, by rw [e1, e2, h1], by rw [e1]; exact h2⟩
    rw [List.map_cons, words_list, words_list, e1, e2, h1, splitL_seg a h2]
theorem words_pos (c : ByteArray) : 0 < (splR c 32).length := by
  have := congrArg List.length (words_list c)
  have h2 := splitL_pos 32 c.data.toList
  rw [List.length_map] at this
  omega
theorem split4_min (s : ByteArray) : (split4 s).map (·.data.toList) = firstN 32 3 (splitL 32 s.data.toList) := by
  have hl := congrArg List.length (words_list s)
  rw [List.length_map] at hl
  have hs := splR_len s 32
  rw [split4, Lib.splitB_data, sp_list, splitK_min]
  unfold firstN
  by_cases h : (splitL 32 s.data.toList).length ≤ min 4 (s.size + 1) - 1
  · rw [if_pos h, if_pos (by omega)]
  · rw [if_neg h]
    by_cases h3 : s.size + 1 ≤ 3
    · have hq : (splitL 32 s.data.toList).length = (min 4 (s.size + 1) - 1) + 1 := by omega
      rw [if_pos (by omega)]
      generalize splitL 32 s.data.toList = L at hq
      generalize min 4 (s.size + 1) - 1 = k at hq
      conv => rhs; rw [← List.take_append_drop k L]
      congr 1
      have hd : (L.drop k).length = 1 := by rw [List.length_drop]; omega
      obtain ⟨x, hx⟩ := List.length_eq_one_iff.1 hd
      rw [hx, Lib.join_one]
    · rw [show min 4 (s.size + 1) - 1 = 3 from by omega, if_neg (by omega)]
theorem join_snoc (sep x : List UInt8) (xs : List (List UInt8)) : Lib.join (xs ++ [x]) sep = (if xs = [] then [] else Lib.join xs sep ++ sep) ++ x := by
  cases xs with
  | nil => simp [Lib.join_one]
  | cons y ys =>
    rw [if_neg (by simp), List.cons_append, Lib.join_cons, Lib.join_cons]
    simp [Lib.joinTail]
theorem joinN_list (l : List ByteArray) (b : ByteArray) : ∀ n, n ≤ l.length → (joinN l b n).data.toList = Lib.join ((l.take n).map (·.data.toList)) b.data.toList
  | 0, _ => rfl
  | n + 1, h => by
    have ih := joinN_list l b n (by omega)
    rw [joinN, take_succ_nth (by omega), List.map_append, List.map_cons, List.map_nil, join_snoc]
    have hnil : ((l.take n).map (·.data.toList) = []) ↔ n = 0 := by
      rw [List.map_eq_nil_iff, List.take_eq_nil_iff]
      constructor
      · rintro (h | h)
        · exact h
        · subst h; simp at *
      · exact Or.inl
    by_cases h0 : 0 < n
    · rw [if_pos h0, if_neg (by rw [hnil]; omega), ← ih]
      simp
    · rw [if_neg h0, if_pos (by rw [hnil]; omega)]
      have : n = 0 := by omega
      subst this
      simp [joinN]
theorem joinN_all {l : List ByteArray} {b : ByteArray} : joinN l b l.length = joinB l b := by
  apply ba_list
  rw [joinN_list _ _ _ (Nat.le_refl _), List.take_length, joinB]
/-- The pieces of a text, at most four. -/
theorem pieces (s : ByteArray) : split4 s = if (splR s 32).length ≤ 3 then splR s 32 else (splR s 32).take 3 ++ [joinB ((splR s 32).drop 3) sp] := by
  apply map_list
  rw [split4_min, firstN, ← words_list, List.length_map]
  split
  · rfl
  · rw [List.map_append, List.map_take, List.map_cons, List.map_nil, joinB, List.map_drop, sp_list]
end Go.Proofs.YtecibcjckinngaaGreatDoor
/- What a command does, by the reference's words. -/
set_option linter.unusedVariables false
namespace Go.Proofs.YtecibcjckinngaaGreatDoor
open Go Go.RowKit Enc
def sShowW : ByteArray := ⟨#[115, 104, 111, 119]⟩
def isShowR (c : ByteArray) : Prop := (nth (splR c (32 : Int)) 0 = sShowW) ∧ ((1 : Int) < (((splR c (32 : Int)).length : Nat) : Int))
def isBrkR (c : ByteArray) : Prop := (nth (splR c (32 : Int)) 0 = sBreak) ∧ (((((splR c (32 : Int)).length : Nat) : Int) = (3 : Int)) ∨ ((4 : Int) < (((splR c (32 : Int)).length : Nat) : Int)))
theorem nil_words : (splR (⟨#[]⟩ : ByteArray) 32).length = 1 := by
  have := congrArg List.length (words_list (⟨#[]⟩ : ByteArray))
  rw [List.length_map] at this
  exact this
theorem pieces_len (s : ByteArray) : (split4 s).length = min 4 (splR s 32).length := by
  rw [pieces]
  split
  · omega
  · simp only [List.length_append, List.length_take, List.length_cons, List.length_nil]; omega
theorem brk_iff (c : ByteArray) : isBrk c ↔ isBrkR c := by
  unfold isBrk isBrkR
  rw [pieces_len]
  rcases words_cut c with ⟨h1, h2, h3, _⟩ | ⟨h1, h2, _⟩
  · rw [h1, h2, h3, nil_words]
    constructor
    · rintro ⟨_, h⟩; omega
    · rintro ⟨_, h⟩; simp at h
  · have hp := words_pos (cut2 c)
    rw [h1]
    have hn : nth (cut1 c :: splR (cut2 c) 32) 0 = cut1 c := rfl
    rw [hn, List.length_cons]
    constructor
    · rintro ⟨a, h⟩; exact ⟨a, by omega⟩
    · rintro ⟨a, h⟩; exact ⟨a, by omega⟩
theorem seg_eq {c : UInt8} : ∀ {a a' r r' : List UInt8}, (∀ x ∈ a, x ≠ c) → (∀ x ∈ a', x ≠ c) → a ++ c :: r = a' ++ c :: r' → a = a' ∧ r = r'
  | [], [], r, r', _, _, h => by simp at h; exact ⟨rfl, h⟩
  | [], y :: a', r, r', _, h2, h => by simp at h; exact absurd h.1.symm (h2 y (by simp))
  | x :: a, [], r, r', h1, _, h => by simp at h; exact absurd h.1 (h1 x (by simp))
  | x :: a, y :: a', r, r', h1, h2, h => by
    simp only [List.cons_append, List.cons.injEq] at h
    obtain ⟨e1, e2⟩ := seg_eq (fun z hz => h1 z (by simp [hz])) (fun z hz => h2 z (by simp [hz])) h.2
    exact ⟨by rw [h.1, e1], e2⟩
theorem showW_list : sShow.data.toList = sShowW.data.toList ++ 32 :: [] := rfl
theorem show_iff (c : ByteArray) : isShow c = true ↔ isShowR c := by
  have hpre : isShow c = true ↔ ∃ t, c.data.toList = sShowW.data.toList ++ 32 :: t := by
    unfold isShow Lib.hasPrefix
    rw [List.isPrefixOf_iff_prefix]
    constructor
    · rintro ⟨t, h⟩; exact ⟨t, by rw [← h, showW_list]; simp⟩
    · rintro ⟨t, h⟩; exact ⟨t, by rw [h, showW_list]; simp⟩
  rw [hpre]
  unfold isShowR
  rcases words_cut c with ⟨h1, h2, h3, h4⟩ | ⟨h1, h2, h4⟩
  · rw [h1]
    constructor
    · rintro ⟨t, h⟩
      exact absurd rfl (h4 32 (by rw [h]; simp))
    · rintro ⟨_, h⟩; simp at h
  · have hp := words_pos (cut2 c)
    rw [h1]
    have hn : nth (cut1 c :: splR (cut2 c) 32) 0 = cut1 c := rfl
    rw [hn, List.length_cons]
    constructor
    · rintro ⟨t, h⟩
      rw [h2] at h
      exact ⟨ba_list (seg_eq h4 (by decide) h).1, by omega⟩
    · rintro ⟨a, h⟩; exact ⟨(cut2 c).data.toList, by rw [h2, a]⟩
theorem show_name {c : ByteArray} (h : isShowR c) : c.extract 5 c.size = cut2 c := by
  unfold isShowR at h
  rcases words_cut c with ⟨h1, h2, h3, h4⟩ | ⟨h1, h2, h4⟩
  · rw [h1] at h; have := h.2; simp at this
  · rw [h1] at h
    have hn : nth (cut1 c :: splR (cut2 c) 32) 0 = cut1 c := rfl
    rw [hn] at h
    apply ba_list
    rw [extract_list, h2, h.1]
    have hs : c.size = c.data.toList.length := by simp
    rw [List.take_of_length_le]
    · rfl
    · rw [hs, h2, h.1]; simp [sShowW]
theorem not_both {c : ByteArray} (h : isShowR c) : ¬ isBrkR c := by
  rintro ⟨h2, _⟩
  rw [h.1] at h2
  revert h2; decide
section
variable {l : List EvM} {brk : List BrkM} {p : Int} {c : ByteArray}
theorem do_show (h : ¬ motOk c = true) (h2 : ¬ c = sClear) (h3 : ¬ c = sWhere) (h4 : isShowR c) : doP l brk p c = (showT l p c, p, brk) := do_e h h2 h3 (fun q => not_both h4 ((brk_iff c).1 q)) ((show_iff c).2 h4)
theorem do_brkR (h : ¬ motOk c = true) (h2 : ¬ c = sClear) (h3 : ¬ c = sWhere) (h5 : isBrkR c) : doP l brk p c = ((addP brk (split4 (cut2 c))).1, p, (addP brk (split4 (cut2 c))).2) := do_d h h2 h3 ((brk_iff c).2 h5)
theorem do_none (h : ¬ motOk c = true) (h2 : ¬ c = sClear) (h3 : ¬ c = sWhere) (h4 : ¬ isShowR c) (h5 : ¬ isBrkR c) : doP l brk p c = (sWhat, p, brk) := do_f h h2 h3 (fun q => h5 ((brk_iff c).1 q)) (fun q => h4 ((show_iff c).1 q))
end
abbrev w1 (c : ByteArray) : ByteArray := nth (splR c (32 : Int)) 1
abbrev w2 (c : ByteArray) : ByteArray := nth (splR c (32 : Int)) 2
abbrev w3 (c : ByteArray) : ByteArray := nth (splR c (32 : Int)) 3
abbrev w4 (c : ByteArray) : ByteArray := joinN ((splR c (32 : Int)).drop 4) sp ((splR c (32 : Int)).drop 4).length
theorem nth_tk {α : Type} [Inhabited α] {l m : List α} {n i : Nat} (h : i < n) (h2 : i < l.length) : nth (l.take n ++ m) i = nth l i := by
  rw [nth_app_l (by rw [List.length_take]; omega)]
  simp only [nth, List.getD_eq_getElem?_getD]
  rw [List.getElem?_take_of_lt h]
theorem brk_words {c : ByteArray} (h : isBrkR c) : nth (split4 (cut2 c)) 0 = w1 c ∧ nth (split4 (cut2 c)) 1 = w2 c ∧ ((4 : Int) < (((splR c (32 : Int)).length : Nat) : Int) → (split4 (cut2 c)).length = 4 ∧ nth (split4 (cut2 c)) 2 = w3 c ∧ nth (split4 (cut2 c)) 3 = w4 c) ∧ (¬ (4 : Int) < (((splR c (32 : Int)).length : Nat) : Int) → (split4 (cut2 c)).length = 2) := by
  have hl := pieces_len (cut2 c)
  obtain ⟨h0, h⟩ := h
  unfold w1 w2 w3 w4
  rcases words_cut c with ⟨h1, h2, h3, h4⟩ | ⟨h1, h2, h4⟩
  · rw [h1] at h; simp at h
  · rw [h1] at h ⊢
    simp only [List.length_cons] at h ⊢
    generalize hW : splR (cut2 c) 32 = V at *
    have e1 : nth (cut1 c :: V) 1 = nth V 0 := rfl
    have e2 : nth (cut1 c :: V) 2 = nth V 1 := rfl
    have e3 : nth (cut1 c :: V) 3 = nth V 2 := rfl
    have e4 : (cut1 c :: V).drop 4 = V.drop 3 := rfl
    rw [e1, e2, e3, e4, joinN_all, pieces, hW]
    by_cases h3 : V.length ≤ 3
    · rw [if_pos h3]
      exact ⟨rfl, rfl, fun q => by omega, fun _ => by omega⟩
    · rw [if_neg h3]
      refine ⟨nth_tk (by omega) (by omega), nth_tk (by omega) (by omega), fun _ => ⟨?_, nth_tk (by omega) (by omega), ?_⟩, fun q => by omega⟩
      · simp only [List.length_append, List.length_take, List.length_cons, List.length_nil]; omega
      · rw [nth_app_r (j := 0) (by rw [List.length_take]; omega)]; rfl
def numOkR (c : ByteArray) : Prop := ((numR (w2 c)).2 = true) ∧ ((0 : Int) ≤ (numR (w2 c)).1)
abbrev brk5 (c : ByteArray) : BrkM := ⟨w1 c, (numR (w2 c)).1, w3 c, w4 c⟩
abbrev brk3 (c : ByteArray) : BrkM := ⟨w1 c, (numR (w2 c)).1, ⟨#[]⟩, ⟨#[]⟩⟩
section
variable {brk : List BrkM} {c : ByteArray}
theorem add_bad (hb : isBrkR c) (hn : ¬ numOkR c) : addP brk (split4 (cut2 c)) = (sWhat, brk) := by
  obtain ⟨h0, h1, _, _⟩ := brk_words hb
  exact add_a (by rw [h1]; exact fun q => hn ((num_law _).2 q))
theorem new_5 (hb : isBrkR c) (hn : numOkR c) (h4 : (4 : Int) < (((splR c (32 : Int)).length : Nat) : Int)) : newBrk (split4 (cut2 c)) = brk5 c := by
  obtain ⟨h0, h1, h2, _⟩ := brk_words hb
  obtain ⟨h5, h6, h7⟩ := h2 h4
  rw [newBrk, if_pos h5, h0, h1, h6, h7, ← num_val ((num_law _).1 hn)]
theorem new_3 (hb : isBrkR c) (hn : numOkR c) (h4 : ¬ (4 : Int) < (((splR c (32 : Int)).length : Nat) : Int)) : newBrk (split4 (cut2 c)) = brk3 c := by
  obtain ⟨h0, h1, _, h2⟩ := brk_words hb
  rw [newBrk, if_neg (by rw [h2 h4]; decide), h0, h1, ← num_val ((num_law _).1 hn)]
theorem add_5y (hb : isBrkR c) (hn : numOkR c) (h4 : (4 : Int) < (((splR c (32 : Int)).length : Nat) : Int)) (h : ((breaksFault (brk ++ [brk5 c])).1 = (0 : Int)) ∧ (((((splR c (32 : Int)).length : Nat) : Int) = (3 : Int)) ∨ (w3 c ≠ (⟨#[]⟩ : ByteArray)))) : addP brk (split4 (cut2 c)) = (sBreakpoint ++ itoaB (((brk ++ [brk5 c]).length : Nat) : Int), brk ++ [brk5 c]) := by
  obtain ⟨h0, h1, h2, _⟩ := brk_words hb
  obtain ⟨h5, h6, h7⟩ := h2 h4
  rw [add_c (by rw [h1]; exact (num_law _).1 hn), new_5 hb hn h4]
  rintro (q | ⟨_, q⟩)
  · rw [new_5 hb hn h4] at q; exact q h.1
  · rw [new_5 hb hn h4] at q
    rcases h.2 with r | r
    · omega
    · exact r q
theorem add_5n (hb : isBrkR c) (hn : numOkR c) (h4 : (4 : Int) < (((splR c (32 : Int)).length : Nat) : Int)) (h : ¬ (((breaksFault (brk ++ [brk5 c])).1 = (0 : Int)) ∧ (((((splR c (32 : Int)).length : Nat) : Int) = (3 : Int)) ∨ (w3 c ≠ (⟨#[]⟩ : ByteArray))))) : addP brk (split4 (cut2 c)) = (sRefused, brk) := by
  obtain ⟨h0, h1, h2, _⟩ := brk_words hb
  obtain ⟨h5, h6, h7⟩ := h2 h4
  refine add_b (by rw [h1]; exact (num_law _).1 hn) (Decidable.byContradiction fun q => h ?_)
  unfold refuses at q
  rw [new_5 hb hn h4] at q
  simp only [not_or, not_and, ne_eq, Decidable.not_not] at q
  exact ⟨q.1, Or.inr (q.2 h5)⟩
theorem add_3y {X : Prop} (hb : isBrkR c) (hn : numOkR c) (h4 : ¬ (4 : Int) < (((splR c (32 : Int)).length : Nat) : Int)) (h : ((breaksFault (brk ++ [brk3 c])).1 = (0 : Int)) ∧ X) : addP brk (split4 (cut2 c)) = (sBreakpoint ++ itoaB (((brk ++ [brk3 c]).length : Nat) : Int), brk ++ [brk3 c]) := by
  obtain ⟨h0, h1, _, h2⟩ := brk_words hb
  rw [add_c (by rw [h1]; exact (num_law _).1 hn), new_3 hb hn h4]
  rintro (q | ⟨q, _⟩)
  · rw [new_3 hb hn h4] at q; exact q h.1
  · rw [h2 h4] at q; cases q
theorem add_3n {X : Prop} (hb : isBrkR c) (hn : numOkR c) (h4 : ¬ (4 : Int) < (((splR c (32 : Int)).length : Nat) : Int)) (h : ¬ (((breaksFault (brk ++ [brk3 c])).1 = (0 : Int)) ∧ (((((splR c (32 : Int)).length : Nat) : Int) = (3 : Int)) ∨ X))) : addP brk (split4 (cut2 c)) = (sRefused, brk) := by
  obtain ⟨h0, h1, _, h2⟩ := brk_words hb
  refine add_b (by rw [h1]; exact (num_law _).1 hn) (Or.inl ?_)
  rw [new_3 hb hn h4]
  exact fun q => h ⟨q, Or.inl (by rcases hb.2 with r | r <;> omega)⟩
end
/-- The places of a 'where', as the reference writes them one by one. -/
def whereN (ps : List PlcM) : Nat → ByteArray
  | 0 => sNowhere
  | i + 1 => if ((i : Nat) : Int) = (0 : Int) then placeB (nth ps 0) else (placeB (nth ps i) ++ sSemi) ++ whereN ps i
theorem where_y {ps : List PlcM} {i : Nat} (h : ((i : Nat) : Int) = (0 : Int)) : placeB (nth ps 0) = whereN ps (i + 1) := by rw [whereN, if_pos h]
theorem where_n {ps : List PlcM} {i : Nat} (h : ¬ ((i : Nat) : Int) = (0 : Int)) : (placeB (nth ps i) ++ sSemi) ++ whereN ps i = whereN ps (i + 1) := by rw [whereN, if_neg h]
theorem whereN_size {ps : List PlcM} (h : ∀ q ∈ ps, Small3 q) : ∀ i, i ≤ ps.length → (whereN ps i).size ≤ 7 + i * 2097202
  | 0, _ => by rw [whereN]; decide
  | i + 1, hi => by
    have ih := whereN_size h i (by omega)
    have h1 := place_size (h _ (nth_mem (l := ps) (i := i) (by omega)))
    have h0 := place_size (h _ (nth_mem (l := ps) (i := 0) (by omega)))
    have hy : sSemi.size = 2 := rfl
    rw [whereN]
    split
    · omega
    · simp only [ByteArray.size_append]; omega
theorem whereN_list {ps : List PlcM} : ∀ i, 0 < i → i ≤ ps.length → (whereN ps i).data.toList = Lib.join ((whereL (ps.take i)).map (·.data.toList)) sSemi.data.toList
  | 0, h, _ => by omega
  | i + 1, _, hi => by
    rw [whereN]
    have ht : whereL (ps.take (i + 1)) = placeB (nth ps i) :: whereL (ps.take i) := by
      rw [whereL, take_succ_nth (by omega), List.reverse_append]; rfl
    rw [ht, List.map_cons, Lib.join_cons]
    by_cases h0 : ((i : Nat) : Int) = (0 : Int)
    · have : i = 0 := by omega
      subst this
      rw [if_pos h0]; simp [whereL, Lib.joinTail]
    · rw [if_neg h0]
      have ih := whereN_list (ps := ps) i (by omega) (by omega)
      cases hs : (whereL (ps.take i)).map (·.data.toList) with
      | nil =>
        have := congrArg List.length hs
        simp only [whereL, List.length_map, List.length_reverse, List.length_take, List.length_nil] at this
        omega
      | cons x xs =>
        rw [hs, Lib.join_cons] at ih
        simp only [ByteArray.data_append, Array.toList_append, ih, Lib.joinTail, List.map_cons, List.flatten_cons, List.append_assoc]
theorem where_all {l : List EvM} {p : Int} : whereN (plcs (activeP l p)) (plcs (activeP l p)).length = whereP l p := by
  unfold whereP
  have hl : (whereL (plcs (activeP l p))).length = (plcs (activeP l p)).length := by simp [whereL]
  rw [hl]
  by_cases h : (((plcs (activeP l p)).length : Nat) : Int) = (0 : Int)
  · rw [if_pos h, show (plcs (activeP l p)).length = 0 from by omega]; rfl
  · rw [if_neg h]
    apply ba_list
    rw [whereN_list _ (by omega) (Nat.le_refl _), List.take_length, joinB]
theorem c23s (l : Sl EvM) (p : Int) (n : ByteArray) (w : World) (hl : ok w l) (hv : Valid l.el) (hs : stands l.el p) : RetV Tryz.prog 23 #[.slice l.addr l.el.length l.cap, .int .i64 p, .string n] w (.tuple #[.string (showP l.el p n).1, .bool (showP l.el p n).2]) := by
  rcases hs with hs | ⟨h1, h2⟩
  · rw [show_out hs]; exact c23a l p n w hl hs
  · rw [show_line hv h1 h2]; exact c23b l p n w hl h1 h2
theorem c22s (l : Sl EvM) (p : Int) (w : World) (hl : ok w l) (hv : Valid l.el) (hp : -1 ≤ p ∧ p ≤ l.el.length) : RetRow Tryz.prog 22 #[.slice l.addr l.el.length l.cap, .int .i64 p] w 54 (plcs (activeP l.el p)) := by
  rw [← places_same hv hp]; exact c22 l p w hl hv.len hp
end Go.Proofs.YtecibcjckinngaaGreatDoor
/- Sizes for the walk over the reference's answers. -/
set_option linter.unusedVariables false
namespace Go.Proofs.YtecibcjckinngaaGreatDoor
open Go Go.RowKit Enc
theorem tail_app (sep : List UInt8) (a b : List (List UInt8)) : Lib.joinTail sep (a ++ b) = Lib.joinTail sep a ++ Lib.joinTail sep b := by simp [Lib.joinTail]
theorem join_take (sep : List UInt8) (L : List (List UInt8)) (n : Nat) : (Lib.join (L.take n) sep).length ≤ (Lib.join L sep).length := by
  cases L with
  | nil => simp
  | cons x L =>
    cases n with
    | zero => simp [Lib.join_nil]
    | succ n =>
      rw [List.take_succ_cons, Lib.join_cons, Lib.join_cons]
      conv => rhs; rw [← List.take_append_drop n L, tail_app]
      simp only [List.length_append]; omega
theorem join_drop (sep : List UInt8) : ∀ (n : Nat) (L : List (List UInt8)), (Lib.join (L.drop n) sep).length ≤ (Lib.join L sep).length
  | 0, L => by simp
  | n + 1, [] => by simp
  | n + 1, x :: L => by
    have ih := join_drop sep n L
    rw [List.drop_succ_cons]
    refine Nat.le_trans ih ?_
    rw [Lib.join_cons]
    cases L with
    | nil => simp [Lib.join_nil]
    | cons y ys =>
      rw [Lib.join_cons]
      simp only [Lib.joinTail, List.map_cons, List.flatten_cons, List.length_append]; omega
theorem join4_size (c : ByteArray) (i : Nat) (hi : i ≤ ((splR c (32 : Int)).drop 4).length) : (joinN ((splR c (32 : Int)).drop 4) sp i).size ≤ c.size := by
  have h1 : (joinN ((splR c (32 : Int)).drop 4) sp i).size = (joinN ((splR c (32 : Int)).drop 4) sp i).data.toList.length := by simp
  have h2 : c.size = c.data.toList.length := by simp
  rw [h1, h2, joinN_list _ _ _ hi, List.map_take, List.map_drop, sp_list]
  refine Nat.le_trans (join_take _ _ _) (Nat.le_trans (join_drop _ _ _) ?_)
  rw [show (splR c (32 : Int)) = splR c 32 from rfl, words_list, join_splitL 32 _ c.data.toList (Nat.le_refl _)]
  exact Nat.le_refl _
theorem word_size {c : ByteArray} (hc : c.size ≤ 1048576) (i : Nat) : (nth (splR c (32 : Int)) i).size ≤ 1048576 := nth_size (fun q hq => by have := splR_size q hq; omega) i
theorem brk_small {c : ByteArray} (hc : c.size ≤ 1048576) (hn : numOkR c) : Small (brk5 c) ∧ Small (brk3 c) := by
  have hb := atoiV_bd (w2 c)
  rw [← num_val ((num_law _).1 hn)] at hb
  have h4 := join4_size c _ (Nat.le_refl _)
  exact ⟨⟨word_size hc 1, word_size hc 3, by show (w4 c).size ≤ _; unfold w4; omega, hb⟩, ⟨word_size hc 1, by show (0 : Nat) ≤ _; omega, by show (0 : Nat) ≤ _; omega, hb⟩⟩
theorem len_51 {brk : List BrkM} {b : BrkM} (h : brk.length ≤ 50) : (brk ++ [b]).length ≤ 51 := by simp only [List.length_append, List.length_cons, List.length_nil]; omega
theorem show_size5 {c : ByteArray} (h : isShowR c) : 5 ≤ c.size := by
  have h2 := (show_iff c).2 h
  unfold isShow Lib.hasPrefix at h2
  rw [List.isPrefixOf_iff_prefix] at h2
  obtain ⟨t, ht⟩ := h2
  have hs : c.size = c.data.toList.length := by simp
  rw [hs, ← ht, List.length_append]
  exact Nat.le_add_right _ _
theorem w4_row {c : ByteArray} (hc : c.size ≤ 1048576) : ((splR c (32 : Int)).drop 4).length * by_ ByteArray ≤ 140737488355328 := by
  have h := splR_len c (32 : Int)
  have h2 : ((splR c (32 : Int)).drop 4).length ≤ 1048577 := by rw [List.length_drop]; omega
  exact Nat.le_trans (Nat.mul_le_mul_right 16 h2) (by decide)
end Go.Proofs.YtecibcjckinngaaGreatDoor
