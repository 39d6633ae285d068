/- What is proved: the law DebuggerSessionMatchesSpec, where what it reads is of bulk at most 1048576 (the second form), and its card; the last theorem. Conditions: those of the row, nothing more. -/
import Derived.Test.YtecibcjckinngaaGreatDoorM5
import Derived.Test.YtecibcjckinngaaGreatDoorRows
import Derived.Deep.Slices
import Derived.OpenShut
import Derived.Test.YtecibcjckinngaaGreatDoorCards
import Derived.Test.YtecibcjckinngaaGreatDoorTie
import Derived.Deep.DeepHandedRow
import Derived.LaidLaws
import Derived.RowKit
import Derived.Carry
import Derived.Stop.LaidErr
import Derived.Lib.LaidTab
set_option linter.unusedSimpArgs false
/- Walk over the reference's answers. -/
set_option linter.unusedVariables false
namespace Go.Proofs.YtecibcjckinngaaGreatDoor
open Go Go.RowKit Enc
attribute [local irreducible] Effect OpsE RunE AnyE AnyAt Quiet Res1


theorem c9 (l : Sl EvM) (cs : Sl ByteArray) (w : World) (hl : ok w l) (hcs0 : ok w cs) (hT : Tabs w) (hv : Valid l.el) (hs : ∀ e ∈ l.el, e.mod.size ≤ 1048576 ∧ e.fn.size ≤ 1048576) (hcl : ∀ c ∈ cs.el, c.size ≤ 1048576) (hcn : cs.el.length ≤ 200) : RetRow Tryz.prog 9 #[.slice l.addr l.el.length l.cap, .slice cs.addr cs.el.length cs.cap] w 9 (ansP l.el cs.el cs.el.length) := by
  intro tg
  have L0 := Sl.OK.le hl (by decide)
  have L1 := Sl.OK.le hcs0 (by decide)
  have LV := hv.len
  have hli : ∀ e ∈ l.el, -9223372036854775808 ≤ e.line ∧ e.line ≤ 9223372036854775807 := fun e he => EvM.OK.line ((show Sl.OK w l from hl).el e he)
  refine calls_of (args := [.slice l.addr l.el.length l.cap, .slice cs.addr cs.el.length cs.cap]) Tryz.func9 rfl Tryz.ntmps9 rfl (H := [(100, .fz (fun w => ok w l)), (101, .fz (fun w => ok w cs)), (199, .fz (fun w => Tabs w))]) (Facts.sep (.cons (supp_ok hl) (.cons (supp_ok hcs0) (.cons (supp_tabs hT) (.nil))))) ?_
  refine r_seq ?_
  refine r_region ?_
  refine s1 rfl (q_assign rfl) ?_
  refine o_end ?_
  refine r_seq ?_
  refine r_region ?_
  refine s1 rfl (q_assign rfl) ?_
  refine o_end ?_
  refine r_seq ?_
  refine r_region ?_
  refine s1 rfl (q_assign rfl) ?_
  refine o_end ?_
  refine r_seq ?_
  refine r_region ?_
  refine s1 rfl (q_assign rfl) ?_
  refine o_end ?_
  refine r_seq ?_
  refine r_seq ?_
  refine r_region ?_
  refine s1 rfl (q_assign rfl) ?_
  refine o_end ?_
  refine r_block ?_
  refine r_know (fun w hw => (hw.nilRow 500 9 1).fnTrue (t := 51) rfl (χ := fun w => ok w (⟨none, 0, []⟩ : Sl BrkM)) (fun _ => ok_nil)) ?_
  refine r_loop ?_
  refine RunE.weaken ?_ ?_ (r_rounds4 (fun (i : Nat) (a1 : Option Addr) (c2 : Nat) (brk : Sl BrkM) => [(0, .slice l.addr l.el.length l.cap), (1, .slice cs.addr cs.el.length cs.cap), (5, .int .i64 (posP l.el cs.el i)), (6, .slice brk.addr brk.el.length brk.cap), (7, .slice a1 ((ansP l.el cs.el i).length) c2), (8, .int .i64 ((i : Nat) : Int))]) (fun (i : Nat) (a1 : Option Addr) (c2 : Nat) (brk : Sl BrkM) => [(100, .fz (fun w => ok w l)), (101, .fz (fun w => ok w cs)), (199, .fz (fun w => Tabs w)), (500, .row 9 1 a1 ((ansP l.el cs.el i).length) c2 (encs (ansP l.el cs.el i))), (51, .fn (fun w => ok w brk))]) (fun (i : Nat) (a1 : Option Addr) (c2 : Nat) (brk : Sl BrkM) => i ≤ cs.el.length ∧ brk.el = brkP l.el cs.el i) (fun (i : Nat) (a1 : Option Addr) (c2 : Nat) (brk : Sl BrkM) => cs.el.length - i) ?_ 0 none 0 (⟨none, 0, []⟩) ?_)
  · exact (.cons rfl (.cons rfl (.cons rfl (.cons rfl (.cons rfl (.cons rfl (.nil)))))))
  · exact (.cons rfl (.cons rfl (.cons rfl (.cons rfl (.cons rfl (.nil))))))
  · intro i a1 c2 brk hI0 ih0
    obtain ⟨hI1, hI2⟩ := hI0
    have hB : BrkOK brk.el := by rw [hI2]; exact st_brk (l := l.el) hcl i
    have hBl := hB.len
    have hP := st_range (l := l.el) (cs := cs.el) i
    have hSt := st_stands l.el cs.el i
    have hS := act_small hv.len hs hli hP.2
    have hA := ans_len l.el cs.el i
    have hcz := nth_size hcl i
    have hwl := splR_len (nth cs.el i) (32 : Int)
    have hwp := words_pos (nth cs.el i)
    have hpl : (plcs (activeP l.el (posP l.el cs.el i))).length = (activeP l.el (posP l.el cs.el i)).length := by simp [plcs]
    have hal := activeP_len l.el (posP l.el cs.el i) hP.2
    refine r_seq ?_
    refine r_seq ?_
    refine r_region ?_
    refine s1 rfl (q_move rfl) ?_
    refine s1 rfl (q_move rfl) ?_
    refine s1 rfl (q_len Tryz.underlying23 rfl) ?_
    refine s1 rfl (q_lss rfl rfl) ?_
    refine o_end ?_
    refine r_if rfl (fun hp1 => ?_) (fun hp1 => ?_)
    · refine r_skip ?_
      refine r_seq ?_
      refine r_block ?_
      refine r_seq ?_
      refine r_region ?_
      refine s1 rfl (q_move rfl) ?_
      refine s1 rfl (q_move rfl) ?_
      refine s1 rfl (q_indexAddr Tryz.underlying23 z9 rfl rfl rfl (by omega) (by omega) (fun w hw => Sl.OK.isSome (hw.get_fz (t := 101) rfl) (by decide) (i := i) (by omega))) ?_
      refine s1 rfl (q_load ag9 rfl (fun w hw => Sl.OK.cell0 (hw.get_fz (t := 101) rfl) (i := i) (by omega) rfl)) ?_
      refine s1 rfl (q_assign rfl) ?_
      refine o_end ?_
      refine r_seq ?_
      refine r_region ?_
      refine s1 rfl (q_assign rfl) ?_
      refine o_end ?_
      refine r_seq ?_
      refine r_region ?_
      refine s1 rfl (q_move rfl) ?_
      refine sx rfl (e_callx en19 (.cons rfl (.cons rfl (.nil))) ((fun w hw => c19 (nth cs.el i) (32 : Int) w (by omega) 34)) (fun _ => nofz (fun _ h => by cases h))) (fun ⟨a3, c4⟩ _ => ?_)
      refine s1 rfl (q_assign rfl) ?_
      refine o_end ?_
      refine r_seq ?_
      refine r_region ?_
      iterate 4 refine s1 rfl (q_move rfl) ?_
      refine sx rfl (e_call en20 (.cons rfl (.cons rfl (.cons rfl (.cons rfl (.nil))))) ((fun w hw => c20 l brk (posP l.el cs.el i) (nth cs.el i) w (hw.get_fz (t := 100) rfl) (hw.get_fn (t := 51) rfl) (by omega)))) (fun _ _ => ?_)
      refine s1 rfl (q_move rfl) ?_
      refine s1 rfl (q_extract rfl rfl) ?_
      refine s1 rfl (q_extract rfl rfl) ?_
      refine s1 rfl (q_assign rfl) ?_
      refine s1 rfl (q_assign rfl) ?_
      refine o_end ?_
      refine r_seq ?_
      refine r_seq ?_
      refine r_region ?_
      refine s1 rfl (q_move rfl) ?_
      refine o_end ?_
      refine r_ifb rfl (fun hp2 => ?_) (fun hp2 => ?_)
      · rw [show movedR l.el brk.el (posP l.el cs.el i) (nth cs.el i) = moveP l.el brk.el (posP l.el cs.el i) (nth cs.el i) from moved_move hv hP hp2]
        have hmr := moveP_range (brk := brk.el) hP hp2
        refine r_seq ?_
        refine r_region ?_
        refine s1 rfl (q_move rfl) ?_
        refine s1 rfl (q_assign rfl) ?_
        refine o_end ?_
        refine r_seq ?_
        refine r_region ?_
        refine s1 rfl (q_move rfl) ?_
        refine s1 rfl (q_lss rfl rfl) ?_
        refine o_end ?_
        refine r_if rfl (fun hp3 => ?_) (fun hp3 => ?_)
        · refine r_region ?_
          refine s1 rfl (q_assign rfl) ?_
          refine o_end ?_
          refine r_region ?_
          refine s1 rfl (q_move rfl) ?_
          refine s1 rfl (q_move rfl) ?_
          refine sx rfl (e_bslice (cs := encs ([sStart] : List ByteArray)) Tryz.underlying23 zi9 (.cons rfl (.nil)) (by kernel_rfl) rfl rfl rfl) (fun g5 _ => ?_)
          refine sx rfl (e_appendL (tg := 500) (l := ansP l.el cs.el i) (l' := ([sStart] : List ByteArray)) Tryz.underlying23 in9 rfl rfl rfl rfl rfl rfl rfl (fun w hw => Shows.row (hw.row (tg := 188) rfl)) (by simp only [List.length_cons, List.length_nil]; omega)) (fun ⟨a6, c7⟩ _ => ?_)
          refine s1 rfl (q_assign rfl) ?_
          refine o_end ?_
          refine r_inBlock ?_
          refine r_region ?_
          refine s1 rfl (q_move rfl) ?_
          refine s1 rfl (q_add rfl rfl (by omega)) ?_
          refine s1 rfl (q_assign rfl) ?_
          refine o_end ?_
          have hd : doP l.el brk.el (posP l.el cs.el i) (nth cs.el i) = (sStart, moveP l.el brk.el (posP l.el cs.el i) (nth cs.el i), brk.el) := by (rw [do_a hp2]; unfold moveT; rw [if_pos (by omega)])
          rw [show (ansP l.el cs.el i) ++ ([sStart] : List ByteArray) = ansP l.el cs.el (i + 1) from (by rw [ans_next, answer, ← hI2, hd])]
          refine r_inLoop ?_
          refine RunE.weaken ?_ ?_ (ih0 (i + 1) a6 c7 brk ?_ ?_)
          · exact (.cons rfl (.cons rfl (.consE rfl (congrArg (Value.int .i64) (by rw [pos_next, ← hI2, hd])) (.cons rfl (.cons rfl (.cons rfl (.nil)))))))
          · exact (.cons rfl (.cons rfl (.cons rfl (.cons rfl (.cons rfl (.nil))))))
          · exact ⟨by omega, by rw [brk_next, ← hI2, hd]⟩
          · omega
        · refine r_seq ?_
          refine r_region ?_
          refine s1 rfl (q_move rfl) ?_
          refine s1 rfl (q_move rfl) ?_
          refine s1 rfl (q_len Tryz.underlying22 rfl) ?_
          refine s1 rfl (q_eql rfl rfl) ?_
          refine o_end ?_
          refine r_if rfl (fun hp4 => ?_) (fun hp4 => ?_)
          · refine r_region ?_
            refine s1 rfl (q_assign rfl) ?_
            refine o_end ?_
            refine r_region ?_
            refine s1 rfl (q_move rfl) ?_
            refine s1 rfl (q_move rfl) ?_
            refine sx rfl (e_bslice (cs := encs ([sEnd] : List ByteArray)) Tryz.underlying23 zi9 (.cons rfl (.nil)) (by kernel_rfl) rfl rfl rfl) (fun g8 _ => ?_)
            refine sx rfl (e_appendL (tg := 500) (l := ansP l.el cs.el i) (l' := ([sEnd] : List ByteArray)) Tryz.underlying23 in9 rfl rfl rfl rfl rfl rfl rfl (fun w hw => Shows.row (hw.row (tg := 188) rfl)) (by simp only [List.length_cons, List.length_nil]; omega)) (fun ⟨a9, c10⟩ _ => ?_)
            refine s1 rfl (q_assign rfl) ?_
            refine o_end ?_
            refine r_inBlock ?_
            refine r_region ?_
            refine s1 rfl (q_move rfl) ?_
            refine s1 rfl (q_add rfl rfl (by omega)) ?_
            refine s1 rfl (q_assign rfl) ?_
            refine o_end ?_
            have hd : doP l.el brk.el (posP l.el cs.el i) (nth cs.el i) = (sEnd, moveP l.el brk.el (posP l.el cs.el i) (nth cs.el i), brk.el) := by (rw [do_a hp2]; unfold moveT; rw [if_neg (by omega), if_pos hp4])
            rw [show (ansP l.el cs.el i) ++ ([sEnd] : List ByteArray) = ansP l.el cs.el (i + 1) from (by rw [ans_next, answer, ← hI2, hd])]
            refine r_inLoop ?_
            refine RunE.weaken ?_ ?_ (ih0 (i + 1) a9 c10 brk ?_ ?_)
            · exact (.cons rfl (.cons rfl (.consE rfl (congrArg (Value.int .i64) (by rw [pos_next, ← hI2, hd])) (.cons rfl (.cons rfl (.cons rfl (.nil)))))))
            · exact (.cons rfl (.cons rfl (.cons rfl (.cons rfl (.cons rfl (.nil))))))
            · exact ⟨by omega, by rw [brk_next, ← hI2, hd]⟩
            · omega
          · refine r_draw [(100, .fz (fun w => ok w l)), (101, .fz (fun w => ok w cs)), (199, .fz (fun w => Tabs w)), (500, .row 9 1 a1 ((ansP l.el cs.el i).length) c2 (encs (ansP l.el cs.el i))), (51, .fn (fun w => ok w brk)), (34, .row 9 1 a3 ((splR (nth cs.el i) (32 : Int)).length) c4 (encs (splR (nth cs.el i) (32 : Int))))] (by kernel_rfl) rfl (.cons rfl (.cons rfl (.cons rfl (.cons rfl (.cons rfl (.cons rfl (.nil))))))) ?_
            refine d1 0 rfl (by kernel_rfl) rfl rfl (q_move rfl) ?_
            refine d1 1 rfl (by kernel_rfl) rfl rfl (q_move rfl) ?_
            refine d1 2 rfl (by kernel_rfl) rfl rfl (q_indexAddr Tryz.underlying22 z42 rfl rfl rfl (by omega) (by omega) (fun w hw => Sl.OK.isSome (hw.get_fz (t := 100) rfl) (by decide) (i := (moveP l.el brk.el (posP l.el cs.el i) (nth cs.el i)).toNat) (by omega))) ?_
            refine d1 3 rfl (by kernel_rfl) rfl rfl (q_fieldAddr of42_1 rfl rfl) ?_
            refine d1 4 rfl (by kernel_rfl) rfl rfl (q_load ag9 rfl (fun w hw => Sl.OK.cell (hw.get_fz (t := 100) rfl) (i := (moveP l.el brk.el (posP l.el cs.el i) (nth cs.el i)).toNat) (j := 1) (by omega) rfl)) ?_
            refine d1 5 rfl (by kernel_rfl) rfl rfl (q_move rfl) ?_
            refine d1 6 rfl (by kernel_rfl) rfl rfl (q_move rfl) ?_
            refine d1 7 rfl (by kernel_rfl) rfl rfl (q_indexAddr Tryz.underlying22 z42 rfl rfl rfl (by omega) (by omega) (fun w hw => Sl.OK.isSome (hw.get_fz (t := 100) rfl) (by decide) (i := (moveP l.el brk.el (posP l.el cs.el i) (nth cs.el i)).toNat) (by omega))) ?_
            refine d1 8 rfl (by kernel_rfl) rfl rfl (q_fieldAddr of42_2 rfl rfl) ?_
            refine d1 9 rfl (by kernel_rfl) rfl rfl (q_load ag9 rfl (fun w hw => Sl.OK.cell (hw.get_fz (t := 100) rfl) (i := (moveP l.el brk.el (posP l.el cs.el i) (nth cs.el i)).toNat) (j := 2) (by omega) rfl)) ?_
            refine d1 10 rfl (by kernel_rfl) rfl rfl (q_move rfl) ?_
            refine d1 11 rfl (by kernel_rfl) rfl rfl (q_move rfl) ?_
            refine d1 12 rfl (by kernel_rfl) rfl rfl (q_indexAddr Tryz.underlying22 z42 rfl rfl rfl (by omega) (by omega) (fun w hw => Sl.OK.isSome (hw.get_fz (t := 100) rfl) (by decide) (i := (moveP l.el brk.el (posP l.el cs.el i) (nth cs.el i)).toNat) (by omega))) ?_
            refine d1 13 rfl (by kernel_rfl) rfl rfl (q_fieldAddr of42_3 rfl rfl) ?_
            refine d1 14 rfl (by kernel_rfl) rfl rfl (q_load ag3 rfl (fun w hw => Sl.OK.cell (hw.get_fz (t := 100) rfl) (i := (moveP l.el brk.el (posP l.el cs.el i) (nth cs.el i)).toNat) (j := 3) (by omega) rfl)) ?_
            refine d1 15 rfl (by kernel_rfl) rfl rfl (q_build (cs := [.string ((nth l.el ((moveP l.el brk.el (posP l.el cs.el i) (nth cs.el i)).toNat)).mod), .string ((nth l.el ((moveP l.el brk.el (posP l.el cs.el i) (nth cs.el i)).toNat)).fn), .int .i64 ((nth l.el ((moveP l.el brk.el (posP l.el cs.el i) (nth cs.el i)).toNat)).line)]) (.cons rfl (.cons rfl (.cons rfl (.nil)))) (by kernel_rfl)) ?_
            refine dx 16 rfl (by kernel_rfl) rfl rfl (want_none rfl) (e_call en21 (.cons rfl (.nil)) ((fun w hw => c21 (⟨(nth l.el ((moveP l.el brk.el (posP l.el cs.el i) (nth cs.el i)).toNat)).mod, (nth l.el ((moveP l.el brk.el (posP l.el cs.el i) (nth cs.el i)).toNat)).fn, (nth l.el ((moveP l.el brk.el (posP l.el cs.el i) (nth cs.el i)).toNat)).line⟩ : PlcM) w (ev_plc_ok (hw.get_fz (t := 100) rfl) (by omega)) (hw.get_fz (t := 199) rfl) (by first | exact hs _ (nth_mem (i := (moveP l.el brk.el (posP l.el cs.el i) (nth cs.el i)).toNat) (by omega)) | exact ⟨(hS _ (nth_mem (by omega))).mod, (hS _ (nth_mem (by omega))).fn⟩)))) (fun _ => (.cons rfl (.cons rfl (.cons rfl (.cons rfl (.cons rfl (.cons rfl (.nil)))))))) (fun _ _ => ?_)
            refine d1 17 rfl (by kernel_rfl) rfl rfl (q_assign rfl) ?_
            refine d_end (by kernel_rfl) ?_
            refine r_region ?_
            refine s1 rfl (q_move rfl) ?_
            refine s1 rfl (q_move rfl) ?_
            refine sx rfl (e_bslice (cs := encs ([placeB (⟨(nth l.el ((moveP l.el brk.el (posP l.el cs.el i) (nth cs.el i)).toNat)).mod, (nth l.el ((moveP l.el brk.el (posP l.el cs.el i) (nth cs.el i)).toNat)).fn, (nth l.el ((moveP l.el brk.el (posP l.el cs.el i) (nth cs.el i)).toNat)).line⟩ : PlcM)] : List ByteArray)) Tryz.underlying23 zi9 (.cons rfl (.nil)) (by kernel_rfl) rfl rfl rfl) (fun g11 _ => ?_)
            refine sx rfl (e_appendL (tg := 500) (l := ansP l.el cs.el i) (l' := ([placeB (⟨(nth l.el ((moveP l.el brk.el (posP l.el cs.el i) (nth cs.el i)).toNat)).mod, (nth l.el ((moveP l.el brk.el (posP l.el cs.el i) (nth cs.el i)).toNat)).fn, (nth l.el ((moveP l.el brk.el (posP l.el cs.el i) (nth cs.el i)).toNat)).line⟩ : PlcM)] : List ByteArray)) Tryz.underlying23 in9 rfl rfl rfl rfl rfl rfl rfl (fun w hw => Shows.row (hw.row (tg := 188) rfl)) (by simp only [List.length_cons, List.length_nil]; omega)) (fun ⟨a12, c13⟩ _ => ?_)
            refine s1 rfl (q_assign rfl) ?_
            refine o_end ?_
            refine r_inBlock ?_
            refine r_region ?_
            refine s1 rfl (q_move rfl) ?_
            refine s1 rfl (q_add rfl rfl (by omega)) ?_
            refine s1 rfl (q_assign rfl) ?_
            refine o_end ?_
            have hd : doP l.el brk.el (posP l.el cs.el i) (nth cs.el i) = (placeB (⟨(nth l.el ((moveP l.el brk.el (posP l.el cs.el i) (nth cs.el i)).toNat)).mod, (nth l.el ((moveP l.el brk.el (posP l.el cs.el i) (nth cs.el i)).toNat)).fn, (nth l.el ((moveP l.el brk.el (posP l.el cs.el i) (nth cs.el i)).toNat)).line⟩ : PlcM), moveP l.el brk.el (posP l.el cs.el i) (nth cs.el i), brk.el) := by (rw [do_a hp2]; unfold moveT; rw [if_neg (by omega), if_neg hp4]; rfl)
            rw [show (ansP l.el cs.el i) ++ ([placeB (⟨(nth l.el ((moveP l.el brk.el (posP l.el cs.el i) (nth cs.el i)).toNat)).mod, (nth l.el ((moveP l.el brk.el (posP l.el cs.el i) (nth cs.el i)).toNat)).fn, (nth l.el ((moveP l.el brk.el (posP l.el cs.el i) (nth cs.el i)).toNat)).line⟩ : PlcM)] : List ByteArray) = ansP l.el cs.el (i + 1) from (by rw [ans_next, answer, ← hI2, hd])]
            refine r_inLoop ?_
            refine RunE.weaken ?_ ?_ (ih0 (i + 1) a12 c13 brk ?_ ?_)
            · exact (.cons rfl (.cons rfl (.consE rfl (congrArg (Value.int .i64) (by rw [pos_next, ← hI2, hd])) (.cons rfl (.cons rfl (.cons rfl (.nil)))))))
            · exact (.cons rfl (.cons rfl (.cons rfl (.cons rfl (.cons rfl (.nil))))))
            · exact ⟨by omega, by rw [brk_next, ← hI2, hd]⟩
            · omega
      · refine r_seq ?_
        refine r_region ?_
        refine s1 rfl (q_move rfl) ?_
        refine s1 rfl (q_seql rfl rfl) ?_
        refine o_end ?_
        refine r_if rfl (fun hp5 => ?_) (fun hp5 => ?_)
        · refine r_seq ?_
          refine r_region ?_
          refine s1 rfl (q_assign rfl) ?_
          refine o_end ?_
          refine r_region ?_
          refine s1 rfl (q_assign rfl) ?_
          refine o_end ?_
          refine r_region ?_
          refine s1 rfl (q_move rfl) ?_
          refine s1 rfl (q_move rfl) ?_
          refine sx rfl (e_bslice (cs := encs ([sCleared] : List ByteArray)) Tryz.underlying23 zi9 (.cons rfl (.nil)) (by kernel_rfl) rfl rfl rfl) (fun g14 _ => ?_)
          refine sx rfl (e_appendL (tg := 500) (l := ansP l.el cs.el i) (l' := ([sCleared] : List ByteArray)) Tryz.underlying23 in9 rfl rfl rfl rfl rfl rfl rfl (fun w hw => Shows.row (hw.row (tg := 188) rfl)) (by simp only [List.length_cons, List.length_nil]; omega)) (fun ⟨a15, c16⟩ _ => ?_)
          refine s1 rfl (q_assign rfl) ?_
          refine o_end ?_
          refine r_inBlock ?_
          refine r_region ?_
          refine s1 rfl (q_move rfl) ?_
          refine s1 rfl (q_add rfl rfl (by omega)) ?_
          refine s1 rfl (q_assign rfl) ?_
          refine o_end ?_
          refine r_know (fun w hw => hw.fnTrue (t := 53) rfl (χ := fun w => ok w (⟨none, 0, []⟩ : Sl BrkM)) (fun _ => ok_nil)) ?_
          refine r_know (fun w hw => hw.ren (.cons (t := 100) (t0 := 100) rfl rfl (.cons (t := 101) (t0 := 101) rfl rfl (.cons (t := 199) (t0 := 199) rfl rfl (.cons (t := 500) (t0 := 500) rfl rfl (.cons (t := 51) (t0 := 53) rfl rfl .nil)))))) ?_
          have hd : doP l.el brk.el (posP l.el cs.el i) (nth cs.el i) = (sCleared, posP l.el cs.el i, []) := by (exact do_b (Bool.eq_false_iff.1 hp2) hp5)
          rw [show (ansP l.el cs.el i) ++ ([sCleared] : List ByteArray) = ansP l.el cs.el (i + 1) from (by rw [ans_next, answer, ← hI2, hd])]
          refine r_inLoop ?_
          refine RunE.weaken ?_ ?_ (ih0 (i + 1) a15 c16 (⟨none, 0, []⟩ : Sl BrkM) ?_ ?_)
          · exact (.cons rfl (.cons rfl (.consE rfl (congrArg (Value.int .i64) (by rw [pos_next, ← hI2, hd])) (.cons rfl (.cons rfl (.cons rfl (.nil)))))))
          · exact (.cons rfl (.cons rfl (.cons rfl (.cons rfl (.cons rfl (.nil))))))
          · exact ⟨by omega, by rw [brk_next, ← hI2, hd]⟩
          · omega
        · refine r_seq ?_
          refine r_region ?_
          refine s1 rfl (q_move rfl) ?_
          refine s1 rfl (q_seql rfl rfl) ?_
          refine o_end ?_
          refine r_if rfl (fun hp6 => ?_) (fun hp6 => ?_)
          · refine r_seq ?_
            refine r_region ?_
            refine s1 rfl (q_move rfl) ?_
            refine s1 rfl (q_move rfl) ?_
            refine sx rfl (e_callx en22 (.cons rfl (.cons rfl (.nil))) ((fun w hw => c22s l (posP l.el cs.el i) w (hw.get_fz (t := 100) rfl) hv (by omega) 74)) (fun _ => nofz (fun _ h => by cases h))) (fun ⟨a17, c18⟩ _ => ?_)
            refine s1 rfl (q_assign rfl) ?_
            refine o_end ?_
            refine r_seq ?_
            refine r_region ?_
            refine s1 rfl (q_assign rfl) ?_
            refine o_end ?_
            refine r_seq ?_
            refine r_region ?_
            refine s1 rfl (q_assign rfl) ?_
            refine o_end ?_
            refine r_block ?_
            refine r_loop ?_
            refine RunE.weaken ?_ ?_ (r_rounds (fun (j : Nat) => [(0, .slice l.addr l.el.length l.cap), (1, .slice cs.addr cs.el.length cs.cap), (5, .int .i64 (posP l.el cs.el i)), (6, .slice brk.addr brk.el.length brk.cap), (7, .slice a1 ((ansP l.el cs.el i).length) c2), (8, .int .i64 ((i : Nat) : Int)), (10, .string (whereN (plcs (activeP l.el (posP l.el cs.el i))) j)), (14, .slice a17 ((plcs (activeP l.el (posP l.el cs.el i))).length) c18), (15, .int .i64 ((j : Nat) : Int))]) (fun (j : Nat) => [(100, .fz (fun w => ok w l)), (101, .fz (fun w => ok w cs)), (199, .fz (fun w => Tabs w)), (500, .row 9 1 a1 ((ansP l.el cs.el i).length) c2 (encs (ansP l.el cs.el i))), (51, .fn (fun w => ok w brk)), (34, .row 9 1 a3 ((splR (nth cs.el i) (32 : Int)).length) c4 (encs (splR (nth cs.el i) (32 : Int)))), (74, .row 54 3 a17 ((plcs (activeP l.el (posP l.el cs.el i))).length) c18 (encs (plcs (activeP l.el (posP l.el cs.el i)))))]) (fun (j : Nat) => j ≤ (plcs (activeP l.el (posP l.el cs.el i))).length) (fun (j : Nat) => (plcs (activeP l.el (posP l.el cs.el i))).length - j) ?_ 0 ?_)
            · exact (.cons rfl (.cons rfl (.cons rfl (.cons rfl (.cons rfl (.cons rfl (.cons rfl (.cons rfl (.cons rfl (.nil))))))))))
            · exact (.cons rfl (.cons rfl (.cons rfl (.cons rfl (.cons rfl (.cons rfl (.cons rfl (.nil))))))))
            · intro j hI1 ih1
              have hWN := whereN_size hS j hI1
              have hPl : j < (plcs (activeP l.el (posP l.el cs.el i))).length → (placeB (nth (plcs (activeP l.el (posP l.el cs.el i))) j)).size ≤ 2097200 := fun h => place_size (hS _ (nth_mem h))
              refine r_seq ?_
              refine r_seq ?_
              refine r_region ?_
              refine s1 rfl (q_move rfl) ?_
              refine s1 rfl (q_move rfl) ?_
              refine s1 rfl (q_len Tryz.underlying50 rfl) ?_
              refine s1 rfl (q_lss rfl rfl) ?_
              refine o_end ?_
              refine r_if rfl (fun hp7 => ?_) (fun hp7 => ?_)
              · refine r_skip ?_
                refine r_seq ?_
                refine r_block ?_
                refine r_seq ?_
                refine r_region ?_
                refine s1 rfl (q_move rfl) ?_
                refine s1 rfl (q_eql rfl rfl) ?_
                refine o_end ?_
                refine r_if rfl (fun hp8 => ?_) (fun hp8 => ?_)
                · refine r_region ?_
                  refine s1 rfl (q_move rfl) ?_
                  refine s1 rfl (q_indexAddr Tryz.underlying50 z54 rfl rfl rfl (by omega) (by omega) (fun w hw => row_some (hw.row (tg := 74) rfl) (by omega))) ?_
                  refine s1 rfl (q_loads (cs := enc (nth (plcs (activeP l.el (posP l.el cs.el i))) 0)) ag54 z54 rfl rfl (fun w hw => (Shows.row (hw.row (tg := 74) rfl)).cellsAt (i := 0) (by omega))) ?_
                  refine sx rfl (e_call en21 (.cons rfl (.nil)) ((fun w hw => c21 (nth (plcs (activeP l.el (posP l.el cs.el i))) 0) w (plc_ok (hw.get_fz (t := 100) rfl) (by omega) _ (nth_mem (by omega))) (hw.get_fz (t := 199) rfl) (by first | exact hs _ (nth_mem (i := (moveP l.el brk.el (posP l.el cs.el i) (nth cs.el i)).toNat) (by omega)) | exact ⟨(hS _ (nth_mem (by omega))).mod, (hS _ (nth_mem (by omega))).fn⟩)))) (fun _ _ => ?_)
                  refine s1 rfl (q_assign rfl) ?_
                  refine o_end ?_
                  refine r_inBlock ?_
                  refine r_region ?_
                  refine s1 rfl (q_move rfl) ?_
                  refine s1 rfl (q_add rfl rfl (by omega)) ?_
                  refine s1 rfl (q_assign rfl) ?_
                  refine o_end ?_
                  refine r_inLoop ?_
                  refine RunE.weaken ?_ ?_ (ih1 (j + 1) ?_ ?_)
                  · exact (.cons rfl (.cons rfl (.cons rfl (.cons rfl (.cons rfl (.cons rfl (.consE rfl (congrArg Value.string (where_y (by assumption))) (.cons rfl (.cons rfl (.nil))))))))))
                  · exact (.cons rfl (.cons rfl (.cons rfl (.cons rfl (.cons rfl (.cons rfl (.cons rfl (.nil))))))))
                  · omega
                  · omega
                · refine r_region ?_
                  refine s1 rfl (q_move rfl) ?_
                  refine s1 rfl (q_move rfl) ?_
                  refine s1 rfl (q_indexAddr Tryz.underlying50 z54 rfl rfl rfl (by omega) (by omega) (fun w hw => row_some (hw.row (tg := 74) rfl) (by omega))) ?_
                  refine s1 rfl (q_loads (cs := enc (nth (plcs (activeP l.el (posP l.el cs.el i))) j)) ag54 z54 rfl rfl (fun w hw => (Shows.row (hw.row (tg := 74) rfl)).cellsAt (i := j) (by omega))) ?_
                  refine sx rfl (e_call en21 (.cons rfl (.nil)) ((fun w hw => c21 (nth (plcs (activeP l.el (posP l.el cs.el i))) j) w (plc_ok (hw.get_fz (t := 100) rfl) (by omega) _ (nth_mem (by omega))) (hw.get_fz (t := 199) rfl) (by first | exact hs _ (nth_mem (i := (moveP l.el brk.el (posP l.el cs.el i) (nth cs.el i)).toNat) (by omega)) | exact ⟨(hS _ (nth_mem (by omega))).mod, (hS _ (nth_mem (by omega))).fn⟩)))) (fun _ _ => ?_)
                  refine s1 rfl (q_sadd rfl rfl (by first | (have hx := hPl (by omega); have hy2 : (⟨#[59, 32]⟩ : ByteArray).size = 2 := rfl; simp only [ByteArray.size_append] at *; omega) | (have hy : (⟨#[59, 32]⟩ : ByteArray).size = 2 := rfl; have hx := hPl (by omega); simp only [ByteArray.size_append]; omega) | (have hz5 := itoaB_size (n := (((brk.el ++ [brk5 (nth cs.el i)]).length : Nat) : Int)) (by omega); have hz3 := itoaB_size (n := (((brk.el ++ [brk3 (nth cs.el i)]).length : Nat) : Int)) (by omega); have hy : (⟨#[98, 114, 101, 97, 107, 112, 111, 105, 110, 116, 32]⟩ : ByteArray).size = 11 := rfl; omega))) ?_
                  refine s1 rfl (q_move rfl) ?_
                  refine s1 rfl (q_sadd rfl rfl (by first | (have hx := hPl (by omega); have hy2 : (⟨#[59, 32]⟩ : ByteArray).size = 2 := rfl; simp only [ByteArray.size_append] at *; omega) | (have hy : (⟨#[59, 32]⟩ : ByteArray).size = 2 := rfl; have hx := hPl (by omega); simp only [ByteArray.size_append]; omega) | (have hz5 := itoaB_size (n := (((brk.el ++ [brk5 (nth cs.el i)]).length : Nat) : Int)) (by omega); have hz3 := itoaB_size (n := (((brk.el ++ [brk3 (nth cs.el i)]).length : Nat) : Int)) (by omega); have hy : (⟨#[98, 114, 101, 97, 107, 112, 111, 105, 110, 116, 32]⟩ : ByteArray).size = 11 := rfl; omega))) ?_
                  refine s1 rfl (q_assign rfl) ?_
                  refine o_end ?_
                  refine r_inBlock ?_
                  refine r_region ?_
                  refine s1 rfl (q_move rfl) ?_
                  refine s1 rfl (q_add rfl rfl (by omega)) ?_
                  refine s1 rfl (q_assign rfl) ?_
                  refine o_end ?_
                  refine r_inLoop ?_
                  refine RunE.weaken ?_ ?_ (ih1 (j + 1) ?_ ?_)
                  · exact (.cons rfl (.cons rfl (.cons rfl (.cons rfl (.cons rfl (.cons rfl (.consE rfl (congrArg Value.string (where_n (by assumption))) (.cons rfl (.cons rfl (.nil))))))))))
                  · exact (.cons rfl (.cons rfl (.cons rfl (.cons rfl (.cons rfl (.cons rfl (.cons rfl (.nil))))))))
                  · omega
                  · omega
              · refine r_exit rfl ?_
                refine r_region ?_
                refine s1 rfl (q_move rfl) ?_
                refine s1 rfl (q_move rfl) ?_
                refine sx rfl (e_bslice (cs := encs ([whereN (plcs (activeP l.el (posP l.el cs.el i))) j] : List ByteArray)) Tryz.underlying23 zi9 (.cons rfl (.nil)) (by kernel_rfl) rfl rfl rfl) (fun g19 _ => ?_)
                refine sx rfl (e_appendL (tg := 500) (l := ansP l.el cs.el i) (l' := ([whereN (plcs (activeP l.el (posP l.el cs.el i))) j] : List ByteArray)) Tryz.underlying23 in9 rfl rfl rfl rfl rfl rfl rfl (fun w hw => Shows.row (hw.row (tg := 188) rfl)) (by simp only [List.length_cons, List.length_nil]; omega)) (fun ⟨a20, c21⟩ _ => ?_)
                refine s1 rfl (q_assign rfl) ?_
                refine o_end ?_
                refine r_inBlock ?_
                refine r_region ?_
                refine s1 rfl (q_move rfl) ?_
                refine s1 rfl (q_add rfl rfl (by omega)) ?_
                refine s1 rfl (q_assign rfl) ?_
                refine o_end ?_
                have hd : doP l.el brk.el (posP l.el cs.el i) (nth cs.el i) = (whereN (plcs (activeP l.el (posP l.el cs.el i))) j, posP l.el cs.el i, brk.el) := by (rw [show j = (plcs (activeP l.el (posP l.el cs.el i))).length from by omega, where_all]; exact do_c (Bool.eq_false_iff.1 hp2) hp5 hp6)
                rw [show (ansP l.el cs.el i) ++ ([whereN (plcs (activeP l.el (posP l.el cs.el i))) j] : List ByteArray) = ansP l.el cs.el (i + 1) from (by rw [ans_next, answer, ← hI2, hd])]
                refine r_inLoop ?_
                refine RunE.weaken ?_ ?_ (ih0 (i + 1) a20 c21 brk ?_ ?_)
                · exact (.cons rfl (.cons rfl (.consE rfl (congrArg (Value.int .i64) (by rw [pos_next, ← hI2, hd])) (.cons rfl (.cons rfl (.cons rfl (.nil)))))))
                · exact (.cons rfl (.cons rfl (.cons rfl (.cons rfl (.cons rfl (.nil))))))
                · exact ⟨by omega, by rw [brk_next, ← hI2, hd]⟩
                · omega
            · exact Nat.zero_le _
          · refine r_seq ?_
            refine r_cut [(0, .slice l.addr l.el.length l.cap), (1, .slice cs.addr cs.el.length cs.cap), (5, .int .i64 (posP l.el cs.el i)), (6, .slice brk.addr brk.el.length brk.cap), (7, .slice a1 ((ansP l.el cs.el i).length) c2), (8, .int .i64 ((i : Nat) : Int)), (9, .string (nth cs.el i)), (10, .string sWhat), (11, .slice a3 ((splR (nth cs.el i) (32 : Int)).length) c4), (103, .bool (decide (((nth (splR (nth cs.el i) (32 : Int)) 0) = sShowW) ∧ ((1 : Int) < (((splR (nth cs.el i) (32 : Int)).length : Nat) : Int)))))] [(100, .fz (fun w => ok w l)), (101, .fz (fun w => ok w cs)), (199, .fz (fun w => Tabs w)), (500, .row 9 1 a1 ((ansP l.el cs.el i).length) c2 (encs (ansP l.el cs.el i))), (51, .fn (fun w => ok w brk)), (34, .row 9 1 a3 ((splR (nth cs.el i) (32 : Int)).length) c4 (encs (splR (nth cs.el i) (32 : Int))))] ?_ (fun key => ?_)
            · refine r_if rfl (fun hp9 => ?_) (fun hp9 => ?_)
              · refine r_seq ?_
                refine r_region ?_
                refine s1 rfl (q_move rfl) ?_
                refine s1 rfl (Quiet.as (q_sslice_l (l := 5) Tryz.underlying9 rfl rfl (by have := show_size5 hp9; omega)) (congrArg Value.string (show_name hp9))) ?_
                refine s1 rfl (q_assign rfl) ?_
                refine o_end ?_
                refine r_seq ?_
                refine r_region ?_
                iterate 3 refine s1 rfl (q_move rfl) ?_
                refine sx rfl (e_call en23 (.cons rfl (.cons rfl (.cons rfl (.nil)))) ((fun w hw => c23s l (posP l.el cs.el i) (cut2 (nth cs.el i)) w (hw.get_fz (t := 100) rfl) hv (by assumption)))) (fun _ _ => ?_)
                refine s1 rfl (q_move rfl) ?_
                refine s1 rfl (q_extract rfl rfl) ?_
                refine s1 rfl (q_extract rfl rfl) ?_
                refine s1 rfl (q_assign rfl) ?_
                refine s1 rfl (q_assign rfl) ?_
                refine o_end ?_
                refine r_seq ?_
                refine r_region ?_
                refine s1 rfl (q_assign rfl) ?_
                refine o_end ?_
                refine r_seq ?_
                refine r_cut [(0, .slice l.addr l.el.length l.cap), (1, .slice cs.addr cs.el.length cs.cap), (5, .int .i64 (posP l.el cs.el i)), (6, .slice brk.addr brk.el.length brk.cap), (7, .slice a1 ((ansP l.el cs.el i).length) c2), (8, .int .i64 ((i : Nat) : Int)), (10, .string sUnknown), (17, .string ((showP l.el (posP l.el cs.el i) (cut2 (nth cs.el i))).1)), (117, .bool (decide (((showP l.el (posP l.el cs.el i) (cut2 (nth cs.el i))).2 = true) ∧ (isNameB (cut2 (nth cs.el i)) = true))))] [(100, .fz (fun w => ok w l)), (101, .fz (fun w => ok w cs)), (199, .fz (fun w => Tabs w)), (500, .row 9 1 a1 ((ansP l.el cs.el i).length) c2 (encs (ansP l.el cs.el i))), (51, .fn (fun w => ok w brk)), (34, .row 9 1 a3 ((splR (nth cs.el i) (32 : Int)).length) c4 (encs (splR (nth cs.el i) (32 : Int))))] ?_ (fun key => ?_)
                · refine r_if rfl (fun hp10 => ?_) (fun hp10 => ?_)
                  · refine r_region ?_
                    refine s1 rfl (q_move rfl) ?_
                    refine s1 rfl (q_assign rfl) ?_
                    refine o_end ?_
                    refine r_region ?_
                    refine s1 rfl (q_move rfl) ?_
                    refine s1 rfl (q_move rfl) ?_
                    refine sx rfl (e_bslice (cs := encs ([(showP l.el (posP l.el cs.el i) (cut2 (nth cs.el i))).1] : List ByteArray)) Tryz.underlying23 zi9 (.cons rfl (.nil)) (by kernel_rfl) rfl rfl rfl) (fun g22 _ => ?_)
                    refine sx rfl (e_appendL (tg := 500) (l := ansP l.el cs.el i) (l' := ([(showP l.el (posP l.el cs.el i) (cut2 (nth cs.el i))).1] : List ByteArray)) Tryz.underlying23 in9 rfl rfl rfl rfl rfl rfl rfl (fun w hw => Shows.row (hw.row (tg := 188) rfl)) (by simp only [List.length_cons, List.length_nil]; omega)) (fun ⟨a23, c24⟩ _ => ?_)
                    refine s1 rfl (q_assign rfl) ?_
                    refine o_end ?_
                    refine r_inBlock ?_
                    refine r_region ?_
                    refine s1 rfl (q_move rfl) ?_
                    refine s1 rfl (q_add rfl rfl (by omega)) ?_
                    refine s1 rfl (q_assign rfl) ?_
                    refine o_end ?_
                    have hd : doP l.el brk.el (posP l.el cs.el i) (nth cs.el i) = ((showP l.el (posP l.el cs.el i) (cut2 (nth cs.el i))).1, posP l.el cs.el i, brk.el) := by (rw [do_show (Bool.eq_false_iff.1 hp2) hp5 hp6 hp9]; unfold showT; rw [if_pos hp10])
                    rw [show (ansP l.el cs.el i) ++ ([(showP l.el (posP l.el cs.el i) (cut2 (nth cs.el i))).1] : List ByteArray) = ansP l.el cs.el (i + 1) from (by rw [ans_next, answer, ← hI2, hd])]
                    refine r_inLoop ?_
                    refine RunE.weaken ?_ ?_ (ih0 (i + 1) a23 c24 brk ?_ ?_)
                    · exact (.cons rfl (.cons rfl (.consE rfl (congrArg (Value.int .i64) (by rw [pos_next, ← hI2, hd])) (.cons rfl (.cons rfl (.cons rfl (.nil)))))))
                    · exact (.cons rfl (.cons rfl (.cons rfl (.cons rfl (.cons rfl (.nil))))))
                    · exact ⟨by omega, by rw [brk_next, ← hI2, hd]⟩
                    · omega
                  · refine r_skip ?_
                    refine r_region ?_
                    refine s1 rfl (q_move rfl) ?_
                    refine s1 rfl (q_move rfl) ?_
                    refine sx rfl (e_bslice (cs := encs ([sUnknown] : List ByteArray)) Tryz.underlying23 zi9 (.cons rfl (.nil)) (by kernel_rfl) rfl rfl rfl) (fun g25 _ => ?_)
                    refine sx rfl (e_appendL (tg := 500) (l := ansP l.el cs.el i) (l' := ([sUnknown] : List ByteArray)) Tryz.underlying23 in9 rfl rfl rfl rfl rfl rfl rfl (fun w hw => Shows.row (hw.row (tg := 188) rfl)) (by simp only [List.length_cons, List.length_nil]; omega)) (fun ⟨a26, c27⟩ _ => ?_)
                    refine s1 rfl (q_assign rfl) ?_
                    refine o_end ?_
                    refine r_inBlock ?_
                    refine r_region ?_
                    refine s1 rfl (q_move rfl) ?_
                    refine s1 rfl (q_add rfl rfl (by omega)) ?_
                    refine s1 rfl (q_assign rfl) ?_
                    refine o_end ?_
                    have hd : doP l.el brk.el (posP l.el cs.el i) (nth cs.el i) = (sUnknown, posP l.el cs.el i, brk.el) := by (rw [do_show (Bool.eq_false_iff.1 hp2) hp5 hp6 hp9]; unfold showT; rw [if_neg hp10])
                    rw [show (ansP l.el cs.el i) ++ ([sUnknown] : List ByteArray) = ansP l.el cs.el (i + 1) from (by rw [ans_next, answer, ← hI2, hd])]
                    refine r_inLoop ?_
                    refine RunE.weaken ?_ ?_ (ih0 (i + 1) a26 c27 brk ?_ ?_)
                    · exact (.cons rfl (.cons rfl (.consE rfl (congrArg (Value.int .i64) (by rw [pos_next, ← hI2, hd])) (.cons rfl (.cons rfl (.cons rfl (.nil)))))))
                    · exact (.cons rfl (.cons rfl (.cons rfl (.cons rfl (.cons rfl (.nil))))))
                    · exact ⟨by omega, by rw [brk_next, ← hI2, hd]⟩
                    · omega
                · refine r_region ?_
                  refine s1 rfl (q_move rfl) ?_
                  refine s1 rfl (q_move rfl) ?_
                  refine g_splitb (s := 114) rfl (fun hp11 => ?_) (fun hp11 => ?_)
                  · refine g_on rfl rfl ?_
                    refine s1 rfl (q_move rfl) ?_
                    refine g_on rfl rfl ?_
                    refine sx rfl (e_call en14 (.cons rfl (.nil)) ((fun w hw => c14 (cut2 (nth cs.el i)) w (by have := cut2_size (nth cs.el i); omega)))) (fun _ _ => ?_)
                    refine s1 rfl (q_pickt rfl rfl) ?_
                    refine o_end ?_
                    exact key.weaken (.cons rfl (.cons rfl (.cons rfl (.cons rfl (.cons rfl (.cons rfl (.cons rfl (.cons rfl (.consE rfl (congrArg Value.bool (by first | (simp only [hp11, eq_self, sBreak, sShowW, ne_eq, not_true_eq_false, not_false_eq_true, true_or, or_true, false_or, or_false, true_and, and_true, false_and, and_false, Bool.decide_eq_true] <;> first | exact nb_dec _ | exact b_dec _ | (simp; done)) | exact nb_dec _ | exact b_dec _ | (simp; done) | (exfalso; omega))) (.nil)))))))))) (.cons rfl (.cons rfl (.cons rfl (.cons rfl (.cons rfl (.cons rfl (.nil)))))))
                  · refine g_off rfl rfl rfl ?_
                    refine g_off rfl rfl rfl ?_
                    refine s1 rfl (q_pickf rfl rfl) ?_
                    refine o_end ?_
                    exact key.weaken (.cons rfl (.cons rfl (.cons rfl (.cons rfl (.cons rfl (.cons rfl (.cons rfl (.cons rfl (.consE rfl (congrArg Value.bool (decide_eq_false (fun h => (Bool.eq_false_iff.1 hp11) h.1)).symm) (.nil)))))))))) (.cons rfl (.cons rfl (.cons rfl (.cons rfl (.cons rfl (.cons rfl (.nil)))))))
              · refine r_seq ?_
                refine r_cut [(0, .slice l.addr l.el.length l.cap), (1, .slice cs.addr cs.el.length cs.cap), (5, .int .i64 (posP l.el cs.el i)), (6, .slice brk.addr brk.el.length brk.cap), (7, .slice a1 ((ansP l.el cs.el i).length) c2), (8, .int .i64 ((i : Nat) : Int)), (10, .string sWhat), (11, .slice a3 ((splR (nth cs.el i) (32 : Int)).length) c4), (132, .bool (decide (((nth (splR (nth cs.el i) (32 : Int)) 0) = sBreak) ∧ (((((splR (nth cs.el i) (32 : Int)).length : Nat) : Int) = (3 : Int)) ∨ ((4 : Int) < (((splR (nth cs.el i) (32 : Int)).length : Nat) : Int))))))] [(100, .fz (fun w => ok w l)), (101, .fz (fun w => ok w cs)), (199, .fz (fun w => Tabs w)), (500, .row 9 1 a1 ((ansP l.el cs.el i).length) c2 (encs (ansP l.el cs.el i))), (51, .fn (fun w => ok w brk)), (34, .row 9 1 a3 ((splR (nth cs.el i) (32 : Int)).length) c4 (encs (splR (nth cs.el i) (32 : Int))))] ?_ (fun key => ?_)
                · refine r_if rfl (fun hp12 => ?_) (fun hp12 => ?_)
                  · refine r_seq ?_
                    refine r_region ?_
                    refine s1 rfl (q_move rfl) ?_
                    refine s1 rfl (q_indexAddr Tryz.underlying23 z9 rfl rfl rfl (by omega) (by omega) (fun w hw => row_some (hw.row (tg := 34) rfl) (by omega))) ?_
                    refine s1 rfl (q_load ag9 rfl (fun w hw => row_cellAt0 (l := splR (nth cs.el i) (32 : Int)) (hw.row (tg := 34) rfl) (i := 2) (by omega) rfl)) ?_
                    refine sx rfl (e_call en24 (.cons rfl (.nil)) ((fun w hw => c24 (nth (splR (nth cs.el i) (32 : Int)) 2) w (by have := word_size hcz 2; omega)))) (fun _ _ => ?_)
                    refine s1 rfl (q_move rfl) ?_
                    refine s1 rfl (q_extract rfl rfl) ?_
                    refine s1 rfl (q_extract rfl rfl) ?_
                    refine s1 rfl (q_assign rfl) ?_
                    refine s1 rfl (q_assign rfl) ?_
                    refine o_end ?_
                    refine r_seq ?_
                    refine r_cut [(0, .slice l.addr l.el.length l.cap), (1, .slice cs.addr cs.el.length cs.cap), (5, .int .i64 (posP l.el cs.el i)), (6, .slice brk.addr brk.el.length brk.cap), (7, .slice a1 ((ansP l.el cs.el i).length) c2), (8, .int .i64 ((i : Nat) : Int)), (10, .string sWhat), (11, .slice a3 ((splR (nth cs.el i) (32 : Int)).length) c4), (19, .int .i64 ((numR (nth (splR (nth cs.el i) (32 : Int)) 2)).1)), (144, .bool (decide (((numR (nth (splR (nth cs.el i) (32 : Int)) 2)).2 = true) ∧ ((0 : Int) ≤ (numR (nth (splR (nth cs.el i) (32 : Int)) 2)).1))))] [(100, .fz (fun w => ok w l)), (101, .fz (fun w => ok w cs)), (199, .fz (fun w => Tabs w)), (500, .row 9 1 a1 ((ansP l.el cs.el i).length) c2 (encs (ansP l.el cs.el i))), (51, .fn (fun w => ok w brk)), (34, .row 9 1 a3 ((splR (nth cs.el i) (32 : Int)).length) c4 (encs (splR (nth cs.el i) (32 : Int))))] ?_ (fun key => ?_)
                    · refine r_if rfl (fun hp13 => ?_) (fun hp13 => ?_)
                      · have hsm := brk_small hcz hp13
                        have hnb5 := small_app hB.small hsm.1
                        have hnb3 := small_app hB.small hsm.2
                        have hl5 := len_51 (b := brk5 (nth cs.el i)) hB.len
                        have hl3 := len_51 (b := brk3 (nth cs.el i)) hB.len
                        refine r_seq ?_
                        refine r_region ?_
                        refine s1 rfl (q_move rfl) ?_
                        refine s1 rfl (q_indexAddr Tryz.underlying23 z9 rfl rfl rfl (by omega) (by omega) (fun w hw => row_some (hw.row (tg := 34) rfl) (by omega))) ?_
                        refine s1 rfl (q_load ag9 rfl (fun w hw => row_cellAt0 (l := splR (nth cs.el i) (32 : Int)) (hw.row (tg := 34) rfl) (i := 1) (by omega) rfl)) ?_
                        refine s1 rfl (q_move rfl) ?_
                        refine s1 rfl (q_build (cs := [.string (nth (splR (nth cs.el i) (32 : Int)) 1), .int .i64 ((numR (nth (splR (nth cs.el i) (32 : Int)) 2)).1), .string ByteArray.empty, .string ByteArray.empty]) (.cons rfl (.cons rfl (.nil))) (by kernel_rfl)) ?_
                        refine sx rfl (e_alloc zz64) (fun g28 _ => ?_)
                        refine sxn (e_store (tg := 21) (news := [.string (nth (splR (nth cs.el i) (32 : Int)) 1), .int .i64 ((numR (nth (splR (nth cs.el i) (32 : Int)) 2)).1), .string ByteArray.empty, .string ByteArray.empty]) rfl rfl rfl rfl z64 rfl rfl (.cons (.cons (.cons (.cons (.nil _)))))) (fun _ _ => ?_)
                        refine o_end ?_
                        refine r_seq ?_
                        refine r_seq ?_
                        refine r_region ?_
                        refine s1 rfl (q_move rfl) ?_
                        refine s1 rfl (q_len Tryz.underlying23 rfl) ?_
                        refine s1 rfl (q_gtr rfl rfl) ?_
                        refine o_end ?_
                        refine r_if rfl (fun hp14 => ?_) (fun hp14 => ?_)
                        · refine r_seq ?_
                          refine r_region ?_
                          refine s1 rfl (q_move rfl) ?_
                          refine s1 rfl (q_indexAddr Tryz.underlying23 z9 rfl rfl rfl (by omega) (by omega) (fun w hw => row_some (hw.row (tg := 34) rfl) (by omega))) ?_
                          refine s1 rfl (q_load ag9 rfl (fun w hw => row_cellAt0 (l := splR (nth cs.el i) (32 : Int)) (hw.row (tg := 34) rfl) (i := 3) (by omega) rfl)) ?_
                          refine s1 rfl (q_fieldAddr of64_2 rfl rfl) ?_
                          refine sxn (e_store (tg := 21) (news := [.string (nth (splR (nth cs.el i) (32 : Int)) 3)]) rfl rfl rfl rfl z9 rfl rfl (.skip (.skip (.cons (.nil _))))) (fun _ _ => ?_)
                          refine o_end ?_
                          refine r_region ?_
                          refine s1 rfl (q_move rfl) ?_
                          refine sx rfl (e_drop (tg := 34) (l := splR (nth cs.el i) (32 : Int)) (j := 4) Tryz.underlying23 z9 rfl rfl rfl rfl (by omega) rfl) (fun a29 _ => ?_)
                          refine sx rfl (e_call en25 (.cons rfl (.cons rfl (.nil))) ((fun w hw => c25 (⟨a29, c4 - 4, (splR (nth cs.el i) (32 : Int)).drop 4⟩ : Sl ByteArray) sp w (ok_row (hw.row (tg := 34) rfl) (by first | omega | (simp only [by_]; omega) | exact w4_row hcz) (fun x hx => by have := splR_size x (List.mem_of_mem_drop hx); simp only [ok]; omega)) (by decide) (fun k hk => Nat.le_trans (join4_size (nth cs.el i) k hk) hcz)))) (fun _ _ => ?_)
                          refine s1 rfl (q_fieldAddr of64_3 rfl rfl) ?_
                          refine sxn (e_store (tg := 21) (news := [.string (joinN ((splR (nth cs.el i) (32 : Int)).drop 4) sp ((splR (nth cs.el i) (32 : Int)).drop 4).length)]) rfl rfl rfl rfl z9 rfl rfl (.skip (.skip (.skip (.cons (.nil _)))))) (fun _ _ => ?_)
                          refine o_end ?_
                          refine r_seq ?_
                          refine r_cutx (fun q30 : (Option Addr × Nat) × Nat => [(0, .slice l.addr l.el.length l.cap), (1, .slice cs.addr cs.el.length cs.cap), (5, .int .i64 (posP l.el cs.el i)), (6, .slice brk.addr brk.el.length brk.cap), (7, .slice a1 ((ansP l.el cs.el i).length) c2), (8, .int .i64 ((i : Nat) : Int)), (11, .slice a3 ((splR (nth cs.el i) (32 : Int)).length) c4), (21, .pointer (some ⟨g28, 0, none⟩)), (22, .slice q30.1.1 ((brk.el ++ [brk5 (nth cs.el i)]).length) q30.1.2)]) (fun q30 : (Option Addr × Nat) × Nat => [(100, .fz (fun w => ok w l)), (101, .fz (fun w => ok w cs)), (199, .fz (fun w => Tabs w)), (500, .row 9 1 a1 ((ansP l.el cs.el i).length) c2 (encs (ansP l.el cs.el i))), (51, .fn (fun w => ok w brk)), (34, .row 9 1 a29 (((splR (nth cs.el i) (32 : Int)).drop 4).length) (c4 - 4) (encs ((splR (nth cs.el i) (32 : Int)).drop 4))), (21, .box g28 [.string (nth (splR (nth cs.el i) (32 : Int)) 1), .int .i64 ((numR (nth (splR (nth cs.el i) (32 : Int)) 2)).1), .string (nth (splR (nth cs.el i) (32 : Int)) 3), .string (joinN ((splR (nth cs.el i) (32 : Int)).drop 4) sp ((splR (nth cs.el i) (32 : Int)).drop 4).length)] 64), (161, .row 64 4 q30.1.1 ((brk.el ++ [brk5 (nth cs.el i)]).length) q30.1.2 (encs (brk.el ++ [brk5 (nth cs.el i)]))), (165, .row 64 4 (some ⟨q30.2, 0, none⟩) (([(⟨nth (splR (nth cs.el i) (32 : Int)) 1, (numR (nth (splR (nth cs.el i) (32 : Int)) 2)).1, nth (splR (nth cs.el i) (32 : Int)) 3, joinN ((splR (nth cs.el i) (32 : Int)).drop 4) sp ((splR (nth cs.el i) (32 : Int)).drop 4).length⟩ : BrkM)] : List BrkM).length) 1 (encs ([(⟨nth (splR (nth cs.el i) (32 : Int)) 1, (numR (nth (splR (nth cs.el i) (32 : Int)) 2)).1, nth (splR (nth cs.el i) (32 : Int)) 3, joinN ((splR (nth cs.el i) (32 : Int)).drop 4) sp ((splR (nth cs.el i) (32 : Int)).drop 4).length⟩ : BrkM)] : List BrkM)))]) (fun q30 => ?_) (fun key => ?_)
                          · refine r_seq ?_
                            refine r_region ?_
                            refine s1 rfl (q_assign rfl) ?_
                            refine o_end ?_
                            refine r_seq ?_
                            refine r_cut [(0, .slice l.addr l.el.length l.cap), (1, .slice cs.addr cs.el.length cs.cap), (5, .int .i64 (posP l.el cs.el i)), (6, .slice brk.addr brk.el.length brk.cap), (7, .slice a1 ((ansP l.el cs.el i).length) c2), (8, .int .i64 ((i : Nat) : Int)), (10, .string sRefused), (22, .slice q30.1.1 ((brk.el ++ [brk5 (nth cs.el i)]).length) q30.1.2), (180, .bool (decide (((breaksFault (brk.el ++ [brk5 (nth cs.el i)])).1 = (0 : Int)) ∧ (((((splR (nth cs.el i) (32 : Int)).length : Nat) : Int) = (3 : Int)) ∨ ((nth (splR (nth cs.el i) (32 : Int)) 3) ≠ (⟨#[]⟩ : ByteArray))))))] [(100, .fz (fun w => ok w l)), (101, .fz (fun w => ok w cs)), (199, .fz (fun w => Tabs w)), (500, .row 9 1 a1 ((ansP l.el cs.el i).length) c2 (encs (ansP l.el cs.el i))), (51, .fn (fun w => ok w brk)), (34, .row 9 1 a29 (((splR (nth cs.el i) (32 : Int)).drop 4).length) (c4 - 4) (encs ((splR (nth cs.el i) (32 : Int)).drop 4))), (21, .box g28 [.string (nth (splR (nth cs.el i) (32 : Int)) 1), .int .i64 ((numR (nth (splR (nth cs.el i) (32 : Int)) 2)).1), .string (nth (splR (nth cs.el i) (32 : Int)) 3), .string (joinN ((splR (nth cs.el i) (32 : Int)).drop 4) sp ((splR (nth cs.el i) (32 : Int)).drop 4).length)] 64), (161, .row 64 4 q30.1.1 ((brk.el ++ [brk5 (nth cs.el i)]).length) q30.1.2 (encs (brk.el ++ [brk5 (nth cs.el i)]))), (165, .row 64 4 (some ⟨q30.2, 0, none⟩) (([(⟨nth (splR (nth cs.el i) (32 : Int)) 1, (numR (nth (splR (nth cs.el i) (32 : Int)) 2)).1, nth (splR (nth cs.el i) (32 : Int)) 3, joinN ((splR (nth cs.el i) (32 : Int)).drop 4) sp ((splR (nth cs.el i) (32 : Int)).drop 4).length⟩ : BrkM)] : List BrkM).length) 1 (encs ([(⟨nth (splR (nth cs.el i) (32 : Int)) 1, (numR (nth (splR (nth cs.el i) (32 : Int)) 2)).1, nth (splR (nth cs.el i) (32 : Int)) 3, joinN ((splR (nth cs.el i) (32 : Int)).drop 4) sp ((splR (nth cs.el i) (32 : Int)).drop 4).length⟩ : BrkM)] : List BrkM)))] ?_ (fun key => ?_)
                            · refine r_if rfl (fun hp15 => ?_) (fun hp15 => ?_)
                              · refine r_seq ?_
                                refine r_region ?_
                                refine s1 rfl (q_move rfl) ?_
                                refine s1 rfl (q_assign rfl) ?_
                                refine o_end ?_
                                refine r_region ?_
                                refine s1 rfl (q_move rfl) ?_
                                refine s1 rfl (q_len Tryz.underlying35 rfl) ?_
                                refine sx rfl (e_call en27 (.cons rfl (.nil)) ((fun w hw => c27 (((brk.el ++ [brk5 (nth cs.el i)]).length : Nat) : Int) w (by omega)))) (fun _ _ => ?_)
                                refine s1 rfl (q_sadd rfl rfl (by first | (have hx := hPl (by omega); have hy2 : (⟨#[59, 32]⟩ : ByteArray).size = 2 := rfl; simp only [ByteArray.size_append] at *; omega) | (have hy : (⟨#[59, 32]⟩ : ByteArray).size = 2 := rfl; have hx := hPl (by omega); simp only [ByteArray.size_append]; omega) | (have hz5 := itoaB_size (n := (((brk.el ++ [brk5 (nth cs.el i)]).length : Nat) : Int)) (by omega); have hz3 := itoaB_size (n := (((brk.el ++ [brk3 (nth cs.el i)]).length : Nat) : Int)) (by omega); have hy : (⟨#[98, 114, 101, 97, 107, 112, 111, 105, 110, 116, 32]⟩ : ByteArray).size = 11 := rfl; omega))) ?_
                                refine s1 rfl (q_assign rfl) ?_
                                refine o_end ?_
                                refine r_region ?_
                                refine s1 rfl (q_move rfl) ?_
                                refine s1 rfl (q_move rfl) ?_
                                refine sx rfl (e_bslice (cs := encs ([sBreakpoint ++ (itoaB (((brk.el ++ [brk5 (nth cs.el i)]).length : Nat) : Int))] : List ByteArray)) Tryz.underlying23 zi9 (.cons rfl (.nil)) (by kernel_rfl) rfl rfl rfl) (fun g31 _ => ?_)
                                refine sx rfl (e_appendL (tg := 500) (l := ansP l.el cs.el i) (l' := ([sBreakpoint ++ (itoaB (((brk.el ++ [brk5 (nth cs.el i)]).length : Nat) : Int))] : List ByteArray)) Tryz.underlying23 in9 rfl rfl rfl rfl rfl rfl rfl (fun w hw => Shows.row (hw.row (tg := 188) rfl)) (by simp only [List.length_cons, List.length_nil]; omega)) (fun ⟨a32, c33⟩ _ => ?_)
                                refine s1 rfl (q_assign rfl) ?_
                                refine o_end ?_
                                refine r_inBlock ?_
                                refine r_region ?_
                                refine s1 rfl (q_move rfl) ?_
                                refine s1 rfl (q_add rfl rfl (by omega)) ?_
                                refine s1 rfl (q_assign rfl) ?_
                                refine o_end ?_
                                refine r_know (fun w hw => hw.freezeRow (l := brk.el ++ [brk5 (nth cs.el i)]) (t := 161) rfl (by simp only [by_]; omega) (fun w q hq => by first | exact (hnb5 q hq).ok w | exact (hnb3 q hq).ok w)) ?_
                                refine r_know (fun w hw => hw.ren (.cons (t := 100) (t0 := 100) rfl rfl (.cons (t := 101) (t0 := 101) rfl rfl (.cons (t := 199) (t0 := 199) rfl rfl (.cons (t := 500) (t0 := 500) rfl rfl (.cons (t := 51) (t0 := 161) rfl rfl .nil)))))) ?_
                                have hd : doP l.el brk.el (posP l.el cs.el i) (nth cs.el i) = (sBreakpoint ++ (itoaB (((brk.el ++ [brk5 (nth cs.el i)]).length : Nat) : Int)), posP l.el cs.el i, brk.el ++ [brk5 (nth cs.el i)]) := by (rw [do_brkR (Bool.eq_false_iff.1 hp2) hp5 hp6 hp12, add_5y hp12 hp13 hp14 hp15])
                                rw [show (ansP l.el cs.el i) ++ ([sBreakpoint ++ (itoaB (((brk.el ++ [brk5 (nth cs.el i)]).length : Nat) : Int))] : List ByteArray) = ansP l.el cs.el (i + 1) from (by rw [ans_next, answer, ← hI2, hd])]
                                refine r_inLoop ?_
                                refine RunE.weaken ?_ ?_ (ih0 (i + 1) a32 c33 (⟨q30.1.1, q30.1.2, brk.el ++ [brk5 (nth cs.el i)]⟩ : Sl BrkM) ?_ ?_)
                                · exact (.cons rfl (.cons rfl (.consE rfl (congrArg (Value.int .i64) (by rw [pos_next, ← hI2, hd])) (.cons rfl (.cons rfl (.cons rfl (.nil)))))))
                                · exact (.cons rfl (.cons rfl (.cons rfl (.cons rfl (.cons rfl (.nil))))))
                                · exact ⟨by omega, by rw [brk_next, ← hI2, hd]⟩
                                · omega
                              · refine r_skip ?_
                                refine r_region ?_
                                refine s1 rfl (q_move rfl) ?_
                                refine s1 rfl (q_move rfl) ?_
                                refine sx rfl (e_bslice (cs := encs ([sRefused] : List ByteArray)) Tryz.underlying23 zi9 (.cons rfl (.nil)) (by kernel_rfl) rfl rfl rfl) (fun g34 _ => ?_)
                                refine sx rfl (e_appendL (tg := 500) (l := ansP l.el cs.el i) (l' := ([sRefused] : List ByteArray)) Tryz.underlying23 in9 rfl rfl rfl rfl rfl rfl rfl (fun w hw => Shows.row (hw.row (tg := 188) rfl)) (by simp only [List.length_cons, List.length_nil]; omega)) (fun ⟨a35, c36⟩ _ => ?_)
                                refine s1 rfl (q_assign rfl) ?_
                                refine o_end ?_
                                refine r_inBlock ?_
                                refine r_region ?_
                                refine s1 rfl (q_move rfl) ?_
                                refine s1 rfl (q_add rfl rfl (by omega)) ?_
                                refine s1 rfl (q_assign rfl) ?_
                                refine o_end ?_
                                have hd : doP l.el brk.el (posP l.el cs.el i) (nth cs.el i) = (sRefused, posP l.el cs.el i, brk.el) := by (rw [do_brkR (Bool.eq_false_iff.1 hp2) hp5 hp6 hp12, add_5n hp12 hp13 hp14 hp15])
                                rw [show (ansP l.el cs.el i) ++ ([sRefused] : List ByteArray) = ansP l.el cs.el (i + 1) from (by rw [ans_next, answer, ← hI2, hd])]
                                refine r_inLoop ?_
                                refine RunE.weaken ?_ ?_ (ih0 (i + 1) a35 c36 brk ?_ ?_)
                                · exact (.cons rfl (.cons rfl (.consE rfl (congrArg (Value.int .i64) (by rw [pos_next, ← hI2, hd])) (.cons rfl (.cons rfl (.cons rfl (.nil)))))))
                                · exact (.cons rfl (.cons rfl (.cons rfl (.cons rfl (.cons rfl (.nil))))))
                                · exact ⟨by omega, by rw [brk_next, ← hI2, hd]⟩
                                · omega
                            · refine r_region ?_
                              refine s1 rfl (q_move rfl) ?_
                              refine sx rfl (e_call en26 (.cons rfl (.nil)) ((fun w hw => c26 (⟨q30.1.1, q30.1.2, brk.el ++ [brk5 (nth cs.el i)]⟩ : Sl BrkM) w (ok_row (hw.row (tg := 161) rfl) (by first | omega | (simp only [by_]; omega) | exact w4_row hcz) (fun q hq => by first | exact (hnb5 q hq).ok _ | exact (hnb3 q hq).ok _)) (by first | exact fun q hq => (hnb5 q hq).mod | exact fun q hq => (hnb3 q hq).mod)))) (fun _ _ => ?_)
                              refine s1 rfl (q_field1 Tryz.underlying25 rfl rfl (part3 rfl)) ?_
                              refine s1 rfl (q_eql rfl rfl) ?_
                              refine s1 rfl (q_move rfl) ?_
                              refine g_split (s := 171) rfl (fun hp16 => ?_) (fun hp16 => ?_)
                              · refine g_on rfl rfl ?_
                                refine s1 rfl (q_move rfl) ?_
                                refine g_on rfl rfl ?_
                                refine s1 rfl (q_len Tryz.underlying23 rfl) ?_
                                refine g_on rfl rfl ?_
                                refine s1 rfl (q_eql rfl rfl) ?_
                                refine g_on rfl rfl ?_
                                refine s1 rfl (q_move rfl) ?_
                                refine g_split (s := 175) rfl (fun hp17 => ?_) (fun hp17 => ?_)
                                · refine g_off rfl rfl rfl ?_
                                  refine g_off rfl rfl rfl ?_
                                  refine g_off rfl rfl rfl ?_
                                  refine g_on rfl rfl ?_
                                  refine s1 rfl (q_pickt rfl rfl) ?_
                                  refine s1 rfl (q_pickt rfl rfl) ?_
                                  refine o_end ?_
                                  exact key.weaken (.cons rfl (.cons rfl (.cons rfl (.cons rfl (.cons rfl (.cons rfl (.cons rfl (.cons rfl (.consE rfl (congrArg Value.bool (decide_eq_true ⟨hp16, (Or.inl hp17)⟩).symm) (.nil)))))))))) (.cons rfl (.cons rfl (.cons rfl (.cons rfl (.cons rfl (.cons rfl (.cons rfl (.cons rfl (.cons rfl (.nil))))))))))
                                · refine g_on rfl rfl ?_
                                  refine s1 rfl (q_fieldAddr of64_2 rfl rfl) ?_
                                  refine g_on rfl rfl ?_
                                  refine s1 rfl (q_load ag9 rfl (fun w hw => hw.box (tg := 21) rfl rfl)) ?_
                                  refine g_on rfl rfl ?_
                                  refine s1 rfl (q_sneq rfl rfl) ?_
                                  refine g_on rfl rfl ?_
                                  refine s1 rfl (q_pickf rfl rfl) ?_
                                  refine s1 rfl (q_pickt rfl rfl) ?_
                                  refine o_end ?_
                                  exact key.weaken (.cons rfl (.cons rfl (.cons rfl (.cons rfl (.cons rfl (.cons rfl (.cons rfl (.cons rfl (.consE rfl (congrArg Value.bool (by first | (simp only [hp16, hp17, eq_self, sBreak, sShowW, ne_eq, not_true_eq_false, not_false_eq_true, true_or, or_true, false_or, or_false, true_and, and_true, false_and, and_false, Bool.decide_eq_true] <;> first | exact nb_dec _ | exact b_dec _ | (simp; done)) | exact nb_dec _ | exact b_dec _ | (simp; done) | (exfalso; omega))) (.nil)))))))))) (.cons rfl (.cons rfl (.cons rfl (.cons rfl (.cons rfl (.cons rfl (.cons rfl (.cons rfl (.cons rfl (.nil))))))))))
                              · refine g_off rfl rfl rfl ?_
                                iterate 3 refine g_off rfl rfl rfl ?_
                                iterate 3 refine g_offu rfl rfl rfl ?_
                                refine g_off rfl rfl rfl ?_
                                refine s1 rfl (q_pickf rfl rfl) ?_
                                refine o_end ?_
                                exact key.weaken (.cons rfl (.cons rfl (.cons rfl (.cons rfl (.cons rfl (.cons rfl (.cons rfl (.cons rfl (.consE rfl (congrArg Value.bool (decide_eq_false (fun h => hp16 h.1)).symm) (.nil)))))))))) (.cons rfl (.cons rfl (.cons rfl (.cons rfl (.cons rfl (.cons rfl (.cons rfl (.cons rfl (.cons rfl (.nil))))))))))
                          · refine r_draw [(100, .fz (fun w => ok w l)), (101, .fz (fun w => ok w cs)), (199, .fz (fun w => Tabs w)), (500, .row 9 1 a1 ((ansP l.el cs.el i).length) c2 (encs (ansP l.el cs.el i))), (51, .fn (fun w => ok w brk)), (34, .row 9 1 a29 (((splR (nth cs.el i) (32 : Int)).drop 4).length) (c4 - 4) (encs ((splR (nth cs.el i) (32 : Int)).drop 4))), (21, .box g28 [.string (nth (splR (nth cs.el i) (32 : Int)) 1), .int .i64 ((numR (nth (splR (nth cs.el i) (32 : Int)) 2)).1), .string (nth (splR (nth cs.el i) (32 : Int)) 3), .string (joinN ((splR (nth cs.el i) (32 : Int)).drop 4) sp ((splR (nth cs.el i) (32 : Int)).drop 4).length)] 64)] (by kernel_rfl) rfl (.cons rfl (.cons rfl (.cons rfl (.cons rfl (.cons rfl (.cons rfl (.cons rfl (.nil)))))))) ?_
                            refine d1 1 rfl (by kernel_rfl) rfl rfl (q_move rfl) ?_
                            refine d1 3 rfl (by kernel_rfl) rfl rfl (q_loads (cs := [.string (nth (splR (nth cs.el i) (32 : Int)) 1), .int .i64 ((numR (nth (splR (nth cs.el i) (32 : Int)) 2)).1), .string (nth (splR (nth cs.el i) (32 : Int)) 3), .string (joinN ((splR (nth cs.el i) (32 : Int)).drop 4) sp ((splR (nth cs.el i) (32 : Int)).drop 4).length)]) ag64 z64 rfl rfl (fun w hw => hw.boxes (tg := 21) rfl)) ?_
                            refine AnyE.two (i := 0) (j := 4) (by kernel_rfl) ?_ ?_
                            · refine da rfl rfl rfl (want_none rfl) (e_bslice0 (α := BrkM) Tryz.underlying35 zi64) (fun _ => (.cons rfl (.cons rfl (.cons rfl (.cons rfl (.cons rfl (.cons rfl (.cons rfl (.nil))))))))) (fun g37 _ => ?_)
                              refine AnyE.two (i := 2) (j := 4) (by kernel_rfl) ?_ ?_
                              · refine da rfl rfl rfl (want_none rfl) (e_appendL (tg := 161) (l := ([] : List BrkM)) (l' := brk.el) Tryz.underlying35 in64 rfl rfl rfl rfl rfl rfl rfl (fun w hw => (show Sl.OK w _ from (hw.get_fn (t := 51) rfl)).sh) (by simp only [List.length_cons, List.length_nil]; omega)) (fun _ => (.cons rfl (.cons rfl (.cons rfl (.cons rfl (.cons rfl (.cons rfl (.cons rfl (.nil))))))))) (fun ⟨a38, c39⟩ _ => ?_)
                                rw [show ([] : List BrkM) ++ brk.el = brk.el from (List.nil_append _)]
                                refine dx 4 rfl (by kernel_rfl) rfl rfl (want_none rfl) (e_bslice (cs := encs ([(⟨nth (splR (nth cs.el i) (32 : Int)) 1, (numR (nth (splR (nth cs.el i) (32 : Int)) 2)).1, nth (splR (nth cs.el i) (32 : Int)) 3, joinN ((splR (nth cs.el i) (32 : Int)).drop 4) sp ((splR (nth cs.el i) (32 : Int)).drop 4).length⟩ : BrkM)] : List BrkM)) Tryz.underlying35 zi64 (.cons rfl (.nil)) (by kernel_rfl) rfl rfl rfl) (fun _ => (.cons rfl (.cons rfl (.cons rfl (.cons rfl (.cons rfl (.cons rfl (.cons rfl (.nil))))))))) (fun g40 _ => ?_)
                                refine AnyE.more (S' := [(100, .fz (fun w => ok w l)), (101, .fz (fun w => ok w cs)), (199, .fz (fun w => Tabs w)), (500, .row 9 1 a1 ((ansP l.el cs.el i).length) c2 (encs (ansP l.el cs.el i))), (51, .fn (fun w => ok w brk)), (34, .row 9 1 a29 (((splR (nth cs.el i) (32 : Int)).drop 4).length) (c4 - 4) (encs ((splR (nth cs.el i) (32 : Int)).drop 4))), (21, .box g28 [.string (nth (splR (nth cs.el i) (32 : Int)) 1), .int .i64 ((numR (nth (splR (nth cs.el i) (32 : Int)) 2)).1), .string (nth (splR (nth cs.el i) (32 : Int)) 3), .string (joinN ((splR (nth cs.el i) (32 : Int)).drop 4) sp ((splR (nth cs.el i) (32 : Int)).drop 4).length)] 64), (165, .row 64 4 (some ⟨g40, 0, none⟩) (([(⟨nth (splR (nth cs.el i) (32 : Int)) 1, (numR (nth (splR (nth cs.el i) (32 : Int)) 2)).1, nth (splR (nth cs.el i) (32 : Int)) 3, joinN ((splR (nth cs.el i) (32 : Int)).drop 4) sp ((splR (nth cs.el i) (32 : Int)).drop 4).length⟩ : BrkM)] : List BrkM).length) 1 (encs ([(⟨nth (splR (nth cs.el i) (32 : Int)) 1, (numR (nth (splR (nth cs.el i) (32 : Int)) 2)).1, nth (splR (nth cs.el i) (32 : Int)) 3, joinN ((splR (nth cs.el i) (32 : Int)).drop 4) sp ((splR (nth cs.el i) (32 : Int)).drop 4).length⟩ : BrkM)] : List BrkM)))]) (.cons rfl (.cons rfl (.cons rfl (.cons rfl (.cons rfl (.cons rfl (.cons rfl (.nil)))))))) (.cons rfl (.cons rfl (.cons rfl (.cons rfl (.cons rfl (.cons rfl (.cons rfl (.cons rfl (.nil))))))))) ?_
                                refine dx 5 rfl (by kernel_rfl) rfl rfl (want_none rfl) (e_appendL (tg := 161) (l := brk.el) (l' := ([(⟨nth (splR (nth cs.el i) (32 : Int)) 1, (numR (nth (splR (nth cs.el i) (32 : Int)) 2)).1, nth (splR (nth cs.el i) (32 : Int)) 3, joinN ((splR (nth cs.el i) (32 : Int)).drop 4) sp ((splR (nth cs.el i) (32 : Int)).drop 4).length⟩ : BrkM)] : List BrkM)) Tryz.underlying35 in64 rfl rfl rfl rfl rfl rfl rfl (fun w hw => Shows.row (hw.row (tg := 165) rfl)) (by simp only [List.length_cons, List.length_nil]; omega)) (fun _ => (.cons rfl (.cons rfl (.cons rfl (.cons rfl (.cons rfl (.cons rfl (.cons rfl (.cons rfl (.nil)))))))))) (fun ⟨a41, c42⟩ _ => ?_)
                                rw [show brk.el ++ ([(⟨nth (splR (nth cs.el i) (32 : Int)) 1, (numR (nth (splR (nth cs.el i) (32 : Int)) 2)).1, nth (splR (nth cs.el i) (32 : Int)) 3, joinN ((splR (nth cs.el i) (32 : Int)).drop 4) sp ((splR (nth cs.el i) (32 : Int)).drop 4).length⟩ : BrkM)] : List BrkM) = brk.el ++ [brk5 (nth cs.el i)] from rfl]
                                refine d1 6 rfl (by kernel_rfl) rfl rfl (q_assign rfl) ?_
                                refine d_end (by kernel_rfl) ?_
                                exact (key ((a41, c42), g40)).weaken (.cons rfl (.cons rfl (.cons rfl (.cons rfl (.cons rfl (.cons rfl (.cons rfl (.cons rfl (.cons rfl (.nil)))))))))) (.cons rfl (.cons rfl (.cons rfl (.cons rfl (.cons rfl (.cons rfl (.cons rfl (.cons rfl (.cons rfl (.nil))))))))))
                              · refine da rfl rfl rfl (want_none rfl) (e_bslice (cs := encs ([(⟨nth (splR (nth cs.el i) (32 : Int)) 1, (numR (nth (splR (nth cs.el i) (32 : Int)) 2)).1, nth (splR (nth cs.el i) (32 : Int)) 3, joinN ((splR (nth cs.el i) (32 : Int)).drop 4) sp ((splR (nth cs.el i) (32 : Int)).drop 4).length⟩ : BrkM)] : List BrkM)) Tryz.underlying35 zi64 (.cons rfl (.nil)) (by kernel_rfl) rfl rfl rfl) (fun _ => (.cons rfl (.cons rfl (.cons rfl (.cons rfl (.cons rfl (.cons rfl (.cons rfl (.nil))))))))) (fun g43 _ => ?_)
                                refine AnyE.more (S' := [(100, .fz (fun w => ok w l)), (101, .fz (fun w => ok w cs)), (199, .fz (fun w => Tabs w)), (500, .row 9 1 a1 ((ansP l.el cs.el i).length) c2 (encs (ansP l.el cs.el i))), (51, .fn (fun w => ok w brk)), (34, .row 9 1 a29 (((splR (nth cs.el i) (32 : Int)).drop 4).length) (c4 - 4) (encs ((splR (nth cs.el i) (32 : Int)).drop 4))), (21, .box g28 [.string (nth (splR (nth cs.el i) (32 : Int)) 1), .int .i64 ((numR (nth (splR (nth cs.el i) (32 : Int)) 2)).1), .string (nth (splR (nth cs.el i) (32 : Int)) 3), .string (joinN ((splR (nth cs.el i) (32 : Int)).drop 4) sp ((splR (nth cs.el i) (32 : Int)).drop 4).length)] 64), (165, .row 64 4 (some ⟨g43, 0, none⟩) (([(⟨nth (splR (nth cs.el i) (32 : Int)) 1, (numR (nth (splR (nth cs.el i) (32 : Int)) 2)).1, nth (splR (nth cs.el i) (32 : Int)) 3, joinN ((splR (nth cs.el i) (32 : Int)).drop 4) sp ((splR (nth cs.el i) (32 : Int)).drop 4).length⟩ : BrkM)] : List BrkM).length) 1 (encs ([(⟨nth (splR (nth cs.el i) (32 : Int)) 1, (numR (nth (splR (nth cs.el i) (32 : Int)) 2)).1, nth (splR (nth cs.el i) (32 : Int)) 3, joinN ((splR (nth cs.el i) (32 : Int)).drop 4) sp ((splR (nth cs.el i) (32 : Int)).drop 4).length⟩ : BrkM)] : List BrkM)))]) (.cons rfl (.cons rfl (.cons rfl (.cons rfl (.cons rfl (.cons rfl (.cons rfl (.nil)))))))) (.cons rfl (.cons rfl (.cons rfl (.cons rfl (.cons rfl (.cons rfl (.cons rfl (.cons rfl (.nil))))))))) ?_
                                refine dx 2 rfl (by kernel_rfl) rfl rfl (want_none rfl) (e_appendL (tg := 161) (l := ([] : List BrkM)) (l' := brk.el) Tryz.underlying35 in64 rfl rfl rfl rfl rfl rfl rfl (fun w hw => (show Sl.OK w _ from (hw.get_fn (t := 51) rfl)).sh) (by simp only [List.length_cons, List.length_nil]; omega)) (fun _ => (.cons rfl (.cons rfl (.cons rfl (.cons rfl (.cons rfl (.cons rfl (.cons rfl (.cons rfl (.nil)))))))))) (fun ⟨a44, c45⟩ _ => ?_)
                                rw [show ([] : List BrkM) ++ brk.el = brk.el from (List.nil_append _)]
                                refine dx 5 rfl (by kernel_rfl) rfl rfl (want_none rfl) (e_appendL (tg := 161) (l := brk.el) (l' := ([(⟨nth (splR (nth cs.el i) (32 : Int)) 1, (numR (nth (splR (nth cs.el i) (32 : Int)) 2)).1, nth (splR (nth cs.el i) (32 : Int)) 3, joinN ((splR (nth cs.el i) (32 : Int)).drop 4) sp ((splR (nth cs.el i) (32 : Int)).drop 4).length⟩ : BrkM)] : List BrkM)) Tryz.underlying35 in64 rfl rfl rfl rfl rfl rfl rfl (fun w hw => Shows.row (hw.row (tg := 165) rfl)) (by simp only [List.length_cons, List.length_nil]; omega)) (fun _ => (.cons rfl (.cons rfl (.cons rfl (.cons rfl (.cons rfl (.cons rfl (.cons rfl (.cons rfl (.nil)))))))))) (fun ⟨a46, c47⟩ _ => ?_)
                                rw [show brk.el ++ ([(⟨nth (splR (nth cs.el i) (32 : Int)) 1, (numR (nth (splR (nth cs.el i) (32 : Int)) 2)).1, nth (splR (nth cs.el i) (32 : Int)) 3, joinN ((splR (nth cs.el i) (32 : Int)).drop 4) sp ((splR (nth cs.el i) (32 : Int)).drop 4).length⟩ : BrkM)] : List BrkM) = brk.el ++ [brk5 (nth cs.el i)] from rfl]
                                refine d1 6 rfl (by kernel_rfl) rfl rfl (q_assign rfl) ?_
                                refine d_end (by kernel_rfl) ?_
                                exact (key ((a46, c47), g43)).weaken (.cons rfl (.cons rfl (.cons rfl (.cons rfl (.cons rfl (.cons rfl (.cons rfl (.cons rfl (.cons rfl (.nil)))))))))) (.cons rfl (.cons rfl (.cons rfl (.cons rfl (.cons rfl (.cons rfl (.cons rfl (.cons rfl (.cons rfl (.nil))))))))))
                            · refine da rfl rfl rfl (want_none rfl) (e_bslice (cs := encs ([(⟨nth (splR (nth cs.el i) (32 : Int)) 1, (numR (nth (splR (nth cs.el i) (32 : Int)) 2)).1, nth (splR (nth cs.el i) (32 : Int)) 3, joinN ((splR (nth cs.el i) (32 : Int)).drop 4) sp ((splR (nth cs.el i) (32 : Int)).drop 4).length⟩ : BrkM)] : List BrkM)) Tryz.underlying35 zi64 (.cons rfl (.nil)) (by kernel_rfl) rfl rfl rfl) (fun _ => (.cons rfl (.cons rfl (.cons rfl (.cons rfl (.cons rfl (.cons rfl (.cons rfl (.nil))))))))) (fun g48 _ => ?_)
                              refine AnyE.more (S' := [(100, .fz (fun w => ok w l)), (101, .fz (fun w => ok w cs)), (199, .fz (fun w => Tabs w)), (500, .row 9 1 a1 ((ansP l.el cs.el i).length) c2 (encs (ansP l.el cs.el i))), (51, .fn (fun w => ok w brk)), (34, .row 9 1 a29 (((splR (nth cs.el i) (32 : Int)).drop 4).length) (c4 - 4) (encs ((splR (nth cs.el i) (32 : Int)).drop 4))), (21, .box g28 [.string (nth (splR (nth cs.el i) (32 : Int)) 1), .int .i64 ((numR (nth (splR (nth cs.el i) (32 : Int)) 2)).1), .string (nth (splR (nth cs.el i) (32 : Int)) 3), .string (joinN ((splR (nth cs.el i) (32 : Int)).drop 4) sp ((splR (nth cs.el i) (32 : Int)).drop 4).length)] 64), (165, .row 64 4 (some ⟨g48, 0, none⟩) (([(⟨nth (splR (nth cs.el i) (32 : Int)) 1, (numR (nth (splR (nth cs.el i) (32 : Int)) 2)).1, nth (splR (nth cs.el i) (32 : Int)) 3, joinN ((splR (nth cs.el i) (32 : Int)).drop 4) sp ((splR (nth cs.el i) (32 : Int)).drop 4).length⟩ : BrkM)] : List BrkM).length) 1 (encs ([(⟨nth (splR (nth cs.el i) (32 : Int)) 1, (numR (nth (splR (nth cs.el i) (32 : Int)) 2)).1, nth (splR (nth cs.el i) (32 : Int)) 3, joinN ((splR (nth cs.el i) (32 : Int)).drop 4) sp ((splR (nth cs.el i) (32 : Int)).drop 4).length⟩ : BrkM)] : List BrkM)))]) (.cons rfl (.cons rfl (.cons rfl (.cons rfl (.cons rfl (.cons rfl (.cons rfl (.nil)))))))) (.cons rfl (.cons rfl (.cons rfl (.cons rfl (.cons rfl (.cons rfl (.cons rfl (.cons rfl (.nil))))))))) ?_
                              refine dx 0 rfl (by kernel_rfl) rfl rfl (want_none rfl) (e_bslice0 (α := BrkM) Tryz.underlying35 zi64) (fun _ => (.cons rfl (.cons rfl (.cons rfl (.cons rfl (.cons rfl (.cons rfl (.cons rfl (.cons rfl (.nil)))))))))) (fun g49 _ => ?_)
                              refine dx 2 rfl (by kernel_rfl) rfl rfl (want_none rfl) (e_appendL (tg := 161) (l := ([] : List BrkM)) (l' := brk.el) Tryz.underlying35 in64 rfl rfl rfl rfl rfl rfl rfl (fun w hw => (show Sl.OK w _ from (hw.get_fn (t := 51) rfl)).sh) (by simp only [List.length_cons, List.length_nil]; omega)) (fun _ => (.cons rfl (.cons rfl (.cons rfl (.cons rfl (.cons rfl (.cons rfl (.cons rfl (.cons rfl (.nil)))))))))) (fun ⟨a50, c51⟩ _ => ?_)
                              rw [show ([] : List BrkM) ++ brk.el = brk.el from (List.nil_append _)]
                              refine dx 5 rfl (by kernel_rfl) rfl rfl (want_none rfl) (e_appendL (tg := 161) (l := brk.el) (l' := ([(⟨nth (splR (nth cs.el i) (32 : Int)) 1, (numR (nth (splR (nth cs.el i) (32 : Int)) 2)).1, nth (splR (nth cs.el i) (32 : Int)) 3, joinN ((splR (nth cs.el i) (32 : Int)).drop 4) sp ((splR (nth cs.el i) (32 : Int)).drop 4).length⟩ : BrkM)] : List BrkM)) Tryz.underlying35 in64 rfl rfl rfl rfl rfl rfl rfl (fun w hw => Shows.row (hw.row (tg := 165) rfl)) (by simp only [List.length_cons, List.length_nil]; omega)) (fun _ => (.cons rfl (.cons rfl (.cons rfl (.cons rfl (.cons rfl (.cons rfl (.cons rfl (.cons rfl (.nil)))))))))) (fun ⟨a52, c53⟩ _ => ?_)
                              rw [show brk.el ++ ([(⟨nth (splR (nth cs.el i) (32 : Int)) 1, (numR (nth (splR (nth cs.el i) (32 : Int)) 2)).1, nth (splR (nth cs.el i) (32 : Int)) 3, joinN ((splR (nth cs.el i) (32 : Int)).drop 4) sp ((splR (nth cs.el i) (32 : Int)).drop 4).length⟩ : BrkM)] : List BrkM) = brk.el ++ [brk5 (nth cs.el i)] from rfl]
                              refine d1 6 rfl (by kernel_rfl) rfl rfl (q_assign rfl) ?_
                              refine d_end (by kernel_rfl) ?_
                              exact (key ((a52, c53), g48)).weaken (.cons rfl (.cons rfl (.cons rfl (.cons rfl (.cons rfl (.cons rfl (.cons rfl (.cons rfl (.cons rfl (.nil)))))))))) (.cons rfl (.cons rfl (.cons rfl (.cons rfl (.cons rfl (.cons rfl (.cons rfl (.cons rfl (.cons rfl (.nil))))))))))
                        · refine r_skip ?_
                          refine r_seq ?_
                          refine r_cutx (fun q54 : (Option Addr × Nat) × Nat => [(0, .slice l.addr l.el.length l.cap), (1, .slice cs.addr cs.el.length cs.cap), (5, .int .i64 (posP l.el cs.el i)), (6, .slice brk.addr brk.el.length brk.cap), (7, .slice a1 ((ansP l.el cs.el i).length) c2), (8, .int .i64 ((i : Nat) : Int)), (11, .slice a3 ((splR (nth cs.el i) (32 : Int)).length) c4), (21, .pointer (some ⟨g28, 0, none⟩)), (22, .slice q54.1.1 ((brk.el ++ [brk3 (nth cs.el i)]).length) q54.1.2)]) (fun q54 : (Option Addr × Nat) × Nat => [(100, .fz (fun w => ok w l)), (101, .fz (fun w => ok w cs)), (199, .fz (fun w => Tabs w)), (500, .row 9 1 a1 ((ansP l.el cs.el i).length) c2 (encs (ansP l.el cs.el i))), (51, .fn (fun w => ok w brk)), (34, .row 9 1 a3 ((splR (nth cs.el i) (32 : Int)).length) c4 (encs (splR (nth cs.el i) (32 : Int)))), (21, .box g28 [.string (nth (splR (nth cs.el i) (32 : Int)) 1), .int .i64 ((numR (nth (splR (nth cs.el i) (32 : Int)) 2)).1), .string ByteArray.empty, .string ByteArray.empty] 64), (161, .row 64 4 q54.1.1 ((brk.el ++ [brk3 (nth cs.el i)]).length) q54.1.2 (encs (brk.el ++ [brk3 (nth cs.el i)]))), (165, .row 64 4 (some ⟨q54.2, 0, none⟩) (([(⟨nth (splR (nth cs.el i) (32 : Int)) 1, (numR (nth (splR (nth cs.el i) (32 : Int)) 2)).1, ByteArray.empty, ByteArray.empty⟩ : BrkM)] : List BrkM).length) 1 (encs ([(⟨nth (splR (nth cs.el i) (32 : Int)) 1, (numR (nth (splR (nth cs.el i) (32 : Int)) 2)).1, ByteArray.empty, ByteArray.empty⟩ : BrkM)] : List BrkM)))]) (fun q54 => ?_) (fun key => ?_)
                          · refine r_seq ?_
                            refine r_region ?_
                            refine s1 rfl (q_assign rfl) ?_
                            refine o_end ?_
                            refine r_seq ?_
                            refine r_cut [(0, .slice l.addr l.el.length l.cap), (1, .slice cs.addr cs.el.length cs.cap), (5, .int .i64 (posP l.el cs.el i)), (6, .slice brk.addr brk.el.length brk.cap), (7, .slice a1 ((ansP l.el cs.el i).length) c2), (8, .int .i64 ((i : Nat) : Int)), (10, .string sRefused), (22, .slice q54.1.1 ((brk.el ++ [brk3 (nth cs.el i)]).length) q54.1.2), (180, .bool (decide (((breaksFault (brk.el ++ [brk3 (nth cs.el i)])).1 = (0 : Int)) ∧ (((((splR (nth cs.el i) (32 : Int)).length : Nat) : Int) = (3 : Int)) ∨ (ByteArray.empty ≠ (⟨#[]⟩ : ByteArray))))))] [(100, .fz (fun w => ok w l)), (101, .fz (fun w => ok w cs)), (199, .fz (fun w => Tabs w)), (500, .row 9 1 a1 ((ansP l.el cs.el i).length) c2 (encs (ansP l.el cs.el i))), (51, .fn (fun w => ok w brk)), (34, .row 9 1 a3 ((splR (nth cs.el i) (32 : Int)).length) c4 (encs (splR (nth cs.el i) (32 : Int)))), (21, .box g28 [.string (nth (splR (nth cs.el i) (32 : Int)) 1), .int .i64 ((numR (nth (splR (nth cs.el i) (32 : Int)) 2)).1), .string ByteArray.empty, .string ByteArray.empty] 64), (161, .row 64 4 q54.1.1 ((brk.el ++ [brk3 (nth cs.el i)]).length) q54.1.2 (encs (brk.el ++ [brk3 (nth cs.el i)]))), (165, .row 64 4 (some ⟨q54.2, 0, none⟩) (([(⟨nth (splR (nth cs.el i) (32 : Int)) 1, (numR (nth (splR (nth cs.el i) (32 : Int)) 2)).1, ByteArray.empty, ByteArray.empty⟩ : BrkM)] : List BrkM).length) 1 (encs ([(⟨nth (splR (nth cs.el i) (32 : Int)) 1, (numR (nth (splR (nth cs.el i) (32 : Int)) 2)).1, ByteArray.empty, ByteArray.empty⟩ : BrkM)] : List BrkM)))] ?_ (fun key => ?_)
                            · refine r_if rfl (fun hp18 => ?_) (fun hp18 => ?_)
                              · refine r_seq ?_
                                refine r_region ?_
                                refine s1 rfl (q_move rfl) ?_
                                refine s1 rfl (q_assign rfl) ?_
                                refine o_end ?_
                                refine r_region ?_
                                refine s1 rfl (q_move rfl) ?_
                                refine s1 rfl (q_len Tryz.underlying35 rfl) ?_
                                refine sx rfl (e_call en27 (.cons rfl (.nil)) ((fun w hw => c27 (((brk.el ++ [brk3 (nth cs.el i)]).length : Nat) : Int) w (by omega)))) (fun _ _ => ?_)
                                refine s1 rfl (q_sadd rfl rfl (by first | (have hx := hPl (by omega); have hy2 : (⟨#[59, 32]⟩ : ByteArray).size = 2 := rfl; simp only [ByteArray.size_append] at *; omega) | (have hy : (⟨#[59, 32]⟩ : ByteArray).size = 2 := rfl; have hx := hPl (by omega); simp only [ByteArray.size_append]; omega) | (have hz5 := itoaB_size (n := (((brk.el ++ [brk5 (nth cs.el i)]).length : Nat) : Int)) (by omega); have hz3 := itoaB_size (n := (((brk.el ++ [brk3 (nth cs.el i)]).length : Nat) : Int)) (by omega); have hy : (⟨#[98, 114, 101, 97, 107, 112, 111, 105, 110, 116, 32]⟩ : ByteArray).size = 11 := rfl; omega))) ?_
                                refine s1 rfl (q_assign rfl) ?_
                                refine o_end ?_
                                refine r_region ?_
                                refine s1 rfl (q_move rfl) ?_
                                refine s1 rfl (q_move rfl) ?_
                                refine sx rfl (e_bslice (cs := encs ([sBreakpoint ++ (itoaB (((brk.el ++ [brk3 (nth cs.el i)]).length : Nat) : Int))] : List ByteArray)) Tryz.underlying23 zi9 (.cons rfl (.nil)) (by kernel_rfl) rfl rfl rfl) (fun g55 _ => ?_)
                                refine sx rfl (e_appendL (tg := 500) (l := ansP l.el cs.el i) (l' := ([sBreakpoint ++ (itoaB (((brk.el ++ [brk3 (nth cs.el i)]).length : Nat) : Int))] : List ByteArray)) Tryz.underlying23 in9 rfl rfl rfl rfl rfl rfl rfl (fun w hw => Shows.row (hw.row (tg := 188) rfl)) (by simp only [List.length_cons, List.length_nil]; omega)) (fun ⟨a56, c57⟩ _ => ?_)
                                refine s1 rfl (q_assign rfl) ?_
                                refine o_end ?_
                                refine r_inBlock ?_
                                refine r_region ?_
                                refine s1 rfl (q_move rfl) ?_
                                refine s1 rfl (q_add rfl rfl (by omega)) ?_
                                refine s1 rfl (q_assign rfl) ?_
                                refine o_end ?_
                                refine r_know (fun w hw => hw.freezeRow (l := brk.el ++ [brk3 (nth cs.el i)]) (t := 161) rfl (by simp only [by_]; omega) (fun w q hq => by first | exact (hnb5 q hq).ok w | exact (hnb3 q hq).ok w)) ?_
                                refine r_know (fun w hw => hw.ren (.cons (t := 100) (t0 := 100) rfl rfl (.cons (t := 101) (t0 := 101) rfl rfl (.cons (t := 199) (t0 := 199) rfl rfl (.cons (t := 500) (t0 := 500) rfl rfl (.cons (t := 51) (t0 := 161) rfl rfl .nil)))))) ?_
                                have hd : doP l.el brk.el (posP l.el cs.el i) (nth cs.el i) = (sBreakpoint ++ (itoaB (((brk.el ++ [brk3 (nth cs.el i)]).length : Nat) : Int)), posP l.el cs.el i, brk.el ++ [brk3 (nth cs.el i)]) := by (rw [do_brkR (Bool.eq_false_iff.1 hp2) hp5 hp6 hp12, add_3y hp12 hp13 hp14 hp18])
                                rw [show (ansP l.el cs.el i) ++ ([sBreakpoint ++ (itoaB (((brk.el ++ [brk3 (nth cs.el i)]).length : Nat) : Int))] : List ByteArray) = ansP l.el cs.el (i + 1) from (by rw [ans_next, answer, ← hI2, hd])]
                                refine r_inLoop ?_
                                refine RunE.weaken ?_ ?_ (ih0 (i + 1) a56 c57 (⟨q54.1.1, q54.1.2, brk.el ++ [brk3 (nth cs.el i)]⟩ : Sl BrkM) ?_ ?_)
                                · exact (.cons rfl (.cons rfl (.consE rfl (congrArg (Value.int .i64) (by rw [pos_next, ← hI2, hd])) (.cons rfl (.cons rfl (.cons rfl (.nil)))))))
                                · exact (.cons rfl (.cons rfl (.cons rfl (.cons rfl (.cons rfl (.nil))))))
                                · exact ⟨by omega, by rw [brk_next, ← hI2, hd]⟩
                                · omega
                              · refine r_skip ?_
                                refine r_region ?_
                                refine s1 rfl (q_move rfl) ?_
                                refine s1 rfl (q_move rfl) ?_
                                refine sx rfl (e_bslice (cs := encs ([sRefused] : List ByteArray)) Tryz.underlying23 zi9 (.cons rfl (.nil)) (by kernel_rfl) rfl rfl rfl) (fun g58 _ => ?_)
                                refine sx rfl (e_appendL (tg := 500) (l := ansP l.el cs.el i) (l' := ([sRefused] : List ByteArray)) Tryz.underlying23 in9 rfl rfl rfl rfl rfl rfl rfl (fun w hw => Shows.row (hw.row (tg := 188) rfl)) (by simp only [List.length_cons, List.length_nil]; omega)) (fun ⟨a59, c60⟩ _ => ?_)
                                refine s1 rfl (q_assign rfl) ?_
                                refine o_end ?_
                                refine r_inBlock ?_
                                refine r_region ?_
                                refine s1 rfl (q_move rfl) ?_
                                refine s1 rfl (q_add rfl rfl (by omega)) ?_
                                refine s1 rfl (q_assign rfl) ?_
                                refine o_end ?_
                                have hd : doP l.el brk.el (posP l.el cs.el i) (nth cs.el i) = (sRefused, posP l.el cs.el i, brk.el) := by (rw [do_brkR (Bool.eq_false_iff.1 hp2) hp5 hp6 hp12, add_3n hp12 hp13 hp14 hp18])
                                rw [show (ansP l.el cs.el i) ++ ([sRefused] : List ByteArray) = ansP l.el cs.el (i + 1) from (by rw [ans_next, answer, ← hI2, hd])]
                                refine r_inLoop ?_
                                refine RunE.weaken ?_ ?_ (ih0 (i + 1) a59 c60 brk ?_ ?_)
                                · exact (.cons rfl (.cons rfl (.consE rfl (congrArg (Value.int .i64) (by rw [pos_next, ← hI2, hd])) (.cons rfl (.cons rfl (.cons rfl (.nil)))))))
                                · exact (.cons rfl (.cons rfl (.cons rfl (.cons rfl (.cons rfl (.nil))))))
                                · exact ⟨by omega, by rw [brk_next, ← hI2, hd]⟩
                                · omega
                            · refine r_region ?_
                              refine s1 rfl (q_move rfl) ?_
                              refine sx rfl (e_call en26 (.cons rfl (.nil)) ((fun w hw => c26 (⟨q54.1.1, q54.1.2, brk.el ++ [brk3 (nth cs.el i)]⟩ : Sl BrkM) w (ok_row (hw.row (tg := 161) rfl) (by first | omega | (simp only [by_]; omega) | exact w4_row hcz) (fun q hq => by first | exact (hnb5 q hq).ok _ | exact (hnb3 q hq).ok _)) (by first | exact fun q hq => (hnb5 q hq).mod | exact fun q hq => (hnb3 q hq).mod)))) (fun _ _ => ?_)
                              refine s1 rfl (q_field1 Tryz.underlying25 rfl rfl (part3 rfl)) ?_
                              refine s1 rfl (q_eql rfl rfl) ?_
                              refine s1 rfl (q_move rfl) ?_
                              refine g_split (s := 171) rfl (fun hp19 => ?_) (fun hp19 => ?_)
                              · refine g_on rfl rfl ?_
                                refine s1 rfl (q_move rfl) ?_
                                refine g_on rfl rfl ?_
                                refine s1 rfl (q_len Tryz.underlying23 rfl) ?_
                                refine g_on rfl rfl ?_
                                refine s1 rfl (q_eql rfl rfl) ?_
                                refine g_on rfl rfl ?_
                                refine s1 rfl (q_move rfl) ?_
                                refine g_split (s := 175) rfl (fun hp20 => ?_) (fun hp20 => ?_)
                                · refine g_off rfl rfl rfl ?_
                                  refine g_off rfl rfl rfl ?_
                                  refine g_off rfl rfl rfl ?_
                                  refine g_on rfl rfl ?_
                                  refine s1 rfl (q_pickt rfl rfl) ?_
                                  refine s1 rfl (q_pickt rfl rfl) ?_
                                  refine o_end ?_
                                  exact key.weaken (.cons rfl (.cons rfl (.cons rfl (.cons rfl (.cons rfl (.cons rfl (.cons rfl (.cons rfl (.consE rfl (congrArg Value.bool (decide_eq_true ⟨hp19, (Or.inl hp20)⟩).symm) (.nil)))))))))) (.cons rfl (.cons rfl (.cons rfl (.cons rfl (.cons rfl (.cons rfl (.cons rfl (.cons rfl (.cons rfl (.nil))))))))))
                                · refine g_on rfl rfl ?_
                                  refine s1 rfl (q_fieldAddr of64_2 rfl rfl) ?_
                                  refine g_on rfl rfl ?_
                                  refine s1 rfl (q_load ag9 rfl (fun w hw => hw.box (tg := 21) rfl rfl)) ?_
                                  refine g_on rfl rfl ?_
                                  refine s1 rfl (q_sneq rfl rfl) ?_
                                  refine g_on rfl rfl ?_
                                  refine s1 rfl (q_pickf rfl rfl) ?_
                                  refine s1 rfl (q_pickt rfl rfl) ?_
                                  refine o_end ?_
                                  exact key.weaken (.cons rfl (.cons rfl (.cons rfl (.cons rfl (.cons rfl (.cons rfl (.cons rfl (.cons rfl (.consE rfl (congrArg Value.bool (by first | (simp only [hp19, hp20, eq_self, sBreak, sShowW, ne_eq, not_true_eq_false, not_false_eq_true, true_or, or_true, false_or, or_false, true_and, and_true, false_and, and_false, Bool.decide_eq_true] <;> first | exact nb_dec _ | exact b_dec _ | (simp; done)) | exact nb_dec _ | exact b_dec _ | (simp; done) | (exfalso; omega))) (.nil)))))))))) (.cons rfl (.cons rfl (.cons rfl (.cons rfl (.cons rfl (.cons rfl (.cons rfl (.cons rfl (.cons rfl (.nil))))))))))
                              · refine g_off rfl rfl rfl ?_
                                iterate 3 refine g_off rfl rfl rfl ?_
                                iterate 3 refine g_offu rfl rfl rfl ?_
                                refine g_off rfl rfl rfl ?_
                                refine s1 rfl (q_pickf rfl rfl) ?_
                                refine o_end ?_
                                exact key.weaken (.cons rfl (.cons rfl (.cons rfl (.cons rfl (.cons rfl (.cons rfl (.cons rfl (.cons rfl (.consE rfl (congrArg Value.bool (decide_eq_false (fun h => hp19 h.1)).symm) (.nil)))))))))) (.cons rfl (.cons rfl (.cons rfl (.cons rfl (.cons rfl (.cons rfl (.cons rfl (.cons rfl (.cons rfl (.nil))))))))))
                          · refine r_draw [(100, .fz (fun w => ok w l)), (101, .fz (fun w => ok w cs)), (199, .fz (fun w => Tabs w)), (500, .row 9 1 a1 ((ansP l.el cs.el i).length) c2 (encs (ansP l.el cs.el i))), (51, .fn (fun w => ok w brk)), (34, .row 9 1 a3 ((splR (nth cs.el i) (32 : Int)).length) c4 (encs (splR (nth cs.el i) (32 : Int)))), (21, .box g28 [.string (nth (splR (nth cs.el i) (32 : Int)) 1), .int .i64 ((numR (nth (splR (nth cs.el i) (32 : Int)) 2)).1), .string ByteArray.empty, .string ByteArray.empty] 64)] (by kernel_rfl) rfl (.cons rfl (.cons rfl (.cons rfl (.cons rfl (.cons rfl (.cons rfl (.cons rfl (.nil)))))))) ?_
                            refine d1 1 rfl (by kernel_rfl) rfl rfl (q_move rfl) ?_
                            refine d1 3 rfl (by kernel_rfl) rfl rfl (q_loads (cs := [.string (nth (splR (nth cs.el i) (32 : Int)) 1), .int .i64 ((numR (nth (splR (nth cs.el i) (32 : Int)) 2)).1), .string ByteArray.empty, .string ByteArray.empty]) ag64 z64 rfl rfl (fun w hw => hw.boxes (tg := 21) rfl)) ?_
                            refine AnyE.two (i := 0) (j := 4) (by kernel_rfl) ?_ ?_
                            · refine da rfl rfl rfl (want_none rfl) (e_bslice0 (α := BrkM) Tryz.underlying35 zi64) (fun _ => (.cons rfl (.cons rfl (.cons rfl (.cons rfl (.cons rfl (.cons rfl (.cons rfl (.nil))))))))) (fun g61 _ => ?_)
                              refine AnyE.two (i := 2) (j := 4) (by kernel_rfl) ?_ ?_
                              · refine da rfl rfl rfl (want_none rfl) (e_appendL (tg := 161) (l := ([] : List BrkM)) (l' := brk.el) Tryz.underlying35 in64 rfl rfl rfl rfl rfl rfl rfl (fun w hw => (show Sl.OK w _ from (hw.get_fn (t := 51) rfl)).sh) (by simp only [List.length_cons, List.length_nil]; omega)) (fun _ => (.cons rfl (.cons rfl (.cons rfl (.cons rfl (.cons rfl (.cons rfl (.cons rfl (.nil))))))))) (fun ⟨a62, c63⟩ _ => ?_)
                                rw [show ([] : List BrkM) ++ brk.el = brk.el from (List.nil_append _)]
                                refine dx 4 rfl (by kernel_rfl) rfl rfl (want_none rfl) (e_bslice (cs := encs ([(⟨nth (splR (nth cs.el i) (32 : Int)) 1, (numR (nth (splR (nth cs.el i) (32 : Int)) 2)).1, ByteArray.empty, ByteArray.empty⟩ : BrkM)] : List BrkM)) Tryz.underlying35 zi64 (.cons rfl (.nil)) (by kernel_rfl) rfl rfl rfl) (fun _ => (.cons rfl (.cons rfl (.cons rfl (.cons rfl (.cons rfl (.cons rfl (.cons rfl (.nil))))))))) (fun g64 _ => ?_)
                                refine AnyE.more (S' := [(100, .fz (fun w => ok w l)), (101, .fz (fun w => ok w cs)), (199, .fz (fun w => Tabs w)), (500, .row 9 1 a1 ((ansP l.el cs.el i).length) c2 (encs (ansP l.el cs.el i))), (51, .fn (fun w => ok w brk)), (34, .row 9 1 a3 ((splR (nth cs.el i) (32 : Int)).length) c4 (encs (splR (nth cs.el i) (32 : Int)))), (21, .box g28 [.string (nth (splR (nth cs.el i) (32 : Int)) 1), .int .i64 ((numR (nth (splR (nth cs.el i) (32 : Int)) 2)).1), .string ByteArray.empty, .string ByteArray.empty] 64), (165, .row 64 4 (some ⟨g64, 0, none⟩) (([(⟨nth (splR (nth cs.el i) (32 : Int)) 1, (numR (nth (splR (nth cs.el i) (32 : Int)) 2)).1, ByteArray.empty, ByteArray.empty⟩ : BrkM)] : List BrkM).length) 1 (encs ([(⟨nth (splR (nth cs.el i) (32 : Int)) 1, (numR (nth (splR (nth cs.el i) (32 : Int)) 2)).1, ByteArray.empty, ByteArray.empty⟩ : BrkM)] : List BrkM)))]) (.cons rfl (.cons rfl (.cons rfl (.cons rfl (.cons rfl (.cons rfl (.cons rfl (.nil)))))))) (.cons rfl (.cons rfl (.cons rfl (.cons rfl (.cons rfl (.cons rfl (.cons rfl (.cons rfl (.nil))))))))) ?_
                                refine dx 5 rfl (by kernel_rfl) rfl rfl (want_none rfl) (e_appendL (tg := 161) (l := brk.el) (l' := ([(⟨nth (splR (nth cs.el i) (32 : Int)) 1, (numR (nth (splR (nth cs.el i) (32 : Int)) 2)).1, ByteArray.empty, ByteArray.empty⟩ : BrkM)] : List BrkM)) Tryz.underlying35 in64 rfl rfl rfl rfl rfl rfl rfl (fun w hw => Shows.row (hw.row (tg := 165) rfl)) (by simp only [List.length_cons, List.length_nil]; omega)) (fun _ => (.cons rfl (.cons rfl (.cons rfl (.cons rfl (.cons rfl (.cons rfl (.cons rfl (.cons rfl (.nil)))))))))) (fun ⟨a65, c66⟩ _ => ?_)
                                rw [show brk.el ++ ([(⟨nth (splR (nth cs.el i) (32 : Int)) 1, (numR (nth (splR (nth cs.el i) (32 : Int)) 2)).1, ByteArray.empty, ByteArray.empty⟩ : BrkM)] : List BrkM) = brk.el ++ [brk3 (nth cs.el i)] from rfl]
                                refine d1 6 rfl (by kernel_rfl) rfl rfl (q_assign rfl) ?_
                                refine d_end (by kernel_rfl) ?_
                                exact (key ((a65, c66), g64)).weaken (.cons rfl (.cons rfl (.cons rfl (.cons rfl (.cons rfl (.cons rfl (.cons rfl (.cons rfl (.cons rfl (.nil)))))))))) (.cons rfl (.cons rfl (.cons rfl (.cons rfl (.cons rfl (.cons rfl (.cons rfl (.cons rfl (.cons rfl (.nil))))))))))
                              · refine da rfl rfl rfl (want_none rfl) (e_bslice (cs := encs ([(⟨nth (splR (nth cs.el i) (32 : Int)) 1, (numR (nth (splR (nth cs.el i) (32 : Int)) 2)).1, ByteArray.empty, ByteArray.empty⟩ : BrkM)] : List BrkM)) Tryz.underlying35 zi64 (.cons rfl (.nil)) (by kernel_rfl) rfl rfl rfl) (fun _ => (.cons rfl (.cons rfl (.cons rfl (.cons rfl (.cons rfl (.cons rfl (.cons rfl (.nil))))))))) (fun g67 _ => ?_)
                                refine AnyE.more (S' := [(100, .fz (fun w => ok w l)), (101, .fz (fun w => ok w cs)), (199, .fz (fun w => Tabs w)), (500, .row 9 1 a1 ((ansP l.el cs.el i).length) c2 (encs (ansP l.el cs.el i))), (51, .fn (fun w => ok w brk)), (34, .row 9 1 a3 ((splR (nth cs.el i) (32 : Int)).length) c4 (encs (splR (nth cs.el i) (32 : Int)))), (21, .box g28 [.string (nth (splR (nth cs.el i) (32 : Int)) 1), .int .i64 ((numR (nth (splR (nth cs.el i) (32 : Int)) 2)).1), .string ByteArray.empty, .string ByteArray.empty] 64), (165, .row 64 4 (some ⟨g67, 0, none⟩) (([(⟨nth (splR (nth cs.el i) (32 : Int)) 1, (numR (nth (splR (nth cs.el i) (32 : Int)) 2)).1, ByteArray.empty, ByteArray.empty⟩ : BrkM)] : List BrkM).length) 1 (encs ([(⟨nth (splR (nth cs.el i) (32 : Int)) 1, (numR (nth (splR (nth cs.el i) (32 : Int)) 2)).1, ByteArray.empty, ByteArray.empty⟩ : BrkM)] : List BrkM)))]) (.cons rfl (.cons rfl (.cons rfl (.cons rfl (.cons rfl (.cons rfl (.cons rfl (.nil)))))))) (.cons rfl (.cons rfl (.cons rfl (.cons rfl (.cons rfl (.cons rfl (.cons rfl (.cons rfl (.nil))))))))) ?_
                                refine dx 2 rfl (by kernel_rfl) rfl rfl (want_none rfl) (e_appendL (tg := 161) (l := ([] : List BrkM)) (l' := brk.el) Tryz.underlying35 in64 rfl rfl rfl rfl rfl rfl rfl (fun w hw => (show Sl.OK w _ from (hw.get_fn (t := 51) rfl)).sh) (by simp only [List.length_cons, List.length_nil]; omega)) (fun _ => (.cons rfl (.cons rfl (.cons rfl (.cons rfl (.cons rfl (.cons rfl (.cons rfl (.cons rfl (.nil)))))))))) (fun ⟨a68, c69⟩ _ => ?_)
                                rw [show ([] : List BrkM) ++ brk.el = brk.el from (List.nil_append _)]
                                refine dx 5 rfl (by kernel_rfl) rfl rfl (want_none rfl) (e_appendL (tg := 161) (l := brk.el) (l' := ([(⟨nth (splR (nth cs.el i) (32 : Int)) 1, (numR (nth (splR (nth cs.el i) (32 : Int)) 2)).1, ByteArray.empty, ByteArray.empty⟩ : BrkM)] : List BrkM)) Tryz.underlying35 in64 rfl rfl rfl rfl rfl rfl rfl (fun w hw => Shows.row (hw.row (tg := 165) rfl)) (by simp only [List.length_cons, List.length_nil]; omega)) (fun _ => (.cons rfl (.cons rfl (.cons rfl (.cons rfl (.cons rfl (.cons rfl (.cons rfl (.cons rfl (.nil)))))))))) (fun ⟨a70, c71⟩ _ => ?_)
                                rw [show brk.el ++ ([(⟨nth (splR (nth cs.el i) (32 : Int)) 1, (numR (nth (splR (nth cs.el i) (32 : Int)) 2)).1, ByteArray.empty, ByteArray.empty⟩ : BrkM)] : List BrkM) = brk.el ++ [brk3 (nth cs.el i)] from rfl]
                                refine d1 6 rfl (by kernel_rfl) rfl rfl (q_assign rfl) ?_
                                refine d_end (by kernel_rfl) ?_
                                exact (key ((a70, c71), g67)).weaken (.cons rfl (.cons rfl (.cons rfl (.cons rfl (.cons rfl (.cons rfl (.cons rfl (.cons rfl (.cons rfl (.nil)))))))))) (.cons rfl (.cons rfl (.cons rfl (.cons rfl (.cons rfl (.cons rfl (.cons rfl (.cons rfl (.cons rfl (.nil))))))))))
                            · refine da rfl rfl rfl (want_none rfl) (e_bslice (cs := encs ([(⟨nth (splR (nth cs.el i) (32 : Int)) 1, (numR (nth (splR (nth cs.el i) (32 : Int)) 2)).1, ByteArray.empty, ByteArray.empty⟩ : BrkM)] : List BrkM)) Tryz.underlying35 zi64 (.cons rfl (.nil)) (by kernel_rfl) rfl rfl rfl) (fun _ => (.cons rfl (.cons rfl (.cons rfl (.cons rfl (.cons rfl (.cons rfl (.cons rfl (.nil))))))))) (fun g72 _ => ?_)
                              refine AnyE.more (S' := [(100, .fz (fun w => ok w l)), (101, .fz (fun w => ok w cs)), (199, .fz (fun w => Tabs w)), (500, .row 9 1 a1 ((ansP l.el cs.el i).length) c2 (encs (ansP l.el cs.el i))), (51, .fn (fun w => ok w brk)), (34, .row 9 1 a3 ((splR (nth cs.el i) (32 : Int)).length) c4 (encs (splR (nth cs.el i) (32 : Int)))), (21, .box g28 [.string (nth (splR (nth cs.el i) (32 : Int)) 1), .int .i64 ((numR (nth (splR (nth cs.el i) (32 : Int)) 2)).1), .string ByteArray.empty, .string ByteArray.empty] 64), (165, .row 64 4 (some ⟨g72, 0, none⟩) (([(⟨nth (splR (nth cs.el i) (32 : Int)) 1, (numR (nth (splR (nth cs.el i) (32 : Int)) 2)).1, ByteArray.empty, ByteArray.empty⟩ : BrkM)] : List BrkM).length) 1 (encs ([(⟨nth (splR (nth cs.el i) (32 : Int)) 1, (numR (nth (splR (nth cs.el i) (32 : Int)) 2)).1, ByteArray.empty, ByteArray.empty⟩ : BrkM)] : List BrkM)))]) (.cons rfl (.cons rfl (.cons rfl (.cons rfl (.cons rfl (.cons rfl (.cons rfl (.nil)))))))) (.cons rfl (.cons rfl (.cons rfl (.cons rfl (.cons rfl (.cons rfl (.cons rfl (.cons rfl (.nil))))))))) ?_
                              refine dx 0 rfl (by kernel_rfl) rfl rfl (want_none rfl) (e_bslice0 (α := BrkM) Tryz.underlying35 zi64) (fun _ => (.cons rfl (.cons rfl (.cons rfl (.cons rfl (.cons rfl (.cons rfl (.cons rfl (.cons rfl (.nil)))))))))) (fun g73 _ => ?_)
                              refine dx 2 rfl (by kernel_rfl) rfl rfl (want_none rfl) (e_appendL (tg := 161) (l := ([] : List BrkM)) (l' := brk.el) Tryz.underlying35 in64 rfl rfl rfl rfl rfl rfl rfl (fun w hw => (show Sl.OK w _ from (hw.get_fn (t := 51) rfl)).sh) (by simp only [List.length_cons, List.length_nil]; omega)) (fun _ => (.cons rfl (.cons rfl (.cons rfl (.cons rfl (.cons rfl (.cons rfl (.cons rfl (.cons rfl (.nil)))))))))) (fun ⟨a74, c75⟩ _ => ?_)
                              rw [show ([] : List BrkM) ++ brk.el = brk.el from (List.nil_append _)]
                              refine dx 5 rfl (by kernel_rfl) rfl rfl (want_none rfl) (e_appendL (tg := 161) (l := brk.el) (l' := ([(⟨nth (splR (nth cs.el i) (32 : Int)) 1, (numR (nth (splR (nth cs.el i) (32 : Int)) 2)).1, ByteArray.empty, ByteArray.empty⟩ : BrkM)] : List BrkM)) Tryz.underlying35 in64 rfl rfl rfl rfl rfl rfl rfl (fun w hw => Shows.row (hw.row (tg := 165) rfl)) (by simp only [List.length_cons, List.length_nil]; omega)) (fun _ => (.cons rfl (.cons rfl (.cons rfl (.cons rfl (.cons rfl (.cons rfl (.cons rfl (.cons rfl (.nil)))))))))) (fun ⟨a76, c77⟩ _ => ?_)
                              rw [show brk.el ++ ([(⟨nth (splR (nth cs.el i) (32 : Int)) 1, (numR (nth (splR (nth cs.el i) (32 : Int)) 2)).1, ByteArray.empty, ByteArray.empty⟩ : BrkM)] : List BrkM) = brk.el ++ [brk3 (nth cs.el i)] from rfl]
                              refine d1 6 rfl (by kernel_rfl) rfl rfl (q_assign rfl) ?_
                              refine d_end (by kernel_rfl) ?_
                              exact (key ((a76, c77), g72)).weaken (.cons rfl (.cons rfl (.cons rfl (.cons rfl (.cons rfl (.cons rfl (.cons rfl (.cons rfl (.cons rfl (.nil)))))))))) (.cons rfl (.cons rfl (.cons rfl (.cons rfl (.cons rfl (.cons rfl (.cons rfl (.cons rfl (.cons rfl (.nil))))))))))
                      · refine r_skip ?_
                        refine r_region ?_
                        refine s1 rfl (q_move rfl) ?_
                        refine s1 rfl (q_move rfl) ?_
                        refine sx rfl (e_bslice (cs := encs ([sWhat] : List ByteArray)) Tryz.underlying23 zi9 (.cons rfl (.nil)) (by kernel_rfl) rfl rfl rfl) (fun g78 _ => ?_)
                        refine sx rfl (e_appendL (tg := 500) (l := ansP l.el cs.el i) (l' := ([sWhat] : List ByteArray)) Tryz.underlying23 in9 rfl rfl rfl rfl rfl rfl rfl (fun w hw => Shows.row (hw.row (tg := 188) rfl)) (by simp only [List.length_cons, List.length_nil]; omega)) (fun ⟨a79, c80⟩ _ => ?_)
                        refine s1 rfl (q_assign rfl) ?_
                        refine o_end ?_
                        refine r_inBlock ?_
                        refine r_region ?_
                        refine s1 rfl (q_move rfl) ?_
                        refine s1 rfl (q_add rfl rfl (by omega)) ?_
                        refine s1 rfl (q_assign rfl) ?_
                        refine o_end ?_
                        have hd : doP l.el brk.el (posP l.el cs.el i) (nth cs.el i) = (sWhat, posP l.el cs.el i, brk.el) := by (rw [do_brkR (Bool.eq_false_iff.1 hp2) hp5 hp6 hp12, add_bad hp12 hp13])
                        rw [show (ansP l.el cs.el i) ++ ([sWhat] : List ByteArray) = ansP l.el cs.el (i + 1) from (by rw [ans_next, answer, ← hI2, hd])]
                        refine r_inLoop ?_
                        refine RunE.weaken ?_ ?_ (ih0 (i + 1) a79 c80 brk ?_ ?_)
                        · exact (.cons rfl (.cons rfl (.consE rfl (congrArg (Value.int .i64) (by rw [pos_next, ← hI2, hd])) (.cons rfl (.cons rfl (.cons rfl (.nil)))))))
                        · exact (.cons rfl (.cons rfl (.cons rfl (.cons rfl (.cons rfl (.nil))))))
                        · exact ⟨by omega, by rw [brk_next, ← hI2, hd]⟩
                        · omega
                    · refine r_region ?_
                      refine s1 rfl (q_move rfl) ?_
                      refine s1 rfl (q_move rfl) ?_
                      refine g_splitb (s := 141) rfl (fun hp21 => ?_) (fun hp21 => ?_)
                      · refine g_on rfl rfl ?_
                        refine s1 rfl (q_move rfl) ?_
                        refine g_on rfl rfl ?_
                        refine s1 rfl (q_geq rfl rfl) ?_
                        refine s1 rfl (q_pickt rfl rfl) ?_
                        refine o_end ?_
                        exact key.weaken (.cons rfl (.cons rfl (.cons rfl (.cons rfl (.cons rfl (.cons rfl (.cons rfl (.cons rfl (.cons rfl (.consE rfl (congrArg Value.bool (by first | (simp only [hp21, eq_self, sBreak, sShowW, ne_eq, not_true_eq_false, not_false_eq_true, true_or, or_true, false_or, or_false, true_and, and_true, false_and, and_false, Bool.decide_eq_true] <;> first | exact nb_dec _ | exact b_dec _ | (simp; done)) | exact nb_dec _ | exact b_dec _ | (simp; done) | (exfalso; omega))) (.nil))))))))))) (.cons rfl (.cons rfl (.cons rfl (.cons rfl (.cons rfl (.cons rfl (.nil)))))))
                      · refine g_off rfl rfl rfl ?_
                        refine g_off rfl rfl rfl ?_
                        refine s1 rfl (q_pickf rfl rfl) ?_
                        refine o_end ?_
                        exact key.weaken (.cons rfl (.cons rfl (.cons rfl (.cons rfl (.cons rfl (.cons rfl (.cons rfl (.cons rfl (.cons rfl (.consE rfl (congrArg Value.bool (decide_eq_false (fun h => (Bool.eq_false_iff.1 hp21) h.1)).symm) (.nil))))))))))) (.cons rfl (.cons rfl (.cons rfl (.cons rfl (.cons rfl (.cons rfl (.nil)))))))
                  · refine r_skip ?_
                    refine r_region ?_
                    refine s1 rfl (q_move rfl) ?_
                    refine s1 rfl (q_move rfl) ?_
                    refine sx rfl (e_bslice (cs := encs ([sWhat] : List ByteArray)) Tryz.underlying23 zi9 (.cons rfl (.nil)) (by kernel_rfl) rfl rfl rfl) (fun g81 _ => ?_)
                    refine sx rfl (e_appendL (tg := 500) (l := ansP l.el cs.el i) (l' := ([sWhat] : List ByteArray)) Tryz.underlying23 in9 rfl rfl rfl rfl rfl rfl rfl (fun w hw => Shows.row (hw.row (tg := 188) rfl)) (by simp only [List.length_cons, List.length_nil]; omega)) (fun ⟨a82, c83⟩ _ => ?_)
                    refine s1 rfl (q_assign rfl) ?_
                    refine o_end ?_
                    refine r_inBlock ?_
                    refine r_region ?_
                    refine s1 rfl (q_move rfl) ?_
                    refine s1 rfl (q_add rfl rfl (by omega)) ?_
                    refine s1 rfl (q_assign rfl) ?_
                    refine o_end ?_
                    have hd : doP l.el brk.el (posP l.el cs.el i) (nth cs.el i) = (sWhat, posP l.el cs.el i, brk.el) := by (exact do_none (Bool.eq_false_iff.1 hp2) hp5 hp6 hp9 hp12)
                    rw [show (ansP l.el cs.el i) ++ ([sWhat] : List ByteArray) = ansP l.el cs.el (i + 1) from (by rw [ans_next, answer, ← hI2, hd])]
                    refine r_inLoop ?_
                    refine RunE.weaken ?_ ?_ (ih0 (i + 1) a82 c83 brk ?_ ?_)
                    · exact (.cons rfl (.cons rfl (.consE rfl (congrArg (Value.int .i64) (by rw [pos_next, ← hI2, hd])) (.cons rfl (.cons rfl (.cons rfl (.nil)))))))
                    · exact (.cons rfl (.cons rfl (.cons rfl (.cons rfl (.cons rfl (.nil))))))
                    · exact ⟨by omega, by rw [brk_next, ← hI2, hd]⟩
                    · omega
                · refine r_region ?_
                  refine s1 rfl (q_move rfl) ?_
                  refine s1 rfl (q_indexAddr Tryz.underlying23 z9 rfl rfl rfl (by omega) (by omega) (fun w hw => row_some (hw.row (tg := 34) rfl) (by omega))) ?_
                  refine s1 rfl (q_load ag9 rfl (fun w hw => row_cellAt0 (l := splR (nth cs.el i) (32 : Int)) (hw.row (tg := 34) rfl) (i := 0) (by omega) rfl)) ?_
                  refine s1 rfl (q_seql rfl rfl) ?_
                  refine s1 rfl (q_move rfl) ?_
                  refine g_split (s := 123) rfl (fun hp22 => ?_) (fun hp22 => ?_)
                  · refine g_on rfl rfl ?_
                    refine s1 rfl (q_move rfl) ?_
                    refine g_on rfl rfl ?_
                    refine s1 rfl (q_len Tryz.underlying23 rfl) ?_
                    refine g_on rfl rfl ?_
                    refine s1 rfl (q_eql rfl rfl) ?_
                    refine g_on rfl rfl ?_
                    refine s1 rfl (q_move rfl) ?_
                    refine g_split (s := 127) rfl (fun hp23 => ?_) (fun hp23 => ?_)
                    · refine g_off rfl rfl rfl ?_
                      refine g_off rfl rfl rfl ?_
                      refine g_off rfl rfl rfl ?_
                      refine g_on rfl rfl ?_
                      refine s1 rfl (q_pickt rfl rfl) ?_
                      refine s1 rfl (q_pickt rfl rfl) ?_
                      refine o_end ?_
                      exact key.weaken (.cons rfl (.cons rfl (.cons rfl (.cons rfl (.cons rfl (.cons rfl (.cons rfl (.cons rfl (.consE rfl (congrArg Value.bool (decide_eq_true ⟨hp22, (Or.inl hp23)⟩).symm) (.nil)))))))))) (.cons rfl (.cons rfl (.cons rfl (.cons rfl (.cons rfl (.cons rfl (.nil)))))))
                    · refine g_on rfl rfl ?_
                      refine s1 rfl (q_move rfl) ?_
                      refine g_on rfl rfl ?_
                      refine s1 rfl (q_len Tryz.underlying23 rfl) ?_
                      refine g_on rfl rfl ?_
                      refine s1 rfl (q_gtr rfl rfl) ?_
                      refine g_on rfl rfl ?_
                      refine s1 rfl (q_pickf rfl rfl) ?_
                      refine s1 rfl (q_pickt rfl rfl) ?_
                      refine o_end ?_
                      exact key.weaken (.cons rfl (.cons rfl (.cons rfl (.cons rfl (.cons rfl (.cons rfl (.cons rfl (.cons rfl (.consE rfl (congrArg Value.bool (by first | (simp only [hp22, hp23, eq_self, sBreak, sShowW, ne_eq, not_true_eq_false, not_false_eq_true, true_or, or_true, false_or, or_false, true_and, and_true, false_and, and_false, Bool.decide_eq_true] <;> first | exact nb_dec _ | exact b_dec _ | (simp; done)) | exact nb_dec _ | exact b_dec _ | (simp; done) | (exfalso; omega))) (.nil)))))))))) (.cons rfl (.cons rfl (.cons rfl (.cons rfl (.cons rfl (.cons rfl (.nil)))))))
                  · refine g_off rfl rfl rfl ?_
                    iterate 3 refine g_off rfl rfl rfl ?_
                    iterate 3 refine g_offu rfl rfl rfl ?_
                    refine g_off rfl rfl rfl ?_
                    refine s1 rfl (q_pickf rfl rfl) ?_
                    refine o_end ?_
                    exact key.weaken (.cons rfl (.cons rfl (.cons rfl (.cons rfl (.cons rfl (.cons rfl (.cons rfl (.cons rfl (.consE rfl (congrArg Value.bool (decide_eq_false (fun h => hp22 h.1)).symm) (.nil)))))))))) (.cons rfl (.cons rfl (.cons rfl (.cons rfl (.cons rfl (.cons rfl (.nil)))))))
            · refine r_region ?_
              refine s1 rfl (q_move rfl) ?_
              refine s1 rfl (q_indexAddr Tryz.underlying23 z9 rfl rfl rfl (by omega) (by omega) (fun w hw => row_some (hw.row (tg := 34) rfl) (by omega))) ?_
              refine s1 rfl (q_load ag9 rfl (fun w hw => row_cellAt0 (l := splR (nth cs.el i) (32 : Int)) (hw.row (tg := 34) rfl) (i := 0) (by omega) rfl)) ?_
              refine s1 rfl (q_seql rfl rfl) ?_
              refine s1 rfl (q_move rfl) ?_
              refine g_split (s := 99) rfl (fun hp24 => ?_) (fun hp24 => ?_)
              · refine g_on rfl rfl ?_
                refine s1 rfl (q_move rfl) ?_
                refine g_on rfl rfl ?_
                refine s1 rfl (q_len Tryz.underlying23 rfl) ?_
                refine g_on rfl rfl ?_
                refine s1 rfl (q_gtr rfl rfl) ?_
                refine s1 rfl (q_pickt rfl rfl) ?_
                refine o_end ?_
                exact key.weaken (.cons rfl (.cons rfl (.cons rfl (.cons rfl (.cons rfl (.cons rfl (.cons rfl (.cons rfl (.cons rfl (.consE rfl (congrArg Value.bool (by first | (simp only [hp24, eq_self, sBreak, sShowW, ne_eq, not_true_eq_false, not_false_eq_true, true_or, or_true, false_or, or_false, true_and, and_true, false_and, and_false, Bool.decide_eq_true] <;> first | exact nb_dec _ | exact b_dec _ | (simp; done)) | exact nb_dec _ | exact b_dec _ | (simp; done) | (exfalso; omega))) (.nil))))))))))) (.cons rfl (.cons rfl (.cons rfl (.cons rfl (.cons rfl (.cons rfl (.nil)))))))
              · refine g_off rfl rfl rfl ?_
                refine g_off rfl rfl rfl ?_
                refine g_off rfl rfl rfl ?_
                refine s1 rfl (q_pickf rfl rfl) ?_
                refine o_end ?_
                exact key.weaken (.cons rfl (.cons rfl (.cons rfl (.cons rfl (.cons rfl (.cons rfl (.cons rfl (.cons rfl (.cons rfl (.consE rfl (congrArg Value.bool (decide_eq_false (fun h => hp24 h.1)).symm) (.nil))))))))))) (.cons rfl (.cons rfl (.cons rfl (.cons rfl (.cons rfl (.cons rfl (.nil)))))))
    · refine r_exit rfl ?_
      refine r_seq ?_
      refine r_region ?_
      refine s1 rfl (q_move rfl) ?_
      refine s1 rfl (q_assign rfl) ?_
      refine o_end ?_
      refine r_ret Tryz.func9 (res1 Tryz.results9 (res_tmp (s := 4) rfl)) (fun w hw => ?_)
      have hi : i = cs.el.length := by omega
      subst hi
      exact ⟨(a1, c2), trivial, rfl, hw.one (t := 500) rfl nofzrow⟩
  · exact ⟨Nat.zero_le _, rfl⟩

end Go.Proofs.YtecibcjckinngaaGreatDoor
/- The trace of the law's stopped case: what the package shows there. -/
set_option linter.unusedVariables false
set_option maxRecDepth 100000
namespace Go.Proofs.YtecibcjckinngaaGreatDoor
open Go Go.RowKit Enc
def sMain : ByteArray := ⟨#[109, 97, 105, 110]⟩
def sModule : ByteArray := ⟨#[109, 111, 100, 117, 108, 101]⟩
def sF : ByteArray := ⟨#[102]⟩
def sX : ByteArray := ⟨#[120]⟩
def sOne : ByteArray := ⟨#[49]⟩
def evG (k : Int) (fn : ByteArray) (d f : Int) : EvM := ⟨k, sMain, fn, 0, d, f, ⟨#[]⟩, ⟨none, 0, []⟩⟩
def nestE (a : Option Addr) (c : Nat) : List EvM := [evG 2 sModule 1 0, evG 2 sF 2 2, ⟨1, sMain, sF, 7, 2, 3, ⟨#[]⟩, ⟨a, c, [⟨sX, sOne⟩]⟩⟩, evG 3 sF 2 5, evG 3 sModule 1 6]
theorem nest_tf (a : Option Addr) (c : Nat) : traceFault (nestE a c) = (0, 0) := by kernel_rfl
theorem nest_move (a : Option Addr) (c : Nat) : moveP (nestE a c) [] (-1) sStep = 2 := by kernel_rfl
theorem nest_show (a : Option Addr) (c : Nat) : showP (nestE a c) 3 sX = (sOne, true) := by kernel_rfl
theorem nest_stack (a : Option Addr) (c : Nat) : plcs (activeP (nestE a c) 2) = [⟨sMain, sModule, 0⟩, ⟨sMain, sF, 7⟩] := by kernel_rfl
def cmds : List ByteArray := [⟨#[98, 114, 101, 97, 107, 32, 109, 97, 105, 110, 32, 55]⟩, ⟨#[103, 111]⟩, ⟨#[119, 104, 101, 114, 101]⟩, ⟨#[115, 104, 111, 119, 32, 120]⟩, ⟨#[111, 117, 116]⟩]
def outs : List ByteArray := [⟨#[98, 114, 101, 97, 107, 112, 111, 105, 110, 116, 32, 49]⟩, ⟨#[109, 97, 105, 110, 58, 55, 32, 102]⟩, ⟨#[109, 97, 105, 110, 58, 55, 32, 102, 59, 32, 109, 97, 105, 110, 58, 48, 32, 109, 111, 100, 117, 108, 101]⟩, ⟨#[49]⟩, ⟨#[101, 110, 100]⟩]
theorem nest_long : longAt cmds cmds.length = none := by kernel_rfl
theorem do_1 (a : Option Addr) (c : Nat) : doP (nestE a c) [] (-1) (nth cmds 0) = (nth outs 0, -1, [⟨sMain, 7, ⟨#[]⟩, ⟨#[]⟩⟩]) := by kernel_rfl
theorem do_2 (a : Option Addr) (c : Nat) : doP (nestE a c) [⟨sMain, 7, ⟨#[]⟩, ⟨#[]⟩⟩] (-1) (nth cmds 1) = (nth outs 1, 2, [⟨sMain, 7, ⟨#[]⟩, ⟨#[]⟩⟩]) := by kernel_rfl
theorem do_3 (a : Option Addr) (c : Nat) : doP (nestE a c) [⟨sMain, 7, ⟨#[]⟩, ⟨#[]⟩⟩] 2 (nth cmds 2) = (nth outs 2, 2, [⟨sMain, 7, ⟨#[]⟩, ⟨#[]⟩⟩]) := by kernel_rfl
theorem do_4 (a : Option Addr) (c : Nat) : doP (nestE a c) [⟨sMain, 7, ⟨#[]⟩, ⟨#[]⟩⟩] 2 (nth cmds 3) = (nth outs 3, 2, [⟨sMain, 7, ⟨#[]⟩, ⟨#[]⟩⟩]) := by kernel_rfl
theorem do_5 (a : Option Addr) (c : Nat) : doP (nestE a c) [⟨sMain, 7, ⟨#[]⟩, ⟨#[]⟩⟩] 2 (nth cmds 4) = (nth outs 4, 5, [⟨sMain, 7, ⟨#[]⟩, ⟨#[]⟩⟩]) := by kernel_rfl
end Go.Proofs.YtecibcjckinngaaGreatDoor
/- The stopped case: contracts with its values. -/
set_option linter.unusedVariables false
set_option maxRecDepth 100000
namespace Go.Proofs.YtecibcjckinngaaGreatDoor
open Go Go.RowKit Enc
theorem ok_small {w : World} {s : ByteArray} (h : s.size ≤ 1048576) : ok w s := by simp only [ok]; omega
theorem z_main : sMain.size ≤ 1048576 := by decide
theorem z_f : sF.size ≤ 1048576 := by decide
theorem z_mod : sModule.size ≤ 1048576 := by decide
theorem z_nil : (⟨#[]⟩ : ByteArray).size ≤ 1048576 := by decide
theorem ok_evG {w : World} {k d f : Int} {fn : ByteArray} (hk : -9223372036854775808 ≤ k ∧ k ≤ 9223372036854775807) (hd : -9223372036854775808 ≤ d ∧ d ≤ 9223372036854775807) (hf : -9223372036854775808 ≤ f ∧ f ≤ 9223372036854775807) (hn : fn.size ≤ 1048576) : ok w (evG k fn d f) :=
  ⟨hk, ok_small z_main, ok_small hn, (by decide : (-9223372036854775808 : Int) ≤ 0 ∧ (0 : Int) ≤ 9223372036854775807), hd, hf, ok_small z_nil, ok_nil⟩
theorem nest_ok {w : World} {a : Option Addr} {c : Nat} (h : ok w (⟨a, c, [⟨sX, sOne⟩]⟩ : Sl LocM)) : ∀ e ∈ nestE a c, ok w e := by
  intro e he
  simp only [nestE, List.mem_cons, List.not_mem_nil, or_false] at he
  rcases he with rfl | rfl | rfl | rfl | rfl
  · exact ok_evG (by decide) (by decide) (by decide) (by decide)
  · exact ok_evG (by decide) (by decide) (by decide) (by decide)
  · exact ⟨(by decide : (-9223372036854775808 : Int) ≤ 1 ∧ (1 : Int) ≤ 9223372036854775807), ok_small z_main, ok_small z_f, (by decide : (-9223372036854775808 : Int) ≤ 7 ∧ (7 : Int) ≤ 9223372036854775807), (by decide : (-9223372036854775808 : Int) ≤ 2 ∧ (2 : Int) ≤ 9223372036854775807), (by decide : (-9223372036854775808 : Int) ≤ 3 ∧ (3 : Int) ≤ 9223372036854775807), ok_small z_nil, h⟩
  · exact ok_evG (by decide) (by decide) (by decide) (by decide)
  · exact ok_evG (by decide) (by decide) (by decide) (by decide)
theorem loc_ok {w : World} : ∀ x ∈ ([⟨sX, sOne⟩] : List LocM), ok w x := by
  intro x hx
  simp only [List.mem_cons, List.not_mem_nil, or_false] at hx
  subst hx
  exact ⟨ok_small (by decide), ok_small (by decide)⟩
def isNest (l : List EvM) : Prop := ∃ a c, l = nestE a c
theorem nest_v {l : List EvM} (h : isNest l) : Valid l := by
  obtain ⟨a, c, rfl⟩ := h
  exact valid_of (by rw [nest_tf])
theorem nest_s {l : List EvM} (h : isNest l) : ∀ e ∈ l, e.mod.size ≤ 1048576 ∧ e.fn.size ≤ 1048576 := by
  obtain ⟨a, c, rfl⟩ := h
  intro e he
  simp only [nestE, List.mem_cons, List.not_mem_nil, or_false] at he
  rcases he with rfl | rfl | rfl | rfl | rfl <;> first | exact ⟨z_main, z_f⟩ | exact ⟨z_main, z_mod⟩
theorem nest_len {l : List EvM} (h : isNest l) : l.length = 5 := by obtain ⟨a, c, rfl⟩ := h; rfl
theorem nest_q {l : List EvM} (h : isNest l) {p : Int} (hp : -1 ≤ p ∧ p ≤ 5) : (posFault l p).1 = 0 := by
  have hl := nest_len h
  obtain ⟨a, c, rfl⟩ := h
  rw [pos_c (by rw [nest_tf]; simp) (by rw [hl]; omega)]
theorem c15n (l : Sl EvM) (w : World) (hl : ok w l) (hT : Tabs w) (h : isNest l.el) : RetV Tryz.prog 15 #[.slice l.addr l.el.length l.cap, .slice none 0 0, .int .i64 (-1), .string sStep] w (.tuple #[.int .i64 2, fv (0, 0)]) := by
  have hn := nest_len h
  have hm : moveP l.el [] (-1) sStep = 2 := by obtain ⟨a, c, e⟩ := h; rw [e, nest_move]
  rw [← hm]
  exact c15 l ⟨none, 0, []⟩ (-1) sStep w hl (nest_v h) (by omega) ok_nil hT (nest_s h) (fun q hq => by simp at hq) (nest_q h (by omega)) (by obtain ⟨a, c, e⟩ := h; rw [e, nest_tf]) rfl (by decide)
theorem c17n (l : Sl EvM) (w : World) (hl : ok w l) (hT : Tabs w) (h : isNest l.el) : RetV Tryz.prog 17 #[.slice l.addr l.el.length l.cap, .int .i64 3, .string sX] w (.tuple #[.string sOne, .bool true, fv (0, 0)]) := by
  have hn := nest_len h
  have hm : showP l.el 3 sX = (sOne, true) := by obtain ⟨a, c, e⟩ := h; rw [e, nest_show]
  have := c17 l 3 sX w hl (nest_v h) (by omega) hT (nest_s h) (nest_q h (by omega)) (by kernel_rfl) (by decide)
  rwa [hm] at this
abbrev stk2 : List PlcM := [⟨sMain, sModule, 0⟩, ⟨sMain, sF, 7⟩]
theorem c18n (l : Sl EvM) (w : World) (hl : ok w l) (hT : Tabs w) (h : isNest l.el) : RetRowF Tryz.prog 18 #[.slice l.addr l.el.length l.cap, .int .i64 2] w 54 (stk2, ((0 : Int), (0 : Int))) := by
  have hn := nest_len h
  have hm : plcs (activeP l.el 2) = stk2 := by obtain ⟨a, c, e⟩ := h; rw [e, nest_stack]
  rw [← hm]
  exact c18 l 2 w hl (nest_v h) (by omega) hT (nest_s h) (nest_q h (by omega))
theorem nest_sess {l : List EvM} (h : isNest l) : sessP l cmds = (outs, (0, 0)) := by
  obtain ⟨a, c, rfl⟩ := h
  have hf : sessF (nestE a c) cmds = (0, 0) := by
    rw [sessF, if_neg (by rw [nest_tf]; simp), if_neg (by decide), nest_long]
  have h1 : stP (nestE a c) cmds 1 = (-1, [⟨sMain, 7, ⟨#[]⟩, ⟨#[]⟩⟩]) := by rw [stP, stP, do_1]
  have h2 : stP (nestE a c) cmds 2 = (2, [⟨sMain, 7, ⟨#[]⟩, ⟨#[]⟩⟩]) := by rw [stP, h1, do_2]
  have h3 : stP (nestE a c) cmds 3 = (2, [⟨sMain, 7, ⟨#[]⟩, ⟨#[]⟩⟩]) := by rw [stP, h2, do_3]
  have h4 : stP (nestE a c) cmds 4 = (2, [⟨sMain, 7, ⟨#[]⟩, ⟨#[]⟩⟩]) := by rw [stP, h3, do_4]
  have a0 : answer (nestE a c) cmds 0 = nth outs 0 := by rw [answer, brkP, posP, stP, do_1]
  have a1 : answer (nestE a c) cmds 1 = nth outs 1 := by rw [answer, brkP, posP, h1, do_2]
  have a2 : answer (nestE a c) cmds 2 = nth outs 2 := by rw [answer, brkP, posP, h2, do_3]
  have a3 : answer (nestE a c) cmds 3 = nth outs 3 := by rw [answer, brkP, posP, h3, do_4]
  have a4 : answer (nestE a c) cmds 4 = nth outs 4 := by rw [answer, brkP, posP, h4, do_5]
  rw [sessP_n hf]
  show (ansP (nestE a c) cmds 5, _) = _
  rw [ansP, ansP, ansP, ansP, ansP, ansP, a0, a1, a2, a3, a4]
  rfl
theorem c4n (l : Sl EvM) (cs : Sl ByteArray) (w : World) (hl : ok w l) (hcs : ok w cs) (hT : Tabs w) (h : isNest l.el) (hc : cs.el = cmds) : RetRowF Tryz.prog 4 #[.slice l.addr l.el.length l.cap, .slice cs.addr cs.el.length cs.cap] w 9 (outs, ((0 : Int), (0 : Int))) := by
  have := c4 l cs w hl hcs hT (nest_s h) (by rw [hc]; decide)
  rwa [hc, nest_sess h, ← hc] at this
theorem nest_b (a : Option Addr) (c : Nat) : (nestE a c).length * by_ EvM ≤ 140737488355328 := by
  rw [show (nestE a c).length = 5 from rfl]
  simp [by_]
end Go.Proofs.YtecibcjckinngaaGreatDoor
/- Walk over the law's stopped case. -/
set_option linter.unusedVariables false
namespace Go.Proofs.YtecibcjckinngaaGreatDoor
open Go Go.RowKit Enc
attribute [local irreducible] Effect OpsE RunE AnyE AnyAt Quiet Res1


theorem c46 (k : Int) (fn : ByteArray) (d f : Int) (w : World) : RetV Tryz.prog 46 #[.int .i64 k, .string fn, .int .i64 d, .int .i64 f] w (.agg #[.int .i64 k, .string sMain, .string fn, .int .i64 0, .int .i64 d, .int .i64 f, .string (⟨#[]⟩ : ByteArray), .slice none 0 0]) := by
  refine calls_of (args := [.int .i64 k, .string fn, .int .i64 d, .int .i64 f]) Tryz.func46 rfl Tryz.ntmps46 rfl (H := []) (Facts.sep (.nil)) ?_
  refine r_seq ?_
  refine r_region ?_
  refine sx rfl (e_alloc zz42) (fun g1 _ => ?_)
  refine o_end ?_
  refine r_seq ?_
  refine r_region ?_
  iterate 4 refine s1 rfl (q_move rfl) ?_
  refine s1 rfl (q_build (cs := [.int .i64 k, .string sMain, .string fn, .int .i64 (0 : Int), .int .i64 d, .int .i64 f, .string ByteArray.empty, .slice none 0 0]) (.cons rfl (.cons rfl (.cons rfl (.cons rfl (.cons rfl (.nil)))))) (by kernel_rfl)) ?_
  refine sxn (e_store (tg := 8) (news := [.int .i64 k, .string sMain, .string fn, .int .i64 (0 : Int), .int .i64 d, .int .i64 f, .string ByteArray.empty, .slice none 0 0]) rfl rfl rfl rfl z42 rfl rfl (.cons (.cons (.cons (.cons (.cons (.cons (.cons (.cons (.nil _)))))))))) (fun _ _ => ?_)
  refine o_end ?_
  refine r_ret Tryz.func46 (res1 Tryz.results46 (res_cell (cs := [.int .i64 k, .string sMain, .string fn, .int .i64 (0 : Int), .int .i64 d, .int .i64 f, .string ByteArray.empty, .slice none 0 0]) ag42 z42 rfl (s := 8) (tg := 8) rfl rfl)) (fun w hw => ?_)
  exact ⟨rfl, hw.kp⟩


theorem c16 (w : World) : ∀ tg : Nat, RetX Tryz.prog 16 #[] w (fun x : Sl EvM => x.val) (fun x => [(tg, .fn (fun w => ok w x))]) (fun x => isNest x.el) := by
  intro tg
  refine calls_of (args := []) Tryz.func16 rfl Tryz.ntmps16 rfl (H := []) (Facts.sep (.nil)) ?_
  refine r_seq ?_
  refine r_region ?_
  refine s1 rfl (q_assign rfl) ?_
  refine o_end ?_
  refine r_seq ?_
  refine r_region ?_
  refine sx rfl (e_call en46 (.cons rfl (.cons rfl (.cons rfl (.cons rfl (.nil))))) ((fun w hw => c46 (1 : Int) sF (2 : Int) (3 : Int) w))) (fun _ _ => ?_)
  refine sx rfl (e_alloc zz42) (fun g1 _ => ?_)
  refine sxn (e_store (tg := 1) (news := [.int .i64 (1 : Int), .string sMain, .string sF, .int .i64 (0 : Int), .int .i64 (2 : Int), .int .i64 (3 : Int), .string (⟨#[]⟩ : ByteArray), .slice none 0 0]) rfl rfl rfl rfl z42 rfl rfl (.cons (.cons (.cons (.cons (.cons (.cons (.cons (.cons (.nil _)))))))))) (fun _ _ => ?_)
  refine o_end ?_
  refine r_seq ?_
  refine r_region ?_
  refine s1 rfl (q_fieldAddr of42_3 rfl rfl) ?_
  refine sxn (e_store (tg := 1) (news := [.int .i64 (7 : Int)]) rfl rfl rfl rfl z3 rfl rfl (.skip (.skip (.skip (.cons (.nil _)))))) (fun _ _ => ?_)
  refine o_end ?_
  refine r_seq ?_
  refine r_region ?_
  refine s1 rfl (q_build (cs := [.string sX, .string sOne]) (.cons rfl (.cons rfl (.nil))) (by kernel_rfl)) ?_
  refine sx rfl (e_bslice (cs := encs ([(⟨sX, sOne⟩ : LocM)] : List LocM)) Tryz.underlying40 zi95 (.cons rfl (.nil)) (by kernel_rfl) rfl rfl rfl) (fun g2 _ => ?_)
  refine s1 rfl (q_fieldAddr of42_7 rfl rfl) ?_
  refine sxn (e_store (tg := 1) (news := [.slice (some ⟨g2, 0, none⟩) (([(⟨sX, sOne⟩ : LocM)] : List LocM).length) 1]) rfl rfl rfl rfl z40 rfl rfl (.skip (.skip (.skip (.skip (.skip (.skip (.skip (.cons (.nil _)))))))))) (fun _ _ => ?_)
  refine o_end ?_
  refine r_seq ?_
  refine r_draw [(1, .box g1 [.int .i64 (1 : Int), .string sMain, .string sF, .int .i64 (7 : Int), .int .i64 (2 : Int), .int .i64 (3 : Int), .string (⟨#[]⟩ : ByteArray), .slice (some ⟨g2, 0, none⟩) (([(⟨sX, sOne⟩ : LocM)] : List LocM).length) 1] 42), (5, .row 95 2 (some ⟨g2, 0, none⟩) (([(⟨sX, sOne⟩ : LocM)] : List LocM).length) 1 (encs ([(⟨sX, sOne⟩ : LocM)] : List LocM)))] (by kernel_rfl) rfl (.cons rfl (.cons rfl (.nil))) ?_
  refine d1 2 rfl (by kernel_rfl) rfl rfl (q_loads (cs := [.int .i64 (1 : Int), .string sMain, .string sF, .int .i64 (7 : Int), .int .i64 (2 : Int), .int .i64 (3 : Int), .string (⟨#[]⟩ : ByteArray), .slice (some ⟨g2, 0, none⟩) (([(⟨sX, sOne⟩ : LocM)] : List LocM).length) 1]) ag42 z42 rfl rfl (fun w hw => hw.boxes (tg := 1) rfl)) ?_
  refine dx 0 rfl (by kernel_rfl) rfl rfl (want_none rfl) (e_call en46 (.cons rfl (.cons rfl (.cons rfl (.cons rfl (.nil))))) ((fun w hw => c46 (2 : Int) sModule (1 : Int) (0 : Int) w))) (fun _ => (.cons rfl (.cons rfl (.nil)))) (fun _ _ => ?_)
  refine dx 1 rfl (by kernel_rfl) rfl rfl (want_none rfl) (e_call en46 (.cons rfl (.cons rfl (.cons rfl (.cons rfl (.nil))))) ((fun w hw => c46 (2 : Int) sF (2 : Int) (2 : Int) w))) (fun _ => (.cons rfl (.cons rfl (.nil)))) (fun _ _ => ?_)
  refine dx 3 rfl (by kernel_rfl) rfl rfl (want_none rfl) (e_call en46 (.cons rfl (.cons rfl (.cons rfl (.cons rfl (.nil))))) ((fun w hw => c46 (3 : Int) sF (2 : Int) (5 : Int) w))) (fun _ => (.cons rfl (.cons rfl (.nil)))) (fun _ _ => ?_)
  refine dx 4 rfl (by kernel_rfl) rfl rfl (want_none rfl) (e_call en46 (.cons rfl (.cons rfl (.cons rfl (.cons rfl (.nil))))) ((fun w hw => c46 (3 : Int) sModule (1 : Int) (6 : Int) w))) (fun _ => (.cons rfl (.cons rfl (.nil)))) (fun _ _ => ?_)
  refine dx 5 rfl (by kernel_rfl) rfl rfl (want_none rfl) (e_bslice (cs := encs ([(⟨(2 : Int), sMain, sModule, (0 : Int), (1 : Int), (0 : Int), (⟨#[]⟩ : ByteArray), (⟨none, 0, []⟩ : Sl LocM)⟩ : EvM), (⟨(2 : Int), sMain, sF, (0 : Int), (2 : Int), (2 : Int), (⟨#[]⟩ : ByteArray), (⟨none, 0, []⟩ : Sl LocM)⟩ : EvM), (⟨(1 : Int), sMain, sF, (7 : Int), (2 : Int), (3 : Int), (⟨#[]⟩ : ByteArray), (⟨some ⟨g2, 0, none⟩, 1, ([(⟨sX, sOne⟩ : LocM)] : List LocM)⟩ : Sl LocM)⟩ : EvM), (⟨(3 : Int), sMain, sF, (0 : Int), (2 : Int), (5 : Int), (⟨#[]⟩ : ByteArray), (⟨none, 0, []⟩ : Sl LocM)⟩ : EvM), (⟨(3 : Int), sMain, sModule, (0 : Int), (1 : Int), (6 : Int), (⟨#[]⟩ : ByteArray), (⟨none, 0, []⟩ : Sl LocM)⟩ : EvM)] : List EvM)) Tryz.underlying22 zi42 (.cons rfl (.cons rfl (.cons rfl (.cons rfl (.cons rfl (.nil)))))) (by kernel_rfl) rfl rfl rfl) (fun _ => (.cons rfl (.cons rfl (.nil)))) (fun g3 _ => ?_)
  refine AnyE.more (S' := [(1, .box g1 [.int .i64 (1 : Int), .string sMain, .string sF, .int .i64 (7 : Int), .int .i64 (2 : Int), .int .i64 (3 : Int), .string (⟨#[]⟩ : ByteArray), .slice (some ⟨g2, 0, none⟩) (([(⟨sX, sOne⟩ : LocM)] : List LocM).length) 1] 42), (5, .row 95 2 (some ⟨g2, 0, none⟩) (([(⟨sX, sOne⟩ : LocM)] : List LocM).length) 1 (encs ([(⟨sX, sOne⟩ : LocM)] : List LocM))), (12, .row 42 8 (some ⟨g3, 0, none⟩) (([(⟨(2 : Int), sMain, sModule, (0 : Int), (1 : Int), (0 : Int), (⟨#[]⟩ : ByteArray), (⟨none, 0, []⟩ : Sl LocM)⟩ : EvM), (⟨(2 : Int), sMain, sF, (0 : Int), (2 : Int), (2 : Int), (⟨#[]⟩ : ByteArray), (⟨none, 0, []⟩ : Sl LocM)⟩ : EvM), (⟨(1 : Int), sMain, sF, (7 : Int), (2 : Int), (3 : Int), (⟨#[]⟩ : ByteArray), (⟨some ⟨g2, 0, none⟩, 1, ([(⟨sX, sOne⟩ : LocM)] : List LocM)⟩ : Sl LocM)⟩ : EvM), (⟨(3 : Int), sMain, sF, (0 : Int), (2 : Int), (5 : Int), (⟨#[]⟩ : ByteArray), (⟨none, 0, []⟩ : Sl LocM)⟩ : EvM), (⟨(3 : Int), sMain, sModule, (0 : Int), (1 : Int), (6 : Int), (⟨#[]⟩ : ByteArray), (⟨none, 0, []⟩ : Sl LocM)⟩ : EvM)] : List EvM).length) 5 (encs ([(⟨(2 : Int), sMain, sModule, (0 : Int), (1 : Int), (0 : Int), (⟨#[]⟩ : ByteArray), (⟨none, 0, []⟩ : Sl LocM)⟩ : EvM), (⟨(2 : Int), sMain, sF, (0 : Int), (2 : Int), (2 : Int), (⟨#[]⟩ : ByteArray), (⟨none, 0, []⟩ : Sl LocM)⟩ : EvM), (⟨(1 : Int), sMain, sF, (7 : Int), (2 : Int), (3 : Int), (⟨#[]⟩ : ByteArray), (⟨some ⟨g2, 0, none⟩, 1, ([(⟨sX, sOne⟩ : LocM)] : List LocM)⟩ : Sl LocM)⟩ : EvM), (⟨(3 : Int), sMain, sF, (0 : Int), (2 : Int), (5 : Int), (⟨#[]⟩ : ByteArray), (⟨none, 0, []⟩ : Sl LocM)⟩ : EvM), (⟨(3 : Int), sMain, sModule, (0 : Int), (1 : Int), (6 : Int), (⟨#[]⟩ : ByteArray), (⟨none, 0, []⟩ : Sl LocM)⟩ : EvM)] : List EvM)))]) (.cons rfl (.cons rfl (.nil))) (.cons rfl (.cons rfl (.cons rfl (.nil)))) ?_
  refine d1 6 rfl (by kernel_rfl) rfl rfl (q_assign rfl) ?_
  refine d_end (by kernel_rfl) ?_
  refine r_ret Tryz.func16 (res1 Tryz.results16 (res_tmp (s := 0) rfl)) (fun w hw => ?_)
  rw [show ([(⟨(2 : Int), sMain, sModule, (0 : Int), (1 : Int), (0 : Int), (⟨#[]⟩ : ByteArray), (⟨none, 0, []⟩ : Sl LocM)⟩ : EvM), (⟨(2 : Int), sMain, sF, (0 : Int), (2 : Int), (2 : Int), (⟨#[]⟩ : ByteArray), (⟨none, 0, []⟩ : Sl LocM)⟩ : EvM), (⟨(1 : Int), sMain, sF, (7 : Int), (2 : Int), (3 : Int), (⟨#[]⟩ : ByteArray), (⟨some ⟨g2, 0, none⟩, 1, ([(⟨sX, sOne⟩ : LocM)] : List LocM)⟩ : Sl LocM)⟩ : EvM), (⟨(3 : Int), sMain, sF, (0 : Int), (2 : Int), (5 : Int), (⟨#[]⟩ : ByteArray), (⟨none, 0, []⟩ : Sl LocM)⟩ : EvM), (⟨(3 : Int), sMain, sModule, (0 : Int), (1 : Int), (6 : Int), (⟨#[]⟩ : ByteArray), (⟨none, 0, []⟩ : Sl LocM)⟩ : EvM)] : List EvM) = nestE (some ⟨g2, 0, none⟩) (1) from rfl] at hw
  have h1 := hw.freezeRow (l := ([⟨sX, sOne⟩] : List LocM)) (t := 5) rfl (by decide) (fun w => loc_ok)
  have h2 := h1.freezeRow' (l := nestE (some ⟨g2, 0, none⟩) (1)) (t := 12) rfl (nest_b _ _) (t2 := 5) rfl (fun w hw => nest_ok hw)
  exact ⟨⟨some ⟨g3, 0, none⟩, 5, nestE (some ⟨g2, 0, none⟩) (1)⟩, ⟨_, _, rfl⟩, rfl, h2.ren (.cons (t0 := 12) rfl rfl .nil)⟩


theorem c7 (w : World) (hT : Tabs w) : RetV Tryz.prog 7 #[] w (.bool true) := by
  refine calls_of (args := []) Tryz.func7 rfl Tryz.ntmps7 rfl (H := [(199, .fz (fun w => Tabs w))]) (Facts.sep (.cons (supp_tabs hT) (.nil))) ?_
  refine r_seq ?_
  refine r_region ?_
  refine s1 rfl (q_assign rfl) ?_
  refine o_end ?_
  refine r_seq ?_
  refine r_region ?_
  refine sx rfl (e_callx en16 (.nil) (fun w hw => c16 w 11) (fun _ => nofz (fun _ h => by cases h))) (fun x1 hx2 => ?_)
  refine sx rfl (e_call en15 (.cons rfl (.cons rfl (.cons rfl (.cons rfl (.nil))))) ((fun w hw => c15n x1 w (hw.get_fn (t := 11) rfl) (hw.get_fz (t := 199) rfl) hx2))) (fun _ _ => ?_)
  refine s1 rfl (q_move rfl) ?_
  refine s1 rfl (q_extract rfl rfl) ?_
  refine s1 rfl (q_extract rfl rfl) ?_
  refine sx rfl (e_alloc zz25) (fun g3 _ => ?_)
  refine s1 rfl (q_assign rfl) ?_
  refine sxn (e_store (tg := 2) (news := [.int .i64 (0 : Int), .int .i64 (0 : Int)]) rfl rfl rfl rfl z25 rfl rfl (.cons (.cons (.nil _)))) (fun _ _ => ?_)
  refine o_end ?_
  refine r_seq ?_
  refine r_region ?_
  refine sx rfl (e_callx en16 (.nil) (fun w hw => c16 w 16) (fun _ => nofz (fun _ h => by cases h))) (fun x4 hx5 => ?_)
  refine sx rfl (e_call en17 (.cons rfl (.cons rfl (.cons rfl (.nil)))) ((fun w hw => c17n x4 w (hw.get_fn (t := 16) rfl) (hw.get_fz (t := 199) rfl) hx5))) (fun _ _ => ?_)
  refine s1 rfl (q_move rfl) ?_
  iterate 3 refine s1 rfl (q_extract rfl rfl) ?_
  refine sx rfl (e_alloc zz25) (fun g6 _ => ?_)
  refine s1 rfl (q_assign rfl) ?_
  refine s1 rfl (q_assign rfl) ?_
  refine sxn (e_store (tg := 5) (news := [.int .i64 (0 : Int), .int .i64 (0 : Int)]) rfl rfl rfl rfl z25 rfl rfl (.cons (.cons (.nil _)))) (fun _ _ => ?_)
  refine o_end ?_
  refine r_seq ?_
  refine r_region ?_
  refine sx rfl (e_callx en16 (.nil) (fun w hw => c16 w 22) (fun _ => nofz (fun _ h => by cases h))) (fun x7 hx8 => ?_)
  refine sx rfl (e_callx en18 (.cons rfl (.cons rfl (.nil))) ((fun w hw => c18n x7 w (hw.get_fn (t := 22) rfl) (hw.get_fz (t := 199) rfl) hx8 23)) (fun _ => nofz (fun _ h => by cases h))) (fun ⟨a9, c10⟩ _ => ?_)
  refine s1 rfl (q_move rfl) ?_
  refine s1 rfl (q_extract rfl rfl) ?_
  refine s1 rfl (q_extract rfl rfl) ?_
  refine sx rfl (e_alloc zz25) (fun g11 _ => ?_)
  refine s1 rfl (q_assign rfl) ?_
  refine sxn (e_store (tg := 7) (news := [.int .i64 (0 : Int), .int .i64 (0 : Int)]) rfl rfl rfl rfl z25 rfl rfl (.cons (.cons (.nil _)))) (fun _ _ => ?_)
  refine o_end ?_
  refine r_seq ?_
  refine r_region ?_
  refine sx rfl (e_callx en16 (.nil) (fun w hw => c16 w 27) (fun _ => nofz (fun _ h => by cases h))) (fun x12 hx13 => ?_)
  refine sx rfl (e_bslice (cs := encs ([(⟨#[98, 114, 101, 97, 107, 32, 109, 97, 105, 110, 32, 55]⟩ : ByteArray), sGo, sWhere, (⟨#[115, 104, 111, 119, 32, 120]⟩ : ByteArray), sOut] : List ByteArray)) Tryz.underlying23 zi9 (.cons rfl (.cons rfl (.cons rfl (.cons rfl (.cons rfl (.nil)))))) (by kernel_rfl) rfl rfl rfl) (fun g14 _ => ?_)
  refine sx rfl (e_callx en4 (.cons rfl (.cons rfl (.nil))) ((fun w hw => c4n x12 (⟨some ⟨g14, 0, none⟩, 5, ([(⟨#[98, 114, 101, 97, 107, 32, 109, 97, 105, 110, 32, 55]⟩ : ByteArray), sGo, sWhere, (⟨#[115, 104, 111, 119, 32, 120]⟩ : ByteArray), sOut] : List ByteArray)⟩ : Sl ByteArray) w (hw.get_fn (t := 27) rfl) (ok_row (hw.row (tg := 28) rfl) (by decide) (fun x hx => by first | exact ok_small ((by decide : ∀ x ∈ cmds, x.size ≤ 1048576) x hx) | exact ok_small ((by decide : ∀ x ∈ outs, x.size ≤ 1048576) x hx))) (hw.get_fz (t := 199) rfl) hx13 rfl 29)) (fun _ => nofz (fun _ h => by cases h))) (fun ⟨a15, c16⟩ _ => ?_)
  refine s1 rfl (q_move rfl) ?_
  refine s1 rfl (q_extract rfl rfl) ?_
  refine s1 rfl (q_extract rfl rfl) ?_
  refine sx rfl (e_alloc zz25) (fun g17 _ => ?_)
  refine s1 rfl (q_assign rfl) ?_
  refine sxn (e_store (tg := 9) (news := [.int .i64 (0 : Int), .int .i64 (0 : Int)]) rfl rfl rfl rfl z25 rfl rfl (.cons (.cons (.nil _)))) (fun _ _ => ?_)
  refine o_end ?_
  refine r_seq ?_
  refine r_seq ?_
  refine r_cut [(6, .slice a9 stk2.length c10), (8, .slice a15 outs.length c16), (66, .bool (decide ((((((((¬ ((0 : Int) = (0 : Int))) ∨ (¬ ((0 : Int) = (0 : Int)))) ∨ (¬ ((0 : Int) = (0 : Int)))) ∨ (¬ ((0 : Int) = (0 : Int)))) ∨ (¬ ((2 : Int) = (2 : Int)))) ∧ (True)) ∨ (sOne ≠ sOne)) ∨ (¬ (((stk2.length : Nat) : Int) = (2 : Int))))))] [(199, .fz (fun w => Tabs w)), (11, .fn (fun w => ok w x1)), (2, .box g3 [.int .i64 (0 : Int), .int .i64 (0 : Int)] 25), (16, .fn (fun w => ok w x4)), (5, .box g6 [.int .i64 (0 : Int), .int .i64 (0 : Int)] 25), (22, .fn (fun w => ok w x7)), (23, .row 54 3 a9 stk2.length c10 (encs stk2)), (7, .box g11 [.int .i64 (0 : Int), .int .i64 (0 : Int)] 25), (27, .fn (fun w => ok w x12)), (28, .row 9 1 (some ⟨g14, 0, none⟩) (([(⟨#[98, 114, 101, 97, 107, 32, 109, 97, 105, 110, 32, 55]⟩ : ByteArray), sGo, sWhere, (⟨#[115, 104, 111, 119, 32, 120]⟩ : ByteArray), sOut] : List ByteArray).length) 5 (encs ([(⟨#[98, 114, 101, 97, 107, 32, 109, 97, 105, 110, 32, 55]⟩ : ByteArray), sGo, sWhere, (⟨#[115, 104, 111, 119, 32, 120]⟩ : ByteArray), sOut] : List ByteArray))), (29, .row 9 1 a15 outs.length c16 (encs outs)), (9, .box g17 [.int .i64 (0 : Int), .int .i64 (0 : Int)] 25)] ?_ (fun key => ?_)
  · refine r_if rfl (fun hp1 => ?_) (fun hp1 => ?_)
    · refine r_seq ?_
      refine r_region ?_
      refine s1 rfl (q_assign rfl) ?_
      refine o_end ?_
      refine r_ret Tryz.func7 (res1 Tryz.results7 (res_tmp (s := 0) rfl)) (fun w hw => ?_)
      exact absurd hp1 (by decide)
    · refine r_skip ?_
      refine r_seq ?_
      refine r_cut [(0, .bool (decide ((((nth stk2 1).mod) = sMain ∧ ((nth stk2 1).fn) = sF ∧ ((nth stk2 1).line) = (7 : Int)) ∧ (outs = ([(⟨#[98, 114, 101, 97, 107, 112, 111, 105, 110, 116, 32, 49]⟩ : ByteArray), (⟨#[109, 97, 105, 110, 58, 55, 32, 102]⟩ : ByteArray), (⟨#[109, 97, 105, 110, 58, 55, 32, 102, 59, 32, 109, 97, 105, 110, 58, 48, 32, 109, 111, 100, 117, 108, 101]⟩ : ByteArray), sOne, sEnd] : List ByteArray)))))] [(199, .fz (fun w => Tabs w)), (11, .fn (fun w => ok w x1)), (2, .box g3 [.int .i64 (0 : Int), .int .i64 (0 : Int)] 25), (16, .fn (fun w => ok w x4)), (5, .box g6 [.int .i64 (0 : Int), .int .i64 (0 : Int)] 25), (22, .fn (fun w => ok w x7)), (23, .row 54 3 a9 stk2.length c10 (encs stk2)), (7, .box g11 [.int .i64 (0 : Int), .int .i64 (0 : Int)] 25), (27, .fn (fun w => ok w x12)), (28, .row 9 1 (some ⟨g14, 0, none⟩) (([(⟨#[98, 114, 101, 97, 107, 32, 109, 97, 105, 110, 32, 55]⟩ : ByteArray), sGo, sWhere, (⟨#[115, 104, 111, 119, 32, 120]⟩ : ByteArray), sOut] : List ByteArray).length) 5 (encs ([(⟨#[98, 114, 101, 97, 107, 32, 109, 97, 105, 110, 32, 55]⟩ : ByteArray), sGo, sWhere, (⟨#[115, 104, 111, 119, 32, 120]⟩ : ByteArray), sOut] : List ByteArray))), (29, .row 9 1 a15 outs.length c16 (encs outs)), (9, .box g17 [.int .i64 (0 : Int), .int .i64 (0 : Int)] 25)] ?_ (fun key => ?_)
      · refine r_ret Tryz.func7 (res1 Tryz.results7 (res_tmp (s := 0) rfl)) (fun w hw => ?_)
        exact ⟨rfl, hw.kp⟩
      · refine r_region ?_
        refine s1 rfl (q_move rfl) ?_
        refine s1 rfl (q_indexAddr Tryz.underlying50 z54 rfl rfl rfl (by omega) (by omega) (fun w hw => row_some (hw.row (tg := 23) rfl) (by omega))) ?_
        refine s1 rfl (q_loads (cs := enc (nth stk2 1)) ag54 z54 rfl rfl (fun w hw => (Shows.row (hw.row (tg := 23) rfl)).cellsAt (i := 1) (by omega))) ?_
        refine s1 rfl (q_build (cs := [.string sMain, .string sF, .int .i64 (7 : Int)]) (.cons rfl (.cons rfl (.cons rfl (.nil)))) (by kernel_rfl)) ?_
        refine s1 rfl (q_feq54_eql rfl rfl) ?_
        refine s1 rfl (q_move rfl) ?_
        refine g_split (s := 72) rfl (fun hp2 => ?_) (fun hp2 => ?_)
        · refine g_on rfl rfl ?_
          refine s1 rfl (q_move rfl) ?_
          refine g_on rfl rfl ?_
          refine sx rfl (e_bslice (cs := encs ([(⟨#[98, 114, 101, 97, 107, 112, 111, 105, 110, 116, 32, 49]⟩ : ByteArray), (⟨#[109, 97, 105, 110, 58, 55, 32, 102]⟩ : ByteArray), (⟨#[109, 97, 105, 110, 58, 55, 32, 102, 59, 32, 109, 97, 105, 110, 58, 48, 32, 109, 111, 100, 117, 108, 101]⟩ : ByteArray), sOne, sEnd] : List ByteArray)) Tryz.underlying23 zi9 (.cons rfl (.cons rfl (.cons rfl (.cons rfl (.cons rfl (.nil)))))) (by kernel_rfl) rfl rfl rfl) (fun g18 _ => ?_)
          refine g_on rfl rfl ?_
          refine sx rfl (e_call en8 (.cons rfl (.cons rfl (.nil))) ((fun w hw => c8 (⟨a15, c16, outs⟩ : Sl ByteArray) (⟨some ⟨g18, 0, none⟩, 5, ([(⟨#[98, 114, 101, 97, 107, 112, 111, 105, 110, 116, 32, 49]⟩ : ByteArray), (⟨#[109, 97, 105, 110, 58, 55, 32, 102]⟩ : ByteArray), (⟨#[109, 97, 105, 110, 58, 55, 32, 102, 59, 32, 109, 97, 105, 110, 58, 48, 32, 109, 111, 100, 117, 108, 101]⟩ : ByteArray), sOne, sEnd] : List ByteArray)⟩ : Sl ByteArray) w (ok_row (hw.row (tg := 29) rfl) (by decide) (fun x hx => ok_small ((by decide : ∀ x ∈ outs, x.size ≤ 1048576) x hx))) (ok_row (hw.row (tg := 74) rfl) (by decide) (fun x hx => by first | exact ok_small ((by decide : ∀ x ∈ cmds, x.size ≤ 1048576) x hx) | exact ok_small ((by decide : ∀ x ∈ outs, x.size ≤ 1048576) x hx)))))) (fun _ _ => ?_)
          refine s1 rfl (q_pickt rfl rfl) ?_
          refine s1 rfl (q_assign rfl) ?_
          refine o_end ?_
          exact key.weaken (.consE rfl (congrArg Value.bool (by first | (simp only [hp2, ne_eq, not_true_eq_false, not_false_eq_true, true_or, or_true, false_or, or_false, true_and, and_true, false_and, and_false, Bool.decide_eq_true] <;> first | exact nb_dec _ | exact b_dec _ | (simp; done)) | exact nb_dec _ | exact b_dec _ | (simp; done) | (exfalso; omega))) (.nil)) (.cons rfl (.cons rfl (.cons rfl (.cons rfl (.cons rfl (.cons rfl (.cons rfl (.cons rfl (.cons rfl (.cons rfl (.cons rfl (.cons rfl (.nil)))))))))))))
        · refine g_off rfl rfl rfl ?_
          refine g_off rfl rfl rfl ?_
          refine g_off rfl rfl rfl ?_
          refine s1 rfl (q_pickf rfl rfl) ?_
          refine s1 rfl (q_assign rfl) ?_
          refine o_end ?_
          exact key.weaken (.consE rfl (congrArg Value.bool (decide_eq_false (fun h => hp2 h.1)).symm) (.nil)) (.cons rfl (.cons rfl (.cons rfl (.cons rfl (.cons rfl (.cons rfl (.cons rfl (.cons rfl (.cons rfl (.cons rfl (.cons rfl (.cons rfl (.nil)))))))))))))
  · refine r_region ?_
    refine s1 rfl (q_fieldAddr of25_0 rfl rfl) ?_
    refine s1 rfl (q_load ag3 rfl (fun w hw => hw.box (tg := 2) rfl rfl)) ?_
    refine s1 rfl (q_neq rfl rfl) ?_
    refine s1 rfl (q_move rfl) ?_
    refine g_split (s := 35) rfl (fun hp3 => ?_) (fun hp3 => ?_)
    · refine g_off rfl rfl rfl ?_
      refine g_off rfl rfl rfl ?_
      refine g_off rfl rfl rfl ?_
      refine s1 rfl (q_pickt rfl rfl) ?_
      refine s1 rfl (q_move rfl) ?_
      iterate 3 refine g_off rfl rfl rfl ?_
      refine s1 rfl (q_pickt rfl rfl) ?_
      refine s1 rfl (q_move rfl) ?_
      iterate 3 refine g_off rfl rfl rfl ?_
      refine s1 rfl (q_pickt rfl rfl) ?_
      refine s1 rfl (q_move rfl) ?_
      refine g_off rfl rfl rfl ?_
      refine g_off rfl rfl rfl ?_
      refine s1 rfl (q_pickt rfl rfl) ?_
      refine s1 rfl (q_move rfl) ?_
      refine g_off rfl rfl rfl ?_
      refine g_off rfl rfl rfl ?_
      refine s1 rfl (q_pickt rfl rfl) ?_
      refine s1 rfl (q_move rfl) ?_
      refine g_off rfl rfl rfl ?_
      refine g_off rfl rfl rfl ?_
      refine s1 rfl (q_pickt rfl rfl) ?_
      refine s1 rfl (q_move rfl) ?_
      iterate 3 refine g_off rfl rfl rfl ?_
      refine s1 rfl (q_pickt rfl rfl) ?_
      refine o_end ?_
      exact key.weaken (.cons rfl (.cons rfl (.consE rfl (congrArg Value.bool (decide_eq_true (Or.inl (Or.inl ⟨(Or.inl (Or.inl (Or.inl (Or.inl hp3)))), trivial⟩))).symm) (.nil)))) (.cons rfl (.cons rfl (.cons rfl (.cons rfl (.cons rfl (.cons rfl (.cons rfl (.cons rfl (.cons rfl (.cons rfl (.cons rfl (.cons rfl (.nil)))))))))))))
    · refine g_on rfl rfl ?_
      refine s1 rfl (q_fieldAddr of25_0 rfl rfl) ?_
      refine g_on rfl rfl ?_
      refine s1 rfl (q_load ag3 rfl (fun w hw => hw.box (tg := 5) rfl rfl)) ?_
      refine g_on rfl rfl ?_
      refine s1 rfl (q_neq rfl rfl) ?_
      refine s1 rfl (q_pickf rfl rfl) ?_
      refine s1 rfl (q_move rfl) ?_
      refine g_split (s := 40) rfl (fun hp4 => ?_) (fun hp4 => ?_)
      · exact absurd hp4 hp3
      · refine g_on rfl rfl ?_
        refine s1 rfl (q_fieldAddr of25_0 rfl rfl) ?_
        refine g_on rfl rfl ?_
        refine s1 rfl (q_load ag3 rfl (fun w hw => hw.box (tg := 7) rfl rfl)) ?_
        refine g_on rfl rfl ?_
        refine s1 rfl (q_neq rfl rfl) ?_
        refine s1 rfl (q_pickf rfl rfl) ?_
        refine s1 rfl (q_move rfl) ?_
        refine g_split (s := 45) rfl (fun hp5 => ?_) (fun hp5 => ?_)
        · exact absurd hp5 hp3
        · refine g_on rfl rfl ?_
          refine s1 rfl (q_fieldAddr of25_0 rfl rfl) ?_
          refine g_on rfl rfl ?_
          refine s1 rfl (q_load ag3 rfl (fun w hw => hw.box (tg := 9) rfl rfl)) ?_
          refine g_on rfl rfl ?_
          refine s1 rfl (q_neq rfl rfl) ?_
          refine s1 rfl (q_pickf rfl rfl) ?_
          refine s1 rfl (q_move rfl) ?_
          refine g_split (s := 50) rfl (fun hp6 => ?_) (fun hp6 => ?_)
          · exact absurd hp6 hp3
          · refine g_on rfl rfl ?_
            refine s1 rfl (q_move rfl) ?_
            refine g_on rfl rfl ?_
            refine s1 rfl (q_neq rfl rfl) ?_
            refine s1 rfl (q_pickf rfl rfl) ?_
            refine s1 rfl (q_move rfl) ?_
            refine g_split (s := 54) rfl (fun hp7 => ?_) (fun hp7 => ?_)
            · refine g_off rfl rfl rfl ?_
              refine g_off rfl rfl rfl ?_
              refine s1 rfl (q_pickt rfl rfl) ?_
              refine s1 rfl (q_move rfl) ?_
              refine g_off rfl rfl rfl ?_
              refine g_off rfl rfl rfl ?_
              refine s1 rfl (q_pickt rfl rfl) ?_
              refine s1 rfl (q_move rfl) ?_
              iterate 3 refine g_off rfl rfl rfl ?_
              refine s1 rfl (q_pickt rfl rfl) ?_
              refine o_end ?_
              exact key.weaken (.cons rfl (.cons rfl (.consE rfl (congrArg Value.bool (decide_eq_true (Or.inl (Or.inl ⟨(Or.inr hp7), trivial⟩))).symm) (.nil)))) (.cons rfl (.cons rfl (.cons rfl (.cons rfl (.cons rfl (.cons rfl (.cons rfl (.cons rfl (.cons rfl (.cons rfl (.cons rfl (.cons rfl (.nil)))))))))))))
            · refine g_on rfl rfl ?_
              refine s1 rfl (q_move rfl) ?_
              refine g_on rfl rfl ?_
              refine s1 rfl (q_notb rfl) ?_
              refine s1 rfl (q_pickf rfl rfl) ?_
              refine s1 rfl (q_move rfl) ?_
              refine g_on rfl rfl ?_
              refine s1 rfl (q_move rfl) ?_
              refine g_on rfl rfl ?_
              refine s1 rfl (q_sneq rfl rfl) ?_
              refine s1 rfl (q_pickf rfl rfl) ?_
              refine s1 rfl (q_move rfl) ?_
              refine g_split (s := 62) rfl (fun hp8 => ?_) (fun hp8 => ?_)
              · refine g_off rfl rfl rfl ?_
                refine g_off rfl rfl rfl ?_
                refine g_off rfl rfl rfl ?_
                refine s1 rfl (q_pickt rfl rfl) ?_
                refine o_end ?_
                exact key.weaken (.cons rfl (.cons rfl (.consE rfl (congrArg Value.bool (decide_eq_true (Or.inl (Or.inr hp8))).symm) (.nil)))) (.cons rfl (.cons rfl (.cons rfl (.cons rfl (.cons rfl (.cons rfl (.cons rfl (.cons rfl (.cons rfl (.cons rfl (.cons rfl (.cons rfl (.nil)))))))))))))
              · refine g_on rfl rfl ?_
                refine s1 rfl (q_move rfl) ?_
                refine g_on rfl rfl ?_
                refine s1 rfl (q_len Tryz.underlying50 rfl) ?_
                refine g_on rfl rfl ?_
                refine s1 rfl (q_neq rfl rfl) ?_
                refine s1 rfl (q_pickf rfl rfl) ?_
                refine o_end ?_
                exact key.weaken (.cons rfl (.cons rfl (.consE rfl (congrArg Value.bool (by first | (simp only [hp3, (Decidable.not_not.1 hp3), hp7, (Decidable.not_not.1 hp7), hp8, ne_eq, not_true_eq_false, not_false_eq_true, true_or, or_true, false_or, or_false, true_and, and_true, false_and, and_false, Bool.decide_eq_true] <;> first | exact nb_dec _ | exact b_dec _ | (simp; done)) | exact nb_dec _ | exact b_dec _ | (simp; done) | (exfalso; omega))) (.nil)))) (.cons rfl (.cons rfl (.cons rfl (.cons rfl (.cons rfl (.cons rfl (.cons rfl (.cons rfl (.cons rfl (.cons rfl (.cons rfl (.cons rfl (.nil)))))))))))))

end Go.Proofs.YtecibcjckinngaaGreatDoor
/- The law: what its own loop finds is the session's fault. -/
set_option linter.unusedVariables false
namespace Go.Proofs.YtecibcjckinngaaGreatDoor
open Go Go.RowKit Enc
def LawI (l : List EvM) (cs : List ByteArray) (i : Nat) (f1 f2 : Int) : Prop :=
  (f1 = 0 ∧ (traceFault l).1 = 0 ∧ ¬ (200 : Int) < ((cs.length : Nat) : Int) ∧ ∀ j, j < i → ¬ (4000 : Int) < (((nth cs j).size : Nat) : Int)) ∨ (f1 ≠ 0 ∧ sessF l cs = (f1, f2))
section
variable {l : List EvM} {cs : List ByteArray} {i : Nat} {f1 f2 : Int}
theorem law_0a (h : ((traceFault l).1 = (0 : Int)) ∧ ((200 : Int) < ((cs.length : Nat) : Int))) : LawI l cs 0 2 (-2) := Or.inr ⟨by decide, sess_b (fun q => q h.1) h.2⟩
theorem law_0b (h : ¬ (((traceFault l).1 = (0 : Int)) ∧ ((200 : Int) < ((cs.length : Nat) : Int)))) : LawI l cs 0 (traceFault l).1 (traceFault l).2 := by
  by_cases h1 : (traceFault l).1 = 0
  · exact Or.inl ⟨h1, h1, fun q => h ⟨h1, q⟩, fun j hj => by omega⟩
  · exact Or.inr ⟨h1, sess_a h1⟩
theorem law_y (h : LawI l cs i f1 f2) (hi : i < cs.length) (h0 : f1 = 0) (h3 : (4000 : Int) < (((nth cs i).size : Nat) : Int)) : LawI l cs (i + 1) 3 (1000000 + ((i : Nat) : Int)) := by
  rcases h with ⟨_, h1, h2, h4⟩ | ⟨h1, _⟩
  · exact Or.inr ⟨by decide, sess_c (fun q => q h1) h2 hi h4 h3⟩
  · exact absurd h0 h1
theorem law_n (h : LawI l cs i f1 f2) (h0 : f1 = 0) (h3 : ¬ (4000 : Int) < (((nth cs i).size : Nat) : Int)) : LawI l cs (i + 1) f1 f2 := by
  rcases h with ⟨_, h1, h2, h4⟩ | ⟨h1, _⟩
  · refine Or.inl ⟨h0, h1, h2, fun j hj => ?_⟩
    rcases Nat.lt_succ_iff_lt_or_eq.1 hj with q | rfl
    · exact h4 j q
    · exact h3
  · exact absurd h0 h1
theorem law_f (h : LawI l cs i f1 f2) (h0 : ¬ f1 = 0) : sessP l cs = ([], (f1, f2)) := by
  rcases h with ⟨h1, _⟩ | ⟨h1, h2⟩
  · exact absurd h1 h0
  · exact sessP_f h2 h1
theorem law_v (h : LawI l cs i f1 f2) (h0 : f1 = 0) (hi : ¬ (((i : Nat) : Int) < ((cs.length : Nat) : Int) ∧ f1 = 0)) : sessP l cs = (ansP l cs cs.length, (0, 0)) ∧ Valid l ∧ cs.length ≤ 200 := by
  rcases h with ⟨_, h1, h2, h4⟩ | ⟨h1, _⟩
  · exact ⟨sessP_n (sess_d (fun q => q h1) h2 (fun j hj => h4 j (by omega))), valid_of h1, by omega⟩
  · exact absurd h0 h1
end
theorem sess_size {l : List EvM} {cs : List ByteArray} (hs : ∀ e ∈ l, e.mod.size ≤ 1048576 ∧ e.fn.size ≤ 1048576) (hx : ∀ e ∈ l, ∀ x ∈ e.locals.el, x.text.size ≤ 1048576)
    (hi : ∀ e ∈ l, -9223372036854775808 ≤ e.line ∧ e.line ≤ 9223372036854775807) (hc : ∀ c ∈ cs, c.size ≤ 1048576) : ∀ x ∈ (sessP l cs).1, x.size ≤ 140737488355328 := by
  intro x hm
  by_cases h : (sessF l cs).1 ≠ 0
  · rw [sessP, if_pos h] at hm; simp at hm
  · rw [sessP, if_neg h] at hm
    have hv : Valid l := by
      refine valid_of (Decidable.byContradiction fun q => h ?_)
      rw [sess_a q]; exact q
    exact ans_size hv hs hx hi hc _ x hm
theorem sess_len {l : List EvM} {cs : List ByteArray} : (sessP l cs).1.length ≤ 200 := by
  by_cases h : (sessF l cs).1 ≠ 0
  · rw [sessP, if_pos h]; simp
  · rw [sessP, if_neg h, ans_len]
    by_cases h2 : (traceFault l).1 ≠ 0
    · rw [sess_a h2] at h; exact absurd h2 h
    · by_cases h3 : (200 : Int) < ((cs.length : Nat) : Int)
      · rw [sess_b h2 h3] at h; simp at h
      · omega
end Go.Proofs.YtecibcjckinngaaGreatDoor
/- Walk over the law. -/
set_option linter.unusedVariables false
namespace Go.Proofs.YtecibcjckinngaaGreatDoor
open Go Go.RowKit Enc
attribute [local irreducible] Effect OpsE RunE AnyE AnyAt Quiet Res1


theorem c3 (l : Sl EvM) (cs : Sl ByteArray) (w : World) (hl : ok w l) (hcs0 : ok w cs) (hT : Tabs w) (hs : ∀ e ∈ l.el, e.mod.size ≤ 1048576 ∧ e.fn.size ≤ 1048576) (hx0 : ∀ e ∈ l.el, ∀ x ∈ e.locals.el, x.text.size ≤ 1048576) (hcl : ∀ c ∈ cs.el, c.size ≤ 1048576) : RetV Tryz.prog 3 #[.slice l.addr l.el.length l.cap, .slice cs.addr cs.el.length cs.cap] w (.bool true) := by
  have L0 := Sl.OK.le hl (by decide)
  have L1 := Sl.OK.le hcs0 (by decide)
  have hli : ∀ e ∈ l.el, -9223372036854775808 ≤ e.line ∧ e.line ≤ 9223372036854775807 := fun e he => EvM.OK.line ((show Sl.OK w l from hl).el e he)
  have hsl := sess_len (l := l.el) (cs := cs.el)
  have hal := ans_len l.el cs.el cs.el.length
  refine calls_of (args := [.slice l.addr l.el.length l.cap, .slice cs.addr cs.el.length cs.cap]) Tryz.func3 rfl Tryz.ntmps3 rfl (H := [(100, .fz (fun w => ok w l)), (101, .fz (fun w => ok w cs)), (199, .fz (fun w => Tabs w))]) (Facts.sep (.cons (supp_ok hl) (.cons (supp_ok hcs0) (.cons (supp_tabs hT) (.nil))))) ?_
  refine r_seq ?_
  refine r_region ?_
  refine s1 rfl (q_assign rfl) ?_
  refine o_end ?_
  refine r_seq ?_
  refine r_region ?_
  refine s1 rfl (q_move rfl) ?_
  refine s1 rfl (q_move rfl) ?_
  refine sx rfl (e_callx en4 (.cons rfl (.cons rfl (.nil))) ((fun w hw => c4 l cs w (hw.get_fz (t := 100) rfl) (hw.get_fz (t := 101) rfl) (hw.get_fz (t := 199) rfl) hs hcl 12)) (fun _ => nofz (fun _ h => by cases h))) (fun ⟨a201, c202⟩ _ => ?_)
  refine s1 rfl (q_move rfl) ?_
  refine s1 rfl (q_extract rfl rfl) ?_
  refine s1 rfl (q_extract rfl rfl) ?_
  refine sx rfl (e_alloc zz25) (fun g203 _ => ?_)
  refine s1 rfl (q_assign rfl) ?_
  refine sxn (e_store (tg := 6) (news := [.int .i64 (((sessP l.el cs.el).2).1), .int .i64 (((sessP l.el cs.el).2).2)]) rfl rfl rfl rfl z25 rfl rfl (.cons (.cons (.nil _)))) (fun _ _ => ?_)
  refine o_end ?_
  refine r_seq ?_
  refine r_region ?_
  refine s1 rfl (q_move rfl) ?_
  refine sx rfl (e_call en5 (.cons rfl (.nil)) ((fun w hw => c5 l w (hw.get_fz (t := 100) rfl) (by assumption)))) (fun _ _ => ?_)
  refine sx rfl (e_alloc zz25) (fun g204 _ => ?_)
  refine sxn (e_store (tg := 7) (news := [.int .i64 ((traceFault l.el).1), .int .i64 ((traceFault l.el).2)]) rfl rfl rfl rfl z25 rfl rfl (.cons (.cons (.nil _)))) (fun _ _ => ?_)
  refine o_end ?_
  refine r_seq ?_
  refine r_seq ?_
  refine r_cut [(0, .slice l.addr l.el.length l.cap), (1, .slice cs.addr cs.el.length cs.cap), (5, .slice a201 (((sessP l.el cs.el).1).length) c202), (6, .pointer (some ⟨g203, 0, none⟩)), (7, .pointer (some ⟨g204, 0, none⟩)), (24, .bool (decide (((traceFault l.el).1 = (0 : Int)) ∧ ((200 : Int) < ((cs.el.length : Nat) : Int)))))] [(100, .fz (fun w => ok w l)), (101, .fz (fun w => ok w cs)), (199, .fz (fun w => Tabs w)), (12, .row 9 1 a201 (((sessP l.el cs.el).1).length) c202 (encs ((sessP l.el cs.el).1))), (6, .box g203 [.int .i64 (((sessP l.el cs.el).2).1), .int .i64 (((sessP l.el cs.el).2).2)] 25), (7, .box g204 [.int .i64 ((traceFault l.el).1), .int .i64 ((traceFault l.el).2)] 25)] ?_ (fun key => ?_)
  · refine r_if rfl (fun hp1 => ?_) (fun hp1 => ?_)
    · refine r_region ?_
      refine sx rfl (e_call en6 (.cons rfl (.cons rfl (.nil))) ((fun w hw => c6 (2 : Int) (-2 : Int) w))) (fun _ _ => ?_)
      refine sxn (e_store (tg := 7) (news := [.int .i64 (2 : Int), .int .i64 (-2 : Int)]) rfl rfl rfl rfl z25 rfl rfl (.cons (.cons (.nil _)))) (fun _ _ => ?_)
      refine o_end ?_
      refine r_seq ?_
      refine r_seq ?_
      refine r_region ?_
      refine s1 rfl (q_assign rfl) ?_
      refine o_end ?_
      refine r_block ?_
      refine r_loop ?_
      refine RunE.weaken ?_ ?_ (r_rounds3 (fun (i : Nat) (f1 : Int) (f2 : Int) => [(0, .slice l.addr l.el.length l.cap), (1, .slice cs.addr cs.el.length cs.cap), (5, .slice a201 (((sessP l.el cs.el).1).length) c202), (6, .pointer (some ⟨g203, 0, none⟩)), (7, .pointer (some ⟨g204, 0, none⟩)), (8, .int .i64 ((i : Nat) : Int))]) (fun (i : Nat) (f1 : Int) (f2 : Int) => [(100, .fz (fun w => ok w l)), (101, .fz (fun w => ok w cs)), (199, .fz (fun w => Tabs w)), (12, .row 9 1 a201 (((sessP l.el cs.el).1).length) c202 (encs ((sessP l.el cs.el).1))), (6, .box g203 [.int .i64 (((sessP l.el cs.el).2).1), .int .i64 (((sessP l.el cs.el).2).2)] 25), (7, .box g204 [.int .i64 f1, .int .i64 f2] 25)]) (fun (i : Nat) (f1 : Int) (f2 : Int) => i ≤ cs.el.length ∧ LawI l.el cs.el i f1 f2) (fun (i : Nat) (f1 : Int) (f2 : Int) => cs.el.length - i) ?_ 0 (2 : Int) (-2 : Int) ?_)
      · exact (.cons rfl (.cons rfl (.cons rfl (.cons rfl (.cons rfl (.cons rfl (.nil)))))))
      · exact (.cons rfl (.cons rfl (.cons rfl (.cons rfl (.cons rfl (.cons rfl (.nil)))))))
      · intro i f1 f2 hI0 ih0
        obtain ⟨hI1, hI2⟩ := hI0
        refine r_seq ?_
        refine r_seq ?_
        refine r_cut [(0, .slice l.addr l.el.length l.cap), (1, .slice cs.addr cs.el.length cs.cap), (5, .slice a201 (((sessP l.el cs.el).1).length) c202), (6, .pointer (some ⟨g203, 0, none⟩)), (7, .pointer (some ⟨g204, 0, none⟩)), (8, .int .i64 ((i : Nat) : Int)), (34, .bool (decide ((((i : Nat) : Int) < ((cs.el.length : Nat) : Int)) ∧ (f1 = (0 : Int)))))] [(100, .fz (fun w => ok w l)), (101, .fz (fun w => ok w cs)), (199, .fz (fun w => Tabs w)), (12, .row 9 1 a201 (((sessP l.el cs.el).1).length) c202 (encs ((sessP l.el cs.el).1))), (6, .box g203 [.int .i64 (((sessP l.el cs.el).2).1), .int .i64 (((sessP l.el cs.el).2).2)] 25), (7, .box g204 [.int .i64 f1, .int .i64 f2] 25)] ?_ (fun key => ?_)
        · refine r_if rfl (fun hp2 => ?_) (fun hp2 => ?_)
          · have hpc := hp2
            refine r_skip ?_
            refine r_seq ?_
            refine r_block ?_
            refine r_seq ?_
            refine r_region ?_
            refine s1 rfl (q_move rfl) ?_
            refine s1 rfl (q_move rfl) ?_
            refine s1 rfl (q_indexAddr Tryz.underlying23 z9 rfl rfl rfl (by omega) (by omega) (fun w hw => Sl.OK.isSome (hw.get_fz (t := 101) rfl) (by decide) (i := i) (by omega))) ?_
            refine s1 rfl (q_load ag9 rfl (fun w hw => Sl.OK.cell0 (hw.get_fz (t := 101) rfl) (i := i) (by omega) rfl)) ?_
            refine s1 rfl (q_lens Tryz.underlying9 rfl) ?_
            refine s1 rfl (q_gtr rfl rfl) ?_
            refine o_end ?_
            refine r_if rfl (fun hp3 => ?_) (fun hp3 => ?_)
            · refine r_region ?_
              refine s1 rfl (q_move rfl) ?_
              refine s1 rfl (q_add rfl rfl (by omega)) ?_
              refine sx rfl (e_call en6 (.cons rfl (.cons rfl (.nil))) ((fun w hw => c6 (3 : Int) ((1000000 : Int) + ((i : Nat) : Int)) w))) (fun _ _ => ?_)
              refine sxn (e_store (tg := 7) (news := [.int .i64 (3 : Int), .int .i64 ((1000000 : Int) + ((i : Nat) : Int))]) rfl rfl rfl rfl z25 rfl rfl (.cons (.cons (.nil _)))) (fun _ _ => ?_)
              refine o_end ?_
              refine r_inBlock ?_
              refine r_region ?_
              refine s1 rfl (q_move rfl) ?_
              refine s1 rfl (q_add rfl rfl (by omega)) ?_
              refine s1 rfl (q_assign rfl) ?_
              refine o_end ?_
              refine r_inLoop ?_
              refine RunE.weaken ?_ ?_ (ih0 (i + 1) (3 : Int) ((1000000 : Int) + ((i : Nat) : Int)) ?_ ?_)
              · exact (.cons rfl (.cons rfl (.cons rfl (.cons rfl (.cons rfl (.cons rfl (.nil)))))))
              · exact (.cons rfl (.cons rfl (.cons rfl (.cons rfl (.cons rfl (.cons rfl (.nil)))))))
              · exact ⟨by omega, law_y hI2 (by omega) hpc.2 (by assumption)⟩
              · omega
            · refine r_skip ?_
              refine r_inBlock ?_
              refine r_region ?_
              refine s1 rfl (q_move rfl) ?_
              refine s1 rfl (q_add rfl rfl (by omega)) ?_
              refine s1 rfl (q_assign rfl) ?_
              refine o_end ?_
              refine r_inLoop ?_
              refine RunE.weaken ?_ ?_ (ih0 (i + 1) f1 f2 ?_ ?_)
              · exact (.cons rfl (.cons rfl (.cons rfl (.cons rfl (.cons rfl (.cons rfl (.nil)))))))
              · exact (.cons rfl (.cons rfl (.cons rfl (.cons rfl (.cons rfl (.cons rfl (.nil)))))))
              · exact ⟨by omega, law_n hI2 hpc.2 (by assumption)⟩
              · omega
          · have hpe := hp2
            refine r_exit rfl ?_
            refine r_seq ?_
            refine r_seq ?_
            refine r_region ?_
            refine s1 rfl (q_fieldAddr of25_0 rfl rfl) ?_
            refine s1 rfl (q_load ag3 rfl (fun w hw => hw.box (tg := 7) rfl rfl)) ?_
            refine s1 rfl (q_neq rfl rfl) ?_
            refine o_end ?_
            refine r_if rfl (fun hp4 => ?_) (fun hp4 => ?_)
            · have hse := law_f hI2 hp4
              have hk1 : (sessP l.el cs.el).2.1 = f1 ∧ (sessP l.el cs.el).2.2 = f2 := by rw [hse]; exact ⟨rfl, rfl⟩
              have hk2 : (((sessP l.el cs.el).1.length : Nat) : Int) = (0 : Int) := by rw [hse]; rfl
              refine r_seq ?_
              refine r_region ?_
              refine s1 rfl (q_loads (cs := [.int .i64 (((sessP l.el cs.el).2).1), .int .i64 (((sessP l.el cs.el).2).2)]) ag25 z25 rfl rfl (fun w hw => hw.boxes (tg := 6) rfl)) ?_
              refine s1 rfl (q_loads (cs := [.int .i64 f1, .int .i64 f2]) ag25 z25 rfl rfl (fun w hw => hw.boxes (tg := 7) rfl)) ?_
              refine s1 rfl (q_feq25_eql rfl rfl) ?_
              refine s1 rfl (q_move rfl) ?_
              refine g_split (s := 52) rfl (fun hp5 => ?_) (fun hp5 => ?_)
              · refine g_on rfl rfl ?_
                refine s1 rfl (q_move rfl) ?_
                refine g_on rfl rfl ?_
                refine s1 rfl (q_len Tryz.underlying23 rfl) ?_
                refine g_on rfl rfl ?_
                refine s1 rfl (q_eql rfl rfl) ?_
                refine s1 rfl (q_pickt rfl rfl) ?_
                refine s1 rfl (q_move rfl) ?_
                refine g_split (s := 57) rfl (fun hp6 => ?_) (fun hp6 => ?_)
                · refine g_on rfl rfl ?_
                  refine sx rfl (e_call en7 (.nil) ((fun w hw => c7 w (hw.get_fz (t := 199) rfl)))) (fun _ _ => ?_)
                  refine s1 rfl (q_pickt rfl rfl) ?_
                  refine s1 rfl (q_assign rfl) ?_
                  refine o_end ?_
                  refine r_ret Tryz.func3 (res1 Tryz.results3 (res_tmp (s := 4) rfl)) (fun w hw => ?_)
                  exact ⟨rfl, hw.kp⟩
                · refine g_off rfl rfl rfl ?_
                  refine s1 rfl (q_pickf rfl rfl) ?_
                  refine s1 rfl (q_assign rfl) ?_
                  refine o_end ?_
                  refine r_ret Tryz.func3 (res1 Tryz.results3 (res_tmp (s := 4) rfl)) (fun w hw => ?_)
                  exfalso; first | exact absurd hk1 (by assumption) | exact absurd hk2 (by assumption)
              · refine g_off rfl rfl rfl ?_
                refine g_off rfl rfl rfl ?_
                refine g_off rfl rfl rfl ?_
                refine s1 rfl (q_pickf rfl rfl) ?_
                refine s1 rfl (q_move rfl) ?_
                refine g_off rfl rfl rfl ?_
                refine s1 rfl (q_pickf rfl rfl) ?_
                refine s1 rfl (q_assign rfl) ?_
                refine o_end ?_
                refine r_ret Tryz.func3 (res1 Tryz.results3 (res_tmp (s := 4) rfl)) (fun w hw => ?_)
                exfalso; first | exact absurd hk1 (by assumption) | exact absurd hk2 (by assumption)
            · obtain ⟨hse, hvv, hcl2⟩ := law_v hI2 (Decidable.not_not.1 hp4) hpe
              have hk1 : (sessP l.el cs.el).2.1 = (0 : Int) := by rw [hse]
              have hk2 : (sessP l.el cs.el).1 = ansP l.el cs.el cs.el.length := by rw [hse]
              refine r_skip ?_
              refine r_seq ?_
              refine r_region ?_
              refine s1 rfl (q_fieldAddr of25_0 rfl rfl) ?_
              refine s1 rfl (q_load ag3 rfl (fun w hw => hw.box (tg := 6) rfl rfl)) ?_
              refine s1 rfl (q_eql rfl rfl) ?_
              refine s1 rfl (q_move rfl) ?_
              refine g_split (s := 63) rfl (fun hp7 => ?_) (fun hp7 => ?_)
              · refine g_on rfl rfl ?_
                refine s1 rfl (q_move rfl) ?_
                refine g_on rfl rfl ?_
                refine s1 rfl (q_move rfl) ?_
                refine g_on rfl rfl ?_
                refine s1 rfl (q_move rfl) ?_
                refine g_on rfl rfl ?_
                refine sx rfl (e_callx en9 (.cons rfl (.cons rfl (.nil))) ((fun w hw => c9 l cs w (hw.get_fz (t := 100) rfl) (hw.get_fz (t := 101) rfl) (hw.get_fz (t := 199) rfl) hvv hs hcl hcl2 67)) (fun _ => nofz (fun _ h => by cases h))) (fun ⟨a205, c206⟩ _ => ?_)
                refine g_on rfl rfl ?_
                refine sx rfl (e_call en8 (.cons rfl (.cons rfl (.nil))) ((fun w hw => c8 (⟨a201, c202, (sessP l.el cs.el).1⟩ : Sl ByteArray) (⟨a205, c206, ansP l.el cs.el cs.el.length⟩ : Sl ByteArray) w (ok_row (hw.row (tg := 12) rfl) (by first | omega | (simp only [by_]; omega)) (fun x hx => by have := sess_size hs hx0 hli hcl x hx; simp only [ok]; omega)) (ok_row (hw.row (tg := 67) rfl) (by first | omega | (simp only [by_]; omega)) (fun x hx => by have := ans_size hvv hs hx0 hli hcl _ x hx; simp only [ok]; omega))))) (fun _ _ => ?_)
                refine s1 rfl (q_pickt rfl rfl) ?_
                refine s1 rfl (q_move rfl) ?_
                refine g_split (s := 70) rfl (fun hp8 => ?_) (fun hp8 => ?_)
                · refine g_on rfl rfl ?_
                  refine sx rfl (e_call en7 (.nil) ((fun w hw => c7 w (hw.get_fz (t := 199) rfl)))) (fun _ _ => ?_)
                  refine s1 rfl (q_pickt rfl rfl) ?_
                  refine s1 rfl (q_assign rfl) ?_
                  refine o_end ?_
                  refine r_ret Tryz.func3 (res1 Tryz.results3 (res_tmp (s := 4) rfl)) (fun w hw => ?_)
                  exact ⟨rfl, hw.kp⟩
                · refine g_off rfl rfl rfl ?_
                  refine s1 rfl (q_pickf rfl rfl) ?_
                  refine s1 rfl (q_assign rfl) ?_
                  refine o_end ?_
                  refine r_ret Tryz.func3 (res1 Tryz.results3 (res_tmp (s := 4) rfl)) (fun w hw => ?_)
                  exfalso; first | exact absurd hk1 (by assumption) | exact absurd hk2 (by assumption)
              · refine g_off rfl rfl rfl ?_
                iterate 4 refine g_off rfl rfl rfl ?_
                refine s1 rfl (q_pickf rfl rfl) ?_
                refine s1 rfl (q_move rfl) ?_
                refine g_off rfl rfl rfl ?_
                refine s1 rfl (q_pickf rfl rfl) ?_
                refine s1 rfl (q_assign rfl) ?_
                refine o_end ?_
                refine r_ret Tryz.func3 (res1 Tryz.results3 (res_tmp (s := 4) rfl)) (fun w hw => ?_)
                exfalso; first | exact absurd hk1 (by assumption) | exact absurd hk2 (by assumption)
        · refine r_region ?_
          refine s1 rfl (q_move rfl) ?_
          refine s1 rfl (q_move rfl) ?_
          refine s1 rfl (q_len Tryz.underlying23 rfl) ?_
          refine s1 rfl (q_lss rfl rfl) ?_
          refine s1 rfl (q_move rfl) ?_
          refine g_split (s := 30) rfl (fun hp9 => ?_) (fun hp9 => ?_)
          · refine g_on rfl rfl ?_
            refine s1 rfl (q_fieldAddr of25_0 rfl rfl) ?_
            refine g_on rfl rfl ?_
            refine s1 rfl (q_load ag3 rfl (fun w hw => hw.box (tg := 7) rfl rfl)) ?_
            refine g_on rfl rfl ?_
            refine s1 rfl (q_eql rfl rfl) ?_
            refine s1 rfl (q_pickt rfl rfl) ?_
            refine o_end ?_
            exact key.weaken (.cons rfl (.cons rfl (.cons rfl (.cons rfl (.cons rfl (.cons rfl (.consE rfl (congrArg Value.bool (by first | (simp only [hp9, ne_eq, not_true_eq_false, not_false_eq_true, true_or, or_true, false_or, or_false, true_and, and_true, false_and, and_false, Bool.decide_eq_true] <;> first | exact nb_dec _ | exact b_dec _ | (simp; done)) | exact nb_dec _ | exact b_dec _ | (simp; done) | (exfalso; omega))) (.nil)))))))) (.cons rfl (.cons rfl (.cons rfl (.cons rfl (.cons rfl (.cons rfl (.nil)))))))
          · refine g_off rfl rfl rfl ?_
            refine g_off rfl rfl rfl ?_
            refine g_off rfl rfl rfl ?_
            refine s1 rfl (q_pickf rfl rfl) ?_
            refine o_end ?_
            exact key.weaken (.cons rfl (.cons rfl (.cons rfl (.cons rfl (.cons rfl (.cons rfl (.consE rfl (congrArg Value.bool (decide_eq_false (fun h => hp9 h.1)).symm) (.nil)))))))) (.cons rfl (.cons rfl (.cons rfl (.cons rfl (.cons rfl (.cons rfl (.nil)))))))
      · exact ⟨Nat.zero_le _, law_0a (by assumption)⟩
    · refine r_skip ?_
      refine r_seq ?_
      refine r_seq ?_
      refine r_region ?_
      refine s1 rfl (q_assign rfl) ?_
      refine o_end ?_
      refine r_block ?_
      refine r_loop ?_
      refine RunE.weaken ?_ ?_ (r_rounds3 (fun (i : Nat) (f1 : Int) (f2 : Int) => [(0, .slice l.addr l.el.length l.cap), (1, .slice cs.addr cs.el.length cs.cap), (5, .slice a201 (((sessP l.el cs.el).1).length) c202), (6, .pointer (some ⟨g203, 0, none⟩)), (7, .pointer (some ⟨g204, 0, none⟩)), (8, .int .i64 ((i : Nat) : Int))]) (fun (i : Nat) (f1 : Int) (f2 : Int) => [(100, .fz (fun w => ok w l)), (101, .fz (fun w => ok w cs)), (199, .fz (fun w => Tabs w)), (12, .row 9 1 a201 (((sessP l.el cs.el).1).length) c202 (encs ((sessP l.el cs.el).1))), (6, .box g203 [.int .i64 (((sessP l.el cs.el).2).1), .int .i64 (((sessP l.el cs.el).2).2)] 25), (7, .box g204 [.int .i64 f1, .int .i64 f2] 25)]) (fun (i : Nat) (f1 : Int) (f2 : Int) => i ≤ cs.el.length ∧ LawI l.el cs.el i f1 f2) (fun (i : Nat) (f1 : Int) (f2 : Int) => cs.el.length - i) ?_ 0 ((traceFault l.el).1) ((traceFault l.el).2) ?_)
      · exact (.cons rfl (.cons rfl (.cons rfl (.cons rfl (.cons rfl (.cons rfl (.nil)))))))
      · exact (.cons rfl (.cons rfl (.cons rfl (.cons rfl (.cons rfl (.cons rfl (.nil)))))))
      · intro i f1 f2 hI0 ih0
        obtain ⟨hI1, hI2⟩ := hI0
        refine r_seq ?_
        refine r_seq ?_
        refine r_cut [(0, .slice l.addr l.el.length l.cap), (1, .slice cs.addr cs.el.length cs.cap), (5, .slice a201 (((sessP l.el cs.el).1).length) c202), (6, .pointer (some ⟨g203, 0, none⟩)), (7, .pointer (some ⟨g204, 0, none⟩)), (8, .int .i64 ((i : Nat) : Int)), (34, .bool (decide ((((i : Nat) : Int) < ((cs.el.length : Nat) : Int)) ∧ (f1 = (0 : Int)))))] [(100, .fz (fun w => ok w l)), (101, .fz (fun w => ok w cs)), (199, .fz (fun w => Tabs w)), (12, .row 9 1 a201 (((sessP l.el cs.el).1).length) c202 (encs ((sessP l.el cs.el).1))), (6, .box g203 [.int .i64 (((sessP l.el cs.el).2).1), .int .i64 (((sessP l.el cs.el).2).2)] 25), (7, .box g204 [.int .i64 f1, .int .i64 f2] 25)] ?_ (fun key => ?_)
        · refine r_if rfl (fun hp10 => ?_) (fun hp10 => ?_)
          · have hpc := hp10
            refine r_skip ?_
            refine r_seq ?_
            refine r_block ?_
            refine r_seq ?_
            refine r_region ?_
            refine s1 rfl (q_move rfl) ?_
            refine s1 rfl (q_move rfl) ?_
            refine s1 rfl (q_indexAddr Tryz.underlying23 z9 rfl rfl rfl (by omega) (by omega) (fun w hw => Sl.OK.isSome (hw.get_fz (t := 101) rfl) (by decide) (i := i) (by omega))) ?_
            refine s1 rfl (q_load ag9 rfl (fun w hw => Sl.OK.cell0 (hw.get_fz (t := 101) rfl) (i := i) (by omega) rfl)) ?_
            refine s1 rfl (q_lens Tryz.underlying9 rfl) ?_
            refine s1 rfl (q_gtr rfl rfl) ?_
            refine o_end ?_
            refine r_if rfl (fun hp11 => ?_) (fun hp11 => ?_)
            · refine r_region ?_
              refine s1 rfl (q_move rfl) ?_
              refine s1 rfl (q_add rfl rfl (by omega)) ?_
              refine sx rfl (e_call en6 (.cons rfl (.cons rfl (.nil))) ((fun w hw => c6 (3 : Int) ((1000000 : Int) + ((i : Nat) : Int)) w))) (fun _ _ => ?_)
              refine sxn (e_store (tg := 7) (news := [.int .i64 (3 : Int), .int .i64 ((1000000 : Int) + ((i : Nat) : Int))]) rfl rfl rfl rfl z25 rfl rfl (.cons (.cons (.nil _)))) (fun _ _ => ?_)
              refine o_end ?_
              refine r_inBlock ?_
              refine r_region ?_
              refine s1 rfl (q_move rfl) ?_
              refine s1 rfl (q_add rfl rfl (by omega)) ?_
              refine s1 rfl (q_assign rfl) ?_
              refine o_end ?_
              refine r_inLoop ?_
              refine RunE.weaken ?_ ?_ (ih0 (i + 1) (3 : Int) ((1000000 : Int) + ((i : Nat) : Int)) ?_ ?_)
              · exact (.cons rfl (.cons rfl (.cons rfl (.cons rfl (.cons rfl (.cons rfl (.nil)))))))
              · exact (.cons rfl (.cons rfl (.cons rfl (.cons rfl (.cons rfl (.cons rfl (.nil)))))))
              · exact ⟨by omega, law_y hI2 (by omega) hpc.2 (by assumption)⟩
              · omega
            · refine r_skip ?_
              refine r_inBlock ?_
              refine r_region ?_
              refine s1 rfl (q_move rfl) ?_
              refine s1 rfl (q_add rfl rfl (by omega)) ?_
              refine s1 rfl (q_assign rfl) ?_
              refine o_end ?_
              refine r_inLoop ?_
              refine RunE.weaken ?_ ?_ (ih0 (i + 1) f1 f2 ?_ ?_)
              · exact (.cons rfl (.cons rfl (.cons rfl (.cons rfl (.cons rfl (.cons rfl (.nil)))))))
              · exact (.cons rfl (.cons rfl (.cons rfl (.cons rfl (.cons rfl (.cons rfl (.nil)))))))
              · exact ⟨by omega, law_n hI2 hpc.2 (by assumption)⟩
              · omega
          · have hpe := hp10
            refine r_exit rfl ?_
            refine r_seq ?_
            refine r_seq ?_
            refine r_region ?_
            refine s1 rfl (q_fieldAddr of25_0 rfl rfl) ?_
            refine s1 rfl (q_load ag3 rfl (fun w hw => hw.box (tg := 7) rfl rfl)) ?_
            refine s1 rfl (q_neq rfl rfl) ?_
            refine o_end ?_
            refine r_if rfl (fun hp12 => ?_) (fun hp12 => ?_)
            · have hse := law_f hI2 hp12
              have hk1 : (sessP l.el cs.el).2.1 = f1 ∧ (sessP l.el cs.el).2.2 = f2 := by rw [hse]; exact ⟨rfl, rfl⟩
              have hk2 : (((sessP l.el cs.el).1.length : Nat) : Int) = (0 : Int) := by rw [hse]; rfl
              refine r_seq ?_
              refine r_region ?_
              refine s1 rfl (q_loads (cs := [.int .i64 (((sessP l.el cs.el).2).1), .int .i64 (((sessP l.el cs.el).2).2)]) ag25 z25 rfl rfl (fun w hw => hw.boxes (tg := 6) rfl)) ?_
              refine s1 rfl (q_loads (cs := [.int .i64 f1, .int .i64 f2]) ag25 z25 rfl rfl (fun w hw => hw.boxes (tg := 7) rfl)) ?_
              refine s1 rfl (q_feq25_eql rfl rfl) ?_
              refine s1 rfl (q_move rfl) ?_
              refine g_split (s := 52) rfl (fun hp13 => ?_) (fun hp13 => ?_)
              · refine g_on rfl rfl ?_
                refine s1 rfl (q_move rfl) ?_
                refine g_on rfl rfl ?_
                refine s1 rfl (q_len Tryz.underlying23 rfl) ?_
                refine g_on rfl rfl ?_
                refine s1 rfl (q_eql rfl rfl) ?_
                refine s1 rfl (q_pickt rfl rfl) ?_
                refine s1 rfl (q_move rfl) ?_
                refine g_split (s := 57) rfl (fun hp14 => ?_) (fun hp14 => ?_)
                · refine g_on rfl rfl ?_
                  refine sx rfl (e_call en7 (.nil) ((fun w hw => c7 w (hw.get_fz (t := 199) rfl)))) (fun _ _ => ?_)
                  refine s1 rfl (q_pickt rfl rfl) ?_
                  refine s1 rfl (q_assign rfl) ?_
                  refine o_end ?_
                  refine r_ret Tryz.func3 (res1 Tryz.results3 (res_tmp (s := 4) rfl)) (fun w hw => ?_)
                  exact ⟨rfl, hw.kp⟩
                · refine g_off rfl rfl rfl ?_
                  refine s1 rfl (q_pickf rfl rfl) ?_
                  refine s1 rfl (q_assign rfl) ?_
                  refine o_end ?_
                  refine r_ret Tryz.func3 (res1 Tryz.results3 (res_tmp (s := 4) rfl)) (fun w hw => ?_)
                  exfalso; first | exact absurd hk1 (by assumption) | exact absurd hk2 (by assumption)
              · refine g_off rfl rfl rfl ?_
                refine g_off rfl rfl rfl ?_
                refine g_off rfl rfl rfl ?_
                refine s1 rfl (q_pickf rfl rfl) ?_
                refine s1 rfl (q_move rfl) ?_
                refine g_off rfl rfl rfl ?_
                refine s1 rfl (q_pickf rfl rfl) ?_
                refine s1 rfl (q_assign rfl) ?_
                refine o_end ?_
                refine r_ret Tryz.func3 (res1 Tryz.results3 (res_tmp (s := 4) rfl)) (fun w hw => ?_)
                exfalso; first | exact absurd hk1 (by assumption) | exact absurd hk2 (by assumption)
            · obtain ⟨hse, hvv, hcl2⟩ := law_v hI2 (Decidable.not_not.1 hp12) hpe
              have hk1 : (sessP l.el cs.el).2.1 = (0 : Int) := by rw [hse]
              have hk2 : (sessP l.el cs.el).1 = ansP l.el cs.el cs.el.length := by rw [hse]
              refine r_skip ?_
              refine r_seq ?_
              refine r_region ?_
              refine s1 rfl (q_fieldAddr of25_0 rfl rfl) ?_
              refine s1 rfl (q_load ag3 rfl (fun w hw => hw.box (tg := 6) rfl rfl)) ?_
              refine s1 rfl (q_eql rfl rfl) ?_
              refine s1 rfl (q_move rfl) ?_
              refine g_split (s := 63) rfl (fun hp15 => ?_) (fun hp15 => ?_)
              · refine g_on rfl rfl ?_
                refine s1 rfl (q_move rfl) ?_
                refine g_on rfl rfl ?_
                refine s1 rfl (q_move rfl) ?_
                refine g_on rfl rfl ?_
                refine s1 rfl (q_move rfl) ?_
                refine g_on rfl rfl ?_
                refine sx rfl (e_callx en9 (.cons rfl (.cons rfl (.nil))) ((fun w hw => c9 l cs w (hw.get_fz (t := 100) rfl) (hw.get_fz (t := 101) rfl) (hw.get_fz (t := 199) rfl) hvv hs hcl hcl2 67)) (fun _ => nofz (fun _ h => by cases h))) (fun ⟨a207, c208⟩ _ => ?_)
                refine g_on rfl rfl ?_
                refine sx rfl (e_call en8 (.cons rfl (.cons rfl (.nil))) ((fun w hw => c8 (⟨a201, c202, (sessP l.el cs.el).1⟩ : Sl ByteArray) (⟨a207, c208, ansP l.el cs.el cs.el.length⟩ : Sl ByteArray) w (ok_row (hw.row (tg := 12) rfl) (by first | omega | (simp only [by_]; omega)) (fun x hx => by have := sess_size hs hx0 hli hcl x hx; simp only [ok]; omega)) (ok_row (hw.row (tg := 67) rfl) (by first | omega | (simp only [by_]; omega)) (fun x hx => by have := ans_size hvv hs hx0 hli hcl _ x hx; simp only [ok]; omega))))) (fun _ _ => ?_)
                refine s1 rfl (q_pickt rfl rfl) ?_
                refine s1 rfl (q_move rfl) ?_
                refine g_split (s := 70) rfl (fun hp16 => ?_) (fun hp16 => ?_)
                · refine g_on rfl rfl ?_
                  refine sx rfl (e_call en7 (.nil) ((fun w hw => c7 w (hw.get_fz (t := 199) rfl)))) (fun _ _ => ?_)
                  refine s1 rfl (q_pickt rfl rfl) ?_
                  refine s1 rfl (q_assign rfl) ?_
                  refine o_end ?_
                  refine r_ret Tryz.func3 (res1 Tryz.results3 (res_tmp (s := 4) rfl)) (fun w hw => ?_)
                  exact ⟨rfl, hw.kp⟩
                · refine g_off rfl rfl rfl ?_
                  refine s1 rfl (q_pickf rfl rfl) ?_
                  refine s1 rfl (q_assign rfl) ?_
                  refine o_end ?_
                  refine r_ret Tryz.func3 (res1 Tryz.results3 (res_tmp (s := 4) rfl)) (fun w hw => ?_)
                  exfalso; first | exact absurd hk1 (by assumption) | exact absurd hk2 (by assumption)
              · refine g_off rfl rfl rfl ?_
                iterate 4 refine g_off rfl rfl rfl ?_
                refine s1 rfl (q_pickf rfl rfl) ?_
                refine s1 rfl (q_move rfl) ?_
                refine g_off rfl rfl rfl ?_
                refine s1 rfl (q_pickf rfl rfl) ?_
                refine s1 rfl (q_assign rfl) ?_
                refine o_end ?_
                refine r_ret Tryz.func3 (res1 Tryz.results3 (res_tmp (s := 4) rfl)) (fun w hw => ?_)
                exfalso; first | exact absurd hk1 (by assumption) | exact absurd hk2 (by assumption)
        · refine r_region ?_
          refine s1 rfl (q_move rfl) ?_
          refine s1 rfl (q_move rfl) ?_
          refine s1 rfl (q_len Tryz.underlying23 rfl) ?_
          refine s1 rfl (q_lss rfl rfl) ?_
          refine s1 rfl (q_move rfl) ?_
          refine g_split (s := 30) rfl (fun hp17 => ?_) (fun hp17 => ?_)
          · refine g_on rfl rfl ?_
            refine s1 rfl (q_fieldAddr of25_0 rfl rfl) ?_
            refine g_on rfl rfl ?_
            refine s1 rfl (q_load ag3 rfl (fun w hw => hw.box (tg := 7) rfl rfl)) ?_
            refine g_on rfl rfl ?_
            refine s1 rfl (q_eql rfl rfl) ?_
            refine s1 rfl (q_pickt rfl rfl) ?_
            refine o_end ?_
            exact key.weaken (.cons rfl (.cons rfl (.cons rfl (.cons rfl (.cons rfl (.cons rfl (.consE rfl (congrArg Value.bool (by first | (simp only [hp17, ne_eq, not_true_eq_false, not_false_eq_true, true_or, or_true, false_or, or_false, true_and, and_true, false_and, and_false, Bool.decide_eq_true] <;> first | exact nb_dec _ | exact b_dec _ | (simp; done)) | exact nb_dec _ | exact b_dec _ | (simp; done) | (exfalso; omega))) (.nil)))))))) (.cons rfl (.cons rfl (.cons rfl (.cons rfl (.cons rfl (.cons rfl (.nil)))))))
          · refine g_off rfl rfl rfl ?_
            refine g_off rfl rfl rfl ?_
            refine g_off rfl rfl rfl ?_
            refine s1 rfl (q_pickf rfl rfl) ?_
            refine o_end ?_
            exact key.weaken (.cons rfl (.cons rfl (.cons rfl (.cons rfl (.cons rfl (.cons rfl (.consE rfl (congrArg Value.bool (decide_eq_false (fun h => hp17 h.1)).symm) (.nil)))))))) (.cons rfl (.cons rfl (.cons rfl (.cons rfl (.cons rfl (.cons rfl (.nil)))))))
      · exact ⟨Nat.zero_le _, law_0b (by assumption)⟩
  · refine r_region ?_
    refine s1 rfl (q_fieldAddr of25_0 rfl rfl) ?_
    refine s1 rfl (q_load ag3 rfl (fun w hw => hw.box (tg := 7) rfl rfl)) ?_
    refine s1 rfl (q_eql rfl rfl) ?_
    refine s1 rfl (q_move rfl) ?_
    refine g_split (s := 20) rfl (fun hp18 => ?_) (fun hp18 => ?_)
    · refine g_on rfl rfl ?_
      refine s1 rfl (q_move rfl) ?_
      refine g_on rfl rfl ?_
      refine s1 rfl (q_len Tryz.underlying23 rfl) ?_
      refine g_on rfl rfl ?_
      refine s1 rfl (q_gtr rfl rfl) ?_
      refine s1 rfl (q_pickt rfl rfl) ?_
      refine o_end ?_
      exact key.weaken (.cons rfl (.cons rfl (.cons rfl (.cons rfl (.cons rfl (.consE rfl (congrArg Value.bool (by first | (simp only [hp18, ne_eq, not_true_eq_false, not_false_eq_true, true_or, or_true, false_or, or_false, true_and, and_true, false_and, and_false, Bool.decide_eq_true] <;> first | exact nb_dec _ | exact b_dec _ | (simp; done)) | exact nb_dec _ | exact b_dec _ | (simp; done) | (exfalso; omega))) (.nil))))))) (.cons rfl (.cons rfl (.cons rfl (.cons rfl (.cons rfl (.cons rfl (.nil)))))))
    · refine g_off rfl rfl rfl ?_
      refine g_off rfl rfl rfl ?_
      refine g_off rfl rfl rfl ?_
      refine s1 rfl (q_pickf rfl rfl) ?_
      refine o_end ?_
      exact key.weaken (.cons rfl (.cons rfl (.cons rfl (.cons rfl (.cons rfl (.consE rfl (congrArg Value.bool (decide_eq_false (fun h => hp18 h.1)).symm) (.nil))))))) (.cons rfl (.cons rfl (.cons rfl (.cons rfl (.cons rfl (.cons rfl (.nil)))))))

end Go.Proofs.YtecibcjckinngaaGreatDoor
/-
  FOR A PROOF OF AN '..UptoSaid': WHAT THE BOUND GIVES. Copy it as <Name>Bulk.lean (put your seat's Name for YtecibcjckinngaaGreatDoor, the bound of 'uptoSmall' for 1048576), name it in GOCLAIM.json's 'order' behind <Name>Rows. By an AI agent, Sun Nov 15 2026. No person has read it. No macro, syntax, notation, axiom, sorry.
-/
namespace Go.Proofs.YtecibcjckinngaaGreatDoor.bulks

theorem one_le {H : Type} (d : DataW H) : 1 ≤ Rows.uptoBulk d := by
  cases d with
  | lit l => cases l <;> simp [Rows.uptoBulk]
  | nil => simp [Rows.uptoBulk]
  | ptr d => simp [Rows.uptoBulk]
  | slice elems spare => simp [Rows.uptoBulk]
  | agg parts => simp [Rows.uptoBulk]
  | iface t d => simp [Rows.uptoBulk]
  | map entries => simp [Rows.uptoBulk]
  | held h => simp [Rows.uptoBulk]

/-- a part's bulk is at most the whole's -/
theorem part_le {H : Type} {d : DataW H} {l : List (DataW H)} (h : d ∈ l) : Rows.uptoBulk d ≤ Rows.uptoBulkAll l := by
  induction l with
  | nil => cases h
  | cons x r ih =>
    simp only [Rows.uptoBulkAll]
    cases List.mem_cons.1 h with
    | inl e => subst e; omega
    | inr e => have := ih e; omega

theorem append {H : Type} (l r : List (DataW H)) : Rows.uptoBulkAll (l ++ r) = Rows.uptoBulkAll l + Rows.uptoBulkAll r := by
  induction l with
  | nil => simp [Rows.uptoBulkAll]
  | cons x l ih => simp only [List.cons_append, Rows.uptoBulkAll, ih]; omega

/-- so many values at the most -/
theorem length_le {H : Type} (l : List (DataW H)) : l.length ≤ Rows.uptoBulkAll l := by
  induction l with
  | nil => simp [Rows.uptoBulkAll]
  | cons x r ih => have := one_le x; simp only [Rows.uptoBulkAll, List.length_cons]; omega

/-- a slice's places, and what they hold -/
theorem slice_le {H : Type} (elems spare : List (DataW H)) : elems.length + spare.length + 1 ≤ Rows.uptoBulk (.slice elems spare) := by
  have h1 := length_le elems
  have h2 := length_le spare
  simp only [Rows.uptoBulk]
  omega
theorem slice_elems {H : Type} (elems spare : List (DataW H)) : Rows.uptoBulkAll elems + 1 ≤ Rows.uptoBulk (.slice elems spare) := by
  simp only [Rows.uptoBulk]
  omega

/-- a string's letters -/
theorem string_eq {H : Type} (bytes : List UInt8) : Rows.uptoBulk (DataW.lit (H := H) (.string bytes)) = bytes.length + 1 := by
  simp [Rows.uptoBulk]

/-- THE BOUND, as the builder hands it over ('hk') -/
theorem bound {H : Type} {l : List (DataW H)} (hk : Rows.uptoSmall H l = true) : Rows.uptoBulkAll l ≤ 1048576 := by
  simpa [Rows.uptoSmall] using hk

/-- ROOM: a slice of n elements of b bytes, grown by append: below the 2^48 bytes that append, make and a Builder bear. Here n up to 2^21, b up to 4,096: put your own numbers. -/
theorem room {n b : Nat} (hn : n ≤ 2097152) (hb : b ≤ 4096) : (n + n / 4 + 192) * b ≤ 281474976710656 := by
  have h : (n + n / 4 + 192) * b ≤ 2621632 * 4096 := Nat.mul_le_mul (by omega) hb
  omega

end Go.Proofs.YtecibcjckinngaaGreatDoor.bulks
/- The arguments of the law, as this proof's data. -/
set_option linter.unusedVariables false
set_option maxRecDepth 100000
namespace Go.Proofs.YtecibcjckinngaaGreatDoor
open Go Go.RowKit Enc
open Go.ChangeShapes Go.WideShapes
section
variable {H : Type} {enc' : TypeId × Value → H} {P : Program} {w : World} {base : Nat} {held : Bool}
theorem open_sl {α : Type} [Enc α] [Inhabited α] {R : α → Prop} {t e : TypeId} (ht : P.underlying t = some (.slice e)) (hs : P.cellsOf e = sz α) (hz : 0 < sz α) (hby : by_ α ≤ 104)
    (hel : ∀ (n : Nat) (cs : List Value) (d : DataW H) (pl : List MemPlace), DataW.trod enc' P w base (fun _ => true) held n e cs = some (d, pl) → Rows.uptoBulk d ≤ 1048576 → ∃ x : α, cs = enc x ∧ ok w x ∧ R x)
    {fuel : Nat} {cs : List Value} {x : DataW H × List MemPlace} (h : DataW.trod enc' P w base (fun _ => true) held fuel t cs = some x) (hb : Rows.uptoBulk x.1 ≤ 1048576) :
    ∃ s : Sl α, cs = [s.val] ∧ ok w s ∧ ∀ y ∈ s.el, R y := by
  rcases Deep.open_slice ht h with ⟨rfl, rfl⟩ | ⟨a, len, cap, m, n, D, Pl, rfl, hba, hl, hm, hmm, rfl, hx⟩
  · exact ⟨⟨none, 0, []⟩, rfl, ok_nil, fun y hy => by simp at hy⟩
  · simp only [if_true] at hmm
    subst hmm
    have hbk := bulks.slice_le ((List.range len).map D) ((List.range (m - len)).map fun j => D (len + j))
    have hbe := bulks.slice_elems ((List.range len).map D) ((List.range (m - len)).map fun j => D (len + j))
    simp only [List.length_map, List.length_range] at hbk
    have hb' : Rows.uptoBulk (.slice ((List.range len).map D) ((List.range (m - len)).map fun j => D (len + j))) ≤ 1048576 := hb
    obtain ⟨f, hf⟩ := Deep.choose_lt (α := α) (n := len) (p := fun i y => w.cells? base (a.add (i * P.cellsOf e)) (P.cellsOf e) = some (enc y) ∧ ok w y ∧ R y) (fun i hi => by
      obtain ⟨cs', h1, h2⟩ := hx i (by omega)
      have hp := bulks.part_le (d := D i) (l := (List.range len).map D) (List.mem_map.2 ⟨i, List.mem_range.2 hi, rfl⟩)
      obtain ⟨y, rfl, hy1, hy2⟩ := hel n cs' (D i) (Pl i) h2 (by omega)
      exact ⟨y, h1, hy1, hy2⟩)
    have hall : ∀ y ∈ (List.range len).map f, ok w y ∧ R y := by
      intro y hy
      obtain ⟨i, hi, rfl⟩ := List.mem_map.1 hy
      exact (hf i (List.mem_range.1 hi)).2
    have hnth : ∀ i, i < len → nth ((List.range len).map f) i = f i := by
      intro i hi
      rw [nth_eq (by simpa using hi)]; simp
    refine ⟨⟨some a, m, (List.range len).map f⟩, by simp, ⟨by simpa using hl, hm, ?_, ?_, fun y hy => (hall y hy).1⟩, fun y hy => (hall y hy).2⟩
    · simp only [List.length_map, List.length_range]
      exact Nat.le_trans (Nat.mul_le_mul (show len ≤ 1048576 by omega) hby) (by decide)
    · intro k v hv
      have hlen := encs_length ((List.range len).map f)
      simp only [List.length_map, List.length_range] at hlen
      have hk : k < len * sz α := by
        rw [← hlen]
        exact (List.getElem?_eq_some_iff.1 hv).1
      have hi : k / sz α < len := by rw [Nat.div_lt_iff_lt_mul hz]; exact hk
      have hj : k % sz α < sz α := Nat.mod_lt _ hz
      have hdm : k / sz α * sz α + k % sz α = k := by rw [Nat.mul_comm]; exact Nat.div_add_mod k (sz α)
      have hg := encs_get ((List.range len).map f) (k / sz α) (k % sz α) (by simpa using hi) hj
      rw [hdm, hv, hnth _ hi] at hg
      obtain ⟨_, hc1, hc2⟩ := World.cells?_some (hf _ hi).1
      have hc3 := hc2 (k % sz α) (by rw [hs]; exact hj)
      rw [hs, Deep.add_add, hdm, ← hg] at hc3
      exact ⟨a, rfl, hc3⟩
theorem trod_str {t : TypeId} (ht : P.underlying t = some .string) {fuel : Nat} {cs : List Value} {sp : Nat → Bool} {x : DataW H × List MemPlace} (h : DataW.trod enc' P w base sp held fuel t cs = some x) (hb : Rows.uptoBulk x.1 ≤ 1048576) : ∃ s : ByteArray, cs = [.string s] ∧ s.size ≤ 1048576 := by
  cases fuel with
  | zero => simp [DataW.trod] at h
  | succ n =>
    unfold DataW.trod at h
    rw [ht] at h
    split at h <;> simp_all
    rename_i s
    obtain ⟨h1, h2⟩ := h
    rw [← h2] at hb
    simp only [Rows.uptoBulk] at hb
    have e2 : s.data.toList.length = s.size := by simp
    omega
theorem trod_num {t : TypeId} (ht : P.underlying t = some (.int .i64)) {fuel : Nat} {cs : List Value} {sp : Nat → Bool} {x : DataW H × List MemPlace} (h : DataW.trod enc' P w base sp held fuel t cs = some x) : ∃ n : Int, cs = [.int .i64 n] ∧ -9223372036854775808 ≤ n ∧ n ≤ 9223372036854775807 := by
  cases fuel with
  | zero => simp [DataW.trod] at h
  | succ m =>
    unfold DataW.trod at h
    rw [ht] at h
    split at h <;> simp_all
    obtain ⟨⟨hk, h1⟩, h2⟩ := h
    rename_i hq
    subst hq
    exact bounds_i64 h1
end
section
variable {H : Type} {enc' : TypeId × Value → H} {w : World}
theorem cells42 : Tryz.prog.cellsOf 42 = 8 := by kernel_rfl
theorem cells95 : Tryz.prog.cellsOf 95 = 2 := by kernel_rfl
theorem cells9' : Tryz.prog.cellsOf 9 = 1 := by kernel_rfl
theorem cells3' : Tryz.prog.cellsOf 3 = 1 := by kernel_rfl
theorem cells40 : Tryz.prog.cellsOf 40 = 1 := by kernel_rfl
theorem open_word {n : Nat} {cs : List Value} {d : DataW H} {pl : List MemPlace} (h : DataW.trod enc' Tryz.prog w 0 (fun _ => true) true n 9 cs = some (d, pl)) (hb : Rows.uptoBulk d ≤ 1048576) : ∃ x : ByteArray, cs = enc x ∧ ok w x ∧ x.size ≤ 1048576 := by
  obtain ⟨s, rfl, hs⟩ := trod_str Tryz.underlying9 h hb
  exact ⟨s, rfl, ok_small hs, hs⟩
theorem open_cmds {v : Value} {d : DataW H} {p : List MemPlace} (h : DataW.Trod enc' Tryz.prog w 0 (fun _ => true) true 23 v d p) (hv : v.cells.toList = [v]) (hb : Rows.uptoBulk d ≤ 1048576) : ∃ s : Sl ByteArray, v = s.val ∧ ok w s ∧ ∀ y ∈ s.el, y.size ≤ 1048576 := by
  obtain ⟨n, h⟩ := h
  rw [hv] at h
  obtain ⟨s, h1, h2, h3⟩ := open_sl (R := fun y : ByteArray => y.size ≤ 1048576) Tryz.underlying23 cells9' (by decide) (by decide) (fun n cs d pl h hb => open_word h hb) h hb
  simp only [List.cons.injEq, and_true] at h1
  exact ⟨s, h1, h2, h3⟩
theorem open_loc {n : Nat} {cs : List Value} {d : DataW H} {pl : List MemPlace} (h : DataW.trod enc' Tryz.prog w 0 (fun _ => true) true n 95 cs = some (d, pl)) (hb : Rows.uptoBulk d ≤ 1048576) : ∃ x : LocM, cs = enc x ∧ ok w x ∧ x.text.size ≤ 1048576 := by
  obtain ⟨xs, m, rfl, hx, hl, hn, hf⟩ := DataW.trod_struct Tryz.underlying95 h
  simp only [Prod.mk.injEq] at hx
  have hn2 : xs.length = 2 := hn
  have hp : ∀ y ∈ xs, Rows.uptoBulk y.1 ≤ 1048576 := by
    intro y hy
    have := bulks.part_le (d := y.1) (l := xs.map (·.1)) (List.mem_map.2 ⟨y, hy, rfl⟩)
    rw [hx.1] at hb
    simp only [Rows.uptoBulk] at hb
    omega
  rw [cells95] at hl
  match cs, hl, hf with
  | [c0, c1], _, hf =>
    have h0 : DataW.trod enc' Tryz.prog w 0 (fun _ => true) true m 9 ((([c0, c1] : List Value).drop 0).take (Tryz.prog.cellsOf 9)) = xs[0]? := hf 0 _ rfl
    have h1 : DataW.trod enc' Tryz.prog w 0 (fun _ => true) true m 9 ((([c0, c1] : List Value).drop 1).take (Tryz.prog.cellsOf 9)) = xs[1]? := hf 1 _ rfl
    rw [cells9', List.getElem?_eq_getElem (by omega)] at h0 h1
    obtain ⟨s0, e0, hs0⟩ := trod_str Tryz.underlying9 h0 (hp _ (List.getElem_mem _))
    obtain ⟨s1, e1, hs1⟩ := trod_str Tryz.underlying9 h1 (hp _ (List.getElem_mem _))
    simp only [List.drop_zero, List.take_succ_cons, List.take_zero, List.drop_succ_cons, List.cons.injEq, and_true] at e0 e1
    subst e0; subst e1
    exact ⟨⟨s0, s1⟩, rfl, ⟨ok_small hs0, ok_small hs1⟩, hs1⟩
structure EvR (x : EvM) : Prop where
  mod : x.mod.size ≤ 1048576
  fn : x.fn.size ≤ 1048576
  loc : ∀ y ∈ x.locals.el, y.text.size ≤ 1048576
theorem open_ev {n : Nat} {cs : List Value} {d : DataW H} {pl : List MemPlace} (h : DataW.trod enc' Tryz.prog w 0 (fun _ => true) true n 42 cs = some (d, pl)) (hb : Rows.uptoBulk d ≤ 1048576) : ∃ x : EvM, cs = enc x ∧ ok w x ∧ EvR x := by
  obtain ⟨xs, m, rfl, hx, hl, hn, hf⟩ := DataW.trod_struct Tryz.underlying42 h
  simp only [Prod.mk.injEq] at hx
  have hn2 : xs.length = 8 := hn
  have hp : ∀ y ∈ xs, Rows.uptoBulk y.1 ≤ 1048576 := by
    intro y hy
    have := bulks.part_le (d := y.1) (l := xs.map (·.1)) (List.mem_map.2 ⟨y, hy, rfl⟩)
    rw [hx.1] at hb
    simp only [Rows.uptoBulk] at hb
    omega
  rw [cells42] at hl
  match cs, hl, hf with
  | [c0, c1, c2, c3, c4, c5, c6, c7], _, hf =>
    have h0 : DataW.trod enc' Tryz.prog w 0 (fun _ => true) true m 3 ((([c0, c1, c2, c3, c4, c5, c6, c7] : List Value).drop 0).take (Tryz.prog.cellsOf 3)) = xs[0]? := hf 0 _ rfl
    have h1 : DataW.trod enc' Tryz.prog w 0 (fun _ => true) true m 9 ((([c0, c1, c2, c3, c4, c5, c6, c7] : List Value).drop 1).take (Tryz.prog.cellsOf 9)) = xs[1]? := hf 1 _ rfl
    have h2 : DataW.trod enc' Tryz.prog w 0 (fun _ => true) true m 9 ((([c0, c1, c2, c3, c4, c5, c6, c7] : List Value).drop 2).take (Tryz.prog.cellsOf 9)) = xs[2]? := hf 2 _ rfl
    have h3 : DataW.trod enc' Tryz.prog w 0 (fun _ => true) true m 3 ((([c0, c1, c2, c3, c4, c5, c6, c7] : List Value).drop 3).take (Tryz.prog.cellsOf 3)) = xs[3]? := hf 3 _ rfl
    have h4 : DataW.trod enc' Tryz.prog w 0 (fun _ => true) true m 3 ((([c0, c1, c2, c3, c4, c5, c6, c7] : List Value).drop 4).take (Tryz.prog.cellsOf 3)) = xs[4]? := hf 4 _ rfl
    have h5 : DataW.trod enc' Tryz.prog w 0 (fun _ => true) true m 3 ((([c0, c1, c2, c3, c4, c5, c6, c7] : List Value).drop 5).take (Tryz.prog.cellsOf 3)) = xs[5]? := hf 5 _ rfl
    have h6 : DataW.trod enc' Tryz.prog w 0 (fun _ => true) true m 9 ((([c0, c1, c2, c3, c4, c5, c6, c7] : List Value).drop 6).take (Tryz.prog.cellsOf 9)) = xs[6]? := hf 6 _ rfl
    have h7 : DataW.trod enc' Tryz.prog w 0 (fun _ => true) true m 40 ((([c0, c1, c2, c3, c4, c5, c6, c7] : List Value).drop 7).take (Tryz.prog.cellsOf 40)) = xs[7]? := hf 7 _ rfl
    rw [cells3', List.getElem?_eq_getElem (by omega)] at h0 h3 h4 h5
    rw [cells9', List.getElem?_eq_getElem (by omega)] at h1 h2 h6
    rw [cells40, List.getElem?_eq_getElem (by omega)] at h7
    obtain ⟨n0, e0, b0⟩ := trod_num Tryz.underlying3 h0
    obtain ⟨s1, e1, b1⟩ := trod_str Tryz.underlying9 h1 (hp _ (List.getElem_mem _))
    obtain ⟨s2, e2, b2⟩ := trod_str Tryz.underlying9 h2 (hp _ (List.getElem_mem _))
    obtain ⟨n3, e3, b3⟩ := trod_num Tryz.underlying3 h3
    obtain ⟨n4, e4, b4⟩ := trod_num Tryz.underlying3 h4
    obtain ⟨n5, e5, b5⟩ := trod_num Tryz.underlying3 h5
    obtain ⟨s6, e6, b6⟩ := trod_str Tryz.underlying9 h6 (hp _ (List.getElem_mem _))
    obtain ⟨s7, e7, b7, r7⟩ := open_sl (R := fun y : LocM => y.text.size ≤ 1048576) Tryz.underlying40 cells95 (by decide) (by decide) (fun n cs d pl h hb => open_loc h hb) h7 (hp _ (List.getElem_mem _))
    simp only [List.drop_zero, List.take_succ_cons, List.take_zero, List.drop_succ_cons, List.cons.injEq, and_true] at e0 e1 e2 e3 e4 e5 e6 e7
    subst e0; subst e1; subst e2; subst e3; subst e4; subst e5; subst e6; subst e7
    exact ⟨⟨n0, s1, s2, n3, n4, n5, s6, s7⟩, rfl, ⟨b0, ok_small b1, ok_small b2, b3, b4, b5, ok_small b6, b7⟩, ⟨b1, b2, r7⟩⟩
theorem open_trace {v : Value} {d : DataW H} {p : List MemPlace} (h : DataW.Trod enc' Tryz.prog w 0 (fun _ => true) true 22 v d p) (hv : v.cells.toList = [v]) (hb : Rows.uptoBulk d ≤ 1048576) : ∃ s : Sl EvM, v = s.val ∧ ok w s ∧ ∀ y ∈ s.el, EvR y := by
  obtain ⟨n, h⟩ := h
  rw [hv] at h
  obtain ⟨s, h1, h2, h3⟩ := open_sl (R := EvR) Tryz.underlying22 cells42 (by decide) (by decide) (fun n cs d pl h hb => open_ev h hb) h hb
  simp only [List.cons.injEq, and_true] at h1
  exact ⟨s, h1, h2, h3⟩
end
end Go.Proofs.YtecibcjckinngaaGreatDoor
/- One input that fits. -/
set_option linter.unusedVariables false
namespace Go.Proofs.YtecibcjckinngaaGreatDoor
open Go Go.RowKit
open Go.ChangeShapes Go.WideShapes Go.ChangeAt
theorem ownK : ownKnob Tryz.prog.godebug = none := by kernel_rfl
def litV : DataW Unit → List Value
  | .lit (.int k n) => [.int k n]
  | .agg ps => ps.flatMap fun
    | .lit (.int k n) => [.int k n]
    | _ => []
  | _ => []
def cellsD : DataW Unit → Array Value
  | .agg ps => (ps.flatMap litV).toArray
  | _ => #[]
abbrev synS : ByteArray := { data := #[105, 110, 118, 97, 108, 105, 100, 32, 115, 121, 110, 116, 97, 120] }
abbrev rngS : ByteArray := { data := #[118, 97, 108, 117, 101, 32, 111, 117, 116, 32, 111, 102, 32, 114, 97, 110, 103, 101] }
/-- The settled world with two blocks more, each an errors.errorString; the seven listed variables hold what their initialisers lay. -/
noncomputable def laidWorld (os : Os) : World :=
  let N := (World.settled Tryz.prog os).heap.size
  let w0 := World.holding Tryz.prog os ⟨#[.cells #[.string synS] 170, .cells #[.string rngS] 170], #[], []⟩
  let put (h : Array Obj) (g : Nat) (cs : Array Value) : Array Obj := h.modify g fun
    | .cells _ t frozen => .cells cs t frozen
    | o => o
  let h1 := put w0.heap 1 #[.iface 168 (.pointer (some ⟨N, 0, none⟩))]
  let h2 := put h1 2 #[.iface 168 (.pointer (some ⟨N + 1, 0, none⟩))]
  let h3 := put h2 3 (cellsD Rows.laid_internal_strconv_uint64pow10)
  let h4 := put h3 4 (cellsD Rows.laid_unicode_utf8_first)
  let h5 := put h4 5 (cellsD Rows.laid_unicode_utf8_acceptRanges)
  let h6 := put h5 6 (cellsD Rows.laid_math_bits_deBruijn32tab)
  let h7 := put h6 7 (cellsD Rows.laid_math_bits_deBruijn64tab)
  { w0 with heap := h7 }
set_option maxRecDepth 100000 in
theorem laid_met (os : Os) (args : Array Value) : laidMet Tryz.prog Rows.debuggerSessionMatchesSpecUptoRow.laid ((laidWorld os).forCall (fun _ _ => 0) ⟨#[], args, []⟩).memory :=
  laidMet_of_run' 8 (by kernel_rfl) (by kernel_rfl)
abbrev wArgs : Array Value := #[.slice none 0 0, .slice none 0 0]
theorem wit_row (os : Os) {H : Type} (enc : TypeId × Value → H) :
    (Rows.OpenSpec.upto Rows.debuggerSessionMatchesSpecSpec).preRow enc Tryz.prog Tryz.f3 Rows.debuggerSessionMatchesSpecUptoRow.domain false Rows.debuggerSessionMatchesSpecUptoRow.laid ((laidWorld os).forCall (fun _ _ => 0) ⟨#[], wArgs, []⟩).memory wArgs := by
  have hw : (DataW.whole enc Tryz.prog ((laidWorld os).forCall (fun _ _ => 0) ⟨#[], wArgs, []⟩).memory Tryz.f3.params.toList Rows.debuggerSessionMatchesSpecSpec.vars false wArgs.toList 8).map (fun x => (x.1, x.2.1)) =
      some ([.nil, .nil], []) := by kernel_rfl
  obtain ⟨⟨x1, x2, x3⟩, hx, hx1⟩ := Option.map_eq_some_iff.1 hw
  simp only [Prod.mk.injEq] at hx1
  obtain ⟨rfl, rfl⟩ := hx1
  exact OpenSpec.preRow_of_cond 8 hx (by kernel_rfl) (fun k hk => by cases hk; kernel_rfl) (by kernel_rfl) (laid_met os _)
end Go.Proofs.YtecibcjckinngaaGreatDoor
/- THE LAW, WHERE WHAT IT READS IS OF BULK AT MOST 1048576: the row's second statement and its card. -/
set_option linter.unusedVariables false
set_option maxRecDepth 100000
namespace Go.Proofs.YtecibcjckinngaaGreatDoor
open Go Go.RowKit
open Go.ChangeShapes Go.WideShapes Go.ChangeAt
theorem starE : "*" ++ "errors.errorString" = "*errors.errorString" := by decide
theorem row168 (u : TypeId) (h : Tryz.prog.typeName? 3 u = some "*errors.errorString") : u = 168 :=
  typeName_ptr_named (nm := "errors.errorString") (by rw [starE]; kernel_rfl) (by kernel_rfl) (by decide) u (by rw [starE]; exact h)
theorem u111 : ∃ ms, Tryz.prog.underlying 111 = some (.interface ms) := by
  have h : (Tryz.prog.underlying 111).map (fun | .interface _ => true | _ => false) = some true := by kernel_rfl
  cases hu : Tryz.prog.underlying 111 with
  | none => rw [hu] at h; cases h
  | some d => rw [hu] at h; cases d <;> first | exact ⟨_, rfl⟩ | (simp at h)
theorem u168 : Tryz.prog.underlying 168 = some (.pointer 170) := by kernel_rfl
theorem u170 : ∃ f, Tryz.prog.underlying 170 = some (.struct #[f]) ∧ f.type = 9 ∧ f.offset = 0 := ⟨_, Tryz.underlying170, rfl, rfl⟩
theorem u159 : Tryz.prog.underlying 159 = some (.array 20 148) := by kernel_rfl
theorem u148 : Tryz.prog.underlying 148 = some (.int .u64) := by kernel_rfl
theorem len_of_shape {W : World} (h : W.ShapedOpen Tryz.prog) : ∃ m : Int, W.cell? ⟨0, 0, none⟩ = some (.int .i64 m) := by
  obtain ⟨cs, hb, hsz, hr⟩ := h.1 0 #[.int .i64 0] 3 (of_decide_eq_true (by kernel_rfl)) (by kernel_rfl)
  obtain ⟨ts, hts, _, hc⟩ := hr (by kernel_rfl)
  have e : ts = [3] := Option.some.inj (hts.symm.trans (show Tryz.prog.cellTypes Tryz.prog.depth 3 = some [3] from by kernel_rfl))
  subst e
  have hs1 : cs.size = 1 := hsz
  obtain ⟨v, hv⟩ : ∃ v, cs[0]? = some v := ⟨cs[0], Array.getElem?_eq_getElem (by omega)⟩
  obtain ⟨u, hu, hk⟩ := hc 0 v hv
  obtain rfl : u = 3 := by simpa using hu.symm
  have hi : ∃ m : Int, v = .int .i64 m := by
    simp only [Cell.ok, Tryz.underlying3] at hk
    cases v <;> simp_all
  obtain ⟨m, rfl⟩ := hi
  exact ⟨m, by simp [World.cell?, hb, hv]⟩
theorem tabs_of {W : World} (hL : laidMet Tryz.prog Rows.debuggerSessionMatchesSpecUptoRow.laid W) (hsh : W.ShapedOpen Tryz.prog) : Tabs W := by
  obtain ⟨ms, hms⟩ := u111
  obtain ⟨f, hf, hft, hfo⟩ := u170
  have h2 : laidMet Tryz.prog [("internal/strconv.uint64pow10", Lib.tabData .u64 Lib.pow10Tab), ("unicode/utf8.acceptRanges", Rows.laid_unicode_utf8_acceptRanges), ("strconv.ErrRange", Rows.laid_strconv_ErrRange), ("strconv.ErrSyntax", Rows.laid_strconv_ErrSyntax), ("unicode/utf8.first", Rows.laid_unicode_utf8_first)] W := hL.tail.tail
  have hpow := Lib.tabIs_of_head (g := 3) (by kernel_rfl) (by kernel_rfl) u159 u148 (by kernel_rfl) (by kernel_rfl) h2
  obtain ⟨a0, s0, hv0, _, _, _⟩ := laid_sentinel (g := 2) h2.tail.tail (by kernel_rfl) (by kernel_rfl) hms row168 u168 hf hft hfo Tryz.underlying9 (by kernel_rfl) (by kernel_rfl)
  obtain ⟨a1, s1, hv1, _, _, _⟩ := laid_sentinel (g := 1) h2.tail.tail.tail (by kernel_rfl) (by kernel_rfl) hms row168 u168 hf hft hfo Tryz.underlying9 (by kernel_rfl) (by kernel_rfl)
  have c2 := World.var?_cell (show Tryz.prog.globalNamed "strconv.ErrRange" = some 2 by kernel_rfl) hv0 0
  have c1 := World.var?_cell (show Tryz.prog.globalNamed "strconv.ErrSyntax" = some 1 by kernel_rfl) hv1 0
  exact ⟨len_of_shape hsh, ⟨168, _, by simpa using c1⟩, ⟨168, _, by simpa using c2⟩, hpow⟩
theorem laidOutK : laidOutB Tryz.prog = true := by kernel_rfl
abbrev lawSpec : OpenSpec := Rows.OpenSpec.upto Rows.debuggerSessionMatchesSpecSpec
abbrev lawRow : OpenClaim := Rows.debuggerSessionMatchesSpecUptoRow
theorem lifted (os : Os) (started : os.Started) (H : Type) (enc : TypeId × Value → H) (F : Stop.Interp) :
    ReturnsInHanded {} Tryz.checked os 3 .any (lawSpec.preRow enc Tryz.prog Tryz.f3 lawRow.domain false lawRow.laid) ((lawSpec.at F).post enc Tryz.prog Tryz.f3 false true false false) := by
  refine returnsInHanded_of_row (C := Tryz.checked) (s := lawSpec) ownK started (by kernel_rfl) Tryz.func3
    (witness_row_at (enc := enc) (C := Tryz.checked) false (laidWorld os) wArgs rfl (by kernel_rfl) (by kernel_rfl) (by kernel_rfl) (wit_row os enc)) ?_
  intro W base args ds gs before hval0 hW _ hcond _ hL hsh _
  have hval : ∀ (j : Nat) t v, Tryz.f3.params[j]? = some t → args[j]? = some v → Value.okWide Tryz.prog W .any base t v := hval0
  have hW' := hW
  obtain ⟨p, q, hA0, hV0, rfl, _, _⟩ := hW
  have hA : DataW.TrodAll enc Tryz.prog W 0 (fun _ => true) true Tryz.f3.params.toList args.toList ds p := hA0
  rw [Tryz.params3] at hA hval
  obtain ⟨v0, v1, d0, d1, p0, p1, rfl, rfl, rfl, h0, h1⟩ := trodAll_two hA
  obtain ⟨rfl, rfl⟩ := trodVars_none hV0
  clear hA0 hV0 hval0
  obtain ⟨a0, n0, k0, rfl⟩ := okWide_slice Tryz.underlying22 (hval 0 22 v0 rfl rfl)
  obtain ⟨a1, n1, k1, rfl⟩ := okWide_slice Tryz.underlying23 (hval 1 23 v1 rfl rfl)
  have hk : Rows.uptoBulkAll ([d0, d1] ++ ([] : List (DataW H))) ≤ 1048576 := bulks.bound (hcond _ rfl)
  have b0 := bulks.part_le (d := d0) (l := [d0, d1] ++ ([] : List (DataW H))) (by simp)
  have b1 := bulks.part_le (d := d1) (l := [d0, d1] ++ ([] : List (DataW H))) (by simp)
  obtain ⟨l, e0, ok0, r0⟩ := open_trace h0 rfl (by omega)
  obtain ⟨cs, e1, ok1, r1⟩ := open_cmds h1 rfl (by omega)
  have hL' : laidMet Tryz.prog Rows.debuggerSessionMatchesSpecUptoRow.laid W := hL
  have hT := tabs_of hL' hsh
  have hc := c3 l cs W ok0 ok1 hT (fun e he => ⟨(r0 e he).mod, (r0 e he).fn⟩) (fun e he => (r0 e he).loc) r1
  rw [e0, e1]
  refine hc.mono ?_
  rintro e W' ⟨rfl, hkp⟩
  have bel : Below W.heap.size W W' := Kp.below hkp
  have hlt : ∀ x ∈ p0 ++ p1, x.block < W.heap.size := fun x hx => by
    have := hW'.lt x (by simpa using hx)
    exact this
  rw [e0, e1] at hW'
  rw [e0] at h0
  rw [e1] at h1
  have es : ((lawSpec.at F).fn H ([d0, d1] ++ [])) = { results := [.lit (.bool true)], args := [d0, d1] } := rfl
  refine ⟨_, rfl, _, _, _, [], p0 ++ p1, [], hW', ?_, ?_, ?_, bel.frame _, fun h => by cases h⟩
  · rw [es]; exact trodAll_mk1 (shut_bool Tryz.underlying4 true)
  · rw [es]
    exact trodAll_mk2 (Below.trod laidOutK (by kernel_rfl) (of_decide_eq_true (by kernel_rfl)) h0 bel (fun x hx => hlt x (List.mem_append_left _ hx))) (Below.trod laidOutK (by kernel_rfl) (of_decide_eq_true (by kernel_rfl)) h1 bel (fun x hx => hlt x (List.mem_append_right _ hx)))
  · rw [es]; rfl
theorem said : Rows.DebuggerSessionMatchesSpecUptoSaid :=
  OpenClaim.holds_of_cond 3 Tryz.f3 rfl rfl rfl rfl rfl rfl rfl ⟨rfl, rfl, rfl, rfl, rfl⟩ rfl rfl rfl rfl rfl (by kernel_rfl) Tryz.func3 (by kernel_rfl)
    (of_decide_eq_true (by kernel_rfl)) (by unfold Func.isWrapper; first | (rw [if_pos (by decide +kernel)]; kernel_rfl) | (rw [if_neg (by decide +kernel)]; exact ⟨rfl, rfl⟩))
    (fun os started H enc _ F => by rw [OpenClaim.pre_eq_preRow]; exact lifted os started H enc F)
/-- No parameter wants a stand-in; the program's own looks are off. -/
theorem plain (f : FuncId) (fn : Func) (hf : Tryz.pinned.checked.prog.funcNamed "brindlewood/brindlewoodlaw6.DebuggerSessionMatchesSpec" = some f) (hfn : Tryz.pinned.checked.prog.funcs[f]? = some fn) :
    true = Tryz.pinned.checked.prog.looks [] ∧ ∀ (j : Nat) t, fn.params[j]? = some t → Tryz.pinned.checked.prog.wantsStandIn t = false := by
  obtain rfl : f = 3 := Option.some.inj ((show Tryz.prog.funcNamed "brindlewood/brindlewoodlaw6.DebuggerSessionMatchesSpec" = some 3 by kernel_rfl).symm.trans hf) |>.symm
  obtain rfl : fn = Tryz.f3 := (Option.some.inj (Tryz.func3.symm.trans hfn)).symm
  refine ⟨by kernel_rfl, fun j t ht => ?_⟩
  rw [Tryz.params3] at ht
  have h : t = 22 ∨ t = 23 := by simpa using Array.mem_of_getElem? ht
  rcases h with rfl | rfl
  · exact (show Tryz.prog.wantsStandIn 22 = false by kernel_rfl)
  · exact (show Tryz.prog.wantsStandIn 23 = false by kernel_rfl)
/-- THE SECOND FORM's CARD. -/
theorem debuggerSessionMatchesSpecUpto_card : Rows.DebuggerSessionMatchesSpecUptoCardSaid :=
  Claim7.holds_tied_plain_at .later [] _ _ _ _ said (fun _ h => by cases h) (by kernel_rfl) (fun _ h => by cases h) debuggerSessionMatchesSpecUpto_row_tie rfl ⟨rfl, rfl⟩ (by kernel_rfl) rfl plain (by kernel_rfl)
#print axioms debuggerSessionMatchesSpecUpto_card
end Go.Proofs.YtecibcjckinngaaGreatDoor
