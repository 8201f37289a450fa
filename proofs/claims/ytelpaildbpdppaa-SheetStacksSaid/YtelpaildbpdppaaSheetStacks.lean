/- SheetStacks: for every input the law returns true, and its arguments read as they did. No condition. -/
import Derived.Test.YtelpaildbpdppaaRows
import Derived.JoinedOf
import Derived.Handed
import Derived.Test.YtelpaildbpdppaaL4
section
/- The walk of SheetStacks. -/
namespace Go.KL
open Go.Proofs
attribute [local irreducible] SC St Fin Sq Sw Ylds Doos Sets Enters Spec CellIs CellsAre Then Ret Rnd Chn resOK ints bools recs arr
set_option maxRecDepth 10000 in
set_option maxHeartbeats 40000000 in
theorem sheetStacks_ok (W : World) (l : Lay) (s a b pos : Int) (h : Gd l s) (hc : StackIn l s a b pos) : Spec Try.prog 8 #[l.v, .int .i64 s, .int .i64 a, .int .i64 b, .int .i64 pos] (K W []) (fun _ : Unit => .bool true) (fun _ => K W []) := by
  have hs := hc
  obtain ⟨c1, c2, c3, c4, c5⟩ := hs
  have h1 := h.1.r; have h2 := h.1.c; have h3 := h.1.m; have h4 := h.2
  have hp := np_bd h.1
  have e1 : l.r * l.c = np l := rfl
  have hsp := mul_bd (a := s) (b := np l) (A := 1048576) (B := 256) (by omega) (by omega)
  have q1 := note_bd l s (np l) a pos h.1 hp (by omega) c4
  have q2 := note_bd l s (np l) (b - 1) pos h.1 hp (by omega) c4
  have i1 : CellIn l s a pos := ⟨by omega, c4⟩
  have i2 : CellIn l s (b - 1) pos := ⟨by omega, c4⟩
  refine enter (args := [_, _, _, _, _]) Try.func8 rfl Try.ntmps8 rfl ?_
  refine c_seq ?_
  refine c_region ?_
  refine s_do (do_box rfl) rfl rfl rfl (fun b5 => ?_)
  refine s_y (y_assign rfl) rfl rfl rfl ?_
  refine s_nil ?_
  refine f_then ?_
  refine c_seq ?_
  refine c_seq ?_
  refine c_region ?_
  refine s_y (y_loadA Try.tab rfl rfl rfl rfl (cells_row0 0 rfl rfl)) rfl rfl rfl ?_
  refine s_y (y_move rfl) rfl rfl rfl ?_
  refine s_call (en_f rfl Try.call23) (wrong_0 W _ _ _ h) rfl rfl rfl (fun _ => ?_)
  refine s_y (y_F (y_neq rfl rfl) (by omega)) rfl rfl rfl ?_
  refine s_nil ?_
  refine f_then ?_
  refine c_condF rfl ?_
  refine c_skip ?_
  refine f_then ?_
  refine c_seq ?_
  refine c_region ?_
  refine s_y (y_loadA Try.tab rfl rfl rfl rfl (cells_row0 0 rfl rfl)) rfl rfl rfl ?_
  refine s_y (y_move rfl) rfl rfl rfl ?_
  refine s_y (y_move rfl) rfl rfl rfl ?_
  refine s_y (y_move rfl) rfl rfl rfl ?_
  refine s_y (y_move rfl) rfl rfl rfl ?_
  refine s_call (en_f rfl Try.call29) (Stack_ok W _ _ _ _ _ _ h (by assumption)) rfl rfl rfl (fun _ => ?_)
  refine s_y (y_move rfl) rfl rfl rfl ?_
  refine s_y (y_extract rfl rfl) rfl rfl rfl ?_
  refine s_y (y_extract rfl rfl) rfl rfl rfl ?_
  refine s_y (y_extract rfl rfl) rfl rfl rfl ?_
  refine s_y (y_assign rfl) rfl rfl rfl ?_
  refine s_y (y_assign rfl) rfl rfl rfl ?_
  refine s_y (y_assign rfl) rfl rfl rfl ?_
  refine s_nil ?_
  refine f_then ?_
  refine c_seq ?_
  refine c_seq ?_
  refine c_quiet Try.mixed (by kernel_rfl) K.drew ?_
  refine q_y (y_move rfl) rfl rfl rfl ?_
  refine q_y (y_F (y_lss rfl rfl) (by omega)) rfl rfl rfl ?_
  refine q_y (y_move rfl) rfl rfl rfl ?_
  refine q_y (y_move rfl) rfl rfl rfl ?_
  refine q_y (y_move rfl) rfl rfl rfl ?_
  refine q_y (y_F (y_gtr rfl rfl) (by omega)) rfl rfl rfl ?_
  refine q_y (y_pickF rfl rfl) rfl rfl rfl ?_
  refine q_y (y_move rfl) rfl rfl rfl ?_
  refine q_y (y_move rfl) rfl rfl rfl ?_
  refine q_y (y_move rfl) rfl rfl rfl ?_
  refine q_y (y_F (y_geq rfl rfl) (by omega)) rfl rfl rfl ?_
  refine q_y (y_pickF rfl rfl) rfl rfl rfl ?_
  refine q_y (y_move rfl) rfl rfl rfl ?_
  refine q_y (y_move rfl) rfl rfl rfl ?_
  refine q_y (y_F (y_lss rfl rfl) (by omega)) rfl rfl rfl ?_
  refine q_y (y_pickF rfl rfl) rfl rfl rfl ?_
  refine q_y (y_move rfl) rfl rfl rfl ?_
  refine q_y (y_move rfl) rfl rfl rfl ?_
  refine q_y (y_fieldAddr0 Try.tab rfl rfl rfl rfl rfl) rfl rfl rfl ?_
  refine q_y (y_load Try.tab rfl rfl (cell_row 0 rfl rfl)) rfl rfl rfl ?_
  refine q_y (y_fieldAddrB Try.tab 1 rfl rfl rfl rfl rfl) rfl rfl rfl ?_
  refine q_y (y_load Try.tab rfl rfl (cell_row 0 rfl rfl)) rfl rfl rfl ?_
  refine q_y (y_mul rfl rfl (by omega)) rfl rfl rfl ?_
  refine q_y (y_F (y_geq rfl rfl) (by omega)) rfl rfl rfl ?_
  refine q_y (y_pickF rfl rfl) rfl rfl rfl ?_
  refine q_y (y_move rfl) rfl rfl rfl ?_
  refine q_y (y_move rfl) rfl rfl rfl ?_
  refine q_y (y_fieldAddrB Try.tab 2 rfl rfl rfl rfl rfl) rfl rfl rfl ?_
  refine q_y (y_load Try.tab rfl rfl (cell_row 0 rfl rfl)) rfl rfl rfl ?_
  refine q_y (y_quo rfl rfl (by omega)) rfl rfl rfl ?_
  refine q_y (y_move rfl) rfl rfl rfl ?_
  refine q_y (y_sub rfl rfl (by omega)) rfl rfl rfl ?_
  refine q_y (y_fieldAddrB Try.tab 2 rfl rfl rfl rfl rfl) rfl rfl rfl ?_
  refine q_y (y_load Try.tab rfl rfl (cell_row 0 rfl rfl)) rfl rfl rfl ?_
  refine q_y (y_quo rfl rfl (by omega)) rfl rfl rfl ?_
  refine q_y (y_F (y_neq rfl rfl) (by omega)) rfl rfl rfl ?_
  refine q_y (y_pickF rfl rfl) rfl rfl rfl ?_
  refine q_nil ?_
  refine f_then ?_
  refine c_condF rfl ?_
  refine c_skip ?_
  refine f_then ?_
  refine c_seq ?_
  refine c_region ?_
  refine s_y (y_loadA Try.tab rfl rfl rfl rfl (cells_row0 0 rfl rfl)) rfl rfl rfl ?_
  refine s_y (y_move rfl) rfl rfl rfl ?_
  refine s_y (y_move rfl) rfl rfl rfl ?_
  refine s_y (y_move rfl) rfl rfl rfl ?_
  refine s_y (y_build Try.tab rfl rfl rfl rfl rfl) rfl rfl rfl ?_
  refine s_call (en_f rfl Try.call26) (rnote_spec W _ _ _ _ _ h.1 h.2 (by assumption)) rfl rfl rfl (fun _ => ?_)
  refine s_y (y_assign rfl) rfl rfl rfl ?_
  refine s_nil ?_
  refine f_then ?_
  refine c_seq ?_
  refine c_region ?_
  refine s_y (y_loadA Try.tab rfl rfl rfl rfl (cells_row0 0 rfl rfl)) rfl rfl rfl ?_
  refine s_y (y_move rfl) rfl rfl rfl ?_
  refine s_y (y_move rfl) rfl rfl rfl ?_
  refine s_y (y_sub rfl rfl (by omega)) rfl rfl rfl ?_
  refine s_y (y_move rfl) rfl rfl rfl ?_
  refine s_y (y_build Try.tab rfl rfl rfl rfl rfl) rfl rfl rfl ?_
  refine s_call (en_f rfl Try.call26) (rnote_spec W _ _ _ _ _ h.1 h.2 (by assumption)) rfl rfl rfl (fun _ => ?_)
  refine s_y (y_assign rfl) rfl rfl rfl ?_
  refine s_nil ?_
  refine f_then ?_
  refine c_seq ?_
  refine c_region ?_
  refine s_y (y_move rfl) rfl rfl rfl ?_
  refine s_y (y_move rfl) rfl rfl rfl ?_
  refine s_y (y_move rfl) rfl rfl rfl ?_
  refine s_y (y_min rfl rfl) rfl rfl rfl ?_
  refine s_y (y_T (y_eql rfl rfl) (by omega)) rfl rfl rfl ?_
  refine s_y (y_move rfl) rfl rfl rfl ?_
  refine s_y (y_move rfl) rfl rfl rfl ?_
  refine s_y (y_move rfl) rfl rfl rfl ?_
  refine s_y (y_move rfl) rfl rfl rfl ?_
  refine s_y (y_max rfl rfl) rfl rfl rfl ?_
  refine s_y (y_add rfl rfl (by omega)) rfl rfl rfl ?_
  refine s_y (y_T (y_eql rfl rfl) (by omega)) rfl rfl rfl ?_
  refine s_y (y_pickT rfl rfl) rfl rfl rfl ?_
  refine s_y (y_move rfl) rfl rfl rfl ?_
  refine s_y (y_move rfl) rfl rfl rfl ?_
  refine s_y (y_T (y_eql rfl rfl) (by omega)) rfl rfl rfl ?_
  refine s_y (y_pickT rfl rfl) rfl rfl rfl ?_
  refine s_y (y_move rfl) rfl rfl rfl ?_
  refine s_call (en_f rfl Try.call15) (awake_spec W _) rfl rfl rfl (fun _ => ?_)
  refine s_y (y_pickT rfl rfl) rfl rfl rfl ?_
  refine s_y (y_assign rfl) rfl rfl rfl ?_
  refine s_nil ?_
  refine f_then ?_
  refine c_ret ?_
  exact f_ret () (res1 rfl rfl) (fun w h => h.any)
set_option maxRecDepth 10000 in
set_option maxHeartbeats 40000000 in
theorem sheetStacks_1 (W : World) (l : Lay) (s a b pos : Int) (h : Gd l s) (hc : ¬ StackIn l s a b pos) (c : a < 0) : Spec Try.prog 8 #[l.v, .int .i64 s, .int .i64 a, .int .i64 b, .int .i64 pos] (K W []) (fun _ : Unit => .bool true) (fun _ => K W []) := by
  refine enter (args := [_, _, _, _, _]) Try.func8 rfl Try.ntmps8 rfl ?_
  refine c_seq ?_
  refine c_region ?_
  refine s_do (do_box rfl) rfl rfl rfl (fun b5 => ?_)
  refine s_y (y_assign rfl) rfl rfl rfl ?_
  refine s_nil ?_
  refine f_then ?_
  refine c_seq ?_
  refine c_seq ?_
  refine c_region ?_
  refine s_y (y_loadA Try.tab rfl rfl rfl rfl (cells_row0 0 rfl rfl)) rfl rfl rfl ?_
  refine s_y (y_move rfl) rfl rfl rfl ?_
  refine s_call (en_f rfl Try.call23) (wrong_0 W _ _ _ h) rfl rfl rfl (fun _ => ?_)
  refine s_y (y_F (y_neq rfl rfl) (by omega)) rfl rfl rfl ?_
  refine s_nil ?_
  refine f_then ?_
  refine c_condF rfl ?_
  refine c_skip ?_
  refine f_then ?_
  refine c_seq ?_
  refine c_region ?_
  refine s_y (y_loadA Try.tab rfl rfl rfl rfl (cells_row0 0 rfl rfl)) rfl rfl rfl ?_
  refine s_y (y_move rfl) rfl rfl rfl ?_
  refine s_y (y_move rfl) rfl rfl rfl ?_
  refine s_y (y_move rfl) rfl rfl rfl ?_
  refine s_y (y_move rfl) rfl rfl rfl ?_
  refine s_call (en_f rfl Try.call29) (Stack_range W _ _ _ _ _ _ h (by assumption)) rfl rfl rfl (fun _ => ?_)
  refine s_y (y_move rfl) rfl rfl rfl ?_
  refine s_y (y_extract rfl rfl) rfl rfl rfl ?_
  refine s_y (y_extract rfl rfl) rfl rfl rfl ?_
  refine s_y (y_extract rfl rfl) rfl rfl rfl ?_
  refine s_y (y_assign rfl) rfl rfl rfl ?_
  refine s_y (y_assign rfl) rfl rfl rfl ?_
  refine s_y (y_assign rfl) rfl rfl rfl ?_
  refine s_nil ?_
  refine f_then ?_
  refine c_seq ?_
  refine c_seq ?_
  refine c_quiet Try.mixed (by kernel_rfl) K.drew ?_
  refine q_y (y_move rfl) rfl rfl rfl ?_
  refine q_y (y_T (y_lss rfl rfl) (by assumption)) rfl rfl rfl ?_
  refine q_y (y_move rfl) rfl rfl rfl ?_
  iterate 3 refine q_skip rfl rfl rfl ?_
  refine q_y (y_pickT rfl rfl) rfl rfl rfl ?_
  refine q_y (y_move rfl) rfl rfl rfl ?_
  iterate 3 refine q_skip rfl rfl rfl ?_
  refine q_y (y_pickT rfl rfl) rfl rfl rfl ?_
  refine q_y (y_move rfl) rfl rfl rfl ?_
  iterate 2 refine q_skip rfl rfl rfl ?_
  refine q_y (y_pickT rfl rfl) rfl rfl rfl ?_
  refine q_y (y_move rfl) rfl rfl rfl ?_
  iterate 7 refine q_skip rfl rfl rfl ?_
  refine q_y (y_pickT rfl rfl) rfl rfl rfl ?_
  refine q_y (y_move rfl) rfl rfl rfl ?_
  iterate 10 refine q_skip rfl rfl rfl ?_
  refine q_y (y_pickT rfl rfl) rfl rfl rfl ?_
  refine q_nil ?_
  refine f_then ?_
  refine c_condT rfl ?_
  refine c_seq ?_
  refine c_region ?_
  refine s_y (y_move rfl) rfl rfl rfl ?_
  refine s_y (y_T (y_eql rfl rfl) (by omega)) rfl rfl rfl ?_
  refine s_y (y_move rfl) rfl rfl rfl ?_
  refine s_y (y_move rfl) rfl rfl rfl ?_
  refine s_y (y_T (y_eql rfl rfl) (by omega)) rfl rfl rfl ?_
  refine s_y (y_pickT rfl rfl) rfl rfl rfl ?_
  refine s_y (y_move rfl) rfl rfl rfl ?_
  refine s_y (y_move rfl) rfl rfl rfl ?_
  refine s_y (y_T (y_eql rfl rfl) (by omega)) rfl rfl rfl ?_
  refine s_y (y_pickT rfl rfl) rfl rfl rfl ?_
  refine s_y (y_move rfl) rfl rfl rfl ?_
  refine s_call (en_f rfl Try.call15) (awake_spec W _) rfl rfl rfl (fun _ => ?_)
  refine s_y (y_pickT rfl rfl) rfl rfl rfl ?_
  refine s_y (y_assign rfl) rfl rfl rfl ?_
  refine s_nil ?_
  refine f_then ?_
  refine c_ret ?_
  refine f_thenR ?_
  exact f_ret () (res1 rfl rfl) (fun w h => h.any)
set_option maxRecDepth 10000 in
set_option maxHeartbeats 40000000 in
theorem sheetStacks_2 (W : World) (l : Lay) (s a b pos : Int) (h : Gd l s) (hc : ¬ StackIn l s a b pos) (c1 : 0 ≤ a) (c : s < b) : Spec Try.prog 8 #[l.v, .int .i64 s, .int .i64 a, .int .i64 b, .int .i64 pos] (K W []) (fun _ : Unit => .bool true) (fun _ => K W []) := by
  refine enter (args := [_, _, _, _, _]) Try.func8 rfl Try.ntmps8 rfl ?_
  refine c_seq ?_
  refine c_region ?_
  refine s_do (do_box rfl) rfl rfl rfl (fun b5 => ?_)
  refine s_y (y_assign rfl) rfl rfl rfl ?_
  refine s_nil ?_
  refine f_then ?_
  refine c_seq ?_
  refine c_seq ?_
  refine c_region ?_
  refine s_y (y_loadA Try.tab rfl rfl rfl rfl (cells_row0 0 rfl rfl)) rfl rfl rfl ?_
  refine s_y (y_move rfl) rfl rfl rfl ?_
  refine s_call (en_f rfl Try.call23) (wrong_0 W _ _ _ h) rfl rfl rfl (fun _ => ?_)
  refine s_y (y_F (y_neq rfl rfl) (by omega)) rfl rfl rfl ?_
  refine s_nil ?_
  refine f_then ?_
  refine c_condF rfl ?_
  refine c_skip ?_
  refine f_then ?_
  refine c_seq ?_
  refine c_region ?_
  refine s_y (y_loadA Try.tab rfl rfl rfl rfl (cells_row0 0 rfl rfl)) rfl rfl rfl ?_
  refine s_y (y_move rfl) rfl rfl rfl ?_
  refine s_y (y_move rfl) rfl rfl rfl ?_
  refine s_y (y_move rfl) rfl rfl rfl ?_
  refine s_y (y_move rfl) rfl rfl rfl ?_
  refine s_call (en_f rfl Try.call29) (Stack_range W _ _ _ _ _ _ h (by assumption)) rfl rfl rfl (fun _ => ?_)
  refine s_y (y_move rfl) rfl rfl rfl ?_
  refine s_y (y_extract rfl rfl) rfl rfl rfl ?_
  refine s_y (y_extract rfl rfl) rfl rfl rfl ?_
  refine s_y (y_extract rfl rfl) rfl rfl rfl ?_
  refine s_y (y_assign rfl) rfl rfl rfl ?_
  refine s_y (y_assign rfl) rfl rfl rfl ?_
  refine s_y (y_assign rfl) rfl rfl rfl ?_
  refine s_nil ?_
  refine f_then ?_
  refine c_seq ?_
  refine c_seq ?_
  refine c_quiet Try.mixed (by kernel_rfl) K.drew ?_
  refine q_y (y_move rfl) rfl rfl rfl ?_
  refine q_y (y_F (y_lss rfl rfl) (by omega)) rfl rfl rfl ?_
  refine q_y (y_move rfl) rfl rfl rfl ?_
  refine q_y (y_move rfl) rfl rfl rfl ?_
  refine q_y (y_move rfl) rfl rfl rfl ?_
  refine q_y (y_T (y_gtr rfl rfl) (by assumption)) rfl rfl rfl ?_
  refine q_y (y_pickF rfl rfl) rfl rfl rfl ?_
  refine q_y (y_move rfl) rfl rfl rfl ?_
  iterate 3 refine q_skip rfl rfl rfl ?_
  refine q_y (y_pickT rfl rfl) rfl rfl rfl ?_
  refine q_y (y_move rfl) rfl rfl rfl ?_
  iterate 2 refine q_skip rfl rfl rfl ?_
  refine q_y (y_pickT rfl rfl) rfl rfl rfl ?_
  refine q_y (y_move rfl) rfl rfl rfl ?_
  iterate 7 refine q_skip rfl rfl rfl ?_
  refine q_y (y_pickT rfl rfl) rfl rfl rfl ?_
  refine q_y (y_move rfl) rfl rfl rfl ?_
  iterate 10 refine q_skip rfl rfl rfl ?_
  refine q_y (y_pickT rfl rfl) rfl rfl rfl ?_
  refine q_nil ?_
  refine f_then ?_
  refine c_condT rfl ?_
  refine c_seq ?_
  refine c_region ?_
  refine s_y (y_move rfl) rfl rfl rfl ?_
  refine s_y (y_T (y_eql rfl rfl) (by omega)) rfl rfl rfl ?_
  refine s_y (y_move rfl) rfl rfl rfl ?_
  refine s_y (y_move rfl) rfl rfl rfl ?_
  refine s_y (y_T (y_eql rfl rfl) (by omega)) rfl rfl rfl ?_
  refine s_y (y_pickT rfl rfl) rfl rfl rfl ?_
  refine s_y (y_move rfl) rfl rfl rfl ?_
  refine s_y (y_move rfl) rfl rfl rfl ?_
  refine s_y (y_T (y_eql rfl rfl) (by omega)) rfl rfl rfl ?_
  refine s_y (y_pickT rfl rfl) rfl rfl rfl ?_
  refine s_y (y_move rfl) rfl rfl rfl ?_
  refine s_call (en_f rfl Try.call15) (awake_spec W _) rfl rfl rfl (fun _ => ?_)
  refine s_y (y_pickT rfl rfl) rfl rfl rfl ?_
  refine s_y (y_assign rfl) rfl rfl rfl ?_
  refine s_nil ?_
  refine f_then ?_
  refine c_ret ?_
  refine f_thenR ?_
  exact f_ret () (res1 rfl rfl) (fun w h => h.any)
set_option maxRecDepth 10000 in
set_option maxHeartbeats 40000000 in
theorem sheetStacks_3 (W : World) (l : Lay) (s a b pos : Int) (h : Gd l s) (hc : ¬ StackIn l s a b pos) (c1 : 0 ≤ a) (c2 : b ≤ s) (c : b ≤ a) : Spec Try.prog 8 #[l.v, .int .i64 s, .int .i64 a, .int .i64 b, .int .i64 pos] (K W []) (fun _ : Unit => .bool true) (fun _ => K W []) := by
  refine enter (args := [_, _, _, _, _]) Try.func8 rfl Try.ntmps8 rfl ?_
  refine c_seq ?_
  refine c_region ?_
  refine s_do (do_box rfl) rfl rfl rfl (fun b5 => ?_)
  refine s_y (y_assign rfl) rfl rfl rfl ?_
  refine s_nil ?_
  refine f_then ?_
  refine c_seq ?_
  refine c_seq ?_
  refine c_region ?_
  refine s_y (y_loadA Try.tab rfl rfl rfl rfl (cells_row0 0 rfl rfl)) rfl rfl rfl ?_
  refine s_y (y_move rfl) rfl rfl rfl ?_
  refine s_call (en_f rfl Try.call23) (wrong_0 W _ _ _ h) rfl rfl rfl (fun _ => ?_)
  refine s_y (y_F (y_neq rfl rfl) (by omega)) rfl rfl rfl ?_
  refine s_nil ?_
  refine f_then ?_
  refine c_condF rfl ?_
  refine c_skip ?_
  refine f_then ?_
  refine c_seq ?_
  refine c_region ?_
  refine s_y (y_loadA Try.tab rfl rfl rfl rfl (cells_row0 0 rfl rfl)) rfl rfl rfl ?_
  refine s_y (y_move rfl) rfl rfl rfl ?_
  refine s_y (y_move rfl) rfl rfl rfl ?_
  refine s_y (y_move rfl) rfl rfl rfl ?_
  refine s_y (y_move rfl) rfl rfl rfl ?_
  refine s_call (en_f rfl Try.call29) (Stack_range W _ _ _ _ _ _ h (by assumption)) rfl rfl rfl (fun _ => ?_)
  refine s_y (y_move rfl) rfl rfl rfl ?_
  refine s_y (y_extract rfl rfl) rfl rfl rfl ?_
  refine s_y (y_extract rfl rfl) rfl rfl rfl ?_
  refine s_y (y_extract rfl rfl) rfl rfl rfl ?_
  refine s_y (y_assign rfl) rfl rfl rfl ?_
  refine s_y (y_assign rfl) rfl rfl rfl ?_
  refine s_y (y_assign rfl) rfl rfl rfl ?_
  refine s_nil ?_
  refine f_then ?_
  refine c_seq ?_
  refine c_seq ?_
  refine c_quiet Try.mixed (by kernel_rfl) K.drew ?_
  refine q_y (y_move rfl) rfl rfl rfl ?_
  refine q_y (y_F (y_lss rfl rfl) (by omega)) rfl rfl rfl ?_
  refine q_y (y_move rfl) rfl rfl rfl ?_
  refine q_y (y_move rfl) rfl rfl rfl ?_
  refine q_y (y_move rfl) rfl rfl rfl ?_
  refine q_y (y_F (y_gtr rfl rfl) (by omega)) rfl rfl rfl ?_
  refine q_y (y_pickF rfl rfl) rfl rfl rfl ?_
  refine q_y (y_move rfl) rfl rfl rfl ?_
  refine q_y (y_move rfl) rfl rfl rfl ?_
  refine q_y (y_move rfl) rfl rfl rfl ?_
  refine q_y (y_T (y_geq rfl rfl) (by assumption)) rfl rfl rfl ?_
  refine q_y (y_pickF rfl rfl) rfl rfl rfl ?_
  refine q_y (y_move rfl) rfl rfl rfl ?_
  iterate 2 refine q_skip rfl rfl rfl ?_
  refine q_y (y_pickT rfl rfl) rfl rfl rfl ?_
  refine q_y (y_move rfl) rfl rfl rfl ?_
  iterate 7 refine q_skip rfl rfl rfl ?_
  refine q_y (y_pickT rfl rfl) rfl rfl rfl ?_
  refine q_y (y_move rfl) rfl rfl rfl ?_
  iterate 10 refine q_skip rfl rfl rfl ?_
  refine q_y (y_pickT rfl rfl) rfl rfl rfl ?_
  refine q_nil ?_
  refine f_then ?_
  refine c_condT rfl ?_
  refine c_seq ?_
  refine c_region ?_
  refine s_y (y_move rfl) rfl rfl rfl ?_
  refine s_y (y_T (y_eql rfl rfl) (by omega)) rfl rfl rfl ?_
  refine s_y (y_move rfl) rfl rfl rfl ?_
  refine s_y (y_move rfl) rfl rfl rfl ?_
  refine s_y (y_T (y_eql rfl rfl) (by omega)) rfl rfl rfl ?_
  refine s_y (y_pickT rfl rfl) rfl rfl rfl ?_
  refine s_y (y_move rfl) rfl rfl rfl ?_
  refine s_y (y_move rfl) rfl rfl rfl ?_
  refine s_y (y_T (y_eql rfl rfl) (by omega)) rfl rfl rfl ?_
  refine s_y (y_pickT rfl rfl) rfl rfl rfl ?_
  refine s_y (y_move rfl) rfl rfl rfl ?_
  refine s_call (en_f rfl Try.call15) (awake_spec W _) rfl rfl rfl (fun _ => ?_)
  refine s_y (y_pickT rfl rfl) rfl rfl rfl ?_
  refine s_y (y_assign rfl) rfl rfl rfl ?_
  refine s_nil ?_
  refine f_then ?_
  refine c_ret ?_
  refine f_thenR ?_
  exact f_ret () (res1 rfl rfl) (fun w h => h.any)
set_option maxRecDepth 10000 in
set_option maxHeartbeats 40000000 in
theorem sheetStacks_4 (W : World) (l : Lay) (s a b pos : Int) (h : Gd l s) (hc : ¬ StackIn l s a b pos) (c1 : 0 ≤ a) (c2 : b ≤ s) (c3 : a < b) (c : pos < 0) : Spec Try.prog 8 #[l.v, .int .i64 s, .int .i64 a, .int .i64 b, .int .i64 pos] (K W []) (fun _ : Unit => .bool true) (fun _ => K W []) := by
  refine enter (args := [_, _, _, _, _]) Try.func8 rfl Try.ntmps8 rfl ?_
  refine c_seq ?_
  refine c_region ?_
  refine s_do (do_box rfl) rfl rfl rfl (fun b5 => ?_)
  refine s_y (y_assign rfl) rfl rfl rfl ?_
  refine s_nil ?_
  refine f_then ?_
  refine c_seq ?_
  refine c_seq ?_
  refine c_region ?_
  refine s_y (y_loadA Try.tab rfl rfl rfl rfl (cells_row0 0 rfl rfl)) rfl rfl rfl ?_
  refine s_y (y_move rfl) rfl rfl rfl ?_
  refine s_call (en_f rfl Try.call23) (wrong_0 W _ _ _ h) rfl rfl rfl (fun _ => ?_)
  refine s_y (y_F (y_neq rfl rfl) (by omega)) rfl rfl rfl ?_
  refine s_nil ?_
  refine f_then ?_
  refine c_condF rfl ?_
  refine c_skip ?_
  refine f_then ?_
  refine c_seq ?_
  refine c_region ?_
  refine s_y (y_loadA Try.tab rfl rfl rfl rfl (cells_row0 0 rfl rfl)) rfl rfl rfl ?_
  refine s_y (y_move rfl) rfl rfl rfl ?_
  refine s_y (y_move rfl) rfl rfl rfl ?_
  refine s_y (y_move rfl) rfl rfl rfl ?_
  refine s_y (y_move rfl) rfl rfl rfl ?_
  refine s_call (en_f rfl Try.call29) (Stack_range W _ _ _ _ _ _ h (by assumption)) rfl rfl rfl (fun _ => ?_)
  refine s_y (y_move rfl) rfl rfl rfl ?_
  refine s_y (y_extract rfl rfl) rfl rfl rfl ?_
  refine s_y (y_extract rfl rfl) rfl rfl rfl ?_
  refine s_y (y_extract rfl rfl) rfl rfl rfl ?_
  refine s_y (y_assign rfl) rfl rfl rfl ?_
  refine s_y (y_assign rfl) rfl rfl rfl ?_
  refine s_y (y_assign rfl) rfl rfl rfl ?_
  refine s_nil ?_
  refine f_then ?_
  refine c_seq ?_
  refine c_seq ?_
  refine c_quiet Try.mixed (by kernel_rfl) K.drew ?_
  refine q_y (y_move rfl) rfl rfl rfl ?_
  refine q_y (y_F (y_lss rfl rfl) (by omega)) rfl rfl rfl ?_
  refine q_y (y_move rfl) rfl rfl rfl ?_
  refine q_y (y_move rfl) rfl rfl rfl ?_
  refine q_y (y_move rfl) rfl rfl rfl ?_
  refine q_y (y_F (y_gtr rfl rfl) (by omega)) rfl rfl rfl ?_
  refine q_y (y_pickF rfl rfl) rfl rfl rfl ?_
  refine q_y (y_move rfl) rfl rfl rfl ?_
  refine q_y (y_move rfl) rfl rfl rfl ?_
  refine q_y (y_move rfl) rfl rfl rfl ?_
  refine q_y (y_F (y_geq rfl rfl) (by omega)) rfl rfl rfl ?_
  refine q_y (y_pickF rfl rfl) rfl rfl rfl ?_
  refine q_y (y_move rfl) rfl rfl rfl ?_
  refine q_y (y_move rfl) rfl rfl rfl ?_
  refine q_y (y_T (y_lss rfl rfl) (by assumption)) rfl rfl rfl ?_
  refine q_y (y_pickF rfl rfl) rfl rfl rfl ?_
  refine q_y (y_move rfl) rfl rfl rfl ?_
  iterate 7 refine q_skip rfl rfl rfl ?_
  refine q_y (y_pickT rfl rfl) rfl rfl rfl ?_
  refine q_y (y_move rfl) rfl rfl rfl ?_
  iterate 10 refine q_skip rfl rfl rfl ?_
  refine q_y (y_pickT rfl rfl) rfl rfl rfl ?_
  refine q_nil ?_
  refine f_then ?_
  refine c_condT rfl ?_
  refine c_seq ?_
  refine c_region ?_
  refine s_y (y_move rfl) rfl rfl rfl ?_
  refine s_y (y_T (y_eql rfl rfl) (by omega)) rfl rfl rfl ?_
  refine s_y (y_move rfl) rfl rfl rfl ?_
  refine s_y (y_move rfl) rfl rfl rfl ?_
  refine s_y (y_T (y_eql rfl rfl) (by omega)) rfl rfl rfl ?_
  refine s_y (y_pickT rfl rfl) rfl rfl rfl ?_
  refine s_y (y_move rfl) rfl rfl rfl ?_
  refine s_y (y_move rfl) rfl rfl rfl ?_
  refine s_y (y_T (y_eql rfl rfl) (by omega)) rfl rfl rfl ?_
  refine s_y (y_pickT rfl rfl) rfl rfl rfl ?_
  refine s_y (y_move rfl) rfl rfl rfl ?_
  refine s_call (en_f rfl Try.call15) (awake_spec W _) rfl rfl rfl (fun _ => ?_)
  refine s_y (y_pickT rfl rfl) rfl rfl rfl ?_
  refine s_y (y_assign rfl) rfl rfl rfl ?_
  refine s_nil ?_
  refine f_then ?_
  refine c_ret ?_
  refine f_thenR ?_
  exact f_ret () (res1 rfl rfl) (fun w h => h.any)
set_option maxRecDepth 10000 in
set_option maxHeartbeats 40000000 in
theorem sheetStacks_5 (W : World) (l : Lay) (s a b pos : Int) (h : Gd l s) (hc : ¬ StackIn l s a b pos) (c1 : 0 ≤ a) (c2 : b ≤ s) (c3 : a < b) (c4 : 0 ≤ pos) (c : np l ≤ pos) : Spec Try.prog 8 #[l.v, .int .i64 s, .int .i64 a, .int .i64 b, .int .i64 pos] (K W []) (fun _ : Unit => .bool true) (fun _ => K W []) := by
  have h1 := h.1.r; have h2 := h.1.c; have hp := np_bd h.1
  have e1 : l.r * l.c = np l := rfl
  refine enter (args := [_, _, _, _, _]) Try.func8 rfl Try.ntmps8 rfl ?_
  refine c_seq ?_
  refine c_region ?_
  refine s_do (do_box rfl) rfl rfl rfl (fun b5 => ?_)
  refine s_y (y_assign rfl) rfl rfl rfl ?_
  refine s_nil ?_
  refine f_then ?_
  refine c_seq ?_
  refine c_seq ?_
  refine c_region ?_
  refine s_y (y_loadA Try.tab rfl rfl rfl rfl (cells_row0 0 rfl rfl)) rfl rfl rfl ?_
  refine s_y (y_move rfl) rfl rfl rfl ?_
  refine s_call (en_f rfl Try.call23) (wrong_0 W _ _ _ h) rfl rfl rfl (fun _ => ?_)
  refine s_y (y_F (y_neq rfl rfl) (by omega)) rfl rfl rfl ?_
  refine s_nil ?_
  refine f_then ?_
  refine c_condF rfl ?_
  refine c_skip ?_
  refine f_then ?_
  refine c_seq ?_
  refine c_region ?_
  refine s_y (y_loadA Try.tab rfl rfl rfl rfl (cells_row0 0 rfl rfl)) rfl rfl rfl ?_
  refine s_y (y_move rfl) rfl rfl rfl ?_
  refine s_y (y_move rfl) rfl rfl rfl ?_
  refine s_y (y_move rfl) rfl rfl rfl ?_
  refine s_y (y_move rfl) rfl rfl rfl ?_
  refine s_call (en_f rfl Try.call29) (Stack_range W _ _ _ _ _ _ h (by assumption)) rfl rfl rfl (fun _ => ?_)
  refine s_y (y_move rfl) rfl rfl rfl ?_
  refine s_y (y_extract rfl rfl) rfl rfl rfl ?_
  refine s_y (y_extract rfl rfl) rfl rfl rfl ?_
  refine s_y (y_extract rfl rfl) rfl rfl rfl ?_
  refine s_y (y_assign rfl) rfl rfl rfl ?_
  refine s_y (y_assign rfl) rfl rfl rfl ?_
  refine s_y (y_assign rfl) rfl rfl rfl ?_
  refine s_nil ?_
  refine f_then ?_
  refine c_seq ?_
  refine c_seq ?_
  refine c_quiet Try.mixed (by kernel_rfl) K.drew ?_
  refine q_y (y_move rfl) rfl rfl rfl ?_
  refine q_y (y_F (y_lss rfl rfl) (by omega)) rfl rfl rfl ?_
  refine q_y (y_move rfl) rfl rfl rfl ?_
  refine q_y (y_move rfl) rfl rfl rfl ?_
  refine q_y (y_move rfl) rfl rfl rfl ?_
  refine q_y (y_F (y_gtr rfl rfl) (by omega)) rfl rfl rfl ?_
  refine q_y (y_pickF rfl rfl) rfl rfl rfl ?_
  refine q_y (y_move rfl) rfl rfl rfl ?_
  refine q_y (y_move rfl) rfl rfl rfl ?_
  refine q_y (y_move rfl) rfl rfl rfl ?_
  refine q_y (y_F (y_geq rfl rfl) (by omega)) rfl rfl rfl ?_
  refine q_y (y_pickF rfl rfl) rfl rfl rfl ?_
  refine q_y (y_move rfl) rfl rfl rfl ?_
  refine q_y (y_move rfl) rfl rfl rfl ?_
  refine q_y (y_F (y_lss rfl rfl) (by omega)) rfl rfl rfl ?_
  refine q_y (y_pickF rfl rfl) rfl rfl rfl ?_
  refine q_y (y_move rfl) rfl rfl rfl ?_
  refine q_y (y_move rfl) rfl rfl rfl ?_
  refine q_y (y_fieldAddr0 Try.tab rfl rfl rfl rfl rfl) rfl rfl rfl ?_
  refine q_y (y_load Try.tab rfl rfl (cell_row 0 rfl rfl)) rfl rfl rfl ?_
  refine q_y (y_fieldAddrB Try.tab 1 rfl rfl rfl rfl rfl) rfl rfl rfl ?_
  refine q_y (y_load Try.tab rfl rfl (cell_row 0 rfl rfl)) rfl rfl rfl ?_
  refine q_y (y_mul rfl rfl (by omega)) rfl rfl rfl ?_
  refine q_y (y_T (y_geq rfl rfl) (by assumption)) rfl rfl rfl ?_
  refine q_y (y_pickF rfl rfl) rfl rfl rfl ?_
  refine q_y (y_move rfl) rfl rfl rfl ?_
  iterate 10 refine q_skip rfl rfl rfl ?_
  refine q_y (y_pickT rfl rfl) rfl rfl rfl ?_
  refine q_nil ?_
  refine f_then ?_
  refine c_condT rfl ?_
  refine c_seq ?_
  refine c_region ?_
  refine s_y (y_move rfl) rfl rfl rfl ?_
  refine s_y (y_T (y_eql rfl rfl) (by omega)) rfl rfl rfl ?_
  refine s_y (y_move rfl) rfl rfl rfl ?_
  refine s_y (y_move rfl) rfl rfl rfl ?_
  refine s_y (y_T (y_eql rfl rfl) (by omega)) rfl rfl rfl ?_
  refine s_y (y_pickT rfl rfl) rfl rfl rfl ?_
  refine s_y (y_move rfl) rfl rfl rfl ?_
  refine s_y (y_move rfl) rfl rfl rfl ?_
  refine s_y (y_T (y_eql rfl rfl) (by omega)) rfl rfl rfl ?_
  refine s_y (y_pickT rfl rfl) rfl rfl rfl ?_
  refine s_y (y_move rfl) rfl rfl rfl ?_
  refine s_call (en_f rfl Try.call15) (awake_spec W _) rfl rfl rfl (fun _ => ?_)
  refine s_y (y_pickT rfl rfl) rfl rfl rfl ?_
  refine s_y (y_assign rfl) rfl rfl rfl ?_
  refine s_nil ?_
  refine f_then ?_
  refine c_ret ?_
  refine f_thenR ?_
  exact f_ret () (res1 rfl rfl) (fun w h => h.any)
set_option maxRecDepth 10000 in
set_option maxHeartbeats 40000000 in
theorem sheetStacks_6 (W : World) (l : Lay) (s a b pos : Int) (h : Gd l s) (hc : ¬ StackIn l s a b pos) (c1 : 0 ≤ a) (c2 : b ≤ s) (c3 : a < b) (c4 : 0 ≤ pos) (c5 : pos < np l) (c : ¬ a / l.m = (b - 1) / l.m) : Spec Try.prog 8 #[l.v, .int .i64 s, .int .i64 a, .int .i64 b, .int .i64 pos] (K W []) (fun _ : Unit => .bool true) (fun _ => K W []) := by
  have h1 := h.1.r; have h2 := h.1.c; have h3 := h.1.m; have hp := np_bd h.1; have h4 := h.2
  have e1 : l.r * l.c = np l := rfl
  refine enter (args := [_, _, _, _, _]) Try.func8 rfl Try.ntmps8 rfl ?_
  refine c_seq ?_
  refine c_region ?_
  refine s_do (do_box rfl) rfl rfl rfl (fun b5 => ?_)
  refine s_y (y_assign rfl) rfl rfl rfl ?_
  refine s_nil ?_
  refine f_then ?_
  refine c_seq ?_
  refine c_seq ?_
  refine c_region ?_
  refine s_y (y_loadA Try.tab rfl rfl rfl rfl (cells_row0 0 rfl rfl)) rfl rfl rfl ?_
  refine s_y (y_move rfl) rfl rfl rfl ?_
  refine s_call (en_f rfl Try.call23) (wrong_0 W _ _ _ h) rfl rfl rfl (fun _ => ?_)
  refine s_y (y_F (y_neq rfl rfl) (by omega)) rfl rfl rfl ?_
  refine s_nil ?_
  refine f_then ?_
  refine c_condF rfl ?_
  refine c_skip ?_
  refine f_then ?_
  refine c_seq ?_
  refine c_region ?_
  refine s_y (y_loadA Try.tab rfl rfl rfl rfl (cells_row0 0 rfl rfl)) rfl rfl rfl ?_
  refine s_y (y_move rfl) rfl rfl rfl ?_
  refine s_y (y_move rfl) rfl rfl rfl ?_
  refine s_y (y_move rfl) rfl rfl rfl ?_
  refine s_y (y_move rfl) rfl rfl rfl ?_
  refine s_call (en_f rfl Try.call29) (Stack_range W _ _ _ _ _ _ h (by assumption)) rfl rfl rfl (fun _ => ?_)
  refine s_y (y_move rfl) rfl rfl rfl ?_
  refine s_y (y_extract rfl rfl) rfl rfl rfl ?_
  refine s_y (y_extract rfl rfl) rfl rfl rfl ?_
  refine s_y (y_extract rfl rfl) rfl rfl rfl ?_
  refine s_y (y_assign rfl) rfl rfl rfl ?_
  refine s_y (y_assign rfl) rfl rfl rfl ?_
  refine s_y (y_assign rfl) rfl rfl rfl ?_
  refine s_nil ?_
  refine f_then ?_
  refine c_seq ?_
  refine c_seq ?_
  refine c_quiet Try.mixed (by kernel_rfl) K.drew ?_
  refine q_y (y_move rfl) rfl rfl rfl ?_
  refine q_y (y_F (y_lss rfl rfl) (by omega)) rfl rfl rfl ?_
  refine q_y (y_move rfl) rfl rfl rfl ?_
  refine q_y (y_move rfl) rfl rfl rfl ?_
  refine q_y (y_move rfl) rfl rfl rfl ?_
  refine q_y (y_F (y_gtr rfl rfl) (by omega)) rfl rfl rfl ?_
  refine q_y (y_pickF rfl rfl) rfl rfl rfl ?_
  refine q_y (y_move rfl) rfl rfl rfl ?_
  refine q_y (y_move rfl) rfl rfl rfl ?_
  refine q_y (y_move rfl) rfl rfl rfl ?_
  refine q_y (y_F (y_geq rfl rfl) (by omega)) rfl rfl rfl ?_
  refine q_y (y_pickF rfl rfl) rfl rfl rfl ?_
  refine q_y (y_move rfl) rfl rfl rfl ?_
  refine q_y (y_move rfl) rfl rfl rfl ?_
  refine q_y (y_F (y_lss rfl rfl) (by omega)) rfl rfl rfl ?_
  refine q_y (y_pickF rfl rfl) rfl rfl rfl ?_
  refine q_y (y_move rfl) rfl rfl rfl ?_
  refine q_y (y_move rfl) rfl rfl rfl ?_
  refine q_y (y_fieldAddr0 Try.tab rfl rfl rfl rfl rfl) rfl rfl rfl ?_
  refine q_y (y_load Try.tab rfl rfl (cell_row 0 rfl rfl)) rfl rfl rfl ?_
  refine q_y (y_fieldAddrB Try.tab 1 rfl rfl rfl rfl rfl) rfl rfl rfl ?_
  refine q_y (y_load Try.tab rfl rfl (cell_row 0 rfl rfl)) rfl rfl rfl ?_
  refine q_y (y_mul rfl rfl (by omega)) rfl rfl rfl ?_
  refine q_y (y_F (y_geq rfl rfl) (by omega)) rfl rfl rfl ?_
  refine q_y (y_pickF rfl rfl) rfl rfl rfl ?_
  refine q_y (y_move rfl) rfl rfl rfl ?_
  refine q_y (y_move rfl) rfl rfl rfl ?_
  refine q_y (y_fieldAddrB Try.tab 2 rfl rfl rfl rfl rfl) rfl rfl rfl ?_
  refine q_y (y_load Try.tab rfl rfl (cell_row 0 rfl rfl)) rfl rfl rfl ?_
  refine q_y (y_quo rfl rfl (by omega)) rfl rfl rfl ?_
  refine q_y (y_move rfl) rfl rfl rfl ?_
  refine q_y (y_sub rfl rfl (by omega)) rfl rfl rfl ?_
  refine q_y (y_fieldAddrB Try.tab 2 rfl rfl rfl rfl rfl) rfl rfl rfl ?_
  refine q_y (y_load Try.tab rfl rfl (cell_row 0 rfl rfl)) rfl rfl rfl ?_
  refine q_y (y_quo rfl rfl (by omega)) rfl rfl rfl ?_
  refine q_y (y_T (y_neq rfl rfl) (by assumption)) rfl rfl rfl ?_
  refine q_y (y_pickF rfl rfl) rfl rfl rfl ?_
  refine q_nil ?_
  refine f_then ?_
  refine c_condT rfl ?_
  refine c_seq ?_
  refine c_region ?_
  refine s_y (y_move rfl) rfl rfl rfl ?_
  refine s_y (y_T (y_eql rfl rfl) (by omega)) rfl rfl rfl ?_
  refine s_y (y_move rfl) rfl rfl rfl ?_
  refine s_y (y_move rfl) rfl rfl rfl ?_
  refine s_y (y_T (y_eql rfl rfl) (by omega)) rfl rfl rfl ?_
  refine s_y (y_pickT rfl rfl) rfl rfl rfl ?_
  refine s_y (y_move rfl) rfl rfl rfl ?_
  refine s_y (y_move rfl) rfl rfl rfl ?_
  refine s_y (y_T (y_eql rfl rfl) (by omega)) rfl rfl rfl ?_
  refine s_y (y_pickT rfl rfl) rfl rfl rfl ?_
  refine s_y (y_move rfl) rfl rfl rfl ?_
  refine s_call (en_f rfl Try.call15) (awake_spec W _) rfl rfl rfl (fun _ => ?_)
  refine s_y (y_pickT rfl rfl) rfl rfl rfl ?_
  refine s_y (y_assign rfl) rfl rfl rfl ?_
  refine s_nil ?_
  refine f_then ?_
  refine c_ret ?_
  refine f_thenR ?_
  exact f_ret () (res1 rfl rfl) (fun w h => h.any)
set_option maxHeartbeats 8000000 in
theorem sheetStacks_7 (W : World) (l : Lay) (s a b pos : Int) (h : ¬ Gd l s) : Spec Try.prog 8 #[l.v, .int .i64 s, .int .i64 a, .int .i64 b, .int .i64 pos] (K W []) (fun _ : Unit => .bool true) (fun _ => K W []) := by
  have hw : wrg l s ≠ 0 := fun e => h (wrg_0.1 e)
  refine enter (args := [_, _, _, _, _]) Try.func8 rfl Try.ntmps8 rfl ?_
  refine c_seq ?_
  refine c_region ?_
  refine s_do (do_box rfl) rfl rfl rfl (fun b5 => ?_)
  refine s_y (y_assign rfl) rfl rfl rfl ?_
  refine s_nil ?_
  refine f_then ?_
  refine c_seq ?_
  refine c_seq ?_
  refine c_region ?_
  refine s_y (y_loadA Try.tab rfl rfl rfl rfl (cells_row0 0 rfl rfl)) rfl rfl rfl ?_
  refine s_y (y_move rfl) rfl rfl rfl ?_
  refine s_call (en_f rfl Try.call23) (wrong_spec W _ _ _) rfl rfl rfl (fun _ => ?_)
  refine s_y (y_T (y_neq rfl rfl) (by assumption)) rfl rfl rfl ?_
  refine s_nil ?_
  refine f_then ?_
  refine c_condT rfl ?_
  refine c_seq ?_
  refine c_region ?_
  refine s_call (en_f rfl Try.call15) (awake_spec W _) rfl rfl rfl (fun _ => ?_)
  refine s_y (y_assign rfl) rfl rfl rfl ?_
  refine s_nil ?_
  refine f_then ?_
  refine c_ret ?_
  refine f_thenR ?_
  exact f_ret () (res1 rfl rfl) (fun w h => h.any)
theorem sheetStacks_walk (W : World) (l : Lay) (s a b pos : Int) : Spec Try.prog 8 #[l.v, .int .i64 s, .int .i64 a, .int .i64 b, .int .i64 pos] (K W []) (fun _ : Unit => .bool true) (fun _ => K W []) := by
  by_cases h : Gd l s
  · by_cases hc : StackIn l s a b pos
    · exact sheetStacks_ok W l s a b pos h hc
    by_cases c1 : a < 0
    · exact sheetStacks_1 W l s a b pos h hc c1
    by_cases c2 : s < b
    · exact sheetStacks_2 W l s a b pos h hc (by omega) c2
    by_cases c3 : b ≤ a
    · exact sheetStacks_3 W l s a b pos h hc (by omega) (by omega) c3
    by_cases c4 : pos < 0
    · exact sheetStacks_4 W l s a b pos h hc (by omega) (by omega) (by omega) c4
    by_cases c5 : np l ≤ pos
    · exact sheetStacks_5 W l s a b pos h hc (by omega) (by omega) (by omega) (by omega) c5
    exact sheetStacks_6 W l s a b pos h hc (by omega) (by omega) (by omega) (by omega) (by omega) fun e => hc ⟨by omega, by omega, by omega, by omega, e⟩
  · exact sheetStacks_7 W l s a b pos h
end Go.KL
end

section
/- SheetStacks: for every input the law returns true, and its arguments read as they did. No condition. -/
namespace Go.Proofs.Ytelpaildbpdppaa
open Go.ChangeShapes Go.WideShapes Go.RowKit Go.KL
set_option linter.unusedVariables false
theorem own : ownKnob Try.prog.godebug = none := by kernel_rfl
set_option maxRecDepth 100000 in
theorem sheetStacks_lifted (os : Os) (started : os.Started) (H : Type) (enc : TypeId × Value → H) :
    ReturnsInHanded {} Try.checked os 8 .any (Rows.sheetStacksSpec.pre6 enc Try.prog Try.f8 Rows.sheetStacksRow.domain false) (Rows.sheetStacksSpec.post enc Try.prog Try.f8 false true false false) := by
  refine returnsInHanded_of_change (C := Try.checked) own started (by kernel_rfl) Try.func8
    (ChangeSpec.witness6 (enc := enc) (C := Try.checked) false ⟨#[], #[.agg #[.int .i64 0, .int .i64 0, .int .i64 0, .int .i64 0, .bool false], .int .i64 0, .int .i64 0, .int .i64 0, .int .i64 0], []⟩ 8 (by kernel_rfl) (by kernel_rfl) (by kernel_rfl) (by kernel_rfl)) ?_
  intro W base args ds gs before hval hW hcnd _
  obtain ⟨p, q, hA, hV, rfl, hfz, hnd⟩ := id hW
  obtain ⟨rfl, rfl⟩ := trodVars_none hV
  obtain ⟨v0, vs0, d0, ds0, p0, q0, e0, rfl, rfl, h0, r0⟩ := trodAll_cons hA
  obtain ⟨v1, vs1, d1, ds1, p1, q1, rfl, rfl, rfl, h1, r1⟩ := trodAll_cons r0
  obtain ⟨v2, vs2, d2, ds2, p2, q2, rfl, rfl, rfl, h2, r2⟩ := trodAll_cons r1
  obtain ⟨v3, vs3, d3, ds3, p3, q3, rfl, rfl, rfl, h3, r3⟩ := trodAll_cons r2
  obtain ⟨v4, vs4, d4, ds4, p4, q4, rfl, rfl, rfl, h4, r4⟩ := trodAll_cons r3
  obtain ⟨rfl, rfl, rfl⟩ := trodAll_nil r4
  obtain rfl : args = #[v0, v1, v2, v3, v4] := by cases args; simp_all
  obtain ⟨l0, rfl, hr0, hc0, hm0, hb0⟩ := arg23 (hval 0 23 _ rfl rfl) h0
  obtain ⟨k1, rfl, hk1⟩ := arg3 (hval 1 3 _ rfl rfl) h1
  obtain ⟨k2, rfl, hk2⟩ := arg3 (hval 2 3 _ rfl rfl) h2
  obtain ⟨k3, rfl, hk3⟩ := arg3 (hval 3 3 _ rfl rfl) h3
  obtain ⟨k4, rfl, hk4⟩ := arg3 (hval 4 3 _ rfl rfl) h4
  refine ((sheetStacks_walk W l0 k1 k2 k3 k4) W (K.refl W)).mono ?_
  rintro e W' ⟨x, rfl, hk⟩
  exact ⟨_, rfl, law_post (t := 4) laidOut (by decide +kernel) rfl rfl u4 hW rfl hk.toExt⟩
/-- The statement. -/
theorem sheetStacks_holds : Rows.SheetStacksSaid :=
  OpenClaim.holds_of_wide 8 Try.f8 rfl rfl rfl rfl rfl rfl rfl ⟨rfl, rfl, rfl, rfl, rfl⟩ rfl rfl rfl rfl rfl (by kernel_rfl) Try.func8 (by kernel_rfl)
    (of_decide_eq_true (by kernel_rfl)) (by unfold Func.isWrapper; first | (rw [if_pos (by decide +kernel)]; kernel_rfl) | (rw [if_neg (by decide +kernel)]; exact ⟨rfl, rfl⟩))
    (fun os started H enc _ => sheetStacks_lifted os started H enc)
end Go.Proofs.Ytelpaildbpdppaa
end
