/- SheetNotes: for every input the law returns true, and its arguments read as they did. No condition. -/
import Derived.Test.YtelpaildbpdppaaRows
import Derived.JoinedOf
import Derived.Handed
import Derived.Test.YtelpaildbpdppaaL4
section
/- The walk of SheetNotes. -/
namespace Go.KL
open Go.Proofs
attribute [local irreducible] SC St Fin Sq Sw Ylds Doos Sets Enters Spec CellIs CellsAre Then Ret Rnd Chn resOK ints bools recs arr
set_option maxRecDepth 10000 in
set_option maxHeartbeats 8000000 in
theorem sheetNotes_walk (W : World) (l : Lay) (s sh pos note : Int) : Spec Try.prog 6 #[l.v, .int .i64 s, cellV sh pos, .int .i64 note] (K W []) (fun _ : Unit => .bool true) (fun _ => K W []) := by
  refine enter (args := [_, _, _, _]) Try.func6 rfl Try.ntmps6 rfl ?_
  by_cases h : Gd l s
  · have h1 := h.1.r; have h2 := h.1.c; have h4 := h.2
    have q2 := mul_bd (a := s) (b := l.r) (A := 1048576) (B := 16) (by omega) (by omega)
    have q3 := mul_bd (a := s * l.r) (b := l.c) (A := 1048576 * 16) (B := 16) (by omega) (by omega)
    have e1 : s * l.r * l.c = s * np l := Int.mul_assoc _ _ _
    by_cases hn : 0 ≤ note ∧ note < s * np l
    · have hcc := cellF_in h hn
      by_cases hc : CellIn l s sh pos
      · refine c_seq ?_
        refine c_region ?_
        refine s_do (do_box rfl) rfl rfl rfl (fun b4 => ?_)
        refine s_do (do_box rfl) rfl rfl rfl (fun b6 => ?_)
        refine s_y (y_assign rfl) rfl rfl rfl ?_
        refine s_nil ?_
        refine f_then ?_
        refine c_seq ?_
        refine c_seq ?_
        refine c_region ?_
        refine s_y (y_loadA Try.tab rfl rfl rfl rfl (cells_row0 1 rfl rfl)) rfl rfl rfl ?_
        refine s_y (y_move rfl) rfl rfl rfl ?_
        refine s_call (en_f rfl Try.call23) (wrong_0 W _ _ _ h) rfl rfl rfl (fun _ => ?_)
        refine s_y (y_F (y_neq rfl rfl) (by omega)) rfl rfl rfl ?_
        refine s_nil ?_
        refine f_then ?_
        refine c_condF rfl ?_
        refine c_skip ?_
        refine f_then ?_
        refine c_seq ?_
        refine c_region ?_
        refine s_y (y_loadA Try.tab rfl rfl rfl rfl (cells_row0 1 rfl rfl)) rfl rfl rfl ?_
        refine s_y (y_move rfl) rfl rfl rfl ?_
        refine s_call (en_f rfl Try.call24) (Notes_ok W _ _ _ h) rfl rfl rfl (fun _ => ?_)
        refine s_y (y_move rfl) rfl rfl rfl ?_
        refine s_y (y_extract rfl rfl) rfl rfl rfl ?_
        refine s_y (y_extract rfl rfl) rfl rfl rfl ?_
        refine s_y (y_assign rfl) rfl rfl rfl ?_
        refine s_y (y_assign rfl) rfl rfl rfl ?_
        refine s_nil ?_
        refine f_then ?_
        refine c_seq ?_
        refine c_region ?_
        refine s_y (y_loadA Try.tab rfl rfl rfl rfl (cells_row0 1 rfl rfl)) rfl rfl rfl ?_
        refine s_y (y_move rfl) rfl rfl rfl ?_
        refine s_y (y_loadA Try.tab rfl rfl rfl rfl (cells_row0 0 rfl rfl)) rfl rfl rfl ?_
        refine s_call (en_f rfl Try.call21) (Note_ok W _ _ _ _ _ h hc) rfl rfl rfl (fun _ => ?_)
        refine s_y (y_move rfl) rfl rfl rfl ?_
        refine s_y (y_extract rfl rfl) rfl rfl rfl ?_
        refine s_y (y_extract rfl rfl) rfl rfl rfl ?_
        refine s_y (y_assign rfl) rfl rfl rfl ?_
        refine s_y (y_assign rfl) rfl rfl rfl ?_
        refine s_nil ?_
        refine f_then ?_
        refine c_seq ?_
        refine c_region ?_
        refine s_y (y_loadA Try.tab rfl rfl rfl rfl (cells_row0 1 rfl rfl)) rfl rfl rfl ?_
        refine s_y (y_move rfl) rfl rfl rfl ?_
        refine s_y (y_move rfl) rfl rfl rfl ?_
        refine s_call (en_f rfl Try.call22) (Cell_okF W _ _ _ _ h hn) rfl rfl rfl (fun _ => ?_)
        refine s_y (y_move rfl) rfl rfl rfl ?_
        refine s_y (y_extract rfl rfl) rfl rfl rfl ?_
        refine s_y (y_extract rfl rfl) rfl rfl rfl ?_
        refine s_do (do_alloc Try.tab rfl) rfl rfl rfl (fun b13 => ?_)
        refine s_set (set_box Try.tab 0 rfl rfl rfl rfl rfl rfl rfl) rfl rfl ?_
        refine s_y (y_assign rfl) rfl rfl rfl ?_
        refine s_nil ?_
        refine f_then ?_
        refine c_seq ?_
        refine c_seq ?_
        refine c_region ?_
        refine s_y (y_move rfl) rfl rfl rfl ?_
        refine s_y (y_move rfl) rfl rfl rfl ?_
        refine s_y (y_fieldAddr0 Try.tab rfl rfl rfl rfl rfl) rfl rfl rfl ?_
        refine s_y (y_load Try.tab rfl rfl (cell_row 2 rfl rfl)) rfl rfl rfl ?_
        refine s_y (y_mul rfl rfl (by omega)) rfl rfl rfl ?_
        refine s_y (y_fieldAddrB Try.tab 1 rfl rfl rfl rfl rfl) rfl rfl rfl ?_
        refine s_y (y_load Try.tab rfl rfl (cell_row 2 rfl rfl)) rfl rfl rfl ?_
        refine s_y (y_mul rfl rfl (by omega)) rfl rfl rfl ?_
        refine s_y (y_F (y_neq rfl rfl) (by omega)) rfl rfl rfl ?_
        refine s_y (y_move rfl) rfl rfl rfl ?_
        refine s_y (y_move rfl) rfl rfl rfl ?_
        refine s_y (y_F (y_neq rfl rfl) (by omega)) rfl rfl rfl ?_
        refine s_y (y_pickF rfl rfl) rfl rfl rfl ?_
        refine s_nil ?_
        refine f_then ?_
        refine c_condF rfl ?_
        refine c_skip ?_
        refine f_then ?_
        refine c_seq ?_
        refine c_seq ?_
        refine c_region ?_
        refine s_y (y_loadA Try.tab rfl rfl rfl rfl (cells_row0 2 rfl rfl)) rfl rfl rfl ?_
        refine s_y (y_move rfl) rfl rfl rfl ?_
        refine s_y (y_loadA Try.tab rfl rfl rfl rfl (cells_row0 1 rfl rfl)) rfl rfl rfl ?_
        refine s_call (en_f rfl Try.call25) (is_yes W _ _ _ _ _ h (by assumption)) rfl rfl rfl (fun _ => ?_)
        refine s_y (y_notT rfl) rfl rfl rfl ?_
        refine s_nil ?_
        refine f_then ?_
        refine c_condF rfl ?_
        refine c_seq ?_
        refine c_region ?_
        refine s_y (y_move rfl) rfl rfl rfl ?_
        refine s_y (y_loadA Try.tab rfl rfl rfl rfl (cells_row0 2 rfl rfl)) rfl rfl rfl ?_
        refine s_y (y_move rfl) rfl rfl rfl ?_
        refine s_y (y_loadA Try.tab rfl rfl rfl rfl (cells_row0 1 rfl rfl)) rfl rfl rfl ?_
        refine s_call (en_f rfl Try.call26) (rnote_spec W _ _ _ _ _ h.1 h.2 hc) rfl rfl rfl (fun _ => ?_)
        refine s_y (y_F (y_neq rfl rfl) (by omega)) rfl rfl rfl ?_
        refine s_y (y_move rfl) rfl rfl rfl ?_
        refine s_y (y_move rfl) rfl rfl rfl ?_
        refine s_y (y_F (y_neq rfl rfl) (by omega)) rfl rfl rfl ?_
        refine s_y (y_pickF rfl rfl) rfl rfl rfl ?_
        refine s_nil ?_
        refine f_then ?_
        refine c_condF rfl ?_
        refine c_skip ?_
        refine f_then ?_
        refine c_seq ?_
        refine c_seq ?_
        refine c_region ?_
        refine s_y (y_move rfl) rfl rfl rfl ?_
        refine s_y (y_F (y_lss rfl rfl) (by omega)) rfl rfl rfl ?_
        refine s_y (y_move rfl) rfl rfl rfl ?_
        refine s_y (y_move rfl) rfl rfl rfl ?_
        refine s_y (y_move rfl) rfl rfl rfl ?_
        refine s_y (y_F (y_geq rfl rfl) (by omega)) rfl rfl rfl ?_
        refine s_y (y_pickF rfl rfl) rfl rfl rfl ?_
        refine s_nil ?_
        refine f_then ?_
        refine c_condF rfl ?_
        refine c_skip ?_
        refine f_then ?_
        refine c_seq ?_
        refine c_region ?_
        refine s_y (y_move rfl) rfl rfl rfl ?_
        refine s_y (y_T (y_eql rfl rfl) (by omega)) rfl rfl rfl ?_
        refine s_y (y_move rfl) rfl rfl rfl ?_
        refine s_y (y_loadA Try.tab rfl rfl rfl rfl (cells_row0 2 rfl rfl)) rfl rfl rfl ?_
        refine s_y (y_move rfl) rfl rfl rfl ?_
        refine s_y (y_loadA Try.tab rfl rfl rfl rfl (cells_row0 0 rfl rfl)) rfl rfl rfl ?_
        refine s_call (en_f rfl Try.call25) (is_yes W _ _ _ _ _ h (by assumption)) rfl rfl rfl (fun _ => ?_)
        refine s_y (y_pickT rfl rfl) rfl rfl rfl ?_
        refine s_y (y_move rfl) rfl rfl rfl ?_
        refine s_y (y_loadA Try.tab rfl rfl rfl rfl (cells_row0 2 rfl rfl)) rfl rfl rfl ?_
        refine s_y (y_move rfl) rfl rfl rfl ?_
        refine s_y (y_loadA Try.tab rfl rfl rfl rfl (cells_row0 0 rfl rfl)) rfl rfl rfl ?_
        refine s_call (en_f rfl Try.call26) (rNote_back W _ _ _ _ h hn) rfl rfl rfl (fun _ => ?_)
        refine s_y (y_move rfl) rfl rfl rfl ?_
        refine s_y (y_T (y_eql rfl rfl) (by omega)) rfl rfl rfl ?_
        refine s_y (y_pickT rfl rfl) rfl rfl rfl ?_
        refine s_y (y_move rfl) rfl rfl rfl ?_
        refine s_call (en_f rfl Try.call15) (awake_spec W _) rfl rfl rfl (fun _ => ?_)
        refine s_y (y_pickT rfl rfl) rfl rfl rfl ?_
        refine s_y (y_assign rfl) rfl rfl rfl ?_
        refine s_nil ?_
        refine f_then ?_
        refine c_ret ?_
        exact f_ret () (res1 rfl rfl) (fun w h => h.any)
      · refine c_seq ?_
        refine c_region ?_
        refine s_do (do_box rfl) rfl rfl rfl (fun b4 => ?_)
        refine s_do (do_box rfl) rfl rfl rfl (fun b6 => ?_)
        refine s_y (y_assign rfl) rfl rfl rfl ?_
        refine s_nil ?_
        refine f_then ?_
        refine c_seq ?_
        refine c_seq ?_
        refine c_region ?_
        refine s_y (y_loadA Try.tab rfl rfl rfl rfl (cells_row0 1 rfl rfl)) rfl rfl rfl ?_
        refine s_y (y_move rfl) rfl rfl rfl ?_
        refine s_call (en_f rfl Try.call23) (wrong_0 W _ _ _ h) rfl rfl rfl (fun _ => ?_)
        refine s_y (y_F (y_neq rfl rfl) (by omega)) rfl rfl rfl ?_
        refine s_nil ?_
        refine f_then ?_
        refine c_condF rfl ?_
        refine c_skip ?_
        refine f_then ?_
        refine c_seq ?_
        refine c_region ?_
        refine s_y (y_loadA Try.tab rfl rfl rfl rfl (cells_row0 1 rfl rfl)) rfl rfl rfl ?_
        refine s_y (y_move rfl) rfl rfl rfl ?_
        refine s_call (en_f rfl Try.call24) (Notes_ok W _ _ _ h) rfl rfl rfl (fun _ => ?_)
        refine s_y (y_move rfl) rfl rfl rfl ?_
        refine s_y (y_extract rfl rfl) rfl rfl rfl ?_
        refine s_y (y_extract rfl rfl) rfl rfl rfl ?_
        refine s_y (y_assign rfl) rfl rfl rfl ?_
        refine s_y (y_assign rfl) rfl rfl rfl ?_
        refine s_nil ?_
        refine f_then ?_
        refine c_seq ?_
        refine c_region ?_
        refine s_y (y_loadA Try.tab rfl rfl rfl rfl (cells_row0 1 rfl rfl)) rfl rfl rfl ?_
        refine s_y (y_move rfl) rfl rfl rfl ?_
        refine s_y (y_loadA Try.tab rfl rfl rfl rfl (cells_row0 0 rfl rfl)) rfl rfl rfl ?_
        refine s_call (en_f rfl Try.call21) (Note_range W _ _ _ _ _ h hc) rfl rfl rfl (fun _ => ?_)
        refine s_y (y_move rfl) rfl rfl rfl ?_
        refine s_y (y_extract rfl rfl) rfl rfl rfl ?_
        refine s_y (y_extract rfl rfl) rfl rfl rfl ?_
        refine s_y (y_assign rfl) rfl rfl rfl ?_
        refine s_y (y_assign rfl) rfl rfl rfl ?_
        refine s_nil ?_
        refine f_then ?_
        refine c_seq ?_
        refine c_region ?_
        refine s_y (y_loadA Try.tab rfl rfl rfl rfl (cells_row0 1 rfl rfl)) rfl rfl rfl ?_
        refine s_y (y_move rfl) rfl rfl rfl ?_
        refine s_y (y_move rfl) rfl rfl rfl ?_
        refine s_call (en_f rfl Try.call22) (Cell_okF W _ _ _ _ h hn) rfl rfl rfl (fun _ => ?_)
        refine s_y (y_move rfl) rfl rfl rfl ?_
        refine s_y (y_extract rfl rfl) rfl rfl rfl ?_
        refine s_y (y_extract rfl rfl) rfl rfl rfl ?_
        refine s_do (do_alloc Try.tab rfl) rfl rfl rfl (fun b13 => ?_)
        refine s_set (set_box Try.tab 0 rfl rfl rfl rfl rfl rfl rfl) rfl rfl ?_
        refine s_y (y_assign rfl) rfl rfl rfl ?_
        refine s_nil ?_
        refine f_then ?_
        refine c_seq ?_
        refine c_seq ?_
        refine c_region ?_
        refine s_y (y_move rfl) rfl rfl rfl ?_
        refine s_y (y_move rfl) rfl rfl rfl ?_
        refine s_y (y_fieldAddr0 Try.tab rfl rfl rfl rfl rfl) rfl rfl rfl ?_
        refine s_y (y_load Try.tab rfl rfl (cell_row 2 rfl rfl)) rfl rfl rfl ?_
        refine s_y (y_mul rfl rfl (by omega)) rfl rfl rfl ?_
        refine s_y (y_fieldAddrB Try.tab 1 rfl rfl rfl rfl rfl) rfl rfl rfl ?_
        refine s_y (y_load Try.tab rfl rfl (cell_row 2 rfl rfl)) rfl rfl rfl ?_
        refine s_y (y_mul rfl rfl (by omega)) rfl rfl rfl ?_
        refine s_y (y_F (y_neq rfl rfl) (by omega)) rfl rfl rfl ?_
        refine s_y (y_move rfl) rfl rfl rfl ?_
        refine s_y (y_move rfl) rfl rfl rfl ?_
        refine s_y (y_F (y_neq rfl rfl) (by omega)) rfl rfl rfl ?_
        refine s_y (y_pickF rfl rfl) rfl rfl rfl ?_
        refine s_nil ?_
        refine f_then ?_
        refine c_condF rfl ?_
        refine c_skip ?_
        refine f_then ?_
        refine c_seq ?_
        refine c_seq ?_
        refine c_region ?_
        refine s_y (y_loadA Try.tab rfl rfl rfl rfl (cells_row0 2 rfl rfl)) rfl rfl rfl ?_
        refine s_y (y_move rfl) rfl rfl rfl ?_
        refine s_y (y_loadA Try.tab rfl rfl rfl rfl (cells_row0 1 rfl rfl)) rfl rfl rfl ?_
        refine s_call (en_f rfl Try.call25) (is_no W _ _ _ _ _ h (by assumption)) rfl rfl rfl (fun _ => ?_)
        refine s_y (y_notF rfl) rfl rfl rfl ?_
        refine s_nil ?_
        refine f_then ?_
        refine c_condT rfl ?_
        refine c_seq ?_
        refine c_region ?_
        refine s_y (y_move rfl) rfl rfl rfl ?_
        refine s_y (y_F (y_neq rfl rfl) (by omega)) rfl rfl rfl ?_
        refine s_y (y_move rfl) rfl rfl rfl ?_
        refine s_y (y_move rfl) rfl rfl rfl ?_
        refine s_y (y_F (y_neq rfl rfl) (by omega)) rfl rfl rfl ?_
        refine s_y (y_pickF rfl rfl) rfl rfl rfl ?_
        refine s_nil ?_
        refine f_then ?_
        refine c_condF rfl ?_
        refine c_skip ?_
        refine f_then ?_
        refine c_seq ?_
        refine c_seq ?_
        refine c_region ?_
        refine s_y (y_move rfl) rfl rfl rfl ?_
        refine s_y (y_F (y_lss rfl rfl) (by omega)) rfl rfl rfl ?_
        refine s_y (y_move rfl) rfl rfl rfl ?_
        refine s_y (y_move rfl) rfl rfl rfl ?_
        refine s_y (y_move rfl) rfl rfl rfl ?_
        refine s_y (y_F (y_geq rfl rfl) (by omega)) rfl rfl rfl ?_
        refine s_y (y_pickF rfl rfl) rfl rfl rfl ?_
        refine s_nil ?_
        refine f_then ?_
        refine c_condF rfl ?_
        refine c_skip ?_
        refine f_then ?_
        refine c_seq ?_
        refine c_region ?_
        refine s_y (y_move rfl) rfl rfl rfl ?_
        refine s_y (y_T (y_eql rfl rfl) (by omega)) rfl rfl rfl ?_
        refine s_y (y_move rfl) rfl rfl rfl ?_
        refine s_y (y_loadA Try.tab rfl rfl rfl rfl (cells_row0 2 rfl rfl)) rfl rfl rfl ?_
        refine s_y (y_move rfl) rfl rfl rfl ?_
        refine s_y (y_loadA Try.tab rfl rfl rfl rfl (cells_row0 0 rfl rfl)) rfl rfl rfl ?_
        refine s_call (en_f rfl Try.call25) (is_yes W _ _ _ _ _ h (by assumption)) rfl rfl rfl (fun _ => ?_)
        refine s_y (y_pickT rfl rfl) rfl rfl rfl ?_
        refine s_y (y_move rfl) rfl rfl rfl ?_
        refine s_y (y_loadA Try.tab rfl rfl rfl rfl (cells_row0 2 rfl rfl)) rfl rfl rfl ?_
        refine s_y (y_move rfl) rfl rfl rfl ?_
        refine s_y (y_loadA Try.tab rfl rfl rfl rfl (cells_row0 0 rfl rfl)) rfl rfl rfl ?_
        refine s_call (en_f rfl Try.call26) (rNote_back W _ _ _ _ h hn) rfl rfl rfl (fun _ => ?_)
        refine s_y (y_move rfl) rfl rfl rfl ?_
        refine s_y (y_T (y_eql rfl rfl) (by omega)) rfl rfl rfl ?_
        refine s_y (y_pickT rfl rfl) rfl rfl rfl ?_
        refine s_y (y_move rfl) rfl rfl rfl ?_
        refine s_call (en_f rfl Try.call15) (awake_spec W _) rfl rfl rfl (fun _ => ?_)
        refine s_y (y_pickT rfl rfl) rfl rfl rfl ?_
        refine s_y (y_assign rfl) rfl rfl rfl ?_
        refine s_nil ?_
        refine f_then ?_
        refine c_ret ?_
        exact f_ret () (res1 rfl rfl) (fun w h => h.any)
    · rcases (show note < 0 ∨ (0 ≤ note ∧ s * np l ≤ note) by omega) with hg | hg
      · by_cases hc : CellIn l s sh pos
        · refine c_seq ?_
          refine c_region ?_
          refine s_do (do_box rfl) rfl rfl rfl (fun b4 => ?_)
          refine s_do (do_box rfl) rfl rfl rfl (fun b6 => ?_)
          refine s_y (y_assign rfl) rfl rfl rfl ?_
          refine s_nil ?_
          refine f_then ?_
          refine c_seq ?_
          refine c_seq ?_
          refine c_region ?_
          refine s_y (y_loadA Try.tab rfl rfl rfl rfl (cells_row0 1 rfl rfl)) rfl rfl rfl ?_
          refine s_y (y_move rfl) rfl rfl rfl ?_
          refine s_call (en_f rfl Try.call23) (wrong_0 W _ _ _ h) rfl rfl rfl (fun _ => ?_)
          refine s_y (y_F (y_neq rfl rfl) (by omega)) rfl rfl rfl ?_
          refine s_nil ?_
          refine f_then ?_
          refine c_condF rfl ?_
          refine c_skip ?_
          refine f_then ?_
          refine c_seq ?_
          refine c_region ?_
          refine s_y (y_loadA Try.tab rfl rfl rfl rfl (cells_row0 1 rfl rfl)) rfl rfl rfl ?_
          refine s_y (y_move rfl) rfl rfl rfl ?_
          refine s_call (en_f rfl Try.call24) (Notes_ok W _ _ _ h) rfl rfl rfl (fun _ => ?_)
          refine s_y (y_move rfl) rfl rfl rfl ?_
          refine s_y (y_extract rfl rfl) rfl rfl rfl ?_
          refine s_y (y_extract rfl rfl) rfl rfl rfl ?_
          refine s_y (y_assign rfl) rfl rfl rfl ?_
          refine s_y (y_assign rfl) rfl rfl rfl ?_
          refine s_nil ?_
          refine f_then ?_
          refine c_seq ?_
          refine c_region ?_
          refine s_y (y_loadA Try.tab rfl rfl rfl rfl (cells_row0 1 rfl rfl)) rfl rfl rfl ?_
          refine s_y (y_move rfl) rfl rfl rfl ?_
          refine s_y (y_loadA Try.tab rfl rfl rfl rfl (cells_row0 0 rfl rfl)) rfl rfl rfl ?_
          refine s_call (en_f rfl Try.call21) (Note_ok W _ _ _ _ _ h hc) rfl rfl rfl (fun _ => ?_)
          refine s_y (y_move rfl) rfl rfl rfl ?_
          refine s_y (y_extract rfl rfl) rfl rfl rfl ?_
          refine s_y (y_extract rfl rfl) rfl rfl rfl ?_
          refine s_y (y_assign rfl) rfl rfl rfl ?_
          refine s_y (y_assign rfl) rfl rfl rfl ?_
          refine s_nil ?_
          refine f_then ?_
          refine c_seq ?_
          refine c_region ?_
          refine s_y (y_loadA Try.tab rfl rfl rfl rfl (cells_row0 1 rfl rfl)) rfl rfl rfl ?_
          refine s_y (y_move rfl) rfl rfl rfl ?_
          refine s_y (y_move rfl) rfl rfl rfl ?_
          refine s_call (en_f rfl Try.call22) (Cell_range W _ _ _ _ h hn) rfl rfl rfl (fun _ => ?_)
          refine s_y (y_move rfl) rfl rfl rfl ?_
          refine s_y (y_extract rfl rfl) rfl rfl rfl ?_
          refine s_y (y_extract rfl rfl) rfl rfl rfl ?_
          refine s_do (do_alloc Try.tab rfl) rfl rfl rfl (fun b13 => ?_)
          refine s_set (set_box Try.tab 0 rfl rfl rfl rfl rfl rfl rfl) rfl rfl ?_
          refine s_y (y_assign rfl) rfl rfl rfl ?_
          refine s_nil ?_
          refine f_then ?_
          refine c_seq ?_
          refine c_seq ?_
          refine c_region ?_
          refine s_y (y_move rfl) rfl rfl rfl ?_
          refine s_y (y_move rfl) rfl rfl rfl ?_
          refine s_y (y_fieldAddr0 Try.tab rfl rfl rfl rfl rfl) rfl rfl rfl ?_
          refine s_y (y_load Try.tab rfl rfl (cell_row 2 rfl rfl)) rfl rfl rfl ?_
          refine s_y (y_mul rfl rfl (by omega)) rfl rfl rfl ?_
          refine s_y (y_fieldAddrB Try.tab 1 rfl rfl rfl rfl rfl) rfl rfl rfl ?_
          refine s_y (y_load Try.tab rfl rfl (cell_row 2 rfl rfl)) rfl rfl rfl ?_
          refine s_y (y_mul rfl rfl (by omega)) rfl rfl rfl ?_
          refine s_y (y_F (y_neq rfl rfl) (by omega)) rfl rfl rfl ?_
          refine s_y (y_move rfl) rfl rfl rfl ?_
          refine s_y (y_move rfl) rfl rfl rfl ?_
          refine s_y (y_F (y_neq rfl rfl) (by omega)) rfl rfl rfl ?_
          refine s_y (y_pickF rfl rfl) rfl rfl rfl ?_
          refine s_nil ?_
          refine f_then ?_
          refine c_condF rfl ?_
          refine c_skip ?_
          refine f_then ?_
          refine c_seq ?_
          refine c_seq ?_
          refine c_region ?_
          refine s_y (y_loadA Try.tab rfl rfl rfl rfl (cells_row0 2 rfl rfl)) rfl rfl rfl ?_
          refine s_y (y_move rfl) rfl rfl rfl ?_
          refine s_y (y_loadA Try.tab rfl rfl rfl rfl (cells_row0 1 rfl rfl)) rfl rfl rfl ?_
          refine s_call (en_f rfl Try.call25) (is_yes W _ _ _ _ _ h (by assumption)) rfl rfl rfl (fun _ => ?_)
          refine s_y (y_notT rfl) rfl rfl rfl ?_
          refine s_nil ?_
          refine f_then ?_
          refine c_condF rfl ?_
          refine c_seq ?_
          refine c_region ?_
          refine s_y (y_move rfl) rfl rfl rfl ?_
          refine s_y (y_loadA Try.tab rfl rfl rfl rfl (cells_row0 2 rfl rfl)) rfl rfl rfl ?_
          refine s_y (y_move rfl) rfl rfl rfl ?_
          refine s_y (y_loadA Try.tab rfl rfl rfl rfl (cells_row0 1 rfl rfl)) rfl rfl rfl ?_
          refine s_call (en_f rfl Try.call26) (rnote_spec W _ _ _ _ _ h.1 h.2 hc) rfl rfl rfl (fun _ => ?_)
          refine s_y (y_F (y_neq rfl rfl) (by omega)) rfl rfl rfl ?_
          refine s_y (y_move rfl) rfl rfl rfl ?_
          refine s_y (y_move rfl) rfl rfl rfl ?_
          refine s_y (y_F (y_neq rfl rfl) (by omega)) rfl rfl rfl ?_
          refine s_y (y_pickF rfl rfl) rfl rfl rfl ?_
          refine s_nil ?_
          refine f_then ?_
          refine c_condF rfl ?_
          refine c_skip ?_
          refine f_then ?_
          refine c_seq ?_
          refine c_seq ?_
          refine c_region ?_
          refine s_y (y_move rfl) rfl rfl rfl ?_
          refine s_y (y_T (y_lss rfl rfl) (by assumption)) rfl rfl rfl ?_
          refine s_y (y_move rfl) rfl rfl rfl ?_
          iterate 3 refine s_skip rfl rfl rfl ?_
          refine s_y (y_pickT rfl rfl) rfl rfl rfl ?_
          refine s_nil ?_
          refine f_then ?_
          refine c_condT rfl ?_
          refine c_seq ?_
          refine c_region ?_
          refine s_y (y_loadA Try.tab rfl rfl rfl rfl (cells_row0 0 rfl rfl)) rfl rfl rfl ?_
          refine s_y (y_build Try.tab rfl rfl rfl rfl rfl) rfl rfl rfl ?_
          refine s_y (y_T (y_eqlCell rfl rfl) (by omega)) rfl rfl rfl ?_
          refine s_y (y_move rfl) rfl rfl rfl ?_
          refine s_y (y_move rfl) rfl rfl rfl ?_
          refine s_y (y_T (y_eql rfl rfl) (by omega)) rfl rfl rfl ?_
          refine s_y (y_pickT rfl rfl) rfl rfl rfl ?_
          refine s_y (y_move rfl) rfl rfl rfl ?_
          refine s_call (en_f rfl Try.call15) (awake_spec W _) rfl rfl rfl (fun _ => ?_)
          refine s_y (y_pickT rfl rfl) rfl rfl rfl ?_
          refine s_y (y_assign rfl) rfl rfl rfl ?_
          refine s_nil ?_
          refine f_then ?_
          refine c_ret ?_
          refine f_thenR ?_
          exact f_ret () (res1 rfl rfl) (fun w h => h.any)
        · refine c_seq ?_
          refine c_region ?_
          refine s_do (do_box rfl) rfl rfl rfl (fun b4 => ?_)
          refine s_do (do_box rfl) rfl rfl rfl (fun b6 => ?_)
          refine s_y (y_assign rfl) rfl rfl rfl ?_
          refine s_nil ?_
          refine f_then ?_
          refine c_seq ?_
          refine c_seq ?_
          refine c_region ?_
          refine s_y (y_loadA Try.tab rfl rfl rfl rfl (cells_row0 1 rfl rfl)) rfl rfl rfl ?_
          refine s_y (y_move rfl) rfl rfl rfl ?_
          refine s_call (en_f rfl Try.call23) (wrong_0 W _ _ _ h) rfl rfl rfl (fun _ => ?_)
          refine s_y (y_F (y_neq rfl rfl) (by omega)) rfl rfl rfl ?_
          refine s_nil ?_
          refine f_then ?_
          refine c_condF rfl ?_
          refine c_skip ?_
          refine f_then ?_
          refine c_seq ?_
          refine c_region ?_
          refine s_y (y_loadA Try.tab rfl rfl rfl rfl (cells_row0 1 rfl rfl)) rfl rfl rfl ?_
          refine s_y (y_move rfl) rfl rfl rfl ?_
          refine s_call (en_f rfl Try.call24) (Notes_ok W _ _ _ h) rfl rfl rfl (fun _ => ?_)
          refine s_y (y_move rfl) rfl rfl rfl ?_
          refine s_y (y_extract rfl rfl) rfl rfl rfl ?_
          refine s_y (y_extract rfl rfl) rfl rfl rfl ?_
          refine s_y (y_assign rfl) rfl rfl rfl ?_
          refine s_y (y_assign rfl) rfl rfl rfl ?_
          refine s_nil ?_
          refine f_then ?_
          refine c_seq ?_
          refine c_region ?_
          refine s_y (y_loadA Try.tab rfl rfl rfl rfl (cells_row0 1 rfl rfl)) rfl rfl rfl ?_
          refine s_y (y_move rfl) rfl rfl rfl ?_
          refine s_y (y_loadA Try.tab rfl rfl rfl rfl (cells_row0 0 rfl rfl)) rfl rfl rfl ?_
          refine s_call (en_f rfl Try.call21) (Note_range W _ _ _ _ _ h hc) rfl rfl rfl (fun _ => ?_)
          refine s_y (y_move rfl) rfl rfl rfl ?_
          refine s_y (y_extract rfl rfl) rfl rfl rfl ?_
          refine s_y (y_extract rfl rfl) rfl rfl rfl ?_
          refine s_y (y_assign rfl) rfl rfl rfl ?_
          refine s_y (y_assign rfl) rfl rfl rfl ?_
          refine s_nil ?_
          refine f_then ?_
          refine c_seq ?_
          refine c_region ?_
          refine s_y (y_loadA Try.tab rfl rfl rfl rfl (cells_row0 1 rfl rfl)) rfl rfl rfl ?_
          refine s_y (y_move rfl) rfl rfl rfl ?_
          refine s_y (y_move rfl) rfl rfl rfl ?_
          refine s_call (en_f rfl Try.call22) (Cell_range W _ _ _ _ h hn) rfl rfl rfl (fun _ => ?_)
          refine s_y (y_move rfl) rfl rfl rfl ?_
          refine s_y (y_extract rfl rfl) rfl rfl rfl ?_
          refine s_y (y_extract rfl rfl) rfl rfl rfl ?_
          refine s_do (do_alloc Try.tab rfl) rfl rfl rfl (fun b13 => ?_)
          refine s_set (set_box Try.tab 0 rfl rfl rfl rfl rfl rfl rfl) rfl rfl ?_
          refine s_y (y_assign rfl) rfl rfl rfl ?_
          refine s_nil ?_
          refine f_then ?_
          refine c_seq ?_
          refine c_seq ?_
          refine c_region ?_
          refine s_y (y_move rfl) rfl rfl rfl ?_
          refine s_y (y_move rfl) rfl rfl rfl ?_
          refine s_y (y_fieldAddr0 Try.tab rfl rfl rfl rfl rfl) rfl rfl rfl ?_
          refine s_y (y_load Try.tab rfl rfl (cell_row 2 rfl rfl)) rfl rfl rfl ?_
          refine s_y (y_mul rfl rfl (by omega)) rfl rfl rfl ?_
          refine s_y (y_fieldAddrB Try.tab 1 rfl rfl rfl rfl rfl) rfl rfl rfl ?_
          refine s_y (y_load Try.tab rfl rfl (cell_row 2 rfl rfl)) rfl rfl rfl ?_
          refine s_y (y_mul rfl rfl (by omega)) rfl rfl rfl ?_
          refine s_y (y_F (y_neq rfl rfl) (by omega)) rfl rfl rfl ?_
          refine s_y (y_move rfl) rfl rfl rfl ?_
          refine s_y (y_move rfl) rfl rfl rfl ?_
          refine s_y (y_F (y_neq rfl rfl) (by omega)) rfl rfl rfl ?_
          refine s_y (y_pickF rfl rfl) rfl rfl rfl ?_
          refine s_nil ?_
          refine f_then ?_
          refine c_condF rfl ?_
          refine c_skip ?_
          refine f_then ?_
          refine c_seq ?_
          refine c_seq ?_
          refine c_region ?_
          refine s_y (y_loadA Try.tab rfl rfl rfl rfl (cells_row0 2 rfl rfl)) rfl rfl rfl ?_
          refine s_y (y_move rfl) rfl rfl rfl ?_
          refine s_y (y_loadA Try.tab rfl rfl rfl rfl (cells_row0 1 rfl rfl)) rfl rfl rfl ?_
          refine s_call (en_f rfl Try.call25) (is_no W _ _ _ _ _ h (by assumption)) rfl rfl rfl (fun _ => ?_)
          refine s_y (y_notF rfl) rfl rfl rfl ?_
          refine s_nil ?_
          refine f_then ?_
          refine c_condT rfl ?_
          refine c_seq ?_
          refine c_region ?_
          refine s_y (y_move rfl) rfl rfl rfl ?_
          refine s_y (y_F (y_neq rfl rfl) (by omega)) rfl rfl rfl ?_
          refine s_y (y_move rfl) rfl rfl rfl ?_
          refine s_y (y_move rfl) rfl rfl rfl ?_
          refine s_y (y_F (y_neq rfl rfl) (by omega)) rfl rfl rfl ?_
          refine s_y (y_pickF rfl rfl) rfl rfl rfl ?_
          refine s_nil ?_
          refine f_then ?_
          refine c_condF rfl ?_
          refine c_skip ?_
          refine f_then ?_
          refine c_seq ?_
          refine c_seq ?_
          refine c_region ?_
          refine s_y (y_move rfl) rfl rfl rfl ?_
          refine s_y (y_T (y_lss rfl rfl) (by assumption)) rfl rfl rfl ?_
          refine s_y (y_move rfl) rfl rfl rfl ?_
          iterate 3 refine s_skip rfl rfl rfl ?_
          refine s_y (y_pickT rfl rfl) rfl rfl rfl ?_
          refine s_nil ?_
          refine f_then ?_
          refine c_condT rfl ?_
          refine c_seq ?_
          refine c_region ?_
          refine s_y (y_loadA Try.tab rfl rfl rfl rfl (cells_row0 0 rfl rfl)) rfl rfl rfl ?_
          refine s_y (y_build Try.tab rfl rfl rfl rfl rfl) rfl rfl rfl ?_
          refine s_y (y_T (y_eqlCell rfl rfl) (by omega)) rfl rfl rfl ?_
          refine s_y (y_move rfl) rfl rfl rfl ?_
          refine s_y (y_move rfl) rfl rfl rfl ?_
          refine s_y (y_T (y_eql rfl rfl) (by omega)) rfl rfl rfl ?_
          refine s_y (y_pickT rfl rfl) rfl rfl rfl ?_
          refine s_y (y_move rfl) rfl rfl rfl ?_
          refine s_call (en_f rfl Try.call15) (awake_spec W _) rfl rfl rfl (fun _ => ?_)
          refine s_y (y_pickT rfl rfl) rfl rfl rfl ?_
          refine s_y (y_assign rfl) rfl rfl rfl ?_
          refine s_nil ?_
          refine f_then ?_
          refine c_ret ?_
          refine f_thenR ?_
          exact f_ret () (res1 rfl rfl) (fun w h => h.any)
      · by_cases hc : CellIn l s sh pos
        · refine c_seq ?_
          refine c_region ?_
          refine s_do (do_box rfl) rfl rfl rfl (fun b4 => ?_)
          refine s_do (do_box rfl) rfl rfl rfl (fun b6 => ?_)
          refine s_y (y_assign rfl) rfl rfl rfl ?_
          refine s_nil ?_
          refine f_then ?_
          refine c_seq ?_
          refine c_seq ?_
          refine c_region ?_
          refine s_y (y_loadA Try.tab rfl rfl rfl rfl (cells_row0 1 rfl rfl)) rfl rfl rfl ?_
          refine s_y (y_move rfl) rfl rfl rfl ?_
          refine s_call (en_f rfl Try.call23) (wrong_0 W _ _ _ h) rfl rfl rfl (fun _ => ?_)
          refine s_y (y_F (y_neq rfl rfl) (by omega)) rfl rfl rfl ?_
          refine s_nil ?_
          refine f_then ?_
          refine c_condF rfl ?_
          refine c_skip ?_
          refine f_then ?_
          refine c_seq ?_
          refine c_region ?_
          refine s_y (y_loadA Try.tab rfl rfl rfl rfl (cells_row0 1 rfl rfl)) rfl rfl rfl ?_
          refine s_y (y_move rfl) rfl rfl rfl ?_
          refine s_call (en_f rfl Try.call24) (Notes_ok W _ _ _ h) rfl rfl rfl (fun _ => ?_)
          refine s_y (y_move rfl) rfl rfl rfl ?_
          refine s_y (y_extract rfl rfl) rfl rfl rfl ?_
          refine s_y (y_extract rfl rfl) rfl rfl rfl ?_
          refine s_y (y_assign rfl) rfl rfl rfl ?_
          refine s_y (y_assign rfl) rfl rfl rfl ?_
          refine s_nil ?_
          refine f_then ?_
          refine c_seq ?_
          refine c_region ?_
          refine s_y (y_loadA Try.tab rfl rfl rfl rfl (cells_row0 1 rfl rfl)) rfl rfl rfl ?_
          refine s_y (y_move rfl) rfl rfl rfl ?_
          refine s_y (y_loadA Try.tab rfl rfl rfl rfl (cells_row0 0 rfl rfl)) rfl rfl rfl ?_
          refine s_call (en_f rfl Try.call21) (Note_ok W _ _ _ _ _ h hc) rfl rfl rfl (fun _ => ?_)
          refine s_y (y_move rfl) rfl rfl rfl ?_
          refine s_y (y_extract rfl rfl) rfl rfl rfl ?_
          refine s_y (y_extract rfl rfl) rfl rfl rfl ?_
          refine s_y (y_assign rfl) rfl rfl rfl ?_
          refine s_y (y_assign rfl) rfl rfl rfl ?_
          refine s_nil ?_
          refine f_then ?_
          refine c_seq ?_
          refine c_region ?_
          refine s_y (y_loadA Try.tab rfl rfl rfl rfl (cells_row0 1 rfl rfl)) rfl rfl rfl ?_
          refine s_y (y_move rfl) rfl rfl rfl ?_
          refine s_y (y_move rfl) rfl rfl rfl ?_
          refine s_call (en_f rfl Try.call22) (Cell_range W _ _ _ _ h hn) rfl rfl rfl (fun _ => ?_)
          refine s_y (y_move rfl) rfl rfl rfl ?_
          refine s_y (y_extract rfl rfl) rfl rfl rfl ?_
          refine s_y (y_extract rfl rfl) rfl rfl rfl ?_
          refine s_do (do_alloc Try.tab rfl) rfl rfl rfl (fun b13 => ?_)
          refine s_set (set_box Try.tab 0 rfl rfl rfl rfl rfl rfl rfl) rfl rfl ?_
          refine s_y (y_assign rfl) rfl rfl rfl ?_
          refine s_nil ?_
          refine f_then ?_
          refine c_seq ?_
          refine c_seq ?_
          refine c_region ?_
          refine s_y (y_move rfl) rfl rfl rfl ?_
          refine s_y (y_move rfl) rfl rfl rfl ?_
          refine s_y (y_fieldAddr0 Try.tab rfl rfl rfl rfl rfl) rfl rfl rfl ?_
          refine s_y (y_load Try.tab rfl rfl (cell_row 2 rfl rfl)) rfl rfl rfl ?_
          refine s_y (y_mul rfl rfl (by omega)) rfl rfl rfl ?_
          refine s_y (y_fieldAddrB Try.tab 1 rfl rfl rfl rfl rfl) rfl rfl rfl ?_
          refine s_y (y_load Try.tab rfl rfl (cell_row 2 rfl rfl)) rfl rfl rfl ?_
          refine s_y (y_mul rfl rfl (by omega)) rfl rfl rfl ?_
          refine s_y (y_F (y_neq rfl rfl) (by omega)) rfl rfl rfl ?_
          refine s_y (y_move rfl) rfl rfl rfl ?_
          refine s_y (y_move rfl) rfl rfl rfl ?_
          refine s_y (y_F (y_neq rfl rfl) (by omega)) rfl rfl rfl ?_
          refine s_y (y_pickF rfl rfl) rfl rfl rfl ?_
          refine s_nil ?_
          refine f_then ?_
          refine c_condF rfl ?_
          refine c_skip ?_
          refine f_then ?_
          refine c_seq ?_
          refine c_seq ?_
          refine c_region ?_
          refine s_y (y_loadA Try.tab rfl rfl rfl rfl (cells_row0 2 rfl rfl)) rfl rfl rfl ?_
          refine s_y (y_move rfl) rfl rfl rfl ?_
          refine s_y (y_loadA Try.tab rfl rfl rfl rfl (cells_row0 1 rfl rfl)) rfl rfl rfl ?_
          refine s_call (en_f rfl Try.call25) (is_yes W _ _ _ _ _ h (by assumption)) rfl rfl rfl (fun _ => ?_)
          refine s_y (y_notT rfl) rfl rfl rfl ?_
          refine s_nil ?_
          refine f_then ?_
          refine c_condF rfl ?_
          refine c_seq ?_
          refine c_region ?_
          refine s_y (y_move rfl) rfl rfl rfl ?_
          refine s_y (y_loadA Try.tab rfl rfl rfl rfl (cells_row0 2 rfl rfl)) rfl rfl rfl ?_
          refine s_y (y_move rfl) rfl rfl rfl ?_
          refine s_y (y_loadA Try.tab rfl rfl rfl rfl (cells_row0 1 rfl rfl)) rfl rfl rfl ?_
          refine s_call (en_f rfl Try.call26) (rnote_spec W _ _ _ _ _ h.1 h.2 hc) rfl rfl rfl (fun _ => ?_)
          refine s_y (y_F (y_neq rfl rfl) (by omega)) rfl rfl rfl ?_
          refine s_y (y_move rfl) rfl rfl rfl ?_
          refine s_y (y_move rfl) rfl rfl rfl ?_
          refine s_y (y_F (y_neq rfl rfl) (by omega)) rfl rfl rfl ?_
          refine s_y (y_pickF rfl rfl) rfl rfl rfl ?_
          refine s_nil ?_
          refine f_then ?_
          refine c_condF rfl ?_
          refine c_skip ?_
          refine f_then ?_
          refine c_seq ?_
          refine c_seq ?_
          refine c_region ?_
          refine s_y (y_move rfl) rfl rfl rfl ?_
          refine s_y (y_F (y_lss rfl rfl) (by omega)) rfl rfl rfl ?_
          refine s_y (y_move rfl) rfl rfl rfl ?_
          refine s_y (y_move rfl) rfl rfl rfl ?_
          refine s_y (y_move rfl) rfl rfl rfl ?_
          refine s_y (y_T (y_geq rfl rfl) (by omega)) rfl rfl rfl ?_
          refine s_y (y_pickF rfl rfl) rfl rfl rfl ?_
          refine s_nil ?_
          refine f_then ?_
          refine c_condT rfl ?_
          refine c_seq ?_
          refine c_region ?_
          refine s_y (y_loadA Try.tab rfl rfl rfl rfl (cells_row0 0 rfl rfl)) rfl rfl rfl ?_
          refine s_y (y_build Try.tab rfl rfl rfl rfl rfl) rfl rfl rfl ?_
          refine s_y (y_T (y_eqlCell rfl rfl) (by omega)) rfl rfl rfl ?_
          refine s_y (y_move rfl) rfl rfl rfl ?_
          refine s_y (y_move rfl) rfl rfl rfl ?_
          refine s_y (y_T (y_eql rfl rfl) (by omega)) rfl rfl rfl ?_
          refine s_y (y_pickT rfl rfl) rfl rfl rfl ?_
          refine s_y (y_move rfl) rfl rfl rfl ?_
          refine s_call (en_f rfl Try.call15) (awake_spec W _) rfl rfl rfl (fun _ => ?_)
          refine s_y (y_pickT rfl rfl) rfl rfl rfl ?_
          refine s_y (y_assign rfl) rfl rfl rfl ?_
          refine s_nil ?_
          refine f_then ?_
          refine c_ret ?_
          refine f_thenR ?_
          exact f_ret () (res1 rfl rfl) (fun w h => h.any)
        · refine c_seq ?_
          refine c_region ?_
          refine s_do (do_box rfl) rfl rfl rfl (fun b4 => ?_)
          refine s_do (do_box rfl) rfl rfl rfl (fun b6 => ?_)
          refine s_y (y_assign rfl) rfl rfl rfl ?_
          refine s_nil ?_
          refine f_then ?_
          refine c_seq ?_
          refine c_seq ?_
          refine c_region ?_
          refine s_y (y_loadA Try.tab rfl rfl rfl rfl (cells_row0 1 rfl rfl)) rfl rfl rfl ?_
          refine s_y (y_move rfl) rfl rfl rfl ?_
          refine s_call (en_f rfl Try.call23) (wrong_0 W _ _ _ h) rfl rfl rfl (fun _ => ?_)
          refine s_y (y_F (y_neq rfl rfl) (by omega)) rfl rfl rfl ?_
          refine s_nil ?_
          refine f_then ?_
          refine c_condF rfl ?_
          refine c_skip ?_
          refine f_then ?_
          refine c_seq ?_
          refine c_region ?_
          refine s_y (y_loadA Try.tab rfl rfl rfl rfl (cells_row0 1 rfl rfl)) rfl rfl rfl ?_
          refine s_y (y_move rfl) rfl rfl rfl ?_
          refine s_call (en_f rfl Try.call24) (Notes_ok W _ _ _ h) rfl rfl rfl (fun _ => ?_)
          refine s_y (y_move rfl) rfl rfl rfl ?_
          refine s_y (y_extract rfl rfl) rfl rfl rfl ?_
          refine s_y (y_extract rfl rfl) rfl rfl rfl ?_
          refine s_y (y_assign rfl) rfl rfl rfl ?_
          refine s_y (y_assign rfl) rfl rfl rfl ?_
          refine s_nil ?_
          refine f_then ?_
          refine c_seq ?_
          refine c_region ?_
          refine s_y (y_loadA Try.tab rfl rfl rfl rfl (cells_row0 1 rfl rfl)) rfl rfl rfl ?_
          refine s_y (y_move rfl) rfl rfl rfl ?_
          refine s_y (y_loadA Try.tab rfl rfl rfl rfl (cells_row0 0 rfl rfl)) rfl rfl rfl ?_
          refine s_call (en_f rfl Try.call21) (Note_range W _ _ _ _ _ h hc) rfl rfl rfl (fun _ => ?_)
          refine s_y (y_move rfl) rfl rfl rfl ?_
          refine s_y (y_extract rfl rfl) rfl rfl rfl ?_
          refine s_y (y_extract rfl rfl) rfl rfl rfl ?_
          refine s_y (y_assign rfl) rfl rfl rfl ?_
          refine s_y (y_assign rfl) rfl rfl rfl ?_
          refine s_nil ?_
          refine f_then ?_
          refine c_seq ?_
          refine c_region ?_
          refine s_y (y_loadA Try.tab rfl rfl rfl rfl (cells_row0 1 rfl rfl)) rfl rfl rfl ?_
          refine s_y (y_move rfl) rfl rfl rfl ?_
          refine s_y (y_move rfl) rfl rfl rfl ?_
          refine s_call (en_f rfl Try.call22) (Cell_range W _ _ _ _ h hn) rfl rfl rfl (fun _ => ?_)
          refine s_y (y_move rfl) rfl rfl rfl ?_
          refine s_y (y_extract rfl rfl) rfl rfl rfl ?_
          refine s_y (y_extract rfl rfl) rfl rfl rfl ?_
          refine s_do (do_alloc Try.tab rfl) rfl rfl rfl (fun b13 => ?_)
          refine s_set (set_box Try.tab 0 rfl rfl rfl rfl rfl rfl rfl) rfl rfl ?_
          refine s_y (y_assign rfl) rfl rfl rfl ?_
          refine s_nil ?_
          refine f_then ?_
          refine c_seq ?_
          refine c_seq ?_
          refine c_region ?_
          refine s_y (y_move rfl) rfl rfl rfl ?_
          refine s_y (y_move rfl) rfl rfl rfl ?_
          refine s_y (y_fieldAddr0 Try.tab rfl rfl rfl rfl rfl) rfl rfl rfl ?_
          refine s_y (y_load Try.tab rfl rfl (cell_row 2 rfl rfl)) rfl rfl rfl ?_
          refine s_y (y_mul rfl rfl (by omega)) rfl rfl rfl ?_
          refine s_y (y_fieldAddrB Try.tab 1 rfl rfl rfl rfl rfl) rfl rfl rfl ?_
          refine s_y (y_load Try.tab rfl rfl (cell_row 2 rfl rfl)) rfl rfl rfl ?_
          refine s_y (y_mul rfl rfl (by omega)) rfl rfl rfl ?_
          refine s_y (y_F (y_neq rfl rfl) (by omega)) rfl rfl rfl ?_
          refine s_y (y_move rfl) rfl rfl rfl ?_
          refine s_y (y_move rfl) rfl rfl rfl ?_
          refine s_y (y_F (y_neq rfl rfl) (by omega)) rfl rfl rfl ?_
          refine s_y (y_pickF rfl rfl) rfl rfl rfl ?_
          refine s_nil ?_
          refine f_then ?_
          refine c_condF rfl ?_
          refine c_skip ?_
          refine f_then ?_
          refine c_seq ?_
          refine c_seq ?_
          refine c_region ?_
          refine s_y (y_loadA Try.tab rfl rfl rfl rfl (cells_row0 2 rfl rfl)) rfl rfl rfl ?_
          refine s_y (y_move rfl) rfl rfl rfl ?_
          refine s_y (y_loadA Try.tab rfl rfl rfl rfl (cells_row0 1 rfl rfl)) rfl rfl rfl ?_
          refine s_call (en_f rfl Try.call25) (is_no W _ _ _ _ _ h (by assumption)) rfl rfl rfl (fun _ => ?_)
          refine s_y (y_notF rfl) rfl rfl rfl ?_
          refine s_nil ?_
          refine f_then ?_
          refine c_condT rfl ?_
          refine c_seq ?_
          refine c_region ?_
          refine s_y (y_move rfl) rfl rfl rfl ?_
          refine s_y (y_F (y_neq rfl rfl) (by omega)) rfl rfl rfl ?_
          refine s_y (y_move rfl) rfl rfl rfl ?_
          refine s_y (y_move rfl) rfl rfl rfl ?_
          refine s_y (y_F (y_neq rfl rfl) (by omega)) rfl rfl rfl ?_
          refine s_y (y_pickF rfl rfl) rfl rfl rfl ?_
          refine s_nil ?_
          refine f_then ?_
          refine c_condF rfl ?_
          refine c_skip ?_
          refine f_then ?_
          refine c_seq ?_
          refine c_seq ?_
          refine c_region ?_
          refine s_y (y_move rfl) rfl rfl rfl ?_
          refine s_y (y_F (y_lss rfl rfl) (by omega)) rfl rfl rfl ?_
          refine s_y (y_move rfl) rfl rfl rfl ?_
          refine s_y (y_move rfl) rfl rfl rfl ?_
          refine s_y (y_move rfl) rfl rfl rfl ?_
          refine s_y (y_T (y_geq rfl rfl) (by omega)) rfl rfl rfl ?_
          refine s_y (y_pickF rfl rfl) rfl rfl rfl ?_
          refine s_nil ?_
          refine f_then ?_
          refine c_condT rfl ?_
          refine c_seq ?_
          refine c_region ?_
          refine s_y (y_loadA Try.tab rfl rfl rfl rfl (cells_row0 0 rfl rfl)) rfl rfl rfl ?_
          refine s_y (y_build Try.tab rfl rfl rfl rfl rfl) rfl rfl rfl ?_
          refine s_y (y_T (y_eqlCell rfl rfl) (by omega)) rfl rfl rfl ?_
          refine s_y (y_move rfl) rfl rfl rfl ?_
          refine s_y (y_move rfl) rfl rfl rfl ?_
          refine s_y (y_T (y_eql rfl rfl) (by omega)) rfl rfl rfl ?_
          refine s_y (y_pickT rfl rfl) rfl rfl rfl ?_
          refine s_y (y_move rfl) rfl rfl rfl ?_
          refine s_call (en_f rfl Try.call15) (awake_spec W _) rfl rfl rfl (fun _ => ?_)
          refine s_y (y_pickT rfl rfl) rfl rfl rfl ?_
          refine s_y (y_assign rfl) rfl rfl rfl ?_
          refine s_nil ?_
          refine f_then ?_
          refine c_ret ?_
          refine f_thenR ?_
          exact f_ret () (res1 rfl rfl) (fun w h => h.any)
  · have hw : wrg l s ≠ 0 := fun e => h (wrg_0.1 e)
    refine c_seq ?_
    refine c_region ?_
    refine s_do (do_box rfl) rfl rfl rfl (fun b4 => ?_)
    refine s_do (do_box rfl) rfl rfl rfl (fun b6 => ?_)
    refine s_y (y_assign rfl) rfl rfl rfl ?_
    refine s_nil ?_
    refine f_then ?_
    refine c_seq ?_
    refine c_seq ?_
    refine c_region ?_
    refine s_y (y_loadA Try.tab rfl rfl rfl rfl (cells_row0 1 rfl rfl)) rfl rfl rfl ?_
    refine s_y (y_move rfl) rfl rfl rfl ?_
    refine s_call (en_f rfl Try.call23) (wrong_spec W _ _ _) rfl rfl rfl (fun _ => ?_)
    refine s_y (y_T (y_neq rfl rfl) (by assumption)) rfl rfl rfl ?_
    refine s_nil ?_
    refine f_then ?_
    refine c_condT rfl ?_
    refine c_seq ?_
    refine c_region ?_
    refine s_call (en_f rfl Try.call15) (awake_spec W _) rfl rfl rfl (fun _ => ?_)
    refine s_y (y_assign rfl) rfl rfl rfl ?_
    refine s_nil ?_
    refine f_then ?_
    refine c_ret ?_
    refine f_thenR ?_
    exact f_ret () (res1 rfl rfl) (fun w h => h.any)
end Go.KL
end

section
/- SheetNotes: for every input the law returns true, and its arguments read as they did. No condition. -/
namespace Go.Proofs.Ytelpaildbpdppaa
open Go.ChangeShapes Go.WideShapes Go.RowKit Go.KL
set_option linter.unusedVariables false
theorem own : ownKnob Try.prog.godebug = none := by kernel_rfl
set_option maxRecDepth 100000 in
theorem sheetNotes_lifted (os : Os) (started : os.Started) (H : Type) (enc : TypeId × Value → H) :
    ReturnsInHanded {} Try.checked os 6 .any (Rows.sheetNotesSpec.pre6 enc Try.prog Try.f6 Rows.sheetNotesRow.domain false) (Rows.sheetNotesSpec.post enc Try.prog Try.f6 false true false false) := by
  refine returnsInHanded_of_change (C := Try.checked) own started (by kernel_rfl) Try.func6
    (ChangeSpec.witness6 (enc := enc) (C := Try.checked) false ⟨#[], #[.agg #[.int .i64 0, .int .i64 0, .int .i64 0, .int .i64 0, .bool false], .int .i64 0, .agg #[.int .i64 0, .int .i64 0], .int .i64 0], []⟩ 8 (by kernel_rfl) (by kernel_rfl) (by kernel_rfl) (by kernel_rfl)) ?_
  intro W base args ds gs before hval hW hcnd _
  obtain ⟨p, q, hA, hV, rfl, hfz, hnd⟩ := id hW
  obtain ⟨rfl, rfl⟩ := trodVars_none hV
  obtain ⟨v0, vs0, d0, ds0, p0, q0, e0, rfl, rfl, h0, r0⟩ := trodAll_cons hA
  obtain ⟨v1, vs1, d1, ds1, p1, q1, rfl, rfl, rfl, h1, r1⟩ := trodAll_cons r0
  obtain ⟨v2, vs2, d2, ds2, p2, q2, rfl, rfl, rfl, h2, r2⟩ := trodAll_cons r1
  obtain ⟨v3, vs3, d3, ds3, p3, q3, rfl, rfl, rfl, h3, r3⟩ := trodAll_cons r2
  obtain ⟨rfl, rfl, rfl⟩ := trodAll_nil r3
  obtain rfl : args = #[v0, v1, v2, v3] := by cases args; simp_all
  obtain ⟨l0, rfl, hr0, hc0, hm0, hb0⟩ := arg23 (hval 0 23 _ rfl rfl) h0
  obtain ⟨k1, rfl, hk1⟩ := arg3 (hval 1 3 _ rfl rfl) h1
  obtain ⟨a2, b2, rfl, ha2, hb2⟩ := arg37 (hval 2 37 _ rfl rfl) h2
  obtain ⟨k3, rfl, hk3⟩ := arg3 (hval 3 3 _ rfl rfl) h3
  refine ((sheetNotes_walk W l0 k1 a2 b2 k3) W (K.refl W)).mono ?_
  rintro e W' ⟨x, rfl, hk⟩
  exact ⟨_, rfl, law_post (t := 4) laidOut (by decide +kernel) rfl rfl u4 hW rfl hk.toExt⟩
/-- The statement. -/
theorem sheetNotes_holds : Rows.SheetNotesSaid :=
  OpenClaim.holds_of_wide 6 Try.f6 rfl rfl rfl rfl rfl rfl rfl ⟨rfl, rfl, rfl, rfl, rfl⟩ rfl rfl rfl rfl rfl (by kernel_rfl) Try.func6 (by kernel_rfl)
    (of_decide_eq_true (by kernel_rfl)) (by unfold Func.isWrapper; first | (rw [if_pos (by decide +kernel)]; kernel_rfl) | (rw [if_neg (by decide +kernel)]; exact ⟨rfl, rfl⟩))
    (fun os started H enc _ => sheetNotes_lifted os started H enc)
end Go.Proofs.Ytelpaildbpdppaa
end
