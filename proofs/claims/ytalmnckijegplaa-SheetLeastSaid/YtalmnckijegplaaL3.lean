/- The library of the proof, part 3: a program logic over the model, walks of functions, plain laws. -/
import Derived.Test.YtalmnckijegplaaL2
section
/- Walks: package sheet, notes and cells of a ream. -/
namespace Go.KL
open Go.Proofs
theorem mul_pos1 {a b : Int} (ha : 1 ≤ a) (hb : 1 ≤ b) : 1 ≤ a * b := by have := Int.mul_le_mul ha hb (by omega) (by omega); omega
attribute [local irreducible] SC St Fin Sq Sw Ylds Doos Sets Enters Spec CellIs CellsAre Then Ret Rnd Chn resOK ints bools recs arr
/-- What lies on a position of a sheet of a ream. -/
def rnote (l : Lay) (p f d sh pos : Int) : Int := f * p + pos * d + (if l.d then d - 1 - sh else sh)
set_option maxHeartbeats 4000000 in
theorem mnote_spec (W : World) (Ls : List Chunk) (l : Lay) (s p f d sh pos : Int) (hf : 0 ≤ f ∧ f ≤ 1099511627776) (hp : 0 ≤ p ∧ p ≤ 256) (hd : 0 ≤ d ∧ d ≤ 10000) (hsh : -1099511627776 ≤ sh ∧ sh ≤ 1099511627776) (hpos : 0 ≤ pos ∧ pos ≤ 1048576) :
    Spec Try.prog 79 #[rmV l s p f d, .int .i64 sh, .int .i64 pos] (K W Ls) (fun _ : Unit => .int .i64 (rnote l p f d sh pos)) (fun _ => K W Ls) := by
  have hb := mul_bd hf hp
  have hb2 := mul_bd hpos hd
  refine enter (args := [_, _, _]) Try.func79 rfl Try.ntmps79 rfl ?_
  cases hld : l.d with
  | true =>
    refine c_seq ?_
    refine c_region ?_
    refine s_do (do_box rfl) rfl rfl rfl (fun b3 => ?_)
    refine s_y (y_assign rfl) rfl rfl rfl ?_
    refine s_nil ?_
    refine f_then ?_
    refine c_seq ?_
    refine c_seq ?_
    refine c_region ?_
    refine s_y (y_fieldAddr0 Try.tab rfl rfl rfl rfl rfl) rfl rfl rfl ?_
    refine s_y (y_fieldAddr0 Try.tab rfl rfl rfl rfl rfl) rfl rfl rfl ?_
    refine s_y (y_fieldAddrB Try.tab 4 rfl rfl rfl rfl rfl) rfl rfl rfl ?_
    refine s_y (y_load Try.tab rfl rfl (cell_row 0 rfl rfl)) rfl rfl rfl ?_
    refine s_nil ?_
    refine f_then ?_
    rw [hld]
    refine c_condT rfl ?_
    refine c_region ?_
    refine s_y (y_fieldAddrB Try.tab 8 rfl rfl rfl rfl rfl) rfl rfl rfl ?_
    refine s_y (y_load Try.tab rfl rfl (cell_row 0 rfl rfl)) rfl rfl rfl ?_
    refine s_y (y_sub rfl rfl (by omega)) rfl rfl rfl ?_
    refine s_y (y_move rfl) rfl rfl rfl ?_
    refine s_y (y_sub rfl rfl (by omega)) rfl rfl rfl ?_
    refine s_y (y_assign rfl) rfl rfl rfl ?_
    refine s_nil ?_
    refine f_then ?_
    refine c_seq ?_
    refine c_quiet Try.mixed (by kernel_rfl) K.drew ?_
    refine q_y (y_loadA Try.tab rfl rfl rfl rfl (cells_row0 0 rfl rfl)) rfl rfl rfl ?_
    refine q_call (en_f rfl Try.call80) (base_spec _ _ _ _ _ _ _ (by omega) (by omega)) rfl rfl rfl ?_
    refine q_y (y_move rfl) rfl rfl rfl ?_
    refine q_y (y_fieldAddrB Try.tab 8 rfl rfl rfl rfl rfl) rfl rfl rfl ?_
    refine q_y (y_load Try.tab rfl rfl (cell_row 0 rfl rfl)) rfl rfl rfl ?_
    refine q_y (y_mul rfl rfl (by omega)) rfl rfl rfl ?_
    refine q_y (y_add rfl rfl (by omega)) rfl rfl rfl ?_
    refine q_y (y_move rfl) rfl rfl rfl ?_
    refine q_y (y_add rfl rfl (by omega)) rfl rfl rfl ?_
    refine q_y (y_assign rfl) rfl rfl rfl ?_
    refine q_nil ?_
    refine f_then ?_
    refine c_ret ?_
    exact f_retE () (res1 rfl rfl) (by unfold rnote; rw [hld]; rfl) (fun w h => h.tail)
  | false =>
    refine c_seq ?_
    refine c_region ?_
    refine s_do (do_box rfl) rfl rfl rfl (fun b3 => ?_)
    refine s_y (y_assign rfl) rfl rfl rfl ?_
    refine s_nil ?_
    refine f_then ?_
    refine c_seq ?_
    refine c_seq ?_
    refine c_region ?_
    refine s_y (y_fieldAddr0 Try.tab rfl rfl rfl rfl rfl) rfl rfl rfl ?_
    refine s_y (y_fieldAddr0 Try.tab rfl rfl rfl rfl rfl) rfl rfl rfl ?_
    refine s_y (y_fieldAddrB Try.tab 4 rfl rfl rfl rfl rfl) rfl rfl rfl ?_
    refine s_y (y_load Try.tab rfl rfl (cell_row 0 rfl rfl)) rfl rfl rfl ?_
    refine s_nil ?_
    refine f_then ?_
    rw [hld]
    refine c_condF rfl ?_
    refine c_skip ?_
    refine f_then ?_
    refine c_seq ?_
    refine c_quiet Try.mixed (by kernel_rfl) K.drew ?_
    refine q_y (y_loadA Try.tab rfl rfl rfl rfl (cells_row0 0 rfl rfl)) rfl rfl rfl ?_
    refine q_call (en_f rfl Try.call80) (base_spec _ _ _ _ _ _ _ (by omega) (by omega)) rfl rfl rfl ?_
    refine q_y (y_move rfl) rfl rfl rfl ?_
    refine q_y (y_fieldAddrB Try.tab 8 rfl rfl rfl rfl rfl) rfl rfl rfl ?_
    refine q_y (y_load Try.tab rfl rfl (cell_row 0 rfl rfl)) rfl rfl rfl ?_
    refine q_y (y_mul rfl rfl (by omega)) rfl rfl rfl ?_
    refine q_y (y_add rfl rfl (by omega)) rfl rfl rfl ?_
    refine q_y (y_move rfl) rfl rfl rfl ?_
    refine q_y (y_add rfl rfl (by omega)) rfl rfl rfl ?_
    refine q_y (y_assign rfl) rfl rfl rfl ?_
    refine q_nil ?_
    refine f_then ?_
    refine c_ret ?_
    exact f_retE () (res1 rfl rfl) (by unfold rnote; rw [hld]; rfl) (fun w h => h.tail)
/-- The cell of a note of a ream. -/
def rcell (l : Lay) (p f d note : Int) : Int × Int := (f + (if l.d then d - 1 - (note - f * p) % d else (note - f * p) % d), (note - f * p) / d)
set_option maxHeartbeats 4000000 in
theorem mcell_spec (W : World) (Ls : List Chunk) (l : Lay) (s p f d note : Int) (hf : 0 ≤ f ∧ f ≤ 1099511627776) (hp : 0 ≤ p ∧ p ≤ 256) (hd : 1 ≤ d ∧ d ≤ 10000) (hn : 0 ≤ note - f * p ∧ note ≤ 1099511627776) :
    Spec Try.prog 58 #[rmV l s p f d, .int .i64 note] (K W Ls) (fun _ : Unit => cellV (rcell l p f d note).1 (rcell l p f d note).2) (fun _ => K W Ls) := by
  have hb := mul_bd hf hp
  have h1 := div_bd (a := note - f * p) (b := d) (by omega) (by omega)
  have h2 := mod_bd (a := note - f * p) (b := d) (by omega)
  refine enter (args := [_, _]) Try.func58 rfl Try.ntmps58 rfl ?_
  cases hld : l.d with
  | true =>
    refine c_seq ?_
    refine c_region ?_
    refine s_do (do_box rfl) rfl rfl rfl (fun b2 => ?_)
    refine s_do (do_alloc Try.tab rfl) rfl rfl rfl (fun b4 => ?_)
    refine s_nil ?_
    refine f_then ?_
    refine c_seq ?_
    refine c_region ?_
    refine s_y (y_move rfl) rfl rfl rfl ?_
    refine s_y (y_loadA Try.tab rfl rfl rfl rfl (cells_row0 1 rfl rfl)) rfl rfl rfl ?_
    refine s_call (en_f rfl Try.call80) (base_spec _ _ _ _ _ _ _ (by omega) (by omega)) rfl rfl rfl (fun _ => ?_)
    refine s_y (y_sub rfl rfl (by omega)) rfl rfl rfl ?_
    refine s_y (y_assign rfl) rfl rfl rfl ?_
    refine s_nil ?_
    refine f_then ?_
    refine c_seq ?_
    refine c_region ?_
    refine s_y (y_move rfl) rfl rfl rfl ?_
    refine s_y (y_fieldAddrB Try.tab 8 rfl rfl rfl rfl rfl) rfl rfl rfl ?_
    refine s_y (y_load Try.tab rfl rfl (cell_row 1 rfl rfl)) rfl rfl rfl ?_
    refine s_y (y_rem rfl rfl (by omega)) rfl rfl rfl ?_
    refine s_y (y_assign rfl) rfl rfl rfl ?_
    refine s_nil ?_
    refine f_then ?_
    refine c_seq ?_
    refine c_seq ?_
    refine c_region ?_
    refine s_y (y_fieldAddr0 Try.tab rfl rfl rfl rfl rfl) rfl rfl rfl ?_
    refine s_y (y_fieldAddr0 Try.tab rfl rfl rfl rfl rfl) rfl rfl rfl ?_
    refine s_y (y_fieldAddrB Try.tab 4 rfl rfl rfl rfl rfl) rfl rfl rfl ?_
    refine s_y (y_load Try.tab rfl rfl (cell_row 1 rfl rfl)) rfl rfl rfl ?_
    refine s_nil ?_
    refine f_then ?_
    rw [hld]
    refine c_condT rfl ?_
    refine c_region ?_
    refine s_y (y_fieldAddrB Try.tab 8 rfl rfl rfl rfl rfl) rfl rfl rfl ?_
    refine s_y (y_load Try.tab rfl rfl (cell_row 1 rfl rfl)) rfl rfl rfl ?_
    refine s_y (y_sub rfl rfl (by omega)) rfl rfl rfl ?_
    refine s_y (y_move rfl) rfl rfl rfl ?_
    refine s_y (y_sub rfl rfl (by omega)) rfl rfl rfl ?_
    refine s_y (y_assign rfl) rfl rfl rfl ?_
    refine s_nil ?_
    refine f_then ?_
    refine c_seq ?_
    refine c_tail 9 Try.mixed (by kernel_rfl) K.drew ?_
    refine w_y (y_fieldAddrB Try.tab 7 rfl rfl rfl rfl rfl) rfl rfl rfl ?_
    refine w_y (y_load Try.tab rfl rfl (cell_row 1 rfl rfl)) rfl rfl rfl ?_
    refine w_y (y_move rfl) rfl rfl rfl ?_
    refine w_y (y_add rfl rfl (by omega)) rfl rfl rfl ?_
    refine w_y (y_move rfl) rfl rfl rfl ?_
    refine w_y (y_fieldAddrB Try.tab 8 rfl rfl rfl rfl rfl) rfl rfl rfl ?_
    refine w_y (y_load Try.tab rfl rfl (cell_row 1 rfl rfl)) rfl rfl rfl ?_
    refine w_y (y_quo rfl rfl (by omega)) rfl rfl rfl ?_
    refine w_y (y_build Try.tab rfl rfl rfl rfl rfl) rfl rfl rfl ?_
    refine w_nil ?_
    refine s_set (set_box Try.tab 0 rfl rfl rfl rfl rfl rfl rfl) rfl rfl ?_
    refine s_nil ?_
    refine f_then ?_
    refine c_ret ?_
    exact f_retE () (resA Try.tab rfl rfl rfl rfl rfl (cells_row0 0 rfl rfl)) (by unfold rcell; rw [hld]; rfl) (fun w h => h.tail.tail)
  | false =>
    refine c_seq ?_
    refine c_region ?_
    refine s_do (do_box rfl) rfl rfl rfl (fun b2 => ?_)
    refine s_do (do_alloc Try.tab rfl) rfl rfl rfl (fun b4 => ?_)
    refine s_nil ?_
    refine f_then ?_
    refine c_seq ?_
    refine c_region ?_
    refine s_y (y_move rfl) rfl rfl rfl ?_
    refine s_y (y_loadA Try.tab rfl rfl rfl rfl (cells_row0 1 rfl rfl)) rfl rfl rfl ?_
    refine s_call (en_f rfl Try.call80) (base_spec _ _ _ _ _ _ _ (by omega) (by omega)) rfl rfl rfl (fun _ => ?_)
    refine s_y (y_sub rfl rfl (by omega)) rfl rfl rfl ?_
    refine s_y (y_assign rfl) rfl rfl rfl ?_
    refine s_nil ?_
    refine f_then ?_
    refine c_seq ?_
    refine c_region ?_
    refine s_y (y_move rfl) rfl rfl rfl ?_
    refine s_y (y_fieldAddrB Try.tab 8 rfl rfl rfl rfl rfl) rfl rfl rfl ?_
    refine s_y (y_load Try.tab rfl rfl (cell_row 1 rfl rfl)) rfl rfl rfl ?_
    refine s_y (y_rem rfl rfl (by omega)) rfl rfl rfl ?_
    refine s_y (y_assign rfl) rfl rfl rfl ?_
    refine s_nil ?_
    refine f_then ?_
    refine c_seq ?_
    refine c_seq ?_
    refine c_region ?_
    refine s_y (y_fieldAddr0 Try.tab rfl rfl rfl rfl rfl) rfl rfl rfl ?_
    refine s_y (y_fieldAddr0 Try.tab rfl rfl rfl rfl rfl) rfl rfl rfl ?_
    refine s_y (y_fieldAddrB Try.tab 4 rfl rfl rfl rfl rfl) rfl rfl rfl ?_
    refine s_y (y_load Try.tab rfl rfl (cell_row 1 rfl rfl)) rfl rfl rfl ?_
    refine s_nil ?_
    refine f_then ?_
    rw [hld]
    refine c_condF rfl ?_
    refine c_skip ?_
    refine f_then ?_
    refine c_seq ?_
    refine c_tail 9 Try.mixed (by kernel_rfl) K.drew ?_
    refine w_y (y_fieldAddrB Try.tab 7 rfl rfl rfl rfl rfl) rfl rfl rfl ?_
    refine w_y (y_load Try.tab rfl rfl (cell_row 1 rfl rfl)) rfl rfl rfl ?_
    refine w_y (y_move rfl) rfl rfl rfl ?_
    refine w_y (y_add rfl rfl (by omega)) rfl rfl rfl ?_
    refine w_y (y_move rfl) rfl rfl rfl ?_
    refine w_y (y_fieldAddrB Try.tab 8 rfl rfl rfl rfl rfl) rfl rfl rfl ?_
    refine w_y (y_load Try.tab rfl rfl (cell_row 1 rfl rfl)) rfl rfl rfl ?_
    refine w_y (y_quo rfl rfl (by omega)) rfl rfl rfl ?_
    refine w_y (y_build Try.tab rfl rfl rfl rfl rfl) rfl rfl rfl ?_
    refine w_nil ?_
    refine s_set (set_box Try.tab 0 rfl rfl rfl rfl rfl rfl rfl) rfl rfl ?_
    refine s_nil ?_
    refine f_then ?_
    refine c_ret ?_
    exact f_retE () (resA Try.tab rfl rfl rfl rfl rfl (cells_row0 0 rfl rfl)) (by unfold rcell; rw [hld]; rfl) (fun w h => h.tail.tail)
/-- The bundle of a note of a ream. -/
def rbun (l : Lay) (p f d note : Int) : Int := (note - f * p) / d * ((d + l.b - 1) / l.b) + (note - f * p) % d / l.b
set_option maxHeartbeats 4000000 in
theorem mbundle_spec (W : World) (Ls : List Chunk) (l : Lay) (s p f d note : Int) (h : l.OK) (hf : 0 ≤ f ∧ f ≤ 1099511627776) (hp : 0 ≤ p ∧ p ≤ 256) (hd : 1 ≤ d ∧ d ≤ 10000) (hn : 0 ≤ note - f * p ∧ note ≤ 1099511627776) :
    Spec Try.prog 84 #[rmV l s p f d, .int .i64 note] (K W Ls) (fun _ : Unit => .int .i64 (rbun l p f d note)) (fun _ => K W Ls) := by
  have h4 := h.b
  have hb := mul_bd hf hp
  have h1 := div_bd (a := note - f * p) (b := d) (by omega) (by omega)
  have h2 := mod_bd (a := note - f * p) (b := d) (by omega)
  have h3 := div_bd (a := d + l.b - 1) (b := l.b) (by omega) (by omega)
  have h5 := mul_bd (a := (note - f * p) / d) (b := (d + l.b - 1) / l.b) (A := 1099511627776) (B := 11000) (by omega) (by omega)
  have h6 := div_bd (a := (note - f * p) % d) (b := l.b) (by omega) (by omega)
  refine enter (args := [_, _]) Try.func84 rfl Try.ntmps84 rfl ?_
  refine c_seq ?_
  refine c_region ?_
  refine s_do (do_box rfl) rfl rfl rfl (fun b2 => ?_)
  refine s_y (y_assign rfl) rfl rfl rfl ?_
  refine s_nil ?_
  refine f_then ?_
  refine c_seq ?_
  refine c_region ?_
  refine s_y (y_move rfl) rfl rfl rfl ?_
  refine s_y (y_loadA Try.tab rfl rfl rfl rfl (cells_row0 0 rfl rfl)) rfl rfl rfl ?_
  refine s_call (en_f rfl Try.call80) (base_spec _ _ _ _ _ _ _ (by omega) (by omega)) rfl rfl rfl (fun _ => ?_)
  refine s_y (y_sub rfl rfl (by omega)) rfl rfl rfl ?_
  refine s_y (y_assign rfl) rfl rfl rfl ?_
  refine s_nil ?_
  refine f_then ?_
  refine c_seq ?_
  refine c_quiet Try.mixed (by kernel_rfl) K.drew ?_
  refine q_y (y_move rfl) rfl rfl rfl ?_
  refine q_y (y_fieldAddrB Try.tab 8 rfl rfl rfl rfl rfl) rfl rfl rfl ?_
  refine q_y (y_load Try.tab rfl rfl (cell_row 0 rfl rfl)) rfl rfl rfl ?_
  refine q_y (y_quo rfl rfl (by omega)) rfl rfl rfl ?_
  refine q_y (y_loadA Try.tab rfl rfl rfl rfl (cells_row0 0 rfl rfl)) rfl rfl rfl ?_
  refine q_call (en_f rfl Try.call83) (perStack_spec _ _ _ _ _ _ _ (by assumption) (by omega)) rfl rfl rfl ?_
  refine q_y (y_mul rfl rfl (by omega)) rfl rfl rfl ?_
  refine q_y (y_move rfl) rfl rfl rfl ?_
  refine q_y (y_fieldAddrB Try.tab 8 rfl rfl rfl rfl rfl) rfl rfl rfl ?_
  refine q_y (y_load Try.tab rfl rfl (cell_row 0 rfl rfl)) rfl rfl rfl ?_
  refine q_y (y_rem rfl rfl (by omega)) rfl rfl rfl ?_
  refine q_y (y_fieldAddr0 Try.tab rfl rfl rfl rfl rfl) rfl rfl rfl ?_
  refine q_y (y_fieldAddr0 Try.tab rfl rfl rfl rfl rfl) rfl rfl rfl ?_
  refine q_y (y_fieldAddrB Try.tab 3 rfl rfl rfl rfl rfl) rfl rfl rfl ?_
  refine q_y (y_load Try.tab rfl rfl (cell_row 0 rfl rfl)) rfl rfl rfl ?_
  refine q_y (y_quo rfl rfl (by omega)) rfl rfl rfl ?_
  refine q_y (y_add rfl rfl (by omega)) rfl rfl rfl ?_
  refine q_y (y_assign rfl) rfl rfl rfl ?_
  refine q_nil ?_
  refine f_then ?_
  refine c_ret ?_
  exact f_retE () (res1 rfl rfl) (by unfold rbun; rfl) (fun w h => h.tail)
set_option maxRecDepth 10000 in
set_option maxHeartbeats 4000000 in
theorem reamOf_spec (W : World) (Ls : List Chunk) (l : Lay) (s p note : Int) (h : l.OK) (hs : SOK s) (hp : 1 ≤ p ∧ p ≤ 256) (hn : 0 ≤ note ∧ note ≤ 4294967296) :
    Spec Try.prog 57 #[runV l s p, .int .i64 note] (K W Ls) (fun _ : Unit => rmV l s p (note / (l.m * p) * l.m) (min l.m (s - note / (l.m * p) * l.m))) (fun _ => K W Ls) := by
  have h3 := h.m
  have hb := mul_bd (a := l.m) (b := p) (A := 10000) (B := 256) (by omega) (by omega)
  have hb' := mul_pos1 h3.1 hp.1
  have h1 := div_bd (a := note) (b := l.m * p) (by omega) (by omega)
  refine enter (args := [_, _]) Try.func57 rfl Try.ntmps57 rfl ?_
  refine c_seq ?_
  refine c_region ?_
  refine s_do (do_box rfl) rfl rfl rfl (fun b2 => ?_)
  refine s_do (do_alloc Try.tab rfl) rfl rfl rfl (fun b4 => ?_)
  refine s_nil ?_
  refine f_then ?_
  refine c_seq ?_
  refine c_plan [.c 0, .c 1, .c 2, .c 3, .c 4, .c 5, .c 6, .c 7, .c 8, .c 9, .s 10] [10] ((K W ([(b2, row 95 (runV l s p).cells.toList)] :: Ls))) Try.mixed (by kernel_rfl) rfl K.cl ?_
  refine d_c rfl (Qui.ylds (y_loadA Try.tab rfl rfl rfl rfl (cells_row0 0 rfl rfl))) rfl rfl rfl (fun _ h => h.tail) K.cl ?_
  refine d_c rfl (Qui.ylds (y_move rfl)) rfl rfl rfl (fun _ h => h.tail) K.cl ?_
  refine d_c rfl (Qui.ylds (y_fieldAddr0 Try.tab rfl rfl rfl rfl rfl)) rfl rfl rfl (fun _ h => h.tail) K.cl ?_
  refine d_c rfl (Qui.ylds (y_fieldAddrB Try.tab 2 rfl rfl rfl rfl rfl)) rfl rfl rfl (fun _ h => h.tail) K.cl ?_
  refine d_c rfl (Qui.ylds (y_load Try.tab rfl rfl (cell_row 0 rfl rfl))) rfl rfl rfl (fun _ h => h.tail) K.cl ?_
  refine d_c rfl (Qui.ylds (y_fieldAddrB Try.tab 6 rfl rfl rfl rfl rfl)) rfl rfl rfl (fun _ h => h.tail) K.cl ?_
  refine d_c rfl (Qui.ylds (y_load Try.tab rfl rfl (cell_row 0 rfl rfl))) rfl rfl rfl (fun _ h => h.tail) K.cl ?_
  refine d_c rfl (Qui.ylds (y_mul rfl rfl (by omega))) rfl rfl rfl (fun _ h => h.tail) K.cl ?_
  refine d_c rfl (Qui.ylds (y_quo rfl rfl (by omega))) rfl rfl rfl (fun _ h => h.tail) K.cl ?_
  refine d_c rfl (Qui.call (en_f rfl Try.call78) (fun w _ => (ream_spec w [] l s p (note / (l.m * p)) h hs (by omega)).qui)) rfl rfl rfl (fun _ h => h.tail) K.cl ?_
  refine d_set rfl (set_box Try.tab 0 rfl rfl rfl rfl rfl rfl rfl) rfl rfl K.cl (fun h => by cases h) ?_
  refine d_nil ?_
  refine f_then ?_
  refine c_ret ?_
  exact f_ret () (resA Try.tab rfl rfl rfl rfl rfl (cells_row0 0 rfl rfl)) (fun w h => h.tail.tail)
end Go.KL
end

section
/- Walks: package sheet, notes, cells and bundles of a print run. -/
namespace Go.KL
open Go.Proofs
/-- The first sheet of the ream of a sheet; a ream's depth. -/
def rF (l : Lay) (sh : Int) : Int := sh / l.m * l.m
def rD (l : Lay) (s f : Int) : Int := min l.m (s - f)
theorem rF_bd (l : Lay) (sh : Int) (hm : 1 ≤ l.m) (h : 0 ≤ sh) : 0 ≤ rF l sh ∧ rF l sh ≤ sh ∧ sh < rF l sh + l.m := by
  unfold rF
  have h1 := Int.mul_ediv_add_emod sh l.m
  have h2 := mod_bd (a := sh) hm
  have h3 : l.m * (sh / l.m) = sh / l.m * l.m := Int.mul_comm _ _
  have h4 := Int.mul_nonneg (div_bd h hm).1 (show 0 ≤ l.m by omega)
  omega
theorem perS_bd {d b : Int} (hd : 0 ≤ d) (hb : 1 ≤ b) : 0 ≤ (d + b - 1) / b ∧ (d + b - 1) / b ≤ d := by
  refine ⟨Int.ediv_nonneg (by omega) (by omega), ?_⟩
  have q : d * 1 ≤ d * b := Int.mul_le_mul_of_nonneg_left hb hd
  have q2 : (d + b - 1) / b ≤ (b - 1 + d * b) / b := Int.ediv_le_ediv (by omega) (by omega)
  have q3 : (b - 1) / b = 0 := Int.ediv_eq_zero_of_lt (by omega) (by omega)
  rw [Int.add_mul_ediv_right _ _ (by omega), q3] at q2
  omega
theorem perS_pos {d b : Int} (hd : 1 ≤ d) (hb : 1 ≤ b) : 1 ≤ (d + b - 1) / b := by
  have : (1 * b) / b ≤ (d + b - 1) / b := Int.ediv_le_ediv (by omega) (by omega)
  rwa [Int.mul_ediv_cancel _ (by omega)] at this
def noteF (l : Lay) (s p sh pos : Int) : Int := rnote l p (rF l sh) (rD l s (rF l sh)) (sh - rF l sh) pos
attribute [local irreducible] SC St Fin Sq Sw Ylds Doos Sets Enters Spec CellIs CellsAre Then Ret Rnd Chn resOK ints bools recs arr
set_option maxRecDepth 10000 in
set_option maxHeartbeats 4000000 in
theorem note_spec (W : World) (Ls : List Chunk) (l : Lay) (s p sh pos : Int) (h : l.OK) (hs : SOK s) (hp : 1 ≤ p ∧ p ≤ 256) (hsh : 0 ≤ sh ∧ sh < s) (hpos : 0 ≤ pos ∧ pos < p) :
    Spec Try.prog 54 #[runV l s p, cellV sh pos] (K W Ls) (fun _ : Unit => .int .i64 (noteF l s p sh pos)) (fun _ => K W Ls) := by
  have h3 := h.m
  have h1 := div_bd (a := sh) (b := l.m) (by omega) (by omega)
  have h2 := rF_bd l sh h3.1 hsh.1
  unfold rF at h2
  refine enter (args := [_, _]) Try.func54 rfl Try.ntmps54 rfl ?_
  refine c_seq ?_
  refine c_region ?_
  refine s_do (do_box rfl) rfl rfl rfl (fun b2 => ?_)
  refine s_do (do_box rfl) rfl rfl rfl (fun b3 => ?_)
  refine s_y (y_assign rfl) rfl rfl rfl ?_
  refine s_nil ?_
  refine f_then ?_
  refine c_seq ?_
  refine c_plan [.c 0, .c 1, .c 2, .c 3, .c 4, .c 5, .c 6, .c 7, .s 8, .s 9] [9] ((K W ([(b3, row 37 (cellV sh pos).cells.toList)] :: [(b2, row 95 (runV l s p).cells.toList)] :: Ls))) Try.mixed (by kernel_rfl) rfl K.cl ?_
  refine d_c rfl (Qui.ylds (y_loadA Try.tab rfl rfl rfl rfl (cells_row0 1 rfl rfl))) rfl rfl rfl (fun _ h => h) K.cl ?_
  refine d_c rfl (Qui.ylds (y_fieldAddr0 Try.tab rfl rfl rfl rfl rfl)) rfl rfl rfl (fun _ h => h) K.cl ?_
  refine d_c rfl (Qui.ylds (y_load Try.tab rfl rfl (cell_row 0 rfl rfl))) rfl rfl rfl (fun _ h => h) K.cl ?_
  refine d_c rfl (Qui.ylds (y_fieldAddr0 Try.tab rfl rfl rfl rfl rfl)) rfl rfl rfl (fun _ h => h) K.cl ?_
  refine d_c rfl (Qui.ylds (y_fieldAddrB Try.tab 2 rfl rfl rfl rfl rfl)) rfl rfl rfl (fun _ h => h) K.cl ?_
  refine d_c rfl (Qui.ylds (y_load Try.tab rfl rfl (cell_row 1 rfl rfl))) rfl rfl rfl (fun _ h => h) K.cl ?_
  refine d_c rfl (Qui.ylds (y_quo rfl rfl (by omega))) rfl rfl rfl (fun _ h => h) K.cl ?_
  refine d_c rfl (Qui.call (en_f rfl Try.call78) (fun w _ => (ream_spec w [] l s p (sh / l.m) h hs (by omega)).qui)) rfl rfl rfl (fun _ h => h) K.cl ?_
  refine d_s rfl (do_alloc Try.tab rfl) rfl rfl rfl (fun _ => K.cl) (fun _ _ _ h => h.tail) (fun b5 => ?_)
  refine d_set rfl (set_box Try.tab 0 rfl rfl rfl rfl rfl rfl rfl) rfl rfl K.cl (fun h => by cases h) ?_
  refine d_nil ?_
  refine f_then ?_
  refine c_seq ?_
  refine c_region ?_
  refine s_y (y_loadA Try.tab rfl rfl rfl rfl (cells_row0 0 rfl rfl)) rfl rfl rfl ?_
  refine s_y (y_fieldAddr0 Try.tab rfl rfl rfl rfl rfl) rfl rfl rfl ?_
  refine s_y (y_load Try.tab rfl rfl (cell_row 1 rfl rfl)) rfl rfl rfl ?_
  refine s_y (y_fieldAddrB Try.tab 7 rfl rfl rfl rfl rfl) rfl rfl rfl ?_
  refine s_y (y_load Try.tab rfl rfl (cell_row 0 rfl rfl)) rfl rfl rfl ?_
  refine s_y (y_sub rfl rfl (by omega)) rfl rfl rfl ?_
  refine s_y (y_fieldAddrB Try.tab 1 rfl rfl rfl rfl rfl) rfl rfl rfl ?_
  refine s_y (y_load Try.tab rfl rfl (cell_row 1 rfl rfl)) rfl rfl rfl ?_
  refine s_call (en_f rfl Try.call79) (mnote_spec _ _ _ _ _ _ _ _ _ (by omega) (by omega) (by omega) (by omega) (by omega)) rfl rfl rfl (fun _ => ?_)
  refine s_y (y_assign rfl) rfl rfl rfl ?_
  refine s_nil ?_
  refine f_then ?_
  refine c_ret ?_
  exact f_ret () (res1 rfl rfl) (fun w h => h.tail.tail.tail)
set_option maxHeartbeats 4000000 in
theorem has_spec (W : World) (Ls : List Chunk) (l : Lay) (s p sh pos : Int) (hs : SOK s) (hp : 0 ≤ p ∧ p ≤ 256) :
    Spec Try.prog 53 #[runV l s p, cellV sh pos] (K W Ls) (fun _ : Unit => .bool (decide ((0 ≤ sh ∧ sh < s) ∧ 0 ≤ pos ∧ pos < p))) (fun _ => K W Ls) := by
  refine enter (args := [_, _]) Try.func53 rfl Try.ntmps53 rfl ?_
  by_cases h1 : 0 ≤ sh ∧ sh ≤ s - 1
  · by_cases h2 : 0 ≤ pos ∧ pos ≤ p - 1
    · refine c_seq ?_
      refine c_region ?_
      refine s_do (do_box rfl) rfl rfl rfl (fun b2 => ?_)
      refine s_do (do_box rfl) rfl rfl rfl (fun b3 => ?_)
      refine s_y (y_assign rfl) rfl rfl rfl ?_
      refine s_nil ?_
      refine f_then ?_
      refine c_seq ?_
      refine c_region ?_
      refine s_y (y_fieldAddr0 Try.tab rfl rfl rfl rfl rfl) rfl rfl rfl ?_
      refine s_y (y_load Try.tab rfl rfl (cell_row 0 rfl rfl)) rfl rfl rfl ?_
      refine s_y (y_fieldAddrB Try.tab 5 rfl rfl rfl rfl rfl) rfl rfl rfl ?_
      refine s_y (y_load Try.tab rfl rfl (cell_row 1 rfl rfl)) rfl rfl rfl ?_
      refine s_y (y_sub rfl rfl (by omega)) rfl rfl rfl ?_
      refine s_call (en_f rfl Try.call55) (sw_yes _ (by omega)) rfl rfl rfl (fun _ => ?_)
      refine s_y (y_move rfl) rfl rfl rfl ?_
      refine s_y (y_fieldAddrB Try.tab 1 rfl rfl rfl rfl rfl) rfl rfl rfl ?_
      refine s_y (y_load Try.tab rfl rfl (cell_row 0 rfl rfl)) rfl rfl rfl ?_
      refine s_y (y_fieldAddrB Try.tab 6 rfl rfl rfl rfl rfl) rfl rfl rfl ?_
      refine s_y (y_load Try.tab rfl rfl (cell_row 1 rfl rfl)) rfl rfl rfl ?_
      refine s_y (y_sub rfl rfl (by omega)) rfl rfl rfl ?_
      refine s_call (en_f rfl Try.call55) (sw_yes _ (by omega)) rfl rfl rfl (fun _ => ?_)
      refine s_y (y_pickT rfl rfl) rfl rfl rfl ?_
      refine s_y (y_assign rfl) rfl rfl rfl ?_
      refine s_nil ?_
      refine f_then ?_
      refine c_ret ?_
      exact f_retE () (res1 rfl rfl) (congrArg Value.bool (decide_eq_true (by omega)).symm) (fun w h => h.tail.tail)
    · refine c_seq ?_
      refine c_region ?_
      refine s_do (do_box rfl) rfl rfl rfl (fun b2 => ?_)
      refine s_do (do_box rfl) rfl rfl rfl (fun b3 => ?_)
      refine s_y (y_assign rfl) rfl rfl rfl ?_
      refine s_nil ?_
      refine f_then ?_
      refine c_seq ?_
      refine c_region ?_
      refine s_y (y_fieldAddr0 Try.tab rfl rfl rfl rfl rfl) rfl rfl rfl ?_
      refine s_y (y_load Try.tab rfl rfl (cell_row 0 rfl rfl)) rfl rfl rfl ?_
      refine s_y (y_fieldAddrB Try.tab 5 rfl rfl rfl rfl rfl) rfl rfl rfl ?_
      refine s_y (y_load Try.tab rfl rfl (cell_row 1 rfl rfl)) rfl rfl rfl ?_
      refine s_y (y_sub rfl rfl (by omega)) rfl rfl rfl ?_
      refine s_call (en_f rfl Try.call55) (sw_yes _ (by omega)) rfl rfl rfl (fun _ => ?_)
      refine s_y (y_move rfl) rfl rfl rfl ?_
      refine s_y (y_fieldAddrB Try.tab 1 rfl rfl rfl rfl rfl) rfl rfl rfl ?_
      refine s_y (y_load Try.tab rfl rfl (cell_row 0 rfl rfl)) rfl rfl rfl ?_
      refine s_y (y_fieldAddrB Try.tab 6 rfl rfl rfl rfl rfl) rfl rfl rfl ?_
      refine s_y (y_load Try.tab rfl rfl (cell_row 1 rfl rfl)) rfl rfl rfl ?_
      refine s_y (y_sub rfl rfl (by omega)) rfl rfl rfl ?_
      refine s_call (en_f rfl Try.call55) (sw_no _ (by omega)) rfl rfl rfl (fun _ => ?_)
      refine s_y (y_pickT rfl rfl) rfl rfl rfl ?_
      refine s_y (y_assign rfl) rfl rfl rfl ?_
      refine s_nil ?_
      refine f_then ?_
      refine c_ret ?_
      exact f_retE () (res1 rfl rfl) (congrArg Value.bool (decide_eq_false (by omega)).symm) (fun w h => h.tail.tail)
  · refine c_seq ?_
    refine c_region ?_
    refine s_do (do_box rfl) rfl rfl rfl (fun b2 => ?_)
    refine s_do (do_box rfl) rfl rfl rfl (fun b3 => ?_)
    refine s_y (y_assign rfl) rfl rfl rfl ?_
    refine s_nil ?_
    refine f_then ?_
    refine c_seq ?_
    refine c_region ?_
    refine s_y (y_fieldAddr0 Try.tab rfl rfl rfl rfl rfl) rfl rfl rfl ?_
    refine s_y (y_load Try.tab rfl rfl (cell_row 0 rfl rfl)) rfl rfl rfl ?_
    refine s_y (y_fieldAddrB Try.tab 5 rfl rfl rfl rfl rfl) rfl rfl rfl ?_
    refine s_y (y_load Try.tab rfl rfl (cell_row 1 rfl rfl)) rfl rfl rfl ?_
    refine s_y (y_sub rfl rfl (by omega)) rfl rfl rfl ?_
    refine s_call (en_f rfl Try.call55) (sw_no _ (by omega)) rfl rfl rfl (fun _ => ?_)
    refine s_y (y_move rfl) rfl rfl rfl ?_
    iterate 6 refine s_skip rfl rfl rfl ?_
    refine s_y (y_pickF rfl rfl) rfl rfl rfl ?_
    refine s_y (y_assign rfl) rfl rfl rfl ?_
    refine s_nil ?_
    refine f_then ?_
    refine c_ret ?_
    exact f_retE () (res1 rfl rfl) (congrArg Value.bool (decide_eq_false (by omega)).symm) (fun w h => h.tail.tail)
/-- Bundles of a whole ream; of the run. -/
def perR (l : Lay) (p : Int) : Int := p * ((l.m + l.b - 1) / l.b)
theorem perR_bd (l : Lay) (p : Int) (h : l.OK) (hp : 1 ≤ p ∧ p ≤ 256) : 1 ≤ perR l p ∧ perR l p ≤ 2560000 := by
  have h3 := h.m; have h4 := h.b
  have q1 := perS_bd (d := l.m) (b := l.b) (by omega) h4.1
  have q2 := perS_pos h3.1 h4.1
  have q3 := mul_bd (a := p) (b := (l.m + l.b - 1) / l.b) (A := 256) (B := 10000) (by omega) (by omega)
  have q4 := mul_pos1 hp.1 q2
  unfold perR
  omega
def bunsF (l : Lay) (s p : Int) : Int := s / l.m * perR l p + (if 0 < s % l.m then p * ((rD l s (s / l.m * l.m) + l.b - 1) / l.b) else 0)
set_option maxRecDepth 10000 in
set_option maxHeartbeats 4000000 in
theorem rbundles_spec (W : World) (Ls : List Chunk) (l : Lay) (s p : Int) (h : l.OK) (hs : SOK s) (hp : 1 ≤ p ∧ p ≤ 256) :
    Spec Try.prog 61 #[runV l s p] (K W Ls) (fun _ : Unit => .int .i64 (bunsF l s p)) (fun _ => K W Ls) := by
  have h3 := h.m; have h4 := h.b
  have h1 := div_bd (a := s) (b := l.m) (by omega) (by omega)
  have h2 := mod_bd (a := s) (b := l.m) (by omega)
  have h5 := rF_bd l s h3.1 hs.1
  unfold rF at h5
  have h6 := perR_bd l p h hp
  have h7 := mul_bd (a := s / l.m) (b := perR l p) (A := 1048576) (B := 2560000) (by omega) (by omega)
  have h8 := perS_bd (d := min l.m (s - s / l.m * l.m)) (b := l.b) (by omega) (by omega)
  have h9 := mul_bd (a := p) (b := (min l.m (s - s / l.m * l.m) + l.b - 1) / l.b) (A := 256) (B := 10000) (by omega) (by omega)
  unfold perR at h6 h7
  refine enter (args := [_]) Try.func61 rfl Try.ntmps61 rfl ?_
  by_cases hc : 0 < s % l.m
  · refine c_seq ?_
    refine c_region ?_
    refine s_do (do_box rfl) rfl rfl rfl (fun b1 => ?_)
    refine s_y (y_assign rfl) rfl rfl rfl ?_
    refine s_nil ?_
    refine f_then ?_
    refine c_seq ?_
    refine c_quiet Try.mixed (by kernel_rfl) K.drew ?_
    refine q_y (y_fieldAddrB Try.tab 5 rfl rfl rfl rfl rfl) rfl rfl rfl ?_
    refine q_y (y_load Try.tab rfl rfl (cell_row 0 rfl rfl)) rfl rfl rfl ?_
    refine q_y (y_fieldAddr0 Try.tab rfl rfl rfl rfl rfl) rfl rfl rfl ?_
    refine q_y (y_fieldAddrB Try.tab 2 rfl rfl rfl rfl rfl) rfl rfl rfl ?_
    refine q_y (y_load Try.tab rfl rfl (cell_row 0 rfl rfl)) rfl rfl rfl ?_
    refine q_y (y_quo rfl rfl (by omega)) rfl rfl rfl ?_
    refine q_y (y_loadA Try.tab rfl rfl rfl rfl (cells_row0 0 rfl rfl)) rfl rfl rfl ?_
    refine q_call (en_f rfl Try.call82) (perReam_spec _ _ _ _ _ h (by omega)) rfl rfl rfl ?_
    refine q_y (y_mul rfl rfl (by omega)) rfl rfl rfl ?_
    refine q_y (y_assign rfl) rfl rfl rfl ?_
    refine q_nil ?_
    refine f_then ?_
    refine c_seq ?_
    refine c_seq ?_
    refine c_region ?_
    refine s_y (y_fieldAddrB Try.tab 5 rfl rfl rfl rfl rfl) rfl rfl rfl ?_
    refine s_y (y_load Try.tab rfl rfl (cell_row 0 rfl rfl)) rfl rfl rfl ?_
    refine s_y (y_fieldAddr0 Try.tab rfl rfl rfl rfl rfl) rfl rfl rfl ?_
    refine s_y (y_fieldAddrB Try.tab 2 rfl rfl rfl rfl rfl) rfl rfl rfl ?_
    refine s_y (y_load Try.tab rfl rfl (cell_row 0 rfl rfl)) rfl rfl rfl ?_
    refine s_y (y_rem rfl rfl (by omega)) rfl rfl rfl ?_
    refine s_y (y_T (y_gtr rfl rfl) (by assumption)) rfl rfl rfl ?_
    refine s_nil ?_
    refine f_then ?_
    refine c_condT rfl ?_
    refine c_free [] ((K W ([(b1, row 95 (runV l s p).cells.toList)] :: Ls))) Try.mixed (by kernel_rfl) K.cl ?_
    refine l_c 0 rfl (by kernel_rfl) (Qui.ylds (y_move rfl)) rfl rfl rfl (fun _ h => h) K.cl ?_
    refine l_c 1 rfl (by kernel_rfl) (Qui.ylds (y_fieldAddrB Try.tab 6 rfl rfl rfl rfl rfl)) rfl rfl rfl (fun _ h => h) K.cl ?_
    refine l_c 2 rfl (by kernel_rfl) (Qui.ylds (y_load Try.tab rfl rfl (cell_row 0 rfl rfl))) rfl rfl rfl (fun _ h => h) K.cl ?_
    refine l_c 3 rfl (by kernel_rfl) (Qui.ylds (y_loadA Try.tab rfl rfl rfl rfl (cells_row0 0 rfl rfl))) rfl rfl rfl (fun _ h => h) K.cl ?_
    refine l_c 4 rfl (by kernel_rfl) (Qui.ylds (y_fieldAddrB Try.tab 5 rfl rfl rfl rfl rfl)) rfl rfl rfl (fun _ h => h) K.cl ?_
    refine l_c 5 rfl (by kernel_rfl) (Qui.ylds (y_load Try.tab rfl rfl (cell_row 0 rfl rfl))) rfl rfl rfl (fun _ h => h) K.cl ?_
    refine l_c 6 rfl (by kernel_rfl) (Qui.ylds (y_fieldAddr0 Try.tab rfl rfl rfl rfl rfl)) rfl rfl rfl (fun _ h => h) K.cl ?_
    refine l_c 7 rfl (by kernel_rfl) (Qui.ylds (y_fieldAddrB Try.tab 2 rfl rfl rfl rfl rfl)) rfl rfl rfl (fun _ h => h) K.cl ?_
    refine l_c 8 rfl (by kernel_rfl) (Qui.ylds (y_load Try.tab rfl rfl (cell_row 0 rfl rfl))) rfl rfl rfl (fun _ h => h) K.cl ?_
    refine l_c 9 rfl (by kernel_rfl) (Qui.ylds (y_quo rfl rfl (by omega))) rfl rfl rfl (fun _ h => h) K.cl ?_
    refine l_c 10 rfl (by kernel_rfl) (Qui.call (en_f rfl Try.call78) (fun w _ => (ream_spec w [] l s p (s / l.m) h hs (by omega)).qui)) rfl rfl rfl (fun _ h => h) K.cl ?_
    refine l_c 11 rfl (by kernel_rfl) (Qui.call (en_f rfl Try.call83) (fun w _ => (perStack_spec w [] l s p (s / l.m * l.m) (min l.m (s - s / l.m * l.m)) h (by omega)).qui)) rfl rfl rfl (fun _ h => h) K.cl ?_
    refine l_c 12 rfl (by kernel_rfl) (Qui.ylds (y_mul rfl rfl (by omega))) rfl rfl rfl (fun _ h => h) K.cl ?_
    refine l_c 13 rfl (by kernel_rfl) (Qui.ylds (y_add rfl rfl (by omega))) rfl rfl rfl (fun _ h => h) K.cl ?_
    refine l_c 14 rfl (by kernel_rfl) (Qui.ylds (y_assign rfl)) rfl rfl rfl (fun _ h => h) K.cl ?_
    refine l_nil (by kernel_rfl) ?_
    refine f_then ?_
    refine c_seq ?_
    refine c_region ?_
    refine s_y (y_move rfl) rfl rfl rfl ?_
    refine s_y (y_assign rfl) rfl rfl rfl ?_
    refine s_nil ?_
    refine f_then ?_
    refine c_ret ?_
    exact f_retE () (res1 rfl rfl) (by unfold bunsF perR rD; rw [if_pos hc]) (fun w h => h.tail)
  · refine c_seq ?_
    refine c_region ?_
    refine s_do (do_box rfl) rfl rfl rfl (fun b1 => ?_)
    refine s_y (y_assign rfl) rfl rfl rfl ?_
    refine s_nil ?_
    refine f_then ?_
    refine c_seq ?_
    refine c_quiet Try.mixed (by kernel_rfl) K.drew ?_
    refine q_y (y_fieldAddrB Try.tab 5 rfl rfl rfl rfl rfl) rfl rfl rfl ?_
    refine q_y (y_load Try.tab rfl rfl (cell_row 0 rfl rfl)) rfl rfl rfl ?_
    refine q_y (y_fieldAddr0 Try.tab rfl rfl rfl rfl rfl) rfl rfl rfl ?_
    refine q_y (y_fieldAddrB Try.tab 2 rfl rfl rfl rfl rfl) rfl rfl rfl ?_
    refine q_y (y_load Try.tab rfl rfl (cell_row 0 rfl rfl)) rfl rfl rfl ?_
    refine q_y (y_quo rfl rfl (by omega)) rfl rfl rfl ?_
    refine q_y (y_loadA Try.tab rfl rfl rfl rfl (cells_row0 0 rfl rfl)) rfl rfl rfl ?_
    refine q_call (en_f rfl Try.call82) (perReam_spec _ _ _ _ _ h (by omega)) rfl rfl rfl ?_
    refine q_y (y_mul rfl rfl (by omega)) rfl rfl rfl ?_
    refine q_y (y_assign rfl) rfl rfl rfl ?_
    refine q_nil ?_
    refine f_then ?_
    refine c_seq ?_
    refine c_seq ?_
    refine c_region ?_
    refine s_y (y_fieldAddrB Try.tab 5 rfl rfl rfl rfl rfl) rfl rfl rfl ?_
    refine s_y (y_load Try.tab rfl rfl (cell_row 0 rfl rfl)) rfl rfl rfl ?_
    refine s_y (y_fieldAddr0 Try.tab rfl rfl rfl rfl rfl) rfl rfl rfl ?_
    refine s_y (y_fieldAddrB Try.tab 2 rfl rfl rfl rfl rfl) rfl rfl rfl ?_
    refine s_y (y_load Try.tab rfl rfl (cell_row 0 rfl rfl)) rfl rfl rfl ?_
    refine s_y (y_rem rfl rfl (by omega)) rfl rfl rfl ?_
    refine s_y (y_F (y_gtr rfl rfl) (by assumption)) rfl rfl rfl ?_
    refine s_nil ?_
    refine f_then ?_
    refine c_condF rfl ?_
    refine c_skip ?_
    refine f_then ?_
    refine c_seq ?_
    refine c_region ?_
    refine s_y (y_move rfl) rfl rfl rfl ?_
    refine s_y (y_assign rfl) rfl rfl rfl ?_
    refine s_nil ?_
    refine f_then ?_
    refine c_ret ?_
    exact f_retE () (res1 rfl rfl) (by unfold bunsF perR; rw [if_neg hc, Int.add_zero]) (fun w h => h.tail)
def bunOfF (l : Lay) (s p note : Int) : Int := (note / (l.m * p) * l.m) / l.m * perR l p + rbun l p (note / (l.m * p) * l.m) (rD l s (note / (l.m * p) * l.m)) note
theorem note_ream (l : Lay) (s p note : Int) (h : l.OK) (hp : 1 ≤ p ∧ p ≤ 256) (hn : 0 ≤ note ∧ note < s * p) : 0 ≤ note / (l.m * p) * l.m ∧ note / (l.m * p) * l.m < s ∧ 0 ≤ note - note / (l.m * p) * l.m * p := by
  have h3 := h.m
  have h1 := mul_pos1 h3.1 hp.1
  have h2 := div_bd (a := note) (b := l.m * p) hn.1 h1
  have h4 := Int.mul_ediv_add_emod note (l.m * p)
  have h5 := mod_bd (a := note) h1
  have h6 : l.m * p * (note / (l.m * p)) = note / (l.m * p) * l.m * p := by rw [Int.mul_comm, Int.mul_assoc]
  have h7 := Int.mul_nonneg h2.1 (show 0 ≤ l.m by omega)
  refine ⟨h7, ?_, by omega⟩
  have h8 : note / (l.m * p) * l.m * p < s * p := by omega
  exact Int.lt_of_mul_lt_mul_right h8 (by omega)
set_option maxRecDepth 10000 in
set_option maxHeartbeats 4000000 in
theorem bundleOf_spec (W : World) (Ls : List Chunk) (l : Lay) (s p note : Int) (h : l.OK) (hs : SOK s) (hp : 1 ≤ p ∧ p ≤ 256) (hn : 0 ≤ note ∧ note < s * p) :
    Spec Try.prog 63 #[runV l s p, .int .i64 note] (K W Ls) (fun _ : Unit => .int .i64 (bunOfF l s p note)) (fun _ => K W Ls) := by
  have h3 := h.m; have h4 := h.b
  have hsp := mul_bd (a := s) (b := p) (A := 1048576) (B := 256) (by omega) (by omega)
  have h1 := note_ream l s p note h hp hn
  have h6 := perR_bd l p h hp
  have h2 := div_bd (a := note / (l.m * p) * l.m) (b := l.m) (by omega) (by omega)
  have h7 := mul_bd (a := note / (l.m * p) * l.m / l.m) (b := perR l p) (A := 1048576) (B := 2560000) (by omega) (by omega)
  unfold perR at h7
  have q0 := Int.mul_nonneg h1.1 (show 0 ≤ p by omega)
  have q1 := div_bd (a := note - note / (l.m * p) * l.m * p) (b := min l.m (s - note / (l.m * p) * l.m)) (by omega) (by omega)
  have q2 := mod_bd (a := note - note / (l.m * p) * l.m * p) (b := min l.m (s - note / (l.m * p) * l.m)) (by omega)
  have q3 := perS_bd (d := min l.m (s - note / (l.m * p) * l.m)) (b := l.b) (by omega) (by omega)
  have q4 := mul_bd (a := (note - note / (l.m * p) * l.m * p) / min l.m (s - note / (l.m * p) * l.m)) (b := (min l.m (s - note / (l.m * p) * l.m) + l.b - 1) / l.b) (A := 268435456) (B := 10000) (by omega) (by omega)
  have q5 := div_bd (a := (note - note / (l.m * p) * l.m * p) % min l.m (s - note / (l.m * p) * l.m)) (b := l.b) (by omega) (by omega)
  have q6 : 0 ≤ rbun l p (note / (l.m * p) * l.m) (min l.m (s - note / (l.m * p) * l.m)) note ∧ rbun l p (note / (l.m * p) * l.m) (min l.m (s - note / (l.m * p) * l.m)) note ≤ 268435456 * 10000 + 10000 := by unfold rbun; omega
  refine enter (args := [_, _]) Try.func63 rfl Try.ntmps63 rfl ?_
  refine c_seq ?_
  refine c_region ?_
  refine s_do (do_box rfl) rfl rfl rfl (fun b2 => ?_)
  refine s_y (y_assign rfl) rfl rfl rfl ?_
  refine s_nil ?_
  refine f_then ?_
  refine c_seq ?_
  refine c_region ?_
  refine s_y (y_loadA Try.tab rfl rfl rfl rfl (cells_row0 0 rfl rfl)) rfl rfl rfl ?_
  refine s_y (y_move rfl) rfl rfl rfl ?_
  refine s_call (en_f rfl Try.call57) (reamOf_spec _ _ _ _ _ _ h hs hp (by omega)) rfl rfl rfl (fun _ => ?_)
  refine s_do (do_alloc Try.tab rfl) rfl rfl rfl (fun b5 => ?_)
  refine s_set (set_box Try.tab 0 rfl rfl rfl rfl rfl rfl rfl) rfl rfl ?_
  refine s_nil ?_
  refine f_then ?_
  refine c_seq ?_
  refine c_free [] ((K W ([(b5, row 103 (rmV l s p (note / (l.m * p) * l.m) (min l.m (s - note / (l.m * p) * l.m))).cells.toList)] :: [(b2, row 95 (runV l s p).cells.toList)] :: Ls))) Try.mixed (by kernel_rfl) K.cl ?_
  refine l_c 0 rfl (by kernel_rfl) (Qui.ylds (y_fieldAddrB Try.tab 7 rfl rfl rfl rfl rfl)) rfl rfl rfl (fun _ h => h) K.cl ?_
  refine l_c 1 rfl (by kernel_rfl) (Qui.ylds (y_load Try.tab rfl rfl (cell_row 0 rfl rfl))) rfl rfl rfl (fun _ h => h) K.cl ?_
  refine l_c 2 rfl (by kernel_rfl) (Qui.ylds (y_fieldAddr0 Try.tab rfl rfl rfl rfl rfl)) rfl rfl rfl (fun _ h => h) K.cl ?_
  refine l_c 3 rfl (by kernel_rfl) (Qui.ylds (y_fieldAddrB Try.tab 2 rfl rfl rfl rfl rfl)) rfl rfl rfl (fun _ h => h) K.cl ?_
  refine l_c 4 rfl (by kernel_rfl) (Qui.ylds (y_load Try.tab rfl rfl (cell_row 1 rfl rfl))) rfl rfl rfl (fun _ h => h) K.cl ?_
  refine l_c 5 rfl (by kernel_rfl) (Qui.ylds (y_quo rfl rfl (by omega))) rfl rfl rfl (fun _ h => h) K.cl ?_
  refine l_c 6 rfl (by kernel_rfl) (Qui.ylds (y_loadA Try.tab rfl rfl rfl rfl (cells_row0 1 rfl rfl))) rfl rfl rfl (fun _ h => h) K.cl ?_
  refine l_c 7 rfl (by kernel_rfl) (Qui.call (en_f rfl Try.call82) (fun w _ => (perReam_spec w [] l s p h (by omega)).qui)) rfl rfl rfl (fun _ h => h) K.cl ?_
  refine l_c 8 rfl (by kernel_rfl) (Qui.ylds (y_mul rfl rfl (by omega))) rfl rfl rfl (fun _ h => h) K.cl ?_
  refine l_c 9 rfl (by kernel_rfl) (Qui.ylds (y_loadA Try.tab rfl rfl rfl rfl (cells_row0 0 rfl rfl))) rfl rfl rfl (fun _ h => h) K.cl ?_
  refine l_c 10 rfl (by kernel_rfl) (Qui.ylds (y_move rfl)) rfl rfl rfl (fun _ h => h) K.cl ?_
  refine l_c 11 rfl (by kernel_rfl) (Qui.call (en_f rfl Try.call84) (fun w _ => (mbundle_spec w [] l s p (note / (l.m * p) * l.m) (min l.m (s - note / (l.m * p) * l.m)) note h (by omega) (by omega) (by omega) (by omega)).qui)) rfl rfl rfl (fun _ h => h) K.cl ?_
  refine l_c 12 rfl (by kernel_rfl) (Qui.ylds (y_add rfl rfl (by omega))) rfl rfl rfl (fun _ h => h) K.cl ?_
  refine l_c 13 rfl (by kernel_rfl) (Qui.ylds (y_assign rfl)) rfl rfl rfl (fun _ h => h) K.cl ?_
  refine l_nil (by kernel_rfl) ?_
  refine f_then ?_
  refine c_ret ?_
  exact f_retE () (res1 rfl rfl) (by unfold bunOfF perR rD; rfl) (fun w h => h.tail.tail)
end Go.KL
end

section
/- Walks: package sheet, the notes of a bundle. -/
namespace Go.KL
open Go.Proofs
attribute [local irreducible] SC St Fin Sq Sw Ylds Doos Sets Enters Spec CellIs CellsAre Then Ret Rnd Chn resOK ints bools recs arr
/-- The notes of a bundle. -/
def bunD (l : Lay) (s p n : Int) : Int := rD l s (n / perR l p * l.m)
def bunLo (l : Lay) (s p n : Int) : Int := n / perR l p * l.m * p + n % perR l p / ((bunD l s p n + l.b - 1) / l.b) * bunD l s p n + n % perR l p % ((bunD l s p n + l.b - 1) / l.b) * l.b
def bunHi (l : Lay) (s p n : Int) : Int := min (bunLo l s p n + l.b) (n / perR l p * l.m * p + (n % perR l p / ((bunD l s p n + l.b - 1) / l.b) + 1) * bunD l s p n)
set_option maxRecDepth 10000 in
set_option maxHeartbeats 4000000 in
theorem rbundle_spec (W : World) (Ls : List Chunk) (l : Lay) (s p n : Int) (h : l.OK) (hs : SOK s) (hp : 1 ≤ p ∧ p ≤ 256) (hn : 0 ≤ n ∧ n ≤ 4398046511104) (hd : n / perR l p * l.m < s) :
    Spec Try.prog 62 #[runV l s p, .int .i64 n] (K W Ls) (fun _ : Unit => .tuple #[.int .i64 (bunLo l s p n), .int .i64 (bunHi l s p n)]) (fun _ => K W Ls) := by
  have h3 := h.m; have h4 := h.b
  have h6 := perR_bd l p h hp
  have h1 := div_bd (a := n) (b := perR l p) hn.1 h6.1
  have h2 := mod_bd (a := n) (b := perR l p) h6.1
  have h5 := Int.mul_nonneg h1.1 (show 0 ≤ l.m by omega)
  have h8 : n / perR l p * 1 ≤ n / perR l p * l.m := Int.mul_le_mul_of_nonneg_left h3.1 h1.1
  have h7 := mul_bd (a := n / perR l p * l.m) (b := p) (A := 1048576) (B := 256) (by omega) (by omega)
  have q3 := perS_bd (d := min l.m (s - n / perR l p * l.m)) (b := l.b) (by omega) (by omega)
  have q4 := perS_pos (d := min l.m (s - n / perR l p * l.m)) (b := l.b) (by omega) (by omega)
  have q5 := div_bd (a := n % perR l p) (b := (min l.m (s - n / perR l p * l.m) + l.b - 1) / l.b) (by omega) (by omega)
  have q6 := mod_bd (a := n % perR l p) (b := (min l.m (s - n / perR l p * l.m) + l.b - 1) / l.b) (by omega)
  have q7 := mul_bd (a := n % perR l p / ((min l.m (s - n / perR l p * l.m) + l.b - 1) / l.b)) (b := min l.m (s - n / perR l p * l.m)) (A := 2560000) (B := 10000) (by omega) (by omega)
  have q8 := mul_bd (a := n % perR l p % ((min l.m (s - n / perR l p * l.m) + l.b - 1) / l.b)) (b := l.b) (A := 10000) (B := 1000) (by omega) (by omega)
  have q9 := mul_bd (a := n % perR l p / ((min l.m (s - n / perR l p * l.m) + l.b - 1) / l.b) + 1) (b := min l.m (s - n / perR l p * l.m)) (A := 2560001) (B := 10000) (by omega) (by omega)
  have e82 : ∀ W Ls, Spec Try.prog 82 #[runV l s p] (K W Ls) (fun _ : Unit => .int .i64 (perR l p)) (fun _ => K W Ls) := fun W Ls => perReam_spec W Ls l s p h (by omega)
  refine enter (args := [_, _]) Try.func62 rfl Try.ntmps62 rfl ?_
  refine c_seq ?_
  refine c_region ?_
  refine s_do (do_box rfl) rfl rfl rfl (fun b2 => ?_)
  refine s_y (y_assign rfl) rfl rfl rfl ?_
  refine s_y (y_assign rfl) rfl rfl rfl ?_
  refine s_nil ?_
  refine f_then ?_
  refine c_seq ?_
  refine c_plan [.c 0, .c 1, .c 2, .c 3, .c 4, .c 5, .s 6, .s 7] [7] ((K W ([(b2, row 95 (runV l s p).cells.toList)] :: Ls))) Try.mixed (by kernel_rfl) rfl K.cl ?_
  refine d_c rfl (Qui.ylds (y_loadA Try.tab rfl rfl rfl rfl (cells_row0 0 rfl rfl))) rfl rfl rfl (fun _ h => h) K.cl ?_
  refine d_c rfl (Qui.ylds (y_move rfl)) rfl rfl rfl (fun _ h => h) K.cl ?_
  refine d_c rfl (Qui.ylds (y_loadA Try.tab rfl rfl rfl rfl (cells_row0 0 rfl rfl))) rfl rfl rfl (fun _ h => h) K.cl ?_
  refine d_c rfl (Qui.call (en_f rfl Try.call82) (fun w _ => (e82 w []).qui)) rfl rfl rfl (fun _ h => h) K.cl ?_
  refine d_c rfl (Qui.ylds (y_quo rfl rfl (by omega))) rfl rfl rfl (fun _ h => h) K.cl ?_
  refine d_c rfl (Qui.call (en_f rfl Try.call78) (fun w _ => (ream_spec w [] l s p (n / perR l p) h hs (by omega)).qui)) rfl rfl rfl (fun _ h => h) K.cl ?_
  refine d_s rfl (do_alloc Try.tab rfl) rfl rfl rfl (fun _ => K.cl) (fun _ _ _ h => h.tail) (fun b6 => ?_)
  refine d_set rfl (set_box Try.tab 0 rfl rfl rfl rfl rfl rfl rfl) rfl rfl K.cl (fun h => by cases h) ?_
  refine d_nil ?_
  refine f_then ?_
  refine c_seq ?_
  refine c_region ?_
  refine s_y (y_move rfl) rfl rfl rfl ?_
  refine s_y (y_loadA Try.tab rfl rfl rfl rfl (cells_row0 1 rfl rfl)) rfl rfl rfl ?_
  refine s_call (en_f rfl Try.call82) (e82 _ _) rfl rfl rfl (fun _ => ?_)
  refine s_y (y_rem rfl rfl (by omega)) rfl rfl rfl ?_
  refine s_y (y_assign rfl) rfl rfl rfl ?_
  refine s_nil ?_
  refine f_then ?_
  refine c_seq ?_
  refine c_free [] ((K W ([(b6, row 103 (rmV l s p (n / perR l p * l.m) (min l.m (s - n / perR l p * l.m))).cells.toList)] :: [(b2, row 95 (runV l s p).cells.toList)] :: Ls))) Try.mixed (by kernel_rfl) K.cl ?_
  refine l_c 0 rfl (by kernel_rfl) (Qui.ylds (y_move rfl)) rfl rfl rfl (fun _ h => h) K.cl ?_
  refine l_c 1 rfl (by kernel_rfl) (Qui.ylds (y_loadA Try.tab rfl rfl rfl rfl (cells_row0 0 rfl rfl))) rfl rfl rfl (fun _ h => h) K.cl ?_
  refine l_c 2 rfl (by kernel_rfl) (Qui.call (en_f rfl Try.call83) (fun w _ => (perStack_spec w [] l s p (n / perR l p * l.m) (min l.m (s - n / perR l p * l.m)) h (by omega)).qui)) rfl rfl rfl (fun _ h => h) K.cl ?_
  refine l_c 3 rfl (by kernel_rfl) (Qui.ylds (y_quo rfl rfl (by omega))) rfl rfl rfl (fun _ h => h) K.cl ?_
  refine l_c 4 rfl (by kernel_rfl) (Qui.ylds (y_move rfl)) rfl rfl rfl (fun _ h => h) K.cl ?_
  refine l_c 5 rfl (by kernel_rfl) (Qui.ylds (y_loadA Try.tab rfl rfl rfl rfl (cells_row0 0 rfl rfl))) rfl rfl rfl (fun _ h => h) K.cl ?_
  refine l_c 6 rfl (by kernel_rfl) (Qui.call (en_f rfl Try.call83) (fun w _ => (perStack_spec w [] l s p (n / perR l p * l.m) (min l.m (s - n / perR l p * l.m)) h (by omega)).qui)) rfl rfl rfl (fun _ h => h) K.cl ?_
  refine l_c 7 rfl (by kernel_rfl) (Qui.ylds (y_rem rfl rfl (by omega))) rfl rfl rfl (fun _ h => h) K.cl ?_
  refine l_c 8 rfl (by kernel_rfl) (Qui.ylds (y_assign rfl)) rfl rfl rfl (fun _ h => h) K.cl ?_
  refine l_c 9 rfl (by kernel_rfl) (Qui.ylds (y_assign rfl)) rfl rfl rfl (fun _ h => h) K.cl ?_
  refine l_nil (by kernel_rfl) ?_
  refine f_then ?_
  refine c_seq ?_
  refine c_free [] ((K W ([(b6, row 103 (rmV l s p (n / perR l p * l.m) (min l.m (s - n / perR l p * l.m))).cells.toList)] :: [(b2, row 95 (runV l s p).cells.toList)] :: Ls))) Try.mixed (by kernel_rfl) K.cl ?_
  refine l_c 0 rfl (by kernel_rfl) (Qui.ylds (y_loadA Try.tab rfl rfl rfl rfl (cells_row0 0 rfl rfl))) rfl rfl rfl (fun _ h => h) K.cl ?_
  refine l_c 1 rfl (by kernel_rfl) (Qui.call (en_f rfl Try.call80) (fun w _ => (base_spec w [] l s p (n / perR l p * l.m) (min l.m (s - n / perR l p * l.m)) (by omega) (by omega)).qui)) rfl rfl rfl (fun _ h => h) K.cl ?_
  refine l_c 2 rfl (by kernel_rfl) (Qui.ylds (y_move rfl)) rfl rfl rfl (fun _ h => h) K.cl ?_
  refine l_c 3 rfl (by kernel_rfl) (Qui.ylds (y_fieldAddrB Try.tab 8 rfl rfl rfl rfl rfl)) rfl rfl rfl (fun _ h => h) K.cl ?_
  refine l_c 4 rfl (by kernel_rfl) (Qui.ylds (y_load Try.tab rfl rfl (cell_row 0 rfl rfl))) rfl rfl rfl (fun _ h => h) K.cl ?_
  refine l_c 5 rfl (by kernel_rfl) (Qui.ylds (y_mul rfl rfl (by omega))) rfl rfl rfl (fun _ h => h) K.cl ?_
  refine l_c 6 rfl (by kernel_rfl) (Qui.ylds (y_add rfl rfl (by omega))) rfl rfl rfl (fun _ h => h) K.cl ?_
  refine l_c 7 rfl (by kernel_rfl) (Qui.ylds (y_move rfl)) rfl rfl rfl (fun _ h => h) K.cl ?_
  refine l_c 8 rfl (by kernel_rfl) (Qui.ylds (y_fieldAddr0 Try.tab rfl rfl rfl rfl rfl)) rfl rfl rfl (fun _ h => h) K.cl ?_
  refine l_c 9 rfl (by kernel_rfl) (Qui.ylds (y_fieldAddrB Try.tab 3 rfl rfl rfl rfl rfl)) rfl rfl rfl (fun _ h => h) K.cl ?_
  refine l_c 10 rfl (by kernel_rfl) (Qui.ylds (y_load Try.tab rfl rfl (cell_row 1 rfl rfl))) rfl rfl rfl (fun _ h => h) K.cl ?_
  refine l_c 11 rfl (by kernel_rfl) (Qui.ylds (y_mul rfl rfl (by omega))) rfl rfl rfl (fun _ h => h) K.cl ?_
  refine l_c 12 rfl (by kernel_rfl) (Qui.ylds (y_add rfl rfl (by omega))) rfl rfl rfl (fun _ h => h) K.cl ?_
  refine l_c 13 rfl (by kernel_rfl) (Qui.ylds (y_assign rfl)) rfl rfl rfl (fun _ h => h) K.cl ?_
  refine l_nil (by kernel_rfl) ?_
  refine f_then ?_
  refine c_seq ?_
  refine c_free [] ((K W ([(b6, row 103 (rmV l s p (n / perR l p * l.m) (min l.m (s - n / perR l p * l.m))).cells.toList)] :: [(b2, row 95 (runV l s p).cells.toList)] :: Ls))) Try.mixed (by kernel_rfl) K.cl ?_
  refine l_c 0 rfl (by kernel_rfl) (Qui.ylds (y_move rfl)) rfl rfl rfl (fun _ h => h) K.cl ?_
  refine l_c 1 rfl (by kernel_rfl) (Qui.ylds (y_move rfl)) rfl rfl rfl (fun _ h => h) K.cl ?_
  refine l_c 2 rfl (by kernel_rfl) (Qui.ylds (y_fieldAddr0 Try.tab rfl rfl rfl rfl rfl)) rfl rfl rfl (fun _ h => h) K.cl ?_
  refine l_c 3 rfl (by kernel_rfl) (Qui.ylds (y_fieldAddrB Try.tab 3 rfl rfl rfl rfl rfl)) rfl rfl rfl (fun _ h => h) K.cl ?_
  refine l_c 4 rfl (by kernel_rfl) (Qui.ylds (y_load Try.tab rfl rfl (cell_row 1 rfl rfl))) rfl rfl rfl (fun _ h => h) K.cl ?_
  refine l_c 5 rfl (by kernel_rfl) (Qui.ylds (y_add rfl rfl (by omega))) rfl rfl rfl (fun _ h => h) K.cl ?_
  refine l_c 6 rfl (by kernel_rfl) (Qui.ylds (y_loadA Try.tab rfl rfl rfl rfl (cells_row0 0 rfl rfl))) rfl rfl rfl (fun _ h => h) K.cl ?_
  refine l_c 7 rfl (by kernel_rfl) (Qui.call (en_f rfl Try.call80) (fun w _ => (base_spec w [] l s p (n / perR l p * l.m) (min l.m (s - n / perR l p * l.m)) (by omega) (by omega)).qui)) rfl rfl rfl (fun _ h => h) K.cl ?_
  refine l_c 8 rfl (by kernel_rfl) (Qui.ylds (y_move rfl)) rfl rfl rfl (fun _ h => h) K.cl ?_
  refine l_c 9 rfl (by kernel_rfl) (Qui.ylds (y_add rfl rfl (by omega))) rfl rfl rfl (fun _ h => h) K.cl ?_
  refine l_c 10 rfl (by kernel_rfl) (Qui.ylds (y_fieldAddrB Try.tab 8 rfl rfl rfl rfl rfl)) rfl rfl rfl (fun _ h => h) K.cl ?_
  refine l_c 11 rfl (by kernel_rfl) (Qui.ylds (y_load Try.tab rfl rfl (cell_row 0 rfl rfl))) rfl rfl rfl (fun _ h => h) K.cl ?_
  refine l_c 12 rfl (by kernel_rfl) (Qui.ylds (y_mul rfl rfl (by omega))) rfl rfl rfl (fun _ h => h) K.cl ?_
  refine l_c 13 rfl (by kernel_rfl) (Qui.ylds (y_add rfl rfl (by omega))) rfl rfl rfl (fun _ h => h) K.cl ?_
  refine l_c 14 rfl (by kernel_rfl) (Qui.ylds (y_min rfl rfl)) rfl rfl rfl (fun _ h => h) K.cl ?_
  refine l_c 15 rfl (by kernel_rfl) (Qui.ylds (y_assign rfl)) rfl rfl rfl (fun _ h => h) K.cl ?_
  refine l_c 16 rfl (by kernel_rfl) (Qui.ylds (y_assign rfl)) rfl rfl rfl (fun _ h => h) K.cl ?_
  refine l_nil (by kernel_rfl) ?_
  refine f_then ?_
  refine c_ret ?_
  exact f_retE () (res2 rfl rfl rfl) (by unfold bunHi bunLo bunD rD; rfl) (fun w h => h.tail.tail)
end Go.KL
end

section
/- Walks: package sheet, the exported functions on notes, cells and bundles. -/
namespace Go.KL
open Go.Proofs
/-- The error of a layout and a number of sheets. -/
def wrg (l : Lay) (s : Int) : Int := if l.OK then (if SOK s then 0 else 2) else 50
abbrev Gd (l : Lay) (s : Int) : Prop := l.OK ∧ SOK s
theorem wrg_0 {l : Lay} {s : Int} : wrg l s = 0 ↔ Gd l s := by
  unfold wrg Gd
  by_cases h : l.OK
  · by_cases h2 : SOK s
    · simp only [if_pos h, if_pos h2]; exact ⟨fun _ => ⟨h, h2⟩, fun _ => trivial⟩
    · rw [if_pos h, if_neg h2]; exact ⟨fun e => by omega, fun q => absurd q.2 h2⟩
  · rw [if_neg h]; exact ⟨fun e => by omega, fun q => absurd q.1 h⟩
theorem wrg_bd (l : Lay) (s : Int) : wrg l s = 0 ∨ wrg l s = 2 ∨ wrg l s = 50 := by
  unfold wrg
  split
  · split <;> omega
  · omega
def np (l : Lay) : Int := l.r * l.c
theorem np_bd {l : Lay} (h : l.OK) : 1 ≤ np l ∧ np l ≤ 256 := by
  have := mul_bd (a := l.r) (b := l.c) (A := 16) (B := 16) (by have := h.r; omega) (by have := h.c; omega)
  have := mul_pos1 h.r.1 h.c.1
  unfold np; omega
attribute [local irreducible] SC St Fin Sq Sw Ylds Doos Sets Enters Spec CellIs CellsAre Then Ret Rnd Chn resOK ints bools recs arr
theorem newRun_gd (W : World) (Ls : List Chunk) (l : Lay) (s : Int) (h : Gd l s) : Spec Try.prog 52 #[l.v, .int .i64 s] (K W Ls) (fun _ : Unit => .tuple #[runV l s (np l), .int .i64 0]) (fun _ => K W Ls) := newRun_ok W Ls l s h.1 h.2
theorem newRun_bad (W : World) (Ls : List Chunk) (l : Lay) (s : Int) (h : ¬ Gd l s) : Spec Try.prog 52 #[l.v, .int .i64 s] (K W Ls) (fun _ : Unit => .tuple #[runV lay0 0 0, .int .i64 (wrg l s)]) (fun _ => K W Ls) := by
  unfold wrg
  by_cases h1 : l.OK
  · have h2 : ¬ SOK s := fun q => h ⟨h1, q⟩
    rw [if_pos h1, if_neg h2]
    exact newRun_arg W Ls l s h1 h2
  · rw [if_neg h1]
    exact newRun_lay W Ls l s h1
theorem has_yes (W : World) (Ls : List Chunk) (l : Lay) (s p sh pos : Int) (hs : SOK s) (hp : 0 ≤ p ∧ p ≤ 256) (h : (0 ≤ sh ∧ sh < s) ∧ 0 ≤ pos ∧ pos < p) :
    Spec Try.prog 53 #[runV l s p, cellV sh pos] (K W Ls) (fun _ : Unit => .bool true) (fun _ => K W Ls) := by
  have := has_spec W Ls l s p sh pos hs hp
  rwa [decide_eq_true h] at this
theorem has_no (W : World) (Ls : List Chunk) (l : Lay) (s p sh pos : Int) (hs : SOK s) (hp : 0 ≤ p ∧ p ≤ 256) (h : ¬ ((0 ≤ sh ∧ sh < s) ∧ 0 ≤ pos ∧ pos < p)) :
    Spec Try.prog 53 #[runV l s p, cellV sh pos] (K W Ls) (fun _ : Unit => .bool false) (fun _ => K W Ls) := by
  have := has_spec W Ls l s p sh pos hs hp
  rwa [decide_eq_false h] at this
set_option maxHeartbeats 4000000 in
theorem Notes_ok (W : World) (Ls : List Chunk) (l : Lay) (s : Int) (h : Gd l s) : Spec Try.prog 24 #[l.v, .int .i64 s] (K W Ls) (fun _ : Unit => .tuple #[.int .i64 (s * np l), .int .i64 0]) (fun _ => K W Ls) := by
  have hp := np_bd h.1; have h2 := h.2
  refine enter (args := [_, _]) Try.func24 rfl Try.ntmps24 rfl ?_
  refine c_seq ?_
  refine c_region ?_
  refine s_do (do_box rfl) rfl rfl rfl (fun b2 => ?_)
  refine s_y (y_assign rfl) rfl rfl rfl ?_
  refine s_y (y_assign rfl) rfl rfl rfl ?_
  refine s_nil ?_
  refine f_then ?_
  refine c_seq ?_
  refine c_region ?_
  refine s_y (y_loadA Try.tab rfl rfl rfl rfl (cells_row0 0 rfl rfl)) rfl rfl rfl ?_
  refine s_y (y_move rfl) rfl rfl rfl ?_
  refine s_call (en_f rfl Try.call52) (newRun_gd _ _ _ _ h) rfl rfl rfl (fun _ => ?_)
  refine s_y (y_move rfl) rfl rfl rfl ?_
  refine s_y (y_extract rfl rfl) rfl rfl rfl ?_
  refine s_y (y_extract rfl rfl) rfl rfl rfl ?_
  refine s_do (do_alloc Try.tab rfl) rfl rfl rfl (fun b6 => ?_)
  refine s_set (set_box Try.tab 0 rfl rfl rfl rfl rfl rfl rfl) rfl rfl ?_
  refine s_y (y_assign rfl) rfl rfl rfl ?_
  refine s_nil ?_
  refine f_then ?_
  refine c_seq ?_
  refine c_region ?_
  refine s_y (y_loadA Try.tab rfl rfl rfl rfl (cells_row0 0 rfl rfl)) rfl rfl rfl ?_
  refine s_call (en_f rfl Try.call56) (notes_spec _ _ _ _ _ (by omega) (by omega)) rfl rfl rfl (fun _ => ?_)
  refine s_y (y_move rfl) rfl rfl rfl ?_
  refine s_y (y_assign rfl) rfl rfl rfl ?_
  refine s_y (y_assign rfl) rfl rfl rfl ?_
  refine s_nil ?_
  refine f_then ?_
  refine c_ret ?_
  exact f_ret () (res2 rfl rfl rfl) (fun w h => h.tail.tail)
set_option maxHeartbeats 4000000 in
theorem Notes_bad (W : World) (Ls : List Chunk) (l : Lay) (s : Int) (h : ¬ Gd l s) : Spec Try.prog 24 #[l.v, .int .i64 s] (K W Ls) (fun _ : Unit => .tuple #[.int .i64 0, .int .i64 (wrg l s)]) (fun _ => K W Ls) := by
  refine enter (args := [_, _]) Try.func24 rfl Try.ntmps24 rfl ?_
  refine c_seq ?_
  refine c_region ?_
  refine s_do (do_box rfl) rfl rfl rfl (fun b2 => ?_)
  refine s_y (y_assign rfl) rfl rfl rfl ?_
  refine s_y (y_assign rfl) rfl rfl rfl ?_
  refine s_nil ?_
  refine f_then ?_
  refine c_seq ?_
  refine c_region ?_
  refine s_y (y_loadA Try.tab rfl rfl rfl rfl (cells_row0 0 rfl rfl)) rfl rfl rfl ?_
  refine s_y (y_move rfl) rfl rfl rfl ?_
  refine s_call (en_f rfl Try.call52) (newRun_bad _ _ _ _ h) rfl rfl rfl (fun _ => ?_)
  refine s_y (y_move rfl) rfl rfl rfl ?_
  refine s_y (y_extract rfl rfl) rfl rfl rfl ?_
  refine s_y (y_extract rfl rfl) rfl rfl rfl ?_
  refine s_do (do_alloc Try.tab rfl) rfl rfl rfl (fun b6 => ?_)
  refine s_set (set_box Try.tab 0 rfl rfl rfl rfl rfl rfl rfl) rfl rfl ?_
  refine s_y (y_assign rfl) rfl rfl rfl ?_
  refine s_nil ?_
  refine f_then ?_
  refine c_seq ?_
  refine c_region ?_
  refine s_y (y_loadA Try.tab rfl rfl rfl rfl (cells_row0 0 rfl rfl)) rfl rfl rfl ?_
  refine s_call (en_f rfl Try.call56) (notes_spec _ _ _ _ _ (by omega) (by omega)) rfl rfl rfl (fun _ => ?_)
  refine s_y (y_move rfl) rfl rfl rfl ?_
  refine s_y (y_assign rfl) rfl rfl rfl ?_
  refine s_y (y_assign rfl) rfl rfl rfl ?_
  refine s_nil ?_
  refine f_then ?_
  refine c_ret ?_
  exact f_ret () (res2 rfl rfl rfl) (fun w h => h.tail.tail)
abbrev CellIn (l : Lay) (s sh pos : Int) : Prop := (0 ≤ sh ∧ sh < s) ∧ 0 ≤ pos ∧ pos < np l
set_option maxHeartbeats 4000000 in
theorem Note_ok (W : World) (Ls : List Chunk) (l : Lay) (s sh pos : Int) (h : Gd l s) (hc : CellIn l s sh pos) : Spec Try.prog 21 #[l.v, .int .i64 s, cellV sh pos] (K W Ls) (fun _ : Unit => .tuple #[.int .i64 (noteF l s (np l) sh pos), .int .i64 0]) (fun _ => K W Ls) := by
  have hp := np_bd h.1; have h2 := h.2
  refine enter (args := [_, _, _]) Try.func21 rfl Try.ntmps21 rfl ?_
  refine c_seq ?_
  refine c_region ?_
  refine s_do (do_box rfl) rfl rfl rfl (fun b3 => ?_)
  refine s_do (do_box rfl) rfl rfl rfl (fun b5 => ?_)
  refine s_y (y_assign rfl) rfl rfl rfl ?_
  refine s_y (y_assign rfl) rfl rfl rfl ?_
  refine s_nil ?_
  refine f_then ?_
  refine c_seq ?_
  refine c_region ?_
  refine s_y (y_loadA Try.tab rfl rfl rfl rfl (cells_row0 1 rfl rfl)) rfl rfl rfl ?_
  refine s_y (y_move rfl) rfl rfl rfl ?_
  refine s_call (en_f rfl Try.call52) (newRun_gd _ _ _ _ h) rfl rfl rfl (fun _ => ?_)
  refine s_y (y_move rfl) rfl rfl rfl ?_
  refine s_y (y_extract rfl rfl) rfl rfl rfl ?_
  refine s_y (y_extract rfl rfl) rfl rfl rfl ?_
  refine s_do (do_alloc Try.tab rfl) rfl rfl rfl (fun b8 => ?_)
  refine s_set (set_box Try.tab 0 rfl rfl rfl rfl rfl rfl rfl) rfl rfl ?_
  refine s_y (y_assign rfl) rfl rfl rfl ?_
  refine s_nil ?_
  refine f_then ?_
  refine c_seq ?_
  refine c_seq ?_
  refine c_region ?_
  refine s_y (y_move rfl) rfl rfl rfl ?_
  refine s_y (y_F (y_neq rfl rfl) (by omega)) rfl rfl rfl ?_
  refine s_nil ?_
  refine f_then ?_
  refine c_condF rfl ?_
  refine c_skip ?_
  refine f_then ?_
  refine c_seq ?_
  refine c_seq ?_
  refine c_region ?_
  refine s_y (y_loadA Try.tab rfl rfl rfl rfl (cells_row0 0 rfl rfl)) rfl rfl rfl ?_
  refine s_y (y_loadA Try.tab rfl rfl rfl rfl (cells_row0 1 rfl rfl)) rfl rfl rfl ?_
  refine s_call (en_f rfl Try.call53) (has_yes _ _ _ _ _ _ _ (by omega) (by omega) hc) rfl rfl rfl (fun _ => ?_)
  refine s_y (y_notT rfl) rfl rfl rfl ?_
  refine s_nil ?_
  refine f_then ?_
  refine c_condF rfl ?_
  refine c_skip ?_
  refine f_then ?_
  refine c_seq ?_
  refine c_region ?_
  refine s_y (y_loadA Try.tab rfl rfl rfl rfl (cells_row0 0 rfl rfl)) rfl rfl rfl ?_
  refine s_y (y_loadA Try.tab rfl rfl rfl rfl (cells_row0 1 rfl rfl)) rfl rfl rfl ?_
  refine s_call (en_f rfl Try.call54) (note_spec _ _ _ _ _ _ _ h.1 h.2 (by omega) (by omega) (by omega)) rfl rfl rfl (fun _ => ?_)
  refine s_y (y_assign rfl) rfl rfl rfl ?_
  refine s_y (y_assign rfl) rfl rfl rfl ?_
  refine s_nil ?_
  refine f_then ?_
  refine c_ret ?_
  exact f_ret () (res2 rfl rfl rfl) (fun w h => h.tail.tail.tail)
set_option maxHeartbeats 4000000 in
theorem Note_range (W : World) (Ls : List Chunk) (l : Lay) (s sh pos : Int) (h : Gd l s) (hc : ¬ CellIn l s sh pos) : Spec Try.prog 21 #[l.v, .int .i64 s, cellV sh pos] (K W Ls) (fun _ : Unit => .tuple #[.int .i64 0, .int .i64 3]) (fun _ => K W Ls) := by
  have hp := np_bd h.1; have h2 := h.2
  refine enter (args := [_, _, _]) Try.func21 rfl Try.ntmps21 rfl ?_
  refine c_seq ?_
  refine c_region ?_
  refine s_do (do_box rfl) rfl rfl rfl (fun b3 => ?_)
  refine s_do (do_box rfl) rfl rfl rfl (fun b5 => ?_)
  refine s_y (y_assign rfl) rfl rfl rfl ?_
  refine s_y (y_assign rfl) rfl rfl rfl ?_
  refine s_nil ?_
  refine f_then ?_
  refine c_seq ?_
  refine c_region ?_
  refine s_y (y_loadA Try.tab rfl rfl rfl rfl (cells_row0 1 rfl rfl)) rfl rfl rfl ?_
  refine s_y (y_move rfl) rfl rfl rfl ?_
  refine s_call (en_f rfl Try.call52) (newRun_gd _ _ _ _ h) rfl rfl rfl (fun _ => ?_)
  refine s_y (y_move rfl) rfl rfl rfl ?_
  refine s_y (y_extract rfl rfl) rfl rfl rfl ?_
  refine s_y (y_extract rfl rfl) rfl rfl rfl ?_
  refine s_do (do_alloc Try.tab rfl) rfl rfl rfl (fun b8 => ?_)
  refine s_set (set_box Try.tab 0 rfl rfl rfl rfl rfl rfl rfl) rfl rfl ?_
  refine s_y (y_assign rfl) rfl rfl rfl ?_
  refine s_nil ?_
  refine f_then ?_
  refine c_seq ?_
  refine c_seq ?_
  refine c_region ?_
  refine s_y (y_move rfl) rfl rfl rfl ?_
  refine s_y (y_F (y_neq rfl rfl) (by omega)) rfl rfl rfl ?_
  refine s_nil ?_
  refine f_then ?_
  refine c_condF rfl ?_
  refine c_skip ?_
  refine f_then ?_
  refine c_seq ?_
  refine c_seq ?_
  refine c_region ?_
  refine s_y (y_loadA Try.tab rfl rfl rfl rfl (cells_row0 0 rfl rfl)) rfl rfl rfl ?_
  refine s_y (y_loadA Try.tab rfl rfl rfl rfl (cells_row0 1 rfl rfl)) rfl rfl rfl ?_
  refine s_call (en_f rfl Try.call53) (has_no _ _ _ _ _ _ _ (by omega) (by omega) hc) rfl rfl rfl (fun _ => ?_)
  refine s_y (y_notF rfl) rfl rfl rfl ?_
  refine s_nil ?_
  refine f_then ?_
  refine c_condT rfl ?_
  refine c_seq ?_
  refine c_region ?_
  refine s_y (y_assign rfl) rfl rfl rfl ?_
  refine s_y (y_assign rfl) rfl rfl rfl ?_
  refine s_nil ?_
  refine f_then ?_
  refine c_ret ?_
  refine f_thenR ?_
  exact f_ret () (res2 rfl rfl rfl) (fun w h => h.tail.tail.tail)
set_option maxHeartbeats 4000000 in
theorem Note_bad (W : World) (Ls : List Chunk) (l : Lay) (s sh pos : Int) (h : ¬ Gd l s) : Spec Try.prog 21 #[l.v, .int .i64 s, cellV sh pos] (K W Ls) (fun _ : Unit => .tuple #[.int .i64 0, .int .i64 (wrg l s)]) (fun _ => K W Ls) := by
  have h2 : wrg l s ≠ 0 := fun e => h (wrg_0.1 e)
  refine enter (args := [_, _, _]) Try.func21 rfl Try.ntmps21 rfl ?_
  refine c_seq ?_
  refine c_region ?_
  refine s_do (do_box rfl) rfl rfl rfl (fun b3 => ?_)
  refine s_do (do_box rfl) rfl rfl rfl (fun b5 => ?_)
  refine s_y (y_assign rfl) rfl rfl rfl ?_
  refine s_y (y_assign rfl) rfl rfl rfl ?_
  refine s_nil ?_
  refine f_then ?_
  refine c_seq ?_
  refine c_region ?_
  refine s_y (y_loadA Try.tab rfl rfl rfl rfl (cells_row0 1 rfl rfl)) rfl rfl rfl ?_
  refine s_y (y_move rfl) rfl rfl rfl ?_
  refine s_call (en_f rfl Try.call52) (newRun_bad _ _ _ _ h) rfl rfl rfl (fun _ => ?_)
  refine s_y (y_move rfl) rfl rfl rfl ?_
  refine s_y (y_extract rfl rfl) rfl rfl rfl ?_
  refine s_y (y_extract rfl rfl) rfl rfl rfl ?_
  refine s_do (do_alloc Try.tab rfl) rfl rfl rfl (fun b8 => ?_)
  refine s_set (set_box Try.tab 0 rfl rfl rfl rfl rfl rfl rfl) rfl rfl ?_
  refine s_y (y_assign rfl) rfl rfl rfl ?_
  refine s_nil ?_
  refine f_then ?_
  refine c_seq ?_
  refine c_seq ?_
  refine c_region ?_
  refine s_y (y_move rfl) rfl rfl rfl ?_
  refine s_y (y_T (y_neq rfl rfl) (by assumption)) rfl rfl rfl ?_
  refine s_nil ?_
  refine f_then ?_
  refine c_condT rfl ?_
  refine c_seq ?_
  refine c_region ?_
  refine s_y (y_move rfl) rfl rfl rfl ?_
  refine s_y (y_assign rfl) rfl rfl rfl ?_
  refine s_y (y_assign rfl) rfl rfl rfl ?_
  refine s_nil ?_
  refine f_then ?_
  refine c_ret ?_
  refine f_thenR ?_
  exact f_ret () (res2 rfl rfl rfl) (fun w h => h.tail.tail.tail)
set_option maxHeartbeats 4000000 in
theorem Cell_ok (W : World) (Ls : List Chunk) (l : Lay) (s note : Int) (h : Gd l s) (hn : 0 ≤ note ∧ note < s * np l) : Spec Try.prog 22 #[l.v, .int .i64 s, .int .i64 note] (K W Ls)
    (fun _ : Unit => .tuple #[cellV (rcell l (np l) (note / (l.m * np l) * l.m) (rD l s (note / (l.m * np l) * l.m)) note).1 (rcell l (np l) (note / (l.m * np l) * l.m) (rD l s (note / (l.m * np l) * l.m)) note).2, .int .i64 0]) (fun _ => K W Ls) := by
  have hp := np_bd h.1; have h2 := h.2; have h3 := h.1.m
  have hsp := mul_bd (a := s) (b := np l) (A := 1048576) (B := 256) (by omega) (by omega)
  have h1 := note_ream l s (np l) note h.1 hp hn
  refine enter (args := [_, _, _]) Try.func22 rfl Try.ntmps22 rfl ?_
  refine c_seq ?_
  refine c_region ?_
  refine s_do (do_box rfl) rfl rfl rfl (fun b3 => ?_)
  refine s_do (do_alloc Try.tab rfl) rfl rfl rfl (fun b6 => ?_)
  refine s_y (y_assign rfl) rfl rfl rfl ?_
  refine s_nil ?_
  refine f_then ?_
  refine c_seq ?_
  refine c_region ?_
  refine s_y (y_loadA Try.tab rfl rfl rfl rfl (cells_row0 1 rfl rfl)) rfl rfl rfl ?_
  refine s_y (y_move rfl) rfl rfl rfl ?_
  refine s_call (en_f rfl Try.call52) (newRun_gd _ _ _ _ h) rfl rfl rfl (fun _ => ?_)
  refine s_y (y_move rfl) rfl rfl rfl ?_
  refine s_y (y_extract rfl rfl) rfl rfl rfl ?_
  refine s_y (y_extract rfl rfl) rfl rfl rfl ?_
  refine s_do (do_alloc Try.tab rfl) rfl rfl rfl (fun b8 => ?_)
  refine s_set (set_box Try.tab 0 rfl rfl rfl rfl rfl rfl rfl) rfl rfl ?_
  refine s_y (y_assign rfl) rfl rfl rfl ?_
  refine s_nil ?_
  refine f_then ?_
  refine c_seq ?_
  refine c_seq ?_
  refine c_region ?_
  refine s_y (y_move rfl) rfl rfl rfl ?_
  refine s_y (y_F (y_neq rfl rfl) (by omega)) rfl rfl rfl ?_
  refine s_nil ?_
  refine f_then ?_
  refine c_condF rfl ?_
  refine c_skip ?_
  refine f_then ?_
  refine c_seq ?_
  refine c_seq ?_
  refine c_region ?_
  refine s_y (y_move rfl) rfl rfl rfl ?_
  refine s_y (y_loadA Try.tab rfl rfl rfl rfl (cells_row0 0 rfl rfl)) rfl rfl rfl ?_
  refine s_call (en_f rfl Try.call56) (notes_spec _ _ _ _ _ (by omega) (by omega)) rfl rfl rfl (fun _ => ?_)
  refine s_y (y_sub rfl rfl (by omega)) rfl rfl rfl ?_
  refine s_call (en_f rfl Try.call55) (sw_yes _ (by omega)) rfl rfl rfl (fun _ => ?_)
  refine s_y (y_notT rfl) rfl rfl rfl ?_
  refine s_nil ?_
  refine f_then ?_
  refine c_condF rfl ?_
  refine c_skip ?_
  refine f_then ?_
  refine c_seq ?_
  refine c_region ?_
  refine s_y (y_loadA Try.tab rfl rfl rfl rfl (cells_row0 0 rfl rfl)) rfl rfl rfl ?_
  refine s_y (y_move rfl) rfl rfl rfl ?_
  refine s_call (en_f rfl Try.call57) (reamOf_spec _ _ _ _ _ _ h.1 h.2 (by omega) (by omega)) rfl rfl rfl (fun _ => ?_)
  refine s_y (y_move rfl) rfl rfl rfl ?_
  refine s_call (en_f rfl Try.call58) (mcell_spec _ _ _ _ _ _ _ _ (by omega) (by omega) (by omega) (by omega)) rfl rfl rfl (fun _ => ?_)
  refine s_set (set_box Try.tab 1 rfl rfl rfl rfl rfl rfl rfl) rfl rfl ?_
  refine s_y (y_assign rfl) rfl rfl rfl ?_
  refine s_nil ?_
  refine f_then ?_
  refine c_ret ?_
  exact f_ret () (resA1 Try.tab rfl rfl rfl rfl rfl rfl (cells_row0 1 rfl rfl)) (fun w h => h.tail.tail.tail)
set_option maxHeartbeats 4000000 in
theorem Cell_range (W : World) (Ls : List Chunk) (l : Lay) (s note : Int) (h : Gd l s) (hn : ¬ (0 ≤ note ∧ note < s * np l)) : Spec Try.prog 22 #[l.v, .int .i64 s, .int .i64 note] (K W Ls) (fun _ : Unit => .tuple #[cellV 0 0, .int .i64 3]) (fun _ => K W Ls) := by
  have hp := np_bd h.1; have h2 := h.2
  have hsp := mul_bd (a := s) (b := np l) (A := 1048576) (B := 256) (by omega) (by omega)
  refine enter (args := [_, _, _]) Try.func22 rfl Try.ntmps22 rfl ?_
  refine c_seq ?_
  refine c_region ?_
  refine s_do (do_box rfl) rfl rfl rfl (fun b3 => ?_)
  refine s_do (do_alloc Try.tab rfl) rfl rfl rfl (fun b6 => ?_)
  refine s_y (y_assign rfl) rfl rfl rfl ?_
  refine s_nil ?_
  refine f_then ?_
  refine c_seq ?_
  refine c_region ?_
  refine s_y (y_loadA Try.tab rfl rfl rfl rfl (cells_row0 1 rfl rfl)) rfl rfl rfl ?_
  refine s_y (y_move rfl) rfl rfl rfl ?_
  refine s_call (en_f rfl Try.call52) (newRun_gd _ _ _ _ h) rfl rfl rfl (fun _ => ?_)
  refine s_y (y_move rfl) rfl rfl rfl ?_
  refine s_y (y_extract rfl rfl) rfl rfl rfl ?_
  refine s_y (y_extract rfl rfl) rfl rfl rfl ?_
  refine s_do (do_alloc Try.tab rfl) rfl rfl rfl (fun b8 => ?_)
  refine s_set (set_box Try.tab 0 rfl rfl rfl rfl rfl rfl rfl) rfl rfl ?_
  refine s_y (y_assign rfl) rfl rfl rfl ?_
  refine s_nil ?_
  refine f_then ?_
  refine c_seq ?_
  refine c_seq ?_
  refine c_region ?_
  refine s_y (y_move rfl) rfl rfl rfl ?_
  refine s_y (y_F (y_neq rfl rfl) (by omega)) rfl rfl rfl ?_
  refine s_nil ?_
  refine f_then ?_
  refine c_condF rfl ?_
  refine c_skip ?_
  refine f_then ?_
  refine c_seq ?_
  refine c_seq ?_
  refine c_region ?_
  refine s_y (y_move rfl) rfl rfl rfl ?_
  refine s_y (y_loadA Try.tab rfl rfl rfl rfl (cells_row0 0 rfl rfl)) rfl rfl rfl ?_
  refine s_call (en_f rfl Try.call56) (notes_spec _ _ _ _ _ (by omega) (by omega)) rfl rfl rfl (fun _ => ?_)
  refine s_y (y_sub rfl rfl (by omega)) rfl rfl rfl ?_
  refine s_call (en_f rfl Try.call55) (sw_no _ (by omega)) rfl rfl rfl (fun _ => ?_)
  refine s_y (y_notF rfl) rfl rfl rfl ?_
  refine s_nil ?_
  refine f_then ?_
  refine c_condT rfl ?_
  refine c_seq ?_
  refine c_region ?_
  refine s_y (y_build Try.tab rfl rfl rfl rfl rfl) rfl rfl rfl ?_
  refine s_set (set_box Try.tab 1 rfl rfl rfl rfl rfl rfl rfl) rfl rfl ?_
  refine s_y (y_assign rfl) rfl rfl rfl ?_
  refine s_nil ?_
  refine f_then ?_
  refine c_ret ?_
  refine f_thenR ?_
  exact f_ret () (resA1 Try.tab rfl rfl rfl rfl rfl rfl (cells_row0 1 rfl rfl)) (fun w h => h.tail.tail.tail)
set_option maxHeartbeats 4000000 in
theorem Cell_bad (W : World) (Ls : List Chunk) (l : Lay) (s note : Int) (h : ¬ Gd l s) : Spec Try.prog 22 #[l.v, .int .i64 s, .int .i64 note] (K W Ls) (fun _ : Unit => .tuple #[cellV 0 0, .int .i64 (wrg l s)]) (fun _ => K W Ls) := by
  have h2 : wrg l s ≠ 0 := fun e => h (wrg_0.1 e)
  refine enter (args := [_, _, _]) Try.func22 rfl Try.ntmps22 rfl ?_
  refine c_seq ?_
  refine c_region ?_
  refine s_do (do_box rfl) rfl rfl rfl (fun b3 => ?_)
  refine s_do (do_alloc Try.tab rfl) rfl rfl rfl (fun b6 => ?_)
  refine s_y (y_assign rfl) rfl rfl rfl ?_
  refine s_nil ?_
  refine f_then ?_
  refine c_seq ?_
  refine c_region ?_
  refine s_y (y_loadA Try.tab rfl rfl rfl rfl (cells_row0 1 rfl rfl)) rfl rfl rfl ?_
  refine s_y (y_move rfl) rfl rfl rfl ?_
  refine s_call (en_f rfl Try.call52) (newRun_bad _ _ _ _ h) rfl rfl rfl (fun _ => ?_)
  refine s_y (y_move rfl) rfl rfl rfl ?_
  refine s_y (y_extract rfl rfl) rfl rfl rfl ?_
  refine s_y (y_extract rfl rfl) rfl rfl rfl ?_
  refine s_do (do_alloc Try.tab rfl) rfl rfl rfl (fun b8 => ?_)
  refine s_set (set_box Try.tab 0 rfl rfl rfl rfl rfl rfl rfl) rfl rfl ?_
  refine s_y (y_assign rfl) rfl rfl rfl ?_
  refine s_nil ?_
  refine f_then ?_
  refine c_seq ?_
  refine c_seq ?_
  refine c_region ?_
  refine s_y (y_move rfl) rfl rfl rfl ?_
  refine s_y (y_T (y_neq rfl rfl) (by assumption)) rfl rfl rfl ?_
  refine s_nil ?_
  refine f_then ?_
  refine c_condT rfl ?_
  refine c_seq ?_
  refine c_region ?_
  refine s_y (y_build Try.tab rfl rfl rfl rfl rfl) rfl rfl rfl ?_
  refine s_y (y_move rfl) rfl rfl rfl ?_
  refine s_set (set_box Try.tab 1 rfl rfl rfl rfl rfl rfl rfl) rfl rfl ?_
  refine s_y (y_assign rfl) rfl rfl rfl ?_
  refine s_nil ?_
  refine f_then ?_
  refine c_ret ?_
  refine f_thenR ?_
  exact f_ret () (resA1 Try.tab rfl rfl rfl rfl rfl rfl (cells_row0 1 rfl rfl)) (fun w h => h.tail.tail.tail)
end Go.KL
end

section
/- Walks: package sheet, the exported functions on stacks and bundles. -/
namespace Go.KL
open Go.Proofs
theorem bun_ream (l : Lay) (s p n : Int) (h : l.OK) (hs : SOK s) (hp : 1 ≤ p ∧ p ≤ 256) (hn : 0 ≤ n ∧ n < bunsF l s p) : n / perR l p * l.m < s := by
  have h3 := h.m
  have h6 := perR_bd l p h hp
  have h1 := rF_bd l s h3.1 hs.1
  unfold rF at h1
  have h4 : n < (s / l.m + (if 0 < s % l.m then 1 else 0)) * perR l p := by
    unfold bunsF at hn
    split at hn
    · rename_i hc
      rw [if_pos hc, Int.add_mul, Int.one_mul]
      have q1 := perS_bd (d := rD l s (s / l.m * l.m)) (b := l.b) (by unfold rD; omega) h.b.1
      have q2 : (rD l s (s / l.m * l.m) + l.b - 1) / l.b ≤ (l.m + l.b - 1) / l.b := Int.ediv_le_ediv (by have := h.b; omega) (by unfold rD; omega)
      have q3 : p * ((rD l s (s / l.m * l.m) + l.b - 1) / l.b) ≤ p * ((l.m + l.b - 1) / l.b) := Int.mul_le_mul_of_nonneg_left q2 (by omega)
      unfold perR at hn ⊢
      omega
    · rename_i hc
      rw [if_neg hc, Int.add_zero]
      omega
  have h5 : n / perR l p < s / l.m + (if 0 < s % l.m then 1 else 0) := Int.ediv_lt_of_lt_mul (by omega) h4
  have h7 := Int.mul_ediv_add_emod s l.m
  have h8 : l.m * (s / l.m) = s / l.m * l.m := Int.mul_comm _ _
  have h9 := mod_bd (a := s) h3.1
  by_cases hc : 0 < s % l.m
  · rw [if_pos hc] at h5
    have q : n / perR l p * l.m ≤ s / l.m * l.m := Int.mul_le_mul_of_nonneg_right (by omega) (by omega)
    omega
  · rw [if_neg hc] at h5
    have q : (n / perR l p + 1) * l.m ≤ s / l.m * l.m := Int.mul_le_mul_of_nonneg_right (by omega) (by omega)
    rw [Int.add_mul] at q
    omega
theorem buns_bd (l : Lay) (s p : Int) (h : l.OK) (hs : SOK s) (hp : 1 ≤ p ∧ p ≤ 256) : 0 ≤ bunsF l s p ∧ bunsF l s p ≤ 1048576 * 2560000 + 2560000 := by
  have h3 := h.m
  have h6 := perR_bd l p h hp
  have h1 := rF_bd l s h3.1 hs.1
  unfold rF at h1
  have h2 := div_bd (a := s) (b := l.m) hs.1 h3.1
  have h7 := mul_bd (a := s / l.m) (b := perR l p) (A := 1048576) (B := 2560000) (by omega) (by omega)
  have q1 := perS_bd (d := rD l s (s / l.m * l.m)) (b := l.b) (by unfold rD; omega) h.b.1
  have q2 := mul_bd (a := p) (b := (rD l s (s / l.m * l.m) + l.b - 1) / l.b) (A := 256) (B := 10000) (by omega) (by unfold rD at q1 ⊢; omega)
  unfold bunsF
  split <;> omega
attribute [local irreducible] SC St Fin Sq Sw Ylds Doos Sets Enters Spec CellIs CellsAre Then Ret Rnd Chn resOK ints bools recs arr
set_option maxHeartbeats 4000000 in
theorem Bundles_ok (W : World) (Ls : List Chunk) (l : Lay) (s : Int) (h : Gd l s) : Spec Try.prog 37 #[l.v, .int .i64 s] (K W Ls) (fun _ : Unit => .tuple #[.int .i64 (bunsF l s (np l)), .int .i64 0]) (fun _ => K W Ls) := by
  have hp := np_bd h.1; have h2 := h.2
  refine enter (args := [_, _]) Try.func37 rfl Try.ntmps37 rfl ?_
  refine c_seq ?_
  refine c_region ?_
  refine s_do (do_box rfl) rfl rfl rfl (fun b2 => ?_)
  refine s_y (y_assign rfl) rfl rfl rfl ?_
  refine s_y (y_assign rfl) rfl rfl rfl ?_
  refine s_nil ?_
  refine f_then ?_
  refine c_seq ?_
  refine c_region ?_
  refine s_y (y_loadA Try.tab rfl rfl rfl rfl (cells_row0 0 rfl rfl)) rfl rfl rfl ?_
  refine s_y (y_move rfl) rfl rfl rfl ?_
  refine s_call (en_f rfl Try.call52) (newRun_gd _ _ _ _ h) rfl rfl rfl (fun _ => ?_)
  refine s_y (y_move rfl) rfl rfl rfl ?_
  refine s_y (y_extract rfl rfl) rfl rfl rfl ?_
  refine s_y (y_extract rfl rfl) rfl rfl rfl ?_
  refine s_do (do_alloc Try.tab rfl) rfl rfl rfl (fun b6 => ?_)
  refine s_set (set_box Try.tab 0 rfl rfl rfl rfl rfl rfl rfl) rfl rfl ?_
  refine s_y (y_assign rfl) rfl rfl rfl ?_
  refine s_nil ?_
  refine f_then ?_
  refine c_seq ?_
  refine c_seq ?_
  refine c_region ?_
  refine s_y (y_move rfl) rfl rfl rfl ?_
  refine s_y (y_F (y_neq rfl rfl) (by omega)) rfl rfl rfl ?_
  refine s_nil ?_
  refine f_then ?_
  refine c_condF rfl ?_
  refine c_skip ?_
  refine f_then ?_
  refine c_seq ?_
  refine c_region ?_
  refine s_y (y_loadA Try.tab rfl rfl rfl rfl (cells_row0 0 rfl rfl)) rfl rfl rfl ?_
  refine s_call (en_f rfl Try.call61) (rbundles_spec _ _ _ _ _ h.1 h.2 (by omega)) rfl rfl rfl (fun _ => ?_)
  refine s_y (y_assign rfl) rfl rfl rfl ?_
  refine s_y (y_assign rfl) rfl rfl rfl ?_
  refine s_nil ?_
  refine f_then ?_
  refine c_ret ?_
  exact f_ret () (res2 rfl rfl rfl) (fun w h => h.tail.tail)
set_option maxHeartbeats 4000000 in
theorem Bundles_bad (W : World) (Ls : List Chunk) (l : Lay) (s : Int) (h : ¬ Gd l s) : Spec Try.prog 37 #[l.v, .int .i64 s] (K W Ls) (fun _ : Unit => .tuple #[.int .i64 0, .int .i64 (wrg l s)]) (fun _ => K W Ls) := by
  have h2 : wrg l s ≠ 0 := fun e => h (wrg_0.1 e)
  refine enter (args := [_, _]) Try.func37 rfl Try.ntmps37 rfl ?_
  refine c_seq ?_
  refine c_region ?_
  refine s_do (do_box rfl) rfl rfl rfl (fun b2 => ?_)
  refine s_y (y_assign rfl) rfl rfl rfl ?_
  refine s_y (y_assign rfl) rfl rfl rfl ?_
  refine s_nil ?_
  refine f_then ?_
  refine c_seq ?_
  refine c_region ?_
  refine s_y (y_loadA Try.tab rfl rfl rfl rfl (cells_row0 0 rfl rfl)) rfl rfl rfl ?_
  refine s_y (y_move rfl) rfl rfl rfl ?_
  refine s_call (en_f rfl Try.call52) (newRun_bad _ _ _ _ h) rfl rfl rfl (fun _ => ?_)
  refine s_y (y_move rfl) rfl rfl rfl ?_
  refine s_y (y_extract rfl rfl) rfl rfl rfl ?_
  refine s_y (y_extract rfl rfl) rfl rfl rfl ?_
  refine s_do (do_alloc Try.tab rfl) rfl rfl rfl (fun b6 => ?_)
  refine s_set (set_box Try.tab 0 rfl rfl rfl rfl rfl rfl rfl) rfl rfl ?_
  refine s_y (y_assign rfl) rfl rfl rfl ?_
  refine s_nil ?_
  refine f_then ?_
  refine c_seq ?_
  refine c_seq ?_
  refine c_region ?_
  refine s_y (y_move rfl) rfl rfl rfl ?_
  refine s_y (y_T (y_neq rfl rfl) (by assumption)) rfl rfl rfl ?_
  refine s_nil ?_
  refine f_then ?_
  refine c_condT rfl ?_
  refine c_seq ?_
  refine c_region ?_
  refine s_y (y_move rfl) rfl rfl rfl ?_
  refine s_y (y_assign rfl) rfl rfl rfl ?_
  refine s_y (y_assign rfl) rfl rfl rfl ?_
  refine s_nil ?_
  refine f_then ?_
  refine c_ret ?_
  refine f_thenR ?_
  exact f_ret () (res2 rfl rfl rfl) (fun w h => h.tail.tail)
set_option maxHeartbeats 4000000 in
theorem Bundle_ok (W : World) (Ls : List Chunk) (l : Lay) (s n : Int) (h : Gd l s) (hn : 0 ≤ n ∧ n < bunsF l s (np l)) : Spec Try.prog 38 #[l.v, .int .i64 s, .int .i64 n] (K W Ls) (fun _ : Unit => .tuple #[.int .i64 (bunLo l s (np l) n), .int .i64 (bunHi l s (np l) n), .int .i64 0]) (fun _ => K W Ls) := by
  have hp := np_bd h.1; have h2 := h.2
  have hbd := bun_ream l s (np l) n h.1 h.2 hp hn
  have hbb := buns_bd l s (np l) h.1 h.2 hp
  refine enter (args := [_, _, _]) Try.func38 rfl Try.ntmps38 rfl ?_
  refine c_seq ?_
  refine c_region ?_
  refine s_do (do_box rfl) rfl rfl rfl (fun b3 => ?_)
  refine s_y (y_assign rfl) rfl rfl rfl ?_
  refine s_y (y_assign rfl) rfl rfl rfl ?_
  refine s_y (y_assign rfl) rfl rfl rfl ?_
  refine s_nil ?_
  refine f_then ?_
  refine c_seq ?_
  refine c_region ?_
  refine s_y (y_loadA Try.tab rfl rfl rfl rfl (cells_row0 0 rfl rfl)) rfl rfl rfl ?_
  refine s_y (y_move rfl) rfl rfl rfl ?_
  refine s_call (en_f rfl Try.call52) (newRun_gd _ _ _ _ h) rfl rfl rfl (fun _ => ?_)
  refine s_y (y_move rfl) rfl rfl rfl ?_
  refine s_y (y_extract rfl rfl) rfl rfl rfl ?_
  refine s_y (y_extract rfl rfl) rfl rfl rfl ?_
  refine s_do (do_alloc Try.tab rfl) rfl rfl rfl (fun b9 => ?_)
  refine s_set (set_box Try.tab 0 rfl rfl rfl rfl rfl rfl rfl) rfl rfl ?_
  refine s_y (y_assign rfl) rfl rfl rfl ?_
  refine s_nil ?_
  refine f_then ?_
  refine c_seq ?_
  refine c_seq ?_
  refine c_region ?_
  refine s_y (y_move rfl) rfl rfl rfl ?_
  refine s_y (y_F (y_neq rfl rfl) (by omega)) rfl rfl rfl ?_
  refine s_nil ?_
  refine f_then ?_
  refine c_condF rfl ?_
  refine c_skip ?_
  refine f_then ?_
  refine c_seq ?_
  refine c_seq ?_
  refine c_region ?_
  refine s_y (y_move rfl) rfl rfl rfl ?_
  refine s_y (y_loadA Try.tab rfl rfl rfl rfl (cells_row0 0 rfl rfl)) rfl rfl rfl ?_
  refine s_call (en_f rfl Try.call61) (rbundles_spec _ _ _ _ _ h.1 h.2 (by omega)) rfl rfl rfl (fun _ => ?_)
  refine s_y (y_sub rfl rfl (by omega)) rfl rfl rfl ?_
  refine s_call (en_f rfl Try.call55) (sw_yes _ (by omega)) rfl rfl rfl (fun _ => ?_)
  refine s_y (y_notT rfl) rfl rfl rfl ?_
  refine s_nil ?_
  refine f_then ?_
  refine c_condF rfl ?_
  refine c_skip ?_
  refine f_then ?_
  refine c_seq ?_
  refine c_region ?_
  refine s_y (y_loadA Try.tab rfl rfl rfl rfl (cells_row0 0 rfl rfl)) rfl rfl rfl ?_
  refine s_y (y_move rfl) rfl rfl rfl ?_
  refine s_call (en_f rfl Try.call62) (rbundle_spec _ _ _ _ _ _ h.1 h.2 (by omega) (by omega) (by assumption)) rfl rfl rfl (fun _ => ?_)
  refine s_y (y_move rfl) rfl rfl rfl ?_
  refine s_y (y_extract rfl rfl) rfl rfl rfl ?_
  refine s_y (y_extract rfl rfl) rfl rfl rfl ?_
  refine s_y (y_assign rfl) rfl rfl rfl ?_
  refine s_y (y_assign rfl) rfl rfl rfl ?_
  refine s_nil ?_
  refine f_then ?_
  refine c_seq ?_
  refine c_region ?_
  refine s_y (y_move rfl) rfl rfl rfl ?_
  refine s_y (y_move rfl) rfl rfl rfl ?_
  refine s_y (y_assign rfl) rfl rfl rfl ?_
  refine s_y (y_assign rfl) rfl rfl rfl ?_
  refine s_y (y_assign rfl) rfl rfl rfl ?_
  refine s_nil ?_
  refine f_then ?_
  refine c_ret ?_
  exact f_ret () (res3 rfl rfl rfl rfl) (fun w h => h.tail.tail)
set_option maxHeartbeats 4000000 in
theorem Bundle_range (W : World) (Ls : List Chunk) (l : Lay) (s n : Int) (h : Gd l s) (hn : ¬ (0 ≤ n ∧ n < bunsF l s (np l))) : Spec Try.prog 38 #[l.v, .int .i64 s, .int .i64 n] (K W Ls) (fun _ : Unit => .tuple #[.int .i64 0, .int .i64 0, .int .i64 3]) (fun _ => K W Ls) := by
  have hp := np_bd h.1; have h2 := h.2
  have hbb := buns_bd l s (np l) h.1 h.2 hp
  refine enter (args := [_, _, _]) Try.func38 rfl Try.ntmps38 rfl ?_
  refine c_seq ?_
  refine c_region ?_
  refine s_do (do_box rfl) rfl rfl rfl (fun b3 => ?_)
  refine s_y (y_assign rfl) rfl rfl rfl ?_
  refine s_y (y_assign rfl) rfl rfl rfl ?_
  refine s_y (y_assign rfl) rfl rfl rfl ?_
  refine s_nil ?_
  refine f_then ?_
  refine c_seq ?_
  refine c_region ?_
  refine s_y (y_loadA Try.tab rfl rfl rfl rfl (cells_row0 0 rfl rfl)) rfl rfl rfl ?_
  refine s_y (y_move rfl) rfl rfl rfl ?_
  refine s_call (en_f rfl Try.call52) (newRun_gd _ _ _ _ h) rfl rfl rfl (fun _ => ?_)
  refine s_y (y_move rfl) rfl rfl rfl ?_
  refine s_y (y_extract rfl rfl) rfl rfl rfl ?_
  refine s_y (y_extract rfl rfl) rfl rfl rfl ?_
  refine s_do (do_alloc Try.tab rfl) rfl rfl rfl (fun b9 => ?_)
  refine s_set (set_box Try.tab 0 rfl rfl rfl rfl rfl rfl rfl) rfl rfl ?_
  refine s_y (y_assign rfl) rfl rfl rfl ?_
  refine s_nil ?_
  refine f_then ?_
  refine c_seq ?_
  refine c_seq ?_
  refine c_region ?_
  refine s_y (y_move rfl) rfl rfl rfl ?_
  refine s_y (y_F (y_neq rfl rfl) (by omega)) rfl rfl rfl ?_
  refine s_nil ?_
  refine f_then ?_
  refine c_condF rfl ?_
  refine c_skip ?_
  refine f_then ?_
  refine c_seq ?_
  refine c_seq ?_
  refine c_region ?_
  refine s_y (y_move rfl) rfl rfl rfl ?_
  refine s_y (y_loadA Try.tab rfl rfl rfl rfl (cells_row0 0 rfl rfl)) rfl rfl rfl ?_
  refine s_call (en_f rfl Try.call61) (rbundles_spec _ _ _ _ _ h.1 h.2 (by omega)) rfl rfl rfl (fun _ => ?_)
  refine s_y (y_sub rfl rfl (by omega)) rfl rfl rfl ?_
  refine s_call (en_f rfl Try.call55) (sw_no _ (by omega)) rfl rfl rfl (fun _ => ?_)
  refine s_y (y_notF rfl) rfl rfl rfl ?_
  refine s_nil ?_
  refine f_then ?_
  refine c_condT rfl ?_
  refine c_seq ?_
  refine c_region ?_
  refine s_y (y_assign rfl) rfl rfl rfl ?_
  refine s_y (y_assign rfl) rfl rfl rfl ?_
  refine s_y (y_assign rfl) rfl rfl rfl ?_
  refine s_nil ?_
  refine f_then ?_
  refine c_ret ?_
  refine f_thenR ?_
  exact f_ret () (res3 rfl rfl rfl rfl) (fun w h => h.tail.tail)
set_option maxHeartbeats 4000000 in
theorem Bundle_bad (W : World) (Ls : List Chunk) (l : Lay) (s n : Int) (h : ¬ Gd l s) : Spec Try.prog 38 #[l.v, .int .i64 s, .int .i64 n] (K W Ls) (fun _ : Unit => .tuple #[.int .i64 0, .int .i64 0, .int .i64 (wrg l s)]) (fun _ => K W Ls) := by
  have h2 : wrg l s ≠ 0 := fun e => h (wrg_0.1 e)
  refine enter (args := [_, _, _]) Try.func38 rfl Try.ntmps38 rfl ?_
  refine c_seq ?_
  refine c_region ?_
  refine s_do (do_box rfl) rfl rfl rfl (fun b3 => ?_)
  refine s_y (y_assign rfl) rfl rfl rfl ?_
  refine s_y (y_assign rfl) rfl rfl rfl ?_
  refine s_y (y_assign rfl) rfl rfl rfl ?_
  refine s_nil ?_
  refine f_then ?_
  refine c_seq ?_
  refine c_region ?_
  refine s_y (y_loadA Try.tab rfl rfl rfl rfl (cells_row0 0 rfl rfl)) rfl rfl rfl ?_
  refine s_y (y_move rfl) rfl rfl rfl ?_
  refine s_call (en_f rfl Try.call52) (newRun_bad _ _ _ _ h) rfl rfl rfl (fun _ => ?_)
  refine s_y (y_move rfl) rfl rfl rfl ?_
  refine s_y (y_extract rfl rfl) rfl rfl rfl ?_
  refine s_y (y_extract rfl rfl) rfl rfl rfl ?_
  refine s_do (do_alloc Try.tab rfl) rfl rfl rfl (fun b9 => ?_)
  refine s_set (set_box Try.tab 0 rfl rfl rfl rfl rfl rfl rfl) rfl rfl ?_
  refine s_y (y_assign rfl) rfl rfl rfl ?_
  refine s_nil ?_
  refine f_then ?_
  refine c_seq ?_
  refine c_seq ?_
  refine c_region ?_
  refine s_y (y_move rfl) rfl rfl rfl ?_
  refine s_y (y_T (y_neq rfl rfl) (by assumption)) rfl rfl rfl ?_
  refine s_nil ?_
  refine f_then ?_
  refine c_condT rfl ?_
  refine c_seq ?_
  refine c_region ?_
  refine s_y (y_move rfl) rfl rfl rfl ?_
  refine s_y (y_assign rfl) rfl rfl rfl ?_
  refine s_y (y_assign rfl) rfl rfl rfl ?_
  refine s_y (y_assign rfl) rfl rfl rfl ?_
  refine s_nil ?_
  refine f_then ?_
  refine c_ret ?_
  refine f_thenR ?_
  exact f_ret () (res3 rfl rfl rfl rfl) (fun w h => h.tail.tail)
set_option maxHeartbeats 4000000 in
theorem BundleOf_ok (W : World) (Ls : List Chunk) (l : Lay) (s note : Int) (h : Gd l s) (hn : 0 ≤ note ∧ note < s * np l) : Spec Try.prog 39 #[l.v, .int .i64 s, .int .i64 note] (K W Ls) (fun _ : Unit => .tuple #[.int .i64 (bunOfF l s (np l) note), .int .i64 0]) (fun _ => K W Ls) := by
  have hp := np_bd h.1; have h2 := h.2
  have hsp := mul_bd (a := s) (b := np l) (A := 1048576) (B := 256) (by omega) (by omega)
  refine enter (args := [_, _, _]) Try.func39 rfl Try.ntmps39 rfl ?_
  refine c_seq ?_
  refine c_region ?_
  refine s_do (do_box rfl) rfl rfl rfl (fun b3 => ?_)
  refine s_y (y_assign rfl) rfl rfl rfl ?_
  refine s_y (y_assign rfl) rfl rfl rfl ?_
  refine s_nil ?_
  refine f_then ?_
  refine c_seq ?_
  refine c_region ?_
  refine s_y (y_loadA Try.tab rfl rfl rfl rfl (cells_row0 0 rfl rfl)) rfl rfl rfl ?_
  refine s_y (y_move rfl) rfl rfl rfl ?_
  refine s_call (en_f rfl Try.call52) (newRun_gd _ _ _ _ h) rfl rfl rfl (fun _ => ?_)
  refine s_y (y_move rfl) rfl rfl rfl ?_
  refine s_y (y_extract rfl rfl) rfl rfl rfl ?_
  refine s_y (y_extract rfl rfl) rfl rfl rfl ?_
  refine s_do (do_alloc Try.tab rfl) rfl rfl rfl (fun b8 => ?_)
  refine s_set (set_box Try.tab 0 rfl rfl rfl rfl rfl rfl rfl) rfl rfl ?_
  refine s_y (y_assign rfl) rfl rfl rfl ?_
  refine s_nil ?_
  refine f_then ?_
  refine c_seq ?_
  refine c_seq ?_
  refine c_region ?_
  refine s_y (y_move rfl) rfl rfl rfl ?_
  refine s_y (y_F (y_neq rfl rfl) (by omega)) rfl rfl rfl ?_
  refine s_nil ?_
  refine f_then ?_
  refine c_condF rfl ?_
  refine c_skip ?_
  refine f_then ?_
  refine c_seq ?_
  refine c_seq ?_
  refine c_region ?_
  refine s_y (y_move rfl) rfl rfl rfl ?_
  refine s_y (y_loadA Try.tab rfl rfl rfl rfl (cells_row0 0 rfl rfl)) rfl rfl rfl ?_
  refine s_call (en_f rfl Try.call56) (notes_spec _ _ _ _ _ (by omega) (by omega)) rfl rfl rfl (fun _ => ?_)
  refine s_y (y_sub rfl rfl (by omega)) rfl rfl rfl ?_
  refine s_call (en_f rfl Try.call55) (sw_yes _ (by omega)) rfl rfl rfl (fun _ => ?_)
  refine s_y (y_notT rfl) rfl rfl rfl ?_
  refine s_nil ?_
  refine f_then ?_
  refine c_condF rfl ?_
  refine c_skip ?_
  refine f_then ?_
  refine c_seq ?_
  refine c_region ?_
  refine s_y (y_loadA Try.tab rfl rfl rfl rfl (cells_row0 0 rfl rfl)) rfl rfl rfl ?_
  refine s_y (y_move rfl) rfl rfl rfl ?_
  refine s_call (en_f rfl Try.call63) (bundleOf_spec _ _ _ _ _ _ h.1 h.2 (by omega) (by omega)) rfl rfl rfl (fun _ => ?_)
  refine s_y (y_assign rfl) rfl rfl rfl ?_
  refine s_y (y_assign rfl) rfl rfl rfl ?_
  refine s_nil ?_
  refine f_then ?_
  refine c_ret ?_
  exact f_ret () (res2 rfl rfl rfl) (fun w h => h.tail.tail)
set_option maxHeartbeats 4000000 in
theorem BundleOf_range (W : World) (Ls : List Chunk) (l : Lay) (s note : Int) (h : Gd l s) (hn : ¬ (0 ≤ note ∧ note < s * np l)) : Spec Try.prog 39 #[l.v, .int .i64 s, .int .i64 note] (K W Ls) (fun _ : Unit => .tuple #[.int .i64 0, .int .i64 3]) (fun _ => K W Ls) := by
  have hp := np_bd h.1; have h2 := h.2
  have hsp := mul_bd (a := s) (b := np l) (A := 1048576) (B := 256) (by omega) (by omega)
  refine enter (args := [_, _, _]) Try.func39 rfl Try.ntmps39 rfl ?_
  refine c_seq ?_
  refine c_region ?_
  refine s_do (do_box rfl) rfl rfl rfl (fun b3 => ?_)
  refine s_y (y_assign rfl) rfl rfl rfl ?_
  refine s_y (y_assign rfl) rfl rfl rfl ?_
  refine s_nil ?_
  refine f_then ?_
  refine c_seq ?_
  refine c_region ?_
  refine s_y (y_loadA Try.tab rfl rfl rfl rfl (cells_row0 0 rfl rfl)) rfl rfl rfl ?_
  refine s_y (y_move rfl) rfl rfl rfl ?_
  refine s_call (en_f rfl Try.call52) (newRun_gd _ _ _ _ h) rfl rfl rfl (fun _ => ?_)
  refine s_y (y_move rfl) rfl rfl rfl ?_
  refine s_y (y_extract rfl rfl) rfl rfl rfl ?_
  refine s_y (y_extract rfl rfl) rfl rfl rfl ?_
  refine s_do (do_alloc Try.tab rfl) rfl rfl rfl (fun b8 => ?_)
  refine s_set (set_box Try.tab 0 rfl rfl rfl rfl rfl rfl rfl) rfl rfl ?_
  refine s_y (y_assign rfl) rfl rfl rfl ?_
  refine s_nil ?_
  refine f_then ?_
  refine c_seq ?_
  refine c_seq ?_
  refine c_region ?_
  refine s_y (y_move rfl) rfl rfl rfl ?_
  refine s_y (y_F (y_neq rfl rfl) (by omega)) rfl rfl rfl ?_
  refine s_nil ?_
  refine f_then ?_
  refine c_condF rfl ?_
  refine c_skip ?_
  refine f_then ?_
  refine c_seq ?_
  refine c_seq ?_
  refine c_region ?_
  refine s_y (y_move rfl) rfl rfl rfl ?_
  refine s_y (y_loadA Try.tab rfl rfl rfl rfl (cells_row0 0 rfl rfl)) rfl rfl rfl ?_
  refine s_call (en_f rfl Try.call56) (notes_spec _ _ _ _ _ (by omega) (by omega)) rfl rfl rfl (fun _ => ?_)
  refine s_y (y_sub rfl rfl (by omega)) rfl rfl rfl ?_
  refine s_call (en_f rfl Try.call55) (sw_no _ (by omega)) rfl rfl rfl (fun _ => ?_)
  refine s_y (y_notF rfl) rfl rfl rfl ?_
  refine s_nil ?_
  refine f_then ?_
  refine c_condT rfl ?_
  refine c_seq ?_
  refine c_region ?_
  refine s_y (y_assign rfl) rfl rfl rfl ?_
  refine s_y (y_assign rfl) rfl rfl rfl ?_
  refine s_nil ?_
  refine f_then ?_
  refine c_ret ?_
  refine f_thenR ?_
  exact f_ret () (res2 rfl rfl rfl) (fun w h => h.tail.tail)
set_option maxHeartbeats 4000000 in
theorem BundleOf_bad (W : World) (Ls : List Chunk) (l : Lay) (s note : Int) (h : ¬ Gd l s) : Spec Try.prog 39 #[l.v, .int .i64 s, .int .i64 note] (K W Ls) (fun _ : Unit => .tuple #[.int .i64 0, .int .i64 (wrg l s)]) (fun _ => K W Ls) := by
  have h2 : wrg l s ≠ 0 := fun e => h (wrg_0.1 e)
  refine enter (args := [_, _, _]) Try.func39 rfl Try.ntmps39 rfl ?_
  refine c_seq ?_
  refine c_region ?_
  refine s_do (do_box rfl) rfl rfl rfl (fun b3 => ?_)
  refine s_y (y_assign rfl) rfl rfl rfl ?_
  refine s_y (y_assign rfl) rfl rfl rfl ?_
  refine s_nil ?_
  refine f_then ?_
  refine c_seq ?_
  refine c_region ?_
  refine s_y (y_loadA Try.tab rfl rfl rfl rfl (cells_row0 0 rfl rfl)) rfl rfl rfl ?_
  refine s_y (y_move rfl) rfl rfl rfl ?_
  refine s_call (en_f rfl Try.call52) (newRun_bad _ _ _ _ h) rfl rfl rfl (fun _ => ?_)
  refine s_y (y_move rfl) rfl rfl rfl ?_
  refine s_y (y_extract rfl rfl) rfl rfl rfl ?_
  refine s_y (y_extract rfl rfl) rfl rfl rfl ?_
  refine s_do (do_alloc Try.tab rfl) rfl rfl rfl (fun b8 => ?_)
  refine s_set (set_box Try.tab 0 rfl rfl rfl rfl rfl rfl rfl) rfl rfl ?_
  refine s_y (y_assign rfl) rfl rfl rfl ?_
  refine s_nil ?_
  refine f_then ?_
  refine c_seq ?_
  refine c_seq ?_
  refine c_region ?_
  refine s_y (y_move rfl) rfl rfl rfl ?_
  refine s_y (y_T (y_neq rfl rfl) (by assumption)) rfl rfl rfl ?_
  refine s_nil ?_
  refine f_then ?_
  refine c_condT rfl ?_
  refine c_seq ?_
  refine c_region ?_
  refine s_y (y_move rfl) rfl rfl rfl ?_
  refine s_y (y_assign rfl) rfl rfl rfl ?_
  refine s_y (y_assign rfl) rfl rfl rfl ?_
  refine s_nil ?_
  refine f_then ?_
  refine c_ret ?_
  refine f_thenR ?_
  exact f_ret () (res2 rfl rfl rfl) (fun w h => h.tail.tail)
end Go.KL
end

section
/- Plain lemma: bounds of a note. -/
namespace Go.KL
open Go.Proofs
theorem note_bd (l : Lay) (s p sh pos : Int) (h : l.OK) (hp : 1 ≤ p ∧ p ≤ 256) (hsh : 0 ≤ sh ∧ sh < s) (hpos : 0 ≤ pos ∧ pos < p) : 0 ≤ noteF l s p sh pos ∧ noteF l s p sh pos < s * p := by
  have h3 := h.m
  have h1 := rF_bd l sh h3.1 hsh.1
  have hd : rD l s (rF l sh) = min l.m (s - rF l sh) := rfl
  have h2 := Int.mul_nonneg h1.1 (show 0 ≤ p by omega)
  have h4 := Int.mul_nonneg hpos.1 (show 0 ≤ rD l s (rF l sh) by omega)
  have h5 : (pos + 1) * rD l s (rF l sh) ≤ p * rD l s (rF l sh) := Int.mul_le_mul_of_nonneg_right (by omega) (by omega)
  have h6 : (rF l sh + rD l s (rF l sh)) * p ≤ s * p := Int.mul_le_mul_of_nonneg_right (by omega) (by omega)
  rw [Int.add_mul] at h5 h6
  have h7 : p * rD l s (rF l sh) = rD l s (rF l sh) * p := Int.mul_comm _ _
  unfold noteF rnote
  split <;> omega
end Go.KL
end

section
/- Walks: package sheet, Stack. -/
namespace Go.KL
open Go.Proofs
abbrev StackIn (l : Lay) (s a b pos : Int) : Prop := 0 ≤ a ∧ a < b ∧ b ≤ s ∧ (0 ≤ pos ∧ pos < np l) ∧ a / l.m = (b - 1) / l.m
attribute [local irreducible] SC St Fin Sq Sw Ylds Doos Sets Enters Spec CellIs CellsAre Then Ret Rnd Chn resOK ints bools recs arr
set_option maxRecDepth 10000 in
set_option maxHeartbeats 40000000 in
theorem Stack_ok (W : World) (Ls : List Chunk) (l : Lay) (s a b pos : Int) (h : Gd l s) (hc : StackIn l s a b pos) : Spec Try.prog 29 #[l.v, .int .i64 s, .int .i64 a, .int .i64 b, .int .i64 pos] (K W Ls)
    (fun _ : Unit => .tuple #[.int .i64 (min (noteF l s (np l) a pos) (noteF l s (np l) (b - 1) pos)), .int .i64 (max (noteF l s (np l) a pos) (noteF l s (np l) (b - 1) pos) + 1), .int .i64 0]) (fun _ => K W Ls) := by
  have hp := np_bd h.1; have h2 := h.2; have h3 := h.1.m
  obtain ⟨c1, c2, c3, c4, c5⟩ := hc
  have hsp := mul_bd (a := s) (b := np l) (A := 1048576) (B := 256) (by omega) (by omega)
  have q1 := note_bd l s (np l) a pos h.1 hp (by omega) c4
  have q2 := note_bd l s (np l) (b - 1) pos h.1 hp (by omega) c4
  refine enter (args := [_, _, _, _, _]) Try.func29 rfl Try.ntmps29 rfl ?_
  refine c_seq ?_
  refine c_region ?_
  refine s_do (do_box rfl) rfl rfl rfl (fun b5 => ?_)
  refine s_y (y_assign rfl) rfl rfl rfl ?_
  refine s_y (y_assign rfl) rfl rfl rfl ?_
  refine s_y (y_assign rfl) rfl rfl rfl ?_
  refine s_nil ?_
  refine f_then ?_
  refine c_seq ?_
  refine c_region ?_
  refine s_y (y_loadA Try.tab rfl rfl rfl rfl (cells_row0 0 rfl rfl)) rfl rfl rfl ?_
  refine s_y (y_move rfl) rfl rfl rfl ?_
  refine s_call (en_f rfl Try.call52) (newRun_gd _ _ _ _ h) rfl rfl rfl (fun _ => ?_)
  refine s_y (y_move rfl) rfl rfl rfl ?_
  refine s_y (y_extract rfl rfl) rfl rfl rfl ?_
  refine s_y (y_extract rfl rfl) rfl rfl rfl ?_
  refine s_do (do_alloc Try.tab rfl) rfl rfl rfl (fun b13 => ?_)
  refine s_set (set_box Try.tab 0 rfl rfl rfl rfl rfl rfl rfl) rfl rfl ?_
  refine s_y (y_assign rfl) rfl rfl rfl ?_
  refine s_nil ?_
  refine f_then ?_
  refine c_seq ?_
  refine c_seq ?_
  refine c_region ?_
  refine s_y (y_move rfl) rfl rfl rfl ?_
  refine s_y (y_F (y_neq rfl rfl) (by omega)) rfl rfl rfl ?_
  refine s_nil ?_
  refine f_then ?_
  refine c_condF rfl ?_
  refine c_skip ?_
  refine f_then ?_
  refine c_seq ?_
  refine c_seq ?_
  refine c_free [] ((K W ([(b13, row 95 (runV l s (np l)).cells.toList)] :: [(b5, row 23 l.v.cells.toList)] :: Ls))) Try.mixed (by kernel_rfl) K.cl ?_
  refine l_c 0 rfl (by kernel_rfl) (Qui.ylds (y_move rfl)) rfl rfl rfl (fun _ h => h) K.cl ?_
  refine l_c 1 rfl (by kernel_rfl) (Qui.ylds (y_F (y_lss rfl rfl) (by omega))) rfl rfl rfl (fun _ h => h) K.cl ?_
  refine l_c 2 rfl (by kernel_rfl) (Qui.ylds (y_move rfl)) rfl rfl rfl (fun _ h => h) K.cl ?_
  refine l_c 3 rfl (by kernel_rfl) (Qui.ylds (y_move rfl)) rfl rfl rfl (fun _ h => h) K.cl ?_
  refine l_c 4 rfl (by kernel_rfl) (Qui.ylds (y_move rfl)) rfl rfl rfl (fun _ h => h) K.cl ?_
  refine l_c 5 rfl (by kernel_rfl) (Qui.ylds (y_F (y_geq rfl rfl) (by omega))) rfl rfl rfl (fun _ h => h) K.cl ?_
  refine l_c 6 rfl (by kernel_rfl) (Qui.ylds (y_pickF rfl rfl)) rfl rfl rfl (fun _ h => h) K.cl ?_
  refine l_c 7 rfl (by kernel_rfl) (Qui.ylds (y_move rfl)) rfl rfl rfl (fun _ h => h) K.cl ?_
  refine l_c 8 rfl (by kernel_rfl) (Qui.ylds (y_move rfl)) rfl rfl rfl (fun _ h => h) K.cl ?_
  refine l_c 9 rfl (by kernel_rfl) (Qui.ylds (y_move rfl)) rfl rfl rfl (fun _ h => h) K.cl ?_
  refine l_c 10 rfl (by kernel_rfl) (Qui.ylds (y_F (y_gtr rfl rfl) (by omega))) rfl rfl rfl (fun _ h => h) K.cl ?_
  refine l_c 11 rfl (by kernel_rfl) (Qui.ylds (y_pickF rfl rfl)) rfl rfl rfl (fun _ h => h) K.cl ?_
  refine l_c 12 rfl (by kernel_rfl) (Qui.ylds (y_move rfl)) rfl rfl rfl (fun _ h => h) K.cl ?_
  refine l_c 13 rfl (by kernel_rfl) (Qui.ylds (y_move rfl)) rfl rfl rfl (fun _ h => h) K.cl ?_
  refine l_c 14 rfl (by kernel_rfl) (Qui.ylds (y_fieldAddrB Try.tab 6 rfl rfl rfl rfl rfl)) rfl rfl rfl (fun _ h => h) K.cl ?_
  refine l_c 15 rfl (by kernel_rfl) (Qui.ylds (y_load Try.tab rfl rfl (cell_row 0 rfl rfl))) rfl rfl rfl (fun _ h => h) K.cl ?_
  refine l_c 16 rfl (by kernel_rfl) (Qui.ylds (y_sub rfl rfl (by omega))) rfl rfl rfl (fun _ h => h) K.cl ?_
  refine l_c 17 rfl (by kernel_rfl) (Qui.call (en_f rfl Try.call55) (fun w _ => (sw_yes (K w []) (by omega)).qui)) rfl rfl rfl (fun _ h => h) K.cl ?_
  refine l_c 18 rfl (by kernel_rfl) (Qui.ylds (y_notT rfl)) rfl rfl rfl (fun _ h => h) K.cl ?_
  refine l_c 19 rfl (by kernel_rfl) (Qui.ylds (y_pickF rfl rfl)) rfl rfl rfl (fun _ h => h) K.cl ?_
  refine l_c 20 rfl (by kernel_rfl) (Qui.ylds (y_move rfl)) rfl rfl rfl (fun _ h => h) K.cl ?_
  refine l_c 21 rfl (by kernel_rfl) (Qui.ylds (y_move rfl)) rfl rfl rfl (fun _ h => h) K.cl ?_
  refine l_c 22 rfl (by kernel_rfl) (Qui.ylds (y_fieldAddrB Try.tab 2 rfl rfl rfl rfl rfl)) rfl rfl rfl (fun _ h => h) K.cl ?_
  refine l_c 23 rfl (by kernel_rfl) (Qui.ylds (y_load Try.tab rfl rfl (cell_row 1 rfl rfl))) rfl rfl rfl (fun _ h => h) K.cl ?_
  refine l_c 24 rfl (by kernel_rfl) (Qui.ylds (y_quo rfl rfl (by omega))) rfl rfl rfl (fun _ h => h) K.cl ?_
  refine l_c 25 rfl (by kernel_rfl) (Qui.ylds (y_move rfl)) rfl rfl rfl (fun _ h => h) K.cl ?_
  refine l_c 26 rfl (by kernel_rfl) (Qui.ylds (y_sub rfl rfl (by omega))) rfl rfl rfl (fun _ h => h) K.cl ?_
  refine l_c 27 rfl (by kernel_rfl) (Qui.ylds (y_fieldAddrB Try.tab 2 rfl rfl rfl rfl rfl)) rfl rfl rfl (fun _ h => h) K.cl ?_
  refine l_c 28 rfl (by kernel_rfl) (Qui.ylds (y_load Try.tab rfl rfl (cell_row 1 rfl rfl))) rfl rfl rfl (fun _ h => h) K.cl ?_
  refine l_c 29 rfl (by kernel_rfl) (Qui.ylds (y_quo rfl rfl (by omega))) rfl rfl rfl (fun _ h => h) K.cl ?_
  refine l_c 30 rfl (by kernel_rfl) (Qui.ylds (y_F (y_neq rfl rfl) (by omega))) rfl rfl rfl (fun _ h => h) K.cl ?_
  refine l_c 31 rfl (by kernel_rfl) (Qui.ylds (y_pickF rfl rfl)) rfl rfl rfl (fun _ h => h) K.cl ?_
  refine l_nil (by kernel_rfl) ?_
  refine f_then ?_
  refine c_condF rfl ?_
  refine c_skip ?_
  refine f_then ?_
  refine c_seq ?_
  refine c_free [] ((K W ([(b13, row 95 (runV l s (np l)).cells.toList)] :: [(b5, row 23 l.v.cells.toList)] :: Ls))) Try.mixed (by kernel_rfl) K.cl ?_
  refine l_c 0 rfl (by kernel_rfl) (Qui.ylds (y_loadA Try.tab rfl rfl rfl rfl (cells_row0 0 rfl rfl))) rfl rfl rfl (fun _ h => h) K.cl ?_
  refine l_c 1 rfl (by kernel_rfl) (Qui.ylds (y_move rfl)) rfl rfl rfl (fun _ h => h) K.cl ?_
  refine l_c 2 rfl (by kernel_rfl) (Qui.ylds (y_move rfl)) rfl rfl rfl (fun _ h => h) K.cl ?_
  refine l_c 3 rfl (by kernel_rfl) (Qui.ylds (y_build Try.tab rfl rfl rfl rfl rfl)) rfl rfl rfl (fun _ h => h) K.cl ?_
  refine l_c 5 rfl (by kernel_rfl) (Qui.ylds (y_loadA Try.tab rfl rfl rfl rfl (cells_row0 0 rfl rfl))) rfl rfl rfl (fun _ h => h) K.cl ?_
  refine l_c 6 rfl (by kernel_rfl) (Qui.ylds (y_move rfl)) rfl rfl rfl (fun _ h => h) K.cl ?_
  refine l_c 7 rfl (by kernel_rfl) (Qui.ylds (y_sub rfl rfl (by omega))) rfl rfl rfl (fun _ h => h) K.cl ?_
  refine l_c 8 rfl (by kernel_rfl) (Qui.ylds (y_move rfl)) rfl rfl rfl (fun _ h => h) K.cl ?_
  refine l_c 9 rfl (by kernel_rfl) (Qui.ylds (y_build Try.tab rfl rfl rfl rfl rfl)) rfl rfl rfl (fun _ h => h) K.cl ?_
  refine l_c 4 rfl (by kernel_rfl) (Qui.call (en_f rfl Try.call54) (fun w _ => (note_spec w [] l s (np l) a pos h.1 h.2 hp (by omega) (by omega)).qui)) rfl rfl rfl (fun _ h => h) K.cl ?_
  refine l_c 10 rfl (by kernel_rfl) (Qui.call (en_f rfl Try.call54) (fun w _ => (note_spec w [] l s (np l) (b - 1) pos h.1 h.2 hp (by omega) (by omega)).qui)) rfl rfl rfl (fun _ h => h) K.cl ?_
  refine l_c 11 rfl (by kernel_rfl) (Qui.ylds (y_assign rfl)) rfl rfl rfl (fun _ h => h) K.cl ?_
  refine l_c 12 rfl (by kernel_rfl) (Qui.ylds (y_assign rfl)) rfl rfl rfl (fun _ h => h) K.cl ?_
  refine l_nil (by kernel_rfl) ?_
  refine f_then ?_
  refine c_seq ?_
  refine c_region ?_
  refine s_y (y_move rfl) rfl rfl rfl ?_
  refine s_y (y_move rfl) rfl rfl rfl ?_
  refine s_y (y_min rfl rfl) rfl rfl rfl ?_
  refine s_y (y_move rfl) rfl rfl rfl ?_
  refine s_y (y_move rfl) rfl rfl rfl ?_
  refine s_y (y_max rfl rfl) rfl rfl rfl ?_
  refine s_y (y_add rfl rfl (by omega)) rfl rfl rfl ?_
  refine s_y (y_assign rfl) rfl rfl rfl ?_
  refine s_y (y_assign rfl) rfl rfl rfl ?_
  refine s_y (y_assign rfl) rfl rfl rfl ?_
  refine s_nil ?_
  refine f_then ?_
  refine c_ret ?_
  exact f_ret () (res3 rfl rfl rfl rfl) (fun w h => h.tail.tail)
set_option maxRecDepth 10000 in
set_option maxHeartbeats 40000000 in
theorem Stack_range (W : World) (Ls : List Chunk) (l : Lay) (s a b pos : Int) (h : Gd l s) (hc : ¬ StackIn l s a b pos) : Spec Try.prog 29 #[l.v, .int .i64 s, .int .i64 a, .int .i64 b, .int .i64 pos] (K W Ls)
    (fun _ : Unit => .tuple #[.int .i64 0, .int .i64 0, .int .i64 3]) (fun _ => K W Ls) := by
  have hp := np_bd h.1; have h2 := h.2; have h3 := h.1.m
  refine enter (args := [_, _, _, _, _]) Try.func29 rfl Try.ntmps29 rfl ?_
  by_cases c1 : a < 0
  · clear hc
    refine c_seq ?_
    refine c_region ?_
    refine s_do (do_box rfl) rfl rfl rfl (fun b5 => ?_)
    refine s_y (y_assign rfl) rfl rfl rfl ?_
    refine s_y (y_assign rfl) rfl rfl rfl ?_
    refine s_y (y_assign rfl) rfl rfl rfl ?_
    refine s_nil ?_
    refine f_then ?_
    refine c_seq ?_
    refine c_region ?_
    refine s_y (y_loadA Try.tab rfl rfl rfl rfl (cells_row0 0 rfl rfl)) rfl rfl rfl ?_
    refine s_y (y_move rfl) rfl rfl rfl ?_
    refine s_call (en_f rfl Try.call52) (newRun_gd _ _ _ _ h) rfl rfl rfl (fun _ => ?_)
    refine s_y (y_move rfl) rfl rfl rfl ?_
    refine s_y (y_extract rfl rfl) rfl rfl rfl ?_
    refine s_y (y_extract rfl rfl) rfl rfl rfl ?_
    refine s_do (do_alloc Try.tab rfl) rfl rfl rfl (fun b13 => ?_)
    refine s_set (set_box Try.tab 0 rfl rfl rfl rfl rfl rfl rfl) rfl rfl ?_
    refine s_y (y_assign rfl) rfl rfl rfl ?_
    refine s_nil ?_
    refine f_then ?_
    refine c_seq ?_
    refine c_seq ?_
    refine c_region ?_
    refine s_y (y_move rfl) rfl rfl rfl ?_
    refine s_y (y_F (y_neq rfl rfl) (by omega)) rfl rfl rfl ?_
    refine s_nil ?_
    refine f_then ?_
    refine c_condF rfl ?_
    refine c_skip ?_
    refine f_then ?_
    refine c_seq ?_
    refine c_seq ?_
    refine c_free [] ((K W ([(b13, row 95 (runV l s (np l)).cells.toList)] :: [(b5, row 23 l.v.cells.toList)] :: Ls))) Try.mixed (by kernel_rfl) K.cl ?_
    refine l_c 0 rfl (by kernel_rfl) (Qui.ylds (y_move rfl)) rfl rfl rfl (fun _ h => h) K.cl ?_
    refine l_c 1 rfl (by kernel_rfl) (Qui.ylds (y_T (y_lss rfl rfl) (by assumption))) rfl rfl rfl (fun _ h => h) K.cl ?_
    refine l_c 2 rfl (by kernel_rfl) (Qui.ylds (y_move rfl)) rfl rfl rfl (fun _ h => h) K.cl ?_
    refine l_skip 3 rfl (by kernel_rfl) rfl rfl rfl (fun _ h => h) K.cl ?_
    refine l_skip 4 rfl (by kernel_rfl) rfl rfl rfl (fun _ h => h) K.cl ?_
    refine l_skip 5 rfl (by kernel_rfl) rfl rfl rfl (fun _ h => h) K.cl ?_
    refine l_c 6 rfl (by kernel_rfl) (Qui.ylds (y_pickT rfl rfl)) rfl rfl rfl (fun _ h => h) K.cl ?_
    refine l_c 7 rfl (by kernel_rfl) (Qui.ylds (y_move rfl)) rfl rfl rfl (fun _ h => h) K.cl ?_
    refine l_skip 8 rfl (by kernel_rfl) rfl rfl rfl (fun _ h => h) K.cl ?_
    refine l_skip 9 rfl (by kernel_rfl) rfl rfl rfl (fun _ h => h) K.cl ?_
    refine l_skip 10 rfl (by kernel_rfl) rfl rfl rfl (fun _ h => h) K.cl ?_
    refine l_c 11 rfl (by kernel_rfl) (Qui.ylds (y_pickT rfl rfl)) rfl rfl rfl (fun _ h => h) K.cl ?_
    refine l_c 12 rfl (by kernel_rfl) (Qui.ylds (y_move rfl)) rfl rfl rfl (fun _ h => h) K.cl ?_
    refine l_skip 13 rfl (by kernel_rfl) rfl rfl rfl (fun _ h => h) K.cl ?_
    refine l_skip 14 rfl (by kernel_rfl) rfl rfl rfl (fun _ h => h) K.cl ?_
    refine l_skip 15 rfl (by kernel_rfl) rfl rfl rfl (fun _ h => h) K.cl ?_
    refine l_skip 16 rfl (by kernel_rfl) rfl rfl rfl (fun _ h => h) K.cl ?_
    refine l_skip 17 rfl (by kernel_rfl) rfl rfl rfl (fun _ h => h) K.cl ?_
    refine l_skip 18 rfl (by kernel_rfl) rfl rfl rfl (fun _ h => h) K.cl ?_
    refine l_c 19 rfl (by kernel_rfl) (Qui.ylds (y_pickT rfl rfl)) rfl rfl rfl (fun _ h => h) K.cl ?_
    refine l_c 20 rfl (by kernel_rfl) (Qui.ylds (y_move rfl)) rfl rfl rfl (fun _ h => h) K.cl ?_
    refine l_skip 21 rfl (by kernel_rfl) rfl rfl rfl (fun _ h => h) K.cl ?_
    refine l_skip 22 rfl (by kernel_rfl) rfl rfl rfl (fun _ h => h) K.cl ?_
    refine l_skip 23 rfl (by kernel_rfl) rfl rfl rfl (fun _ h => h) K.cl ?_
    refine l_skip 24 rfl (by kernel_rfl) rfl rfl rfl (fun _ h => h) K.cl ?_
    refine l_skip 25 rfl (by kernel_rfl) rfl rfl rfl (fun _ h => h) K.cl ?_
    refine l_skip 26 rfl (by kernel_rfl) rfl rfl rfl (fun _ h => h) K.cl ?_
    refine l_skip 27 rfl (by kernel_rfl) rfl rfl rfl (fun _ h => h) K.cl ?_
    refine l_skip 28 rfl (by kernel_rfl) rfl rfl rfl (fun _ h => h) K.cl ?_
    refine l_skip 29 rfl (by kernel_rfl) rfl rfl rfl (fun _ h => h) K.cl ?_
    refine l_skip 30 rfl (by kernel_rfl) rfl rfl rfl (fun _ h => h) K.cl ?_
    refine l_c 31 rfl (by kernel_rfl) (Qui.ylds (y_pickT rfl rfl)) rfl rfl rfl (fun _ h => h) K.cl ?_
    refine l_nil (by kernel_rfl) ?_
    refine f_then ?_
    refine c_condT rfl ?_
    refine c_seq ?_
    refine c_region ?_
    refine s_y (y_assign rfl) rfl rfl rfl ?_
    refine s_y (y_assign rfl) rfl rfl rfl ?_
    refine s_y (y_assign rfl) rfl rfl rfl ?_
    refine s_nil ?_
    refine f_then ?_
    refine c_ret ?_
    refine f_thenR ?_
    exact f_ret () (res3 rfl rfl rfl rfl) (fun w h => h.tail.tail)
  by_cases c2 : b ≤ a
  · clear hc
    refine c_seq ?_
    refine c_region ?_
    refine s_do (do_box rfl) rfl rfl rfl (fun b5 => ?_)
    refine s_y (y_assign rfl) rfl rfl rfl ?_
    refine s_y (y_assign rfl) rfl rfl rfl ?_
    refine s_y (y_assign rfl) rfl rfl rfl ?_
    refine s_nil ?_
    refine f_then ?_
    refine c_seq ?_
    refine c_region ?_
    refine s_y (y_loadA Try.tab rfl rfl rfl rfl (cells_row0 0 rfl rfl)) rfl rfl rfl ?_
    refine s_y (y_move rfl) rfl rfl rfl ?_
    refine s_call (en_f rfl Try.call52) (newRun_gd _ _ _ _ h) rfl rfl rfl (fun _ => ?_)
    refine s_y (y_move rfl) rfl rfl rfl ?_
    refine s_y (y_extract rfl rfl) rfl rfl rfl ?_
    refine s_y (y_extract rfl rfl) rfl rfl rfl ?_
    refine s_do (do_alloc Try.tab rfl) rfl rfl rfl (fun b13 => ?_)
    refine s_set (set_box Try.tab 0 rfl rfl rfl rfl rfl rfl rfl) rfl rfl ?_
    refine s_y (y_assign rfl) rfl rfl rfl ?_
    refine s_nil ?_
    refine f_then ?_
    refine c_seq ?_
    refine c_seq ?_
    refine c_region ?_
    refine s_y (y_move rfl) rfl rfl rfl ?_
    refine s_y (y_F (y_neq rfl rfl) (by omega)) rfl rfl rfl ?_
    refine s_nil ?_
    refine f_then ?_
    refine c_condF rfl ?_
    refine c_skip ?_
    refine f_then ?_
    refine c_seq ?_
    refine c_seq ?_
    refine c_free [] ((K W ([(b13, row 95 (runV l s (np l)).cells.toList)] :: [(b5, row 23 l.v.cells.toList)] :: Ls))) Try.mixed (by kernel_rfl) K.cl ?_
    refine l_c 0 rfl (by kernel_rfl) (Qui.ylds (y_move rfl)) rfl rfl rfl (fun _ h => h) K.cl ?_
    refine l_c 1 rfl (by kernel_rfl) (Qui.ylds (y_F (y_lss rfl rfl) (by assumption))) rfl rfl rfl (fun _ h => h) K.cl ?_
    refine l_c 2 rfl (by kernel_rfl) (Qui.ylds (y_move rfl)) rfl rfl rfl (fun _ h => h) K.cl ?_
    refine l_c 3 rfl (by kernel_rfl) (Qui.ylds (y_move rfl)) rfl rfl rfl (fun _ h => h) K.cl ?_
    refine l_c 4 rfl (by kernel_rfl) (Qui.ylds (y_move rfl)) rfl rfl rfl (fun _ h => h) K.cl ?_
    refine l_c 5 rfl (by kernel_rfl) (Qui.ylds (y_T (y_geq rfl rfl) (by assumption))) rfl rfl rfl (fun _ h => h) K.cl ?_
    refine l_c 6 rfl (by kernel_rfl) (Qui.ylds (y_pickF rfl rfl)) rfl rfl rfl (fun _ h => h) K.cl ?_
    refine l_c 7 rfl (by kernel_rfl) (Qui.ylds (y_move rfl)) rfl rfl rfl (fun _ h => h) K.cl ?_
    refine l_skip 8 rfl (by kernel_rfl) rfl rfl rfl (fun _ h => h) K.cl ?_
    refine l_skip 9 rfl (by kernel_rfl) rfl rfl rfl (fun _ h => h) K.cl ?_
    refine l_skip 10 rfl (by kernel_rfl) rfl rfl rfl (fun _ h => h) K.cl ?_
    refine l_c 11 rfl (by kernel_rfl) (Qui.ylds (y_pickT rfl rfl)) rfl rfl rfl (fun _ h => h) K.cl ?_
    refine l_c 12 rfl (by kernel_rfl) (Qui.ylds (y_move rfl)) rfl rfl rfl (fun _ h => h) K.cl ?_
    refine l_skip 13 rfl (by kernel_rfl) rfl rfl rfl (fun _ h => h) K.cl ?_
    refine l_skip 14 rfl (by kernel_rfl) rfl rfl rfl (fun _ h => h) K.cl ?_
    refine l_skip 15 rfl (by kernel_rfl) rfl rfl rfl (fun _ h => h) K.cl ?_
    refine l_skip 16 rfl (by kernel_rfl) rfl rfl rfl (fun _ h => h) K.cl ?_
    refine l_skip 17 rfl (by kernel_rfl) rfl rfl rfl (fun _ h => h) K.cl ?_
    refine l_skip 18 rfl (by kernel_rfl) rfl rfl rfl (fun _ h => h) K.cl ?_
    refine l_c 19 rfl (by kernel_rfl) (Qui.ylds (y_pickT rfl rfl)) rfl rfl rfl (fun _ h => h) K.cl ?_
    refine l_c 20 rfl (by kernel_rfl) (Qui.ylds (y_move rfl)) rfl rfl rfl (fun _ h => h) K.cl ?_
    refine l_skip 21 rfl (by kernel_rfl) rfl rfl rfl (fun _ h => h) K.cl ?_
    refine l_skip 22 rfl (by kernel_rfl) rfl rfl rfl (fun _ h => h) K.cl ?_
    refine l_skip 23 rfl (by kernel_rfl) rfl rfl rfl (fun _ h => h) K.cl ?_
    refine l_skip 24 rfl (by kernel_rfl) rfl rfl rfl (fun _ h => h) K.cl ?_
    refine l_skip 25 rfl (by kernel_rfl) rfl rfl rfl (fun _ h => h) K.cl ?_
    refine l_skip 26 rfl (by kernel_rfl) rfl rfl rfl (fun _ h => h) K.cl ?_
    refine l_skip 27 rfl (by kernel_rfl) rfl rfl rfl (fun _ h => h) K.cl ?_
    refine l_skip 28 rfl (by kernel_rfl) rfl rfl rfl (fun _ h => h) K.cl ?_
    refine l_skip 29 rfl (by kernel_rfl) rfl rfl rfl (fun _ h => h) K.cl ?_
    refine l_skip 30 rfl (by kernel_rfl) rfl rfl rfl (fun _ h => h) K.cl ?_
    refine l_c 31 rfl (by kernel_rfl) (Qui.ylds (y_pickT rfl rfl)) rfl rfl rfl (fun _ h => h) K.cl ?_
    refine l_nil (by kernel_rfl) ?_
    refine f_then ?_
    refine c_condT rfl ?_
    refine c_seq ?_
    refine c_region ?_
    refine s_y (y_assign rfl) rfl rfl rfl ?_
    refine s_y (y_assign rfl) rfl rfl rfl ?_
    refine s_y (y_assign rfl) rfl rfl rfl ?_
    refine s_nil ?_
    refine f_then ?_
    refine c_ret ?_
    refine f_thenR ?_
    exact f_ret () (res3 rfl rfl rfl rfl) (fun w h => h.tail.tail)
  by_cases c3 : s < b
  · clear hc
    refine c_seq ?_
    refine c_region ?_
    refine s_do (do_box rfl) rfl rfl rfl (fun b5 => ?_)
    refine s_y (y_assign rfl) rfl rfl rfl ?_
    refine s_y (y_assign rfl) rfl rfl rfl ?_
    refine s_y (y_assign rfl) rfl rfl rfl ?_
    refine s_nil ?_
    refine f_then ?_
    refine c_seq ?_
    refine c_region ?_
    refine s_y (y_loadA Try.tab rfl rfl rfl rfl (cells_row0 0 rfl rfl)) rfl rfl rfl ?_
    refine s_y (y_move rfl) rfl rfl rfl ?_
    refine s_call (en_f rfl Try.call52) (newRun_gd _ _ _ _ h) rfl rfl rfl (fun _ => ?_)
    refine s_y (y_move rfl) rfl rfl rfl ?_
    refine s_y (y_extract rfl rfl) rfl rfl rfl ?_
    refine s_y (y_extract rfl rfl) rfl rfl rfl ?_
    refine s_do (do_alloc Try.tab rfl) rfl rfl rfl (fun b13 => ?_)
    refine s_set (set_box Try.tab 0 rfl rfl rfl rfl rfl rfl rfl) rfl rfl ?_
    refine s_y (y_assign rfl) rfl rfl rfl ?_
    refine s_nil ?_
    refine f_then ?_
    refine c_seq ?_
    refine c_seq ?_
    refine c_region ?_
    refine s_y (y_move rfl) rfl rfl rfl ?_
    refine s_y (y_F (y_neq rfl rfl) (by omega)) rfl rfl rfl ?_
    refine s_nil ?_
    refine f_then ?_
    refine c_condF rfl ?_
    refine c_skip ?_
    refine f_then ?_
    refine c_seq ?_
    refine c_seq ?_
    refine c_free [] ((K W ([(b13, row 95 (runV l s (np l)).cells.toList)] :: [(b5, row 23 l.v.cells.toList)] :: Ls))) Try.mixed (by kernel_rfl) K.cl ?_
    refine l_c 0 rfl (by kernel_rfl) (Qui.ylds (y_move rfl)) rfl rfl rfl (fun _ h => h) K.cl ?_
    refine l_c 1 rfl (by kernel_rfl) (Qui.ylds (y_F (y_lss rfl rfl) (by assumption))) rfl rfl rfl (fun _ h => h) K.cl ?_
    refine l_c 2 rfl (by kernel_rfl) (Qui.ylds (y_move rfl)) rfl rfl rfl (fun _ h => h) K.cl ?_
    refine l_c 3 rfl (by kernel_rfl) (Qui.ylds (y_move rfl)) rfl rfl rfl (fun _ h => h) K.cl ?_
    refine l_c 4 rfl (by kernel_rfl) (Qui.ylds (y_move rfl)) rfl rfl rfl (fun _ h => h) K.cl ?_
    refine l_c 5 rfl (by kernel_rfl) (Qui.ylds (y_F (y_geq rfl rfl) (by assumption))) rfl rfl rfl (fun _ h => h) K.cl ?_
    refine l_c 6 rfl (by kernel_rfl) (Qui.ylds (y_pickF rfl rfl)) rfl rfl rfl (fun _ h => h) K.cl ?_
    refine l_c 7 rfl (by kernel_rfl) (Qui.ylds (y_move rfl)) rfl rfl rfl (fun _ h => h) K.cl ?_
    refine l_c 8 rfl (by kernel_rfl) (Qui.ylds (y_move rfl)) rfl rfl rfl (fun _ h => h) K.cl ?_
    refine l_c 9 rfl (by kernel_rfl) (Qui.ylds (y_move rfl)) rfl rfl rfl (fun _ h => h) K.cl ?_
    refine l_c 10 rfl (by kernel_rfl) (Qui.ylds (y_T (y_gtr rfl rfl) (by assumption))) rfl rfl rfl (fun _ h => h) K.cl ?_
    refine l_c 11 rfl (by kernel_rfl) (Qui.ylds (y_pickF rfl rfl)) rfl rfl rfl (fun _ h => h) K.cl ?_
    refine l_c 12 rfl (by kernel_rfl) (Qui.ylds (y_move rfl)) rfl rfl rfl (fun _ h => h) K.cl ?_
    refine l_skip 13 rfl (by kernel_rfl) rfl rfl rfl (fun _ h => h) K.cl ?_
    refine l_skip 14 rfl (by kernel_rfl) rfl rfl rfl (fun _ h => h) K.cl ?_
    refine l_skip 15 rfl (by kernel_rfl) rfl rfl rfl (fun _ h => h) K.cl ?_
    refine l_skip 16 rfl (by kernel_rfl) rfl rfl rfl (fun _ h => h) K.cl ?_
    refine l_skip 17 rfl (by kernel_rfl) rfl rfl rfl (fun _ h => h) K.cl ?_
    refine l_skip 18 rfl (by kernel_rfl) rfl rfl rfl (fun _ h => h) K.cl ?_
    refine l_c 19 rfl (by kernel_rfl) (Qui.ylds (y_pickT rfl rfl)) rfl rfl rfl (fun _ h => h) K.cl ?_
    refine l_c 20 rfl (by kernel_rfl) (Qui.ylds (y_move rfl)) rfl rfl rfl (fun _ h => h) K.cl ?_
    refine l_skip 21 rfl (by kernel_rfl) rfl rfl rfl (fun _ h => h) K.cl ?_
    refine l_skip 22 rfl (by kernel_rfl) rfl rfl rfl (fun _ h => h) K.cl ?_
    refine l_skip 23 rfl (by kernel_rfl) rfl rfl rfl (fun _ h => h) K.cl ?_
    refine l_skip 24 rfl (by kernel_rfl) rfl rfl rfl (fun _ h => h) K.cl ?_
    refine l_skip 25 rfl (by kernel_rfl) rfl rfl rfl (fun _ h => h) K.cl ?_
    refine l_skip 26 rfl (by kernel_rfl) rfl rfl rfl (fun _ h => h) K.cl ?_
    refine l_skip 27 rfl (by kernel_rfl) rfl rfl rfl (fun _ h => h) K.cl ?_
    refine l_skip 28 rfl (by kernel_rfl) rfl rfl rfl (fun _ h => h) K.cl ?_
    refine l_skip 29 rfl (by kernel_rfl) rfl rfl rfl (fun _ h => h) K.cl ?_
    refine l_skip 30 rfl (by kernel_rfl) rfl rfl rfl (fun _ h => h) K.cl ?_
    refine l_c 31 rfl (by kernel_rfl) (Qui.ylds (y_pickT rfl rfl)) rfl rfl rfl (fun _ h => h) K.cl ?_
    refine l_nil (by kernel_rfl) ?_
    refine f_then ?_
    refine c_condT rfl ?_
    refine c_seq ?_
    refine c_region ?_
    refine s_y (y_assign rfl) rfl rfl rfl ?_
    refine s_y (y_assign rfl) rfl rfl rfl ?_
    refine s_y (y_assign rfl) rfl rfl rfl ?_
    refine s_nil ?_
    refine f_then ?_
    refine c_ret ?_
    refine f_thenR ?_
    exact f_ret () (res3 rfl rfl rfl rfl) (fun w h => h.tail.tail)
  by_cases c4 : 0 ≤ pos ∧ pos < np l
  · have c5 : ¬ a / l.m = (b - 1) / l.m := fun e => hc ⟨by omega, by omega, by omega, c4, e⟩
    clear hc
    refine c_seq ?_
    refine c_region ?_
    refine s_do (do_box rfl) rfl rfl rfl (fun b5 => ?_)
    refine s_y (y_assign rfl) rfl rfl rfl ?_
    refine s_y (y_assign rfl) rfl rfl rfl ?_
    refine s_y (y_assign rfl) rfl rfl rfl ?_
    refine s_nil ?_
    refine f_then ?_
    refine c_seq ?_
    refine c_region ?_
    refine s_y (y_loadA Try.tab rfl rfl rfl rfl (cells_row0 0 rfl rfl)) rfl rfl rfl ?_
    refine s_y (y_move rfl) rfl rfl rfl ?_
    refine s_call (en_f rfl Try.call52) (newRun_gd _ _ _ _ h) rfl rfl rfl (fun _ => ?_)
    refine s_y (y_move rfl) rfl rfl rfl ?_
    refine s_y (y_extract rfl rfl) rfl rfl rfl ?_
    refine s_y (y_extract rfl rfl) rfl rfl rfl ?_
    refine s_do (do_alloc Try.tab rfl) rfl rfl rfl (fun b13 => ?_)
    refine s_set (set_box Try.tab 0 rfl rfl rfl rfl rfl rfl rfl) rfl rfl ?_
    refine s_y (y_assign rfl) rfl rfl rfl ?_
    refine s_nil ?_
    refine f_then ?_
    refine c_seq ?_
    refine c_seq ?_
    refine c_region ?_
    refine s_y (y_move rfl) rfl rfl rfl ?_
    refine s_y (y_F (y_neq rfl rfl) (by omega)) rfl rfl rfl ?_
    refine s_nil ?_
    refine f_then ?_
    refine c_condF rfl ?_
    refine c_skip ?_
    refine f_then ?_
    refine c_seq ?_
    refine c_seq ?_
    refine c_free [] ((K W ([(b13, row 95 (runV l s (np l)).cells.toList)] :: [(b5, row 23 l.v.cells.toList)] :: Ls))) Try.mixed (by kernel_rfl) K.cl ?_
    refine l_c 0 rfl (by kernel_rfl) (Qui.ylds (y_move rfl)) rfl rfl rfl (fun _ h => h) K.cl ?_
    refine l_c 1 rfl (by kernel_rfl) (Qui.ylds (y_F (y_lss rfl rfl) (by assumption))) rfl rfl rfl (fun _ h => h) K.cl ?_
    refine l_c 2 rfl (by kernel_rfl) (Qui.ylds (y_move rfl)) rfl rfl rfl (fun _ h => h) K.cl ?_
    refine l_c 3 rfl (by kernel_rfl) (Qui.ylds (y_move rfl)) rfl rfl rfl (fun _ h => h) K.cl ?_
    refine l_c 4 rfl (by kernel_rfl) (Qui.ylds (y_move rfl)) rfl rfl rfl (fun _ h => h) K.cl ?_
    refine l_c 5 rfl (by kernel_rfl) (Qui.ylds (y_F (y_geq rfl rfl) (by assumption))) rfl rfl rfl (fun _ h => h) K.cl ?_
    refine l_c 6 rfl (by kernel_rfl) (Qui.ylds (y_pickF rfl rfl)) rfl rfl rfl (fun _ h => h) K.cl ?_
    refine l_c 7 rfl (by kernel_rfl) (Qui.ylds (y_move rfl)) rfl rfl rfl (fun _ h => h) K.cl ?_
    refine l_c 8 rfl (by kernel_rfl) (Qui.ylds (y_move rfl)) rfl rfl rfl (fun _ h => h) K.cl ?_
    refine l_c 9 rfl (by kernel_rfl) (Qui.ylds (y_move rfl)) rfl rfl rfl (fun _ h => h) K.cl ?_
    refine l_c 10 rfl (by kernel_rfl) (Qui.ylds (y_F (y_gtr rfl rfl) (by assumption))) rfl rfl rfl (fun _ h => h) K.cl ?_
    refine l_c 11 rfl (by kernel_rfl) (Qui.ylds (y_pickF rfl rfl)) rfl rfl rfl (fun _ h => h) K.cl ?_
    refine l_c 12 rfl (by kernel_rfl) (Qui.ylds (y_move rfl)) rfl rfl rfl (fun _ h => h) K.cl ?_
    refine l_c 13 rfl (by kernel_rfl) (Qui.ylds (y_move rfl)) rfl rfl rfl (fun _ h => h) K.cl ?_
    refine l_c 14 rfl (by kernel_rfl) (Qui.ylds (y_fieldAddrB Try.tab 6 rfl rfl rfl rfl rfl)) rfl rfl rfl (fun _ h => h) K.cl ?_
    refine l_c 15 rfl (by kernel_rfl) (Qui.ylds (y_load Try.tab rfl rfl (cell_row 0 rfl rfl))) rfl rfl rfl (fun _ h => h) K.cl ?_
    refine l_c 16 rfl (by kernel_rfl) (Qui.ylds (y_sub rfl rfl (by omega))) rfl rfl rfl (fun _ h => h) K.cl ?_
    refine l_c 17 rfl (by kernel_rfl) (Qui.call (en_f rfl Try.call55) (fun w _ => (sw_yes (K w []) (by omega)).qui)) rfl rfl rfl (fun _ h => h) K.cl ?_
    refine l_c 18 rfl (by kernel_rfl) (Qui.ylds (y_notT rfl)) rfl rfl rfl (fun _ h => h) K.cl ?_
    refine l_c 19 rfl (by kernel_rfl) (Qui.ylds (y_pickF rfl rfl)) rfl rfl rfl (fun _ h => h) K.cl ?_
    refine l_c 20 rfl (by kernel_rfl) (Qui.ylds (y_move rfl)) rfl rfl rfl (fun _ h => h) K.cl ?_
    refine l_c 21 rfl (by kernel_rfl) (Qui.ylds (y_move rfl)) rfl rfl rfl (fun _ h => h) K.cl ?_
    refine l_c 22 rfl (by kernel_rfl) (Qui.ylds (y_fieldAddrB Try.tab 2 rfl rfl rfl rfl rfl)) rfl rfl rfl (fun _ h => h) K.cl ?_
    refine l_c 23 rfl (by kernel_rfl) (Qui.ylds (y_load Try.tab rfl rfl (cell_row 1 rfl rfl))) rfl rfl rfl (fun _ h => h) K.cl ?_
    refine l_c 24 rfl (by kernel_rfl) (Qui.ylds (y_quo rfl rfl (by omega))) rfl rfl rfl (fun _ h => h) K.cl ?_
    refine l_c 25 rfl (by kernel_rfl) (Qui.ylds (y_move rfl)) rfl rfl rfl (fun _ h => h) K.cl ?_
    refine l_c 26 rfl (by kernel_rfl) (Qui.ylds (y_sub rfl rfl (by omega))) rfl rfl rfl (fun _ h => h) K.cl ?_
    refine l_c 27 rfl (by kernel_rfl) (Qui.ylds (y_fieldAddrB Try.tab 2 rfl rfl rfl rfl rfl)) rfl rfl rfl (fun _ h => h) K.cl ?_
    refine l_c 28 rfl (by kernel_rfl) (Qui.ylds (y_load Try.tab rfl rfl (cell_row 1 rfl rfl))) rfl rfl rfl (fun _ h => h) K.cl ?_
    refine l_c 29 rfl (by kernel_rfl) (Qui.ylds (y_quo rfl rfl (by omega))) rfl rfl rfl (fun _ h => h) K.cl ?_
    refine l_c 30 rfl (by kernel_rfl) (Qui.ylds (y_T (y_neq rfl rfl) (by assumption))) rfl rfl rfl (fun _ h => h) K.cl ?_
    refine l_c 31 rfl (by kernel_rfl) (Qui.ylds (y_pickF rfl rfl)) rfl rfl rfl (fun _ h => h) K.cl ?_
    refine l_nil (by kernel_rfl) ?_
    refine f_then ?_
    refine c_condT rfl ?_
    refine c_seq ?_
    refine c_region ?_
    refine s_y (y_assign rfl) rfl rfl rfl ?_
    refine s_y (y_assign rfl) rfl rfl rfl ?_
    refine s_y (y_assign rfl) rfl rfl rfl ?_
    refine s_nil ?_
    refine f_then ?_
    refine c_ret ?_
    refine f_thenR ?_
    exact f_ret () (res3 rfl rfl rfl rfl) (fun w h => h.tail.tail)
  · clear hc
    refine c_seq ?_
    refine c_region ?_
    refine s_do (do_box rfl) rfl rfl rfl (fun b5 => ?_)
    refine s_y (y_assign rfl) rfl rfl rfl ?_
    refine s_y (y_assign rfl) rfl rfl rfl ?_
    refine s_y (y_assign rfl) rfl rfl rfl ?_
    refine s_nil ?_
    refine f_then ?_
    refine c_seq ?_
    refine c_region ?_
    refine s_y (y_loadA Try.tab rfl rfl rfl rfl (cells_row0 0 rfl rfl)) rfl rfl rfl ?_
    refine s_y (y_move rfl) rfl rfl rfl ?_
    refine s_call (en_f rfl Try.call52) (newRun_gd _ _ _ _ h) rfl rfl rfl (fun _ => ?_)
    refine s_y (y_move rfl) rfl rfl rfl ?_
    refine s_y (y_extract rfl rfl) rfl rfl rfl ?_
    refine s_y (y_extract rfl rfl) rfl rfl rfl ?_
    refine s_do (do_alloc Try.tab rfl) rfl rfl rfl (fun b13 => ?_)
    refine s_set (set_box Try.tab 0 rfl rfl rfl rfl rfl rfl rfl) rfl rfl ?_
    refine s_y (y_assign rfl) rfl rfl rfl ?_
    refine s_nil ?_
    refine f_then ?_
    refine c_seq ?_
    refine c_seq ?_
    refine c_region ?_
    refine s_y (y_move rfl) rfl rfl rfl ?_
    refine s_y (y_F (y_neq rfl rfl) (by omega)) rfl rfl rfl ?_
    refine s_nil ?_
    refine f_then ?_
    refine c_condF rfl ?_
    refine c_skip ?_
    refine f_then ?_
    refine c_seq ?_
    refine c_seq ?_
    refine c_free [] ((K W ([(b13, row 95 (runV l s (np l)).cells.toList)] :: [(b5, row 23 l.v.cells.toList)] :: Ls))) Try.mixed (by kernel_rfl) K.cl ?_
    refine l_c 0 rfl (by kernel_rfl) (Qui.ylds (y_move rfl)) rfl rfl rfl (fun _ h => h) K.cl ?_
    refine l_c 1 rfl (by kernel_rfl) (Qui.ylds (y_F (y_lss rfl rfl) (by assumption))) rfl rfl rfl (fun _ h => h) K.cl ?_
    refine l_c 2 rfl (by kernel_rfl) (Qui.ylds (y_move rfl)) rfl rfl rfl (fun _ h => h) K.cl ?_
    refine l_c 3 rfl (by kernel_rfl) (Qui.ylds (y_move rfl)) rfl rfl rfl (fun _ h => h) K.cl ?_
    refine l_c 4 rfl (by kernel_rfl) (Qui.ylds (y_move rfl)) rfl rfl rfl (fun _ h => h) K.cl ?_
    refine l_c 5 rfl (by kernel_rfl) (Qui.ylds (y_F (y_geq rfl rfl) (by assumption))) rfl rfl rfl (fun _ h => h) K.cl ?_
    refine l_c 6 rfl (by kernel_rfl) (Qui.ylds (y_pickF rfl rfl)) rfl rfl rfl (fun _ h => h) K.cl ?_
    refine l_c 7 rfl (by kernel_rfl) (Qui.ylds (y_move rfl)) rfl rfl rfl (fun _ h => h) K.cl ?_
    refine l_c 8 rfl (by kernel_rfl) (Qui.ylds (y_move rfl)) rfl rfl rfl (fun _ h => h) K.cl ?_
    refine l_c 9 rfl (by kernel_rfl) (Qui.ylds (y_move rfl)) rfl rfl rfl (fun _ h => h) K.cl ?_
    refine l_c 10 rfl (by kernel_rfl) (Qui.ylds (y_F (y_gtr rfl rfl) (by assumption))) rfl rfl rfl (fun _ h => h) K.cl ?_
    refine l_c 11 rfl (by kernel_rfl) (Qui.ylds (y_pickF rfl rfl)) rfl rfl rfl (fun _ h => h) K.cl ?_
    refine l_c 12 rfl (by kernel_rfl) (Qui.ylds (y_move rfl)) rfl rfl rfl (fun _ h => h) K.cl ?_
    refine l_c 13 rfl (by kernel_rfl) (Qui.ylds (y_move rfl)) rfl rfl rfl (fun _ h => h) K.cl ?_
    refine l_c 14 rfl (by kernel_rfl) (Qui.ylds (y_fieldAddrB Try.tab 6 rfl rfl rfl rfl rfl)) rfl rfl rfl (fun _ h => h) K.cl ?_
    refine l_c 15 rfl (by kernel_rfl) (Qui.ylds (y_load Try.tab rfl rfl (cell_row 0 rfl rfl))) rfl rfl rfl (fun _ h => h) K.cl ?_
    refine l_c 16 rfl (by kernel_rfl) (Qui.ylds (y_sub rfl rfl (by omega))) rfl rfl rfl (fun _ h => h) K.cl ?_
    refine l_c 17 rfl (by kernel_rfl) (Qui.call (en_f rfl Try.call55) (fun w _ => (sw_no (K w []) (by omega)).qui)) rfl rfl rfl (fun _ h => h) K.cl ?_
    refine l_c 18 rfl (by kernel_rfl) (Qui.ylds (y_notF rfl)) rfl rfl rfl (fun _ h => h) K.cl ?_
    refine l_c 19 rfl (by kernel_rfl) (Qui.ylds (y_pickF rfl rfl)) rfl rfl rfl (fun _ h => h) K.cl ?_
    refine l_c 20 rfl (by kernel_rfl) (Qui.ylds (y_move rfl)) rfl rfl rfl (fun _ h => h) K.cl ?_
    refine l_skip 21 rfl (by kernel_rfl) rfl rfl rfl (fun _ h => h) K.cl ?_
    refine l_skip 22 rfl (by kernel_rfl) rfl rfl rfl (fun _ h => h) K.cl ?_
    refine l_skip 23 rfl (by kernel_rfl) rfl rfl rfl (fun _ h => h) K.cl ?_
    refine l_skip 24 rfl (by kernel_rfl) rfl rfl rfl (fun _ h => h) K.cl ?_
    refine l_skip 25 rfl (by kernel_rfl) rfl rfl rfl (fun _ h => h) K.cl ?_
    refine l_skip 26 rfl (by kernel_rfl) rfl rfl rfl (fun _ h => h) K.cl ?_
    refine l_skip 27 rfl (by kernel_rfl) rfl rfl rfl (fun _ h => h) K.cl ?_
    refine l_skip 28 rfl (by kernel_rfl) rfl rfl rfl (fun _ h => h) K.cl ?_
    refine l_skip 29 rfl (by kernel_rfl) rfl rfl rfl (fun _ h => h) K.cl ?_
    refine l_skip 30 rfl (by kernel_rfl) rfl rfl rfl (fun _ h => h) K.cl ?_
    refine l_c 31 rfl (by kernel_rfl) (Qui.ylds (y_pickT rfl rfl)) rfl rfl rfl (fun _ h => h) K.cl ?_
    refine l_nil (by kernel_rfl) ?_
    refine f_then ?_
    refine c_condT rfl ?_
    refine c_seq ?_
    refine c_region ?_
    refine s_y (y_assign rfl) rfl rfl rfl ?_
    refine s_y (y_assign rfl) rfl rfl rfl ?_
    refine s_y (y_assign rfl) rfl rfl rfl ?_
    refine s_nil ?_
    refine f_then ?_
    refine c_ret ?_
    refine f_thenR ?_
    exact f_ret () (res3 rfl rfl rfl rfl) (fun w h => h.tail.tail)
set_option maxRecDepth 10000 in
set_option maxHeartbeats 40000000 in
theorem Stack_bad (W : World) (Ls : List Chunk) (l : Lay) (s a b pos : Int) (h : ¬ Gd l s) : Spec Try.prog 29 #[l.v, .int .i64 s, .int .i64 a, .int .i64 b, .int .i64 pos] (K W Ls)
    (fun _ : Unit => .tuple #[.int .i64 0, .int .i64 0, .int .i64 (wrg l s)]) (fun _ => K W Ls) := by
  have h2 : wrg l s ≠ 0 := fun e => h (wrg_0.1 e)
  refine enter (args := [_, _, _, _, _]) Try.func29 rfl Try.ntmps29 rfl ?_
  refine c_seq ?_
  refine c_region ?_
  refine s_do (do_box rfl) rfl rfl rfl (fun b5 => ?_)
  refine s_y (y_assign rfl) rfl rfl rfl ?_
  refine s_y (y_assign rfl) rfl rfl rfl ?_
  refine s_y (y_assign rfl) rfl rfl rfl ?_
  refine s_nil ?_
  refine f_then ?_
  refine c_seq ?_
  refine c_region ?_
  refine s_y (y_loadA Try.tab rfl rfl rfl rfl (cells_row0 0 rfl rfl)) rfl rfl rfl ?_
  refine s_y (y_move rfl) rfl rfl rfl ?_
  refine s_call (en_f rfl Try.call52) (newRun_bad _ _ _ _ h) rfl rfl rfl (fun _ => ?_)
  refine s_y (y_move rfl) rfl rfl rfl ?_
  refine s_y (y_extract rfl rfl) rfl rfl rfl ?_
  refine s_y (y_extract rfl rfl) rfl rfl rfl ?_
  refine s_do (do_alloc Try.tab rfl) rfl rfl rfl (fun b13 => ?_)
  refine s_set (set_box Try.tab 0 rfl rfl rfl rfl rfl rfl rfl) rfl rfl ?_
  refine s_y (y_assign rfl) rfl rfl rfl ?_
  refine s_nil ?_
  refine f_then ?_
  refine c_seq ?_
  refine c_seq ?_
  refine c_region ?_
  refine s_y (y_move rfl) rfl rfl rfl ?_
  refine s_y (y_T (y_neq rfl rfl) (by assumption)) rfl rfl rfl ?_
  refine s_nil ?_
  refine f_then ?_
  refine c_condT rfl ?_
  refine c_seq ?_
  refine c_region ?_
  refine s_y (y_move rfl) rfl rfl rfl ?_
  refine s_y (y_assign rfl) rfl rfl rfl ?_
  refine s_y (y_assign rfl) rfl rfl rfl ?_
  refine s_y (y_assign rfl) rfl rfl rfl ?_
  refine s_nil ?_
  refine f_then ?_
  refine c_ret ?_
  refine f_thenR ?_
  exact f_ret () (res3 rfl rfl rfl rfl) (fun w h => h.tail.tail)
end Go.KL
end

section
/- Walks: the reference of package sheet: layouts, notes. -/
namespace Go.KL
open Go.Proofs
attribute [local irreducible] SC St Fin Sq Sw Ylds Doos Sets Enters Spec CellIs CellsAre Then Ret Rnd Chn resOK ints bools recs arr
set_option maxHeartbeats 4000000 in
theorem valid_ok (W : World) (Ls : List Chunk) (l : Lay) (h : l.OK) : Spec Try.prog 41 #[l.v] (K W Ls) (fun _ : Unit => .bool true) (fun _ => K W Ls) := by
  have h1 := h.r; have h2 := h.c; have h3 := h.m; have h4 := h.b
  refine enter (args := [_]) Try.func41 rfl Try.ntmps41 rfl ?_
  refine c_seq ?_
  refine c_region ?_
  refine s_do (do_box rfl) rfl rfl rfl (fun b1 => ?_)
  refine s_y (y_assign rfl) rfl rfl rfl ?_
  refine s_nil ?_
  refine f_then ?_
  refine c_seq ?_
  refine c_region ?_
  refine s_y (y_fieldAddr0 Try.tab rfl rfl rfl rfl rfl) rfl rfl rfl ?_
  refine s_y (y_load Try.tab rfl rfl (cell_row 0 rfl rfl)) rfl rfl rfl ?_
  refine s_y (y_T (y_geq rfl rfl) (by omega)) rfl rfl rfl ?_
  refine s_y (y_move rfl) rfl rfl rfl ?_
  refine s_y (y_fieldAddr0 Try.tab rfl rfl rfl rfl rfl) rfl rfl rfl ?_
  refine s_y (y_load Try.tab rfl rfl (cell_row 0 rfl rfl)) rfl rfl rfl ?_
  refine s_y (y_T (y_leq rfl rfl) (by omega)) rfl rfl rfl ?_
  refine s_y (y_pickT rfl rfl) rfl rfl rfl ?_
  refine s_y (y_move rfl) rfl rfl rfl ?_
  refine s_y (y_fieldAddrB Try.tab 1 rfl rfl rfl rfl rfl) rfl rfl rfl ?_
  refine s_y (y_load Try.tab rfl rfl (cell_row 0 rfl rfl)) rfl rfl rfl ?_
  refine s_y (y_T (y_geq rfl rfl) (by omega)) rfl rfl rfl ?_
  refine s_y (y_pickT rfl rfl) rfl rfl rfl ?_
  refine s_y (y_move rfl) rfl rfl rfl ?_
  refine s_y (y_fieldAddrB Try.tab 1 rfl rfl rfl rfl rfl) rfl rfl rfl ?_
  refine s_y (y_load Try.tab rfl rfl (cell_row 0 rfl rfl)) rfl rfl rfl ?_
  refine s_y (y_T (y_leq rfl rfl) (by omega)) rfl rfl rfl ?_
  refine s_y (y_pickT rfl rfl) rfl rfl rfl ?_
  refine s_y (y_move rfl) rfl rfl rfl ?_
  refine s_y (y_fieldAddrB Try.tab 2 rfl rfl rfl rfl rfl) rfl rfl rfl ?_
  refine s_y (y_load Try.tab rfl rfl (cell_row 0 rfl rfl)) rfl rfl rfl ?_
  refine s_y (y_T (y_geq rfl rfl) (by omega)) rfl rfl rfl ?_
  refine s_y (y_pickT rfl rfl) rfl rfl rfl ?_
  refine s_y (y_move rfl) rfl rfl rfl ?_
  refine s_y (y_fieldAddrB Try.tab 2 rfl rfl rfl rfl rfl) rfl rfl rfl ?_
  refine s_y (y_load Try.tab rfl rfl (cell_row 0 rfl rfl)) rfl rfl rfl ?_
  refine s_y (y_T (y_leq rfl rfl) (by omega)) rfl rfl rfl ?_
  refine s_y (y_pickT rfl rfl) rfl rfl rfl ?_
  refine s_y (y_move rfl) rfl rfl rfl ?_
  refine s_y (y_fieldAddrB Try.tab 3 rfl rfl rfl rfl rfl) rfl rfl rfl ?_
  refine s_y (y_load Try.tab rfl rfl (cell_row 0 rfl rfl)) rfl rfl rfl ?_
  refine s_y (y_T (y_geq rfl rfl) (by omega)) rfl rfl rfl ?_
  refine s_y (y_pickT rfl rfl) rfl rfl rfl ?_
  refine s_y (y_move rfl) rfl rfl rfl ?_
  refine s_y (y_fieldAddrB Try.tab 3 rfl rfl rfl rfl rfl) rfl rfl rfl ?_
  refine s_y (y_load Try.tab rfl rfl (cell_row 0 rfl rfl)) rfl rfl rfl ?_
  refine s_y (y_T (y_leq rfl rfl) (by omega)) rfl rfl rfl ?_
  refine s_y (y_pickT rfl rfl) rfl rfl rfl ?_
  refine s_y (y_assign rfl) rfl rfl rfl ?_
  refine s_nil ?_
  refine f_then ?_
  refine c_ret ?_
  exact f_ret () (res1 rfl rfl) (fun w h => h.tail)
set_option maxHeartbeats 4000000 in
theorem valid_bad (W : World) (Ls : List Chunk) (l : Lay) (h : ¬ l.OK) : Spec Try.prog 41 #[l.v] (K W Ls) (fun _ : Unit => .bool false) (fun _ => K W Ls) := by
  rw [Lay.OK_iff] at h
  refine enter (args := [_]) Try.func41 rfl Try.ntmps41 rfl ?_
  refine c_seq ?_
  refine c_region ?_
  refine s_do (do_box rfl) rfl rfl rfl (fun b1 => ?_)
  refine s_y (y_assign rfl) rfl rfl rfl ?_
  refine s_nil ?_
  refine f_then ?_
  refine c_seq ?_
  refine c_region ?_
  refine s_y (y_fieldAddr0 Try.tab rfl rfl rfl rfl rfl) rfl rfl rfl ?_
  refine s_y (y_load Try.tab rfl rfl (cell_row 0 rfl rfl)) rfl rfl rfl ?_
  refine s_y (y_geq rfl rfl) rfl rfl rfl ?_
  refine s_y (y_move rfl) rfl rfl rfl ?_
  refine s_case 6 rfl (fun c0 => ?_) (fun c0 => ?_)
  refine s_y (y_fieldAddr0 Try.tab rfl rfl rfl rfl rfl) rfl rfl rfl ?_
  refine s_y (y_load Try.tab rfl rfl (cell_row 0 rfl rfl)) rfl rfl rfl ?_
  refine s_y (y_leq rfl rfl) rfl rfl rfl ?_
  refine s_y (y_pickT rfl rfl) rfl rfl rfl ?_
  refine s_y (y_move rfl) rfl rfl rfl ?_
  refine s_case 11 rfl (fun c1 => ?_) (fun c1 => ?_)
  refine s_y (y_fieldAddrB Try.tab 1 rfl rfl rfl rfl rfl) rfl rfl rfl ?_
  refine s_y (y_load Try.tab rfl rfl (cell_row 0 rfl rfl)) rfl rfl rfl ?_
  refine s_y (y_geq rfl rfl) rfl rfl rfl ?_
  refine s_y (y_pickT rfl rfl) rfl rfl rfl ?_
  refine s_y (y_move rfl) rfl rfl rfl ?_
  refine s_case 16 rfl (fun c2 => ?_) (fun c2 => ?_)
  refine s_y (y_fieldAddrB Try.tab 1 rfl rfl rfl rfl rfl) rfl rfl rfl ?_
  refine s_y (y_load Try.tab rfl rfl (cell_row 0 rfl rfl)) rfl rfl rfl ?_
  refine s_y (y_leq rfl rfl) rfl rfl rfl ?_
  refine s_y (y_pickT rfl rfl) rfl rfl rfl ?_
  refine s_y (y_move rfl) rfl rfl rfl ?_
  refine s_case 21 rfl (fun c3 => ?_) (fun c3 => ?_)
  refine s_y (y_fieldAddrB Try.tab 2 rfl rfl rfl rfl rfl) rfl rfl rfl ?_
  refine s_y (y_load Try.tab rfl rfl (cell_row 0 rfl rfl)) rfl rfl rfl ?_
  refine s_y (y_geq rfl rfl) rfl rfl rfl ?_
  refine s_y (y_pickT rfl rfl) rfl rfl rfl ?_
  refine s_y (y_move rfl) rfl rfl rfl ?_
  refine s_case 26 rfl (fun c4 => ?_) (fun c4 => ?_)
  refine s_y (y_fieldAddrB Try.tab 2 rfl rfl rfl rfl rfl) rfl rfl rfl ?_
  refine s_y (y_load Try.tab rfl rfl (cell_row 0 rfl rfl)) rfl rfl rfl ?_
  refine s_y (y_leq rfl rfl) rfl rfl rfl ?_
  refine s_y (y_pickT rfl rfl) rfl rfl rfl ?_
  refine s_y (y_move rfl) rfl rfl rfl ?_
  refine s_case 31 rfl (fun c5 => ?_) (fun c5 => ?_)
  refine s_y (y_fieldAddrB Try.tab 3 rfl rfl rfl rfl rfl) rfl rfl rfl ?_
  refine s_y (y_load Try.tab rfl rfl (cell_row 0 rfl rfl)) rfl rfl rfl ?_
  refine s_y (y_geq rfl rfl) rfl rfl rfl ?_
  refine s_y (y_pickT rfl rfl) rfl rfl rfl ?_
  refine s_y (y_move rfl) rfl rfl rfl ?_
  refine s_case 36 rfl (fun c6 => ?_) (fun c6 => ?_)
  refine s_y (y_fieldAddrB Try.tab 3 rfl rfl rfl rfl rfl) rfl rfl rfl ?_
  refine s_y (y_load Try.tab rfl rfl (cell_row 0 rfl rfl)) rfl rfl rfl ?_
  refine s_y (y_F (y_leq rfl rfl) (by omega)) rfl rfl rfl ?_
  refine s_y (y_pickT rfl rfl) rfl rfl rfl ?_
  refine s_y (y_assign rfl) rfl rfl rfl ?_
  refine s_nil ?_
  refine f_then ?_
  refine c_ret ?_
  rotate_left
  iterate 3 refine s_skip rfl rfl rfl ?_
  refine s_y (y_pickF rfl rfl) rfl rfl rfl ?_
  refine s_y (y_assign rfl) rfl rfl rfl ?_
  refine s_nil ?_
  refine f_then ?_
  refine c_ret ?_
  rotate_left
  iterate 3 refine s_skip rfl rfl rfl ?_
  refine s_y (y_pickF rfl rfl) rfl rfl rfl ?_
  refine s_y (y_move rfl) rfl rfl rfl ?_
  iterate 3 refine s_skip rfl rfl rfl ?_
  refine s_y (y_pickF rfl rfl) rfl rfl rfl ?_
  refine s_y (y_assign rfl) rfl rfl rfl ?_
  refine s_nil ?_
  refine f_then ?_
  refine c_ret ?_
  rotate_left
  iterate 3 refine s_skip rfl rfl rfl ?_
  refine s_y (y_pickF rfl rfl) rfl rfl rfl ?_
  refine s_y (y_move rfl) rfl rfl rfl ?_
  iterate 3 refine s_skip rfl rfl rfl ?_
  refine s_y (y_pickF rfl rfl) rfl rfl rfl ?_
  refine s_y (y_move rfl) rfl rfl rfl ?_
  iterate 3 refine s_skip rfl rfl rfl ?_
  refine s_y (y_pickF rfl rfl) rfl rfl rfl ?_
  refine s_y (y_assign rfl) rfl rfl rfl ?_
  refine s_nil ?_
  refine f_then ?_
  refine c_ret ?_
  rotate_left
  iterate 3 refine s_skip rfl rfl rfl ?_
  refine s_y (y_pickF rfl rfl) rfl rfl rfl ?_
  refine s_y (y_move rfl) rfl rfl rfl ?_
  iterate 3 refine s_skip rfl rfl rfl ?_
  refine s_y (y_pickF rfl rfl) rfl rfl rfl ?_
  refine s_y (y_move rfl) rfl rfl rfl ?_
  iterate 3 refine s_skip rfl rfl rfl ?_
  refine s_y (y_pickF rfl rfl) rfl rfl rfl ?_
  refine s_y (y_move rfl) rfl rfl rfl ?_
  iterate 3 refine s_skip rfl rfl rfl ?_
  refine s_y (y_pickF rfl rfl) rfl rfl rfl ?_
  refine s_y (y_assign rfl) rfl rfl rfl ?_
  refine s_nil ?_
  refine f_then ?_
  refine c_ret ?_
  rotate_left
  iterate 3 refine s_skip rfl rfl rfl ?_
  refine s_y (y_pickF rfl rfl) rfl rfl rfl ?_
  refine s_y (y_move rfl) rfl rfl rfl ?_
  iterate 3 refine s_skip rfl rfl rfl ?_
  refine s_y (y_pickF rfl rfl) rfl rfl rfl ?_
  refine s_y (y_move rfl) rfl rfl rfl ?_
  iterate 3 refine s_skip rfl rfl rfl ?_
  refine s_y (y_pickF rfl rfl) rfl rfl rfl ?_
  refine s_y (y_move rfl) rfl rfl rfl ?_
  iterate 3 refine s_skip rfl rfl rfl ?_
  refine s_y (y_pickF rfl rfl) rfl rfl rfl ?_
  refine s_y (y_move rfl) rfl rfl rfl ?_
  iterate 3 refine s_skip rfl rfl rfl ?_
  refine s_y (y_pickF rfl rfl) rfl rfl rfl ?_
  refine s_y (y_assign rfl) rfl rfl rfl ?_
  refine s_nil ?_
  refine f_then ?_
  refine c_ret ?_
  rotate_left
  iterate 3 refine s_skip rfl rfl rfl ?_
  refine s_y (y_pickF rfl rfl) rfl rfl rfl ?_
  refine s_y (y_move rfl) rfl rfl rfl ?_
  iterate 3 refine s_skip rfl rfl rfl ?_
  refine s_y (y_pickF rfl rfl) rfl rfl rfl ?_
  refine s_y (y_move rfl) rfl rfl rfl ?_
  iterate 3 refine s_skip rfl rfl rfl ?_
  refine s_y (y_pickF rfl rfl) rfl rfl rfl ?_
  refine s_y (y_move rfl) rfl rfl rfl ?_
  iterate 3 refine s_skip rfl rfl rfl ?_
  refine s_y (y_pickF rfl rfl) rfl rfl rfl ?_
  refine s_y (y_move rfl) rfl rfl rfl ?_
  iterate 3 refine s_skip rfl rfl rfl ?_
  refine s_y (y_pickF rfl rfl) rfl rfl rfl ?_
  refine s_y (y_move rfl) rfl rfl rfl ?_
  iterate 3 refine s_skip rfl rfl rfl ?_
  refine s_y (y_pickF rfl rfl) rfl rfl rfl ?_
  refine s_y (y_assign rfl) rfl rfl rfl ?_
  refine s_nil ?_
  refine f_then ?_
  refine c_ret ?_
  rotate_left
  iterate 3 refine s_skip rfl rfl rfl ?_
  refine s_y (y_pickF rfl rfl) rfl rfl rfl ?_
  refine s_y (y_move rfl) rfl rfl rfl ?_
  iterate 3 refine s_skip rfl rfl rfl ?_
  refine s_y (y_pickF rfl rfl) rfl rfl rfl ?_
  refine s_y (y_move rfl) rfl rfl rfl ?_
  iterate 3 refine s_skip rfl rfl rfl ?_
  refine s_y (y_pickF rfl rfl) rfl rfl rfl ?_
  refine s_y (y_move rfl) rfl rfl rfl ?_
  iterate 3 refine s_skip rfl rfl rfl ?_
  refine s_y (y_pickF rfl rfl) rfl rfl rfl ?_
  refine s_y (y_move rfl) rfl rfl rfl ?_
  iterate 3 refine s_skip rfl rfl rfl ?_
  refine s_y (y_pickF rfl rfl) rfl rfl rfl ?_
  refine s_y (y_move rfl) rfl rfl rfl ?_
  iterate 3 refine s_skip rfl rfl rfl ?_
  refine s_y (y_pickF rfl rfl) rfl rfl rfl ?_
  refine s_y (y_move rfl) rfl rfl rfl ?_
  iterate 3 refine s_skip rfl rfl rfl ?_
  refine s_y (y_pickF rfl rfl) rfl rfl rfl ?_
  refine s_y (y_assign rfl) rfl rfl rfl ?_
  refine s_nil ?_
  refine f_then ?_
  refine c_ret ?_
  rotate_left
  rotate_right 8
  all_goals exact f_retE () (res1 rfl rfl) (congrArg Value.bool (by first | rfl | exact decide_eq_false (by omega) | exact absurd ‹_› (by omega))) (fun w h => h.tail)
set_option maxHeartbeats 4000000 in
theorem wrong_spec (W : World) (Ls : List Chunk) (l : Lay) (s : Int) : Spec Try.prog 23 #[l.v, .int .i64 s] (K W Ls) (fun _ : Unit => .int .i64 (wrg l s)) (fun _ => K W Ls) := by
  refine enter (args := [_, _]) Try.func23 rfl Try.ntmps23 rfl ?_
  by_cases h : l.OK
  · by_cases h1 : s < 0
    · refine c_seq ?_
      refine c_region ?_
      refine s_do (do_box rfl) rfl rfl rfl (fun b2 => ?_)
      refine s_y (y_assign rfl) rfl rfl rfl ?_
      refine s_nil ?_
      refine f_then ?_
      refine c_seq ?_
      refine c_block ?_
      refine c_seq ?_
      refine c_region ?_
      refine s_y (y_loadA Try.tab rfl rfl rfl rfl (cells_row0 0 rfl rfl)) rfl rfl rfl ?_
      refine s_call (en_f rfl Try.call41) (valid_ok _ _ _ (by assumption)) rfl rfl rfl (fun _ => ?_)
      refine s_y (y_notT rfl) rfl rfl rfl ?_
      refine s_y (y_assign rfl) rfl rfl rfl ?_
      refine s_nil ?_
      refine f_then ?_
      refine c_condF rfl ?_
      refine c_seq ?_
      refine c_region ?_
      refine s_y (y_move rfl) rfl rfl rfl ?_
      refine s_y (y_T (y_lss rfl rfl) (by assumption)) rfl rfl rfl ?_
      refine s_y (y_move rfl) rfl rfl rfl ?_
      iterate 2 refine s_skip rfl rfl rfl ?_
      refine s_y (y_pickT rfl rfl) rfl rfl rfl ?_
      refine s_y (y_assign rfl) rfl rfl rfl ?_
      refine s_nil ?_
      refine f_then ?_
      refine c_condT rfl ?_
      refine c_seq ?_
      refine c_region ?_
      refine s_y (y_assign rfl) rfl rfl rfl ?_
      refine s_nil ?_
      refine f_then ?_
      refine c_ret ?_
      refine f_blockR ?_
      refine f_thenR ?_
      exact f_retE () (res1 rfl rfl) (by unfold wrg; rw [if_pos h, if_neg (by omega)]) (fun w h => h.tail)
    · by_cases h2 : 1048576 < s
      · refine c_seq ?_
        refine c_region ?_
        refine s_do (do_box rfl) rfl rfl rfl (fun b2 => ?_)
        refine s_y (y_assign rfl) rfl rfl rfl ?_
        refine s_nil ?_
        refine f_then ?_
        refine c_seq ?_
        refine c_block ?_
        refine c_seq ?_
        refine c_region ?_
        refine s_y (y_loadA Try.tab rfl rfl rfl rfl (cells_row0 0 rfl rfl)) rfl rfl rfl ?_
        refine s_call (en_f rfl Try.call41) (valid_ok _ _ _ (by assumption)) rfl rfl rfl (fun _ => ?_)
        refine s_y (y_notT rfl) rfl rfl rfl ?_
        refine s_y (y_assign rfl) rfl rfl rfl ?_
        refine s_nil ?_
        refine f_then ?_
        refine c_condF rfl ?_
        refine c_seq ?_
        refine c_region ?_
        refine s_y (y_move rfl) rfl rfl rfl ?_
        refine s_y (y_F (y_lss rfl rfl) (by assumption)) rfl rfl rfl ?_
        refine s_y (y_move rfl) rfl rfl rfl ?_
        refine s_y (y_move rfl) rfl rfl rfl ?_
        refine s_y (y_T (y_gtr rfl rfl) (by assumption)) rfl rfl rfl ?_
        refine s_y (y_pickF rfl rfl) rfl rfl rfl ?_
        refine s_y (y_assign rfl) rfl rfl rfl ?_
        refine s_nil ?_
        refine f_then ?_
        refine c_condT rfl ?_
        refine c_seq ?_
        refine c_region ?_
        refine s_y (y_assign rfl) rfl rfl rfl ?_
        refine s_nil ?_
        refine f_then ?_
        refine c_ret ?_
        refine f_blockR ?_
        refine f_thenR ?_
        exact f_retE () (res1 rfl rfl) (by unfold wrg; rw [if_pos h, if_neg (by omega)]) (fun w h => h.tail)
      · refine c_seq ?_
        refine c_region ?_
        refine s_do (do_box rfl) rfl rfl rfl (fun b2 => ?_)
        refine s_y (y_assign rfl) rfl rfl rfl ?_
        refine s_nil ?_
        refine f_then ?_
        refine c_seq ?_
        refine c_block ?_
        refine c_seq ?_
        refine c_region ?_
        refine s_y (y_loadA Try.tab rfl rfl rfl rfl (cells_row0 0 rfl rfl)) rfl rfl rfl ?_
        refine s_call (en_f rfl Try.call41) (valid_ok _ _ _ (by assumption)) rfl rfl rfl (fun _ => ?_)
        refine s_y (y_notT rfl) rfl rfl rfl ?_
        refine s_y (y_assign rfl) rfl rfl rfl ?_
        refine s_nil ?_
        refine f_then ?_
        refine c_condF rfl ?_
        refine c_seq ?_
        refine c_region ?_
        refine s_y (y_move rfl) rfl rfl rfl ?_
        refine s_y (y_F (y_lss rfl rfl) (by assumption)) rfl rfl rfl ?_
        refine s_y (y_move rfl) rfl rfl rfl ?_
        refine s_y (y_move rfl) rfl rfl rfl ?_
        refine s_y (y_F (y_gtr rfl rfl) (by assumption)) rfl rfl rfl ?_
        refine s_y (y_pickF rfl rfl) rfl rfl rfl ?_
        refine s_y (y_assign rfl) rfl rfl rfl ?_
        refine s_nil ?_
        refine f_then ?_
        refine c_condF rfl ?_
        refine c_skip ?_
        refine f_blockN ?_
        refine f_then ?_
        refine c_seq ?_
        refine c_region ?_
        refine s_y (y_assign rfl) rfl rfl rfl ?_
        refine s_nil ?_
        refine f_then ?_
        refine c_ret ?_
        exact f_retE () (res1 rfl rfl) (by unfold wrg; rw [if_pos h, if_pos (by omega)]) (fun w h => h.tail)
  · refine c_seq ?_
    refine c_region ?_
    refine s_do (do_box rfl) rfl rfl rfl (fun b2 => ?_)
    refine s_y (y_assign rfl) rfl rfl rfl ?_
    refine s_nil ?_
    refine f_then ?_
    refine c_seq ?_
    refine c_block ?_
    refine c_seq ?_
    refine c_region ?_
    refine s_y (y_loadA Try.tab rfl rfl rfl rfl (cells_row0 0 rfl rfl)) rfl rfl rfl ?_
    refine s_call (en_f rfl Try.call41) (valid_bad _ _ _ (by assumption)) rfl rfl rfl (fun _ => ?_)
    refine s_y (y_notF rfl) rfl rfl rfl ?_
    refine s_y (y_assign rfl) rfl rfl rfl ?_
    refine s_nil ?_
    refine f_then ?_
    refine c_condT rfl ?_
    refine c_seq ?_
    refine c_region ?_
    refine s_y (y_assign rfl) rfl rfl rfl ?_
    refine s_nil ?_
    refine f_then ?_
    refine c_ret ?_
    refine f_blockR ?_
    refine f_thenR ?_
    exact f_retE () (res1 rfl rfl) (by unfold wrg; rw [if_neg h]) (fun w h => h.tail)
set_option maxHeartbeats 4000000 in
theorem depth_spec (W : World) (Ls : List Chunk) (l : Lay) (s sh : Int) (h : l.OK) (hs : SOK s) (hsh : 0 ≤ sh ∧ sh ≤ 4294967296) : Spec Try.prog 30 #[l.v, .int .i64 s, .int .i64 sh] (K W Ls) (fun _ : Unit => .tuple #[.int .i64 (rD l s (rF l sh)), .int .i64 (rF l sh)]) (fun _ => K W Ls) := by
  have h3 := h.m
  have h1 := rF_bd l sh h3.1 hsh.1
  unfold rF at h1
  have h2 := div_bd (a := sh) (b := l.m) hsh.1 h3.1
  refine enter (args := [_, _, _]) Try.func30 rfl Try.ntmps30 rfl ?_
  refine c_seq ?_
  refine c_region ?_
  refine s_do (do_box rfl) rfl rfl rfl (fun b3 => ?_)
  refine s_y (y_assign rfl) rfl rfl rfl ?_
  refine s_y (y_assign rfl) rfl rfl rfl ?_
  refine s_nil ?_
  refine f_then ?_
  refine c_seq ?_
  refine c_quiet Try.mixed (by kernel_rfl) K.drew ?_
  refine q_y (y_move rfl) rfl rfl rfl ?_
  refine q_y (y_fieldAddrB Try.tab 2 rfl rfl rfl rfl rfl) rfl rfl rfl ?_
  refine q_y (y_load Try.tab rfl rfl (cell_row 0 rfl rfl)) rfl rfl rfl ?_
  refine q_y (y_quo rfl rfl (by omega)) rfl rfl rfl ?_
  refine q_y (y_fieldAddrB Try.tab 2 rfl rfl rfl rfl rfl) rfl rfl rfl ?_
  refine q_y (y_load Try.tab rfl rfl (cell_row 0 rfl rfl)) rfl rfl rfl ?_
  refine q_y (y_mul rfl rfl (by omega)) rfl rfl rfl ?_
  refine q_y (y_assign rfl) rfl rfl rfl ?_
  refine q_nil ?_
  refine f_then ?_
  refine c_seq ?_
  refine c_region ?_
  refine s_y (y_fieldAddrB Try.tab 2 rfl rfl rfl rfl rfl) rfl rfl rfl ?_
  refine s_y (y_load Try.tab rfl rfl (cell_row 0 rfl rfl)) rfl rfl rfl ?_
  refine s_y (y_move rfl) rfl rfl rfl ?_
  refine s_y (y_move rfl) rfl rfl rfl ?_
  refine s_y (y_sub rfl rfl (by omega)) rfl rfl rfl ?_
  refine s_y (y_min rfl rfl) rfl rfl rfl ?_
  refine s_y (y_move rfl) rfl rfl rfl ?_
  refine s_y (y_assign rfl) rfl rfl rfl ?_
  refine s_y (y_assign rfl) rfl rfl rfl ?_
  refine s_nil ?_
  refine f_then ?_
  refine c_ret ?_
  exact f_retE () (res2 rfl rfl rfl) (by unfold rD rF; rfl) (fun w h => h.tail)
set_option maxHeartbeats 4000000 in
theorem is_spec (W : World) (Ls : List Chunk) (l : Lay) (s sh pos : Int) (h : l.OK) : Spec Try.prog 25 #[l.v, .int .i64 s, cellV sh pos] (K W Ls) (fun _ : Unit => .bool (decide (CellIn l s sh pos))) (fun _ => K W Ls) := by
  have hp := np_bd h
  unfold np at hp
  refine enter (args := [_, _, _]) Try.func25 rfl Try.ntmps25 rfl ?_
  refine c_seq ?_
  refine c_region ?_
  refine s_do (do_box rfl) rfl rfl rfl (fun b3 => ?_)
  refine s_do (do_box rfl) rfl rfl rfl (fun b5 => ?_)
  refine s_y (y_assign rfl) rfl rfl rfl ?_
  refine s_nil ?_
  refine f_then ?_
  refine c_seq ?_
  refine c_region ?_
  refine s_y (y_fieldAddr0 Try.tab rfl rfl rfl rfl rfl) rfl rfl rfl ?_
  refine s_y (y_load Try.tab rfl rfl (cell_row 0 rfl rfl)) rfl rfl rfl ?_
  refine s_y (y_geq rfl rfl) rfl rfl rfl ?_
  refine s_y (y_move rfl) rfl rfl rfl ?_
  refine s_case 10 rfl (fun c0 => ?_) (fun c0 => ?_)
  refine s_y (y_fieldAddr0 Try.tab rfl rfl rfl rfl rfl) rfl rfl rfl ?_
  refine s_y (y_load Try.tab rfl rfl (cell_row 0 rfl rfl)) rfl rfl rfl ?_
  refine s_y (y_move rfl) rfl rfl rfl ?_
  refine s_y (y_lss rfl rfl) rfl rfl rfl ?_
  refine s_y (y_pickT rfl rfl) rfl rfl rfl ?_
  refine s_y (y_move rfl) rfl rfl rfl ?_
  refine s_case 16 rfl (fun c1 => ?_) (fun c1 => ?_)
  refine s_y (y_fieldAddrB Try.tab 1 rfl rfl rfl rfl rfl) rfl rfl rfl ?_
  refine s_y (y_load Try.tab rfl rfl (cell_row 0 rfl rfl)) rfl rfl rfl ?_
  refine s_y (y_geq rfl rfl) rfl rfl rfl ?_
  refine s_y (y_pickT rfl rfl) rfl rfl rfl ?_
  refine s_y (y_move rfl) rfl rfl rfl ?_
  refine s_case 21 rfl (fun c2 => ?_) (fun c2 => ?_)
  refine s_y (y_fieldAddrB Try.tab 1 rfl rfl rfl rfl rfl) rfl rfl rfl ?_
  refine s_y (y_load Try.tab rfl rfl (cell_row 0 rfl rfl)) rfl rfl rfl ?_
  refine s_y (y_fieldAddr0 Try.tab rfl rfl rfl rfl rfl) rfl rfl rfl ?_
  refine s_y (y_load Try.tab rfl rfl (cell_row 1 rfl rfl)) rfl rfl rfl ?_
  refine s_y (y_fieldAddrB Try.tab 1 rfl rfl rfl rfl rfl) rfl rfl rfl ?_
  refine s_y (y_load Try.tab rfl rfl (cell_row 1 rfl rfl)) rfl rfl rfl ?_
  refine s_y (y_mul rfl rfl (by omega)) rfl rfl rfl ?_
  refine s_y (y_lss rfl rfl) rfl rfl rfl ?_
  refine s_y (y_pickT rfl rfl) rfl rfl rfl ?_
  refine s_y (y_assign rfl) rfl rfl rfl ?_
  refine s_nil ?_
  refine f_then ?_
  refine c_ret ?_
  rotate_left
  iterate 8 refine s_skip rfl rfl rfl ?_
  refine s_y (y_pickF rfl rfl) rfl rfl rfl ?_
  refine s_y (y_assign rfl) rfl rfl rfl ?_
  refine s_nil ?_
  refine f_then ?_
  refine c_ret ?_
  rotate_left
  iterate 3 refine s_skip rfl rfl rfl ?_
  refine s_y (y_pickF rfl rfl) rfl rfl rfl ?_
  refine s_y (y_move rfl) rfl rfl rfl ?_
  iterate 8 refine s_skip rfl rfl rfl ?_
  refine s_y (y_pickF rfl rfl) rfl rfl rfl ?_
  refine s_y (y_assign rfl) rfl rfl rfl ?_
  refine s_nil ?_
  refine f_then ?_
  refine c_ret ?_
  rotate_left
  iterate 4 refine s_skip rfl rfl rfl ?_
  refine s_y (y_pickF rfl rfl) rfl rfl rfl ?_
  refine s_y (y_move rfl) rfl rfl rfl ?_
  iterate 3 refine s_skip rfl rfl rfl ?_
  refine s_y (y_pickF rfl rfl) rfl rfl rfl ?_
  refine s_y (y_move rfl) rfl rfl rfl ?_
  iterate 8 refine s_skip rfl rfl rfl ?_
  refine s_y (y_pickF rfl rfl) rfl rfl rfl ?_
  refine s_y (y_assign rfl) rfl rfl rfl ?_
  refine s_nil ?_
  refine f_then ?_
  refine c_ret ?_
  rotate_left
  rotate_right 4
  all_goals exact f_retE () (res1 rfl rfl) (congrArg Value.bool (by first | exact (decide_eq_true (by unfold CellIn np; omega)).symm | exact (decide_eq_false (by unfold CellIn np; omega)).symm | exact decide_eq_decide.2 (by unfold CellIn np; omega))) (fun w h => h.tail.tail)
set_option maxHeartbeats 4000000 in
theorem rnote_spec (W : World) (Ls : List Chunk) (l : Lay) (s sh pos : Int) (h : l.OK) (hs : SOK s) (hc : CellIn l s sh pos) : Spec Try.prog 26 #[l.v, .int .i64 s, cellV sh pos] (K W Ls) (fun _ : Unit => .int .i64 (noteF l s (np l) sh pos)) (fun _ => K W Ls) := by
  have h1 := h.r; have h2 := h.c; have h3 := h.m
  obtain ⟨c1, c2⟩ := hc
  have hp := np_bd h
  have q1 := rF_bd l sh h3.1 c1.1
  have hd : rD l s (rF l sh) = min l.m (s - rF l sh) := rfl
  have q2 := mul_bd (a := rF l sh) (b := l.r) (A := 1048576) (B := 16) (by omega) (by omega)
  have q3 := mul_bd (a := rF l sh * l.r) (b := l.c) (A := 1048576 * 16) (B := 16) (by omega) (by omega)
  have q4 := mul_bd (a := pos) (b := rD l s (rF l sh)) (A := 256) (B := 10000) (by omega) (by omega)
  have e1 : rF l sh * l.r * l.c = rF l sh * np l := Int.mul_assoc _ _ _
  refine enter (args := [_, _, _]) Try.func26 rfl Try.ntmps26 rfl ?_
  cases hld : l.d with
  | true =>
    refine c_seq ?_
    refine c_region ?_
    refine s_do (do_box rfl) rfl rfl rfl (fun b3 => ?_)
    refine s_do (do_box rfl) rfl rfl rfl (fun b5 => ?_)
    refine s_y (y_assign rfl) rfl rfl rfl ?_
    refine s_nil ?_
    refine f_then ?_
    refine c_seq ?_
    refine c_region ?_
    refine s_y (y_loadA Try.tab rfl rfl rfl rfl (cells_row0 1 rfl rfl)) rfl rfl rfl ?_
    refine s_y (y_move rfl) rfl rfl rfl ?_
    refine s_y (y_fieldAddr0 Try.tab rfl rfl rfl rfl rfl) rfl rfl rfl ?_
    refine s_y (y_load Try.tab rfl rfl (cell_row 0 rfl rfl)) rfl rfl rfl ?_
    refine s_call (en_f rfl Try.call30) (depth_spec _ _ _ _ _ h hs (by omega)) rfl rfl rfl (fun _ => ?_)
    refine s_y (y_move rfl) rfl rfl rfl ?_
    refine s_y (y_extract rfl rfl) rfl rfl rfl ?_
    refine s_y (y_extract rfl rfl) rfl rfl rfl ?_
    refine s_y (y_assign rfl) rfl rfl rfl ?_
    refine s_y (y_assign rfl) rfl rfl rfl ?_
    refine s_nil ?_
    refine f_then ?_
    refine c_seq ?_
    refine c_region ?_
    refine s_y (y_fieldAddr0 Try.tab rfl rfl rfl rfl rfl) rfl rfl rfl ?_
    refine s_y (y_load Try.tab rfl rfl (cell_row 0 rfl rfl)) rfl rfl rfl ?_
    refine s_y (y_move rfl) rfl rfl rfl ?_
    refine s_y (y_sub rfl rfl (by omega)) rfl rfl rfl ?_
    refine s_y (y_assign rfl) rfl rfl rfl ?_
    refine s_nil ?_
    refine f_then ?_
    refine c_seq ?_
    refine c_seq ?_
    refine c_region ?_
    refine s_y (y_fieldAddrB Try.tab 4 rfl rfl rfl rfl rfl) rfl rfl rfl ?_
    refine s_y (y_load Try.tab rfl rfl (cell_row 1 rfl rfl)) rfl rfl rfl ?_
    refine s_nil ?_
    refine f_then ?_
    rw [hld]
    refine c_condT rfl ?_
    refine c_region ?_
    refine s_y (y_move rfl) rfl rfl rfl ?_
    refine s_y (y_sub rfl rfl (by omega)) rfl rfl rfl ?_
    refine s_y (y_move rfl) rfl rfl rfl ?_
    refine s_y (y_sub rfl rfl (by omega)) rfl rfl rfl ?_
    refine s_y (y_assign rfl) rfl rfl rfl ?_
    refine s_nil ?_
    refine f_then ?_
    refine c_seq ?_
    refine c_region ?_
    refine s_y (y_move rfl) rfl rfl rfl ?_
    refine s_y (y_fieldAddr0 Try.tab rfl rfl rfl rfl rfl) rfl rfl rfl ?_
    refine s_y (y_load Try.tab rfl rfl (cell_row 1 rfl rfl)) rfl rfl rfl ?_
    refine s_y (y_mul rfl rfl (by omega)) rfl rfl rfl ?_
    refine s_y (y_fieldAddrB Try.tab 1 rfl rfl rfl rfl rfl) rfl rfl rfl ?_
    refine s_y (y_load Try.tab rfl rfl (cell_row 1 rfl rfl)) rfl rfl rfl ?_
    refine s_y (y_mul rfl rfl (by omega)) rfl rfl rfl ?_
    refine s_y (y_fieldAddrB Try.tab 1 rfl rfl rfl rfl rfl) rfl rfl rfl ?_
    refine s_y (y_load Try.tab rfl rfl (cell_row 0 rfl rfl)) rfl rfl rfl ?_
    refine s_y (y_move rfl) rfl rfl rfl ?_
    refine s_y (y_mul rfl rfl (by omega)) rfl rfl rfl ?_
    refine s_y (y_add rfl rfl (by omega)) rfl rfl rfl ?_
    refine s_y (y_move rfl) rfl rfl rfl ?_
    refine s_y (y_add rfl rfl (by omega)) rfl rfl rfl ?_
    refine s_y (y_assign rfl) rfl rfl rfl ?_
    refine s_nil ?_
    refine f_then ?_
    refine c_ret ?_
    exact f_retE () (res1 rfl rfl) (by unfold noteF rnote; rw [hld, e1]; rfl) (fun w h => h.tail.tail)
  | false =>
    refine c_seq ?_
    refine c_region ?_
    refine s_do (do_box rfl) rfl rfl rfl (fun b3 => ?_)
    refine s_do (do_box rfl) rfl rfl rfl (fun b5 => ?_)
    refine s_y (y_assign rfl) rfl rfl rfl ?_
    refine s_nil ?_
    refine f_then ?_
    refine c_seq ?_
    refine c_region ?_
    refine s_y (y_loadA Try.tab rfl rfl rfl rfl (cells_row0 1 rfl rfl)) rfl rfl rfl ?_
    refine s_y (y_move rfl) rfl rfl rfl ?_
    refine s_y (y_fieldAddr0 Try.tab rfl rfl rfl rfl rfl) rfl rfl rfl ?_
    refine s_y (y_load Try.tab rfl rfl (cell_row 0 rfl rfl)) rfl rfl rfl ?_
    refine s_call (en_f rfl Try.call30) (depth_spec _ _ _ _ _ h hs (by omega)) rfl rfl rfl (fun _ => ?_)
    refine s_y (y_move rfl) rfl rfl rfl ?_
    refine s_y (y_extract rfl rfl) rfl rfl rfl ?_
    refine s_y (y_extract rfl rfl) rfl rfl rfl ?_
    refine s_y (y_assign rfl) rfl rfl rfl ?_
    refine s_y (y_assign rfl) rfl rfl rfl ?_
    refine s_nil ?_
    refine f_then ?_
    refine c_seq ?_
    refine c_region ?_
    refine s_y (y_fieldAddr0 Try.tab rfl rfl rfl rfl rfl) rfl rfl rfl ?_
    refine s_y (y_load Try.tab rfl rfl (cell_row 0 rfl rfl)) rfl rfl rfl ?_
    refine s_y (y_move rfl) rfl rfl rfl ?_
    refine s_y (y_sub rfl rfl (by omega)) rfl rfl rfl ?_
    refine s_y (y_assign rfl) rfl rfl rfl ?_
    refine s_nil ?_
    refine f_then ?_
    refine c_seq ?_
    refine c_seq ?_
    refine c_region ?_
    refine s_y (y_fieldAddrB Try.tab 4 rfl rfl rfl rfl rfl) rfl rfl rfl ?_
    refine s_y (y_load Try.tab rfl rfl (cell_row 1 rfl rfl)) rfl rfl rfl ?_
    refine s_nil ?_
    refine f_then ?_
    rw [hld]
    refine c_condF rfl ?_
    refine c_skip ?_
    refine f_then ?_
    refine c_seq ?_
    refine c_region ?_
    refine s_y (y_move rfl) rfl rfl rfl ?_
    refine s_y (y_fieldAddr0 Try.tab rfl rfl rfl rfl rfl) rfl rfl rfl ?_
    refine s_y (y_load Try.tab rfl rfl (cell_row 1 rfl rfl)) rfl rfl rfl ?_
    refine s_y (y_mul rfl rfl (by omega)) rfl rfl rfl ?_
    refine s_y (y_fieldAddrB Try.tab 1 rfl rfl rfl rfl rfl) rfl rfl rfl ?_
    refine s_y (y_load Try.tab rfl rfl (cell_row 1 rfl rfl)) rfl rfl rfl ?_
    refine s_y (y_mul rfl rfl (by omega)) rfl rfl rfl ?_
    refine s_y (y_fieldAddrB Try.tab 1 rfl rfl rfl rfl rfl) rfl rfl rfl ?_
    refine s_y (y_load Try.tab rfl rfl (cell_row 0 rfl rfl)) rfl rfl rfl ?_
    refine s_y (y_move rfl) rfl rfl rfl ?_
    refine s_y (y_mul rfl rfl (by omega)) rfl rfl rfl ?_
    refine s_y (y_add rfl rfl (by omega)) rfl rfl rfl ?_
    refine s_y (y_move rfl) rfl rfl rfl ?_
    refine s_y (y_add rfl rfl (by omega)) rfl rfl rfl ?_
    refine s_y (y_assign rfl) rfl rfl rfl ?_
    refine s_nil ?_
    refine f_then ?_
    refine c_ret ?_
    exact f_retE () (res1 rfl rfl) (by unfold noteF rnote; rw [hld, e1]; rfl) (fun w h => h.tail.tail)
set_option maxHeartbeats 4000000 in
theorem small_spec (W : World) (Ls : List Chunk) (l : Lay) (s : Int) : Spec Try.prog 27 #[l.v, .int .i64 s] (K W Ls) (fun _ : Unit => .bool (decide (Gd l s ∧ s * np l ≤ 3000))) (fun _ => K W Ls) := by
  refine enter (args := [_, _]) Try.func27 rfl Try.ntmps27 rfl ?_
  by_cases h : Gd l s
  · have h0 := wrg_0.2 h
    have h1 := h.1.r; have h2 := h.1.c; have h4 := h.2
    have q2 := mul_bd (a := s) (b := l.r) (A := 1048576) (B := 16) (by omega) (by omega)
    have q3 := mul_bd (a := s * l.r) (b := l.c) (A := 1048576 * 16) (B := 16) (by omega) (by omega)
    have e1 : s * l.r * l.c = s * np l := Int.mul_assoc _ _ _
    refine c_seq ?_
    refine c_region ?_
    refine s_do (do_box rfl) rfl rfl rfl (fun b2 => ?_)
    refine s_y (y_assign rfl) rfl rfl rfl ?_
    refine s_nil ?_
    refine f_then ?_
    refine c_seq ?_
    refine c_region ?_
    refine s_y (y_loadA Try.tab rfl rfl rfl rfl (cells_row0 0 rfl rfl)) rfl rfl rfl ?_
    refine s_y (y_move rfl) rfl rfl rfl ?_
    refine s_call (en_f rfl Try.call23) (wrong_spec _ _ _ _) rfl rfl rfl (fun _ => ?_)
    refine s_y (y_T (y_eql rfl rfl) (by assumption)) rfl rfl rfl ?_
    refine s_y (y_move rfl) rfl rfl rfl ?_
    refine s_y (y_move rfl) rfl rfl rfl ?_
    refine s_y (y_fieldAddr0 Try.tab rfl rfl rfl rfl rfl) rfl rfl rfl ?_
    refine s_y (y_load Try.tab rfl rfl (cell_row 0 rfl rfl)) rfl rfl rfl ?_
    refine s_y (y_mul rfl rfl (by omega)) rfl rfl rfl ?_
    refine s_y (y_fieldAddrB Try.tab 1 rfl rfl rfl rfl rfl) rfl rfl rfl ?_
    refine s_y (y_load Try.tab rfl rfl (cell_row 0 rfl rfl)) rfl rfl rfl ?_
    refine s_y (y_mul rfl rfl (by omega)) rfl rfl rfl ?_
    refine s_y (y_leq rfl rfl) rfl rfl rfl ?_
    refine s_y (y_pickT rfl rfl) rfl rfl rfl ?_
    refine s_y (y_assign rfl) rfl rfl rfl ?_
    refine s_nil ?_
    refine f_then ?_
    refine c_ret ?_
    exact f_retE () (res1 rfl rfl) (congrArg Value.bool (decide_eq_decide.2 (by rw [e1]; exact ⟨fun q => ⟨h, q⟩, fun q => q.2⟩))) (fun w h => h.tail)
  · have h0 : ¬ wrg l s = 0 := fun e => h (wrg_0.1 e)
    refine c_seq ?_
    refine c_region ?_
    refine s_do (do_box rfl) rfl rfl rfl (fun b2 => ?_)
    refine s_y (y_assign rfl) rfl rfl rfl ?_
    refine s_nil ?_
    refine f_then ?_
    refine c_seq ?_
    refine c_region ?_
    refine s_y (y_loadA Try.tab rfl rfl rfl rfl (cells_row0 0 rfl rfl)) rfl rfl rfl ?_
    refine s_y (y_move rfl) rfl rfl rfl ?_
    refine s_call (en_f rfl Try.call23) (wrong_spec _ _ _ _) rfl rfl rfl (fun _ => ?_)
    refine s_y (y_F (y_eql rfl rfl) (by assumption)) rfl rfl rfl ?_
    refine s_y (y_move rfl) rfl rfl rfl ?_
    iterate 8 refine s_skip rfl rfl rfl ?_
    refine s_y (y_pickF rfl rfl) rfl rfl rfl ?_
    refine s_y (y_assign rfl) rfl rfl rfl ?_
    refine s_nil ?_
    refine f_then ?_
    refine c_ret ?_
    exact f_retE () (res1 rfl rfl) (congrArg Value.bool (decide_eq_false (fun q => h q.1)).symm) (fun w h => h.tail)
end Go.KL
end

section
/- Tests on two cells. -/
namespace Go.KL
open Go.Proofs
section
variable {n : Nat} {σ : Slots} {C : World → Prop} {dst : Option Tmp} {ty : TypeId} {pos : String} {after : Array Edge} {guard : Option (Nat × Bool)}
theorem y_neqCell {x y : Operand} {t' : TypeId} {a b c d : Int} (hx : ev σ x = some (.agg #[.int .i64 a, .int .i64 b])) (hy : ev σ y = some (.agg #[.int .i64 c, .int .i64 d])) :
    Ylds Try.prog n σ C ⟨dst, .binOp .neq 37 x y t', ty, pos, after, guard⟩ (.bool (decide (¬ (a = c ∧ b = d)))) := by
  refine y_eq (y_neqS (us := [.int .i64 a, .int .i64 b]) (vs := [.int .i64 c, .int .i64 d]) Try.tab hx hy rfl (by kernel_rfl) (by kernel_rfl) rfl rfl) (congrArg Value.bool (decide_eq_decide.2 ?_))
  simp
theorem y_eqlCell {x y : Operand} {t' : TypeId} {a b c d : Int} (hx : ev σ x = some (.agg #[.int .i64 a, .int .i64 b])) (hy : ev σ y = some (.agg #[.int .i64 c, .int .i64 d])) :
    Ylds Try.prog n σ C ⟨dst, .binOp .eql 37 x y t', ty, pos, after, guard⟩ (.bool (decide (a = c ∧ b = d))) := by
  refine y_eq (y_eqlS (us := [.int .i64 a, .int .i64 b]) (vs := [.int .i64 c, .int .i64 d]) Try.tab hx hy rfl (by kernel_rfl) (by kernel_rfl) rfl rfl) (congrArg Value.bool (decide_eq_decide.2 ?_))
  simp
end
end Go.KL
end

section
/- Plain laws: notes and cells are inverse to each other. -/
namespace Go.KL
open Go.Proofs
theorem div_of {a b q r : Int} (h : a = q * b + r) (h0 : 0 ≤ r) (h1 : r < b) : a / b = q := by
  have hb : 0 < b := by omega
  rw [h, Int.add_comm, Int.add_mul_ediv_right _ _ (by omega), Int.ediv_eq_zero_of_lt h0 h1, Int.zero_add]
theorem mod_of {a b q r : Int} (h : a = q * b + r) (h0 : 0 ≤ r) (h1 : r < b) : a % b = r := by
  rw [h, Int.add_comm, Int.add_mul_emod_self_right, Int.emod_eq_of_lt h0 h1]
theorem div_mod_eq (a b : Int) : a = a / b * b + a % b := by
  have := Int.mul_ediv_add_emod a b
  rw [Int.mul_comm] at this
  omega
/-- The place of a sheet in its ream. -/
structure InReam (l : Lay) (s sh f d j : Int) : Prop where
  q : ∃ q, 0 ≤ q ∧ f = q * l.m
  d1 : 1 ≤ d
  dm : d ≤ l.m
  ds : f + d ≤ s
  jd : 0 ≤ j ∧ j < d
  sh : sh = f + (if l.d then d - 1 - j else j)
  dd : d = rD l s f
theorem InReam.rF {l : Lay} {s sh f d j : Int} (h : InReam l s sh f d j) : rF l sh = f := by
  obtain ⟨q, h0, hq⟩ := h.q
  have h1 := h.jd; have h2 := h.dm
  unfold Go.KL.rF
  have : sh / l.m = q := div_of (r := if l.d then d - 1 - j else j) (by rw [h.sh, hq]) (by split <;> omega) (by split <;> omega)
  rw [this, hq]
theorem inReam_of {l : Lay} {s sh : Int} (hm : 1 ≤ l.m) (h : 0 ≤ sh ∧ sh < s) : InReam l s sh (rF l sh) (rD l s (rF l sh)) (if l.d then rD l s (rF l sh) - 1 - (sh - rF l sh) else sh - rF l sh) := by
  have h1 := rF_bd l sh hm h.1
  have hd : rD l s (rF l sh) = min l.m (s - rF l sh) := rfl
  refine ⟨⟨sh / l.m, (div_bd h.1 hm).1, rfl⟩, by omega, by omega, by omega, by split <;> omega, ?_, rfl⟩
  split <;> omega
/-- The note of a place. -/
def plN (p f d pos j : Int) : Int := f * p + pos * d + j
theorem noteF_pl {l : Lay} {s p sh pos f d j : Int} (h : InReam l s sh f d j) : noteF l s p sh pos = plN p f d pos j := by
  unfold noteF rnote plN
  rw [h.rF, ← h.dd]
  have h1 := h.sh
  by_cases hd : l.d = true
  · simp only [hd, if_true] at h1 ⊢; omega
  · simp only [hd, if_false, Bool.false_eq_true] at h1 ⊢; omega
structure InPl (p d pos j r : Int) : Prop where
  e : r = pos * d + j
  ps : 0 ≤ pos ∧ pos < p
  jd : 0 ≤ j ∧ j < d
theorem InPl.bd {p d pos j r : Int} (h : InPl p d pos j r) : 0 ≤ r ∧ r < p * d := by
  have h1 := h.ps; have h2 := h.jd; have h3 := h.e
  have h4 := Int.mul_nonneg h1.1 (show 0 ≤ d by omega)
  have h5 : (pos + 1) * d ≤ p * d := Int.mul_le_mul_of_nonneg_right (by omega) (by omega)
  rw [Int.add_mul] at h5
  omega
/-- A place's note, in its ream. -/
theorem pl_ream {l : Lay} {s sh p f d pos j : Int} (h : InReam l s sh f d j) (hp : 0 ≤ pos ∧ pos < p) :
    plN p f d pos j / (l.m * p) * l.m = f ∧ plN p f d pos j - f * p = pos * d + j ∧ (pos * d + j) / d = pos ∧ (pos * d + j) % d = j ∧ 0 ≤ pos * d + j ∧ pos * d + j < p * d := by
  have hpl : InPl p d pos j (pos * d + j) := ⟨rfl, hp, h.jd⟩
  have hb := hpl.bd
  obtain ⟨q, h0, hq⟩ := h.q
  have h1 := h.dm
  have h2 : p * d ≤ p * l.m := Int.mul_le_mul_of_nonneg_left h1 (by omega)
  have h3 : p * l.m = l.m * p := Int.mul_comm _ _
  have e1 : plN p f d pos j / (l.m * p) = q := div_of (r := pos * d + j) (by unfold plN; rw [hq, Int.mul_assoc]; omega) hb.1 (by omega)
  refine ⟨by rw [e1, hq], by unfold plN; omega, div_of rfl h.jd.1 h.jd.2, mod_of rfl h.jd.1 h.jd.2, hb.1, hb.2⟩
/-- A note's place. -/
theorem note_pl {l : Lay} {s p N : Int} (h : l.OK) (hp : 1 ≤ p ∧ p ≤ 256) (hN : 0 ≤ N ∧ N < s * p) :
    ∃ sh f d pos j, InReam l s sh f d j ∧ (0 ≤ pos ∧ pos < p) ∧ N = plN p f d pos j ∧ N / (l.m * p) * l.m = f := by
  have h3 := h.m
  have h1 := note_ream l s p N h hp hN
  have hd : rD l s (N / (l.m * p) * l.m) = min l.m (s - N / (l.m * p) * l.m) := rfl
  have hmp := mul_pos1 h3.1 hp.1
  have h2 := div_mod_eq N (l.m * p)
  have h4 := mod_bd (a := N) hmp
  have h5 := div_mod_eq (N - N / (l.m * p) * l.m * p) (rD l s (N / (l.m * p) * l.m))
  have h6 := mod_bd (a := N - N / (l.m * p) * l.m * p) (show 1 ≤ rD l s (N / (l.m * p) * l.m) by omega)
  have e1 : N / (l.m * p) * (l.m * p) = N / (l.m * p) * l.m * p := by rw [Int.mul_assoc]
  have h7 : N - N / (l.m * p) * l.m * p < p * rD l s (N / (l.m * p) * l.m) := by
    have e2 : p * l.m = l.m * p := Int.mul_comm _ _
    have e3 : p * (s - N / (l.m * p) * l.m) = s * p - N / (l.m * p) * l.m * p := by rw [Int.mul_sub, Int.mul_comm p s, Int.mul_comm p]
    rcases (show rD l s (N / (l.m * p) * l.m) = l.m ∨ rD l s (N / (l.m * p) * l.m) = s - N / (l.m * p) * l.m by omega) with e | e
    · rw [e, e2]; omega
    · rw [e, e3]; omega
  have h8 : (N - N / (l.m * p) * l.m * p) / rD l s (N / (l.m * p) * l.m) < p := Int.ediv_lt_of_lt_mul (by omega) h7
  have h9 := div_bd (a := N - N / (l.m * p) * l.m * p) (b := rD l s (N / (l.m * p) * l.m)) (by omega) (by omega)
  refine ⟨_, N / (l.m * p) * l.m, rD l s (N / (l.m * p) * l.m), (N - N / (l.m * p) * l.m * p) / rD l s (N / (l.m * p) * l.m), (N - N / (l.m * p) * l.m * p) % rD l s (N / (l.m * p) * l.m),
    ⟨⟨_, (div_bd hN.1 hmp).1, rfl⟩, by omega, by omega, by omega, by omega, rfl, rfl⟩, ⟨h9.1, h8⟩, ?_, rfl⟩
  unfold plN
  omega
theorem rcell_pl {l : Lay} {s sh p f d pos j : Int} (h : InReam l s sh f d j) (hp : 0 ≤ pos ∧ pos < p) : rcell l p f d (plN p f d pos j) = (sh, pos) := by
  obtain ⟨_, h1, h2, h3, _⟩ := pl_ream (p := p) h hp
  unfold rcell
  rw [h1, h2, h3, h.sh]
/-- The cell of a note. -/
def cellF (l : Lay) (s p N : Int) : Int × Int := rcell l p (N / (l.m * p) * l.m) (rD l s (N / (l.m * p) * l.m)) N
theorem cellF_pl {l : Lay} {s sh p f d pos j : Int} (h : InReam l s sh f d j) (hp : 0 ≤ pos ∧ pos < p) : cellF l s p (plN p f d pos j) = (sh, pos) := by
  unfold cellF
  rw [(pl_ream (p := p) h hp).1, ← h.dd, rcell_pl h hp]
theorem cell_note {l : Lay} {s p sh pos : Int} (h : l.OK) (hsh : 0 ≤ sh ∧ sh < s) (hpos : 0 ≤ pos ∧ pos < p) : cellF l s p (noteF l s p sh pos) = (sh, pos) := by
  have hr := inReam_of (s := s) h.m.1 hsh
  rw [noteF_pl hr, cellF_pl hr hpos]
theorem note_cell {l : Lay} {s p N : Int} (h : l.OK) (hp : 1 ≤ p ∧ p ≤ 256) (hN : 0 ≤ N ∧ N < s * p) :
    ((0 ≤ (cellF l s p N).1 ∧ (cellF l s p N).1 < s) ∧ 0 ≤ (cellF l s p N).2 ∧ (cellF l s p N).2 < p) ∧ noteF l s p (cellF l s p N).1 (cellF l s p N).2 = N := by
  obtain ⟨sh, f, d, pos, j, hr, hpos, e, _⟩ := note_pl h hp hN
  rw [e, cellF_pl hr hpos]
  refine ⟨⟨?_, hpos⟩, noteF_pl hr⟩
  obtain ⟨q, q0, hq⟩ := hr.q
  have h1 := hr.sh; have h2 := hr.jd; have h3 := hr.ds; have h4 := hr.dm
  have h5 := Int.mul_nonneg q0 (show 0 ≤ l.m by have := h.m; omega)
  show 0 ≤ sh ∧ sh < s
  split at h1 <;> omega
end Go.KL
end
