/- SheetErrors: for every input the law returns true, and its arguments read as they did. No condition. -/
import Derived.Test.YtelpaildbpdppaaRows
import Derived.JoinedOf
import Derived.Handed
import Derived.Test.YtelpaildbpdppaaL4
section
/- Walks: repairs refused for the layout, and repairs that are the same. -/
namespace Go.KL
open Go.Proofs
attribute [local irreducible] SC St Fin Sq Sw Ylds Doos Sets Enters Spec CellIs CellsAre Then Ret Rnd Chn resOK ints bools recs arr
set_option maxRecDepth 10000 in
set_option maxHeartbeats 8000000 in
theorem same_yes (W : World) (Ls : List Chunk) (va vb : Value) (n : Nat) (f : Nat → Int) (ha : SlI (K W Ls) va n f) (hb : SlI (K W Ls) vb n f) (hn : n ≤ 1073741824) : Spec Try.prog 51 #[va, vb] (K W Ls) (fun _ : Unit => .bool true) (fun _ => K W Ls) := by
  obtain ⟨pa, ca, rfl, _, h2⟩ := SlV.cells ha
  obtain ⟨pb, cb, rfl, _, k2⟩ := SlV.cells hb
  refine enter (args := [_, _]) Try.func51 rfl Try.ntmps51 rfl ?_
  refine c_seq ?_
  refine c_region ?_
  refine s_y (y_assign rfl) rfl rfl rfl ?_
  refine s_nil ?_
  refine f_then ?_
  refine c_seq ?_
  refine c_seq ?_
  refine c_region ?_
  refine s_y (y_move rfl) rfl rfl rfl ?_
  refine s_y (y_len Try.tab rfl rfl) rfl rfl rfl ?_
  refine s_y (y_move rfl) rfl rfl rfl ?_
  refine s_y (y_len Try.tab rfl rfl) rfl rfl rfl ?_
  refine s_y (y_F (y_neq rfl rfl) (by omega)) rfl rfl rfl ?_
  refine s_nil ?_
  refine f_then ?_
  refine c_condF rfl ?_
  refine c_skip ?_
  refine f_then ?_
  refine c_seq ?_
  refine c_seq ?_
  refine c_region ?_
  refine s_y (y_assign rfl) rfl rfl rfl ?_
  refine s_nil ?_
  refine f_then ?_
  refine c_block ?_
  refine c_loopP (α := Nat) (fun z => [(0, .slice pa n ca), (1, .slice pb n cb), (5, .int .i64 z)]) (fun z => z ≤ n) (fun _ => K W Ls) (fun z => n - z) 0 ⟨rfl, rfl, rfl, trivial⟩ (Nat.zero_le _) (fun w h => h) ?_
  rintro i hi
  refine c_seq ?_
  refine c_seq ?_
  refine c_region ?_
  refine s_y (y_move rfl) rfl rfl rfl ?_
  refine s_y (y_move rfl) rfl rfl rfl ?_
  refine s_y (y_len Try.tab rfl rfl) rfl rfl rfl ?_
  refine s_y (y_lss rfl rfl) rfl rfl rfl ?_
  refine s_nil ?_
  refine f_then ?_
  refine c_condD rfl (fun hlt => ?_) (fun hge => ?_)
  · obtain ⟨b1, o1, rfl, _, hA⟩ := h2 (by omega)
    obtain ⟨b2, o2, rfl, _, hB⟩ := k2 (by omega)
    have qA := hA 0 (by omega) i (by omega)
    have qB := hB 0 (by omega) i (by omega)
    rw [Nat.mul_one, Nat.add_zero] at qA qB
    refine c_skip ?_
    refine f_then ?_
    refine c_seq ?_
    refine c_block ?_
    refine c_seq ?_
    refine c_quiet Try.mixed (by kernel_rfl) K.drew ?_
    refine q_y (y_move rfl) rfl rfl rfl ?_
    refine q_y (y_move rfl) rfl rfl rfl ?_
    refine q_y (y_indexAddr1o Try.tab rfl rfl rfl rfl _ rfl (by omega)) rfl rfl rfl ?_
    refine q_y (y_load Try.tab rfl rfl qA) rfl rfl rfl ?_
    refine q_y (y_move rfl) rfl rfl rfl ?_
    refine q_y (y_move rfl) rfl rfl rfl ?_
    refine q_y (y_indexAddr1o Try.tab rfl rfl rfl rfl _ rfl (by omega)) rfl rfl rfl ?_
    refine q_y (y_load Try.tab rfl rfl qB) rfl rfl rfl ?_
    refine q_y (y_F (y_neq rfl rfl) (by omega)) rfl rfl rfl ?_
    refine q_nil ?_
    refine f_then ?_
    refine c_condF rfl ?_
    refine c_skip ?_
    refine f_blockN ?_
    refine f_then ?_
    refine c_region ?_
    refine s_y (y_move rfl) rfl rfl rfl ?_
    refine s_y (y_add rfl rfl (by omega)) rfl rfl rfl ?_
    refine s_y (y_assign rfl) rfl rfl rfl ?_
    refine s_nil ?_
    exact f_roundP (i + 1) (by omega) (by omega) ⟨rfl, rfl, rfl, trivial⟩ (fun w h => h)
  · refine c_exit ?_
    refine f_thenE ?_
    refine f_rndE ?_
    refine f_blockE ?_
    refine f_then ?_
    refine c_seq ?_
    refine c_region ?_
    refine s_y (y_assign rfl) rfl rfl rfl ?_
    refine s_nil ?_
    refine f_then ?_
    refine c_ret ?_
    exact f_ret () (res1 rfl rfl) (fun w h => h)
/-- A repair. -/
structure Rep where
  cost : Int
  rv : Value
  sv : Value
  ov : Value
abbrev Rep.v (r : Rep) : Value := .agg #[.int .i64 r.cost, r.rv, r.sv, r.ov]
/-- What its lists say. -/
structure RepL (C : World → Prop) (x : Rep) (n m k : Nat) (f g h : Nat → Int) : Prop where
  r : SlI C x.rv n f
  s : SlI C x.sv m g
  o : SlI C x.ov k h
set_option maxRecDepth 10000 in
set_option maxHeartbeats 8000000 in
theorem alike_yes (W : World) (Ls : List Chunk) (x y : Rep) (n m k : Nat) (f g h : Nat → Int) (hc : x.cost = y.cost) (ha : RepL (K W Ls) x n m k f g h) (hb : RepL (K W Ls) y n m k f g h) (hn : n ≤ 1073741824) (hm : m ≤ 1073741824) (hk : k ≤ 1073741824) :
    Spec Try.prog 19 #[x.v, y.v] (K W Ls) (fun _ : Unit => .bool true) (fun _ => K W Ls) := by
  refine enter (args := [_, _]) Try.func19 rfl Try.ntmps19 rfl ?_
  refine c_seq ?_
  refine c_region ?_
  refine s_do (do_box rfl) rfl rfl rfl (fun b2 => ?_)
  refine s_do (do_box rfl) rfl rfl rfl (fun b3 => ?_)
  refine s_y (y_assign rfl) rfl rfl rfl ?_
  refine s_nil ?_
  refine f_then ?_
  refine c_seq ?_
  refine c_region ?_
  refine s_y (y_fieldAddr0 Try.tab rfl rfl rfl rfl rfl) rfl rfl rfl ?_
  refine s_y (y_load Try.tab rfl rfl (cell_row 1 rfl rfl)) rfl rfl rfl ?_
  refine s_y (y_fieldAddr0 Try.tab rfl rfl rfl rfl rfl) rfl rfl rfl ?_
  refine s_y (y_load Try.tab rfl rfl (cell_row 0 rfl rfl)) rfl rfl rfl ?_
  refine s_y (y_T (y_eql rfl rfl) (by assumption)) rfl rfl rfl ?_
  refine s_y (y_move rfl) rfl rfl rfl ?_
  refine s_y (y_fieldAddrB Try.tab 1 rfl rfl rfl rfl rfl) rfl rfl rfl ?_
  refine s_y (y_load Try.tab rfl rfl (cell_row 1 rfl rfl)) rfl rfl rfl ?_
  refine s_y (y_fieldAddrB Try.tab 1 rfl rfl rfl rfl rfl) rfl rfl rfl ?_
  refine s_y (y_load Try.tab rfl rfl (cell_row 0 rfl rfl)) rfl rfl rfl ?_
  refine s_call (en_f rfl Try.call51) (same_yes _ _ _ _ _ _ (SlV.cls ha.r fun w h => K.tail (K.tail h)) (SlV.cls hb.r fun w h => K.tail (K.tail h)) hn) rfl rfl rfl (fun _ => ?_)
  refine s_y (y_pickT rfl rfl) rfl rfl rfl ?_
  refine s_y (y_move rfl) rfl rfl rfl ?_
  refine s_y (y_fieldAddrB Try.tab 2 rfl rfl rfl rfl rfl) rfl rfl rfl ?_
  refine s_y (y_load Try.tab rfl rfl (cell_row 1 rfl rfl)) rfl rfl rfl ?_
  refine s_y (y_fieldAddrB Try.tab 2 rfl rfl rfl rfl rfl) rfl rfl rfl ?_
  refine s_y (y_load Try.tab rfl rfl (cell_row 0 rfl rfl)) rfl rfl rfl ?_
  refine s_call (en_f rfl Try.call51) (same_yes _ _ _ _ _ _ (SlV.cls ha.s fun w h => K.tail (K.tail h)) (SlV.cls hb.s fun w h => K.tail (K.tail h)) hm) rfl rfl rfl (fun _ => ?_)
  refine s_y (y_pickT rfl rfl) rfl rfl rfl ?_
  refine s_y (y_move rfl) rfl rfl rfl ?_
  refine s_y (y_fieldAddrB Try.tab 3 rfl rfl rfl rfl rfl) rfl rfl rfl ?_
  refine s_y (y_load Try.tab rfl rfl (cell_row 1 rfl rfl)) rfl rfl rfl ?_
  refine s_y (y_fieldAddrB Try.tab 3 rfl rfl rfl rfl rfl) rfl rfl rfl ?_
  refine s_y (y_load Try.tab rfl rfl (cell_row 0 rfl rfl)) rfl rfl rfl ?_
  refine s_call (en_f rfl Try.call51) (same_yes _ _ _ _ _ _ (SlV.cls ha.o fun w h => K.tail (K.tail h)) (SlV.cls hb.o fun w h => K.tail (K.tail h)) hk) rfl rfl rfl (fun _ => ?_)
  refine s_y (y_pickT rfl rfl) rfl rfl rfl ?_
  refine s_y (y_assign rfl) rfl rfl rfl ?_
  refine s_nil ?_
  refine f_then ?_
  refine c_ret ?_
  exact f_ret () (res1 rfl rfl) (fun w h => h.tail.tail)
set_option maxRecDepth 10000 in
set_option maxHeartbeats 8000000 in
theorem examine_bad (W : World) (Ls : List Chunk) (l : Lay) (s : Int) (v u : Value) (c : Cos) (h : ¬ Gd l s) :
    Spec Try.prog 43 #[l.v, .int .i64 s, v, c.v, u] (K W Ls) (fun _ : Unit => .tuple #[.agg #[.map none, .map none, .int .i64 0], .int .i64 (wrg l s)]) (fun _ => K W Ls) := by
  have hw : wrg l s ≠ 0 := fun e => h (wrg_0.1 e)
  refine enter (args := [_, _, _, _, _]) Try.func43 rfl Try.ntmps43 rfl ?_
  refine c_seq ?_
  refine c_region ?_
  refine s_do (do_box rfl) rfl rfl rfl (fun b5 => ?_)
  refine s_do (do_box rfl) rfl rfl rfl (fun b8 => ?_)
  refine s_do (do_alloc Try.tab rfl) rfl rfl rfl (fun b10 => ?_)
  refine s_y (y_assign rfl) rfl rfl rfl ?_
  refine s_nil ?_
  refine f_then ?_
  refine c_seq ?_
  refine c_region ?_
  refine s_y (y_loadA Try.tab rfl rfl rfl rfl (cells_row0 2 rfl rfl)) rfl rfl rfl ?_
  refine s_y (y_move rfl) rfl rfl rfl ?_
  refine s_call (en_f rfl Try.call52) (newRun_bad _ _ _ _ h) rfl rfl rfl (fun _ => ?_)
  refine s_y (y_move rfl) rfl rfl rfl ?_
  refine s_y (y_extract rfl rfl) rfl rfl rfl ?_
  refine s_y (y_extract rfl rfl) rfl rfl rfl ?_
  refine s_do (do_alloc Try.tab rfl) rfl rfl rfl (fun b12 => ?_)
  refine s_set (set_box Try.tab 0 rfl rfl rfl rfl rfl rfl rfl) rfl rfl ?_
  refine s_y (y_assign rfl) rfl rfl rfl ?_
  refine s_nil ?_
  refine f_then ?_
  refine c_seq ?_
  refine c_seq ?_
  refine c_region ?_
  refine s_y (y_move rfl) rfl rfl rfl ?_
  refine s_y (y_T (y_neq rfl rfl) (by assumption)) rfl rfl rfl ?_
  refine s_nil ?_
  refine f_then ?_
  refine c_condT rfl ?_
  refine c_seq ?_
  refine c_region ?_
  refine s_y (y_build Try.tab rfl rfl rfl rfl rfl) rfl rfl rfl ?_
  refine s_y (y_move rfl) rfl rfl rfl ?_
  refine s_set (set_box Try.tab 1 rfl rfl rfl rfl rfl rfl rfl) rfl rfl ?_
  refine s_y (y_assign rfl) rfl rfl rfl ?_
  refine s_nil ?_
  refine f_then ?_
  refine c_ret ?_
  refine f_thenR ?_
  exact f_ret () (resA1 Try.tab rfl rfl rfl rfl rfl rfl (cells_row0 1 rfl rfl)) (fun w h => h.tail.tail.tail.tail)
set_option maxRecDepth 10000 in
set_option maxHeartbeats 8000000 in
theorem Plan_bad (W : World) (Ls : List Chunk) (l : Lay) (s : Int) (v : Value) (c : Cos) (h : ¬ Gd l s) :
    Spec Try.prog 18 #[l.v, .int .i64 s, v, c.v] (K W Ls) (fun _ : Unit => .tuple #[.agg #[.int .i64 0, nilS, nilS, nilS], .int .i64 (wrg l s)]) (fun _ => K W Ls) := by
  have hw : wrg l s ≠ 0 := fun e => h (wrg_0.1 e)
  refine enter (args := [_, _, _, _]) Try.func18 rfl Try.ntmps18 rfl ?_
  refine c_seq ?_
  refine c_region ?_
  refine s_do (do_box rfl) rfl rfl rfl (fun b4 => ?_)
  refine s_do (do_box rfl) rfl rfl rfl (fun b7 => ?_)
  refine s_do (do_alloc Try.tab rfl) rfl rfl rfl (fun b8 => ?_)
  refine s_y (y_assign rfl) rfl rfl rfl ?_
  refine s_nil ?_
  refine f_then ?_
  refine c_seq ?_
  refine c_region ?_
  refine s_y (y_loadA Try.tab rfl rfl rfl rfl (cells_row0 2 rfl rfl)) rfl rfl rfl ?_
  refine s_y (y_move rfl) rfl rfl rfl ?_
  refine s_y (y_move rfl) rfl rfl rfl ?_
  refine s_y (y_loadA Try.tab rfl rfl rfl rfl (cells_row0 1 rfl rfl)) rfl rfl rfl ?_
  refine s_call (en_f rfl Try.call43) (examine_bad _ _ _ _ _ _ _ h) rfl rfl rfl (fun _ => ?_)
  refine s_y (y_move rfl) rfl rfl rfl ?_
  refine s_y (y_extract rfl rfl) rfl rfl rfl ?_
  refine s_y (y_extract rfl rfl) rfl rfl rfl ?_
  refine s_do (do_alloc Try.tab rfl) rfl rfl rfl (fun b10 => ?_)
  refine s_set (set_box Try.tab 0 rfl rfl rfl rfl rfl rfl rfl) rfl rfl ?_
  refine s_y (y_assign rfl) rfl rfl rfl ?_
  refine s_nil ?_
  refine f_then ?_
  refine c_seq ?_
  refine c_seq ?_
  refine c_region ?_
  refine s_y (y_move rfl) rfl rfl rfl ?_
  refine s_y (y_T (y_neq rfl rfl) (by assumption)) rfl rfl rfl ?_
  refine s_nil ?_
  refine f_then ?_
  refine c_condT rfl ?_
  refine c_seq ?_
  refine c_region ?_
  refine s_y (y_build Try.tab rfl rfl rfl rfl rfl) rfl rfl rfl ?_
  refine s_y (y_move rfl) rfl rfl rfl ?_
  refine s_set (set_box Try.tab 1 rfl rfl rfl rfl rfl rfl rfl) rfl rfl ?_
  refine s_y (y_assign rfl) rfl rfl rfl ?_
  refine s_nil ?_
  refine f_then ?_
  refine c_ret ?_
  refine f_thenR ?_
  exact f_ret () (resA1 Try.tab rfl rfl rfl rfl rfl rfl (cells_row0 1 rfl rfl)) (fun w h => h.tail.tail.tail.tail)
set_option maxRecDepth 10000 in
set_option maxHeartbeats 8000000 in
theorem Price_bad (W : World) (Ls : List Chunk) (l : Lay) (s : Int) (v u : Value) (c : Cos) (h : ¬ Gd l s) :
    Spec Try.prog 31 #[l.v, .int .i64 s, v, c.v, u] (K W Ls) (fun _ : Unit => .tuple #[.int .i64 0, .int .i64 (wrg l s)]) (fun _ => K W Ls) := by
  have hw : wrg l s ≠ 0 := fun e => h (wrg_0.1 e)
  refine enter (args := [_, _, _, _, _]) Try.func31 rfl Try.ntmps31 rfl ?_
  refine c_seq ?_
  refine c_region ?_
  refine s_do (do_box rfl) rfl rfl rfl (fun b5 => ?_)
  refine s_do (do_box rfl) rfl rfl rfl (fun b8 => ?_)
  refine s_y (y_assign rfl) rfl rfl rfl ?_
  refine s_y (y_assign rfl) rfl rfl rfl ?_
  refine s_nil ?_
  refine f_then ?_
  refine c_seq ?_
  refine c_region ?_
  refine s_y (y_loadA Try.tab rfl rfl rfl rfl (cells_row0 1 rfl rfl)) rfl rfl rfl ?_
  refine s_y (y_move rfl) rfl rfl rfl ?_
  refine s_y (y_move rfl) rfl rfl rfl ?_
  refine s_y (y_loadA Try.tab rfl rfl rfl rfl (cells_row0 0 rfl rfl)) rfl rfl rfl ?_
  refine s_y (y_move rfl) rfl rfl rfl ?_
  refine s_call (en_f rfl Try.call43) (examine_bad _ _ _ _ _ _ _ h) rfl rfl rfl (fun _ => ?_)
  refine s_y (y_move rfl) rfl rfl rfl ?_
  refine s_y (y_extract rfl rfl) rfl rfl rfl ?_
  refine s_y (y_extract rfl rfl) rfl rfl rfl ?_
  refine s_do (do_alloc Try.tab rfl) rfl rfl rfl (fun b12 => ?_)
  refine s_set (set_box Try.tab 0 rfl rfl rfl rfl rfl rfl rfl) rfl rfl ?_
  refine s_y (y_assign rfl) rfl rfl rfl ?_
  refine s_nil ?_
  refine f_then ?_
  refine c_seq ?_
  refine c_seq ?_
  refine c_region ?_
  refine s_y (y_move rfl) rfl rfl rfl ?_
  refine s_y (y_T (y_neq rfl rfl) (by assumption)) rfl rfl rfl ?_
  refine s_nil ?_
  refine f_then ?_
  refine c_condT rfl ?_
  refine c_seq ?_
  refine c_region ?_
  refine s_y (y_move rfl) rfl rfl rfl ?_
  refine s_y (y_assign rfl) rfl rfl rfl ?_
  refine s_y (y_assign rfl) rfl rfl rfl ?_
  refine s_nil ?_
  refine f_then ?_
  refine c_ret ?_
  refine f_thenR ?_
  exact f_ret () (res2 rfl rfl rfl) (fun w h => h.tail.tail.tail)
end Go.KL
end

section
/- The walk of SheetErrors. -/
namespace Go.KL
open Go.Proofs
attribute [local irreducible] SC St Fin Sq Sw Ylds Doos Sets Enters Spec CellIs CellsAre Then Ret Rnd Chn resOK ints bools recs arr
theorem alike_0 (W : World) (Ls : List Chunk) : Spec Try.prog 19 #[.agg #[.int .i64 0, nilS, nilS, nilS], .agg #[.int .i64 0, nilS, nilS, nilS]] (K W Ls) (fun _ : Unit => .bool true) (fun _ => K W Ls) :=
  alike_yes W Ls ⟨0, nilS, nilS, nilS⟩ ⟨0, nilS, nilS, nilS⟩ 0 0 0 (fun _ => 0) (fun _ => 0) (fun _ => 0) rfl ⟨SlV.empty, SlV.empty, SlV.empty⟩ ⟨SlV.empty, SlV.empty, SlV.empty⟩ (by omega) (by omega) (by omega)
set_option maxRecDepth 10000 in
set_option maxHeartbeats 40000000 in
theorem sheetErrors_bad (W : World) (l : Lay) (s k : Int) (pv : Option Addr) (m cv : Nat) (c : Cos) (h : ¬ Gd l s) (hm : m ≤ 600) : Spec Try.prog 14 #[l.v, .int .i64 s, .int .i64 k, .slice pv m cv, c.v] (K W []) (fun _ : Unit => .bool true) (fun _ => K W []) := by
  have hw : wrg l s ≠ 0 := fun e => h (wrg_0.1 e)
  refine enter (args := [_, _, _, _, _]) Try.func14 rfl Try.ntmps14 rfl ?_
  by_cases hl : l.OK
  · refine c_seq ?_
    refine c_region ?_
    refine s_do (do_box rfl) rfl rfl rfl (fun b5 => ?_)
    refine s_do (do_box rfl) rfl rfl rfl (fun b9 => ?_)
    refine s_y (y_assign rfl) rfl rfl rfl ?_
    refine s_nil ?_
    refine f_then ?_
    refine c_seq ?_
    refine c_seq ?_
    refine c_region ?_
    refine s_y (y_move rfl) rfl rfl rfl ?_
    refine s_y (y_len Try.tab rfl rfl) rfl rfl rfl ?_
    refine s_y (y_F (y_gtr rfl rfl) (by omega)) rfl rfl rfl ?_
    refine s_nil ?_
    refine f_then ?_
    refine c_condF rfl ?_
    refine c_skip ?_
    refine f_then ?_
    refine c_seq ?_
    refine c_region ?_
    refine s_y (y_loadA Try.tab rfl rfl rfl rfl (cells_row0 1 rfl rfl)) rfl rfl rfl ?_
    refine s_call (en_f rfl Try.call40) (check_ok W _ _ hl) rfl rfl rfl (fun _ => ?_)
    refine s_y (y_assign rfl) rfl rfl rfl ?_
    refine s_nil ?_
    refine f_then ?_
    refine c_seq ?_
    refine c_seq ?_
    refine c_region ?_
    refine s_y (y_loadA Try.tab rfl rfl rfl rfl (cells_row0 1 rfl rfl)) rfl rfl rfl ?_
    refine s_call (en_f rfl Try.call41) (valid_ok W _ _ hl) rfl rfl rfl (fun _ => ?_)
    refine s_y (y_notT rfl) rfl rfl rfl ?_
    refine s_y (y_move rfl) rfl rfl rfl ?_
    iterate 2 refine s_skip rfl rfl rfl ?_
    refine s_y (y_pickF rfl rfl) rfl rfl rfl ?_
    refine s_y (y_move rfl) rfl rfl rfl ?_
    refine s_y (y_loadA Try.tab rfl rfl rfl rfl (cells_row0 1 rfl rfl)) rfl rfl rfl ?_
    refine s_call (en_f rfl Try.call41) (valid_ok W _ _ hl) rfl rfl rfl (fun _ => ?_)
    refine s_y (y_move rfl) rfl rfl rfl ?_
    refine s_y (y_move rfl) rfl rfl rfl ?_
    refine s_y (y_F (y_neq rfl rfl) (by omega)) rfl rfl rfl ?_
    refine s_y (y_pickT rfl rfl) rfl rfl rfl ?_
    refine s_y (y_pickF rfl rfl) rfl rfl rfl ?_
    refine s_nil ?_
    refine f_then ?_
    refine c_condF rfl ?_
    refine c_skip ?_
    refine f_then ?_
    refine c_seq ?_
    refine c_region ?_
    refine s_y (y_loadA Try.tab rfl rfl rfl rfl (cells_row0 1 rfl rfl)) rfl rfl rfl ?_
    refine s_y (y_move rfl) rfl rfl rfl ?_
    refine s_call (en_f rfl Try.call23) (wrong_spec W _ _ _) rfl rfl rfl (fun _ => ?_)
    refine s_y (y_assign rfl) rfl rfl rfl ?_
    refine s_nil ?_
    refine f_then ?_
    refine c_seq ?_
    refine c_seq ?_
    refine c_region ?_
    refine s_y (y_move rfl) rfl rfl rfl ?_
    refine s_y (y_F (y_eql rfl rfl) (by assumption)) rfl rfl rfl ?_
    refine s_nil ?_
    refine f_then ?_
    refine c_condF rfl ?_
    refine c_skip ?_
    refine f_then ?_
    refine c_seq ?_
    refine c_region ?_
    refine s_y (y_loadA Try.tab rfl rfl rfl rfl (cells_row0 1 rfl rfl)) rfl rfl rfl ?_
    refine s_y (y_move rfl) rfl rfl rfl ?_
    refine s_call (en_f rfl Try.call24) (Notes_bad W _ _ _ h) rfl rfl rfl (fun _ => ?_)
    refine s_y (y_move rfl) rfl rfl rfl ?_
    refine s_y (y_extract rfl rfl) rfl rfl rfl ?_
    refine s_y (y_extract rfl rfl) rfl rfl rfl ?_
    refine s_y (y_assign rfl) rfl rfl rfl ?_
    refine s_y (y_assign rfl) rfl rfl rfl ?_
    refine s_nil ?_
    refine f_then ?_
    refine c_seq ?_
    refine c_region ?_
    refine s_y (y_loadA Try.tab rfl rfl rfl rfl (cells_row0 1 rfl rfl)) rfl rfl rfl ?_
    refine s_y (y_move rfl) rfl rfl rfl ?_
    refine s_y (y_move rfl) rfl rfl rfl ?_
    refine s_y (y_build Try.tab rfl rfl rfl rfl rfl) rfl rfl rfl ?_
    refine s_call (en_f rfl Try.call21) (Note_bad W _ _ _ _ _ h) rfl rfl rfl (fun _ => ?_)
    refine s_y (y_move rfl) rfl rfl rfl ?_
    refine s_y (y_extract rfl rfl) rfl rfl rfl ?_
    refine s_y (y_extract rfl rfl) rfl rfl rfl ?_
    refine s_y (y_assign rfl) rfl rfl rfl ?_
    refine s_y (y_assign rfl) rfl rfl rfl ?_
    refine s_nil ?_
    refine f_then ?_
    refine c_seq ?_
    refine c_region ?_
    refine s_y (y_loadA Try.tab rfl rfl rfl rfl (cells_row0 1 rfl rfl)) rfl rfl rfl ?_
    refine s_y (y_move rfl) rfl rfl rfl ?_
    refine s_y (y_move rfl) rfl rfl rfl ?_
    refine s_call (en_f rfl Try.call22) (Cell_bad W _ _ _ _ h) rfl rfl rfl (fun _ => ?_)
    refine s_y (y_move rfl) rfl rfl rfl ?_
    refine s_y (y_extract rfl rfl) rfl rfl rfl ?_
    refine s_y (y_extract rfl rfl) rfl rfl rfl ?_
    refine s_do (do_alloc Try.tab rfl) rfl rfl rfl (fun b17 => ?_)
    refine s_set (set_box Try.tab 0 rfl rfl rfl rfl rfl rfl rfl) rfl rfl ?_
    refine s_y (y_assign rfl) rfl rfl rfl ?_
    refine s_nil ?_
    refine f_then ?_
    refine c_seq ?_
    refine c_region ?_
    refine s_y (y_loadA Try.tab rfl rfl rfl rfl (cells_row0 2 rfl rfl)) rfl rfl rfl ?_
    refine s_y (y_move rfl) rfl rfl rfl ?_
    refine s_y (y_move rfl) rfl rfl rfl ?_
    refine s_y (y_move rfl) rfl rfl rfl ?_
    refine s_y (y_addw rfl rfl) rfl rfl rfl ?_
    refine s_call (en_f rfl Try.call29) (Stack_bad W _ _ _ _ _ _ h) rfl rfl rfl (fun _ => ?_)
    refine s_y (y_move rfl) rfl rfl rfl ?_
    refine s_y (y_extract rfl rfl) rfl rfl rfl ?_
    refine s_y (y_extract rfl rfl) rfl rfl rfl ?_
    refine s_y (y_extract rfl rfl) rfl rfl rfl ?_
    refine s_y (y_assign rfl) rfl rfl rfl ?_
    refine s_y (y_assign rfl) rfl rfl rfl ?_
    refine s_y (y_assign rfl) rfl rfl rfl ?_
    refine s_nil ?_
    refine f_then ?_
    refine c_seq ?_
    refine c_region ?_
    refine s_y (y_loadA Try.tab rfl rfl rfl rfl (cells_row0 2 rfl rfl)) rfl rfl rfl ?_
    refine s_y (y_move rfl) rfl rfl rfl ?_
    refine s_call (en_f rfl Try.call37) (Bundles_bad W _ _ _ h) rfl rfl rfl (fun _ => ?_)
    refine s_y (y_move rfl) rfl rfl rfl ?_
    refine s_y (y_extract rfl rfl) rfl rfl rfl ?_
    refine s_y (y_extract rfl rfl) rfl rfl rfl ?_
    refine s_y (y_assign rfl) rfl rfl rfl ?_
    refine s_y (y_assign rfl) rfl rfl rfl ?_
    refine s_nil ?_
    refine f_then ?_
    refine c_seq ?_
    refine c_region ?_
    refine s_y (y_loadA Try.tab rfl rfl rfl rfl (cells_row0 2 rfl rfl)) rfl rfl rfl ?_
    refine s_y (y_move rfl) rfl rfl rfl ?_
    refine s_y (y_move rfl) rfl rfl rfl ?_
    refine s_call (en_f rfl Try.call38) (Bundle_bad W _ _ _ _ h) rfl rfl rfl (fun _ => ?_)
    refine s_y (y_move rfl) rfl rfl rfl ?_
    refine s_y (y_extract rfl rfl) rfl rfl rfl ?_
    refine s_y (y_extract rfl rfl) rfl rfl rfl ?_
    refine s_y (y_extract rfl rfl) rfl rfl rfl ?_
    refine s_y (y_assign rfl) rfl rfl rfl ?_
    refine s_y (y_assign rfl) rfl rfl rfl ?_
    refine s_y (y_assign rfl) rfl rfl rfl ?_
    refine s_nil ?_
    refine f_then ?_
    refine c_seq ?_
    refine c_region ?_
    refine s_y (y_loadA Try.tab rfl rfl rfl rfl (cells_row0 2 rfl rfl)) rfl rfl rfl ?_
    refine s_y (y_move rfl) rfl rfl rfl ?_
    refine s_y (y_move rfl) rfl rfl rfl ?_
    refine s_call (en_f rfl Try.call39) (BundleOf_bad W _ _ _ _ h) rfl rfl rfl (fun _ => ?_)
    refine s_y (y_move rfl) rfl rfl rfl ?_
    refine s_y (y_extract rfl rfl) rfl rfl rfl ?_
    refine s_y (y_extract rfl rfl) rfl rfl rfl ?_
    refine s_y (y_assign rfl) rfl rfl rfl ?_
    refine s_y (y_assign rfl) rfl rfl rfl ?_
    refine s_nil ?_
    refine f_then ?_
    refine c_seq ?_
    refine c_region ?_
    refine s_y (y_loadA Try.tab rfl rfl rfl rfl (cells_row0 2 rfl rfl)) rfl rfl rfl ?_
    refine s_y (y_move rfl) rfl rfl rfl ?_
    refine s_y (y_move rfl) rfl rfl rfl ?_
    refine s_y (y_loadA Try.tab rfl rfl rfl rfl (cells_row0 1 rfl rfl)) rfl rfl rfl ?_
    refine s_call (en_f rfl Try.call18) (Plan_bad W _ _ _ _ _ h) rfl rfl rfl (fun _ => ?_)
    refine s_y (y_move rfl) rfl rfl rfl ?_
    refine s_y (y_extract rfl rfl) rfl rfl rfl ?_
    refine s_y (y_extract rfl rfl) rfl rfl rfl ?_
    refine s_do (do_alloc Try.tab rfl) rfl rfl rfl (fun b29 => ?_)
    refine s_set (set_box Try.tab 0 rfl rfl rfl rfl rfl rfl rfl) rfl rfl ?_
    refine s_y (y_assign rfl) rfl rfl rfl ?_
    refine s_nil ?_
    refine f_then ?_
    refine c_seq ?_
    refine c_region ?_
    refine s_y (y_loadA Try.tab rfl rfl rfl rfl (cells_row0 3 rfl rfl)) rfl rfl rfl ?_
    refine s_y (y_move rfl) rfl rfl rfl ?_
    refine s_y (y_move rfl) rfl rfl rfl ?_
    refine s_y (y_loadA Try.tab rfl rfl rfl rfl (cells_row0 2 rfl rfl)) rfl rfl rfl ?_
    refine s_y (y_move rfl) rfl rfl rfl ?_
    refine s_do (do_buildSlice1 Try.tab ⟨rfl, rfl, rfl, rfl⟩ rfl rfl rfl rfl) rfl rfl rfl (fun b129 => ?_)
    refine s_call (en_f rfl Try.call31) (Price_bad W _ _ _ _ _ _ h) rfl rfl rfl (fun _ => ?_)
    refine s_y (y_move rfl) rfl rfl rfl ?_
    refine s_y (y_extract rfl rfl) rfl rfl rfl ?_
    refine s_y (y_extract rfl rfl) rfl rfl rfl ?_
    refine s_y (y_assign rfl) rfl rfl rfl ?_
    refine s_y (y_assign rfl) rfl rfl rfl ?_
    refine s_nil ?_
    refine f_then ?_
    refine c_seq ?_
    refine c_region ?_
    refine s_y (y_move rfl) rfl rfl rfl ?_
    refine s_y (y_move rfl) rfl rfl rfl ?_
    refine s_y (y_move rfl) rfl rfl rfl ?_
    refine s_y (y_move rfl) rfl rfl rfl ?_
    refine s_y (y_move rfl) rfl rfl rfl ?_
    refine s_y (y_move rfl) rfl rfl rfl ?_
    refine s_y (y_move rfl) rfl rfl rfl ?_
    refine s_y (y_move rfl) rfl rfl rfl ?_
    refine s_y (y_move rfl) rfl rfl rfl ?_
    refine s_do (do_buildSlice1 Try.tab ⟨rfl, rfl, rfl, rfl⟩ rfl rfl rfl rfl) rfl rfl rfl (fun b142 => ?_)
    refine s_y (y_assign rfl) rfl rfl rfl ?_
    refine s_nil ?_
    refine f_then ?_
    refine c_seq ?_
    refine c_seq ?_
    refine c_region ?_
    refine s_y (y_move rfl) rfl rfl rfl ?_
    refine s_y (y_len Try.tab rfl rfl) rfl rfl rfl ?_
    refine s_y (y_move rfl) rfl rfl rfl ?_
    refine s_nil ?_
    refine f_then ?_
    refine c_block ?_
    refine SC.cls (C' := K W [[(b142, row 33 [.int .i64 (wrg l s), .int .i64 (wrg l s), .int .i64 (wrg l s), .int .i64 (wrg l s), .int .i64 (wrg l s), .int .i64 (wrg l s), .int .i64 (wrg l s), .int .i64 (wrg l s), .int .i64 (wrg l s)])], [(b129, row 3 [.int .i64 k])], [(b29, row 32 [.int .i64 0, nilS, nilS, nilS])], [(b17, row 37 [.int .i64 0, .int .i64 0])], [(b9, row 26 [.int .i64 c.r, .int .i64 c.s, .int .i64 c.o])], [(b5, row 23 l.v.cells.toList)]]) ?_ (fun w h => h)
    have hE : ∀ i, i < 9 → CellIs (K W [[(b142, row 33 [.int .i64 (wrg l s), .int .i64 (wrg l s), .int .i64 (wrg l s), .int .i64 (wrg l s), .int .i64 (wrg l s), .int .i64 (wrg l s), .int .i64 (wrg l s), .int .i64 (wrg l s), .int .i64 (wrg l s)])], [(b129, row 3 [.int .i64 k])], [(b29, row 32 [.int .i64 0, nilS, nilS, nilS])], [(b17, row 37 [.int .i64 0, .int .i64 0])], [(b9, row 26 [.int .i64 c.r, .int .i64 c.s, .int .i64 c.o])], [(b5, row 23 l.v.cells.toList)]]) ⟨b142, i, none⟩ (.int .i64 (wrg l s)) := fun i hi => match i, hi with
      | 0, _ => cell_row 0 rfl rfl
      | 1, _ => cell_row 0 rfl rfl
      | 2, _ => cell_row 0 rfl rfl
      | 3, _ => cell_row 0 rfl rfl
      | 4, _ => cell_row 0 rfl rfl
      | 5, _ => cell_row 0 rfl rfl
      | 6, _ => cell_row 0 rfl rfl
      | 7, _ => cell_row 0 rfl rfl
      | 8, _ => cell_row 0 rfl rfl
    refine c_loopP (α := Nat) (fun z => [(12, .int .i64 (wrg l s)), (13, .int .i64 0), (15, .int .i64 0), (17, .pointer (some ⟨b17, 0, none⟩)), (19, .int .i64 0), (20, .int .i64 0), (22, .int .i64 0), (24, .int .i64 0), (25, .int .i64 0), (27, .int .i64 0), (29, .pointer (some ⟨b29, 0, none⟩)), (31, .int .i64 0), (143, .slice (some ⟨b142, 0, none⟩) 9 9), (144, .int .i64 9), (145, .int .i64 z)]) (fun z => z ≤ 9)
      (fun _ => K W [[(b142, row 33 [.int .i64 (wrg l s), .int .i64 (wrg l s), .int .i64 (wrg l s), .int .i64 (wrg l s), .int .i64 (wrg l s), .int .i64 (wrg l s), .int .i64 (wrg l s), .int .i64 (wrg l s), .int .i64 (wrg l s)])], [(b129, row 3 [.int .i64 k])], [(b29, row 32 [.int .i64 0, nilS, nilS, nilS])], [(b17, row 37 [.int .i64 0, .int .i64 0])], [(b9, row 26 [.int .i64 c.r, .int .i64 c.s, .int .i64 c.o])], [(b5, row 23 l.v.cells.toList)]]) (fun z => 9 - z) 0 ⟨rfl, rfl, rfl, rfl, rfl, rfl, rfl, rfl, rfl, rfl, rfl, rfl, rfl, rfl, rfl, trivial⟩ (Nat.zero_le _) (fun w h => h) ?_
    rintro i hi
    refine c_seq ?_
    refine c_region ?_
    refine s_y (y_lss rfl rfl) rfl rfl rfl ?_
    refine s_nil ?_
    refine f_then ?_
    refine c_seq ?_
    refine c_condD rfl (fun hlt => ?_) (fun hge => ?_)
    · have q := hE i (by omega)
      refine c_skip ?_
      refine f_then ?_
      refine c_seq ?_
      refine c_block ?_
      refine c_seq ?_
      refine c_region ?_
      refine s_y (y_indexAddr1 Try.tab rfl rfl rfl rfl _ rfl (by omega)) rfl rfl rfl ?_
      refine s_y (y_load Try.tab rfl rfl q) rfl rfl rfl ?_
      refine s_y (y_assign rfl) rfl rfl rfl ?_
      refine s_nil ?_
      refine f_then ?_
      refine c_seq ?_
      refine c_region ?_
      refine s_y (y_move rfl) rfl rfl rfl ?_
      refine s_y (y_move rfl) rfl rfl rfl ?_
      refine s_y (y_F (y_neq rfl rfl) (by omega)) rfl rfl rfl ?_
      refine s_nil ?_
      refine f_then ?_
      refine c_condF rfl ?_
      refine c_skip ?_
      refine f_blockN ?_
      refine f_then ?_
      refine c_region ?_
      refine s_y (y_add rfl rfl (by omega)) rfl rfl rfl ?_
      refine s_y (y_move rfl) rfl rfl rfl ?_
      refine s_nil ?_
      exact f_roundP (i + 1) (by omega) (by omega) ⟨rfl, rfl, rfl, rfl, rfl, rfl, rfl, rfl, rfl, rfl, rfl, rfl, rfl, rfl, rfl, trivial⟩ (fun w h => h)
    · refine c_exit ?_
      refine f_thenE ?_
      refine f_rndE ?_
      refine f_blockE ?_
      refine f_then ?_
      refine c_seq ?_
      refine c_region ?_
      refine s_y (y_move rfl) rfl rfl rfl ?_
      refine s_y (y_T (y_eql rfl rfl) (by omega)) rfl rfl rfl ?_
      refine s_y (y_move rfl) rfl rfl rfl ?_
      refine s_y (y_move rfl) rfl rfl rfl ?_
      refine s_y (y_T (y_eql rfl rfl) (by omega)) rfl rfl rfl ?_
      refine s_y (y_pickT rfl rfl) rfl rfl rfl ?_
      refine s_y (y_move rfl) rfl rfl rfl ?_
      refine s_y (y_loadA Try.tab rfl rfl rfl rfl (cells_row0 3 rfl rfl)) rfl rfl rfl ?_
      refine s_y (y_build Try.tab rfl rfl rfl rfl rfl) rfl rfl rfl ?_
      refine s_y (y_T (y_eqlCell rfl rfl) (by omega)) rfl rfl rfl ?_
      refine s_y (y_pickT rfl rfl) rfl rfl rfl ?_
      refine s_y (y_move rfl) rfl rfl rfl ?_
      refine s_y (y_move rfl) rfl rfl rfl ?_
      refine s_y (y_T (y_eql rfl rfl) (by omega)) rfl rfl rfl ?_
      refine s_y (y_pickT rfl rfl) rfl rfl rfl ?_
      refine s_y (y_move rfl) rfl rfl rfl ?_
      refine s_y (y_move rfl) rfl rfl rfl ?_
      refine s_y (y_T (y_eql rfl rfl) (by omega)) rfl rfl rfl ?_
      refine s_y (y_pickT rfl rfl) rfl rfl rfl ?_
      refine s_y (y_move rfl) rfl rfl rfl ?_
      refine s_y (y_move rfl) rfl rfl rfl ?_
      refine s_y (y_T (y_eql rfl rfl) (by omega)) rfl rfl rfl ?_
      refine s_y (y_pickT rfl rfl) rfl rfl rfl ?_
      refine s_y (y_move rfl) rfl rfl rfl ?_
      refine s_y (y_move rfl) rfl rfl rfl ?_
      refine s_y (y_T (y_eql rfl rfl) (by omega)) rfl rfl rfl ?_
      refine s_y (y_pickT rfl rfl) rfl rfl rfl ?_
      refine s_y (y_move rfl) rfl rfl rfl ?_
      refine s_y (y_move rfl) rfl rfl rfl ?_
      refine s_y (y_T (y_eql rfl rfl) (by omega)) rfl rfl rfl ?_
      refine s_y (y_pickT rfl rfl) rfl rfl rfl ?_
      refine s_y (y_move rfl) rfl rfl rfl ?_
      refine s_y (y_move rfl) rfl rfl rfl ?_
      refine s_y (y_T (y_eql rfl rfl) (by omega)) rfl rfl rfl ?_
      refine s_y (y_pickT rfl rfl) rfl rfl rfl ?_
      refine s_y (y_move rfl) rfl rfl rfl ?_
      refine s_y (y_loadA Try.tab rfl rfl rfl rfl (cells_row0 2 rfl rfl)) rfl rfl rfl ?_
      refine s_y (y_build Try.tab rfl rfl rfl rfl rfl) rfl rfl rfl ?_
      refine s_call (en_f rfl Try.call19) (alike_0 W _) rfl rfl rfl (fun _ => ?_)
      refine s_y (y_pickT rfl rfl) rfl rfl rfl ?_
      refine s_y (y_move rfl) rfl rfl rfl ?_
      refine s_y (y_move rfl) rfl rfl rfl ?_
      refine s_y (y_T (y_eql rfl rfl) (by omega)) rfl rfl rfl ?_
      refine s_y (y_pickT rfl rfl) rfl rfl rfl ?_
      refine s_y (y_move rfl) rfl rfl rfl ?_
      refine s_call (en_f rfl Try.call15) (awake_spec W _) rfl rfl rfl (fun _ => ?_)
      refine s_y (y_pickT rfl rfl) rfl rfl rfl ?_
      refine s_y (y_assign rfl) rfl rfl rfl ?_
      refine s_nil ?_
      refine f_then ?_
      refine c_ret ?_
      exact f_ret () (res1 rfl rfl) (fun w h => h.any)
  · refine c_seq ?_
    refine c_region ?_
    refine s_do (do_box rfl) rfl rfl rfl (fun b5 => ?_)
    refine s_do (do_box rfl) rfl rfl rfl (fun b9 => ?_)
    refine s_y (y_assign rfl) rfl rfl rfl ?_
    refine s_nil ?_
    refine f_then ?_
    refine c_seq ?_
    refine c_seq ?_
    refine c_region ?_
    refine s_y (y_move rfl) rfl rfl rfl ?_
    refine s_y (y_len Try.tab rfl rfl) rfl rfl rfl ?_
    refine s_y (y_F (y_gtr rfl rfl) (by omega)) rfl rfl rfl ?_
    refine s_nil ?_
    refine f_then ?_
    refine c_condF rfl ?_
    refine c_skip ?_
    refine f_then ?_
    refine c_seq ?_
    refine c_region ?_
    refine s_y (y_loadA Try.tab rfl rfl rfl rfl (cells_row0 1 rfl rfl)) rfl rfl rfl ?_
    refine s_call (en_f rfl Try.call40) (check_bad W _ _ hl) rfl rfl rfl (fun _ => ?_)
    refine s_y (y_assign rfl) rfl rfl rfl ?_
    refine s_nil ?_
    refine f_then ?_
    refine c_seq ?_
    refine c_seq ?_
    refine c_region ?_
    refine s_y (y_loadA Try.tab rfl rfl rfl rfl (cells_row0 1 rfl rfl)) rfl rfl rfl ?_
    refine s_call (en_f rfl Try.call41) (valid_bad W _ _ hl) rfl rfl rfl (fun _ => ?_)
    refine s_y (y_notF rfl) rfl rfl rfl ?_
    refine s_y (y_move rfl) rfl rfl rfl ?_
    refine s_y (y_move rfl) rfl rfl rfl ?_
    refine s_y (y_F (y_neq rfl rfl) (by omega)) rfl rfl rfl ?_
    refine s_y (y_pickT rfl rfl) rfl rfl rfl ?_
    refine s_y (y_move rfl) rfl rfl rfl ?_
    refine s_y (y_loadA Try.tab rfl rfl rfl rfl (cells_row0 1 rfl rfl)) rfl rfl rfl ?_
    refine s_call (en_f rfl Try.call41) (valid_bad W _ _ hl) rfl rfl rfl (fun _ => ?_)
    refine s_y (y_move rfl) rfl rfl rfl ?_
    iterate 2 refine s_skip rfl rfl rfl ?_
    refine s_y (y_pickF rfl rfl) rfl rfl rfl ?_
    refine s_y (y_pickF rfl rfl) rfl rfl rfl ?_
    refine s_nil ?_
    refine f_then ?_
    refine c_condF rfl ?_
    refine c_skip ?_
    refine f_then ?_
    refine c_seq ?_
    refine c_region ?_
    refine s_y (y_loadA Try.tab rfl rfl rfl rfl (cells_row0 1 rfl rfl)) rfl rfl rfl ?_
    refine s_y (y_move rfl) rfl rfl rfl ?_
    refine s_call (en_f rfl Try.call23) (wrong_spec W _ _ _) rfl rfl rfl (fun _ => ?_)
    refine s_y (y_assign rfl) rfl rfl rfl ?_
    refine s_nil ?_
    refine f_then ?_
    refine c_seq ?_
    refine c_seq ?_
    refine c_region ?_
    refine s_y (y_move rfl) rfl rfl rfl ?_
    refine s_y (y_F (y_eql rfl rfl) (by assumption)) rfl rfl rfl ?_
    refine s_nil ?_
    refine f_then ?_
    refine c_condF rfl ?_
    refine c_skip ?_
    refine f_then ?_
    refine c_seq ?_
    refine c_region ?_
    refine s_y (y_loadA Try.tab rfl rfl rfl rfl (cells_row0 1 rfl rfl)) rfl rfl rfl ?_
    refine s_y (y_move rfl) rfl rfl rfl ?_
    refine s_call (en_f rfl Try.call24) (Notes_bad W _ _ _ h) rfl rfl rfl (fun _ => ?_)
    refine s_y (y_move rfl) rfl rfl rfl ?_
    refine s_y (y_extract rfl rfl) rfl rfl rfl ?_
    refine s_y (y_extract rfl rfl) rfl rfl rfl ?_
    refine s_y (y_assign rfl) rfl rfl rfl ?_
    refine s_y (y_assign rfl) rfl rfl rfl ?_
    refine s_nil ?_
    refine f_then ?_
    refine c_seq ?_
    refine c_region ?_
    refine s_y (y_loadA Try.tab rfl rfl rfl rfl (cells_row0 1 rfl rfl)) rfl rfl rfl ?_
    refine s_y (y_move rfl) rfl rfl rfl ?_
    refine s_y (y_move rfl) rfl rfl rfl ?_
    refine s_y (y_build Try.tab rfl rfl rfl rfl rfl) rfl rfl rfl ?_
    refine s_call (en_f rfl Try.call21) (Note_bad W _ _ _ _ _ h) rfl rfl rfl (fun _ => ?_)
    refine s_y (y_move rfl) rfl rfl rfl ?_
    refine s_y (y_extract rfl rfl) rfl rfl rfl ?_
    refine s_y (y_extract rfl rfl) rfl rfl rfl ?_
    refine s_y (y_assign rfl) rfl rfl rfl ?_
    refine s_y (y_assign rfl) rfl rfl rfl ?_
    refine s_nil ?_
    refine f_then ?_
    refine c_seq ?_
    refine c_region ?_
    refine s_y (y_loadA Try.tab rfl rfl rfl rfl (cells_row0 1 rfl rfl)) rfl rfl rfl ?_
    refine s_y (y_move rfl) rfl rfl rfl ?_
    refine s_y (y_move rfl) rfl rfl rfl ?_
    refine s_call (en_f rfl Try.call22) (Cell_bad W _ _ _ _ h) rfl rfl rfl (fun _ => ?_)
    refine s_y (y_move rfl) rfl rfl rfl ?_
    refine s_y (y_extract rfl rfl) rfl rfl rfl ?_
    refine s_y (y_extract rfl rfl) rfl rfl rfl ?_
    refine s_do (do_alloc Try.tab rfl) rfl rfl rfl (fun b17 => ?_)
    refine s_set (set_box Try.tab 0 rfl rfl rfl rfl rfl rfl rfl) rfl rfl ?_
    refine s_y (y_assign rfl) rfl rfl rfl ?_
    refine s_nil ?_
    refine f_then ?_
    refine c_seq ?_
    refine c_region ?_
    refine s_y (y_loadA Try.tab rfl rfl rfl rfl (cells_row0 2 rfl rfl)) rfl rfl rfl ?_
    refine s_y (y_move rfl) rfl rfl rfl ?_
    refine s_y (y_move rfl) rfl rfl rfl ?_
    refine s_y (y_move rfl) rfl rfl rfl ?_
    refine s_y (y_addw rfl rfl) rfl rfl rfl ?_
    refine s_call (en_f rfl Try.call29) (Stack_bad W _ _ _ _ _ _ h) rfl rfl rfl (fun _ => ?_)
    refine s_y (y_move rfl) rfl rfl rfl ?_
    refine s_y (y_extract rfl rfl) rfl rfl rfl ?_
    refine s_y (y_extract rfl rfl) rfl rfl rfl ?_
    refine s_y (y_extract rfl rfl) rfl rfl rfl ?_
    refine s_y (y_assign rfl) rfl rfl rfl ?_
    refine s_y (y_assign rfl) rfl rfl rfl ?_
    refine s_y (y_assign rfl) rfl rfl rfl ?_
    refine s_nil ?_
    refine f_then ?_
    refine c_seq ?_
    refine c_region ?_
    refine s_y (y_loadA Try.tab rfl rfl rfl rfl (cells_row0 2 rfl rfl)) rfl rfl rfl ?_
    refine s_y (y_move rfl) rfl rfl rfl ?_
    refine s_call (en_f rfl Try.call37) (Bundles_bad W _ _ _ h) rfl rfl rfl (fun _ => ?_)
    refine s_y (y_move rfl) rfl rfl rfl ?_
    refine s_y (y_extract rfl rfl) rfl rfl rfl ?_
    refine s_y (y_extract rfl rfl) rfl rfl rfl ?_
    refine s_y (y_assign rfl) rfl rfl rfl ?_
    refine s_y (y_assign rfl) rfl rfl rfl ?_
    refine s_nil ?_
    refine f_then ?_
    refine c_seq ?_
    refine c_region ?_
    refine s_y (y_loadA Try.tab rfl rfl rfl rfl (cells_row0 2 rfl rfl)) rfl rfl rfl ?_
    refine s_y (y_move rfl) rfl rfl rfl ?_
    refine s_y (y_move rfl) rfl rfl rfl ?_
    refine s_call (en_f rfl Try.call38) (Bundle_bad W _ _ _ _ h) rfl rfl rfl (fun _ => ?_)
    refine s_y (y_move rfl) rfl rfl rfl ?_
    refine s_y (y_extract rfl rfl) rfl rfl rfl ?_
    refine s_y (y_extract rfl rfl) rfl rfl rfl ?_
    refine s_y (y_extract rfl rfl) rfl rfl rfl ?_
    refine s_y (y_assign rfl) rfl rfl rfl ?_
    refine s_y (y_assign rfl) rfl rfl rfl ?_
    refine s_y (y_assign rfl) rfl rfl rfl ?_
    refine s_nil ?_
    refine f_then ?_
    refine c_seq ?_
    refine c_region ?_
    refine s_y (y_loadA Try.tab rfl rfl rfl rfl (cells_row0 2 rfl rfl)) rfl rfl rfl ?_
    refine s_y (y_move rfl) rfl rfl rfl ?_
    refine s_y (y_move rfl) rfl rfl rfl ?_
    refine s_call (en_f rfl Try.call39) (BundleOf_bad W _ _ _ _ h) rfl rfl rfl (fun _ => ?_)
    refine s_y (y_move rfl) rfl rfl rfl ?_
    refine s_y (y_extract rfl rfl) rfl rfl rfl ?_
    refine s_y (y_extract rfl rfl) rfl rfl rfl ?_
    refine s_y (y_assign rfl) rfl rfl rfl ?_
    refine s_y (y_assign rfl) rfl rfl rfl ?_
    refine s_nil ?_
    refine f_then ?_
    refine c_seq ?_
    refine c_region ?_
    refine s_y (y_loadA Try.tab rfl rfl rfl rfl (cells_row0 2 rfl rfl)) rfl rfl rfl ?_
    refine s_y (y_move rfl) rfl rfl rfl ?_
    refine s_y (y_move rfl) rfl rfl rfl ?_
    refine s_y (y_loadA Try.tab rfl rfl rfl rfl (cells_row0 1 rfl rfl)) rfl rfl rfl ?_
    refine s_call (en_f rfl Try.call18) (Plan_bad W _ _ _ _ _ h) rfl rfl rfl (fun _ => ?_)
    refine s_y (y_move rfl) rfl rfl rfl ?_
    refine s_y (y_extract rfl rfl) rfl rfl rfl ?_
    refine s_y (y_extract rfl rfl) rfl rfl rfl ?_
    refine s_do (do_alloc Try.tab rfl) rfl rfl rfl (fun b29 => ?_)
    refine s_set (set_box Try.tab 0 rfl rfl rfl rfl rfl rfl rfl) rfl rfl ?_
    refine s_y (y_assign rfl) rfl rfl rfl ?_
    refine s_nil ?_
    refine f_then ?_
    refine c_seq ?_
    refine c_region ?_
    refine s_y (y_loadA Try.tab rfl rfl rfl rfl (cells_row0 3 rfl rfl)) rfl rfl rfl ?_
    refine s_y (y_move rfl) rfl rfl rfl ?_
    refine s_y (y_move rfl) rfl rfl rfl ?_
    refine s_y (y_loadA Try.tab rfl rfl rfl rfl (cells_row0 2 rfl rfl)) rfl rfl rfl ?_
    refine s_y (y_move rfl) rfl rfl rfl ?_
    refine s_do (do_buildSlice1 Try.tab ⟨rfl, rfl, rfl, rfl⟩ rfl rfl rfl rfl) rfl rfl rfl (fun b129 => ?_)
    refine s_call (en_f rfl Try.call31) (Price_bad W _ _ _ _ _ _ h) rfl rfl rfl (fun _ => ?_)
    refine s_y (y_move rfl) rfl rfl rfl ?_
    refine s_y (y_extract rfl rfl) rfl rfl rfl ?_
    refine s_y (y_extract rfl rfl) rfl rfl rfl ?_
    refine s_y (y_assign rfl) rfl rfl rfl ?_
    refine s_y (y_assign rfl) rfl rfl rfl ?_
    refine s_nil ?_
    refine f_then ?_
    refine c_seq ?_
    refine c_region ?_
    refine s_y (y_move rfl) rfl rfl rfl ?_
    refine s_y (y_move rfl) rfl rfl rfl ?_
    refine s_y (y_move rfl) rfl rfl rfl ?_
    refine s_y (y_move rfl) rfl rfl rfl ?_
    refine s_y (y_move rfl) rfl rfl rfl ?_
    refine s_y (y_move rfl) rfl rfl rfl ?_
    refine s_y (y_move rfl) rfl rfl rfl ?_
    refine s_y (y_move rfl) rfl rfl rfl ?_
    refine s_y (y_move rfl) rfl rfl rfl ?_
    refine s_do (do_buildSlice1 Try.tab ⟨rfl, rfl, rfl, rfl⟩ rfl rfl rfl rfl) rfl rfl rfl (fun b142 => ?_)
    refine s_y (y_assign rfl) rfl rfl rfl ?_
    refine s_nil ?_
    refine f_then ?_
    refine c_seq ?_
    refine c_seq ?_
    refine c_region ?_
    refine s_y (y_move rfl) rfl rfl rfl ?_
    refine s_y (y_len Try.tab rfl rfl) rfl rfl rfl ?_
    refine s_y (y_move rfl) rfl rfl rfl ?_
    refine s_nil ?_
    refine f_then ?_
    refine c_block ?_
    refine SC.cls (C' := K W [[(b142, row 33 [.int .i64 (wrg l s), .int .i64 (wrg l s), .int .i64 (wrg l s), .int .i64 (wrg l s), .int .i64 (wrg l s), .int .i64 (wrg l s), .int .i64 (wrg l s), .int .i64 (wrg l s), .int .i64 (wrg l s)])], [(b129, row 3 [.int .i64 k])], [(b29, row 32 [.int .i64 0, nilS, nilS, nilS])], [(b17, row 37 [.int .i64 0, .int .i64 0])], [(b9, row 26 [.int .i64 c.r, .int .i64 c.s, .int .i64 c.o])], [(b5, row 23 l.v.cells.toList)]]) ?_ (fun w h => h)
    have hE : ∀ i, i < 9 → CellIs (K W [[(b142, row 33 [.int .i64 (wrg l s), .int .i64 (wrg l s), .int .i64 (wrg l s), .int .i64 (wrg l s), .int .i64 (wrg l s), .int .i64 (wrg l s), .int .i64 (wrg l s), .int .i64 (wrg l s), .int .i64 (wrg l s)])], [(b129, row 3 [.int .i64 k])], [(b29, row 32 [.int .i64 0, nilS, nilS, nilS])], [(b17, row 37 [.int .i64 0, .int .i64 0])], [(b9, row 26 [.int .i64 c.r, .int .i64 c.s, .int .i64 c.o])], [(b5, row 23 l.v.cells.toList)]]) ⟨b142, i, none⟩ (.int .i64 (wrg l s)) := fun i hi => match i, hi with
      | 0, _ => cell_row 0 rfl rfl
      | 1, _ => cell_row 0 rfl rfl
      | 2, _ => cell_row 0 rfl rfl
      | 3, _ => cell_row 0 rfl rfl
      | 4, _ => cell_row 0 rfl rfl
      | 5, _ => cell_row 0 rfl rfl
      | 6, _ => cell_row 0 rfl rfl
      | 7, _ => cell_row 0 rfl rfl
      | 8, _ => cell_row 0 rfl rfl
    refine c_loopP (α := Nat) (fun z => [(12, .int .i64 (wrg l s)), (13, .int .i64 0), (15, .int .i64 0), (17, .pointer (some ⟨b17, 0, none⟩)), (19, .int .i64 0), (20, .int .i64 0), (22, .int .i64 0), (24, .int .i64 0), (25, .int .i64 0), (27, .int .i64 0), (29, .pointer (some ⟨b29, 0, none⟩)), (31, .int .i64 0), (143, .slice (some ⟨b142, 0, none⟩) 9 9), (144, .int .i64 9), (145, .int .i64 z)]) (fun z => z ≤ 9)
      (fun _ => K W [[(b142, row 33 [.int .i64 (wrg l s), .int .i64 (wrg l s), .int .i64 (wrg l s), .int .i64 (wrg l s), .int .i64 (wrg l s), .int .i64 (wrg l s), .int .i64 (wrg l s), .int .i64 (wrg l s), .int .i64 (wrg l s)])], [(b129, row 3 [.int .i64 k])], [(b29, row 32 [.int .i64 0, nilS, nilS, nilS])], [(b17, row 37 [.int .i64 0, .int .i64 0])], [(b9, row 26 [.int .i64 c.r, .int .i64 c.s, .int .i64 c.o])], [(b5, row 23 l.v.cells.toList)]]) (fun z => 9 - z) 0 ⟨rfl, rfl, rfl, rfl, rfl, rfl, rfl, rfl, rfl, rfl, rfl, rfl, rfl, rfl, rfl, trivial⟩ (Nat.zero_le _) (fun w h => h) ?_
    rintro i hi
    refine c_seq ?_
    refine c_region ?_
    refine s_y (y_lss rfl rfl) rfl rfl rfl ?_
    refine s_nil ?_
    refine f_then ?_
    refine c_seq ?_
    refine c_condD rfl (fun hlt => ?_) (fun hge => ?_)
    · have q := hE i (by omega)
      refine c_skip ?_
      refine f_then ?_
      refine c_seq ?_
      refine c_block ?_
      refine c_seq ?_
      refine c_region ?_
      refine s_y (y_indexAddr1 Try.tab rfl rfl rfl rfl _ rfl (by omega)) rfl rfl rfl ?_
      refine s_y (y_load Try.tab rfl rfl q) rfl rfl rfl ?_
      refine s_y (y_assign rfl) rfl rfl rfl ?_
      refine s_nil ?_
      refine f_then ?_
      refine c_seq ?_
      refine c_region ?_
      refine s_y (y_move rfl) rfl rfl rfl ?_
      refine s_y (y_move rfl) rfl rfl rfl ?_
      refine s_y (y_F (y_neq rfl rfl) (by omega)) rfl rfl rfl ?_
      refine s_nil ?_
      refine f_then ?_
      refine c_condF rfl ?_
      refine c_skip ?_
      refine f_blockN ?_
      refine f_then ?_
      refine c_region ?_
      refine s_y (y_add rfl rfl (by omega)) rfl rfl rfl ?_
      refine s_y (y_move rfl) rfl rfl rfl ?_
      refine s_nil ?_
      exact f_roundP (i + 1) (by omega) (by omega) ⟨rfl, rfl, rfl, rfl, rfl, rfl, rfl, rfl, rfl, rfl, rfl, rfl, rfl, rfl, rfl, trivial⟩ (fun w h => h)
    · refine c_exit ?_
      refine f_thenE ?_
      refine f_rndE ?_
      refine f_blockE ?_
      refine f_then ?_
      refine c_seq ?_
      refine c_region ?_
      refine s_y (y_move rfl) rfl rfl rfl ?_
      refine s_y (y_T (y_eql rfl rfl) (by omega)) rfl rfl rfl ?_
      refine s_y (y_move rfl) rfl rfl rfl ?_
      refine s_y (y_move rfl) rfl rfl rfl ?_
      refine s_y (y_T (y_eql rfl rfl) (by omega)) rfl rfl rfl ?_
      refine s_y (y_pickT rfl rfl) rfl rfl rfl ?_
      refine s_y (y_move rfl) rfl rfl rfl ?_
      refine s_y (y_loadA Try.tab rfl rfl rfl rfl (cells_row0 3 rfl rfl)) rfl rfl rfl ?_
      refine s_y (y_build Try.tab rfl rfl rfl rfl rfl) rfl rfl rfl ?_
      refine s_y (y_T (y_eqlCell rfl rfl) (by omega)) rfl rfl rfl ?_
      refine s_y (y_pickT rfl rfl) rfl rfl rfl ?_
      refine s_y (y_move rfl) rfl rfl rfl ?_
      refine s_y (y_move rfl) rfl rfl rfl ?_
      refine s_y (y_T (y_eql rfl rfl) (by omega)) rfl rfl rfl ?_
      refine s_y (y_pickT rfl rfl) rfl rfl rfl ?_
      refine s_y (y_move rfl) rfl rfl rfl ?_
      refine s_y (y_move rfl) rfl rfl rfl ?_
      refine s_y (y_T (y_eql rfl rfl) (by omega)) rfl rfl rfl ?_
      refine s_y (y_pickT rfl rfl) rfl rfl rfl ?_
      refine s_y (y_move rfl) rfl rfl rfl ?_
      refine s_y (y_move rfl) rfl rfl rfl ?_
      refine s_y (y_T (y_eql rfl rfl) (by omega)) rfl rfl rfl ?_
      refine s_y (y_pickT rfl rfl) rfl rfl rfl ?_
      refine s_y (y_move rfl) rfl rfl rfl ?_
      refine s_y (y_move rfl) rfl rfl rfl ?_
      refine s_y (y_T (y_eql rfl rfl) (by omega)) rfl rfl rfl ?_
      refine s_y (y_pickT rfl rfl) rfl rfl rfl ?_
      refine s_y (y_move rfl) rfl rfl rfl ?_
      refine s_y (y_move rfl) rfl rfl rfl ?_
      refine s_y (y_T (y_eql rfl rfl) (by omega)) rfl rfl rfl ?_
      refine s_y (y_pickT rfl rfl) rfl rfl rfl ?_
      refine s_y (y_move rfl) rfl rfl rfl ?_
      refine s_y (y_move rfl) rfl rfl rfl ?_
      refine s_y (y_T (y_eql rfl rfl) (by omega)) rfl rfl rfl ?_
      refine s_y (y_pickT rfl rfl) rfl rfl rfl ?_
      refine s_y (y_move rfl) rfl rfl rfl ?_
      refine s_y (y_loadA Try.tab rfl rfl rfl rfl (cells_row0 2 rfl rfl)) rfl rfl rfl ?_
      refine s_y (y_build Try.tab rfl rfl rfl rfl rfl) rfl rfl rfl ?_
      refine s_call (en_f rfl Try.call19) (alike_0 W _) rfl rfl rfl (fun _ => ?_)
      refine s_y (y_pickT rfl rfl) rfl rfl rfl ?_
      refine s_y (y_move rfl) rfl rfl rfl ?_
      refine s_y (y_move rfl) rfl rfl rfl ?_
      refine s_y (y_T (y_eql rfl rfl) (by omega)) rfl rfl rfl ?_
      refine s_y (y_pickT rfl rfl) rfl rfl rfl ?_
      refine s_y (y_move rfl) rfl rfl rfl ?_
      refine s_call (en_f rfl Try.call15) (awake_spec W _) rfl rfl rfl (fun _ => ?_)
      refine s_y (y_pickT rfl rfl) rfl rfl rfl ?_
      refine s_y (y_assign rfl) rfl rfl rfl ?_
      refine s_nil ?_
      refine f_then ?_
      refine c_ret ?_
      exact f_ret () (res1 rfl rfl) (fun w h => h.any)
set_option maxRecDepth 10000 in
set_option maxHeartbeats 40000000 in
theorem sheetErrors_walk (W : World) (l : Lay) (s k : Int) (v : Value) (m : Nat) (g : Nat → Nat → Value) (hV : SlV (K W []) v m 2 g) (c : Cos) : Spec Try.prog 14 #[l.v, .int .i64 s, .int .i64 k, v, c.v] (K W []) (fun _ : Unit => .bool true) (fun _ => K W []) := by
  obtain ⟨pv, cv, rfl, _⟩ := SlV.cells hV
  by_cases hm : m ≤ 600
  rotate_left
  · refine enter (args := [_, _, _, _, _]) Try.func14 rfl Try.ntmps14 rfl ?_
    refine c_seq ?_
    refine c_region ?_
    refine s_do (do_box rfl) rfl rfl rfl (fun b5 => ?_)
    refine s_do (do_box rfl) rfl rfl rfl (fun b9 => ?_)
    refine s_y (y_assign rfl) rfl rfl rfl ?_
    refine s_nil ?_
    refine f_then ?_
    refine c_seq ?_
    refine c_seq ?_
    refine c_region ?_
    refine s_y (y_move rfl) rfl rfl rfl ?_
    refine s_y (y_len Try.tab rfl rfl) rfl rfl rfl ?_
    refine s_y (y_T (y_gtr rfl rfl) (by omega)) rfl rfl rfl ?_
    refine s_nil ?_
    refine f_then ?_
    refine c_condT rfl ?_
    refine c_seq ?_
    refine c_region ?_
    refine s_call (en_f rfl Try.call15) (awake_spec W _) rfl rfl rfl (fun _ => ?_)
    refine s_y (y_assign rfl) rfl rfl rfl ?_
    refine s_nil ?_
    refine f_then ?_
    refine c_ret ?_
    refine f_thenR ?_
    exact f_ret () (res1 rfl rfl) (fun w h => h.any)
  by_cases h : Gd l s
  rotate_left
  · exact sheetErrors_bad W l s k pv m cv c h hm
  have hl := h.1
  have hw : wrg l s = 0 := wrg_0.2 h
  refine enter (args := [_, _, _, _, _]) Try.func14 rfl Try.ntmps14 rfl ?_
  refine c_seq ?_
  refine c_region ?_
  refine s_do (do_box rfl) rfl rfl rfl (fun b5 => ?_)
  refine s_do (do_box rfl) rfl rfl rfl (fun b9 => ?_)
  refine s_y (y_assign rfl) rfl rfl rfl ?_
  refine s_nil ?_
  refine f_then ?_
  refine c_seq ?_
  refine c_seq ?_
  refine c_region ?_
  refine s_y (y_move rfl) rfl rfl rfl ?_
  refine s_y (y_len Try.tab rfl rfl) rfl rfl rfl ?_
  refine s_y (y_F (y_gtr rfl rfl) (by omega)) rfl rfl rfl ?_
  refine s_nil ?_
  refine f_then ?_
  refine c_condF rfl ?_
  refine c_skip ?_
  refine f_then ?_
  refine c_seq ?_
  refine c_region ?_
  refine s_y (y_loadA Try.tab rfl rfl rfl rfl (cells_row0 1 rfl rfl)) rfl rfl rfl ?_
  refine s_call (en_f rfl Try.call40) (check_ok W _ _ hl) rfl rfl rfl (fun _ => ?_)
  refine s_y (y_assign rfl) rfl rfl rfl ?_
  refine s_nil ?_
  refine f_then ?_
  refine c_seq ?_
  refine c_seq ?_
  refine c_region ?_
  refine s_y (y_loadA Try.tab rfl rfl rfl rfl (cells_row0 1 rfl rfl)) rfl rfl rfl ?_
  refine s_call (en_f rfl Try.call41) (valid_ok W _ _ hl) rfl rfl rfl (fun _ => ?_)
  refine s_y (y_notT rfl) rfl rfl rfl ?_
  refine s_y (y_move rfl) rfl rfl rfl ?_
  iterate 2 refine s_skip rfl rfl rfl ?_
  refine s_y (y_pickF rfl rfl) rfl rfl rfl ?_
  refine s_y (y_move rfl) rfl rfl rfl ?_
  refine s_y (y_loadA Try.tab rfl rfl rfl rfl (cells_row0 1 rfl rfl)) rfl rfl rfl ?_
  refine s_call (en_f rfl Try.call41) (valid_ok W _ _ hl) rfl rfl rfl (fun _ => ?_)
  refine s_y (y_move rfl) rfl rfl rfl ?_
  refine s_y (y_move rfl) rfl rfl rfl ?_
  refine s_y (y_F (y_neq rfl rfl) (by omega)) rfl rfl rfl ?_
  refine s_y (y_pickT rfl rfl) rfl rfl rfl ?_
  refine s_y (y_pickF rfl rfl) rfl rfl rfl ?_
  refine s_nil ?_
  refine f_then ?_
  refine c_condF rfl ?_
  refine c_skip ?_
  refine f_then ?_
  refine c_seq ?_
  refine c_region ?_
  refine s_y (y_loadA Try.tab rfl rfl rfl rfl (cells_row0 1 rfl rfl)) rfl rfl rfl ?_
  refine s_y (y_move rfl) rfl rfl rfl ?_
  refine s_call (en_f rfl Try.call23) (wrong_0 W _ _ _ h) rfl rfl rfl (fun _ => ?_)
  refine s_y (y_assign rfl) rfl rfl rfl ?_
  refine s_nil ?_
  refine f_then ?_
  refine c_seq ?_
  refine c_seq ?_
  refine c_region ?_
  refine s_y (y_move rfl) rfl rfl rfl ?_
  refine s_y (y_T (y_eql rfl rfl) (by omega)) rfl rfl rfl ?_
  refine s_nil ?_
  refine f_then ?_
  refine c_condT rfl ?_
  refine c_seq ?_
  refine c_region ?_
  refine s_call (en_f rfl Try.call15) (awake_spec W _) rfl rfl rfl (fun _ => ?_)
  refine s_y (y_assign rfl) rfl rfl rfl ?_
  refine s_nil ?_
  refine f_then ?_
  refine c_ret ?_
  refine f_thenR ?_
  exact f_ret () (res1 rfl rfl) (fun w h => h.any)
end Go.KL
end

section
/- SheetErrors: for every input the law returns true, and its arguments read as they did. No condition. -/
namespace Go.Proofs.Ytelpaildbpdppaa
open Go.ChangeShapes Go.WideShapes Go.RowKit Go.KL
set_option linter.unusedVariables false
theorem own : ownKnob Try.prog.godebug = none := by kernel_rfl
set_option maxRecDepth 100000 in
theorem sheetErrors_lifted (os : Os) (started : os.Started) (H : Type) (enc : TypeId × Value → H) :
    ReturnsInHanded {} Try.checked os 14 .any (Rows.sheetErrorsSpec.pre6 enc Try.prog Try.f14 Rows.sheetErrorsRow.domain false) (Rows.sheetErrorsSpec.post enc Try.prog Try.f14 false true false false) := by
  refine returnsInHanded_of_change (C := Try.checked) own started (by kernel_rfl) Try.func14
    (ChangeSpec.witness6 (enc := enc) (C := Try.checked) false ⟨#[], #[.agg #[.int .i64 0, .int .i64 0, .int .i64 0, .int .i64 0, .bool false], .int .i64 0, .int .i64 0, .slice none 0 0, .agg #[.int .i64 0, .int .i64 0, .int .i64 0]], []⟩ 8 (by kernel_rfl) (by kernel_rfl) (by kernel_rfl) (by kernel_rfl)) ?_
  intro W base args ds gs before hval hW hcnd _
  obtain ⟨p, q, hA, hV, rfl, hfz, hnd⟩ := id hW
  obtain ⟨rfl, rfl⟩ := trodVars_none hV
  obtain ⟨v0, vs0, d0, ds0, p0, q0, e0, rfl, rfl, h0, r0⟩ := trodAll_cons hA
  obtain ⟨v1, vs1, d1, ds1, p1, q1, rfl, rfl, rfl, h1, r1⟩ := trodAll_cons r0
  obtain ⟨v2, vs2, d2, ds2, p2, q2, rfl, rfl, rfl, h2, r2⟩ := trodAll_cons r1
  obtain ⟨v3, vs3, d3, ds3, p3, q3, rfl, rfl, rfl, h3, r3⟩ := trodAll_cons r2
  obtain ⟨v4, vs4, d4, ds4, p4, q4, rfl, rfl, rfl, h4, r4⟩ := trodAll_cons r3
  obtain ⟨rfl, rfl, rfl⟩ := trodAll_nil r4
  obtain rfl : args = #[v0, v1, v2, v3, v4] := by cases args; simp_all
  obtain ⟨l0, rfl, hr0, hc0, hm0, hb0⟩ := arg23 (hval 0 23 _ rfl rfl) h0
  obtain ⟨k1, rfl, hk1⟩ := arg3 (hval 1 3 _ rfl rfl) h1
  obtain ⟨k2, rfl, hk2⟩ := arg3 (hval 2 3 _ rfl rfl) h2
  obtain ⟨m3, g3, hV3, hm3, hg3⟩ := arg24 (hval 3 24 _ rfl rfl) h3
  obtain ⟨c4, rfl, x4, y4, z4⟩ := arg26 (hval 4 26 _ rfl rfl) h4
  refine ((sheetErrors_walk W l0 k1 k2 _ m3 _ hV3 c4) W (K.refl W)).mono ?_
  rintro e W' ⟨x, rfl, hk⟩
  exact ⟨_, rfl, law_post (t := 4) laidOut (by decide +kernel) rfl rfl u4 hW rfl hk.toExt⟩
/-- The statement. -/
theorem sheetErrors_holds : Rows.SheetErrorsSaid :=
  OpenClaim.holds_of_wide 14 Try.f14 rfl rfl rfl rfl rfl rfl rfl ⟨rfl, rfl, rfl, rfl, rfl⟩ rfl rfl rfl rfl rfl (by kernel_rfl) Try.func14 (by kernel_rfl)
    (of_decide_eq_true (by kernel_rfl)) (by unfold Func.isWrapper; first | (rw [if_pos (by decide +kernel)]; kernel_rfl) | (rw [if_neg (by decide +kernel)]; exact ⟨rfl, rfl⟩))
    (fun os started H enc _ => sheetErrors_lifted os started H enc)
end Go.Proofs.Ytelpaildbpdppaa
end
