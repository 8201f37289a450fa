/- The library of the proof, part 5: a program logic over the model, walks of functions, plain laws. -/
import Derived.Test.YtalmnckijegplaaL4
section
/- Walks: the reference's BundleOf, Repaired. -/
namespace Go.KL
open Go.Proofs
attribute [local irreducible] SC St Fin Sq Sw Ylds Doos Sets Enters Spec CellIs CellsAre Then Ret Rnd Chn resOK ints bools recs arr
set_option maxRecDepth 10000 in
set_option maxHeartbeats 8000000 in
theorem rbun_spec (W : World) (Ls : List Chunk) (l : Lay) (s : Int) (x : Int × Int) (h : Gd l s) (hc : CellIn l s x.1 x.2) : Spec Try.prog 42 #[l.v, .int .i64 s, .agg #[.int .i64 x.1, .int .i64 x.2]] (K W Ls) (fun _ : Unit => .int .i64 (bunC l s x)) (fun _ => K W Ls) := by
  have hm := h.1.m; have h4 := h.2; have h5 := h.1.r; have h6 := h.1.c; have hb := h.1.b
  have hp := np_bd h.1
  have hx1 := hc.1; have hx2 := hc.2
  have r1 := rF_bd l x.1 hm.1 hc.1.1
  have hd : rD l s (rF l x.1) = min l.m (s - rF l x.1) := rfl
  have hk := div_bd (a := rF l x.1) (b := l.m) (by omega) hm.1
  have q1 := mul_bd (a := rF l x.1 / l.m) (b := l.r) (A := 1048576) (B := 16) (by omega) (by omega)
  have q2 := mul_bd (a := rF l x.1 / l.m * l.r) (b := l.c) (A := 1048576 * 16) (B := 16) (by omega) (by omega)
  have p1 := perS_bd (d := l.m) (b := l.b) (by omega) (by omega)
  have p2 := perS_bd (d := rD l s (rF l x.1)) (b := l.b) (by omega) (by omega)
  have q3 := mul_bd (a := rF l x.1 / l.m * l.r * l.c) (b := (l.m + l.b - 1) / l.b) (A := 1048576 * 16 * 16) (B := 10000) (by omega) (by omega)
  have q4 := mul_bd (a := x.2) (b := (rD l s (rF l x.1) + l.b - 1) / l.b) (A := 256) (B := 10000) (by omega) (by omega)
  have hbc := bunC_of h hc
  refine enter (args := [_, _, _]) Try.func42 rfl Try.ntmps42 rfl ?_
  cases hld : l.d with
  | true =>
    rw [hld, if_pos rfl] at hbc
    have q5 := div_bd (a := rD l s (rF l x.1) - 1 - (x.1 - rF l x.1)) (b := l.b) (by omega) hb.1
    rw [hbc]
    refine c_seq ?_
    refine c_region ?_
    refine s_do (do_box rfl) rfl rfl rfl (fun b3 => ?_)
    refine s_do (do_box rfl) rfl rfl rfl (fun b5 => ?_)
    refine s_y (y_assign rfl) rfl rfl rfl ?_
    refine s_nil ?_
    refine f_then ?_
    refine c_seq ?_
    refine c_region ?_
    refine s_y (y_loadA Try.tab rfl rfl rfl rfl (cells_row0 1 rfl rfl)) rfl rfl rfl ?_
    refine s_y (y_move rfl) rfl rfl rfl ?_
    refine s_y (y_fieldAddr0 Try.tab rfl rfl rfl rfl rfl) rfl rfl rfl ?_
    refine s_y (y_load Try.tab rfl rfl (cell_row 0 rfl rfl)) rfl rfl rfl ?_
    refine s_call (en_f rfl Try.call30) (depth_spec W _ _ _ _ h.1 h.2 (by omega)) rfl rfl rfl (fun _ => ?_)
    refine s_y (y_move rfl) rfl rfl rfl ?_
    refine s_y (y_extract rfl rfl) rfl rfl rfl ?_
    refine s_y (y_extract rfl rfl) rfl rfl rfl ?_
    refine s_y (y_assign rfl) rfl rfl rfl ?_
    refine s_y (y_assign rfl) rfl rfl rfl ?_
    refine s_nil ?_
    refine f_then ?_
    refine c_seq ?_
    refine c_region ?_
    refine s_y (y_fieldAddr0 Try.tab rfl rfl rfl rfl rfl) rfl rfl rfl ?_
    refine s_y (y_load Try.tab rfl rfl (cell_row 0 rfl rfl)) rfl rfl rfl ?_
    refine s_y (y_move rfl) rfl rfl rfl ?_
    refine s_y (y_sub rfl rfl (by omega)) rfl rfl rfl ?_
    refine s_y (y_assign rfl) rfl rfl rfl ?_
    refine s_nil ?_
    refine f_then ?_
    refine c_seq ?_
    refine c_seq ?_
    refine c_region ?_
    refine s_y (y_fieldAddrB Try.tab 4 rfl rfl rfl rfl rfl) rfl rfl rfl ?_
    refine s_y (y_load Try.tab rfl rfl (cell_row 1 rfl rfl)) rfl rfl rfl ?_
    refine s_nil ?_
    refine f_then ?_
    rw [hld]
    refine c_condT rfl ?_
    refine c_region ?_
    refine s_y (y_move rfl) rfl rfl rfl ?_
    refine s_y (y_sub rfl rfl (by omega)) rfl rfl rfl ?_
    refine s_y (y_move rfl) rfl rfl rfl ?_
    refine s_y (y_sub rfl rfl (by omega)) rfl rfl rfl ?_
    refine s_y (y_assign rfl) rfl rfl rfl ?_
    refine s_nil ?_
    refine f_then ?_
    refine c_seq ?_
    refine c_quiet Try.mixed (by kernel_rfl) K.drew ?_
    refine q_y (y_move rfl) rfl rfl rfl ?_
    refine q_y (y_fieldAddrB Try.tab 2 rfl rfl rfl rfl rfl) rfl rfl rfl ?_
    refine q_y (y_load Try.tab rfl rfl (cell_row 1 rfl rfl)) rfl rfl rfl ?_
    refine q_y (y_quo rfl rfl (by omega)) rfl rfl rfl ?_
    refine q_y (y_fieldAddr0 Try.tab rfl rfl rfl rfl rfl) rfl rfl rfl ?_
    refine q_y (y_load Try.tab rfl rfl (cell_row 1 rfl rfl)) rfl rfl rfl ?_
    refine q_y (y_mul rfl rfl (by omega)) rfl rfl rfl ?_
    refine q_y (y_fieldAddrB Try.tab 1 rfl rfl rfl rfl rfl) rfl rfl rfl ?_
    refine q_y (y_load Try.tab rfl rfl (cell_row 1 rfl rfl)) rfl rfl rfl ?_
    refine q_y (y_mul rfl rfl (by omega)) rfl rfl rfl ?_
    refine q_y (y_fieldAddrB Try.tab 2 rfl rfl rfl rfl rfl) rfl rfl rfl ?_
    refine q_y (y_load Try.tab rfl rfl (cell_row 1 rfl rfl)) rfl rfl rfl ?_
    refine q_y (y_fieldAddrB Try.tab 3 rfl rfl rfl rfl rfl) rfl rfl rfl ?_
    refine q_y (y_load Try.tab rfl rfl (cell_row 1 rfl rfl)) rfl rfl rfl ?_
    refine q_call (en_f rfl Try.call64) (up_spec W _ _ _ (by omega) (by omega)) rfl rfl rfl ?_
    refine q_y (y_mul rfl rfl (by omega)) rfl rfl rfl ?_
    refine q_y (y_fieldAddrB Try.tab 1 rfl rfl rfl rfl rfl) rfl rfl rfl ?_
    refine q_y (y_load Try.tab rfl rfl (cell_row 0 rfl rfl)) rfl rfl rfl ?_
    refine q_y (y_move rfl) rfl rfl rfl ?_
    refine q_y (y_fieldAddrB Try.tab 3 rfl rfl rfl rfl rfl) rfl rfl rfl ?_
    refine q_y (y_load Try.tab rfl rfl (cell_row 1 rfl rfl)) rfl rfl rfl ?_
    refine q_call (en_f rfl Try.call64) (up_spec W _ _ _ (by omega) (by omega)) rfl rfl rfl ?_
    refine q_y (y_mul rfl rfl (by omega)) rfl rfl rfl ?_
    refine q_y (y_add rfl rfl (by omega)) rfl rfl rfl ?_
    refine q_y (y_move rfl) rfl rfl rfl ?_
    refine q_y (y_fieldAddrB Try.tab 3 rfl rfl rfl rfl rfl) rfl rfl rfl ?_
    refine q_y (y_load Try.tab rfl rfl (cell_row 1 rfl rfl)) rfl rfl rfl ?_
    refine q_y (y_quo rfl rfl (by omega)) rfl rfl rfl ?_
    refine q_y (y_add rfl rfl (by omega)) rfl rfl rfl ?_
    refine q_y (y_assign rfl) rfl rfl rfl ?_
    refine q_nil ?_
    refine f_then ?_
    refine c_ret ?_
    exact f_ret () (res1 rfl rfl) (fun w h => h.tail.tail)
  | false =>
    rw [hld, if_neg (by decide)] at hbc
    have q5 := div_bd (a := x.1 - rF l x.1) (b := l.b) (by omega) hb.1
    rw [hbc]
    refine c_seq ?_
    refine c_region ?_
    refine s_do (do_box rfl) rfl rfl rfl (fun b3 => ?_)
    refine s_do (do_box rfl) rfl rfl rfl (fun b5 => ?_)
    refine s_y (y_assign rfl) rfl rfl rfl ?_
    refine s_nil ?_
    refine f_then ?_
    refine c_seq ?_
    refine c_region ?_
    refine s_y (y_loadA Try.tab rfl rfl rfl rfl (cells_row0 1 rfl rfl)) rfl rfl rfl ?_
    refine s_y (y_move rfl) rfl rfl rfl ?_
    refine s_y (y_fieldAddr0 Try.tab rfl rfl rfl rfl rfl) rfl rfl rfl ?_
    refine s_y (y_load Try.tab rfl rfl (cell_row 0 rfl rfl)) rfl rfl rfl ?_
    refine s_call (en_f rfl Try.call30) (depth_spec W _ _ _ _ h.1 h.2 (by omega)) rfl rfl rfl (fun _ => ?_)
    refine s_y (y_move rfl) rfl rfl rfl ?_
    refine s_y (y_extract rfl rfl) rfl rfl rfl ?_
    refine s_y (y_extract rfl rfl) rfl rfl rfl ?_
    refine s_y (y_assign rfl) rfl rfl rfl ?_
    refine s_y (y_assign rfl) rfl rfl rfl ?_
    refine s_nil ?_
    refine f_then ?_
    refine c_seq ?_
    refine c_region ?_
    refine s_y (y_fieldAddr0 Try.tab rfl rfl rfl rfl rfl) rfl rfl rfl ?_
    refine s_y (y_load Try.tab rfl rfl (cell_row 0 rfl rfl)) rfl rfl rfl ?_
    refine s_y (y_move rfl) rfl rfl rfl ?_
    refine s_y (y_sub rfl rfl (by omega)) rfl rfl rfl ?_
    refine s_y (y_assign rfl) rfl rfl rfl ?_
    refine s_nil ?_
    refine f_then ?_
    refine c_seq ?_
    refine c_seq ?_
    refine c_region ?_
    refine s_y (y_fieldAddrB Try.tab 4 rfl rfl rfl rfl rfl) rfl rfl rfl ?_
    refine s_y (y_load Try.tab rfl rfl (cell_row 1 rfl rfl)) rfl rfl rfl ?_
    refine s_nil ?_
    refine f_then ?_
    rw [hld]
    refine c_condF rfl ?_
    refine c_skip ?_
    refine f_then ?_
    refine c_seq ?_
    refine c_quiet Try.mixed (by kernel_rfl) K.drew ?_
    refine q_y (y_move rfl) rfl rfl rfl ?_
    refine q_y (y_fieldAddrB Try.tab 2 rfl rfl rfl rfl rfl) rfl rfl rfl ?_
    refine q_y (y_load Try.tab rfl rfl (cell_row 1 rfl rfl)) rfl rfl rfl ?_
    refine q_y (y_quo rfl rfl (by omega)) rfl rfl rfl ?_
    refine q_y (y_fieldAddr0 Try.tab rfl rfl rfl rfl rfl) rfl rfl rfl ?_
    refine q_y (y_load Try.tab rfl rfl (cell_row 1 rfl rfl)) rfl rfl rfl ?_
    refine q_y (y_mul rfl rfl (by omega)) rfl rfl rfl ?_
    refine q_y (y_fieldAddrB Try.tab 1 rfl rfl rfl rfl rfl) rfl rfl rfl ?_
    refine q_y (y_load Try.tab rfl rfl (cell_row 1 rfl rfl)) rfl rfl rfl ?_
    refine q_y (y_mul rfl rfl (by omega)) rfl rfl rfl ?_
    refine q_y (y_fieldAddrB Try.tab 2 rfl rfl rfl rfl rfl) rfl rfl rfl ?_
    refine q_y (y_load Try.tab rfl rfl (cell_row 1 rfl rfl)) rfl rfl rfl ?_
    refine q_y (y_fieldAddrB Try.tab 3 rfl rfl rfl rfl rfl) rfl rfl rfl ?_
    refine q_y (y_load Try.tab rfl rfl (cell_row 1 rfl rfl)) rfl rfl rfl ?_
    refine q_call (en_f rfl Try.call64) (up_spec W _ _ _ (by omega) (by omega)) rfl rfl rfl ?_
    refine q_y (y_mul rfl rfl (by omega)) rfl rfl rfl ?_
    refine q_y (y_fieldAddrB Try.tab 1 rfl rfl rfl rfl rfl) rfl rfl rfl ?_
    refine q_y (y_load Try.tab rfl rfl (cell_row 0 rfl rfl)) rfl rfl rfl ?_
    refine q_y (y_move rfl) rfl rfl rfl ?_
    refine q_y (y_fieldAddrB Try.tab 3 rfl rfl rfl rfl rfl) rfl rfl rfl ?_
    refine q_y (y_load Try.tab rfl rfl (cell_row 1 rfl rfl)) rfl rfl rfl ?_
    refine q_call (en_f rfl Try.call64) (up_spec W _ _ _ (by omega) (by omega)) rfl rfl rfl ?_
    refine q_y (y_mul rfl rfl (by omega)) rfl rfl rfl ?_
    refine q_y (y_add rfl rfl (by omega)) rfl rfl rfl ?_
    refine q_y (y_move rfl) rfl rfl rfl ?_
    refine q_y (y_fieldAddrB Try.tab 3 rfl rfl rfl rfl rfl) rfl rfl rfl ?_
    refine q_y (y_load Try.tab rfl rfl (cell_row 1 rfl rfl)) rfl rfl rfl ?_
    refine q_y (y_quo rfl rfl (by omega)) rfl rfl rfl ?_
    refine q_y (y_add rfl rfl (by omega)) rfl rfl rfl ?_
    refine q_y (y_assign rfl) rfl rfl rfl ?_
    refine q_nil ?_
    refine f_then ?_
    refine c_ret ?_
    exact f_ret () (res1 rfl rfl) (fun w h => h.tail.tail)
/-- The cells that are not printed again. -/
def restC (R : List Int) (cs : List (Int × Int)) : List (Int × Int) := cs.filter fun x => decide (x.1 ∉ R)
def costF (l : Lay) (s : Int) (c : Cos) (cs : List (Int × Int)) (R : List Int) : Int := c.r * R.length + c.s * (asc (notC l s) (restC R cs)).length + c.o * (asc (bunC l s) (restC R cs)).length
theorem restC_snoc (R : List Int) (cs : List (Int × Int)) (x : Int × Int) : restC R (cs ++ [x]) = if x.1 ∈ R then restC R cs else restC R cs ++ [x] := by
  unfold restC
  rw [List.filter_append]
  by_cases h : x.1 ∈ R
  · rw [if_pos h, List.filter_cons_of_neg (by simpa using h), List.filter_nil, List.append_nil]
  · rw [if_neg h, List.filter_cons_of_pos (by simpa using h), List.filter_nil]
theorem restC_len (R : List Int) (cs : List (Int × Int)) : (restC R cs).length ≤ cs.length := List.length_filter_le _ _
theorem in_yes (W : World) (Ls : List Chunk) (v : Value) (xs : List Int) (n : Int) (hv : IL (K W Ls) v xs) (hl : xs.length ≤ 1000000) (h : n ∈ xs) : Spec Try.prog 35 #[v, .int .i64 n] (K W Ls) (fun _ : Unit => .bool true) (fun _ => K W Ls) := by
  have := in_spec W Ls v xs n hv hl
  rwa [decide_eq_true h] at this
theorem in_no (W : World) (Ls : List Chunk) (v : Value) (xs : List Int) (n : Int) (hv : IL (K W Ls) v xs) (hl : xs.length ≤ 1000000) (h : n ∉ xs) : Spec Try.prog 35 #[v, .int .i64 n] (K W Ls) (fun _ : Unit => .bool false) (fun _ => K W Ls) := by
  have := in_spec W Ls v xs n hv hl
  rwa [decide_eq_false h] at this
set_option maxRecDepth 10000 in
set_option maxHeartbeats 16000000 in
theorem repaired_spec (W : World) (Ls : List Chunk) (l : Lay) (s : Int) (v Rv : Value) (cs : List (Int × Int)) (c : Cos) (R : List Int) (h : Gd l s) (hin : ∀ x ∈ cs, CellIn l s x.1 x.2) (hcst : c.OK)
    (hv : CL (K W Ls) v cs) (hR : IL (K W Ls) Rv R) (hl : cs.length ≤ 100000) (hRl : R.length ≤ 1000000) :
    Spec Try.prog 33 #[l.v, .int .i64 s, v, c.v, Rv] (K W Ls)
      (X := { x : Option Own × Option Own // owfO 1 x.1 (asc (notC l s) (restC R cs)).length (ivals (asc (notC l s) (restC R cs))) ∧ owfO 1 x.2 (asc (bunC l s) (restC R cs)).length (ivals (asc (bunC l s) (restC R cs))) })
      (fun x => .agg #[.int .i64 (costF l s c cs R), Rv, ov x.1.1 (asc (notC l s) (restC R cs)).length, ov x.1.2 (asc (bunC l s) (restC R cs)).length])
      (fun x => K W (oc 3 x.1.1 (ivals (asc (notC l s) (restC R cs))) :: oc 3 x.1.2 (ivals (asc (bunC l s) (restC R cs))) :: Ls)) := by
  obtain ⟨pa, ca, rfl, hca, hcs⟩ := hv.open
  obtain ⟨pr, cr, rfl, hcr, hrs⟩ := hR.open
  have g1 := hcst.r; have g2 := hcst.s; have g3 := hcst.o
  have hp := np_bd h.1
  refine enter (args := [_, _, _, _, _]) Try.func33 rfl Try.ntmps33 rfl ?_
  refine c_seq ?_
  refine c_region ?_
  refine s_do (do_box rfl) rfl rfl rfl (fun b5 => ?_)
  refine s_do (do_box rfl) rfl rfl rfl (fun b8 => ?_)
  refine s_do (do_alloc Try.tab rfl) rfl rfl rfl (fun b10 => ?_)
  refine s_nil ?_
  refine f_then ?_
  refine c_seq ?_
  refine c_region ?_
  refine s_y (y_move rfl) rfl rfl rfl ?_
  refine s_y (y_build Try.tab rfl rfl rfl rfl rfl) rfl rfl rfl ?_
  refine s_do (do_alloc Try.tab rfl) rfl rfl rfl (fun b11 => ?_)
  refine s_set (set_box Try.tab 0 rfl rfl rfl rfl rfl rfl rfl) rfl rfl ?_
  refine s_nil ?_
  refine f_then ?_
  refine c_seq ?_
  refine c_seq ?_
  refine c_region ?_
  refine s_y (y_assign rfl) rfl rfl rfl ?_
  refine s_nil ?_
  refine f_then ?_
  refine c_block ?_
  refine c_loopP (α := Nat × Option Own × Option Own) (fun z => [(1, .int .i64 s), (2, .slice pa cs.length ca), (4, .slice pr R.length cr), (5, .pointer (some ⟨b5, 0, none⟩)), (8, .pointer (some ⟨b8, 0, none⟩)), (10, .pointer (some ⟨b10, 0, none⟩)), (11, .pointer (some ⟨b11, 0, none⟩)), (12, .int .i64 z.1)])
    (fun z => z.1 ≤ cs.length ∧ owfO 1 z.2.1 (asc (notC l s) (restC R (cs.take z.1))).length (ivals (asc (notC l s) (restC R (cs.take z.1)))) ∧ owfO 1 z.2.2 (asc (bunC l s) (restC R (cs.take z.1))).length (ivals (asc (bunC l s) (restC R (cs.take z.1)))))
    (fun z => K W (oc 3 z.2.1 (ivals (asc (notC l s) (restC R (cs.take z.1)))) :: oc 3 z.2.2 (ivals (asc (bunC l s) (restC R (cs.take z.1)))) :: [(b11, row 32 [.int .i64 0, .slice pr R.length cr, ov z.2.1 (asc (notC l s) (restC R (cs.take z.1))).length, ov z.2.2 (asc (bunC l s) (restC R (cs.take z.1))).length])] :: [(b10, row 32 [.int .i64 0, nilS, nilS, nilS])] :: [(b8, row 26 [.int .i64 c.r, .int .i64 c.s, .int .i64 c.o])] :: [(b5, row 23 l.v.cells.toList)] :: Ls)) (fun z => cs.length - z.1) (0, none, none)
    ⟨rfl, rfl, rfl, rfl, rfl, rfl, rfl, rfl, trivial⟩ ⟨Nat.zero_le _, ⟨rfl, rfl⟩, rfl, rfl⟩ (fun w h => h.addNil.addNil) ?_
  rintro ⟨i, o1, o2⟩ ⟨hi, ho1, ho2⟩
  dsimp only at hi ho1 ho2 ⊢
  refine c_seq ?_
  refine c_seq ?_
  refine c_region ?_
  refine s_y (y_move rfl) rfl rfl rfl ?_
  refine s_y (y_move rfl) rfl rfl rfl ?_
  refine s_y (y_len Try.tab rfl rfl) rfl rfl rfl ?_
  refine s_y (y_lss rfl rfl) rfl rfl rfl ?_
  refine s_nil ?_
  refine f_then ?_
  refine c_condD rfl (fun hlt => ?_) (fun hge => ?_)
  rotate_left
  · rw [show i = cs.length by omega, List.take_length] at ho1 ho2 ⊢
    have n1 := Nat.le_trans (asc_len (notC l s) (restC R cs)) (restC_len R cs)
    have n2 := Nat.le_trans (asc_len (bunC l s) (restC R cs)) (restC_len R cs)
    have hcd : costF l s c cs R = c.r * R.length + c.s * (asc (notC l s) (restC R cs)).length + c.o * (asc (bunC l s) (restC R cs)).length := rfl
    generalize asc (notC l s) (restC R cs) = S at *
    generalize asc (bunC l s) (restC R cs) = O at *
    have m1 := mul_bd (a := c.r) (b := R.length) (A := 1048576) (B := 1000000) (by omega) (by omega)
    have m2 := mul_bd (a := c.s) (b := S.length) (A := 1048576) (B := 100000) (by omega) (by omega)
    have m3 := mul_bd (a := c.o) (b := O.length) (A := 1048576) (B := 100000) (by omega) (by omega)
    rw [hcd]
    refine c_exit ?_
    refine f_thenE ?_
    refine f_rndE ?_
    refine f_blockE ?_
    refine f_then ?_
    refine c_seq ?_
    refine c_region ?_
    refine s_y (y_fieldAddr0 Try.tab rfl rfl rfl rfl rfl) rfl rfl rfl ?_
    refine s_y (y_load Try.tab rfl rfl (cell_row 4 rfl rfl)) rfl rfl rfl ?_
    refine s_y (y_move rfl) rfl rfl rfl ?_
    refine s_y (y_len Try.tab rfl rfl) rfl rfl rfl ?_
    refine s_y (y_mul rfl rfl (by omega)) rfl rfl rfl ?_
    refine s_y (y_fieldAddrB Try.tab 1 rfl rfl rfl rfl rfl) rfl rfl rfl ?_
    refine s_y (y_load Try.tab rfl rfl (cell_row 4 rfl rfl)) rfl rfl rfl ?_
    refine s_y (y_fieldAddrB Try.tab 2 rfl rfl rfl rfl rfl) rfl rfl rfl ?_
    refine s_y (y_load Try.tab rfl rfl (cell_row 2 rfl rfl)) rfl rfl rfl ?_
    refine s_y (y_lenO Try.tab rfl (by assumption) rfl) rfl rfl rfl ?_
    refine s_y (y_mul rfl rfl (by omega)) rfl rfl rfl ?_
    refine s_y (y_add rfl rfl (by omega)) rfl rfl rfl ?_
    refine s_y (y_fieldAddrB Try.tab 2 rfl rfl rfl rfl rfl) rfl rfl rfl ?_
    refine s_y (y_load Try.tab rfl rfl (cell_row 4 rfl rfl)) rfl rfl rfl ?_
    refine s_y (y_fieldAddrB Try.tab 3 rfl rfl rfl rfl rfl) rfl rfl rfl ?_
    refine s_y (y_load Try.tab rfl rfl (cell_row 2 rfl rfl)) rfl rfl rfl ?_
    refine s_y (y_lenO Try.tab rfl (by assumption) rfl) rfl rfl rfl ?_
    refine s_y (y_mul rfl rfl (by omega)) rfl rfl rfl ?_
    refine s_y (y_add rfl rfl (by omega)) rfl rfl rfl ?_
    refine s_y (y_fieldAddr0 Try.tab rfl rfl rfl rfl rfl) rfl rfl rfl ?_
    refine s_set (set_rowB Try.tab 2 rfl rfl rfl rfl rfl rfl) rfl rfl ?_
    refine s_nil ?_
    refine f_then ?_
    refine c_seq ?_
    refine c_region ?_
    refine s_y (y_loadA Try.tab rfl rfl rfl rfl (cells_row0 2 rfl rfl)) rfl rfl rfl ?_
    refine s_set (set_box Try.tab 3 rfl rfl (by cases o1 <;> cases o2 <;> rfl) rfl rfl rfl rfl) rfl rfl ?_
    refine s_nil ?_
    refine f_then ?_
    refine c_ret ?_
    exact f_ret (X := { x : Option Own × Option Own // owfO 1 x.1 S.length (ivals S) ∧ owfO 1 x.2 O.length (ivals O) }) ⟨(o1, o2), ho1, ho2⟩ (resA Try.tab rfl rfl rfl rfl rfl (cells_row0 3 rfl rfl)) (fun w h => (((h.dropAt 2).dropAt 2).dropAt 2).dropAt 2)
  obtain ⟨b, q, rfl, hcell⟩ := hcs (by omega)
  have hcx := hcell i (by omega)
  have hmx : cs.getD i (0, 0) ∈ cs := by rw [List.getD_eq_getElem?_getD, List.getElem?_eq_getElem (by omega)]; exact List.getElem_mem _
  have hci := hin _ hmx
  have hsn := restC_snoc R (cs.take i) (cs.getD i (0, 0))
  rw [← take_snoc cs i (0, 0) (by omega)] at hsn
  have n1 := Nat.le_trans (asc_len (notC l s) (restC R (cs.take i))) (restC_len R (cs.take i))
  have n2 := Nat.le_trans (asc_len (bunC l s) (restC R (cs.take i))) (restC_len R (cs.take i))
  rw [List.length_take] at n1 n2
  by_cases hmem : (cs.getD i (0, 0)).1 ∈ R
  · rw [if_pos hmem] at hsn
    have hRc : IL (K W (oc 3 o1 (ivals (asc (notC l s) (restC R (cs.take i)))) :: oc 3 o2 (ivals (asc (bunC l s) (restC R (cs.take i)))) :: [(b11, row 32 [.int .i64 0, .slice pr R.length cr, ov o1 (asc (notC l s) (restC R (cs.take i))).length, ov o2 (asc (bunC l s) (restC R (cs.take i))).length])] :: [(b10, row 32 [.int .i64 0, nilS, nilS, nilS])] :: [(b8, row 26 [.int .i64 c.r, .int .i64 c.s, .int .i64 c.o])] :: [(b5, row 23 l.v.cells.toList)] :: Ls)) (.slice pr R.length cr) R := hR.cls fun w h => h.tail.tail.tail.tail.tail.tail
    have hc1 := hcx.2.cls (C := K W (oc 3 o1 (ivals (asc (notC l s) (restC R (cs.take i)))) :: oc 3 o2 (ivals (asc (bunC l s) (restC R (cs.take i)))) :: [(b11, row 32 [.int .i64 0, .slice pr R.length cr, ov o1 (asc (notC l s) (restC R (cs.take i))).length, ov o2 (asc (bunC l s) (restC R (cs.take i))).length])] :: [(b10, row 32 [.int .i64 0, nilS, nilS, nilS])] :: [(b8, row 26 [.int .i64 c.r, .int .i64 c.s, .int .i64 c.o])] :: [(b5, row 23 l.v.cells.toList)] :: Ls)) fun w h => h.tail.tail.tail.tail.tail.tail
    refine c_skip ?_
    refine f_then ?_
    refine c_seq ?_
    refine c_block ?_
    refine c_seq ?_
    refine c_region ?_
    refine s_y (y_move rfl) rfl rfl rfl ?_
    refine s_y (y_move rfl) rfl rfl rfl ?_
    refine s_y (y_move rfl) rfl rfl rfl ?_
    refine s_y (y_indexAddr (s := 2) Try.tab rfl rfl rfl rfl _ rfl (by omega)) rfl rfl rfl ?_
    refine s_y (y_fieldAddr0 Try.tab rfl rfl rfl rfl rfl) rfl rfl rfl ?_
    refine s_y (y_load Try.tab rfl rfl hc1) rfl rfl rfl ?_
    refine s_call (en_f rfl Try.call35) (in_yes W _ _ _ _ hRc hRl hmem) rfl rfl rfl (fun _ => ?_)
    refine s_y (y_notT rfl) rfl rfl rfl ?_
    refine s_nil ?_
    refine f_then ?_
    refine c_condF rfl ?_
    refine c_skip ?_
    refine f_blockN ?_
    refine f_then ?_
    refine c_region ?_
    refine s_y (y_move rfl) rfl rfl rfl ?_
    refine s_y (y_add rfl rfl (by omega)) rfl rfl rfl ?_
    refine s_y (y_assign rfl) rfl rfl rfl ?_
    refine s_nil ?_
    exact f_roundP (i + 1, o1, o2) ⟨by show i + 1 ≤ _; omega, by rw [hsn]; exact ho1, by rw [hsn]; exact ho2⟩ (by show cs.length - (i + 1) < cs.length - i; omega) ⟨rfl, rfl, rfl, rfl, rfl, rfl, rfl, rfl, trivial⟩ (fun w h => by rw [hsn]; exact h)
  rw [if_neg hmem] at hsn
  have eS : put (notC l s (cs.getD i (0, 0))) (asc (notC l s) (restC R (cs.take i))) = asc (notC l s) (restC R (cs.take (i + 1))) := by rw [hsn, asc_snoc]
  have eO : put (bunC l s (cs.getD i (0, 0))) (asc (bunC l s) (restC R (cs.take i))) = asc (bunC l s) (restC R (cs.take (i + 1))) := by rw [hsn, asc_snoc]
  generalize asc (notC l s) (restC R (cs.take i)) = S at *
  generalize asc (bunC l s) (restC R (cs.take i)) = O at *
  have hRc : IL (K W (oc 3 o1 (ivals S) :: oc 3 o2 (ivals O) :: [(b11, row 32 [.int .i64 0, .slice pr R.length cr, ov o1 S.length, ov o2 O.length])] :: [(b10, row 32 [.int .i64 0, nilS, nilS, nilS])] :: [(b8, row 26 [.int .i64 c.r, .int .i64 c.s, .int .i64 c.o])] :: [(b5, row 23 l.v.cells.toList)] :: Ls)) (.slice pr R.length cr) R := hR.cls fun w h => h.tail.tail.tail.tail.tail.tail
  have hc1 := hcx.2.cls (C := K W (oc 3 o1 (ivals S) :: oc 3 o2 (ivals O) :: [(b11, row 32 [.int .i64 0, .slice pr R.length cr, ov o1 S.length, ov o2 O.length])] :: [(b10, row 32 [.int .i64 0, nilS, nilS, nilS])] :: [(b8, row 26 [.int .i64 c.r, .int .i64 c.s, .int .i64 c.o])] :: [(b5, row 23 l.v.cells.toList)] :: Ls)) fun w h => h.tail.tail.tail.tail.tail.tail
  have hc2 := hcx.1.cls (C := K W (oc 3 o1 (ivals S) :: oc 3 o2 (ivals O) :: [(b11, row 32 [.int .i64 0, .slice pr R.length cr, ov o1 S.length, ov o2 O.length])] :: [(b10, row 32 [.int .i64 0, nilS, nilS, nilS])] :: [(b8, row 26 [.int .i64 c.r, .int .i64 c.s, .int .i64 c.o])] :: [(b5, row 23 l.v.cells.toList)] :: Ls)) fun w h => h.tail.tail.tail.tail.tail.tail
  have hIS : IL (K W (oc 3 o1 (ivals S) :: oc 3 o2 (ivals O) :: [(b11, row 32 [.int .i64 0, .slice pr R.length cr, ov o1 S.length, ov o2 O.length])] :: [(b10, row 32 [.int .i64 0, nilS, nilS, nilS])] :: [(b8, row 26 [.int .i64 c.r, .int .i64 c.s, .int .i64 c.o])] :: [(b5, row 23 l.v.cells.toList)] :: Ls)) (ov o1 S.length) S := IL.oc 0 rfl ho1
  refine c_skip ?_
  refine f_then ?_
  refine c_seq ?_
  refine c_block ?_
  refine c_seq ?_
  refine c_region ?_
  refine s_y (y_move rfl) rfl rfl rfl ?_
  refine s_y (y_move rfl) rfl rfl rfl ?_
  refine s_y (y_move rfl) rfl rfl rfl ?_
  refine s_y (y_indexAddr (s := 2) Try.tab rfl rfl rfl rfl _ rfl (by omega)) rfl rfl rfl ?_
  refine s_y (y_fieldAddr0 Try.tab rfl rfl rfl rfl rfl) rfl rfl rfl ?_
  refine s_y (y_load Try.tab rfl rfl hc1) rfl rfl rfl ?_
  refine s_call (en_f rfl Try.call35) (in_no W _ _ _ _ hRc hRl hmem) rfl rfl rfl (fun _ => ?_)
  refine s_y (y_notF rfl) rfl rfl rfl ?_
  refine s_nil ?_
  refine f_then ?_
  refine c_condT rfl ?_
  refine c_seq ?_
  refine c_plan [.c 0, .c 1, .c 2, .c 3, .c 4, .c 5, .c 6, .c 7, .c 8, .s 9, .c 10, .s 11] [11] ((K W (oc 3 o1 (ivals S) :: oc 3 o2 (ivals O) :: [(b11, row 32 [.int .i64 0, .slice pr R.length cr, ov o1 S.length, ov o2 O.length])] :: [(b10, row 32 [.int .i64 0, nilS, nilS, nilS])] :: [(b8, row 26 [.int .i64 c.r, .int .i64 c.s, .int .i64 c.o])] :: [(b5, row 23 l.v.cells.toList)] :: Ls))) Try.mixed (by kernel_rfl) rfl K.cl ?_
  refine d_c rfl (Qui.ylds (y_fieldAddrB Try.tab 2 rfl rfl rfl rfl rfl)) rfl rfl rfl (fun _ h => h) K.cl ?_
  refine d_c rfl (Qui.ylds (y_load Try.tab rfl rfl (cell_row 2 rfl rfl))) rfl rfl rfl (fun _ h => h) K.cl ?_
  refine d_c rfl (Qui.ylds (y_loadA Try.tab rfl rfl rfl rfl (cells_row0 5 rfl rfl))) rfl rfl rfl (fun _ h => h) K.cl ?_
  refine d_c rfl (Qui.ylds (y_move rfl)) rfl rfl rfl (fun _ h => h) K.cl ?_
  refine d_c rfl (Qui.ylds (y_move rfl)) rfl rfl rfl (fun _ h => h) K.cl ?_
  refine d_c rfl (Qui.ylds (y_move rfl)) rfl rfl rfl (fun _ h => h) K.cl ?_
  refine d_c rfl (Qui.ylds (y_indexAddr (s := 2) Try.tab rfl rfl rfl rfl _ rfl (by omega))) rfl rfl rfl (fun _ h => h) K.cl ?_
  refine d_c rfl (Qui.ylds (y_loadA Try.tab rfl rfl rfl rfl hc2)) rfl rfl rfl (fun _ h => h) K.cl ?_
  refine d_c rfl (Qui.call (en_f rfl Try.call26) (fun w _ => (rnote_spec w [] l s _ _ h.1 h.2 hci).qui)) rfl rfl rfl (fun _ h => h) K.cl ?_
  refine d_call rfl (en_f rfl Try.call32) (put_spec W _ _ S (notC l s (cs.getD i (0, 0))) hIS (by omega)) rfl rfl rfl (fun _ => K.cl) (fun _ _ _ h => h.tail) (fun p1 => ?_)
  obtain ⟨p1, hp1⟩ := p1
  dsimp only
  rw [eS] at hp1 ⊢
  refine d_c rfl (Qui.ylds (y_fieldAddrB Try.tab 2 rfl rfl rfl rfl rfl)) rfl rfl rfl (fun _ h => h.tail) K.cl ?_
  refine d_set rfl (set_rowB Try.tab 3 rfl rfl rfl rfl rfl rfl) rfl rfl K.cl (fun h => by cases h) ?_
  refine d_nil ?_
  refine f_then ?_
  generalize hS' : asc (notC l s) (restC R (cs.take (i + 1))) = S' at *
  refine SC.cls (C' := K W (oc 3 (some p1) (ivals S') :: oc 3 o2 (ivals O) :: [(b11, row 32 [.int .i64 0, .slice pr R.length cr, ov (some p1) S'.length, ov o2 O.length])] :: [(b10, row 32 [.int .i64 0, nilS, nilS, nilS])] :: [(b8, row 26 [.int .i64 c.r, .int .i64 c.s, .int .i64 c.o])] :: [(b5, row 23 l.v.cells.toList)] :: Ls)) ?_ (fun w h => h.dropAt 1)
  have hIO : IL (K W (oc 3 (some p1) (ivals S') :: oc 3 o2 (ivals O) :: [(b11, row 32 [.int .i64 0, .slice pr R.length cr, ov (some p1) S'.length, ov o2 O.length])] :: [(b10, row 32 [.int .i64 0, nilS, nilS, nilS])] :: [(b8, row 26 [.int .i64 c.r, .int .i64 c.s, .int .i64 c.o])] :: [(b5, row 23 l.v.cells.toList)] :: Ls)) (ov o2 O.length) O := IL.oc 1 rfl ho2
  have hc3 := hcx.1.cls (C := K W (oc 3 (some p1) (ivals S') :: oc 3 o2 (ivals O) :: [(b11, row 32 [.int .i64 0, .slice pr R.length cr, ov (some p1) S'.length, ov o2 O.length])] :: [(b10, row 32 [.int .i64 0, nilS, nilS, nilS])] :: [(b8, row 26 [.int .i64 c.r, .int .i64 c.s, .int .i64 c.o])] :: [(b5, row 23 l.v.cells.toList)] :: Ls)) fun w h => h.tail.tail.tail.tail.tail.tail
  refine c_plan [.c 0, .c 1, .c 2, .c 3, .c 4, .c 5, .c 6, .c 7, .c 8, .s 9, .c 10, .s 11] [11] ((K W (oc 3 (some p1) (ivals S') :: oc 3 o2 (ivals O) :: [(b11, row 32 [.int .i64 0, .slice pr R.length cr, ov (some p1) S'.length, ov o2 O.length])] :: [(b10, row 32 [.int .i64 0, nilS, nilS, nilS])] :: [(b8, row 26 [.int .i64 c.r, .int .i64 c.s, .int .i64 c.o])] :: [(b5, row 23 l.v.cells.toList)] :: Ls))) Try.mixed (by kernel_rfl) rfl K.cl ?_
  refine d_c rfl (Qui.ylds (y_fieldAddrB Try.tab 3 rfl rfl rfl rfl rfl)) rfl rfl rfl (fun _ h => h) K.cl ?_
  refine d_c rfl (Qui.ylds (y_load Try.tab rfl rfl (cell_row 2 rfl rfl))) rfl rfl rfl (fun _ h => h) K.cl ?_
  refine d_c rfl (Qui.ylds (y_loadA Try.tab rfl rfl rfl rfl (cells_row0 5 rfl rfl))) rfl rfl rfl (fun _ h => h) K.cl ?_
  refine d_c rfl (Qui.ylds (y_move rfl)) rfl rfl rfl (fun _ h => h) K.cl ?_
  refine d_c rfl (Qui.ylds (y_move rfl)) rfl rfl rfl (fun _ h => h) K.cl ?_
  refine d_c rfl (Qui.ylds (y_move rfl)) rfl rfl rfl (fun _ h => h) K.cl ?_
  refine d_c rfl (Qui.ylds (y_indexAddr (s := 2) Try.tab rfl rfl rfl rfl _ rfl (by omega))) rfl rfl rfl (fun _ h => h) K.cl ?_
  refine d_c rfl (Qui.ylds (y_loadA Try.tab rfl rfl rfl rfl hc3)) rfl rfl rfl (fun _ h => h) K.cl ?_
  refine d_c rfl (Qui.call (en_f rfl Try.call42) (fun w _ => (rbun_spec w [] l s (cs.getD i (0, 0)) h hci).qui)) rfl rfl rfl (fun _ h => h) K.cl ?_
  refine d_call rfl (en_f rfl Try.call32) (put_spec W _ _ O (bunC l s (cs.getD i (0, 0))) hIO (by omega)) rfl rfl rfl (fun _ => K.cl) (fun _ _ _ h => h.tail) (fun p2 => ?_)
  obtain ⟨p2, hp2⟩ := p2
  dsimp only
  rw [eO] at hp2 ⊢
  refine d_c rfl (Qui.ylds (y_fieldAddrB Try.tab 3 rfl rfl rfl rfl rfl)) rfl rfl rfl (fun _ h => h.tail) K.cl ?_
  refine d_set rfl (set_rowB Try.tab 3 rfl rfl rfl rfl rfl rfl) rfl rfl K.cl (fun h => by cases h) ?_
  refine d_nil ?_
  refine f_blockN ?_
  refine f_then ?_
  refine c_region ?_
  refine s_y (y_move rfl) rfl rfl rfl ?_
  refine s_y (y_add rfl rfl (by omega)) rfl rfl rfl ?_
  refine s_y (y_assign rfl) rfl rfl rfl ?_
  refine s_nil ?_
  generalize hO' : asc (bunC l s) (restC R (cs.take (i + 1))) = O' at *
  exact f_roundP (i + 1, some p1, some p2) ⟨by show i + 1 ≤ _; omega, by show owfO 1 (some p1) (asc (notC l s) (restC R (cs.take (i + 1)))).length _; rw [hS']; exact hp1, by show owfO 1 (some p2) (asc (bunC l s) (restC R (cs.take (i + 1)))).length _; rw [hO']; exact hp2⟩ (by show cs.length - (i + 1) < cs.length - i; omega) ⟨rfl, rfl, rfl, rfl, rfl, rfl, rfl, rfl, trivial⟩ (fun w h => by dsimp only; rw [hO', hS']; exact (h.dropAt 2).fronts [1])
end Go.KL
end

section
/- Walks: the reference's Refused. -/
namespace Go.KL
open Go.Proofs
/-- The number of sheets and bundles that are damaged. -/
def goodsF (l : Lay) (s : Int) (cs : List (Int × Int)) : Nat := (asc (·.1) (onces cs)).length + (asc (bunC l s) (onces cs)).length
open Classical in
/-- The document's error for a repair. -/
noncomputable def refF (l : Lay) (s : Int) (cs : List (Int × Int)) (c : Cos) (R : List Int) : Int :=
  if Gd l s then
    (if (∀ x ∈ cs, CellIn l s x.1 x.2) ∧ (∀ x ∈ R, 0 ≤ x ∧ x < s) then
      (if c.OK then (if (onces cs).length ≤ 512 ∧ goodsF l s cs ≤ 120 then 0 else 5) else 2) else 3) else wrg l s
theorem refF_bad {l : Lay} {s : Int} {cs : List (Int × Int)} {c : Cos} {R : List Int} (h : ¬ Gd l s) : refF l s cs c R = wrg l s := by unfold refF; rw [if_neg h]
theorem refF_in {l : Lay} {s : Int} {cs : List (Int × Int)} {c : Cos} {R : List Int} (h : Gd l s) (hn : ¬ ((∀ x ∈ cs, CellIn l s x.1 x.2) ∧ (∀ x ∈ R, 0 ≤ x ∧ x < s))) : refF l s cs c R = 3 := by unfold refF; rw [if_pos h, if_neg hn]
theorem refF_c {l : Lay} {s : Int} {cs : List (Int × Int)} {c : Cos} {R : List Int} (h : Gd l s) (h1 : ∀ x ∈ cs, CellIn l s x.1 x.2) (h2 : ∀ x ∈ R, 0 ≤ x ∧ x < s) (hn : ¬ c.OK) : refF l s cs c R = 2 := by unfold refF; rw [if_pos h, if_pos ⟨h1, h2⟩, if_neg hn]
theorem refF_full {l : Lay} {s : Int} {cs : List (Int × Int)} {c : Cos} {R : List Int} (h : Gd l s) (h1 : ∀ x ∈ cs, CellIn l s x.1 x.2) (h2 : ∀ x ∈ R, 0 ≤ x ∧ x < s) (h3 : c.OK) (hn : ¬ ((onces cs).length ≤ 512 ∧ goodsF l s cs ≤ 120)) : refF l s cs c R = 5 := by unfold refF; rw [if_pos h, if_pos ⟨h1, h2⟩, if_pos h3, if_neg hn]
theorem refF_ok {l : Lay} {s : Int} {cs : List (Int × Int)} {c : Cos} {R : List Int} (h : Gd l s) (h1 : ∀ x ∈ cs, CellIn l s x.1 x.2) (h2 : ∀ x ∈ R, 0 ≤ x ∧ x < s) (h3 : c.OK) (h4 : (onces cs).length ≤ 512 ∧ goodsF l s cs ≤ 120) : refF l s cs c R = 0 := by unfold refF; rw [if_pos h, if_pos ⟨h1, h2⟩, if_pos h3, if_pos h4]
structure RefOK (l : Lay) (s : Int) (cs : List (Int × Int)) (c : Cos) (R : List Int) : Prop where
  g : Gd l s
  i : ∀ x ∈ cs, CellIn l s x.1 x.2
  r : ∀ x ∈ R, 0 ≤ x ∧ x < s
  c : c.OK
  n : (onces cs).length ≤ 512
  f : goodsF l s cs ≤ 120
theorem refF_0 {l : Lay} {s : Int} {cs : List (Int × Int)} {c : Cos} {R : List Int} : refF l s cs c R = 0 ↔ RefOK l s cs c R := by
  unfold refF
  split
  · rename_i h
    split
    · rename_i h1
      split
      · rename_i h2
        split
        · rename_i h3; exact ⟨fun _ => ⟨h, h1.1, h1.2, h2, h3.1, h3.2⟩, fun _ => rfl⟩
        · rename_i h3; exact ⟨fun q => by omega, fun q => absurd ⟨q.n, q.f⟩ h3⟩
      · rename_i h2; exact ⟨fun q => by omega, fun q => absurd q.c h2⟩
    · rename_i h1; exact ⟨fun q => by omega, fun q => absurd ⟨q.i, q.r⟩ h1⟩
  · rename_i h; exact ⟨fun q => absurd (wrg_0.1 q) h, fun q => absurd q.g h⟩
theorem getD_mem {α : Type} {l : List α} {i : Nat} {d : α} (h : i < l.length) : l.getD i d ∈ l := by rw [List.getD_eq_getElem?_getD, List.getElem?_eq_getElem h]; exact List.getElem_mem _
theorem all_getD {α : Type} {l : List α} {p : α → Prop} (d : α) : (∀ x ∈ l, p x) ↔ ∀ i, i < l.length → p (l.getD i d) := by
  constructor
  · exact fun h i hi => h _ (getD_mem hi)
  · intro h x hx
    obtain ⟨i, hi, rfl⟩ := List.getElem_of_mem hx
    have := h i hi
    rwa [List.getD_eq_getElem?_getD, List.getElem?_eq_getElem hi] at this
theorem cos_bad {c : Cos} (h : ¬ c.OK) : c.r < 0 ∨ (0 ≤ c.r ∧ 1048576 < c.r) ∨ (0 ≤ c.r ∧ c.r ≤ 1048576 ∧ c.s < 0) ∨ (0 ≤ c.r ∧ c.r ≤ 1048576 ∧ 0 ≤ c.s ∧ 1048576 < c.s) ∨ (0 ≤ c.r ∧ c.r ≤ 1048576 ∧ 0 ≤ c.s ∧ c.s ≤ 1048576 ∧ c.o < 0) ∨ (0 ≤ c.r ∧ c.r ≤ 1048576 ∧ 0 ≤ c.s ∧ c.s ≤ 1048576 ∧ 0 ≤ c.o ∧ 1048576 < c.o) := by
  have : ¬ ((0 ≤ c.r ∧ c.r ≤ 1048576) ∧ (0 ≤ c.s ∧ c.s ≤ 1048576) ∧ (0 ≤ c.o ∧ c.o ≤ 1048576)) := fun q => h ⟨q.1, q.2.1, q.2.2⟩
  omega
attribute [local irreducible] SC St Fin Sq Sw Ylds Doos Sets Enters Spec CellIs CellsAre Then Ret Rnd Chn resOK ints bools recs arr
set_option maxRecDepth 10000 in
set_option maxHeartbeats 16000000 in
theorem refused_spec (W : World) (Ls : List Chunk) (l : Lay) (s : Int) (v u : Value) (cs : List (Int × Int)) (c : Cos) (R : List Int) (hv : CL (K W Ls) v cs) (hu : IL (K W Ls) u R) (hl : cs.length ≤ 100000) (hRl : R.length ≤ 100000) :
    Spec Try.prog 16 #[l.v, .int .i64 s, v, c.v, u] (K W Ls) (fun _ : Unit => .int .i64 (refF l s cs c R)) (fun _ => K W Ls) := by
  obtain ⟨pa, ca, rfl, hca, hcs⟩ := hv.open
  obtain ⟨pr, cr, rfl, hcr, hrs⟩ := hu.open
  refine enter (args := [_, _, _, _, _]) Try.func16 rfl Try.ntmps16 rfl ?_
  by_cases h : Gd l s
  rotate_left
  · have hw : wrg l s ≠ 0 := fun e => h (wrg_0.1 e)
    rw [refF_bad h]
    refine c_seq ?_
    refine c_region ?_
    refine s_do (do_box rfl) rfl rfl rfl (fun b5 => ?_)
    refine s_do (do_box rfl) rfl rfl rfl (fun b8 => ?_)
    refine s_y (y_assign rfl) rfl rfl rfl ?_
    refine s_nil ?_
    refine f_then ?_
    refine c_seq ?_
    refine c_seq ?_
    refine c_region ?_
    refine s_y (y_loadA Try.tab rfl rfl rfl rfl (cells_row0 1 rfl rfl)) rfl rfl rfl ?_
    refine s_y (y_move rfl) rfl rfl rfl ?_
    refine s_call (en_f rfl Try.call23) (wrong_spec _ _ _ _) rfl rfl rfl (fun _ => ?_)
    refine s_y (y_T (y_neq rfl rfl) (by assumption)) rfl rfl rfl ?_
    refine s_nil ?_
    refine f_then ?_
    refine c_condT rfl ?_
    refine c_seq ?_
    refine c_region ?_
    refine s_y (y_loadA Try.tab rfl rfl rfl rfl (cells_row0 1 rfl rfl)) rfl rfl rfl ?_
    refine s_y (y_move rfl) rfl rfl rfl ?_
    refine s_call (en_f rfl Try.call23) (wrong_spec _ _ _ _) rfl rfl rfl (fun _ => ?_)
    refine s_y (y_assign rfl) rfl rfl rfl ?_
    refine s_nil ?_
    refine f_then ?_
    refine c_ret ?_
    refine f_thenR ?_
    exact f_ret () (res1 rfl rfl) (fun w h => h.tail.tail)
  have hw : wrg l s = 0 := wrg_0.2 h
  refine c_seq ?_
  refine c_region ?_
  refine s_do (do_box rfl) rfl rfl rfl (fun b5 => ?_)
  refine s_do (do_box rfl) rfl rfl rfl (fun b8 => ?_)
  refine s_y (y_assign rfl) rfl rfl rfl ?_
  refine s_nil ?_
  refine f_then ?_
  refine c_seq ?_
  refine c_seq ?_
  refine c_region ?_
  refine s_y (y_loadA Try.tab rfl rfl rfl rfl (cells_row0 1 rfl rfl)) rfl rfl rfl ?_
  refine s_y (y_move rfl) rfl rfl rfl ?_
  refine s_call (en_f rfl Try.call23) (wrong_spec _ _ _ _) rfl rfl rfl (fun _ => ?_)
  refine s_y (y_F (y_neq rfl rfl) (by omega)) rfl rfl rfl ?_
  refine s_nil ?_
  refine f_then ?_
  refine c_condF rfl ?_
  refine c_skip ?_
  refine f_then ?_
  refine c_seq ?_
  refine c_seq ?_
  refine c_region ?_
  refine s_y (y_assign rfl) rfl rfl rfl ?_
  refine s_nil ?_
  refine f_then ?_
  refine c_block ?_
  refine c_loopP (α := Nat) (fun z => [(1, .int .i64 s), (2, .slice pa cs.length ca), (4, .slice pr R.length cr), (5, .pointer (some ⟨b5, 0, none⟩)), (8, .pointer (some ⟨b8, 0, none⟩)), (11, .int .i64 z)]) (fun z => z ≤ cs.length ∧ ∀ k, k < z → CellIn l s (cs.getD k (0, 0)).1 (cs.getD k (0, 0)).2) (fun _ => K W ([(b8, row 26 [.int .i64 c.r, .int .i64 c.s, .int .i64 c.o])] :: [(b5, row 23 l.v.cells.toList)] :: Ls)) (fun z => cs.length - z) 0 ⟨rfl, rfl, rfl, rfl, rfl, rfl, trivial⟩ ⟨Nat.zero_le _, fun k hk => absurd hk (by omega)⟩ (fun w h => h) ?_
  rintro i ⟨hi, hok⟩
  refine c_seq ?_
  refine c_seq ?_
  refine c_region ?_
  refine s_y (y_move rfl) rfl rfl rfl ?_
  refine s_y (y_move rfl) rfl rfl rfl ?_
  refine s_y (y_len Try.tab rfl rfl) rfl rfl rfl ?_
  refine s_y (y_lss rfl rfl) rfl rfl rfl ?_
  refine s_nil ?_
  refine f_then ?_
  refine c_condD rfl (fun hlt => ?_) (fun hge => ?_)
  · obtain ⟨b, q, rfl, hcell⟩ := hcs (by omega)
    have hcx := (hcell i (by omega)).1.cls (C := K W ([(b8, row 26 [.int .i64 c.r, .int .i64 c.s, .int .i64 c.o])] :: [(b5, row 23 l.v.cells.toList)] :: Ls)) fun w h => h.tail.tail
    by_cases hci : CellIn l s (cs.getD i (0, 0)).1 (cs.getD i (0, 0)).2
    · refine c_skip ?_
      refine f_then ?_
      refine c_seq ?_
      refine c_block ?_
      refine c_seq ?_
      refine c_plan [.c 0, .c 1, .c 2, .c 3, .c 4, .c 5, .c 6, .c 7] [] ((K W ([(b8, row 26 [.int .i64 c.r, .int .i64 c.s, .int .i64 c.o])] :: [(b5, row 23 l.v.cells.toList)] :: Ls))) Try.mixed (by kernel_rfl) rfl K.cl ?_
      refine d_c rfl (Qui.ylds (y_loadA Try.tab rfl rfl rfl rfl (cells_row0 1 rfl rfl))) rfl rfl rfl (fun _ h => h) K.cl ?_
      refine d_c rfl (Qui.ylds (y_move rfl)) rfl rfl rfl (fun _ h => h) K.cl ?_
      refine d_c rfl (Qui.ylds (y_move rfl)) rfl rfl rfl (fun _ h => h) K.cl ?_
      refine d_c rfl (Qui.ylds (y_move rfl)) rfl rfl rfl (fun _ h => h) K.cl ?_
      refine d_c rfl (Qui.ylds (y_indexAddr (s := 2) Try.tab rfl rfl rfl rfl _ rfl (by omega))) rfl rfl rfl (fun _ h => h) K.cl ?_
      refine d_c rfl (Qui.ylds (y_loadA Try.tab rfl rfl rfl rfl hcx)) rfl rfl rfl (fun _ h => h) K.cl ?_
      refine d_c rfl (Qui.call (en_f rfl Try.call25) (fun w _ => (is_yes w [] l s _ _ h hci).qui)) rfl rfl rfl (fun _ h => h) K.cl ?_
      refine d_c rfl (Qui.ylds (y_notT rfl)) rfl rfl rfl (fun _ h => h) K.cl ?_
      refine d_nil ?_
      refine f_then ?_
      refine c_condF rfl ?_
      refine c_skip ?_
      refine f_blockN ?_
      refine f_then ?_
      refine c_region ?_
      refine s_y (y_move rfl) rfl rfl rfl ?_
      refine s_y (y_add rfl rfl (by omega)) rfl rfl rfl ?_
      refine s_y (y_assign rfl) rfl rfl rfl ?_
      refine s_nil ?_
      exact f_roundP (i + 1) ⟨by omega, fun k hk => by rcases (show k < i ∨ k = i by omega) with q | rfl; exact hok k q; exact hci⟩ (by omega) ⟨rfl, rfl, rfl, rfl, rfl, rfl, trivial⟩ (fun w h => h)
    · have he : refF l s cs c R = 3 := refF_in h fun q => hci (q.1 _ (getD_mem (by omega)))
      rw [he]
      refine c_skip ?_
      refine f_then ?_
      refine c_seq ?_
      refine c_block ?_
      refine c_seq ?_
      refine c_plan [.c 0, .c 1, .c 2, .c 3, .c 4, .c 5, .c 6, .c 7] [] ((K W ([(b8, row 26 [.int .i64 c.r, .int .i64 c.s, .int .i64 c.o])] :: [(b5, row 23 l.v.cells.toList)] :: Ls))) Try.mixed (by kernel_rfl) rfl K.cl ?_
      refine d_c rfl (Qui.ylds (y_loadA Try.tab rfl rfl rfl rfl (cells_row0 1 rfl rfl))) rfl rfl rfl (fun _ h => h) K.cl ?_
      refine d_c rfl (Qui.ylds (y_move rfl)) rfl rfl rfl (fun _ h => h) K.cl ?_
      refine d_c rfl (Qui.ylds (y_move rfl)) rfl rfl rfl (fun _ h => h) K.cl ?_
      refine d_c rfl (Qui.ylds (y_move rfl)) rfl rfl rfl (fun _ h => h) K.cl ?_
      refine d_c rfl (Qui.ylds (y_indexAddr (s := 2) Try.tab rfl rfl rfl rfl _ rfl (by omega))) rfl rfl rfl (fun _ h => h) K.cl ?_
      refine d_c rfl (Qui.ylds (y_loadA Try.tab rfl rfl rfl rfl hcx)) rfl rfl rfl (fun _ h => h) K.cl ?_
      refine d_c rfl (Qui.call (en_f rfl Try.call25) (fun w _ => (is_no w [] l s _ _ h hci).qui)) rfl rfl rfl (fun _ h => h) K.cl ?_
      refine d_c rfl (Qui.ylds (y_notF rfl)) rfl rfl rfl (fun _ h => h) K.cl ?_
      refine d_nil ?_
      refine f_then ?_
      refine c_condT rfl ?_
      refine c_seq ?_
      refine c_region ?_
      refine s_y (y_assign rfl) rfl rfl rfl ?_
      refine s_nil ?_
      refine f_then ?_
      refine c_ret ?_
      refine f_blockR ?_
      refine f_thenR ?_
      refine f_rndR ?_
      refine f_blockR ?_
      refine f_thenR ?_
      exact f_ret () (res1 rfl rfl) (fun w h => h.tail.tail)
  have hin : ∀ x ∈ cs, CellIn l s x.1 x.2 := (all_getD (0, 0)).2 fun k hk => hok k (by omega)
  refine c_exit ?_
  refine f_thenE ?_
  refine f_rndE ?_
  refine f_blockE ?_
  refine f_then ?_
  refine c_seq ?_
  refine c_seq ?_
  refine c_region ?_
  refine s_y (y_assign rfl) rfl rfl rfl ?_
  refine s_nil ?_
  refine f_then ?_
  refine c_block ?_
  refine c_loopP (α := Nat) (fun z => [(1, .int .i64 s), (2, .slice pa cs.length ca), (4, .slice pr R.length cr), (5, .pointer (some ⟨b5, 0, none⟩)), (8, .pointer (some ⟨b8, 0, none⟩)), (12, .int .i64 z)]) (fun z => z ≤ R.length ∧ ∀ k, k < z → 0 ≤ R.getD k 0 ∧ R.getD k 0 < s) (fun _ => K W ([(b8, row 26 [.int .i64 c.r, .int .i64 c.s, .int .i64 c.o])] :: [(b5, row 23 l.v.cells.toList)] :: Ls)) (fun z => R.length - z) 0 ⟨rfl, rfl, rfl, rfl, rfl, rfl, trivial⟩ ⟨Nat.zero_le _, fun k hk => absurd hk (by omega)⟩ (fun w h => h) ?_
  clear hge hok hi i
  rintro i ⟨hi, hok⟩
  refine c_seq ?_
  refine c_seq ?_
  refine c_region ?_
  refine s_y (y_move rfl) rfl rfl rfl ?_
  refine s_y (y_move rfl) rfl rfl rfl ?_
  refine s_y (y_len Try.tab rfl rfl) rfl rfl rfl ?_
  refine s_y (y_lss rfl rfl) rfl rfl rfl ?_
  refine s_nil ?_
  refine f_then ?_
  refine c_condD rfl (fun hlt => ?_) (fun hge => ?_)
  · obtain ⟨b, q, rfl, hcell⟩ := hrs (by omega)
    have hcx := (hcell i (by omega)).cls (C := K W ([(b8, row 26 [.int .i64 c.r, .int .i64 c.s, .int .i64 c.o])] :: [(b5, row 23 l.v.cells.toList)] :: Ls)) fun w h => h.tail.tail
    by_cases hci : R.getD i 0 < 0
    · have he : refF l s cs c R = 3 := refF_in h fun q => by have := q.2 _ (getD_mem (d := 0) (show i < R.length by omega)); omega
      rw [he]
      refine c_skip ?_
      refine f_then ?_
      refine c_seq ?_
      refine c_block ?_
      refine c_seq ?_
      refine c_region ?_
      refine s_y (y_move rfl) rfl rfl rfl ?_
      refine s_y (y_move rfl) rfl rfl rfl ?_
      refine s_y (y_indexAddr1o Try.tab rfl rfl rfl rfl _ rfl (by omega)) rfl rfl rfl ?_
      refine s_y (y_load Try.tab rfl rfl hcx) rfl rfl rfl ?_
      refine s_y (y_T (y_lss rfl rfl) (by assumption)) rfl rfl rfl ?_
      refine s_y (y_move rfl) rfl rfl rfl ?_
      iterate 6 refine s_skip rfl rfl rfl ?_
      refine s_y (y_pickT rfl rfl) rfl rfl rfl ?_
      refine s_nil ?_
      refine f_then ?_
      refine c_condT rfl ?_
      refine c_seq ?_
      refine c_region ?_
      refine s_y (y_assign rfl) rfl rfl rfl ?_
      refine s_nil ?_
      refine f_then ?_
      refine c_ret ?_
      refine f_blockR ?_
      refine f_thenR ?_
      refine f_rndR ?_
      refine f_blockR ?_
      refine f_thenR ?_
      exact f_ret () (res1 rfl rfl) (fun w h => h.tail.tail)
    by_cases hcj : s ≤ R.getD i 0
    · have he : refF l s cs c R = 3 := refF_in h fun q => by have := q.2 _ (getD_mem (d := 0) (show i < R.length by omega)); omega
      rw [he]
      refine c_skip ?_
      refine f_then ?_
      refine c_seq ?_
      refine c_block ?_
      refine c_seq ?_
      refine c_region ?_
      refine s_y (y_move rfl) rfl rfl rfl ?_
      refine s_y (y_move rfl) rfl rfl rfl ?_
      refine s_y (y_indexAddr1o Try.tab rfl rfl rfl rfl _ rfl (by omega)) rfl rfl rfl ?_
      refine s_y (y_load Try.tab rfl rfl hcx) rfl rfl rfl ?_
      refine s_y (y_F (y_lss rfl rfl) (by assumption)) rfl rfl rfl ?_
      refine s_y (y_move rfl) rfl rfl rfl ?_
      refine s_y (y_move rfl) rfl rfl rfl ?_
      refine s_y (y_move rfl) rfl rfl rfl ?_
      refine s_y (y_indexAddr1o Try.tab rfl rfl rfl rfl _ rfl (by omega)) rfl rfl rfl ?_
      refine s_y (y_load Try.tab rfl rfl hcx) rfl rfl rfl ?_
      refine s_y (y_move rfl) rfl rfl rfl ?_
      refine s_y (y_T (y_geq rfl rfl) (by assumption)) rfl rfl rfl ?_
      refine s_y (y_pickF rfl rfl) rfl rfl rfl ?_
      refine s_nil ?_
      refine f_then ?_
      refine c_condT rfl ?_
      refine c_seq ?_
      refine c_region ?_
      refine s_y (y_assign rfl) rfl rfl rfl ?_
      refine s_nil ?_
      refine f_then ?_
      refine c_ret ?_
      refine f_blockR ?_
      refine f_thenR ?_
      refine f_rndR ?_
      refine f_blockR ?_
      refine f_thenR ?_
      exact f_ret () (res1 rfl rfl) (fun w h => h.tail.tail)
    · refine c_skip ?_
      refine f_then ?_
      refine c_seq ?_
      refine c_block ?_
      refine c_seq ?_
      refine c_region ?_
      refine s_y (y_move rfl) rfl rfl rfl ?_
      refine s_y (y_move rfl) rfl rfl rfl ?_
      refine s_y (y_indexAddr1o Try.tab rfl rfl rfl rfl _ rfl (by omega)) rfl rfl rfl ?_
      refine s_y (y_load Try.tab rfl rfl hcx) rfl rfl rfl ?_
      refine s_y (y_F (y_lss rfl rfl) (by assumption)) rfl rfl rfl ?_
      refine s_y (y_move rfl) rfl rfl rfl ?_
      refine s_y (y_move rfl) rfl rfl rfl ?_
      refine s_y (y_move rfl) rfl rfl rfl ?_
      refine s_y (y_indexAddr1o Try.tab rfl rfl rfl rfl _ rfl (by omega)) rfl rfl rfl ?_
      refine s_y (y_load Try.tab rfl rfl hcx) rfl rfl rfl ?_
      refine s_y (y_move rfl) rfl rfl rfl ?_
      refine s_y (y_F (y_geq rfl rfl) (by assumption)) rfl rfl rfl ?_
      refine s_y (y_pickF rfl rfl) rfl rfl rfl ?_
      refine s_nil ?_
      refine f_then ?_
      refine c_condF rfl ?_
      refine c_skip ?_
      refine f_blockN ?_
      refine f_then ?_
      refine c_region ?_
      refine s_y (y_move rfl) rfl rfl rfl ?_
      refine s_y (y_add rfl rfl (by omega)) rfl rfl rfl ?_
      refine s_y (y_assign rfl) rfl rfl rfl ?_
      refine s_nil ?_
      exact f_roundP (i + 1) ⟨by omega, fun k hk => by rcases (show k < i ∨ k = i by omega) with q | rfl; exact hok k q; omega⟩ (by omega) ⟨rfl, rfl, rfl, rfl, rfl, rfl, trivial⟩ (fun w h => h)
  have hrin : ∀ x ∈ R, 0 ≤ x ∧ x < s := (all_getD 0).2 fun k hk => hok k (by omega)
  by_cases hcst : c.OK
  rotate_left
  · rw [refF_c h hin hrin hcst]
    rcases cos_bad hcst with hc0 | hc0 | hc0 | hc0 | hc0 | hc0
    · refine c_exit ?_
      refine f_thenE ?_
      refine f_rndE ?_
      refine f_blockE ?_
      refine f_then ?_
      refine c_seq ?_
      refine c_seq ?_
      refine c_region ?_
      refine s_y (y_fieldAddr0 Try.tab rfl rfl rfl rfl rfl) rfl rfl rfl ?_
      refine s_y (y_load Try.tab rfl rfl (cell_row 0 rfl rfl)) rfl rfl rfl ?_
      refine s_y (y_T (y_lss rfl rfl) (by assumption)) rfl rfl rfl ?_
      refine s_y (y_move rfl) rfl rfl rfl ?_
      iterate 3 refine s_skip rfl rfl rfl ?_
      refine s_y (y_pickT rfl rfl) rfl rfl rfl ?_
      refine s_y (y_move rfl) rfl rfl rfl ?_
      iterate 3 refine s_skip rfl rfl rfl ?_
      refine s_y (y_pickT rfl rfl) rfl rfl rfl ?_
      refine s_y (y_move rfl) rfl rfl rfl ?_
      iterate 3 refine s_skip rfl rfl rfl ?_
      refine s_y (y_pickT rfl rfl) rfl rfl rfl ?_
      refine s_y (y_move rfl) rfl rfl rfl ?_
      iterate 3 refine s_skip rfl rfl rfl ?_
      refine s_y (y_pickT rfl rfl) rfl rfl rfl ?_
      refine s_y (y_move rfl) rfl rfl rfl ?_
      iterate 3 refine s_skip rfl rfl rfl ?_
      refine s_y (y_pickT rfl rfl) rfl rfl rfl ?_
      refine s_nil ?_
      refine f_then ?_
      refine c_condT rfl ?_
      refine c_seq ?_
      refine c_region ?_
      refine s_y (y_assign rfl) rfl rfl rfl ?_
      refine s_nil ?_
      refine f_then ?_
      refine c_ret ?_
      refine f_thenR ?_
      exact f_ret () (res1 rfl rfl) (fun w h => h.tail.tail)
    · refine c_exit ?_
      refine f_thenE ?_
      refine f_rndE ?_
      refine f_blockE ?_
      refine f_then ?_
      refine c_seq ?_
      refine c_seq ?_
      refine c_region ?_
      refine s_y (y_fieldAddr0 Try.tab rfl rfl rfl rfl rfl) rfl rfl rfl ?_
      refine s_y (y_load Try.tab rfl rfl (cell_row 0 rfl rfl)) rfl rfl rfl ?_
      refine s_y (y_F (y_lss rfl rfl) (by omega)) rfl rfl rfl ?_
      refine s_y (y_move rfl) rfl rfl rfl ?_
      refine s_y (y_fieldAddr0 Try.tab rfl rfl rfl rfl rfl) rfl rfl rfl ?_
      refine s_y (y_load Try.tab rfl rfl (cell_row 0 rfl rfl)) rfl rfl rfl ?_
      refine s_y (y_T (y_gtr rfl rfl) (by omega)) rfl rfl rfl ?_
      refine s_y (y_pickF rfl rfl) rfl rfl rfl ?_
      refine s_y (y_move rfl) rfl rfl rfl ?_
      iterate 3 refine s_skip rfl rfl rfl ?_
      refine s_y (y_pickT rfl rfl) rfl rfl rfl ?_
      refine s_y (y_move rfl) rfl rfl rfl ?_
      iterate 3 refine s_skip rfl rfl rfl ?_
      refine s_y (y_pickT rfl rfl) rfl rfl rfl ?_
      refine s_y (y_move rfl) rfl rfl rfl ?_
      iterate 3 refine s_skip rfl rfl rfl ?_
      refine s_y (y_pickT rfl rfl) rfl rfl rfl ?_
      refine s_y (y_move rfl) rfl rfl rfl ?_
      iterate 3 refine s_skip rfl rfl rfl ?_
      refine s_y (y_pickT rfl rfl) rfl rfl rfl ?_
      refine s_nil ?_
      refine f_then ?_
      refine c_condT rfl ?_
      refine c_seq ?_
      refine c_region ?_
      refine s_y (y_assign rfl) rfl rfl rfl ?_
      refine s_nil ?_
      refine f_then ?_
      refine c_ret ?_
      refine f_thenR ?_
      exact f_ret () (res1 rfl rfl) (fun w h => h.tail.tail)
    · refine c_exit ?_
      refine f_thenE ?_
      refine f_rndE ?_
      refine f_blockE ?_
      refine f_then ?_
      refine c_seq ?_
      refine c_seq ?_
      refine c_region ?_
      refine s_y (y_fieldAddr0 Try.tab rfl rfl rfl rfl rfl) rfl rfl rfl ?_
      refine s_y (y_load Try.tab rfl rfl (cell_row 0 rfl rfl)) rfl rfl rfl ?_
      refine s_y (y_F (y_lss rfl rfl) (by omega)) rfl rfl rfl ?_
      refine s_y (y_move rfl) rfl rfl rfl ?_
      refine s_y (y_fieldAddr0 Try.tab rfl rfl rfl rfl rfl) rfl rfl rfl ?_
      refine s_y (y_load Try.tab rfl rfl (cell_row 0 rfl rfl)) rfl rfl rfl ?_
      refine s_y (y_F (y_gtr rfl rfl) (by omega)) rfl rfl rfl ?_
      refine s_y (y_pickF rfl rfl) rfl rfl rfl ?_
      refine s_y (y_move rfl) rfl rfl rfl ?_
      refine s_y (y_fieldAddrB Try.tab 1 rfl rfl rfl rfl rfl) rfl rfl rfl ?_
      refine s_y (y_load Try.tab rfl rfl (cell_row 0 rfl rfl)) rfl rfl rfl ?_
      refine s_y (y_T (y_lss rfl rfl) (by omega)) rfl rfl rfl ?_
      refine s_y (y_pickF rfl rfl) rfl rfl rfl ?_
      refine s_y (y_move rfl) rfl rfl rfl ?_
      iterate 3 refine s_skip rfl rfl rfl ?_
      refine s_y (y_pickT rfl rfl) rfl rfl rfl ?_
      refine s_y (y_move rfl) rfl rfl rfl ?_
      iterate 3 refine s_skip rfl rfl rfl ?_
      refine s_y (y_pickT rfl rfl) rfl rfl rfl ?_
      refine s_y (y_move rfl) rfl rfl rfl ?_
      iterate 3 refine s_skip rfl rfl rfl ?_
      refine s_y (y_pickT rfl rfl) rfl rfl rfl ?_
      refine s_nil ?_
      refine f_then ?_
      refine c_condT rfl ?_
      refine c_seq ?_
      refine c_region ?_
      refine s_y (y_assign rfl) rfl rfl rfl ?_
      refine s_nil ?_
      refine f_then ?_
      refine c_ret ?_
      refine f_thenR ?_
      exact f_ret () (res1 rfl rfl) (fun w h => h.tail.tail)
    · refine c_exit ?_
      refine f_thenE ?_
      refine f_rndE ?_
      refine f_blockE ?_
      refine f_then ?_
      refine c_seq ?_
      refine c_seq ?_
      refine c_region ?_
      refine s_y (y_fieldAddr0 Try.tab rfl rfl rfl rfl rfl) rfl rfl rfl ?_
      refine s_y (y_load Try.tab rfl rfl (cell_row 0 rfl rfl)) rfl rfl rfl ?_
      refine s_y (y_F (y_lss rfl rfl) (by omega)) rfl rfl rfl ?_
      refine s_y (y_move rfl) rfl rfl rfl ?_
      refine s_y (y_fieldAddr0 Try.tab rfl rfl rfl rfl rfl) rfl rfl rfl ?_
      refine s_y (y_load Try.tab rfl rfl (cell_row 0 rfl rfl)) rfl rfl rfl ?_
      refine s_y (y_F (y_gtr rfl rfl) (by omega)) rfl rfl rfl ?_
      refine s_y (y_pickF rfl rfl) rfl rfl rfl ?_
      refine s_y (y_move rfl) rfl rfl rfl ?_
      refine s_y (y_fieldAddrB Try.tab 1 rfl rfl rfl rfl rfl) rfl rfl rfl ?_
      refine s_y (y_load Try.tab rfl rfl (cell_row 0 rfl rfl)) rfl rfl rfl ?_
      refine s_y (y_F (y_lss rfl rfl) (by omega)) rfl rfl rfl ?_
      refine s_y (y_pickF rfl rfl) rfl rfl rfl ?_
      refine s_y (y_move rfl) rfl rfl rfl ?_
      refine s_y (y_fieldAddrB Try.tab 1 rfl rfl rfl rfl rfl) rfl rfl rfl ?_
      refine s_y (y_load Try.tab rfl rfl (cell_row 0 rfl rfl)) rfl rfl rfl ?_
      refine s_y (y_T (y_gtr rfl rfl) (by omega)) rfl rfl rfl ?_
      refine s_y (y_pickF rfl rfl) rfl rfl rfl ?_
      refine s_y (y_move rfl) rfl rfl rfl ?_
      iterate 3 refine s_skip rfl rfl rfl ?_
      refine s_y (y_pickT rfl rfl) rfl rfl rfl ?_
      refine s_y (y_move rfl) rfl rfl rfl ?_
      iterate 3 refine s_skip rfl rfl rfl ?_
      refine s_y (y_pickT rfl rfl) rfl rfl rfl ?_
      refine s_nil ?_
      refine f_then ?_
      refine c_condT rfl ?_
      refine c_seq ?_
      refine c_region ?_
      refine s_y (y_assign rfl) rfl rfl rfl ?_
      refine s_nil ?_
      refine f_then ?_
      refine c_ret ?_
      refine f_thenR ?_
      exact f_ret () (res1 rfl rfl) (fun w h => h.tail.tail)
    · refine c_exit ?_
      refine f_thenE ?_
      refine f_rndE ?_
      refine f_blockE ?_
      refine f_then ?_
      refine c_seq ?_
      refine c_seq ?_
      refine c_region ?_
      refine s_y (y_fieldAddr0 Try.tab rfl rfl rfl rfl rfl) rfl rfl rfl ?_
      refine s_y (y_load Try.tab rfl rfl (cell_row 0 rfl rfl)) rfl rfl rfl ?_
      refine s_y (y_F (y_lss rfl rfl) (by omega)) rfl rfl rfl ?_
      refine s_y (y_move rfl) rfl rfl rfl ?_
      refine s_y (y_fieldAddr0 Try.tab rfl rfl rfl rfl rfl) rfl rfl rfl ?_
      refine s_y (y_load Try.tab rfl rfl (cell_row 0 rfl rfl)) rfl rfl rfl ?_
      refine s_y (y_F (y_gtr rfl rfl) (by omega)) rfl rfl rfl ?_
      refine s_y (y_pickF rfl rfl) rfl rfl rfl ?_
      refine s_y (y_move rfl) rfl rfl rfl ?_
      refine s_y (y_fieldAddrB Try.tab 1 rfl rfl rfl rfl rfl) rfl rfl rfl ?_
      refine s_y (y_load Try.tab rfl rfl (cell_row 0 rfl rfl)) rfl rfl rfl ?_
      refine s_y (y_F (y_lss rfl rfl) (by omega)) rfl rfl rfl ?_
      refine s_y (y_pickF rfl rfl) rfl rfl rfl ?_
      refine s_y (y_move rfl) rfl rfl rfl ?_
      refine s_y (y_fieldAddrB Try.tab 1 rfl rfl rfl rfl rfl) rfl rfl rfl ?_
      refine s_y (y_load Try.tab rfl rfl (cell_row 0 rfl rfl)) rfl rfl rfl ?_
      refine s_y (y_F (y_gtr rfl rfl) (by omega)) rfl rfl rfl ?_
      refine s_y (y_pickF rfl rfl) rfl rfl rfl ?_
      refine s_y (y_move rfl) rfl rfl rfl ?_
      refine s_y (y_fieldAddrB Try.tab 2 rfl rfl rfl rfl rfl) rfl rfl rfl ?_
      refine s_y (y_load Try.tab rfl rfl (cell_row 0 rfl rfl)) rfl rfl rfl ?_
      refine s_y (y_T (y_lss rfl rfl) (by omega)) rfl rfl rfl ?_
      refine s_y (y_pickF rfl rfl) rfl rfl rfl ?_
      refine s_y (y_move rfl) rfl rfl rfl ?_
      iterate 3 refine s_skip rfl rfl rfl ?_
      refine s_y (y_pickT rfl rfl) rfl rfl rfl ?_
      refine s_nil ?_
      refine f_then ?_
      refine c_condT rfl ?_
      refine c_seq ?_
      refine c_region ?_
      refine s_y (y_assign rfl) rfl rfl rfl ?_
      refine s_nil ?_
      refine f_then ?_
      refine c_ret ?_
      refine f_thenR ?_
      exact f_ret () (res1 rfl rfl) (fun w h => h.tail.tail)
    · refine c_exit ?_
      refine f_thenE ?_
      refine f_rndE ?_
      refine f_blockE ?_
      refine f_then ?_
      refine c_seq ?_
      refine c_seq ?_
      refine c_region ?_
      refine s_y (y_fieldAddr0 Try.tab rfl rfl rfl rfl rfl) rfl rfl rfl ?_
      refine s_y (y_load Try.tab rfl rfl (cell_row 0 rfl rfl)) rfl rfl rfl ?_
      refine s_y (y_F (y_lss rfl rfl) (by omega)) rfl rfl rfl ?_
      refine s_y (y_move rfl) rfl rfl rfl ?_
      refine s_y (y_fieldAddr0 Try.tab rfl rfl rfl rfl rfl) rfl rfl rfl ?_
      refine s_y (y_load Try.tab rfl rfl (cell_row 0 rfl rfl)) rfl rfl rfl ?_
      refine s_y (y_F (y_gtr rfl rfl) (by omega)) rfl rfl rfl ?_
      refine s_y (y_pickF rfl rfl) rfl rfl rfl ?_
      refine s_y (y_move rfl) rfl rfl rfl ?_
      refine s_y (y_fieldAddrB Try.tab 1 rfl rfl rfl rfl rfl) rfl rfl rfl ?_
      refine s_y (y_load Try.tab rfl rfl (cell_row 0 rfl rfl)) rfl rfl rfl ?_
      refine s_y (y_F (y_lss rfl rfl) (by omega)) rfl rfl rfl ?_
      refine s_y (y_pickF rfl rfl) rfl rfl rfl ?_
      refine s_y (y_move rfl) rfl rfl rfl ?_
      refine s_y (y_fieldAddrB Try.tab 1 rfl rfl rfl rfl rfl) rfl rfl rfl ?_
      refine s_y (y_load Try.tab rfl rfl (cell_row 0 rfl rfl)) rfl rfl rfl ?_
      refine s_y (y_F (y_gtr rfl rfl) (by omega)) rfl rfl rfl ?_
      refine s_y (y_pickF rfl rfl) rfl rfl rfl ?_
      refine s_y (y_move rfl) rfl rfl rfl ?_
      refine s_y (y_fieldAddrB Try.tab 2 rfl rfl rfl rfl rfl) rfl rfl rfl ?_
      refine s_y (y_load Try.tab rfl rfl (cell_row 0 rfl rfl)) rfl rfl rfl ?_
      refine s_y (y_F (y_lss rfl rfl) (by omega)) rfl rfl rfl ?_
      refine s_y (y_pickF rfl rfl) rfl rfl rfl ?_
      refine s_y (y_move rfl) rfl rfl rfl ?_
      refine s_y (y_fieldAddrB Try.tab 2 rfl rfl rfl rfl rfl) rfl rfl rfl ?_
      refine s_y (y_load Try.tab rfl rfl (cell_row 0 rfl rfl)) rfl rfl rfl ?_
      refine s_y (y_T (y_gtr rfl rfl) (by omega)) rfl rfl rfl ?_
      refine s_y (y_pickF rfl rfl) rfl rfl rfl ?_
      refine s_nil ?_
      refine f_then ?_
      refine c_condT rfl ?_
      refine c_seq ?_
      refine c_region ?_
      refine s_y (y_assign rfl) rfl rfl rfl ?_
      refine s_nil ?_
      refine f_then ?_
      refine c_ret ?_
      refine f_thenR ?_
      exact f_ret () (res1 rfl rfl) (fun w h => h.tail.tail)
  have g1 := hcst.r; have g2 := hcst.s; have g3 := hcst.o
  refine c_exit ?_
  refine f_thenE ?_
  refine f_rndE ?_
  refine f_blockE ?_
  refine f_then ?_
  refine c_seq ?_
  refine c_seq ?_
  refine c_region ?_
  refine s_y (y_fieldAddr0 Try.tab rfl rfl rfl rfl rfl) rfl rfl rfl ?_
  refine s_y (y_load Try.tab rfl rfl (cell_row 0 rfl rfl)) rfl rfl rfl ?_
  refine s_y (y_F (y_lss rfl rfl) (by omega)) rfl rfl rfl ?_
  refine s_y (y_move rfl) rfl rfl rfl ?_
  refine s_y (y_fieldAddr0 Try.tab rfl rfl rfl rfl rfl) rfl rfl rfl ?_
  refine s_y (y_load Try.tab rfl rfl (cell_row 0 rfl rfl)) rfl rfl rfl ?_
  refine s_y (y_F (y_gtr rfl rfl) (by omega)) rfl rfl rfl ?_
  refine s_y (y_pickF rfl rfl) rfl rfl rfl ?_
  refine s_y (y_move rfl) rfl rfl rfl ?_
  refine s_y (y_fieldAddrB Try.tab 1 rfl rfl rfl rfl rfl) rfl rfl rfl ?_
  refine s_y (y_load Try.tab rfl rfl (cell_row 0 rfl rfl)) rfl rfl rfl ?_
  refine s_y (y_F (y_lss rfl rfl) (by omega)) rfl rfl rfl ?_
  refine s_y (y_pickF rfl rfl) rfl rfl rfl ?_
  refine s_y (y_move rfl) rfl rfl rfl ?_
  refine s_y (y_fieldAddrB Try.tab 1 rfl rfl rfl rfl rfl) rfl rfl rfl ?_
  refine s_y (y_load Try.tab rfl rfl (cell_row 0 rfl rfl)) rfl rfl rfl ?_
  refine s_y (y_F (y_gtr rfl rfl) (by omega)) rfl rfl rfl ?_
  refine s_y (y_pickF rfl rfl) rfl rfl rfl ?_
  refine s_y (y_move rfl) rfl rfl rfl ?_
  refine s_y (y_fieldAddrB Try.tab 2 rfl rfl rfl rfl rfl) rfl rfl rfl ?_
  refine s_y (y_load Try.tab rfl rfl (cell_row 0 rfl rfl)) rfl rfl rfl ?_
  refine s_y (y_F (y_lss rfl rfl) (by omega)) rfl rfl rfl ?_
  refine s_y (y_pickF rfl rfl) rfl rfl rfl ?_
  refine s_y (y_move rfl) rfl rfl rfl ?_
  refine s_y (y_fieldAddrB Try.tab 2 rfl rfl rfl rfl rfl) rfl rfl rfl ?_
  refine s_y (y_load Try.tab rfl rfl (cell_row 0 rfl rfl)) rfl rfl rfl ?_
  refine s_y (y_F (y_gtr rfl rfl) (by omega)) rfl rfl rfl ?_
  refine s_y (y_pickF rfl rfl) rfl rfl rfl ?_
  refine s_nil ?_
  refine f_then ?_
  refine c_condF rfl ?_
  refine c_skip ?_
  refine f_then ?_
  refine c_seq ?_
  refine c_region ?_
  refine s_y (y_move rfl) rfl rfl rfl ?_
  have hvC : CL (K W ([(b8, row 26 [.int .i64 c.r, .int .i64 c.s, .int .i64 c.o])] :: [(b5, row 23 l.v.cells.toList)] :: Ls)) (.slice pa cs.length ca) cs := hv.cls fun w h => h.tail.tail
  refine s_call (en_f rfl Try.call34) (once_spec W _ _ cs hvC (by omega)) rfl rfl rfl (fun o => ?_)
  obtain ⟨oD, hoD⟩ := o
  dsimp only
  have hfull : refF l s cs c R = if (onces cs).length ≤ 512 ∧ (asc (·.1) (onces cs)).length + (asc (bunC l s) (onces cs)).length ≤ 120 then 0 else 5 := by unfold refF; rw [if_pos h, if_pos ⟨hin, hrin⟩, if_pos hcst]; rfl
  have hinD : ∀ x ∈ onces cs, CellIn l s x.1 x.2 := fun x hx => hin x (mem_onces.1 hx)
  have hDl := (onces_spec cs).2.2
  generalize onces cs = D at *
  refine s_y (y_assign rfl) rfl rfl rfl ?_
  refine s_nil ?_
  refine f_then ?_
  refine c_seq ?_
  refine c_region ?_
  refine s_y (y_assign rfl) rfl rfl rfl ?_
  refine s_nil ?_
  refine f_then ?_
  refine c_seq ?_
  refine c_seq ?_
  refine c_region ?_
  refine s_y (y_assign rfl) rfl rfl rfl ?_
  refine s_nil ?_
  refine f_then ?_
  refine c_block ?_
  obtain ⟨pd, cd, hvd, hcd, hds⟩ := CL.open (CL.oc (W := W) (Ls := oc 37 oD (cvals D) :: [(b8, row 26 [.int .i64 c.r, .int .i64 c.s, .int .i64 c.o])] :: [(b5, row 23 l.v.cells.toList)] :: Ls) 0 rfl hoD)
  rw [hvd]
  refine c_loopP (α := Nat × Option Own) (fun z => [(1, .int .i64 s), (5, .pointer (some ⟨b5, 0, none⟩)), (13, .slice pd D.length cd), (14, ov z.2 (asc (bunC l s) (D.take z.1)).length), (15, .int .i64 z.1)]) (fun z => z.1 ≤ D.length ∧ owfO 1 z.2 (asc (bunC l s) (D.take z.1)).length (ivals (asc (bunC l s) (D.take z.1)))) (fun z => K W (oc 3 z.2 (ivals (asc (bunC l s) (D.take z.1))) :: oc 37 oD (cvals D) :: [(b8, row 26 [.int .i64 c.r, .int .i64 c.s, .int .i64 c.o])] :: [(b5, row 23 l.v.cells.toList)] :: Ls)) (fun z => D.length - z.1) (0, none) ⟨rfl, rfl, rfl, rfl, rfl, trivial⟩ ⟨Nat.zero_le _, rfl, rfl⟩ (fun w h => h.addNil) ?_
  clear hge hok hi i
  rintro ⟨i, o⟩ ⟨hi, ho⟩
  dsimp only at hi ho ⊢
  refine c_seq ?_
  refine c_seq ?_
  refine c_region ?_
  refine s_y (y_move rfl) rfl rfl rfl ?_
  refine s_y (y_move rfl) rfl rfl rfl ?_
  refine s_y (y_len Try.tab rfl rfl) rfl rfl rfl ?_
  refine s_y (y_lss rfl rfl) rfl rfl rfl ?_
  refine s_nil ?_
  refine f_then ?_
  have hlen := asc_len (bunC l s) (D.take i)
  rw [List.length_take] at hlen
  refine c_condD rfl (fun hlt => ?_) (fun hge => ?_)
  · obtain ⟨b, q, rfl, hcell⟩ := hds (by omega)
    have hci := hinD _ (getD_mem (d := (0, 0)) (show i < D.length by omega))
    have e : put (bunC l s (D.getD i (0, 0))) (asc (bunC l s) (D.take i)) = asc (bunC l s) (D.take (i + 1)) := by rw [take_snoc D i (0, 0) (by omega), asc_snoc]
    have hcx := (hcell i (by omega)).1.cls (C := K W (oc 3 o (ivals (asc (bunC l s) (D.take i))) :: oc 37 oD (cvals D) :: [(b8, row 26 [.int .i64 c.r, .int .i64 c.s, .int .i64 c.o])] :: [(b5, row 23 l.v.cells.toList)] :: Ls)) fun w h => h.tail
    have hI : IL (K W (oc 3 o (ivals (asc (bunC l s) (D.take i))) :: oc 37 oD (cvals D) :: [(b8, row 26 [.int .i64 c.r, .int .i64 c.s, .int .i64 c.o])] :: [(b5, row 23 l.v.cells.toList)] :: Ls)) (ov o (asc (bunC l s) (D.take i)).length) (asc (bunC l s) (D.take i)) := IL.oc 0 rfl ho
    refine c_skip ?_
    refine f_then ?_
    refine c_seq ?_
    refine c_block ?_
    refine c_plan [.c 0, .c 1, .c 2, .c 3, .c 4, .c 5, .c 6, .c 7, .s 8, .c 9] [] ((K W (oc 3 o (ivals (asc (bunC l s) (D.take i))) :: oc 37 oD (cvals D) :: [(b8, row 26 [.int .i64 c.r, .int .i64 c.s, .int .i64 c.o])] :: [(b5, row 23 l.v.cells.toList)] :: Ls))) Try.mixed (by kernel_rfl) rfl K.cl ?_
    refine d_c rfl (Qui.ylds (y_move rfl)) rfl rfl rfl (fun _ h => h) K.cl ?_
    refine d_c rfl (Qui.ylds (y_loadA Try.tab rfl rfl rfl rfl (cells_row0 3 rfl rfl))) rfl rfl rfl (fun _ h => h) K.cl ?_
    refine d_c rfl (Qui.ylds (y_move rfl)) rfl rfl rfl (fun _ h => h) K.cl ?_
    refine d_c rfl (Qui.ylds (y_move rfl)) rfl rfl rfl (fun _ h => h) K.cl ?_
    refine d_c rfl (Qui.ylds (y_move rfl)) rfl rfl rfl (fun _ h => h) K.cl ?_
    refine d_c rfl (Qui.ylds (y_indexAddr (s := 2) Try.tab rfl rfl rfl rfl _ rfl (by omega))) rfl rfl rfl (fun _ h => h) K.cl ?_
    refine d_c rfl (Qui.ylds (y_loadA Try.tab rfl rfl rfl rfl hcx)) rfl rfl rfl (fun _ h => h) K.cl ?_
    refine d_c rfl (Qui.call (en_f rfl Try.call42) (fun w _ => (rbun_spec w [] l s _ h hci).qui)) rfl rfl rfl (fun _ h => h) K.cl ?_
    refine d_call rfl (en_f rfl Try.call32) (put_spec W _ _ (asc (bunC l s) (D.take i)) (bunC l s (D.getD i (0, 0))) hI (by omega)) rfl rfl rfl (fun _ => K.cl) (fun _ _ _ h => h.tail) (fun o2 => ?_)
    obtain ⟨o2, ho2⟩ := o2
    dsimp only
    rw [e] at ho2 ⊢
    refine d_c rfl (Qui.ylds (y_assign rfl)) rfl rfl rfl (fun _ h => h.tail) K.cl ?_
    refine d_nil ?_
    refine f_blockN ?_
    refine f_then ?_
    refine c_region ?_
    refine s_y (y_move rfl) rfl rfl rfl ?_
    refine s_y (y_add rfl rfl (by omega)) rfl rfl rfl ?_
    refine s_y (y_assign rfl) rfl rfl rfl ?_
    refine s_nil ?_
    exact f_roundP (i + 1, some o2) ⟨by show i + 1 ≤ _; omega, ho2⟩ (by show D.length - (i + 1) < D.length - i; omega) ⟨rfl, rfl, rfl, rfl, rfl, trivial⟩ (fun w h => h.dropAt 1)
  rw [show i = D.length by omega, List.take_length] at ho hlen ⊢
  by_cases h5 : D.length ≤ 512
  rotate_left
  · rw [hfull, if_neg (fun q => h5 q.1)]
    refine c_exit ?_
    refine f_thenE ?_
    refine f_rndE ?_
    refine f_blockE ?_
    refine f_then ?_
    refine c_seq ?_
    refine c_seq ?_
    refine c_region ?_
    refine s_y (y_move rfl) rfl rfl rfl ?_
    refine s_y (y_len Try.tab rfl rfl) rfl rfl rfl ?_
    refine s_y (y_T (y_gtr rfl rfl) (by omega)) rfl rfl rfl ?_
    refine s_y (y_move rfl) rfl rfl rfl ?_
    iterate 7 refine s_skip rfl rfl rfl ?_
    refine s_y (y_pickT rfl rfl) rfl rfl rfl ?_
    refine s_nil ?_
    refine f_then ?_
    refine c_condT rfl ?_
    refine c_seq ?_
    refine c_region ?_
    refine s_y (y_assign rfl) rfl rfl rfl ?_
    refine s_nil ?_
    refine f_then ?_
    refine c_ret ?_
    refine f_thenR ?_
    exact f_ret () (res1 rfl rfl) (fun w h => h.tail.tail.tail.tail)
  have hD' : CL (K W (oc 3 o (ivals (asc (bunC l s) D)) :: oc 37 oD (cvals D) :: [(b8, row 26 [.int .i64 c.r, .int .i64 c.s, .int .i64 c.o])] :: [(b5, row 23 l.v.cells.toList)] :: Ls)) (.slice pd D.length cd) D := hvd ▸ CL.oc 1 rfl hoD
  refine c_exit ?_
  refine f_thenE ?_
  refine f_rndE ?_
  refine f_blockE ?_
  refine f_then ?_
  refine c_seq ?_
  refine c_seq ?_
  refine c_region ?_
  refine s_y (y_move rfl) rfl rfl rfl ?_
  refine s_y (y_len Try.tab rfl rfl) rfl rfl rfl ?_
  refine s_y (y_F (y_gtr rfl rfl) (by omega)) rfl rfl rfl ?_
  refine s_y (y_move rfl) rfl rfl rfl ?_
  refine s_y (y_move rfl) rfl rfl rfl ?_
  refine s_call (en_f rfl Try.call17) (sheets_spec W _ _ D hD' (by omega)) rfl rfl rfl (fun o3 => ?_)
  obtain ⟨o3, ho3⟩ := o3
  dsimp only
  have hlen3 := asc_len (·.1) D
  by_cases h6 : (asc (·.1) D).length + (asc (bunC l s) D).length ≤ 120
  · rw [hfull, if_pos ⟨h5, h6⟩]
    refine s_y (y_lenO Try.tab rfl (by assumption) rfl) rfl rfl rfl ?_
    refine s_y (y_move rfl) rfl rfl rfl ?_
    refine s_y (y_lenO Try.tab rfl (by assumption) rfl) rfl rfl rfl ?_
    refine s_y (y_add rfl rfl (by omega)) rfl rfl rfl ?_
    refine s_y (y_F (y_gtr rfl rfl) (by omega)) rfl rfl rfl ?_
    refine s_y (y_pickF rfl rfl) rfl rfl rfl ?_
    refine s_nil ?_
    refine f_then ?_
    refine c_condF rfl ?_
    refine c_skip ?_
    refine f_then ?_
    refine c_seq ?_
    refine c_region ?_
    refine s_y (y_assign rfl) rfl rfl rfl ?_
    refine s_nil ?_
    refine f_then ?_
    refine c_ret ?_
    exact f_ret () (res1 rfl rfl) (fun w h => h.tail.tail.tail.tail.tail)
  · rw [hfull, if_neg (fun q => h6 q.2)]
    refine s_y (y_lenO Try.tab rfl (by assumption) rfl) rfl rfl rfl ?_
    refine s_y (y_move rfl) rfl rfl rfl ?_
    refine s_y (y_lenO Try.tab rfl (by assumption) rfl) rfl rfl rfl ?_
    refine s_y (y_add rfl rfl (by omega)) rfl rfl rfl ?_
    refine s_y (y_T (y_gtr rfl rfl) (by omega)) rfl rfl rfl ?_
    refine s_y (y_pickF rfl rfl) rfl rfl rfl ?_
    refine s_nil ?_
    refine f_then ?_
    refine c_condT rfl ?_
    refine c_seq ?_
    refine c_region ?_
    refine s_y (y_assign rfl) rfl rfl rfl ?_
    refine s_nil ?_
    refine f_then ?_
    refine c_ret ?_
    refine f_thenR ?_
    exact f_ret () (res1 rfl rfl) (fun w h => h.tail.tail.tail.tail.tail)
end Go.KL
end

section
/- What a survey of spoiled cells leaves behind: the notes of each sheet, the sheets of each bundle. No program in sight. -/
namespace Go.KL
structure NE where
  k : Int
  o : Own
  xs : List Int
  b : Nat
structure BE where
  k : Int
  blk : Nat
  es : List Ent
  c : Nat
  b : Nat
def NE.ent (e : NE) : Ent := (e.k, osl e.o e.xs.length, e.b)
def BE.ent (e : BE) : Ent := (e.k, .map (some e.blk), e.b)
def NE.cell (e : NE) : Nat × Obj := (e.o.b, row 3 (e.o.pre ++ ivals e.xs ++ e.o.rest))
def BE.cell (e : BE) : Nat × Obj := (e.blk, mobj e.es e.c)
def nch (N : List NE) : Chunk := N.map NE.cell
def bch (B : List BE) : Chunk := B.map BE.cell
structure SurvN (note : Int × Int → Int) (U : List (Int × Int)) (N : List NE) (cn : Nat) : Prop where
  m : MOK (N.map NE.ent) cn
  o : ∀ e ∈ N, owf 1 e.o e.xs.length (ivals e.xs) ∧ e.o.pre.length ≤ 0
  d : ∀ e ∈ N, e.xs.Nodup
  v : ∀ e ∈ N, ∀ v, v ∈ e.xs ↔ ∃ x ∈ U, x.1 = e.k ∧ note x = v
  e : ∀ e ∈ N, ∃ x ∈ U, x.1 = e.k
  k : ∀ x ∈ U, ∃ e ∈ N, e.k = x.1
  l : N.length ≤ U.length ∧ ∀ e ∈ N, e.xs.length ≤ U.length
structure SurvB (bun : Int × Int → Int) (U : List (Int × Int)) (B : List BE) (cb : Nat) : Prop where
  m : MOK (B.map BE.ent) cb
  i : ∀ e ∈ B, MOK e.es e.c
  v : ∀ e ∈ B, ∀ k, k ∈ e.es.map (·.1) ↔ ∃ x ∈ U, bun x = e.k ∧ x.1 = k
  e : ∀ e ∈ B, ∃ x ∈ U, bun x = e.k
  k : ∀ x ∈ U, ∃ e ∈ B, e.k = bun x
  l : B.length ≤ U.length ∧ ∀ e ∈ B, e.es.length ≤ U.length
theorem SurvN.nil {note : Int × Int → Int} : SurvN note [] [] 0 := ⟨MOK.empty, by simp, by simp, by simp, by simp, by simp, by simp⟩
theorem SurvB.nil {bun : Int × Int → Int} : SurvB bun [] [] 0 := ⟨MOK.empty, by simp, by simp, by simp, by simp, by simp⟩
theorem SurvN.mem {note : Int × Int → Int} {U U' : List (Int × Int)} {N : List NE} {cn : Nat} (h : SurvN note U N cn) (hm : ∀ y, y ∈ U' ↔ y ∈ U) (hl : U.length ≤ U'.length) : SurvN note U' N cn :=
  ⟨h.m, h.o, h.d, fun e he v => (h.v e he v).trans ⟨fun ⟨x, hx, q⟩ => ⟨x, (hm x).2 hx, q⟩, fun ⟨x, hx, q⟩ => ⟨x, (hm x).1 hx, q⟩⟩, fun e he => (h.e e he).imp fun x q => ⟨(hm x).2 q.1, q.2⟩, fun x hx => h.k x ((hm x).1 hx), Nat.le_trans h.l.1 hl, fun e he => Nat.le_trans (h.l.2 e he) hl⟩
theorem SurvB.mem {bun : Int × Int → Int} {U U' : List (Int × Int)} {B : List BE} {cb : Nat} (h : SurvB bun U B cb) (hm : ∀ y, y ∈ U' ↔ y ∈ U) (hl : U.length ≤ U'.length) : SurvB bun U' B cb :=
  ⟨h.m, h.i, fun e he v => (h.v e he v).trans ⟨fun ⟨x, hx, q⟩ => ⟨x, (hm x).2 hx, q⟩, fun ⟨x, hx, q⟩ => ⟨x, (hm x).1 hx, q⟩⟩, fun e he => (h.e e he).imp fun x q => ⟨(hm x).2 q.1, q.2⟩, fun x hx => h.k x ((hm x).1 hx), Nat.le_trans h.l.1 hl, fun e he => Nat.le_trans (h.l.2 e he) hl⟩
/-! ### Entries -/
theorem mget_out {k : Int} {z : Value} : ∀ {es : List Ent}, k ∉ es.map (·.1) → mget k z es = z
  | [], _ => rfl
  | e :: r, h => by
    simp only [List.map_cons, List.mem_cons, not_or] at h
    simp only [mget, if_neg h.1]
    exact mget_out h.2
theorem mget_mid {k : Int} {z v : Value} {b : Nat} {R : List Ent} : ∀ {A : List Ent}, k ∉ A.map (·.1) → mget k z (A ++ (k, v, b) :: R) = v
  | [], _ => by simp [mget]
  | e :: r, h => by
    simp only [List.map_cons, List.mem_cons, not_or] at h
    simp only [List.cons_append, mget, if_neg h.1]
    exact mget_mid h.2
theorem mset_mid {k : Int} {v u : Value} {b c : Nat} {R : List Ent} : ∀ {A : List Ent}, k ∉ A.map (·.1) → mset k v c (A ++ (k, u, b) :: R) = A ++ (k, v, b) :: R
  | [], _ => by simp [mset]
  | e :: r, h => by
    simp only [List.map_cons, List.mem_cons, not_or] at h
    simp only [List.cons_append, mset, if_neg h.1]
    rw [mset_mid h.2]
theorem mhas_mid {k : Int} {u : Value} {b : Nat} {A R : List Ent} : mhas k (A ++ (k, u, b) :: R) = true := mhas_mem.2 (by simp)
theorem mhas_out {k : Int} {es : List Ent} (h : k ∉ es.map (·.1)) : mhas k es = false := by
  cases q : mhas k es with
  | false => rfl
  | true => exact absurd (mhas_mem.1 q) h
theorem nodup_mid {A R : List Int} {k : Int} (h : (A ++ k :: R).Nodup) : k ∉ A ∧ k ∉ R := by
  rw [List.nodup_append] at h
  obtain ⟨_, h2, h3⟩ := h
  exact ⟨fun q => h3 k q k (by simp) rfl, (List.nodup_cons.1 h2).1⟩
theorem MOK.snoc {es : List Ent} {c : Nat} (h : MOK es c) (k : Int) (v : Value) (hk : -9223372036854775808 ≤ k ∧ k ≤ 9223372036854775807) (hl : es.length < 1000000) (hn : k ∉ es.map (·.1)) : MOK (es ++ [(k, v, c)]) (c + 1) := by
  have := h.set k v hk hl
  rw [mset_new (mhas_out hn)] at this
  simpa [mclk, mhas_out hn] using this
theorem MOK.mid {A R : List Ent} {k : Int} {u v : Value} {b c : Nat} (h : MOK (A ++ (k, u, b) :: R) c) : MOK (A ++ (k, v, b) :: R) c :=
  ⟨by simpa using h.keys, by simpa using h.born, fun e he => by
    simp only [List.mem_append, List.mem_cons] at he
    rcases he with he | rfl | he
    · exact h.old e (by simp [he])
    · exact h.old (k, u, b) (by simp)
    · exact h.old e (by simp [he]), fun e he => by
    simp only [List.mem_append, List.mem_cons] at he
    rcases he with he | rfl | he
    · exact h.rng e (by simp [he])
    · exact h.rng (k, u, b) (by simp)
    · exact h.rng e (by simp [he]), by simpa using h.len⟩
theorem ent_keys (N : List NE) : (N.map NE.ent).map (·.1) = N.map NE.k := by simp [NE.ent]
theorem bent_keys (B : List BE) : (B.map BE.ent).map (·.1) = B.map BE.k := by simp [BE.ent]
theorem perm_mid {α : Type} (A R : List α) (x : α) : (A ++ x :: R).Perm (x :: (A ++ R)) := List.perm_middle
/-! ### One cell more: the notes of its sheet -/
structure StepN (note : Int × Int → Int) (U : List (Int × Int)) (N : List NE) (cn : Nat) (x : Int × Int) (oo : Option Own) (xs : List Int) (r : Chunk) : Prop where
  g : mget x.1 nilS (N.map NE.ent) = ov oo xs.length
  o : owfO 1 oo xs.length (ivals xs)
  l : xs.length ≤ U.length
  p : (nch N).Perm (oc 3 oo (ivals xs) ++ r)
  m : note x ∈ xs ↔ x ∈ U
  n : ∀ o2 : Own, owfO 1 (some o2) (xs.length + 1) (ivals (xs ++ [note x])) → x ∉ U → ∃ N', SurvN note (U ++ [x]) N' (mclk x.1 cn (N.map NE.ent)) ∧ N'.map NE.ent = mset x.1 (osl o2 (xs.length + 1)) cn (N.map NE.ent) ∧ (och 3 o2 (ivals (xs ++ [note x])) ++ r).Perm (nch N')
theorem SurvN.step {note : Int × Int → Int} {U : List (Int × Int)} {N : List NE} {cn : Nat} (h : SurvN note U N cn) (x : Int × Int) (hinj : ∀ y ∈ U, y.1 = x.1 → note y = note x → y = x) (hx : 0 ≤ x.1 ∧ x.1 ≤ 1048576) (hl : U.length < 1000000) :
    ∃ oo xs r, StepN note U N cn x oo xs r := by
  by_cases hk : ∃ e ∈ N, e.k = x.1
  · obtain ⟨e, he, hek⟩ := hk
    obtain ⟨A, R, rfl⟩ := List.append_of_mem he
    have hno := h.m.keys
    rw [ent_keys, List.map_append, List.map_cons] at hno
    obtain ⟨hA, hR⟩ := nodup_mid hno
    have hAe : x.1 ∉ (A.map NE.ent).map (·.1) := by rw [ent_keys, ← hek]; exact hA
    have hent : (A ++ e :: R).map NE.ent = A.map NE.ent ++ (x.1, osl e.o e.xs.length, e.b) :: R.map NE.ent := by rw [List.map_append, List.map_cons, ← hek]; rfl
    refine ⟨some e.o, e.xs, nch (A ++ R), ?_, h.o e he, h.l.2 e he, ?_, ?_, ?_⟩
    · rw [hent, mget_mid hAe]; rfl
    · simp [nch, oc, och, NE.cell]
    · rw [h.v e he]
      constructor
      · rintro ⟨y, hy, h1, h2⟩
        have := hinj y hy (h1.trans hek) h2
        exact this ▸ hy
      · exact fun q => ⟨x, q, hek.symm, rfl⟩
    · intro o2 ho2 hxU
      refine ⟨A ++ { e with o := o2, xs := e.xs ++ [note x] } :: R, ?_, ?_, ?_⟩
      · rw [hent, mclk, mhas_mid, if_pos rfl]
        have hmem : ∀ e' ∈ A ++ { e with o := o2, xs := e.xs ++ [note x] } :: R, (e' = { e with o := o2, xs := e.xs ++ [note x] }) ∨ (e' ∈ A ++ e :: R ∧ e'.k ≠ x.1) := by
          intro e' he'
          simp only [List.mem_append, List.mem_cons] at he'
          rcases he' with q | q | q
          · exact .inr ⟨by simp [q], fun z => hA (by rw [hek, ← z]; exact List.mem_map_of_mem q)⟩
          · exact .inl q
          · exact .inr ⟨by simp [q], fun z => hR (by rw [hek, ← z]; exact List.mem_map_of_mem q)⟩
        refine ⟨?_, ?_, ?_, ?_, ?_, ?_, ?_⟩
        · have hm := h.m
          rw [hent] at hm
          have := hm.mid (v := osl o2 (e.xs ++ [note x]).length)
          rw [List.map_append, List.map_cons]
          simpa [NE.ent, hek] using this
        · intro e' he'
          rcases hmem e' he' with rfl | ⟨q, _⟩
          · have := ho2
            simp only [List.length_append, List.length_singleton]
            exact this
          · exact h.o e' q
        · intro e' he'
          rcases hmem e' he' with rfl | ⟨q, _⟩
          · show (e.xs ++ [note x]).Nodup
            rw [List.nodup_append]
            refine ⟨h.d e he, by simp, ?_⟩
            intro a ha b hb hab
            simp at hb
            subst hb
            subst hab
            obtain ⟨y, hy, h1, h2⟩ := (h.v e he _).1 ha
            exact hxU (hinj y hy (h1.trans hek) h2 ▸ hy)
          · exact h.d e' q
        · intro e' he' v
          rcases hmem e' he' with rfl | ⟨q, hne⟩
          · show v ∈ e.xs ++ [note x] ↔ ∃ y ∈ U ++ [x], y.1 = e.k ∧ note y = v
            simp only [List.mem_append, List.mem_singleton]
            constructor
            · rintro (q | rfl)
              · obtain ⟨y, hy, h1⟩ := (h.v e he _).1 q
                exact ⟨y, .inl hy, h1⟩
              · exact ⟨x, .inr rfl, hek.symm, rfl⟩
            · rintro ⟨y, hy | rfl, h1, h2⟩
              · exact .inl ((h.v e he _).2 ⟨y, hy, h1, h2⟩)
              · exact .inr h2.symm
          · rw [h.v e' q]
            constructor
            · rintro ⟨y, hy, h1⟩
              exact ⟨y, by simp [hy], h1⟩
            · rintro ⟨y, hy, h1, h2⟩
              simp only [List.mem_append, List.mem_singleton] at hy
              rcases hy with hy | rfl
              · exact ⟨y, hy, h1, h2⟩
              · exact absurd h1.symm hne
        · intro e' he'
          rcases hmem e' he' with rfl | ⟨q, hne⟩
          · exact ⟨x, by simp, hek.symm⟩
          · obtain ⟨y, hy, h1⟩ := h.e e' q
            exact ⟨y, by simp [hy], h1⟩
        · intro y hy
          simp only [List.mem_append, List.mem_singleton] at hy
          rcases hy with hy | rfl
          · obtain ⟨e', he', h1⟩ := h.k y hy
            simp only [List.mem_append, List.mem_cons] at he'
            rcases he' with q | rfl | q
            · exact ⟨e', by simp [q], h1⟩
            · exact ⟨_, List.mem_append_right A List.mem_cons_self, h1⟩
            · exact ⟨e', by simp [q], h1⟩
          · exact ⟨_, List.mem_append_right A List.mem_cons_self, hek⟩
        · have h1 := h.l.1
          have h2 := h.l.2
          constructor
          · simp at h1 ⊢; omega
          · intro e' he'
            rw [List.length_append, List.length_singleton]
            rcases hmem e' he' with rfl | ⟨q, hne⟩
            · have := h2 e he
              show (e.xs ++ [note x]).length ≤ _
              simp; omega
            · have := h2 e' q; omega
      · rw [hent, mset_mid hAe, List.map_append, List.map_cons]
        simp [NE.ent, hek]
      · have := (perm_mid (A.map NE.cell) (R.map NE.cell) (o2.b, row 3 (o2.pre ++ ivals (e.xs ++ [note x]) ++ o2.rest))).symm
        simpa [nch, och, NE.cell] using this
  · have hout : x.1 ∉ (N.map NE.ent).map (·.1) := by
      rw [ent_keys]
      intro q
      obtain ⟨e, he, h1⟩ := List.mem_map.1 q
      exact hk ⟨e, he, h1⟩
    have hxU : x ∉ U := fun q => hk (h.k x q)
    refine ⟨none, [], nch N, ?_, ⟨rfl, rfl⟩, Nat.zero_le _, ?_, ?_, ?_⟩
    · rw [mget_out hout]; rfl
    · simp [oc]
    · exact ⟨fun q => by simp at q, fun q => absurd q hxU⟩
    · intro o2 ho2 _
      refine ⟨N ++ [⟨x.1, o2, [note x], cn⟩], ?_, ?_, ?_⟩
      · rw [mclk, mhas_out hout, if_neg (by decide)]
        have hmem : ∀ e' ∈ N ++ [⟨x.1, o2, [note x], cn⟩], (e' = ⟨x.1, o2, [note x], cn⟩) ∨ (e' ∈ N ∧ e'.k ≠ x.1) := by
          intro e' he'
          simp only [List.mem_append, List.mem_singleton] at he'
          rcases he' with q | q
          · exact .inr ⟨q, fun z => hk ⟨e', q, z⟩⟩
          · exact .inl q
        refine ⟨?_, ?_, ?_, ?_, ?_, ?_, ?_⟩
        · have h1 := h.l.1
          have := h.m.snoc x.1 (osl o2 1) ⟨by omega, by omega⟩ (by rw [List.length_map]; omega) hout
          rw [List.map_append]
          exact this
        · intro e' he'
          rcases hmem e' he' with rfl | ⟨q, _⟩
          · exact ho2
          · exact h.o e' q
        · intro e' he'
          rcases hmem e' he' with rfl | ⟨q, _⟩
          · simp
          · exact h.d e' q
        · intro e' he' v
          rcases hmem e' he' with rfl | ⟨q, hne⟩
          · show v ∈ [note x] ↔ ∃ y ∈ U ++ [x], y.1 = x.1 ∧ note y = v
            simp only [List.mem_append, List.mem_singleton]
            constructor
            · rintro rfl
              exact ⟨x, .inr rfl, rfl, rfl⟩
            · rintro ⟨y, hy | rfl, h1, h2⟩
              · exact absurd (h.k y hy) (by rw [h1]; exact hk)
              · exact h2.symm
          · rw [h.v e' q]
            constructor
            · rintro ⟨y, hy, h1⟩
              exact ⟨y, by simp [hy], h1⟩
            · rintro ⟨y, hy, h1, h2⟩
              simp only [List.mem_append, List.mem_singleton] at hy
              rcases hy with hy | rfl
              · exact ⟨y, hy, h1, h2⟩
              · exact absurd h1.symm hne
        · intro e' he'
          rcases hmem e' he' with rfl | ⟨q, hne⟩
          · exact ⟨x, by simp, rfl⟩
          · obtain ⟨y, hy, h1⟩ := h.e e' q
            exact ⟨y, by simp [hy], h1⟩
        · intro y hy
          simp only [List.mem_append, List.mem_singleton] at hy
          rcases hy with hy | rfl
          · obtain ⟨e', he', h1⟩ := h.k y hy
            exact ⟨e', by simp [he'], h1⟩
          · exact ⟨_, by simp; exact .inr rfl, rfl⟩
        · have h1 := h.l.1
          have h2 := h.l.2
          constructor
          · simp; omega
          · intro e' he'
            rw [List.length_append, List.length_singleton]
            rcases hmem e' he' with rfl | ⟨q, hne⟩
            · show [note x].length ≤ _
              simp
            · have := h2 e' q; omega
      · rw [mset_new (mhas_out hout), List.map_append]
        rfl
      · have : (nch N ++ och 3 o2 (ivals [note x])).Perm (nch (N ++ [⟨x.1, o2, [note x], cn⟩])) := by
          simp [nch, och, NE.cell]
        exact List.perm_append_comm.trans this
/-! ### One cell more: the sheets of its bundle -/
inductive StepB (bun : Int × Int → Int) (U : List (Int × Int)) (B : List BE) (cb : Nat) (x : Int × Int) : Prop where
  | new (g : mget (bun x) (.map none) (B.map BE.ent) = .map none)
      (n : ∀ blk : Nat, ∃ B', SurvB bun (U ++ [x]) B' (mclk (bun x) cb (B.map BE.ent)) ∧ B'.map BE.ent = mset (bun x) (.map (some blk)) cb (B.map BE.ent) ∧ mget (bun x) (.map none) (B'.map BE.ent) = .map (some blk) ∧ ([(blk, mobj (mset x.1 (.bool true) 0 []) (mclk x.1 0 []))] ++ bch B).Perm (bch B'))
  | old (blk : Nat) (es : List Ent) (c : Nat) (r : Chunk) (g : mget (bun x) (.map none) (B.map BE.ent) = .map (some blk)) (p : (bch B).Perm ([(blk, mobj es c)] ++ r))
      (n : ∃ B', SurvB bun (U ++ [x]) B' cb ∧ B'.map BE.ent = B.map BE.ent ∧ ([(blk, mobj (mset x.1 (.bool true) c es) (mclk x.1 c es))] ++ r).Perm (bch B'))
theorem SurvB.step {bun : Int × Int → Int} {U : List (Int × Int)} {B : List BE} {cb : Nat} (h : SurvB bun U B cb) (x : Int × Int) (hx : 0 ≤ x.1 ∧ x.1 ≤ 1048576) (hb : 0 ≤ bun x ∧ bun x ≤ 4611686018427387904) (hl : U.length < 1000000) : StepB bun U B cb x := by
  have hkeys : ∀ {es : List Ent} {c : Nat} {k : Int}, k ∈ (mset x.1 (.bool true) c es).map (·.1) ↔ k ∈ es.map (·.1) ∨ k = x.1 := by
    intro es c k
    cases hh : mhas x.1 es with
    | true =>
      rw [mset_keys _ _ _ _ hh]
      exact ⟨.inl, fun q => q.elim id fun z => z ▸ mhas_mem.1 hh⟩
    | false => rw [mset_new hh]; simp
  have hlen : ∀ {es : List Ent} {c : Nat}, (mset x.1 (.bool true) c es).length ≤ es.length + 1 := by
    intro es c
    cases hh : mhas x.1 es with
    | true =>
      have := congrArg List.length (mset_keys x.1 (.bool true) c es hh)
      simp only [List.length_map] at this
      omega
    | false => rw [mset_new hh]; simp
  by_cases hk : ∃ e ∈ B, e.k = bun x
  · obtain ⟨e, he, hek⟩ := hk
    obtain ⟨A, R, rfl⟩ := List.append_of_mem he
    have hno := h.m.keys
    rw [bent_keys, List.map_append, List.map_cons] at hno
    obtain ⟨hA, hR⟩ := nodup_mid hno
    have hAe : bun x ∉ (A.map BE.ent).map (·.1) := by rw [bent_keys, ← hek]; exact hA
    have hent : (A ++ e :: R).map BE.ent = A.map BE.ent ++ (bun x, .map (some e.blk), e.b) :: R.map BE.ent := by rw [List.map_append, List.map_cons, ← hek]; rfl
    refine .old e.blk e.es e.c (bch (A ++ R)) ?_ ?_ ?_
    · rw [hent, mget_mid hAe]
    · simp [bch, BE.cell]
    · refine ⟨A ++ { e with es := mset x.1 (.bool true) e.c e.es, c := mclk x.1 e.c e.es } :: R, ?_, ?_, ?_⟩
      · have hmem : ∀ e' ∈ A ++ { e with es := mset x.1 (.bool true) e.c e.es, c := mclk x.1 e.c e.es } :: R, (e' = { e with es := mset x.1 (.bool true) e.c e.es, c := mclk x.1 e.c e.es }) ∨ (e' ∈ A ++ e :: R ∧ e'.k ≠ bun x) := by
          intro e' he'
          simp only [List.mem_append, List.mem_cons] at he'
          rcases he' with q | q | q
          · exact .inr ⟨by simp [q], fun z => hA (by rw [hek, ← z]; exact List.mem_map_of_mem q)⟩
          · exact .inl q
          · exact .inr ⟨by simp [q], fun z => hR (by rw [hek, ← z]; exact List.mem_map_of_mem q)⟩
        refine ⟨?_, ?_, ?_, ?_, ?_, ?_⟩
        · have := h.m
          rw [List.map_append, List.map_cons] at this ⊢
          exact this
        · intro e' he'
          rcases hmem e' he' with rfl | ⟨q, _⟩
          · have := h.l.2 e he
            exact (h.i e he).set x.1 (.bool true) ⟨by omega, by omega⟩ (by omega)
          · exact h.i e' q
        · intro e' he' k
          rcases hmem e' he' with rfl | ⟨q, hne⟩
          · show k ∈ (mset x.1 (.bool true) e.c e.es).map (·.1) ↔ ∃ y ∈ U ++ [x], bun y = e.k ∧ y.1 = k
            rw [hkeys, h.v e he]
            constructor
            · rintro (⟨y, hy, h1⟩ | rfl)
              · exact ⟨y, by simp [hy], h1⟩
              · exact ⟨x, by simp, hek.symm, rfl⟩
            · rintro ⟨y, hy, h1, h2⟩
              simp only [List.mem_append, List.mem_singleton] at hy
              rcases hy with hy | rfl
              · exact .inl ⟨y, hy, h1, h2⟩
              · exact .inr h2.symm
          · rw [h.v e' q]
            constructor
            · rintro ⟨y, hy, h1⟩
              exact ⟨y, by simp [hy], h1⟩
            · rintro ⟨y, hy, h1, h2⟩
              simp only [List.mem_append, List.mem_singleton] at hy
              rcases hy with hy | rfl
              · exact ⟨y, hy, h1, h2⟩
              · exact absurd h1.symm hne
        · intro e' he'
          rcases hmem e' he' with rfl | ⟨q, hne⟩
          · exact ⟨x, by simp, hek.symm⟩
          · obtain ⟨y, hy, h1⟩ := h.e e' q
            exact ⟨y, by simp [hy], h1⟩
        · intro y hy
          simp only [List.mem_append, List.mem_singleton] at hy
          rcases hy with hy | rfl
          · obtain ⟨e', he', h1⟩ := h.k y hy
            simp only [List.mem_append, List.mem_cons] at he'
            rcases he' with q | rfl | q
            · exact ⟨e', by simp [q], h1⟩
            · exact ⟨_, List.mem_append_right A List.mem_cons_self, h1⟩
            · exact ⟨e', by simp [q], h1⟩
          · exact ⟨_, List.mem_append_right A List.mem_cons_self, hek⟩
        · have h1 := h.l.1
          have h2 := h.l.2
          constructor
          · simp at h1 ⊢; omega
          · intro e' he'
            rw [List.length_append, List.length_singleton]
            rcases hmem e' he' with rfl | ⟨q, hne⟩
            · have := h2 e he
              have := hlen (es := e.es) (c := e.c)
              show (mset x.1 (.bool true) e.c e.es).length ≤ _
              omega
            · have := h2 e' q; omega
      · rw [List.map_append, List.map_append, List.map_cons, List.map_cons]
        rfl
      · have := (perm_mid (A.map BE.cell) (R.map BE.cell) (e.blk, mobj (mset x.1 (.bool true) e.c e.es) (mclk x.1 e.c e.es))).symm
        simpa [bch, BE.cell] using this
  · have hout : bun x ∉ (B.map BE.ent).map (·.1) := by
      rw [bent_keys]
      intro q
      obtain ⟨e, he, h1⟩ := List.mem_map.1 q
      exact hk ⟨e, he, h1⟩
    have hnoU : ∀ y ∈ U, bun y ≠ bun x := fun y hy q => by
      obtain ⟨e, he, h1⟩ := h.k y hy
      exact hk ⟨e, he, h1.trans q⟩
    refine .new (mget_out hout) fun blk => ?_
    refine ⟨B ++ [⟨bun x, blk, mset x.1 (.bool true) 0 [], mclk x.1 0 [], cb⟩], ?_, ?_, ?_, ?_⟩
    · rw [show mclk (bun x) cb (B.map BE.ent) = cb + 1 by simp [mclk, mhas_out hout]]
      have hmem : ∀ e' ∈ B ++ [⟨bun x, blk, mset x.1 (.bool true) 0 [], mclk x.1 0 [], cb⟩], (e' = ⟨bun x, blk, mset x.1 (.bool true) 0 [], mclk x.1 0 [], cb⟩) ∨ (e' ∈ B ∧ e'.k ≠ bun x) := by
        intro e' he'
        simp only [List.mem_append, List.mem_singleton] at he'
        rcases he' with q | q
        · exact .inr ⟨q, fun z => hk ⟨e', q, z⟩⟩
        · exact .inl q
      refine ⟨?_, ?_, ?_, ?_, ?_, ?_⟩
      · have h1 := h.l.1
        have := h.m.snoc (bun x) (.map (some blk)) ⟨by omega, by omega⟩ (by rw [List.length_map]; omega) hout
        rw [List.map_append]
        exact this
      · intro e' he'
        rcases hmem e' he' with rfl | ⟨q, _⟩
        · exact MOK.empty.set x.1 (.bool true) ⟨by omega, by omega⟩ (by simp)
        · exact h.i e' q
      · intro e' he' k
        rcases hmem e' he' with rfl | ⟨q, hne⟩
        · show k ∈ (mset x.1 (.bool true) 0 []).map (·.1) ↔ ∃ y ∈ U ++ [x], bun y = bun x ∧ y.1 = k
          rw [hkeys]
          constructor
          · rintro (q | rfl)
            · simp at q
            · exact ⟨x, by simp, rfl, rfl⟩
          · rintro ⟨y, hy, h1, h2⟩
            simp only [List.mem_append, List.mem_singleton] at hy
            rcases hy with hy | rfl
            · exact absurd h1 (hnoU y hy)
            · exact .inr h2.symm
        · rw [h.v e' q]
          constructor
          · rintro ⟨y, hy, h1⟩
            exact ⟨y, by simp [hy], h1⟩
          · rintro ⟨y, hy, h1, h2⟩
            simp only [List.mem_append, List.mem_singleton] at hy
            rcases hy with hy | rfl
            · exact ⟨y, hy, h1, h2⟩
            · exact absurd h1.symm hne
      · intro e' he'
        rcases hmem e' he' with rfl | ⟨q, hne⟩
        · exact ⟨x, by simp, rfl⟩
        · obtain ⟨y, hy, h1⟩ := h.e e' q
          exact ⟨y, by simp [hy], h1⟩
      · intro y hy
        simp only [List.mem_append, List.mem_singleton] at hy
        rcases hy with hy | rfl
        · obtain ⟨e', he', h1⟩ := h.k y hy
          exact ⟨e', by simp [he'], h1⟩
        · exact ⟨_, by simp; exact .inr rfl, rfl⟩
      · have h1 := h.l.1
        have h2 := h.l.2
        constructor
        · simp; omega
        · intro e' he'
          rw [List.length_append, List.length_singleton]
          rcases hmem e' he' with rfl | ⟨q, hne⟩
          · show (mset x.1 (.bool true) 0 []).length ≤ _
            have := hlen (es := []) (c := 0)
            simp at this
            omega
          · have := h2 e' q; omega
    · rw [mset_new (mhas_out hout), List.map_append]
      rfl
    · rw [List.map_append, List.map_singleton]
      have := mget_mid (z := .map none) (v := .map (some blk)) (b := cb) (R := []) hout
      exact this
    · have : (bch B ++ [(blk, mobj (mset x.1 (.bool true) 0 []) (mclk x.1 0 []))]).Perm (bch (B ++ [⟨bun x, blk, mset x.1 (.bool true) 0 [], mclk x.1 0 [], cb⟩])) := by
        simp [bch, BE.cell]
      exact List.perm_append_comm.trans this
end Go.KL
end

section
/- Walks: package sheet, the survey. -/
namespace Go.KL
open Go.Proofs
structure Dmg where
  N : List NE
  cn : Nat
  B : List BE
  cb : Nat
structure Dmg.OK (l : Lay) (s : Int) (U : List (Int × Int)) (d : Dmg) : Prop where
  n : SurvN (notC l s) U d.N d.cn
  b : SurvB (bunC l s) U d.B d.cb
/-- Its memory: the two maps, the lists, the inner maps. -/
abbrev Dmg.ls (d : Dmg) (bn bb : Nat) (Ls : List Chunk) : List Chunk := [(bn, mobj (d.N.map NE.ent) d.cn)] :: [(bb, mobj (d.B.map BE.ent) d.cb)] :: nch d.N :: bch d.B :: Ls
abbrev dmgV (bn bb : Nat) (n : Int) : Value := .agg #[.map (some bn), .map (some bb), .int .i64 n]
theorem notC_inj {l : Lay} {s : Int} (h : Gd l s) {x y : Int × Int} (hx : CellIn l s x.1 x.2) (hy : CellIn l s y.1 y.2) (e : notC l s x = notC l s y) : x = y := by
  have h1 := cell_note (p := np l) h.1 hx.1 hx.2
  have h2 := cell_note (p := np l) h.1 hy.1 hy.2
  unfold notC at e
  rw [e, h2] at h1
  exact h1.symm
theorem bunC_bd {l : Lay} {s : Int} (h : Gd l s) {x : Int × Int} (hc : CellIn l s x.1 x.2) : 0 ≤ bunC l s x ∧ bunC l s x ≤ 4611686018427387904 := by
  have hm := h.1.m; have h4 := h.2; have h5 := h.1.r; have h6 := h.1.c; have hb := h.1.b
  have hp := np_bd h.1
  have hx1 := hc.1; have hx2 := hc.2
  have r1 := rF_bd l x.1 hm.1 hc.1.1
  have hd : rD l s (rF l x.1) = min l.m (s - rF l x.1) := rfl
  have hk := div_bd (a := rF l x.1) (b := l.m) (by omega) hm.1
  have q1 := mul_bd (a := rF l x.1 / l.m) (b := l.r) (A := 1048576) (B := 16) (by omega) (by omega)
  have q2 := mul_bd (a := rF l x.1 / l.m * l.r) (b := l.c) (A := 1048576 * 16) (B := 16) (by omega) (by omega)
  have p1 := perS_bd (d := l.m) (b := l.b) (by omega) (by omega)
  have p2 := perS_bd (d := rD l s (rF l x.1)) (b := l.b) (by omega) (by omega)
  have q3 := mul_bd (a := rF l x.1 / l.m * l.r * l.c) (b := (l.m + l.b - 1) / l.b) (A := 1048576 * 16 * 16) (B := 10000) (by omega) (by omega)
  have q4 := mul_bd (a := x.2) (b := (rD l s (rF l x.1) + l.b - 1) / l.b) (A := 256) (B := 10000) (by omega) (by omega)
  rw [bunC_of h hc]
  cases l.d with
  | true =>
    have q5 := div_bd (a := rD l s (rF l x.1) - 1 - (x.1 - rF l x.1)) (b := l.b) (by omega) hb.1
    simp only [if_true]
    omega
  | false =>
    have q5 := div_bd (a := x.1 - rF l x.1) (b := l.b) (by omega) hb.1
    simp only [Bool.false_eq_true, if_false]
    omega
theorem K.perm {W : World} {Ls : List Chunk} {w : World} {A B : Chunk} (h : K W (A :: Ls) w) (p : A.Perm B) : K W (B :: Ls) w := h.weak [] (by simpa using p.append_right Ls.flatten)
theorem K.permAt {W : World} {Ls : List Chunk} {w : World} (i : Nat) {A B : Chunk} (h : K W Ls w) (hi : Ls.getD i [] = A) (hil : i < Ls.length) (p : A.Perm B) : K W (Ls.set i B) w := by
  refine h.weak [] ?_
  rw [List.append_nil]
  have e1 : Ls = Ls.take i ++ A :: Ls.drop (i + 1) := by
    have h2 : Ls[i] = A := by rw [List.getD_eq_getElem?_getD, List.getElem?_eq_getElem hil] at hi; exact hi
    rw [← h2, List.getElem_cons_drop, List.take_append_drop]
  have e2 : Ls.set i B = Ls.take i ++ B :: Ls.drop (i + 1) := by rw [List.set_eq_take_append_cons_drop, if_pos hil]
  rw [e2]
  conv => lhs; rw [e1]
  simp only [List.flatten_append, List.flatten_cons]
  exact (p.append_right _).append_left _
attribute [local irreducible] SC St Fin Sq Sw Ylds Doos Sets Enters Spec CellIs CellsAre Then Ret Rnd Chn resOK ints bools recs arr
set_option maxRecDepth 10000 in
set_option maxHeartbeats 8000000 in
theorem index_yes (W : World) (Ls : List Chunk) (v : Value) (xs : List Int) (n : Int) (hv : IL (K W Ls) v xs) (hl : xs.length ≤ 1000000) (h : n ∈ xs) :
    Spec Try.prog 92 #[v, .int .i64 n] (K W Ls) (X := { i : Nat // i < xs.length }) (fun i => .int .i64 (i.1 : Int)) (fun _ => K W Ls) := by
  obtain ⟨pa, c, rfl, hc, hcs⟩ := hv.open
  refine enter (args := [_, _]) Try.func92 rfl Try.ntmps92 rfl ?_
  refine c_seq ?_
  refine c_region ?_
  refine s_y (y_assign rfl) rfl rfl rfl ?_
  refine s_nil ?_
  refine f_then ?_
  refine c_seq ?_
  refine c_seq ?_
  refine c_region ?_
  refine s_y (y_move rfl) rfl rfl rfl ?_
  refine s_y (y_len Try.tab rfl rfl) rfl rfl rfl ?_
  refine s_y (y_move rfl) rfl rfl rfl ?_
  refine s_nil ?_
  refine f_then ?_
  refine c_block ?_
  refine c_loopP (α := Nat) (fun z => [(0, .slice pa xs.length c), (1, .int .i64 n), (7, .int .i64 xs.length), (8, .int .i64 z)]) (fun z => z ≤ xs.length ∧ n ∉ xs.take z)
    (fun _ => K W Ls) (fun z => xs.length - z) 0 ⟨rfl, rfl, rfl, rfl, trivial⟩ ⟨Nat.zero_le _, by simp⟩ (fun w h => h) ?_
  rintro i ⟨hi, hno⟩
  have hlt : i < xs.length := by
    rcases Nat.lt_or_ge i xs.length with q | q
    · exact q
    · exact absurd h (by rwa [List.take_of_length_le q] at hno)
  refine c_seq ?_
  refine c_region ?_
  refine s_y (y_T (y_lss rfl rfl) (by omega)) rfl rfl rfl ?_
  refine s_nil ?_
  refine f_then ?_
  refine c_seq ?_
  refine c_condT rfl ?_
  refine c_skip ?_
  refine f_then ?_
  refine c_seq ?_
  refine c_block ?_
  refine c_seq ?_
  refine c_region ?_
  refine s_y (y_move rfl) rfl rfl rfl ?_
  refine s_y (y_assign rfl) rfl rfl rfl ?_
  refine s_nil ?_
  refine f_then ?_
  refine c_seq ?_
  refine c_region ?_
  refine s_y (y_move rfl) rfl rfl rfl ?_
  refine s_y (y_move rfl) rfl rfl rfl ?_
  refine s_y (y_move rfl) rfl rfl rfl ?_
  obtain ⟨b, q, rfl, hcell⟩ := hcs (by omega)
  have hci := hcell i (by omega)
  by_cases he : n = xs.getD i 0
  · refine s_y (y_indexAddr1o Try.tab rfl rfl rfl rfl _ rfl (by omega)) rfl rfl rfl ?_
    refine s_y (y_load Try.tab rfl rfl hci) rfl rfl rfl ?_
    refine s_y (y_T (y_eql rfl rfl) (by assumption)) rfl rfl rfl ?_
    refine s_nil ?_
    refine f_then ?_
    refine c_condT rfl ?_
    refine c_seq ?_
    refine c_region ?_
    refine s_y (y_move rfl) rfl rfl rfl ?_
    refine s_y (y_assign rfl) rfl rfl rfl ?_
    refine s_nil ?_
    refine f_then ?_
    refine c_ret ?_
    refine f_blockR ?_
    refine f_thenR ?_
    refine f_rndR ?_
    refine f_blockR ?_
    refine f_thenR ?_
    exact f_retE ⟨i, hlt⟩ (res1 rfl rfl) rfl (fun w h => h)
  · refine s_y (y_indexAddr1o Try.tab rfl rfl rfl rfl _ rfl (by omega)) rfl rfl rfl ?_
    refine s_y (y_load Try.tab rfl rfl hci) rfl rfl rfl ?_
    refine s_y (y_F (y_eql rfl rfl) (by assumption)) rfl rfl rfl ?_
    refine s_nil ?_
    refine f_then ?_
    refine c_condF rfl ?_
    refine c_skip ?_
    refine f_blockN ?_
    refine f_then ?_
    refine c_region ?_
    refine s_y (y_add rfl rfl (by omega)) rfl rfl rfl ?_
    refine s_y (y_move rfl) rfl rfl rfl ?_
    refine s_nil ?_
    exact f_roundP (i + 1) ⟨by omega, by rw [take_snoc xs i 0 (by omega)]; simp only [List.mem_append, List.mem_singleton]; rintro (h | h); exact hno h; exact he h⟩ (by omega) ⟨rfl, rfl, rfl, rfl, trivial⟩ (fun w h => h)
set_option maxRecDepth 10000 in
set_option maxHeartbeats 8000000 in
theorem index_no (W : World) (Ls : List Chunk) (v : Value) (xs : List Int) (n : Int) (hv : IL (K W Ls) v xs) (hl : xs.length ≤ 1000000) (h : n ∉ xs) :
    Spec Try.prog 92 #[v, .int .i64 n] (K W Ls) (fun _ : Unit => .int .i64 (-1)) (fun _ => K W Ls) := by
  obtain ⟨pa, c, rfl, hc, hcs⟩ := hv.open
  refine enter (args := [_, _]) Try.func92 rfl Try.ntmps92 rfl ?_
  refine c_seq ?_
  refine c_region ?_
  refine s_y (y_assign rfl) rfl rfl rfl ?_
  refine s_nil ?_
  refine f_then ?_
  refine c_seq ?_
  refine c_seq ?_
  refine c_region ?_
  refine s_y (y_move rfl) rfl rfl rfl ?_
  refine s_y (y_len Try.tab rfl rfl) rfl rfl rfl ?_
  refine s_y (y_move rfl) rfl rfl rfl ?_
  refine s_nil ?_
  refine f_then ?_
  refine c_block ?_
  refine c_loopP (α := Nat) (fun z => [(0, .slice pa xs.length c), (1, .int .i64 n), (7, .int .i64 xs.length), (8, .int .i64 z)]) (fun z => z ≤ xs.length)
    (fun _ => K W Ls) (fun z => xs.length - z) 0 ⟨rfl, rfl, rfl, rfl, trivial⟩ (Nat.zero_le _) (fun w h => h) ?_
  rintro i hi
  refine c_seq ?_
  refine c_region ?_
  refine s_y (y_lss rfl rfl) rfl rfl rfl ?_
  refine s_nil ?_
  refine f_then ?_
  refine c_seq ?_
  refine c_condD rfl (fun hlt => ?_) (fun hge => ?_)
  rotate_left
  · refine c_exit ?_
    refine f_thenE ?_
    refine f_rndE ?_
    refine f_blockE ?_
    refine f_then ?_
    refine c_seq ?_
    refine c_region ?_
    refine s_y (y_assign rfl) rfl rfl rfl ?_
    refine s_nil ?_
    refine f_then ?_
    refine c_ret ?_
    exact f_ret () (res1 rfl rfl) (fun w h => h)
  refine c_skip ?_
  refine f_then ?_
  refine c_seq ?_
  refine c_block ?_
  refine c_seq ?_
  refine c_region ?_
  refine s_y (y_move rfl) rfl rfl rfl ?_
  refine s_y (y_assign rfl) rfl rfl rfl ?_
  refine s_nil ?_
  refine f_then ?_
  refine c_seq ?_
  refine c_region ?_
  refine s_y (y_move rfl) rfl rfl rfl ?_
  refine s_y (y_move rfl) rfl rfl rfl ?_
  refine s_y (y_move rfl) rfl rfl rfl ?_
  obtain ⟨b, q, rfl, hcell⟩ := hcs (by omega)
  have hci := hcell i (by omega)
  have he : ¬ n = xs.getD i 0 := fun q => h (q ▸ getD_mem (by omega))
  refine s_y (y_indexAddr1o Try.tab rfl rfl rfl rfl _ rfl (by omega)) rfl rfl rfl ?_
  refine s_y (y_load Try.tab rfl rfl hci) rfl rfl rfl ?_
  refine s_y (y_F (y_eql rfl rfl) (by assumption)) rfl rfl rfl ?_
  refine s_nil ?_
  refine f_then ?_
  refine c_condF rfl ?_
  refine c_skip ?_
  refine f_blockN ?_
  refine f_then ?_
  refine c_region ?_
  refine s_y (y_add rfl rfl (by omega)) rfl rfl rfl ?_
  refine s_y (y_move rfl) rfl rfl rfl ?_
  refine s_nil ?_
  exact f_roundP (i + 1) (by omega) (by omega) ⟨rfl, rfl, rfl, rfl, trivial⟩ (fun w h => h)
set_option maxHeartbeats 8000000 in
theorem contains_yes (W : World) (Ls : List Chunk) (v : Value) (xs : List Int) (n : Int) (hv : IL (K W Ls) v xs) (hl : xs.length ≤ 1000000) (h : n ∈ xs) :
    Spec Try.prog 85 #[v, .int .i64 n] (K W Ls) (fun _ : Unit => .bool true) (fun _ => K W Ls) := by
  refine enter (args := [_, _]) Try.func85 rfl Try.ntmps85 rfl ?_
  refine c_seq ?_
  refine c_region ?_
  refine s_y (y_assign rfl) rfl rfl rfl ?_
  refine s_nil ?_
  refine f_then ?_
  refine c_seq ?_
  refine c_region ?_
  refine s_y (y_move rfl) rfl rfl rfl ?_
  refine s_y (y_move rfl) rfl rfl rfl ?_
  refine s_call (en_f rfl Try.call92) (index_yes W _ v xs n hv hl h) rfl rfl rfl (fun i => ?_)
  refine s_y (y_T (y_geq rfl rfl) (by omega)) rfl rfl rfl ?_
  refine s_y (y_assign rfl) rfl rfl rfl ?_
  refine s_nil ?_
  refine f_then ?_
  refine c_ret ?_
  exact f_ret () (res1 rfl rfl) (fun w h => h)
set_option maxHeartbeats 8000000 in
theorem contains_no (W : World) (Ls : List Chunk) (v : Value) (xs : List Int) (n : Int) (hv : IL (K W Ls) v xs) (hl : xs.length ≤ 1000000) (h : n ∉ xs) :
    Spec Try.prog 85 #[v, .int .i64 n] (K W Ls) (fun _ : Unit => .bool false) (fun _ => K W Ls) := by
  refine enter (args := [_, _]) Try.func85 rfl Try.ntmps85 rfl ?_
  refine c_seq ?_
  refine c_region ?_
  refine s_y (y_assign rfl) rfl rfl rfl ?_
  refine s_nil ?_
  refine f_then ?_
  refine c_seq ?_
  refine c_region ?_
  refine s_y (y_move rfl) rfl rfl rfl ?_
  refine s_y (y_move rfl) rfl rfl rfl ?_
  refine s_call (en_f rfl Try.call92) (index_no W _ _ _ _ hv hl h) rfl rfl rfl (fun _ => ?_)
  refine s_y (y_F (y_geq rfl rfl) (by omega)) rfl rfl rfl ?_
  refine s_y (y_assign rfl) rfl rfl rfl ?_
  refine s_nil ?_
  refine f_then ?_
  refine c_ret ?_
  exact f_ret () (res1 rfl rfl) (fun w h => h)
set_option maxRecDepth 10000 in
set_option maxHeartbeats 16000000 in
theorem survey_spec (W : World) (Ls : List Chunk) (l : Lay) (s : Int) (v : Value) (cs : List (Int × Int)) (h : Gd l s) (hin : ∀ x ∈ cs, CellIn l s x.1 x.2) (hv : CL (K W Ls) v cs) (hl : cs.length ≤ 100000) :
    Spec Try.prog 65 #[v, .func (.func 54) #[runV l s (np l)] #[], .func (.func 63) #[runV l s (np l)] #[]] (K W Ls)
      (X := { x : Nat × Nat × Dmg // x.2.2.OK l s cs }) (fun x => dmgV x.1.1 x.1.2.1 (onces cs).length) (fun x => K W (x.1.2.2.ls x.1.1 x.1.2.1 Ls)) := by
  have hp := np_bd h.1
  obtain ⟨pa, ca, rfl, hca, hcs⟩ := hv.open
  refine enter (args := [_, _, _]) Try.func65 rfl Try.ntmps65 rfl ?_
  refine c_seq ?_
  refine c_region ?_
  refine s_do (do_alloc Try.tab rfl) rfl rfl rfl (fun b6 => ?_)
  refine s_nil ?_
  refine f_then ?_
  refine c_seq ?_
  refine c_region ?_
  refine s_do do_makeMap rfl rfl rfl (fun bn => ?_)
  refine s_do do_makeMap rfl rfl rfl (fun bb => ?_)
  refine s_y (y_build Try.tab rfl rfl rfl rfl rfl) rfl rfl rfl ?_
  refine s_do (do_alloc Try.tab rfl) rfl rfl rfl (fun b7 => ?_)
  refine s_set (set_box Try.tab 0 rfl rfl rfl rfl rfl rfl rfl) rfl rfl ?_
  refine s_nil ?_
  refine f_then ?_
  refine c_seq ?_
  refine c_seq ?_
  refine c_region ?_
  refine s_y (y_move rfl) rfl rfl rfl ?_
  refine s_y (y_len Try.tab rfl rfl) rfl rfl rfl ?_
  refine s_y (y_move rfl) rfl rfl rfl ?_
  refine s_nil ?_
  refine f_then ?_
  refine c_block ?_
  refine c_loopP (α := Nat × Dmg) (fun z => [(1, .func (.func 54) #[runV l s (np l)] #[]), (2, .func (.func 63) #[runV l s (np l)] #[]), (6, .pointer (some ⟨b6, 0, none⟩)), (7, .pointer (some ⟨b7, 0, none⟩)), (15, .slice pa cs.length ca), (16, .int .i64 cs.length), (17, .int .i64 z.1)]) (fun z => z.1 ≤ cs.length ∧ z.2.OK l s (cs.take z.1))
    (fun z => K W ([(b7, row 75 [.map (some bn), .map (some bb), .int .i64 (onces (cs.take z.1)).length])] :: z.2.ls bn bb ([(b6, row 75 [.map none, .map none, .int .i64 0])] :: Ls)))
    (fun z => cs.length - z.1) (0, ⟨[], 0, [], 0⟩) ⟨rfl, rfl, rfl, rfl, rfl, rfl, rfl, trivial⟩ ⟨Nat.zero_le _, ⟨SurvN.nil, SurvB.nil⟩⟩ (fun w h => h.addNil.addNil.fronts [3, 4, 4]) ?_
  rintro ⟨i, d⟩ ⟨hi, hd⟩
  dsimp only at hi hd ⊢
  refine c_seq ?_
  refine c_region ?_
  refine s_y (y_lss rfl rfl) rfl rfl rfl ?_
  refine s_nil ?_
  refine f_then ?_
  refine c_seq ?_
  refine c_condD rfl (fun hlt => ?_) (fun hge => ?_)
  rotate_left
  · rw [show i = cs.length by omega, List.take_length] at hd ⊢
    refine c_exit ?_
    refine f_thenE ?_
    refine f_rndE ?_
    refine f_blockE ?_
    refine f_then ?_
    refine c_seq ?_
    refine c_region ?_
    refine s_y (y_loadA Try.tab rfl rfl rfl rfl (cells_row0 0 rfl rfl)) rfl rfl rfl ?_
    refine s_set (set_box Try.tab 5 rfl rfl rfl rfl rfl rfl rfl) rfl rfl ?_
    refine s_nil ?_
    refine f_then ?_
    refine c_ret ?_
    exact f_ret (X := { x : Nat × Nat × Dmg // x.2.2.OK l s cs }) ⟨(bn, bb, d), hd⟩ (resA Try.tab rfl rfl rfl rfl rfl (cells_row0 5 rfl rfl)) (fun w h => h.tail.dropAt 4)
  obtain ⟨b, q, rfl, hcell⟩ := hcs (by omega)
  have hcx := (hcell i (by omega)).1.cls (C := K W ([(b7, row 75 [.map (some bn), .map (some bb), .int .i64 (onces (cs.take i)).length])] :: d.ls bn bb ([(b6, row 75 [.map none, .map none, .int .i64 0])] :: Ls))) fun w h => h.tail.tail.tail.tail.tail.tail
  have hci := hin _ (getD_mem (d := (0, 0)) (show i < cs.length by omega))
  have hsn := onces_snoc (cs.take i) (cs.getD i (0, 0))
  rw [← take_snoc cs i (0, 0) (by omega)] at hsn
  have hU : (cs.take i).length = i := by rw [List.length_take]; omega
  have hinU : ∀ y ∈ cs.take i, CellIn l s y.1 y.2 := fun y hy => hin y (List.mem_of_mem_take hy)
  have htk := take_snoc cs i (0, 0) (by omega)
  generalize hx : cs.getD i (0, 0) = x at *
  obtain ⟨oo, xs, r, hst⟩ := hd.n.step x (fun y hy _ e => notC_inj h (hinU y hy) hci e) (by have := h.2; omega) (by omega)
  have hnx : notC l s x = noteF l s (np l) x.1 x.2 := rfl
  refine c_skip ?_
  refine f_then ?_
  refine c_seq ?_
  refine c_block ?_
  refine c_seq ?_
  refine c_region ?_
  refine s_y (y_indexAddr (s := 2) Try.tab rfl rfl rfl rfl _ rfl (by omega)) rfl rfl rfl ?_
  refine s_y (y_loadA Try.tab rfl rfl rfl rfl hcx) rfl rfl rfl ?_
  refine s_do (do_alloc Try.tab rfl) rfl rfl rfl (fun b9 => ?_)
  refine s_set (set_box Try.tab 0 rfl rfl rfl rfl rfl rfl rfl) rfl rfl ?_
  refine s_nil ?_
  refine f_then ?_
  refine c_seq ?_
  refine c_region ?_
  refine s_y (y_move rfl) rfl rfl rfl ?_
  refine s_y (y_loadA Try.tab rfl rfl rfl rfl (cells_row0 0 rfl rfl)) rfl rfl rfl ?_
  refine s_call (en_m rfl rfl Try.call54) (note_spec W _ l s (np l) x.1 x.2 h.1 h.2 hp hci.1 hci.2) rfl rfl rfl (fun _ => ?_)
  refine s_y (y_assign rfl) rfl rfl rfl ?_
  refine s_nil ?_
  refine f_then ?_
  refine c_seq ?_
  refine c_seq ?_
  refine c_region ?_
  refine s_y (y_fieldAddr0 Try.tab rfl rfl rfl rfl rfl) rfl rfl rfl ?_
  refine s_y (y_load Try.tab rfl rfl (cell_row 1 rfl rfl)) rfl rfl rfl ?_
  refine s_y (y_fieldAddr0 Try.tab rfl rfl rfl rfl rfl) rfl rfl rfl ?_
  refine s_y (y_load Try.tab rfl rfl (cell_row 0 rfl rfl)) rfl rfl rfl ?_
  refine s_y (y_eq (y_lookup Try.tab 2 rfl rfl rfl rfl Try.zeroValue29 rfl) hst.g) rfl rfl rfl ?_
  refine St.cls (C' := K W (oc 3 oo (ivals xs) :: r :: [(b9, row 37 [.int .i64 x.1, .int .i64 x.2])] :: [(b7, row 75 [.map (some bn), .map (some bb), .int .i64 (onces (cs.take i)).length])] :: [(bn, mobj (d.N.map NE.ent) d.cn)] :: [(bb, mobj (d.B.map BE.ent) d.cb)] :: bch d.B :: [(b6, row 75 [.map none, .map none, .int .i64 0])] :: Ls)) ?_ (fun w h => ((h.front 4).perm hst.p).split)
  have hI : IL (K W (oc 3 oo (ivals xs) :: r :: [(b9, row 37 [.int .i64 x.1, .int .i64 x.2])] :: [(b7, row 75 [.map (some bn), .map (some bb), .int .i64 (onces (cs.take i)).length])] :: [(bn, mobj (d.N.map NE.ent) d.cn)] :: [(bb, mobj (d.B.map BE.ent) d.cb)] :: bch d.B :: [(b6, row 75 [.map none, .map none, .int .i64 0])] :: Ls)) (ov oo xs.length) xs := IL.oc 0 rfl hst.o
  have hxl := hst.l
  by_cases hm : x ∈ cs.take i
  · refine s_y (y_move rfl) rfl rfl rfl ?_
    refine s_call (en_f rfl Try.call85) (contains_yes W _ _ xs (notC l s x) hI (by omega) (hst.m.2 hm)) rfl rfl rfl (fun _ => ?_)
    rw [if_pos (mem_onces.2 hm)] at hsn
    refine s_nil ?_
    refine f_then ?_
    refine c_condT rfl ?_
    refine c_exit ?_
    refine f_thenE ?_
    refine f_blockE ?_
    refine f_then ?_
    refine c_region ?_
    refine s_y (y_add rfl rfl (by omega)) rfl rfl rfl ?_
    refine s_y (y_move rfl) rfl rfl rfl ?_
    refine s_nil ?_
    have hmm : ∀ y, y ∈ cs.take (i + 1) ↔ y ∈ cs.take i := fun y => by rw [htk, List.mem_append, List.mem_singleton]; exact ⟨fun q => q.elim id fun e => e ▸ hm, .inl⟩
    have hlm : (cs.take i).length ≤ (cs.take (i + 1)).length := by rw [htk]; simp
    exact f_roundP (i + 1, d) ⟨by show i + 1 ≤ _; omega, ⟨hd.n.mem hmm hlm, hd.b.mem hmm hlm⟩⟩ (by show cs.length - (i + 1) < cs.length - i; omega) ⟨rfl, rfl, rfl, rfl, rfl, rfl, rfl, trivial⟩ (fun w h => by dsimp only; rw [hsn]; exact ((h.join.perm hst.p.symm).dropAt 1).fronts [3, 3, 3])
  refine s_y (y_move rfl) rfl rfl rfl ?_
  refine s_call (en_f rfl Try.call85) (contains_no W _ _ xs (notC l s x) hI (by omega) (fun q => hm (hst.m.1 q))) rfl rfl rfl (fun _ => ?_)
  rw [if_neg (fun q => hm (mem_onces.1 q))] at hsn
  have hol := (onces_spec (cs.take i)).2.2
  refine s_nil ?_
  refine f_then ?_
  refine c_condF rfl ?_
  refine c_skip ?_
  refine f_then ?_
  refine c_seq ?_
  refine c_region ?_
  refine s_y (y_fieldAddrB Try.tab 2 rfl rfl rfl rfl rfl) rfl rfl rfl ?_
  refine s_y (y_load Try.tab rfl rfl (cell_row 3 rfl rfl)) rfl rfl rfl ?_
  refine s_y (y_add rfl rfl (by omega)) rfl rfl rfl ?_
  refine s_y (y_fieldAddrB Try.tab 2 rfl rfl rfl rfl rfl) rfl rfl rfl ?_
  refine s_set (set_rowB Try.tab 3 rfl rfl rfl rfl rfl rfl) rfl rfl ?_
  refine s_nil ?_
  refine f_then ?_
  refine c_seq ?_
  refine SC.cls (C' := K W (oc 3 oo (ivals xs) :: r :: [(b9, row 37 [.int .i64 x.1, .int .i64 x.2])] :: [(b7, row 75 [.map (some bn), .map (some bb), .int .i64 ((onces (cs.take i)).length + 1)])] :: [(bn, mobj (d.N.map NE.ent) d.cn)] :: [(bb, mobj (d.B.map BE.ent) d.cb)] :: bch d.B :: [(b6, row 75 [.map none, .map none, .int .i64 0])] :: Ls)) ?_ (fun w h => h)
  refine c_plan [.c 0, .c 1, .c 2, .c 3, .c 4, .c 5, .c 6, .c 7, .c 8, .c 9, .s 10, .s 11, .s 12] [12] ((K W (r :: [(b9, row 37 [.int .i64 x.1, .int .i64 x.2])] :: [(b7, row 75 [.map (some bn), .map (some bb), .int .i64 ((onces (cs.take i)).length + 1)])] :: [(bn, mobj (d.N.map NE.ent) d.cn)] :: [(bb, mobj (d.B.map BE.ent) d.cb)] :: bch d.B :: [(b6, row 75 [.map none, .map none, .int .i64 0])] :: Ls))) Try.mixed (by kernel_rfl) rfl K.cl ?_
  refine d_c rfl (Qui.ylds (y_fieldAddr0 Try.tab rfl rfl rfl rfl rfl)) rfl rfl rfl (fun _ h => h.tail) K.cl ?_
  refine d_c rfl (Qui.ylds (y_load Try.tab rfl rfl (cell_row 2 rfl rfl))) rfl rfl rfl (fun _ h => h.tail) K.cl ?_
  refine d_c rfl (Qui.ylds (y_fieldAddr0 Try.tab rfl rfl rfl rfl rfl)) rfl rfl rfl (fun _ h => h.tail) K.cl ?_
  refine d_c rfl (Qui.ylds (y_load Try.tab rfl rfl (cell_row 1 rfl rfl))) rfl rfl rfl (fun _ h => h.tail) K.cl ?_
  refine d_c rfl (Qui.ylds (y_fieldAddr0 Try.tab rfl rfl rfl rfl rfl)) rfl rfl rfl (fun _ h => h.tail) K.cl ?_
  refine d_c rfl (Qui.ylds (y_load Try.tab rfl rfl (cell_row 2 rfl rfl))) rfl rfl rfl (fun _ h => h.tail) K.cl ?_
  refine d_c rfl (Qui.ylds (y_fieldAddr0 Try.tab rfl rfl rfl rfl rfl)) rfl rfl rfl (fun _ h => h.tail) K.cl ?_
  refine d_c rfl (Qui.ylds (y_load Try.tab rfl rfl (cell_row 1 rfl rfl))) rfl rfl rfl (fun _ h => h.tail) K.cl ?_
  refine d_c rfl (Qui.ylds (y_eq (y_lookup Try.tab 3 rfl rfl rfl rfl Try.zeroValue29 rfl) hst.g)) rfl rfl rfl (fun _ h => h.tail) K.cl ?_
  refine d_c rfl (Qui.ylds (y_move rfl)) rfl rfl rfl (fun _ h => h.tail) K.cl ?_
  refine d_s rfl (do_buildSlice1 Try.tab ⟨rfl, rfl, rfl, rfl⟩ rfl rfl rfl rfl) rfl rfl rfl (fun _ => K.cl) (fun _ _ _ h => h.tail.tail) (fun b45 => ?_)
  refine d_s rfl (do_appendO Try.tab 1 (s := 1) (by_ := 8) (k := 1) (news := [.int .i64 (noteF l s (np l) x.1 x.2)]) (xs := ivals xs) (o := oo) rfl rfl ⟨rfl, rfl, rfl, rfl⟩ rfl rfl (by simp) hst.o (cells_row0 0 rfl rfl) rfl (by simp [Value.oneCell']) (by omega) (by unfold maxLen; omega) (by omega)) rfl rfl rfl (fun _ => K.cl) (fun _ _ _ h => h.tail.tail) (fun o2 => ?_)
  refine d_set rfl (set_map Try.tab 5 rfl rfl rfl rfl rfl rfl) rfl rfl K.cl (fun q => by cases q) ?_
  obtain ⟨o2, ho2⟩ := o2
  dsimp only
  have ho3 : owfO 1 (some o2) (xs.length + 1) (ivals (xs ++ [notC l s x])) := by rw [← ivals_snoc]; exact ho2
  obtain ⟨N', hN, eN, pN⟩ := hst.n o2 ho3 hm
  rw [← htk] at hN
  refine d_nil ?_
  refine f_then ?_
  refine c_seq ?_
  refine c_region ?_
  refine s_y (y_move rfl) rfl rfl rfl ?_
  refine s_y (y_move rfl) rfl rfl rfl ?_
  refine St.cls (C' := K W (nch N' :: [(b9, row 37 [.int .i64 x.1, .int .i64 x.2])] :: [(b7, row 75 [.map (some bn), .map (some bb), .int .i64 ((onces (cs.take i)).length + 1)])] :: [(bn, mobj (N'.map NE.ent) (mclk x.1 d.cn (d.N.map NE.ent)))] :: [(bb, mobj (d.B.map BE.ent) d.cb)] :: bch d.B :: [(b6, row 75 [.map none, .map none, .int .i64 0])] :: Ls)) ?_ (fun w h => by rw [eN]; refine ((K.tail h).join.perm ?_); rw [← ivals_snoc] at pN; exact pN)
  refine s_call (en_m rfl rfl Try.call63) (bundleOf_spec W _ l s (np l) (noteF l s (np l) x.1 x.2) h.1 h.2 hp (note_bd l s (np l) x.1 x.2 h.1 hp hci.1 hci.2)) rfl rfl rfl (fun _ => ?_)
  refine s_y (y_assign rfl) rfl rfl rfl ?_
  refine s_nil ?_
  refine f_then ?_
  refine c_seq ?_
  refine c_seq ?_
  refine c_region ?_
  refine s_y (y_fieldAddrB Try.tab 1 rfl rfl rfl rfl rfl) rfl rfl rfl ?_
  refine s_y (y_load Try.tab rfl rfl (cell_row 2 rfl rfl)) rfl rfl rfl ?_
  refine s_y (y_move rfl) rfl rfl rfl ?_
  have hbb : 0 ≤ bunC l s x ∧ bunC l s x ≤ 4611686018427387904 := bunC_bd h hci
  rcases hd.b.step x (by have := h.2; omega) hbb (by omega) with ⟨g, n⟩ | ⟨blk, es, c, r2, g, p, B', hB, eB, pB⟩
  · refine s_y (y_eq (y_lookup Try.tab 4 rfl rfl rfl rfl Try.zeroValue84 rfl) g) rfl rfl rfl ?_
    refine s_y (y_eqlM0 Try.tab rfl rfl) rfl rfl rfl ?_
    refine s_nil ?_
    refine f_then ?_
    refine c_condT rfl ?_
    refine c_region ?_
    refine s_y (y_fieldAddrB Try.tab 1 rfl rfl rfl rfl rfl) rfl rfl rfl ?_
    refine s_y (y_load Try.tab rfl rfl (cell_row 2 rfl rfl)) rfl rfl rfl ?_
    refine s_y (y_move rfl) rfl rfl rfl ?_
    refine s_do do_makeMap rfl rfl rfl (fun blk => ?_)
    obtain ⟨B', hB, eB, gB, pB⟩ := n blk
    rw [← htk] at hB
    refine s_set (set_map Try.tab 5 rfl rfl rfl rfl rfl rfl) rfl rfl ?_
    refine St.cls (C' := K W ([(blk, mobj [] 0)] :: nch N' :: [(b9, row 37 [.int .i64 x.1, .int .i64 x.2])] :: [(b7, row 75 [.map (some bn), .map (some bb), .int .i64 ((onces (cs.take i)).length + 1)])] :: [(bn, mobj (N'.map NE.ent) (mclk x.1 d.cn (d.N.map NE.ent)))] :: [(bb, mobj (B'.map BE.ent) (mclk (bunC l s x) d.cb (d.B.map BE.ent)))] :: bch d.B :: [(b6, row 75 [.map none, .map none, .int .i64 0])] :: Ls)) ?_ (fun w h => by rw [eB]; exact h)
    refine s_nil ?_
    refine f_then ?_
    refine c_region ?_
    refine s_y (y_fieldAddrB Try.tab 1 rfl rfl rfl rfl rfl) rfl rfl rfl ?_
    refine s_y (y_load Try.tab rfl rfl (cell_row 3 rfl rfl)) rfl rfl rfl ?_
    refine s_y (y_move rfl) rfl rfl rfl ?_
    refine s_y (y_eq (y_lookup Try.tab 5 rfl rfl rfl rfl Try.zeroValue84 rfl) gB) rfl rfl rfl ?_
    refine s_y (y_fieldAddr0 Try.tab rfl rfl rfl rfl rfl) rfl rfl rfl ?_
    refine s_y (y_load Try.tab rfl rfl (cell_row 2 rfl rfl)) rfl rfl rfl ?_
    refine s_set (set_map Try.tab 0 rfl rfl rfl rfl rfl rfl) rfl rfl ?_
    refine s_nil ?_
    refine f_blockN ?_
    refine f_then ?_
    refine c_region ?_
    refine s_y (y_add rfl rfl (by omega)) rfl rfl rfl ?_
    refine s_y (y_move rfl) rfl rfl rfl ?_
    refine s_nil ?_
    exact f_roundP (i + 1, ⟨N', mclk x.1 d.cn (d.N.map NE.ent), B', mclk (bunC l s x) d.cb (d.B.map BE.ent)⟩) ⟨by show i + 1 ≤ _; omega, ⟨hN, hB⟩⟩ (by show cs.length - (i + 1) < cs.length - i; omega) ⟨rfl, rfl, rfl, rfl, rfl, rfl, rfl, trivial⟩ (fun w h => by dsimp only; rw [hsn, List.length_append]; exact ((((K.fronts [6, 1] h).join.perm pB).dropAt 2).fronts [1, 4, 4, 4]))
  · refine s_y (y_eq (y_lookup Try.tab 4 rfl rfl rfl rfl Try.zeroValue84 rfl) g) rfl rfl rfl ?_
    refine s_y (y_eqlM0 Try.tab rfl rfl) rfl rfl rfl ?_
    rw [← htk] at hB
    refine s_nil ?_
    refine f_then ?_
    refine c_condF rfl ?_
    refine c_skip ?_
    refine f_then ?_
    refine c_region ?_
    refine s_y (y_fieldAddrB Try.tab 1 rfl rfl rfl rfl rfl) rfl rfl rfl ?_
    refine s_y (y_load Try.tab rfl rfl (cell_row 2 rfl rfl)) rfl rfl rfl ?_
    refine s_y (y_move rfl) rfl rfl rfl ?_
    refine St.cls (C' := K W ([(blk, mobj es c)] :: r2 :: nch N' :: [(b9, row 37 [.int .i64 x.1, .int .i64 x.2])] :: [(b7, row 75 [.map (some bn), .map (some bb), .int .i64 ((onces (cs.take i)).length + 1)])] :: [(bn, mobj (N'.map NE.ent) (mclk x.1 d.cn (d.N.map NE.ent)))] :: [(bb, mobj (d.B.map BE.ent) d.cb)] :: [(b6, row 75 [.map none, .map none, .int .i64 0])] :: Ls)) ?_ (fun w h => ((K.front 5 h).perm p).split)
    refine s_y (y_eq (y_lookup Try.tab 6 rfl rfl rfl rfl Try.zeroValue84 rfl) g) rfl rfl rfl ?_
    refine s_y (y_fieldAddr0 Try.tab rfl rfl rfl rfl rfl) rfl rfl rfl ?_
    refine s_y (y_load Try.tab rfl rfl (cell_row 3 rfl rfl)) rfl rfl rfl ?_
    refine s_set (set_map Try.tab 0 rfl rfl rfl rfl rfl rfl) rfl rfl ?_
    refine s_nil ?_
    refine f_blockN ?_
    refine f_then ?_
    refine c_region ?_
    refine s_y (y_add rfl rfl (by omega)) rfl rfl rfl ?_
    refine s_y (y_move rfl) rfl rfl rfl ?_
    refine s_nil ?_
    exact f_roundP (i + 1, ⟨N', mclk x.1 d.cn (d.N.map NE.ent), B', d.cb⟩) ⟨by show i + 1 ≤ _; omega, ⟨hN, hB⟩⟩ (by show cs.length - (i + 1) < cs.length - i; omega) ⟨rfl, rfl, rfl, rfl, rfl, rfl, rfl, trivial⟩ (fun w h => by dsimp only [Dmg.ls]; rw [hsn, List.length_append, eB]; exact (((K.join h).perm pB).dropAt 2).fronts [1, 4, 4, 4])
end Go.KL
end

section
/- Walks: package sheet, examine. -/
namespace Go.KL
open Go.Proofs
theorem asc_ext {α : Type} {f : α → Int} {U V : List α} (h : ∀ x, x ∈ U ↔ x ∈ V) : asc f U = asc f V :=
  Asc.ext (asc_asc f U) (asc_asc f V) fun y => by simp only [mem_asc, h]
theorem asc_onces {α : Type} [DecidableEq α] (f : α → Int) (U : List α) : asc f (onces U) = asc f U := asc_ext fun _ => mem_onces
theorem skeys_asc {es : List Ent} {c : Nat} (h : MOK es c) {α : Type} {f : α → Int} {U : List α} (hk : ∀ k, k ∈ es.map (·.1) ↔ ∃ x ∈ U, f x = k) : skeys es = asc f U := by
  have hp : (skeys es).Perm (es.map (·.1)) := List.mergeSort_perm _ _
  refine Asc.ext ?_ (asc_asc f U) fun y => by rw [hp.mem_iff, hk, mem_asc]
  have h1 : (skeys es).Pairwise (fun a b => leI a b = true) := by
    refine List.pairwise_mergeSort ?_ ?_ _
    · intro a b c h1 h2
      simp only [leI, decide_eq_true_eq] at h1 h2 ⊢
      omega
    · intro a b
      simp only [leI, Bool.or_eq_true, decide_eq_true_eq]
      omega
  have h2 : (skeys es).Nodup := hp.nodup_iff.2 h.keys
  refine (h1.and h2).imp ?_
  rintro a b ⟨q1, q2⟩
  simp only [leI, decide_eq_true_eq] at q1
  omega
theorem skeys_len (es : List Ent) : (skeys es).length = es.length := by
  have := (List.mergeSort_perm (es.map (·.1)) leI).length_eq
  rw [List.length_map] at this
  exact this
theorem SurvN.keys {note : Int × Int → Int} {U : List (Int × Int)} {N : List NE} {cn : Nat} (h : SurvN note U N cn) (k : Int) : k ∈ (N.map NE.ent).map (·.1) ↔ ∃ x ∈ U, x.1 = k := by
  rw [ent_keys, List.mem_map]
  constructor
  · rintro ⟨e, he, rfl⟩; exact h.e e he
  · rintro ⟨x, hx, rfl⟩; exact h.k x hx
theorem SurvB.keys {bun : Int × Int → Int} {U : List (Int × Int)} {B : List BE} {cb : Nat} (h : SurvB bun U B cb) (k : Int) : k ∈ (B.map BE.ent).map (·.1) ↔ ∃ x ∈ U, bun x = k := by
  rw [bent_keys, List.mem_map]
  constructor
  · rintro ⟨e, he, rfl⟩; exact h.e e he
  · rintro ⟨x, hx, rfl⟩; exact h.k x hx
theorem SurvN.len {note : Int × Int → Int} {U : List (Int × Int)} {N : List NE} {cn : Nat} (h : SurvN note U N cn) : N.length = (asc (·.1) (onces U)).length := by
  rw [asc_onces, ← skeys_asc h.m h.keys, skeys_len, List.length_map]
theorem SurvB.len {bun : Int × Int → Int} {U : List (Int × Int)} {B : List BE} {cb : Nat} (h : SurvB bun U B cb) : B.length = (asc bun (onces U)).length := by
  rw [asc_onces, ← skeys_asc h.m h.keys, skeys_len, List.length_map]
attribute [local irreducible] SC St Fin Sq Sw Ylds Doos Sets Enters Spec CellIs CellsAre Then Ret Rnd Chn resOK ints bools recs arr
set_option maxRecDepth 10000 in
set_option maxHeartbeats 16000000 in
theorem examine_ok (W : World) (Ls : List Chunk) (l : Lay) (s : Int) (v u : Value) (cs : List (Int × Int)) (c : Cos) (R : List Int) (hr : RefOK l s cs c R) (hv : CL (K W Ls) v cs) (hu : IL (K W Ls) u R) (hl : cs.length ≤ 100000) (hRl : R.length ≤ 100000) :
    Spec Try.prog 43 #[l.v, .int .i64 s, v, c.v, u] (K W Ls) (X := { x : Nat × Nat × Dmg // x.2.2.OK l s cs }) (fun x => .tuple #[dmgV x.1.1 x.1.2.1 (onces cs).length, .int .i64 0]) (fun x => K W (x.1.2.2.ls x.1.1 x.1.2.1 Ls)) := by
  obtain ⟨h, hin, hrin, hcst, hn5, hf5⟩ := hr
  have g1 := hcst.r; have g2 := hcst.s; have g3 := hcst.o
  have hp := np_bd h.1
  have hs := h.2
  obtain ⟨pa, ca, rfl, hca, hcs⟩ := hv.open
  obtain ⟨pr, cr, rfl, hcr, hrs⟩ := hu.open
  refine enter (args := [_, _, _, _, _]) Try.func43 rfl Try.ntmps43 rfl ?_
  refine c_seq ?_
  refine c_region ?_
  refine s_do (do_box rfl) rfl rfl rfl (fun b5 => ?_)
  refine s_do (do_box rfl) rfl rfl rfl (fun b8 => ?_)
  refine s_do (do_alloc Try.tab rfl) rfl rfl rfl (fun b10 => ?_)
  refine s_y (y_assign rfl) rfl rfl rfl ?_
  refine s_nil ?_
  refine f_then ?_
  refine c_seq ?_
  refine c_region ?_
  refine s_y (y_loadA Try.tab rfl rfl rfl rfl (cells_row0 2 rfl rfl)) rfl rfl rfl ?_
  refine s_y (y_move rfl) rfl rfl rfl ?_
  refine s_call (en_f rfl Try.call52) (newRun_gd _ _ _ _ h) rfl rfl rfl (fun _ => ?_)
  refine s_y (y_move rfl) rfl rfl rfl ?_
  refine s_y (y_extract rfl rfl) rfl rfl rfl ?_
  refine s_y (y_extract rfl rfl) rfl rfl rfl ?_
  refine s_do (do_alloc Try.tab rfl) rfl rfl rfl (fun b12 => ?_)
  refine s_set (set_box Try.tab 0 rfl rfl rfl rfl rfl rfl rfl) rfl rfl ?_
  refine s_y (y_assign rfl) rfl rfl rfl ?_
  refine s_nil ?_
  refine f_then ?_
  refine c_seq ?_
  refine c_seq ?_
  refine c_region ?_
  refine s_y (y_move rfl) rfl rfl rfl ?_
  refine s_y (y_F (y_neq rfl rfl) (by omega)) rfl rfl rfl ?_
  refine s_nil ?_
  refine f_then ?_
  refine c_condF rfl ?_
  refine c_skip ?_
  refine f_then ?_
  refine c_seq ?_
  refine c_seq ?_
  refine c_region ?_
  refine s_y (y_move rfl) rfl rfl rfl ?_
  refine s_y (y_len Try.tab rfl rfl) rfl rfl rfl ?_
  refine s_y (y_move rfl) rfl rfl rfl ?_
  refine s_nil ?_
  refine f_then ?_
  refine c_block ?_
  refine c_loopP (α := Nat) (fun z => [(1, .int .i64 s), (2, .slice pa cs.length ca), (4, .slice pr R.length cr), (5, .pointer (some ⟨b5, 0, none⟩)), (8, .pointer (some ⟨b8, 0, none⟩)), (10, .pointer (some ⟨b10, 0, none⟩)), (12, .pointer (some ⟨b12, 0, none⟩)), (29, .slice pa cs.length ca), (30, .int .i64 cs.length), (31, .int .i64 z)]) (fun z => z ≤ cs.length) (fun _ => K W ([(b12, row 95 [.int .i64 l.r, .int .i64 l.c, .int .i64 l.m, .int .i64 l.b, .bool l.d, .int .i64 s, .int .i64 (np l)])] :: [(b10, row 75 [.map none, .map none, .int .i64 0])] :: [(b8, row 26 [.int .i64 c.r, .int .i64 c.s, .int .i64 c.o])] :: [(b5, row 23 l.v.cells.toList)] :: Ls)) (fun z => cs.length - z) 0 ⟨rfl, rfl, rfl, rfl, rfl, rfl, rfl, rfl, rfl, rfl, trivial⟩ (Nat.zero_le _) (fun w h => h) ?_
  rintro i hi
  refine c_seq ?_
  refine c_region ?_
  refine s_y (y_lss rfl rfl) rfl rfl rfl ?_
  refine s_nil ?_
  refine f_then ?_
  refine c_seq ?_
  refine c_condD rfl (fun hlt => ?_) (fun hge => ?_)
  · obtain ⟨b, q, rfl, hcell⟩ := hcs (by omega)
    have hcx := (hcell i (by omega)).1.cls (C := K W ([(b12, row 95 [.int .i64 l.r, .int .i64 l.c, .int .i64 l.m, .int .i64 l.b, .bool l.d, .int .i64 s, .int .i64 (np l)])] :: [(b10, row 75 [.map none, .map none, .int .i64 0])] :: [(b8, row 26 [.int .i64 c.r, .int .i64 c.s, .int .i64 c.o])] :: [(b5, row 23 l.v.cells.toList)] :: Ls)) fun w h => h.tail.tail.tail.tail
    have hci := hin _ (getD_mem (d := (0, 0)) (show i < cs.length by omega))
    refine c_skip ?_
    refine f_then ?_
    refine c_seq ?_
    refine c_block ?_
    refine c_seq ?_
    refine c_region ?_
    refine s_y (y_indexAddr (s := 2) Try.tab rfl rfl rfl rfl _ rfl (by omega)) rfl rfl rfl ?_
    refine s_y (y_loadA Try.tab rfl rfl rfl rfl hcx) rfl rfl rfl ?_
    refine s_do (do_alloc Try.tab rfl) rfl rfl rfl (fun b15 => ?_)
    refine s_set (set_box Try.tab 0 rfl rfl rfl rfl rfl rfl rfl) rfl rfl ?_
    refine s_nil ?_
    refine f_then ?_
    refine c_seq ?_
    refine c_region ?_
    refine s_y (y_loadA Try.tab rfl rfl rfl rfl (cells_row0 1 rfl rfl)) rfl rfl rfl ?_
    refine s_y (y_loadA Try.tab rfl rfl rfl rfl (cells_row0 0 rfl rfl)) rfl rfl rfl ?_
    refine s_call (en_f rfl Try.call53) (has_yes _ _ _ _ _ _ _ (by omega) (by omega) hci) rfl rfl rfl (fun _ => ?_)
    refine s_y (y_notT rfl) rfl rfl rfl ?_
    refine s_nil ?_
    refine f_then ?_
    refine c_condF rfl ?_
    refine c_skip ?_
    refine f_blockN ?_
    refine f_then ?_
    refine c_region ?_
    refine s_y (y_add rfl rfl (by omega)) rfl rfl rfl ?_
    refine s_y (y_move rfl) rfl rfl rfl ?_
    refine s_nil ?_
    exact f_roundP (i + 1) (by omega) (by omega) ⟨rfl, rfl, rfl, rfl, rfl, rfl, rfl, rfl, rfl, rfl, trivial⟩ (fun w h => h.tail)
  refine c_exit ?_
  refine f_thenE ?_
  refine f_rndE ?_
  refine f_blockE ?_
  refine f_then ?_
  refine c_seq ?_
  refine c_seq ?_
  refine c_region ?_
  refine s_y (y_move rfl) rfl rfl rfl ?_
  refine s_y (y_len Try.tab rfl rfl) rfl rfl rfl ?_
  refine s_y (y_move rfl) rfl rfl rfl ?_
  refine s_nil ?_
  refine f_then ?_
  refine c_block ?_
  refine c_loopP (α := Nat) (fun z => [(1, .int .i64 s), (2, .slice pa cs.length ca), (4, .slice pr R.length cr), (5, .pointer (some ⟨b5, 0, none⟩)), (8, .pointer (some ⟨b8, 0, none⟩)), (10, .pointer (some ⟨b10, 0, none⟩)), (12, .pointer (some ⟨b12, 0, none⟩)), (41, .slice pr R.length cr), (42, .int .i64 R.length), (43, .int .i64 z)]) (fun z => z ≤ R.length) (fun _ => K W ([(b12, row 95 [.int .i64 l.r, .int .i64 l.c, .int .i64 l.m, .int .i64 l.b, .bool l.d, .int .i64 s, .int .i64 (np l)])] :: [(b10, row 75 [.map none, .map none, .int .i64 0])] :: [(b8, row 26 [.int .i64 c.r, .int .i64 c.s, .int .i64 c.o])] :: [(b5, row 23 l.v.cells.toList)] :: Ls)) (fun z => R.length - z) 0 ⟨rfl, rfl, rfl, rfl, rfl, rfl, rfl, rfl, rfl, rfl, trivial⟩ (Nat.zero_le _) (fun w h => h) ?_
  clear hge hi i
  rintro i hi
  refine c_seq ?_
  refine c_region ?_
  refine s_y (y_lss rfl rfl) rfl rfl rfl ?_
  refine s_nil ?_
  refine f_then ?_
  refine c_seq ?_
  refine c_condD rfl (fun hlt => ?_) (fun hge => ?_)
  · obtain ⟨b, q, rfl, hcell⟩ := hrs (by omega)
    have hcx := (hcell i (by omega)).cls (C := K W ([(b12, row 95 [.int .i64 l.r, .int .i64 l.c, .int .i64 l.m, .int .i64 l.b, .bool l.d, .int .i64 s, .int .i64 (np l)])] :: [(b10, row 75 [.map none, .map none, .int .i64 0])] :: [(b8, row 26 [.int .i64 c.r, .int .i64 c.s, .int .i64 c.o])] :: [(b5, row 23 l.v.cells.toList)] :: Ls)) fun w h => h.tail.tail.tail.tail
    have hci := hrin _ (getD_mem (d := 0) (show i < R.length by omega))
    refine c_skip ?_
    refine f_then ?_
    refine c_seq ?_
    refine c_block ?_
    refine c_seq ?_
    refine c_region ?_
    refine s_y (y_indexAddr1o Try.tab rfl rfl rfl rfl _ rfl (by omega)) rfl rfl rfl ?_
    refine s_y (y_load Try.tab rfl rfl hcx) rfl rfl rfl ?_
    refine s_y (y_assign rfl) rfl rfl rfl ?_
    refine s_nil ?_
    refine f_then ?_
    refine c_seq ?_
    refine c_region ?_
    refine s_y (y_move rfl) rfl rfl rfl ?_
    refine s_y (y_move rfl) rfl rfl rfl ?_
    refine s_y (y_sub rfl rfl (by omega)) rfl rfl rfl ?_
    refine s_call (en_f rfl Try.call55) (sw_yes _ (by omega)) rfl rfl rfl (fun _ => ?_)
    refine s_y (y_notT rfl) rfl rfl rfl ?_
    refine s_nil ?_
    refine f_then ?_
    refine c_condF rfl ?_
    refine c_skip ?_
    refine f_blockN ?_
    refine f_then ?_
    refine c_region ?_
    refine s_y (y_add rfl rfl (by omega)) rfl rfl rfl ?_
    refine s_y (y_move rfl) rfl rfl rfl ?_
    refine s_nil ?_
    exact f_roundP (i + 1) (by omega) (by omega) ⟨rfl, rfl, rfl, rfl, rfl, rfl, rfl, rfl, rfl, rfl, trivial⟩ (fun w h => h)
  refine c_exit ?_
  refine f_thenE ?_
  refine f_rndE ?_
  refine f_blockE ?_
  refine f_then ?_
  refine c_seq ?_
  refine c_seq ?_
  refine c_region ?_
  refine s_y (y_fieldAddr0 Try.tab rfl rfl rfl rfl rfl) rfl rfl rfl ?_
  refine s_y (y_load Try.tab rfl rfl (cell_row 2 rfl rfl)) rfl rfl rfl ?_
  refine s_call (en_f rfl Try.call55) (sw_yes _ (by omega)) rfl rfl rfl (fun _ => ?_)
  refine s_y (y_notT rfl) rfl rfl rfl ?_
  refine s_y (y_move rfl) rfl rfl rfl ?_
  refine s_y (y_fieldAddrB Try.tab 1 rfl rfl rfl rfl rfl) rfl rfl rfl ?_
  refine s_y (y_load Try.tab rfl rfl (cell_row 2 rfl rfl)) rfl rfl rfl ?_
  refine s_call (en_f rfl Try.call55) (sw_yes _ (by omega)) rfl rfl rfl (fun _ => ?_)
  refine s_y (y_notT rfl) rfl rfl rfl ?_
  refine s_y (y_pickF rfl rfl) rfl rfl rfl ?_
  refine s_y (y_move rfl) rfl rfl rfl ?_
  refine s_y (y_fieldAddrB Try.tab 2 rfl rfl rfl rfl rfl) rfl rfl rfl ?_
  refine s_y (y_load Try.tab rfl rfl (cell_row 2 rfl rfl)) rfl rfl rfl ?_
  refine s_call (en_f rfl Try.call55) (sw_yes _ (by omega)) rfl rfl rfl (fun _ => ?_)
  refine s_y (y_notT rfl) rfl rfl rfl ?_
  refine s_y (y_pickF rfl rfl) rfl rfl rfl ?_
  refine s_nil ?_
  refine f_then ?_
  refine c_condF rfl ?_
  refine c_skip ?_
  refine f_then ?_
  refine c_seq ?_
  refine c_region ?_
  refine s_y (y_move rfl) rfl rfl rfl ?_
  refine s_y (y_loadA Try.tab rfl rfl rfl rfl (cells_row0 0 rfl rfl)) rfl rfl rfl ?_
  refine s_y (y_makeFunc rfl rfl) rfl rfl rfl ?_
  refine s_y (y_loadA Try.tab rfl rfl rfl rfl (cells_row0 0 rfl rfl)) rfl rfl rfl ?_
  refine s_y (y_makeFunc rfl rfl) rfl rfl rfl ?_
  have hvC : CL (K W ([(b12, row 95 [.int .i64 l.r, .int .i64 l.c, .int .i64 l.m, .int .i64 l.b, .bool l.d, .int .i64 s, .int .i64 (np l)])] :: [(b10, row 75 [.map none, .map none, .int .i64 0])] :: [(b8, row 26 [.int .i64 c.r, .int .i64 c.s, .int .i64 c.o])] :: [(b5, row 23 l.v.cells.toList)] :: Ls)) (.slice pa cs.length ca) cs := hv.cls fun w h => h.tail.tail.tail.tail
  refine s_call (en_f rfl Try.call65) (survey_spec W _ l s _ cs h hin hvC hl) rfl rfl rfl (fun x => ?_)
  obtain ⟨⟨bn, bb, d⟩, hd⟩ := x
  dsimp only at hd ⊢
  have l1 := hd.n.len
  have l2 := hd.b.len
  unfold goodsF at hf5
  have l3 := (onces_spec cs).2.2
  refine s_do (do_alloc Try.tab rfl) rfl rfl rfl (fun b18 => ?_)
  refine s_set (set_box Try.tab 0 rfl rfl rfl rfl rfl rfl rfl) rfl rfl ?_
  refine s_nil ?_
  refine f_then ?_
  refine c_seq ?_
  refine c_seq ?_
  refine c_region ?_
  refine s_y (y_fieldAddrB Try.tab 2 rfl rfl rfl rfl rfl) rfl rfl rfl ?_
  refine s_y (y_load Try.tab rfl rfl (cell_row 0 rfl rfl)) rfl rfl rfl ?_
  refine s_y (y_F (y_gtr rfl rfl) (by omega)) rfl rfl rfl ?_
  refine s_y (y_move rfl) rfl rfl rfl ?_
  refine s_y (y_fieldAddr0 Try.tab rfl rfl rfl rfl rfl) rfl rfl rfl ?_
  refine s_y (y_load Try.tab rfl rfl (cell_row 0 rfl rfl)) rfl rfl rfl ?_
  refine s_y (y_lenZ Try.tab 1 (d.N.length : Int) rfl rfl rfl (by rw [List.length_map])) rfl rfl rfl ?_
  refine s_y (y_fieldAddrB Try.tab 1 rfl rfl rfl rfl rfl) rfl rfl rfl ?_
  refine s_y (y_load Try.tab rfl rfl (cell_row 0 rfl rfl)) rfl rfl rfl ?_
  refine s_y (y_lenZ Try.tab 2 (d.B.length : Int) rfl rfl rfl (by rw [List.length_map])) rfl rfl rfl ?_
  refine s_y (y_add rfl rfl (by omega)) rfl rfl rfl ?_
  refine s_y (y_F (y_gtr rfl rfl) (by omega)) rfl rfl rfl ?_
  refine s_y (y_pickF rfl rfl) rfl rfl rfl ?_
  refine s_nil ?_
  refine f_then ?_
  refine c_condF rfl ?_
  refine c_skip ?_
  refine f_then ?_
  refine c_seq ?_
  refine c_region ?_
  refine s_y (y_loadA Try.tab rfl rfl rfl rfl (cells_row0 0 rfl rfl)) rfl rfl rfl ?_
  refine s_set (set_box Try.tab 6 rfl rfl rfl rfl rfl rfl rfl) rfl rfl ?_
  refine s_y (y_assign rfl) rfl rfl rfl ?_
  refine s_nil ?_
  refine f_then ?_
  refine c_ret ?_
  exact f_ret (X := { x : Nat × Nat × Dmg // x.2.2.OK l s cs }) ⟨(bn, bb, d), hd⟩ (resA1 Try.tab rfl rfl rfl rfl rfl rfl (cells_row0 6 rfl rfl)) (fun w h => (((h.tail.dropAt 4).dropAt 4).dropAt 4).dropAt 4)
set_option maxRecDepth 10000 in
set_option maxHeartbeats 16000000 in
theorem examine_err (W : World) (Ls : List Chunk) (l : Lay) (s : Int) (v u : Value) (cs : List (Int × Int)) (c : Cos) (R : List Int) (h : Gd l s) (hr : ¬ RefOK l s cs c R) (hv : CL (K W Ls) v cs) (hu : IL (K W Ls) u R) (hl : cs.length ≤ 100000) (hRl : R.length ≤ 100000) :
    Spec Try.prog 43 #[l.v, .int .i64 s, v, c.v, u] (K W Ls) (fun _ : Unit => .tuple #[.agg #[.map none, .map none, .int .i64 0], .int .i64 (refF l s cs c R)]) (fun _ => K W Ls) := by
  have hp := np_bd h.1
  have hs := h.2
  obtain ⟨pa, ca, rfl, hca, hcs⟩ := hv.open
  obtain ⟨pr, cr, rfl, hcr, hrs⟩ := hu.open
  refine enter (args := [_, _, _, _, _]) Try.func43 rfl Try.ntmps43 rfl ?_
  refine c_seq ?_
  refine c_region ?_
  refine s_do (do_box rfl) rfl rfl rfl (fun b5 => ?_)
  refine s_do (do_box rfl) rfl rfl rfl (fun b8 => ?_)
  refine s_do (do_alloc Try.tab rfl) rfl rfl rfl (fun b10 => ?_)
  refine s_y (y_assign rfl) rfl rfl rfl ?_
  refine s_nil ?_
  refine f_then ?_
  refine c_seq ?_
  refine c_region ?_
  refine s_y (y_loadA Try.tab rfl rfl rfl rfl (cells_row0 2 rfl rfl)) rfl rfl rfl ?_
  refine s_y (y_move rfl) rfl rfl rfl ?_
  refine s_call (en_f rfl Try.call52) (newRun_gd _ _ _ _ h) rfl rfl rfl (fun _ => ?_)
  refine s_y (y_move rfl) rfl rfl rfl ?_
  refine s_y (y_extract rfl rfl) rfl rfl rfl ?_
  refine s_y (y_extract rfl rfl) rfl rfl rfl ?_
  refine s_do (do_alloc Try.tab rfl) rfl rfl rfl (fun b12 => ?_)
  refine s_set (set_box Try.tab 0 rfl rfl rfl rfl rfl rfl rfl) rfl rfl ?_
  refine s_y (y_assign rfl) rfl rfl rfl ?_
  refine s_nil ?_
  refine f_then ?_
  refine c_seq ?_
  refine c_seq ?_
  refine c_region ?_
  refine s_y (y_move rfl) rfl rfl rfl ?_
  refine s_y (y_F (y_neq rfl rfl) (by omega)) rfl rfl rfl ?_
  refine s_nil ?_
  refine f_then ?_
  refine c_condF rfl ?_
  refine c_skip ?_
  refine f_then ?_
  refine c_seq ?_
  refine c_seq ?_
  refine c_region ?_
  refine s_y (y_move rfl) rfl rfl rfl ?_
  refine s_y (y_len Try.tab rfl rfl) rfl rfl rfl ?_
  refine s_y (y_move rfl) rfl rfl rfl ?_
  refine s_nil ?_
  refine f_then ?_
  refine c_block ?_
  refine c_loopP (α := Nat) (fun z => [(1, .int .i64 s), (2, .slice pa cs.length ca), (4, .slice pr R.length cr), (5, .pointer (some ⟨b5, 0, none⟩)), (8, .pointer (some ⟨b8, 0, none⟩)), (10, .pointer (some ⟨b10, 0, none⟩)), (12, .pointer (some ⟨b12, 0, none⟩)), (29, .slice pa cs.length ca), (30, .int .i64 cs.length), (31, .int .i64 z)]) (fun z => z ≤ cs.length ∧ ∀ k, k < z → CellIn l s (cs.getD k (0, 0)).1 (cs.getD k (0, 0)).2) (fun _ => K W ([(b12, row 95 [.int .i64 l.r, .int .i64 l.c, .int .i64 l.m, .int .i64 l.b, .bool l.d, .int .i64 s, .int .i64 (np l)])] :: [(b10, row 75 [.map none, .map none, .int .i64 0])] :: [(b8, row 26 [.int .i64 c.r, .int .i64 c.s, .int .i64 c.o])] :: [(b5, row 23 l.v.cells.toList)] :: Ls)) (fun z => cs.length - z) 0 ⟨rfl, rfl, rfl, rfl, rfl, rfl, rfl, rfl, rfl, rfl, trivial⟩ ⟨Nat.zero_le _, fun k hk => absurd hk (by omega)⟩ (fun w h => h) ?_
  rintro i ⟨hi, hok⟩
  refine c_seq ?_
  refine c_region ?_
  refine s_y (y_lss rfl rfl) rfl rfl rfl ?_
  refine s_nil ?_
  refine f_then ?_
  refine c_seq ?_
  refine c_condD rfl (fun hlt => ?_) (fun hge => ?_)
  · obtain ⟨b, q, rfl, hcell⟩ := hcs (by omega)
    have hcx := (hcell i (by omega)).1.cls (C := K W ([(b12, row 95 [.int .i64 l.r, .int .i64 l.c, .int .i64 l.m, .int .i64 l.b, .bool l.d, .int .i64 s, .int .i64 (np l)])] :: [(b10, row 75 [.map none, .map none, .int .i64 0])] :: [(b8, row 26 [.int .i64 c.r, .int .i64 c.s, .int .i64 c.o])] :: [(b5, row 23 l.v.cells.toList)] :: Ls)) fun w h => h.tail.tail.tail.tail
    by_cases hci : CellIn l s (cs.getD i (0, 0)).1 (cs.getD i (0, 0)).2
    · refine c_skip ?_
      refine f_then ?_
      refine c_seq ?_
      refine c_block ?_
      refine c_seq ?_
      refine c_region ?_
      refine s_y (y_indexAddr (s := 2) Try.tab rfl rfl rfl rfl _ rfl (by omega)) rfl rfl rfl ?_
      refine s_y (y_loadA Try.tab rfl rfl rfl rfl hcx) rfl rfl rfl ?_
      refine s_do (do_alloc Try.tab rfl) rfl rfl rfl (fun b15 => ?_)
      refine s_set (set_box Try.tab 0 rfl rfl rfl rfl rfl rfl rfl) rfl rfl ?_
      refine s_nil ?_
      refine f_then ?_
      refine c_seq ?_
      refine c_region ?_
      refine s_y (y_loadA Try.tab rfl rfl rfl rfl (cells_row0 1 rfl rfl)) rfl rfl rfl ?_
      refine s_y (y_loadA Try.tab rfl rfl rfl rfl (cells_row0 0 rfl rfl)) rfl rfl rfl ?_
      refine s_call (en_f rfl Try.call53) (has_yes _ _ _ _ _ _ _ (by omega) (by omega) hci) rfl rfl rfl (fun _ => ?_)
      refine s_y (y_notT rfl) rfl rfl rfl ?_
      refine s_nil ?_
      refine f_then ?_
      refine c_condF rfl ?_
      refine c_skip ?_
      refine f_blockN ?_
      refine f_then ?_
      refine c_region ?_
      refine s_y (y_add rfl rfl (by omega)) rfl rfl rfl ?_
      refine s_y (y_move rfl) rfl rfl rfl ?_
      refine s_nil ?_
      exact f_roundP (i + 1) ⟨by omega, fun k hk => by rcases (show k < i ∨ k = i by omega) with q | rfl; exact hok k q; exact hci⟩ (by omega) ⟨rfl, rfl, rfl, rfl, rfl, rfl, rfl, rfl, rfl, rfl, trivial⟩ (fun w h => h.tail)
    · have he : refF l s cs c R = 3 := refF_in h fun q => hci (q.1 _ (getD_mem (by omega)))
      rw [he]
      refine c_skip ?_
      refine f_then ?_
      refine c_seq ?_
      refine c_block ?_
      refine c_seq ?_
      refine c_region ?_
      refine s_y (y_indexAddr (s := 2) Try.tab rfl rfl rfl rfl _ rfl (by omega)) rfl rfl rfl ?_
      refine s_y (y_loadA Try.tab rfl rfl rfl rfl hcx) rfl rfl rfl ?_
      refine s_do (do_alloc Try.tab rfl) rfl rfl rfl (fun b15 => ?_)
      refine s_set (set_box Try.tab 0 rfl rfl rfl rfl rfl rfl rfl) rfl rfl ?_
      refine s_nil ?_
      refine f_then ?_
      refine c_seq ?_
      refine c_region ?_
      refine s_y (y_loadA Try.tab rfl rfl rfl rfl (cells_row0 1 rfl rfl)) rfl rfl rfl ?_
      refine s_y (y_loadA Try.tab rfl rfl rfl rfl (cells_row0 0 rfl rfl)) rfl rfl rfl ?_
      refine s_call (en_f rfl Try.call53) (has_no _ _ _ _ _ _ _ (by omega) (by omega) hci) rfl rfl rfl (fun _ => ?_)
      refine s_y (y_notF rfl) rfl rfl rfl ?_
      refine s_nil ?_
      refine f_then ?_
      refine c_condT rfl ?_
      refine c_seq ?_
      refine c_region ?_
      refine s_y (y_build Try.tab rfl rfl rfl rfl rfl) rfl rfl rfl ?_
      refine s_set (set_box Try.tab 2 rfl rfl rfl rfl rfl rfl rfl) rfl rfl ?_
      refine s_y (y_assign rfl) rfl rfl rfl ?_
      refine s_nil ?_
      refine f_then ?_
      refine c_ret ?_
      refine f_blockR ?_
      refine f_thenR ?_
      refine f_rndR ?_
      refine f_blockR ?_
      refine f_thenR ?_
      exact f_ret () (resA1 Try.tab rfl rfl rfl rfl rfl rfl (cells_row0 2 rfl rfl)) (fun w h => h.tail.tail.tail.tail.tail)
  have hin : ∀ x ∈ cs, CellIn l s x.1 x.2 := (all_getD (0, 0)).2 fun k hk => hok k (by omega)
  refine c_exit ?_
  refine f_thenE ?_
  refine f_rndE ?_
  refine f_blockE ?_
  refine f_then ?_
  refine c_seq ?_
  refine c_seq ?_
  refine c_region ?_
  refine s_y (y_move rfl) rfl rfl rfl ?_
  refine s_y (y_len Try.tab rfl rfl) rfl rfl rfl ?_
  refine s_y (y_move rfl) rfl rfl rfl ?_
  refine s_nil ?_
  refine f_then ?_
  refine c_block ?_
  refine c_loopP (α := Nat) (fun z => [(1, .int .i64 s), (2, .slice pa cs.length ca), (4, .slice pr R.length cr), (5, .pointer (some ⟨b5, 0, none⟩)), (8, .pointer (some ⟨b8, 0, none⟩)), (10, .pointer (some ⟨b10, 0, none⟩)), (12, .pointer (some ⟨b12, 0, none⟩)), (41, .slice pr R.length cr), (42, .int .i64 R.length), (43, .int .i64 z)]) (fun z => z ≤ R.length ∧ ∀ k, k < z → 0 ≤ R.getD k 0 ∧ R.getD k 0 < s) (fun _ => K W ([(b12, row 95 [.int .i64 l.r, .int .i64 l.c, .int .i64 l.m, .int .i64 l.b, .bool l.d, .int .i64 s, .int .i64 (np l)])] :: [(b10, row 75 [.map none, .map none, .int .i64 0])] :: [(b8, row 26 [.int .i64 c.r, .int .i64 c.s, .int .i64 c.o])] :: [(b5, row 23 l.v.cells.toList)] :: Ls)) (fun z => R.length - z) 0 ⟨rfl, rfl, rfl, rfl, rfl, rfl, rfl, rfl, rfl, rfl, trivial⟩ ⟨Nat.zero_le _, fun k hk => absurd hk (by omega)⟩ (fun w h => h) ?_
  clear hge hok hi i
  rintro i ⟨hi, hok⟩
  refine c_seq ?_
  refine c_region ?_
  refine s_y (y_lss rfl rfl) rfl rfl rfl ?_
  refine s_nil ?_
  refine f_then ?_
  refine c_seq ?_
  refine c_condD rfl (fun hlt => ?_) (fun hge => ?_)
  · obtain ⟨b, q, rfl, hcell⟩ := hrs (by omega)
    have hcx := (hcell i (by omega)).cls (C := K W ([(b12, row 95 [.int .i64 l.r, .int .i64 l.c, .int .i64 l.m, .int .i64 l.b, .bool l.d, .int .i64 s, .int .i64 (np l)])] :: [(b10, row 75 [.map none, .map none, .int .i64 0])] :: [(b8, row 26 [.int .i64 c.r, .int .i64 c.s, .int .i64 c.o])] :: [(b5, row 23 l.v.cells.toList)] :: Ls)) fun w h => h.tail.tail.tail.tail
    by_cases hci : 0 ≤ R.getD i 0 ∧ R.getD i 0 < s
    · refine c_skip ?_
      refine f_then ?_
      refine c_seq ?_
      refine c_block ?_
      refine c_seq ?_
      refine c_region ?_
      refine s_y (y_indexAddr1o Try.tab rfl rfl rfl rfl _ rfl (by omega)) rfl rfl rfl ?_
      refine s_y (y_load Try.tab rfl rfl hcx) rfl rfl rfl ?_
      refine s_y (y_assign rfl) rfl rfl rfl ?_
      refine s_nil ?_
      refine f_then ?_
      refine c_seq ?_
      refine c_region ?_
      refine s_y (y_move rfl) rfl rfl rfl ?_
      refine s_y (y_move rfl) rfl rfl rfl ?_
      refine s_y (y_sub rfl rfl (by omega)) rfl rfl rfl ?_
      refine s_call (en_f rfl Try.call55) (sw_yes _ (by omega)) rfl rfl rfl (fun _ => ?_)
      refine s_y (y_notT rfl) rfl rfl rfl ?_
      refine s_nil ?_
      refine f_then ?_
      refine c_condF rfl ?_
      refine c_skip ?_
      refine f_blockN ?_
      refine f_then ?_
      refine c_region ?_
      refine s_y (y_add rfl rfl (by omega)) rfl rfl rfl ?_
      refine s_y (y_move rfl) rfl rfl rfl ?_
      refine s_nil ?_
      exact f_roundP (i + 1) ⟨by omega, fun k hk => by rcases (show k < i ∨ k = i by omega) with q | rfl; exact hok k q; exact hci⟩ (by omega) ⟨rfl, rfl, rfl, rfl, rfl, rfl, rfl, rfl, rfl, rfl, trivial⟩ (fun w h => h)
    · have he : refF l s cs c R = 3 := refF_in h fun q => hci (q.2 _ (getD_mem (d := 0) (by omega)))
      rw [he]
      refine c_skip ?_
      refine f_then ?_
      refine c_seq ?_
      refine c_block ?_
      refine c_seq ?_
      refine c_region ?_
      refine s_y (y_indexAddr1o Try.tab rfl rfl rfl rfl _ rfl (by omega)) rfl rfl rfl ?_
      refine s_y (y_load Try.tab rfl rfl hcx) rfl rfl rfl ?_
      refine s_y (y_assign rfl) rfl rfl rfl ?_
      refine s_nil ?_
      refine f_then ?_
      refine c_seq ?_
      refine c_region ?_
      refine s_y (y_move rfl) rfl rfl rfl ?_
      refine s_y (y_move rfl) rfl rfl rfl ?_
      refine s_y (y_sub rfl rfl (by omega)) rfl rfl rfl ?_
      refine s_call (en_f rfl Try.call55) (sw_no _ (by omega)) rfl rfl rfl (fun _ => ?_)
      refine s_y (y_notF rfl) rfl rfl rfl ?_
      refine s_nil ?_
      refine f_then ?_
      refine c_condT rfl ?_
      refine c_seq ?_
      refine c_region ?_
      refine s_y (y_build Try.tab rfl rfl rfl rfl rfl) rfl rfl rfl ?_
      refine s_set (set_box Try.tab 1 rfl rfl rfl rfl rfl rfl rfl) rfl rfl ?_
      refine s_y (y_assign rfl) rfl rfl rfl ?_
      refine s_nil ?_
      refine f_then ?_
      refine c_ret ?_
      refine f_blockR ?_
      refine f_thenR ?_
      refine f_rndR ?_
      refine f_blockR ?_
      refine f_thenR ?_
      exact f_ret () (resA1 Try.tab rfl rfl rfl rfl rfl rfl (cells_row0 1 rfl rfl)) (fun w h => h.tail.tail.tail.tail)
  have hrin : ∀ x ∈ R, 0 ≤ x ∧ x < s := (all_getD 0).2 fun k hk => hok k (by omega)
  by_cases hcst : c.OK
  rotate_left
  · rw [refF_c h hin hrin hcst]
    rcases cos_bad hcst with hc0 | hc0 | hc0 | hc0 | hc0 | hc0
    · refine c_exit ?_
      refine f_thenE ?_
      refine f_rndE ?_
      refine f_blockE ?_
      refine f_then ?_
      refine c_seq ?_
      refine c_seq ?_
      refine c_region ?_
      refine s_y (y_fieldAddr0 Try.tab rfl rfl rfl rfl rfl) rfl rfl rfl ?_
      refine s_y (y_load Try.tab rfl rfl (cell_row 2 rfl rfl)) rfl rfl rfl ?_
      refine s_call (en_f rfl Try.call55) (sw_no _ (by omega)) rfl rfl rfl (fun _ => ?_)
      refine s_y (y_notF rfl) rfl rfl rfl ?_
      refine s_y (y_move rfl) rfl rfl rfl ?_
      iterate 4 refine s_skip rfl rfl rfl ?_
      refine s_y (y_pickT rfl rfl) rfl rfl rfl ?_
      refine s_y (y_move rfl) rfl rfl rfl ?_
      iterate 4 refine s_skip rfl rfl rfl ?_
      refine s_y (y_pickT rfl rfl) rfl rfl rfl ?_
      refine s_nil ?_
      refine f_then ?_
      refine c_condT rfl ?_
      refine c_seq ?_
      refine c_region ?_
      refine s_y (y_build Try.tab rfl rfl rfl rfl rfl) rfl rfl rfl ?_
      refine s_set (set_box Try.tab 1 rfl rfl rfl rfl rfl rfl rfl) rfl rfl ?_
      refine s_y (y_assign rfl) rfl rfl rfl ?_
      refine s_nil ?_
      refine f_then ?_
      refine c_ret ?_
      refine f_thenR ?_
      exact f_ret () (resA1 Try.tab rfl rfl rfl rfl rfl rfl (cells_row0 1 rfl rfl)) (fun w h => h.tail.tail.tail.tail)
    · refine c_exit ?_
      refine f_thenE ?_
      refine f_rndE ?_
      refine f_blockE ?_
      refine f_then ?_
      refine c_seq ?_
      refine c_seq ?_
      refine c_region ?_
      refine s_y (y_fieldAddr0 Try.tab rfl rfl rfl rfl rfl) rfl rfl rfl ?_
      refine s_y (y_load Try.tab rfl rfl (cell_row 2 rfl rfl)) rfl rfl rfl ?_
      refine s_call (en_f rfl Try.call55) (sw_no _ (by omega)) rfl rfl rfl (fun _ => ?_)
      refine s_y (y_notF rfl) rfl rfl rfl ?_
      refine s_y (y_move rfl) rfl rfl rfl ?_
      iterate 4 refine s_skip rfl rfl rfl ?_
      refine s_y (y_pickT rfl rfl) rfl rfl rfl ?_
      refine s_y (y_move rfl) rfl rfl rfl ?_
      iterate 4 refine s_skip rfl rfl rfl ?_
      refine s_y (y_pickT rfl rfl) rfl rfl rfl ?_
      refine s_nil ?_
      refine f_then ?_
      refine c_condT rfl ?_
      refine c_seq ?_
      refine c_region ?_
      refine s_y (y_build Try.tab rfl rfl rfl rfl rfl) rfl rfl rfl ?_
      refine s_set (set_box Try.tab 1 rfl rfl rfl rfl rfl rfl rfl) rfl rfl ?_
      refine s_y (y_assign rfl) rfl rfl rfl ?_
      refine s_nil ?_
      refine f_then ?_
      refine c_ret ?_
      refine f_thenR ?_
      exact f_ret () (resA1 Try.tab rfl rfl rfl rfl rfl rfl (cells_row0 1 rfl rfl)) (fun w h => h.tail.tail.tail.tail)
    · refine c_exit ?_
      refine f_thenE ?_
      refine f_rndE ?_
      refine f_blockE ?_
      refine f_then ?_
      refine c_seq ?_
      refine c_seq ?_
      refine c_region ?_
      refine s_y (y_fieldAddr0 Try.tab rfl rfl rfl rfl rfl) rfl rfl rfl ?_
      refine s_y (y_load Try.tab rfl rfl (cell_row 2 rfl rfl)) rfl rfl rfl ?_
      refine s_call (en_f rfl Try.call55) (sw_yes _ (by omega)) rfl rfl rfl (fun _ => ?_)
      refine s_y (y_notT rfl) rfl rfl rfl ?_
      refine s_y (y_move rfl) rfl rfl rfl ?_
      refine s_y (y_fieldAddrB Try.tab 1 rfl rfl rfl rfl rfl) rfl rfl rfl ?_
      refine s_y (y_load Try.tab rfl rfl (cell_row 2 rfl rfl)) rfl rfl rfl ?_
      refine s_call (en_f rfl Try.call55) (sw_no _ (by omega)) rfl rfl rfl (fun _ => ?_)
      refine s_y (y_notF rfl) rfl rfl rfl ?_
      refine s_y (y_pickF rfl rfl) rfl rfl rfl ?_
      refine s_y (y_move rfl) rfl rfl rfl ?_
      iterate 4 refine s_skip rfl rfl rfl ?_
      refine s_y (y_pickT rfl rfl) rfl rfl rfl ?_
      refine s_nil ?_
      refine f_then ?_
      refine c_condT rfl ?_
      refine c_seq ?_
      refine c_region ?_
      refine s_y (y_build Try.tab rfl rfl rfl rfl rfl) rfl rfl rfl ?_
      refine s_set (set_box Try.tab 1 rfl rfl rfl rfl rfl rfl rfl) rfl rfl ?_
      refine s_y (y_assign rfl) rfl rfl rfl ?_
      refine s_nil ?_
      refine f_then ?_
      refine c_ret ?_
      refine f_thenR ?_
      exact f_ret () (resA1 Try.tab rfl rfl rfl rfl rfl rfl (cells_row0 1 rfl rfl)) (fun w h => h.tail.tail.tail.tail)
    · refine c_exit ?_
      refine f_thenE ?_
      refine f_rndE ?_
      refine f_blockE ?_
      refine f_then ?_
      refine c_seq ?_
      refine c_seq ?_
      refine c_region ?_
      refine s_y (y_fieldAddr0 Try.tab rfl rfl rfl rfl rfl) rfl rfl rfl ?_
      refine s_y (y_load Try.tab rfl rfl (cell_row 2 rfl rfl)) rfl rfl rfl ?_
      refine s_call (en_f rfl Try.call55) (sw_yes _ (by omega)) rfl rfl rfl (fun _ => ?_)
      refine s_y (y_notT rfl) rfl rfl rfl ?_
      refine s_y (y_move rfl) rfl rfl rfl ?_
      refine s_y (y_fieldAddrB Try.tab 1 rfl rfl rfl rfl rfl) rfl rfl rfl ?_
      refine s_y (y_load Try.tab rfl rfl (cell_row 2 rfl rfl)) rfl rfl rfl ?_
      refine s_call (en_f rfl Try.call55) (sw_no _ (by omega)) rfl rfl rfl (fun _ => ?_)
      refine s_y (y_notF rfl) rfl rfl rfl ?_
      refine s_y (y_pickF rfl rfl) rfl rfl rfl ?_
      refine s_y (y_move rfl) rfl rfl rfl ?_
      iterate 4 refine s_skip rfl rfl rfl ?_
      refine s_y (y_pickT rfl rfl) rfl rfl rfl ?_
      refine s_nil ?_
      refine f_then ?_
      refine c_condT rfl ?_
      refine c_seq ?_
      refine c_region ?_
      refine s_y (y_build Try.tab rfl rfl rfl rfl rfl) rfl rfl rfl ?_
      refine s_set (set_box Try.tab 1 rfl rfl rfl rfl rfl rfl rfl) rfl rfl ?_
      refine s_y (y_assign rfl) rfl rfl rfl ?_
      refine s_nil ?_
      refine f_then ?_
      refine c_ret ?_
      refine f_thenR ?_
      exact f_ret () (resA1 Try.tab rfl rfl rfl rfl rfl rfl (cells_row0 1 rfl rfl)) (fun w h => h.tail.tail.tail.tail)
    · refine c_exit ?_
      refine f_thenE ?_
      refine f_rndE ?_
      refine f_blockE ?_
      refine f_then ?_
      refine c_seq ?_
      refine c_seq ?_
      refine c_region ?_
      refine s_y (y_fieldAddr0 Try.tab rfl rfl rfl rfl rfl) rfl rfl rfl ?_
      refine s_y (y_load Try.tab rfl rfl (cell_row 2 rfl rfl)) rfl rfl rfl ?_
      refine s_call (en_f rfl Try.call55) (sw_yes _ (by omega)) rfl rfl rfl (fun _ => ?_)
      refine s_y (y_notT rfl) rfl rfl rfl ?_
      refine s_y (y_move rfl) rfl rfl rfl ?_
      refine s_y (y_fieldAddrB Try.tab 1 rfl rfl rfl rfl rfl) rfl rfl rfl ?_
      refine s_y (y_load Try.tab rfl rfl (cell_row 2 rfl rfl)) rfl rfl rfl ?_
      refine s_call (en_f rfl Try.call55) (sw_yes _ (by omega)) rfl rfl rfl (fun _ => ?_)
      refine s_y (y_notT rfl) rfl rfl rfl ?_
      refine s_y (y_pickF rfl rfl) rfl rfl rfl ?_
      refine s_y (y_move rfl) rfl rfl rfl ?_
      refine s_y (y_fieldAddrB Try.tab 2 rfl rfl rfl rfl rfl) rfl rfl rfl ?_
      refine s_y (y_load Try.tab rfl rfl (cell_row 2 rfl rfl)) rfl rfl rfl ?_
      refine s_call (en_f rfl Try.call55) (sw_no _ (by omega)) rfl rfl rfl (fun _ => ?_)
      refine s_y (y_notF rfl) rfl rfl rfl ?_
      refine s_y (y_pickF rfl rfl) rfl rfl rfl ?_
      refine s_nil ?_
      refine f_then ?_
      refine c_condT rfl ?_
      refine c_seq ?_
      refine c_region ?_
      refine s_y (y_build Try.tab rfl rfl rfl rfl rfl) rfl rfl rfl ?_
      refine s_set (set_box Try.tab 1 rfl rfl rfl rfl rfl rfl rfl) rfl rfl ?_
      refine s_y (y_assign rfl) rfl rfl rfl ?_
      refine s_nil ?_
      refine f_then ?_
      refine c_ret ?_
      refine f_thenR ?_
      exact f_ret () (resA1 Try.tab rfl rfl rfl rfl rfl rfl (cells_row0 1 rfl rfl)) (fun w h => h.tail.tail.tail.tail)
    · refine c_exit ?_
      refine f_thenE ?_
      refine f_rndE ?_
      refine f_blockE ?_
      refine f_then ?_
      refine c_seq ?_
      refine c_seq ?_
      refine c_region ?_
      refine s_y (y_fieldAddr0 Try.tab rfl rfl rfl rfl rfl) rfl rfl rfl ?_
      refine s_y (y_load Try.tab rfl rfl (cell_row 2 rfl rfl)) rfl rfl rfl ?_
      refine s_call (en_f rfl Try.call55) (sw_yes _ (by omega)) rfl rfl rfl (fun _ => ?_)
      refine s_y (y_notT rfl) rfl rfl rfl ?_
      refine s_y (y_move rfl) rfl rfl rfl ?_
      refine s_y (y_fieldAddrB Try.tab 1 rfl rfl rfl rfl rfl) rfl rfl rfl ?_
      refine s_y (y_load Try.tab rfl rfl (cell_row 2 rfl rfl)) rfl rfl rfl ?_
      refine s_call (en_f rfl Try.call55) (sw_yes _ (by omega)) rfl rfl rfl (fun _ => ?_)
      refine s_y (y_notT rfl) rfl rfl rfl ?_
      refine s_y (y_pickF rfl rfl) rfl rfl rfl ?_
      refine s_y (y_move rfl) rfl rfl rfl ?_
      refine s_y (y_fieldAddrB Try.tab 2 rfl rfl rfl rfl rfl) rfl rfl rfl ?_
      refine s_y (y_load Try.tab rfl rfl (cell_row 2 rfl rfl)) rfl rfl rfl ?_
      refine s_call (en_f rfl Try.call55) (sw_no _ (by omega)) rfl rfl rfl (fun _ => ?_)
      refine s_y (y_notF rfl) rfl rfl rfl ?_
      refine s_y (y_pickF rfl rfl) rfl rfl rfl ?_
      refine s_nil ?_
      refine f_then ?_
      refine c_condT rfl ?_
      refine c_seq ?_
      refine c_region ?_
      refine s_y (y_build Try.tab rfl rfl rfl rfl rfl) rfl rfl rfl ?_
      refine s_set (set_box Try.tab 1 rfl rfl rfl rfl rfl rfl rfl) rfl rfl ?_
      refine s_y (y_assign rfl) rfl rfl rfl ?_
      refine s_nil ?_
      refine f_then ?_
      refine c_ret ?_
      refine f_thenR ?_
      exact f_ret () (resA1 Try.tab rfl rfl rfl rfl rfl rfl (cells_row0 1 rfl rfl)) (fun w h => h.tail.tail.tail.tail)
  have g1 := hcst.r; have g2 := hcst.s; have g3 := hcst.o
  have hfull : refF l s cs c R = 5 := refF_full h hin hrin hcst fun q => hr ⟨h, hin, hrin, hcst, q.1, q.2⟩
  have hfr : ¬ ((onces cs).length ≤ 512 ∧ goodsF l s cs ≤ 120) := fun q => hr ⟨h, hin, hrin, hcst, q.1, q.2⟩
  rw [hfull]
  refine c_exit ?_
  refine f_thenE ?_
  refine f_rndE ?_
  refine f_blockE ?_
  refine f_then ?_
  refine c_seq ?_
  refine c_seq ?_
  refine c_region ?_
  refine s_y (y_fieldAddr0 Try.tab rfl rfl rfl rfl rfl) rfl rfl rfl ?_
  refine s_y (y_load Try.tab rfl rfl (cell_row 2 rfl rfl)) rfl rfl rfl ?_
  refine s_call (en_f rfl Try.call55) (sw_yes _ (by omega)) rfl rfl rfl (fun _ => ?_)
  refine s_y (y_notT rfl) rfl rfl rfl ?_
  refine s_y (y_move rfl) rfl rfl rfl ?_
  refine s_y (y_fieldAddrB Try.tab 1 rfl rfl rfl rfl rfl) rfl rfl rfl ?_
  refine s_y (y_load Try.tab rfl rfl (cell_row 2 rfl rfl)) rfl rfl rfl ?_
  refine s_call (en_f rfl Try.call55) (sw_yes _ (by omega)) rfl rfl rfl (fun _ => ?_)
  refine s_y (y_notT rfl) rfl rfl rfl ?_
  refine s_y (y_pickF rfl rfl) rfl rfl rfl ?_
  refine s_y (y_move rfl) rfl rfl rfl ?_
  refine s_y (y_fieldAddrB Try.tab 2 rfl rfl rfl rfl rfl) rfl rfl rfl ?_
  refine s_y (y_load Try.tab rfl rfl (cell_row 2 rfl rfl)) rfl rfl rfl ?_
  refine s_call (en_f rfl Try.call55) (sw_yes _ (by omega)) rfl rfl rfl (fun _ => ?_)
  refine s_y (y_notT rfl) rfl rfl rfl ?_
  refine s_y (y_pickF rfl rfl) rfl rfl rfl ?_
  refine s_nil ?_
  refine f_then ?_
  refine c_condF rfl ?_
  refine c_skip ?_
  refine f_then ?_
  refine c_seq ?_
  refine c_region ?_
  refine s_y (y_move rfl) rfl rfl rfl ?_
  refine s_y (y_loadA Try.tab rfl rfl rfl rfl (cells_row0 0 rfl rfl)) rfl rfl rfl ?_
  refine s_y (y_makeFunc rfl rfl) rfl rfl rfl ?_
  refine s_y (y_loadA Try.tab rfl rfl rfl rfl (cells_row0 0 rfl rfl)) rfl rfl rfl ?_
  refine s_y (y_makeFunc rfl rfl) rfl rfl rfl ?_
  have hvC : CL (K W ([(b12, row 95 [.int .i64 l.r, .int .i64 l.c, .int .i64 l.m, .int .i64 l.b, .bool l.d, .int .i64 s, .int .i64 (np l)])] :: [(b10, row 75 [.map none, .map none, .int .i64 0])] :: [(b8, row 26 [.int .i64 c.r, .int .i64 c.s, .int .i64 c.o])] :: [(b5, row 23 l.v.cells.toList)] :: Ls)) (.slice pa cs.length ca) cs := hv.cls fun w h => h.tail.tail.tail.tail
  refine s_call (en_f rfl Try.call65) (survey_spec W _ l s _ cs h hin hvC hl) rfl rfl rfl (fun x => ?_)
  obtain ⟨⟨bn, bb, d⟩, hd⟩ := x
  dsimp only at hd ⊢
  have l1 := hd.n.len
  have l2 := hd.b.len
  unfold goodsF at hfr
  have l3 := (onces_spec cs).2.2
  have l4 := asc_len (·.1) (onces cs)
  have l5 := asc_len (bunC l s) (onces cs)
  by_cases h5 : (onces cs).length ≤ 512
  rotate_left
  · refine s_do (do_alloc Try.tab rfl) rfl rfl rfl (fun b18 => ?_)
    refine s_set (set_box Try.tab 0 rfl rfl rfl rfl rfl rfl rfl) rfl rfl ?_
    refine s_nil ?_
    refine f_then ?_
    refine c_seq ?_
    refine c_seq ?_
    refine c_region ?_
    refine s_y (y_fieldAddrB Try.tab 2 rfl rfl rfl rfl rfl) rfl rfl rfl ?_
    refine s_y (y_load Try.tab rfl rfl (cell_row 0 rfl rfl)) rfl rfl rfl ?_
    refine s_y (y_T (y_gtr rfl rfl) (by omega)) rfl rfl rfl ?_
    refine s_y (y_move rfl) rfl rfl rfl ?_
    iterate 8 refine s_skip rfl rfl rfl ?_
    refine s_y (y_pickT rfl rfl) rfl rfl rfl ?_
    refine s_nil ?_
    refine f_then ?_
    refine c_condT rfl ?_
    refine c_seq ?_
    refine c_region ?_
    refine s_y (y_build Try.tab rfl rfl rfl rfl rfl) rfl rfl rfl ?_
    refine s_set (set_box Try.tab 6 rfl rfl rfl rfl rfl rfl rfl) rfl rfl ?_
    refine s_y (y_assign rfl) rfl rfl rfl ?_
    refine s_nil ?_
    refine f_then ?_
    refine c_ret ?_
    refine f_thenR ?_
    exact f_ret () (resA1 Try.tab rfl rfl rfl rfl rfl rfl (cells_row0 6 rfl rfl)) (fun w h => h.tail.tail.tail.tail.tail.tail.tail.tail.tail)
  refine s_do (do_alloc Try.tab rfl) rfl rfl rfl (fun b18 => ?_)
  refine s_set (set_box Try.tab 0 rfl rfl rfl rfl rfl rfl rfl) rfl rfl ?_
  refine s_nil ?_
  refine f_then ?_
  refine c_seq ?_
  refine c_seq ?_
  refine c_region ?_
  refine s_y (y_fieldAddrB Try.tab 2 rfl rfl rfl rfl rfl) rfl rfl rfl ?_
  refine s_y (y_load Try.tab rfl rfl (cell_row 0 rfl rfl)) rfl rfl rfl ?_
  refine s_y (y_F (y_gtr rfl rfl) (by omega)) rfl rfl rfl ?_
  refine s_y (y_move rfl) rfl rfl rfl ?_
  refine s_y (y_fieldAddr0 Try.tab rfl rfl rfl rfl rfl) rfl rfl rfl ?_
  refine s_y (y_load Try.tab rfl rfl (cell_row 0 rfl rfl)) rfl rfl rfl ?_
  refine s_y (y_lenZ Try.tab 1 (d.N.length : Int) rfl rfl rfl (by rw [List.length_map])) rfl rfl rfl ?_
  refine s_y (y_fieldAddrB Try.tab 1 rfl rfl rfl rfl rfl) rfl rfl rfl ?_
  refine s_y (y_load Try.tab rfl rfl (cell_row 0 rfl rfl)) rfl rfl rfl ?_
  refine s_y (y_lenZ Try.tab 2 (d.B.length : Int) rfl rfl rfl (by rw [List.length_map])) rfl rfl rfl ?_
  refine s_y (y_add rfl rfl (by omega)) rfl rfl rfl ?_
  refine s_y (y_T (y_gtr rfl rfl) (by omega)) rfl rfl rfl ?_
  refine s_y (y_pickF rfl rfl) rfl rfl rfl ?_
  refine s_nil ?_
  refine f_then ?_
  refine c_condT rfl ?_
  refine c_seq ?_
  refine c_region ?_
  refine s_y (y_build Try.tab rfl rfl rfl rfl rfl) rfl rfl rfl ?_
  refine s_set (set_box Try.tab 6 rfl rfl rfl rfl rfl rfl rfl) rfl rfl ?_
  refine s_y (y_assign rfl) rfl rfl rfl ?_
  refine s_nil ?_
  refine f_then ?_
  refine c_ret ?_
  refine f_thenR ?_
  exact f_ret () (resA1 Try.tab rfl rfl rfl rfl rfl rfl (cells_row0 6 rfl rfl)) (fun w h => h.tail.tail.tail.tail.tail.tail.tail.tail.tail)
end Go.KL
end

section
/- What a repair leaves of the damage: sheets struck from the notes and from the bundles. No program in sight. -/
namespace Go.KL
theorem nodup_len {α : Type} [DecidableEq α] : ∀ {a b : List α}, a.Nodup → (∀ x ∈ a, x ∈ b) → a.length ≤ b.length
  | [], _, _, _ => Nat.zero_le _
  | x :: r, b, h, hs => by
    obtain ⟨h1, h2⟩ := List.nodup_cons.1 h
    have hx := hs x (by simp)
    have := nodup_len (b := b.erase x) h2 fun y hy => (List.mem_erase_of_ne (fun e => h1 (by rw [← e]; exact hy))).2 (hs y (by simp [hy]))
    rw [List.length_erase_of_mem hx] at this
    have := List.length_pos_of_mem hx
    simp only [List.length_cons]
    omega
theorem flt_lt {α : Type} {p q : α → Bool} {x : α} : ∀ {l : List α}, (∀ y ∈ l, q y = true → p y = true) → x ∈ l → p x = true → q x = false → (l.filter q).length < (l.filter p).length
  | [], _, hx, _, _ => by simp at hx
  | y :: r, h, hx, hp, hq => by
    have hle : ∀ {l : List α}, (∀ y ∈ l, q y = true → p y = true) → (l.filter q).length ≤ (l.filter p).length := by
      intro l
      induction l with
      | nil => simp
      | cons z l ih =>
        intro h
        have := ih fun y hy => h y (by simp [hy])
        by_cases hz : q z = true
        · rw [List.filter_cons_of_pos hz, List.filter_cons_of_pos (h z (by simp) hz)]; simpa using this
        · rw [List.filter_cons_of_neg hz]
          by_cases hpz : p z = true
          · rw [List.filter_cons_of_pos hpz]; simp; omega
          · rw [List.filter_cons_of_neg hpz]; exact this
    rcases List.mem_cons.1 hx with rfl | hx
    · rw [List.filter_cons_of_pos hp, List.filter_cons_of_neg (by simp [hq])]
      have := hle fun y hy => h y (List.mem_cons_of_mem _ hy)
      simp only [List.length_cons]; omega
    · have ih := flt_lt (fun y hy => h y (List.mem_cons_of_mem _ hy)) hx hp hq
      by_cases hy : q y = true
      · rw [List.filter_cons_of_pos hy, List.filter_cons_of_pos (h y (by simp) hy)]; simpa using ih
      · rw [List.filter_cons_of_neg hy]
        by_cases hpy : p y = true
        · rw [List.filter_cons_of_pos hpy]; simp only [List.length_cons]; omega
        · rw [List.filter_cons_of_neg hpy]; exact ih
theorem sort_asc {α : Type} {f : α → Int} {U : List α} {S : List Int} (hn : S.Nodup) (hk : ∀ k, k ∈ S ↔ ∃ x ∈ U, f x = k) : S.mergeSort leI = asc f U := by
  have hp : (S.mergeSort leI).Perm S := List.mergeSort_perm _ _
  refine Asc.ext ?_ (asc_asc f U) fun y => by rw [hp.mem_iff, hk, mem_asc]
  have h1 : (S.mergeSort leI).Pairwise (fun a b => leI a b = true) := by
    refine List.pairwise_mergeSort ?_ ?_ _
    · intro a b c h1 h2
      simp only [leI, decide_eq_true_eq] at h1 h2 ⊢
      omega
    · intro a b
      simp only [leI, Bool.or_eq_true, decide_eq_true_eq]
      omega
  have h2 : (S.mergeSort leI).Nodup := hp.nodup_iff.2 hn
  refine (h1.and h2).imp ?_
  rintro a b ⟨q1, q2⟩
  simp only [leI, decide_eq_true_eq] at q1
  omega
theorem MOK.sub {es es' : List Ent} {c : Nat} (h : MOK es c) (h1 : (es'.map (·.1)).Sublist (es.map (·.1))) (h2 : (es'.map (·.2.2)).Sublist (es.map (·.2.2))) : MOK es' c := by
  refine ⟨h.keys.sublist h1, h.born.sublist h2, ?_, ?_, ?_⟩
  · intro e he
    have := h2.subset (List.mem_map_of_mem (f := (·.2.2)) he)
    obtain ⟨e', he', e1⟩ := List.mem_map.1 this
    rw [← e1]
    exact h.old e' he'
  · intro e he
    have := h1.subset (List.mem_map_of_mem (f := (·.1)) he)
    obtain ⟨e', he', e1⟩ := List.mem_map.1 this
    rw [← e1]
    exact h.rng e' he'
  · have := h1.length_le
    simp only [List.length_map] at this
    exact Nat.le_trans this h.len
theorem mdel_sub (k : Int) : ∀ es : List Ent, (mdel k es).Sublist es
  | [] => List.Sublist.refl _
  | e :: r => by
    unfold mdel
    split
    · exact List.sublist_cons_self _ _
    · exact (mdel_sub k r).cons_cons e
theorem MOK.del {es : List Ent} {c : Nat} (h : MOK es c) (k : Int) : MOK (mdel k es) c := h.sub ((mdel_sub k es).map _) ((mdel_sub k es).map _)
theorem mdel_keys {k x : Int} : ∀ {es : List Ent}, (es.map (·.1)).Nodup → (x ∈ (mdel k es).map (·.1) ↔ x ∈ es.map (·.1) ∧ x ≠ k)
  | [], _ => by simp [mdel]
  | e :: r, h => by
    rw [List.map_cons, List.nodup_cons] at h
    unfold mdel
    split
    · rename_i he
      rw [List.map_cons, List.mem_cons]
      constructor
      · intro q
        exact ⟨.inr q, fun z => h.1 (by rw [← he, ← z]; exact q)⟩
      · rintro ⟨q | q, hne⟩
        · exact absurd (q.trans he.symm) hne
        · exact q
    · rename_i he
      rw [List.map_cons, List.mem_cons, List.map_cons, List.mem_cons, mdel_keys h.2]
      constructor
      · rintro (q | q)
        · exact ⟨.inl q, fun z => he (z.symm.trans q)⟩
        · exact ⟨.inr q.1, q.2⟩
      · rintro ⟨q | q, hne⟩
        · exact .inl q
        · exact .inr ⟨q, hne⟩
theorem mdel_nil {k : Int} {es : List Ent} (h : mdel k es = []) (hn : (es.map (·.1)).Nodup) {x : Int} (hx : x ∈ es.map (·.1)) : x = k := by
  rcases Int.decEq x k with q | q
  · have := (mdel_keys (k := k) hn).2 ⟨hx, q⟩
    rw [h] at this
    simp at this
  · exact q
/-! ### The notes -/
theorem mdel_filter (k : Int) : ∀ (N : List NE), ((N.map NE.ent).map (·.1)).Nodup → mdel k (N.map NE.ent) = (N.filter fun e => decide (e.k ≠ k)).map NE.ent
  | [], _ => rfl
  | e :: r, h => by
    rw [List.map_cons, List.map_cons, List.nodup_cons] at h
    rw [List.map_cons]
    unfold mdel
    by_cases he : k = e.k
    · rw [if_pos (show k = (NE.ent e).1 from he), List.filter_cons_of_neg (by simp [he])]
      have : r.filter (fun e => decide (e.k ≠ k)) = r := by
        refine List.filter_eq_self.2 fun e' he' => ?_
        simp only [ne_eq, decide_not, Bool.not_eq_eq_eq_not, Bool.not_true, decide_eq_false_iff_not]
        intro z
        refine h.1 ?_
        rw [ent_keys]
        show e.k ∈ _
        rw [← he, ← z]
        exact List.mem_map_of_mem he'
      rw [this]
    · rw [if_neg (show ¬ k = (NE.ent e).1 from he), List.filter_cons_of_pos (by simpa using fun z => he z.symm), List.map_cons, mdel_filter k r h.2]
theorem SurvN.of {note : Int × Int → Int} {U : List (Int × Int)} {N : List NE} {cn : Nat} (m : MOK (N.map NE.ent) cn) (o : ∀ e ∈ N, owf 1 e.o e.xs.length (ivals e.xs) ∧ e.o.pre.length ≤ 0) (d : ∀ e ∈ N, e.xs.Nodup)
    (v : ∀ e ∈ N, ∀ v, v ∈ e.xs ↔ ∃ x ∈ U, x.1 = e.k ∧ note x = v) (e : ∀ e ∈ N, ∃ x ∈ U, x.1 = e.k) (k : ∀ x ∈ U, ∃ e ∈ N, e.k = x.1) : SurvN note U N cn := by
  refine ⟨m, o, d, v, e, k, ?_, ?_⟩
  · have h1 : (N.map NE.k).Nodup := by have := m.keys; rwa [ent_keys] at this
    have := nodup_len (b := U.map (·.1)) h1 fun x hx => by
      obtain ⟨y, hy, rfl⟩ := List.mem_map.1 hx
      obtain ⟨z, hz, q⟩ := e y hy
      exact List.mem_map.2 ⟨z, hz, q⟩
    simpa using this
  · intro y hy
    have := nodup_len (b := U.map note) (d y hy) fun x hx => by
      obtain ⟨z, hz, _, q⟩ := (v y hy x).1 hx
      exact List.mem_map.2 ⟨z, hz, q⟩
    simpa using this
theorem SurvB.of {bun : Int × Int → Int} {U : List (Int × Int)} {B : List BE} {cb : Nat} (m : MOK (B.map BE.ent) cb) (i : ∀ e ∈ B, MOK e.es e.c)
    (v : ∀ e ∈ B, ∀ k, k ∈ e.es.map (·.1) ↔ ∃ x ∈ U, bun x = e.k ∧ x.1 = k) (e : ∀ e ∈ B, ∃ x ∈ U, bun x = e.k) (k : ∀ x ∈ U, ∃ e ∈ B, e.k = bun x) : SurvB bun U B cb := by
  refine ⟨m, i, v, e, k, ?_, ?_⟩
  · have h1 : (B.map BE.k).Nodup := by have := m.keys; rwa [bent_keys] at this
    have := nodup_len (b := U.map bun) h1 fun x hx => by
      obtain ⟨y, hy, rfl⟩ := List.mem_map.1 hx
      obtain ⟨z, hz, q⟩ := e y hy
      exact List.mem_map.2 ⟨z, hz, q⟩
    simpa using this
  · intro y hy
    have := nodup_len (b := U.map (·.1)) (i y hy).keys fun x hx => by
      obtain ⟨z, hz, _, q⟩ := (v y hy x).1 hx
      exact List.mem_map.2 ⟨z, hz, q⟩
    simpa using this
theorem SurvN.del {note : Int × Int → Int} {U U' : List (Int × Int)} {N : List NE} {cn : Nat} (h : SurvN note U N cn) (k : Int) (hU : ∀ x, x ∈ U' ↔ x ∈ U ∧ x.1 ≠ k) :
    ∃ N' r, SurvN note U' N' cn ∧ mdel k (N.map NE.ent) = N'.map NE.ent ∧ (nch N).Perm (nch N' ++ r) := by
  refine ⟨N.filter fun e => decide (e.k ≠ k), nch (N.filter fun e => ! decide (e.k ≠ k)), ?_, mdel_filter k N h.m.keys, ?_⟩
  · have hmem : ∀ e ∈ N.filter (fun e => decide (e.k ≠ k)), e ∈ N ∧ e.k ≠ k := fun e he => by
      obtain ⟨h1, h2⟩ := List.mem_filter.1 he
      exact ⟨h1, by simpa using h2⟩
    refine SurvN.of ?_ (fun e he => h.o e (hmem e he).1) (fun e he => h.d e (hmem e he).1) ?_ ?_ ?_
    · exact h.m.sub ((List.filter_sublist.map _).map _) ((List.filter_sublist.map _).map _)
    · intro e he v
      rw [h.v e (hmem e he).1]
      constructor
      · rintro ⟨x, hx, q, q2⟩
        exact ⟨x, (hU x).2 ⟨hx, by rw [q]; exact (hmem e he).2⟩, q, q2⟩
      · rintro ⟨x, hx, q⟩
        exact ⟨x, ((hU x).1 hx).1, q⟩
    · intro e he
      obtain ⟨x, hx, q⟩ := h.e e (hmem e he).1
      exact ⟨x, (hU x).2 ⟨hx, by rw [q]; exact (hmem e he).2⟩, q⟩
    · intro x hx
      obtain ⟨h1, h2⟩ := (hU x).1 hx
      obtain ⟨e, he, q⟩ := h.k x h1
      exact ⟨e, List.mem_filter.2 ⟨he, by simpa [q] using h2⟩, q⟩
  · unfold nch
    rw [← List.map_append]
    exact (List.filter_append_perm (fun e => decide (e.k ≠ k)) N).symm.map _
/-! ### The bundles -/
def delE (k : Int) (e : BE) : Option BE := match mdel k e.es with | [] => none | x :: r => some { e with es := x :: r }
/-- In the middle of the loop: some entries are seen. -/
def curB (k : Int) (seen : List Nat) (B : List BE) : List BE := B.filterMap fun e => if e.b ∈ seen then delE k e else some e
theorem delE_kb {k : Int} {e e' : BE} (h : delE k e = some e') : e'.k = e.k ∧ e'.b = e.b ∧ e'.blk = e.blk ∧ e'.c = e.c ∧ e'.es = mdel k e.es ∧ mdel k e.es ≠ [] := by
  unfold delE at h
  split at h
  · cases h
  · rename_i x r hx
    obtain rfl := Option.some.inj h
    exact ⟨rfl, rfl, rfl, rfl, hx.symm, by rw [hx]; simp⟩
theorem curB_mem {k : Int} {seen : List Nat} {B : List BE} {e' : BE} (h : e' ∈ curB k seen B) : ∃ e ∈ B, e'.k = e.k ∧ e'.b = e.b ∧ e'.blk = e.blk ∧ (e.b ∉ seen → e' = e) ∧ (e.b ∈ seen → delE k e = some e') := by
  obtain ⟨e, he, h1⟩ := List.mem_filterMap.1 h
  by_cases q : e.b ∈ seen
  · rw [if_pos q] at h1
    have := delE_kb h1
    exact ⟨e, he, this.1, this.2.1, this.2.2.1, fun z => absurd q z, fun _ => h1⟩
  · rw [if_neg q] at h1
    obtain rfl := Option.some.inj h1
    exact ⟨e, he, rfl, rfl, rfl, fun _ => rfl, fun z => absurd z q⟩
theorem curB_sub (k : Int) (seen : List Nat) {β : Type} (f : BE → β) (hf : ∀ e e', delE k e = some e' → f e' = f e) : ∀ B : List BE, ((curB k seen B).map f).Sublist (B.map f)
  | [] => List.Sublist.refl _
  | e :: r => by
    have ih := curB_sub k seen f hf r
    unfold curB at ih ⊢
    rw [List.filterMap_cons]
    split
    · exact ih.cons _
    · rename_i e' h1
      rw [List.map_cons, List.map_cons]
      have : f e' = f e := by
        split at h1
        · exact hf e e' h1
        · obtain rfl := Option.some.inj h1; rfl
      rw [this]
      exact ih.cons_cons _
theorem bent_born (B : List BE) : (B.map BE.ent).map (·.2.2) = B.map BE.b := by simp [BE.ent]
theorem curB_MOK {k : Int} {seen : List Nat} {B : List BE} {cb : Nat} (h : MOK (B.map BE.ent) cb) : MOK ((curB k seen B).map BE.ent) cb := by
  refine h.sub ?_ ?_
  · have := curB_sub k seen BE.k (fun e e' q => (delE_kb q).1) B
    rw [bent_keys, bent_keys]; exact this
  · have := curB_sub k seen BE.b (fun e e' q => (delE_kb q).2.1) B
    rw [bent_born, bent_born]; exact this
theorem curB_nil (k : Int) (B : List BE) : curB k [] B = B := by simp [curB]
theorem curB_app (k : Int) (seen : List Nat) (A B : List BE) : curB k seen (A ++ B) = curB k seen A ++ curB k seen B := List.filterMap_append
theorem curB_push {k : Int} {seen : List Nat} {b : Nat} : ∀ {B : List BE}, b ∉ B.map BE.b → curB k (seen ++ [b]) B = curB k seen B
  | [], _ => rfl
  | e :: r, h => by
    rw [List.map_cons, List.mem_cons, not_or] at h
    have ih := curB_push (k := k) (seen := seen) h.2
    unfold curB at ih ⊢
    rw [List.filterMap_cons, List.filterMap_cons, ih]
    have : (e.b ∈ seen ++ [b]) ↔ e.b ∈ seen := by
      rw [List.mem_append, List.mem_singleton]
      exact ⟨fun q => q.elim id fun z => absurd z.symm h.1, .inl⟩
    simp only [this]
/-- One round of the loop. -/
structure RoundB (k : Int) (seen : List Nat) (B : List BE) (o : Ent) (e : BE) (A R : List BE) : Prop where
  o : o = e.ent
  m : e ∈ B
  n : e.b ∉ seen
  c : curB k seen B = A ++ e :: R
  p : curB k (seen ++ [e.b]) B = A ++ (delE k e).toList ++ R
  k : e.k ∉ A.map BE.k ∧ e.k ∉ R.map BE.k
theorem roundB {k : Int} {seen : List Nat} {B : List BE} {cb : Nat} (h : MOK (B.map BE.ent) cb) {o : Ent} (ho : o ∈ (curB k seen B).map BE.ent) (hs : o.2.2 ∉ seen) : ∃ e A R, RoundB k seen B o e A R := by
  obtain ⟨e', he', rfl⟩ := List.mem_map.1 ho
  obtain ⟨e, he, h1, h2, h3, h4, h5⟩ := curB_mem he'
  have hes : e.b ∉ seen := by rw [← h2]; exact hs
  obtain rfl := h4 hes
  obtain ⟨A, R, hB⟩ := List.append_of_mem he
  have hk := h.keys
  rw [bent_keys, hB, List.map_append, List.map_cons] at hk
  have hb : ((B.map BE.ent).map (·.2.2)) = B.map BE.b := by simp [BE.ent]
  have hbn := h.born
  rw [hb, hB, List.map_append, List.map_cons] at hbn
  obtain ⟨k1, k2⟩ := nodup_mid hk
  have b12 : e'.b ∉ A.map BE.b ∧ e'.b ∉ R.map BE.b := by
    rw [List.nodup_append] at hbn
    obtain ⟨_, q2, q3⟩ := hbn
    exact ⟨fun q => q3 _ q e'.b (by simp) rfl, (List.nodup_cons.1 q2).1⟩
  refine ⟨e', curB k seen A, curB k seen R, rfl, he, hes, ?_, ?_, ?_, ?_⟩
  · rw [hB, curB_app, show e' :: R = [e'] ++ R from rfl, curB_app]
    have : curB k seen [e'] = [e'] := by simp [curB, hes]
    rw [this]; rfl
  · rw [hB, curB_app, show e' :: R = [e'] ++ R from rfl, curB_app, curB_push b12.1, curB_push b12.2]
    have : curB k (seen ++ [e'.b]) [e'] = (delE k e').toList := by
      unfold curB
      rw [List.filterMap_cons]
      simp only [List.mem_append, List.mem_singleton, or_true, if_true, List.filterMap_nil]
      cases delE k e' <;> rfl
    rw [this, List.append_assoc]
  · exact fun q => k1 ((curB_sub k seen BE.k (fun e e' q => (delE_kb q).1) A).subset q)
  · exact fun q => k2 ((curB_sub k seen BE.k (fun e e' q => (delE_kb q).1) R).subset q)
theorem mdel_mid {k : Int} {v : Value} {b : Nat} {R : List Ent} : ∀ {A : List Ent}, k ∉ A.map (·.1) → mdel k (A ++ (k, v, b) :: R) = A ++ R
  | [], _ => by simp [mdel]
  | e :: r, h => by
    simp only [List.map_cons, List.mem_cons, not_or] at h
    simp only [List.cons_append, mdel, if_neg h.1]
    rw [mdel_mid h.2]
theorem SurvB.del {bun : Int × Int → Int} {U U' : List (Int × Int)} {B : List BE} {cb : Nat} (h : SurvB bun U B cb) (k : Int) (hU : ∀ x, x ∈ U' ↔ x ∈ U ∧ x.1 ≠ k) {seen : List Nat} (hs : ∀ e ∈ (curB k seen B).map BE.ent, e.2.2 ∈ seen) :
    SurvB bun U' (curB k seen B) cb := by
  have hall : ∀ e ∈ B, e.b ∈ seen := by
    intro e he
    rcases Decidable.em (e.b ∈ seen) with q | q
    · exact q
    · have : e ∈ curB k seen B := List.mem_filterMap.2 ⟨e, he, by rw [if_neg q]⟩
      exact absurd (hs _ (List.mem_map_of_mem this)) q
  have hcur : ∀ e' ∈ curB k seen B, ∃ e ∈ B, delE k e = some e' := fun e' he' => by
    obtain ⟨e, he, _, _, _, _, h5⟩ := curB_mem he'
    exact ⟨e, he, h5 (hall e he)⟩
  refine SurvB.of (curB_MOK h.m) ?_ ?_ ?_ ?_
  · intro e' he'
    obtain ⟨e, he, hd⟩ := hcur e' he'
    obtain ⟨_, _, _, h4, h5, _⟩ := delE_kb hd
    rw [h4, h5]
    exact (h.i e he).del k
  · intro e' he' x
    obtain ⟨e, he, hd⟩ := hcur e' he'
    obtain ⟨h1, _, _, h4, h5, _⟩ := delE_kb hd
    rw [h5, mdel_keys (h.i e he).keys, h.v e he, h1]
    constructor
    · rintro ⟨⟨y, hy, q1, q2⟩, hne⟩
      exact ⟨y, (hU y).2 ⟨hy, by rw [q2]; exact hne⟩, q1, q2⟩
    · rintro ⟨y, hy, q1, q2⟩
      obtain ⟨p1, p2⟩ := (hU y).1 hy
      exact ⟨⟨y, p1, q1, q2⟩, by rw [← q2]; exact p2⟩
  · intro e' he'
    obtain ⟨e, he, hd⟩ := hcur e' he'
    obtain ⟨h1, _, _, h4, h5, h6⟩ := delE_kb hd
    obtain ⟨x, r, hx⟩ : ∃ x r, mdel k e.es = x :: r := by
      cases hm : mdel k e.es with
      | nil => exact absurd hm h6
      | cons x r => exact ⟨x, r, rfl⟩
    have hk := (mdel_keys (x := x.1) (k := k) (h.i e he).keys).1 (by rw [hx]; simp)
    obtain ⟨y, hy, q1, q2⟩ := (h.v e he x.1).1 hk.1
    exact ⟨y, (hU y).2 ⟨hy, by rw [q2]; exact hk.2⟩, by rw [h1]; exact q1⟩
  · intro x hx
    obtain ⟨p1, p2⟩ := (hU x).1 hx
    obtain ⟨e, he, q⟩ := h.k x p1
    have hk := (h.v e he x.1).2 ⟨x, p1, q.symm, rfl⟩
    have hne : mdel k e.es ≠ [] := fun z => p2 (mdel_nil z (h.i e he).keys hk)
    cases hm : mdel k e.es with
    | nil => exact absurd hm hne
    | cons y r =>
      have hd : delE k e = some { e with es := y :: r } := by unfold delE; rw [hm]
      exact ⟨{ e with es := y :: r }, List.mem_filterMap.2 ⟨e, he, by rw [if_pos (hall e he)]; exact hd⟩, q⟩
theorem restC_take (R : List Int) (cs : List (Int × Int)) (i : Nat) (hi : i < R.length) (x : Int × Int) : x ∈ restC (R.take (i + 1)) cs ↔ x ∈ restC (R.take i) cs ∧ x.1 ≠ R.getD i 0 := by
  unfold restC
  simp only [List.mem_filter, decide_eq_true_eq]
  rw [take_snoc R i 0 hi, List.mem_append, List.mem_singleton, not_or]
  exact ⟨fun ⟨a, b, c⟩ => ⟨⟨a, b⟩, c⟩, fun ⟨⟨a, b⟩, c⟩ => ⟨a, b, c⟩⟩
/-! ### All notes that are left -/
structure AllN (note : Int × Int → Int) (U : List (Int × Int)) (N : List NE) (seen : List Nat) (S : List Int) : Prop where
  n : S.Nodup
  m : ∀ v, v ∈ S ↔ ∃ e ∈ N, e.b ∈ seen ∧ v ∈ e.xs
theorem AllN.nil {note : Int × Int → Int} {U : List (Int × Int)} {N : List NE} : AllN note U N [] [] := ⟨by simp, by simp⟩
theorem AllN.len {note : Int × Int → Int} {U : List (Int × Int)} {N : List NE} {cn : Nat} {seen : List Nat} {S : List Int} (h : SurvN note U N cn) (a : AllN note U N seen S) : S.length ≤ U.length := by
  have := nodup_len (b := U.map note) a.n fun x hx => by
    obtain ⟨e, he, _, q⟩ := (a.m x).1 hx
    obtain ⟨z, hz, _, q⟩ := (h.v e he x).1 q
    exact List.mem_map.2 ⟨z, hz, q⟩
  simpa using this
theorem SurvN.same {note : Int × Int → Int} {U : List (Int × Int)} {N : List NE} {cn : Nat} (h : SurvN note U N cn) {e e' : NE} (he : e ∈ N) (he' : e' ∈ N) (hk : e'.k = e.k) : e' = e := by
  obtain ⟨A, R, rfl⟩ := List.append_of_mem he
  have hno := h.m.keys
  rw [ent_keys, List.map_append, List.map_cons] at hno
  obtain ⟨hA, hR⟩ := nodup_mid hno
  rcases List.mem_append.1 he' with q | q
  · exact absurd (hk ▸ List.mem_map_of_mem q) hA
  · rcases List.mem_cons.1 q with q | q
    · exact q
    · exact absurd (hk ▸ List.mem_map_of_mem q) hR
theorem AllN.step {note : Int × Int → Int} {U : List (Int × Int)} {N : List NE} {cn : Nat} {seen : List Nat} {S : List Int} (h : SurvN note U N cn) (hinj : ∀ x ∈ U, ∀ y ∈ U, note x = note y → x = y) (a : AllN note U N seen S) {e : NE} (he : e ∈ N) (hs : e.b ∉ seen) : AllN note U N (seen ++ [e.b]) (S ++ e.xs) := by
  refine ⟨?_, fun v => ?_⟩
  · rw [List.nodup_append]
    refine ⟨a.n, h.d e he, ?_⟩
    intro x hx y hy hxy
    subst hxy
    obtain ⟨e', he', q1, q2⟩ := (a.m x).1 hx
    obtain ⟨z, hz, z1, z2⟩ := (h.v e' he' x).1 q2
    obtain ⟨u, hu, u1, u2⟩ := (h.v e he x).1 hy
    have := hinj z hz u hu (z2.trans u2.symm)
    subst this
    have := h.same he he' (z1.symm.trans u1)
    subst this
    exact hs q1
  · rw [List.mem_append, a.m]
    constructor
    · rintro (⟨e', he', q1, q2⟩ | q)
      · exact ⟨e', he', by simp [q1], q2⟩
      · exact ⟨e, he, by simp, q⟩
    · rintro ⟨e', he', q1, q2⟩
      rw [List.mem_append, List.mem_singleton] at q1
      rcases q1 with q1 | q1
      · exact .inl ⟨e', he', q1, q2⟩
      · have hb := h.m.born
        have : (N.map NE.ent).map (·.2.2) = N.map NE.b := by simp [NE.ent]
        rw [this] at hb
        obtain ⟨A, R, rfl⟩ := List.append_of_mem he
        rw [List.map_append, List.map_cons, List.nodup_append] at hb
        obtain ⟨_, p2, p3⟩ := hb
        rcases List.mem_append.1 he' with z | z
        · exact absurd q1 (p3 _ (List.mem_map_of_mem z) e.b (by simp))
        · rcases List.mem_cons.1 z with z | z
          · subst z; exact .inr q2
          · exact absurd (q1 ▸ List.mem_map_of_mem z) (List.nodup_cons.1 p2).1
theorem AllN.done {note : Int × Int → Int} {U : List (Int × Int)} {N : List NE} {cn : Nat} {seen : List Nat} {S : List Int} (h : SurvN note U N cn) (a : AllN note U N seen S) (hs : ∀ e ∈ N.map NE.ent, e.2.2 ∈ seen) : S.mergeSort leI = asc note U := by
  refine sort_asc a.n fun v => ?_
  rw [a.m]
  constructor
  · rintro ⟨e, he, _, q⟩
    obtain ⟨x, hx, _, q⟩ := (h.v e he v).1 q
    exact ⟨x, hx, q⟩
  · rintro ⟨x, hx, q⟩
    obtain ⟨e, he, q1⟩ := h.k x hx
    exact ⟨e, he, hs _ (List.mem_map_of_mem he), (h.v e he v).2 ⟨x, hx, q1.symm, q⟩⟩
end Go.KL
end

section
/- Walks: package sheet, repair. -/
namespace Go.KL
open Go.Proofs
theorem push_list (seen : Array Nat) (b : Nat) : (seen.push b).toList = seen.toList ++ [b] := by simp
theorem restC_nil (cs : List (Int × Int)) : restC [] cs = cs := List.filter_eq_self.2 fun x _ => by simp
theorem cells_mem {W : World} {Ls : List Chunk} (i : Nat) {e : NE} (hi : e.cell ∈ Ls.getD i []) : CellsAre (K W Ls) ⟨e.o.b, e.o.pre.length, none⟩ (ivals e.xs) := by
  intro w hw j hj
  rw [addr_add]
  exact (cell_mem (v := (ivals e.xs)[j]) i hi (by rw [och_get hj]; exact List.getElem?_eq_getElem hj)) w hw |>.trans (List.getElem?_eq_getElem hj).symm
theorem owfO_len {s : Nat} {o : Option Own} {m : Nat} {xs ys : List Value} (h : owfO s o m xs) (hl : ys.length = xs.length) : owfO s o m ys := by
  cases o with
  | none => exact ⟨List.eq_nil_of_length_eq_zero (by rw [hl, h.1]; rfl), h.2⟩
  | some o => exact ⟨⟨h.1.le, h.1.max, by rw [hl]; exact h.1.len, h.1.room⟩, h.2⟩
theorem mergeSort_len (S : List Int) : (S.mergeSort leI).length = S.length := (List.mergeSort_perm _ _).length_eq
attribute [local irreducible] SC St Fin Sq Sw Ylds Doos Sets Enters Spec CellIs CellsAre Then Ret Rnd Chn resOK ints bools recs arr
set_option maxRecDepth 10000 in
set_option maxHeartbeats 16000000 in
theorem repair_spec (W : World) (Ls : List Chunk) (l : Lay) (s : Int) (cs : List (Int × Int)) (bn bb : Nat) (d : Dmg) (c : Cos) (R : List Int) (Rv : Value) (N : Int) (h : Gd l s) (hin : ∀ x ∈ cs, CellIn l s x.1 x.2) (hd : d.OK l s cs) (hcst : c.OK) (hR : IL (K W Ls) Rv R) (hl : cs.length ≤ 100000) (hRl : R.length ≤ 100000) :
    Spec Try.prog 50 #[dmgV bn bb N, c.v, Rv] (K W (d.ls bn bb Ls))
      (X := { x : Option Own × Option Own // owfO 1 x.1 (asc (notC l s) (restC R cs)).length (ivals (asc (notC l s) (restC R cs))) ∧ owfO 1 x.2 (asc (bunC l s) (restC R cs)).length (ivals (asc (bunC l s) (restC R cs))) })
      (fun x => .agg #[.int .i64 (costF l s c cs R), Rv, ov x.1.1 (asc (notC l s) (restC R cs)).length, ov x.1.2 (asc (bunC l s) (restC R cs)).length])
      (fun x => K W (oc 3 x.1.1 (ivals (asc (notC l s) (restC R cs))) :: oc 3 x.1.2 (ivals (asc (bunC l s) (restC R cs))) :: Ls)) := by
  have g1 := hcst.r; have g2 := hcst.s; have g3 := hcst.o
  obtain ⟨pr, cr, rfl, hcr, hrs⟩ := hR.open
  have m1 := mul_bd (a := R.length) (b := c.r) (A := 100000) (B := 1048576) (by omega) (by omega)
  refine enter (args := [_, _, _]) Try.func50 rfl Try.ntmps50 rfl ?_
  refine c_seq ?_
  refine c_region ?_
  refine s_do (do_box rfl) rfl rfl rfl (fun b3 => ?_)
  refine s_do (do_box rfl) rfl rfl rfl (fun b4 => ?_)
  refine s_do (do_alloc Try.tab rfl) rfl rfl rfl (fun b6 => ?_)
  refine s_nil ?_
  refine f_then ?_
  refine c_seq ?_
  refine c_region ?_
  refine s_y (y_move rfl) rfl rfl rfl ?_
  refine s_y (y_move rfl) rfl rfl rfl ?_
  refine s_y (y_len Try.tab rfl rfl) rfl rfl rfl ?_
  refine s_y (y_fieldAddr0 Try.tab rfl rfl rfl rfl rfl) rfl rfl rfl ?_
  refine s_y (y_load Try.tab rfl rfl (cell_row 1 rfl rfl)) rfl rfl rfl ?_
  refine s_y (y_mul rfl rfl (by omega)) rfl rfl rfl ?_
  refine s_y (y_build Try.tab rfl rfl rfl rfl rfl) rfl rfl rfl ?_
  refine s_do (do_alloc Try.tab rfl) rfl rfl rfl (fun b7 => ?_)
  refine s_set (set_box Try.tab 0 rfl rfl rfl rfl rfl rfl rfl) rfl rfl ?_
  refine s_nil ?_
  refine f_then ?_
  refine c_seq ?_
  refine c_seq ?_
  refine c_region ?_
  refine s_y (y_move rfl) rfl rfl rfl ?_
  refine s_y (y_len Try.tab rfl rfl) rfl rfl rfl ?_
  refine s_y (y_move rfl) rfl rfl rfl ?_
  refine s_nil ?_
  refine f_then ?_
  refine c_block ?_
  refine c_loopP (α := Nat × Dmg) (fun z => [(3, .pointer (some ⟨b3, 0, none⟩)), (4, .pointer (some ⟨b4, 0, none⟩)), (6, .pointer (some ⟨b6, 0, none⟩)), (7, .pointer (some ⟨b7, 0, none⟩)), (21, .slice pr R.length cr), (22, .int .i64 R.length), (23, .int .i64 z.1)]) (fun z => z.1 ≤ R.length ∧ z.2.OK l s (restC (R.take z.1) cs))
    (fun z => K W ([(b7, row 32 [.int .i64 (R.length * c.r), .slice pr R.length cr, nilS, nilS])] :: [(b6, row 32 [.int .i64 0, nilS, nilS, nilS])] :: [(b4, row 26 [.int .i64 c.r, .int .i64 c.s, .int .i64 c.o])] :: [(b3, row 75 [.map (some bn), .map (some bb), .int .i64 N])] :: z.2.ls bn bb Ls)) (fun z => R.length - z.1) (0, d) ⟨rfl, rfl, rfl, rfl, rfl, rfl, rfl, trivial⟩ ⟨Nat.zero_le _, by show d.OK l s (restC [] cs); rw [restC_nil]; exact hd⟩ (fun w h => h) ?_
  clear hd d
  rintro ⟨i, d⟩ ⟨hi, hd⟩
  dsimp only at hi hd ⊢
  refine c_seq ?_
  refine c_region ?_
  refine s_y (y_lss rfl rfl) rfl rfl rfl ?_
  refine s_nil ?_
  refine f_then ?_
  refine c_seq ?_
  refine c_condD rfl (fun hlt => ?_) (fun hge => ?_)
  · obtain ⟨b, q, rfl, hcell⟩ := hrs (by omega)
    have hcx := (hcell i (by omega)).cls (C := K W ([(b7, row 32 [.int .i64 (R.length * c.r), .slice (some ⟨b, q, none⟩) R.length cr, nilS, nilS])] :: [(b6, row 32 [.int .i64 0, nilS, nilS, nilS])] :: [(b4, row 26 [.int .i64 c.r, .int .i64 c.s, .int .i64 c.o])] :: [(b3, row 75 [.map (some bn), .map (some bb), .int .i64 N])] :: d.ls bn bb Ls)) fun w h => h.tail.tail.tail.tail.tail.tail.tail.tail
    obtain ⟨N', r, hN', eN', pN'⟩ := hd.n.del (R.getD i 0) (restC_take R cs i (by omega))
    have hdel := fun seen => hd.b.del (R.getD i 0) (restC_take R cs i (by omega)) (seen := seen)
    generalize hk : R.getD i 0 = k at *
    refine c_skip ?_
    refine f_then ?_
    refine c_seq ?_
    refine c_block ?_
    refine c_seq ?_
    refine c_region ?_
    refine s_y (y_indexAddr1o Try.tab rfl rfl rfl rfl _ rfl (by omega)) rfl rfl rfl ?_
    refine s_y (y_load Try.tab rfl rfl hcx) rfl rfl rfl ?_
    refine s_y (y_assign rfl) rfl rfl rfl ?_
    refine s_nil ?_
    refine f_then ?_
    refine c_seq ?_
    refine c_region ?_
    refine s_y (y_fieldAddr0 Try.tab rfl rfl rfl rfl rfl) rfl rfl rfl ?_
    refine s_y (y_load Try.tab rfl rfl (cell_row 3 rfl rfl)) rfl rfl rfl ?_
    refine s_y (y_move rfl) rfl rfl rfl ?_
    refine s_do0 (do_delete Try.tab 4 rfl rfl rfl rfl rfl) rfl rfl (fun _ => ?_)
    refine St.cls (C' := K W ([(b7, row 32 [.int .i64 (R.length * c.r), .slice (some ⟨b, q, none⟩) R.length cr, nilS, nilS])] :: [(b6, row 32 [.int .i64 0, nilS, nilS, nilS])] :: [(b4, row 26 [.int .i64 c.r, .int .i64 c.s, .int .i64 c.o])] :: [(b3, row 75 [.map (some bn), .map (some bb), .int .i64 N])] :: [(bn, mobj (N'.map NE.ent) d.cn)] :: [(bb, mobj (d.B.map BE.ent) d.cb)] :: nch N' :: bch d.B :: Ls)) ?_ (fun w h => by rw [← eN']; exact (((K.front 6 h).perm pN').split.dropAt 1).fronts [6, 6, 6, 6, 6, 6])
    refine s_nil ?_
    refine f_then ?_
    refine c_seq ?_
    refine c_region ?_
    refine s_y (y_fieldAddrB Try.tab 1 rfl rfl rfl rfl rfl) rfl rfl rfl ?_
    refine s_y (y_load Try.tab rfl rfl (cell_row 3 rfl rfl)) rfl rfl rfl ?_
    refine s_do (do_range Try.tab 5 rfl rfl rfl) rfl rfl rfl (fun br => ?_)
    refine s_nil ?_
    refine f_then ?_
    refine c_block ?_
    refine c_loopP (α := Array Nat) (fun _ => [(3, .pointer (some ⟨b3, 0, none⟩)), (4, .pointer (some ⟨b4, 0, none⟩)), (6, .pointer (some ⟨b6, 0, none⟩)), (7, .pointer (some ⟨b7, 0, none⟩)), (9, .int .i64 k), (21, .slice (some ⟨b, q, none⟩) R.length cr), (22, .int .i64 R.length), (23, .int .i64 i), (32, .pointer (some ⟨br, 0, none⟩))]) (fun _ => True)
      (fun seen => K W ([(br, mit bb d.cb seen)] :: [(b7, row 32 [.int .i64 (R.length * c.r), .slice (some ⟨b, q, none⟩) R.length cr, nilS, nilS])] :: [(b6, row 32 [.int .i64 0, nilS, nilS, nilS])] :: [(b4, row 26 [.int .i64 c.r, .int .i64 c.s, .int .i64 c.o])] :: [(b3, row 75 [.map (some bn), .map (some bb), .int .i64 N])] :: [(bn, mobj (N'.map NE.ent) d.cn)] :: [(bb, mobj ((curB k seen.toList d.B).map BE.ent) d.cb)] :: nch N' :: bch (curB k seen.toList d.B) :: Ls))
      (fun seen => (d.B.filter fun e => decide (e.b ∉ seen.toList)).length) #[] ⟨rfl, rfl, rfl, rfl, rfl, rfl, rfl, rfl, rfl, trivial⟩ trivial (fun w h => by dsimp only; rw [curB_nil]; exact h) ?_
    rintro seen _
    have hM := curB_MOK (k := k) (seen := seen.toList) hd.b.m
    refine c_seq ?_
    refine c_region ?_
    refine s_do (do_next 0 6 rfl rfl rfl hM.old) rfl rfl rfl (fun x => ?_)
    obtain ⟨_ | e, hx⟩ := x
    · dsimp only [nextV, nextLs]
      refine s_y (y_extract rfl rfl) rfl rfl rfl ?_
      refine s_nil ?_
      refine f_then ?_
      refine c_seq ?_
      refine c_condF rfl ?_
      refine c_exit ?_
      refine f_thenE ?_
      refine f_rndE ?_
      refine f_blockE ?_
      refine f_blockN ?_
      refine f_then ?_
      refine c_region ?_
      refine s_y (y_add rfl rfl (by omega)) rfl rfl rfl ?_
      refine s_y (y_move rfl) rfl rfl rfl ?_
      refine s_nil ?_
      exact f_roundP (i + 1, ⟨N', d.cn, curB k seen.toList d.B, d.cb⟩) ⟨by show i + 1 ≤ _; omega, hN', hdel seen.toList fun e he => Array.mem_toList_iff.2 (hx e he)⟩ (by show R.length - (i + 1) < R.length - i; omega) ⟨rfl, rfl, rfl, rfl, rfl, rfl, rfl, trivial⟩ (fun w h => h.tail)
    obtain ⟨hx1, hx2⟩ := hx
    obtain ⟨e, A, B', hr⟩ := roundB hd.b.m hx1 (fun z => hx2 (Array.mem_toList_iff.1 z))
    have := hr.o
    subst this
    dsimp only [nextV, nextLs]
    refine s_y (y_extract rfl rfl) rfl rfl rfl ?_
    refine s_nil ?_
    refine f_then ?_
    refine c_seq ?_
    refine c_condT rfl ?_
    refine c_skip ?_
    refine f_then ?_
    refine c_block ?_
    refine c_seq ?_
    refine c_region ?_
    refine s_y (y_entry 0 6 (e := e.ent) rfl rfl rfl hx1 hM.born) rfl rfl rfl ?_
    refine s_y (y_extract rfl rfl) rfl rfl rfl ?_
    refine s_y (y_extract rfl rfl) rfl rfl rfl ?_
    refine s_y (y_assign rfl) rfl rfl rfl ?_
    refine s_y (y_assign rfl) rfl rfl rfl ?_
    refine s_nil ?_
    refine f_then ?_
    refine c_seq ?_
    refine c_region ?_
    refine s_y (y_move rfl) rfl rfl rfl ?_
    refine s_y (y_move rfl) rfl rfl rfl ?_
    have hpm : (bch (curB k seen.toList d.B)).Perm ([(e.blk, mobj e.es e.c)] ++ bch (A ++ B')) := by rw [hr.c]; simp [bch, BE.cell]
    refine St.cls (C' := K W ([(e.blk, mobj e.es e.c)] :: bch (A ++ B') :: [(br, mit bb d.cb (seen.push e.b))] :: [(b7, row 32 [.int .i64 (R.length * c.r), .slice (some ⟨b, q, none⟩) R.length cr, nilS, nilS])] :: [(b6, row 32 [.int .i64 0, nilS, nilS, nilS])] :: [(b4, row 26 [.int .i64 c.r, .int .i64 c.s, .int .i64 c.o])] :: [(b3, row 75 [.map (some bn), .map (some bb), .int .i64 N])] :: [(bn, mobj (N'.map NE.ent) d.cn)] :: [(bb, mobj ((curB k seen.toList d.B).map BE.ent) d.cb)] :: nch N' :: Ls)) ?_ (fun w h => ((K.front 8 h).perm hpm).split)
    refine s_do0 (do_delete Try.tab 0 rfl rfl rfl rfl rfl) rfl rfl (fun _ => ?_)
    refine s_nil ?_
    refine f_then ?_
    refine c_seq ?_
    refine c_region ?_
    refine s_y (y_move rfl) rfl rfl rfl ?_
    have hme : mdel k e.es = [] ∨ ∃ y t, mdel k e.es = y :: t := by
      cases mdel k e.es with
      | nil => exact .inl rfl
      | cons y t => exact .inr ⟨y, t, rfl⟩
    have hsub : (fun e' : BE => decide (e'.b ∉ (seen.push e.b).toList)) = fun e' : BE => decide (e'.b ∉ seen.toList ++ [e.b]) := by rw [push_list]
    have hms : (d.B.filter fun e' => decide (e'.b ∉ (seen.push e.b).toList)).length < (d.B.filter fun e' => decide (e'.b ∉ seen.toList)).length := by
      rw [hsub]
      refine flt_lt (x := e) (fun y _ q => ?_) hr.m (by simpa using hr.n) (by simp)
      simp only [decide_eq_true_eq, List.mem_append, not_or] at q ⊢
      exact q.1
    rcases hme with hm | ⟨y, t, hm⟩
    · refine s_y (y_lenZ Try.tab 0 0 rfl rfl rfl (by rw [hm]; rfl)) rfl rfl rfl ?_
      refine s_y (y_T (y_eql rfl rfl) (by omega)) rfl rfl rfl ?_
      refine s_nil ?_
      refine f_then ?_
      refine c_condT rfl ?_
      refine c_region ?_
      refine s_y (y_fieldAddrB Try.tab 1 rfl rfl rfl rfl rfl) rfl rfl rfl ?_
      refine s_y (y_load Try.tab rfl rfl (cell_row 6 rfl rfl)) rfl rfl rfl ?_
      refine s_y (y_move rfl) rfl rfl rfl ?_
      refine s_do0 (do_delete Try.tab 8 rfl rfl rfl rfl rfl) rfl rfl (fun _ => ?_)
      refine s_nil ?_
      refine f_blockN ?_
      have hnew : curB k (seen.push e.b).toList d.B = A ++ B' := by
        rw [push_list, hr.p]
        have : delE k e = none := by unfold delE; rw [hm]
        rw [this]; simp
      have hmd : mdel e.k ((curB k seen.toList d.B).map BE.ent) = (A ++ B').map BE.ent := by
        rw [hr.c, List.map_append, List.map_cons]
        show mdel e.k (A.map BE.ent ++ (e.k, .map (some e.blk), e.b) :: B'.map BE.ent) = _
        rw [mdel_mid (by rw [bent_keys]; exact hr.k.1), List.map_append]
      exact f_roundP (seen.push e.b) trivial hms ⟨rfl, rfl, rfl, rfl, rfl, rfl, rfl, rfl, rfl, trivial⟩ (fun w h => by rw [hnew, ← hmd]; exact (K.dropAt 0 h).fronts [8, 8, 8, 8, 8, 8, 8, 8])
    · refine s_y (y_lenZ Try.tab 0 (t.length + 1) rfl rfl rfl (by rw [hm]; rfl)) rfl rfl rfl ?_
      refine s_y (y_F (y_eql rfl rfl) (by omega)) rfl rfl rfl ?_
      refine s_nil ?_
      refine f_then ?_
      refine c_condF rfl ?_
      refine c_skip ?_
      refine f_blockN ?_
      have hnew : curB k (seen.push e.b).toList d.B = A ++ { e with es := y :: t } :: B' := by
        rw [push_list, hr.p]
        have : delE k e = some { e with es := y :: t } := by unfold delE; rw [hm]
        rw [this]; simp
      have hmp : (A ++ { e with es := y :: t } :: B').map BE.ent = (curB k seen.toList d.B).map BE.ent := by rw [hr.c, List.map_append, List.map_append, List.map_cons, List.map_cons]; rfl
      have hpn : ([(e.blk, mobj (mdel k e.es) e.c)] ++ bch (A ++ B')).Perm (bch (A ++ { e with es := y :: t } :: B')) := by
        rw [hm]
        have := (perm_mid (A.map BE.cell) (B'.map BE.cell) (e.blk, mobj (y :: t) e.c)).symm
        simpa [bch, BE.cell] using this
      exact f_roundP (seen.push e.b) trivial hms ⟨rfl, rfl, rfl, rfl, rfl, rfl, rfl, rfl, rfl, trivial⟩ (fun w h => by rw [hnew, hmp]; exact ((K.join h).perm hpn).fronts [8, 8, 8, 8, 8, 8, 8, 8])
  rw [show i = R.length by omega, List.take_length] at hd
  refine c_exit ?_
  refine f_thenE ?_
  refine f_rndE ?_
  refine f_blockE ?_
  refine f_then ?_
  refine c_seq ?_
  refine c_seq ?_
  refine c_region ?_
  refine s_y (y_fieldAddr0 Try.tab rfl rfl rfl rfl rfl) rfl rfl rfl ?_
  refine s_y (y_load Try.tab rfl rfl (cell_row 3 rfl rfl)) rfl rfl rfl ?_
  refine s_do (do_range Try.tab 4 rfl rfl rfl) rfl rfl rfl (fun br => ?_)
  refine s_nil ?_
  refine f_then ?_
  refine c_block ?_
  have hU : ∀ x ∈ restC R cs, CellIn l s x.1 x.2 := fun x hx => hin x (List.mem_filter.1 hx).1
  have hinj : ∀ x ∈ restC R cs, ∀ y ∈ restC R cs, notC l s x = notC l s y → x = y := fun x hx y hy q => notC_inj h (hU x hx) (hU y hy) q
  have hrl := restC_len R cs
  have hcd : costF l s c cs R = c.r * R.length + c.s * (asc (notC l s) (restC R cs)).length + c.o * (asc (bunC l s) (restC R cs)).length := rfl
  have n1 := asc_len (notC l s) (restC R cs)
  have n2 := asc_len (bunC l s) (restC R cs)
  have hskey : skeys (d.B.map BE.ent) = asc (bunC l s) (restC R cs) := skeys_asc hd.b.m hd.b.keys
  have hskl := skeys_len (d.B.map BE.ent)
  rw [hskey] at hskl
  refine c_loopP (α := Array Nat × List Int × Option Own) (fun _ => [(3, .pointer (some ⟨b3, 0, none⟩)), (4, .pointer (some ⟨b4, 0, none⟩)), (6, .pointer (some ⟨b6, 0, none⟩)), (7, .pointer (some ⟨b7, 0, none⟩)), (49, .pointer (some ⟨br, 0, none⟩))]) (fun z => AllN (notC l s) (restC R cs) d.N z.1.toList z.2.1 ∧ owfO 1 z.2.2 z.2.1.length (ivals z.2.1))
    (fun z => K W (oc 3 z.2.2 (ivals z.2.1) :: [(br, mit bn d.cn z.1)] :: [(b7, row 32 [.int .i64 (R.length * c.r), .slice pr R.length cr, ov z.2.2 z.2.1.length, nilS])] :: [(b6, row 32 [.int .i64 0, nilS, nilS, nilS])] :: [(b4, row 26 [.int .i64 c.r, .int .i64 c.s, .int .i64 c.o])] :: [(b3, row 75 [.map (some bn), .map (some bb), .int .i64 N])] :: d.ls bn bb Ls))
    (fun z => (d.N.filter fun e => decide (e.b ∉ z.1.toList)).length) (#[], [], none) ⟨rfl, rfl, rfl, rfl, rfl, trivial⟩ ⟨AllN.nil, rfl, rfl⟩ (fun w h => h.addNil) ?_
  rintro ⟨seen, S, o⟩ ⟨hA, ho⟩
  dsimp only at hA ho ⊢
  have hSl := hA.len hd.n
  refine c_seq ?_
  refine c_region ?_
  refine s_do (do_next 1 6 rfl rfl rfl hd.n.m.old) rfl rfl rfl (fun x => ?_)
  obtain ⟨_ | e, hx⟩ := x
  · dsimp only [nextV, nextLs]
    have hS := hA.done hd.n fun e he => Array.mem_toList_iff.2 (hx e he)
    have hS2 := mergeSort_len S
    rw [hS] at hS2
    refine s_y (y_extract rfl rfl) rfl rfl rfl ?_
    refine s_nil ?_
    refine f_then ?_
    refine c_seq ?_
    refine c_condF rfl ?_
    refine c_exit ?_
    refine f_thenE ?_
    refine f_rndE ?_
    refine f_blockE ?_
    refine f_then ?_
    refine c_seq ?_
    refine c_region ?_
    refine s_y (y_fieldAddrB Try.tab 2 rfl rfl rfl rfl rfl) rfl rfl rfl ?_
    refine s_y (y_load Try.tab rfl rfl (cell_row 2 rfl rfl)) rfl rfl rfl ?_
    refine s_call (en_f rfl Try.call67) (sortO_spec W _ 0 o S rfl (by simp) ho (by omega)) rfl rfl rfl (fun _ => ?_)
    have ho2 : owfO 1 o (asc (notC l s) (restC R cs)).length (ivals (asc (notC l s) (restC R cs))) := by rw [hS2]; exact owfO_len ho (by rw [ivals_len, ivals_len, hS2])
    rw [hS, ← hS2]
    generalize asc (notC l s) (restC R cs) = A at *
    refine St.cls (C' := K W (oc 3 o (ivals A) :: [(b7, row 32 [.int .i64 (R.length * c.r), .slice pr R.length cr, ov o A.length, nilS])] :: [(b6, row 32 [.int .i64 0, nilS, nilS, nilS])] :: [(b4, row 26 [.int .i64 c.r, .int .i64 c.s, .int .i64 c.o])] :: [(b3, row 75 [.map (some bn), .map (some bb), .int .i64 N])] :: d.ls bn bb Ls)) ?_ (fun w h => h.dropAt 1)
    refine s_nil ?_
    refine f_then ?_
    refine c_seq ?_
    refine c_region ?_
    refine s_y (y_fieldAddrB Try.tab 1 rfl rfl rfl rfl rfl) rfl rfl rfl ?_
    refine s_y (y_load Try.tab rfl rfl (cell_row 4 rfl rfl)) rfl rfl rfl ?_
    refine s_call (en_f rfl Try.call46) (keysB_spec W _ (some bb)) rfl rfl rfl (fun kb => ?_)
    refine s_call (en_f rfl Try.call44) (sortedB_spec W _ 0 7 kb bb d.cb (d.B.map BE.ent) [] [] rfl rfl hd.b.m) rfl rfl rfl (fun o3 => ?_)
    obtain ⟨o3, ho3⟩ := o3
    dsimp only
    rw [hskey, ← hskl] at ho3 ⊢
    generalize asc (bunC l s) (restC R cs) = O at *
    refine s_y (y_fieldAddrB Try.tab 3 rfl rfl rfl rfl rfl) rfl rfl rfl ?_
    refine s_set (set_rowB Try.tab 3 rfl rfl (ov_one _ _) rfl rfl rfl) rfl rfl ?_
    have m2 := mul_bd (a := A.length) (b := c.s) (A := 100000) (B := 1048576) (by omega) (by omega)
    have m3 := mul_bd (a := O.length) (b := c.o) (A := 100000) (B := 1048576) (by omega) (by omega)
    have hcd2 : costF l s c cs R = R.length * c.r + (A.length * c.s + O.length * c.o) := by rw [hcd, Int.mul_comm c.r, Int.mul_comm c.s, Int.mul_comm c.o, Int.add_assoc]
    have ho3' : owfO 1 o3 O.length (ivals O) := ho3
    rw [hcd2]
    refine s_nil ?_
    refine f_then ?_
    refine c_seq ?_
    refine c_region ?_
    refine s_y (y_fieldAddr0 Try.tab rfl rfl rfl rfl rfl) rfl rfl rfl ?_
    refine s_y (y_load Try.tab rfl rfl (cell_row 3 rfl rfl)) rfl rfl rfl ?_
    refine s_y (y_fieldAddrB Try.tab 2 rfl rfl rfl rfl rfl) rfl rfl rfl ?_
    refine s_y (y_load Try.tab rfl rfl (cell_row 3 rfl rfl)) rfl rfl rfl ?_
    refine s_y (y_lenO Try.tab rfl (by assumption) rfl) rfl rfl rfl ?_
    refine s_y (y_fieldAddrB Try.tab 1 rfl rfl rfl rfl rfl) rfl rfl rfl ?_
    refine s_y (y_load Try.tab rfl rfl (cell_row 5 rfl rfl)) rfl rfl rfl ?_
    refine s_y (y_mul rfl rfl (by omega)) rfl rfl rfl ?_
    refine s_y (y_fieldAddrB Try.tab 3 rfl rfl rfl rfl rfl) rfl rfl rfl ?_
    refine s_y (y_load Try.tab rfl rfl (cell_row 3 rfl rfl)) rfl rfl rfl ?_
    refine s_y (y_lenO Try.tab rfl (by assumption) rfl) rfl rfl rfl ?_
    refine s_y (y_fieldAddrB Try.tab 2 rfl rfl rfl rfl rfl) rfl rfl rfl ?_
    refine s_y (y_load Try.tab rfl rfl (cell_row 5 rfl rfl)) rfl rfl rfl ?_
    refine s_y (y_mul rfl rfl (by omega)) rfl rfl rfl ?_
    refine s_y (y_add rfl rfl (by omega)) rfl rfl rfl ?_
    refine s_y (y_add rfl rfl (by omega)) rfl rfl rfl ?_
    refine s_y (y_fieldAddr0 Try.tab rfl rfl rfl rfl rfl) rfl rfl rfl ?_
    refine s_set (set_rowB Try.tab 3 rfl rfl rfl rfl rfl rfl) rfl rfl ?_
    refine s_nil ?_
    refine f_then ?_
    refine c_seq ?_
    refine c_region ?_
    refine s_y (y_loadA Try.tab rfl rfl rfl rfl (cells_row0 3 rfl rfl)) rfl rfl rfl ?_
    refine s_set (set_box Try.tab 4 rfl rfl (by cases o <;> cases o3 <;> rfl) rfl rfl rfl rfl) rfl rfl ?_
    refine s_nil ?_
    refine f_then ?_
    refine c_ret ?_
    exact f_ret (X := { x : Option Own × Option Own // owfO 1 x.1 A.length (ivals A) ∧ owfO 1 x.2 O.length (ivals O) }) ⟨(o, o3), ho2, ho3⟩ (resA Try.tab rfl rfl rfl rfl rfl (cells_row0 4 rfl rfl)) (fun w h => (((((((((h.dropAt 1).dropAt 2).dropAt 2).dropAt 2).dropAt 2).dropAt 2).dropAt 2).dropAt 2).dropAt 2).fronts [1])
  obtain ⟨hx1, hx2⟩ := hx
  obtain ⟨e, he, rfl⟩ := List.mem_map.1 hx1
  dsimp only [nextV, nextLs]
  refine s_y (y_extract rfl rfl) rfl rfl rfl ?_
  refine s_nil ?_
  refine f_then ?_
  refine c_seq ?_
  refine c_condT rfl ?_
  refine c_skip ?_
  refine f_then ?_
  refine c_block ?_
  refine c_seq ?_
  refine c_region ?_
  refine s_y (y_entry 1 6 (e := e.ent) rfl rfl rfl hx1 hd.n.m.born) rfl rfl rfl ?_
  refine s_y (y_extract rfl rfl) rfl rfl rfl ?_
  refine s_y (y_assign rfl) rfl rfl rfl ?_
  refine s_nil ?_
  refine f_then ?_
  refine c_region ?_
  refine s_y (y_fieldAddrB Try.tab 2 rfl rfl rfl rfl rfl) rfl rfl rfl ?_
  refine s_y (y_load Try.tab rfl rfl (cell_row 2 rfl rfl)) rfl rfl rfl ?_
  refine s_y (y_move rfl) rfl rfl rfl ?_
  have hel := hd.n.l.2 e he
  have hne : 0 < e.xs.length := by
    obtain ⟨x, hx, q⟩ := hd.n.e e he
    exact List.length_pos_of_mem ((hd.n.v e he _).2 ⟨x, hx, q, rfl⟩)
  refine s_do (do_appendO Try.tab 0 (s := 1) (by_ := 8) (k := e.xs.length) (news := ivals e.xs) (xs := ivals S) (o := o) rfl rfl ⟨rfl, rfl, rfl, rfl⟩ rfl rfl (by simp) ho (cells_mem 8 (List.mem_map_of_mem he)) (by rw [ivals_len, Nat.mul_one]) (by intro v hv; obtain ⟨z, _, rfl⟩ := List.mem_map.1 hv; rfl) hne (by unfold maxLen; omega) (by omega)) rfl rfl rfl (fun o2 => ?_)
  obtain ⟨o2, ho2⟩ := o2
  dsimp only
  refine s_y (y_fieldAddrB Try.tab 2 rfl rfl rfl rfl rfl) rfl rfl rfl ?_
  refine s_set (set_rowB Try.tab 2 rfl rfl rfl rfl rfl rfl) rfl rfl ?_
  refine s_nil ?_
  refine f_blockN ?_
  have hmn := hx2
  have hnew := hA.step hd.n hinj he (fun q => hx2 (Array.mem_toList_iff.1 q))
  have hsub : (fun e' : NE => decide (e'.b ∉ (seen.push e.b).toList)) = fun e' : NE => decide (e'.b ∉ seen.toList ++ [e.b]) := by rw [push_list]
  have hms : (d.N.filter fun e' => decide (e'.b ∉ (seen.push e.b).toList)).length < (d.N.filter fun e' => decide (e'.b ∉ seen.toList)).length := by
    rw [hsub]
    refine flt_lt (x := e) (fun y _ q => ?_) he (by simpa using (show e.b ∉ seen from hx2)) (by simp)
    simp only [decide_eq_true_eq, List.mem_append, not_or] at q ⊢
    exact q.1
  have hle : S.length + e.xs.length = (S ++ e.xs).length := by simp
  rw [← ivals_app, hle] at ho2
  exact f_roundP (seen.push e.b, S ++ e.xs, some o2) ⟨by show AllN _ _ _ (seen.push e.b).toList _; rw [push_list]; exact hnew, ho2⟩ hms ⟨rfl, rfl, rfl, rfl, rfl, trivial⟩ (fun w h => by dsimp only; rw [← hle, ivals_app]; exact h)
end Go.KL
end

section
/- Plain law: the closure of greatest weight is the repair of least cost, and the least one of these. No program in sight. -/
namespace Go.KL
structure OptP (l : Lay) (s : Int) (c : Cos) (cs : List (Int × Int)) (R : List Int) : Prop where
  a : Asc R
  sub : ∀ x ∈ R, ∃ y ∈ cs, y.1 = x
  min : ∀ R', Asc R' → costF l s c cs R ≤ costF l s c cs R'
  least : ∀ R', Asc R' → costF l s c cs R' = costF l s c cs R → ∀ x ∈ R, x ∈ R'
theorem OptP.unique {l : Lay} {s : Int} {c : Cos} {cs : List (Int × Int)} {R R' : List Int} (h : OptP l s c cs R) (h' : OptP l s c cs R') : R = R' := by
  have e : costF l s c cs R' = costF l s c cs R := by have := h.min R' h'.a; have := h'.min R h.a; omega
  exact Asc.ext h.a h'.a fun x => ⟨h.least R' h'.a e x, h'.least R h.a e.symm x⟩
theorem restC_mem {R : List Int} {cs : List (Int × Int)} {x : Int × Int} : x ∈ restC R cs ↔ x ∈ cs ∧ x.1 ∉ R := by simp [restC]
theorem costF_ext {l : Lay} {s : Int} {c : Cos} {cs cs' : List (Int × Int)} {R R' : List Int} (h : ∀ x, x ∈ cs ↔ x ∈ cs') (hR : R.length = R'.length) (hm : ∀ x, x ∈ R ↔ x ∈ R') : costF l s c cs R = costF l s c cs' R' := by
  have e : ∀ x, x ∈ restC R cs ↔ x ∈ restC R' cs' := fun x => by rw [restC_mem, restC_mem, h, hm]
  unfold costF
  rw [asc_ext (f := notC l s) e, asc_ext (f := bunC l s) e, hR]
theorem asc_mono {α : Type} {f : α → Int} {U V : List α} (h : ∀ x ∈ U, x ∈ V) : (asc f U).length ≤ (asc f V).length :=
  nodup_len (asc_asc f U).nodup fun y hy => by
    obtain ⟨x, hx, q⟩ := mem_asc.1 hy
    exact mem_asc.2 ⟨x, h x hx, q⟩
theorem costF_mono {l : Lay} {s : Int} {c : Cos} {cs cs' : List (Int × Int)} {R : List Int} (hc : c.OK) (h : ∀ x ∈ cs, x ∈ cs') : costF l s c cs R ≤ costF l s c cs' R := by
  have e : ∀ x ∈ restC R cs, x ∈ restC R cs' := fun x hx => restC_mem.2 ⟨h x (restC_mem.1 hx).1, (restC_mem.1 hx).2⟩
  have h1 := asc_mono (f := notC l s) e
  have h2 := asc_mono (f := bunC l s) e
  have g2 := hc.s; have g3 := hc.o
  have m1 := Int.mul_le_mul_of_nonneg_left (show ((asc (notC l s) (restC R cs)).length : Int) ≤ (asc (notC l s) (restC R cs')).length by omega) g2.1
  have m2 := Int.mul_le_mul_of_nonneg_left (show ((asc (bunC l s) (restC R cs)).length : Int) ≤ (asc (bunC l s) (restC R cs')).length by omega) g3.1
  unfold costF
  omega
theorem OptP.more {l : Lay} {s : Int} {c : Cos} {cs cs' : List (Int × Int)} {R R' : List Int} (hc : c.OK) (h : OptP l s c cs R) (h' : OptP l s c cs' R') (hs : ∀ x ∈ cs, x ∈ cs') : costF l s c cs R ≤ costF l s c cs' R' :=
  Int.le_trans (h.min R' h'.a) (costF_mono hc hs)
theorem OptP.ext {l : Lay} {s : Int} {c : Cos} {cs cs' : List (Int × Int)} {R : List Int} (h : OptP l s c cs R) (he : ∀ x, x ∈ cs ↔ x ∈ cs') : OptP l s c cs' R := by
  have hc : ∀ R, costF l s c cs' R = costF l s c cs R := fun R => (costF_ext he rfl fun _ => Iff.rfl).symm
  refine ⟨h.a, fun x hx => ?_, fun R' h' => by rw [hc, hc]; exact h.min R' h', fun R' h' e => h.least R' h' (by rw [hc, hc] at e; exact e)⟩
  obtain ⟨y, hy, q⟩ := h.sub x hx
  exact ⟨y, (he y).1 hy, q⟩
/-! ### Counting -/
theorem len_eq {α : Type} [DecidableEq α] {a b : List α} (ha : a.Nodup) (hb : b.Nodup) (h : ∀ x, x ∈ a ↔ x ∈ b) : a.length = b.length :=
  Nat.le_antisymm (nodup_len ha fun x hx => (h x).1 hx) (nodup_len hb fun x hx => (h x).2 hx)
theorem sm_lsum {α : Type} (d : α) (g : α → Int) : ∀ (L : List α), sm L.length (fun k => g (L.getD k d)) = (L.map g).sum := by
  intro L
  induction L using rev_ind with
  | h0 => rfl
  | h1 l x ih =>
    rw [List.length_append, List.length_singleton, List.map_append, List.sum_append]
    show sm l.length _ + _ = _
    rw [sm_congr l.length _ (fun k => g (l.getD k d)) fun i hi => by rw [List.getD_eq_getElem?_getD, List.getElem?_append_left hi, ← List.getD_eq_getElem?_getD], ih]
    simp
theorem nodup_flat {α β : Type} (f : α → List β) : ∀ {L : List α}, L.Nodup → (∀ a ∈ L, (f a).Nodup) → (∀ a ∈ L, ∀ b ∈ L, ∀ y, y ∈ f a → y ∈ f b → a = b) → (L.flatMap f).Nodup
  | [], _, _, _ => by simp
  | a :: r, h, h1, h2 => by
    obtain ⟨p1, p2⟩ := List.nodup_cons.1 h
    rw [List.flatMap_cons, List.nodup_append]
    refine ⟨h1 a (by simp), nodup_flat f p2 (fun b hb => h1 b (by simp [hb])) (fun b hb c hc => h2 b (by simp [hb]) c (by simp [hc])), ?_⟩
    intro x hx y hy e
    subst e
    obtain ⟨b, hb, q⟩ := List.mem_flatMap.1 hy
    have := h2 a (by simp) b (by simp [hb]) x hx q
    exact p1 (this ▸ hb)
theorem flat_len {α β : Type} (f : α → List β) : ∀ (L : List α), ((L.flatMap f).length : Int) = (L.map fun a => ((f a).length : Int)).sum
  | [] => rfl
  | a :: r => by
    have := flat_len f r
    rw [List.flatMap_cons, List.length_append, List.map_cons, List.sum_cons]
    omega
/-- The notes of a sheet. -/
def nOf (l : Lay) (s : Int) (cs : List (Int × Int)) (d : Int) : Int := (asc (notC l s) (cs.filter fun x => decide (x.1 = d))).length
/-- The sheets of a bundle. -/
def shB (l : Lay) (s : Int) (cs : List (Int × Int)) (b : Int) : List Int := asc (·.1) (cs.filter fun x => decide (bunC l s x = b))
theorem mem_shB {l : Lay} {s : Int} {cs : List (Int × Int)} {b d : Int} : d ∈ shB l s cs b ↔ ∃ x ∈ cs, bunC l s x = b ∧ x.1 = d := by
  unfold shB
  rw [mem_asc]
  constructor
  · rintro ⟨x, hx, q⟩
    obtain ⟨h1, h2⟩ := List.mem_filter.1 hx
    exact ⟨x, h1, by simpa using h2, q⟩
  · rintro ⟨x, hx, q1, q2⟩
    exact ⟨x, List.mem_filter.2 ⟨hx, by simpa using q1⟩, q2⟩
section
variable {l : Lay} {s : Int} {c : Cos} {cs : List (Int × Int)} (h : Gd l s) (hin : ∀ x ∈ cs, CellIn l s x.1 x.2)
include h hin
theorem stars_sum (R : List Int) : ((asc (notC l s) (restC R cs)).length : Int) = ((asc (·.1) cs).map fun d => if d ∈ R then 0 else nOf l s cs d).sum := by
  have e1 : (asc (notC l s) (restC R cs)).length = ((asc (·.1) cs).flatMap fun d => if d ∈ R then [] else asc (notC l s) (cs.filter fun x => decide (x.1 = d))).length := by
    refine len_eq (asc_asc _ _).nodup (nodup_flat _ (asc_asc _ _).nodup ?_ ?_) ?_
    · intro a _
      split
      · simp
      · exact (asc_asc _ _).nodup
    · intro a _ b _ y hya hyb
      split at hya
      · simp at hya
      split at hyb
      · simp at hyb
      obtain ⟨x, hx, q1⟩ := mem_asc.1 hya
      obtain ⟨z, hz, q2⟩ := mem_asc.1 hyb
      obtain ⟨x1, x2⟩ := List.mem_filter.1 hx
      obtain ⟨z1, z2⟩ := List.mem_filter.1 hz
      have := notC_inj h (hin x x1) (hin z z1) (q1.trans q2.symm)
      subst this
      simp only [decide_eq_true_eq] at x2 z2
      omega
    · intro y
      rw [mem_asc, List.mem_flatMap]
      constructor
      · rintro ⟨x, hx, q⟩
        obtain ⟨x1, x2⟩ := restC_mem.1 hx
        exact ⟨x.1, mem_asc.2 ⟨x, x1, rfl⟩, by rw [if_neg x2]; exact mem_asc.2 ⟨x, List.mem_filter.2 ⟨x1, by simp⟩, q⟩⟩
      · rintro ⟨d, hd, q⟩
        split at q
        · simp at q
        · rename_i hdR
          obtain ⟨x, hx, q⟩ := mem_asc.1 q
          obtain ⟨x1, x2⟩ := List.mem_filter.1 hx
          simp only [decide_eq_true_eq] at x2
          exact ⟨x, restC_mem.2 ⟨x1, by rw [x2]; exact hdR⟩, q⟩
  rw [e1, flat_len]
  refine congrArg List.sum (List.map_congr_left fun d _ => ?_)
  split
  · rfl
  · rfl
omit h hin in
theorem open_sum (R : List Int) : ((asc (bunC l s) (restC R cs)).length : Int) = ((asc (bunC l s) cs).map fun b => if ∀ d ∈ shB l s cs b, d ∈ R then 0 else 1).sum := by
  have e1 : (asc (bunC l s) (restC R cs)).length = ((asc (bunC l s) cs).flatMap fun b => if ∀ d ∈ shB l s cs b, d ∈ R then [] else [b]).length := by
    refine len_eq (asc_asc _ _).nodup (nodup_flat _ (asc_asc _ _).nodup ?_ ?_) ?_
    · intro a _
      split <;> simp
    · intro a _ b _ y hya hyb
      split at hya
      · simp at hya
      split at hyb
      · simp at hyb
      simp at hya hyb
      omega
    · intro y
      rw [mem_asc, List.mem_flatMap]
      constructor
      · rintro ⟨x, hx, q⟩
        obtain ⟨x1, x2⟩ := restC_mem.1 hx
        refine ⟨y, mem_asc.2 ⟨x, x1, q⟩, ?_⟩
        rw [if_neg fun z => x2 (z x.1 (mem_shB.2 ⟨x, x1, q, rfl⟩))]
        simp
      · rintro ⟨b, hb, q⟩
        split at q
        · simp at q
        · rename_i hn
          simp at q
          subst q
          obtain ⟨d, hd⟩ := Classical.not_forall.1 hn
          obtain ⟨hd1, hd2⟩ := Classical.not_imp.1 hd
          obtain ⟨x, hx, q1, q2⟩ := mem_shB.1 hd1
          exact ⟨x, restC_mem.2 ⟨hx, by rw [q2]; exact hd2⟩, q1⟩
  rw [e1, flat_len]
  refine congrArg List.sum (List.map_congr_left fun d _ => ?_)
  split
  · rfl
  · rfl
end
/-! ### Weights and needs -/
/-- A need: a bundle wants a sheet. -/
def prp (D : List Int) (j : Nat) (d : Int) : Pr := (((D.length + j : Nat) : Int), ((D.idxOf d : Nat) : Int))
def wsL (l : Lay) (s : Int) (c : Cos) (cs : List (Int × Int)) (D Bs : List Int) : List Int := (D.map fun d => nOf l s cs d * c.s - c.r) ++ Bs.map fun _ => c.o
def prs (l : Lay) (s : Int) (cs : List (Int × Int)) (D Bs : List Int) : Nat → List Pr
  | 0 => []
  | j + 1 => prs l s cs D Bs j ++ (shB l s cs (Bs.getD j 0)).map fun d => prp D j d
theorem mem_prs {l : Lay} {s : Int} {cs : List (Int × Int)} {D Bs : List Int} {p : Pr} : ∀ {m : Nat}, p ∈ prs l s cs D Bs m ↔ ∃ j, j < m ∧ ∃ d ∈ shB l s cs (Bs.getD j 0), p = prp D j d
  | 0 => by simp [prs]
  | m + 1 => by
    rw [prs, List.mem_append, mem_prs (m := m), List.mem_map]
    constructor
    · rintro (⟨j, hj, q⟩ | ⟨d, hd, q⟩)
      · exact ⟨j, by omega, q⟩
      · exact ⟨m, by omega, d, hd, q.symm⟩
    · rintro ⟨j, hj, d, hd, q⟩
      rcases (show j < m ∨ j = m by omega) with z | rfl
      · exact .inl ⟨j, z, d, hd, q⟩
      · exact .inr ⟨d, hd, q.symm⟩
theorem prs_nodup {l : Lay} {s : Int} {cs : List (Int × Int)} {D Bs : List Int} (hD : ∀ x ∈ cs, x.1 ∈ D) : ∀ m, (prs l s cs D Bs m).Nodup
  | 0 => by simp [prs]
  | m + 1 => by
    rw [prs, List.nodup_append]
    refine ⟨prs_nodup hD m, ?_, ?_⟩
    · refine List.Pairwise.map _ ?_ ((asc_asc _ _).nodup.imp_of_mem ?_ : (shB l s cs (Bs.getD m 0)).Pairwise fun a b => a ∈ shB l s cs (Bs.getD m 0) ∧ b ∈ shB l s cs (Bs.getD m 0) ∧ a ≠ b)
      · rintro a b ⟨ha, hb, hne⟩ e
        have e2 : D.idxOf a = D.idxOf b := by
          have : ((D.idxOf a : Nat) : Int) = ((D.idxOf b : Nat) : Int) := congrArg Prod.snd e
          omega
        obtain ⟨x, hx, _, rfl⟩ := mem_shB.1 ha
        obtain ⟨y, hy, _, rfl⟩ := mem_shB.1 hb
        have h1 := List.getElem_idxOf (List.idxOf_lt_length_of_mem (hD x hx))
        have h2 := List.getElem_idxOf (List.idxOf_lt_length_of_mem (hD y hy))
        simp only [e2] at h1
        exact hne (h1.symm.trans h2)
      · intro a b ha hb hne
        exact ⟨ha, hb, hne⟩
    · intro a ha b hb e
      subst e
      obtain ⟨j, hj, d, _, q⟩ := mem_prs.1 ha
      obtain ⟨d', _, q'⟩ := List.mem_map.1 hb
      rw [q] at q'
      have := congrArg Prod.fst q'
      simp [prp] at this
      omega
theorem prs_len {l : Lay} {s : Int} {cs : List (Int × Int)} {D Bs : List Int} (hD : ∀ x ∈ cs, x.1 ∈ D) (hB : Bs.Nodup) : ∀ m, m ≤ Bs.length → (prs l s cs D Bs m).length ≤ (onces cs).length := by
  intro m hm
  have h1 := nodup_len (b := (onces cs).map fun x => prp D (Bs.idxOf (bunC l s x)) x.1) (prs_nodup (l := l) (s := s) (Bs := Bs) hD m) fun p hp => by
    obtain ⟨j, hj, d, hd, q⟩ := mem_prs.1 hp
    obtain ⟨x, hx, q1, q2⟩ := mem_shB.1 hd
    refine List.mem_map.2 ⟨x, mem_onces.2 hx, ?_⟩
    rw [q, q1, q2]
    have : Bs.idxOf (Bs.getD j 0) = j := by
      rw [List.getD_eq_getElem?_getD, List.getElem?_eq_getElem (by omega)]
      exact hB.idxOf_getElem j (by omega)
    rw [this]
  rwa [List.length_map] at h1
/-! ### The sheets that are chosen -/
def selR (D : List Int) (g : Nat → Bool) : Nat → List Int
  | 0 => []
  | k + 1 => if g k then selR D g k ++ [D.getD k 0] else selR D g k
theorem mem_selR {D : List Int} {g : Nat → Bool} {x : Int} : ∀ {k : Nat}, x ∈ selR D g k ↔ ∃ i, i < k ∧ g i = true ∧ D.getD i 0 = x
  | 0 => by simp [selR]
  | k + 1 => by
    unfold selR
    split
    · rename_i hg
      rw [List.mem_append, mem_selR (k := k), List.mem_singleton]
      constructor
      · rintro (⟨i, hi, q⟩ | rfl)
        · exact ⟨i, by omega, q⟩
        · exact ⟨k, by omega, hg, rfl⟩
      · rintro ⟨i, hi, q1, q2⟩
        rcases (show i < k ∨ i = k by omega) with z | rfl
        · exact .inl ⟨i, z, q1, q2⟩
        · exact .inr q2.symm
    · rename_i hg
      rw [mem_selR (k := k)]
      constructor
      · rintro ⟨i, hi, q⟩
        exact ⟨i, by omega, q⟩
      · rintro ⟨i, hi, q1, q2⟩
        rcases (show i < k ∨ i = k by omega) with z | rfl
        · exact ⟨i, z, q1, q2⟩
        · exact absurd q1 hg
theorem asc_get {D : List Int} (hD : Asc D) {i j : Nat} (hij : i < j) (hj : j < D.length) : D.getD i 0 < D.getD j 0 := by
  have := List.pairwise_iff_getElem.1 hD i j (by omega) hj hij
  simpa [List.getD_eq_getElem?_getD, List.getElem?_eq_getElem hj, List.getElem?_eq_getElem (show i < D.length by omega)] using this
theorem asc_selR {D : List Int} {g : Nat → Bool} (hD : Asc D) : ∀ {k : Nat}, k ≤ D.length → Asc (selR D g k)
  | 0, _ => List.Pairwise.nil
  | k + 1, hk => by
    unfold selR
    split
    · refine List.pairwise_append.2 ⟨asc_selR hD (by omega), List.pairwise_singleton _ _, ?_⟩
      intro a ha b hb
      simp at hb
      subst hb
      obtain ⟨i, hi, _, rfl⟩ := mem_selR.1 ha
      have := asc_get hD hi (by omega)
      simpa [List.getD_eq_getElem?_getD] using this
    · exact asc_selR hD (by omega)
theorem getD_idxOf {D : List Int} {d : Int} (h : d ∈ D) : D.idxOf d < D.length ∧ D.getD (D.idxOf d) 0 = d := by
  have h1 := List.idxOf_lt_length_of_mem h
  refine ⟨h1, ?_⟩
  rw [List.getD_eq_getElem?_getD, List.getElem?_eq_getElem h1]
  exact List.getElem_idxOf h1
open Classical in
/-- A repair as a set of goods. -/
noncomputable def setR (l : Lay) (s : Int) (cs : List (Int × Int)) (D Bs R : List Int) : Nat → Bool := fun i => if i < D.length then decide (D.getD i 0 ∈ R) else decide (∀ d ∈ shB l s cs (Bs.getD (i - D.length) 0), d ∈ R)
section
variable {l : Lay} {s : Int} {c : Cos} {cs : List (Int × Int)} {D Bs : List Int}
theorem wsL_fst {k : Nat} (hk : k < D.length) : (wsL l s c cs D Bs).getD k 0 = nOf l s cs (D.getD k 0) * c.s - c.r := by
  unfold wsL
  rw [List.getD_eq_getElem?_getD, List.getElem?_append_left (by simpa using hk), List.getElem?_map, List.getD_eq_getElem?_getD, List.getElem?_eq_getElem hk]
  rfl
theorem wsL_snd {j : Nat} (hj : j < Bs.length) : (wsL l s c cs D Bs).getD (D.length + j) 0 = c.o := by
  unfold wsL
  rw [List.getD_eq_getElem?_getD, List.getElem?_append_right (by simp), List.getElem?_map, List.length_map, Nat.add_sub_cancel_left, List.getElem?_eq_getElem hj]
  rfl
open Classical in
theorem setR_fst {R : List Int} {k : Nat} (hk : k < D.length) : setR l s cs D Bs R k = decide (D.getD k 0 ∈ R) := by unfold setR; rw [if_pos hk]
open Classical in
theorem setR_snd {R : List Int} (j : Nat) : setR l s cs D Bs R (D.length + j) = decide (∀ d ∈ shB l s cs (Bs.getD j 0), d ∈ R) := by unfold setR; rw [if_neg (by omega), Nat.add_sub_cancel_left]
theorem wgt_parts (S : Nat → Bool) : wgt (D.length + Bs.length) (fun i => (wsL l s c cs D Bs).getD i 0) S = sm D.length (fun k => if S k then nOf l s cs (D.getD k 0) * c.s - c.r else 0) + sm Bs.length (fun j => if S (D.length + j) then c.o else 0) := by
  unfold wgt
  rw [sm_split, sm_congr D.length _ (fun k => if S k then nOf l s cs (D.getD k 0) * c.s - c.r else 0) fun k hk => by dsimp only; rw [wsL_fst hk], sm_congr Bs.length _ (fun j => if S (D.length + j) then c.o else 0) fun j hj => by dsimp only; rw [wsL_snd hj]]
theorem closed_iff (S : Nat → Bool) : ClosedP (prs l s cs D Bs Bs.length).length (fun i => (prs l s cs D Bs Bs.length).getD i (0, 0)) S ↔ ∀ j, j < Bs.length → ∀ d ∈ shB l s cs (Bs.getD j 0), S (D.length + j) = true → S (D.idxOf d) = true := by
  constructor
  · intro h j hj d hd hs
    have hp : prp D j d ∈ prs l s cs D Bs Bs.length := mem_prs.2 ⟨j, hj, d, hd, rfl⟩
    obtain ⟨i, hi, e⟩ := List.getElem_of_mem hp
    have := h i hi
    simp only [List.getD_eq_getElem?_getD, List.getElem?_eq_getElem hi, Option.getD_some, e] at this
    exact this hs
  · intro h i hi hs
    have hp := getD_mem (d := ((0, 0) : Pr)) hi
    obtain ⟨j, hj, d, hd, e⟩ := mem_prs.1 hp
    dsimp only at hs ⊢
    rw [e] at hs ⊢
    exact h j hj d hd hs
end
theorem filt_len {D R : List Int} (hD : Asc D) (hR : Asc R) : sm D.length (fun k => if D.getD k 0 ∈ R then (1 : Int) else 0) ≤ R.length ∧ ((∀ x ∈ R, x ∈ D) → sm D.length (fun k => if D.getD k 0 ∈ R then (1 : Int) else 0) = R.length) := by
  have e : sm D.length (fun k => if D.getD k 0 ∈ R then (1 : Int) else 0) = ((D.filter fun d => decide (d ∈ R)).length : Nat) := by
    rw [sm_lsum 0 (fun d => if d ∈ R then (1 : Int) else 0) D]
    clear hD
    induction D with
    | nil => rfl
    | cons d r ih =>
      rw [List.map_cons, List.sum_cons, ih]
      by_cases q : d ∈ R
      · rw [List.filter_cons_of_pos (by simpa using q), if_pos q, List.length_cons]; omega
      · rw [List.filter_cons_of_neg (by simpa using q), if_neg q]; omega
  rw [e]
  have hn : (D.filter fun d => decide (d ∈ R)).Nodup := hD.nodup.sublist List.filter_sublist
  constructor
  · have := nodup_len (b := R) hn fun x hx => by simpa using (List.mem_filter.1 hx).2
    omega
  · intro hs
    have := len_eq hn hR.nodup fun x => by
      rw [List.mem_filter, decide_eq_true_eq]
      exact ⟨fun q => q.2, fun q => ⟨hs x q, q⟩⟩
    omega
theorem plan_opt {l : Lay} {s : Int} {c : Cos} {cs : List (Int × Int)} (h : Gd l s) (hin : ∀ x ∈ cs, CellIn l s x.1 x.2) (hc : c.OK) {D Bs : List Int} (hD : D = asc (·.1) cs) (hB : Bs = asc (bunC l s) cs) {v : Int} {g : Nat → Bool}
    (h1 : ClosedP (prs l s cs D Bs Bs.length).length (fun i => (prs l s cs D Bs Bs.length).getD i (0, 0)) g) (h2 : wgt (D.length + Bs.length) (fun i => (wsL l s c cs D Bs).getD i 0) g = v)
    (h3 : CloseP (D.length + Bs.length) (prs l s cs D Bs Bs.length).length (fun i => (wsL l s c cs D Bs).getD i 0) (fun i => (prs l s cs D Bs Bs.length).getD i (0, 0)) v g) : OptP l s c cs (selR D g D.length) := by
  have g1 := hc.r; have g2 := hc.s; have g3 := hc.o
  have hDa : Asc D := hD ▸ asc_asc _ _
  have hDm : ∀ x ∈ cs, x.1 ∈ D := fun x hx => by rw [hD]; exact mem_asc.2 ⟨x, hx, rfl⟩
  have hsh : ∀ b d, d ∈ shB l s cs b → d ∈ D := fun b d hd => by obtain ⟨x, hx, _, rfl⟩ := mem_shB.1 hd; exact hDm x hx
  -- the cost of a repair
  have cost : ∀ R, Asc R → costF l s c cs R + wgt (D.length + Bs.length) (fun i => (wsL l s c cs D Bs).getD i 0) (setR l s cs D Bs R) = c.r * (R.length - sm D.length (fun k => if D.getD k 0 ∈ R then (1 : Int) else 0)) + (sm D.length (fun k => c.s * nOf l s cs (D.getD k 0)) + sm Bs.length fun _ => c.o) := by
    intro R hR
    rw [wgt_parts]
    have e1 := stars_sum h hin R
    have e2 := open_sum (l := l) (s := s) (cs := cs) R
    rw [← hD, ← sm_lsum 0] at e1
    rw [← hB, ← sm_lsum 0] at e2
    have e3 : c.s * sm D.length (fun k => if D.getD k 0 ∈ R then 0 else nOf l s cs (D.getD k 0)) + sm D.length (fun k => if setR l s cs D Bs R k then nOf l s cs (D.getD k 0) * c.s - c.r else 0) = sm D.length (fun k => c.s * nOf l s cs (D.getD k 0)) - c.r * sm D.length (fun k => if D.getD k 0 ∈ R then (1 : Int) else 0) := by
      rw [← sm_mul, ← sm_mul, ← sm_add, ← sm_sub]
      refine sm_congr _ _ _ fun k hk => ?_
      rw [setR_fst hk]
      by_cases q : D.getD k 0 ∈ R
      · rw [if_pos q, if_pos q, if_pos (decide_eq_true q), Int.mul_comm (nOf l s cs (D.getD k 0))]; omega
      · rw [if_neg q, if_neg q, if_neg (by rw [decide_eq_false q]; decide)]; omega
    have e4 : c.o * sm Bs.length (fun j => if ∀ d ∈ shB l s cs (Bs.getD j 0), d ∈ R then 0 else 1) + sm Bs.length (fun j => if setR l s cs D Bs R (D.length + j) then c.o else 0) = sm Bs.length fun _ => c.o := by
      rw [← sm_mul, ← sm_add]
      refine sm_congr _ _ _ fun j hj => ?_
      rw [setR_snd]
      by_cases q : ∀ d ∈ shB l s cs (Bs.getD j 0), d ∈ R
      · rw [if_pos q, if_pos (decide_eq_true q)]; omega
      · rw [if_neg q, if_neg (by rw [decide_eq_false q]; decide)]; omega
    unfold costF
    rw [e1, e2, Int.mul_sub]
    omega
  have clos : ∀ R, ClosedP (prs l s cs D Bs Bs.length).length (fun i => (prs l s cs D Bs Bs.length).getD i (0, 0)) (setR l s cs D Bs R) := by
    intro R
    rw [closed_iff]
    intro j hj d hd hs
    obtain ⟨q1, q2⟩ := getD_idxOf (hsh _ d hd)
    rw [setR_snd, decide_eq_true_eq] at hs
    rw [setR_fst q1, q2, decide_eq_true_eq]
    exact hs d hd
  have hmem : ∀ k, k < D.length → (D.getD k 0 ∈ selR D g D.length ↔ g k = true) := by
    intro k hk
    rw [mem_selR]
    constructor
    · rintro ⟨i, hi, q1, q2⟩
      rcases Nat.lt_trichotomy i k with z | z | z
      · have := asc_get hDa z hk; omega
      · exact z ▸ q1
      · have := asc_get hDa z hi; omega
    · exact fun q => ⟨k, hk, q, rfl⟩
  have hRa : Asc (selR D g D.length) := asc_selR hDa (Nat.le_refl _)
  have hRs : ∀ x ∈ selR D g D.length, x ∈ D := fun x hx => by
    obtain ⟨i, hi, _, rfl⟩ := mem_selR.1 hx
    exact getD_mem hi
  have hw : wgt (D.length + Bs.length) (fun i => (wsL l s c cs D Bs).getD i 0) (setR l s cs D Bs (selR D g D.length)) = v := by
    refine Int.le_antisymm (h3.max _ (clos _)) ?_
    rw [← h2, wgt_parts, wgt_parts]
    have q1 : sm D.length (fun k => if g k then nOf l s cs (D.getD k 0) * c.s - c.r else 0) = sm D.length (fun k => if setR l s cs D Bs (selR D g D.length) k then nOf l s cs (D.getD k 0) * c.s - c.r else 0) := by
      refine sm_congr _ _ _ fun k hk => ?_
      rw [setR_fst hk]
      have := hmem k hk
      cases e : g k with
      | true => rw [decide_eq_true (this.2 e)]
      | false => rw [decide_eq_false (show ¬ D.getD k 0 ∈ selR D g D.length from fun z => by rw [this.1 z] at e; cases e)]
    have q2 : sm Bs.length (fun j => if g (D.length + j) then c.o else 0) ≤ sm Bs.length (fun j => if setR l s cs D Bs (selR D g D.length) (D.length + j) then c.o else 0) := by
      refine sm_le _ _ _ fun j hj => ?_
      by_cases e : g (D.length + j) = true
      · have : setR l s cs D Bs (selR D g D.length) (D.length + j) = true := by
          rw [setR_snd, decide_eq_true_eq]
          intro d hd
          obtain ⟨z1, z2⟩ := getD_idxOf (hsh _ d hd)
          have := (hmem _ z1).2 ((closed_iff g).1 h1 j hj d hd e)
          rwa [z2] at this
        rw [if_pos e, if_pos this]
        exact Int.le_refl _
      · rw [if_neg e]
        split <;> omega
    omega
  have hc0 := cost _ hRa
  rw [hw, (filt_len hDa hRa).2 hRs, Int.sub_self, Int.mul_zero] at hc0
  have ge : ∀ R', Asc R' → 0 ≤ c.r * (R'.length - sm D.length (fun k => if D.getD k 0 ∈ R' then (1 : Int) else 0)) := fun R' h' => Int.mul_nonneg g1.1 (by have := (filt_len hDa h').1; omega)
  refine ⟨hRa, fun x hx => ?_, fun R' h' => ?_, fun R' h' e x hx => ?_⟩
  · have := hRs x hx
    rw [hD] at this
    exact mem_asc.1 this
  · have q1 := cost R' h'
    have q2 := ge R' h'
    have q3 := h3.max _ (clos R')
    omega
  · have q1 := cost R' h'
    have q2 := ge R' h'
    have q3 := h3.max _ (clos R')
    have q4 : wgt (D.length + Bs.length) (fun i => (wsL l s c cs D Bs).getD i 0) (setR l s cs D Bs R') = v := by omega
    obtain ⟨i, hi, z1, rfl⟩ := mem_selR.1 hx
    have := (h3.com i (by omega)).1 z1 _ (clos R') q4
    rw [setR_fst hi, decide_eq_true_eq] at this
    exact this
end Go.KL
end
