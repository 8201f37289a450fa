/- SheetMore: for every input the law returns true, and its arguments read as they did. No condition. -/
import Derived.Test.YtalmnckijegplaaRows
import Derived.JoinedOf
import Derived.Handed
import Derived.Test.YtalmnckijegplaaL6
section
/- The walk of SheetPlans. -/
namespace Go.KL
open Go.Proofs
def lstC (m : Nat) (g : Nat → Nat → Int) : List (Int × Int) := (List.range m).map fun i => (g i 0, g i 1)
theorem lstC_len (m : Nat) (g : Nat → Nat → Int) : (lstC m g).length = m := by simp [lstC]
theorem CL.of {C : World → Prop} {v : Value} {m : Nat} {g : Nat → Nat → Int} (h : SlV C v m 2 (fun i j => .int .i64 (g i j))) : CL C v (lstC m g) := by
  show SlV C v (lstC m g).length 2 _
  rw [lstC_len]
  refine h.congr fun i hi j hj => ?_
  have : (lstC m g).getD i (0, 0) = (g i 0, g i 1) := by simp [lstC, List.getD_eq_getElem?_getD, hi]
  rw [this]
  rcases (show j = 0 ∨ j = 1 by omega) with rfl | rfl <;> rfl
theorem cvals_vw (cs : List (Int × Int)) : vw 2 cs.length (fun i j => .int .i64 (sel (cs.getD i (0, 0)) j)) = cvals cs := rfl
abbrev spT (b4 b7 : Nat) (l : Lay) (c : Cos) (Ls : List Chunk) : List Chunk := [(b7, row 26 [.int .i64 c.r, .int .i64 c.s, .int .i64 c.o])] :: [(b4, row 23 l.v.cells.toList)] :: Ls
attribute [local irreducible] SC St Fin Sq Sw Ylds Doos Sets Enters Spec CellIs CellsAre Then Ret Rnd Chn resOK ints bools recs arr
theorem alike_0' (W : World) (Ls : List Chunk) : Spec Try.prog 19 #[.agg #[.int .i64 0, nilS, nilS, nilS], .agg #[.int .i64 0, nilS, nilS, nilS]] (K W Ls) (fun _ : Unit => .bool true) (fun _ => K W Ls) :=
  alike_yes W Ls ⟨0, nilS, nilS, nilS⟩ ⟨0, nilS, nilS, nilS⟩ 0 0 0 (fun _ => 0) (fun _ => 0) (fun _ => 0) rfl ⟨SlV.empty, SlV.empty, SlV.empty⟩ ⟨SlV.empty, SlV.empty, SlV.empty⟩ (by omega) (by omega) (by omega)
set_option maxRecDepth 10000 in
set_option maxHeartbeats 40000000 in
theorem sheetPlans_walk (W : World) (l : Lay) (s : Int) (v : Value) (cs : List (Int × Int)) (hv : CL (K W []) v cs) (c : Cos) : Spec Try.prog 3 #[l.v, .int .i64 s, v, c.v] (K W []) (fun _ : Unit => .bool true) (fun _ => K W []) := by
  obtain ⟨pa, ca, rfl, hca, hcs⟩ := hv.open
  by_cases hm : cs.length ≤ 600
  rotate_left
  · refine enter (args := [_, _, _, _]) Try.func3 rfl Try.ntmps3 rfl ?_
    refine c_seq ?_
    refine c_region ?_
    refine s_do (do_box rfl) rfl rfl rfl (fun b4 => ?_)
    refine s_do (do_box rfl) rfl rfl rfl (fun b7 => ?_)
    refine s_y (y_assign rfl) rfl rfl rfl ?_
    refine s_nil ?_
    refine f_then ?_
    refine c_seq ?_
    refine c_seq ?_
    refine c_region ?_
    refine s_y (y_move rfl) rfl rfl rfl ?_
    refine s_y (y_len Try.tab rfl rfl) rfl rfl rfl ?_
    refine s_y (y_T (y_gtr rfl rfl) (by omega)) rfl rfl rfl ?_
    refine s_nil ?_
    refine f_then ?_
    refine c_condT rfl ?_
    refine c_seq ?_
    refine c_region ?_
    refine s_call (en_f rfl Try.call15) (awake_spec W _) rfl rfl rfl (fun _ => ?_)
    refine s_y (y_assign rfl) rfl rfl rfl ?_
    refine s_nil ?_
    refine f_then ?_
    refine c_ret ?_
    refine f_thenR ?_
    exact f_ret () (res1 rfl rfl) (fun w h => h.any)
  refine enter (args := [_, _, _, _]) Try.func3 rfl Try.ntmps3 rfl ?_
  refine c_seq ?_
  refine c_region ?_
  refine s_do (do_box rfl) rfl rfl rfl (fun b4 => ?_)
  refine s_do (do_box rfl) rfl rfl rfl (fun b7 => ?_)
  refine s_y (y_assign rfl) rfl rfl rfl ?_
  refine s_nil ?_
  refine f_then ?_
  refine c_seq ?_
  refine c_seq ?_
  refine c_region ?_
  refine s_y (y_move rfl) rfl rfl rfl ?_
  refine s_y (y_len Try.tab rfl rfl) rfl rfl rfl ?_
  refine s_y (y_F (y_gtr rfl rfl) (by omega)) rfl rfl rfl ?_
  refine s_nil ?_
  refine f_then ?_
  refine c_condF rfl ?_
  refine c_skip ?_
  refine f_then ?_
  refine c_seq ?_
  refine c_region ?_
  refine s_do (do_buildSliceS Try.tab ⟨rfl, rfl, rfl, rfl⟩ rfl rfl rfl rfl) rfl rfl rfl (fun b18 => ?_)
  refine s_y (y_move rfl) rfl rfl rfl ?_
  refine s_do (do_appendE (s := 2) (b := b18) (k := cs.length) (by_ := 16) Try.tab 0 rfl rfl (hv.cls fun w h => h.any) ⟨rfl, rfl, rfl, rfl⟩ rfl rfl (fun i j => rfl) (by unfold maxLen; omega) (by omega)) rfl rfl rfl (fun oI => ?_)
  obtain ⟨oI, hoI⟩ := oI
  dsimp only
  rw [cvals_vw] at hoI ⊢
  refine St.cls (C' := K W (oc 37 (some oI) (cvals cs) :: spT b4 b7 l c [])) ?_ (fun w h => h)
  have hoI2 : owfO 2 (some oI) cs.length (cvals cs) := ⟨hoI.1, hoI.2⟩
  refine s_y (y_assign rfl) rfl rfl rfl ?_
  refine s_nil ?_
  refine f_then ?_
  refine c_seq ?_
  refine c_region ?_
  refine s_y (y_loadA Try.tab rfl rfl rfl rfl (cells_row0 2 rfl rfl)) rfl rfl rfl ?_
  refine s_y (y_move rfl) rfl rfl rfl ?_
  refine s_y (y_move rfl) rfl rfl rfl ?_
  refine s_y (y_loadA Try.tab rfl rfl rfl rfl (cells_row0 1 rfl rfl)) rfl rfl rfl ?_
  have hv2 : CL (K W (oc 37 (some oI) (cvals cs) :: spT b4 b7 l c [])) (.slice pa cs.length ca) cs := hv.cls fun w h => h.any
  refine s_call (en_f rfl Try.call16) (refused_spec W _ l s _ nilS cs c [] hv2 SlV.empty (by omega) (by simp)) rfl rfl rfl (fun _ => ?_)
  by_cases hr : RefOK l s cs c []
  · have hw : refF l s cs c [] = 0 := refF_0.2 hr
    rw [hw]
    refine s_y (y_assign rfl) rfl rfl rfl ?_
    refine s_nil ?_
    refine f_then ?_
    refine c_seq ?_
    refine c_seq ?_
    refine c_region ?_
    refine s_y (y_move rfl) rfl rfl rfl ?_
    refine s_y (y_T (y_eql rfl rfl) (by omega)) rfl rfl rfl ?_
    refine s_y (y_move rfl) rfl rfl rfl ?_
    refine s_y (y_move rfl) rfl rfl rfl ?_
    refine s_call (en_f rfl Try.call17) (sheets_spec W _ _ cs hv2 (by omega)) rfl rfl rfl (fun oD => ?_)
    obtain ⟨oD, hoD⟩ := oD
    dsimp only
    have hDl := asc_len (·.1) cs
    by_cases h9 : (asc (·.1) cs).length ≤ 9
    rotate_left
    · refine s_y (y_lenO Try.tab rfl (by assumption) rfl) rfl rfl rfl ?_
      refine s_y (y_T (y_gtr rfl rfl) (by omega)) rfl rfl rfl ?_
      refine s_y (y_pickT rfl rfl) rfl rfl rfl ?_
      refine s_nil ?_
      refine f_then ?_
      refine c_condT rfl ?_
      refine c_seq ?_
      refine c_region ?_
      refine s_call (en_f rfl Try.call15) (awake_spec W _) rfl rfl rfl (fun _ => ?_)
      refine s_y (y_assign rfl) rfl rfl rfl ?_
      refine s_nil ?_
      refine f_then ?_
      refine c_ret ?_
      refine f_thenR ?_
      exact f_ret () (res1 rfl rfl) (fun w h => h.any)
    refine s_y (y_lenO Try.tab rfl (by assumption) rfl) rfl rfl rfl ?_
    refine s_y (y_F (y_gtr rfl rfl) (by omega)) rfl rfl rfl ?_
    refine s_y (y_pickT rfl rfl) rfl rfl rfl ?_
    refine s_nil ?_
    refine f_then ?_
    refine c_condF rfl ?_
    refine c_skip ?_
    refine f_then ?_
    refine c_seq ?_
    refine c_region ?_
    refine s_y (y_loadA Try.tab rfl rfl rfl rfl (cells_row0 3 rfl rfl)) rfl rfl rfl ?_
    refine s_y (y_move rfl) rfl rfl rfl ?_
    refine s_y (y_move rfl) rfl rfl rfl ?_
    refine s_y (y_loadA Try.tab rfl rfl rfl rfl (cells_row0 2 rfl rfl)) rfl rfl rfl ?_
    refine St.cls (C' := K W (oc 37 (some oI) (cvals cs) :: spT b4 b7 l c [])) ?_ (fun w h => h.tail)
    refine s_call (en_f rfl Try.call18) (plan_spec W (oc 37 (some oI) (cvals cs) :: spT b4 b7 l c []) l s _ cs c hr (CL.oc 0 rfl hoI2) (by omega)) rfl rfl rfl (fun x => ?_)
    obtain ⟨⟨R, oR, oS, oO⟩, hop, hRl, hoR, hoS, hoO⟩ := x
    dsimp only at hop hRl hoR hoS hoO ⊢
    refine s_y (y_move rfl) rfl rfl rfl ?_
    refine s_y (y_extract rfl rfl) rfl rfl rfl ?_
    refine s_y (y_extract rfl rfl) rfl rfl rfl ?_
    refine s_do (do_alloc Try.tab rfl) rfl rfl rfl (fun b11 => ?_)
    refine s_set (set_box Try.tab 0 rfl rfl (by cases oR <;> cases oS <;> cases oO <;> rfl) rfl rfl rfl rfl) rfl rfl ?_
    refine s_y (y_assign rfl) rfl rfl rfl ?_
    refine s_nil ?_
    refine f_then ?_
    refine c_seq ?_
    refine c_seq ?_
    refine c_region ?_
    refine s_y (y_assign rfl) rfl rfl rfl ?_
    refine s_nil ?_
    refine f_then ?_
    refine c_block ?_
    refine c_loopP (α := Nat) (fun z => [(1, .int .i64 s), (2, .slice pa cs.length ca), (4, .pointer (some ⟨b4, 0, none⟩)), (7, .pointer (some ⟨b7, 0, none⟩)), (9, osl oI cs.length), (10, .int .i64 0), (11, .pointer (some ⟨b11, 0, none⟩)), (12, .int .i64 0), (13, .int .i64 z)]) (fun z => z ≤ cs.length) (fun _ => K W ([(b11, row 32 [.int .i64 (costF l s c cs R), ov oR R.length, ov oS (asc (notC l s) (restC R cs)).length, ov oO (asc (bunC l s) (restC R cs)).length])] :: oc 3 oS (ivals (asc (notC l s) (restC R cs))) :: oc 3 oO (ivals (asc (bunC l s) (restC R cs))) :: oc 3 oR (ivals R) :: oc 37 (some oI) (cvals cs) :: spT b4 b7 l c [])) (fun z => cs.length - z) 0 ⟨rfl, rfl, rfl, rfl, rfl, rfl, rfl, rfl, rfl, trivial⟩ (Nat.zero_le _) (fun w h => h) ?_
    rintro i hi
    refine c_seq ?_
    refine c_seq ?_
    refine c_region ?_
    refine s_y (y_move rfl) rfl rfl rfl ?_
    refine s_y (y_move rfl) rfl rfl rfl ?_
    refine s_y (y_len Try.tab rfl rfl) rfl rfl rfl ?_
    refine s_y (y_lss rfl rfl) rfl rfl rfl ?_
    refine s_nil ?_
    refine f_then ?_
    refine c_condD rfl (fun hlt => ?_) (fun hge => ?_)
    · obtain ⟨b, q, rfl, hcell⟩ := hcs (by omega)
      have hc1 := (hcell i (by omega)).1.cls (C := K W ([(b11, row 32 [.int .i64 (costF l s c cs R), ov oR R.length, ov oS (asc (notC l s) (restC R cs)).length, ov oO (asc (bunC l s) (restC R cs)).length])] :: oc 3 oS (ivals (asc (notC l s) (restC R cs))) :: oc 3 oO (ivals (asc (bunC l s) (restC R cs))) :: oc 3 oR (ivals R) :: oc 37 (some oI) (cvals cs) :: spT b4 b7 l c [])) fun w h => h.any
      have hIn : CL (K W ([(b11, row 32 [.int .i64 (costF l s c cs R), ov oR R.length, ov oS (asc (notC l s) (restC R cs)).length, ov oO (asc (bunC l s) (restC R cs)).length])] :: oc 3 oS (ivals (asc (notC l s) (restC R cs))) :: oc 3 oO (ivals (asc (bunC l s) (restC R cs))) :: oc 3 oR (ivals R) :: oc 37 (some oI) (cvals cs) :: spT b4 b7 l c [])) (osl oI cs.length) cs := CL.oc 4 rfl hoI2
      obtain ⟨pn, cn, hvn, _, hcn⟩ := hIn.open
      obtain ⟨bn, qn, rfl, hcelln⟩ := hcn (by omega)
      have hc2 := (hcelln i (by omega)).1
      injection hvn with hvn1 hvn2 hvn3
      injection hvn1 with hvn1
      injection hvn1 with hvn4 hvn5
      subst hvn4
      rw [← hvn5] at hc2
      refine c_skip ?_
      refine f_then ?_
      refine c_seq ?_
      refine c_block ?_
      refine c_seq ?_
      refine c_quiet Try.mixed (by kernel_rfl) K.drew ?_
      refine q_y (y_move rfl) rfl rfl rfl ?_
      refine q_y (y_move rfl) rfl rfl rfl ?_
      refine q_y (y_indexAddr (s := 2) Try.tab rfl rfl rfl rfl _ rfl (by omega)) rfl rfl rfl ?_
      refine q_y (y_loadA Try.tab rfl rfl rfl rfl hc2) rfl rfl rfl ?_
      refine q_y (y_move rfl) rfl rfl rfl ?_
      refine q_y (y_move rfl) rfl rfl rfl ?_
      refine q_y (y_indexAddr (s := 2) Try.tab rfl rfl rfl rfl _ rfl (by omega)) rfl rfl rfl ?_
      refine q_y (y_loadA Try.tab rfl rfl rfl rfl hc1) rfl rfl rfl ?_
      refine q_y (y_F (y_neqCell rfl rfl) (by omega)) rfl rfl rfl ?_
      refine q_nil ?_
      refine f_then ?_
      refine c_condF rfl ?_
      refine c_skip ?_
      refine f_blockN ?_
      refine f_then ?_
      refine c_region ?_
      refine s_y (y_move rfl) rfl rfl rfl ?_
      refine s_y (y_add rfl rfl (by omega)) rfl rfl rfl ?_
      refine s_y (y_assign rfl) rfl rfl rfl ?_
      refine s_nil ?_
      exact f_roundP (i + 1) (by omega) (by omega) ⟨rfl, rfl, rfl, rfl, rfl, rfl, rfl, rfl, rfl, trivial⟩ (fun w h => h)
    refine c_exit ?_
    refine f_thenE ?_
    refine f_rndE ?_
    refine f_blockE ?_
    refine f_then ?_
    refine c_seq ?_
    refine c_seq ?_
    refine c_region ?_
    refine s_y (y_move rfl) rfl rfl rfl ?_
    refine s_y (y_F (y_neq rfl rfl) (by omega)) rfl rfl rfl ?_
    refine s_nil ?_
    refine f_then ?_
    refine c_condF rfl ?_
    refine c_skip ?_
    refine f_then ?_
    refine c_seq ?_
    refine c_plan [.c 0, .c 1, .c 2, .c 3, .c 4, .c 5, .c 6, .c 7, .s 8, .s 9, .c 10, .c 11, .s 12, .c 13, .c 14] [] ((K W ([(b11, row 32 [.int .i64 (costF l s c cs R), ov oR R.length, ov oS (asc (notC l s) (restC R cs)).length, ov oO (asc (bunC l s) (restC R cs)).length])] :: oc 3 oS (ivals (asc (notC l s) (restC R cs))) :: oc 3 oO (ivals (asc (bunC l s) (restC R cs))) :: oc 3 oR (ivals R) :: oc 37 (some oI) (cvals cs) :: spT b4 b7 l c []))) Try.mixed (by kernel_rfl) rfl K.cl ?_
    refine d_c rfl (Qui.ylds (y_move rfl)) rfl rfl rfl (fun _ h => h) K.cl ?_
    refine d_c rfl (Qui.ylds (y_T (y_eql rfl rfl) (by omega))) rfl rfl rfl (fun _ h => h) K.cl ?_
    refine d_c rfl (Qui.ylds (y_move rfl)) rfl rfl rfl (fun _ h => h) K.cl ?_
    refine d_c rfl (Qui.ylds (y_loadA Try.tab rfl rfl rfl rfl (cells_row0 0 rfl rfl))) rfl rfl rfl (fun _ h => h) K.cl ?_
    refine d_c rfl (Qui.ylds (y_loadA Try.tab rfl rfl rfl rfl (cells_row0 6 rfl rfl))) rfl rfl rfl (fun _ h => h) K.cl ?_
    refine d_c rfl (Qui.ylds (y_move rfl)) rfl rfl rfl (fun _ h => h) K.cl ?_
    refine d_c rfl (Qui.ylds (y_move rfl)) rfl rfl rfl (fun _ h => h) K.cl ?_
    refine d_c rfl (Qui.ylds (y_loadA Try.tab rfl rfl rfl rfl (cells_row0 5 rfl rfl))) rfl rfl rfl (fun _ h => h) K.cl ?_
    have hv4 : CL (K W ([(b11, row 32 [.int .i64 (costF l s c cs R), ov oR R.length, ov oS (asc (notC l s) (restC R cs)).length, ov oO (asc (bunC l s) (restC R cs)).length])] :: oc 3 oS (ivals (asc (notC l s) (restC R cs))) :: oc 3 oO (ivals (asc (bunC l s) (restC R cs))) :: oc 3 oR (ivals R) :: oc 37 (some oI) (cvals cs) :: spT b4 b7 l c [])) (.slice pa cs.length ca) cs := hv.cls fun w h => h.any
    refine d_call rfl (en_f rfl Try.call20) (rplan_spec W ([(b11, row 32 [.int .i64 (costF l s c cs R), ov oR R.length, ov oS (asc (notC l s) (restC R cs)).length, ov oO (asc (bunC l s) (restC R cs)).length])] :: oc 3 oS (ivals (asc (notC l s) (restC R cs))) :: oc 3 oO (ivals (asc (bunC l s) (restC R cs))) :: oc 3 oR (ivals R) :: oc 37 (some oI) (cvals cs) :: spT b4 b7 l c []) l s _ cs c R hr.g hr.i hr.c hop hv4 (by omega) h9) rfl rfl rfl (fun _ => K.cl) (fun _ _ _ h => h.tail.tail.tail) (fun x => ?_)
    obtain ⟨⟨oR2, oS2, oO2⟩, hoR2, hoS2, hoO2⟩ := x
    dsimp only at hoR2 hoS2 hoO2 ⊢
    have hrl := restC_len R cs
    have n1 := asc_len (notC l s) (restC R cs)
    have n2 := asc_len (bunC l s) (restC R cs)
    refine d_call rfl (en_f rfl Try.call19) (alike_yes W (oc 3 oS2 (ivals (asc (notC l s) (restC R cs))) :: oc 3 oO2 (ivals (asc (bunC l s) (restC R cs))) :: oc 3 oR2 (ivals R) :: [(b11, row 32 [.int .i64 (costF l s c cs R), ov oR R.length, ov oS (asc (notC l s) (restC R cs)).length, ov oO (asc (bunC l s) (restC R cs)).length])] :: oc 3 oS (ivals (asc (notC l s) (restC R cs))) :: oc 3 oO (ivals (asc (bunC l s) (restC R cs))) :: oc 3 oR (ivals R) :: oc 37 (some oI) (cvals cs) :: spT b4 b7 l c []) ⟨costF l s c cs R, ov oR R.length, ov oS (asc (notC l s) (restC R cs)).length, ov oO (asc (bunC l s) (restC R cs)).length⟩ ⟨costF l s c cs R, ov oR2 R.length, ov oS2 (asc (notC l s) (restC R cs)).length, ov oO2 (asc (bunC l s) (restC R cs)).length⟩ R.length (asc (notC l s) (restC R cs)).length (asc (bunC l s) (restC R cs)).length (fun i => R.getD i 0) (fun i => (asc (notC l s) (restC R cs)).getD i 0) (fun i => (asc (bunC l s) (restC R cs)).getD i 0) rfl ⟨IL.oc 6 rfl hoR, IL.oc 4 rfl hoS, IL.oc 5 rfl hoO⟩ ⟨IL.oc 2 rfl hoR2, IL.oc 0 rfl hoS2, IL.oc 1 rfl hoO2⟩ (by omega) (by omega) (by omega)) rfl rfl rfl (fun _ => K.cl) (fun _ _ _ h => h.tail.tail.tail) (fun _ => ?_)
    refine d_c rfl (Qui.ylds (y_pickT rfl rfl)) rfl rfl rfl (fun _ h => h.tail.tail.tail) K.cl ?_
    refine d_c rfl (Qui.ylds (y_move rfl)) rfl rfl rfl (fun _ h => h.tail.tail.tail) K.cl ?_
    refine d_call rfl (en_f rfl Try.call15) (awake_spec W _) rfl rfl rfl (fun _ => K.cl) (fun _ _ _ h => h.tail.tail.tail) (fun _ => ?_)
    refine d_c rfl (Qui.ylds (y_pickT rfl rfl)) rfl rfl rfl (fun _ h => h.tail.tail.tail) K.cl ?_
    refine d_c rfl (Qui.ylds (y_assign rfl)) rfl rfl rfl (fun _ h => h.tail.tail.tail) K.cl ?_
    refine d_nil ?_
    refine f_then ?_
    refine c_ret ?_
    exact f_ret () (res1 rfl rfl) (fun w h => h.any)
  · have hw : refF l s cs c [] ≠ 0 := fun e => hr (refF_0.1 e)
    refine s_y (y_assign rfl) rfl rfl rfl ?_
    refine s_nil ?_
    refine f_then ?_
    refine c_seq ?_
    refine c_seq ?_
    refine c_region ?_
    refine s_y (y_move rfl) rfl rfl rfl ?_
    refine s_y (y_F (y_eql rfl rfl) (by assumption)) rfl rfl rfl ?_
    refine s_y (y_move rfl) rfl rfl rfl ?_
    iterate 4 refine s_skip rfl rfl rfl ?_
    refine s_y (y_pickF rfl rfl) rfl rfl rfl ?_
    refine s_nil ?_
    refine f_then ?_
    refine c_condF rfl ?_
    refine c_skip ?_
    refine f_then ?_
    refine c_seq ?_
    refine c_region ?_
    refine s_y (y_loadA Try.tab rfl rfl rfl rfl (cells_row0 2 rfl rfl)) rfl rfl rfl ?_
    refine s_y (y_move rfl) rfl rfl rfl ?_
    refine s_y (y_move rfl) rfl rfl rfl ?_
    refine s_y (y_loadA Try.tab rfl rfl rfl rfl (cells_row0 1 rfl rfl)) rfl rfl rfl ?_
    have hplan : Spec Try.prog 18 #[l.v, .int .i64 s, osl oI cs.length, c.v] (K W (oc 37 (some oI) (cvals cs) :: spT b4 b7 l c [])) (fun _ : Unit => .tuple #[.agg #[.int .i64 0, nilS, nilS, nilS], .int .i64 (refF l s cs c [])]) (fun _ => K W (oc 37 (some oI) (cvals cs) :: spT b4 b7 l c [])) := by
      by_cases h : Gd l s
      · exact plan_err W _ l s _ cs c h hr (CL.oc 0 rfl hoI2) (by omega)
      · rw [refF_bad h]; exact Plan_bad W _ l s _ c h
    refine s_call (en_f rfl Try.call18) hplan rfl rfl rfl (fun _ => ?_)
    refine s_y (y_move rfl) rfl rfl rfl ?_
    refine s_y (y_extract rfl rfl) rfl rfl rfl ?_
    refine s_y (y_extract rfl rfl) rfl rfl rfl ?_
    refine s_do (do_alloc Try.tab rfl) rfl rfl rfl (fun b11 => ?_)
    refine s_set (set_box Try.tab 0 rfl rfl rfl rfl rfl rfl rfl) rfl rfl ?_
    refine s_y (y_assign rfl) rfl rfl rfl ?_
    refine s_nil ?_
    refine f_then ?_
    refine c_seq ?_
    refine c_seq ?_
    refine c_region ?_
    refine s_y (y_assign rfl) rfl rfl rfl ?_
    refine s_nil ?_
    refine f_then ?_
    refine c_block ?_
    refine c_loopP (α := Nat) (fun z => [(1, .int .i64 s), (2, .slice pa cs.length ca), (4, .pointer (some ⟨b4, 0, none⟩)), (7, .pointer (some ⟨b7, 0, none⟩)), (9, osl oI cs.length), (10, .int .i64 (refF l s cs c [])), (11, .pointer (some ⟨b11, 0, none⟩)), (12, .int .i64 (refF l s cs c [])), (13, .int .i64 z)]) (fun z => z ≤ cs.length) (fun _ => K W ([(b11, row 32 [.int .i64 0, nilS, nilS, nilS])] :: oc 37 (some oI) (cvals cs) :: spT b4 b7 l c [])) (fun z => cs.length - z) 0 ⟨rfl, rfl, rfl, rfl, rfl, rfl, rfl, rfl, rfl, trivial⟩ (Nat.zero_le _) (fun w h => h) ?_
    rintro i hi
    refine c_seq ?_
    refine c_seq ?_
    refine c_region ?_
    refine s_y (y_move rfl) rfl rfl rfl ?_
    refine s_y (y_move rfl) rfl rfl rfl ?_
    refine s_y (y_len Try.tab rfl rfl) rfl rfl rfl ?_
    refine s_y (y_lss rfl rfl) rfl rfl rfl ?_
    refine s_nil ?_
    refine f_then ?_
    refine c_condD rfl (fun hlt => ?_) (fun hge => ?_)
    · obtain ⟨b, q, rfl, hcell⟩ := hcs (by omega)
      have hc1 := (hcell i (by omega)).1.cls (C := K W ([(b11, row 32 [.int .i64 0, nilS, nilS, nilS])] :: oc 37 (some oI) (cvals cs) :: spT b4 b7 l c [])) fun w h => h.any
      have hIn : CL (K W ([(b11, row 32 [.int .i64 0, nilS, nilS, nilS])] :: oc 37 (some oI) (cvals cs) :: spT b4 b7 l c [])) (osl oI cs.length) cs := CL.oc 1 rfl hoI2
      obtain ⟨pn, cn, hvn, _, hcn⟩ := hIn.open
      obtain ⟨bn, qn, rfl, hcelln⟩ := hcn (by omega)
      have hc2 := (hcelln i (by omega)).1
      injection hvn with hvn1 hvn2 hvn3
      injection hvn1 with hvn1
      injection hvn1 with hvn4 hvn5
      subst hvn4
      rw [← hvn5] at hc2
      refine c_skip ?_
      refine f_then ?_
      refine c_seq ?_
      refine c_block ?_
      refine c_seq ?_
      refine c_quiet Try.mixed (by kernel_rfl) K.drew ?_
      refine q_y (y_move rfl) rfl rfl rfl ?_
      refine q_y (y_move rfl) rfl rfl rfl ?_
      refine q_y (y_indexAddr (s := 2) Try.tab rfl rfl rfl rfl _ rfl (by omega)) rfl rfl rfl ?_
      refine q_y (y_loadA Try.tab rfl rfl rfl rfl hc2) rfl rfl rfl ?_
      refine q_y (y_move rfl) rfl rfl rfl ?_
      refine q_y (y_move rfl) rfl rfl rfl ?_
      refine q_y (y_indexAddr (s := 2) Try.tab rfl rfl rfl rfl _ rfl (by omega)) rfl rfl rfl ?_
      refine q_y (y_loadA Try.tab rfl rfl rfl rfl hc1) rfl rfl rfl ?_
      refine q_y (y_F (y_neqCell rfl rfl) (by omega)) rfl rfl rfl ?_
      refine q_nil ?_
      refine f_then ?_
      refine c_condF rfl ?_
      refine c_skip ?_
      refine f_blockN ?_
      refine f_then ?_
      refine c_region ?_
      refine s_y (y_move rfl) rfl rfl rfl ?_
      refine s_y (y_add rfl rfl (by omega)) rfl rfl rfl ?_
      refine s_y (y_assign rfl) rfl rfl rfl ?_
      refine s_nil ?_
      exact f_roundP (i + 1) (by omega) (by omega) ⟨rfl, rfl, rfl, rfl, rfl, rfl, rfl, rfl, rfl, trivial⟩ (fun w h => h)
    refine c_exit ?_
    refine f_thenE ?_
    refine f_rndE ?_
    refine f_blockE ?_
    refine f_then ?_
    refine c_seq ?_
    refine c_seq ?_
    refine c_region ?_
    refine s_y (y_move rfl) rfl rfl rfl ?_
    refine s_y (y_T (y_neq rfl rfl) (by assumption)) rfl rfl rfl ?_
    refine s_nil ?_
    refine f_then ?_
    refine c_condT rfl ?_
    refine c_seq ?_
    refine c_region ?_
    refine s_y (y_move rfl) rfl rfl rfl ?_
    refine s_y (y_move rfl) rfl rfl rfl ?_
    refine s_y (y_T (y_eql rfl rfl) (by omega)) rfl rfl rfl ?_
    refine s_y (y_move rfl) rfl rfl rfl ?_
    refine s_y (y_loadA Try.tab rfl rfl rfl rfl (cells_row0 0 rfl rfl)) rfl rfl rfl ?_
    refine s_y (y_build Try.tab rfl rfl rfl rfl rfl) rfl rfl rfl ?_
    refine s_call (en_f rfl Try.call19) (alike_0' W _) rfl rfl rfl (fun _ => ?_)
    refine s_y (y_pickT rfl rfl) rfl rfl rfl ?_
    refine s_y (y_move rfl) rfl rfl rfl ?_
    refine s_call (en_f rfl Try.call15) (awake_spec W _) rfl rfl rfl (fun _ => ?_)
    refine s_y (y_pickT rfl rfl) rfl rfl rfl ?_
    refine s_y (y_assign rfl) rfl rfl rfl ?_
    refine s_nil ?_
    refine f_then ?_
    refine c_ret ?_
    refine f_thenR ?_
    exact f_ret () (res1 rfl rfl) (fun w h => h.any)
end Go.KL
end

section
/- Append of a view to a slice of one's own, or nil. -/
namespace Go.KL
section
variable {P : Program} {W w : World} {Ls : List Chunk} {n : Nat} {σ σ' : Slots} {C D : World → Prop} {dst : Option Tmp} {ty : TypeId} {pos : String} {after : Array Edge} {guard : Option (Nat × Bool)}
theorem y_append_nn (T : Tab P) {x y : Operand} {t e : TypeId} {s by_ c2 : Nat} {z : List Value} {pa : Option Addr} (hx : ev σ x = some (.slice none 0 0)) (hy : ev σ y = some (.slice pa 0 c2)) (hT : TabE T t e s by_ z) :
    Ylds P n σ C ⟨dst, .call ⟨.builtin .append, #[x, y], #[t, t]⟩, ty, pos, after, guard⟩ (.slice none 0 0) := by
  intro a w hE hw
  obtain ⟨inf, zv, i1, i2, i3, i4, i5⟩ := hT.info
  have hf := run_firstCells_zero (P := P) (s := s) (c := c2) (pa := pa) w
  have hres : ∀ r, (execOp a.eval ⟨dst, .call ⟨.builtin .append, #[x, y], #[t, t]⟩, ty, pos, after, guard⟩).run P w = r ↔ ((Builtin.append_ #[t, t] ty #[.slice none 0 0, .slice pa 0 c2]).run P w).andThen (fun v w' => .ok (.value v) w') = r := by
    intro r
    simp [execOp, resolve, invoke, builtin, ev_eval hE hx, ev_eval hE hy]
  rw [hres]
  simp [Builtin.append_, run_und T hT.und, sizeOf, typeInfo, i1, i2, Builtin.lenOf, hf]
theorem do_appendVO (T : Tab P) (i : Nat) {x y : Operand} {t e : TypeId} {s by_ m k : Nat} {z xs : List Value} {o : Option Own} {v : Value} {g : Nat → Nat → Value} (hx : ev σ x = some (ov o m)) (hy : ev σ y = some v) (hV : SlV (K W Ls) v k s g)
    (hT : TabE T t e s by_ z) (hzs : z.length = s) (hi : Ls.getD i [] = oc e o xs) (hil : i < Ls.length) (ho : owfO s o m xs) (h1 : ∀ i j, (g i j).oneCell' = true) (hmax : m + k ≤ maxLen) (hby : (m + k) * by_ ≤ 140737488355328) :
    Doos P n σ (K W Ls) ⟨dst, .call ⟨.builtin .append, #[x, y], #[t, t]⟩, ty, pos, after, guard⟩ (X := { o' : Option Own // owfO s o' (m + k) (xs ++ vw s k g) }) (fun o' => ov o'.1 (m + k)) (fun o' => K W (Ls.set i (oc e o'.1 (xs ++ vw s k g)))) := by
  obtain ⟨pa, c, rfl, hc, hp⟩ := hV
  rcases Nat.eq_zero_or_pos k with h0 | h0
  · subst h0
    have e0 : vw s 0 g = [] := by simp [vw]
    have e1 : Ls.set i (oc e o xs) = Ls := by
      apply List.ext_getElem?
      intro k
      rw [List.getElem?_set]
      split
      · rename_i h; subst h
        rw [← hi, List.getD_eq_getElem?_getD, List.getElem?_eq_getElem hil]
        simp
      · rfl
    rw [e0]
    cases o with
    | none =>
      obtain ⟨rfl, rfl⟩ := ho
      intro a w hE hw
      exact ⟨⟨none, by rw [List.append_nil]; exact ⟨rfl, rfl⟩⟩, w, y_append_nn (C := K W Ls) T hx hy hT a w hE hw, by dsimp only; rw [List.append_nil, e1]; exact hw⟩
    | some o =>
      intro a w hE hw
      obtain ⟨o', w', q1, q2⟩ := do_append0 (P := P) (n := n) (σ := σ) (dst := dst) (ty := ty) (pos := pos) (after := after) (guard := guard) T i hx hy hT hi ho.1 a w hE hw
      exact ⟨⟨some o'.1, ⟨o'.2.1, by have h3 := ho.2; have h4 := o'.2.2; omega⟩⟩, w', q1, q2⟩
  · obtain ⟨b, of, rfl, hcell⟩ := hp h0
    intro a w hE hw
    obtain ⟨o', w', q1, q2⟩ := do_appendO (P := P) (N := n) (σ := σ) (dst := dst) (ty := ty) (pos := pos) (after := after) (guard := guard) T i hx hy hT hzs hi hil ho (SlV.cellsAre hcell) (vw_len s k g) (fun u hu => by
      obtain ⟨j, _, rfl⟩ := List.mem_map.1 hu
      exact h1 _ _) h0 hmax hby a w hE hw
    exact ⟨⟨some o'.1, ⟨o'.2.1, by have := o'.2.2; omega⟩⟩, w', q1, q2⟩
end
/-! ### Plan, whatever the cells -/
theorem refF_ext {l : Lay} {s : Int} {cs cs' : List (Int × Int)} {c : Cos} {R : List Int} (h : ∀ x, x ∈ cs ↔ x ∈ cs') : refF l s cs c R = refF l s cs' c R := by
  have e1 : (onces cs).length = (onces cs').length := len_eq (onces_spec cs).1 (onces_spec cs').1 fun x => by rw [mem_onces, mem_onces, h]
  have e2 : goodsF l s cs = goodsF l s cs' := by
    unfold goodsF
    rw [asc_onces, asc_onces, asc_onces, asc_onces, asc_ext (f := fun x : Int × Int => x.1) h, asc_ext (f := bunC l s) h]
  have e3 : (∀ x ∈ cs, CellIn l s x.1 x.2) ↔ (∀ x ∈ cs', CellIn l s x.1 x.2) := ⟨fun q x hx => q x ((h x).2 hx), fun q x hx => q x ((h x).1 hx)⟩
  by_cases g : Gd l s
  rotate_left
  · rw [refF_bad g, refF_bad g]
  by_cases q : (∀ x ∈ cs, CellIn l s x.1 x.2) ∧ (∀ x ∈ R, 0 ≤ x ∧ x < s)
  rotate_left
  · rw [refF_in g q, refF_in g (by rwa [e3] at q)]
  have q' : (∀ x ∈ cs', CellIn l s x.1 x.2) ∧ (∀ x ∈ R, 0 ≤ x ∧ x < s) := by rwa [e3] at q
  by_cases hc : c.OK
  rotate_left
  · rw [refF_c g q.1 q.2 hc, refF_c g q'.1 q'.2 hc]
  by_cases hn : (onces cs).length ≤ 512 ∧ goodsF l s cs ≤ 120
  · rw [refF_ok g q.1 q.2 hc hn, refF_ok g q'.1 q'.2 hc (by rwa [e1, e2] at hn)]
  · rw [refF_full g q.1 q.2 hc hn, refF_full g q'.1 q'.2 hc (by rwa [e1, e2] at hn)]
/-- What Plan returns: a cost, and three lists. -/
structure PRes where
  k : Int
  R : List Int
  S : List Int
  O : List Int
structure PR (l : Lay) (s : Int) (cs : List (Int × Int)) (c : Cos) (r : PRes) : Prop where
  ok : RefOK l s cs c [] → OptP l s c cs r.R ∧ r.k = costF l s c cs r.R ∧ r.S = asc (notC l s) (restC r.R cs) ∧ r.O = asc (bunC l s) (restC r.R cs)
  no : ¬ RefOK l s cs c [] → r.k = 0 ∧ r.R = [] ∧ r.S = [] ∧ r.O = []
  l : r.R.length ≤ 100000 ∧ r.S.length ≤ cs.length ∧ r.O.length ≤ cs.length
structure POw (r : PRes) where
  oR : Option Own
  oS : Option Own
  oO : Option Own
  hR : owfO 1 oR r.R.length (ivals r.R)
  hS : owfO 1 oS r.S.length (ivals r.S)
  hO : owfO 1 oO r.O.length (ivals r.O)
theorem PR.unique {l : Lay} {s : Int} {cs cs' : List (Int × Int)} {c : Cos} {r r' : PRes} (h : ∀ x, x ∈ cs ↔ x ∈ cs') (p : PR l s cs c r) (p' : PR l s cs' c r') : r = r' := by
  have e := refF_ext (l := l) (s := s) (c := c) (R := []) h
  obtain ⟨k, R, S, O⟩ := r
  obtain ⟨k', R', S', O'⟩ := r'
  by_cases hr : RefOK l s cs c []
  · have hr' : RefOK l s cs' c [] := refF_0.1 (by rw [← e]; exact refF_0.2 hr)
    obtain ⟨h1, h2, h3, h4⟩ := p.ok hr
    obtain ⟨g1, g2, g3, g4⟩ := p'.ok hr'
    dsimp only at h1 h2 h3 h4 g1 g2 g3 g4
    obtain rfl : R = R' := (h1.ext h).unique g1
    have hm : ∀ x, x ∈ restC R cs ↔ x ∈ restC R cs' := fun x => by rw [restC_mem, restC_mem, h]
    rw [h2, h3, h4, g2, g3, g4, asc_ext (f := notC l s) hm, asc_ext (f := bunC l s) hm, costF_ext h rfl fun _ => Iff.rfl]
  · have hr' : ¬ RefOK l s cs' c [] := fun q => hr (refF_0.1 (by rw [e]; exact refF_0.2 q))
    obtain ⟨h1, h2, h3, h4⟩ := p.no hr
    obtain ⟨g1, g2, g3, g4⟩ := p'.no hr'
    dsimp only at h1 h2 h3 h4 g1 g2 g3 g4
    subst h1 h2 h3 h4 g1 g2 g3 g4
    rfl
theorem PR.more {l : Lay} {s : Int} {cs cs' : List (Int × Int)} {c : Cos} {r r' : PRes} (h : ∀ x ∈ cs, x ∈ cs') (p : PR l s cs c r) (p' : PR l s cs' c r') (hr : RefOK l s cs c []) (hr' : RefOK l s cs' c []) : r.k ≤ r'.k := by
  obtain ⟨h1, h2, _⟩ := p.ok hr
  obtain ⟨g1, g2, _⟩ := p'.ok hr'
  rw [h2, g2]
  exact OptP.more hr.c h1 g1 h
abbrev prV (r : PRes) (o : POw r) : Value := .agg #[.int .i64 r.k, ov o.oR r.R.length, ov o.oS r.S.length, ov o.oO r.O.length]
abbrev prL (r : PRes) (o : POw r) (Ls : List Chunk) : List Chunk := oc 3 o.oS (ivals r.S) :: oc 3 o.oO (ivals r.O) :: oc 3 o.oR (ivals r.R) :: Ls
open Go.Proofs in
theorem plan_any (W : World) (Ls : List Chunk) (l : Lay) (s : Int) (v : Value) (cs : List (Int × Int)) (c : Cos) (hv : CL (K W Ls) v cs) (hl : cs.length ≤ 100000) :
    Spec Try.prog 18 #[l.v, .int .i64 s, v, c.v] (K W Ls) (X := { x : (r : PRes) × POw r // PR l s cs c x.1 }) (fun x => .tuple #[prV x.1.1 x.1.2, .int .i64 (refF l s cs c [])]) (fun x => K W (prL x.1.1 x.1.2 Ls)) := by
  by_cases hr : RefOK l s cs c []
  · intro w hw
    refine (plan_spec W Ls l s v cs c hr hv hl w hw).mono ?_
    rintro e w' ⟨⟨⟨R, oR, oS, oO⟩, hop, hRl, hoR, hoS, hoO⟩, rfl, hk⟩
    dsimp only at hop hRl hoR hoS hoO hk ⊢
    have hrl := restC_len R cs
    have n1 := asc_len (notC l s) (restC R cs)
    have n2 := asc_len (bunC l s) (restC R cs)
    refine ⟨⟨⟨⟨costF l s c cs R, R, asc (notC l s) (restC R cs), asc (bunC l s) (restC R cs)⟩, ⟨oR, oS, oO, hoR, hoS, hoO⟩⟩, ⟨fun _ => ⟨hop, rfl, rfl, rfl⟩, fun h => absurd hr h, by dsimp only; omega, by dsimp only; omega, by dsimp only; omega⟩⟩, ?_, hk⟩
    rw [refF_0.2 hr]
  · have key : ∀ w, K W Ls w → Calls Try.prog 18 #[l.v, .int .i64 s, v, c.v] w fun e w' => e = .returned (.tuple #[.agg #[.int .i64 0, nilS, nilS, nilS], .int .i64 (refF l s cs c [])]) ∧ K W Ls w' := by
      intro w hw
      by_cases h : Gd l s
      · refine (plan_err W Ls l s v cs c h hr hv hl w hw).mono ?_
        rintro e w' ⟨_, rfl, hk⟩
        exact ⟨rfl, hk⟩
      · rw [refF_bad h]
        obtain ⟨pv, cv, rfl, _⟩ := SlV.cells hv
        refine (Plan_bad W Ls l s _ c h w hw).mono ?_
        rintro e w' ⟨_, rfl, hk⟩
        exact ⟨rfl, hk⟩
    intro w hw
    refine (key w hw).mono ?_
    rintro e w' ⟨rfl, hk⟩
    exact ⟨⟨⟨⟨0, [], [], []⟩, ⟨none, none, none, ⟨rfl, rfl⟩, ⟨rfl, rfl⟩, ⟨rfl, rfl⟩⟩⟩, ⟨fun h => absurd h hr, fun _ => ⟨rfl, rfl, rfl, rfl⟩, by simp, by simp, by simp⟩⟩, rfl, hk.addNil.addNil.addNil⟩
open Go.Proofs in
theorem alike_any (W : World) (Ls : List Chunk) (r : PRes) (v v' : Value) (h : ∃ a b c : Value, v = .agg #[.int .i64 r.k, a, b, c] ∧ IL (K W Ls) a r.R ∧ IL (K W Ls) b r.S ∧ IL (K W Ls) c r.O) (h' : ∃ a b c : Value, v' = .agg #[.int .i64 r.k, a, b, c] ∧ IL (K W Ls) a r.R ∧ IL (K W Ls) b r.S ∧ IL (K W Ls) c r.O)
    (hl : r.R.length ≤ 100000 ∧ r.S.length ≤ 100000 ∧ r.O.length ≤ 100000) : Spec Try.prog 19 #[v, v'] (K W Ls) (fun _ : Unit => .bool true) (fun _ => K W Ls) := by
  obtain ⟨a, b, c, rfl, h1, h2, h3⟩ := h
  obtain ⟨a', b', c', rfl, g1, g2, g3⟩ := h'
  exact alike_yes W Ls ⟨r.k, a, b, c⟩ ⟨r.k, a', b', c'⟩ r.R.length r.S.length r.O.length (fun i => r.R.getD i 0) (fun i => r.S.getD i 0) (fun i => r.O.getD i 0) rfl ⟨h1, h2, h3⟩ ⟨g1, g2, g3⟩ (by omega) (by omega) (by omega)
end Go.KL
end

section
/- A program logic over the model, of our own: drawn regions, each operation once, whatever has come before it. No program in sight. -/
namespace Go.KL
section
variable {P : Program} {n : Nat} {σ σb : Slots} {W : World} {Ls : List Chunk} {C : World → Prop} {Q : Exit → Act → World → Prop} {o : Oper} {R : Value → World → Prop}
theorem lookK_ne {σ : Slots} {d e : Nat} {v : Value} (h : d ≠ e) : look ((d, v) :: σ) e = look σ e := by
  have : Nat.beq d e = false := by
    cases hb : Nat.beq d e with
    | false => rfl
    | true => exact absurd (Nat.eq_of_beq_eq_true hb) h
  simp only [look, this]
/-- What an operation may do. -/
def Acts (P : Program) (n : Nat) (σ : Slots) (C : World → Prop) (o : Oper) (R : Value → World → Prop) : Prop := ∀ a w, Env n σ a → C w → Out P o a w R
theorem a_y {v : Value} (h : Ylds P n σ C o v) (k : ∀ w, C w → R v w) : Acts P n σ C o R := fun a w hE hw => by
  unfold Out
  rw [h a w hE hw]
  exact k w hw
theorem a_do {X : Type} {v : X → Value} {C' : X → World → Prop} (h : Doos P n σ C o v C') (k : ∀ x w, C' x w → R (v x) w) : Acts P n σ C o R := fun a w hE hw => by
  obtain ⟨x, w', hr, hC⟩ := h a w hE hw
  unfold Out
  rw [hr]
  exact k x w' hC
theorem a_set {C' : World → Prop} (h : Sets P n σ C o C') (k : ∀ w, C' w → R undef w) : Acts P n σ C o R := fun a w hE hw => by
  obtain ⟨w', hr, hC⟩ := h a w hE hw
  unfold Out
  rw [hr]
  exact k w' hC
theorem a_call {X : Type} {v : X → Value} {C' : X → World → Prop} {f : FuncId} {args : Array Value} (he : Enters P n σ C o f args) (hs : Spec P f args C v C') (k : ∀ x w, C' x w → R (v x) w) : Acts P n σ C o R := fun a w hE hw => by
  unfold Out
  rw [he a w hE hw]
  exact (hs w hw).mono fun e w' ⟨x, h1, h2⟩ => ⟨v x, h1, k x w' h2⟩
theorem Acts.cls {C' : World → Prop} (h : Acts P n σ C' o R) (hC : ∀ w, C w → C' w) : Acts P n σ C o R := fun a w hE hw => h a w hE (hC w hw)

/-- An operation's value, and memory of its own, as ghosts. -/
abbrev VC := Value × Chunk
abbrev Fact := List Chunk → Value → Chunk → Prop
def factAt (F : List Fact) (i : Nat) : Fact := F.getD i fun _ _ _ => True
def MonoF : List Fact → Prop
  | [] => True
  | f :: r => (∀ M N v c, f N v c → f (M ++ N) v c) ∧ MonoF r
theorem MonoF.at : ∀ {F : List Fact}, MonoF F → ∀ i M N v c, factAt F i N v c → factAt F i (M ++ N) v c
  | [], _, _, _, _, _, _, _ => trivial
  | _ :: _, h, 0, M, N, v, c, hf => h.1 M N v c hf
  | _ :: r, h, i + 1, M, N, v, c, hf => MonoF.at (F := r) h.2 i M N v c hf
/-- What is known of the operations that this one waits for. -/
def WithDeps (s : Nat → Option VC) (F : List Fact) (N : List Chunk) : List (Nat × Nat) → Slots → (Slots → Prop) → Prop
  | [], σ, k => k σ
  | (p, d) :: r, σ, k => ∀ v c, s p = some (v, c) → factAt F p N v c → WithDeps s F N r ((d, v) :: σ) k
def noneOf (dl0 : List (List (Nat × Nat))) (s : Nat → Option VC) (i : Nat) : Prop := ∀ q, ((dl0.getD q []).any fun pd => Nat.beq pd.1 i) = true → s q = none
def Steps (P : Program) (n : Nat) (W : World) (σb : Slots) (B : (Nat → Option VC) → List Chunk) (F : List Fact) (dl0 : List (List (Nat × Nat))) : List Oper → List (List (Nat × Nat)) → Nat → Prop
  | [], _, _ => True
  | o :: r, dl, i => (∀ s N, s i = none → noneOf dl0 s i → WithDeps s F N (dl.headD []) σb fun σ => Acts P n σ (K W (B s ++ N)) o fun u w' => ∃ M c, K W (B (upd s i (some (u, c))) ++ (M ++ N)) w' ∧ factAt F i (M ++ N) u c) ∧ Steps P n W σb B F dl0 r dl.tail (i + 1)
theorem Steps.at {B : (Nat → Option VC) → List Chunk} {F : List Fact} {dl0 : List (List (Nat × Nat))} : ∀ {l : List Oper} {dl : List (List (Nat × Nat))} {k : Nat}, Steps P n W σb B F dl0 l dl k → ∀ j o, l[j]? = some o →
    ∀ s N, s (k + j) = none → noneOf dl0 s (k + j) → WithDeps s F N (dl.getD j []) σb fun σ => Acts P n σ (K W (B s ++ N)) o fun u w' => ∃ M c, K W (B (upd s (k + j) (some (u, c))) ++ (M ++ N)) w' ∧ factAt F (k + j) (M ++ N) u c
  | [], _, _, _, j, o, hj => by simp at hj
  | o' :: r, dl, k, h, 0, o, hj => by
    simp only [List.getElem?_cons_zero, Option.some.injEq] at hj
    subst hj
    have := h.1
    cases dl <;> exact this
  | o' :: r, dl, k, h, j + 1, o, hj => by
    have h1 := Steps.at h.2 j o (by simpa using hj)
    rw [show k + 1 + j = k + (j + 1) by omega] at h1
    cases dl <;> exact h1
def dstL (l : List Oper) (i : Nat) : Option Nat := (l[i]?).bind (·.dst)
def noDup : List Oper → Bool
  | [] => true
  | o :: r => (match o.dst with
    | none => true
    | some d => r.all fun o' => match o'.dst with
      | none => true
      | some d' => !(Nat.beq d d')) && noDup r
def opB (n : Nat) (σb : Slots) (bef : Nat) (l : List Oper) (i : Nat) (o : Oper) (dl : List (Nat × Nat)) : Bool :=
  (match o.guard with
    | none => true
    | some _ => false) && (o.after.toList.all fun e => !(Region.binds .any e) || Nat.blt e.on i) &&
  (match o.dst with
    | none => true
    | some d => Nat.blt d n && (look σb d).isNone) &&
  dl.all fun pd => bef.testBit pd.1 && (match dstL l pd.1 with
    | some d => Nat.beq d pd.2
    | none => false)
def opsB (n : Nat) (σb : Slots) (bef : Array Nat) (l : List Oper) : List Oper → List (List (Nat × Nat)) → Nat → Bool
  | [], _, _ => true
  | o :: r, dl, i => opB n σb (bef.getD i 0) l i o (dl.headD []) && opsB n σb bef l r dl.tail (i + 1)
theorem opsB.at {bef : Array Nat} {l0 : List Oper} : ∀ {l : List Oper} {dl : List (List (Nat × Nat))} {k : Nat}, opsB n σb bef l0 l dl k = true → ∀ j o, l[j]? = some o → opB n σb (bef.getD (k + j) 0) l0 (k + j) o (dl.getD j []) = true
  | [], _, _, _, j, o, hj => by simp at hj
  | o' :: r, dl, k, h, 0, o, hj => by
    simp only [List.getElem?_cons_zero, Option.some.injEq] at hj
    subst hj
    have := (Bool.and_eq_true_iff.1 h).1
    cases dl <;> exact this
  | o' :: r, dl, k, h, j + 1, o, hj => by
    have h1 := opsB.at (Bool.and_eq_true_iff.1 h).2 j o (by simpa using hj)
    rw [show k + 1 + j = k + (j + 1) by omega] at h1
    cases dl <;> exact h1
theorem noDup.at : ∀ {l : List Oper}, noDup l = true → ∀ i j d, dstL l i = some d → dstL l j = some d → i = j
  | [], _, i, _, d, hi, _ => by simp [dstL] at hi
  | o :: r, h, i, j, d, hi, hj => by
    obtain ⟨h1, h2⟩ := Bool.and_eq_true_iff.1 h
    have key : ∀ j, dstL (o :: r) 0 = some d → dstL (o :: r) (j + 1) = some d → False := by
      intro j h0 hj
      have h0' : o.dst = some d := by simpa [dstL] using h0
      rw [h0'] at h1
      simp only [dstL, List.getElem?_cons_succ] at hj
      cases hr : r[j]? with
      | none => rw [hr] at hj; simp at hj
      | some o' =>
        rw [hr] at hj
        have hd' : o'.dst = some d := by simpa using hj
        have := List.all_eq_true.1 h1 o' (List.mem_of_getElem? hr)
        rw [hd'] at this
        simp [Nat.beq_refl] at this
    match i, j with
    | 0, 0 => rfl
    | 0, j + 1 => exact (key j hi hj).elim
    | i + 1, 0 => exact (key i hj hi).elim
    | i + 1, j + 1 =>
      have := noDup.at h2 i j d (by simpa [dstL] using hi) (by simpa [dstL] using hj)
      omega
/-- All values. -/
def slotsOf (l : List Oper) (s : Nat → Option VC) (σ : Slots) : Slots := (List.range l.length).foldr (fun i acc => match dstL l i with
  | some d => match s i with
    | some v => (d, v.1) :: acc
    | none => acc
  | none => acc) σ
structure DInv (n : Nat) (σb : Slots) (l : List Oper) (s : Nat → Option VC) (a : Act) : Prop where
  env : Env n σb a
  val : ∀ i d v, s i = some v → dstL l i = some d → d < n ∧ a.tmps.getD d undef = v.1
theorem DInv.cons {l : List Oper} {s : Nat → Option VC} {a : Act} (h : DInv n σb l s a) {σ : Slots} (hE : Env n σ a) {p d : Nat} {v : VC} (hs : s p = some v) (hd : dstL l p = some d) : Env n ((d, v.1) :: σ) a := by
  obtain ⟨h1, h2⟩ := h.val p d v hs hd
  refine ⟨hE.size, hE.defers, ?_⟩
  intro e u hu
  by_cases hb : d = e
  · subst hb
    have : Nat.beq d d = true := Nat.beq_refl d
    simp only [look, this, Option.some.injEq] at hu
    subst hu
    exact h2
  · rw [lookK_ne hb] at hu
    exact hE.at_ e u hu
theorem WithDeps.elim {l : List Oper} {s : Nat → Option VC} {F : List Fact} {N : List Chunk} {a : Act} (hI : DInv n σb l s a) {k : Slots → Prop} : ∀ {dl : List (Nat × Nat)} {σ : Slots}, Env n σ a → WithDeps s F N dl σ k →
    (∀ pd ∈ dl, dstL l pd.1 = some pd.2 ∧ ∃ v, s pd.1 = some v ∧ factAt F pd.1 N v.1 v.2) → ∃ σ', Env n σ' a ∧ k σ'
  | [], σ, hE, h, _ => ⟨σ, hE, h⟩
  | (p, d) :: r, σ, hE, h, hd => by
    obtain ⟨h1, v, h2, h3⟩ := hd (p, d) (by simp)
    exact WithDeps.elim hI (hI.cons hE h2 h1) (h v.1 v.2 h2 h3) fun pd hpd => hd pd (by simp [hpd])
/-- The state between two operations. -/
structure DSt (n : Nat) (σb : Slots) (W : World) (l : List Oper) (B : (Nat → Option VC) → List Chunk) (F : List Fact) (listed : Array Bool) (s : Nat → Option VC) (N : List Chunk) (a : Act) (w : World) : Prop where
  inv : DInv n σb l s a
  sz : listed.size = l.length
  dc : DC l.toArray listed
  som : ∀ i, (s i).isSome = listed.getD i false
  fact : ∀ i v, s i = some v → factAt F i N v.1 v.2
  hk : K W (B s ++ N) w
theorem getD_tf {listed : Array Bool} {i : Nat} (h : listed.getD i true = false) : listed.getD i false = false ∧ i < listed.size := by
  rcases Nat.lt_or_ge i listed.size with h1 | h1
  · simp only [Array.getD_eq_getD_getElem?, Array.getElem?_eq_getElem h1, Option.getD_some] at h ⊢
    exact ⟨h, h1⟩
  · simp [Array.getD_eq_getD_getElem?, Array.getElem?_eq_none h1] at h
theorem drawn_run {l : List Oper} {dl : List (List (Nat × Nat))} {B : (Nat → Option VC) → List Chunk} {F : List Fact} (hB : (noDup l && opsB n σb (Region.before l.toArray) l l dl 0) = true) (hM : MonoF F) (hsteps : Steps P n W σb B F dl l dl 0)
    (hfin : ∀ s N, (∀ i, i < l.length → ∃ v, s i = some v ∧ factAt F i N v.1 v.2) → ∀ a w, DInv n σb l s a → K W (B s ++ N) w → Q .normal a w) :
    ∀ (f : Nat) (listed : Array Bool) (s : Nat → Option VC) (N : List Chunk) (a : Act) (w : World), ((List.range l.length).filter fun i => !listed.getD i true).length ≤ f → DSt n σb W l B F listed s N a w → wpAny P .any l.toArray Q f listed a w := by
  obtain ⟨hB1, hB2⟩ := Bool.and_eq_true_iff.1 hB
  have opAt : ∀ j o, l[j]? = some o → _ := fun j o hj => opsB.at hB2 j o hj
  -- nothing is ready: all is done
  have done : ∀ (listed : Array Bool) (s : Nat → Option VC) (N : List Chunk) (a : Act) (w : World), DSt n σb W l B F listed s N a w → Region.ready .any l.toArray listed = [] → Q .normal a w := by
    intro listed s N a w h hr
    have all : ∀ i, i < l.length → listed.getD i false = true := by
      intro i
      induction i using Nat.strongRecOn with
      | _ i ih =>
        intro hi
        cases hl : listed.getD i false with
        | true => rfl
        | false =>
          exfalso
          have hm : i ∈ Region.ready .any l.toArray listed := by
            rw [mem_ready]
            refine ⟨?_, l[i], by simp [hi], ?_⟩
            · rw [Array.getD_eq_getD_getElem?, Array.getElem?_eq_getElem (by rw [h.sz]; exact hi)] at hl ⊢
              exact hl
            · intro e he hbd
              have h1 := opAt i l[i] (List.getElem?_eq_getElem hi)
              simp only [opB, Bool.and_eq_true] at h1
              have h2 := List.all_eq_true.1 h1.1.1.2 e (by simpa using he)
              rw [hbd] at h2
              have h3 : e.on < i := Nat.blt_eq.mp (by simpa using h2)
              exact ih e.on h3 (by omega)
          rw [hr] at hm
          cases hm
    refine hfin s N (fun i hi => ?_) a w h.inv h.hk
    have := h.som i
    rw [all i hi] at this
    obtain ⟨v, hv⟩ := Option.isSome_iff_exists.1 this
    exact ⟨v, hv, h.fact i v hv⟩
  intro f
  induction f with
  | zero =>
    intro listed s N a w hc h
    have hr : Region.ready .any l.toArray listed = [] := by
      cases hr : Region.ready .any l.toArray listed with
      | nil => rfl
      | cons i r =>
        exfalso
        have hm : i ∈ Region.ready .any l.toArray listed := by rw [hr]; simp
        obtain ⟨h1, o, ho, _⟩ := mem_ready.1 hm
        have hi : i < l.length := by
          have := (Array.getElem?_eq_some_iff.1 ho).1
          simpa using this
        have : i ∈ (List.range l.length).filter fun i => !listed.getD i true := List.mem_filter.2 ⟨List.mem_range.2 hi, by rw [h1]; rfl⟩
        have := List.length_pos_of_mem this
        omega
    exact ⟨hr, done listed s N a w h hr⟩
  | succ f ih =>
    intro listed s N a w hc h
    refine ⟨done listed s N a w h, fun i hi => ?_⟩
    obtain ⟨h1, o, ho, _⟩ := mem_ready.1 hi
    obtain ⟨h1', h1s⟩ := getD_tf h1
    have ho' : l[i]? = some o := by simpa using ho
    have hil : i < l.length := by rw [← h.sz]; exact h1s
    have hop := opAt i o ho'
    simp only [Nat.zero_add] at hop
    simp only [opB, Bool.and_eq_true] at hop
    obtain ⟨⟨⟨hg, _⟩, hdst⟩, hdeps⟩ := hop
    have hPL := ready_PL hi
    have hsi : s i = none := by
      have := h.som i
      rw [h1'] at this
      cases hs : s i with
      | none => rfl
      | some v => rw [hs] at this; simp at this
    have hnone : noneOf dl s i := by
      intro q hq
      cases hsq : s q with
      | none => rfl
      | some v =>
        exfalso
        have hlq : listed.getD q false = true := by rw [← h.som q, hsq]; rfl
        obtain ⟨pd, hpd, hb⟩ := List.any_eq_true.1 hq
        have hqi : pd.1 = i := Nat.eq_of_beq_eq_true hb
        have hql : q < l.length := by
          rw [← h.sz]
          rcases Nat.lt_or_ge q listed.size with z | z
          · exact z
          · simp [Array.getD_eq_getD_getElem?, Array.getElem?_eq_none z] at hlq
        have h5 := opAt q l[q] (List.getElem?_eq_getElem hql)
        simp only [Nat.zero_add, opB, Bool.and_eq_true] at h5
        have h6 := List.all_eq_true.1 h5.2 pd hpd
        have h7 := anc_listed h.dc pd.1 q q (Nat.le_refl _) (h.dc q hlq) (Bool.and_eq_true_iff.1 h6).1
        rw [hqi, h1'] at h7
        cases h7
    have hst := hsteps.at i o ho' s N (by rw [Nat.zero_add]; exact hsi) (by rw [Nat.zero_add]; exact hnone)
    rw [Nat.zero_add] at hst
    obtain ⟨σ', hE', hact⟩ := WithDeps.elim h.inv h.inv.env hst (fun pd hpd => by
      have := List.all_eq_true.1 hdeps pd hpd
      obtain ⟨t1, t2⟩ := Bool.and_eq_true_iff.1 this
      have hdd : dstL l pd.1 = some pd.2 := by
        cases hd : dstL l pd.1 with
        | none => rw [hd] at t2; cases t2
        | some d => rw [hd] at t2; exact congrArg some (Nat.eq_of_beq_eq_true t2)
      have hls := anc_listed h.dc pd.1 i i (Nat.le_refl _) hPL t1
      have := h.som pd.1
      rw [hls] at this
      obtain ⟨v, hv⟩ := Option.isSome_iff_exists.1 this
      exact ⟨hdd, v, hv, h.fact _ v hv⟩)
    have hwant : Region.wanted o (yielded l.toArray a.tmps) = true := by
      unfold Region.wanted
      cases hgd : o.guard with
      | none => rfl
      | some x => rw [hgd] at hg; cases hg
    unfold wpOp
    simp only [ho]
    rw [if_pos hwant]
    refine .inl ((hact a w hE' h.hk).wp ?_)
    rintro u w' ⟨M, c', hk', hf'⟩
    refine ih _ (upd s i (some (u, c'))) (M ++ N) _ w' ?_ ⟨⟨?_, ?_⟩, by simp [h.sz], h.dc.set hPL, ?_, ?_, hk'⟩
    · have hlt : ((List.range l.length).filter fun j => !(listed.setIfInBounds i true).getD j true).length < ((List.range l.length).filter fun j => !listed.getD j true).length := by
        have e1 : ((List.range l.length).filter fun j => !(listed.setIfInBounds i true).getD j true) = ((List.range l.length).filter fun j => !listed.getD j true).filter fun j => !(Nat.beq j i) := by
          rw [List.filter_filter]
          apply List.filter_congr
          intro j hj
          by_cases hji : i = j
          · subst hji
            simp [Array.getD_eq_getD_getElem?, h1s, Nat.beq_refl]
          · have : Nat.beq j i = false := by
              cases hb : Nat.beq j i with
              | false => rfl
              | true => exact absurd (Nat.eq_of_beq_eq_true hb).symm hji
            rw [getD_set_ne true hji, this]
            simp
        rw [e1]
        have hmem : i ∈ (List.range l.length).filter fun j => !listed.getD j true := List.mem_filter.2 ⟨List.mem_range.2 hil, by rw [h1]; rfl⟩
        exact List.length_filter_lt_length_iff_exists.2 ⟨i, hmem, by simp [Nat.beq_refl]⟩
      omega
    · cases hd : o.dst with
      | none => exact h.inv.env
      | some d =>
        rw [hd] at hdst
        obtain ⟨t1, t2⟩ := Bool.and_eq_true_iff.1 hdst
        have hE2 := h.inv.env.put t1 u
        refine hE2.mono fun e x hx => ?_
        by_cases hb : d = e
        · subst hb
          rw [hx] at t2
          cases t2
        · rw [lookK_ne hb]; exact hx
    · intro j d v hv hjd
      have hjo : ∀ o', l[j]? = some o' → o'.dst = some d → d < n := by
        intro o' ho2 hd2
        have h5 := opAt j o' ho2
        simp only [opB, Bool.and_eq_true] at h5
        have h6 := h5.1.2
        rw [hd2] at h6
        exact Nat.blt_eq.mp (Bool.and_eq_true_iff.1 h6).1
      have hdn : d < n := by
        unfold dstL at hjd
        cases ho2 : l[j]? with
        | none => rw [ho2] at hjd; simp at hjd
        | some o' => rw [ho2] at hjd; exact hjo o' ho2 (by simpa using hjd)
      refine ⟨hdn, ?_⟩
      by_cases hji : j = i
      · subst hji
        have hdo : o.dst = some d := by unfold dstL at hjd; rw [ho'] at hjd; simpa using hjd
        simp only [upd, if_true, Option.some.injEq] at hv
        subst hv
        rw [hdo]
        have : d < a.tmps.size := by rw [h.inv.env.size]; exact hdn
        simp [Act.put, Array.getD, this]
      · rw [upd_ne _ _ hji] at hv
        have h7 := (h.inv.val j d v hv hjd).2
        cases hd : o.dst with
        | none => exact h7
        | some d' =>
          have hne : d' ≠ d := by
            intro e
            subst e
            exact hji (noDup.at hB1 j i d' hjd (by unfold dstL; rw [ho']; simpa using hd))
          rw [← h7]
          simp only [Act.put, Array.getD_eq_getD_getElem?, Array.getElem?_setIfInBounds]
          rw [if_neg hne]
    · intro j
      by_cases hji : j = i
      · subst hji
        simp [upd, Array.getD_eq_getD_getElem?, h1s]
      · rw [upd_ne _ _ hji, getD_set_ne false (Ne.symm hji)]
        exact h.som j
    · intro j v hv
      by_cases hji : j = i
      · subst hji
        simp only [upd, if_true, Option.some.injEq] at hv
        subst hv
        exact hf'
      · rw [upd_ne _ _ hji] at hv
        exact hM.at j M N v.1 v.2 (h.fact j v hv)
/-- A drawn region: the slots behind it, the operations' facts. -/
def AllDeps (s : Nat → Option VC) (F : List Fact) (N : List Chunk) : List (Nat × Nat) → Slots → (Slots → Prop) → Prop := WithDeps s F N
theorem c_drawn {id : Nat} {l : List Oper} (σb : Slots) (dl : List (List (Nat × Nat))) (outs : List (Nat × Nat)) (B : (Nat → Option VC) → List Chunk) (F : List Fact) (N0 : List Chunk) (hm : P.follows .mixedOrders = true)
    (hB : (noDup l && opsB n σb (Region.before l.toArray) l l dl 0) = true) (ho : (outs.all fun pd => match dstL l pd.1 with
      | some d => Nat.beq d pd.2
      | none => false) = true) (hs : sub σ σb) (hC : ∀ w, C w → K W (B (fun _ => none) ++ N0) w) (hM : MonoF F)
    (hsteps : Steps P n W σb B F dl l dl 0)
    (hfin : ∀ s N, (∀ i, i < l.length → ∃ v, s i = some v ∧ factAt F i N v.1 v.2) → WithDeps s F N outs σb fun σ' => Fin n Q .normal σ' (K W (B s ++ N))) : SC P n Q (.region id l.toArray true) σ C := by
  intro a w hE hw
  refine wp_region_any hm ?_
  have hE' := hE.mono (sub_look hs)
  refine drawn_run hB hM hsteps ?_ _ _ (fun _ => none) N0 a _ ?_ ⟨⟨hE', fun i d v hv => (by cases hv)⟩, by simp, fun j hj => ?_, fun i => ?_, fun i v hv => (by cases hv), ?_⟩
  · intro s N hall a' w' hI hk
    obtain ⟨σ', h1, h2⟩ := WithDeps.elim hI hI.env (hfin s N hall) (fun pd hpd => by
      have t2 := List.all_eq_true.1 ho pd hpd
      have hdd : dstL l pd.1 = some pd.2 := by
        cases hd : dstL l pd.1 with
        | none => rw [hd] at t2; cases t2
        | some d => rw [hd] at t2; exact congrArg some (Nat.eq_of_beq_eq_true t2)
      have hlt : pd.1 < l.length := by
        rcases Nat.lt_or_ge pd.1 l.length with q | q
        · exact q
        · unfold dstL at hdd
          rw [List.getElem?_eq_none q] at hdd
          cases hdd
      exact ⟨hdd, hall pd.1 hlt⟩)
    exact h2 a' w' h1 hk
  · refine Nat.le_trans (List.length_filter_le _ _) ?_
    simp
  · simp [Array.getD_eq_getD_getElem?, Array.getElem?_replicate] at hj
    split at hj <;> simp at hj
  · simp [Array.getD_eq_getD_getElem?, Array.getElem?_replicate]
    split <;> rfl
  · exact K.cl _ _ (hC w hw) (Ext.drew w)
end
end Go.KL
end

section
/- The walk of SheetMore. -/
namespace Go.KL
open Go.Proofs
def revC (cs : List (Int × Int)) (z : Nat) : List (Int × Int) := (List.range z).map fun i => cs.getD (cs.length - 1 - i) (0, 0)
theorem revC_len (cs : List (Int × Int)) (z : Nat) : (revC cs z).length = z := by simp [revC]
theorem revC_succ (cs : List (Int × Int)) (z : Nat) : revC cs (z + 1) = revC cs z ++ [cs.getD (cs.length - 1 - z) (0, 0)] := by simp [revC, List.range_succ]
theorem revC_mem {cs : List (Int × Int)} {x : Int × Int} : x ∈ revC cs cs.length ↔ x ∈ cs := by
  simp only [revC, List.mem_map, List.mem_range]
  constructor
  · rintro ⟨i, hi, rfl⟩
    exact getD_mem (by omega)
  · intro h
    obtain ⟨i, hi, rfl⟩ := List.getElem_of_mem h
    exact ⟨cs.length - 1 - i, by omega, by rw [List.getD_eq_getElem?_getD, List.getElem?_eq_getElem (by omega)]; simp [show cs.length - 1 - (cs.length - 1 - i) = i by omega]⟩
theorem CL.vw {cs : List (Int × Int)} : KL.vw 2 cs.length (fun i j => .int .i64 (sel (cs.getD i (0, 0)) j)) = cvals cs := rfl
theorem cvals_append (a b : List (Int × Int)) : cvals (a ++ b) = cvals a ++ cvals b := by
  have : ∀ cs : List (Int × Int), cvals cs = cs.flatMap fun x => [.int .i64 x.1, .int .i64 x.2] := by
    intro cs
    induction cs using rev_ind with
    | h0 => rfl
    | h1 l x ih => rw [← cvals_snoc, ih]; simp
  rw [this, this, this]
  simp
/-- A repair as a value. -/
def PV (C : World → Prop) (l : Lay) (s : Int) (cs : List (Int × Int)) (c : Cos) (v : Value) : Prop := ∃ (r : PRes) (a b d : Value), v = .agg #[.int .i64 r.k, a, b, d] ∧ PR l s cs c r ∧ IL C a r.R ∧ IL C b r.S ∧ IL C d r.O
def PT (C : World → Prop) (l : Lay) (s : Int) (cs : List (Int × Int)) (c : Cos) (v : Value) : Prop := ∃ u, v = .tuple #[u, .int .i64 (refF l s cs c [])] ∧ PV C l s cs c u
theorem PV.cls {C D : World → Prop} {l : Lay} {s : Int} {cs : List (Int × Int)} {c : Cos} {v : Value} (h : PV C l s cs c v) (hC : ∀ w, D w → C w) : PV D l s cs c v := by
  obtain ⟨r, a, b, d, h1, h2, h3, h4, h5⟩ := h
  exact ⟨r, a, b, d, h1, h2, h3.cls hC, h4.cls hC, h5.cls hC⟩
theorem PT.cls {C D : World → Prop} {l : Lay} {s : Int} {cs : List (Int × Int)} {c : Cos} {v : Value} (h : PT C l s cs c v) (hC : ∀ w, D w → C w) : PT D l s cs c v := by
  obtain ⟨u, h1, h2⟩ := h
  exact ⟨u, h1, h2.cls hC⟩
theorem K.back {W w : World} {M N : List Chunk} (h : K W (M ++ N) w) : K W N w := h.weak M.flatten (by simp [List.perm_append_comm])
theorem prV_pv {W : World} {Ls : List Chunk} {l : Lay} {s : Int} {cs : List (Int × Int)} {c : Cos} {r : PRes} (o : POw r) (h : PR l s cs c r) : PV (K W (prL r o Ls)) l s cs c (prV r o) :=
  ⟨r, _, _, _, rfl, h, IL.oc 2 rfl o.hR, IL.oc 0 rfl o.hS, IL.oc 1 rfl o.hO⟩
def blkP : Value → Nat
  | .pointer (some a) => a.block
  | _ => 0
/-- The box of a repair within a drawn region. -/
def bxR (al st res : Option VC) : Chunk := match al with
  | none => []
  | some p => [(blkP p.1, row 32 (match st with
    | none => [.int .i64 0, nilS, nilS, nilS]
    | some _ => match res with
      | none => [.int .i64 0, nilS, nilS, nilS]
      | some v => v.1.cells.toList))]
theorem bxR_none (a r : Option VC) : bxR a none r = bxR a none none := by cases a <;> rfl
/-- The list that is built within a drawn region. -/
def appC (a2 a4 a7 : Option VC) : Chunk := match a7 with
  | some _ => []
  | none => match a4 with
    | some v => v.2
    | none => match a2 with
      | some v => v.2
      | none => []
theorem K.toNd {W w : World} {A : Chunk} {B N : List Chunk} (h : K W ((A :: B) ++ N) w) : K W (([] :: B) ++ ([A] ++ N)) w :=
  h.weak [] (by simp only [List.flatten_append, List.flatten_cons, List.flatten_nil, List.append_nil, List.nil_append, List.append_assoc]; exact List.perm_append_comm_assoc _ _ _)
theorem K.toN {W w : World} {A : Chunk} {B N : List Chunk} (h : K W ((A :: B) ++ N) w) : K W (([] :: B) ++ ([A] ++ N)) w :=
  h.weak [] (by simp only [List.flatten_append, List.flatten_cons, List.flatten_nil, List.append_nil, List.nil_append, List.append_assoc]; exact List.perm_append_comm_assoc _ _ _)
theorem K.toM {W w : World} {M B N : List Chunk} (h : K W (M ++ (B ++ N)) w) : K W (B ++ (M ++ N)) w :=
  h.weak [] (by simp only [List.flatten_append, List.append_nil]; exact List.perm_append_comm_assoc _ _ _)
theorem K.fore {W w : World} {M N : List Chunk} (h : K W (M ++ N) w) : K W M w := h.weak N.flatten (by simp)
theorem K.pick {W w : World} {x : Chunk} {A : Chunk} {X N : List Chunk} (h : K W (([A, x] ++ X) ++ N) w) : K W (x :: (X ++ N)) w := K.tail (c := A) h
theorem c_then_cut {P : Program} {n : Nat} {σ : Slots} {C : World → Prop} {Q : Exit → Act → World → Prop} {x y : Code} {α : Type} (τ : α → Slots) (J : α → Prop) (I : α → World → Prop)
    (hx : SC P n (Exit.then (fun a w => ∃ z, Env n (τ z) a ∧ (J z ∧ I z w)) Q) x σ C)
    (hy : ∀ z, J z → SC P n Q y (τ z) (I z)) : SC P n (Then P y Q) x σ C := fun a w hE hw => wp_mono (hx a w hE hw) fun e a w q => by
    cases e with
    | normal => obtain ⟨z, h1, h2, h3⟩ := q; exact hy z h2 a w h1 h3
    | exit _ => exact q
    | goto _ => exact q
    | ret => exact q
    | panic _ => exact q
    | outgrown => exact q
attribute [local irreducible] SC St Fin Sq Sw Ylds Doos Sets Enters Spec CellIs CellsAre Then Ret Rnd Chn resOK ints bools recs arr
set_option maxRecDepth 10000 in
set_option maxHeartbeats 40000000 in
theorem sheetMore_walk (W : World) (l : Lay) (s : Int) (v : Value) (cs : List (Int × Int)) (hv : CL (K W []) v cs) (c : Cos) (xa xb : Int) : Spec Try.prog 5 #[l.v, .int .i64 s, v, c.v, cellV xa xb] (K W []) (fun _ : Unit => .bool true) (fun _ => K W []) := by
  obtain ⟨pa, ca, rfl, hca, hcs⟩ := hv.open
  by_cases hm : cs.length ≤ 500
  rotate_left
  · refine enter (args := [_, _, _, _, _]) Try.func5 rfl Try.ntmps5 rfl ?_
    refine c_seq ?_
    refine c_region ?_
    refine s_do (do_box rfl) rfl rfl rfl (fun b5 => ?_)
    refine s_do (do_box rfl) rfl rfl rfl (fun b8 => ?_)
    refine s_do (do_box rfl) rfl rfl rfl (fun b9 => ?_)
    refine s_y (y_assign rfl) rfl rfl rfl ?_
    refine s_nil ?_
    refine f_then ?_
    refine c_seq ?_
    refine c_seq ?_
    refine c_region ?_
    refine s_y (y_move rfl) rfl rfl rfl ?_
    refine s_y (y_len Try.tab rfl rfl) rfl rfl rfl ?_
    refine s_y (y_T (y_gtr rfl rfl) (by omega)) rfl rfl rfl ?_
    refine s_nil ?_
    refine f_then ?_
    refine c_condT rfl ?_
    refine c_seq ?_
    refine c_region ?_
    refine s_call (en_f rfl Try.call15) (awake_spec W _) rfl rfl rfl (fun _ => ?_)
    refine s_y (y_assign rfl) rfl rfl rfl ?_
    refine s_nil ?_
    refine f_then ?_
    refine c_ret ?_
    refine f_thenR ?_
    exact f_ret () (res1 rfl rfl) (fun w h => h.any)
  refine enter (args := [_, _, _, _, _]) Try.func5 rfl Try.ntmps5 rfl ?_
  refine c_seq ?_
  refine c_region ?_
  refine s_do (do_box rfl) rfl rfl rfl (fun b5 => ?_)
  refine s_do (do_box rfl) rfl rfl rfl (fun b8 => ?_)
  refine s_do (do_box rfl) rfl rfl rfl (fun b9 => ?_)
  refine s_y (y_assign rfl) rfl rfl rfl ?_
  refine s_nil ?_
  refine f_then ?_
  refine c_seq ?_
  refine c_seq ?_
  refine c_region ?_
  refine s_y (y_move rfl) rfl rfl rfl ?_
  refine s_y (y_len Try.tab rfl rfl) rfl rfl rfl ?_
  refine s_y (y_F (y_gtr rfl rfl) (by omega)) rfl rfl rfl ?_
  refine s_nil ?_
  refine f_then ?_
  refine c_condF rfl ?_
  refine c_skip ?_
  refine f_then ?_
  refine c_seq ?_
  refine c_region ?_
  refine s_y (y_loadA Try.tab rfl rfl rfl rfl (cells_row0 2 rfl rfl)) rfl rfl rfl ?_
  refine s_y (y_move rfl) rfl rfl rfl ?_
  refine s_y (y_move rfl) rfl rfl rfl ?_
  refine s_y (y_loadA Try.tab rfl rfl rfl rfl (cells_row0 1 rfl rfl)) rfl rfl rfl ?_
  have hv2 : CL (K W ([(b9, row 37 (cellV xa xb).cells.toList)] :: spT b5 b8 l c [])) (.slice pa cs.length ca) cs := hv.cls fun w h => h.any
  refine s_call (en_f rfl Try.call18) (plan_any W ([(b9, row 37 (cellV xa xb).cells.toList)] :: spT b5 b8 l c []) l s _ cs c hv2 (by omega)) rfl rfl rfl (fun x => ?_)
  obtain ⟨⟨r, o⟩, hr⟩ := x
  dsimp only at hr ⊢
  refine s_y (y_move rfl) rfl rfl rfl ?_
  refine s_y (y_extract rfl rfl) rfl rfl rfl ?_
  refine s_y (y_extract rfl rfl) rfl rfl rfl ?_
  refine s_do (do_alloc Try.tab rfl) rfl rfl rfl (fun b11 => ?_)
  refine s_set (set_box Try.tab 0 rfl rfl (by cases o.oR <;> cases o.oS <;> cases o.oO <;> rfl) rfl rfl rfl rfl) rfl rfl ?_
  refine s_y (y_assign rfl) rfl rfl rfl ?_
  refine s_nil ?_
  refine f_then ?_
  refine c_seq ?_
  refine c_region ?_
  refine s_y (y_assign rfl) rfl rfl rfl ?_
  refine s_nil ?_
  refine f_then ?_
  refine c_seq ?_
  refine c_seq ?_
  refine c_region ?_
  refine s_y (y_move rfl) rfl rfl rfl ?_
  refine s_y (y_len Try.tab rfl rfl) rfl rfl rfl ?_
  refine s_y (y_sub rfl rfl (by omega)) rfl rfl rfl ?_
  refine s_y (y_assign rfl) rfl rfl rfl ?_
  refine s_nil ?_
  refine f_then ?_
  refine c_block ?_
  refine c_loopP (α := Nat × Option Own) (fun z => [(1, .int .i64 s), (2, .slice pa cs.length ca), (5, .pointer (some ⟨b5, 0, none⟩)), (8, .pointer (some ⟨b8, 0, none⟩)), (9, .pointer (some ⟨b9, 0, none⟩)), (11, .pointer (some ⟨b11, 0, none⟩)), (12, .int .i64 (refF l s cs c [])), (13, ov z.2 z.1), (14, .int .i64 ((cs.length : Int) - 1 - z.1))])
    (fun z => z.1 ≤ cs.length ∧ owfO 2 z.2 z.1 (cvals (revC cs z.1)))
    (fun z => K W (oc 37 z.2 (cvals (revC cs z.1)) :: [(b11, row 32 (prV r o).cells.toList)] :: prL r o ([(b9, row 37 (cellV xa xb).cells.toList)] :: spT b5 b8 l c []))) (fun z => cs.length - z.1) (0, none) ⟨rfl, rfl, rfl, rfl, rfl, rfl, rfl, rfl, by show some (Value.int .i64 ((cs.length : Int) - 1)) = some (Value.int .i64 ((cs.length : Int) - 1 - ((0 : Nat) : Int))); congr 2; omega, trivial⟩ ⟨Nat.zero_le _, rfl, rfl⟩ (fun w h => h.addNil) ?_
  rintro ⟨i, oT⟩ ⟨hi, hoT⟩
  dsimp only at hi hoT ⊢
  refine c_seq ?_
  refine c_seq ?_
  refine c_region ?_
  refine s_y (y_move rfl) rfl rfl rfl ?_
  refine s_y (y_geq rfl rfl) rfl rfl rfl ?_
  refine s_nil ?_
  refine f_then ?_
  refine c_condD rfl (fun hge => ?_) (fun hlt => ?_)
  · obtain ⟨b, q, rfl, hcell⟩ := hcs (by omega)
    have hc1 := (hcell (cs.length - 1 - i) (by omega)).1.cls (C := K W (oc 37 oT (cvals (revC cs i)) :: [(b11, row 32 (prV r o).cells.toList)] :: prL r o ([(b9, row 37 (cellV xa xb).cells.toList)] :: spT b5 b8 l c []))) fun w h => h.any
    have e0 : cs.length - 1 - i = ((cs.length : Int) - 1 - i).toNat := by omega
    have hnx := revC_succ cs i
    have hvs := cvals_snoc (revC cs i) (cs.getD (cs.length - 1 - i) (0, 0)).1 (cs.getD (cs.length - 1 - i) (0, 0)).2
    rw [show ((cs.getD (cs.length - 1 - i) (0, 0)).1, (cs.getD (cs.length - 1 - i) (0, 0)).2) = cs.getD (cs.length - 1 - i) (0, 0) from rfl, ← hnx] at hvs
    generalize hxx : cs.getD (cs.length - 1 - i) (0, 0) = xx at *
    rw [e0] at hc1
    refine c_skip ?_
    refine f_then ?_
    refine c_seq ?_
    refine c_block ?_
    refine c_region ?_
    refine s_y (y_move rfl) rfl rfl rfl ?_
    refine s_y (y_move rfl) rfl rfl rfl ?_
    refine s_y (y_move rfl) rfl rfl rfl ?_
    refine s_y (y_indexAddr (s := 2) Try.tab rfl rfl rfl rfl _ (Int.toNat_of_nonneg (by omega)).symm (by omega)) rfl rfl rfl ?_
    refine s_y (y_loadA Try.tab rfl rfl rfl rfl hc1) rfl rfl rfl ?_
    refine s_do (do_buildSliceS Try.tab ⟨rfl, rfl, rfl, rfl⟩ rfl rfl rfl rfl) rfl rfl rfl (fun b43 => ?_)
    refine s_do (do_appendO Try.tab 1 (s := 2) (by_ := 16) (k := 1) (news := [.int .i64 xx.1, .int .i64 xx.2]) (xs := cvals (revC cs i)) (o := oT) rfl rfl ⟨rfl, rfl, rfl, rfl⟩ rfl rfl lc2 hoT (cells_row0 0 rfl rfl) rfl (by simp [Value.oneCell']) (by omega) (by unfold maxLen; omega) (by omega)) rfl rfl rfl (fun o2 => ?_)
    obtain ⟨o2, ho2⟩ := o2
    dsimp only
    refine s_y (y_assign rfl) rfl rfl rfl ?_
    refine s_nil ?_
    refine f_blockN ?_
    refine f_then ?_
    refine c_region ?_
    refine s_y (y_move rfl) rfl rfl rfl ?_
    refine s_y (y_sub rfl rfl (by omega)) rfl rfl rfl ?_
    refine s_y (y_assign rfl) rfl rfl rfl ?_
    refine s_nil ?_
    rw [hvs] at ho2
    exact f_roundP (i + 1, some o2) ⟨by show i + 1 ≤ _; omega, ho2⟩ (by show cs.length - (i + 1) < cs.length - i; omega) ⟨rfl, rfl, rfl, rfl, rfl, rfl, rfl, rfl, by show some (Value.int .i64 _) = some (Value.int .i64 _); congr 2; simp; omega, trivial⟩ (fun w h => by dsimp only; rw [← hvs]; exact h.tail)
  obtain rfl : i = cs.length := by omega
  refine c_exit ?_
  refine f_thenE ?_
  refine f_rndE ?_
  refine f_blockE ?_
  refine f_then ?_
  refine c_seq ?_
  refine c_then_cut (α := Value × Nat × List Chunk) (fun z => [(1, .int .i64 s), (2, .slice pa cs.length ca), (5, .pointer (some ⟨b5, 0, none⟩)), (8, .pointer (some ⟨b8, 0, none⟩)), (9, .pointer (some ⟨b9, 0, none⟩)), (11, .pointer (some ⟨b11, 0, none⟩)), (12, .int .i64 (refF l s cs c [])), (15, .pointer (some ⟨z.2.1, 0, none⟩)), (16, .int .i64 (refF l s cs c []))])
    (fun z => PV (K W (([(b11, row 32 (prV r o).cells.toList)] :: prL r o ([(b9, row 37 (cellV xa xb).cells.toList)] :: spT b5 b8 l c [])) ++ z.2.2)) l s cs c z.1) (fun z => K W ([(z.2.1, row 32 z.1.cells.toList)] :: (([(b11, row 32 (prV r o).cells.toList)] :: prL r o ([(b9, row 37 (cellV xa xb).cells.toList)] :: spT b5 b8 l c [])) ++ z.2.2))) ?_ ?_
  · have hre : ∀ x, x ∈ revC cs cs.length ++ cs ↔ x ∈ cs := fun x => by rw [List.mem_append, revC_mem, or_self]
    have hrf := refF_ext (l := l) (s := s) (c := c) (R := []) hre
    refine c_drawn [(1, .int .i64 s), (2, .slice pa cs.length ca), (5, .pointer (some ⟨b5, 0, none⟩)), (8, .pointer (some ⟨b8, 0, none⟩)), (9, .pointer (some ⟨b9, 0, none⟩)), (11, .pointer (some ⟨b11, 0, none⟩)), (12, .int .i64 (refF l s cs c [])), (13, ov oT cs.length)]
      [[], [], [], [], [(2, 48), (3, 49)], [], [(0, 46), (1, 47), (4, 50), (5, 51)], [(6, 52)], [(7, 45)], [(7, 45)], [], [(10, 15), (8, 53)], [(9, 54)]] [(10, 15), (12, 16)]
      (fun s => [match s 4 with
        | none => oc 37 oT (cvals (revC cs cs.length))
        | some _ => [], bxR (s 10) (s 11) (s 8)] ++ [(b11, row 32 (prV r o).cells.toList)] :: prL r o ([(b9, row 37 (cellV xa xb).cells.toList)] :: spT b5 b8 l c []))
      [fun _ v _ => v = .agg l.v.cells.toList.toArray, fun _ v _ => v = .int .i64 s, fun _ v _ => v = ov oT cs.length, fun _ v _ => v = .slice pa cs.length ca, fun N v _ => CL (K W N) v (revC cs cs.length ++ cs), fun _ v _ => v = .agg c.v.cells.toList.toArray,
        fun N v _ => PT (K W N) l s (revC cs cs.length ++ cs) c v, fun N v _ => PT (K W N) l s (revC cs cs.length ++ cs) c v, fun N v _ => PV (K W N) l s (revC cs cs.length ++ cs) c v, fun _ v _ => v = .int .i64 (refF l s cs c []), fun _ v _ => ∃ b, v = .pointer (some ⟨b, 0, none⟩), fun _ _ _ => True, fun _ v _ => v = .int .i64 (refF l s cs c [])]
      [] Try.mixed (by kernel_rfl) rfl ⟨rfl, rfl, rfl, rfl, rfl, rfl, rfl, rfl, trivial⟩ (fun w h => h.addNil.fronts [1])
      ⟨fun _ _ _ _ h => h, fun _ _ _ _ h => h, fun _ _ _ _ h => h, fun _ _ _ _ h => h, fun _ _ _ _ h => h.cls fun _ k => k.back, fun _ _ _ _ h => h, fun _ _ _ _ h => h.cls fun _ k => k.back, fun _ _ _ _ h => h.cls fun _ k => k.back, fun _ _ _ _ h => h.cls fun _ k => k.back, fun _ _ _ _ h => h, fun _ _ _ _ h => h, fun _ _ _ _ h => h, fun _ _ _ _ h => h, trivial⟩
      ⟨?_, ?_, ?_, ?_, ?_, ?_, ?_, ?_, ?_, ?_, ?_, ?_, ?_, trivial⟩ ?_
    · intro s' N h0 hn
      exact a_y (y_loadA Try.tab rfl rfl rfl rfl (cells_row0 8 rfl rfl)) fun w h => ⟨[], [], h, rfl⟩
    · intro s' N h0 hn
      exact a_y (y_move rfl) fun w h => ⟨[], [], h, rfl⟩
    · intro s' N h0 hn
      exact a_y (y_move rfl) fun w h => ⟨[], [], h, rfl⟩
    · intro s' N h0 hn
      exact a_y (y_move rfl) fun w h => ⟨[], [], h, rfl⟩
    · rintro s' N h0 hn v2 _ e2 rfl v3 _ e3 rfl
      have hA : ∀ (x : Chunk) (y : Option VC), (match s' 4 with | none => x | some _ => []) = x := fun x y => by rw [h0]
      refine a_do (do_appendVO Try.tab 0 (s := 2) (by_ := 16) (k := cs.length) (m := cs.length) (xs := cvals (revC cs cs.length)) (o := oT) rfl rfl (hv.cls fun w h => h.any) ⟨rfl, rfl, rfl, rfl⟩ rfl (hA _ none) (by simp) hoT (fun i j => rfl) (by unfold maxLen; omega) (by omega)) fun x w h => ?_
      obtain ⟨x, hx⟩ := x
      dsimp only at h
      rw [CL.vw, ← cvals_append] at h hx
      have e1 : cs.length + cs.length = (revC cs cs.length ++ cs).length := by simp [revC_len]
      rw [e1] at hx
      refine ⟨[oc 37 x (cvals (revC cs cs.length ++ cs))], [], K.toN h, ?_⟩
      show CL _ (ov x (cs.length + cs.length)) _
      rw [e1]
      exact CL.oc 0 rfl hx
    · intro s' N h0 hn
      exact a_y (y_loadA Try.tab rfl rfl rfl rfl (cells_row0 7 rfl rfl)) fun w h => ⟨[], [], h, rfl⟩
    · rintro s' N h0 hn v0 _ e0 rfl v1 _ e1 rfl v4 _ e4 f4 v5 _ e5 rfl
      refine a_call (en_f rfl Try.call18) (plan_any W _ l s v4 (revC cs cs.length ++ cs) c ((show CL (K W N) v4 (revC cs cs.length ++ cs) from f4).cls fun w h => h.back) (by simp [revC_len]; omega)) fun x w h => ?_
      obtain ⟨⟨r', o'⟩, hr'⟩ := x
      dsimp only at h
      exact ⟨[oc 3 o'.oS (ivals r'.S), oc 3 o'.oO (ivals r'.O), oc 3 o'.oR (ivals r'.R)], [], K.toM (M := [oc 3 o'.oS (ivals r'.S), oc 3 o'.oO (ivals r'.O), oc 3 o'.oR (ivals r'.R)]) h, _, rfl, prV_pv o' hr'⟩
    · rintro s' N h0 hn v6 _ e6 f6
      exact a_y (y_move rfl) fun w h => ⟨[], [], h, f6⟩
    · rintro s' N h0 hn v6 _ e6 ⟨u, rfl, f6⟩
      have h11 := hn 11 rfl
      refine a_y (y_extract rfl rfl) fun w h => ⟨[], [], ?_, f6⟩
      have e1 : bxR (s' 10) (s' 11) (some (u, [])) = bxR (s' 10) (s' 11) (s' 8) := by rw [h11, bxR_none, bxR_none (s' 10) (s' 8)]
      show K W (([_, bxR (s' 10) (s' 11) (some (u, []))] ++ _) ++ ([] ++ N)) w
      rw [e1]
      exact h
    · rintro s' N h0 hn v6 _ e6 ⟨u, rfl, f6⟩
      exact a_y (y_extract rfl rfl) fun w h => ⟨[], [], h, congrArg _ hrf⟩
    · rintro s' N h0 hn
      have h11 := hn 11 rfl
      refine a_do (do_alloc Try.tab rfl) fun b w h => ⟨[], [], ?_, ⟨b, rfl⟩⟩
      have e1 : bxR (s' 10) (s' 11) (s' 8) = [] := by rw [h0]; rfl
      have e2 : bxR (some (.pointer (some ⟨b, 0, none⟩), [])) (s' 11) (s' 8) = [(b, row 32 [.int .i64 0, nilS, nilS, nilS])] := by rw [h11]; rfl
      show K W (([_, bxR (some (.pointer (some ⟨b, 0, none⟩), [])) (s' 11) (s' 8)] ++ _) ++ ([] ++ N)) w
      rw [e2]
      exact h.fill (i := 1) e1 (by simp)
    · rintro s' N h0 hn v10 _ e10 ⟨b, rfl⟩ v8 _ e8 ⟨r', a1, a2, a3, rfl, q1, q2, q3, q4⟩
      obtain ⟨p1, c1, rfl, _⟩ := IL.open q2
      obtain ⟨p2, c2, rfl, _⟩ := IL.open q3
      obtain ⟨p3, c3, rfl, _⟩ := IL.open q4
      have e1 : bxR (s' 10) (s' 11) (s' 8) = [(b, row 32 [.int .i64 0, nilS, nilS, nilS])] := by rw [h0, e10, e8]; rfl
      refine a_set (set_box Try.tab 1 rfl rfl rfl rfl rfl e1 rfl) fun w h => ⟨[], [], ?_, trivial⟩
      show K W (([_, bxR (s' 10) (some (undef, [])) (s' 8)] ++ _) ++ ([] ++ N)) w
      rw [e10, e8]
      exact h
    · rintro s' N h0 hn v9 _ e9 rfl
      exact a_y (y_assign rfl) fun w h => ⟨[], [], h, rfl⟩
    · intro s' N hall
      rintro v10 _ e10 ⟨b, rfl⟩ v12 _ e12 rfl
      obtain ⟨⟨v4, _⟩, e4, f4⟩ := hall 4 (by decide)
      obtain ⟨⟨v8, _⟩, e8, f8⟩ := hall 8 (by decide)
      obtain ⟨⟨v11, _⟩, e11, _⟩ := hall 11 (by decide)
      have e1 : bxR (s' 10) (s' 11) (s' 8) = [(b, row 32 v8.cells.toList)] := by rw [e10, e11, e8]; rfl
      have hpv : PV (K W N) l s (revC cs cs.length ++ cs) c v8 := f8
      have hpv2 : PV (K W N) l s cs c v8 := by
        obtain ⟨r', a1, a2, a3, q0, q1, q2⟩ := hpv
        obtain rfl := PR.unique hre q1 hr
        exact ⟨r', a1, a2, a3, q0, hr, q2⟩
      refine f_cutP (v8, b, N) (hpv2.cls fun w h => h.back) ⟨rfl, rfl, rfl, rfl, rfl, rfl, rfl, rfl, rfl, trivial⟩ fun w h => ?_
      dsimp only at h ⊢
      rw [e1] at h
      exact K.pick h
  · rintro ⟨u, b15, M⟩ hu
    dsimp only at hu ⊢
    obtain ⟨r', a1, a2, a3, rfl, q1, q2, q3, q4⟩ := hu
    obtain rfl := PR.unique (fun _ => Iff.rfl) q1 hr
    obtain ⟨p1, c1, rfl, _⟩ := IL.open q2
    obtain ⟨p2, c2, rfl, _⟩ := IL.open q3
    obtain ⟨p3, c3, rfl, _⟩ := IL.open q4
    refine c_seq ?_
    refine c_seq ?_
    refine c_region ?_
    refine s_y (y_move rfl) rfl rfl rfl ?_
    refine s_y (y_move rfl) rfl rfl rfl ?_
    refine s_y (y_F (y_neq rfl rfl) (by omega)) rfl rfl rfl ?_
    refine s_y (y_move rfl) rfl rfl rfl ?_
    refine s_y (y_loadA Try.tab rfl rfl rfl rfl (cells_row0 1 rfl rfl)) rfl rfl rfl ?_
    refine s_y (y_loadA Try.tab rfl rfl rfl rfl (cells_row0 0 rfl rfl)) rfl rfl rfl ?_
    refine s_call (en_f rfl Try.call19) (alike_any W _ r' _ _ ⟨_, _, _, rfl, IL.oc 4 rfl o.hR, IL.oc 2 rfl o.hS, IL.oc 3 rfl o.hO⟩ ⟨_, _, _, rfl, q2.cls fun w h => h.tail, q3.cls fun w h => h.tail, q4.cls fun w h => h.tail⟩ (by have := hr.l; omega)) rfl rfl rfl (fun _ => ?_)
    refine s_y (y_notT rfl) rfl rfl rfl ?_
    refine s_y (y_pickF rfl rfl) rfl rfl rfl ?_
    refine s_nil ?_
    refine f_then ?_
    refine c_condF rfl ?_
    refine c_skip ?_
    refine f_then ?_
    refine c_seq ?_
    have hmore : ∀ x ∈ cs, x ∈ cs ++ [(xa, xb)] := fun x hx => List.mem_append_left _ hx
    refine SC.cls (C' := K W ([(b11, row 32 (prV r' o).cells.toList)] :: prL r' o ([(b9, row 37 (cellV xa xb).cells.toList)] :: spT b5 b8 l c []))) ?_ (fun w h => h.tail.fore)
    refine c_then_cut (α := Value × Nat × List Chunk) (fun z => [(11, .pointer (some ⟨b11, 0, none⟩)), (12, .int .i64 (refF l s cs c [])), (17, .pointer (some ⟨z.2.1, 0, none⟩)), (18, .int .i64 (refF l s (cs ++ [(xa, xb)]) c []))])
      (fun z => PV (K W (([(b11, row 32 (prV r' o).cells.toList)] :: prL r' o ([(b9, row 37 (cellV xa xb).cells.toList)] :: spT b5 b8 l c [])) ++ z.2.2)) l s (cs ++ [(xa, xb)]) c z.1) (fun z => K W ([(z.2.1, row 32 z.1.cells.toList)] :: (([(b11, row 32 (prV r' o).cells.toList)] :: prL r' o ([(b9, row 37 (cellV xa xb).cells.toList)] :: spT b5 b8 l c [])) ++ z.2.2))) ?_ ?_
    · refine c_drawn [(1, .int .i64 s), (2, .slice pa cs.length ca), (5, .pointer (some ⟨b5, 0, none⟩)), (8, .pointer (some ⟨b8, 0, none⟩)), (9, .pointer (some ⟨b9, 0, none⟩)), (11, .pointer (some ⟨b11, 0, none⟩)), (12, .int .i64 (refF l s cs c []))]
        [[], [], [], [], [(2, 67), (3, 68)], [], [(5, 70)], [(2, 67), (4, 69), (6, 71)], [], [(0, 65), (1, 66), (7, 72), (8, 73)], [(9, 74)], [(10, 64)], [(10, 64)], [], [(13, 17), (11, 75)], [(12, 76)]] [(13, 17), (15, 18)]
        (fun s => [appC (s 2) (s 4) (s 7), bxR (s 13) (s 14) (s 11)] ++ [(b11, row 32 (prV r' o).cells.toList)] :: prL r' o ([(b9, row 37 (cellV xa xb).cells.toList)] :: spT b5 b8 l c []))
        [fun _ v _ => v = .agg l.v.cells.toList.toArray, fun _ v _ => v = .int .i64 s, fun _ v d => ∃ b, v = .slice (some ⟨b, 0, none⟩) 0 0 ∧ d = [(b, row 37 [])], fun _ v _ => v = .slice pa cs.length ca, fun _ v d => ∃ g : Own, v = osl g cs.length ∧ d = och 37 g (cvals cs) ∧ owfO 2 (some g) cs.length (cvals cs), fun _ v _ => v = .agg (cellV xa xb).cells.toList.toArray,
          fun N v _ => ∃ b, v = .slice (some ⟨b, 0, none⟩) 1 1 ∧ CellsAre (K W N) ⟨b, 0, none⟩ [.int .i64 xa, .int .i64 xb], fun N v _ => CL (K W N) v (cs ++ [(xa, xb)]), fun _ v _ => v = .agg c.v.cells.toList.toArray,
          fun N v _ => PT (K W N) l s (cs ++ [(xa, xb)]) c v, fun N v _ => PT (K W N) l s (cs ++ [(xa, xb)]) c v, fun N v _ => PV (K W N) l s (cs ++ [(xa, xb)]) c v, fun _ v _ => v = .int .i64 (refF l s (cs ++ [(xa, xb)]) c []), fun _ v _ => ∃ b, v = .pointer (some ⟨b, 0, none⟩), fun _ _ _ => True, fun _ v _ => v = .int .i64 (refF l s (cs ++ [(xa, xb)]) c [])]
        [] Try.mixed (by kernel_rfl) rfl ⟨rfl, rfl, rfl, rfl, rfl, rfl, rfl, trivial⟩ (fun w h => h.addNil.addNil)
        ⟨fun _ _ _ _ h => h, fun _ _ _ _ h => h, fun _ _ _ _ h => h, fun _ _ _ _ h => h, fun _ _ _ _ h => h, fun _ _ _ _ h => h, fun _ _ _ _ ⟨b, h1, h2⟩ => ⟨b, h1, h2.cls fun w k => k.back⟩, fun _ _ _ _ h => h.cls fun _ k => k.back, fun _ _ _ _ h => h, fun _ _ _ _ h => h.cls fun _ k => k.back, fun _ _ _ _ h => h.cls fun _ k => k.back, fun _ _ _ _ h => h.cls fun _ k => k.back, fun _ _ _ _ h => h, fun _ _ _ _ h => h, fun _ _ _ _ h => h, fun _ _ _ _ h => h, trivial⟩
        ⟨?_, ?_, ?_, ?_, ?_, ?_, ?_, ?_, ?_, ?_, ?_, ?_, ?_, ?_, ?_, ?_, trivial⟩ ?_
      · intro s' N h0 hn
        exact a_y (y_loadA Try.tab rfl rfl rfl rfl (cells_row0 8 rfl rfl)) fun w h => ⟨[], [], h, rfl⟩
      · intro s' N h0 hn
        exact a_y (y_move rfl) fun w h => ⟨[], [], h, rfl⟩
      · intro s' N h0 hn
        have h4 := hn 4 rfl
        have h7 := hn 7 rfl
        refine a_do (do_buildSliceS Try.tab ⟨rfl, rfl, rfl, rfl⟩ rfl rfl rfl rfl) fun b w h => ⟨[], [(b, row 37 [])], ?_, b, rfl, rfl⟩
        have e1 : appC (s' 2) (s' 4) (s' 7) = [] := by rw [h7, h4, h0]; rfl
        have e2 : appC (some (.slice (some ⟨b, 0, none⟩) 0 0, [(b, row 37 [])])) (s' 4) (s' 7) = [(b, row 37 [])] := by rw [h7, h4]; rfl
        show K W (([appC (some (.slice (some ⟨b, 0, none⟩) 0 0, [(b, row 37 [])])) (s' 4) (s' 7), _] ++ _) ++ ([] ++ N)) w
        rw [e2]
        exact h.fill (i := 0) e1 (by simp)
      · intro s' N h0 hn
        exact a_y (y_move rfl) fun w h => ⟨[], [], h, rfl⟩
      · rintro s' N h0 hn v2 d2 e2 ⟨b, rfl, rfl⟩ v3 _ e3 rfl
        have h7 := hn 7 rfl
        have e1 : appC (s' 2) (s' 4) (s' 7) = [(b, row 37 [])] := by rw [h7, h0, e2]; rfl
        refine a_do (do_appendE (s := 2) (b := b) (k := cs.length) (by_ := 16) Try.tab 0 rfl rfl (hv.cls fun w h => h.any) ⟨rfl, rfl, rfl, rfl⟩ rfl e1 (fun i j => rfl) (by unfold maxLen; omega) (by omega)) fun g w h => ?_
        obtain ⟨g, hg⟩ := g
        dsimp only at h
        rw [CL.vw] at h hg
        refine ⟨[], och 37 g (cvals cs), ?_, g, rfl, rfl, hg⟩
        have e3 : appC (s' 2) (some (osl g cs.length, och 37 g (cvals cs))) (s' 7) = och 37 g (cvals cs) := by rw [h7]; rfl
        show K W (([appC (s' 2) (some (osl g cs.length, och 37 g (cvals cs))) (s' 7), _] ++ _) ++ ([] ++ N)) w
        rw [e3]
        exact h
      · intro s' N h0 hn
        exact a_y (y_loadA Try.tab rfl rfl rfl rfl (cells_row0 6 rfl rfl)) fun w h => ⟨[], [], h, rfl⟩
      · rintro s' N h0 hn v5 d5 e5 rfl
        refine a_do (do_buildSliceS Try.tab ⟨rfl, rfl, rfl, rfl⟩ rfl rfl rfl rfl) fun b w h => ⟨[[(b, row 37 [.int .i64 xa, .int .i64 xb])]], [], K.toM (M := [[(b, row 37 [.int .i64 xa, .int .i64 xb])]]) h, b, rfl, cells_row0 0 rfl rfl⟩
      · rintro s' N h0 hn v2 d2 e2 ⟨b2, rfl, rfl⟩ v4 d4 e4 ⟨g, rfl, rfl, hg⟩ v6 d6 e6 ⟨b, rfl, hb⟩
        have e1 : appC (s' 2) (s' 4) (s' 7) = och 37 g (cvals cs) := by rw [h0, e4]; rfl
        refine a_do (do_append Try.tab 0 (s := 2) (by_ := 16) (k := 1) (news := [.int .i64 xa, .int .i64 xb]) (xs := cvals cs) (o := g) rfl rfl ⟨rfl, rfl, rfl, rfl⟩ rfl e1 hg.1 (hb.cls fun w h => h.back) rfl (by simp [Value.oneCell']) (by unfold maxLen; omega) (by omega)) fun x w h => ?_
        obtain ⟨x, hx⟩ := x
        dsimp only at h
        have hc := cvals_snoc cs xa xb
        rw [hc] at h hx
        have e5 : cs.length + 1 = (cs ++ [(xa, xb)]).length := by simp
        refine ⟨[och 37 x (cvals (cs ++ [(xa, xb)]))], [], K.toN h, ?_⟩
        show CL _ (osl x (cs.length + 1)) _
        rw [e5] at hx ⊢
        exact CL.oc (o := some x) 0 rfl ⟨hx.1, by have := hx.2; have := hg.2; omega⟩
      · intro s' N h0 hn
        exact a_y (y_loadA Try.tab rfl rfl rfl rfl (cells_row0 7 rfl rfl)) fun w h => ⟨[], [], h, rfl⟩
      · rintro s' N h0 hn v0 _ e0 rfl v1 _ e1 rfl v4 _ e4 f4 v5 _ e5 rfl
        refine a_call (en_f rfl Try.call18) (plan_any W _ l s v4 (cs ++ [(xa, xb)]) c ((show CL (K W N) v4 (cs ++ [(xa, xb)]) from f4).cls fun w h => h.back) (by simp; omega)) fun x w h => ?_
        obtain ⟨⟨r2, o2⟩, hr2⟩ := x
        dsimp only at h
        exact ⟨[oc 3 o2.oS (ivals r2.S), oc 3 o2.oO (ivals r2.O), oc 3 o2.oR (ivals r2.R)], [], K.toM (M := [oc 3 o2.oS (ivals r2.S), oc 3 o2.oO (ivals r2.O), oc 3 o2.oR (ivals r2.R)]) h, _, rfl, prV_pv o2 hr2⟩
      · rintro s' N h0 hn v6 _ e6 f6
        exact a_y (y_move rfl) fun w h => ⟨[], [], h, f6⟩
      · rintro s' N h0 hn v6 _ e6 ⟨u, rfl, f6⟩
        have h11 := hn 14 rfl
        refine a_y (y_extract rfl rfl) fun w h => ⟨[], [], ?_, f6⟩
        have e1 : bxR (s' 13) (s' 14) (some (u, [])) = bxR (s' 13) (s' 14) (s' 11) := by rw [h11, bxR_none, bxR_none (s' 13) (s' 11)]
        show K W (([_, bxR (s' 13) (s' 14) (some (u, []))] ++ _) ++ ([] ++ N)) w
        rw [e1]
        exact h
      · rintro s' N h0 hn v6 _ e6 ⟨u, rfl, f6⟩
        exact a_y (y_extract rfl rfl) fun w h => ⟨[], [], h, rfl⟩
      · rintro s' N h0 hn
        have h11 := hn 14 rfl
        refine a_do (do_alloc Try.tab rfl) fun b w h => ⟨[], [], ?_, ⟨b, rfl⟩⟩
        have e1 : bxR (s' 13) (s' 14) (s' 11) = [] := by rw [h0]; rfl
        have e2 : bxR (some (.pointer (some ⟨b, 0, none⟩), [])) (s' 14) (s' 11) = [(b, row 32 [.int .i64 0, nilS, nilS, nilS])] := by rw [h11]; rfl
        show K W (([_, bxR (some (.pointer (some ⟨b, 0, none⟩), [])) (s' 14) (s' 11)] ++ _) ++ ([] ++ N)) w
        rw [e2]
        exact h.fill (i := 1) e1 (by simp)
      · rintro s' N h0 hn v10 _ e10 ⟨b, rfl⟩ v8 _ e8 ⟨r2, a1, a2, a3, rfl, z1, z2, z3, z4⟩
        obtain ⟨p1, c1, rfl, _⟩ := IL.open z2
        obtain ⟨p2, c2, rfl, _⟩ := IL.open z3
        obtain ⟨p3, c3, rfl, _⟩ := IL.open z4
        have e1 : bxR (s' 13) (s' 14) (s' 11) = [(b, row 32 [.int .i64 0, nilS, nilS, nilS])] := by rw [h0, e10, e8]; rfl
        refine a_set (set_box Try.tab 1 rfl rfl rfl rfl rfl e1 rfl) fun w h => ⟨[], [], ?_, trivial⟩
        show K W (([_, bxR (s' 13) (some (undef, [])) (s' 11)] ++ _) ++ ([] ++ N)) w
        rw [e10, e8]
        exact h
      · rintro s' N h0 hn v9 _ e9 rfl
        exact a_y (y_assign rfl) fun w h => ⟨[], [], h, rfl⟩
      · intro s' N hall
        rintro v10 _ e10 ⟨b, rfl⟩ v12 _ e12 rfl
        obtain ⟨⟨v8, _⟩, e8, f8⟩ := hall 11 (by decide)
        obtain ⟨⟨v11, _⟩, e11, _⟩ := hall 14 (by decide)
        have e1 : bxR (s' 13) (s' 14) (s' 11) = [(b, row 32 v8.cells.toList)] := by rw [e10, e11, e8]; rfl
        have hpv : PV (K W N) l s (cs ++ [(xa, xb)]) c v8 := f8
        refine f_cutP (v8, b, N) (hpv.cls fun w h => h.back) ⟨rfl, rfl, rfl, rfl, trivial⟩ fun w h => ?_
        dsimp only at h ⊢
        rw [e1] at h
        exact K.pick h
    · rintro ⟨u, b17, M2⟩ hu
      dsimp only at hu ⊢
      obtain ⟨r2, a1, a2, a3, rfl, z1, z2, z3, z4⟩ := hu
      by_cases g1 : RefOK l s cs c []
      rotate_left
      · have w1 : refF l s cs c [] ≠ 0 := fun e => g1 (refF_0.1 e)
        refine c_seq ?_
        refine c_region ?_
        refine s_y (y_move rfl) rfl rfl rfl ?_
        refine s_y (y_T (y_neq rfl rfl) (by assumption)) rfl rfl rfl ?_
        refine s_y (y_move rfl) rfl rfl rfl ?_
        iterate 2 refine s_skip rfl rfl rfl ?_
        refine s_y (y_pickT rfl rfl) rfl rfl rfl ?_
        refine s_y (y_move rfl) rfl rfl rfl ?_
        iterate 5 refine s_skip rfl rfl rfl ?_
        refine s_y (y_pickT rfl rfl) rfl rfl rfl ?_
        refine s_y (y_move rfl) rfl rfl rfl ?_
        refine s_call (en_f rfl Try.call15) (awake_spec W _) rfl rfl rfl (fun _ => ?_)
        refine s_y (y_pickT rfl rfl) rfl rfl rfl ?_
        refine s_y (y_assign rfl) rfl rfl rfl ?_
        refine s_nil ?_
        refine f_then ?_
        refine c_ret ?_
        exact f_ret () (res1 rfl rfl) (fun w h => h.any)
      have w1 : refF l s cs c [] = 0 := refF_0.2 g1
      by_cases g2 : RefOK l s (cs ++ [(xa, xb)]) c []
      rotate_left
      · have w2 : refF l s (cs ++ [(xa, xb)]) c [] ≠ 0 := fun e => g2 (refF_0.1 e)
        refine c_seq ?_
        refine c_region ?_
        refine s_y (y_move rfl) rfl rfl rfl ?_
        refine s_y (y_F (y_neq rfl rfl) (by omega)) rfl rfl rfl ?_
        refine s_y (y_move rfl) rfl rfl rfl ?_
        refine s_y (y_move rfl) rfl rfl rfl ?_
        refine s_y (y_T (y_neq rfl rfl) (by assumption)) rfl rfl rfl ?_
        refine s_y (y_pickF rfl rfl) rfl rfl rfl ?_
        refine s_y (y_move rfl) rfl rfl rfl ?_
        iterate 5 refine s_skip rfl rfl rfl ?_
        refine s_y (y_pickT rfl rfl) rfl rfl rfl ?_
        refine s_y (y_move rfl) rfl rfl rfl ?_
        refine s_call (en_f rfl Try.call15) (awake_spec W _) rfl rfl rfl (fun _ => ?_)
        refine s_y (y_pickT rfl rfl) rfl rfl rfl ?_
        refine s_y (y_assign rfl) rfl rfl rfl ?_
        refine s_nil ?_
        refine f_then ?_
        refine c_ret ?_
        exact f_ret () (res1 rfl rfl) (fun w h => h.any)
      have w2 : refF l s (cs ++ [(xa, xb)]) c [] = 0 := refF_0.2 g2
      have hge := PR.more hmore hr z1 g1 g2
      refine c_seq ?_
      refine c_region ?_
      refine s_y (y_move rfl) rfl rfl rfl ?_
      refine s_y (y_F (y_neq rfl rfl) (by omega)) rfl rfl rfl ?_
      refine s_y (y_move rfl) rfl rfl rfl ?_
      refine s_y (y_move rfl) rfl rfl rfl ?_
      refine s_y (y_F (y_neq rfl rfl) (by omega)) rfl rfl rfl ?_
      refine s_y (y_pickF rfl rfl) rfl rfl rfl ?_
      refine s_y (y_move rfl) rfl rfl rfl ?_
      refine s_y (y_fieldAddr0 Try.tab rfl rfl rfl rfl rfl) rfl rfl rfl ?_
      refine s_y (y_load Try.tab rfl rfl (cell_row 0 rfl rfl)) rfl rfl rfl ?_
      refine s_y (y_fieldAddr0 Try.tab rfl rfl rfl rfl rfl) rfl rfl rfl ?_
      refine s_y (y_load Try.tab rfl rfl (cell_row 1 rfl rfl)) rfl rfl rfl ?_
      refine s_y (y_T (y_geq rfl rfl) (by assumption)) rfl rfl rfl ?_
      refine s_y (y_pickF rfl rfl) rfl rfl rfl ?_
      refine s_y (y_move rfl) rfl rfl rfl ?_
      refine s_call (en_f rfl Try.call15) (awake_spec W _) rfl rfl rfl (fun _ => ?_)
      refine s_y (y_pickT rfl rfl) rfl rfl rfl ?_
      refine s_y (y_assign rfl) rfl rfl rfl ?_
      refine s_nil ?_
      refine f_then ?_
      refine c_ret ?_
      exact f_ret () (res1 rfl rfl) (fun w h => h.any)
end Go.KL
end

section
/- SheetMore: for every input the law returns true, and its arguments read as they did. No condition. -/
namespace Go.Proofs.Ytalmnckijegplaa
open Go.ChangeShapes Go.WideShapes Go.RowKit Go.KL
set_option linter.unusedVariables false
theorem own : ownKnob Try.prog.godebug = none := by kernel_rfl
set_option maxRecDepth 100000 in
theorem sheetMore_lifted (os : Os) (started : os.Started) (H : Type) (enc : TypeId × Value → H) :
    ReturnsInHanded {} Try.checked os 5 .any (Rows.sheetMoreSpec.pre6 enc Try.prog Try.f5 Rows.sheetMoreRow.domain false) (Rows.sheetMoreSpec.post enc Try.prog Try.f5 false true false false) := by
  refine returnsInHanded_of_change (C := Try.checked) own started (by kernel_rfl) Try.func5
    (ChangeSpec.witness6 (enc := enc) (C := Try.checked) false ⟨#[], #[.agg #[.int .i64 0, .int .i64 0, .int .i64 0, .int .i64 0, .bool false], .int .i64 0, .slice none 0 0, .agg #[.int .i64 0, .int .i64 0, .int .i64 0], .agg #[.int .i64 0, .int .i64 0]], []⟩ 8 (by kernel_rfl) (by kernel_rfl) (by kernel_rfl) (by kernel_rfl)) ?_
  intro W base args ds gs before hval hW hcnd _
  obtain ⟨p, q, hA, hV, rfl, hfz, hnd⟩ := id hW
  obtain ⟨rfl, rfl⟩ := trodVars_none hV
  obtain ⟨v0, vs0, d0, ds0, p0, q0, e0, rfl, rfl, h0, r0⟩ := trodAll_cons hA
  obtain ⟨v1, vs1, d1, ds1, p1, q1, rfl, rfl, rfl, h1, r1⟩ := trodAll_cons r0
  obtain ⟨v2, vs2, d2, ds2, p2, q2, rfl, rfl, rfl, h2, r2⟩ := trodAll_cons r1
  obtain ⟨v3, vs3, d3, ds3, p3, q3, rfl, rfl, rfl, h3, r3⟩ := trodAll_cons r2
  obtain ⟨v4, vs4, d4, ds4, p4, q4, rfl, rfl, rfl, h4, r4⟩ := trodAll_cons r3
  obtain ⟨rfl, rfl, rfl⟩ := trodAll_nil r4
  obtain rfl : args = #[v0, v1, v2, v3, v4] := by cases args; simp_all
  obtain ⟨l0, rfl, hr0, hc0, hm0, hb0⟩ := arg23 (hval 0 23 _ rfl rfl) h0
  obtain ⟨k1, rfl, hk1⟩ := arg3 (hval 1 3 _ rfl rfl) h1
  obtain ⟨m2, g2, hV2, hm2, hg2⟩ := arg24 (hval 2 24 _ rfl rfl) h2
  obtain ⟨c3, rfl, x3, y3, z3⟩ := arg26 (hval 3 26 _ rfl rfl) h3
  obtain ⟨a4, b4, rfl, ha4, hb4⟩ := arg37 (hval 4 37 _ rfl rfl) h4
  refine ((sheetMore_walk W l0 k1 _ _ (CL.of hV2) c3 a4 b4) W (K.refl W)).mono ?_
  rintro e W' ⟨x, rfl, hk⟩
  exact ⟨_, rfl, law_post (t := 4) laidOut (by decide +kernel) rfl rfl u4 hW rfl hk.toExt⟩
/-- The statement. -/
theorem sheetMore_holds : Rows.SheetMoreSaid :=
  OpenClaim.holds_of_wide 5 Try.f5 rfl rfl rfl rfl rfl rfl rfl ⟨rfl, rfl, rfl, rfl, rfl⟩ rfl rfl rfl rfl rfl (by kernel_rfl) Try.func5 (by kernel_rfl)
    (of_decide_eq_true (by kernel_rfl)) (by unfold Func.isWrapper; first | (rw [if_pos (by decide +kernel)]; kernel_rfl) | (rw [if_neg (by decide +kernel)]; exact ⟨rfl, rfl⟩))
    (fun os started H enc _ => sheetMore_lifted os started H enc)
end Go.Proofs.Ytalmnckijegplaa
end
