/- SheetPlans: for every input the law returns true, and its arguments read as they did. No condition. -/
import Derived.Test.YtalmnckijegplaaRows
import Derived.JoinedOf
import Derived.Handed
import Derived.Test.YtalmnckijegplaaL6
section
/- The walk of SheetPlans. -/
namespace Go.KL
open Go.Proofs
def lstC (m : Nat) (g : Nat → Nat → Int) : List (Int × Int) := (List.range m).map fun i => (g i 0, g i 1)
theorem lstC_len (m : Nat) (g : Nat → Nat → Int) : (lstC m g).length = m := by simp [lstC]
theorem CL.of {C : World → Prop} {v : Value} {m : Nat} {g : Nat → Nat → Int} (h : SlV C v m 2 (fun i j => .int .i64 (g i j))) : CL C v (lstC m g) := by
  show SlV C v (lstC m g).length 2 _
  rw [lstC_len]
  refine h.congr fun i hi j hj => ?_
  have : (lstC m g).getD i (0, 0) = (g i 0, g i 1) := by simp [lstC, List.getD_eq_getElem?_getD, hi]
  rw [this]
  rcases (show j = 0 ∨ j = 1 by omega) with rfl | rfl <;> rfl
theorem cvals_vw (cs : List (Int × Int)) : vw 2 cs.length (fun i j => .int .i64 (sel (cs.getD i (0, 0)) j)) = cvals cs := rfl
abbrev spT (b4 b7 : Nat) (l : Lay) (c : Cos) (Ls : List Chunk) : List Chunk := [(b7, row 26 [.int .i64 c.r, .int .i64 c.s, .int .i64 c.o])] :: [(b4, row 23 l.v.cells.toList)] :: Ls
attribute [local irreducible] SC St Fin Sq Sw Ylds Doos Sets Enters Spec CellIs CellsAre Then Ret Rnd Chn resOK ints bools recs arr
theorem alike_0' (W : World) (Ls : List Chunk) : Spec Try.prog 19 #[.agg #[.int .i64 0, nilS, nilS, nilS], .agg #[.int .i64 0, nilS, nilS, nilS]] (K W Ls) (fun _ : Unit => .bool true) (fun _ => K W Ls) :=
  alike_yes W Ls ⟨0, nilS, nilS, nilS⟩ ⟨0, nilS, nilS, nilS⟩ 0 0 0 (fun _ => 0) (fun _ => 0) (fun _ => 0) rfl ⟨SlV.empty, SlV.empty, SlV.empty⟩ ⟨SlV.empty, SlV.empty, SlV.empty⟩ (by omega) (by omega) (by omega)
set_option maxRecDepth 10000 in
set_option maxHeartbeats 40000000 in
theorem sheetPlans_walk (W : World) (l : Lay) (s : Int) (v : Value) (cs : List (Int × Int)) (hv : CL (K W []) v cs) (c : Cos) : Spec Try.prog 3 #[l.v, .int .i64 s, v, c.v] (K W []) (fun _ : Unit => .bool true) (fun _ => K W []) := by
  obtain ⟨pa, ca, rfl, hca, hcs⟩ := hv.open
  by_cases hm : cs.length ≤ 600
  rotate_left
  · refine enter (args := [_, _, _, _]) Try.func3 rfl Try.ntmps3 rfl ?_
    refine c_seq ?_
    refine c_region ?_
    refine s_do (do_box rfl) rfl rfl rfl (fun b4 => ?_)
    refine s_do (do_box rfl) rfl rfl rfl (fun b7 => ?_)
    refine s_y (y_assign rfl) rfl rfl rfl ?_
    refine s_nil ?_
    refine f_then ?_
    refine c_seq ?_
    refine c_seq ?_
    refine c_region ?_
    refine s_y (y_move rfl) rfl rfl rfl ?_
    refine s_y (y_len Try.tab rfl rfl) rfl rfl rfl ?_
    refine s_y (y_T (y_gtr rfl rfl) (by omega)) rfl rfl rfl ?_
    refine s_nil ?_
    refine f_then ?_
    refine c_condT rfl ?_
    refine c_seq ?_
    refine c_region ?_
    refine s_call (en_f rfl Try.call15) (awake_spec W _) rfl rfl rfl (fun _ => ?_)
    refine s_y (y_assign rfl) rfl rfl rfl ?_
    refine s_nil ?_
    refine f_then ?_
    refine c_ret ?_
    refine f_thenR ?_
    exact f_ret () (res1 rfl rfl) (fun w h => h.any)
  refine enter (args := [_, _, _, _]) Try.func3 rfl Try.ntmps3 rfl ?_
  refine c_seq ?_
  refine c_region ?_
  refine s_do (do_box rfl) rfl rfl rfl (fun b4 => ?_)
  refine s_do (do_box rfl) rfl rfl rfl (fun b7 => ?_)
  refine s_y (y_assign rfl) rfl rfl rfl ?_
  refine s_nil ?_
  refine f_then ?_
  refine c_seq ?_
  refine c_seq ?_
  refine c_region ?_
  refine s_y (y_move rfl) rfl rfl rfl ?_
  refine s_y (y_len Try.tab rfl rfl) rfl rfl rfl ?_
  refine s_y (y_F (y_gtr rfl rfl) (by omega)) rfl rfl rfl ?_
  refine s_nil ?_
  refine f_then ?_
  refine c_condF rfl ?_
  refine c_skip ?_
  refine f_then ?_
  refine c_seq ?_
  refine c_region ?_
  refine s_do (do_buildSliceS Try.tab ⟨rfl, rfl, rfl, rfl⟩ rfl rfl rfl rfl) rfl rfl rfl (fun b18 => ?_)
  refine s_y (y_move rfl) rfl rfl rfl ?_
  refine s_do (do_appendE (s := 2) (b := b18) (k := cs.length) (by_ := 16) Try.tab 0 rfl rfl (hv.cls fun w h => h.any) ⟨rfl, rfl, rfl, rfl⟩ rfl rfl (fun i j => rfl) (by unfold maxLen; omega) (by omega)) rfl rfl rfl (fun oI => ?_)
  obtain ⟨oI, hoI⟩ := oI
  dsimp only
  rw [cvals_vw] at hoI ⊢
  refine St.cls (C' := K W (oc 37 (some oI) (cvals cs) :: spT b4 b7 l c [])) ?_ (fun w h => h)
  have hoI2 : owfO 2 (some oI) cs.length (cvals cs) := ⟨hoI.1, hoI.2⟩
  refine s_y (y_assign rfl) rfl rfl rfl ?_
  refine s_nil ?_
  refine f_then ?_
  refine c_seq ?_
  refine c_region ?_
  refine s_y (y_loadA Try.tab rfl rfl rfl rfl (cells_row0 2 rfl rfl)) rfl rfl rfl ?_
  refine s_y (y_move rfl) rfl rfl rfl ?_
  refine s_y (y_move rfl) rfl rfl rfl ?_
  refine s_y (y_loadA Try.tab rfl rfl rfl rfl (cells_row0 1 rfl rfl)) rfl rfl rfl ?_
  have hv2 : CL (K W (oc 37 (some oI) (cvals cs) :: spT b4 b7 l c [])) (.slice pa cs.length ca) cs := hv.cls fun w h => h.any
  refine s_call (en_f rfl Try.call16) (refused_spec W _ l s _ nilS cs c [] hv2 SlV.empty (by omega) (by simp)) rfl rfl rfl (fun _ => ?_)
  by_cases hr : RefOK l s cs c []
  · have hw : refF l s cs c [] = 0 := refF_0.2 hr
    rw [hw]
    refine s_y (y_assign rfl) rfl rfl rfl ?_
    refine s_nil ?_
    refine f_then ?_
    refine c_seq ?_
    refine c_seq ?_
    refine c_region ?_
    refine s_y (y_move rfl) rfl rfl rfl ?_
    refine s_y (y_T (y_eql rfl rfl) (by omega)) rfl rfl rfl ?_
    refine s_y (y_move rfl) rfl rfl rfl ?_
    refine s_y (y_move rfl) rfl rfl rfl ?_
    refine s_call (en_f rfl Try.call17) (sheets_spec W _ _ cs hv2 (by omega)) rfl rfl rfl (fun oD => ?_)
    obtain ⟨oD, hoD⟩ := oD
    dsimp only
    have hDl := asc_len (·.1) cs
    by_cases h9 : (asc (·.1) cs).length ≤ 9
    rotate_left
    · refine s_y (y_lenO Try.tab rfl (by assumption) rfl) rfl rfl rfl ?_
      refine s_y (y_T (y_gtr rfl rfl) (by omega)) rfl rfl rfl ?_
      refine s_y (y_pickT rfl rfl) rfl rfl rfl ?_
      refine s_nil ?_
      refine f_then ?_
      refine c_condT rfl ?_
      refine c_seq ?_
      refine c_region ?_
      refine s_call (en_f rfl Try.call15) (awake_spec W _) rfl rfl rfl (fun _ => ?_)
      refine s_y (y_assign rfl) rfl rfl rfl ?_
      refine s_nil ?_
      refine f_then ?_
      refine c_ret ?_
      refine f_thenR ?_
      exact f_ret () (res1 rfl rfl) (fun w h => h.any)
    refine s_y (y_lenO Try.tab rfl (by assumption) rfl) rfl rfl rfl ?_
    refine s_y (y_F (y_gtr rfl rfl) (by omega)) rfl rfl rfl ?_
    refine s_y (y_pickT rfl rfl) rfl rfl rfl ?_
    refine s_nil ?_
    refine f_then ?_
    refine c_condF rfl ?_
    refine c_skip ?_
    refine f_then ?_
    refine c_seq ?_
    refine c_region ?_
    refine s_y (y_loadA Try.tab rfl rfl rfl rfl (cells_row0 3 rfl rfl)) rfl rfl rfl ?_
    refine s_y (y_move rfl) rfl rfl rfl ?_
    refine s_y (y_move rfl) rfl rfl rfl ?_
    refine s_y (y_loadA Try.tab rfl rfl rfl rfl (cells_row0 2 rfl rfl)) rfl rfl rfl ?_
    refine St.cls (C' := K W (oc 37 (some oI) (cvals cs) :: spT b4 b7 l c [])) ?_ (fun w h => h.tail)
    refine s_call (en_f rfl Try.call18) (plan_spec W (oc 37 (some oI) (cvals cs) :: spT b4 b7 l c []) l s _ cs c hr (CL.oc 0 rfl hoI2) (by omega)) rfl rfl rfl (fun x => ?_)
    obtain ⟨⟨R, oR, oS, oO⟩, hop, hRl, hoR, hoS, hoO⟩ := x
    dsimp only at hop hRl hoR hoS hoO ⊢
    refine s_y (y_move rfl) rfl rfl rfl ?_
    refine s_y (y_extract rfl rfl) rfl rfl rfl ?_
    refine s_y (y_extract rfl rfl) rfl rfl rfl ?_
    refine s_do (do_alloc Try.tab rfl) rfl rfl rfl (fun b11 => ?_)
    refine s_set (set_box Try.tab 0 rfl rfl (by cases oR <;> cases oS <;> cases oO <;> rfl) rfl rfl rfl rfl) rfl rfl ?_
    refine s_y (y_assign rfl) rfl rfl rfl ?_
    refine s_nil ?_
    refine f_then ?_
    refine c_seq ?_
    refine c_seq ?_
    refine c_region ?_
    refine s_y (y_assign rfl) rfl rfl rfl ?_
    refine s_nil ?_
    refine f_then ?_
    refine c_block ?_
    refine c_loopP (α := Nat) (fun z => [(1, .int .i64 s), (2, .slice pa cs.length ca), (4, .pointer (some ⟨b4, 0, none⟩)), (7, .pointer (some ⟨b7, 0, none⟩)), (9, osl oI cs.length), (10, .int .i64 0), (11, .pointer (some ⟨b11, 0, none⟩)), (12, .int .i64 0), (13, .int .i64 z)]) (fun z => z ≤ cs.length) (fun _ => K W ([(b11, row 32 [.int .i64 (costF l s c cs R), ov oR R.length, ov oS (asc (notC l s) (restC R cs)).length, ov oO (asc (bunC l s) (restC R cs)).length])] :: oc 3 oS (ivals (asc (notC l s) (restC R cs))) :: oc 3 oO (ivals (asc (bunC l s) (restC R cs))) :: oc 3 oR (ivals R) :: oc 37 (some oI) (cvals cs) :: spT b4 b7 l c [])) (fun z => cs.length - z) 0 ⟨rfl, rfl, rfl, rfl, rfl, rfl, rfl, rfl, rfl, trivial⟩ (Nat.zero_le _) (fun w h => h) ?_
    rintro i hi
    refine c_seq ?_
    refine c_seq ?_
    refine c_region ?_
    refine s_y (y_move rfl) rfl rfl rfl ?_
    refine s_y (y_move rfl) rfl rfl rfl ?_
    refine s_y (y_len Try.tab rfl rfl) rfl rfl rfl ?_
    refine s_y (y_lss rfl rfl) rfl rfl rfl ?_
    refine s_nil ?_
    refine f_then ?_
    refine c_condD rfl (fun hlt => ?_) (fun hge => ?_)
    · obtain ⟨b, q, rfl, hcell⟩ := hcs (by omega)
      have hc1 := (hcell i (by omega)).1.cls (C := K W ([(b11, row 32 [.int .i64 (costF l s c cs R), ov oR R.length, ov oS (asc (notC l s) (restC R cs)).length, ov oO (asc (bunC l s) (restC R cs)).length])] :: oc 3 oS (ivals (asc (notC l s) (restC R cs))) :: oc 3 oO (ivals (asc (bunC l s) (restC R cs))) :: oc 3 oR (ivals R) :: oc 37 (some oI) (cvals cs) :: spT b4 b7 l c [])) fun w h => h.any
      have hIn : CL (K W ([(b11, row 32 [.int .i64 (costF l s c cs R), ov oR R.length, ov oS (asc (notC l s) (restC R cs)).length, ov oO (asc (bunC l s) (restC R cs)).length])] :: oc 3 oS (ivals (asc (notC l s) (restC R cs))) :: oc 3 oO (ivals (asc (bunC l s) (restC R cs))) :: oc 3 oR (ivals R) :: oc 37 (some oI) (cvals cs) :: spT b4 b7 l c [])) (osl oI cs.length) cs := CL.oc 4 rfl hoI2
      obtain ⟨pn, cn, hvn, _, hcn⟩ := hIn.open
      obtain ⟨bn, qn, rfl, hcelln⟩ := hcn (by omega)
      have hc2 := (hcelln i (by omega)).1
      injection hvn with hvn1 hvn2 hvn3
      injection hvn1 with hvn1
      injection hvn1 with hvn4 hvn5
      subst hvn4
      rw [← hvn5] at hc2
      refine c_skip ?_
      refine f_then ?_
      refine c_seq ?_
      refine c_block ?_
      refine c_seq ?_
      refine c_quiet Try.mixed (by kernel_rfl) K.drew ?_
      refine q_y (y_move rfl) rfl rfl rfl ?_
      refine q_y (y_move rfl) rfl rfl rfl ?_
      refine q_y (y_indexAddr (s := 2) Try.tab rfl rfl rfl rfl _ rfl (by omega)) rfl rfl rfl ?_
      refine q_y (y_loadA Try.tab rfl rfl rfl rfl hc2) rfl rfl rfl ?_
      refine q_y (y_move rfl) rfl rfl rfl ?_
      refine q_y (y_move rfl) rfl rfl rfl ?_
      refine q_y (y_indexAddr (s := 2) Try.tab rfl rfl rfl rfl _ rfl (by omega)) rfl rfl rfl ?_
      refine q_y (y_loadA Try.tab rfl rfl rfl rfl hc1) rfl rfl rfl ?_
      refine q_y (y_F (y_neqCell rfl rfl) (by omega)) rfl rfl rfl ?_
      refine q_nil ?_
      refine f_then ?_
      refine c_condF rfl ?_
      refine c_skip ?_
      refine f_blockN ?_
      refine f_then ?_
      refine c_region ?_
      refine s_y (y_move rfl) rfl rfl rfl ?_
      refine s_y (y_add rfl rfl (by omega)) rfl rfl rfl ?_
      refine s_y (y_assign rfl) rfl rfl rfl ?_
      refine s_nil ?_
      exact f_roundP (i + 1) (by omega) (by omega) ⟨rfl, rfl, rfl, rfl, rfl, rfl, rfl, rfl, rfl, trivial⟩ (fun w h => h)
    refine c_exit ?_
    refine f_thenE ?_
    refine f_rndE ?_
    refine f_blockE ?_
    refine f_then ?_
    refine c_seq ?_
    refine c_seq ?_
    refine c_region ?_
    refine s_y (y_move rfl) rfl rfl rfl ?_
    refine s_y (y_F (y_neq rfl rfl) (by omega)) rfl rfl rfl ?_
    refine s_nil ?_
    refine f_then ?_
    refine c_condF rfl ?_
    refine c_skip ?_
    refine f_then ?_
    refine c_seq ?_
    refine c_plan [.c 0, .c 1, .c 2, .c 3, .c 4, .c 5, .c 6, .c 7, .s 8, .s 9, .c 10, .c 11, .s 12, .c 13, .c 14] [] ((K W ([(b11, row 32 [.int .i64 (costF l s c cs R), ov oR R.length, ov oS (asc (notC l s) (restC R cs)).length, ov oO (asc (bunC l s) (restC R cs)).length])] :: oc 3 oS (ivals (asc (notC l s) (restC R cs))) :: oc 3 oO (ivals (asc (bunC l s) (restC R cs))) :: oc 3 oR (ivals R) :: oc 37 (some oI) (cvals cs) :: spT b4 b7 l c []))) Try.mixed (by kernel_rfl) rfl K.cl ?_
    refine d_c rfl (Qui.ylds (y_move rfl)) rfl rfl rfl (fun _ h => h) K.cl ?_
    refine d_c rfl (Qui.ylds (y_T (y_eql rfl rfl) (by omega))) rfl rfl rfl (fun _ h => h) K.cl ?_
    refine d_c rfl (Qui.ylds (y_move rfl)) rfl rfl rfl (fun _ h => h) K.cl ?_
    refine d_c rfl (Qui.ylds (y_loadA Try.tab rfl rfl rfl rfl (cells_row0 0 rfl rfl))) rfl rfl rfl (fun _ h => h) K.cl ?_
    refine d_c rfl (Qui.ylds (y_loadA Try.tab rfl rfl rfl rfl (cells_row0 6 rfl rfl))) rfl rfl rfl (fun _ h => h) K.cl ?_
    refine d_c rfl (Qui.ylds (y_move rfl)) rfl rfl rfl (fun _ h => h) K.cl ?_
    refine d_c rfl (Qui.ylds (y_move rfl)) rfl rfl rfl (fun _ h => h) K.cl ?_
    refine d_c rfl (Qui.ylds (y_loadA Try.tab rfl rfl rfl rfl (cells_row0 5 rfl rfl))) rfl rfl rfl (fun _ h => h) K.cl ?_
    have hv4 : CL (K W ([(b11, row 32 [.int .i64 (costF l s c cs R), ov oR R.length, ov oS (asc (notC l s) (restC R cs)).length, ov oO (asc (bunC l s) (restC R cs)).length])] :: oc 3 oS (ivals (asc (notC l s) (restC R cs))) :: oc 3 oO (ivals (asc (bunC l s) (restC R cs))) :: oc 3 oR (ivals R) :: oc 37 (some oI) (cvals cs) :: spT b4 b7 l c [])) (.slice pa cs.length ca) cs := hv.cls fun w h => h.any
    refine d_call rfl (en_f rfl Try.call20) (rplan_spec W ([(b11, row 32 [.int .i64 (costF l s c cs R), ov oR R.length, ov oS (asc (notC l s) (restC R cs)).length, ov oO (asc (bunC l s) (restC R cs)).length])] :: oc 3 oS (ivals (asc (notC l s) (restC R cs))) :: oc 3 oO (ivals (asc (bunC l s) (restC R cs))) :: oc 3 oR (ivals R) :: oc 37 (some oI) (cvals cs) :: spT b4 b7 l c []) l s _ cs c R hr.g hr.i hr.c hop hv4 (by omega) h9) rfl rfl rfl (fun _ => K.cl) (fun _ _ _ h => h.tail.tail.tail) (fun x => ?_)
    obtain ⟨⟨oR2, oS2, oO2⟩, hoR2, hoS2, hoO2⟩ := x
    dsimp only at hoR2 hoS2 hoO2 ⊢
    have hrl := restC_len R cs
    have n1 := asc_len (notC l s) (restC R cs)
    have n2 := asc_len (bunC l s) (restC R cs)
    refine d_call rfl (en_f rfl Try.call19) (alike_yes W (oc 3 oS2 (ivals (asc (notC l s) (restC R cs))) :: oc 3 oO2 (ivals (asc (bunC l s) (restC R cs))) :: oc 3 oR2 (ivals R) :: [(b11, row 32 [.int .i64 (costF l s c cs R), ov oR R.length, ov oS (asc (notC l s) (restC R cs)).length, ov oO (asc (bunC l s) (restC R cs)).length])] :: oc 3 oS (ivals (asc (notC l s) (restC R cs))) :: oc 3 oO (ivals (asc (bunC l s) (restC R cs))) :: oc 3 oR (ivals R) :: oc 37 (some oI) (cvals cs) :: spT b4 b7 l c []) ⟨costF l s c cs R, ov oR R.length, ov oS (asc (notC l s) (restC R cs)).length, ov oO (asc (bunC l s) (restC R cs)).length⟩ ⟨costF l s c cs R, ov oR2 R.length, ov oS2 (asc (notC l s) (restC R cs)).length, ov oO2 (asc (bunC l s) (restC R cs)).length⟩ R.length (asc (notC l s) (restC R cs)).length (asc (bunC l s) (restC R cs)).length (fun i => R.getD i 0) (fun i => (asc (notC l s) (restC R cs)).getD i 0) (fun i => (asc (bunC l s) (restC R cs)).getD i 0) rfl ⟨IL.oc 6 rfl hoR, IL.oc 4 rfl hoS, IL.oc 5 rfl hoO⟩ ⟨IL.oc 2 rfl hoR2, IL.oc 0 rfl hoS2, IL.oc 1 rfl hoO2⟩ (by omega) (by omega) (by omega)) rfl rfl rfl (fun _ => K.cl) (fun _ _ _ h => h.tail.tail.tail) (fun _ => ?_)
    refine d_c rfl (Qui.ylds (y_pickT rfl rfl)) rfl rfl rfl (fun _ h => h.tail.tail.tail) K.cl ?_
    refine d_c rfl (Qui.ylds (y_move rfl)) rfl rfl rfl (fun _ h => h.tail.tail.tail) K.cl ?_
    refine d_call rfl (en_f rfl Try.call15) (awake_spec W _) rfl rfl rfl (fun _ => K.cl) (fun _ _ _ h => h.tail.tail.tail) (fun _ => ?_)
    refine d_c rfl (Qui.ylds (y_pickT rfl rfl)) rfl rfl rfl (fun _ h => h.tail.tail.tail) K.cl ?_
    refine d_c rfl (Qui.ylds (y_assign rfl)) rfl rfl rfl (fun _ h => h.tail.tail.tail) K.cl ?_
    refine d_nil ?_
    refine f_then ?_
    refine c_ret ?_
    exact f_ret () (res1 rfl rfl) (fun w h => h.any)
  · have hw : refF l s cs c [] ≠ 0 := fun e => hr (refF_0.1 e)
    refine s_y (y_assign rfl) rfl rfl rfl ?_
    refine s_nil ?_
    refine f_then ?_
    refine c_seq ?_
    refine c_seq ?_
    refine c_region ?_
    refine s_y (y_move rfl) rfl rfl rfl ?_
    refine s_y (y_F (y_eql rfl rfl) (by assumption)) rfl rfl rfl ?_
    refine s_y (y_move rfl) rfl rfl rfl ?_
    iterate 4 refine s_skip rfl rfl rfl ?_
    refine s_y (y_pickF rfl rfl) rfl rfl rfl ?_
    refine s_nil ?_
    refine f_then ?_
    refine c_condF rfl ?_
    refine c_skip ?_
    refine f_then ?_
    refine c_seq ?_
    refine c_region ?_
    refine s_y (y_loadA Try.tab rfl rfl rfl rfl (cells_row0 2 rfl rfl)) rfl rfl rfl ?_
    refine s_y (y_move rfl) rfl rfl rfl ?_
    refine s_y (y_move rfl) rfl rfl rfl ?_
    refine s_y (y_loadA Try.tab rfl rfl rfl rfl (cells_row0 1 rfl rfl)) rfl rfl rfl ?_
    have hplan : Spec Try.prog 18 #[l.v, .int .i64 s, osl oI cs.length, c.v] (K W (oc 37 (some oI) (cvals cs) :: spT b4 b7 l c [])) (fun _ : Unit => .tuple #[.agg #[.int .i64 0, nilS, nilS, nilS], .int .i64 (refF l s cs c [])]) (fun _ => K W (oc 37 (some oI) (cvals cs) :: spT b4 b7 l c [])) := by
      by_cases h : Gd l s
      · exact plan_err W _ l s _ cs c h hr (CL.oc 0 rfl hoI2) (by omega)
      · rw [refF_bad h]; exact Plan_bad W _ l s _ c h
    refine s_call (en_f rfl Try.call18) hplan rfl rfl rfl (fun _ => ?_)
    refine s_y (y_move rfl) rfl rfl rfl ?_
    refine s_y (y_extract rfl rfl) rfl rfl rfl ?_
    refine s_y (y_extract rfl rfl) rfl rfl rfl ?_
    refine s_do (do_alloc Try.tab rfl) rfl rfl rfl (fun b11 => ?_)
    refine s_set (set_box Try.tab 0 rfl rfl rfl rfl rfl rfl rfl) rfl rfl ?_
    refine s_y (y_assign rfl) rfl rfl rfl ?_
    refine s_nil ?_
    refine f_then ?_
    refine c_seq ?_
    refine c_seq ?_
    refine c_region ?_
    refine s_y (y_assign rfl) rfl rfl rfl ?_
    refine s_nil ?_
    refine f_then ?_
    refine c_block ?_
    refine c_loopP (α := Nat) (fun z => [(1, .int .i64 s), (2, .slice pa cs.length ca), (4, .pointer (some ⟨b4, 0, none⟩)), (7, .pointer (some ⟨b7, 0, none⟩)), (9, osl oI cs.length), (10, .int .i64 (refF l s cs c [])), (11, .pointer (some ⟨b11, 0, none⟩)), (12, .int .i64 (refF l s cs c [])), (13, .int .i64 z)]) (fun z => z ≤ cs.length) (fun _ => K W ([(b11, row 32 [.int .i64 0, nilS, nilS, nilS])] :: oc 37 (some oI) (cvals cs) :: spT b4 b7 l c [])) (fun z => cs.length - z) 0 ⟨rfl, rfl, rfl, rfl, rfl, rfl, rfl, rfl, rfl, trivial⟩ (Nat.zero_le _) (fun w h => h) ?_
    rintro i hi
    refine c_seq ?_
    refine c_seq ?_
    refine c_region ?_
    refine s_y (y_move rfl) rfl rfl rfl ?_
    refine s_y (y_move rfl) rfl rfl rfl ?_
    refine s_y (y_len Try.tab rfl rfl) rfl rfl rfl ?_
    refine s_y (y_lss rfl rfl) rfl rfl rfl ?_
    refine s_nil ?_
    refine f_then ?_
    refine c_condD rfl (fun hlt => ?_) (fun hge => ?_)
    · obtain ⟨b, q, rfl, hcell⟩ := hcs (by omega)
      have hc1 := (hcell i (by omega)).1.cls (C := K W ([(b11, row 32 [.int .i64 0, nilS, nilS, nilS])] :: oc 37 (some oI) (cvals cs) :: spT b4 b7 l c [])) fun w h => h.any
      have hIn : CL (K W ([(b11, row 32 [.int .i64 0, nilS, nilS, nilS])] :: oc 37 (some oI) (cvals cs) :: spT b4 b7 l c [])) (osl oI cs.length) cs := CL.oc 1 rfl hoI2
      obtain ⟨pn, cn, hvn, _, hcn⟩ := hIn.open
      obtain ⟨bn, qn, rfl, hcelln⟩ := hcn (by omega)
      have hc2 := (hcelln i (by omega)).1
      injection hvn with hvn1 hvn2 hvn3
      injection hvn1 with hvn1
      injection hvn1 with hvn4 hvn5
      subst hvn4
      rw [← hvn5] at hc2
      refine c_skip ?_
      refine f_then ?_
      refine c_seq ?_
      refine c_block ?_
      refine c_seq ?_
      refine c_quiet Try.mixed (by kernel_rfl) K.drew ?_
      refine q_y (y_move rfl) rfl rfl rfl ?_
      refine q_y (y_move rfl) rfl rfl rfl ?_
      refine q_y (y_indexAddr (s := 2) Try.tab rfl rfl rfl rfl _ rfl (by omega)) rfl rfl rfl ?_
      refine q_y (y_loadA Try.tab rfl rfl rfl rfl hc2) rfl rfl rfl ?_
      refine q_y (y_move rfl) rfl rfl rfl ?_
      refine q_y (y_move rfl) rfl rfl rfl ?_
      refine q_y (y_indexAddr (s := 2) Try.tab rfl rfl rfl rfl _ rfl (by omega)) rfl rfl rfl ?_
      refine q_y (y_loadA Try.tab rfl rfl rfl rfl hc1) rfl rfl rfl ?_
      refine q_y (y_F (y_neqCell rfl rfl) (by omega)) rfl rfl rfl ?_
      refine q_nil ?_
      refine f_then ?_
      refine c_condF rfl ?_
      refine c_skip ?_
      refine f_blockN ?_
      refine f_then ?_
      refine c_region ?_
      refine s_y (y_move rfl) rfl rfl rfl ?_
      refine s_y (y_add rfl rfl (by omega)) rfl rfl rfl ?_
      refine s_y (y_assign rfl) rfl rfl rfl ?_
      refine s_nil ?_
      exact f_roundP (i + 1) (by omega) (by omega) ⟨rfl, rfl, rfl, rfl, rfl, rfl, rfl, rfl, rfl, trivial⟩ (fun w h => h)
    refine c_exit ?_
    refine f_thenE ?_
    refine f_rndE ?_
    refine f_blockE ?_
    refine f_then ?_
    refine c_seq ?_
    refine c_seq ?_
    refine c_region ?_
    refine s_y (y_move rfl) rfl rfl rfl ?_
    refine s_y (y_T (y_neq rfl rfl) (by assumption)) rfl rfl rfl ?_
    refine s_nil ?_
    refine f_then ?_
    refine c_condT rfl ?_
    refine c_seq ?_
    refine c_region ?_
    refine s_y (y_move rfl) rfl rfl rfl ?_
    refine s_y (y_move rfl) rfl rfl rfl ?_
    refine s_y (y_T (y_eql rfl rfl) (by omega)) rfl rfl rfl ?_
    refine s_y (y_move rfl) rfl rfl rfl ?_
    refine s_y (y_loadA Try.tab rfl rfl rfl rfl (cells_row0 0 rfl rfl)) rfl rfl rfl ?_
    refine s_y (y_build Try.tab rfl rfl rfl rfl rfl) rfl rfl rfl ?_
    refine s_call (en_f rfl Try.call19) (alike_0' W _) rfl rfl rfl (fun _ => ?_)
    refine s_y (y_pickT rfl rfl) rfl rfl rfl ?_
    refine s_y (y_move rfl) rfl rfl rfl ?_
    refine s_call (en_f rfl Try.call15) (awake_spec W _) rfl rfl rfl (fun _ => ?_)
    refine s_y (y_pickT rfl rfl) rfl rfl rfl ?_
    refine s_y (y_assign rfl) rfl rfl rfl ?_
    refine s_nil ?_
    refine f_then ?_
    refine c_ret ?_
    refine f_thenR ?_
    exact f_ret () (res1 rfl rfl) (fun w h => h.any)
end Go.KL
end

section
/- SheetPlans: for every input the law returns true, and its arguments read as they did. No condition. -/
namespace Go.Proofs.Ytalmnckijegplaa
open Go.ChangeShapes Go.WideShapes Go.RowKit Go.KL
set_option linter.unusedVariables false
theorem own : ownKnob Try.prog.godebug = none := by kernel_rfl
set_option maxRecDepth 100000 in
theorem sheetPlans_lifted (os : Os) (started : os.Started) (H : Type) (enc : TypeId × Value → H) :
    ReturnsInHanded {} Try.checked os 3 .any (Rows.sheetPlansSpec.pre6 enc Try.prog Try.f3 Rows.sheetPlansRow.domain false) (Rows.sheetPlansSpec.post enc Try.prog Try.f3 false true false false) := by
  refine returnsInHanded_of_change (C := Try.checked) own started (by kernel_rfl) Try.func3
    (ChangeSpec.witness6 (enc := enc) (C := Try.checked) false ⟨#[], #[.agg #[.int .i64 0, .int .i64 0, .int .i64 0, .int .i64 0, .bool false], .int .i64 0, .slice none 0 0, .agg #[.int .i64 0, .int .i64 0, .int .i64 0]], []⟩ 8 (by kernel_rfl) (by kernel_rfl) (by kernel_rfl) (by kernel_rfl)) ?_
  intro W base args ds gs before hval hW hcnd _
  obtain ⟨p, q, hA, hV, rfl, hfz, hnd⟩ := id hW
  obtain ⟨rfl, rfl⟩ := trodVars_none hV
  obtain ⟨v0, vs0, d0, ds0, p0, q0, e0, rfl, rfl, h0, r0⟩ := trodAll_cons hA
  obtain ⟨v1, vs1, d1, ds1, p1, q1, rfl, rfl, rfl, h1, r1⟩ := trodAll_cons r0
  obtain ⟨v2, vs2, d2, ds2, p2, q2, rfl, rfl, rfl, h2, r2⟩ := trodAll_cons r1
  obtain ⟨v3, vs3, d3, ds3, p3, q3, rfl, rfl, rfl, h3, r3⟩ := trodAll_cons r2
  obtain ⟨rfl, rfl, rfl⟩ := trodAll_nil r3
  obtain rfl : args = #[v0, v1, v2, v3] := by cases args; simp_all
  obtain ⟨l0, rfl, hr0, hc0, hm0, hb0⟩ := arg23 (hval 0 23 _ rfl rfl) h0
  obtain ⟨k1, rfl, hk1⟩ := arg3 (hval 1 3 _ rfl rfl) h1
  obtain ⟨m2, g2, hV2, hm2, hg2⟩ := arg24 (hval 2 24 _ rfl rfl) h2
  obtain ⟨c3, rfl, x3, y3, z3⟩ := arg26 (hval 3 26 _ rfl rfl) h3
  refine ((sheetPlans_walk W l0 k1 _ _ (CL.of hV2) c3) W (K.refl W)).mono ?_
  rintro e W' ⟨x, rfl, hk⟩
  exact ⟨_, rfl, law_post (t := 4) laidOut (by decide +kernel) rfl rfl u4 hW rfl hk.toExt⟩
/-- The statement. -/
theorem sheetPlans_holds : Rows.SheetPlansSaid :=
  OpenClaim.holds_of_wide 3 Try.f3 rfl rfl rfl rfl rfl rfl rfl ⟨rfl, rfl, rfl, rfl, rfl⟩ rfl rfl rfl rfl rfl (by kernel_rfl) Try.func3 (by kernel_rfl)
    (of_decide_eq_true (by kernel_rfl)) (by unfold Func.isWrapper; first | (rw [if_pos (by decide +kernel)]; kernel_rfl) | (rw [if_neg (by decide +kernel)]; exact ⟨rfl, rfl⟩))
    (fun os started H enc _ => sheetPlans_lifted os started H enc)
end Go.Proofs.Ytalmnckijegplaa
end
