/- FlowLeast: for every input the law returns true, and its arguments read as they did. No condition. -/
import Derived.Test.YtbeckcilglhkbaaRows
import Derived.JoinedOf
import Derived.Handed
import Derived.Test.YtbeckcilglhkbaaGbL4
section
/- The walk of FlowLeast. -/
namespace Go.KL
open Go.Proofs
attribute [local irreducible] SC St Fin Sq Sw Ylds Doos Sets Enters Spec CellIs CellsAre Then Ret Rnd Chn resOK ints bools recs arr
open Classical in
set_option maxHeartbeats 8000000 in
theorem flowLeast_walk (W : World) (n s t : Int) (va vg : Value) (na m : Nat) (A : Nat → Ac) (g : Nat → Int) (hA : SlA (K W []) va na A) (hG : SlI (K W []) vg m g) :
    Spec Try.prog 13 #[.agg #[.int .i64 n, va, .int .i64 s, .int .i64 t], vg] (K W []) (fun _ : Unit => .bool true) (fun _ => K W []) := by
  obtain ⟨pa, ca, rfl, hca, hcells⟩ := hA.open
  obtain ⟨pg, cg, rfl, hcg, hcG⟩ := hG.open1
  refine enter (args := [_, _]) Try.func13 rfl Try.ntmps13 rfl ?_
  by_cases hfew : fewP n na
  rotate_left
  · refine c_seq ?_
    refine c_region ?_
    refine s_do (do_box rfl) rfl rfl rfl (fun b2 => ?_)
    refine s_y (y_assign rfl) rfl rfl rfl ?_
    refine s_nil ?_
    refine f_then ?_
    refine c_seq ?_
    refine c_seq ?_
    refine c_region ?_
    refine s_y (y_loadA Try.tab rfl rfl rfl rfl (cells_row0 0 rfl rfl)) rfl rfl rfl ?_
    refine s_call (en_f rfl Try.call15) (few_no hfew W _ s t pa ca) rfl rfl rfl (fun _ => ?_)
    refine s_y (y_notF rfl) rfl rfl rfl ?_
    refine s_y (y_move rfl) rfl rfl rfl ?_
    iterate 3 refine s_skip rfl rfl rfl ?_
    refine s_y (y_pickT rfl rfl) rfl rfl rfl ?_
    refine s_nil ?_
    refine f_then ?_
    refine c_condT rfl ?_
    refine c_seq ?_
    refine c_region ?_
    refine s_call (en_f rfl Try.call16) (awake_spec W _) rfl rfl rfl (fun _ => ?_)
    refine s_y (y_assign rfl) rfl rfl rfl ?_
    refine s_nil ?_
    refine f_then ?_
    refine c_ret ?_
    refine f_thenR ?_
    exact f_ret () (res1 rfl rfl) (fun w h => h.any)
  have hfew' := hfew
  unfold fewP at hfew'
  by_cases hN : NetOK n na A s t
  rotate_left
  · refine c_seq ?_
    refine c_region ?_
    refine s_do (do_box rfl) rfl rfl rfl (fun b2 => ?_)
    refine s_y (y_assign rfl) rfl rfl rfl ?_
    refine s_nil ?_
    refine f_then ?_
    refine c_seq ?_
    refine c_seq ?_
    refine c_region ?_
    refine s_y (y_loadA Try.tab rfl rfl rfl rfl (cells_row0 0 rfl rfl)) rfl rfl rfl ?_
    refine s_call (en_f rfl Try.call15) (few_yes hfew W _ s t pa ca) rfl rfl rfl (fun _ => ?_)
    refine s_y (y_notT rfl) rfl rfl rfl ?_
    refine s_y (y_move rfl) rfl rfl rfl ?_
    refine s_y (y_loadA Try.tab rfl rfl rfl rfl (cells_row0 0 rfl rfl)) rfl rfl rfl ?_
    refine s_call (en_f rfl Try.call18) (nv_no hN W _ (.slice pa _ ca) (hA.any _) (by omega)) rfl rfl rfl (fun _ => ?_)
    refine s_y (y_notF rfl) rfl rfl rfl ?_
    refine s_y (y_pickF rfl rfl) rfl rfl rfl ?_
    refine s_nil ?_
    refine f_then ?_
    refine c_condT rfl ?_
    refine c_seq ?_
    refine c_region ?_
    refine s_call (en_f rfl Try.call16) (awake_spec W _) rfl rfl rfl (fun _ => ?_)
    refine s_y (y_assign rfl) rfl rfl rfl ?_
    refine s_nil ?_
    refine f_then ?_
    refine c_ret ?_
    refine f_thenR ?_
    exact f_ret () (res1 rfl rfl) (fun w h => h.any)
  obtain ⟨n, s, t, rfl, rfl, rfl⟩ := hN.nats
  by_cases hok : FlOK n na A s t m g ∧ 0 ≤ more (frN A) (ttN A) g na s
  rotate_left
  · have hv36 : ∀ Ls, Spec Try.prog 36 #[.int .i64 n, .slice pa na ca, .int .i64 s, .int .i64 t, .slice pg m cg] (K W Ls) (fun _ : Unit => .tuple #[.int .i64 (if FlOK n na A s t m g then more (frN A) (ttN A) g na s else 0), .bool false]) (fun _ => K W Ls) := fun Ls => by
      have := rvalue_spec W Ls n s t (.slice pa na ca) (.slice pg m cg) na m A g (hA.any _) (hG.any _) hN
      rwa [decide_eq_false hok] at this
    refine c_seq ?_
    refine c_region ?_
    refine s_do (do_box rfl) rfl rfl rfl (fun b2 => ?_)
    refine s_y (y_assign rfl) rfl rfl rfl ?_
    refine s_nil ?_
    refine f_then ?_
    refine c_seq ?_
    refine c_seq ?_
    refine c_region ?_
    refine s_y (y_loadA Try.tab rfl rfl rfl rfl (cells_row0 0 rfl rfl)) rfl rfl rfl ?_
    refine s_call (en_f rfl Try.call15) (few_yes hfew W _ s t pa ca) rfl rfl rfl (fun _ => ?_)
    refine s_y (y_notT rfl) rfl rfl rfl ?_
    refine s_y (y_move rfl) rfl rfl rfl ?_
    refine s_y (y_loadA Try.tab rfl rfl rfl rfl (cells_row0 0 rfl rfl)) rfl rfl rfl ?_
    refine s_call (en_f rfl Try.call18) (nv_yes hN W _ (.slice pa _ ca) (hA.any _) (by omega)) rfl rfl rfl (fun _ => ?_)
    refine s_y (y_notT rfl) rfl rfl rfl ?_
    refine s_y (y_pickF rfl rfl) rfl rfl rfl ?_
    refine s_nil ?_
    refine f_then ?_
    refine c_condF rfl ?_
    refine c_skip ?_
    refine f_then ?_
    refine c_seq ?_
    refine c_region ?_
    refine s_y (y_fieldAddr0 Try.tab rfl rfl rfl rfl rfl) rfl rfl rfl ?_
    refine s_y (y_load Try.tab rfl rfl (cell_row 0 rfl rfl)) rfl rfl rfl ?_
    refine s_y (y_fieldAddrB Try.tab 1 rfl rfl rfl rfl rfl) rfl rfl rfl ?_
    refine s_y (y_load Try.tab rfl rfl (cell_row 0 rfl rfl)) rfl rfl rfl ?_
    refine s_y (y_fieldAddrB Try.tab 2 rfl rfl rfl rfl rfl) rfl rfl rfl ?_
    refine s_y (y_load Try.tab rfl rfl (cell_row 0 rfl rfl)) rfl rfl rfl ?_
    refine s_y (y_fieldAddrB Try.tab 3 rfl rfl rfl rfl rfl) rfl rfl rfl ?_
    refine s_y (y_load Try.tab rfl rfl (cell_row 0 rfl rfl)) rfl rfl rfl ?_
    refine s_y (y_move rfl) rfl rfl rfl ?_
    refine s_call (en_f rfl Try.call36) (hv36 _) rfl rfl rfl (fun _ => ?_)
    refine s_y (y_move rfl) rfl rfl rfl ?_
    refine s_y (y_extract rfl rfl) rfl rfl rfl ?_
    refine s_y (y_extract rfl rfl) rfl rfl rfl ?_
    refine s_y (y_assign rfl) rfl rfl rfl ?_
    refine s_y (y_assign rfl) rfl rfl rfl ?_
    refine s_nil ?_
    refine f_then ?_
    refine c_seq ?_
    refine c_seq ?_
    refine c_region ?_
    refine s_y (y_move rfl) rfl rfl rfl ?_
    refine s_y (y_notF rfl) rfl rfl rfl ?_
    refine s_nil ?_
    refine f_then ?_
    refine c_condT rfl ?_
    refine c_seq ?_
    refine c_region ?_
    refine s_call (en_f rfl Try.call16) (awake_spec W _) rfl rfl rfl (fun _ => ?_)
    refine s_y (y_assign rfl) rfl rfl rfl ?_
    refine s_nil ?_
    refine f_then ?_
    refine c_ret ?_
    refine f_thenR ?_
    exact f_ret () (res1 rfl rfl) (fun w h => h.any)
  have hv36 : ∀ Ls, Spec Try.prog 36 #[.int .i64 n, .slice pa na ca, .int .i64 s, .int .i64 t, .slice pg m cg] (K W Ls) (fun _ : Unit => .tuple #[.int .i64 (more (frN A) (ttN A) g na s), .bool true]) (fun _ => K W Ls) := fun Ls => by
    have := rvalue_spec W Ls n s t (.slice pa na ca) (.slice pg m cg) na m A g (hA.any _) (hG.any _) hN
    rwa [decide_eq_true hok, if_pos hok.1] at this
  have hgf := hok.1.flw
  obtain ⟨hok1, hok2⟩ := hok
  obtain ⟨z, hz⟩ : ∃ z, z = more (frN A) (ttN A) g na s := ⟨_, rfl⟩
  rw [← hz] at hok2 hv36 hgf
  have hzb := flw_bd hN hgf
  obtain rfl := hok1.len
  have hgb : ∀ i, i < m → (0 ≤ g i ∧ g i ≤ 1073741824) ∧ 0 ≤ cstN A i ∧ cstN A i ≤ 1048576 := fun i hi => by
    have h1 := hok1.bd i hi
    have h2 := hN.arc i hi
    obtain ⟨_, _, _, h3, h4⟩ := h2
    exact ⟨⟨h1.1, Int.le_trans h1.2 h3.2⟩, h4⟩
  have h_n := hN.hn
  refine c_seq ?_
  refine c_region ?_
  refine s_do (do_box rfl) rfl rfl rfl (fun b2 => ?_)
  refine s_y (y_assign rfl) rfl rfl rfl ?_
  refine s_nil ?_
  refine f_then ?_
  refine c_seq ?_
  refine c_seq ?_
  refine c_region ?_
  refine s_y (y_loadA Try.tab rfl rfl rfl rfl (cells_row0 0 rfl rfl)) rfl rfl rfl ?_
  refine s_call (en_f rfl Try.call15) (few_yes hfew W _ s t pa ca) rfl rfl rfl (fun _ => ?_)
  refine s_y (y_notT rfl) rfl rfl rfl ?_
  refine s_y (y_move rfl) rfl rfl rfl ?_
  refine s_y (y_loadA Try.tab rfl rfl rfl rfl (cells_row0 0 rfl rfl)) rfl rfl rfl ?_
  refine s_call (en_f rfl Try.call18) (nv_yes hN W _ (.slice pa _ ca) (hA.any _) (by omega)) rfl rfl rfl (fun _ => ?_)
  refine s_y (y_notT rfl) rfl rfl rfl ?_
  refine s_y (y_pickF rfl rfl) rfl rfl rfl ?_
  refine s_nil ?_
  refine f_then ?_
  refine c_condF rfl ?_
  refine c_skip ?_
  refine f_then ?_
  refine c_seq ?_
  refine c_region ?_
  refine s_y (y_fieldAddr0 Try.tab rfl rfl rfl rfl rfl) rfl rfl rfl ?_
  refine s_y (y_load Try.tab rfl rfl (cell_row 0 rfl rfl)) rfl rfl rfl ?_
  refine s_y (y_fieldAddrB Try.tab 1 rfl rfl rfl rfl rfl) rfl rfl rfl ?_
  refine s_y (y_load Try.tab rfl rfl (cell_row 0 rfl rfl)) rfl rfl rfl ?_
  refine s_y (y_fieldAddrB Try.tab 2 rfl rfl rfl rfl rfl) rfl rfl rfl ?_
  refine s_y (y_load Try.tab rfl rfl (cell_row 0 rfl rfl)) rfl rfl rfl ?_
  refine s_y (y_fieldAddrB Try.tab 3 rfl rfl rfl rfl rfl) rfl rfl rfl ?_
  refine s_y (y_load Try.tab rfl rfl (cell_row 0 rfl rfl)) rfl rfl rfl ?_
  refine s_y (y_move rfl) rfl rfl rfl ?_
  refine s_call (en_f rfl Try.call36) (hv36 _) rfl rfl rfl (fun _ => ?_)
  refine s_y (y_move rfl) rfl rfl rfl ?_
  refine s_y (y_extract rfl rfl) rfl rfl rfl ?_
  refine s_y (y_extract rfl rfl) rfl rfl rfl ?_
  refine s_y (y_assign rfl) rfl rfl rfl ?_
  refine s_y (y_assign rfl) rfl rfl rfl ?_
  refine s_nil ?_
  refine f_then ?_
  refine c_seq ?_
  refine c_seq ?_
  refine c_region ?_
  refine s_y (y_move rfl) rfl rfl rfl ?_
  refine s_y (y_notT rfl) rfl rfl rfl ?_
  refine s_nil ?_
  refine f_then ?_
  refine c_condF rfl ?_
  refine c_skip ?_
  refine f_then ?_
  refine c_seq ?_
  refine c_region ?_
  refine s_y (y_fieldAddr0 Try.tab rfl rfl rfl rfl rfl) rfl rfl rfl ?_
  refine s_y (y_load Try.tab rfl rfl (cell_row 0 rfl rfl)) rfl rfl rfl ?_
  refine s_y (y_fieldAddrB Try.tab 1 rfl rfl rfl rfl rfl) rfl rfl rfl ?_
  refine s_y (y_load Try.tab rfl rfl (cell_row 0 rfl rfl)) rfl rfl rfl ?_
  refine s_y (y_fieldAddrB Try.tab 2 rfl rfl rfl rfl rfl) rfl rfl rfl ?_
  refine s_y (y_load Try.tab rfl rfl (cell_row 0 rfl rfl)) rfl rfl rfl ?_
  refine s_y (y_fieldAddrB Try.tab 3 rfl rfl rfl rfl rfl) rfl rfl rfl ?_
  refine s_y (y_load Try.tab rfl rfl (cell_row 0 rfl rfl)) rfl rfl rfl ?_
  refine s_y (y_move rfl) rfl rfl rfl ?_
  refine s_call (en_f rfl Try.call17) (solve_spec2 W _ n m s t z (.slice pa m ca) A (hA.any _) hN (by omega) (by omega)) rfl rfl rfl (fun x => ?_)
  obtain ⟨v, f, p, po, co, c1, bh, hS, hF⟩ := x
  dsimp only
  have hvz : z = v := by
    have h1 := hS.value hN hgf (Int.le_refl _)
    have h2 := hS.hi
    omega
  subst hvz
  have hle : cst (cstN A) f m ≤ cst (cstN A) g m := cert_least hN hS.flw hS.cert.cert hgf
  have hchk := hS.chk hN
  refine s_y (y_move rfl) rfl rfl rfl ?_
  refine s_y (y_extract rfl rfl) rfl rfl rfl ?_
  refine s_y (y_extract rfl rfl) rfl rfl rfl ?_
  refine s_do (do_alloc Try.tab rfl) rfl rfl rfl (fun b7 => ?_)
  refine s_set (set_box Try.tab 0 rfl rfl rfl rfl rfl rfl rfl) rfl rfl ?_
  refine s_y (y_assign rfl) rfl rfl rfl ?_
  refine s_nil ?_
  refine f_then ?_
  refine c_seq ?_
  refine c_free [] ((K W ([(b7, row 28 [.int .i64 z, .int .i64 (cst (cstN A) f m), .slice po m co, .slice (some ⟨bh, 0, none⟩) n n])] :: c1 :: [(bh, ints 3 n p [])] :: [[(b2, row 24 [.int .i64 n, .slice pa m ca, .int .i64 s, .int .i64 t])]]))) Try.mixed (by kernel_rfl) K.cl ?_
  refine l_c 0 rfl (by kernel_rfl) (Qui.ylds (y_move rfl)) rfl rfl rfl (fun _ h => h) K.cl ?_
  refine l_c 1 rfl (by kernel_rfl) (Qui.ylds (y_T (y_eql rfl rfl) (by omega))) rfl rfl rfl (fun _ h => h) K.cl ?_
  refine l_c 2 rfl (by kernel_rfl) (Qui.ylds (y_move rfl)) rfl rfl rfl (fun _ h => h) K.cl ?_
  refine l_c 3 rfl (by kernel_rfl) (Qui.ylds (y_fieldAddr0 Try.tab rfl rfl rfl rfl rfl)) rfl rfl rfl (fun _ h => h) K.cl ?_
  refine l_c 4 rfl (by kernel_rfl) (Qui.ylds (y_load Try.tab rfl rfl (cell_row 0 rfl rfl))) rfl rfl rfl (fun _ h => h) K.cl ?_
  refine l_c 5 rfl (by kernel_rfl) (Qui.ylds (y_move rfl)) rfl rfl rfl (fun _ h => h) K.cl ?_
  refine l_c 6 rfl (by kernel_rfl) (Qui.ylds (y_T (y_eql rfl rfl) (by omega))) rfl rfl rfl (fun _ h => h) K.cl ?_
  refine l_c 7 rfl (by kernel_rfl) (Qui.ylds (y_pickT rfl rfl)) rfl rfl rfl (fun _ h => h) K.cl ?_
  refine l_c 8 rfl (by kernel_rfl) (Qui.ylds (y_move rfl)) rfl rfl rfl (fun _ h => h) K.cl ?_
  refine l_c 9 rfl (by kernel_rfl) (Qui.ylds (y_fieldAddrB Try.tab 1 rfl rfl rfl rfl rfl)) rfl rfl rfl (fun _ h => h) K.cl ?_
  refine l_c 10 rfl (by kernel_rfl) (Qui.ylds (y_load Try.tab rfl rfl (cell_row 0 rfl rfl))) rfl rfl rfl (fun _ h => h) K.cl ?_
  refine l_c 11 rfl (by kernel_rfl) (Qui.ylds (y_fieldAddrB Try.tab 1 rfl rfl rfl rfl rfl)) rfl rfl rfl (fun _ h => h) K.cl ?_
  refine l_c 12 rfl (by kernel_rfl) (Qui.ylds (y_load Try.tab rfl rfl (cell_row 3 rfl rfl))) rfl rfl rfl (fun _ h => h) K.cl ?_
  refine l_c 13 rfl (by kernel_rfl) (Qui.ylds (y_move rfl)) rfl rfl rfl (fun _ h => h) K.cl ?_
  refine l_c 14 rfl (by kernel_rfl) (Qui.call (en_f rfl Try.call37) (fun w hw => (rcost_spec w [] (.slice pa m ca) (.slice pg m cg) m A g (hA.nowQ hw) (hG.nowQ hw) hN.hna hgb).qui)) rfl rfl rfl (fun _ h => h) K.cl ?_
  refine l_c 15 rfl (by kernel_rfl) (Qui.ylds (y_T (y_leq rfl rfl) (by assumption))) rfl rfl rfl (fun _ h => h) K.cl ?_
  refine l_c 16 rfl (by kernel_rfl) (Qui.ylds (y_pickT rfl rfl)) rfl rfl rfl (fun _ h => h) K.cl ?_
  refine l_c 17 rfl (by kernel_rfl) (Qui.ylds (y_move rfl)) rfl rfl rfl (fun _ h => h) K.cl ?_
  refine l_c 18 rfl (by kernel_rfl) (Qui.ylds (y_fieldAddr0 Try.tab rfl rfl rfl rfl rfl)) rfl rfl rfl (fun _ h => h) K.cl ?_
  refine l_c 19 rfl (by kernel_rfl) (Qui.ylds (y_load Try.tab rfl rfl (cell_row 3 rfl rfl))) rfl rfl rfl (fun _ h => h) K.cl ?_
  refine l_c 20 rfl (by kernel_rfl) (Qui.ylds (y_fieldAddrB Try.tab 1 rfl rfl rfl rfl rfl)) rfl rfl rfl (fun _ h => h) K.cl ?_
  refine l_c 21 rfl (by kernel_rfl) (Qui.ylds (y_load Try.tab rfl rfl (cell_row 3 rfl rfl))) rfl rfl rfl (fun _ h => h) K.cl ?_
  refine l_c 22 rfl (by kernel_rfl) (Qui.ylds (y_fieldAddrB Try.tab 2 rfl rfl rfl rfl rfl)) rfl rfl rfl (fun _ h => h) K.cl ?_
  refine l_c 23 rfl (by kernel_rfl) (Qui.ylds (y_load Try.tab rfl rfl (cell_row 3 rfl rfl))) rfl rfl rfl (fun _ h => h) K.cl ?_
  refine l_c 24 rfl (by kernel_rfl) (Qui.ylds (y_fieldAddrB Try.tab 3 rfl rfl rfl rfl rfl)) rfl rfl rfl (fun _ h => h) K.cl ?_
  refine l_c 25 rfl (by kernel_rfl) (Qui.ylds (y_load Try.tab rfl rfl (cell_row 3 rfl rfl))) rfl rfl rfl (fun _ h => h) K.cl ?_
  refine l_c 26 rfl (by kernel_rfl) (Qui.ylds (y_loadA Try.tab rfl rfl rfl rfl (cells_row0 0 rfl rfl))) rfl rfl rfl (fun _ h => h) K.cl ?_
  refine l_c 27 rfl (by kernel_rfl) (Qui.call (en_f rfl Try.call35) (fun w hw => hchk ▸ (check_spec w [] n s t z _ (.slice pa m ca) (.slice po m co) (.slice (some ⟨bh, 0, none⟩) n n) m m n A f p (hA.nowQ hw) (SlV.now hw ((hF W).cls fun w h => (h.front 1).keep 1)) (SlV.now hw (SlI.own 2 rfl)) (by omega)).qui)) rfl rfl rfl (fun _ h => h) K.cl ?_
  refine l_c 28 rfl (by kernel_rfl) (Qui.ylds (y_T (y_eql rfl rfl) (by omega))) rfl rfl rfl (fun _ h => h) K.cl ?_
  refine l_c 29 rfl (by kernel_rfl) (Qui.ylds (y_pickT rfl rfl)) rfl rfl rfl (fun _ h => h) K.cl ?_
  refine l_c 30 rfl (by kernel_rfl) (Qui.ylds (y_move rfl)) rfl rfl rfl (fun _ h => h) K.cl ?_
  refine l_c 31 rfl (by kernel_rfl) (Qui.call (en_f rfl Try.call16) (fun w _ => awakeQ w)) rfl rfl rfl (fun _ h => h) K.cl ?_
  refine l_c 32 rfl (by kernel_rfl) (Qui.ylds (y_pickT rfl rfl)) rfl rfl rfl (fun _ h => h) K.cl ?_
  refine l_c 33 rfl (by kernel_rfl) (Qui.ylds (y_assign rfl)) rfl rfl rfl (fun _ h => h) K.cl ?_
  refine l_nil (by kernel_rfl) ?_
  refine f_then ?_
  refine c_ret ?_
  exact f_ret () (res1 rfl rfl) (fun w h => h.any)
end Go.KL
end

section
/- FlowLeast: for every input the law returns true, and its arguments read as they did. No condition. -/
namespace Go.Proofs.Ytbeckcilglhkbaa
open Go.ChangeShapes Go.WideShapes Go.RowKit Go.KL
set_option linter.unusedVariables false
theorem own : ownKnob Try.prog.godebug = none := by kernel_rfl
set_option maxRecDepth 100000 in
theorem flowLeast_lifted (os : Os) (started : os.Started) (H : Type) (enc : TypeId × Value → H) :
    ReturnsInHanded {} Try.checked os 13 .any (Rows.flowLeastSpec.pre6 enc Try.prog Try.f13 Rows.flowLeastRow.domain false) (Rows.flowLeastSpec.post enc Try.prog Try.f13 false true false false) := by
  refine returnsInHanded_of_change (C := Try.checked) own started (by kernel_rfl) Try.func13
    (ChangeSpec.witness6 (enc := enc) (C := Try.checked) false ⟨#[], #[.agg #[.int .i64 0, .slice none 0 0, .int .i64 0, .int .i64 0], .slice none 0 0], []⟩ 8 (by kernel_rfl) (by kernel_rfl) (by kernel_rfl) (by kernel_rfl)) ?_
  intro W base args ds gs before hval hW hcnd _
  obtain ⟨p, q, hA, hV, rfl, hfz, hnd⟩ := id hW
  obtain ⟨rfl, rfl⟩ := trodVars_none hV
  obtain ⟨v0, vs0, d0, ds0, p0, q0, e0, rfl, rfl, h0, r0⟩ := trodAll_cons hA
  obtain ⟨v1, vs1, d1, ds1, p1, q1, rfl, rfl, rfl, h1, r1⟩ := trodAll_cons r0
  obtain ⟨rfl, rfl, rfl⟩ := trodAll_nil r1
  obtain rfl : args = #[v0, v1] := by cases args; simp_all
  obtain ⟨n0 , s0, t0, va0, na0, A0, rfl, hA0, hna0, hn0, hs0, ht0, hAb0⟩ := arg24 (hval 0 24 _ rfl rfl) h0
  obtain ⟨m1, f1, hI1, hm1, hf1⟩ := arg26 (hval 1 26 _ rfl rfl) h1
  refine ((flowLeast_walk W n0 s0 t0 va0 _ na0 m1 A0 f1 hA0 hI1) W (K.refl W)).mono ?_
  rintro e W' ⟨x, rfl, hk⟩
  exact ⟨_, rfl, law_post (t := 4) laidOut (by decide +kernel) rfl rfl u4 hW rfl hk.toExt⟩
/-- The statement. -/
theorem flowLeast_holds : Rows.FlowLeastSaid :=
  OpenClaim.holds_of_wide 13 Try.f13 rfl rfl rfl rfl rfl rfl rfl ⟨rfl, rfl, rfl, rfl, rfl⟩ rfl rfl rfl rfl rfl (by kernel_rfl) Try.func13 (by kernel_rfl)
    (of_decide_eq_true (by kernel_rfl)) (by unfold Func.isWrapper; first | (rw [if_pos (by decide +kernel)]; kernel_rfl) | (rw [if_neg (by decide +kernel)]; exact ⟨rfl, rfl⟩))
    (fun os started H enc _ => flowLeast_lifted os started H enc)
end Go.Proofs.Ytbeckcilglhkbaa
end
