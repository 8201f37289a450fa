/- FlowChecks: for every input the law returns true, and its arguments read as they did. No condition. -/
import Derived.Test.YtbeckcilglhkbaaRows
import Derived.JoinedOf
import Derived.Handed
import Derived.Test.YtbeckcilglhkbaaL4
section
/- The walk of FlowChecks. -/
namespace Go.KL
open Go.Proofs
attribute [local irreducible] SC St Fin Sq Sw Ylds Doos Sets Enters Spec CellIs CellsAre Then Ret Rnd Chn resOK ints bools recs arr
open Classical in
set_option maxHeartbeats 8000000 in
theorem flowChecks_walk (W : World) (n s t V C : Int) (va vo vp : Value) (na no np : Nat) (A : Nat → Ac) (F p : Nat → Int) (hA : SlA (K W []) va na A) (hF : SlI (K W []) vo no F) (hP : SlI (K W []) vp np p) :
    Spec Try.prog 12 #[.agg #[.int .i64 n, va, .int .i64 s, .int .i64 t], .agg #[.int .i64 V, .int .i64 C, vo, vp]] (K W []) (fun _ : Unit => .bool true) (fun _ => K W []) := by
  obtain ⟨pa, ca, rfl, hca, hcells⟩ := hA.open
  obtain ⟨po, co, rfl, hco, hcF⟩ := hF.open1
  obtain ⟨pp, cp, rfl, hcp, hcP⟩ := hP.open1
  refine enter (args := [_, _]) Try.func12 rfl Try.ntmps12 rfl ?_
  refine c_seq ?_
  refine c_region ?_
  refine s_do (do_box rfl) rfl rfl rfl (fun b2 => ?_)
  refine s_do (do_box rfl) rfl rfl rfl (fun b3 => ?_)
  refine s_y (y_assign rfl) rfl rfl rfl ?_
  refine s_nil ?_
  refine f_then ?_
  refine c_seq ?_
  refine c_chain 19 (decide (¬ fewP n na ∨ 1030 < no ∨ 1030 < np)) ?_ ?_
  · refine c_region ?_
    refine s_y (y_loadA Try.tab rfl rfl rfl rfl (cells_row0 1 rfl rfl)) rfl rfl rfl ?_
    refine s_call (en_f rfl Try.call15) (few_spec W _ n s t pa na ca) rfl rfl rfl (fun _ => ?_)
    refine s_y (y_notD rfl) rfl rfl rfl ?_
    refine s_y (y_move rfl) rfl rfl rfl ?_
    refine s_case 8 rfl (fun c0 => ?_) (fun c0 => ?_)
    · refine s_skip rfl rfl rfl ?_
      iterate 3 refine s_skip rfl rfl rfl ?_
      refine s_y (y_pickT rfl rfl) rfl rfl rfl ?_
      refine s_y (y_move rfl) rfl rfl rfl ?_
      iterate 4 refine s_skip rfl rfl rfl ?_
      refine s_y (y_pickT rfl rfl) rfl rfl rfl ?_
      refine s_nil ?_
      exact f_chain rfl ((decide_eq_true (by simp [*])).symm) ⟨rfl, rfl, rfl, rfl, rfl, trivial⟩
    · refine s_y (y_fieldAddrB Try.tab 2 rfl rfl rfl rfl rfl) rfl rfl rfl ?_
      refine s_y (y_load Try.tab rfl rfl (cell_row 0 rfl rfl)) rfl rfl rfl ?_
      refine s_y (y_len Try.tab rfl rfl) rfl rfl rfl ?_
      refine s_y (y_gtr rfl rfl) rfl rfl rfl ?_
      refine s_y (y_pickF rfl rfl) rfl rfl rfl ?_
      refine s_y (y_move rfl) rfl rfl rfl ?_
      refine s_case 14 rfl (fun c1 => ?_) (fun c1 => ?_)
      · refine s_skip rfl rfl rfl ?_
        iterate 3 refine s_skip rfl rfl rfl ?_
        refine s_y (y_pickT rfl rfl) rfl rfl rfl ?_
        refine s_nil ?_
        exact f_chain rfl ((decide_eq_true (by omega)).symm) ⟨rfl, rfl, rfl, rfl, rfl, trivial⟩
      · refine s_y (y_fieldAddrB Try.tab 3 rfl rfl rfl rfl rfl) rfl rfl rfl ?_
        refine s_y (y_load Try.tab rfl rfl (cell_row 0 rfl rfl)) rfl rfl rfl ?_
        refine s_y (y_len Try.tab rfl rfl) rfl rfl rfl ?_
        refine s_y (y_gtr rfl rfl) rfl rfl rfl ?_
        refine s_y (y_pickF rfl rfl) rfl rfl rfl ?_
        refine s_nil ?_
        exact f_chain rfl ((by grind)) ⟨rfl, rfl, rfl, rfl, rfl, trivial⟩
  refine c_condD rfl (fun _ => ?_) (fun hfew => ?_)
  · refine c_seq ?_
    refine c_region ?_
    refine s_call (en_f rfl Try.call16) (awake_spec W _) rfl rfl rfl (fun _ => ?_)
    refine s_y (y_assign rfl) rfl rfl rfl ?_
    refine s_nil ?_
    refine f_then ?_
    refine c_ret ?_
    refine f_thenR ?_
    exact f_ret () (res1 rfl rfl) (fun w h => h.any)
  have hfew' : fewP n na := Decidable.of_not_not fun h => hfew (.inl h)
  unfold fewP at hfew'
  refine c_skip ?_
  refine f_then ?_
  refine c_seq ?_
  refine c_free [] ((K W [[(b3, row 28 [.int .i64 V, .int .i64 C, .slice po no co, .slice pp np cp])], [(b2, row 24 [.int .i64 n, .slice pa na ca, .int .i64 s, .int .i64 t])]])) Try.mixed (by kernel_rfl) K.cl ?_
  refine l_c 0 rfl (by kernel_rfl) (Qui.ylds (y_fieldAddr0 Try.tab rfl rfl rfl rfl rfl)) rfl rfl rfl (fun _ h => h) K.cl ?_
  refine l_c 1 rfl (by kernel_rfl) (Qui.ylds (y_load Try.tab rfl rfl (cell_row 1 rfl rfl))) rfl rfl rfl (fun _ h => h) K.cl ?_
  refine l_c 2 rfl (by kernel_rfl) (Qui.ylds (y_fieldAddrB Try.tab 1 rfl rfl rfl rfl rfl)) rfl rfl rfl (fun _ h => h) K.cl ?_
  refine l_c 3 rfl (by kernel_rfl) (Qui.ylds (y_load Try.tab rfl rfl (cell_row 1 rfl rfl))) rfl rfl rfl (fun _ h => h) K.cl ?_
  refine l_c 4 rfl (by kernel_rfl) (Qui.ylds (y_fieldAddrB Try.tab 2 rfl rfl rfl rfl rfl)) rfl rfl rfl (fun _ h => h) K.cl ?_
  refine l_c 5 rfl (by kernel_rfl) (Qui.ylds (y_load Try.tab rfl rfl (cell_row 1 rfl rfl))) rfl rfl rfl (fun _ h => h) K.cl ?_
  refine l_c 6 rfl (by kernel_rfl) (Qui.ylds (y_fieldAddrB Try.tab 3 rfl rfl rfl rfl rfl)) rfl rfl rfl (fun _ h => h) K.cl ?_
  refine l_c 7 rfl (by kernel_rfl) (Qui.ylds (y_load Try.tab rfl rfl (cell_row 1 rfl rfl))) rfl rfl rfl (fun _ h => h) K.cl ?_
  refine l_c 8 rfl (by kernel_rfl) (Qui.ylds (y_loadA Try.tab rfl rfl rfl rfl (cells_row0 0 rfl rfl))) rfl rfl rfl (fun _ h => h) K.cl ?_
  refine l_c 9 rfl (by kernel_rfl) (Qui.call (en_f rfl Try.call35) (fun w hw => (check_spec w [] n s t V C (.slice pa na ca) (.slice po no co) (.slice pp np cp) na no np A F p (hA.nowQ hw) (hF.nowQ hw) (hP.nowQ hw) (by omega)).qui)) rfl rfl rfl (fun _ h => h) K.cl ?_
  refine l_c 10 rfl (by kernel_rfl) (Qui.ylds (y_fieldAddr0 Try.tab rfl rfl rfl rfl rfl)) rfl rfl rfl (fun _ h => h) K.cl ?_
  refine l_c 11 rfl (by kernel_rfl) (Qui.ylds (y_load Try.tab rfl rfl (cell_row 1 rfl rfl))) rfl rfl rfl (fun _ h => h) K.cl ?_
  refine l_c 12 rfl (by kernel_rfl) (Qui.ylds (y_fieldAddrB Try.tab 1 rfl rfl rfl rfl rfl)) rfl rfl rfl (fun _ h => h) K.cl ?_
  refine l_c 13 rfl (by kernel_rfl) (Qui.ylds (y_load Try.tab rfl rfl (cell_row 1 rfl rfl))) rfl rfl rfl (fun _ h => h) K.cl ?_
  refine l_c 14 rfl (by kernel_rfl) (Qui.ylds (y_fieldAddrB Try.tab 2 rfl rfl rfl rfl rfl)) rfl rfl rfl (fun _ h => h) K.cl ?_
  refine l_c 15 rfl (by kernel_rfl) (Qui.ylds (y_load Try.tab rfl rfl (cell_row 1 rfl rfl))) rfl rfl rfl (fun _ h => h) K.cl ?_
  refine l_c 16 rfl (by kernel_rfl) (Qui.ylds (y_fieldAddrB Try.tab 3 rfl rfl rfl rfl rfl)) rfl rfl rfl (fun _ h => h) K.cl ?_
  refine l_c 17 rfl (by kernel_rfl) (Qui.ylds (y_load Try.tab rfl rfl (cell_row 1 rfl rfl))) rfl rfl rfl (fun _ h => h) K.cl ?_
  refine l_c 18 rfl (by kernel_rfl) (Qui.ylds (y_loadA Try.tab rfl rfl rfl rfl (cells_row0 0 rfl rfl))) rfl rfl rfl (fun _ h => h) K.cl ?_
  refine l_c 19 rfl (by kernel_rfl) (Qui.call (en_f rfl Try.call20) (fun w hw => (rcheck_spec w [] n s t V C (.slice pa na ca) (.slice po no co) (.slice pp np cp) na no np A F p (hA.nowQ hw) (hF.nowQ hw) (hP.nowQ hw) (by omega)).qui)) rfl rfl rfl (fun _ h => h) K.cl ?_
  refine l_c 20 rfl (by kernel_rfl) (Qui.ylds (y_T (y_eql rfl rfl) (by omega))) rfl rfl rfl (fun _ h => h) K.cl ?_
  refine l_c 21 rfl (by kernel_rfl) (Qui.ylds (y_move rfl)) rfl rfl rfl (fun _ h => h) K.cl ?_
  refine l_c 22 rfl (by kernel_rfl) (Qui.call (en_f rfl Try.call16) (fun w _ => awakeQ w)) rfl rfl rfl (fun _ h => h) K.cl ?_
  refine l_c 23 rfl (by kernel_rfl) (Qui.ylds (y_pickT rfl rfl)) rfl rfl rfl (fun _ h => h) K.cl ?_
  refine l_c 24 rfl (by kernel_rfl) (Qui.ylds (y_assign rfl)) rfl rfl rfl (fun _ h => h) K.cl ?_
  refine l_nil (by kernel_rfl) ?_
  refine f_then ?_
  refine c_ret ?_
  exact f_ret () (res1 rfl rfl) (fun w h => h.any)
end Go.KL
end

section
/- FlowChecks: for every input the law returns true, and its arguments read as they did. No condition. -/
namespace Go.Proofs.Ytbeckcilglhkbaa
open Go.ChangeShapes Go.WideShapes Go.RowKit Go.KL
set_option linter.unusedVariables false
theorem own : ownKnob Try.prog.godebug = none := by kernel_rfl
set_option maxRecDepth 100000 in
theorem flowChecks_lifted (os : Os) (started : os.Started) (H : Type) (enc : TypeId × Value → H) :
    ReturnsInHanded {} Try.checked os 12 .any (Rows.flowChecksSpec.pre6 enc Try.prog Try.f12 Rows.flowChecksRow.domain false) (Rows.flowChecksSpec.post enc Try.prog Try.f12 false true false false) := by
  refine returnsInHanded_of_change (C := Try.checked) own started (by kernel_rfl) Try.func12
    (ChangeSpec.witness6 (enc := enc) (C := Try.checked) false ⟨#[], #[.agg #[.int .i64 0, .slice none 0 0, .int .i64 0, .int .i64 0], .agg #[.int .i64 0, .int .i64 0, .slice none 0 0, .slice none 0 0]], []⟩ 8 (by kernel_rfl) (by kernel_rfl) (by kernel_rfl) (by kernel_rfl)) ?_
  intro W base args ds gs before hval hW hcnd _
  obtain ⟨p, q, hA, hV, rfl, hfz, hnd⟩ := id hW
  obtain ⟨rfl, rfl⟩ := trodVars_none hV
  obtain ⟨v0, vs0, d0, ds0, p0, q0, e0, rfl, rfl, h0, r0⟩ := trodAll_cons hA
  obtain ⟨v1, vs1, d1, ds1, p1, q1, rfl, rfl, rfl, h1, r1⟩ := trodAll_cons r0
  obtain ⟨rfl, rfl, rfl⟩ := trodAll_nil r1
  obtain rfl : args = #[v0, v1] := by cases args; simp_all
  obtain ⟨n0 , s0, t0, va0, na0, A0, rfl, hA0, hna0, hn0, hs0, ht0, hAb0⟩ := arg24 (hval 0 24 _ rfl rfl) h0
  obtain ⟨V1, C1, vo1, vp1, no1, np1, F1, p1, rfl, hF1, hP1, hno1, hnp1, hV1, hC1, hFb1, hpb1⟩ := arg28 (hval 1 28 _ rfl rfl) h1
  refine ((flowChecks_walk W n0 s0 t0 V1 C1 va0 vo1 vp1 na0 no1 np1 A0 F1 p1 hA0 hF1 hP1) W (K.refl W)).mono ?_
  rintro e W' ⟨x, rfl, hk⟩
  exact ⟨_, rfl, law_post (t := 4) laidOut (by decide +kernel) rfl rfl u4 hW rfl hk.toExt⟩
/-- The statement. -/
theorem flowChecks_holds : Rows.FlowChecksSaid :=
  OpenClaim.holds_of_wide 12 Try.f12 rfl rfl rfl rfl rfl rfl rfl ⟨rfl, rfl, rfl, rfl, rfl⟩ rfl rfl rfl rfl rfl (by kernel_rfl) Try.func12 (by kernel_rfl)
    (of_decide_eq_true (by kernel_rfl)) (by unfold Func.isWrapper; first | (rw [if_pos (by decide +kernel)]; kernel_rfl) | (rw [if_neg (by decide +kernel)]; exact ⟨rfl, rfl⟩))
    (fun os started H enc _ => flowChecks_lifted os started H enc)
end Go.Proofs.Ytbeckcilglhkbaa
end
