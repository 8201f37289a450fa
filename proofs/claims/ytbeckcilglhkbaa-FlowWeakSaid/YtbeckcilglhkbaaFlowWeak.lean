/- FlowWeak: for every input the law returns true, and its arguments read as they did. No condition. -/
import Derived.Test.YtbeckcilglhkbaaRows
import Derived.JoinedOf
import Derived.Handed
import Derived.Test.YtbeckcilglhkbaaGbL4
section
/- The walk of FlowWeak. -/
namespace Go.KL
open Go.Proofs
attribute [local irreducible] SC St Fin Sq Sw Ylds Doos Sets Enters Spec CellIs CellsAre Then Ret Rnd Chn resOK ints bools recs arr
open Classical in
set_option maxHeartbeats 8000000 in
theorem flowWeak_walk (W : World) (n s t : Int) (va vS : Value) (na m : Nat) (A : Nat → Ac) (S : Nat → Bool) (hA : SlA (K W []) va na A) (hS : SlB (K W []) vS m S) :
    Spec Try.prog 8 #[.agg #[.int .i64 n, va, .int .i64 s, .int .i64 t], vS] (K W []) (fun _ : Unit => .bool true) (fun _ => K W []) := by
  obtain ⟨pa, ca, rfl, hca, hcells⟩ := hA.open
  obtain ⟨pS, cS, rfl, hcS, hcS2⟩ := hS.open1
  refine enter (args := [_, _]) Try.func8 rfl Try.ntmps8 rfl ?_
  by_cases hfew : fewP n na
  rotate_left
  · refine c_seq ?_
    refine c_region ?_
    refine s_do (do_box rfl) rfl rfl rfl (fun b2 => ?_)
    refine s_y (y_assign rfl) rfl rfl rfl ?_
    refine s_nil ?_
    refine f_then ?_
    refine c_seq ?_
    refine c_seq ?_
    refine c_region ?_
    refine s_y (y_loadA Try.tab rfl rfl rfl rfl (cells_row0 0 rfl rfl)) rfl rfl rfl ?_
    refine s_call (en_f rfl Try.call15) (few_no hfew W _ s t pa ca) rfl rfl rfl (fun _ => ?_)
    refine s_y (y_notF rfl) rfl rfl rfl ?_
    refine s_y (y_move rfl) rfl rfl rfl ?_
    iterate 3 refine s_skip rfl rfl rfl ?_
    refine s_y (y_pickT rfl rfl) rfl rfl rfl ?_
    refine s_y (y_move rfl) rfl rfl rfl ?_
    iterate 5 refine s_skip rfl rfl rfl ?_
    refine s_y (y_pickT rfl rfl) rfl rfl rfl ?_
    refine s_y (y_move rfl) rfl rfl rfl ?_
    iterate 6 refine s_skip rfl rfl rfl ?_
    refine s_y (y_pickT rfl rfl) rfl rfl rfl ?_
    refine s_y (y_move rfl) rfl rfl rfl ?_
    iterate 5 refine s_skip rfl rfl rfl ?_
    refine s_y (y_pickT rfl rfl) rfl rfl rfl ?_
    refine s_nil ?_
    refine f_then ?_
    refine c_condT rfl ?_
    refine c_seq ?_
    refine c_region ?_
    refine s_call (en_f rfl Try.call16) (awake_spec W _) rfl rfl rfl (fun _ => ?_)
    refine s_y (y_assign rfl) rfl rfl rfl ?_
    refine s_nil ?_
    refine f_then ?_
    refine c_ret ?_
    refine f_thenR ?_
    exact f_ret () (res1 rfl rfl) (fun w h => h.any)
  have hfew' := hfew
  unfold fewP at hfew'
  by_cases hN : NetOK n na A s t
  rotate_left
  · refine c_seq ?_
    refine c_region ?_
    refine s_do (do_box rfl) rfl rfl rfl (fun b2 => ?_)
    refine s_y (y_assign rfl) rfl rfl rfl ?_
    refine s_nil ?_
    refine f_then ?_
    refine c_seq ?_
    refine c_seq ?_
    refine c_region ?_
    refine s_y (y_loadA Try.tab rfl rfl rfl rfl (cells_row0 0 rfl rfl)) rfl rfl rfl ?_
    refine s_call (en_f rfl Try.call15) (few_yes hfew W _ s t pa ca) rfl rfl rfl (fun _ => ?_)
    refine s_y (y_notT rfl) rfl rfl rfl ?_
    refine s_y (y_move rfl) rfl rfl rfl ?_
    refine s_y (y_loadA Try.tab rfl rfl rfl rfl (cells_row0 0 rfl rfl)) rfl rfl rfl ?_
    refine s_call (en_f rfl Try.call18) (nv_no hN W _ (.slice pa na ca) (hA.any _) (by omega)) rfl rfl rfl (fun _ => ?_)
    refine s_y (y_notF rfl) rfl rfl rfl ?_
    refine s_y (y_pickF rfl rfl) rfl rfl rfl ?_
    refine s_y (y_move rfl) rfl rfl rfl ?_
    iterate 5 refine s_skip rfl rfl rfl ?_
    refine s_y (y_pickT rfl rfl) rfl rfl rfl ?_
    refine s_y (y_move rfl) rfl rfl rfl ?_
    iterate 6 refine s_skip rfl rfl rfl ?_
    refine s_y (y_pickT rfl rfl) rfl rfl rfl ?_
    refine s_y (y_move rfl) rfl rfl rfl ?_
    iterate 5 refine s_skip rfl rfl rfl ?_
    refine s_y (y_pickT rfl rfl) rfl rfl rfl ?_
    refine s_nil ?_
    refine f_then ?_
    refine c_condT rfl ?_
    refine c_seq ?_
    refine c_region ?_
    refine s_call (en_f rfl Try.call16) (awake_spec W _) rfl rfl rfl (fun _ => ?_)
    refine s_y (y_assign rfl) rfl rfl rfl ?_
    refine s_nil ?_
    refine f_then ?_
    refine c_ret ?_
    refine f_thenR ?_
    exact f_ret () (res1 rfl rfl) (fun w h => h.any)
  obtain ⟨n, s, t, rfl, rfl, rfl⟩ := hN.nats
  by_cases hmn : (m : Int) = n
  rotate_left
  · refine c_seq ?_
    refine c_region ?_
    refine s_do (do_box rfl) rfl rfl rfl (fun b2 => ?_)
    refine s_y (y_assign rfl) rfl rfl rfl ?_
    refine s_nil ?_
    refine f_then ?_
    refine c_seq ?_
    refine c_seq ?_
    refine c_region ?_
    refine s_y (y_loadA Try.tab rfl rfl rfl rfl (cells_row0 0 rfl rfl)) rfl rfl rfl ?_
    refine s_call (en_f rfl Try.call15) (few_yes hfew W _ s t pa ca) rfl rfl rfl (fun _ => ?_)
    refine s_y (y_notT rfl) rfl rfl rfl ?_
    refine s_y (y_move rfl) rfl rfl rfl ?_
    refine s_y (y_loadA Try.tab rfl rfl rfl rfl (cells_row0 0 rfl rfl)) rfl rfl rfl ?_
    refine s_call (en_f rfl Try.call18) (nv_yes hN W _ (.slice pa na ca) (hA.any _) (by omega)) rfl rfl rfl (fun _ => ?_)
    refine s_y (y_notT rfl) rfl rfl rfl ?_
    refine s_y (y_pickF rfl rfl) rfl rfl rfl ?_
    refine s_y (y_move rfl) rfl rfl rfl ?_
    refine s_y (y_move rfl) rfl rfl rfl ?_
    refine s_y (y_len Try.tab rfl rfl) rfl rfl rfl ?_
    refine s_y (y_fieldAddr0 Try.tab rfl rfl rfl rfl rfl) rfl rfl rfl ?_
    refine s_y (y_load Try.tab rfl rfl (cell_row 0 rfl rfl)) rfl rfl rfl ?_
    refine s_y (y_T (y_neq rfl rfl) (by assumption)) rfl rfl rfl ?_
    refine s_y (y_pickF rfl rfl) rfl rfl rfl ?_
    refine s_y (y_move rfl) rfl rfl rfl ?_
    iterate 6 refine s_skip rfl rfl rfl ?_
    refine s_y (y_pickT rfl rfl) rfl rfl rfl ?_
    refine s_y (y_move rfl) rfl rfl rfl ?_
    iterate 5 refine s_skip rfl rfl rfl ?_
    refine s_y (y_pickT rfl rfl) rfl rfl rfl ?_
    refine s_nil ?_
    refine f_then ?_
    refine c_condT rfl ?_
    refine c_seq ?_
    refine c_region ?_
    refine s_call (en_f rfl Try.call16) (awake_spec W _) rfl rfl rfl (fun _ => ?_)
    refine s_y (y_assign rfl) rfl rfl rfl ?_
    refine s_nil ?_
    refine f_then ?_
    refine c_ret ?_
    refine f_thenR ?_
    exact f_ret () (res1 rfl rfl) (fun w h => h.any)
  obtain rfl : m = n := by omega
  have h_n := hN.hn; have h_s := hN.hs; have h_t := hN.ht
  obtain ⟨bS, oS, rfl, hcS3⟩ := hcS2 (by omega)
  have hcs := fun Ls : List Chunk => (hcS3 s (by omega)).cls (C := K W Ls) fun w h => h.any
  have hct := fun Ls : List Chunk => (hcS3 t (by omega)).cls (C := K W Ls) fun w h => h.any
  refine c_seq ?_
  refine c_region ?_
  refine s_do (do_box rfl) rfl rfl rfl (fun b2 => ?_)
  refine s_y (y_assign rfl) rfl rfl rfl ?_
  refine s_nil ?_
  refine f_then ?_
  refine c_seq ?_
  refine c_chain 38 (decide (S s = false ∨ S t = true)) ?_ ?_
  · refine c_region ?_
    refine s_y (y_loadA Try.tab rfl rfl rfl rfl (cells_row0 0 rfl rfl)) rfl rfl rfl ?_
    refine s_call (en_f rfl Try.call15) (few_yes hfew W _ s t pa ca) rfl rfl rfl (fun _ => ?_)
    refine s_y (y_notT rfl) rfl rfl rfl ?_
    refine s_y (y_move rfl) rfl rfl rfl ?_
    refine s_y (y_loadA Try.tab rfl rfl rfl rfl (cells_row0 0 rfl rfl)) rfl rfl rfl ?_
    refine s_call (en_f rfl Try.call18) (nv_yes hN W _ (.slice pa na ca) (hA.any _) (by omega)) rfl rfl rfl (fun _ => ?_)
    refine s_y (y_notT rfl) rfl rfl rfl ?_
    refine s_y (y_pickF rfl rfl) rfl rfl rfl ?_
    refine s_y (y_move rfl) rfl rfl rfl ?_
    refine s_y (y_move rfl) rfl rfl rfl ?_
    refine s_y (y_len Try.tab rfl rfl) rfl rfl rfl ?_
    refine s_y (y_fieldAddr0 Try.tab rfl rfl rfl rfl rfl) rfl rfl rfl ?_
    refine s_y (y_load Try.tab rfl rfl (cell_row 0 rfl rfl)) rfl rfl rfl ?_
    refine s_y (y_F (y_neq rfl rfl) (by omega)) rfl rfl rfl ?_
    refine s_y (y_pickF rfl rfl) rfl rfl rfl ?_
    refine s_y (y_move rfl) rfl rfl rfl ?_
    refine s_y (y_move rfl) rfl rfl rfl ?_
    refine s_y (y_fieldAddrB Try.tab 2 rfl rfl rfl rfl rfl) rfl rfl rfl ?_
    refine s_y (y_load Try.tab rfl rfl (cell_row 0 rfl rfl)) rfl rfl rfl ?_
    refine s_y (y_indexAddr1o Try.tab rfl rfl rfl rfl _ rfl (by omega)) rfl rfl rfl ?_
    refine s_y (y_load Try.tab rfl rfl (hcs _)) rfl rfl rfl ?_
    refine s_y (y_not rfl) rfl rfl rfl ?_
    refine s_y (y_pickF rfl rfl) rfl rfl rfl ?_
    refine s_y (y_move rfl) rfl rfl rfl ?_
    refine s_caseB 32 rfl (fun c0 => ?_) (fun c0 => ?_)
    · refine s_skip rfl rfl rfl ?_
      iterate 4 refine s_skip rfl rfl rfl ?_
      refine s_y (y_pickT rfl rfl) rfl rfl rfl ?_
      refine s_nil ?_
      exact f_chain rfl ((by simp [*])) ⟨rfl, rfl, rfl, rfl, trivial⟩
    · refine s_y (y_move rfl) rfl rfl rfl ?_
      refine s_y (y_fieldAddrB Try.tab 3 rfl rfl rfl rfl rfl) rfl rfl rfl ?_
      refine s_y (y_load Try.tab rfl rfl (cell_row 0 rfl rfl)) rfl rfl rfl ?_
      refine s_y (y_indexAddr1o Try.tab rfl rfl rfl rfl _ rfl (by omega)) rfl rfl rfl ?_
      refine s_y (y_load Try.tab rfl rfl (hct _)) rfl rfl rfl ?_
      refine s_y (y_pickF rfl rfl) rfl rfl rfl ?_
      refine s_nil ?_
      exact f_chain rfl ((by simp [*])) ⟨rfl, rfl, rfl, rfl, trivial⟩
  refine c_condD rfl (fun _ => ?_) (fun hst => ?_)
  · refine c_seq ?_
    refine c_region ?_
    refine s_call (en_f rfl Try.call16) (awake_spec W _) rfl rfl rfl (fun _ => ?_)
    refine s_y (y_assign rfl) rfl rfl rfl ?_
    refine s_nil ?_
    refine f_then ?_
    refine c_ret ?_
    refine f_thenR ?_
    exact f_ret () (res1 rfl rfl) (fun w h => h.any)
  have hst2 : S s = true ∧ S t = false := by
    constructor
    · cases e : S s with
      | true => rfl
      | false => exact absurd (.inl e) hst
    · cases e : S t with
      | false => rfl
      | true => exact absurd (.inr e) hst
  refine c_skip ?_
  refine f_then ?_
  refine c_seq ?_
  refine c_region ?_
  refine s_y (y_fieldAddr0 Try.tab rfl rfl rfl rfl rfl) rfl rfl rfl ?_
  refine s_y (y_load Try.tab rfl rfl (cell_row 0 rfl rfl)) rfl rfl rfl ?_
  refine s_y (y_fieldAddrB Try.tab 1 rfl rfl rfl rfl rfl) rfl rfl rfl ?_
  refine s_y (y_load Try.tab rfl rfl (cell_row 0 rfl rfl)) rfl rfl rfl ?_
  refine s_y (y_fieldAddrB Try.tab 2 rfl rfl rfl rfl rfl) rfl rfl rfl ?_
  refine s_y (y_load Try.tab rfl rfl (cell_row 0 rfl rfl)) rfl rfl rfl ?_
  refine s_y (y_fieldAddrB Try.tab 3 rfl rfl rfl rfl rfl) rfl rfl rfl ?_
  refine s_y (y_load Try.tab rfl rfl (cell_row 0 rfl rfl)) rfl rfl rfl ?_
  refine s_call (en_f rfl Try.call29) (cut_spec W _ m na s t (.slice pa na ca) A (hA.any _) hN) rfl rfl rfl (fun x => ?_)
  obtain ⟨⟨v, f, g, bg⟩, hC⟩ := x
  dsimp only at hC ⊢
  have hleast := hC.least hN hst2.1 hst2.2
  have hle := hleast.1
  by_cases hgt : v < cpc na (frN A) (ttN A) (capN A) S
  · refine s_y (y_move rfl) rfl rfl rfl ?_
    refine s_y (y_extract rfl rfl) rfl rfl rfl ?_
    refine s_y (y_extract rfl rfl) rfl rfl rfl ?_
    refine s_y (y_extract rfl rfl) rfl rfl rfl ?_
    refine s_y (y_assign rfl) rfl rfl rfl ?_
    refine s_y (y_assign rfl) rfl rfl rfl ?_
    refine s_y (y_assign rfl) rfl rfl rfl ?_
    refine s_nil ?_
    refine f_then ?_
    refine c_seq ?_
    refine c_seq ?_
    refine c_region ?_
    refine s_y (y_move rfl) rfl rfl rfl ?_
    refine s_y (y_F (y_neq rfl rfl) (by omega)) rfl rfl rfl ?_
    refine s_y (y_move rfl) rfl rfl rfl ?_
    refine s_y (y_move rfl) rfl rfl rfl ?_
    refine s_y (y_len Try.tab rfl rfl) rfl rfl rfl ?_
    refine s_y (y_fieldAddr0 Try.tab rfl rfl rfl rfl rfl) rfl rfl rfl ?_
    refine s_y (y_load Try.tab rfl rfl (cell_row 1 rfl rfl)) rfl rfl rfl ?_
    refine s_y (y_F (y_neq rfl rfl) (by omega)) rfl rfl rfl ?_
    refine s_y (y_pickF rfl rfl) rfl rfl rfl ?_
    refine s_nil ?_
    refine f_then ?_
    refine c_condF rfl ?_
    refine c_skip ?_
    refine f_then ?_
    refine c_seq ?_
    refine c_region ?_
    refine s_y (y_fieldAddrB Try.tab 1 rfl rfl rfl rfl rfl) rfl rfl rfl ?_
    refine s_y (y_load Try.tab rfl rfl (cell_row 1 rfl rfl)) rfl rfl rfl ?_
    refine s_y (y_move rfl) rfl rfl rfl ?_
    refine s_call (en_f rfl Try.call30) (rcap_spec W _ m s t (.slice pa na ca) (.slice (some ⟨bS, oS, none⟩) m cS) na A S (hA.any _) (hS.any _) hN) rfl rfl rfl (fun _ => ?_)
    refine s_y (y_assign rfl) rfl rfl rfl ?_
    refine s_nil ?_
    refine f_then ?_
    refine c_seq ?_
    refine c_region ?_
    refine s_y (y_move rfl) rfl rfl rfl ?_
    refine s_y (y_move rfl) rfl rfl rfl ?_
    refine s_y (y_T (y_geq rfl rfl) (by assumption)) rfl rfl rfl ?_
    refine s_y (y_move rfl) rfl rfl rfl ?_
    refine s_y (y_move rfl) rfl rfl rfl ?_
    refine s_y (y_move rfl) rfl rfl rfl ?_
    refine s_y (y_T (y_gtr rfl rfl) (by assumption)) rfl rfl rfl ?_
    refine s_y (y_move rfl) rfl rfl rfl ?_
    iterate 3 refine s_skip rfl rfl rfl ?_
    refine s_y (y_pickT rfl rfl) rfl rfl rfl ?_
    refine s_y (y_pickT rfl rfl) rfl rfl rfl ?_
    refine s_y (y_move rfl) rfl rfl rfl ?_
    refine s_call (en_f rfl Try.call16) (awake_spec W _) rfl rfl rfl (fun _ => ?_)
    refine s_y (y_pickT rfl rfl) rfl rfl rfl ?_
    refine s_y (y_assign rfl) rfl rfl rfl ?_
    refine s_nil ?_
    refine f_then ?_
    refine c_ret ?_
    exact f_ret () (res1 rfl rfl) (fun w h => h.any)
  have hwi : ∀ i, i < m → g i = true → S i = true := fun i _ => hleast.2 (by omega) i
  refine s_y (y_move rfl) rfl rfl rfl ?_
  refine s_y (y_extract rfl rfl) rfl rfl rfl ?_
  refine s_y (y_extract rfl rfl) rfl rfl rfl ?_
  refine s_y (y_extract rfl rfl) rfl rfl rfl ?_
  refine s_y (y_assign rfl) rfl rfl rfl ?_
  refine s_y (y_assign rfl) rfl rfl rfl ?_
  refine s_y (y_assign rfl) rfl rfl rfl ?_
  refine s_nil ?_
  refine f_then ?_
  refine c_seq ?_
  refine c_seq ?_
  refine c_region ?_
  refine s_y (y_move rfl) rfl rfl rfl ?_
  refine s_y (y_F (y_neq rfl rfl) (by omega)) rfl rfl rfl ?_
  refine s_y (y_move rfl) rfl rfl rfl ?_
  refine s_y (y_move rfl) rfl rfl rfl ?_
  refine s_y (y_len Try.tab rfl rfl) rfl rfl rfl ?_
  refine s_y (y_fieldAddr0 Try.tab rfl rfl rfl rfl rfl) rfl rfl rfl ?_
  refine s_y (y_load Try.tab rfl rfl (cell_row 1 rfl rfl)) rfl rfl rfl ?_
  refine s_y (y_F (y_neq rfl rfl) (by omega)) rfl rfl rfl ?_
  refine s_y (y_pickF rfl rfl) rfl rfl rfl ?_
  refine s_nil ?_
  refine f_then ?_
  refine c_condF rfl ?_
  refine c_skip ?_
  refine f_then ?_
  refine c_seq ?_
  refine c_region ?_
  refine s_y (y_fieldAddrB Try.tab 1 rfl rfl rfl rfl rfl) rfl rfl rfl ?_
  refine s_y (y_load Try.tab rfl rfl (cell_row 1 rfl rfl)) rfl rfl rfl ?_
  refine s_y (y_move rfl) rfl rfl rfl ?_
  refine s_call (en_f rfl Try.call30) (rcap_spec W _ m s t (.slice pa na ca) (.slice (some ⟨bS, oS, none⟩) m cS) na A S (hA.any _) (hS.any _) hN) rfl rfl rfl (fun _ => ?_)
  refine s_y (y_assign rfl) rfl rfl rfl ?_
  refine s_nil ?_
  refine f_then ?_
  refine c_seq ?_
  refine c_region ?_
  refine s_y (y_move rfl) rfl rfl rfl ?_
  refine s_y (y_move rfl) rfl rfl rfl ?_
  refine s_y (y_T (y_geq rfl rfl) (by assumption)) rfl rfl rfl ?_
  refine s_y (y_move rfl) rfl rfl rfl ?_
  refine s_y (y_move rfl) rfl rfl rfl ?_
  refine s_y (y_move rfl) rfl rfl rfl ?_
  refine s_y (y_F (y_gtr rfl rfl) (by assumption)) rfl rfl rfl ?_
  refine s_y (y_move rfl) rfl rfl rfl ?_
  refine s_y (y_move rfl) rfl rfl rfl ?_
  refine s_y (y_move rfl) rfl rfl rfl ?_
  refine s_call (en_f rfl Try.call25) (rwithin_yes hwi W _ (.slice (some ⟨bg, 0, none⟩) m m) (.slice (some ⟨bS, oS, none⟩) m cS) (SlB.own 0 rfl) (hS.any _) (Nat.le_refl _) (by omega)) rfl rfl rfl (fun _ => ?_)
  refine s_y (y_pickF rfl rfl) rfl rfl rfl ?_
  refine s_y (y_pickT rfl rfl) rfl rfl rfl ?_
  refine s_y (y_move rfl) rfl rfl rfl ?_
  refine s_call (en_f rfl Try.call16) (awake_spec W _) rfl rfl rfl (fun _ => ?_)
  refine s_y (y_pickT rfl rfl) rfl rfl rfl ?_
  refine s_y (y_assign rfl) rfl rfl rfl ?_
  refine s_nil ?_
  refine f_then ?_
  refine c_ret ?_
  exact f_ret () (res1 rfl rfl) (fun w h => h.any)
end Go.KL
end

section
/- FlowWeak: for every input the law returns true, and its arguments read as they did. No condition. -/
namespace Go.Proofs.Ytbeckcilglhkbaa
open Go.ChangeShapes Go.WideShapes Go.RowKit Go.KL
set_option linter.unusedVariables false
theorem own : ownKnob Try.prog.godebug = none := by kernel_rfl
set_option maxRecDepth 100000 in
theorem flowWeak_lifted (os : Os) (started : os.Started) (H : Type) (enc : TypeId × Value → H) :
    ReturnsInHanded {} Try.checked os 8 .any (Rows.flowWeakSpec.pre6 enc Try.prog Try.f8 Rows.flowWeakRow.domain false) (Rows.flowWeakSpec.post enc Try.prog Try.f8 false true false false) := by
  refine returnsInHanded_of_change (C := Try.checked) own started (by kernel_rfl) Try.func8
    (ChangeSpec.witness6 (enc := enc) (C := Try.checked) false ⟨#[], #[.agg #[.int .i64 0, .slice none 0 0, .int .i64 0, .int .i64 0], .slice none 0 0], []⟩ 8 (by kernel_rfl) (by kernel_rfl) (by kernel_rfl) (by kernel_rfl)) ?_
  intro W base args ds gs before hval hW hcnd _
  obtain ⟨p, q, hA, hV, rfl, hfz, hnd⟩ := id hW
  obtain ⟨rfl, rfl⟩ := trodVars_none hV
  obtain ⟨v0, vs0, d0, ds0, p0, q0, e0, rfl, rfl, h0, r0⟩ := trodAll_cons hA
  obtain ⟨v1, vs1, d1, ds1, p1, q1, rfl, rfl, rfl, h1, r1⟩ := trodAll_cons r0
  obtain ⟨rfl, rfl, rfl⟩ := trodAll_nil r1
  obtain rfl : args = #[v0, v1] := by cases args; simp_all
  obtain ⟨n0 , s0, t0, va0, na0, A0, rfl, hA0, hna0, hn0, hs0, ht0, hAb0⟩ := arg24 (hval 0 24 _ rfl rfl) h0
  obtain ⟨m1, f1, hI1, hm1⟩ := arg36 (hval 1 36 _ rfl rfl) h1
  refine ((flowWeak_walk W n0 s0 t0 va0 _ na0 m1 A0 f1 hA0 hI1) W (K.refl W)).mono ?_
  rintro e W' ⟨x, rfl, hk⟩
  exact ⟨_, rfl, law_post (t := 4) laidOut (by decide +kernel) rfl rfl u4 hW rfl hk.toExt⟩
/-- The statement. -/
theorem flowWeak_holds : Rows.FlowWeakSaid :=
  OpenClaim.holds_of_wide 8 Try.f8 rfl rfl rfl rfl rfl rfl rfl ⟨rfl, rfl, rfl, rfl, rfl⟩ rfl rfl rfl rfl rfl (by kernel_rfl) Try.func8 (by kernel_rfl)
    (of_decide_eq_true (by kernel_rfl)) (by unfold Func.isWrapper; first | (rw [if_pos (by decide +kernel)]; kernel_rfl) | (rw [if_neg (by decide +kernel)]; exact ⟨rfl, rfl⟩))
    (fun os started H enc _ => flowWeak_lifted os started H enc)
end Go.Proofs.Ytbeckcilglhkbaa
end
