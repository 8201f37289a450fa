/- SampleTurned: for every input the law returns true, and its arguments read as they did. No condition. -/
import Derived.Test.YtdknafhaphadiaaRows
import Derived.JoinedOf
import Derived.Handed
import Derived.Test.YtdknafhaphadiaaL6
section
/- Walks: SampleTurned. -/
namespace Go.KL
open Go.Proofs
/-- For valid arguments, whatever c. -/
theorem acc_turn {lot bad n : Nat} {c : Int} (h1 : bad ≤ lot) (h2 : n ≤ lot) : accN lot bad n c * bino lot bad = accN lot n bad c * bino lot n := by
  by_cases hc : c < 0
  · rw [accN_neg hc, accN_neg hc, Nat.zero_mul, Nat.zero_mul]
  · obtain ⟨k, rfl⟩ : ∃ k : Nat, c = (k : Int) := ⟨c.toNat, by omega⟩
    rw [accN_cum, accN_cum, Nat.mul_comm, cum_turn h1 h2, Nat.mul_comm]
attribute [local irreducible] SC St Fin Sq Ylds Doos Sets Enters Spec CellIs CellsAre Then Ret Rnd Chn resOK ints bools recs arr
set_option maxRecDepth 10000 in
set_option maxHeartbeats 8000000 in
theorem sampleTurned_walk (W : World) (lot bad n c : Int) (hl : i64 lot) (hb : i64 bad) (hn : i64 n) (_ : i64 c) : Spec Try.prog 8 #[.int .i64 lot, .int .i64 bad, .int .i64 n, .int .i64 c] (K W []) (fun _ : Unit => .bool true) (fun _ => K W []) := by
  unfold i64 at hl hb hn
  refine enter (args := [_, _, _, _]) Try.func8 rfl Try.ntmps8 rfl ?_
  by_cases h1 : 300 < lot
  · refine c_seq ?_
    refine c_region ?_
    refine s_y (y_assign rfl) rfl rfl rfl ?_
    refine s_nil ?_
    refine f_then ?_
    refine c_seq ?_
    refine c_seq ?_
    refine c_region ?_
    refine s_y (y_move rfl) rfl rfl rfl ?_
    refine s_y (y_T (y_gtr rfl rfl) (by assumption)) rfl rfl rfl ?_
    refine s_y (y_move rfl) rfl rfl rfl ?_
    iterate 5 refine s_skip rfl rfl rfl ?_
    refine s_y (y_pickT rfl rfl) rfl rfl rfl ?_
    refine s_nil ?_
    refine f_then ?_
    refine c_condT rfl ?_
    refine c_seq ?_
    refine c_region ?_
    refine s_call (en_f rfl Try.call19) awake_spec rfl rfl rfl (fun _ => ?_)
    refine s_y (y_assign rfl) rfl rfl rfl ?_
    refine s_nil ?_
    refine f_then ?_
    refine c_ret ?_
    refine f_thenR ?_
    exact f_ret () (res1 rfl rfl) (fun w h => h)
  refine c_seq ?_
  refine c_region ?_
  refine s_y (y_assign rfl) rfl rfl rfl ?_
  refine s_nil ?_
  refine f_then ?_
  refine c_seq ?_
  refine c_seq ?_
  refine c_region ?_
  refine s_y (y_move rfl) rfl rfl rfl ?_
  refine s_y (y_F (y_gtr rfl rfl) (by assumption)) rfl rfl rfl ?_
  refine s_y (y_move rfl) rfl rfl rfl ?_
  refine s_y (y_move rfl) rfl rfl rfl ?_
  refine s_y (y_move rfl) rfl rfl rfl ?_
  refine s_y (y_move rfl) rfl rfl rfl ?_
  refine s_call (en_f rfl Try.call21) good_spec rfl rfl rfl (fun _ => ?_)
  by_cases hg : goodB lot bad n 2048
  · rw [decide_eq_true hg]
    obtain ⟨g1, g2, g3, g4, g5, g6⟩ := hg
    obtain ⟨lot, rfl⟩ : ∃ k : Nat, lot = (k : Int) := ⟨lot.toNat, by omega⟩
    obtain ⟨bad, rfl⟩ : ∃ k : Nat, bad = (k : Int) := ⟨bad.toNat, by omega⟩
    obtain ⟨n, rfl⟩ : ∃ k : Nat, n = (k : Int) := ⟨n.toNat, by omega⟩
    refine s_y (y_notT rfl) rfl rfl rfl ?_
    refine s_y (y_pickF rfl rfl) rfl rfl rfl ?_
    refine s_nil ?_
    refine f_then ?_
    refine c_condF rfl ?_
    refine c_skip ?_
    refine f_then ?_
    refine c_seq ?_
    refine c_region ?_
    refine s_y (y_move rfl) rfl rfl rfl ?_
    refine s_y (y_move rfl) rfl rfl rfl ?_
    refine s_y (y_move rfl) rfl rfl rfl ?_
    refine s_y (y_move rfl) rfl rfl rfl ?_
    refine s_call (en_f rfl Try.call20) (accept2_spec (W := W) (N := []) (lot := lot) (bad := bad) (n := n) (c := c) (by omega) (by omega) (by omega)) rfl rfl rfl (fun r1 => ?_)
    refine s_y (y_move rfl) rfl rfl rfl ?_
    refine s_y (y_extract rfl rfl) rfl rfl rfl ?_
    refine s_y (y_extract rfl rfl) rfl rfl rfl ?_
    refine s_do (do_alloc Try.tab rfl) rfl rfl rfl (fun b9 => ?_)
    refine s_set (set_25 0 rfl rfl rfl rfl) rfl rfl ?_
    refine s_y (y_assign rfl) rfl rfl rfl ?_
    refine s_nil ?_
    refine f_then ?_
    refine c_seq ?_
    refine c_region ?_
    refine s_y (y_move rfl) rfl rfl rfl ?_
    refine s_y (y_move rfl) rfl rfl rfl ?_
    refine s_y (y_move rfl) rfl rfl rfl ?_
    refine s_y (y_move rfl) rfl rfl rfl ?_
    refine St.cls (C' := K W ([(b9, row 25 [r1.v1, r1.v2])] :: r1.L :: [])) ?_ (fun w h => h)
    refine s_call (en_f rfl Try.call20) (by1 (u2 := fun v w => .tuple #[.agg #[v, w], .int .i64 0]) (accept2_spec (lot := lot) (bad := n) (n := bad) (c := c) (by omega) (by omega) (by omega)) rfl) rfl rfl rfl (fun r2 => ?_)
    refine s_y (y_move rfl) rfl rfl rfl ?_
    refine s_y (y_extract rfl rfl) rfl rfl rfl ?_
    refine s_y (y_extract rfl rfl) rfl rfl rfl ?_
    refine s_do (do_alloc Try.tab rfl) rfl rfl rfl (fun b11 => ?_)
    refine s_set (set_25 0 rfl rfl rfl rfl) rfl rfl ?_
    refine s_y (y_assign rfl) rfl rfl rfl ?_
    refine s_nil ?_
    refine f_then ?_
    refine c_seq ?_
    refine c_region ?_
    refine s_y (y_move rfl) rfl rfl rfl ?_
    refine s_y (y_T (y_eql rfl rfl) (by omega)) rfl rfl rfl ?_
    refine s_y (y_move rfl) rfl rfl rfl ?_
    refine s_y (y_move rfl) rfl rfl rfl ?_
    refine s_y (y_T (y_eql rfl rfl) (by omega)) rfl rfl rfl ?_
    refine s_y (y_pickT rfl rfl) rfl rfl rfl ?_
    refine s_y (y_move rfl) rfl rfl rfl ?_
    refine s_y (y_loadA Try.tab rfl rfl rfl rfl (cells_row0 1 rfl rfl)) rfl rfl rfl ?_
    refine s_y (y_loadA Try.tab rfl rfl rfl rfl (cells_row0 0 rfl rfl)) rfl rfl rfl ?_
    refine St.cls (C' := K W ([(b11, row 25 [r2.v1, r2.v2])] :: [(b9, row 25 [r1.v1, r1.v2])] :: r2.L :: r1.L :: [])) ?_ (fun w h => h)
    haveI := r1.ok1
    haveI := r1.ok2
    haveI := r2.ok1
    haveI := r2.ok2
    refine s_call (en_f rfl Try.call31) (fcmp2_spec (p := accN lot bad n c) (q := bino lot n) (r := accN lot n bad c) (s := bino lot bad) (wl_acc (by omega) (by omega) (by omega)) (wl_bin (by omega)) (wl_acc (by omega) (by omega) (by omega)) (wl_bin (by omega)) (bino_nz (by omega)) (bino_nz (by omega))) rfl rfl rfl (fun _ => ?_)
    rw [cmpV_eq (acc_turn (by omega) (by omega))]
    refine s_y (y_T (y_eql rfl rfl) (by omega)) rfl rfl rfl ?_
    refine s_y (y_pickT rfl rfl) rfl rfl rfl ?_
    refine s_y (y_move rfl) rfl rfl rfl ?_
    refine s_call (en_f rfl Try.call19) awake_spec rfl rfl rfl (fun _ => ?_)
    refine s_y (y_pickT rfl rfl) rfl rfl rfl ?_
    refine s_y (y_assign rfl) rfl rfl rfl ?_
    refine s_nil ?_
    refine f_then ?_
    refine c_ret ?_
    exact f_ret () (res1 rfl rfl) (fun w h => h.tail.tail.tail.tail)
  · rw [decide_eq_false hg]
    refine s_y (y_notF rfl) rfl rfl rfl ?_
    refine s_y (y_pickF rfl rfl) rfl rfl rfl ?_
    refine s_nil ?_
    refine f_then ?_
    refine c_condT rfl ?_
    refine c_seq ?_
    refine c_region ?_
    refine s_call (en_f rfl Try.call19) awake_spec rfl rfl rfl (fun _ => ?_)
    refine s_y (y_assign rfl) rfl rfl rfl ?_
    refine s_nil ?_
    refine f_then ?_
    refine c_ret ?_
    refine f_thenR ?_
    exact f_ret () (res1 rfl rfl) (fun w h => h)
end Go.KL
end

section
/- SampleTurned: for every input the law returns true, and its arguments read as they did. No condition. -/
namespace Go.Proofs.Ytdknafhaphadiaa
open Go.ChangeShapes Go.WideShapes Go.RowKit Go.KL
set_option linter.unusedVariables false
theorem own : ownKnob Try.prog.godebug = none := by kernel_rfl
set_option maxRecDepth 100000 in
theorem sampleTurned_lifted (os : Os) (started : os.Started) (H : Type) (enc : TypeId × Value → H) :
    ReturnsInHanded {} Try.checked os 8 .any (Rows.sampleTurnedSpec.pre6 enc Try.prog Try.f8 Rows.sampleTurnedRow.domain false) (Rows.sampleTurnedSpec.post enc Try.prog Try.f8 false true false false) := by
  refine returnsInHanded_of_change (C := Try.checked) own started (by kernel_rfl) Try.func8
    (ChangeSpec.witness6 (enc := enc) (C := Try.checked) false ⟨#[], #[.int .i64 0, .int .i64 0, .int .i64 0, .int .i64 0], []⟩ 8 (by kernel_rfl) (by kernel_rfl) (by kernel_rfl) (by kernel_rfl)) ?_
  intro W base args ds gs before hval hW hcnd _
  obtain ⟨p, q, hA, hV, rfl, hfz, hnd⟩ := id hW
  obtain ⟨rfl, rfl⟩ := trodVars_none hV
  obtain ⟨v0, vs0, d0, ds0, p0, q0, e0, rfl, rfl, h0, r0⟩ := trodAll_cons hA
  obtain ⟨v1, vs1, d1, ds1, p1, q1, rfl, rfl, rfl, h1, r1⟩ := trodAll_cons r0
  obtain ⟨v2, vs2, d2, ds2, p2, q2, rfl, rfl, rfl, h2, r2⟩ := trodAll_cons r1
  obtain ⟨v3, vs3, d3, ds3, p3, q3, rfl, rfl, rfl, h3, r3⟩ := trodAll_cons r2
  obtain ⟨rfl, rfl, rfl⟩ := trodAll_nil r3
  obtain rfl : args = #[v0, v1, v2, v3] := by cases args; simp_all
  obtain ⟨k0, rfl, hk0⟩ := arg3 (hval 0 3 _ rfl rfl) h0
  obtain ⟨k1, rfl, hk1⟩ := arg3 (hval 1 3 _ rfl rfl) h1
  obtain ⟨k2, rfl, hk2⟩ := arg3 (hval 2 3 _ rfl rfl) h2
  obtain ⟨k3, rfl, hk3⟩ := arg3 (hval 3 3 _ rfl rfl) h3
  refine ((sampleTurned_walk W k0 k1 k2 k3 hk0 hk1 hk2 hk3) W (K.refl W)).mono ?_
  rintro e W' ⟨x, rfl, hk⟩
  exact ⟨_, rfl, law_post (t := 4) laidOut (by decide +kernel) rfl rfl u4 hW rfl hk.toExt⟩
theorem joined : joinedFacts Try.pinned.checked.prog 8 Try.f8 Rows.sampleTurnedSpec Rows.sampleTurnedRow = true := by
  show joinedFacts Try.prog 8 Try.f8 Rows.sampleTurnedSpec Rows.sampleTurnedRow = true
  unfold joinedFacts
  rw [Go.KL.may_enter, Go.KL.lifts_final, Go.KL.make_cut]
  kernel_rfl
/-- The statement. -/
theorem sampleTurned_holds : Rows.SampleTurnedSaid :=
  OpenClaim.holds_of_wide 8 Try.f8 rfl rfl rfl rfl rfl rfl rfl ⟨rfl, rfl, rfl, rfl, rfl⟩ rfl rfl rfl rfl rfl (by kernel_rfl) Try.func8 joined
    (of_decide_eq_true (by kernel_rfl)) (by unfold Func.isWrapper; first | (rw [if_pos (by decide +kernel)]; kernel_rfl) | (rw [if_neg (by decide +kernel)]; exact ⟨rfl, rfl⟩))
    (fun os started H enc _ => sampleTurned_lifted os started H enc)
end Go.Proofs.Ytdknafhaphadiaa
end
