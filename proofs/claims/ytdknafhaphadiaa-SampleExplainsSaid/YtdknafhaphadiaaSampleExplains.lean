/- SampleExplains: for every input the law returns true, and its arguments read as they did. No condition. -/
import Derived.Test.YtdknafhaphadiaaRows
import Derived.JoinedOf
import Derived.Handed
import Derived.Test.YtdknafhaphadiaaL6
section
/- Walks: SampleExplains. -/
namespace Go.KL
open Go.Proofs
theorem bndF_law {lot n found risk : Nat} : ∀ {d : Nat}, found ≤ bndF lot n found risk d ∧ bndF lot n found risk d ≤ found + d ∧
    (found < bndF lot n found risk d → bino lot n * risk < accN lot (bndF lot n found risk d) n found * 1000000) ∧
    ∀ o, bndF lot n found risk d < o → o ≤ found + d → ¬ bino lot n * risk < accN lot o n found * 1000000
  | 0 => ⟨Nat.le_refl _, Nat.le_refl _, fun h => absurd h (Nat.lt_irrefl _), fun o h1 h2 => by
    rw [bndF] at h1
    omega⟩
  | d + 1 => by
    have ih := bndF_law (lot := lot) (n := n) (found := found) (risk := risk) (d := d)
    rw [bndF]
    by_cases h : bino lot n * risk < accN lot (found + d + 1) n found * 1000000
    · rw [if_pos h]
      exact ⟨by omega, by omega, fun _ => h, fun o h1 h2 => by omega⟩
    · rw [if_neg h]
      refine ⟨ih.1, by omega, ih.2.2.1, fun o h1 h2 => ?_⟩
      by_cases ho : o ≤ found + d
      · exact ih.2.2.2 o h1 ho
      · obtain rfl : o = found + d + 1 := by omega
        exact h
attribute [local irreducible] SC St Fin Sq Ylds Doos Sets Enters Spec CellIs CellsAre Then Ret Rnd Chn resOK ints bools recs arr
set_option maxRecDepth 10000 in
set_option maxHeartbeats 16000000 in
theorem sExplains_spec {W : World} {N : List Chunk} {lot n found risk other : Int} (hl : i64 lot) (hn : i64 n) (hf : i64 found) (hr : i64 risk) (ho : i64 other) : Spec Try.prog 11 #[.int .i64 lot, .int .i64 n, .int .i64 found, .int .i64 risk, .int .i64 other] (K W N) (fun _ : Unit => .bool true) (fun _ => K W N) := by
  unfold i64 at hl hn hf hr ho
  refine enter (args := [_, _, _, _, _]) Try.func11 rfl Try.ntmps11 rfl ?_
  by_cases h1 : 120 < lot
  · refine c_seq ?_
    refine c_region ?_
    refine s_y (y_assign rfl) rfl rfl rfl ?_
    refine s_nil ?_
    refine f_then ?_
    refine c_seq ?_
    refine c_seq ?_
    refine c_region ?_
    refine s_y (y_move rfl) rfl rfl rfl ?_
    refine s_y (y_T (y_gtr rfl rfl) (by assumption)) rfl rfl rfl ?_
    refine s_y (y_move rfl) rfl rfl rfl ?_
    iterate 6 refine s_skip rfl rfl rfl ?_
    refine s_y (y_pickT rfl rfl) rfl rfl rfl ?_
    refine s_nil ?_
    refine f_then ?_
    refine c_condT rfl ?_
    refine c_seq ?_
    refine c_region ?_
    refine s_call (en_f rfl Try.call19) awake_spec rfl rfl rfl (fun _ => ?_)
    refine s_y (y_assign rfl) rfl rfl rfl ?_
    refine s_nil ?_
    refine f_then ?_
    refine c_ret ?_
    refine f_thenR ?_
    exact f_ret () (res1 rfl rfl) (fun w h => h)
  refine c_seq ?_
  refine c_region ?_
  refine s_y (y_assign rfl) rfl rfl rfl ?_
  refine s_nil ?_
  refine f_then ?_
  refine c_seq ?_
  refine c_seq ?_
  refine c_region ?_
  refine s_y (y_move rfl) rfl rfl rfl ?_
  refine s_y (y_F (y_gtr rfl rfl) (by assumption)) rfl rfl rfl ?_
  refine s_y (y_move rfl) rfl rfl rfl ?_
  refine s_y (y_move rfl) rfl rfl rfl ?_
  refine s_y (y_move rfl) rfl rfl rfl ?_
  refine s_y (y_move rfl) rfl rfl rfl ?_
  refine s_y (y_move rfl) rfl rfl rfl ?_
  refine s_call (en_f rfl Try.call36) bounded_spec rfl rfl rfl (fun _ => ?_)
  by_cases hg : boundedB lot n found risk
  · rw [decide_eq_true hg]
    obtain ⟨g1, g2, g3, g4, g5, g6, g7, g8⟩ := hg
    obtain ⟨lot, rfl⟩ : ∃ k : Nat, lot = (k : Int) := ⟨lot.toNat, by omega⟩
    obtain ⟨n, rfl⟩ : ∃ k : Nat, n = (k : Int) := ⟨n.toNat, by omega⟩
    obtain ⟨found, rfl⟩ : ∃ k : Nat, found = (k : Int) := ⟨found.toNat, by omega⟩
    obtain ⟨risk, rfl⟩ : ∃ k : Nat, risk = (k : Int) := ⟨risk.toNat, by omega⟩
    refine s_y (y_notT rfl) rfl rfl rfl ?_
    refine s_y (y_pickF rfl rfl) rfl rfl rfl ?_
    refine s_nil ?_
    refine f_then ?_
    refine c_condF rfl ?_
    refine c_skip ?_
    refine f_then ?_
    refine c_seq ?_
    refine c_region ?_
    refine s_y (y_move rfl) rfl rfl rfl ?_
    refine s_y (y_move rfl) rfl rfl rfl ?_
    refine s_y (y_move rfl) rfl rfl rfl ?_
    refine s_y (y_move rfl) rfl rfl rfl ?_
    refine s_call (en_f rfl Try.call35) (bound_spec (lot := lot) (n := n) (found := found) (risk := risk) (by omega) (by omega) (by omega) (by omega)) rfl rfl rfl (fun _ => ?_)
    have hlaw := bndF_law (lot := lot) (n := n) (found := found) (risk := risk) (d := lot - n)
    obtain ⟨k, hk⟩ : ∃ k, k = bndF lot n found risk (lot - n) := ⟨_, rfl⟩
    rw [← hk] at hlaw ⊢
    obtain ⟨q1, q2, q3, q4⟩ := hlaw
    obtain ⟨An, hAn⟩ : ∃ An, An = bino lot n := ⟨_, rfl⟩
    have hn1 : An ≠ 0 := hAn ▸ bino_nz (by omega)
    have x0 : An ≤ 2 ^ 200 := hAn ▸ bino_e (by omega)
    have w0 : wl An ≤ 10000 := wl_e x0 (by omega)
    have w3 : wl 1000000 ≤ 10000 := wl_e (e := 20) (by omega) (by omega)
    have w4 : wl risk ≤ 10000 := wl_e (e := 20) (by omega) (by omega)
    obtain ⟨A, hA⟩ : ∃ A, A = accN lot k n found := ⟨_, rfl⟩
    have w1 : wl A ≤ 10000 := wl_e (Nat.le_trans (hA ▸ acc_le (by omega)) (hAn ▸ x0)) (by omega)
    rw [← hA, ← hAn] at q3
    clear x0
    refine s_y (y_move rfl) rfl rfl rfl ?_
    refine s_y (y_extract rfl rfl) rfl rfl rfl ?_
    refine s_y (y_extract rfl rfl) rfl rfl rfl ?_
    refine s_y (y_assign rfl) rfl rfl rfl ?_
    refine s_y (y_assign rfl) rfl rfl rfl ?_
    refine s_nil ?_
    refine f_then ?_
    refine c_seq ?_
    refine c_seq ?_
    refine c_region ?_
    refine s_y (y_move rfl) rfl rfl rfl ?_
    refine s_y (y_F (y_neq rfl rfl) (by omega)) rfl rfl rfl ?_
    refine s_y (y_move rfl) rfl rfl rfl ?_
    refine s_y (y_move rfl) rfl rfl rfl ?_
    refine s_y (y_move rfl) rfl rfl rfl ?_
    refine s_y (y_F (y_lss rfl rfl) (by omega)) rfl rfl rfl ?_
    refine s_y (y_pickF rfl rfl) rfl rfl rfl ?_
    refine s_y (y_move rfl) rfl rfl rfl ?_
    refine s_y (y_move rfl) rfl rfl rfl ?_
    refine s_y (y_move rfl) rfl rfl rfl ?_
    refine s_y (y_move rfl) rfl rfl rfl ?_
    refine s_y (y_sub rfl rfl (by omega)) rfl rfl rfl ?_
    refine s_y (y_move rfl) rfl rfl rfl ?_
    refine s_y (y_add rfl rfl (by omega)) rfl rfl rfl ?_
    refine s_y (y_F (y_gtr rfl rfl) (by omega)) rfl rfl rfl ?_
    refine s_y (y_pickF rfl rfl) rfl rfl rfl ?_
    refine s_nil ?_
    refine f_then ?_
    refine c_condF rfl ?_
    refine c_skip ?_
    refine f_then ?_
    refine c_seq ?_
    refine c_region ?_
    refine s_y (y_move rfl) rfl rfl rfl ?_
    refine s_y (y_move rfl) rfl rfl rfl ?_
    refine s_y (y_move rfl) rfl rfl rfl ?_
    refine s_y (y_move rfl) rfl rfl rfl ?_
    refine s_call (en_f rfl Try.call20) (accept2_spec (W := W) (N := N) (lot := lot) (bad := k) (n := n) (c := (found : Int)) (by omega) (by omega) (by omega)) rfl rfl rfl (fun r1 => ?_)
    haveI k11 : NatV (K W (r1.L :: N)) r1.v1 (lwN A An) := r1.ok1.of (by rw [hA, hAn])
    haveI k12 : NatV (K W (r1.L :: N)) r1.v2 (lwD A An - 1) := r1.ok2.of (by rw [hA, hAn])
    refine s_y (y_move rfl) rfl rfl rfl ?_
    refine s_y (y_extract rfl rfl) rfl rfl rfl ?_
    refine s_y (y_extract rfl rfl) rfl rfl rfl ?_
    refine s_do (do_alloc Try.tab rfl) rfl rfl rfl (fun b13 => ?_)
    refine s_set (set_25 0 rfl rfl rfl rfl) rfl rfl ?_
    refine s_y (y_assign rfl) rfl rfl rfl ?_
    refine s_nil ?_
    refine f_then ?_
    refine c_seq ?_
    refine c_seq ?_
    refine SC.cls (C' := K W ([(b13, row 25 [r1.v1, r1.v2])] :: r1.L :: N)) ?_ (fun w h => h)
    refine c_then_cut (α := Unit) (fun _ => [(0, .int .i64 (lot : Int)), (1, .int .i64 (n : Int)), (2, .int .i64 (found : Int)), (3, .int .i64 (risk : Int)), (4, .int .i64 other), (11, .int .i64 (k : Int)), (10, .bool false), (73, .bool false)]) (fun _ => True) (fun _ => K W N) ?_ ?_
    · by_cases hkf : found < k
      · obtain ⟨y1, hy1⟩ : ∃ y, y = cmpV (A * 1000000) (risk * An) := ⟨_, rfl⟩
        have hp1 : 0 < y1 := hy1 ▸ cmpV_gt.2 (by have := q3 hkf; rw [Nat.mul_comm]; exact this)
        refine c_plan [.c 0, .c 1, .c 2, .c 3, .c 4, .c 5, .c 6, .c 7, .c 8, .s 9, .s 10, .c 11, .c 12, .c 13] [] ((K W ([(b13, row 25 [r1.v1, r1.v2])] :: r1.L :: N))) Try.mixed (by kernel_rfl) rfl K.cl ?_
        refine d_c rfl (Qui.ylds (y_move rfl)) rfl rfl rfl (fun _ h => h) K.cl ?_
        refine d_c rfl (Qui.ylds (y_F (y_neq rfl rfl) (by omega))) rfl rfl rfl (fun _ h => h) K.cl ?_
        refine d_c rfl (Qui.ylds (y_move rfl)) rfl rfl rfl (fun _ h => h) K.cl ?_
        refine d_c rfl (Qui.ylds (y_move rfl)) rfl rfl rfl (fun _ h => h) K.cl ?_
        refine d_c rfl (Qui.ylds (y_move rfl)) rfl rfl rfl (fun _ h => h) K.cl ?_
        refine d_c rfl (Qui.ylds (y_T (y_gtr rfl rfl) (by omega))) rfl rfl rfl (fun _ h => h) K.cl ?_
        refine d_c rfl (Qui.ylds (y_move rfl)) rfl rfl rfl (fun _ h => h) K.cl ?_
        refine d_c rfl (Qui.ylds (y_loadA Try.tab rfl rfl rfl rfl (cells_row0 0 rfl rfl))) rfl rfl rfl (fun _ h => h) K.cl ?_
        refine d_c rfl (Qui.ylds (y_move rfl)) rfl rfl rfl (fun _ h => h) K.cl ?_
        refine d_call rfl (en_f rfl Try.call32) (by1 (u2 := fun v w => .agg #[v, w]) (ratio_spec (a := risk) (b := 1000000) (by omega) (by omega) (by omega)) rfl) rfl rfl rfl (fun _ => K.cl) (fun _ _ _ h => h.dropAt 1) (fun r3 => ?_)
        haveI := r3.ok1
        haveI := r3.ok2
        skip
        refine d_call rfl (en_f rfl Try.call31) (fcmp2_spec (p := A) (q := An) (r := risk) (s := 1000000) w1 w0 w4 w3 hn1 (by omega)) rfl rfl rfl (fun _ => K.cl) (fun _ _ _ h => h.dropAt 1) (fun _ => ?_)
        rw [← hy1]
        refine d_c rfl (Qui.ylds (y_F (y_leq rfl rfl) (by omega))) rfl rfl rfl (fun _ h => h.dropAt 1) K.cl ?_
        refine d_c rfl (Qui.ylds (y_pickT rfl rfl)) rfl rfl rfl (fun _ h => h.dropAt 1) K.cl ?_
        refine d_c rfl (Qui.ylds (y_pickF rfl rfl)) rfl rfl rfl (fun _ h => h.dropAt 1) K.cl ?_
        refine d_nil ?_
        exact f_cutP () trivial ⟨rfl, rfl, rfl, rfl, rfl, rfl, rfl, rfl, trivial⟩ (fun w h => h.tail.tail.tail)
      · refine c_plan [.c 0, .c 1, .c 2, .c 3, .c 4, .c 5, .c 6, .c 7, .c 8, .s 9, .s 10, .c 11, .c 12, .c 13] [] ((K W ([(b13, row 25 [r1.v1, r1.v2])] :: r1.L :: N))) Try.mixed (by kernel_rfl) rfl K.cl ?_
        refine d_c rfl (Qui.ylds (y_move rfl)) rfl rfl rfl (fun _ h => h) K.cl ?_
        refine d_c rfl (Qui.ylds (y_F (y_neq rfl rfl) (by omega))) rfl rfl rfl (fun _ h => h) K.cl ?_
        refine d_c rfl (Qui.ylds (y_move rfl)) rfl rfl rfl (fun _ h => h) K.cl ?_
        refine d_c rfl (Qui.ylds (y_move rfl)) rfl rfl rfl (fun _ h => h) K.cl ?_
        refine d_c rfl (Qui.ylds (y_move rfl)) rfl rfl rfl (fun _ h => h) K.cl ?_
        refine d_c rfl (Qui.ylds (y_F (y_gtr rfl rfl) (by omega))) rfl rfl rfl (fun _ h => h) K.cl ?_
        refine d_c rfl (Qui.ylds (y_move rfl)) rfl rfl rfl (fun _ h => h) K.cl ?_
        refine d_skip rfl rfl rfl rfl (fun _ h => h) K.cl ?_
        refine d_skip rfl rfl rfl rfl (fun _ h => h) K.cl ?_
        refine d_sskip rfl rfl rfl rfl (fun _ _ h => h) ?_
        skip
        refine d_sskip rfl rfl rfl rfl (fun _ _ h => h) ?_
        refine d_skip rfl rfl rfl rfl (fun _ h => h) K.cl ?_
        refine d_c rfl (Qui.ylds (y_pickF rfl rfl)) rfl rfl rfl (fun _ h => h) K.cl ?_
        refine d_c rfl (Qui.ylds (y_pickF rfl rfl)) rfl rfl rfl (fun _ h => h) K.cl ?_
        refine d_nil ?_
        exact f_cutP () trivial ⟨rfl, rfl, rfl, rfl, rfl, rfl, rfl, rfl, trivial⟩ (fun w h => h.tail.tail)
    · rintro u -
      by_cases ho1 : other ≤ (k : Int)
      · refine c_condF rfl ?_
        refine c_skip ?_
        refine f_then ?_
        refine c_seq ?_
        refine c_seq ?_
        refine c_region ?_
        refine s_y (y_move rfl) rfl rfl rfl ?_
        refine s_y (y_move rfl) rfl rfl rfl ?_
        refine s_y (y_T (y_leq rfl rfl) (by assumption)) rfl rfl rfl ?_
        refine s_y (y_move rfl) rfl rfl rfl ?_
        iterate 7 refine s_skip rfl rfl rfl ?_
        refine s_y (y_pickT rfl rfl) rfl rfl rfl ?_
        refine s_nil ?_
        refine f_then ?_
        refine c_condT rfl ?_
        refine c_seq ?_
        refine c_region ?_
        refine s_call (en_f rfl Try.call19) awake_spec rfl rfl rfl (fun _ => ?_)
        refine s_y (y_assign rfl) rfl rfl rfl ?_
        refine s_nil ?_
        refine f_then ?_
        refine c_ret ?_
        refine f_thenR ?_
        exact f_ret () (res1 rfl rfl) (fun w h => h)
      by_cases ho2 : (lot : Int) - n + found < other
      · refine c_condF rfl ?_
        refine c_skip ?_
        refine f_then ?_
        refine c_seq ?_
        refine c_seq ?_
        refine c_region ?_
        refine s_y (y_move rfl) rfl rfl rfl ?_
        refine s_y (y_move rfl) rfl rfl rfl ?_
        refine s_y (y_F (y_leq rfl rfl) (by assumption)) rfl rfl rfl ?_
        refine s_y (y_move rfl) rfl rfl rfl ?_
        refine s_y (y_move rfl) rfl rfl rfl ?_
        refine s_y (y_move rfl) rfl rfl rfl ?_
        refine s_y (y_move rfl) rfl rfl rfl ?_
        refine s_y (y_sub rfl rfl (by omega)) rfl rfl rfl ?_
        refine s_y (y_move rfl) rfl rfl rfl ?_
        refine s_y (y_add rfl rfl (by omega)) rfl rfl rfl ?_
        refine s_y (y_T (y_gtr rfl rfl) (by assumption)) rfl rfl rfl ?_
        refine s_y (y_pickF rfl rfl) rfl rfl rfl ?_
        refine s_nil ?_
        refine f_then ?_
        refine c_condT rfl ?_
        refine c_seq ?_
        refine c_region ?_
        refine s_call (en_f rfl Try.call19) awake_spec rfl rfl rfl (fun _ => ?_)
        refine s_y (y_assign rfl) rfl rfl rfl ?_
        refine s_nil ?_
        refine f_then ?_
        refine c_ret ?_
        refine f_thenR ?_
        exact f_ret () (res1 rfl rfl) (fun w h => h)
      obtain ⟨o, rfl⟩ : ∃ o : Nat, other = (o : Int) := ⟨other.toNat, by omega⟩
      refine c_condF rfl ?_
      refine c_skip ?_
      refine f_then ?_
      refine c_seq ?_
      refine c_seq ?_
      refine c_region ?_
      refine s_y (y_move rfl) rfl rfl rfl ?_
      refine s_y (y_move rfl) rfl rfl rfl ?_
      refine s_y (y_F (y_leq rfl rfl) (by assumption)) rfl rfl rfl ?_
      refine s_y (y_move rfl) rfl rfl rfl ?_
      refine s_y (y_move rfl) rfl rfl rfl ?_
      refine s_y (y_move rfl) rfl rfl rfl ?_
      refine s_y (y_move rfl) rfl rfl rfl ?_
      refine s_y (y_sub rfl rfl (by omega)) rfl rfl rfl ?_
      refine s_y (y_move rfl) rfl rfl rfl ?_
      refine s_y (y_add rfl rfl (by omega)) rfl rfl rfl ?_
      refine s_y (y_F (y_gtr rfl rfl) (by assumption)) rfl rfl rfl ?_
      refine s_y (y_pickF rfl rfl) rfl rfl rfl ?_
      refine s_nil ?_
      refine f_then ?_
      refine c_condF rfl ?_
      refine c_skip ?_
      refine f_then ?_
      refine c_seq ?_
      refine c_region ?_
      refine s_y (y_move rfl) rfl rfl rfl ?_
      refine s_y (y_move rfl) rfl rfl rfl ?_
      refine s_y (y_move rfl) rfl rfl rfl ?_
      refine s_y (y_move rfl) rfl rfl rfl ?_
      refine s_call (en_f rfl Try.call20) (accept2_spec (W := W) (N := N) (lot := lot) (bad := o) (n := n) (c := (found : Int)) (by omega) (by omega) (by omega)) rfl rfl rfl (fun r4 => ?_)
      obtain ⟨A4, hA4⟩ : ∃ A4, A4 = accN lot o n found := ⟨_, rfl⟩
      have x4 : A4 ≤ An := hA4 ▸ hAn ▸ acc_le (by omega)
      have w5 : wl A4 ≤ 10000 := Nat.le_trans (wl_mono x4) w0
      haveI k41 : NatV (K W (r4.L :: N)) r4.v1 (lwN A4 An) := r4.ok1.of (by rw [hA4, hAn])
      haveI k42 : NatV (K W (r4.L :: N)) r4.v2 (lwD A4 An - 1) := r4.ok2.of (by rw [hA4, hAn])
      obtain ⟨y2, hy2⟩ : ∃ y, y = cmpV (A4 * 1000000) (risk * An) := ⟨_, rfl⟩
      have hp2 : y2 ≤ 0 := hy2 ▸ cmpV_le.2 (by
        have h := q4 o (by omega) (by omega)
        rw [← hA4, ← hAn] at h
        rw [Nat.mul_comm risk]
        omega)
      refine s_y (y_move rfl) rfl rfl rfl ?_
      refine s_y (y_extract rfl rfl) rfl rfl rfl ?_
      refine s_y (y_extract rfl rfl) rfl rfl rfl ?_
      refine s_do (do_alloc Try.tab rfl) rfl rfl rfl (fun b15 => ?_)
      refine s_set (set_25 0 rfl rfl rfl rfl) rfl rfl ?_
      refine s_y (y_assign rfl) rfl rfl rfl ?_
      refine s_nil ?_
      refine f_then ?_
      refine c_seq ?_
      refine SC.cls (C' := K W ([(b15, row 25 [r4.v1, r4.v2])] :: r4.L :: N)) ?_ (fun w h => h)
      refine c_plan [.c 0, .c 1, .c 2, .c 3, .c 4, .s 5, .s 6, .c 7, .c 8, .c 9, .s 10, .c 11, .c 12] [] ((K W ([(b15, row 25 [r4.v1, r4.v2])] :: r4.L :: N))) Try.mixed (by kernel_rfl) rfl K.cl ?_
      refine d_c rfl (Qui.ylds (y_move rfl)) rfl rfl rfl (fun _ h => h) K.cl ?_
      refine d_c rfl (Qui.ylds (y_T (y_eql rfl rfl) (by omega))) rfl rfl rfl (fun _ h => h) K.cl ?_
      refine d_c rfl (Qui.ylds (y_move rfl)) rfl rfl rfl (fun _ h => h) K.cl ?_
      refine d_c rfl (Qui.ylds (y_loadA Try.tab rfl rfl rfl rfl (cells_row0 0 rfl rfl))) rfl rfl rfl (fun _ h => h) K.cl ?_
      refine d_c rfl (Qui.ylds (y_move rfl)) rfl rfl rfl (fun _ h => h) K.cl ?_
      refine d_call rfl (en_f rfl Try.call32) (by1 (u2 := fun v w => .agg #[v, w]) (ratio_spec (a := risk) (b := 1000000) (by omega) (by omega) (by omega)) rfl) rfl rfl rfl (fun _ => K.cl) (fun _ _ _ h => h.dropAt 1) (fun r3 => ?_)
      haveI := r3.ok1
      haveI := r3.ok2
      skip
      refine d_call rfl (en_f rfl Try.call31) (fcmp2_spec (p := A4) (q := An) (r := risk) (s := 1000000) w5 w0 w4 w3 hn1 (by omega)) rfl rfl rfl (fun _ => K.cl) (fun _ _ _ h => h.dropAt 1) (fun _ => ?_)
      rw [← hy2]
      refine d_c rfl (Qui.ylds (y_T (y_leq rfl rfl) (by assumption))) rfl rfl rfl (fun _ h => h.dropAt 1) K.cl ?_
      refine d_c rfl (Qui.ylds (y_pickT rfl rfl)) rfl rfl rfl (fun _ h => h.dropAt 1) K.cl ?_
      refine d_c rfl (Qui.ylds (y_move rfl)) rfl rfl rfl (fun _ h => h.dropAt 1) K.cl ?_
      refine d_call rfl (en_f rfl Try.call19) awake_spec rfl rfl rfl (fun _ => K.cl) (fun _ _ _ h => h.dropAt 1) (fun _ => ?_)
      refine d_c rfl (Qui.ylds (y_pickT rfl rfl)) rfl rfl rfl (fun _ h => h.dropAt 1) K.cl ?_
      refine d_c rfl (Qui.ylds (y_assign rfl)) rfl rfl rfl (fun _ h => h.dropAt 1) K.cl ?_
      refine d_nil ?_
      refine f_then ?_
      refine c_ret ?_
      exact f_ret () (res1 rfl rfl) (fun w h => h.tail.tail.tail)
  · rw [decide_eq_false hg]
    refine s_y (y_notF rfl) rfl rfl rfl ?_
    refine s_y (y_pickF rfl rfl) rfl rfl rfl ?_
    refine s_nil ?_
    refine f_then ?_
    refine c_condT rfl ?_
    refine c_seq ?_
    refine c_region ?_
    refine s_call (en_f rfl Try.call19) awake_spec rfl rfl rfl (fun _ => ?_)
    refine s_y (y_assign rfl) rfl rfl rfl ?_
    refine s_nil ?_
    refine f_then ?_
    refine c_ret ?_
    refine f_thenR ?_
    exact f_ret () (res1 rfl rfl) (fun w h => h)
theorem sampleExplains_walk (W : World) (lot n found risk other : Int) (hl : i64 lot) (hn : i64 n) (hf : i64 found) (hr : i64 risk) (ho : i64 other) : Spec Try.prog 11 #[.int .i64 lot, .int .i64 n, .int .i64 found, .int .i64 risk, .int .i64 other] (K W []) (fun _ : Unit => .bool true) (fun _ => K W []) := sExplains_spec hl hn hf hr ho
end Go.KL
end

section
/- SampleExplains: for every input the law returns true, and its arguments read as they did. No condition. -/
namespace Go.Proofs.Ytdknafhaphadiaa
open Go.ChangeShapes Go.WideShapes Go.RowKit Go.KL
set_option linter.unusedVariables false
theorem own : ownKnob Try.prog.godebug = none := by kernel_rfl
set_option maxRecDepth 100000 in
theorem sampleExplains_lifted (os : Os) (started : os.Started) (H : Type) (enc : TypeId × Value → H) :
    ReturnsInHanded {} Try.checked os 11 .any (Rows.sampleExplainsSpec.pre6 enc Try.prog Try.f11 Rows.sampleExplainsRow.domain false) (Rows.sampleExplainsSpec.post enc Try.prog Try.f11 false true false false) := by
  refine returnsInHanded_of_change (C := Try.checked) own started (by kernel_rfl) Try.func11
    (ChangeSpec.witness6 (enc := enc) (C := Try.checked) false ⟨#[], #[.int .i64 0, .int .i64 0, .int .i64 0, .int .i64 0, .int .i64 0], []⟩ 8 (by kernel_rfl) (by kernel_rfl) (by kernel_rfl) (by kernel_rfl)) ?_
  intro W base args ds gs before hval hW hcnd _
  obtain ⟨p, q, hA, hV, rfl, hfz, hnd⟩ := id hW
  obtain ⟨rfl, rfl⟩ := trodVars_none hV
  obtain ⟨v0, vs0, d0, ds0, p0, q0, e0, rfl, rfl, h0, r0⟩ := trodAll_cons hA
  obtain ⟨v1, vs1, d1, ds1, p1, q1, rfl, rfl, rfl, h1, r1⟩ := trodAll_cons r0
  obtain ⟨v2, vs2, d2, ds2, p2, q2, rfl, rfl, rfl, h2, r2⟩ := trodAll_cons r1
  obtain ⟨v3, vs3, d3, ds3, p3, q3, rfl, rfl, rfl, h3, r3⟩ := trodAll_cons r2
  obtain ⟨v4, vs4, d4, ds4, p4, q4, rfl, rfl, rfl, h4, r4⟩ := trodAll_cons r3
  obtain ⟨rfl, rfl, rfl⟩ := trodAll_nil r4
  obtain rfl : args = #[v0, v1, v2, v3, v4] := by cases args; simp_all
  obtain ⟨k0, rfl, hk0⟩ := arg3 (hval 0 3 _ rfl rfl) h0
  obtain ⟨k1, rfl, hk1⟩ := arg3 (hval 1 3 _ rfl rfl) h1
  obtain ⟨k2, rfl, hk2⟩ := arg3 (hval 2 3 _ rfl rfl) h2
  obtain ⟨k3, rfl, hk3⟩ := arg3 (hval 3 3 _ rfl rfl) h3
  obtain ⟨k4, rfl, hk4⟩ := arg3 (hval 4 3 _ rfl rfl) h4
  refine ((sampleExplains_walk W k0 k1 k2 k3 k4 hk0 hk1 hk2 hk3 hk4) W (K.refl W)).mono ?_
  rintro e W' ⟨x, rfl, hk⟩
  exact ⟨_, rfl, law_post (t := 4) laidOut (by decide +kernel) rfl rfl u4 hW rfl hk.toExt⟩
theorem joined : joinedFacts Try.pinned.checked.prog 11 Try.f11 Rows.sampleExplainsSpec Rows.sampleExplainsRow = true := by
  show joinedFacts Try.prog 11 Try.f11 Rows.sampleExplainsSpec Rows.sampleExplainsRow = true
  unfold joinedFacts
  rw [Go.KL.may_enter, Go.KL.lifts_final, Go.KL.make_cut]
  kernel_rfl
/-- The statement. -/
theorem sampleExplains_holds : Rows.SampleExplainsSaid :=
  OpenClaim.holds_of_wide 11 Try.f11 rfl rfl rfl rfl rfl rfl rfl ⟨rfl, rfl, rfl, rfl, rfl⟩ rfl rfl rfl rfl rfl (by kernel_rfl) Try.func11 joined
    (of_decide_eq_true (by kernel_rfl)) (by unfold Func.isWrapper; first | (rw [if_pos (by decide +kernel)]; kernel_rfl) | (rw [if_neg (by decide +kernel)]; exact ⟨rfl, rfl⟩))
    (fun os started H enc _ => sampleExplains_lifted os started H enc)
end Go.Proofs.Ytdknafhaphadiaa
end
