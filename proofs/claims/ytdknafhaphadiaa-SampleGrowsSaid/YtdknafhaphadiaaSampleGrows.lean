/- SampleGrows: for every input the law returns true, and its arguments read as they did. No condition. -/
import Derived.Test.YtdknafhaphadiaaRows
import Derived.JoinedOf
import Derived.Handed
import Derived.Test.YtdknafhaphadiaaL6
section
/- Walks: SampleGrows. -/
namespace Go.KL
open Go.Proofs
theorem acc_mono {lot bad n : Nat} {c : Int} : accN lot bad n c ≤ accN lot bad n (c + 1) := by
  by_cases hc : c < 0
  · rw [accN_neg hc]
    exact Nat.zero_le _
  · obtain ⟨k, rfl⟩ : ∃ k : Nat, c = (k : Int) := ⟨c.toNat, by omega⟩
    rw [show (k : Int) + 1 = ((k + 1 : Nat) : Int) by omega, accN_cum, accN_cum]
    exact psum_mono 1
theorem acc_worse {lot bad n : Nat} {c : Int} (h : bad + 1 ≤ lot) : accN lot (bad + 1) n c ≤ accN lot bad n c := by
  by_cases hc : c < 0
  · rw [accN_neg hc]
    exact Nat.zero_le _
  · obtain ⟨k, rfl⟩ : ∃ k : Nat, c = (k : Int) := ⟨c.toNat, by omega⟩
    rw [accN_cum, accN_cum, show lot - bad = (lot - (bad + 1)) + 1 by omega]
    exact cum_worse
theorem acc_full {lot bad n : Nat} {c : Int} (h : bad ≤ lot) (hc : (n : Int) ≤ c) : accN lot bad n c = bino lot n := by
  obtain ⟨k, rfl⟩ : ∃ k : Nat, c = (k : Int) := ⟨c.toNat, by omega⟩
  rw [accN_cum, cum_full (by omega), show bad + (lot - bad) = lot by omega]
theorem cmpV_ng {a b : Nat} (h : a ≤ b) : ¬ 0 < cmpV a b := by
  have := cmpV_le.2 h
  omega
attribute [local irreducible] SC St Fin Sq Ylds Doos Sets Enters Spec CellIs CellsAre Then Ret Rnd Chn resOK ints bools recs arr
set_option maxRecDepth 10000 in
set_option maxHeartbeats 16000000 in
theorem sGrows_spec {W : World} {N : List Chunk} {lot bad n c : Int} (hl : i64 lot) (hb : i64 bad) (hn : i64 n) (hc : i64 c) : Spec Try.prog 7 #[.int .i64 lot, .int .i64 bad, .int .i64 n, .int .i64 c] (K W N) (fun _ : Unit => .bool true) (fun _ => K W N) := by
  unfold i64 at hl hb hn hc
  refine enter (args := [_, _, _, _]) Try.func7 rfl Try.ntmps7 rfl ?_
  by_cases h1 : 300 < lot
  · refine c_seq ?_
    refine c_region ?_
    refine s_y (y_assign rfl) rfl rfl rfl ?_
    refine s_nil ?_
    refine f_then ?_
    refine c_seq ?_
    refine c_seq ?_
    refine c_region ?_
    refine s_y (y_move rfl) rfl rfl rfl ?_
    refine s_y (y_T (y_gtr rfl rfl) (by assumption)) rfl rfl rfl ?_
    refine s_y (y_move rfl) rfl rfl rfl ?_
    iterate 5 refine s_skip rfl rfl rfl ?_
    refine s_y (y_pickT rfl rfl) rfl rfl rfl ?_
    refine s_y (y_move rfl) rfl rfl rfl ?_
    iterate 2 refine s_skip rfl rfl rfl ?_
    refine s_y (y_pickT rfl rfl) rfl rfl rfl ?_
    refine s_nil ?_
    refine f_then ?_
    refine c_condT rfl ?_
    refine c_seq ?_
    refine c_region ?_
    refine s_call (en_f rfl Try.call19) awake_spec rfl rfl rfl (fun _ => ?_)
    refine s_y (y_assign rfl) rfl rfl rfl ?_
    refine s_nil ?_
    refine f_then ?_
    refine c_ret ?_
    refine f_thenR ?_
    exact f_ret () (res1 rfl rfl) (fun w h => h)
  refine c_seq ?_
  refine c_region ?_
  refine s_y (y_assign rfl) rfl rfl rfl ?_
  refine s_nil ?_
  refine f_then ?_
  refine c_seq ?_
  refine c_seq ?_
  refine c_region ?_
  refine s_y (y_move rfl) rfl rfl rfl ?_
  refine s_y (y_F (y_gtr rfl rfl) (by assumption)) rfl rfl rfl ?_
  refine s_y (y_move rfl) rfl rfl rfl ?_
  refine s_y (y_move rfl) rfl rfl rfl ?_
  refine s_y (y_move rfl) rfl rfl rfl ?_
  refine s_y (y_move rfl) rfl rfl rfl ?_
  refine s_call (en_f rfl Try.call21) good_spec rfl rfl rfl (fun _ => ?_)
  by_cases hg : goodB lot bad n 2048
  · rw [decide_eq_true hg]
    by_cases h2 : 1099511627776 < c
    · refine s_y (y_notT rfl) rfl rfl rfl ?_
      refine s_y (y_pickF rfl rfl) rfl rfl rfl ?_
      refine s_y (y_move rfl) rfl rfl rfl ?_
      refine s_y (y_move rfl) rfl rfl rfl ?_
      refine s_y (y_T (y_gtr rfl rfl) (by assumption)) rfl rfl rfl ?_
      refine s_y (y_pickF rfl rfl) rfl rfl rfl ?_
      refine s_nil ?_
      refine f_then ?_
      refine c_condT rfl ?_
      refine c_seq ?_
      refine c_region ?_
      refine s_call (en_f rfl Try.call19) awake_spec rfl rfl rfl (fun _ => ?_)
      refine s_y (y_assign rfl) rfl rfl rfl ?_
      refine s_nil ?_
      refine f_then ?_
      refine c_ret ?_
      refine f_thenR ?_
      exact f_ret () (res1 rfl rfl) (fun w h => h)
    obtain ⟨g1, g2, g3, g4, g5, g6⟩ := hg
    obtain ⟨lot, rfl⟩ : ∃ k : Nat, lot = (k : Int) := ⟨lot.toNat, by omega⟩
    obtain ⟨bad, rfl⟩ : ∃ k : Nat, bad = (k : Int) := ⟨bad.toNat, by omega⟩
    obtain ⟨n, rfl⟩ : ∃ k : Nat, n = (k : Int) := ⟨n.toNat, by omega⟩
    refine s_y (y_notT rfl) rfl rfl rfl ?_
    refine s_y (y_pickF rfl rfl) rfl rfl rfl ?_
    refine s_y (y_move rfl) rfl rfl rfl ?_
    refine s_y (y_move rfl) rfl rfl rfl ?_
    refine s_y (y_F (y_gtr rfl rfl) (by assumption)) rfl rfl rfl ?_
    refine s_y (y_pickF rfl rfl) rfl rfl rfl ?_
    refine s_nil ?_
    refine f_then ?_
    refine c_condF rfl ?_
    refine c_skip ?_
    refine f_then ?_
    refine c_seq ?_
    refine c_region ?_
    refine s_y (y_move rfl) rfl rfl rfl ?_
    refine s_y (y_move rfl) rfl rfl rfl ?_
    refine s_y (y_move rfl) rfl rfl rfl ?_
    refine s_y (y_move rfl) rfl rfl rfl ?_
    refine s_call (en_f rfl Try.call20) (accept2_spec (W := W) (N := N) (lot := lot) (bad := bad) (n := n) (c := c) (by omega) (by omega) (by omega)) rfl rfl rfl (fun r1 => ?_)
    refine s_y (y_move rfl) rfl rfl rfl ?_
    refine s_y (y_extract rfl rfl) rfl rfl rfl ?_
    refine s_y (y_extract rfl rfl) rfl rfl rfl ?_
    refine s_do (do_alloc Try.tab rfl) rfl rfl rfl (fun b9 => ?_)
    refine s_set (set_25 0 rfl rfl rfl rfl) rfl rfl ?_
    refine s_y (y_assign rfl) rfl rfl rfl ?_
    refine s_nil ?_
    refine f_then ?_
    refine c_seq ?_
    refine c_region ?_
    refine s_y (y_move rfl) rfl rfl rfl ?_
    refine s_y (y_move rfl) rfl rfl rfl ?_
    refine s_y (y_move rfl) rfl rfl rfl ?_
    refine s_y (y_move rfl) rfl rfl rfl ?_
    refine s_y (y_add rfl rfl (by omega)) rfl rfl rfl ?_
    refine St.cls (C' := K W ([(b9, row 25 [r1.v1, r1.v2])] :: r1.L :: N)) ?_ (fun w h => h)
    refine s_call (en_f rfl Try.call20) (by1 (u2 := fun v w => .tuple #[.agg #[v, w], .int .i64 0]) (accept2_spec (lot := lot) (bad := bad) (n := n) (c := c + 1) (by omega) (by omega) (by omega)) rfl) rfl rfl rfl (fun r2 => ?_)
    refine s_y (y_move rfl) rfl rfl rfl ?_
    refine s_y (y_extract rfl rfl) rfl rfl rfl ?_
    refine s_y (y_extract rfl rfl) rfl rfl rfl ?_
    refine s_do (do_alloc Try.tab rfl) rfl rfl rfl (fun b11 => ?_)
    refine s_set (set_25 0 rfl rfl rfl rfl) rfl rfl ?_
    refine s_y (y_assign rfl) rfl rfl rfl ?_
    refine s_nil ?_
    refine f_then ?_
    refine c_seq ?_
    refine c_seq ?_
    refine SC.cls (C' := K W ([(b11, row 25 [r2.v1, r2.v2])] :: [(b9, row 25 [r1.v1, r1.v2])] :: r2.L :: r1.L :: N)) ?_ (fun w h => h)
    obtain ⟨A, hA⟩ : ∃ A, A = accN lot bad n c := ⟨_, rfl⟩
    obtain ⟨A1, hA1⟩ : ∃ A1, A1 = accN lot bad n (c + 1) := ⟨_, rfl⟩
    obtain ⟨An, hAn⟩ : ∃ An, An = bino lot n := ⟨_, rfl⟩
    haveI k11 : NatV (K W (r1.L :: N)) r1.v1 (lwN A An) := r1.ok1.of (by rw [hA, hAn])
    haveI k12 : NatV (K W (r1.L :: N)) r1.v2 (lwD A An - 1) := r1.ok2.of (by rw [hA, hAn])
    haveI k21 : NatV (K W (r2.L :: r1.L :: N)) r2.v1 (lwN A1 An) := r2.ok1.of (by rw [hA1, hAn])
    haveI k22 : NatV (K W (r2.L :: r1.L :: N)) r2.v2 (lwD A1 An - 1) := r2.ok2.of (by rw [hA1, hAn])
    have hn1 : An ≠ 0 := hAn ▸ bino_nz (by omega)
    obtain ⟨u, hu⟩ : ∃ u, u = 300 := ⟨_, rfl⟩
    have x0 : An ≤ 2 ^ u := hAn ▸ bino_e (by omega)
    have x1 : A ≤ An := hA ▸ hAn ▸ acc_le (by omega)
    have x2 : A1 ≤ An := hA1 ▸ hAn ▸ acc_le (by omega)
    have x3 : A ≤ A1 := hA ▸ hA1 ▸ acc_mono
    have w0 : wl An ≤ 10000 := wl_e x0 (by omega)
    have w1 : wl A ≤ 10000 := wl_e (Nat.le_trans x1 x0) (by omega)
    have w2 : wl A1 ≤ 10000 := wl_e (Nat.le_trans x2 x0) (by omega)
    obtain ⟨y1, hy1⟩ : ∃ y, y = cmpV (A * An) (A1 * An) := ⟨_, rfl⟩
    have hn1y : ¬ 0 < y1 := hy1 ▸ cmpV_ng (Nat.mul_le_mul_right _ x3)
    obtain ⟨y2, hy2⟩ : ∃ y, y = cmpV (A1 * 1) (1 * An) := ⟨_, rfl⟩
    have hn2y : ¬ 0 < y2 := hy2 ▸ cmpV_ng (by omega)
    have w3 : wl 1 ≤ 10000 := by rw [wl_one]; omega
    refine c_then_cut (α := Chunk) (fun _ => [(0, .int .i64 (lot : Int)), (1, .int .i64 (bad : Int)), (2, .int .i64 (n : Int)), (3, .int .i64 c), (9, .pointer (some ⟨b9, 0, none⟩)), (8, .bool false), (82, .bool false)]) (fun _ => True) (fun z => K W ([(b11, row 25 [r2.v1, r2.v2])] :: [(b9, row 25 [r1.v1, r1.v2])] :: z :: r2.L :: r1.L :: N)) ?_ ?_
    · by_cases hc0 : c < 0
      · refine c_plan [.c 0, .c 1, .c 2, .c 3, .c 4, .c 5, .c 6, .c 7, .c 8, .s 9, .c 10, .c 11, .c 12, .c 13, .s 14, .s 15, .c 16, .c 17, .c 18, .c 19, .c 20, .c 21, .c 22, .s 23, .c 24, .c 25, .c 26, .c 27, .c 28, .c 29, .c 30, .c 31, .c 32, .s 33, .c 34, .c 35, .c 36] [] ((K W ([(b11, row 25 [r2.v1, r2.v2])] :: [(b9, row 25 [r1.v1, r1.v2])] :: r2.L :: r1.L :: N))) Try.mixed (by kernel_rfl) rfl K.cl ?_
        refine d_c rfl (Qui.ylds (y_move rfl)) rfl rfl rfl (fun _ h => h) K.cl ?_
        refine d_c rfl (Qui.ylds (y_F (y_neq rfl rfl) (by omega))) rfl rfl rfl (fun _ h => h) K.cl ?_
        refine d_c rfl (Qui.ylds (y_move rfl)) rfl rfl rfl (fun _ h => h) K.cl ?_
        refine d_c rfl (Qui.ylds (y_move rfl)) rfl rfl rfl (fun _ h => h) K.cl ?_
        refine d_c rfl (Qui.ylds (y_F (y_neq rfl rfl) (by omega))) rfl rfl rfl (fun _ h => h) K.cl ?_
        refine d_c rfl (Qui.ylds (y_pickF rfl rfl)) rfl rfl rfl (fun _ h => h) K.cl ?_
        refine d_c rfl (Qui.ylds (y_move rfl)) rfl rfl rfl (fun _ h => h) K.cl ?_
        refine d_c rfl (Qui.ylds (y_loadA Try.tab rfl rfl rfl rfl (cells_row0 1 rfl rfl))) rfl rfl rfl (fun _ h => h) K.cl ?_
        refine d_c rfl (Qui.ylds (y_loadA Try.tab rfl rfl rfl rfl (cells_row0 0 rfl rfl))) rfl rfl rfl (fun _ h => h) K.cl ?_
        refine d_call rfl (en_f rfl Try.call31) (fcmp2_spec (p := A) (q := An) (r := A1) (s := An) w1 w0 w2 w0 hn1 hn1) rfl rfl rfl (fun _ => K.cl) (fun _ _ _ h => h) (fun _ => ?_)
        rw [← hy1]
        refine d_c rfl (Qui.ylds (y_F (y_gtr rfl rfl) (by assumption))) rfl rfl rfl (fun _ h => h) K.cl ?_
        refine d_c rfl (Qui.ylds (y_pickF rfl rfl)) rfl rfl rfl (fun _ h => h) K.cl ?_
        refine d_c rfl (Qui.ylds (y_move rfl)) rfl rfl rfl (fun _ h => h) K.cl ?_
        refine d_c rfl (Qui.ylds (y_loadA Try.tab rfl rfl rfl rfl (cells_row0 0 rfl rfl))) rfl rfl rfl (fun _ h => h) K.cl ?_
        refine d_call rfl (en_f rfl Try.call32) (by2 (u2 := fun v w => .agg #[v, w]) (ratio_spec (a := 1) (b := 1) (by omega) (by omega) (by omega)) rfl) rfl rfl rfl (fun _ => K.cl) (fun _ _ _ h => h.dropAt 2) (fun r3 => ?_)
        haveI := r3.ok1
        haveI := r3.ok2
        skip
        refine d_call rfl (en_f rfl Try.call31) (fcmp2_spec (p := A1) (q := An) (r := 1) (s := 1) w2 w0 w3 w3 hn1 (by omega)) rfl rfl rfl (fun _ => K.cl) (fun _ _ _ h => h.dropAt 2) (fun _ => ?_)
        rw [← hy2]
        refine d_c rfl (Qui.ylds (y_F (y_gtr rfl rfl) (by assumption))) rfl rfl rfl (fun _ h => h.dropAt 2) K.cl ?_
        refine d_c rfl (Qui.ylds (y_pickF rfl rfl)) rfl rfl rfl (fun _ h => h.dropAt 2) K.cl ?_
        refine d_c rfl (Qui.ylds (y_move rfl)) rfl rfl rfl (fun _ h => h.dropAt 2) K.cl ?_
        refine d_c rfl (Qui.ylds (y_move rfl)) rfl rfl rfl (fun _ h => h.dropAt 2) K.cl ?_
        refine d_c rfl (Qui.ylds (y_T (y_lss rfl rfl) (by assumption))) rfl rfl rfl (fun _ h => h.dropAt 2) K.cl ?_
        refine d_c rfl (Qui.ylds (y_move rfl)) rfl rfl rfl (fun _ h => h.dropAt 2) K.cl ?_
        refine d_c rfl (Qui.ylds (y_loadA Try.tab rfl rfl rfl rfl (cells_row0 1 rfl rfl))) rfl rfl rfl (fun _ h => h.dropAt 2) K.cl ?_
        have hz : A = 0 := hA ▸ accN_neg hc0
        haveI : NatV (K W (r1.L :: N)) r1.v1 0 := k11.of (by rw [hz]; exact (lw_zero hn1).1)
        haveI : NatV (K W (r1.L :: N)) r1.v2 (1 - 1) := k12.of (by rw [hz, (lw_zero hn1).2])
        refine d_call rfl (en_f rfl Try.call33) (fstr_spec (p := 0) (q := 1) (by omega) (small16 (by omega)) (small16 (by omega))) rfl rfl rfl (fun _ => K.cl) (fun _ _ _ h => h.dropAt 2) (fun _ => ?_)
        refine d_c rfl (Qui.ylds (y_neqT (b := [48]) rfl rfl fracL_lt (by decide))) rfl rfl rfl (fun _ h => h.dropAt 2) K.cl ?_
        rw [decide_eq_false (show ¬ (fracL 0 1 ≠ [48]) from fun h => h (by decide +kernel))]
        refine d_c rfl (Qui.ylds (y_pickT rfl rfl)) rfl rfl rfl (fun _ h => h.dropAt 2) K.cl ?_
        refine d_c rfl (Qui.ylds (y_pickF rfl rfl)) rfl rfl rfl (fun _ h => h.dropAt 2) K.cl ?_
        refine d_c rfl (Qui.ylds (y_move rfl)) rfl rfl rfl (fun _ h => h.dropAt 2) K.cl ?_
        refine d_c rfl (Qui.ylds (y_move rfl)) rfl rfl rfl (fun _ h => h.dropAt 2) K.cl ?_
        refine d_c rfl (Qui.ylds (y_move rfl)) rfl rfl rfl (fun _ h => h.dropAt 2) K.cl ?_
        refine d_c rfl (Qui.ylds (y_F (y_geq rfl rfl) (by omega))) rfl rfl rfl (fun _ h => h.dropAt 2) K.cl ?_
        refine d_c rfl (Qui.ylds (y_move rfl)) rfl rfl rfl (fun _ h => h.dropAt 2) K.cl ?_
        refine d_skip rfl rfl rfl rfl (fun _ h => h.dropAt 2) K.cl ?_
        refine d_sskip rfl rfl rfl rfl (fun _ _ h => h.dropAt 2) ?_
        refine d_skip rfl rfl rfl rfl (fun _ h => h.dropAt 2) K.cl ?_
        refine d_c rfl (Qui.ylds (y_pickF rfl rfl)) rfl rfl rfl (fun _ h => h.dropAt 2) K.cl ?_
        refine d_c rfl (Qui.ylds (y_pickF rfl rfl)) rfl rfl rfl (fun _ h => h.dropAt 2) K.cl ?_
        refine d_nil ?_
        exact f_cutP r3.L trivial ⟨rfl, rfl, rfl, rfl, rfl, rfl, rfl, trivial⟩ (fun w h => h)
      by_cases hcn : (n : Int) ≤ c
      · refine c_plan [.c 0, .c 1, .c 2, .c 3, .c 4, .c 5, .c 6, .c 7, .c 8, .s 9, .c 10, .c 11, .c 12, .c 13, .s 14, .s 15, .c 16, .c 17, .c 18, .c 19, .c 20, .c 21, .c 22, .s 23, .c 24, .c 25, .c 26, .c 27, .c 28, .c 29, .c 30, .c 31, .c 32, .s 33, .c 34, .c 35, .c 36] [] ((K W ([(b11, row 25 [r2.v1, r2.v2])] :: [(b9, row 25 [r1.v1, r1.v2])] :: r2.L :: r1.L :: N))) Try.mixed (by kernel_rfl) rfl K.cl ?_
        refine d_c rfl (Qui.ylds (y_move rfl)) rfl rfl rfl (fun _ h => h) K.cl ?_
        refine d_c rfl (Qui.ylds (y_F (y_neq rfl rfl) (by omega))) rfl rfl rfl (fun _ h => h) K.cl ?_
        refine d_c rfl (Qui.ylds (y_move rfl)) rfl rfl rfl (fun _ h => h) K.cl ?_
        refine d_c rfl (Qui.ylds (y_move rfl)) rfl rfl rfl (fun _ h => h) K.cl ?_
        refine d_c rfl (Qui.ylds (y_F (y_neq rfl rfl) (by omega))) rfl rfl rfl (fun _ h => h) K.cl ?_
        refine d_c rfl (Qui.ylds (y_pickF rfl rfl)) rfl rfl rfl (fun _ h => h) K.cl ?_
        refine d_c rfl (Qui.ylds (y_move rfl)) rfl rfl rfl (fun _ h => h) K.cl ?_
        refine d_c rfl (Qui.ylds (y_loadA Try.tab rfl rfl rfl rfl (cells_row0 1 rfl rfl))) rfl rfl rfl (fun _ h => h) K.cl ?_
        refine d_c rfl (Qui.ylds (y_loadA Try.tab rfl rfl rfl rfl (cells_row0 0 rfl rfl))) rfl rfl rfl (fun _ h => h) K.cl ?_
        refine d_call rfl (en_f rfl Try.call31) (fcmp2_spec (p := A) (q := An) (r := A1) (s := An) w1 w0 w2 w0 hn1 hn1) rfl rfl rfl (fun _ => K.cl) (fun _ _ _ h => h) (fun _ => ?_)
        rw [← hy1]
        refine d_c rfl (Qui.ylds (y_F (y_gtr rfl rfl) (by assumption))) rfl rfl rfl (fun _ h => h) K.cl ?_
        refine d_c rfl (Qui.ylds (y_pickF rfl rfl)) rfl rfl rfl (fun _ h => h) K.cl ?_
        refine d_c rfl (Qui.ylds (y_move rfl)) rfl rfl rfl (fun _ h => h) K.cl ?_
        refine d_c rfl (Qui.ylds (y_loadA Try.tab rfl rfl rfl rfl (cells_row0 0 rfl rfl))) rfl rfl rfl (fun _ h => h) K.cl ?_
        refine d_call rfl (en_f rfl Try.call32) (by2 (u2 := fun v w => .agg #[v, w]) (ratio_spec (a := 1) (b := 1) (by omega) (by omega) (by omega)) rfl) rfl rfl rfl (fun _ => K.cl) (fun _ _ _ h => h.dropAt 2) (fun r3 => ?_)
        haveI := r3.ok1
        haveI := r3.ok2
        skip
        refine d_call rfl (en_f rfl Try.call31) (fcmp2_spec (p := A1) (q := An) (r := 1) (s := 1) w2 w0 w3 w3 hn1 (by omega)) rfl rfl rfl (fun _ => K.cl) (fun _ _ _ h => h.dropAt 2) (fun _ => ?_)
        rw [← hy2]
        refine d_c rfl (Qui.ylds (y_F (y_gtr rfl rfl) (by assumption))) rfl rfl rfl (fun _ h => h.dropAt 2) K.cl ?_
        refine d_c rfl (Qui.ylds (y_pickF rfl rfl)) rfl rfl rfl (fun _ h => h.dropAt 2) K.cl ?_
        refine d_c rfl (Qui.ylds (y_move rfl)) rfl rfl rfl (fun _ h => h.dropAt 2) K.cl ?_
        refine d_c rfl (Qui.ylds (y_move rfl)) rfl rfl rfl (fun _ h => h.dropAt 2) K.cl ?_
        refine d_c rfl (Qui.ylds (y_F (y_lss rfl rfl) (by assumption))) rfl rfl rfl (fun _ h => h.dropAt 2) K.cl ?_
        refine d_c rfl (Qui.ylds (y_move rfl)) rfl rfl rfl (fun _ h => h.dropAt 2) K.cl ?_
        refine d_skip rfl rfl rfl rfl (fun _ h => h.dropAt 2) K.cl ?_
        refine d_sskip rfl rfl rfl rfl (fun _ _ h => h.dropAt 2) ?_
        refine d_skip rfl rfl rfl rfl (fun _ h => h.dropAt 2) K.cl ?_
        refine d_c rfl (Qui.ylds (y_pickF rfl rfl)) rfl rfl rfl (fun _ h => h.dropAt 2) K.cl ?_
        refine d_c rfl (Qui.ylds (y_pickF rfl rfl)) rfl rfl rfl (fun _ h => h.dropAt 2) K.cl ?_
        refine d_c rfl (Qui.ylds (y_move rfl)) rfl rfl rfl (fun _ h => h.dropAt 2) K.cl ?_
        refine d_c rfl (Qui.ylds (y_move rfl)) rfl rfl rfl (fun _ h => h.dropAt 2) K.cl ?_
        refine d_c rfl (Qui.ylds (y_move rfl)) rfl rfl rfl (fun _ h => h.dropAt 2) K.cl ?_
        refine d_c rfl (Qui.ylds (y_T (y_geq rfl rfl) (by assumption))) rfl rfl rfl (fun _ h => h.dropAt 2) K.cl ?_
        refine d_c rfl (Qui.ylds (y_move rfl)) rfl rfl rfl (fun _ h => h.dropAt 2) K.cl ?_
        refine d_c rfl (Qui.ylds (y_loadA Try.tab rfl rfl rfl rfl (cells_row0 1 rfl rfl))) rfl rfl rfl (fun _ h => h.dropAt 2) K.cl ?_
        have hz : A = An := hA ▸ hAn ▸ acc_full (by omega) hcn
        haveI : NatV (K W (r1.L :: N)) r1.v1 1 := k11.of (by rw [hz]; exact (lw_one hn1).1)
        haveI : NatV (K W (r1.L :: N)) r1.v2 (1 - 1) := k12.of (by rw [hz, (lw_one hn1).2])
        refine d_call rfl (en_f rfl Try.call33) (fstr_spec (p := 1) (q := 1) (by omega) (small16 (by omega)) (small16 (by omega))) rfl rfl rfl (fun _ => K.cl) (fun _ _ _ h => h.dropAt 2) (fun _ => ?_)
        refine d_c rfl (Qui.ylds (y_neqT (b := [49]) rfl rfl fracL_lt (by decide))) rfl rfl rfl (fun _ h => h.dropAt 2) K.cl ?_
        rw [decide_eq_false (show ¬ (fracL 1 1 ≠ [49]) from fun h => h (by decide +kernel))]
        refine d_c rfl (Qui.ylds (y_pickT rfl rfl)) rfl rfl rfl (fun _ h => h.dropAt 2) K.cl ?_
        refine d_c rfl (Qui.ylds (y_pickF rfl rfl)) rfl rfl rfl (fun _ h => h.dropAt 2) K.cl ?_
        refine d_nil ?_
        exact f_cutP r3.L trivial ⟨rfl, rfl, rfl, rfl, rfl, rfl, rfl, trivial⟩ (fun w h => h)
      refine c_plan [.c 0, .c 1, .c 2, .c 3, .c 4, .c 5, .c 6, .c 7, .c 8, .s 9, .c 10, .c 11, .c 12, .c 13, .s 14, .s 15, .c 16, .c 17, .c 18, .c 19, .c 20, .c 21, .c 22, .s 23, .c 24, .c 25, .c 26, .c 27, .c 28, .c 29, .c 30, .c 31, .c 32, .s 33, .c 34, .c 35, .c 36] [] ((K W ([(b11, row 25 [r2.v1, r2.v2])] :: [(b9, row 25 [r1.v1, r1.v2])] :: r2.L :: r1.L :: N))) Try.mixed (by kernel_rfl) rfl K.cl ?_
      refine d_c rfl (Qui.ylds (y_move rfl)) rfl rfl rfl (fun _ h => h) K.cl ?_
      refine d_c rfl (Qui.ylds (y_F (y_neq rfl rfl) (by omega))) rfl rfl rfl (fun _ h => h) K.cl ?_
      refine d_c rfl (Qui.ylds (y_move rfl)) rfl rfl rfl (fun _ h => h) K.cl ?_
      refine d_c rfl (Qui.ylds (y_move rfl)) rfl rfl rfl (fun _ h => h) K.cl ?_
      refine d_c rfl (Qui.ylds (y_F (y_neq rfl rfl) (by omega))) rfl rfl rfl (fun _ h => h) K.cl ?_
      refine d_c rfl (Qui.ylds (y_pickF rfl rfl)) rfl rfl rfl (fun _ h => h) K.cl ?_
      refine d_c rfl (Qui.ylds (y_move rfl)) rfl rfl rfl (fun _ h => h) K.cl ?_
      refine d_c rfl (Qui.ylds (y_loadA Try.tab rfl rfl rfl rfl (cells_row0 1 rfl rfl))) rfl rfl rfl (fun _ h => h) K.cl ?_
      refine d_c rfl (Qui.ylds (y_loadA Try.tab rfl rfl rfl rfl (cells_row0 0 rfl rfl))) rfl rfl rfl (fun _ h => h) K.cl ?_
      refine d_call rfl (en_f rfl Try.call31) (fcmp2_spec (p := A) (q := An) (r := A1) (s := An) w1 w0 w2 w0 hn1 hn1) rfl rfl rfl (fun _ => K.cl) (fun _ _ _ h => h) (fun _ => ?_)
      rw [← hy1]
      refine d_c rfl (Qui.ylds (y_F (y_gtr rfl rfl) (by assumption))) rfl rfl rfl (fun _ h => h) K.cl ?_
      refine d_c rfl (Qui.ylds (y_pickF rfl rfl)) rfl rfl rfl (fun _ h => h) K.cl ?_
      refine d_c rfl (Qui.ylds (y_move rfl)) rfl rfl rfl (fun _ h => h) K.cl ?_
      refine d_c rfl (Qui.ylds (y_loadA Try.tab rfl rfl rfl rfl (cells_row0 0 rfl rfl))) rfl rfl rfl (fun _ h => h) K.cl ?_
      refine d_call rfl (en_f rfl Try.call32) (by2 (u2 := fun v w => .agg #[v, w]) (ratio_spec (a := 1) (b := 1) (by omega) (by omega) (by omega)) rfl) rfl rfl rfl (fun _ => K.cl) (fun _ _ _ h => h.dropAt 2) (fun r3 => ?_)
      haveI := r3.ok1
      haveI := r3.ok2
      skip
      refine d_call rfl (en_f rfl Try.call31) (fcmp2_spec (p := A1) (q := An) (r := 1) (s := 1) w2 w0 w3 w3 hn1 (by omega)) rfl rfl rfl (fun _ => K.cl) (fun _ _ _ h => h.dropAt 2) (fun _ => ?_)
      rw [← hy2]
      refine d_c rfl (Qui.ylds (y_F (y_gtr rfl rfl) (by assumption))) rfl rfl rfl (fun _ h => h.dropAt 2) K.cl ?_
      refine d_c rfl (Qui.ylds (y_pickF rfl rfl)) rfl rfl rfl (fun _ h => h.dropAt 2) K.cl ?_
      refine d_c rfl (Qui.ylds (y_move rfl)) rfl rfl rfl (fun _ h => h.dropAt 2) K.cl ?_
      refine d_c rfl (Qui.ylds (y_move rfl)) rfl rfl rfl (fun _ h => h.dropAt 2) K.cl ?_
      refine d_c rfl (Qui.ylds (y_F (y_lss rfl rfl) (by assumption))) rfl rfl rfl (fun _ h => h.dropAt 2) K.cl ?_
      refine d_c rfl (Qui.ylds (y_move rfl)) rfl rfl rfl (fun _ h => h.dropAt 2) K.cl ?_
      refine d_skip rfl rfl rfl rfl (fun _ h => h.dropAt 2) K.cl ?_
      refine d_sskip rfl rfl rfl rfl (fun _ _ h => h.dropAt 2) ?_
      refine d_skip rfl rfl rfl rfl (fun _ h => h.dropAt 2) K.cl ?_
      refine d_c rfl (Qui.ylds (y_pickF rfl rfl)) rfl rfl rfl (fun _ h => h.dropAt 2) K.cl ?_
      refine d_c rfl (Qui.ylds (y_pickF rfl rfl)) rfl rfl rfl (fun _ h => h.dropAt 2) K.cl ?_
      refine d_c rfl (Qui.ylds (y_move rfl)) rfl rfl rfl (fun _ h => h.dropAt 2) K.cl ?_
      refine d_c rfl (Qui.ylds (y_move rfl)) rfl rfl rfl (fun _ h => h.dropAt 2) K.cl ?_
      refine d_c rfl (Qui.ylds (y_move rfl)) rfl rfl rfl (fun _ h => h.dropAt 2) K.cl ?_
      refine d_c rfl (Qui.ylds (y_F (y_geq rfl rfl) (by assumption))) rfl rfl rfl (fun _ h => h.dropAt 2) K.cl ?_
      refine d_c rfl (Qui.ylds (y_move rfl)) rfl rfl rfl (fun _ h => h.dropAt 2) K.cl ?_
      refine d_skip rfl rfl rfl rfl (fun _ h => h.dropAt 2) K.cl ?_
      refine d_sskip rfl rfl rfl rfl (fun _ _ h => h.dropAt 2) ?_
      refine d_skip rfl rfl rfl rfl (fun _ h => h.dropAt 2) K.cl ?_
      refine d_c rfl (Qui.ylds (y_pickF rfl rfl)) rfl rfl rfl (fun _ h => h.dropAt 2) K.cl ?_
      refine d_c rfl (Qui.ylds (y_pickF rfl rfl)) rfl rfl rfl (fun _ h => h.dropAt 2) K.cl ?_
      refine d_nil ?_
      exact f_cutP r3.L trivial ⟨rfl, rfl, rfl, rfl, rfl, rfl, rfl, trivial⟩ (fun w h => h)
    · rintro z -
      by_cases hbl : bad = lot
      · refine c_condF rfl ?_
        refine c_skip ?_
        refine f_then ?_
        refine c_seq ?_
        refine c_seq ?_
        refine c_region ?_
        refine s_y (y_move rfl) rfl rfl rfl ?_
        refine s_y (y_move rfl) rfl rfl rfl ?_
        refine s_y (y_T (y_eql rfl rfl) (by omega)) rfl rfl rfl ?_
        refine s_nil ?_
        refine f_then ?_
        refine c_condT rfl ?_
        refine c_seq ?_
        refine c_region ?_
        refine s_call (en_f rfl Try.call19) awake_spec rfl rfl rfl (fun _ => ?_)
        refine s_y (y_assign rfl) rfl rfl rfl ?_
        refine s_nil ?_
        refine f_then ?_
        refine c_ret ?_
        refine f_thenR ?_
        exact f_ret () (res1 rfl rfl) (fun w h => h.tail.tail.tail.tail.tail)
      · refine c_condF rfl ?_
        refine c_skip ?_
        refine f_then ?_
        refine c_seq ?_
        refine c_seq ?_
        refine c_region ?_
        refine s_y (y_move rfl) rfl rfl rfl ?_
        refine s_y (y_move rfl) rfl rfl rfl ?_
        refine s_y (y_F (y_eql rfl rfl) (by omega)) rfl rfl rfl ?_
        refine s_nil ?_
        refine f_then ?_
        refine c_condF rfl ?_
        refine c_skip ?_
        refine f_then ?_
        refine c_seq ?_
        refine c_region ?_
        refine s_y (y_move rfl) rfl rfl rfl ?_
        refine s_y (y_move rfl) rfl rfl rfl ?_
        refine s_y (y_add rfl rfl (by omega)) rfl rfl rfl ?_
        refine s_y (y_move rfl) rfl rfl rfl ?_
        refine s_y (y_move rfl) rfl rfl rfl ?_
        rw [show (bad : Int) + 1 = ((bad + 1 : Nat) : Int) by omega]
        refine s_call (en_f rfl Try.call20) (by2 (u2 := fun v w => .tuple #[.agg #[v, w], .int .i64 0]) (accept2_spec (lot := lot) (bad := bad + 1) (n := n) (c := c) (by omega) (by omega) (by omega)) rfl) rfl rfl rfl (fun r4 => ?_)
        refine s_y (y_move rfl) rfl rfl rfl ?_
        refine s_y (y_extract rfl rfl) rfl rfl rfl ?_
        refine s_y (y_extract rfl rfl) rfl rfl rfl ?_
        refine s_do (do_alloc Try.tab rfl) rfl rfl rfl (fun b13 => ?_)
        refine s_set (set_25 0 rfl rfl rfl rfl) rfl rfl ?_
        refine s_y (y_assign rfl) rfl rfl rfl ?_
        refine s_nil ?_
        refine f_then ?_
        refine c_seq ?_
        refine c_region ?_
        refine s_y (y_move rfl) rfl rfl rfl ?_
        refine s_y (y_T (y_eql rfl rfl) (by omega)) rfl rfl rfl ?_
        refine s_y (y_move rfl) rfl rfl rfl ?_
        refine s_y (y_loadA Try.tab rfl rfl rfl rfl (cells_row0 0 rfl rfl)) rfl rfl rfl ?_
        refine s_y (y_loadA Try.tab rfl rfl rfl rfl (cells_row0 2 rfl rfl)) rfl rfl rfl ?_
        refine St.cls (C' := K W ([(b13, row 25 [r4.v1, r4.v2])] :: [(b11, row 25 [r2.v1, r2.v2])] :: [(b9, row 25 [r1.v1, r1.v2])] :: r4.L :: z :: r2.L :: r1.L :: N)) ?_ (fun w h => h)
        obtain ⟨A4, hA4⟩ : ∃ A4, A4 = accN lot (bad + 1) n c := ⟨_, rfl⟩
        haveI : NatV (K W (r4.L :: z :: r2.L :: r1.L :: N)) r4.v1 (lwN A4 An) := r4.ok1.of (by rw [hA4, hAn])
        haveI : NatV (K W (r4.L :: z :: r2.L :: r1.L :: N)) r4.v2 (lwD A4 An - 1) := r4.ok2.of (by rw [hA4, hAn])
        have x4 : A4 ≤ An := hA4 ▸ hAn ▸ acc_le (by omega)
        have x5 : A4 ≤ A := hA4 ▸ hA ▸ acc_worse (by omega)
        refine s_call (en_f rfl Try.call31) (fcmp2_spec (p := A4) (q := An) (r := A) (s := An) (wl_e (Nat.le_trans x4 x0) (by omega)) w0 w1 w0 hn1 hn1) rfl rfl rfl (fun _ => ?_)
        obtain ⟨y4, hy4⟩ : ∃ y, y = cmpV (A4 * An) (A * An) := ⟨_, rfl⟩
        have hn4 : y4 ≤ 0 := hy4 ▸ cmpV_le.2 (Nat.mul_le_mul_right _ x5)
        rw [← hy4]
        refine s_y (y_T (y_leq rfl rfl) (by assumption)) rfl rfl rfl ?_
        refine s_y (y_pickT rfl rfl) rfl rfl rfl ?_
        refine s_y (y_move rfl) rfl rfl rfl ?_
        refine s_call (en_f rfl Try.call19) awake_spec rfl rfl rfl (fun _ => ?_)
        refine s_y (y_pickT rfl rfl) rfl rfl rfl ?_
        refine s_y (y_assign rfl) rfl rfl rfl ?_
        refine s_nil ?_
        refine f_then ?_
        refine c_ret ?_
        exact f_ret () (res1 rfl rfl) (fun w h => h.tail.tail.tail.tail.tail.tail.tail)
  · rw [decide_eq_false hg]
    refine s_y (y_notF rfl) rfl rfl rfl ?_
    refine s_y (y_pickF rfl rfl) rfl rfl rfl ?_
    refine s_y (y_move rfl) rfl rfl rfl ?_
    iterate 2 refine s_skip rfl rfl rfl ?_
    refine s_y (y_pickT rfl rfl) rfl rfl rfl ?_
    refine s_nil ?_
    refine f_then ?_
    refine c_condT rfl ?_
    refine c_seq ?_
    refine c_region ?_
    refine s_call (en_f rfl Try.call19) awake_spec rfl rfl rfl (fun _ => ?_)
    refine s_y (y_assign rfl) rfl rfl rfl ?_
    refine s_nil ?_
    refine f_then ?_
    refine c_ret ?_
    refine f_thenR ?_
    exact f_ret () (res1 rfl rfl) (fun w h => h)
theorem sampleGrows_walk (W : World) (lot bad n c : Int) (hl : i64 lot) (hb : i64 bad) (hn : i64 n) (hc : i64 c) : Spec Try.prog 7 #[.int .i64 lot, .int .i64 bad, .int .i64 n, .int .i64 c] (K W []) (fun _ : Unit => .bool true) (fun _ => K W []) := sGrows_spec hl hb hn hc
end Go.KL
end

section
/- SampleGrows: for every input the law returns true, and its arguments read as they did. No condition. -/
namespace Go.Proofs.Ytdknafhaphadiaa
open Go.ChangeShapes Go.WideShapes Go.RowKit Go.KL
set_option linter.unusedVariables false
theorem own : ownKnob Try.prog.godebug = none := by kernel_rfl
set_option maxRecDepth 100000 in
theorem sampleGrows_lifted (os : Os) (started : os.Started) (H : Type) (enc : TypeId × Value → H) :
    ReturnsInHanded {} Try.checked os 7 .any (Rows.sampleGrowsSpec.pre6 enc Try.prog Try.f7 Rows.sampleGrowsRow.domain false) (Rows.sampleGrowsSpec.post enc Try.prog Try.f7 false true false false) := by
  refine returnsInHanded_of_change (C := Try.checked) own started (by kernel_rfl) Try.func7
    (ChangeSpec.witness6 (enc := enc) (C := Try.checked) false ⟨#[], #[.int .i64 0, .int .i64 0, .int .i64 0, .int .i64 0], []⟩ 8 (by kernel_rfl) (by kernel_rfl) (by kernel_rfl) (by kernel_rfl)) ?_
  intro W base args ds gs before hval hW hcnd _
  obtain ⟨p, q, hA, hV, rfl, hfz, hnd⟩ := id hW
  obtain ⟨rfl, rfl⟩ := trodVars_none hV
  obtain ⟨v0, vs0, d0, ds0, p0, q0, e0, rfl, rfl, h0, r0⟩ := trodAll_cons hA
  obtain ⟨v1, vs1, d1, ds1, p1, q1, rfl, rfl, rfl, h1, r1⟩ := trodAll_cons r0
  obtain ⟨v2, vs2, d2, ds2, p2, q2, rfl, rfl, rfl, h2, r2⟩ := trodAll_cons r1
  obtain ⟨v3, vs3, d3, ds3, p3, q3, rfl, rfl, rfl, h3, r3⟩ := trodAll_cons r2
  obtain ⟨rfl, rfl, rfl⟩ := trodAll_nil r3
  obtain rfl : args = #[v0, v1, v2, v3] := by cases args; simp_all
  obtain ⟨k0, rfl, hk0⟩ := arg3 (hval 0 3 _ rfl rfl) h0
  obtain ⟨k1, rfl, hk1⟩ := arg3 (hval 1 3 _ rfl rfl) h1
  obtain ⟨k2, rfl, hk2⟩ := arg3 (hval 2 3 _ rfl rfl) h2
  obtain ⟨k3, rfl, hk3⟩ := arg3 (hval 3 3 _ rfl rfl) h3
  refine ((sampleGrows_walk W k0 k1 k2 k3 hk0 hk1 hk2 hk3) W (K.refl W)).mono ?_
  rintro e W' ⟨x, rfl, hk⟩
  exact ⟨_, rfl, law_post (t := 4) laidOut (by decide +kernel) rfl rfl u4 hW rfl hk.toExt⟩
theorem joined : joinedFacts Try.pinned.checked.prog 7 Try.f7 Rows.sampleGrowsSpec Rows.sampleGrowsRow = true := by
  show joinedFacts Try.prog 7 Try.f7 Rows.sampleGrowsSpec Rows.sampleGrowsRow = true
  unfold joinedFacts
  rw [Go.KL.may_enter, Go.KL.lifts_final, Go.KL.make_cut]
  kernel_rfl
/-- The statement. -/
theorem sampleGrows_holds : Rows.SampleGrowsSaid :=
  OpenClaim.holds_of_wide 7 Try.f7 rfl rfl rfl rfl rfl rfl rfl ⟨rfl, rfl, rfl, rfl, rfl⟩ rfl rfl rfl rfl rfl (by kernel_rfl) Try.func7 joined
    (of_decide_eq_true (by kernel_rfl)) (by unfold Func.isWrapper; first | (rw [if_pos (by decide +kernel)]; kernel_rfl) | (rw [if_neg (by decide +kernel)]; exact ⟨rfl, rfl⟩))
    (fun os started H enc _ => sampleGrows_lifted os started H enc)
end Go.Proofs.Ytdknafhaphadiaa
end
