/- SampleFirst: for every input the law returns true, and its arguments read as they did. No condition. -/
import Derived.Test.YtdknafhaphadiaaRows
import Derived.JoinedOf
import Derived.Handed
import Derived.Test.YtdknafhaphadiaaL6
section
/- Walks: SampleFirst. -/
namespace Go.KL
open Go.Proofs
/-- By the first piece. -/
theorem acc_first {lot bad n : Nat} {c : Int} (h1 : bad + 1 ≤ lot) (hc : 0 ≤ c) : (n + 1) * accN (lot + 1) (bad + 1) (n + 1) c = (bad + 1) * accN lot bad n (c - 1) + (lot - bad) * accN lot (bad + 1) n c := by
  obtain ⟨k, rfl⟩ : ∃ k : Nat, c = (k : Int) := ⟨c.toNat, by omega⟩
  obtain ⟨g, hg⟩ : ∃ g, lot = bad + 1 + g := ⟨lot - bad - 1, by omega⟩
  subst hg
  have h := cum_first (g := g) (b := bad) (n := n) (c := k)
  have e : accN (bad + 1 + g) bad n ((k : Int) - 1) = cumT (g + 1) bad n k := by
    cases k with
    | zero =>
      rw [accN_neg (by omega)]
      rfl
    | succ k =>
      rw [show ((k + 1 : Nat) : Int) - 1 = (k : Int) by omega, accN_cum]
      rw [show bad + 1 + g - bad = g + 1 by omega]
  rw [e, accN_cum, accN_cum, show bad + 1 + g + 1 - (bad + 1) = g + 1 by omega, show bad + 1 + g - (bad + 1) = g by omega, show bad + 1 + g - bad = g + 1 by omega]
  exact h
theorem first_cross {lot bad good n a a1 a2 A B : Nat} (h1 : (n + 1) * a = bad * a1 + good * a2) (h2 : A * (n + 1) = B * lot) : ((bad * a1) * (lot * B) + (good * a2) * (lot * B)) * A = a * ((lot * B) * (lot * B)) := by
  rw [← Nat.add_mul, ← h1]
  calc (n + 1) * a * (lot * B) * A = (A * (n + 1)) * (a * (lot * B)) := by simp only [Nat.mul_assoc, Nat.mul_comm, Nat.mul_left_comm]
    _ = _ := by
      rw [h2]
      simp only [Nat.mul_comm, Nat.mul_left_comm]
attribute [local irreducible] SC St Fin Sq Ylds Doos Sets Enters Spec CellIs CellsAre Then Ret Rnd Chn resOK ints bools recs arr
set_option maxRecDepth 10000 in
set_option maxHeartbeats 16000000 in
theorem sFirst_spec {W : World} {N : List Chunk} {lot bad n c : Int} (hl : i64 lot) (hb : i64 bad) (hn : i64 n) (hc : i64 c) : Spec Try.prog 12 #[.int .i64 lot, .int .i64 bad, .int .i64 n, .int .i64 c] (K W N) (fun _ : Unit => .bool true) (fun _ => K W N) := by
  unfold i64 at hl hb hn hc
  refine enter (args := [_, _, _, _]) Try.func12 rfl Try.ntmps12 rfl ?_
  by_cases h1 : 300 < lot
  · refine c_seq ?_
    refine c_region ?_
    refine s_y (y_assign rfl) rfl rfl rfl ?_
    refine s_nil ?_
    refine f_then ?_
    refine c_seq ?_
    refine c_seq ?_
    refine c_region ?_
    refine s_y (y_move rfl) rfl rfl rfl ?_
    refine s_y (y_T (y_gtr rfl rfl) (by assumption)) rfl rfl rfl ?_
    refine s_y (y_move rfl) rfl rfl rfl ?_
    iterate 5 refine s_skip rfl rfl rfl ?_
    refine s_y (y_pickT rfl rfl) rfl rfl rfl ?_
    refine s_y (y_move rfl) rfl rfl rfl ?_
    iterate 2 refine s_skip rfl rfl rfl ?_
    refine s_y (y_pickT rfl rfl) rfl rfl rfl ?_
    refine s_y (y_move rfl) rfl rfl rfl ?_
    iterate 2 refine s_skip rfl rfl rfl ?_
    refine s_y (y_pickT rfl rfl) rfl rfl rfl ?_
    refine s_y (y_move rfl) rfl rfl rfl ?_
    iterate 3 refine s_skip rfl rfl rfl ?_
    refine s_y (y_pickT rfl rfl) rfl rfl rfl ?_
    refine s_y (y_move rfl) rfl rfl rfl ?_
    iterate 2 refine s_skip rfl rfl rfl ?_
    refine s_y (y_pickT rfl rfl) rfl rfl rfl ?_
    refine s_nil ?_
    refine f_then ?_
    refine c_condT rfl ?_
    refine c_seq ?_
    refine c_region ?_
    refine s_call (en_f rfl Try.call19) awake_spec rfl rfl rfl (fun _ => ?_)
    refine s_y (y_assign rfl) rfl rfl rfl ?_
    refine s_nil ?_
    refine f_then ?_
    refine c_ret ?_
    refine f_thenR ?_
    exact f_ret () (res1 rfl rfl) (fun w h => h)
  refine c_seq ?_
  refine c_region ?_
  refine s_y (y_assign rfl) rfl rfl rfl ?_
  refine s_nil ?_
  refine f_then ?_
  refine c_seq ?_
  refine c_seq ?_
  refine c_region ?_
  refine s_y (y_move rfl) rfl rfl rfl ?_
  refine s_y (y_F (y_gtr rfl rfl) (by assumption)) rfl rfl rfl ?_
  refine s_y (y_move rfl) rfl rfl rfl ?_
  refine s_y (y_move rfl) rfl rfl rfl ?_
  refine s_y (y_move rfl) rfl rfl rfl ?_
  refine s_y (y_move rfl) rfl rfl rfl ?_
  refine s_call (en_f rfl Try.call21) good_spec rfl rfl rfl (fun _ => ?_)
  by_cases hg : goodB lot bad n 2048
  · rw [decide_eq_true hg]
    by_cases h2 : n < 1
    · refine s_y (y_notT rfl) rfl rfl rfl ?_
      refine s_y (y_pickF rfl rfl) rfl rfl rfl ?_
      refine s_y (y_move rfl) rfl rfl rfl ?_
      refine s_y (y_move rfl) rfl rfl rfl ?_
      refine s_y (y_T (y_lss rfl rfl) (by assumption)) rfl rfl rfl ?_
      refine s_y (y_pickF rfl rfl) rfl rfl rfl ?_
      refine s_y (y_move rfl) rfl rfl rfl ?_
      iterate 2 refine s_skip rfl rfl rfl ?_
      refine s_y (y_pickT rfl rfl) rfl rfl rfl ?_
      refine s_y (y_move rfl) rfl rfl rfl ?_
      iterate 3 refine s_skip rfl rfl rfl ?_
      refine s_y (y_pickT rfl rfl) rfl rfl rfl ?_
      refine s_y (y_move rfl) rfl rfl rfl ?_
      iterate 2 refine s_skip rfl rfl rfl ?_
      refine s_y (y_pickT rfl rfl) rfl rfl rfl ?_
      refine s_nil ?_
      refine f_then ?_
      refine c_condT rfl ?_
      refine c_seq ?_
      refine c_region ?_
      refine s_call (en_f rfl Try.call19) awake_spec rfl rfl rfl (fun _ => ?_)
      refine s_y (y_assign rfl) rfl rfl rfl ?_
      refine s_nil ?_
      refine f_then ?_
      refine c_ret ?_
      refine f_thenR ?_
      exact f_ret () (res1 rfl rfl) (fun w h => h)
    by_cases h3 : bad < 1
    · refine s_y (y_notT rfl) rfl rfl rfl ?_
      refine s_y (y_pickF rfl rfl) rfl rfl rfl ?_
      refine s_y (y_move rfl) rfl rfl rfl ?_
      refine s_y (y_move rfl) rfl rfl rfl ?_
      refine s_y (y_F (y_lss rfl rfl) (by assumption)) rfl rfl rfl ?_
      refine s_y (y_pickF rfl rfl) rfl rfl rfl ?_
      refine s_y (y_move rfl) rfl rfl rfl ?_
      refine s_y (y_move rfl) rfl rfl rfl ?_
      refine s_y (y_T (y_lss rfl rfl) (by assumption)) rfl rfl rfl ?_
      refine s_y (y_pickF rfl rfl) rfl rfl rfl ?_
      refine s_y (y_move rfl) rfl rfl rfl ?_
      iterate 3 refine s_skip rfl rfl rfl ?_
      refine s_y (y_pickT rfl rfl) rfl rfl rfl ?_
      refine s_y (y_move rfl) rfl rfl rfl ?_
      iterate 2 refine s_skip rfl rfl rfl ?_
      refine s_y (y_pickT rfl rfl) rfl rfl rfl ?_
      refine s_nil ?_
      refine f_then ?_
      refine c_condT rfl ?_
      refine c_seq ?_
      refine c_region ?_
      refine s_call (en_f rfl Try.call19) awake_spec rfl rfl rfl (fun _ => ?_)
      refine s_y (y_assign rfl) rfl rfl rfl ?_
      refine s_nil ?_
      refine f_then ?_
      refine c_ret ?_
      refine f_thenR ?_
      exact f_ret () (res1 rfl rfl) (fun w h => h)
    by_cases h4 : lot ≤ bad
    · refine s_y (y_notT rfl) rfl rfl rfl ?_
      refine s_y (y_pickF rfl rfl) rfl rfl rfl ?_
      refine s_y (y_move rfl) rfl rfl rfl ?_
      refine s_y (y_move rfl) rfl rfl rfl ?_
      refine s_y (y_F (y_lss rfl rfl) (by assumption)) rfl rfl rfl ?_
      refine s_y (y_pickF rfl rfl) rfl rfl rfl ?_
      refine s_y (y_move rfl) rfl rfl rfl ?_
      refine s_y (y_move rfl) rfl rfl rfl ?_
      refine s_y (y_F (y_lss rfl rfl) (by assumption)) rfl rfl rfl ?_
      refine s_y (y_pickF rfl rfl) rfl rfl rfl ?_
      refine s_y (y_move rfl) rfl rfl rfl ?_
      refine s_y (y_move rfl) rfl rfl rfl ?_
      refine s_y (y_move rfl) rfl rfl rfl ?_
      refine s_y (y_T (y_geq rfl rfl) (by assumption)) rfl rfl rfl ?_
      refine s_y (y_pickF rfl rfl) rfl rfl rfl ?_
      refine s_y (y_move rfl) rfl rfl rfl ?_
      iterate 2 refine s_skip rfl rfl rfl ?_
      refine s_y (y_pickT rfl rfl) rfl rfl rfl ?_
      refine s_nil ?_
      refine f_then ?_
      refine c_condT rfl ?_
      refine c_seq ?_
      refine c_region ?_
      refine s_call (en_f rfl Try.call19) awake_spec rfl rfl rfl (fun _ => ?_)
      refine s_y (y_assign rfl) rfl rfl rfl ?_
      refine s_nil ?_
      refine f_then ?_
      refine c_ret ?_
      refine f_thenR ?_
      exact f_ret () (res1 rfl rfl) (fun w h => h)
    by_cases h5 : c < 0
    · refine s_y (y_notT rfl) rfl rfl rfl ?_
      refine s_y (y_pickF rfl rfl) rfl rfl rfl ?_
      refine s_y (y_move rfl) rfl rfl rfl ?_
      refine s_y (y_move rfl) rfl rfl rfl ?_
      refine s_y (y_F (y_lss rfl rfl) (by assumption)) rfl rfl rfl ?_
      refine s_y (y_pickF rfl rfl) rfl rfl rfl ?_
      refine s_y (y_move rfl) rfl rfl rfl ?_
      refine s_y (y_move rfl) rfl rfl rfl ?_
      refine s_y (y_F (y_lss rfl rfl) (by assumption)) rfl rfl rfl ?_
      refine s_y (y_pickF rfl rfl) rfl rfl rfl ?_
      refine s_y (y_move rfl) rfl rfl rfl ?_
      refine s_y (y_move rfl) rfl rfl rfl ?_
      refine s_y (y_move rfl) rfl rfl rfl ?_
      refine s_y (y_F (y_geq rfl rfl) (by assumption)) rfl rfl rfl ?_
      refine s_y (y_pickF rfl rfl) rfl rfl rfl ?_
      refine s_y (y_move rfl) rfl rfl rfl ?_
      refine s_y (y_move rfl) rfl rfl rfl ?_
      refine s_y (y_T (y_lss rfl rfl) (by assumption)) rfl rfl rfl ?_
      refine s_y (y_pickF rfl rfl) rfl rfl rfl ?_
      refine s_nil ?_
      refine f_then ?_
      refine c_condT rfl ?_
      refine c_seq ?_
      refine c_region ?_
      refine s_call (en_f rfl Try.call19) awake_spec rfl rfl rfl (fun _ => ?_)
      refine s_y (y_assign rfl) rfl rfl rfl ?_
      refine s_nil ?_
      refine f_then ?_
      refine c_ret ?_
      refine f_thenR ?_
      exact f_ret () (res1 rfl rfl) (fun w h => h)
    obtain ⟨g1, g2, g3, g4, g5, g6⟩ := hg
    obtain ⟨L, rfl⟩ : ∃ k : Nat, lot = ((k + 1 : Nat) : Int) := ⟨(lot - 1).toNat, by omega⟩
    obtain ⟨B, rfl⟩ : ∃ k : Nat, bad = ((k + 1 : Nat) : Int) := ⟨(bad - 1).toNat, by omega⟩
    obtain ⟨M0, rfl⟩ : ∃ k : Nat, n = ((k + 1 : Nat) : Int) := ⟨(n - 1).toNat, by omega⟩
    have e1 : ((L + 1 : Nat) : Int) - 1 = (L : Int) := by omega
    have e2 : ((B + 1 : Nat) : Int) - 1 = (B : Int) := by omega
    have e3 : ((M0 + 1 : Nat) : Int) - 1 = (M0 : Int) := by omega
    refine s_y (y_notT rfl) rfl rfl rfl ?_
    refine s_y (y_pickF rfl rfl) rfl rfl rfl ?_
    refine s_y (y_move rfl) rfl rfl rfl ?_
    refine s_y (y_move rfl) rfl rfl rfl ?_
    refine s_y (y_F (y_lss rfl rfl) (by assumption)) rfl rfl rfl ?_
    refine s_y (y_pickF rfl rfl) rfl rfl rfl ?_
    refine s_y (y_move rfl) rfl rfl rfl ?_
    refine s_y (y_move rfl) rfl rfl rfl ?_
    refine s_y (y_F (y_lss rfl rfl) (by assumption)) rfl rfl rfl ?_
    refine s_y (y_pickF rfl rfl) rfl rfl rfl ?_
    refine s_y (y_move rfl) rfl rfl rfl ?_
    refine s_y (y_move rfl) rfl rfl rfl ?_
    refine s_y (y_move rfl) rfl rfl rfl ?_
    refine s_y (y_F (y_geq rfl rfl) (by assumption)) rfl rfl rfl ?_
    refine s_y (y_pickF rfl rfl) rfl rfl rfl ?_
    refine s_y (y_move rfl) rfl rfl rfl ?_
    refine s_y (y_move rfl) rfl rfl rfl ?_
    refine s_y (y_F (y_lss rfl rfl) (by assumption)) rfl rfl rfl ?_
    refine s_y (y_pickF rfl rfl) rfl rfl rfl ?_
    refine s_nil ?_
    refine f_then ?_
    refine c_condF rfl ?_
    refine c_skip ?_
    refine f_then ?_
    refine c_seq ?_
    refine c_region ?_
    refine s_y (y_move rfl) rfl rfl rfl ?_
    refine s_y (y_move rfl) rfl rfl rfl ?_
    refine s_y (y_move rfl) rfl rfl rfl ?_
    refine s_y (y_move rfl) rfl rfl rfl ?_
    refine s_call (en_f rfl Try.call20) (accept2_spec (W := W) (N := N) (lot := L + 1) (bad := B + 1) (n := M0 + 1) (c := c) (by omega) (by omega) (by omega)) rfl rfl rfl (fun r1 => ?_)
    refine s_y (y_move rfl) rfl rfl rfl ?_
    refine s_y (y_extract rfl rfl) rfl rfl rfl ?_
    refine s_y (y_extract rfl rfl) rfl rfl rfl ?_
    refine s_do (do_alloc Try.tab rfl) rfl rfl rfl (fun b9 => ?_)
    refine s_set (set_25 0 rfl rfl rfl rfl) rfl rfl ?_
    refine s_y (y_assign rfl) rfl rfl rfl ?_
    refine s_nil ?_
    refine f_then ?_
    refine c_seq ?_
    refine c_region ?_
    refine s_y (y_move rfl) rfl rfl rfl ?_
    refine s_y (y_sub rfl rfl (by omega)) rfl rfl rfl ?_
    refine s_y (y_move rfl) rfl rfl rfl ?_
    refine s_y (y_sub rfl rfl (by omega)) rfl rfl rfl ?_
    refine s_y (y_move rfl) rfl rfl rfl ?_
    refine s_y (y_sub rfl rfl (by omega)) rfl rfl rfl ?_
    refine s_y (y_move rfl) rfl rfl rfl ?_
    refine s_y (y_sub rfl rfl (by omega)) rfl rfl rfl ?_
    rw [e1, e2, e3]
    refine St.cls (C' := K W ([(b9, row 25 [r1.v1, r1.v2])] :: r1.L :: N)) ?_ (fun w h => h)
    refine s_call (en_f rfl Try.call20) (by1 (u2 := fun v w => .tuple #[.agg #[v, w], .int .i64 0]) (accept2_spec (lot := L) (bad := B) (n := M0) (c := c - 1) (by omega) (by omega) (by omega)) rfl) rfl rfl rfl (fun r2 => ?_)
    refine s_y (y_move rfl) rfl rfl rfl ?_
    refine s_y (y_extract rfl rfl) rfl rfl rfl ?_
    refine s_y (y_extract rfl rfl) rfl rfl rfl ?_
    refine s_do (do_alloc Try.tab rfl) rfl rfl rfl (fun b11 => ?_)
    refine s_set (set_25 0 rfl rfl rfl rfl) rfl rfl ?_
    refine s_y (y_assign rfl) rfl rfl rfl ?_
    refine s_nil ?_
    refine f_then ?_
    refine c_seq ?_
    refine c_region ?_
    refine s_y (y_move rfl) rfl rfl rfl ?_
    refine s_y (y_sub rfl rfl (by omega)) rfl rfl rfl ?_
    refine s_y (y_move rfl) rfl rfl rfl ?_
    refine s_y (y_move rfl) rfl rfl rfl ?_
    refine s_y (y_sub rfl rfl (by omega)) rfl rfl rfl ?_
    refine s_y (y_move rfl) rfl rfl rfl ?_
    rw [e1, e3]
    refine St.cls (C' := K W ([(b11, row 25 [r2.v1, r2.v2])] :: [(b9, row 25 [r1.v1, r1.v2])] :: r2.L :: r1.L :: N)) ?_ (fun w h => h)
    refine s_call (en_f rfl Try.call20) (by2 (u2 := fun v w => .tuple #[.agg #[v, w], .int .i64 0]) (accept2_spec (lot := L) (bad := B + 1) (n := M0) (c := c) (by omega) (by omega) (by omega)) rfl) rfl rfl rfl (fun r3 => ?_)
    refine s_y (y_move rfl) rfl rfl rfl ?_
    refine s_y (y_extract rfl rfl) rfl rfl rfl ?_
    refine s_y (y_extract rfl rfl) rfl rfl rfl ?_
    refine s_do (do_alloc Try.tab rfl) rfl rfl rfl (fun b13 => ?_)
    refine s_set (set_25 0 rfl rfl rfl rfl) rfl rfl ?_
    refine s_y (y_assign rfl) rfl rfl rfl ?_
    refine s_nil ?_
    refine f_then ?_
    refine c_seq ?_
    refine SC.cls (C' := K W ([(b13, row 25 [r3.v1, r3.v2])] :: [(b11, row 25 [r2.v1, r2.v2])] :: [(b9, row 25 [r1.v1, r1.v2])] :: r3.L :: r2.L :: r1.L :: N)) ?_ (fun w h => h)
    obtain ⟨A, hA⟩ : ∃ A, A = accN (L + 1) (B + 1) (M0 + 1) c := ⟨_, rfl⟩
    obtain ⟨An, hAn⟩ : ∃ An, An = bino (L + 1) (M0 + 1) := ⟨_, rfl⟩
    obtain ⟨A1, hA1⟩ : ∃ A1, A1 = accN L B M0 (c - 1) := ⟨_, rfl⟩
    obtain ⟨A2, hA2⟩ : ∃ A2, A2 = accN L (B + 1) M0 c := ⟨_, rfl⟩
    obtain ⟨Bn, hBn⟩ : ∃ Bn, Bn = bino L M0 := ⟨_, rfl⟩
    haveI k11 : NatV (K W (r1.L :: N)) r1.v1 (lwN A An) := r1.ok1.of (by rw [hA, hAn])
    haveI k12 : NatV (K W (r1.L :: N)) r1.v2 (lwD A An - 1) := r1.ok2.of (by rw [hA, hAn])
    haveI k21 : NatV (K W (r2.L :: r1.L :: N)) r2.v1 (lwN A1 Bn) := r2.ok1.of (by rw [hA1, hBn])
    haveI k22 : NatV (K W (r2.L :: r1.L :: N)) r2.v2 (lwD A1 Bn - 1) := r2.ok2.of (by rw [hA1, hBn])
    haveI k31 : NatV (K W (r3.L :: r2.L :: r1.L :: N)) r3.v1 (lwN A2 Bn) := r3.ok1.of (by rw [hA2, hBn])
    haveI k32 : NatV (K W (r3.L :: r2.L :: r1.L :: N)) r3.v2 (lwD A2 Bn - 1) := r3.ok2.of (by rw [hA2, hBn])
    have hn1 : An ≠ 0 := hAn ▸ bino_nz (by omega)
    have hn2 : Bn ≠ 0 := hBn ▸ bino_nz (by omega)
    obtain ⟨u, hu⟩ : ∃ u, u = 300 := ⟨_, rfl⟩
    have hLu : L + 1 ≤ u := by omega
    have b0 : An ≤ 2 ^ u := hAn ▸ bino_e (by omega)
    have b1 : Bn ≤ 2 ^ u := hBn ▸ bino_e (by omega)
    have b2 : A ≤ 2 ^ u := Nat.le_trans (hA ▸ acc_le (by omega)) (hAn ▸ b0)
    have b3 : A1 ≤ 2 ^ u := Nat.le_trans (hA1 ▸ acc_le (by omega)) (hBn ▸ b1)
    have b4 : A2 ≤ 2 ^ u := Nat.le_trans (hA2 ▸ acc_le (by omega)) (hBn ▸ b1)
    have c1 : B + 1 ≤ 2 ^ 9 := by omega
    have c2 : L + 1 ≤ 2 ^ 9 := by omega
    have c3 : L - B ≤ 2 ^ 9 := by omega
    have fd1 : (B + 1) * A1 ≤ 2 ^ (9 + u) := fit c1 b3 (by omega)
    have fd2 : (L + 1) * Bn ≤ 2 ^ (9 + u) := fit c2 b1 (by omega)
    have fd3 : (L - B) * A2 ≤ 2 ^ (9 + u) := fit c3 b4 (by omega)
    have hh1 : (M0 + 1) * A = (B + 1) * A1 + (L - B) * A2 := by
      rw [hA, hA1, hA2]
      exact acc_first (by omega) (by omega)
    have hh2 : An * (M0 + 1) = Bn * (L + 1) := by
      rw [hAn, hBn]
      exact bino_succ L M0
    have hfirst : ((B + 1) * A1 * ((L + 1) * Bn) + (L - B) * A2 * ((L + 1) * Bn)) * An = A * ((L + 1) * Bn * ((L + 1) * Bn)) := first_cross hh1 hh2
    refine c_drawn [(0, .int .i64 ((L + 1 : Nat) : Int)), (1, .int .i64 ((B + 1 : Nat) : Int)), (9, .pointer (some ⟨b9, 0, none⟩)), (10, .int .i64 0), (11, .pointer (some ⟨b11, 0, none⟩)), (12, .int .i64 0), (13, .pointer (some ⟨b13, 0, none⟩)), (14, .int .i64 0)] [[], [], [(0, 79), (1, 80)], [], [(2, 81), (3, 82)], [(4, 83)], [(5, 78)], [(5, 78)], [], [(8, 15), (6, 84)], [(7, 85)]] [(8, 15), (10, 16)] (fun s => [bxD 25 [.slice none 0 0, .slice none 0 0] (s 8) (s 9), [(b13, row 25 [r3.v1, r3.v2])], [(b11, row 25 [r2.v1, r2.v2])], [(b9, row 25 [r1.v1, r1.v2])]])
      [fun _ v _ => .int .i64 ((B + 1 : Nat) : Int) = v, fun _ v _ => .int .i64 ((L + 1 : Nat) : Int) = v, fun N v _ => ∃ u w, .agg #[u, w] = v ∧ NatV (K W N) u (lwN (B + 1) (L + 1)) ∧ NatV (K W N) w (lwD (B + 1) (L + 1) - 1), fun _ v _ => .agg #[r2.v1, r2.v2] = v, fun N v _ => ∃ u w, .tuple #[.agg #[u, w], .int .i64 0] = v ∧ NatV (K W N) u (lwN ((B + 1) * A1) ((L + 1) * Bn)) ∧ NatV (K W N) w (lwD ((B + 1) * A1) ((L + 1) * Bn) - 1), fun N v _ => ∃ u w, .tuple #[.agg #[u, w], .int .i64 0] = v ∧ NatV (K W N) u (lwN ((B + 1) * A1) ((L + 1) * Bn)) ∧ NatV (K W N) w (lwD ((B + 1) * A1) ((L + 1) * Bn) - 1), fun N v _ => ∃ u w, .agg #[u, w] = v ∧ NatV (K W N) u (lwN ((B + 1) * A1) ((L + 1) * Bn)) ∧ NatV (K W N) w (lwD ((B + 1) * A1) ((L + 1) * Bn) - 1), fun _ v _ => .int .i64 0 = v, fun _ v _ => ∃ b, Value.pointer (some ⟨b, 0, none⟩) = v, fun N _ c => ∃ u w, [(0, row 25 [u, w])] = c ∧ NatV (K W N) u (lwN ((B + 1) * A1) ((L + 1) * Bn)) ∧ NatV (K W N) w (lwD ((B + 1) * A1) ((L + 1) * Bn) - 1), fun _ v _ => .int .i64 0 = v]
      (r3.L :: r2.L :: r1.L :: N) (fun N' => NatV (K W N') r1.v1 (lwN (A) (An)) ∧ NatV (K W N') r1.v2 (lwD (A) (An) - 1) ∧ NatV (K W N') r2.v1 (lwN (A1) (Bn)) ∧ NatV (K W N') r2.v2 (lwD (A1) (Bn) - 1) ∧ NatV (K W N') r3.v1 (lwN (A2) (Bn)) ∧ NatV (K W N') r3.v2 (lwD (A2) (Bn) - 1) ∧ ∃ M, N' = M ++ N) ⟨inferInstance, inferInstance, inferInstance, inferInstance, inferInstance, inferInstance, [r3.L, r2.L, r1.L], rfl⟩ (fun M N' ⟨h0, h1, h2, h3, h4, h5, M2, e⟩ => ⟨h0.cls fun _ k => k.bck, h1.cls fun _ k => k.bck, h2.cls fun _ k => k.bck, h3.cls fun _ k => k.bck, h4.cls fun _ k => k.bck, h5.cls fun _ k => k.bck, M ++ M2, by rw [e, List.append_assoc]⟩) Try.mixed (by kernel_rfl) rfl ⟨rfl, rfl, rfl, rfl, rfl, rfl, rfl, rfl, trivial⟩ (fun w h => h.addNil)
      ⟨fun _ _ _ _ h => h, fun _ _ _ _ h => h, fun _ _ _ _ ⟨u, w, e, h1, h2⟩ => ⟨u, w, e, h1.cls fun _ k => k.bck, h2.cls fun _ k => k.bck⟩, fun _ _ _ _ h => h, fun _ _ _ _ ⟨u, w, e, h1, h2⟩ => ⟨u, w, e, h1.cls fun _ k => k.bck, h2.cls fun _ k => k.bck⟩, fun _ _ _ _ ⟨u, w, e, h1, h2⟩ => ⟨u, w, e, h1.cls fun _ k => k.bck, h2.cls fun _ k => k.bck⟩, fun _ _ _ _ ⟨u, w, e, h1, h2⟩ => ⟨u, w, e, h1.cls fun _ k => k.bck, h2.cls fun _ k => k.bck⟩, fun _ _ _ _ h => h, fun _ _ _ _ h => h, fun _ _ _ _ ⟨u, w, e, h1, h2⟩ => ⟨u, w, e, h1.cls fun _ k => k.bck, h2.cls fun _ k => k.bck⟩, fun _ _ _ _ h => h, trivial⟩
      ⟨?_, ?_, ?_, ?_, ?_, ?_, ?_, ?_, ?_, ?_, ?_, trivial⟩ ?_
    · intro s N' gN h0 hn0
      show Acts _ _ _ (K W (bxD 25 [.slice none 0 0, .slice none 0 0] (s 8) (s 9) :: [(b13, row 25 [r3.v1, r3.v2])] :: [(b11, row 25 [r2.v1, r2.v2])] :: [(b9, row 25 [r1.v1, r1.v2])] :: N')) _ _
      exact a_y (y_move rfl) fun w h => ⟨[], [], h, rfl⟩
    · intro s N' gN h0 hn0
      show Acts _ _ _ (K W (bxD 25 [.slice none 0 0, .slice none 0 0] (s 8) (s 9) :: [(b13, row 25 [r3.v1, r3.v2])] :: [(b11, row 25 [r2.v1, r2.v2])] :: [(b9, row 25 [r1.v1, r1.v2])] :: N')) _ _
      exact a_y (y_move rfl) fun w h => ⟨[], [], h, rfl⟩
    · rintro s N' gN h0 hn0 v0 d0 e0 rfl v1 d1 e1 rfl
      show Acts _ _ _ (K W (bxD 25 [.slice none 0 0, .slice none 0 0] (s 8) (s 9) :: [(b13, row 25 [r3.v1, r3.v2])] :: [(b11, row 25 [r2.v1, r2.v2])] :: [(b9, row 25 [r1.v1, r1.v2])] :: N')) _ _
      haveI := gN.1
      haveI := gN.2.1
      haveI := gN.2.2.1
      haveI := gN.2.2.2.1
      haveI := gN.2.2.2.2.1
      haveI := gN.2.2.2.2.2.1
      exact a_call (en_f rfl Try.call32) (Spec.boxed2 (u := fun v w => .agg #[v, w]) [bxD 25 [.slice none 0 0, .slice none 0 0] (s 8) (s 9), [(b13, row 25 [r3.v1, r3.v2])], [(b11, row 25 [r2.v1, r2.v2])], [(b9, row 25 [r1.v1, r1.v2])]] (by rw [boxes_bxD25]; rfl) (ratio_spec (a := B + 1) (b := L + 1) (by omega) (by omega) (by omega))) fun r w h => ⟨[r.L], [], h, r.v1, r.v2, rfl, r.ok1, r.ok2⟩
    · intro s N' gN h0 hn0
      show Acts _ _ _ (K W (bxD 25 [.slice none 0 0, .slice none 0 0] (s 8) (s 9) :: [(b13, row 25 [r3.v1, r3.v2])] :: [(b11, row 25 [r2.v1, r2.v2])] :: [(b9, row 25 [r1.v1, r1.v2])] :: N')) _ _
      exact a_y (y_loadA Try.tab rfl rfl rfl rfl (cells_row0 2 rfl rfl)) fun w h => ⟨[], [], h, rfl⟩
    · rintro s N' gN h0 hn0 v2 d2 e2 ⟨uz2, wz2, rfl, mz2, lz2⟩ v3 d3 e3 rfl
      show Acts _ _ _ (K W (bxD 25 [.slice none 0 0, .slice none 0 0] (s 8) (s 9) :: [(b13, row 25 [r3.v1, r3.v2])] :: [(b11, row 25 [r2.v1, r2.v2])] :: [(b9, row 25 [r1.v1, r1.v2])] :: N')) _ _
      haveI := gN.1
      haveI := gN.2.1
      haveI := gN.2.2.1
      haveI := gN.2.2.2.1
      haveI := gN.2.2.2.2.1
      haveI := gN.2.2.2.2.2.1
      haveI : NatV (K W N') uz2 (lwN (B + 1) (L + 1)) := mz2
      haveI : NatV (K W N') wz2 (lwD (B + 1) (L + 1) - 1) := lz2
      exact a_call (en_f rfl Try.call38) (Spec.boxed2 (u := fun v w => .tuple #[.agg #[v, w], .int .i64 0]) [bxD 25 [.slice none 0 0, .slice none 0 0] (s 8) (s 9), [(b13, row 25 [r3.v1, r3.v2])], [(b11, row 25 [r2.v1, r2.v2])], [(b9, row 25 [r1.v1, r1.v2])]] (by rw [boxes_bxD25]; rfl) (fmul2_spec (p := B + 1) (q := L + 1) (r := A1) (s := Bn) (wl_e (e := 9) (by omega) (by omega)) (wl_e c2 (by omega)) (wl_e b3 (by omega)) (wl_e b1 (by omega)) (by omega) hn2 (fit_lt (a := 9 + u) (e := 16384) fd1 (by omega)) (fit_lt (a := 9 + u) (e := 16384) fd2 (by omega)))) fun r w h => ⟨[r.L], [], h, r.v1, r.v2, rfl, r.ok1, r.ok2⟩
    · rintro s N' gN h0 hn0 v4 d4 e4 ⟨uz4, wz4, rfl, mz4, lz4⟩
      show Acts _ _ _ (K W (bxD 25 [.slice none 0 0, .slice none 0 0] (s 8) (s 9) :: [(b13, row 25 [r3.v1, r3.v2])] :: [(b11, row 25 [r2.v1, r2.v2])] :: [(b9, row 25 [r1.v1, r1.v2])] :: N')) _ _
      exact a_y (y_move rfl) fun w h => ⟨[], [], h, uz4, wz4, rfl, mz4, lz4⟩
    · rintro s N' gN h0 hn0 v5 d5 e5 ⟨uz5, wz5, rfl, mz5, lz5⟩
      show Acts _ _ _ (K W (bxD 25 [.slice none 0 0, .slice none 0 0] (s 8) (s 9) :: [(b13, row 25 [r3.v1, r3.v2])] :: [(b11, row 25 [r2.v1, r2.v2])] :: [(b9, row 25 [r1.v1, r1.v2])] :: N')) _ _
      exact a_y (y_extract rfl rfl) fun w h => ⟨[], [], h, uz5, wz5, rfl, mz5, lz5⟩
    · rintro s N' gN h0 hn0 v5 d5 e5 ⟨uz5, wz5, rfl, mz5, lz5⟩
      show Acts _ _ _ (K W (bxD 25 [.slice none 0 0, .slice none 0 0] (s 8) (s 9) :: [(b13, row 25 [r3.v1, r3.v2])] :: [(b11, row 25 [r2.v1, r2.v2])] :: [(b9, row 25 [r1.v1, r1.v2])] :: N')) _ _
      exact a_y (y_extract rfl rfl) fun w h => ⟨[], [], h, rfl⟩
    · intro s N' gN h0 hn0
      show Acts _ _ _ (K W (bxD 25 [.slice none 0 0, .slice none 0 0] (s 8) (s 9) :: [(b13, row 25 [r3.v1, r3.v2])] :: [(b11, row 25 [r2.v1, r2.v2])] :: [(b9, row 25 [r1.v1, r1.v2])] :: N')) _ _
      have hz : s 9 = none := hn0 9 rfl
      have hy : s 8 = none := h0
      rw [hy, hz]
      show Acts _ _ _ (K W ([] :: [(b13, row 25 [r3.v1, r3.v2])] :: [(b11, row 25 [r2.v1, r2.v2])] :: [(b9, row 25 [r1.v1, r1.v2])] :: N')) _ _
      exact a_do (do_alloc Try.tab rfl) fun bz w h => ⟨[], [], (by show K W (bxD 25 [.slice none 0 0, .slice none 0 0] (some (.pointer (some ⟨bz, 0, none⟩), [])) (s 9) :: [(b13, row 25 [r3.v1, r3.v2])] :: [(b11, row 25 [r2.v1, r2.v2])] :: [(b9, row 25 [r1.v1, r1.v2])] :: N') w; rw [hz]; exact h.weak [] (by simp [bxD, Value.cells])), bz, rfl⟩
    · rintro s N' gN h0 hn0 v8 d8 e8 ⟨bz8, rfl⟩ v6 d6 e6 ⟨uz6, wz6, rfl, mz6, lz6⟩
      show Acts _ _ _ (K W (bxD 25 [.slice none 0 0, .slice none 0 0] (s 8) (s 9) :: [(b13, row 25 [r3.v1, r3.v2])] :: [(b11, row 25 [r2.v1, r2.v2])] :: [(b9, row 25 [r1.v1, r1.v2])] :: N')) _ _
      have hy : s 9 = none := h0
      rw [e8, hy]
      show Acts _ _ _ (K W ([(bz8, row 25 [.slice none 0 0, .slice none 0 0])] :: [(b13, row 25 [r3.v1, r3.v2])] :: [(b11, row 25 [r2.v1, r2.v2])] :: [(b9, row 25 [r1.v1, r1.v2])] :: N')) _ _
      haveI : NatV (K W N') uz6 (lwN ((B + 1) * A1) ((L + 1) * Bn)) := mz6
      haveI : NatV (K W N') wz6 (lwD ((B + 1) * A1) ((L + 1) * Bn) - 1) := lz6
      exact a_set (set_25 0 rfl rfl rfl rfl) fun w h => ⟨[], [(0, row 25 [uz6, wz6])], (by show K W (bxD 25 [.slice none 0 0, .slice none 0 0] (s 8) (some (undef, [(0, row 25 [uz6, wz6])])) :: [(b13, row 25 [r3.v1, r3.v2])] :: [(b11, row 25 [r2.v1, r2.v2])] :: [(b9, row 25 [r1.v1, r1.v2])] :: N') w; rw [e8]; exact h), uz6, wz6, rfl, mz6, lz6⟩
    · rintro s N' gN h0 hn0 v7 d7 e7 rfl
      show Acts _ _ _ (K W (bxD 25 [.slice none 0 0, .slice none 0 0] (s 8) (s 9) :: [(b13, row 25 [r3.v1, r3.v2])] :: [(b11, row 25 [r2.v1, r2.v2])] :: [(b9, row 25 [r1.v1, r1.v2])] :: N')) _ _
      exact a_y (y_assign rfl) fun w h => ⟨[], [], h, rfl⟩
    · intro s N' gN hall v8 d8 e8 f8 v10 d10 e10 f10
      obtain ⟨v, z, u15, w15, hv, m15, l15⟩ := hall 9 (by decide)
      obtain ⟨b15, rfl⟩ := f8
      subst f10
      obtain ⟨q0, q1, q2, q3, q4, q5, M15, hM⟩ := gN
      subst hM
      show Fin _ _ _ _ (K W (bxD 25 [.slice none 0 0, .slice none 0 0] (s 8) (s 9) :: [(b13, row 25 [r3.v1, r3.v2])] :: [(b11, row 25 [r2.v1, r2.v2])] :: [(b9, row 25 [r1.v1, r1.v2])] :: (M15 ++ N)))
      rw [z, e8]
      obtain ⟨v1, v2⟩ := v
      dsimp only at hv
      subst hv
      clear z hall
      show Fin _ _ _ _ (K W ([(b15, row 25 [u15, w15])] :: [(b13, row 25 [r3.v1, r3.v2])] :: [(b11, row 25 [r2.v1, r2.v2])] :: [(b9, row 25 [r1.v1, r1.v2])] :: (M15 ++ N)))
      refine f_then ?_
      refine c_seq ?_
      clear k11 k12 k21 k22 k31 k32
      haveI := q0
      haveI := q1
      haveI := q2
      haveI := q3
      haveI := q4
      haveI := q5
      haveI := m15
      haveI := l15
      refine c_drawn [(0, .int .i64 ((L + 1 : Nat) : Int)), (1, .int .i64 ((B + 1 : Nat) : Int)), (9, .pointer (some ⟨b9, 0, none⟩)), (10, .int .i64 0), (11, .pointer (some ⟨b11, 0, none⟩)), (12, .int .i64 0), (13, .pointer (some ⟨b13, 0, none⟩)), (14, .int .i64 0), (15, .pointer (some ⟨b15, 0, none⟩)), (16, .int .i64 0)] [[], [], [(0, 87), (1, 88)], [], [(2, 89), (3, 90)], [], [(4, 91), (5, 92)], [(6, 93)], [(7, 86)], [(7, 86)], [], [(10, 17), (8, 94)], [(9, 95)]] [(10, 17), (12, 18)] (fun s => [bxD 25 [.slice none 0 0, .slice none 0 0] (s 10) (s 11), [(b15, row 25 [u15, w15])], [(b13, row 25 [r3.v1, r3.v2])], [(b11, row 25 [r2.v1, r2.v2])], [(b9, row 25 [r1.v1, r1.v2])]])
        [fun _ v _ => .int .i64 ((L + 1 : Nat) : Int) = v, fun _ v _ => .int .i64 ((B + 1 : Nat) : Int) = v, fun _ v _ => .int .i64 ((L - B : Nat) : Int) = v, fun _ v _ => .int .i64 ((L + 1 : Nat) : Int) = v, fun N v _ => ∃ u w, .agg #[u, w] = v ∧ NatV (K W N) u (lwN (L - B) (L + 1)) ∧ NatV (K W N) w (lwD (L - B) (L + 1) - 1), fun _ v _ => .agg #[r3.v1, r3.v2] = v, fun N v _ => ∃ u w, .tuple #[.agg #[u, w], .int .i64 0] = v ∧ NatV (K W N) u (lwN ((L - B) * A2) ((L + 1) * Bn)) ∧ NatV (K W N) w (lwD ((L - B) * A2) ((L + 1) * Bn) - 1), fun N v _ => ∃ u w, .tuple #[.agg #[u, w], .int .i64 0] = v ∧ NatV (K W N) u (lwN ((L - B) * A2) ((L + 1) * Bn)) ∧ NatV (K W N) w (lwD ((L - B) * A2) ((L + 1) * Bn) - 1), fun N v _ => ∃ u w, .agg #[u, w] = v ∧ NatV (K W N) u (lwN ((L - B) * A2) ((L + 1) * Bn)) ∧ NatV (K W N) w (lwD ((L - B) * A2) ((L + 1) * Bn) - 1), fun _ v _ => .int .i64 0 = v, fun _ v _ => ∃ b, Value.pointer (some ⟨b, 0, none⟩) = v, fun N _ c => ∃ u w, [(0, row 25 [u, w])] = c ∧ NatV (K W N) u (lwN ((L - B) * A2) ((L + 1) * Bn)) ∧ NatV (K W N) w (lwD ((L - B) * A2) ((L + 1) * Bn) - 1), fun _ v _ => .int .i64 0 = v]
        (M15 ++ N) (fun N' => NatV (K W N') r1.v1 (lwN (A) (An)) ∧ NatV (K W N') r1.v2 (lwD (A) (An) - 1) ∧ NatV (K W N') r2.v1 (lwN (A1) (Bn)) ∧ NatV (K W N') r2.v2 (lwD (A1) (Bn) - 1) ∧ NatV (K W N') r3.v1 (lwN (A2) (Bn)) ∧ NatV (K W N') r3.v2 (lwD (A2) (Bn) - 1) ∧ NatV (K W N') u15 (lwN ((B + 1) * A1) ((L + 1) * Bn)) ∧ NatV (K W N') w15 (lwD ((B + 1) * A1) ((L + 1) * Bn) - 1) ∧ ∃ M, N' = M ++ N) ⟨inferInstance, inferInstance, inferInstance, inferInstance, inferInstance, inferInstance, inferInstance, inferInstance, M15, rfl⟩ (fun M N' ⟨h0, h1, h2, h3, h4, h5, h6, h7, M2, e⟩ => ⟨h0.cls fun _ k => k.bck, h1.cls fun _ k => k.bck, h2.cls fun _ k => k.bck, h3.cls fun _ k => k.bck, h4.cls fun _ k => k.bck, h5.cls fun _ k => k.bck, h6.cls fun _ k => k.bck, h7.cls fun _ k => k.bck, M ++ M2, by rw [e, List.append_assoc]⟩) Try.mixed (by kernel_rfl) rfl ⟨rfl, rfl, rfl, rfl, rfl, rfl, rfl, rfl, rfl, rfl, trivial⟩ (fun w h => h.addNil)
        ⟨fun _ _ _ _ h => h, fun _ _ _ _ h => h, fun _ _ _ _ h => h, fun _ _ _ _ h => h, fun _ _ _ _ ⟨u, w, e, h1, h2⟩ => ⟨u, w, e, h1.cls fun _ k => k.bck, h2.cls fun _ k => k.bck⟩, fun _ _ _ _ h => h, fun _ _ _ _ ⟨u, w, e, h1, h2⟩ => ⟨u, w, e, h1.cls fun _ k => k.bck, h2.cls fun _ k => k.bck⟩, fun _ _ _ _ ⟨u, w, e, h1, h2⟩ => ⟨u, w, e, h1.cls fun _ k => k.bck, h2.cls fun _ k => k.bck⟩, fun _ _ _ _ ⟨u, w, e, h1, h2⟩ => ⟨u, w, e, h1.cls fun _ k => k.bck, h2.cls fun _ k => k.bck⟩, fun _ _ _ _ h => h, fun _ _ _ _ h => h, fun _ _ _ _ ⟨u, w, e, h1, h2⟩ => ⟨u, w, e, h1.cls fun _ k => k.bck, h2.cls fun _ k => k.bck⟩, fun _ _ _ _ h => h, trivial⟩
        ⟨?_, ?_, ?_, ?_, ?_, ?_, ?_, ?_, ?_, ?_, ?_, ?_, ?_, trivial⟩ ?_
      · intro s N' gN h0 hn0
        show Acts _ _ _ (K W (bxD 25 [.slice none 0 0, .slice none 0 0] (s 10) (s 11) :: [(b15, row 25 [u15, w15])] :: [(b13, row 25 [r3.v1, r3.v2])] :: [(b11, row 25 [r2.v1, r2.v2])] :: [(b9, row 25 [r1.v1, r1.v2])] :: N')) _ _
        exact a_y (y_move rfl) fun w h => ⟨[], [], h, rfl⟩
      · intro s N' gN h0 hn0
        show Acts _ _ _ (K W (bxD 25 [.slice none 0 0, .slice none 0 0] (s 10) (s 11) :: [(b15, row 25 [u15, w15])] :: [(b13, row 25 [r3.v1, r3.v2])] :: [(b11, row 25 [r2.v1, r2.v2])] :: [(b9, row 25 [r1.v1, r1.v2])] :: N')) _ _
        exact a_y (y_move rfl) fun w h => ⟨[], [], h, rfl⟩
      · rintro s N' gN h0 hn0 v0 d0 e0 rfl v1 d1 e1 rfl
        show Acts _ _ _ (K W (bxD 25 [.slice none 0 0, .slice none 0 0] (s 10) (s 11) :: [(b15, row 25 [u15, w15])] :: [(b13, row 25 [r3.v1, r3.v2])] :: [(b11, row 25 [r2.v1, r2.v2])] :: [(b9, row 25 [r1.v1, r1.v2])] :: N')) _ _
        exact a_y (y_val (y_sub rfl rfl (by omega)) (by congr 1; omega)) fun w h => ⟨[], [], h, rfl⟩
      · intro s N' gN h0 hn0
        show Acts _ _ _ (K W (bxD 25 [.slice none 0 0, .slice none 0 0] (s 10) (s 11) :: [(b15, row 25 [u15, w15])] :: [(b13, row 25 [r3.v1, r3.v2])] :: [(b11, row 25 [r2.v1, r2.v2])] :: [(b9, row 25 [r1.v1, r1.v2])] :: N')) _ _
        exact a_y (y_move rfl) fun w h => ⟨[], [], h, rfl⟩
      · rintro s N' gN h0 hn0 v2 d2 e2 rfl v3 d3 e3 rfl
        show Acts _ _ _ (K W (bxD 25 [.slice none 0 0, .slice none 0 0] (s 10) (s 11) :: [(b15, row 25 [u15, w15])] :: [(b13, row 25 [r3.v1, r3.v2])] :: [(b11, row 25 [r2.v1, r2.v2])] :: [(b9, row 25 [r1.v1, r1.v2])] :: N')) _ _
        haveI := gN.1
        haveI := gN.2.1
        haveI := gN.2.2.1
        haveI := gN.2.2.2.1
        haveI := gN.2.2.2.2.1
        haveI := gN.2.2.2.2.2.1
        haveI := gN.2.2.2.2.2.2.1
        haveI := gN.2.2.2.2.2.2.2.1
        exact a_call (en_f rfl Try.call32) (Spec.boxed2 (u := fun v w => .agg #[v, w]) [bxD 25 [.slice none 0 0, .slice none 0 0] (s 10) (s 11), [(b15, row 25 [u15, w15])], [(b13, row 25 [r3.v1, r3.v2])], [(b11, row 25 [r2.v1, r2.v2])], [(b9, row 25 [r1.v1, r1.v2])]] (by rw [boxes_bxD25]; rfl) (ratio_spec (a := L - B) (b := L + 1) (by omega) (by omega) (by omega))) fun r w h => ⟨[r.L], [], h, r.v1, r.v2, rfl, r.ok1, r.ok2⟩
      · intro s N' gN h0 hn0
        show Acts _ _ _ (K W (bxD 25 [.slice none 0 0, .slice none 0 0] (s 10) (s 11) :: [(b15, row 25 [u15, w15])] :: [(b13, row 25 [r3.v1, r3.v2])] :: [(b11, row 25 [r2.v1, r2.v2])] :: [(b9, row 25 [r1.v1, r1.v2])] :: N')) _ _
        exact a_y (y_loadA Try.tab rfl rfl rfl rfl (cells_row0 2 rfl rfl)) fun w h => ⟨[], [], h, rfl⟩
      · rintro s N' gN h0 hn0 v4 d4 e4 ⟨uz4, wz4, rfl, mz4, lz4⟩ v5 d5 e5 rfl
        show Acts _ _ _ (K W (bxD 25 [.slice none 0 0, .slice none 0 0] (s 10) (s 11) :: [(b15, row 25 [u15, w15])] :: [(b13, row 25 [r3.v1, r3.v2])] :: [(b11, row 25 [r2.v1, r2.v2])] :: [(b9, row 25 [r1.v1, r1.v2])] :: N')) _ _
        haveI := gN.1
        haveI := gN.2.1
        haveI := gN.2.2.1
        haveI := gN.2.2.2.1
        haveI := gN.2.2.2.2.1
        haveI := gN.2.2.2.2.2.1
        haveI := gN.2.2.2.2.2.2.1
        haveI := gN.2.2.2.2.2.2.2.1
        haveI : NatV (K W N') uz4 (lwN (L - B) (L + 1)) := mz4
        haveI : NatV (K W N') wz4 (lwD (L - B) (L + 1) - 1) := lz4
        exact a_call (en_f rfl Try.call38) (Spec.boxed2 (u := fun v w => .tuple #[.agg #[v, w], .int .i64 0]) [bxD 25 [.slice none 0 0, .slice none 0 0] (s 10) (s 11), [(b15, row 25 [u15, w15])], [(b13, row 25 [r3.v1, r3.v2])], [(b11, row 25 [r2.v1, r2.v2])], [(b9, row 25 [r1.v1, r1.v2])]] (by rw [boxes_bxD25]; rfl) (fmul2_spec (p := L - B) (q := L + 1) (r := A2) (s := Bn) (wl_e (e := 9) (by omega) (by omega)) (wl_e c2 (by omega)) (wl_e b4 (by omega)) (wl_e b1 (by omega)) (by omega) hn2 (fit_lt (a := 9 + u) (e := 16384) fd3 (by omega)) (fit_lt (a := 9 + u) (e := 16384) fd2 (by omega)))) fun r w h => ⟨[r.L], [], h, r.v1, r.v2, rfl, r.ok1, r.ok2⟩
      · rintro s N' gN h0 hn0 v6 d6 e6 ⟨uz6, wz6, rfl, mz6, lz6⟩
        show Acts _ _ _ (K W (bxD 25 [.slice none 0 0, .slice none 0 0] (s 10) (s 11) :: [(b15, row 25 [u15, w15])] :: [(b13, row 25 [r3.v1, r3.v2])] :: [(b11, row 25 [r2.v1, r2.v2])] :: [(b9, row 25 [r1.v1, r1.v2])] :: N')) _ _
        exact a_y (y_move rfl) fun w h => ⟨[], [], h, uz6, wz6, rfl, mz6, lz6⟩
      · rintro s N' gN h0 hn0 v7 d7 e7 ⟨uz7, wz7, rfl, mz7, lz7⟩
        show Acts _ _ _ (K W (bxD 25 [.slice none 0 0, .slice none 0 0] (s 10) (s 11) :: [(b15, row 25 [u15, w15])] :: [(b13, row 25 [r3.v1, r3.v2])] :: [(b11, row 25 [r2.v1, r2.v2])] :: [(b9, row 25 [r1.v1, r1.v2])] :: N')) _ _
        exact a_y (y_extract rfl rfl) fun w h => ⟨[], [], h, uz7, wz7, rfl, mz7, lz7⟩
      · rintro s N' gN h0 hn0 v7 d7 e7 ⟨uz7, wz7, rfl, mz7, lz7⟩
        show Acts _ _ _ (K W (bxD 25 [.slice none 0 0, .slice none 0 0] (s 10) (s 11) :: [(b15, row 25 [u15, w15])] :: [(b13, row 25 [r3.v1, r3.v2])] :: [(b11, row 25 [r2.v1, r2.v2])] :: [(b9, row 25 [r1.v1, r1.v2])] :: N')) _ _
        exact a_y (y_extract rfl rfl) fun w h => ⟨[], [], h, rfl⟩
      · intro s N' gN h0 hn0
        show Acts _ _ _ (K W (bxD 25 [.slice none 0 0, .slice none 0 0] (s 10) (s 11) :: [(b15, row 25 [u15, w15])] :: [(b13, row 25 [r3.v1, r3.v2])] :: [(b11, row 25 [r2.v1, r2.v2])] :: [(b9, row 25 [r1.v1, r1.v2])] :: N')) _ _
        have hz : s 11 = none := hn0 11 rfl
        have hy : s 10 = none := h0
        rw [hy, hz]
        show Acts _ _ _ (K W ([] :: [(b15, row 25 [u15, w15])] :: [(b13, row 25 [r3.v1, r3.v2])] :: [(b11, row 25 [r2.v1, r2.v2])] :: [(b9, row 25 [r1.v1, r1.v2])] :: N')) _ _
        exact a_do (do_alloc Try.tab rfl) fun bz w h => ⟨[], [], (by show K W (bxD 25 [.slice none 0 0, .slice none 0 0] (some (.pointer (some ⟨bz, 0, none⟩), [])) (s 11) :: [(b15, row 25 [u15, w15])] :: [(b13, row 25 [r3.v1, r3.v2])] :: [(b11, row 25 [r2.v1, r2.v2])] :: [(b9, row 25 [r1.v1, r1.v2])] :: N') w; rw [hz]; exact h.weak [] (by simp [bxD, Value.cells])), bz, rfl⟩
      · rintro s N' gN h0 hn0 v10 d10 e10 ⟨bz10, rfl⟩ v8 d8 e8 ⟨uz8, wz8, rfl, mz8, lz8⟩
        show Acts _ _ _ (K W (bxD 25 [.slice none 0 0, .slice none 0 0] (s 10) (s 11) :: [(b15, row 25 [u15, w15])] :: [(b13, row 25 [r3.v1, r3.v2])] :: [(b11, row 25 [r2.v1, r2.v2])] :: [(b9, row 25 [r1.v1, r1.v2])] :: N')) _ _
        have hy : s 11 = none := h0
        rw [e10, hy]
        show Acts _ _ _ (K W ([(bz10, row 25 [.slice none 0 0, .slice none 0 0])] :: [(b15, row 25 [u15, w15])] :: [(b13, row 25 [r3.v1, r3.v2])] :: [(b11, row 25 [r2.v1, r2.v2])] :: [(b9, row 25 [r1.v1, r1.v2])] :: N')) _ _
        haveI : NatV (K W N') uz8 (lwN ((L - B) * A2) ((L + 1) * Bn)) := mz8
        haveI : NatV (K W N') wz8 (lwD ((L - B) * A2) ((L + 1) * Bn) - 1) := lz8
        exact a_set (set_25 0 rfl rfl rfl rfl) fun w h => ⟨[], [(0, row 25 [uz8, wz8])], (by show K W (bxD 25 [.slice none 0 0, .slice none 0 0] (s 10) (some (undef, [(0, row 25 [uz8, wz8])])) :: [(b15, row 25 [u15, w15])] :: [(b13, row 25 [r3.v1, r3.v2])] :: [(b11, row 25 [r2.v1, r2.v2])] :: [(b9, row 25 [r1.v1, r1.v2])] :: N') w; rw [e10]; exact h), uz8, wz8, rfl, mz8, lz8⟩
      · rintro s N' gN h0 hn0 v9 d9 e9 rfl
        show Acts _ _ _ (K W (bxD 25 [.slice none 0 0, .slice none 0 0] (s 10) (s 11) :: [(b15, row 25 [u15, w15])] :: [(b13, row 25 [r3.v1, r3.v2])] :: [(b11, row 25 [r2.v1, r2.v2])] :: [(b9, row 25 [r1.v1, r1.v2])] :: N')) _ _
        exact a_y (y_assign rfl) fun w h => ⟨[], [], h, rfl⟩
      · intro s N' gN hall v10 d10 e10 f10 v12 d12 e12 f12
        obtain ⟨v, z, u17, w17, hv, m17, l17⟩ := hall 11 (by decide)
        obtain ⟨b17, rfl⟩ := f10
        subst f12
        obtain ⟨q0, q1, q2, q3, q4, q5, q6, q7, M17, hM⟩ := gN
        subst hM
        show Fin _ _ _ _ (K W (bxD 25 [.slice none 0 0, .slice none 0 0] (s 10) (s 11) :: [(b15, row 25 [u15, w15])] :: [(b13, row 25 [r3.v1, r3.v2])] :: [(b11, row 25 [r2.v1, r2.v2])] :: [(b9, row 25 [r1.v1, r1.v2])] :: (M17 ++ N)))
        rw [z, e10]
        obtain ⟨v1, v2⟩ := v
        dsimp only at hv
        subst hv
        clear z hall
        show Fin _ _ _ _ (K W ([(b17, row 25 [u17, w17])] :: [(b15, row 25 [u15, w15])] :: [(b13, row 25 [r3.v1, r3.v2])] :: [(b11, row 25 [r2.v1, r2.v2])] :: [(b9, row 25 [r1.v1, r1.v2])] :: (M17 ++ N)))
        refine f_then ?_
        refine c_seq ?_
        refine c_region ?_
        refine s_y (y_loadA Try.tab rfl rfl rfl rfl (cells_row0 1 rfl rfl)) rfl rfl rfl ?_
        refine s_y (y_loadA Try.tab rfl rfl rfl rfl (cells_row0 0 rfl rfl)) rfl rfl rfl ?_
        haveI := q0
        haveI := q1
        haveI := q2
        haveI := q3
        haveI := q4
        haveI := q5
        haveI := q6
        haveI := q7
        haveI := m17
        haveI := l17
        have fs1 : (B + 1) * A1 * ((L + 1) * Bn) ≤ 2 ^ (18 + 2 * u) := fit fd1 fd2 (by omega)
        have fs2 : (L - B) * A2 * ((L + 1) * Bn) ≤ 2 ^ (18 + 2 * u) := fit fd3 fd2 (by omega)
        have fs3 : (L + 1) * Bn * ((L + 1) * Bn) ≤ 2 ^ (18 + 2 * u) := fit fd2 fd2 (by omega)
        have fs4 : (B + 1) * A1 * ((L + 1) * Bn) + (L - B) * A2 * ((L + 1) * Bn) ≤ 2 ^ (19 + 2 * u) := by
          rw [show 19 + 2 * u = (18 + 2 * u) + 1 by omega, Nat.pow_succ]
          omega
        have hz1 : (L + 1) * Bn ≠ 0 := Nat.mul_ne_zero (by omega) hn2
        refine s_call (en_f rfl Try.call39) (Spec.boxed2 (u := fun v w => .tuple #[.agg #[v, w], .int .i64 0]) [[(b17, row 25 [u17, w17])], [(b15, row 25 [u15, w15])], [(b13, row 25 [r3.v1, r3.v2])], [(b11, row 25 [r2.v1, r2.v2])], [(b9, row 25 [r1.v1, r1.v2])]] rfl (fadd2_spec (p := (B + 1) * A1) (q := (L + 1) * Bn) (r := (L - B) * A2) (s := (L + 1) * Bn) (wl_e fd1 (by omega)) (wl_e fd2 (by omega)) (wl_e fd3 (by omega)) (wl_e fd2 (by omega)) hz1 hz1 (fit_lt (a := 19 + 2 * u) (e := 16384) fs4 (by omega)) (fit_lt (a := 18 + 2 * u) (e := 16384) fs3 (by omega)))) rfl rfl rfl (fun r8 => ?_)
        refine s_y (y_move rfl) rfl rfl rfl ?_
        refine s_y (y_extract rfl rfl) rfl rfl rfl ?_
        refine s_y (y_extract rfl rfl) rfl rfl rfl ?_
        refine s_do (do_alloc Try.tab rfl) rfl rfl rfl (fun b19 => ?_)
        refine s_set (set_25 0 rfl rfl rfl rfl) rfl rfl ?_
        refine s_y (y_assign rfl) rfl rfl rfl ?_
        refine s_nil ?_
        refine f_then ?_
        refine c_seq ?_
        refine c_region ?_
        refine s_y (y_move rfl) rfl rfl rfl ?_
        refine s_y (y_T (y_eql rfl rfl) (by omega)) rfl rfl rfl ?_
        refine s_y (y_move rfl) rfl rfl rfl ?_
        refine s_y (y_move rfl) rfl rfl rfl ?_
        refine s_y (y_T (y_eql rfl rfl) (by omega)) rfl rfl rfl ?_
        refine s_y (y_pickT rfl rfl) rfl rfl rfl ?_
        refine s_y (y_move rfl) rfl rfl rfl ?_
        refine s_y (y_move rfl) rfl rfl rfl ?_
        refine s_y (y_T (y_eql rfl rfl) (by omega)) rfl rfl rfl ?_
        refine s_y (y_pickT rfl rfl) rfl rfl rfl ?_
        refine s_y (y_move rfl) rfl rfl rfl ?_
        refine s_y (y_move rfl) rfl rfl rfl ?_
        refine s_y (y_T (y_eql rfl rfl) (by omega)) rfl rfl rfl ?_
        refine s_y (y_pickT rfl rfl) rfl rfl rfl ?_
        refine s_y (y_move rfl) rfl rfl rfl ?_
        refine s_y (y_move rfl) rfl rfl rfl ?_
        refine s_y (y_T (y_eql rfl rfl) (by omega)) rfl rfl rfl ?_
        refine s_y (y_pickT rfl rfl) rfl rfl rfl ?_
        refine s_y (y_move rfl) rfl rfl rfl ?_
        refine s_y (y_move rfl) rfl rfl rfl ?_
        refine s_y (y_T (y_eql rfl rfl) (by omega)) rfl rfl rfl ?_
        refine s_y (y_pickT rfl rfl) rfl rfl rfl ?_
        refine s_y (y_move rfl) rfl rfl rfl ?_
        refine s_y (y_loadA Try.tab rfl rfl rfl rfl (cells_row0 0 rfl rfl)) rfl rfl rfl ?_
        refine s_y (y_loadA Try.tab rfl rfl rfl rfl (cells_row0 5 rfl rfl)) rfl rfl rfl ?_
        refine St.cls (C' := K W ([(b19, row 25 [r8.v1, r8.v2])] :: [(b17, row 25 [u17, w17])] :: [(b15, row 25 [u15, w15])] :: [(b13, row 25 [r3.v1, r3.v2])] :: [(b11, row 25 [r2.v1, r2.v2])] :: [(b9, row 25 [r1.v1, r1.v2])] :: r8.L :: (M17 ++ N))) ?_ (fun w h => h)
        haveI := r8.ok1
        haveI := r8.ok2
        refine s_call (en_f rfl Try.call31) (fcmp2_spec (p := (B + 1) * A1 * ((L + 1) * Bn) + (L - B) * A2 * ((L + 1) * Bn)) (q := (L + 1) * Bn * ((L + 1) * Bn)) (r := A) (s := An) (wl_e fs4 (by omega)) (wl_e fs3 (by omega)) (wl_e b2 (by omega)) (wl_e b0 (by omega)) (Nat.mul_ne_zero hz1 hz1) hn1) rfl rfl rfl (fun _ => ?_)
        rw [cmpV_eq hfirst]
        refine s_y (y_T (y_eql rfl rfl) (by omega)) rfl rfl rfl ?_
        refine s_y (y_pickT rfl rfl) rfl rfl rfl ?_
        refine s_y (y_move rfl) rfl rfl rfl ?_
        refine s_call (en_f rfl Try.call19) awake_spec rfl rfl rfl (fun _ => ?_)
        refine s_y (y_pickT rfl rfl) rfl rfl rfl ?_
        refine s_y (y_assign rfl) rfl rfl rfl ?_
        refine s_nil ?_
        refine f_then ?_
        refine c_ret ?_
        exact f_ret () (res1 rfl rfl) (fun w h => h.tail.tail.tail.tail.tail.tail.tail.bck)
  · rw [decide_eq_false hg]
    refine s_y (y_notF rfl) rfl rfl rfl ?_
    refine s_y (y_pickF rfl rfl) rfl rfl rfl ?_
    refine s_y (y_move rfl) rfl rfl rfl ?_
    iterate 2 refine s_skip rfl rfl rfl ?_
    refine s_y (y_pickT rfl rfl) rfl rfl rfl ?_
    refine s_y (y_move rfl) rfl rfl rfl ?_
    iterate 2 refine s_skip rfl rfl rfl ?_
    refine s_y (y_pickT rfl rfl) rfl rfl rfl ?_
    refine s_y (y_move rfl) rfl rfl rfl ?_
    iterate 3 refine s_skip rfl rfl rfl ?_
    refine s_y (y_pickT rfl rfl) rfl rfl rfl ?_
    refine s_y (y_move rfl) rfl rfl rfl ?_
    iterate 2 refine s_skip rfl rfl rfl ?_
    refine s_y (y_pickT rfl rfl) rfl rfl rfl ?_
    refine s_nil ?_
    refine f_then ?_
    refine c_condT rfl ?_
    refine c_seq ?_
    refine c_region ?_
    refine s_call (en_f rfl Try.call19) awake_spec rfl rfl rfl (fun _ => ?_)
    refine s_y (y_assign rfl) rfl rfl rfl ?_
    refine s_nil ?_
    refine f_then ?_
    refine c_ret ?_
    refine f_thenR ?_
    exact f_ret () (res1 rfl rfl) (fun w h => h)
theorem sampleFirst_walk (W : World) (lot bad n c : Int) (hl : i64 lot) (hb : i64 bad) (hn : i64 n) (hc : i64 c) : Spec Try.prog 12 #[.int .i64 lot, .int .i64 bad, .int .i64 n, .int .i64 c] (K W []) (fun _ : Unit => .bool true) (fun _ => K W []) := sFirst_spec hl hb hn hc
end Go.KL
end

section
/- SampleFirst: for every input the law returns true, and its arguments read as they did. No condition. -/
namespace Go.Proofs.Ytdknafhaphadiaa
open Go.ChangeShapes Go.WideShapes Go.RowKit Go.KL
set_option linter.unusedVariables false
theorem own : ownKnob Try.prog.godebug = none := by kernel_rfl
set_option maxRecDepth 100000 in
theorem sampleFirst_lifted (os : Os) (started : os.Started) (H : Type) (enc : TypeId × Value → H) :
    ReturnsInHanded {} Try.checked os 12 .any (Rows.sampleFirstSpec.pre6 enc Try.prog Try.f12 Rows.sampleFirstRow.domain false) (Rows.sampleFirstSpec.post enc Try.prog Try.f12 false true false false) := by
  refine returnsInHanded_of_change (C := Try.checked) own started (by kernel_rfl) Try.func12
    (ChangeSpec.witness6 (enc := enc) (C := Try.checked) false ⟨#[], #[.int .i64 0, .int .i64 0, .int .i64 0, .int .i64 0], []⟩ 8 (by kernel_rfl) (by kernel_rfl) (by kernel_rfl) (by kernel_rfl)) ?_
  intro W base args ds gs before hval hW hcnd _
  obtain ⟨p, q, hA, hV, rfl, hfz, hnd⟩ := id hW
  obtain ⟨rfl, rfl⟩ := trodVars_none hV
  obtain ⟨v0, vs0, d0, ds0, p0, q0, e0, rfl, rfl, h0, r0⟩ := trodAll_cons hA
  obtain ⟨v1, vs1, d1, ds1, p1, q1, rfl, rfl, rfl, h1, r1⟩ := trodAll_cons r0
  obtain ⟨v2, vs2, d2, ds2, p2, q2, rfl, rfl, rfl, h2, r2⟩ := trodAll_cons r1
  obtain ⟨v3, vs3, d3, ds3, p3, q3, rfl, rfl, rfl, h3, r3⟩ := trodAll_cons r2
  obtain ⟨rfl, rfl, rfl⟩ := trodAll_nil r3
  obtain rfl : args = #[v0, v1, v2, v3] := by cases args; simp_all
  obtain ⟨k0, rfl, hk0⟩ := arg3 (hval 0 3 _ rfl rfl) h0
  obtain ⟨k1, rfl, hk1⟩ := arg3 (hval 1 3 _ rfl rfl) h1
  obtain ⟨k2, rfl, hk2⟩ := arg3 (hval 2 3 _ rfl rfl) h2
  obtain ⟨k3, rfl, hk3⟩ := arg3 (hval 3 3 _ rfl rfl) h3
  refine ((sampleFirst_walk W k0 k1 k2 k3 hk0 hk1 hk2 hk3) W (K.refl W)).mono ?_
  rintro e W' ⟨x, rfl, hk⟩
  exact ⟨_, rfl, law_post (t := 4) laidOut (by decide +kernel) rfl rfl u4 hW rfl hk.toExt⟩
theorem joined : joinedFacts Try.pinned.checked.prog 12 Try.f12 Rows.sampleFirstSpec Rows.sampleFirstRow = true := by
  show joinedFacts Try.prog 12 Try.f12 Rows.sampleFirstSpec Rows.sampleFirstRow = true
  unfold joinedFacts
  rw [Go.KL.may_enter, Go.KL.lifts_final, Go.KL.make_cut]
  kernel_rfl
/-- The statement. -/
theorem sampleFirst_holds : Rows.SampleFirstSaid :=
  OpenClaim.holds_of_wide 12 Try.f12 rfl rfl rfl rfl rfl rfl rfl ⟨rfl, rfl, rfl, rfl, rfl⟩ rfl rfl rfl rfl rfl (by kernel_rfl) Try.func12 joined
    (of_decide_eq_true (by kernel_rfl)) (by unfold Func.isWrapper; first | (rw [if_pos (by decide +kernel)]; kernel_rfl) | (rw [if_neg (by decide +kernel)]; exact ⟨rfl, rfl⟩))
    (fun os started H enc _ => sampleFirst_lifted os started H enc)
end Go.Proofs.Ytdknafhaphadiaa
end
