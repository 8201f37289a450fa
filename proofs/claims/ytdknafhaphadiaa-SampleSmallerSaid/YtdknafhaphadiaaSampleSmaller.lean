/- SampleSmaller: for every input the law returns true, and its arguments read as they did. No condition. -/
import Derived.Test.YtdknafhaphadiaaRows
import Derived.JoinedOf
import Derived.Handed
import Derived.Test.YtdknafhaphadiaaL6
section
/- The law of plans, plain. No program in sight. -/
namespace Go.KL
theorem lstF_law {p : Nat → Bool} : ∀ {d i c : Nat}, (∃ j, i ≤ j ∧ j < i + d ∧ p j = true) → p (lstF p d i c) = true ∧ i ≤ lstF p d i c ∧ lstF p d i c < i + d ∧ ∀ j, i ≤ j → j < lstF p d i c → p j = false
  | 0, i, c, h => by
    obtain ⟨j, h1, h2, _⟩ := h
    omega
  | d + 1, i, c, h => by
    rw [lstF]
    by_cases hp : p i = true
    · rw [if_pos hp]
      exact ⟨hp, Nat.le_refl _, by omega, fun j h1 h2 => by omega⟩
    · rw [if_neg hp]
      obtain ⟨j, h1, h2, h3⟩ := h
      have hij : i ≠ j := fun e => hp (e ▸ h3)
      have ih := lstF_law (p := p) (d := d) (i := i + 1) (c := i) ⟨j, by omega, by omega, h3⟩
      refine ⟨ih.1, by omega, by omega, fun k h4 h5 => ?_⟩
      by_cases hk : k = i
      · rw [hk]
        simpa using hp
      · exact ih.2.2.2 k (by omega) h5
theorem acc_top {lot bad n : Nat} (h : bad ≤ lot) : accN lot bad n (min n bad : Nat) = bino lot n := by
  have h1 := cumT_long (g := lot - bad) (b := bad) (n := n) (c := n + 1) (by omega)
  rw [cum_all, show bad + (lot - bad) = lot by omega] at h1
  rw [accN_cum, h1]
theorem acc_low {lot bad n : Nat} {c : Int} (h : c < (n - (lot - bad) : Nat)) : accN lot bad n c = 0 := by
  unfold accN
  rw [show min n bad + 1 - (n - (lot - bad)) = 0 + (min n bad + 1 - (n - (lot - bad))) by omega, sumTo_out (by omega)]
  rfl
theorem acc_up {lot bad n : Nat} {c c' : Int} (h : c ≤ c') : accN lot bad n c ≤ accN lot bad n c' := by
  by_cases hc : c < 0
  · rw [accN_neg hc]
    exact Nat.zero_le _
  · obtain ⟨k, rfl⟩ : ∃ k : Nat, c = (k : Int) := ⟨c.toNat, by omega⟩
    obtain ⟨k', rfl⟩ : ∃ k : Nat, c' = (k : Int) := ⟨c'.toNat, by omega⟩
    rw [accN_cum, accN_cum, show k' + 1 = (k + 1) + (k' - k) by omega]
    exact psum_mono _
/-- The sample keeps the risk of a good lot. -/
def kA (lot good n alpha : Nat) (c : Int) : Prop := (1000000 - alpha) * bino lot n ≤ accN lot good n c * 1000000
def kB (lot bad n beta : Nat) (c : Int) : Prop := accN lot bad n c * 1000000 ≤ beta * bino lot n
instance {lot good n alpha : Nat} {c : Int} : Decidable (kA lot good n alpha c) := by unfold kA; infer_instance
instance {lot bad n beta : Nat} {c : Int} : Decidable (kB lot bad n beta c) := by unfold kB; infer_instance
theorem least_law {lot good n alpha : Nat} (h1 : good ≤ lot) (h2 : n ≤ lot) (h3 : alpha ≤ 1000000) :
    kA lot good n alpha (leastN lot good n alpha (bino lot n) : Nat) ∧ leastN lot good n alpha (bino lot n) ≤ min n good ∧ ∀ d : Int, 0 ≤ d → d < (leastN lot good n alpha (bino lot n) : Nat) → ¬ kA lot good n alpha d := by
  unfold leastN
  by_cases ha : alpha = 1000000
  · rw [if_pos ha]
    refine ⟨?_, Nat.zero_le _, fun d h4 h5 => by omega⟩
    unfold kA
    rw [ha, Nat.sub_self, Nat.zero_mul]
    exact Nat.zero_le _
  · rw [if_neg ha]
    have htop : keepsA lot good n alpha (bino lot n) (min n good) = true := by
      unfold keepsA
      rw [acc_top h1]
      exact decide_eq_true (Nat.mul_le_mul_left _ (Nat.sub_le _ _))
    obtain ⟨k1, k2, k3, k4⟩ := lstF_law (p := keepsA lot good n alpha (bino lot n)) (d := min n good + 1 - (n - (lot - good))) (i := n - (lot - good)) (c := 0) ⟨min n good, by omega, by omega, htop⟩
    obtain ⟨m, hm⟩ : ∃ m, m = lstF (keepsA lot good n alpha (bino lot n)) (min n good + 1 - (n - (lot - good))) (n - (lot - good)) 0 := ⟨_, rfl⟩
    rw [← hm] at k1 k2 k3 k4 ⊢
    refine ⟨?_, by omega, fun d h4 h5 => ?_⟩
    · have := of_decide_eq_true k1
      unfold kA
      rw [Nat.mul_comm (1000000 - alpha)]
      exact this
    · obtain ⟨e, rfl⟩ : ∃ e : Nat, d = (e : Int) := ⟨d.toNat, by omega⟩
      by_cases hl : e < n - (lot - good)
      · have hp := bino_pos h2
        unfold kA
        rw [acc_low (by omega), Nat.zero_mul]
        have : 0 < (1000000 - alpha) * bino lot n := Nat.mul_pos (by omega) hp
        omega
      · have := of_decide_eq_false (k4 e (by omega) (by omega))
        unfold kA
        rw [Nat.mul_comm (1000000 - alpha)]
        exact this
theorem planF_law {lot good bad alpha beta : Nat} (h1 : good < bad) (h2 : bad ≤ lot) (h3 : alpha ≤ 1000000) : ∀ {d i : Nat}, i + d = lot →
    i ≤ (planF lot good bad alpha beta d i).1 ∧ (planF lot good bad alpha beta d i).1 ≤ lot ∧ (planF lot good bad alpha beta d i).2 = leastN lot good (planF lot good bad alpha beta d i).1 alpha (bino lot (planF lot good bad alpha beta d i).1) ∧
    kB lot bad (planF lot good bad alpha beta d i).1 beta ((planF lot good bad alpha beta d i).2 : Nat) ∧ ∀ j, i ≤ j → j < (planF lot good bad alpha beta d i).1 → ¬ kB lot bad j beta (leastN lot good j alpha (bino lot j) : Nat)
  | 0, i, h => by
    obtain rfl : i = lot := by omega
    rw [planF]
    refine ⟨Nat.le_refl _, Nat.le_refl _, rfl, ?_, fun j h4 h5 => absurd h5 (by dsimp only; omega)⟩
    dsimp only
    have := (least_law (lot := i) (good := good) (n := i) (alpha := alpha) (by omega) (Nat.le_refl _) h3).2.1
    unfold kB
    rw [acc_low (by omega), Nat.zero_mul]
    exact Nat.zero_le _
  | d + 1, i, h => by
    rw [planF]
    by_cases hk : accN lot bad i (leastN lot good i alpha (bino lot i) : Nat) * 1000000 ≤ bino lot i * beta
    · rw [if_pos hk]
      refine ⟨Nat.le_refl _, by dsimp only; omega, rfl, ?_, fun j h4 h5 => absurd h5 (by dsimp only; omega)⟩
      dsimp only
      unfold kB
      rw [Nat.mul_comm beta]
      exact hk
    · rw [if_neg hk]
      have ih := planF_law (beta := beta) h1 h2 h3 (d := d) (i := i + 1) (by omega)
      refine ⟨by omega, ih.2.1, ih.2.2.1, ih.2.2.2.1, fun j h4 h5 => ?_⟩
      by_cases hj : j = i
      · rw [hj]
        unfold kB
        rw [Nat.mul_comm beta]
        exact hk
      · exact ih.2.2.2.2 j (by omega) h5
/-- A plan keeps both risks, and nothing smaller does. -/
theorem plan_law {lot good bad alpha beta : Nat} (h1 : good < bad) (h2 : bad ≤ lot) (h3 : alpha ≤ 1000000) {n c : Nat} (hn : n = (planF lot good bad alpha beta lot 0).1) (hc : c = (planF lot good bad alpha beta lot 0).2) :
    n ≤ lot ∧ kA lot good n alpha (c : Int) ∧ kB lot bad n beta (c : Int) ∧ ∀ (m : Nat) (d : Int), 0 ≤ d → (m < n ∨ m = n ∧ d < (c : Int)) → ¬ (kA lot good m alpha d ∧ kB lot bad m beta d) := by
  obtain ⟨_, q2, q3, q4, q5⟩ := planF_law (beta := beta) h1 h2 h3 (d := lot) (i := 0) (Nat.zero_add lot)
  rw [← hn, ← hc] at *
  have hl := least_law (lot := lot) (good := good) (n := n) (alpha := alpha) (by omega) q2 h3
  rw [← q3] at hl
  refine ⟨q2, hl.1, q4, fun m d h4 h5 => ?_⟩
  rintro ⟨ka, kb⟩
  rcases h5 with h5 | ⟨rfl, h5⟩
  · have hm := least_law (lot := lot) (good := good) (n := m) (alpha := alpha) (by omega) (by omega) h3
    have hd : (leastN lot good m alpha (bino lot m) : Nat) ≤ d := by
      apply Classical.byContradiction
      intro hlt
      exact hm.2.2 d h4 (by omega) ka
    refine q5 m (Nat.zero_le _) h5 ?_
    unfold kB at kb ⊢
    exact Nat.le_trans (Nat.mul_le_mul_right _ (acc_up hd)) kb
  · exact hl.2.2 d h4 h5 ka
end Go.KL
end

section
/- Walks: SampleSmaller. -/
namespace Go.KL
open Go.Proofs
attribute [local irreducible] SC St Fin Sq Ylds Doos Sets Enters Spec CellIs CellsAre Then Ret Rnd Chn resOK ints bools recs arr
set_option maxRecDepth 10000 in
set_option maxHeartbeats 16000000 in
theorem keeps_spec {W : World} {N : List Chunk} {lot good bad alpha beta n : Nat} {c : Int} (h1 : lot ≤ 300) (h2 : good ≤ lot) (h3 : bad ≤ lot) (h4 : alpha ≤ 1000000) (h5 : beta ≤ 1000000) (h6 : n ≤ lot) :
    Spec Try.prog 34 #[.int .i64 (lot : Int), .int .i64 (good : Int), .int .i64 (bad : Int), .int .i64 (alpha : Int), .int .i64 (beta : Int), .int .i64 (n : Int), .int .i64 c] (K W N) (fun _ : Unit => .bool (decide (kA lot good n alpha c ∧ kB lot bad n beta c))) (fun _ => K W N) := by
  refine enter (args := [_, _, _, _, _, _, _]) Try.func34 rfl Try.ntmps34 rfl ?_
  refine c_seq ?_
  refine c_region ?_
  refine s_y (y_assign rfl) rfl rfl rfl ?_
  refine s_nil ?_
  refine f_then ?_
  refine c_seq ?_
  refine c_region ?_
  refine s_y (y_move rfl) rfl rfl rfl ?_
  refine s_y (y_move rfl) rfl rfl rfl ?_
  refine s_y (y_move rfl) rfl rfl rfl ?_
  refine s_y (y_move rfl) rfl rfl rfl ?_
  refine s_call (en_f rfl Try.call20) (accept2_spec (W := W) (N := N) (lot := lot) (bad := good) (n := n) (c := c) (by omega) (by omega) (by omega)) rfl rfl rfl (fun r1 => ?_)
  refine s_y (y_move rfl) rfl rfl rfl ?_
  refine s_y (y_extract rfl rfl) rfl rfl rfl ?_
  refine s_y (y_extract rfl rfl) rfl rfl rfl ?_
  refine s_do (do_alloc Try.tab rfl) rfl rfl rfl (fun b15 => ?_)
  refine s_set (set_25 0 rfl rfl rfl rfl) rfl rfl ?_
  refine s_y (y_assign rfl) rfl rfl rfl ?_
  refine s_nil ?_
  refine f_then ?_
  refine c_seq ?_
  refine c_region ?_
  refine s_y (y_move rfl) rfl rfl rfl ?_
  refine s_y (y_move rfl) rfl rfl rfl ?_
  refine s_y (y_move rfl) rfl rfl rfl ?_
  refine s_y (y_move rfl) rfl rfl rfl ?_
  refine St.cls (C' := K W ([(b15, row 25 [r1.v1, r1.v2])] :: r1.L :: N)) ?_ (fun w h => h)
  refine s_call (en_f rfl Try.call20) (by1 (u2 := fun v w => .tuple #[.agg #[v, w], .int .i64 0]) (accept2_spec (lot := lot) (bad := bad) (n := n) (c := c) (by omega) (by omega) (by omega)) rfl) rfl rfl rfl (fun r2 => ?_)
  refine s_y (y_move rfl) rfl rfl rfl ?_
  refine s_y (y_extract rfl rfl) rfl rfl rfl ?_
  refine s_y (y_extract rfl rfl) rfl rfl rfl ?_
  refine s_do (do_alloc Try.tab rfl) rfl rfl rfl (fun b17 => ?_)
  refine s_set (set_25 0 rfl rfl rfl rfl) rfl rfl ?_
  refine s_y (y_assign rfl) rfl rfl rfl ?_
  refine s_nil ?_
  refine f_then ?_
  refine c_seq ?_
  refine SC.cls (C' := K W ([(b17, row 25 [r2.v1, r2.v2])] :: [(b15, row 25 [r1.v1, r1.v2])] :: r2.L :: r1.L :: N)) ?_ (fun w h => h)
  obtain ⟨A, hA⟩ : ∃ A, A = accN lot good n c := ⟨_, rfl⟩
  obtain ⟨B, hB⟩ : ∃ B, B = accN lot bad n c := ⟨_, rfl⟩
  obtain ⟨An, hAn⟩ : ∃ An, An = bino lot n := ⟨_, rfl⟩
  haveI k11 : NatV (K W (r1.L :: N)) r1.v1 (lwN A An) := r1.ok1.of (by rw [hA, hAn])
  haveI k12 : NatV (K W (r1.L :: N)) r1.v2 (lwD A An - 1) := r1.ok2.of (by rw [hA, hAn])
  haveI k21 : NatV (K W (r2.L :: r1.L :: N)) r2.v1 (lwN B An) := r2.ok1.of (by rw [hB, hAn])
  haveI k22 : NatV (K W (r2.L :: r1.L :: N)) r2.v2 (lwD B An - 1) := r2.ok2.of (by rw [hB, hAn])
  have hn1 : An ≠ 0 := hAn ▸ bino_nz (by omega)
  have w0 : wl An ≤ 10000 := hAn ▸ wl_bin (by omega)
  have w1 : wl A ≤ 10000 := Nat.le_trans (wl_mono (hA ▸ hAn ▸ acc_le h2)) w0
  have w2 : wl B ≤ 10000 := Nat.le_trans (wl_mono (hB ▸ hAn ▸ acc_le h3)) w0
  have w3 : wl 1000000 ≤ 10000 := wl_e (e := 20) (by omega) (by omega)
  have w4 : wl (1000000 - alpha) ≤ 10000 := wl_e (e := 20) (by omega) (by omega)
  have w5 : wl beta ≤ 10000 := wl_e (e := 20) (by omega) (by omega)
  have e0 : (1000000 : Int) - (alpha : Int) = ((1000000 - alpha : Nat) : Int) := by omega
  have ka : kA lot good n alpha c ↔ (1000000 - alpha) * An ≤ A * 1000000 := by
    unfold kA
    rw [← hA, ← hAn]
  have kb : kB lot bad n beta c ↔ B * 1000000 ≤ beta * An := by
    unfold kB
    rw [← hB, ← hAn]
  obtain ⟨y1, hy1⟩ : ∃ y, y = cmpV (A * 1000000) ((1000000 - alpha) * An) := ⟨_, rfl⟩
  obtain ⟨y2, hy2⟩ : ∃ y, y = cmpV (B * 1000000) (beta * An) := ⟨_, rfl⟩
  by_cases c1 : (1000000 - alpha) * An ≤ A * 1000000
  · have z1 : 0 ≤ y1 := hy1 ▸ cmpV_ge.2 c1
    by_cases c2 : B * 1000000 ≤ beta * An
    · have z2 : y2 ≤ 0 := hy2 ▸ cmpV_le.2 c2
      rw [decide_eq_true (show kA lot good n alpha c ∧ kB lot bad n beta c from ⟨ka.2 c1, kb.2 c2⟩)]
      clear c1 c2 ka kb
      refine c_plan [.c 0, .c 1, .c 2, .c 3, .c 4, .c 5, .c 6, .c 7, .c 8, .c 9, .s 10, .s 11, .c 12, .c 13, .c 14, .c 15, .c 16, .s 17, .s 18, .c 19, .c 20, .c 21] [] ((K W ([(b17, row 25 [r2.v1, r2.v2])] :: [(b15, row 25 [r1.v1, r1.v2])] :: r2.L :: r1.L :: N))) Try.mixed (by kernel_rfl) rfl K.cl ?_
      refine d_c rfl (Qui.ylds (y_move rfl)) rfl rfl rfl (fun _ h => h) K.cl ?_
      refine d_c rfl (Qui.ylds (y_T (y_eql rfl rfl) (by omega))) rfl rfl rfl (fun _ h => h) K.cl ?_
      refine d_c rfl (Qui.ylds (y_move rfl)) rfl rfl rfl (fun _ h => h) K.cl ?_
      refine d_c rfl (Qui.ylds (y_move rfl)) rfl rfl rfl (fun _ h => h) K.cl ?_
      refine d_c rfl (Qui.ylds (y_T (y_eql rfl rfl) (by omega))) rfl rfl rfl (fun _ h => h) K.cl ?_
      refine d_c rfl (Qui.ylds (y_pickT rfl rfl)) rfl rfl rfl (fun _ h => h) K.cl ?_
      refine d_c rfl (Qui.ylds (y_move rfl)) rfl rfl rfl (fun _ h => h) K.cl ?_
      refine d_c rfl (Qui.ylds (y_loadA Try.tab rfl rfl rfl rfl (cells_row0 1 rfl rfl))) rfl rfl rfl (fun _ h => h) K.cl ?_
      refine d_c rfl (Qui.ylds (y_move rfl)) rfl rfl rfl (fun _ h => h) K.cl ?_
      refine d_c rfl (Qui.ylds (y_sub rfl rfl (by omega))) rfl rfl rfl (fun _ h => h) K.cl ?_
      rw [e0]
      refine d_call rfl (en_f rfl Try.call32) (by2 (u2 := fun v w => .agg #[v, w]) (ratio_spec (a := 1000000 - alpha) (b := 1000000) (by omega) (by omega) (by omega)) rfl) rfl rfl rfl (fun _ => K.cl) (fun _ _ _ h => h.dropAt 2) (fun r3 => ?_)
      haveI := r3.ok1
      haveI := r3.ok2
      skip
      refine d_call rfl (en_f rfl Try.call31) (Spec.convC (D' := fun _ => K W ([(b17, row 25 [r2.v1, r2.v2])] :: [(b15, row 25 [r1.v1, r1.v2])] :: r2.L :: r1.L :: N)) (fcmp2_spec (p := A) (q := An) (r := 1000000 - alpha) (s := 1000000) w1 w0 w4 w3 hn1 (by omega)) (fun _ h => h) (fun _ _ h => h.dropAt 2)) rfl rfl rfl (fun _ => K.cl) (fun _ _ _ h => h) (fun _ => ?_)
      rw [← hy1]
      refine d_c rfl (Qui.ylds (y_T (y_geq rfl rfl) (by assumption))) rfl rfl rfl (fun _ h => h) K.cl ?_
      refine d_c rfl (Qui.ylds (y_pickT rfl rfl)) rfl rfl rfl (fun _ h => h) K.cl ?_
      refine d_c rfl (Qui.ylds (y_move rfl)) rfl rfl rfl (fun _ h => h) K.cl ?_
      refine d_c rfl (Qui.ylds (y_loadA Try.tab rfl rfl rfl rfl (cells_row0 0 rfl rfl))) rfl rfl rfl (fun _ h => h) K.cl ?_
      refine d_c rfl (Qui.ylds (y_move rfl)) rfl rfl rfl (fun _ h => h) K.cl ?_
      refine d_call rfl (en_f rfl Try.call32) (by2 (u2 := fun v w => .agg #[v, w]) (ratio_spec (a := beta) (b := 1000000) (by omega) (by omega) (by omega)) rfl) rfl rfl rfl (fun _ => K.cl) (fun _ _ _ h => h.dropAt 2) (fun r4 => ?_)
      haveI := r4.ok1
      haveI := r4.ok2
      skip
      refine d_call rfl (en_f rfl Try.call31) (fcmp2_spec (p := B) (q := An) (r := beta) (s := 1000000) w2 w0 w5 w3 hn1 (by omega)) rfl rfl rfl (fun _ => K.cl) (fun _ _ _ h => h.dropAt 2) (fun _ => ?_)
      rw [← hy2]
      refine d_c rfl (Qui.ylds (y_T (y_leq rfl rfl) (by assumption))) rfl rfl rfl (fun _ h => h.dropAt 2) K.cl ?_
      refine d_c rfl (Qui.ylds (y_pickT rfl rfl)) rfl rfl rfl (fun _ h => h.dropAt 2) K.cl ?_
      refine d_c rfl (Qui.ylds (y_assign rfl)) rfl rfl rfl (fun _ h => h.dropAt 2) K.cl ?_
      refine d_nil ?_
      refine f_then ?_
      refine c_ret ?_
      exact f_ret () (res1 rfl rfl) (fun w h => h.tail.tail.tail.tail.tail)
    · have z2 : ¬ y2 ≤ 0 := hy2 ▸ mt cmpV_le.1 c2
      rw [decide_eq_false (show ¬ (kA lot good n alpha c ∧ kB lot bad n beta c) from fun h => c2 (kb.1 h.2))]
      clear c1 c2 ka kb
      refine c_plan [.c 0, .c 1, .c 2, .c 3, .c 4, .c 5, .c 6, .c 7, .c 8, .c 9, .s 10, .s 11, .c 12, .c 13, .c 14, .c 15, .c 16, .s 17, .s 18, .c 19, .c 20, .c 21] [] ((K W ([(b17, row 25 [r2.v1, r2.v2])] :: [(b15, row 25 [r1.v1, r1.v2])] :: r2.L :: r1.L :: N))) Try.mixed (by kernel_rfl) rfl K.cl ?_
      refine d_c rfl (Qui.ylds (y_move rfl)) rfl rfl rfl (fun _ h => h) K.cl ?_
      refine d_c rfl (Qui.ylds (y_T (y_eql rfl rfl) (by omega))) rfl rfl rfl (fun _ h => h) K.cl ?_
      refine d_c rfl (Qui.ylds (y_move rfl)) rfl rfl rfl (fun _ h => h) K.cl ?_
      refine d_c rfl (Qui.ylds (y_move rfl)) rfl rfl rfl (fun _ h => h) K.cl ?_
      refine d_c rfl (Qui.ylds (y_T (y_eql rfl rfl) (by omega))) rfl rfl rfl (fun _ h => h) K.cl ?_
      refine d_c rfl (Qui.ylds (y_pickT rfl rfl)) rfl rfl rfl (fun _ h => h) K.cl ?_
      refine d_c rfl (Qui.ylds (y_move rfl)) rfl rfl rfl (fun _ h => h) K.cl ?_
      refine d_c rfl (Qui.ylds (y_loadA Try.tab rfl rfl rfl rfl (cells_row0 1 rfl rfl))) rfl rfl rfl (fun _ h => h) K.cl ?_
      refine d_c rfl (Qui.ylds (y_move rfl)) rfl rfl rfl (fun _ h => h) K.cl ?_
      refine d_c rfl (Qui.ylds (y_sub rfl rfl (by omega))) rfl rfl rfl (fun _ h => h) K.cl ?_
      rw [e0]
      refine d_call rfl (en_f rfl Try.call32) (by2 (u2 := fun v w => .agg #[v, w]) (ratio_spec (a := 1000000 - alpha) (b := 1000000) (by omega) (by omega) (by omega)) rfl) rfl rfl rfl (fun _ => K.cl) (fun _ _ _ h => h.dropAt 2) (fun r3 => ?_)
      haveI := r3.ok1
      haveI := r3.ok2
      skip
      refine d_call rfl (en_f rfl Try.call31) (Spec.convC (D' := fun _ => K W ([(b17, row 25 [r2.v1, r2.v2])] :: [(b15, row 25 [r1.v1, r1.v2])] :: r2.L :: r1.L :: N)) (fcmp2_spec (p := A) (q := An) (r := 1000000 - alpha) (s := 1000000) w1 w0 w4 w3 hn1 (by omega)) (fun _ h => h) (fun _ _ h => h.dropAt 2)) rfl rfl rfl (fun _ => K.cl) (fun _ _ _ h => h) (fun _ => ?_)
      rw [← hy1]
      refine d_c rfl (Qui.ylds (y_T (y_geq rfl rfl) (by assumption))) rfl rfl rfl (fun _ h => h) K.cl ?_
      refine d_c rfl (Qui.ylds (y_pickT rfl rfl)) rfl rfl rfl (fun _ h => h) K.cl ?_
      refine d_c rfl (Qui.ylds (y_move rfl)) rfl rfl rfl (fun _ h => h) K.cl ?_
      refine d_c rfl (Qui.ylds (y_loadA Try.tab rfl rfl rfl rfl (cells_row0 0 rfl rfl))) rfl rfl rfl (fun _ h => h) K.cl ?_
      refine d_c rfl (Qui.ylds (y_move rfl)) rfl rfl rfl (fun _ h => h) K.cl ?_
      refine d_call rfl (en_f rfl Try.call32) (by2 (u2 := fun v w => .agg #[v, w]) (ratio_spec (a := beta) (b := 1000000) (by omega) (by omega) (by omega)) rfl) rfl rfl rfl (fun _ => K.cl) (fun _ _ _ h => h.dropAt 2) (fun r4 => ?_)
      haveI := r4.ok1
      haveI := r4.ok2
      skip
      refine d_call rfl (en_f rfl Try.call31) (fcmp2_spec (p := B) (q := An) (r := beta) (s := 1000000) w2 w0 w5 w3 hn1 (by omega)) rfl rfl rfl (fun _ => K.cl) (fun _ _ _ h => h.dropAt 2) (fun _ => ?_)
      rw [← hy2]
      refine d_c rfl (Qui.ylds (y_F (y_leq rfl rfl) (by assumption))) rfl rfl rfl (fun _ h => h.dropAt 2) K.cl ?_
      refine d_c rfl (Qui.ylds (y_pickT rfl rfl)) rfl rfl rfl (fun _ h => h.dropAt 2) K.cl ?_
      refine d_c rfl (Qui.ylds (y_assign rfl)) rfl rfl rfl (fun _ h => h.dropAt 2) K.cl ?_
      refine d_nil ?_
      refine f_then ?_
      refine c_ret ?_
      exact f_ret () (res1 rfl rfl) (fun w h => h.tail.tail.tail.tail.tail)
  · have z1 : ¬ 0 ≤ y1 := hy1 ▸ mt cmpV_ge.1 c1
    rw [decide_eq_false (show ¬ (kA lot good n alpha c ∧ kB lot bad n beta c) from fun h => c1 (ka.1 h.1))]
    clear c1 ka kb
    refine c_plan [.c 0, .c 1, .c 2, .c 3, .c 4, .c 5, .c 6, .c 7, .c 8, .c 9, .s 10, .s 11, .c 12, .c 13, .c 14, .c 15, .c 16, .s 17, .s 18, .c 19, .c 20, .c 21] [] ((K W ([(b17, row 25 [r2.v1, r2.v2])] :: [(b15, row 25 [r1.v1, r1.v2])] :: r2.L :: r1.L :: N))) Try.mixed (by kernel_rfl) rfl K.cl ?_
    refine d_c rfl (Qui.ylds (y_move rfl)) rfl rfl rfl (fun _ h => h) K.cl ?_
    refine d_c rfl (Qui.ylds (y_T (y_eql rfl rfl) (by omega))) rfl rfl rfl (fun _ h => h) K.cl ?_
    refine d_c rfl (Qui.ylds (y_move rfl)) rfl rfl rfl (fun _ h => h) K.cl ?_
    refine d_c rfl (Qui.ylds (y_move rfl)) rfl rfl rfl (fun _ h => h) K.cl ?_
    refine d_c rfl (Qui.ylds (y_T (y_eql rfl rfl) (by omega))) rfl rfl rfl (fun _ h => h) K.cl ?_
    refine d_c rfl (Qui.ylds (y_pickT rfl rfl)) rfl rfl rfl (fun _ h => h) K.cl ?_
    refine d_c rfl (Qui.ylds (y_move rfl)) rfl rfl rfl (fun _ h => h) K.cl ?_
    refine d_c rfl (Qui.ylds (y_loadA Try.tab rfl rfl rfl rfl (cells_row0 1 rfl rfl))) rfl rfl rfl (fun _ h => h) K.cl ?_
    refine d_c rfl (Qui.ylds (y_move rfl)) rfl rfl rfl (fun _ h => h) K.cl ?_
    refine d_c rfl (Qui.ylds (y_sub rfl rfl (by omega))) rfl rfl rfl (fun _ h => h) K.cl ?_
    rw [e0]
    refine d_call rfl (en_f rfl Try.call32) (by2 (u2 := fun v w => .agg #[v, w]) (ratio_spec (a := 1000000 - alpha) (b := 1000000) (by omega) (by omega) (by omega)) rfl) rfl rfl rfl (fun _ => K.cl) (fun _ _ _ h => h.dropAt 2) (fun r3 => ?_)
    haveI := r3.ok1
    haveI := r3.ok2
    skip
    refine d_call rfl (en_f rfl Try.call31) (Spec.convC (D' := fun _ => K W ([(b17, row 25 [r2.v1, r2.v2])] :: [(b15, row 25 [r1.v1, r1.v2])] :: r2.L :: r1.L :: N)) (fcmp2_spec (p := A) (q := An) (r := 1000000 - alpha) (s := 1000000) w1 w0 w4 w3 hn1 (by omega)) (fun _ h => h) (fun _ _ h => h.dropAt 2)) rfl rfl rfl (fun _ => K.cl) (fun _ _ _ h => h) (fun _ => ?_)
    rw [← hy1]
    refine d_c rfl (Qui.ylds (y_F (y_geq rfl rfl) (by assumption))) rfl rfl rfl (fun _ h => h) K.cl ?_
    refine d_c rfl (Qui.ylds (y_pickT rfl rfl)) rfl rfl rfl (fun _ h => h) K.cl ?_
    refine d_c rfl (Qui.ylds (y_move rfl)) rfl rfl rfl (fun _ h => h) K.cl ?_
    refine d_skip rfl rfl rfl rfl (fun _ h => h) K.cl ?_
    refine d_skip rfl rfl rfl rfl (fun _ h => h) K.cl ?_
    refine d_sskip rfl rfl rfl rfl (fun _ _ h => h) ?_
    skip
    refine d_sskip rfl rfl rfl rfl (fun _ _ h => h) ?_
    refine d_skip rfl rfl rfl rfl (fun _ h => h) K.cl ?_
    refine d_c rfl (Qui.ylds (y_pickF rfl rfl)) rfl rfl rfl (fun _ h => h) K.cl ?_
    refine d_c rfl (Qui.ylds (y_assign rfl)) rfl rfl rfl (fun _ h => h) K.cl ?_
    refine d_nil ?_
    refine f_then ?_
    refine c_ret ?_
    exact f_ret () (res1 rfl rfl) (fun w h => h.tail.tail.tail.tail)
set_option maxRecDepth 10000 in
set_option maxHeartbeats 16000000 in
theorem sSmaller_spec {W : World} {N : List Chunk} {lot good bad alpha beta m d : Int} (hl : i64 lot) (hg : i64 good) (hb : i64 bad) (ha : i64 alpha) (hbe : i64 beta) (hm : i64 m) (hd : i64 d) : Spec Try.prog 9 #[.int .i64 lot, .int .i64 good, .int .i64 bad, .int .i64 alpha, .int .i64 beta, .int .i64 m, .int .i64 d] (K W N) (fun _ : Unit => .bool true) (fun _ => K W N) := by
  unfold i64 at hl hg hb ha hbe hm hd
  refine enter (args := [_, _, _, _, _, _, _]) Try.func9 rfl Try.ntmps9 rfl ?_
  by_cases h1 : 60 < lot
  · refine c_seq ?_
    refine c_region ?_
    refine s_y (y_assign rfl) rfl rfl rfl ?_
    refine s_nil ?_
    refine f_then ?_
    refine c_seq ?_
    refine c_seq ?_
    refine c_region ?_
    refine s_y (y_move rfl) rfl rfl rfl ?_
    refine s_y (y_T (y_gtr rfl rfl) (by assumption)) rfl rfl rfl ?_
    refine s_y (y_move rfl) rfl rfl rfl ?_
    iterate 7 refine s_skip rfl rfl rfl ?_
    refine s_y (y_pickT rfl rfl) rfl rfl rfl ?_
    refine s_nil ?_
    refine f_then ?_
    refine c_condT rfl ?_
    refine c_seq ?_
    refine c_region ?_
    refine s_call (en_f rfl Try.call19) awake_spec rfl rfl rfl (fun _ => ?_)
    refine s_y (y_assign rfl) rfl rfl rfl ?_
    refine s_nil ?_
    refine f_then ?_
    refine c_ret ?_
    refine f_thenR ?_
    exact f_ret () (res1 rfl rfl) (fun w h => h)
  refine c_seq ?_
  refine c_region ?_
  refine s_y (y_assign rfl) rfl rfl rfl ?_
  refine s_nil ?_
  refine f_then ?_
  refine c_seq ?_
  refine c_seq ?_
  refine c_region ?_
  refine s_y (y_move rfl) rfl rfl rfl ?_
  refine s_y (y_F (y_gtr rfl rfl) (by assumption)) rfl rfl rfl ?_
  refine s_y (y_move rfl) rfl rfl rfl ?_
  refine s_y (y_move rfl) rfl rfl rfl ?_
  refine s_y (y_move rfl) rfl rfl rfl ?_
  refine s_y (y_move rfl) rfl rfl rfl ?_
  refine s_y (y_move rfl) rfl rfl rfl ?_
  refine s_y (y_move rfl) rfl rfl rfl ?_
  refine s_call (en_f rfl Try.call26) planned_spec rfl rfl rfl (fun _ => ?_)
  by_cases hp : plannedB lot good bad alpha beta
  · rw [decide_eq_true hp]
    obtain ⟨g1, g2, g3, g4, g5, g6, g7⟩ := hp
    obtain ⟨lot, rfl⟩ : ∃ k : Nat, lot = (k : Int) := ⟨lot.toNat, by omega⟩
    obtain ⟨good, rfl⟩ : ∃ k : Nat, good = (k : Int) := ⟨good.toNat, by omega⟩
    obtain ⟨bad, rfl⟩ : ∃ k : Nat, bad = (k : Int) := ⟨bad.toNat, by omega⟩
    obtain ⟨alpha, rfl⟩ : ∃ k : Nat, alpha = (k : Int) := ⟨alpha.toNat, by omega⟩
    obtain ⟨beta, rfl⟩ : ∃ k : Nat, beta = (k : Int) := ⟨beta.toNat, by omega⟩
    refine s_y (y_notT rfl) rfl rfl rfl ?_
    refine s_y (y_pickF rfl rfl) rfl rfl rfl ?_
    refine s_nil ?_
    refine f_then ?_
    refine c_condF rfl ?_
    refine c_skip ?_
    refine f_then ?_
    refine c_seq ?_
    refine c_region ?_
    refine s_y (y_move rfl) rfl rfl rfl ?_
    refine s_y (y_move rfl) rfl rfl rfl ?_
    refine s_y (y_move rfl) rfl rfl rfl ?_
    refine s_y (y_move rfl) rfl rfl rfl ?_
    refine s_y (y_move rfl) rfl rfl rfl ?_
    refine s_call (en_f rfl Try.call25) (plan_spec (W := W) (N := N) (lot := lot) (good := good) (bad := bad) (alpha := alpha) (beta := beta) (by omega) (by omega) (by omega) (by omega) (by omega) (by omega)) rfl rfl rfl (fun _ => ?_)
    obtain ⟨n, hn⟩ : ∃ n, n = (planF lot good bad alpha beta lot 0).1 := ⟨_, rfl⟩
    obtain ⟨c, hc⟩ : ∃ c, c = (planF lot good bad alpha beta lot 0).2 := ⟨_, rfl⟩
    obtain ⟨q1, q2, q3, q4⟩ := plan_law (lot := lot) (good := good) (bad := bad) (alpha := alpha) (beta := beta) (by omega) (by omega) (by omega) hn hc
    rw [← hn, ← hc]
    refine s_y (y_move rfl) rfl rfl rfl ?_
    refine s_y (y_extract rfl rfl) rfl rfl rfl ?_
    refine s_y (y_extract rfl rfl) rfl rfl rfl ?_
    refine s_y (y_extract rfl rfl) rfl rfl rfl ?_
    refine s_y (y_assign rfl) rfl rfl rfl ?_
    refine s_y (y_assign rfl) rfl rfl rfl ?_
    refine s_y (y_assign rfl) rfl rfl rfl ?_
    refine s_nil ?_
    refine f_then ?_
    refine c_seq ?_
    refine c_seq ?_
    refine c_region ?_
    refine s_y (y_move rfl) rfl rfl rfl ?_
    refine s_y (y_F (y_neq rfl rfl) (by omega)) rfl rfl rfl ?_
    refine s_y (y_move rfl) rfl rfl rfl ?_
    refine s_y (y_move rfl) rfl rfl rfl ?_
    refine s_y (y_F (y_lss rfl rfl) (by omega)) rfl rfl rfl ?_
    refine s_y (y_pickF rfl rfl) rfl rfl rfl ?_
    refine s_y (y_move rfl) rfl rfl rfl ?_
    refine s_y (y_move rfl) rfl rfl rfl ?_
    refine s_y (y_move rfl) rfl rfl rfl ?_
    refine s_y (y_F (y_gtr rfl rfl) (by omega)) rfl rfl rfl ?_
    refine s_y (y_pickF rfl rfl) rfl rfl rfl ?_
    refine s_y (y_move rfl) rfl rfl rfl ?_
    refine s_y (y_move rfl) rfl rfl rfl ?_
    refine s_y (y_F (y_lss rfl rfl) (by omega)) rfl rfl rfl ?_
    refine s_y (y_pickF rfl rfl) rfl rfl rfl ?_
    refine s_y (y_move rfl) rfl rfl rfl ?_
    refine s_y (y_move rfl) rfl rfl rfl ?_
    refine s_y (y_move rfl) rfl rfl rfl ?_
    refine s_y (y_move rfl) rfl rfl rfl ?_
    refine s_y (y_move rfl) rfl rfl rfl ?_
    refine s_y (y_move rfl) rfl rfl rfl ?_
    refine s_y (y_move rfl) rfl rfl rfl ?_
    refine s_y (y_move rfl) rfl rfl rfl ?_
    refine s_call (en_f rfl Try.call34) (keeps_spec (lot := lot) (good := good) (bad := bad) (alpha := alpha) (beta := beta) (n := n) (c := (c : Int)) (by omega) (by omega) (by omega) (by omega) (by omega) q1) rfl rfl rfl (fun _ => ?_)
    rw [decide_eq_true (show kA lot good n alpha (c : Int) ∧ kB lot bad n beta (c : Int) from ⟨q2, q3⟩)]
    by_cases h2 : m < 0
    · refine s_y (y_notT rfl) rfl rfl rfl ?_
      refine s_y (y_pickF rfl rfl) rfl rfl rfl ?_
      refine s_nil ?_
      refine f_then ?_
      refine c_condF rfl ?_
      refine c_skip ?_
      refine f_then ?_
      refine c_seq ?_
      refine c_seq ?_
      refine c_region ?_
      refine s_y (y_move rfl) rfl rfl rfl ?_
      refine s_y (y_T (y_lss rfl rfl) (by assumption)) rfl rfl rfl ?_
      refine s_y (y_move rfl) rfl rfl rfl ?_
      iterate 2 refine s_skip rfl rfl rfl ?_
      refine s_y (y_pickT rfl rfl) rfl rfl rfl ?_
      refine s_y (y_move rfl) rfl rfl rfl ?_
      iterate 3 refine s_skip rfl rfl rfl ?_
      refine s_y (y_pickT rfl rfl) rfl rfl rfl ?_
      refine s_y (y_move rfl) rfl rfl rfl ?_
      iterate 8 refine s_skip rfl rfl rfl ?_
      refine s_y (y_pickT rfl rfl) rfl rfl rfl ?_
      refine s_nil ?_
      refine f_then ?_
      refine c_condT rfl ?_
      refine c_seq ?_
      refine c_region ?_
      refine s_call (en_f rfl Try.call19) awake_spec rfl rfl rfl (fun _ => ?_)
      refine s_y (y_assign rfl) rfl rfl rfl ?_
      refine s_nil ?_
      refine f_then ?_
      refine c_ret ?_
      refine f_thenR ?_
      exact f_ret () (res1 rfl rfl) (fun w h => h)
    by_cases h3 : d < 0
    · refine s_y (y_notT rfl) rfl rfl rfl ?_
      refine s_y (y_pickF rfl rfl) rfl rfl rfl ?_
      refine s_nil ?_
      refine f_then ?_
      refine c_condF rfl ?_
      refine c_skip ?_
      refine f_then ?_
      refine c_seq ?_
      refine c_seq ?_
      refine c_region ?_
      refine s_y (y_move rfl) rfl rfl rfl ?_
      refine s_y (y_F (y_lss rfl rfl) (by assumption)) rfl rfl rfl ?_
      refine s_y (y_move rfl) rfl rfl rfl ?_
      refine s_y (y_move rfl) rfl rfl rfl ?_
      refine s_y (y_T (y_lss rfl rfl) (by assumption)) rfl rfl rfl ?_
      refine s_y (y_pickF rfl rfl) rfl rfl rfl ?_
      refine s_y (y_move rfl) rfl rfl rfl ?_
      iterate 3 refine s_skip rfl rfl rfl ?_
      refine s_y (y_pickT rfl rfl) rfl rfl rfl ?_
      refine s_y (y_move rfl) rfl rfl rfl ?_
      iterate 8 refine s_skip rfl rfl rfl ?_
      refine s_y (y_pickT rfl rfl) rfl rfl rfl ?_
      refine s_nil ?_
      refine f_then ?_
      refine c_condT rfl ?_
      refine c_seq ?_
      refine c_region ?_
      refine s_call (en_f rfl Try.call19) awake_spec rfl rfl rfl (fun _ => ?_)
      refine s_y (y_assign rfl) rfl rfl rfl ?_
      refine s_nil ?_
      refine f_then ?_
      refine c_ret ?_
      refine f_thenR ?_
      exact f_ret () (res1 rfl rfl) (fun w h => h)
    by_cases h4 : (n : Int) < m
    · refine s_y (y_notT rfl) rfl rfl rfl ?_
      refine s_y (y_pickF rfl rfl) rfl rfl rfl ?_
      refine s_nil ?_
      refine f_then ?_
      refine c_condF rfl ?_
      refine c_skip ?_
      refine f_then ?_
      refine c_seq ?_
      refine c_seq ?_
      refine c_region ?_
      refine s_y (y_move rfl) rfl rfl rfl ?_
      refine s_y (y_F (y_lss rfl rfl) (by assumption)) rfl rfl rfl ?_
      refine s_y (y_move rfl) rfl rfl rfl ?_
      refine s_y (y_move rfl) rfl rfl rfl ?_
      refine s_y (y_F (y_lss rfl rfl) (by assumption)) rfl rfl rfl ?_
      refine s_y (y_pickF rfl rfl) rfl rfl rfl ?_
      refine s_y (y_move rfl) rfl rfl rfl ?_
      refine s_y (y_move rfl) rfl rfl rfl ?_
      refine s_y (y_move rfl) rfl rfl rfl ?_
      refine s_y (y_T (y_gtr rfl rfl) (by assumption)) rfl rfl rfl ?_
      refine s_y (y_pickF rfl rfl) rfl rfl rfl ?_
      refine s_y (y_move rfl) rfl rfl rfl ?_
      iterate 8 refine s_skip rfl rfl rfl ?_
      refine s_y (y_pickT rfl rfl) rfl rfl rfl ?_
      refine s_nil ?_
      refine f_then ?_
      refine c_condT rfl ?_
      refine c_seq ?_
      refine c_region ?_
      refine s_call (en_f rfl Try.call19) awake_spec rfl rfl rfl (fun _ => ?_)
      refine s_y (y_assign rfl) rfl rfl rfl ?_
      refine s_nil ?_
      refine f_then ?_
      refine c_ret ?_
      refine f_thenR ?_
      exact f_ret () (res1 rfl rfl) (fun w h => h)
    by_cases h5 : m = (n : Int)
    · by_cases h6 : (c : Int) ≤ d
      · refine s_y (y_notT rfl) rfl rfl rfl ?_
        refine s_y (y_pickF rfl rfl) rfl rfl rfl ?_
        refine s_nil ?_
        refine f_then ?_
        refine c_condF rfl ?_
        refine c_skip ?_
        refine f_then ?_
        refine c_seq ?_
        refine c_seq ?_
        refine c_region ?_
        refine s_y (y_move rfl) rfl rfl rfl ?_
        refine s_y (y_F (y_lss rfl rfl) (by assumption)) rfl rfl rfl ?_
        refine s_y (y_move rfl) rfl rfl rfl ?_
        refine s_y (y_move rfl) rfl rfl rfl ?_
        refine s_y (y_F (y_lss rfl rfl) (by assumption)) rfl rfl rfl ?_
        refine s_y (y_pickF rfl rfl) rfl rfl rfl ?_
        refine s_y (y_move rfl) rfl rfl rfl ?_
        refine s_y (y_move rfl) rfl rfl rfl ?_
        refine s_y (y_move rfl) rfl rfl rfl ?_
        refine s_y (y_F (y_gtr rfl rfl) (by assumption)) rfl rfl rfl ?_
        refine s_y (y_pickF rfl rfl) rfl rfl rfl ?_
        refine s_y (y_move rfl) rfl rfl rfl ?_
        refine s_y (y_move rfl) rfl rfl rfl ?_
        refine s_y (y_move rfl) rfl rfl rfl ?_
        refine s_y (y_T (y_eql rfl rfl) (by assumption)) rfl rfl rfl ?_
        refine s_y (y_move rfl) rfl rfl rfl ?_
        refine s_y (y_move rfl) rfl rfl rfl ?_
        refine s_y (y_move rfl) rfl rfl rfl ?_
        refine s_y (y_T (y_geq rfl rfl) (by assumption)) rfl rfl rfl ?_
        refine s_y (y_pickT rfl rfl) rfl rfl rfl ?_
        refine s_y (y_pickF rfl rfl) rfl rfl rfl ?_
        refine s_nil ?_
        refine f_then ?_
        refine c_condT rfl ?_
        refine c_seq ?_
        refine c_region ?_
        refine s_call (en_f rfl Try.call19) awake_spec rfl rfl rfl (fun _ => ?_)
        refine s_y (y_assign rfl) rfl rfl rfl ?_
        refine s_nil ?_
        refine f_then ?_
        refine c_ret ?_
        refine f_thenR ?_
        exact f_ret () (res1 rfl rfl) (fun w h => h)
      · subst h5
        refine s_y (y_notT rfl) rfl rfl rfl ?_
        refine s_y (y_pickF rfl rfl) rfl rfl rfl ?_
        refine s_nil ?_
        refine f_then ?_
        refine c_condF rfl ?_
        refine c_skip ?_
        refine f_then ?_
        refine c_seq ?_
        refine c_seq ?_
        refine c_region ?_
        refine s_y (y_move rfl) rfl rfl rfl ?_
        refine s_y (y_F (y_lss rfl rfl) (by assumption)) rfl rfl rfl ?_
        refine s_y (y_move rfl) rfl rfl rfl ?_
        refine s_y (y_move rfl) rfl rfl rfl ?_
        refine s_y (y_F (y_lss rfl rfl) (by assumption)) rfl rfl rfl ?_
        refine s_y (y_pickF rfl rfl) rfl rfl rfl ?_
        refine s_y (y_move rfl) rfl rfl rfl ?_
        refine s_y (y_move rfl) rfl rfl rfl ?_
        refine s_y (y_move rfl) rfl rfl rfl ?_
        refine s_y (y_F (y_gtr rfl rfl) (by assumption)) rfl rfl rfl ?_
        refine s_y (y_pickF rfl rfl) rfl rfl rfl ?_
        refine s_y (y_move rfl) rfl rfl rfl ?_
        refine s_y (y_move rfl) rfl rfl rfl ?_
        refine s_y (y_move rfl) rfl rfl rfl ?_
        refine s_y (y_T (y_eql rfl rfl) (by omega)) rfl rfl rfl ?_
        refine s_y (y_move rfl) rfl rfl rfl ?_
        refine s_y (y_move rfl) rfl rfl rfl ?_
        refine s_y (y_move rfl) rfl rfl rfl ?_
        refine s_y (y_F (y_geq rfl rfl) (by assumption)) rfl rfl rfl ?_
        refine s_y (y_pickT rfl rfl) rfl rfl rfl ?_
        refine s_y (y_pickF rfl rfl) rfl rfl rfl ?_
        refine s_nil ?_
        refine f_then ?_
        refine c_condF rfl ?_
        refine c_skip ?_
        refine f_then ?_
        refine c_seq ?_
        refine c_region ?_
        refine s_y (y_move rfl) rfl rfl rfl ?_
        refine s_y (y_move rfl) rfl rfl rfl ?_
        refine s_y (y_move rfl) rfl rfl rfl ?_
        refine s_y (y_move rfl) rfl rfl rfl ?_
        refine s_y (y_move rfl) rfl rfl rfl ?_
        refine s_y (y_move rfl) rfl rfl rfl ?_
        refine s_y (y_move rfl) rfl rfl rfl ?_
        refine s_call (en_f rfl Try.call34) (keeps_spec (lot := lot) (good := good) (bad := bad) (alpha := alpha) (beta := beta) (n := n) (c := d) (by omega) (by omega) (by omega) (by omega) (by omega) q1) rfl rfl rfl (fun _ => ?_)
        rw [decide_eq_false (q4 n d (by omega) (.inr ⟨rfl, by omega⟩))]
        refine s_y (y_notF rfl) rfl rfl rfl ?_
        refine s_y (y_move rfl) rfl rfl rfl ?_
        refine s_call (en_f rfl Try.call19) awake_spec rfl rfl rfl (fun _ => ?_)
        refine s_y (y_pickT rfl rfl) rfl rfl rfl ?_
        refine s_y (y_assign rfl) rfl rfl rfl ?_
        refine s_nil ?_
        refine f_then ?_
        refine c_ret ?_
        exact f_ret () (res1 rfl rfl) (fun w h => h)
    · obtain ⟨m, rfl⟩ : ∃ k : Nat, m = (k : Int) := ⟨m.toNat, by omega⟩
      refine s_y (y_notT rfl) rfl rfl rfl ?_
      refine s_y (y_pickF rfl rfl) rfl rfl rfl ?_
      refine s_nil ?_
      refine f_then ?_
      refine c_condF rfl ?_
      refine c_skip ?_
      refine f_then ?_
      refine c_seq ?_
      refine c_seq ?_
      refine c_region ?_
      refine s_y (y_move rfl) rfl rfl rfl ?_
      refine s_y (y_F (y_lss rfl rfl) (by assumption)) rfl rfl rfl ?_
      refine s_y (y_move rfl) rfl rfl rfl ?_
      refine s_y (y_move rfl) rfl rfl rfl ?_
      refine s_y (y_F (y_lss rfl rfl) (by assumption)) rfl rfl rfl ?_
      refine s_y (y_pickF rfl rfl) rfl rfl rfl ?_
      refine s_y (y_move rfl) rfl rfl rfl ?_
      refine s_y (y_move rfl) rfl rfl rfl ?_
      refine s_y (y_move rfl) rfl rfl rfl ?_
      refine s_y (y_F (y_gtr rfl rfl) (by assumption)) rfl rfl rfl ?_
      refine s_y (y_pickF rfl rfl) rfl rfl rfl ?_
      refine s_y (y_move rfl) rfl rfl rfl ?_
      refine s_y (y_move rfl) rfl rfl rfl ?_
      refine s_y (y_move rfl) rfl rfl rfl ?_
      refine s_y (y_F (y_eql rfl rfl) (by assumption)) rfl rfl rfl ?_
      refine s_y (y_move rfl) rfl rfl rfl ?_
      iterate 3 refine s_skip rfl rfl rfl ?_
      refine s_y (y_pickF rfl rfl) rfl rfl rfl ?_
      refine s_y (y_pickF rfl rfl) rfl rfl rfl ?_
      refine s_nil ?_
      refine f_then ?_
      refine c_condF rfl ?_
      refine c_skip ?_
      refine f_then ?_
      refine c_seq ?_
      refine c_region ?_
      refine s_y (y_move rfl) rfl rfl rfl ?_
      refine s_y (y_move rfl) rfl rfl rfl ?_
      refine s_y (y_move rfl) rfl rfl rfl ?_
      refine s_y (y_move rfl) rfl rfl rfl ?_
      refine s_y (y_move rfl) rfl rfl rfl ?_
      refine s_y (y_move rfl) rfl rfl rfl ?_
      refine s_y (y_move rfl) rfl rfl rfl ?_
      refine s_call (en_f rfl Try.call34) (keeps_spec (lot := lot) (good := good) (bad := bad) (alpha := alpha) (beta := beta) (n := m) (c := d) (by omega) (by omega) (by omega) (by omega) (by omega) (by omega)) rfl rfl rfl (fun _ => ?_)
      rw [decide_eq_false (q4 m d (by omega) (.inl (by omega)))]
      refine s_y (y_notF rfl) rfl rfl rfl ?_
      refine s_y (y_move rfl) rfl rfl rfl ?_
      refine s_call (en_f rfl Try.call19) awake_spec rfl rfl rfl (fun _ => ?_)
      refine s_y (y_pickT rfl rfl) rfl rfl rfl ?_
      refine s_y (y_assign rfl) rfl rfl rfl ?_
      refine s_nil ?_
      refine f_then ?_
      refine c_ret ?_
      exact f_ret () (res1 rfl rfl) (fun w h => h)
  · rw [decide_eq_false hp]
    refine s_y (y_notF rfl) rfl rfl rfl ?_
    refine s_y (y_pickF rfl rfl) rfl rfl rfl ?_
    refine s_nil ?_
    refine f_then ?_
    refine c_condT rfl ?_
    refine c_seq ?_
    refine c_region ?_
    refine s_call (en_f rfl Try.call19) awake_spec rfl rfl rfl (fun _ => ?_)
    refine s_y (y_assign rfl) rfl rfl rfl ?_
    refine s_nil ?_
    refine f_then ?_
    refine c_ret ?_
    refine f_thenR ?_
    exact f_ret () (res1 rfl rfl) (fun w h => h)
theorem sampleSmaller_walk (W : World) (lot good bad alpha beta m d : Int) (hl : i64 lot) (hg : i64 good) (hb : i64 bad) (ha : i64 alpha) (hbe : i64 beta) (hm : i64 m) (hd : i64 d) : Spec Try.prog 9 #[.int .i64 lot, .int .i64 good, .int .i64 bad, .int .i64 alpha, .int .i64 beta, .int .i64 m, .int .i64 d] (K W []) (fun _ : Unit => .bool true) (fun _ => K W []) := sSmaller_spec hl hg hb ha hbe hm hd
end Go.KL
end

section
/- SampleSmaller: for every input the law returns true, and its arguments read as they did. No condition. -/
namespace Go.Proofs.Ytdknafhaphadiaa
open Go.ChangeShapes Go.WideShapes Go.RowKit Go.KL
set_option linter.unusedVariables false
theorem own : ownKnob Try.prog.godebug = none := by kernel_rfl
set_option maxRecDepth 100000 in
theorem sampleSmaller_lifted (os : Os) (started : os.Started) (H : Type) (enc : TypeId × Value → H) :
    ReturnsInHanded {} Try.checked os 9 .any (Rows.sampleSmallerSpec.pre6 enc Try.prog Try.f9 Rows.sampleSmallerRow.domain false) (Rows.sampleSmallerSpec.post enc Try.prog Try.f9 false true false false) := by
  refine returnsInHanded_of_change (C := Try.checked) own started (by kernel_rfl) Try.func9
    (ChangeSpec.witness6 (enc := enc) (C := Try.checked) false ⟨#[], #[.int .i64 0, .int .i64 0, .int .i64 0, .int .i64 0, .int .i64 0, .int .i64 0, .int .i64 0], []⟩ 8 (by kernel_rfl) (by kernel_rfl) (by kernel_rfl) (by kernel_rfl)) ?_
  intro W base args ds gs before hval hW hcnd _
  obtain ⟨p, q, hA, hV, rfl, hfz, hnd⟩ := id hW
  obtain ⟨rfl, rfl⟩ := trodVars_none hV
  obtain ⟨v0, vs0, d0, ds0, p0, q0, e0, rfl, rfl, h0, r0⟩ := trodAll_cons hA
  obtain ⟨v1, vs1, d1, ds1, p1, q1, rfl, rfl, rfl, h1, r1⟩ := trodAll_cons r0
  obtain ⟨v2, vs2, d2, ds2, p2, q2, rfl, rfl, rfl, h2, r2⟩ := trodAll_cons r1
  obtain ⟨v3, vs3, d3, ds3, p3, q3, rfl, rfl, rfl, h3, r3⟩ := trodAll_cons r2
  obtain ⟨v4, vs4, d4, ds4, p4, q4, rfl, rfl, rfl, h4, r4⟩ := trodAll_cons r3
  obtain ⟨v5, vs5, d5, ds5, p5, q5, rfl, rfl, rfl, h5, r5⟩ := trodAll_cons r4
  obtain ⟨v6, vs6, d6, ds6, p6, q6, rfl, rfl, rfl, h6, r6⟩ := trodAll_cons r5
  obtain ⟨rfl, rfl, rfl⟩ := trodAll_nil r6
  obtain rfl : args = #[v0, v1, v2, v3, v4, v5, v6] := by cases args; simp_all
  obtain ⟨k0, rfl, hk0⟩ := arg3 (hval 0 3 _ rfl rfl) h0
  obtain ⟨k1, rfl, hk1⟩ := arg3 (hval 1 3 _ rfl rfl) h1
  obtain ⟨k2, rfl, hk2⟩ := arg3 (hval 2 3 _ rfl rfl) h2
  obtain ⟨k3, rfl, hk3⟩ := arg3 (hval 3 3 _ rfl rfl) h3
  obtain ⟨k4, rfl, hk4⟩ := arg3 (hval 4 3 _ rfl rfl) h4
  obtain ⟨k5, rfl, hk5⟩ := arg3 (hval 5 3 _ rfl rfl) h5
  obtain ⟨k6, rfl, hk6⟩ := arg3 (hval 6 3 _ rfl rfl) h6
  refine ((sampleSmaller_walk W k0 k1 k2 k3 k4 k5 k6 hk0 hk1 hk2 hk3 hk4 hk5 hk6) W (K.refl W)).mono ?_
  rintro e W' ⟨x, rfl, hk⟩
  exact ⟨_, rfl, law_post (t := 4) laidOut (by decide +kernel) rfl rfl u4 hW rfl hk.toExt⟩
theorem joined : joinedFacts Try.pinned.checked.prog 9 Try.f9 Rows.sampleSmallerSpec Rows.sampleSmallerRow = true := by
  show joinedFacts Try.prog 9 Try.f9 Rows.sampleSmallerSpec Rows.sampleSmallerRow = true
  unfold joinedFacts
  rw [Go.KL.may_enter, Go.KL.lifts_final, Go.KL.make_cut]
  kernel_rfl
/-- The statement. -/
theorem sampleSmaller_holds : Rows.SampleSmallerSaid :=
  OpenClaim.holds_of_wide 9 Try.f9 rfl rfl rfl rfl rfl rfl rfl ⟨rfl, rfl, rfl, rfl, rfl⟩ rfl rfl rfl rfl rfl (by kernel_rfl) Try.func9 joined
    (of_decide_eq_true (by kernel_rfl)) (by unfold Func.isWrapper; first | (rw [if_pos (by decide +kernel)]; kernel_rfl) | (rw [if_neg (by decide +kernel)]; exact ⟨rfl, rfl⟩))
    (fun os started H enc _ => sampleSmaller_lifted os started H enc)
end Go.Proofs.Ytdknafhaphadiaa
end
