/- SampleNext: for every input the law returns true, and its arguments read as they did. No condition. -/
import Derived.Test.YtdknafhaphadiaaRows
import Derived.JoinedOf
import Derived.Handed
import Derived.Test.YtdknafhaphadiaaL6
section
/- Walks: Expect. -/
namespace Go.KL
open Go.Proofs
/-- The samples of u pieces that leave an inspection open. -/
def opnT (g bad n u : Nat) (c : Int) (i : Nat) : Nat := if (i : Int) ≤ c ∧ (u : Int) - i < n - c then tm g bad u i else 0
def opn (lot bad n : Nat) (c : Int) (u : Nat) : Nat := psum (opnT (lot - bad) bad n u c) (u - (lot - bad)) (min u bad + 1 - (u - (lot - bad)))
/-- The sum of the probabilities, not in lowest terms. -/
def expF (lot bad n : Nat) (c : Int) : Nat → Nat × Nat
  | 0 => (0, 1)
  | u + 1 => ((expF lot bad n c u).1 * bino lot u + opn lot bad n c u * (expF lot bad n c u).2, (expF lot bad n c u).2 * bino lot u)
theorem opnT_le {g bad n u i e : Nat} {c : Int} (h : bad + g ≤ e) : opnT g bad n u c i ≤ 2 ^ e := by
  unfold opnT
  split
  · exact Nat.le_trans tm_le (Nat.pow_le_pow_right (by decide) h)
  · exact Nat.zero_le _
theorem psum_leE {T : Nat → Nat} {lo e : Nat} (hT : ∀ i, T i ≤ 2 ^ e) : ∀ d, psum T lo d ≤ d * 2 ^ e
  | 0 => Nat.zero_le _
  | d + 1 => by
    have h := psum_leE (lo := lo) hT d
    have h2 := hT (lo + d)
    rw [psum, Nat.add_mul, Nat.one_mul]
    omega
theorem opn_le {lot bad n u e : Nat} {c : Int} (h1 : bad ≤ lot) (h2 : lot ≤ e) (h3 : lot ≤ 60) : opn lot bad n c u ≤ 2 ^ (6 + e) := by
  unfold opn
  refine Nat.le_trans (psum_leE (e := e) (fun _ => opnT_le (by omega)) _) ?_
  rw [Nat.pow_add]
  exact Nat.mul_le_mul_right _ (by omega)
theorem exp_le {lot bad n e : Nat} {c : Int} (h1 : bad ≤ lot) (h2 : lot ≤ e) (h3 : lot ≤ 60) : ∀ u, (expF lot bad n c u).1 ≤ 2 ^ ((7 + e) * u) ∧ (expF lot bad n c u).2 ≤ 2 ^ (e * u)
  | 0 => ⟨Nat.zero_le _, by show 1 ≤ 2 ^ 0; decide⟩
  | u + 1 => by
    have ih := exp_le (n := n) (c := c) h1 h2 h3 u
    have hb : bino lot u ≤ 2 ^ e := bino_e h2
    have ho := opn_le (n := n) (c := c) (u := u) h1 h2 h3
    have k1 : (expF lot bad n c u).1 * bino lot u ≤ 2 ^ ((7 + e) * u + (6 + e)) := fit ih.1 hb (by omega)
    have k2 : opn lot bad n c u * (expF lot bad n c u).2 ≤ 2 ^ ((7 + e) * u + (6 + e)) := fit ho ih.2 (by
      have : e * u ≤ (7 + e) * u := Nat.mul_le_mul_right u (by omega)
      omega)
    refine ⟨?_, fit ih.2 hb (by rw [Nat.mul_succ]; exact Nat.le_refl _)⟩
    rw [show (7 + e) * (u + 1) = ((7 + e) * u + (6 + e)) + 1 by rw [Nat.mul_succ]; omega, Nat.pow_succ]
    show (expF lot bad n c u).1 * bino lot u + opn lot bad n c u * (expF lot bad n c u).2 ≤ _
    omega
theorem exp_nz {lot bad n : Nat} {c : Int} : ∀ {u : Nat}, u ≤ lot + 1 → (expF lot bad n c u).2 ≠ 0
  | 0, _ => Nat.one_ne_zero
  | u + 1, h => Nat.mul_ne_zero (exp_nz (by omega)) (bino_nz (by omega))
theorem boxes_marks {Ds : List Nat} {F : List Chunk} : boxes (Ds.map (fun D => (D, dfO)) :: F) = boxes F := by
  unfold boxes
  rw [List.all_cons]
  have : (Ds.map (fun D => (D, dfO))).all (fun e => notU e.2) = true := by
    rw [List.all_map]
    exact List.all_eq_true.2 fun _ _ => rfl
  rw [this]
  rfl
theorem boxes_mid {A F : List Chunk} {Ds : List Nat} (h1 : boxes A = true) (h2 : boxes F = true) : boxes (A ++ (Ds.map (fun D => (D, dfO)) :: F)) = true := by
  have h3 := boxes_marks (Ds := Ds) (F := F)
  unfold boxes at *
  rw [List.all_append, h1, h3, h2]
  rfl
theorem SC.sub {P : Program} {n : Nat} {Q : Post} {c : Code} {σ σ' : Slots} {C : World → Prop} (hs : KL.sub σ σ') (h : SC P n Q c σ' C) : SC P n Q c σ C := fun a w hE hw => h a w (hE.mono (sub_look hs)) hw
theorem SC.mark0 {P : Program} {n : Nat} {Q : Post} {c : Code} {σ : Slots} {C : World → Prop} (hm : look σ MK = none) (h : SC P n Q c ((MK, mkV []) :: σ) C) : SC P n Q c σ C := by
  intro a w hE hw
  refine h a w ⟨hE.size, hE.lt, ?_, fun d v hd e => hE.at_ d v hd (by rwa [look_cons_ne (Ne.symm hd)] at e)⟩ hw
  rw [look_cons_eq, mkOf_mkV, hE.defers, hm]
  rfl
theorem sum_lt {x y a e : Nat} (h1 : x ≤ 2 ^ a) (h2 : y ≤ 2 ^ a) (ha : a + 1 < e) : x + y < 2 ^ e := by
  have h3 : x + y ≤ 2 ^ (a + 1) := by
    rw [Nat.pow_succ]
    omega
  exact fit_lt h3 ha
attribute [local irreducible] SC St Fin Sq Ylds Doos Sets Enters Spec CellIs CellsAre Then Ret Rnd Chn resOK ints bools recs arr
set_option maxRecDepth 10000 in
set_option maxHeartbeats 16000000 in
theorem expectE_spec {W : World} {N : List Chunk} {lot bad n c : Int} (h : ¬ ((0 ≤ lot ∧ lot ≤ 256) ∧ (0 ≤ bad ∧ bad ≤ lot) ∧ (0 ≤ n ∧ n ≤ lot) ∧ 0 ≤ c)) :
    Spec Try.prog 40 #[.int .i64 lot, .int .i64 bad, .int .i64 n, .int .i64 c] (K W N) (fun _ : Unit => .tuple #[.agg #[.slice none 0 0, .slice none 0 0], .int .i64 2]) (fun _ => K W N) := by
  refine enter (args := [_, _, _, _]) Try.func40 rfl Try.ntmps40 rfl ?_
  refine c_seq ?_
  refine c_region ?_
  refine s_do (do_box rfl) rfl rfl rfl (fun b6 => ?_)
  refine s_do (do_box rfl) rfl rfl rfl (fun b7 => ?_)
  refine s_do (do_alloc Try.tab rfl) rfl rfl rfl (fun b8 => ?_)
  refine s_y (y_assign rfl) rfl rfl rfl ?_
  refine s_nil ?_
  refine f_then ?_
  refine c_seq ?_
  refine c_seq ?_
  refine c_region ?_
  refine s_y (y_move rfl) rfl rfl rfl ?_
  refine s_call (en_f rfl Try.call49) inside_spec rfl rfl rfl (fun _ => ?_)
  by_cases g1 : 0 ≤ lot ∧ lot ≤ 256
  · rw [decide_eq_true g1]
    refine s_y (y_notT rfl) rfl rfl rfl ?_
    refine s_y (y_move rfl) rfl rfl rfl ?_
    refine s_y (y_move rfl) rfl rfl rfl ?_
    refine s_y (y_move rfl) rfl rfl rfl ?_
    refine s_call (en_f rfl Try.call49) inside_spec rfl rfl rfl (fun _ => ?_)
    by_cases g2 : 0 ≤ bad ∧ bad ≤ lot
    · rw [decide_eq_true g2]
      refine s_y (y_notT rfl) rfl rfl rfl ?_
      refine s_y (y_pickF rfl rfl) rfl rfl rfl ?_
      refine s_y (y_move rfl) rfl rfl rfl ?_
      refine s_y (y_load Try.tab rfl rfl (cell_row 2 rfl rfl)) rfl rfl rfl ?_
      refine s_y (y_move rfl) rfl rfl rfl ?_
      refine s_call (en_f rfl Try.call49) inside_spec rfl rfl rfl (fun _ => ?_)
      by_cases g3 : 0 ≤ n ∧ n ≤ lot
      · have g4 : c < 0 := by
          apply Classical.byContradiction
          intro hc
          exact h ⟨g1, g2, g3, by omega⟩
        rw [decide_eq_true g3]
        refine s_y (y_notT rfl) rfl rfl rfl ?_
        refine s_y (y_pickF rfl rfl) rfl rfl rfl ?_
        refine s_y (y_move rfl) rfl rfl rfl ?_
        refine s_y (y_load Try.tab rfl rfl (cell_row 1 rfl rfl)) rfl rfl rfl ?_
        refine s_y (y_T (y_lss rfl rfl) (by assumption)) rfl rfl rfl ?_
        refine s_y (y_pickF rfl rfl) rfl rfl rfl ?_
        refine s_nil ?_
        refine f_then ?_
        refine c_condT rfl ?_
        refine c_seq ?_
        refine c_region ?_
        refine s_y (y_build Try.tab rfl rfl rfl rfl rfl) rfl rfl rfl ?_
        refine s_set (set_25 0 rfl rfl rfl rfl) rfl rfl ?_
        refine s_y (y_assign rfl) rfl rfl rfl ?_
        refine s_nil ?_
        refine f_then ?_
        refine c_ret ?_
        refine f_thenR ?_
        exact f_ret () (resA1 Try.tab rfl rfl rfl rfl rfl rfl (cells_row0 0 rfl rfl)) (fun w h => h.tail.tail.tail)
      · rw [decide_eq_false g3]
        refine s_y (y_notF rfl) rfl rfl rfl ?_
        refine s_y (y_pickF rfl rfl) rfl rfl rfl ?_
        refine s_y (y_move rfl) rfl rfl rfl ?_
        iterate 2 refine s_skip rfl rfl rfl ?_
        refine s_y (y_pickT rfl rfl) rfl rfl rfl ?_
        refine s_nil ?_
        refine f_then ?_
        refine c_condT rfl ?_
        refine c_seq ?_
        refine c_region ?_
        refine s_y (y_build Try.tab rfl rfl rfl rfl rfl) rfl rfl rfl ?_
        refine s_set (set_25 0 rfl rfl rfl rfl) rfl rfl ?_
        refine s_y (y_assign rfl) rfl rfl rfl ?_
        refine s_nil ?_
        refine f_then ?_
        refine c_ret ?_
        refine f_thenR ?_
        exact f_ret () (resA1 Try.tab rfl rfl rfl rfl rfl rfl (cells_row0 0 rfl rfl)) (fun w h => h.tail.tail.tail)
    · rw [decide_eq_false g2]
      refine s_y (y_notF rfl) rfl rfl rfl ?_
      refine s_y (y_pickF rfl rfl) rfl rfl rfl ?_
      refine s_y (y_move rfl) rfl rfl rfl ?_
      iterate 4 refine s_skip rfl rfl rfl ?_
      refine s_y (y_pickT rfl rfl) rfl rfl rfl ?_
      refine s_y (y_move rfl) rfl rfl rfl ?_
      iterate 2 refine s_skip rfl rfl rfl ?_
      refine s_y (y_pickT rfl rfl) rfl rfl rfl ?_
      refine s_nil ?_
      refine f_then ?_
      refine c_condT rfl ?_
      refine c_seq ?_
      refine c_region ?_
      refine s_y (y_build Try.tab rfl rfl rfl rfl rfl) rfl rfl rfl ?_
      refine s_set (set_25 0 rfl rfl rfl rfl) rfl rfl ?_
      refine s_y (y_assign rfl) rfl rfl rfl ?_
      refine s_nil ?_
      refine f_then ?_
      refine c_ret ?_
      refine f_thenR ?_
      exact f_ret () (resA1 Try.tab rfl rfl rfl rfl rfl rfl (cells_row0 0 rfl rfl)) (fun w h => h.tail.tail.tail)
  · rw [decide_eq_false g1]
    refine s_y (y_notF rfl) rfl rfl rfl ?_
    refine s_y (y_move rfl) rfl rfl rfl ?_
    iterate 4 refine s_skip rfl rfl rfl ?_
    refine s_y (y_pickT rfl rfl) rfl rfl rfl ?_
    refine s_y (y_move rfl) rfl rfl rfl ?_
    iterate 4 refine s_skip rfl rfl rfl ?_
    refine s_y (y_pickT rfl rfl) rfl rfl rfl ?_
    refine s_y (y_move rfl) rfl rfl rfl ?_
    iterate 2 refine s_skip rfl rfl rfl ?_
    refine s_y (y_pickT rfl rfl) rfl rfl rfl ?_
    refine s_nil ?_
    refine f_then ?_
    refine c_condT rfl ?_
    refine c_seq ?_
    refine c_region ?_
    refine s_y (y_build Try.tab rfl rfl rfl rfl rfl) rfl rfl rfl ?_
    refine s_set (set_25 0 rfl rfl rfl rfl) rfl rfl ?_
    refine s_y (y_assign rfl) rfl rfl rfl ?_
    refine s_nil ?_
    refine f_then ?_
    refine c_ret ?_
    refine f_thenR ?_
    exact f_ret () (resA1 Try.tab rfl rfl rfl rfl rfl rfl (cells_row0 0 rfl rfl)) (fun w h => h.tail.tail.tail)
set_option maxRecDepth 10000 in
set_option maxHeartbeats 16000000 in
theorem expect_spec {W : World} {N : List Chunk} {lot bad n : Nat} {c : Int} (h1 : lot ≤ 60) (h2 : bad ≤ lot) (h3 : n ≤ lot) (h4 : 0 ≤ c) (h5 : c < 9223372036854775808) :
    Spec Try.prog 40 #[.int .i64 (lot : Int), .int .i64 (bad : Int), .int .i64 (n : Int), .int .i64 c] (K W N) (X := Res2 W N (lwN (expF lot bad n c n).1 (expF lot bad n c n).2) (lwD (expF lot bad n c n).1 (expF lot bad n c n).2 - 1)) (fun r => .tuple #[.agg #[r.v1, r.v2], .int .i64 0]) (fun r => K W (r.L :: N)) := by
  refine enter (args := [_, _, _, _]) Try.func40 rfl Try.ntmps40 rfl ?_
  refine c_seq ?_
  refine c_region ?_
  refine s_do (do_box rfl) rfl rfl rfl (fun b6 => ?_)
  refine s_do (do_box rfl) rfl rfl rfl (fun b7 => ?_)
  refine s_do (do_alloc Try.tab rfl) rfl rfl rfl (fun b8 => ?_)
  refine s_y (y_assign rfl) rfl rfl rfl ?_
  refine s_nil ?_
  refine f_then ?_
  refine c_seq ?_
  refine c_seq ?_
  refine c_region ?_
  refine s_y (y_move rfl) rfl rfl rfl ?_
  refine s_call (en_f rfl Try.call49) inside_spec rfl rfl rfl (fun _ => ?_)
  rw [decide_eq_true (by omega)]
  refine s_y (y_notT rfl) rfl rfl rfl ?_
  refine s_y (y_move rfl) rfl rfl rfl ?_
  refine s_y (y_move rfl) rfl rfl rfl ?_
  refine s_y (y_move rfl) rfl rfl rfl ?_
  refine s_call (en_f rfl Try.call49) inside_spec rfl rfl rfl (fun _ => ?_)
  rw [decide_eq_true (by omega)]
  refine s_y (y_notT rfl) rfl rfl rfl ?_
  refine s_y (y_pickF rfl rfl) rfl rfl rfl ?_
  refine s_y (y_move rfl) rfl rfl rfl ?_
  refine s_y (y_load Try.tab rfl rfl (cell_row 2 rfl rfl)) rfl rfl rfl ?_
  refine s_y (y_move rfl) rfl rfl rfl ?_
  refine s_call (en_f rfl Try.call49) inside_spec rfl rfl rfl (fun _ => ?_)
  rw [decide_eq_true (by omega)]
  refine s_y (y_notT rfl) rfl rfl rfl ?_
  refine s_y (y_pickF rfl rfl) rfl rfl rfl ?_
  refine s_y (y_move rfl) rfl rfl rfl ?_
  refine s_y (y_load Try.tab rfl rfl (cell_row 1 rfl rfl)) rfl rfl rfl ?_
  refine s_y (y_F (y_lss rfl rfl) (by omega)) rfl rfl rfl ?_
  refine s_y (y_pickF rfl rfl) rfl rfl rfl ?_
  refine s_nil ?_
  refine f_then ?_
  refine c_condF rfl ?_
  refine c_skip ?_
  refine f_then ?_
  refine c_seq ?_
  refine c_region ?_
  refine s_do (do_alloc Try.tab rfl) rfl rfl rfl (fun b10 => ?_)
  refine s_nil ?_
  refine f_then ?_
  refine c_seq ?_
  refine c_seq ?_
  refine c_region ?_
  refine s_y (y_load Try.tab rfl rfl (cell_row 3 rfl rfl)) rfl rfl rfl ?_
  refine s_y (y_move rfl) rfl rfl rfl ?_
  refine s_nil ?_
  refine f_then ?_
  refine c_block ?_
  have ec : (Value.agg #[.slice none 0 0, .slice none 0 0]).cells.toList = [.slice none 0 0, .slice none 0 0] := by simp [Value.cells]
  rw [ec]
  refine SC.mark0 rfl ?_
  refine c_loopP (α := Nat × Nat × List Nat × Value × Value × List Chunk) (fun z => [(MK, mkV z.2.2.1), (0, .int .i64 (lot : Int)), (1, .int .i64 (bad : Int)), (6, .pointer (some ⟨b6, 0, none⟩)), (7, .pointer (some ⟨b7, 0, none⟩)), (8, .pointer (some ⟨b8, 0, none⟩)), (9, .int .i64 0), (10, .pointer (some ⟨b10, 0, none⟩)), (37, .int .i64 (n : Int)), (38, .int .i64 (z.2.1 : Nat))])
    (fun z => z.1 + z.2.1 = n ∧ NatV (K W (z.2.2.2.2.2 ++ N)) z.2.2.2.1 (lwN (expF lot bad n c z.2.1).1 (expF lot bad n c z.2.1).2) ∧ NatV (K W (z.2.2.2.2.2 ++ N)) z.2.2.2.2.1 (lwD (expF lot bad n c z.2.1).1 (expF lot bad n c z.2.1).2 - 1))
    (fun z => K W (z.2.2.1.map (fun D => (D, dfO)) :: [(b10, row 25 [z.2.2.2.1, z.2.2.2.2.1])] :: [(b8, row 25 [.slice none 0 0, .slice none 0 0])] :: [(b7, row 3 [.int .i64 c])] :: [(b6, row 3 [.int .i64 (n : Int)])] :: (z.2.2.2.2.2 ++ N))) (fun z => z.1) (n, 0, [], .slice none 0 0, .slice none 0 0, [])
    ⟨rfl, rfl, rfl, rfl, rfl, rfl, rfl, rfl, rfl, rfl, trivial⟩ ⟨Nat.add_zero n, NatV.nilI.of (lw_zero Nat.one_ne_zero).1.symm, NatV.nilI.of (by show 0 = lwD 0 1 - 1; rw [(lw_zero Nat.one_ne_zero).2])⟩ (fun w h => h.addNil) ?_
  rintro ⟨d, u, Ds, v1, v2, R⟩ ⟨hd, hv1, hv2⟩
  dsimp only at hd hv1 hv2 ⊢
  cases d with
  | zero =>
    obtain rfl : u = n := by omega
    refine c_seq ?_
    refine c_region ?_
    refine s_y (y_F (y_lss rfl rfl) (by omega)) rfl rfl rfl ?_
    refine s_nil ?_
    refine f_then ?_
    refine c_seq ?_
    refine c_condF rfl ?_
    refine c_exit ?_
    refine f_thenE ?_
    refine f_rndE ?_
    refine f_blockE ?_
    refine f_then ?_
    refine c_seq ?_
    refine c_region ?_
    refine s_y (y_loadA Try.tab rfl rfl rfl rfl (cells_row0 1 rfl rfl)) rfl rfl rfl ?_
    refine s_set (set_25 2 rfl rfl rfl rfl) rfl rfl ?_
    refine s_y (y_assign rfl) rfl rfl rfl ?_
    refine s_nil ?_
    refine f_then ?_
    refine c_ret ?_
    exact f_retM (Res2.of hv1 hv2) Ds (resA1 Try.tab rfl rfl rfl rfl rfl rfl (cells_row0 1 rfl rfl)) rfl (fun w h => Res2.of_cls hv1 hv2 h.tail.tail.tail.tail) rfl
  | succ d =>
    refine c_seq ?_
    refine c_region ?_
    refine s_y (y_T (y_lss rfl rfl) (by omega)) rfl rfl rfl ?_
    refine s_nil ?_
    refine f_then ?_
    refine c_seq ?_
    refine c_condT rfl ?_
    refine c_skip ?_
    refine f_then ?_
    refine c_seq ?_
    refine c_block ?_
    refine c_seq ?_
    refine c_region ?_
    refine s_y (y_move rfl) rfl rfl rfl ?_
    refine s_do (do_alloc Try.tab rfl) rfl rfl rfl (fun b11 => ?_)
    refine s_set (set_box1 Try.tab 0 rfl rfl rfl rfl rfl) rfl rfl ?_
    refine s_nil ?_
    refine f_then ?_
    refine c_seq ?_
    refine c_region ?_
    refine s_do (do_alloc Try.tab rfl) rfl rfl rfl (fun b12 => ?_)
    refine s_nil ?_
    refine f_then ?_
    refine c_seq ?_
    refine c_seq ?_
    refine c_region ?_
    refine s_y (y_move rfl) rfl rfl rfl ?_
    refine s_y (y_move rfl) rfl rfl rfl ?_
    refine s_y (y_load Try.tab rfl rfl (cell_row 1 rfl rfl)) rfl rfl rfl ?_
    refine s_call (en_f rfl Try.call72) terms_spec rfl rfl rfl (fun t => ?_)
    refine s_nil ?_
    refine f_then ?_
    refine c_block ?_
    obtain ⟨t1, t2, t3⟩ := t
    have e71 : (Value.agg #[.slice none 0 0]).cells.toList = [.slice none 0 0] := by simp [Value.cells]
    rw [e71]
    refine SC.cls (C' := K W ([(t3, row 3 [.int .i64 (u : Int)])] :: [(t2, row 3 [.int .i64 (bad : Int)])] :: [(t1, row 3 [.int .i64 (lot : Int)])] :: [(b12, row 71 [.slice none 0 0])] :: [(b11, row 3 [.int .i64 (u : Nat)])] :: Ds.map (fun D => (D, dfO)) :: [(b10, row 25 [v1, v2])] :: [(b8, row 25 [.slice none 0 0, .slice none 0 0])] :: [(b7, row 3 [.int .i64 c])] :: [(b6, row 3 [.int .i64 (n : Int)])] :: (R ++ N))) ?_ (fun w h => h)
    refine c_rangeF (X := { x : Value × List Chunk × Option Code // NatV (K W (x.2.1 ++ (R ++ N))) x.1 (opn lot bad n c u) ∧ x.2.2 = none }) (fun _ => .tuple #[]) (fun x => x.1.2.2) (fun x => [(b12, row 71 [x.1.1])] :: [(b11, row 3 [.int .i64 (u : Nat)])] :: Ds.map (fun D => (D, dfO)) :: [(b10, row 25 [v1, v2])] :: [(b8, row 25 [.slice none 0 0, .slice none 0 0])] :: [(b7, row 3 [.int .i64 c])] :: [(b6, row 3 [.int .i64 (n : Int)])] :: (x.1.2.1 ++ (R ++ N))) RN.h rfl Try.call112 (fun k l D hps has hbd hE => ?_) (fun x D hj => ?_) (fun x D cc hj => ?_)
    · obtain ⟨g, hg⟩ : ∃ g, g = lot - bad := ⟨_, rfl⟩
      obtain ⟨lo, hlo⟩ : ∃ lo, lo = u - g := ⟨_, rfl⟩
      have hR : Rounds W l k (min u bad) (tm g bad u) Value (fun z => [(D, dfO)] :: [(b12, row 71 [z])] :: [(b11, row 3 [.int .i64 (u : Nat)])] :: Ds.map (fun D => (D, dfO)) :: [(b10, row 25 [v1, v2])] :: [(b8, row 25 [.slice none 0 0, .slice none 0 0])] :: [(b7, row 3 [.int .i64 c])] :: [[(b6, row 3 [.int .i64 (n : Int)])]]) (fun i z N' => lo ≤ i ∧ NatV (K W N') z (psum (opnT g bad n u c) lo (i - lo))) (fun _ _ _ => False) := by
        refine ⟨fun z => ?_, fun i z M N h => ⟨h.1, h.2.cls fun _ k => k.bck⟩, fun z M N cc h => h, fun i z N' F0 q hi hF hJ hq => ?_⟩
        · exact boxes_mid (A := [_, _, _]) rfl rfl
        refine yspec 0 hE hps rfl rfl rfl ?_
        rw [has, hbd]
        refine c_seq ?_
        refine c_region ?_
        refine s_y (y_assign rfl) rfl rfl rfl ?_
        refine s_nil ?_
        refine f_then ?_
        refine c_region ?_
        refine s_do (do_alloc Try.tab rfl) rfl rfl rfl (fun b14 => ?_)
        refine s_set (set_71 0 rfl rfl rfl rfl) rfl rfl ?_
        refine s_nil ?_
        refine f_beg 1 rfl ?_
        refine SC.cls (C' := K W ([(b14, row 71 [q])] :: [(l, k.bsy)] :: [(D, dfO)] :: [(b12, row 71 [z])] :: [(b11, row 3 [.int .i64 (u : Nat)])] :: Ds.map (fun D => (D, dfO)) :: [(b10, row 25 [v1, v2])] :: [(b8, row 25 [.slice none 0 0, .slice none 0 0])] :: [(b7, row 3 [.int .i64 c])] :: [(b6, row 3 [.int .i64 (n : Int)])] :: (F0 ++ N'))) ?_ (fun w h => h)
        have hs : psum (opnT g bad n u c) lo (i - lo) + opnT g bad n u c i = psum (opnT g bad n u c) lo (i + 1 - lo) := by
          rw [show i + 1 - lo = (i - lo) + 1 by omega, psum, show lo + (i - lo) = i by omega]
        by_cases p1 : (i : Int) ≤ c
        · by_cases p2 : (u : Int) - i < n - c
          · have hT : opnT g bad n u c i = tm g bad u i := if_pos ⟨p1, p2⟩
            rw [hT] at hs
            have hb : psum (opnT g bad n u c) lo (i + 1 - lo) < 2 ^ 16384 := Nat.lt_of_le_of_lt (psum_leE (e := bad + g) (fun _ => opnT_le (Nat.le_refl _)) _) (two_lt (a := 13) (show i + 1 - lo ≤ 2 ^ 13 by omega) (Nat.le_refl _) (by omega))
            have hw1 : wl (psum (opnT g bad n u c) lo (i - lo)) ≤ 800000 := Nat.le_trans (wl_16k (x := psum (opnT g bad n u c) lo (i - lo)) (by omega)) (by omega)
            have hw2 : wl (tm g bad u i) ≤ 800000 := Nat.le_trans (wl_16k (x := tm g bad u i) (by omega)) (by omega)
            haveI := hJ.2
            refine c_block ?_
            refine c_seq ?_
            refine c_region ?_
            refine s_y (y_move rfl) rfl rfl rfl ?_
            refine s_y (y_load Try.tab rfl rfl (cell_row 8 rfl rfl)) rfl rfl rfl ?_
            refine s_y (y_T (y_leq rfl rfl) (by assumption)) rfl rfl rfl ?_
            refine s_y (y_move rfl) rfl rfl rfl ?_
            refine s_y (y_load Try.tab rfl rfl (cell_row 4 rfl rfl)) rfl rfl rfl ?_
            refine s_y (y_move rfl) rfl rfl rfl ?_
            refine s_y (y_sub rfl rfl (by omega)) rfl rfl rfl ?_
            refine s_y (y_load Try.tab rfl rfl (cell_row 9 rfl rfl)) rfl rfl rfl ?_
            refine s_y (y_load Try.tab rfl rfl (cell_row 8 rfl rfl)) rfl rfl rfl ?_
            refine s_y (y_sub rfl rfl (by omega)) rfl rfl rfl ?_
            refine s_y (y_T (y_lss rfl rfl) (by assumption)) rfl rfl rfl ?_
            refine s_y (y_pickT rfl rfl) rfl rfl rfl ?_
            refine s_nil ?_
            refine f_then ?_
            refine c_condT rfl ?_
            refine c_region ?_
            refine s_y (y_loadA Try.tab rfl rfl rfl rfl (cells_row0 3 rfl rfl)) rfl rfl rfl ?_
            refine s_y (y_loadA Try.tab rfl rfl rfl rfl (cells_row0 0 rfl rfl)) rfl rfl rfl ?_
            refine s_call (en_f rfl Try.call73) (Spec.boxed (u := fun v => .tuple #[.agg #[v], .int .i64 0]) ([(b14, row 71 [q])] :: [(l, k.bsy)] :: [(D, dfO)] :: [(b12, row 71 [z])] :: [(b11, row 3 [.int .i64 (u : Nat)])] :: Ds.map (fun D => (D, dfO)) :: [(b10, row 25 [v1, v2])] :: [(b8, row 25 [.slice none 0 0, .slice none 0 0])] :: [(b7, row 3 [.int .i64 c])] :: [(b6, row 3 [.int .i64 (n : Int)])] :: F0) (boxes_mid (A := [_, _, _, _, _]) rfl hF) (nadd0_spec hs.symm (hs ▸ hb) hw1 hw2)) rfl rfl rfl (fun r1 => ?_)
            refine s_y (y_move rfl) rfl rfl rfl ?_
            refine s_y (y_extract rfl rfl) rfl rfl rfl ?_
            refine s_y (y_extract rfl rfl) rfl rfl rfl ?_
            refine s_set (set_71 3 rfl rfl rfl rfl) rfl rfl ?_
            refine s_nil ?_
            refine f_blockN ?_
            refine f_rpN 1 ⟨(r1.v, [r1.L], none), (fun _ => ⟨by omega, r1.ok⟩), fun cc e => by cases e⟩ rfl rfl ?_
            exact fun w h => h.tail
          · have hT : opnT g bad n u c i = 0 := if_neg fun h => p2 h.2
            rw [hT, Nat.add_zero] at hs
            refine c_block ?_
            refine c_seq ?_
            refine c_region ?_
            refine s_y (y_move rfl) rfl rfl rfl ?_
            refine s_y (y_load Try.tab rfl rfl (cell_row 8 rfl rfl)) rfl rfl rfl ?_
            refine s_y (y_T (y_leq rfl rfl) (by assumption)) rfl rfl rfl ?_
            refine s_y (y_move rfl) rfl rfl rfl ?_
            refine s_y (y_load Try.tab rfl rfl (cell_row 4 rfl rfl)) rfl rfl rfl ?_
            refine s_y (y_move rfl) rfl rfl rfl ?_
            refine s_y (y_sub rfl rfl (by omega)) rfl rfl rfl ?_
            refine s_y (y_load Try.tab rfl rfl (cell_row 9 rfl rfl)) rfl rfl rfl ?_
            refine s_y (y_load Try.tab rfl rfl (cell_row 8 rfl rfl)) rfl rfl rfl ?_
            refine s_y (y_sub rfl rfl (by omega)) rfl rfl rfl ?_
            refine s_y (y_F (y_lss rfl rfl) (by assumption)) rfl rfl rfl ?_
            refine s_y (y_pickT rfl rfl) rfl rfl rfl ?_
            refine s_nil ?_
            refine f_then ?_
            refine c_condF rfl ?_
            refine c_skip ?_
            refine f_blockN ?_
            refine f_rpN 1 ⟨(z, [], none), (fun _ => ⟨by omega, hJ.2.of hs⟩), fun cc e => by cases e⟩ rfl rfl ?_
            exact fun w h => h.tail
        · have hT : opnT g bad n u c i = 0 := if_neg fun h => p1 h.1
          rw [hT, Nat.add_zero] at hs
          refine c_block ?_
          refine c_seq ?_
          refine c_region ?_
          refine s_y (y_move rfl) rfl rfl rfl ?_
          refine s_y (y_load Try.tab rfl rfl (cell_row 8 rfl rfl)) rfl rfl rfl ?_
          refine s_y (y_F (y_leq rfl rfl) (by assumption)) rfl rfl rfl ?_
          refine s_y (y_move rfl) rfl rfl rfl ?_
          iterate 7 refine s_skip rfl rfl rfl ?_
          refine s_y (y_pickF rfl rfl) rfl rfl rfl ?_
          refine s_nil ?_
          refine f_then ?_
          refine c_condF rfl ?_
          refine c_skip ?_
          refine f_blockN ?_
          refine f_rpN 1 ⟨(z, [], none), (fun _ => ⟨by omega, hJ.2.of hs⟩), fun cc e => by cases e⟩ rfl rfl ?_
          exact fun w h => h.tail
      have hJ0 : u - (lot - bad) ≤ u - (lot - bad) ∧ NatV (K W (R ++ N)) (.slice none 0 0) (psum (opnT (lot - bad) bad n u c) (u - (lot - bad)) (u - (lot - bad) - (u - (lot - bad)))) := ⟨Nat.le_refl _, NatV.nilI.of (by rw [Nat.sub_self]; rfl)⟩
      subst hlo hg
      have key := terms1_spec (b1 := t1) (b2 := t2) (b3 := t3) (z0 := .slice none 0 0) (by omega) h2 (by omega) hR hJ0
      refine (key.pre fun w h => K.toM (M := [[(l, k.rdy)], [(D, dfO)]]) (B := [[(t3, row 3 [.int .i64 (u : Int)])], [(t2, row 3 [.int .i64 (bad : Int)])], [(t1, row 3 [.int .i64 (lot : Int)])]]) h).map (fun x => ⟨x.1, ?_⟩) (fun _ => rfl) (fun x w h => h)
      obtain ⟨⟨q, M, j⟩, q1, q2⟩ := x
      cases j with
      | none => exact ⟨(q1 rfl).2, rfl⟩
      | some cc => exact (q2 cc rfl).elim
    · obtain ⟨⟨q, M, j⟩, hq, hj0⟩ := x
      dsimp only at hq hj0 hj ⊢
      refine f_blockN ?_
      refine f_then ?_
      refine c_seq ?_
      refine SC.sub (σ' := [(MK, mkV (D :: Ds)), (0, .int .i64 (lot : Int)), (1, .int .i64 (bad : Int)), (6, .pointer (some ⟨b6, 0, none⟩)), (7, .pointer (some ⟨b7, 0, none⟩)), (8, .pointer (some ⟨b8, 0, none⟩)), (9, .int .i64 0), (10, .pointer (some ⟨b10, 0, none⟩)), (11, .pointer (some ⟨b11, 0, none⟩)), (12, .pointer (some ⟨b12, 0, none⟩)), (37, .int .i64 (n : Int)), (38, .int .i64 (u : Int))]) ⟨congrArg (fun l => some (mkV (D :: l))) (mkOf_mkV Ds), rfl, rfl, rfl, rfl, rfl, rfl, rfl, rfl, rfl, rfl, rfl, trivial⟩ ?_
      refine SC.cls (C' := K W ([(b12, row 71 [q])] :: [(b11, row 3 [.int .i64 (u : Int)])] :: [(b10, row 25 [v1, v2])] :: [(b8, row 25 [.slice none 0 0, .slice none 0 0])] :: [(b7, row 3 [.int .i64 c])] :: [(b6, row 3 [.int .i64 (n : Int)])] :: (D :: Ds).map (fun D => (D, dfO)) :: (M ++ (R ++ N)))) ?_ (fun w h => (((h.front 3).front 1).join.fronts [6, 6, 6, 6, 6, 6]))
      obtain ⟨O, hO⟩ : ∃ O, O = opn lot bad n c u := ⟨_, rfl⟩
      obtain ⟨P, hP⟩ : ∃ P, P = (expF lot bad n c u).1 := ⟨_, rfl⟩
      obtain ⟨Q, hQ⟩ : ∃ Q, Q = (expF lot bad n c u).2 := ⟨_, rfl⟩
      obtain ⟨Bn, hBn⟩ : ∃ Bn, Bn = bino lot u := ⟨_, rfl⟩
      obtain ⟨e, he⟩ : ∃ e, e = 60 := ⟨_, rfl⟩
      have xle := exp_le (n := n) (c := c) (e := e) h2 (by omega) h1 u
      rw [← hP, ← hQ] at xle
      have x0 : O ≤ 2 ^ (6 + e) := hO ▸ opn_le h2 (by omega) h1
      have x1 : Bn ≤ 2 ^ e := hBn ▸ bino_e (by omega)
      have hnB : Bn ≠ 0 := hBn ▸ bino_nz (by omega)
      have hnQ : Q ≠ 0 := hQ ▸ exp_nz (by omega)
      have hu60 : u ≤ 60 := by omega
      have hm1 : (7 + e) * u ≤ 4020 := Nat.le_trans (Nat.mul_le_mul (show 7 + e ≤ 67 by omega) hu60) (by omega)
      have hm2 : e * u ≤ 3600 := Nat.le_trans (Nat.mul_le_mul (show e ≤ 60 by omega) hu60) (by omega)
      have wO : wl O ≤ 10000 := wl_e x0 (by omega)
      have wB : wl Bn ≤ 10000 := wl_e x1 (by omega)
      have wP : wl P ≤ 10000 := wl_e xle.1 (by omega)
      have wQ : wl Q ≤ 10000 := wl_e xle.2 (by omega)
      obtain ⟨t, ht⟩ : ∃ t, t = 4100 := ⟨_, rfl⟩
      have y1 : P * Bn ≤ 2 ^ t := fit xle.1 x1 (by omega)
      have y2 : O * Q ≤ 2 ^ t := fit x0 xle.2 (by omega)
      have y3 : Q * Bn ≤ 2 ^ t := fit xle.2 x1 (by omega)
      haveI kq : NatV (K W (M ++ (R ++ N))) q O := hq.of hO.symm
      haveI kv1 : NatV (K W (R ++ N)) v1 (lwN P Q) := hv1.of (by rw [hP, hQ])
      haveI kv2 : NatV (K W (R ++ N)) v2 (lwD P Q - 1) := hv2.of (by rw [hP, hQ])
      haveI kv3 : NatV (K W (M ++ (R ++ N))) v1 (lwN P Q) := kv1.cls fun _ k => k.bck
      haveI kv4 : NatV (K W (M ++ (R ++ N))) v2 (lwD P Q - 1) := kv2.cls fun _ k => k.bck
      refine c_drawn [(1000000000, mkV (D :: Ds)), (0, .int .i64 (lot : Int)), (1, .int .i64 (bad : Int)), (6, .pointer (some ⟨b6, 0, none⟩)), (7, .pointer (some ⟨b7, 0, none⟩)), (8, .pointer (some ⟨b8, 0, none⟩)), (9, .int .i64 0), (10, .pointer (some ⟨b10, 0, none⟩)), (11, .pointer (some ⟨b11, 0, none⟩)), (12, .pointer (some ⟨b12, 0, none⟩)), (37, .int .i64 (n : Int)), (38, .int .i64 (u : Int))] [[], [], [], [(1, 67), (2, 68)], [(0, 66), (3, 69)], [(4, 70)], [(5, 65)], [(5, 65)], [], [(8, 15), (6, 71)], [(7, 72)]] [(8, 15), (10, 16)] (fun s => [bxD 25 [.slice none 0 0, .slice none 0 0] (s 8) (s 9), [(b12, row 71 [q])], [(b11, row 3 [.int .i64 (u : Int)])], [(b10, row 25 [v1, v2])], [(b8, row 25 [.slice none 0 0, .slice none 0 0])], [(b7, row 3 [.int .i64 c])], [(b6, row 3 [.int .i64 (n : Int)])], (D :: Ds).map (fun D => (D, dfO))])
        [fun _ v _ => .agg #[q] = v, fun _ v _ => .int .i64 (lot : Int) = v, fun _ v _ => .int .i64 (u : Int) = v, fun N v _ => ∃ u, .agg #[u] = v ∧ NatV (K W N) u (Bn), fun N v _ => ∃ u w, .tuple #[.agg #[u, w], .int .i64 0] = v ∧ NatV (K W N) u (lwN (O) (Bn)) ∧ NatV (K W N) w (lwD (O) (Bn) - 1), fun N v _ => ∃ u w, .tuple #[.agg #[u, w], .int .i64 0] = v ∧ NatV (K W N) u (lwN (O) (Bn)) ∧ NatV (K W N) w (lwD (O) (Bn) - 1), fun N v _ => ∃ u w, .agg #[u, w] = v ∧ NatV (K W N) u (lwN (O) (Bn)) ∧ NatV (K W N) w (lwD (O) (Bn) - 1), fun _ v _ => .int .i64 0 = v, fun _ v _ => ∃ b, Value.pointer (some ⟨b, 0, none⟩) = v, fun N _ c => ∃ u w, [(0, row 25 [u, w])] = c ∧ NatV (K W N) u (lwN (O) (Bn)) ∧ NatV (K W N) w (lwD (O) (Bn) - 1), fun _ v _ => .int .i64 0 = v]
        (M ++ (R ++ N)) (fun N' => NatV (K W N') q (O) ∧ NatV (K W N') v1 (lwN P Q) ∧ NatV (K W N') v2 (lwD P Q - 1) ∧ ∃ M, N' = M ++ N) ⟨inferInstance, inferInstance, inferInstance, M ++ R, (List.append_assoc M R N).symm⟩ (fun M N' ⟨h0, h1, h2, M2, e⟩ => ⟨h0.cls fun _ k => k.bck, h1.cls fun _ k => k.bck, h2.cls fun _ k => k.bck, M ++ M2, by rw [e, List.append_assoc]⟩) Try.mixed (by kernel_rfl) rfl ⟨rfl, rfl, rfl, rfl, rfl, rfl, rfl, rfl, rfl, rfl, rfl, rfl, trivial⟩ (fun w h => h.addNil)
        ⟨fun _ _ _ _ h => h, fun _ _ _ _ h => h, fun _ _ _ _ h => h, fun _ _ _ _ ⟨u, e, h⟩ => ⟨u, e, h.cls fun _ k => k.bck⟩, fun _ _ _ _ ⟨u, w, e, h1, h2⟩ => ⟨u, w, e, h1.cls fun _ k => k.bck, h2.cls fun _ k => k.bck⟩, fun _ _ _ _ ⟨u, w, e, h1, h2⟩ => ⟨u, w, e, h1.cls fun _ k => k.bck, h2.cls fun _ k => k.bck⟩, fun _ _ _ _ ⟨u, w, e, h1, h2⟩ => ⟨u, w, e, h1.cls fun _ k => k.bck, h2.cls fun _ k => k.bck⟩, fun _ _ _ _ h => h, fun _ _ _ _ h => h, fun _ _ _ _ ⟨u, w, e, h1, h2⟩ => ⟨u, w, e, h1.cls fun _ k => k.bck, h2.cls fun _ k => k.bck⟩, fun _ _ _ _ h => h, trivial⟩
        ⟨?_, ?_, ?_, ?_, ?_, ?_, ?_, ?_, ?_, ?_, ?_, trivial⟩ ?_
      · intro s N' gN h0 hn0
        show Acts _ _ _ (K W (bxD 25 [.slice none 0 0, .slice none 0 0] (s 8) (s 9) :: [(b12, row 71 [q])] :: [(b11, row 3 [.int .i64 (u : Int)])] :: [(b10, row 25 [v1, v2])] :: [(b8, row 25 [.slice none 0 0, .slice none 0 0])] :: [(b7, row 3 [.int .i64 c])] :: [(b6, row 3 [.int .i64 (n : Int)])] :: (D :: Ds).map (fun D => (D, dfO)) :: N')) _ _
        exact a_y (y_loadA Try.tab rfl rfl rfl rfl (cells_row0 1 rfl rfl)) fun w h => ⟨[], [], h, rfl⟩
      · intro s N' gN h0 hn0
        show Acts _ _ _ (K W (bxD 25 [.slice none 0 0, .slice none 0 0] (s 8) (s 9) :: [(b12, row 71 [q])] :: [(b11, row 3 [.int .i64 (u : Int)])] :: [(b10, row 25 [v1, v2])] :: [(b8, row 25 [.slice none 0 0, .slice none 0 0])] :: [(b7, row 3 [.int .i64 c])] :: [(b6, row 3 [.int .i64 (n : Int)])] :: (D :: Ds).map (fun D => (D, dfO)) :: N')) _ _
        exact a_y (y_move rfl) fun w h => ⟨[], [], h, rfl⟩
      · intro s N' gN h0 hn0
        show Acts _ _ _ (K W (bxD 25 [.slice none 0 0, .slice none 0 0] (s 8) (s 9) :: [(b12, row 71 [q])] :: [(b11, row 3 [.int .i64 (u : Int)])] :: [(b10, row 25 [v1, v2])] :: [(b8, row 25 [.slice none 0 0, .slice none 0 0])] :: [(b7, row 3 [.int .i64 c])] :: [(b6, row 3 [.int .i64 (n : Int)])] :: (D :: Ds).map (fun D => (D, dfO)) :: N')) _ _
        exact a_y (y_load Try.tab rfl rfl (cell_row 2 rfl rfl)) fun w h => ⟨[], [], h, rfl⟩
      · rintro s N' gN h0 hn0 v1 d1 e1 rfl v2 d2 e2 rfl
        show Acts _ _ _ (K W (bxD 25 [.slice none 0 0, .slice none 0 0] (s 8) (s 9) :: [(b12, row 71 [q])] :: [(b11, row 3 [.int .i64 (u : Int)])] :: [(b10, row 25 [v1, v2])] :: [(b8, row 25 [.slice none 0 0, .slice none 0 0])] :: [(b7, row 3 [.int .i64 c])] :: [(b6, row 3 [.int .i64 (n : Int)])] :: (D :: Ds).map (fun D => (D, dfO)) :: N')) _ _
        haveI := gN.1
        haveI := gN.2.1
        haveI := gN.2.2.1
        exact a_call (en_f rfl Try.call52) (Spec.boxed (u := fun v => .agg #[v]) [bxD 25 [.slice none 0 0, .slice none 0 0] (s 8) (s 9), [(b12, row 71 [q])], [(b11, row 3 [.int .i64 (u : Int)])], [(b10, row 25 [v1, v2])], [(b8, row 25 [.slice none 0 0, .slice none 0 0])], [(b7, row 3 [.int .i64 c])], [(b6, row 3 [.int .i64 (n : Int)])], (D :: Ds).map (fun D => (D, dfO))] (by rw [boxes_bxD25]; exact boxes_mid (A := [_, _, _, _, _, _]) (Ds := D :: Ds) (F := []) rfl rfl) (hBn ▸ samples_spec (n := lot) (k := u) (by omega) (by omega))) fun r w h => ⟨[r.L], [], h, r.v, rfl, r.ok⟩
      · rintro s N' gN h0 hn0 v0 d0 e0 rfl v3 d3 e3 ⟨uz3, rfl, mz3⟩
        show Acts _ _ _ (K W (bxD 25 [.slice none 0 0, .slice none 0 0] (s 8) (s 9) :: [(b12, row 71 [q])] :: [(b11, row 3 [.int .i64 (u : Int)])] :: [(b10, row 25 [v1, v2])] :: [(b8, row 25 [.slice none 0 0, .slice none 0 0])] :: [(b7, row 3 [.int .i64 c])] :: [(b6, row 3 [.int .i64 (n : Int)])] :: (D :: Ds).map (fun D => (D, dfO)) :: N')) _ _
        haveI := gN.1
        haveI := gN.2.1
        haveI := gN.2.2.1
        haveI : NatV (K W N') uz3 (Bn) := mz3
        exact a_call (en_f rfl Try.call50) (Spec.boxed2 (u := fun v w => .tuple #[.agg #[v, w], .int .i64 0]) [bxD 25 [.slice none 0 0, .slice none 0 0] (s 8) (s 9), [(b12, row 71 [q])], [(b11, row 3 [.int .i64 (u : Int)])], [(b10, row 25 [v1, v2])], [(b8, row 25 [.slice none 0 0, .slice none 0 0])], [(b7, row 3 [.int .i64 c])], [(b6, row 3 [.int .i64 (n : Int)])], (D :: Ds).map (fun D => (D, dfO))] (by rw [boxes_bxD25]; exact boxes_mid (A := [_, _, _, _, _, _]) (Ds := D :: Ds) (F := []) rfl rfl) (newFrac_spec (x := O) (y := Bn) (by omega) (by omega) hnB)) fun r w h => ⟨[r.L], [], h, r.v1, r.v2, rfl, r.ok1, r.ok2⟩
      · rintro s N' gN h0 hn0 v4 d4 e4 ⟨uz4, wz4, rfl, mz4, lz4⟩
        show Acts _ _ _ (K W (bxD 25 [.slice none 0 0, .slice none 0 0] (s 8) (s 9) :: [(b12, row 71 [q])] :: [(b11, row 3 [.int .i64 (u : Int)])] :: [(b10, row 25 [v1, v2])] :: [(b8, row 25 [.slice none 0 0, .slice none 0 0])] :: [(b7, row 3 [.int .i64 c])] :: [(b6, row 3 [.int .i64 (n : Int)])] :: (D :: Ds).map (fun D => (D, dfO)) :: N')) _ _
        exact a_y (y_move rfl) fun w h => ⟨[], [], h, uz4, wz4, rfl, mz4, lz4⟩
      · rintro s N' gN h0 hn0 v5 d5 e5 ⟨uz5, wz5, rfl, mz5, lz5⟩
        show Acts _ _ _ (K W (bxD 25 [.slice none 0 0, .slice none 0 0] (s 8) (s 9) :: [(b12, row 71 [q])] :: [(b11, row 3 [.int .i64 (u : Int)])] :: [(b10, row 25 [v1, v2])] :: [(b8, row 25 [.slice none 0 0, .slice none 0 0])] :: [(b7, row 3 [.int .i64 c])] :: [(b6, row 3 [.int .i64 (n : Int)])] :: (D :: Ds).map (fun D => (D, dfO)) :: N')) _ _
        exact a_y (y_extract rfl rfl) fun w h => ⟨[], [], h, uz5, wz5, rfl, mz5, lz5⟩
      · rintro s N' gN h0 hn0 v5 d5 e5 ⟨uz5, wz5, rfl, mz5, lz5⟩
        show Acts _ _ _ (K W (bxD 25 [.slice none 0 0, .slice none 0 0] (s 8) (s 9) :: [(b12, row 71 [q])] :: [(b11, row 3 [.int .i64 (u : Int)])] :: [(b10, row 25 [v1, v2])] :: [(b8, row 25 [.slice none 0 0, .slice none 0 0])] :: [(b7, row 3 [.int .i64 c])] :: [(b6, row 3 [.int .i64 (n : Int)])] :: (D :: Ds).map (fun D => (D, dfO)) :: N')) _ _
        exact a_y (y_extract rfl rfl) fun w h => ⟨[], [], h, rfl⟩
      · intro s N' gN h0 hn0
        show Acts _ _ _ (K W (bxD 25 [.slice none 0 0, .slice none 0 0] (s 8) (s 9) :: [(b12, row 71 [q])] :: [(b11, row 3 [.int .i64 (u : Int)])] :: [(b10, row 25 [v1, v2])] :: [(b8, row 25 [.slice none 0 0, .slice none 0 0])] :: [(b7, row 3 [.int .i64 c])] :: [(b6, row 3 [.int .i64 (n : Int)])] :: (D :: Ds).map (fun D => (D, dfO)) :: N')) _ _
        have hz : s 9 = none := hn0 9 rfl
        have hy : s 8 = none := h0
        rw [hy, hz]
        show Acts _ _ _ (K W ([] :: [(b12, row 71 [q])] :: [(b11, row 3 [.int .i64 (u : Int)])] :: [(b10, row 25 [v1, v2])] :: [(b8, row 25 [.slice none 0 0, .slice none 0 0])] :: [(b7, row 3 [.int .i64 c])] :: [(b6, row 3 [.int .i64 (n : Int)])] :: (D :: Ds).map (fun D => (D, dfO)) :: N')) _ _
        exact a_do (do_alloc Try.tab rfl) fun bz w h => ⟨[], [], (by show K W (bxD 25 [.slice none 0 0, .slice none 0 0] (some (.pointer (some ⟨bz, 0, none⟩), [])) (s 9) :: [(b12, row 71 [q])] :: [(b11, row 3 [.int .i64 (u : Int)])] :: [(b10, row 25 [v1, v2])] :: [(b8, row 25 [.slice none 0 0, .slice none 0 0])] :: [(b7, row 3 [.int .i64 c])] :: [(b6, row 3 [.int .i64 (n : Int)])] :: (D :: Ds).map (fun D => (D, dfO)) :: N') w; rw [hz]; exact h.weak [] (by simp [bxD, Value.cells])), bz, rfl⟩
      · rintro s N' gN h0 hn0 v8 d8 e8 ⟨bz8, rfl⟩ v6 d6 e6 ⟨uz6, wz6, rfl, mz6, lz6⟩
        show Acts _ _ _ (K W (bxD 25 [.slice none 0 0, .slice none 0 0] (s 8) (s 9) :: [(b12, row 71 [q])] :: [(b11, row 3 [.int .i64 (u : Int)])] :: [(b10, row 25 [v1, v2])] :: [(b8, row 25 [.slice none 0 0, .slice none 0 0])] :: [(b7, row 3 [.int .i64 c])] :: [(b6, row 3 [.int .i64 (n : Int)])] :: (D :: Ds).map (fun D => (D, dfO)) :: N')) _ _
        have hy : s 9 = none := h0
        rw [e8, hy]
        show Acts _ _ _ (K W ([(bz8, row 25 [.slice none 0 0, .slice none 0 0])] :: [(b12, row 71 [q])] :: [(b11, row 3 [.int .i64 (u : Int)])] :: [(b10, row 25 [v1, v2])] :: [(b8, row 25 [.slice none 0 0, .slice none 0 0])] :: [(b7, row 3 [.int .i64 c])] :: [(b6, row 3 [.int .i64 (n : Int)])] :: (D :: Ds).map (fun D => (D, dfO)) :: N')) _ _
        haveI : NatV (K W N') uz6 (lwN (O) (Bn)) := mz6
        haveI : NatV (K W N') wz6 (lwD (O) (Bn) - 1) := lz6
        exact a_set (set_25 0 rfl rfl rfl rfl) fun w h => ⟨[], [(0, row 25 [uz6, wz6])], (by show K W (bxD 25 [.slice none 0 0, .slice none 0 0] (s 8) (some (undef, [(0, row 25 [uz6, wz6])])) :: [(b12, row 71 [q])] :: [(b11, row 3 [.int .i64 (u : Int)])] :: [(b10, row 25 [v1, v2])] :: [(b8, row 25 [.slice none 0 0, .slice none 0 0])] :: [(b7, row 3 [.int .i64 c])] :: [(b6, row 3 [.int .i64 (n : Int)])] :: (D :: Ds).map (fun D => (D, dfO)) :: N') w; rw [e8]; exact h), uz6, wz6, rfl, mz6, lz6⟩
      · rintro s N' gN h0 hn0 v7 d7 e7 rfl
        show Acts _ _ _ (K W (bxD 25 [.slice none 0 0, .slice none 0 0] (s 8) (s 9) :: [(b12, row 71 [q])] :: [(b11, row 3 [.int .i64 (u : Int)])] :: [(b10, row 25 [v1, v2])] :: [(b8, row 25 [.slice none 0 0, .slice none 0 0])] :: [(b7, row 3 [.int .i64 c])] :: [(b6, row 3 [.int .i64 (n : Int)])] :: (D :: Ds).map (fun D => (D, dfO)) :: N')) _ _
        exact a_y (y_assign rfl) fun w h => ⟨[], [], h, rfl⟩
      · intro s N' gN hall v8 d8 e8 f8 v10 d10 e10 f10
        obtain ⟨v, z, u15, w15, hv, m15, l15⟩ := hall 9 (by decide)
        obtain ⟨b15, rfl⟩ := f8
        subst f10
        obtain ⟨g0, g1, g2, M13, hM⟩ := gN
        subst hM
        show Fin _ _ _ _ (K W (bxD 25 [.slice none 0 0, .slice none 0 0] (s 8) (s 9) :: [(b12, row 71 [q])] :: [(b11, row 3 [.int .i64 (u : Int)])] :: [(b10, row 25 [v1, v2])] :: [(b8, row 25 [.slice none 0 0, .slice none 0 0])] :: [(b7, row 3 [.int .i64 c])] :: [(b6, row 3 [.int .i64 (n : Int)])] :: (D :: Ds).map (fun D => (D, dfO)) :: (M13 ++ N)))
        rw [z, e8]
        obtain ⟨v9, c9⟩ := v
        dsimp only at hv
        subst hv
        clear z hall
        show Fin _ _ _ _ (K W ([(b15, row 25 [u15, w15])] :: [(b12, row 71 [q])] :: [(b11, row 3 [.int .i64 (u : Int)])] :: [(b10, row 25 [v1, v2])] :: [(b8, row 25 [.slice none 0 0, .slice none 0 0])] :: [(b7, row 3 [.int .i64 c])] :: [(b6, row 3 [.int .i64 (n : Int)])] :: (D :: Ds).map (fun D => (D, dfO)) :: (M13 ++ N)))
        haveI := g0
        haveI := g1
        haveI := g2
        haveI := m15
        haveI := l15
        refine f_then ?_
        refine c_region ?_
        refine s_y (y_loadA Try.tab rfl rfl rfl rfl (cells_row0 3 rfl rfl)) rfl rfl rfl ?_
        refine s_y (y_loadA Try.tab rfl rfl rfl rfl (cells_row0 0 rfl rfl)) rfl rfl rfl ?_
        refine s_call (en_f rfl Try.call39) (Spec.boxed2 (u := fun v w => .tuple #[.agg #[v, w], .int .i64 0]) [[(b15, row 25 [u15, w15])], [(b12, row 71 [q])], [(b11, row 3 [.int .i64 (u : Int)])], [(b10, row 25 [v1, v2])], [(b8, row 25 [.slice none 0 0, .slice none 0 0])], [(b7, row 3 [.int .i64 c])], [(b6, row 3 [.int .i64 (n : Int)])], (D :: Ds).map (fun D => (D, dfO))] (boxes_mid (A := [_, _, _, _, _, _, _]) (Ds := D :: Ds) (F := []) rfl rfl) (fadd2_spec (p := P) (q := Q) (r := O) (s := Bn) wP wQ wO wB hnQ hnB (sum_lt (a := t) (e := 16384) y1 y2 (by omega)) (fit_lt (a := t) (e := 16384) y3 (by omega)))) rfl rfl rfl (fun r8 => ?_)
        refine s_y (y_move rfl) rfl rfl rfl ?_
        refine s_y (y_extract rfl rfl) rfl rfl rfl ?_
        refine s_y (y_extract rfl rfl) rfl rfl rfl ?_
        refine s_set (set_25 3 rfl rfl rfl rfl) rfl rfl ?_
        refine s_nil ?_
        refine f_blockN ?_
        refine f_then ?_
        refine c_region ?_
        refine s_y (y_add rfl rfl (by omega)) rfl rfl rfl ?_
        refine s_y (y_move rfl) rfl rfl rfl ?_
        refine s_nil ?_
        have k1 : NatV (K W ((r8.L :: M13) ++ N)) r8.v1 (lwN (expF lot bad n c (u + 1)).1 (expF lot bad n c (u + 1)).2) := r8.ok1.of (by rw [hP, hQ, hO, hBn]; rfl)
        have k2 : NatV (K W ((r8.L :: M13) ++ N)) r8.v2 (lwD (expF lot bad n c (u + 1)).1 (expF lot bad n c (u + 1)).2 - 1) := r8.ok2.of (by rw [hP, hQ, hO, hBn]; rfl)
        exact f_roundP (d, u + 1, D :: Ds, r8.v1, r8.v2, r8.L :: M13) ⟨by dsimp only; omega, k1, k2⟩ (by dsimp only; omega) ⟨rfl, rfl, rfl, rfl, rfl, rfl, rfl, rfl, rfl, congrArg (fun z => some (Value.int .i64 z)) (by dsimp only; omega), trivial⟩ (fun w h => h.tail.tail.tail.front 4)
    · obtain ⟨⟨q, M, j⟩, hq, hj0⟩ := x
      dsimp only at hq hj0 hj
      rw [hj0] at hj
      cases hj
end Go.KL
end

section
/- The law of the expected effort, plain. No program in sight. -/
namespace Go.KL
def opz (g b n u : Nat) (c : Int) (i : Nat) : Nat := if (i : Int) ≤ c ∧ (u : Int) - i < n - c then tmz g b u i else 0
theorem opz_zero {g b n u i : Nat} {c : Int} (h : tmz g b u i = 0) : opz g b n u c i = 0 := by
  unfold opz
  split
  · exact h
  · rfl
theorem opn_z {lot bad n u : Nat} {c : Int} (h1 : bad ≤ lot) (h2 : u ≤ lot) : opn lot bad n c u = psum (opz (lot - bad) bad n u c) 0 (u + 1) := by
  obtain ⟨g, hg⟩ : ∃ g, g = lot - bad := ⟨_, rfl⟩
  obtain ⟨lo, hlo⟩ : ∃ lo, lo = u - g := ⟨_, rfl⟩
  unfold opn
  rw [← hg, ← hlo, show psum (opz g bad n u c) 0 (u + 1) = psum (opz g bad n u c) 0 (lo + ((min u bad + 1 - lo) + (u - min u bad))) by rw [show lo + ((min u bad + 1 - lo) + (u - min u bad)) = u + 1 by omega], psum_split, psum_zero (d := lo), Nat.zero_add, Nat.zero_add, psum_split, psum_zero (d := u - min u bad), Nat.add_zero]
  · refine psum_congr fun j hj => ?_
    unfold opnT opz
    rw [tmz_tm (by omega)]
  · intro j hj
    exact opz_zero (tmz_bad (by omega))
  · intro j hj
    exact opz_zero (tmz_good (by omega))
theorem open_term {g b n u i : Nat} {c : Int} : (u + 1) * opz (g + 1) (b + 1) (n + 1) (u + 1) c (i + 1) = (b + 1) * opz (g + 1) b n u (c - 1) i + (g + 1) * opz g (b + 1) n u c (i + 1) := by
  unfold opz
  by_cases h : ((i + 1 : Nat) : Int) ≤ c ∧ ((u + 1 : Nat) : Int) - ((i + 1 : Nat) : Int) < ((n + 1 : Nat) : Int) - c
  · rw [if_pos h, if_pos (by omega), if_pos (by omega), first_term]
  · rw [if_neg h, if_neg (by omega), if_neg (by omega), Nat.mul_zero, Nat.mul_zero, Nat.mul_zero]
theorem open_term0 {g b n u : Nat} {c : Int} : (u + 1) * opz (g + 1) (b + 1) (n + 1) (u + 1) c 0 = (g + 1) * opz g (b + 1) n u c 0 := by
  unfold opz
  by_cases h : ((0 : Nat) : Int) ≤ c ∧ ((u + 1 : Nat) : Int) - ((0 : Nat) : Int) < ((n + 1 : Nat) : Int) - c
  · rw [if_pos h, if_pos (by omega), first_term0]
  · rw [if_neg h, if_neg (by omega), Nat.mul_zero, Nat.mul_zero]
theorem open_first {g b n u : Nat} {c : Int} : (u + 1) * psum (opz (g + 1) (b + 1) (n + 1) (u + 1) c) 0 (u + 2) = (b + 1) * psum (opz (g + 1) b n u (c - 1)) 0 (u + 1) + (g + 1) * psum (opz g (b + 1) n u c) 0 (u + 1) := by
  have hz : psum (opz g (b + 1) n u c) 0 (u + 2) = psum (opz g (b + 1) n u c) 0 (u + 1) := by
    rw [psum, Nat.zero_add, opz_zero, Nat.add_zero]
    rw [tmz, if_neg (by omega)]
  rw [← hz, psum_shift (T := opz (g + 1) (b + 1) (n + 1) (u + 1) c), psum_shift (T := opz g (b + 1) n u c), Nat.mul_add, Nat.mul_add, open_term0, ← psum_mul, ← psum_mul, ← psum_mul, psum_congr (T' := fun i => (b + 1) * opz (g + 1) b n u (c - 1) i + (g + 1) * opz g (b + 1) n u c (i + 1)) fun j _ => open_term, psum_add]
  omega
theorem opn_first {L B n u : Nat} {c : Int} (h1 : B + 1 ≤ L) (h2 : u ≤ L) : (u + 1) * opn (L + 1) (B + 1) (n + 1) c (u + 1) = (B + 1) * opn L B n (c - 1) u + (L - B) * opn L (B + 1) n c u := by
  obtain ⟨g, hg⟩ : ∃ g, L = B + 1 + g := ⟨L - B - 1, by omega⟩
  subst hg
  rw [opn_z (by omega) (by omega), opn_z (by omega) h2, opn_z h1 h2, show B + 1 + g + 1 - (B + 1) = g + 1 by omega, show B + 1 + g - B = g + 1 by omega, show B + 1 + g - (B + 1) = g by omega]
  exact open_first
theorem exp_den {lot bad bad' n n' : Nat} {c c' : Int} : ∀ u, (expF lot bad n c u).2 = (expF lot bad' n' c' u).2
  | 0 => rfl
  | u + 1 => by
    show (expF lot bad n c u).2 * _ = (expF lot bad' n' c' u).2 * _
    rw [exp_den u]
theorem step_alg {l R P Q a P1 b P2 Bn bn O o1 o2 k : Nat} (h : l * R * P = Q * (l * R + a * P1 + b * P2)) (h1 : k * O = a * o1 + b * o2) (h2 : Bn * k = bn * l) :
    k * (l * (R * bn) * (P * Bn + O * Q)) = k * (Q * Bn * (l * (R * bn) + a * (P1 * bn + o1 * R) + b * (P2 * bn + o2 * R))) := by
  have e1 : k * (l * (R * bn) * (P * Bn + O * Q)) = k * bn * Bn * (l * R * P) + (k * O) * (bn * l) * R * Q := by
    simp only [Nat.mul_add, Nat.mul_comm, Nat.mul_left_comm]
  have e2 : k * (Q * Bn * (l * (R * bn) + a * (P1 * bn + o1 * R) + b * (P2 * bn + o2 * R))) = k * bn * Bn * (Q * (l * R + a * P1 + b * P2)) + (a * o1 + b * o2) * (Bn * k) * R * Q := by
    simp only [Nat.mul_add, Nat.mul_comm, Nat.mul_left_comm]
    omega
  rw [e1, e2, h, h1, h2]
/-- One piece, and what comes after a bad or a good one. -/
theorem exp_first {L B n : Nat} {c : Int} (h1 : B + 1 ≤ L) (h0 : 0 ≤ c) (hc : c ≤ n) : ∀ {u : Nat}, u ≤ L → (L + 1) * (expF L B n (c - 1) u).2 * (expF (L + 1) (B + 1) (n + 1) c (u + 1)).1 =
    (expF (L + 1) (B + 1) (n + 1) c (u + 1)).2 * ((L + 1) * (expF L B n (c - 1) u).2 + (B + 1) * (expF L B n (c - 1) u).1 + (L - B) * (expF L (B + 1) n c u).1)
  | 0, _ => by
    have e : ∀ k, bino k 0 = 1 := fun k => by unfold bino; rfl
    have ho : opn (L + 1) (B + 1) (n + 1) c 0 = 1 := by
      rw [opn_z (by omega) (Nat.zero_le _), psum, psum, Nat.zero_add, opz, if_pos (by omega), tmz, if_pos (by omega), e, e]
    show (L + 1) * 1 * (0 * bino (L + 1) 0 + opn (L + 1) (B + 1) (n + 1) c 0 * 1) = 1 * bino (L + 1) 0 * ((L + 1) * 1 + (B + 1) * 0 + (L - B) * 0)
    rw [ho, e]
    omega
  | u + 1, h => by
    have ih := exp_first h1 h0 hc (u := u) (by omega)
    have ho := opn_first (n := n) (c := c) (u := u) h1 (by omega)
    have hb : bino (L + 1) (u + 1) * (u + 1) = bino L u * (L + 1) := bino_succ L u
    have hd : (expF L (B + 1) n c u).2 = (expF L B n (c - 1) u).2 := exp_den u
    have key := step_alg ih ho hb
    rw [← hd] at key
    refine Nat.eq_of_mul_eq_mul_left (Nat.succ_pos u) ?_
    have e1 : (expF L B n (c - 1) (u + 1)).2 = (expF L (B + 1) n c u).2 * bino L u := by
      show (expF L B n (c - 1) u).2 * _ = _
      rw [hd]
    have e2 : (expF L B n (c - 1) (u + 1)).1 = (expF L B n (c - 1) u).1 * bino L u + opn L B n (c - 1) u * (expF L (B + 1) n c u).2 := by
      show (expF L B n (c - 1) u).1 * _ + _ * (expF L B n (c - 1) u).2 = _
      rw [hd]
    rw [e1, e2]
    exact key
theorem next_cross {lR P Q a b : Nat} (h : lR * P = Q * (lR + a + b)) : ((a * lR + b * lR) * 1 + 1 * (lR * lR)) * Q = P * (lR * lR * 1) := by
  have e1 : ((a * lR + b * lR) * 1 + 1 * (lR * lR)) * Q = lR * (Q * (lR + a + b)) := by
    simp only [Nat.mul_one, Nat.mul_add, Nat.mul_comm, Nat.mul_left_comm]
    omega
  rw [e1, ← h]
  simp only [Nat.mul_one, Nat.mul_comm, Nat.mul_left_comm]
end Go.KL
end

section
/- Walks: SampleNext. -/
namespace Go.KL
open Go.Proofs
theorem wl_lt {x : Nat} (h : x < 2 ^ 16384) : wl x ≤ 10000 := Nat.le_trans (wl_16k h) (by omega)
attribute [local irreducible] SC St Fin Sq Ylds Doos Sets Enters Spec CellIs CellsAre Then Ret Rnd Chn resOK ints bools recs arr
set_option maxRecDepth 10000 in
set_option maxHeartbeats 16000000 in
theorem sNext_spec {W : World} {N : List Chunk} {lot bad n c : Int} (hl : i64 lot) (hb : i64 bad) (hn : i64 n) (hc : i64 c) : Spec Try.prog 14 #[.int .i64 lot, .int .i64 bad, .int .i64 n, .int .i64 c] (K W N) (fun _ : Unit => .bool true) (fun _ => K W N) := by
  unfold i64 at hl hb hn hc
  refine enter (args := [_, _, _, _]) Try.func14 rfl Try.ntmps14 rfl ?_
  by_cases h1 : 60 < lot
  · refine c_seq ?_
    refine c_region ?_
    refine s_y (y_assign rfl) rfl rfl rfl ?_
    refine s_nil ?_
    refine f_then ?_
    refine c_seq ?_
    refine c_seq ?_
    refine c_region ?_
    refine s_y (y_move rfl) rfl rfl rfl ?_
    refine s_y (y_T (y_gtr rfl rfl) (by assumption)) rfl rfl rfl ?_
    refine s_y (y_move rfl) rfl rfl rfl ?_
    iterate 5 refine s_skip rfl rfl rfl ?_
    refine s_y (y_pickT rfl rfl) rfl rfl rfl ?_
    refine s_y (y_move rfl) rfl rfl rfl ?_
    iterate 2 refine s_skip rfl rfl rfl ?_
    refine s_y (y_pickT rfl rfl) rfl rfl rfl ?_
    refine s_y (y_move rfl) rfl rfl rfl ?_
    iterate 3 refine s_skip rfl rfl rfl ?_
    refine s_y (y_pickT rfl rfl) rfl rfl rfl ?_
    refine s_y (y_move rfl) rfl rfl rfl ?_
    iterate 2 refine s_skip rfl rfl rfl ?_
    refine s_y (y_pickT rfl rfl) rfl rfl rfl ?_
    refine s_y (y_move rfl) rfl rfl rfl ?_
    iterate 3 refine s_skip rfl rfl rfl ?_
    refine s_y (y_pickT rfl rfl) rfl rfl rfl ?_
    refine s_nil ?_
    refine f_then ?_
    refine c_condT rfl ?_
    refine c_seq ?_
    refine c_region ?_
    refine s_call (en_f rfl Try.call19) awake_spec rfl rfl rfl (fun _ => ?_)
    refine s_y (y_assign rfl) rfl rfl rfl ?_
    refine s_nil ?_
    refine f_then ?_
    refine c_ret ?_
    refine f_thenR ?_
    exact f_ret () (res1 rfl rfl) (fun w h => h)
  refine c_seq ?_
  refine c_region ?_
  refine s_y (y_assign rfl) rfl rfl rfl ?_
  refine s_nil ?_
  refine f_then ?_
  refine c_seq ?_
  refine c_seq ?_
  refine c_region ?_
  refine s_y (y_move rfl) rfl rfl rfl ?_
  refine s_y (y_F (y_gtr rfl rfl) (by assumption)) rfl rfl rfl ?_
  refine s_y (y_move rfl) rfl rfl rfl ?_
  refine s_y (y_move rfl) rfl rfl rfl ?_
  refine s_y (y_move rfl) rfl rfl rfl ?_
  refine s_y (y_move rfl) rfl rfl rfl ?_
  refine s_call (en_f rfl Try.call21) good_spec rfl rfl rfl (fun _ => ?_)
  by_cases hg : goodB lot bad n 256
  · rw [decide_eq_true hg]
    by_cases h2 : c < 1
    · refine s_y (y_notT rfl) rfl rfl rfl ?_
      refine s_y (y_pickF rfl rfl) rfl rfl rfl ?_
      refine s_y (y_move rfl) rfl rfl rfl ?_
      refine s_y (y_move rfl) rfl rfl rfl ?_
      refine s_y (y_T (y_lss rfl rfl) (by assumption)) rfl rfl rfl ?_
      refine s_y (y_pickF rfl rfl) rfl rfl rfl ?_
      refine s_y (y_move rfl) rfl rfl rfl ?_
      iterate 3 refine s_skip rfl rfl rfl ?_
      refine s_y (y_pickT rfl rfl) rfl rfl rfl ?_
      refine s_y (y_move rfl) rfl rfl rfl ?_
      iterate 2 refine s_skip rfl rfl rfl ?_
      refine s_y (y_pickT rfl rfl) rfl rfl rfl ?_
      refine s_y (y_move rfl) rfl rfl rfl ?_
      iterate 3 refine s_skip rfl rfl rfl ?_
      refine s_y (y_pickT rfl rfl) rfl rfl rfl ?_
      refine s_nil ?_
      refine f_then ?_
      refine c_condT rfl ?_
      refine c_seq ?_
      refine c_region ?_
      refine s_call (en_f rfl Try.call19) awake_spec rfl rfl rfl (fun _ => ?_)
      refine s_y (y_assign rfl) rfl rfl rfl ?_
      refine s_nil ?_
      refine f_then ?_
      refine c_ret ?_
      refine f_thenR ?_
      exact f_ret () (res1 rfl rfl) (fun w h => h)
    by_cases h5 : n ≤ c
    · refine s_y (y_notT rfl) rfl rfl rfl ?_
      refine s_y (y_pickF rfl rfl) rfl rfl rfl ?_
      refine s_y (y_move rfl) rfl rfl rfl ?_
      refine s_y (y_move rfl) rfl rfl rfl ?_
      refine s_y (y_F (y_lss rfl rfl) (by assumption)) rfl rfl rfl ?_
      refine s_y (y_pickF rfl rfl) rfl rfl rfl ?_
      refine s_y (y_move rfl) rfl rfl rfl ?_
      refine s_y (y_move rfl) rfl rfl rfl ?_
      refine s_y (y_move rfl) rfl rfl rfl ?_
      refine s_y (y_T (y_geq rfl rfl) (by assumption)) rfl rfl rfl ?_
      refine s_y (y_pickF rfl rfl) rfl rfl rfl ?_
      refine s_y (y_move rfl) rfl rfl rfl ?_
      iterate 2 refine s_skip rfl rfl rfl ?_
      refine s_y (y_pickT rfl rfl) rfl rfl rfl ?_
      refine s_y (y_move rfl) rfl rfl rfl ?_
      iterate 3 refine s_skip rfl rfl rfl ?_
      refine s_y (y_pickT rfl rfl) rfl rfl rfl ?_
      refine s_nil ?_
      refine f_then ?_
      refine c_condT rfl ?_
      refine c_seq ?_
      refine c_region ?_
      refine s_call (en_f rfl Try.call19) awake_spec rfl rfl rfl (fun _ => ?_)
      refine s_y (y_assign rfl) rfl rfl rfl ?_
      refine s_nil ?_
      refine f_then ?_
      refine c_ret ?_
      refine f_thenR ?_
      exact f_ret () (res1 rfl rfl) (fun w h => h)
    by_cases h3 : bad < 1
    · refine s_y (y_notT rfl) rfl rfl rfl ?_
      refine s_y (y_pickF rfl rfl) rfl rfl rfl ?_
      refine s_y (y_move rfl) rfl rfl rfl ?_
      refine s_y (y_move rfl) rfl rfl rfl ?_
      refine s_y (y_F (y_lss rfl rfl) (by assumption)) rfl rfl rfl ?_
      refine s_y (y_pickF rfl rfl) rfl rfl rfl ?_
      refine s_y (y_move rfl) rfl rfl rfl ?_
      refine s_y (y_move rfl) rfl rfl rfl ?_
      refine s_y (y_move rfl) rfl rfl rfl ?_
      refine s_y (y_F (y_geq rfl rfl) (by assumption)) rfl rfl rfl ?_
      refine s_y (y_pickF rfl rfl) rfl rfl rfl ?_
      refine s_y (y_move rfl) rfl rfl rfl ?_
      refine s_y (y_move rfl) rfl rfl rfl ?_
      refine s_y (y_T (y_lss rfl rfl) (by assumption)) rfl rfl rfl ?_
      refine s_y (y_pickF rfl rfl) rfl rfl rfl ?_
      refine s_y (y_move rfl) rfl rfl rfl ?_
      iterate 3 refine s_skip rfl rfl rfl ?_
      refine s_y (y_pickT rfl rfl) rfl rfl rfl ?_
      refine s_nil ?_
      refine f_then ?_
      refine c_condT rfl ?_
      refine c_seq ?_
      refine c_region ?_
      refine s_call (en_f rfl Try.call19) awake_spec rfl rfl rfl (fun _ => ?_)
      refine s_y (y_assign rfl) rfl rfl rfl ?_
      refine s_nil ?_
      refine f_then ?_
      refine c_ret ?_
      refine f_thenR ?_
      exact f_ret () (res1 rfl rfl) (fun w h => h)
    by_cases h4 : lot ≤ bad
    · refine s_y (y_notT rfl) rfl rfl rfl ?_
      refine s_y (y_pickF rfl rfl) rfl rfl rfl ?_
      refine s_y (y_move rfl) rfl rfl rfl ?_
      refine s_y (y_move rfl) rfl rfl rfl ?_
      refine s_y (y_F (y_lss rfl rfl) (by assumption)) rfl rfl rfl ?_
      refine s_y (y_pickF rfl rfl) rfl rfl rfl ?_
      refine s_y (y_move rfl) rfl rfl rfl ?_
      refine s_y (y_move rfl) rfl rfl rfl ?_
      refine s_y (y_move rfl) rfl rfl rfl ?_
      refine s_y (y_F (y_geq rfl rfl) (by assumption)) rfl rfl rfl ?_
      refine s_y (y_pickF rfl rfl) rfl rfl rfl ?_
      refine s_y (y_move rfl) rfl rfl rfl ?_
      refine s_y (y_move rfl) rfl rfl rfl ?_
      refine s_y (y_F (y_lss rfl rfl) (by assumption)) rfl rfl rfl ?_
      refine s_y (y_pickF rfl rfl) rfl rfl rfl ?_
      refine s_y (y_move rfl) rfl rfl rfl ?_
      refine s_y (y_move rfl) rfl rfl rfl ?_
      refine s_y (y_move rfl) rfl rfl rfl ?_
      refine s_y (y_T (y_geq rfl rfl) (by assumption)) rfl rfl rfl ?_
      refine s_y (y_pickF rfl rfl) rfl rfl rfl ?_
      refine s_nil ?_
      refine f_then ?_
      refine c_condT rfl ?_
      refine c_seq ?_
      refine c_region ?_
      refine s_call (en_f rfl Try.call19) awake_spec rfl rfl rfl (fun _ => ?_)
      refine s_y (y_assign rfl) rfl rfl rfl ?_
      refine s_nil ?_
      refine f_then ?_
      refine c_ret ?_
      refine f_thenR ?_
      exact f_ret () (res1 rfl rfl) (fun w h => h)
    obtain ⟨g1, g2, g3, g4, g5, g6⟩ := hg
    obtain ⟨L, rfl⟩ : ∃ k : Nat, lot = ((k + 1 : Nat) : Int) := ⟨(lot - 1).toNat, by omega⟩
    obtain ⟨B, rfl⟩ : ∃ k : Nat, bad = ((k + 1 : Nat) : Int) := ⟨(bad - 1).toNat, by omega⟩
    obtain ⟨M0, rfl⟩ : ∃ k : Nat, n = ((k + 1 : Nat) : Int) := ⟨(n - 1).toNat, by omega⟩
    have e1 : ((L + 1 : Nat) : Int) - 1 = (L : Int) := by omega
    have e2 : ((B + 1 : Nat) : Int) - 1 = (B : Int) := by omega
    have e3 : ((M0 + 1 : Nat) : Int) - 1 = (M0 : Int) := by omega
    refine s_y (y_notT rfl) rfl rfl rfl ?_
    refine s_y (y_pickF rfl rfl) rfl rfl rfl ?_
    refine s_y (y_move rfl) rfl rfl rfl ?_
    refine s_y (y_move rfl) rfl rfl rfl ?_
    refine s_y (y_F (y_lss rfl rfl) (by assumption)) rfl rfl rfl ?_
    refine s_y (y_pickF rfl rfl) rfl rfl rfl ?_
    refine s_y (y_move rfl) rfl rfl rfl ?_
    refine s_y (y_move rfl) rfl rfl rfl ?_
    refine s_y (y_move rfl) rfl rfl rfl ?_
    refine s_y (y_F (y_geq rfl rfl) (by assumption)) rfl rfl rfl ?_
    refine s_y (y_pickF rfl rfl) rfl rfl rfl ?_
    refine s_y (y_move rfl) rfl rfl rfl ?_
    refine s_y (y_move rfl) rfl rfl rfl ?_
    refine s_y (y_F (y_lss rfl rfl) (by assumption)) rfl rfl rfl ?_
    refine s_y (y_pickF rfl rfl) rfl rfl rfl ?_
    refine s_y (y_move rfl) rfl rfl rfl ?_
    refine s_y (y_move rfl) rfl rfl rfl ?_
    refine s_y (y_move rfl) rfl rfl rfl ?_
    refine s_y (y_F (y_geq rfl rfl) (by assumption)) rfl rfl rfl ?_
    refine s_y (y_pickF rfl rfl) rfl rfl rfl ?_
    refine s_nil ?_
    refine f_then ?_
    refine c_condF rfl ?_
    refine c_skip ?_
    refine f_then ?_
    refine c_seq ?_
    refine c_region ?_
    refine s_y (y_move rfl) rfl rfl rfl ?_
    refine s_y (y_move rfl) rfl rfl rfl ?_
    refine s_y (y_move rfl) rfl rfl rfl ?_
    refine s_y (y_move rfl) rfl rfl rfl ?_
    refine s_call (en_f rfl Try.call40) (expect_spec (W := W) (N := N) (lot := L + 1) (bad := B + 1) (n := M0 + 1) (c := c) (by omega) (by omega) (by omega) (by omega) (by omega)) rfl rfl rfl (fun r1 => ?_)
    refine s_y (y_move rfl) rfl rfl rfl ?_
    refine s_y (y_extract rfl rfl) rfl rfl rfl ?_
    refine s_y (y_extract rfl rfl) rfl rfl rfl ?_
    refine s_do (do_alloc Try.tab rfl) rfl rfl rfl (fun b9 => ?_)
    refine s_set (set_25 0 rfl rfl rfl rfl) rfl rfl ?_
    refine s_y (y_assign rfl) rfl rfl rfl ?_
    refine s_nil ?_
    refine f_then ?_
    refine c_seq ?_
    refine c_region ?_
    refine s_y (y_move rfl) rfl rfl rfl ?_
    refine s_y (y_sub rfl rfl (by omega)) rfl rfl rfl ?_
    refine s_y (y_move rfl) rfl rfl rfl ?_
    refine s_y (y_sub rfl rfl (by omega)) rfl rfl rfl ?_
    refine s_y (y_move rfl) rfl rfl rfl ?_
    refine s_y (y_sub rfl rfl (by omega)) rfl rfl rfl ?_
    refine s_y (y_move rfl) rfl rfl rfl ?_
    refine s_y (y_sub rfl rfl (by omega)) rfl rfl rfl ?_
    rw [e1, e2, e3]
    refine St.cls (C' := K W ([(b9, row 25 [r1.v1, r1.v2])] :: r1.L :: N)) ?_ (fun w h => h)
    refine s_call (en_f rfl Try.call40) (by1 (u2 := fun v w => .tuple #[.agg #[v, w], .int .i64 0]) (expect_spec (lot := L) (bad := B) (n := M0) (c := c - 1) (by omega) (by omega) (by omega) (by omega) (by omega)) rfl) rfl rfl rfl (fun r2 => ?_)
    refine s_y (y_move rfl) rfl rfl rfl ?_
    refine s_y (y_extract rfl rfl) rfl rfl rfl ?_
    refine s_y (y_extract rfl rfl) rfl rfl rfl ?_
    refine s_do (do_alloc Try.tab rfl) rfl rfl rfl (fun b11 => ?_)
    refine s_set (set_25 0 rfl rfl rfl rfl) rfl rfl ?_
    refine s_y (y_assign rfl) rfl rfl rfl ?_
    refine s_nil ?_
    refine f_then ?_
    refine c_seq ?_
    refine c_region ?_
    refine s_y (y_move rfl) rfl rfl rfl ?_
    refine s_y (y_sub rfl rfl (by omega)) rfl rfl rfl ?_
    refine s_y (y_move rfl) rfl rfl rfl ?_
    refine s_y (y_move rfl) rfl rfl rfl ?_
    refine s_y (y_sub rfl rfl (by omega)) rfl rfl rfl ?_
    refine s_y (y_move rfl) rfl rfl rfl ?_
    rw [e1, e3]
    refine St.cls (C' := K W ([(b11, row 25 [r2.v1, r2.v2])] :: [(b9, row 25 [r1.v1, r1.v2])] :: r2.L :: r1.L :: N)) ?_ (fun w h => h)
    refine s_call (en_f rfl Try.call40) (by2 (u2 := fun v w => .tuple #[.agg #[v, w], .int .i64 0]) (expect_spec (lot := L) (bad := B + 1) (n := M0) (c := c) (by omega) (by omega) (by omega) (by omega) (by omega)) rfl) rfl rfl rfl (fun r3 => ?_)
    refine s_y (y_move rfl) rfl rfl rfl ?_
    refine s_y (y_extract rfl rfl) rfl rfl rfl ?_
    refine s_y (y_extract rfl rfl) rfl rfl rfl ?_
    refine s_do (do_alloc Try.tab rfl) rfl rfl rfl (fun b13 => ?_)
    refine s_set (set_25 0 rfl rfl rfl rfl) rfl rfl ?_
    refine s_y (y_assign rfl) rfl rfl rfl ?_
    refine s_nil ?_
    refine f_then ?_
    refine c_seq ?_
    refine SC.cls (C' := K W ([(b13, row 25 [r3.v1, r3.v2])] :: [(b11, row 25 [r2.v1, r2.v2])] :: [(b9, row 25 [r1.v1, r1.v2])] :: r3.L :: r2.L :: r1.L :: N)) ?_ (fun w h => h)
    obtain ⟨A, hA⟩ : ∃ A, A = (expF (L + 1) (B + 1) (M0 + 1) c (M0 + 1)).1 := ⟨_, rfl⟩
    obtain ⟨An, hAn⟩ : ∃ An, An = (expF (L + 1) (B + 1) (M0 + 1) c (M0 + 1)).2 := ⟨_, rfl⟩
    obtain ⟨A1, hA1⟩ : ∃ A1, A1 = (expF L B M0 (c - 1) M0).1 := ⟨_, rfl⟩
    obtain ⟨A2, hA2⟩ : ∃ A2, A2 = (expF L (B + 1) M0 c M0).1 := ⟨_, rfl⟩
    obtain ⟨Bn, hBn⟩ : ∃ Bn, Bn = (expF L B M0 (c - 1) M0).2 := ⟨_, rfl⟩
    have hBn2 : (expF L (B + 1) M0 c M0).2 = Bn := hBn ▸ exp_den M0
    haveI k11 : NatV (K W (r1.L :: N)) r1.v1 (lwN A An) := r1.ok1.of (by rw [hA, hAn])
    haveI k12 : NatV (K W (r1.L :: N)) r1.v2 (lwD A An - 1) := r1.ok2.of (by rw [hA, hAn])
    haveI k21 : NatV (K W (r2.L :: r1.L :: N)) r2.v1 (lwN A1 Bn) := r2.ok1.of (by rw [hA1, hBn])
    haveI k22 : NatV (K W (r2.L :: r1.L :: N)) r2.v2 (lwD A1 Bn - 1) := r2.ok2.of (by rw [hA1, hBn])
    haveI k31 : NatV (K W (r3.L :: r2.L :: r1.L :: N)) r3.v1 (lwN A2 Bn) := r3.ok1.of (by rw [hA2, hBn2])
    haveI k32 : NatV (K W (r3.L :: r2.L :: r1.L :: N)) r3.v2 (lwD A2 Bn - 1) := r3.ok2.of (by rw [hA2, hBn2])
    have hn1 : An ≠ 0 := hAn ▸ exp_nz (by omega)
    have hn2 : Bn ≠ 0 := hBn ▸ exp_nz (by omega)
    obtain ⟨e, he⟩ : ∃ e, e = 60 := ⟨_, rfl⟩
    obtain ⟨u, hu⟩ : ∃ u, u = 4020 := ⟨_, rfl⟩
    have um : ∀ k, k ≤ 60 → (7 + e) * k ≤ u ∧ e * k ≤ u := fun k hk => ⟨Nat.le_trans (Nat.mul_le_mul (show 7 + e ≤ 67 by omega) hk) (by omega), Nat.le_trans (Nat.mul_le_mul (show e ≤ 60 by omega) hk) (by omega)⟩
    have ub : ∀ {x a : Nat}, x ≤ 2 ^ a → a ≤ u → x ≤ 2 ^ u := fun h1 h2 => Nat.le_trans h1 (Nat.pow_le_pow_right (by decide) h2)
    have z0 := exp_le (n := M0 + 1) (c := c) (e := e) (show B + 1 ≤ L + 1 by omega) (by omega) (by omega) (M0 + 1)
    have z1 := exp_le (n := M0) (c := c - 1) (e := e) (show B ≤ L by omega) (by omega) (by omega) M0
    have z2 := exp_le (n := M0) (c := c) (e := e) (show B + 1 ≤ L by omega) (by omega) (by omega) M0
    have b0 : An ≤ 2 ^ u := hAn ▸ ub z0.2 (um _ (by omega)).2
    have b1 : Bn ≤ 2 ^ u := hBn ▸ ub z1.2 (um _ (by omega)).2
    have b2 : A ≤ 2 ^ u := hA ▸ ub z0.1 (um _ (by omega)).1
    have b3 : A1 ≤ 2 ^ u := hA1 ▸ ub z1.1 (um _ (by omega)).1
    have b4 : A2 ≤ 2 ^ u := hA2 ▸ ub z2.1 (um _ (by omega)).1
    clear z0 z1 z2 um ub
    have c1 : B + 1 ≤ 2 ^ 9 := by omega
    have c2 : L + 1 ≤ 2 ^ 9 := by omega
    have c3 : L - B ≤ 2 ^ 9 := by omega
    have fd1 : (B + 1) * A1 ≤ 2 ^ (9 + u) := fit c1 b3 (by omega)
    have fd2 : (L + 1) * Bn ≤ 2 ^ (9 + u) := fit c2 b1 (by omega)
    have fd3 : (L - B) * A2 ≤ 2 ^ (9 + u) := fit c3 b4 (by omega)
    have hh1 := exp_first (L := L) (B := B) (n := M0) (c := c) (show B + 1 ≤ L by omega) (by omega) (by omega) (u := M0) (by omega)
    rw [← hA, ← hAn, ← hA1, ← hA2, ← hBn] at hh1
    have hnext := next_cross hh1
    refine c_drawn [(0, .int .i64 ((L + 1 : Nat) : Int)), (1, .int .i64 ((B + 1 : Nat) : Int)), (9, .pointer (some ⟨b9, 0, none⟩)), (10, .int .i64 0), (11, .pointer (some ⟨b11, 0, none⟩)), (12, .int .i64 0), (13, .pointer (some ⟨b13, 0, none⟩)), (14, .int .i64 0)] [[], [], [(0, 82), (1, 83)], [], [(2, 84), (3, 85)], [(4, 86)], [(5, 81)], [(5, 81)], [], [(8, 15), (6, 87)], [(7, 88)]] [(8, 15), (10, 16)] (fun s => [bxD 25 [.slice none 0 0, .slice none 0 0] (s 8) (s 9), [(b13, row 25 [r3.v1, r3.v2])], [(b11, row 25 [r2.v1, r2.v2])], [(b9, row 25 [r1.v1, r1.v2])]])
      [fun _ v _ => .int .i64 ((B + 1 : Nat) : Int) = v, fun _ v _ => .int .i64 ((L + 1 : Nat) : Int) = v, fun N v _ => ∃ u w, .agg #[u, w] = v ∧ NatV (K W N) u (lwN (B + 1) (L + 1)) ∧ NatV (K W N) w (lwD (B + 1) (L + 1) - 1), fun _ v _ => .agg #[r2.v1, r2.v2] = v, fun N v _ => ∃ u w, .tuple #[.agg #[u, w], .int .i64 0] = v ∧ NatV (K W N) u (lwN ((B + 1) * A1) ((L + 1) * Bn)) ∧ NatV (K W N) w (lwD ((B + 1) * A1) ((L + 1) * Bn) - 1), fun N v _ => ∃ u w, .tuple #[.agg #[u, w], .int .i64 0] = v ∧ NatV (K W N) u (lwN ((B + 1) * A1) ((L + 1) * Bn)) ∧ NatV (K W N) w (lwD ((B + 1) * A1) ((L + 1) * Bn) - 1), fun N v _ => ∃ u w, .agg #[u, w] = v ∧ NatV (K W N) u (lwN ((B + 1) * A1) ((L + 1) * Bn)) ∧ NatV (K W N) w (lwD ((B + 1) * A1) ((L + 1) * Bn) - 1), fun _ v _ => .int .i64 0 = v, fun _ v _ => ∃ b, Value.pointer (some ⟨b, 0, none⟩) = v, fun N _ c => ∃ u w, [(0, row 25 [u, w])] = c ∧ NatV (K W N) u (lwN ((B + 1) * A1) ((L + 1) * Bn)) ∧ NatV (K W N) w (lwD ((B + 1) * A1) ((L + 1) * Bn) - 1), fun _ v _ => .int .i64 0 = v]
      (r3.L :: r2.L :: r1.L :: N) (fun N' => NatV (K W N') r1.v1 (lwN (A) (An)) ∧ NatV (K W N') r1.v2 (lwD (A) (An) - 1) ∧ NatV (K W N') r2.v1 (lwN (A1) (Bn)) ∧ NatV (K W N') r2.v2 (lwD (A1) (Bn) - 1) ∧ NatV (K W N') r3.v1 (lwN (A2) (Bn)) ∧ NatV (K W N') r3.v2 (lwD (A2) (Bn) - 1) ∧ ∃ M, N' = M ++ N) ⟨inferInstance, inferInstance, inferInstance, inferInstance, inferInstance, inferInstance, [r3.L, r2.L, r1.L], rfl⟩ (fun M N' ⟨h0, h1, h2, h3, h4, h5, M2, e⟩ => ⟨h0.cls fun _ k => k.bck, h1.cls fun _ k => k.bck, h2.cls fun _ k => k.bck, h3.cls fun _ k => k.bck, h4.cls fun _ k => k.bck, h5.cls fun _ k => k.bck, M ++ M2, by rw [e, List.append_assoc]⟩) Try.mixed (by kernel_rfl) rfl ⟨rfl, rfl, rfl, rfl, rfl, rfl, rfl, rfl, trivial⟩ (fun w h => h.addNil)
      ⟨fun _ _ _ _ h => h, fun _ _ _ _ h => h, fun _ _ _ _ ⟨u, w, e, h1, h2⟩ => ⟨u, w, e, h1.cls fun _ k => k.bck, h2.cls fun _ k => k.bck⟩, fun _ _ _ _ h => h, fun _ _ _ _ ⟨u, w, e, h1, h2⟩ => ⟨u, w, e, h1.cls fun _ k => k.bck, h2.cls fun _ k => k.bck⟩, fun _ _ _ _ ⟨u, w, e, h1, h2⟩ => ⟨u, w, e, h1.cls fun _ k => k.bck, h2.cls fun _ k => k.bck⟩, fun _ _ _ _ ⟨u, w, e, h1, h2⟩ => ⟨u, w, e, h1.cls fun _ k => k.bck, h2.cls fun _ k => k.bck⟩, fun _ _ _ _ h => h, fun _ _ _ _ h => h, fun _ _ _ _ ⟨u, w, e, h1, h2⟩ => ⟨u, w, e, h1.cls fun _ k => k.bck, h2.cls fun _ k => k.bck⟩, fun _ _ _ _ h => h, trivial⟩
      ⟨?_, ?_, ?_, ?_, ?_, ?_, ?_, ?_, ?_, ?_, ?_, trivial⟩ ?_
    · intro s N' gN h0 hn0
      show Acts _ _ _ (K W (bxD 25 [.slice none 0 0, .slice none 0 0] (s 8) (s 9) :: [(b13, row 25 [r3.v1, r3.v2])] :: [(b11, row 25 [r2.v1, r2.v2])] :: [(b9, row 25 [r1.v1, r1.v2])] :: N')) _ _
      exact a_y (y_move rfl) fun w h => ⟨[], [], h, rfl⟩
    · intro s N' gN h0 hn0
      show Acts _ _ _ (K W (bxD 25 [.slice none 0 0, .slice none 0 0] (s 8) (s 9) :: [(b13, row 25 [r3.v1, r3.v2])] :: [(b11, row 25 [r2.v1, r2.v2])] :: [(b9, row 25 [r1.v1, r1.v2])] :: N')) _ _
      exact a_y (y_move rfl) fun w h => ⟨[], [], h, rfl⟩
    · rintro s N' gN h0 hn0 v0 d0 e0 rfl v1 d1 e1 rfl
      show Acts _ _ _ (K W (bxD 25 [.slice none 0 0, .slice none 0 0] (s 8) (s 9) :: [(b13, row 25 [r3.v1, r3.v2])] :: [(b11, row 25 [r2.v1, r2.v2])] :: [(b9, row 25 [r1.v1, r1.v2])] :: N')) _ _
      haveI := gN.1
      haveI := gN.2.1
      haveI := gN.2.2.1
      haveI := gN.2.2.2.1
      haveI := gN.2.2.2.2.1
      haveI := gN.2.2.2.2.2.1
      exact a_call (en_f rfl Try.call32) (Spec.boxed2 (u := fun v w => .agg #[v, w]) [bxD 25 [.slice none 0 0, .slice none 0 0] (s 8) (s 9), [(b13, row 25 [r3.v1, r3.v2])], [(b11, row 25 [r2.v1, r2.v2])], [(b9, row 25 [r1.v1, r1.v2])]] (by rw [boxes_bxD25]; rfl) (ratio_spec (a := B + 1) (b := L + 1) (by omega) (by omega) (by omega))) fun r w h => ⟨[r.L], [], h, r.v1, r.v2, rfl, r.ok1, r.ok2⟩
    · intro s N' gN h0 hn0
      show Acts _ _ _ (K W (bxD 25 [.slice none 0 0, .slice none 0 0] (s 8) (s 9) :: [(b13, row 25 [r3.v1, r3.v2])] :: [(b11, row 25 [r2.v1, r2.v2])] :: [(b9, row 25 [r1.v1, r1.v2])] :: N')) _ _
      exact a_y (y_loadA Try.tab rfl rfl rfl rfl (cells_row0 2 rfl rfl)) fun w h => ⟨[], [], h, rfl⟩
    · rintro s N' gN h0 hn0 v2 d2 e2 ⟨uz2, wz2, rfl, mz2, lz2⟩ v3 d3 e3 rfl
      show Acts _ _ _ (K W (bxD 25 [.slice none 0 0, .slice none 0 0] (s 8) (s 9) :: [(b13, row 25 [r3.v1, r3.v2])] :: [(b11, row 25 [r2.v1, r2.v2])] :: [(b9, row 25 [r1.v1, r1.v2])] :: N')) _ _
      haveI := gN.1
      haveI := gN.2.1
      haveI := gN.2.2.1
      haveI := gN.2.2.2.1
      haveI := gN.2.2.2.2.1
      haveI := gN.2.2.2.2.2.1
      haveI : NatV (K W N') uz2 (lwN (B + 1) (L + 1)) := mz2
      haveI : NatV (K W N') wz2 (lwD (B + 1) (L + 1) - 1) := lz2
      exact a_call (en_f rfl Try.call38) (Spec.boxed2 (u := fun v w => .tuple #[.agg #[v, w], .int .i64 0]) [bxD 25 [.slice none 0 0, .slice none 0 0] (s 8) (s 9), [(b13, row 25 [r3.v1, r3.v2])], [(b11, row 25 [r2.v1, r2.v2])], [(b9, row 25 [r1.v1, r1.v2])]] (by rw [boxes_bxD25]; rfl) (fmul2_spec (p := B + 1) (q := L + 1) (r := A1) (s := Bn) (wl_e (e := 9) (by omega) (by omega)) (wl_e c2 (by omega)) (wl_e b3 (by omega)) (wl_e b1 (by omega)) (by omega) hn2 (fit_lt (a := 9 + u) (e := 16384) fd1 (by omega)) (fit_lt (a := 9 + u) (e := 16384) fd2 (by omega)))) fun r w h => ⟨[r.L], [], h, r.v1, r.v2, rfl, r.ok1, r.ok2⟩
    · rintro s N' gN h0 hn0 v4 d4 e4 ⟨uz4, wz4, rfl, mz4, lz4⟩
      show Acts _ _ _ (K W (bxD 25 [.slice none 0 0, .slice none 0 0] (s 8) (s 9) :: [(b13, row 25 [r3.v1, r3.v2])] :: [(b11, row 25 [r2.v1, r2.v2])] :: [(b9, row 25 [r1.v1, r1.v2])] :: N')) _ _
      exact a_y (y_move rfl) fun w h => ⟨[], [], h, uz4, wz4, rfl, mz4, lz4⟩
    · rintro s N' gN h0 hn0 v5 d5 e5 ⟨uz5, wz5, rfl, mz5, lz5⟩
      show Acts _ _ _ (K W (bxD 25 [.slice none 0 0, .slice none 0 0] (s 8) (s 9) :: [(b13, row 25 [r3.v1, r3.v2])] :: [(b11, row 25 [r2.v1, r2.v2])] :: [(b9, row 25 [r1.v1, r1.v2])] :: N')) _ _
      exact a_y (y_extract rfl rfl) fun w h => ⟨[], [], h, uz5, wz5, rfl, mz5, lz5⟩
    · rintro s N' gN h0 hn0 v5 d5 e5 ⟨uz5, wz5, rfl, mz5, lz5⟩
      show Acts _ _ _ (K W (bxD 25 [.slice none 0 0, .slice none 0 0] (s 8) (s 9) :: [(b13, row 25 [r3.v1, r3.v2])] :: [(b11, row 25 [r2.v1, r2.v2])] :: [(b9, row 25 [r1.v1, r1.v2])] :: N')) _ _
      exact a_y (y_extract rfl rfl) fun w h => ⟨[], [], h, rfl⟩
    · intro s N' gN h0 hn0
      show Acts _ _ _ (K W (bxD 25 [.slice none 0 0, .slice none 0 0] (s 8) (s 9) :: [(b13, row 25 [r3.v1, r3.v2])] :: [(b11, row 25 [r2.v1, r2.v2])] :: [(b9, row 25 [r1.v1, r1.v2])] :: N')) _ _
      have hz : s 9 = none := hn0 9 rfl
      have hy : s 8 = none := h0
      rw [hy, hz]
      show Acts _ _ _ (K W ([] :: [(b13, row 25 [r3.v1, r3.v2])] :: [(b11, row 25 [r2.v1, r2.v2])] :: [(b9, row 25 [r1.v1, r1.v2])] :: N')) _ _
      exact a_do (do_alloc Try.tab rfl) fun bz w h => ⟨[], [], (by show K W (bxD 25 [.slice none 0 0, .slice none 0 0] (some (.pointer (some ⟨bz, 0, none⟩), [])) (s 9) :: [(b13, row 25 [r3.v1, r3.v2])] :: [(b11, row 25 [r2.v1, r2.v2])] :: [(b9, row 25 [r1.v1, r1.v2])] :: N') w; rw [hz]; exact h.weak [] (by simp [bxD, Value.cells])), bz, rfl⟩
    · rintro s N' gN h0 hn0 v8 d8 e8 ⟨bz8, rfl⟩ v6 d6 e6 ⟨uz6, wz6, rfl, mz6, lz6⟩
      show Acts _ _ _ (K W (bxD 25 [.slice none 0 0, .slice none 0 0] (s 8) (s 9) :: [(b13, row 25 [r3.v1, r3.v2])] :: [(b11, row 25 [r2.v1, r2.v2])] :: [(b9, row 25 [r1.v1, r1.v2])] :: N')) _ _
      have hy : s 9 = none := h0
      rw [e8, hy]
      show Acts _ _ _ (K W ([(bz8, row 25 [.slice none 0 0, .slice none 0 0])] :: [(b13, row 25 [r3.v1, r3.v2])] :: [(b11, row 25 [r2.v1, r2.v2])] :: [(b9, row 25 [r1.v1, r1.v2])] :: N')) _ _
      haveI : NatV (K W N') uz6 (lwN ((B + 1) * A1) ((L + 1) * Bn)) := mz6
      haveI : NatV (K W N') wz6 (lwD ((B + 1) * A1) ((L + 1) * Bn) - 1) := lz6
      exact a_set (set_25 0 rfl rfl rfl rfl) fun w h => ⟨[], [(0, row 25 [uz6, wz6])], (by show K W (bxD 25 [.slice none 0 0, .slice none 0 0] (s 8) (some (undef, [(0, row 25 [uz6, wz6])])) :: [(b13, row 25 [r3.v1, r3.v2])] :: [(b11, row 25 [r2.v1, r2.v2])] :: [(b9, row 25 [r1.v1, r1.v2])] :: N') w; rw [e8]; exact h), uz6, wz6, rfl, mz6, lz6⟩
    · rintro s N' gN h0 hn0 v7 d7 e7 rfl
      show Acts _ _ _ (K W (bxD 25 [.slice none 0 0, .slice none 0 0] (s 8) (s 9) :: [(b13, row 25 [r3.v1, r3.v2])] :: [(b11, row 25 [r2.v1, r2.v2])] :: [(b9, row 25 [r1.v1, r1.v2])] :: N')) _ _
      exact a_y (y_assign rfl) fun w h => ⟨[], [], h, rfl⟩
    · intro s N' gN hall v8 d8 e8 f8 v10 d10 e10 f10
      obtain ⟨v, z, u15, w15, hv, m15, l15⟩ := hall 9 (by decide)
      obtain ⟨b15, rfl⟩ := f8
      subst f10
      obtain ⟨q0, q1, q2, q3, q4, q5, M15, hM⟩ := gN
      subst hM
      show Fin _ _ _ _ (K W (bxD 25 [.slice none 0 0, .slice none 0 0] (s 8) (s 9) :: [(b13, row 25 [r3.v1, r3.v2])] :: [(b11, row 25 [r2.v1, r2.v2])] :: [(b9, row 25 [r1.v1, r1.v2])] :: (M15 ++ N)))
      rw [z, e8]
      obtain ⟨v1, v2⟩ := v
      dsimp only at hv
      subst hv
      clear z hall
      show Fin _ _ _ _ (K W ([(b15, row 25 [u15, w15])] :: [(b13, row 25 [r3.v1, r3.v2])] :: [(b11, row 25 [r2.v1, r2.v2])] :: [(b9, row 25 [r1.v1, r1.v2])] :: (M15 ++ N)))
      refine f_then ?_
      refine c_seq ?_
      clear k11 k12 k21 k22 k31 k32
      haveI := q0
      haveI := q1
      haveI := q2
      haveI := q3
      haveI := q4
      haveI := q5
      haveI := m15
      haveI := l15
      refine c_drawn [(0, .int .i64 ((L + 1 : Nat) : Int)), (1, .int .i64 ((B + 1 : Nat) : Int)), (9, .pointer (some ⟨b9, 0, none⟩)), (10, .int .i64 0), (11, .pointer (some ⟨b11, 0, none⟩)), (12, .int .i64 0), (13, .pointer (some ⟨b13, 0, none⟩)), (14, .int .i64 0), (15, .pointer (some ⟨b15, 0, none⟩)), (16, .int .i64 0)] [[], [], [(0, 90), (1, 91)], [], [(2, 92), (3, 93)], [], [(4, 94), (5, 95)], [(6, 96)], [(7, 89)], [(7, 89)], [], [(10, 17), (8, 97)], [(9, 98)]] [(10, 17), (12, 18)] (fun s => [bxD 25 [.slice none 0 0, .slice none 0 0] (s 10) (s 11), [(b15, row 25 [u15, w15])], [(b13, row 25 [r3.v1, r3.v2])], [(b11, row 25 [r2.v1, r2.v2])], [(b9, row 25 [r1.v1, r1.v2])]])
        [fun _ v _ => .int .i64 ((L + 1 : Nat) : Int) = v, fun _ v _ => .int .i64 ((B + 1 : Nat) : Int) = v, fun _ v _ => .int .i64 ((L - B : Nat) : Int) = v, fun _ v _ => .int .i64 ((L + 1 : Nat) : Int) = v, fun N v _ => ∃ u w, .agg #[u, w] = v ∧ NatV (K W N) u (lwN (L - B) (L + 1)) ∧ NatV (K W N) w (lwD (L - B) (L + 1) - 1), fun _ v _ => .agg #[r3.v1, r3.v2] = v, fun N v _ => ∃ u w, .tuple #[.agg #[u, w], .int .i64 0] = v ∧ NatV (K W N) u (lwN ((L - B) * A2) ((L + 1) * Bn)) ∧ NatV (K W N) w (lwD ((L - B) * A2) ((L + 1) * Bn) - 1), fun N v _ => ∃ u w, .tuple #[.agg #[u, w], .int .i64 0] = v ∧ NatV (K W N) u (lwN ((L - B) * A2) ((L + 1) * Bn)) ∧ NatV (K W N) w (lwD ((L - B) * A2) ((L + 1) * Bn) - 1), fun N v _ => ∃ u w, .agg #[u, w] = v ∧ NatV (K W N) u (lwN ((L - B) * A2) ((L + 1) * Bn)) ∧ NatV (K W N) w (lwD ((L - B) * A2) ((L + 1) * Bn) - 1), fun _ v _ => .int .i64 0 = v, fun _ v _ => ∃ b, Value.pointer (some ⟨b, 0, none⟩) = v, fun N _ c => ∃ u w, [(0, row 25 [u, w])] = c ∧ NatV (K W N) u (lwN ((L - B) * A2) ((L + 1) * Bn)) ∧ NatV (K W N) w (lwD ((L - B) * A2) ((L + 1) * Bn) - 1), fun _ v _ => .int .i64 0 = v]
        (M15 ++ N) (fun N' => NatV (K W N') r1.v1 (lwN (A) (An)) ∧ NatV (K W N') r1.v2 (lwD (A) (An) - 1) ∧ NatV (K W N') r2.v1 (lwN (A1) (Bn)) ∧ NatV (K W N') r2.v2 (lwD (A1) (Bn) - 1) ∧ NatV (K W N') r3.v1 (lwN (A2) (Bn)) ∧ NatV (K W N') r3.v2 (lwD (A2) (Bn) - 1) ∧ NatV (K W N') u15 (lwN ((B + 1) * A1) ((L + 1) * Bn)) ∧ NatV (K W N') w15 (lwD ((B + 1) * A1) ((L + 1) * Bn) - 1) ∧ ∃ M, N' = M ++ N) ⟨inferInstance, inferInstance, inferInstance, inferInstance, inferInstance, inferInstance, inferInstance, inferInstance, M15, rfl⟩ (fun M N' ⟨h0, h1, h2, h3, h4, h5, h6, h7, M2, e⟩ => ⟨h0.cls fun _ k => k.bck, h1.cls fun _ k => k.bck, h2.cls fun _ k => k.bck, h3.cls fun _ k => k.bck, h4.cls fun _ k => k.bck, h5.cls fun _ k => k.bck, h6.cls fun _ k => k.bck, h7.cls fun _ k => k.bck, M ++ M2, by rw [e, List.append_assoc]⟩) Try.mixed (by kernel_rfl) rfl ⟨rfl, rfl, rfl, rfl, rfl, rfl, rfl, rfl, rfl, rfl, trivial⟩ (fun w h => h.addNil)
        ⟨fun _ _ _ _ h => h, fun _ _ _ _ h => h, fun _ _ _ _ h => h, fun _ _ _ _ h => h, fun _ _ _ _ ⟨u, w, e, h1, h2⟩ => ⟨u, w, e, h1.cls fun _ k => k.bck, h2.cls fun _ k => k.bck⟩, fun _ _ _ _ h => h, fun _ _ _ _ ⟨u, w, e, h1, h2⟩ => ⟨u, w, e, h1.cls fun _ k => k.bck, h2.cls fun _ k => k.bck⟩, fun _ _ _ _ ⟨u, w, e, h1, h2⟩ => ⟨u, w, e, h1.cls fun _ k => k.bck, h2.cls fun _ k => k.bck⟩, fun _ _ _ _ ⟨u, w, e, h1, h2⟩ => ⟨u, w, e, h1.cls fun _ k => k.bck, h2.cls fun _ k => k.bck⟩, fun _ _ _ _ h => h, fun _ _ _ _ h => h, fun _ _ _ _ ⟨u, w, e, h1, h2⟩ => ⟨u, w, e, h1.cls fun _ k => k.bck, h2.cls fun _ k => k.bck⟩, fun _ _ _ _ h => h, trivial⟩
        ⟨?_, ?_, ?_, ?_, ?_, ?_, ?_, ?_, ?_, ?_, ?_, ?_, ?_, trivial⟩ ?_
      · intro s N' gN h0 hn0
        show Acts _ _ _ (K W (bxD 25 [.slice none 0 0, .slice none 0 0] (s 10) (s 11) :: [(b15, row 25 [u15, w15])] :: [(b13, row 25 [r3.v1, r3.v2])] :: [(b11, row 25 [r2.v1, r2.v2])] :: [(b9, row 25 [r1.v1, r1.v2])] :: N')) _ _
        exact a_y (y_move rfl) fun w h => ⟨[], [], h, rfl⟩
      · intro s N' gN h0 hn0
        show Acts _ _ _ (K W (bxD 25 [.slice none 0 0, .slice none 0 0] (s 10) (s 11) :: [(b15, row 25 [u15, w15])] :: [(b13, row 25 [r3.v1, r3.v2])] :: [(b11, row 25 [r2.v1, r2.v2])] :: [(b9, row 25 [r1.v1, r1.v2])] :: N')) _ _
        exact a_y (y_move rfl) fun w h => ⟨[], [], h, rfl⟩
      · rintro s N' gN h0 hn0 v0 d0 e0 rfl v1 d1 e1 rfl
        show Acts _ _ _ (K W (bxD 25 [.slice none 0 0, .slice none 0 0] (s 10) (s 11) :: [(b15, row 25 [u15, w15])] :: [(b13, row 25 [r3.v1, r3.v2])] :: [(b11, row 25 [r2.v1, r2.v2])] :: [(b9, row 25 [r1.v1, r1.v2])] :: N')) _ _
        exact a_y (y_val (y_sub rfl rfl (by omega)) (by congr 1; omega)) fun w h => ⟨[], [], h, rfl⟩
      · intro s N' gN h0 hn0
        show Acts _ _ _ (K W (bxD 25 [.slice none 0 0, .slice none 0 0] (s 10) (s 11) :: [(b15, row 25 [u15, w15])] :: [(b13, row 25 [r3.v1, r3.v2])] :: [(b11, row 25 [r2.v1, r2.v2])] :: [(b9, row 25 [r1.v1, r1.v2])] :: N')) _ _
        exact a_y (y_move rfl) fun w h => ⟨[], [], h, rfl⟩
      · rintro s N' gN h0 hn0 v2 d2 e2 rfl v3 d3 e3 rfl
        show Acts _ _ _ (K W (bxD 25 [.slice none 0 0, .slice none 0 0] (s 10) (s 11) :: [(b15, row 25 [u15, w15])] :: [(b13, row 25 [r3.v1, r3.v2])] :: [(b11, row 25 [r2.v1, r2.v2])] :: [(b9, row 25 [r1.v1, r1.v2])] :: N')) _ _
        haveI := gN.1
        haveI := gN.2.1
        haveI := gN.2.2.1
        haveI := gN.2.2.2.1
        haveI := gN.2.2.2.2.1
        haveI := gN.2.2.2.2.2.1
        haveI := gN.2.2.2.2.2.2.1
        haveI := gN.2.2.2.2.2.2.2.1
        exact a_call (en_f rfl Try.call32) (Spec.boxed2 (u := fun v w => .agg #[v, w]) [bxD 25 [.slice none 0 0, .slice none 0 0] (s 10) (s 11), [(b15, row 25 [u15, w15])], [(b13, row 25 [r3.v1, r3.v2])], [(b11, row 25 [r2.v1, r2.v2])], [(b9, row 25 [r1.v1, r1.v2])]] (by rw [boxes_bxD25]; rfl) (ratio_spec (a := L - B) (b := L + 1) (by omega) (by omega) (by omega))) fun r w h => ⟨[r.L], [], h, r.v1, r.v2, rfl, r.ok1, r.ok2⟩
      · intro s N' gN h0 hn0
        show Acts _ _ _ (K W (bxD 25 [.slice none 0 0, .slice none 0 0] (s 10) (s 11) :: [(b15, row 25 [u15, w15])] :: [(b13, row 25 [r3.v1, r3.v2])] :: [(b11, row 25 [r2.v1, r2.v2])] :: [(b9, row 25 [r1.v1, r1.v2])] :: N')) _ _
        exact a_y (y_loadA Try.tab rfl rfl rfl rfl (cells_row0 2 rfl rfl)) fun w h => ⟨[], [], h, rfl⟩
      · rintro s N' gN h0 hn0 v4 d4 e4 ⟨uz4, wz4, rfl, mz4, lz4⟩ v5 d5 e5 rfl
        show Acts _ _ _ (K W (bxD 25 [.slice none 0 0, .slice none 0 0] (s 10) (s 11) :: [(b15, row 25 [u15, w15])] :: [(b13, row 25 [r3.v1, r3.v2])] :: [(b11, row 25 [r2.v1, r2.v2])] :: [(b9, row 25 [r1.v1, r1.v2])] :: N')) _ _
        haveI := gN.1
        haveI := gN.2.1
        haveI := gN.2.2.1
        haveI := gN.2.2.2.1
        haveI := gN.2.2.2.2.1
        haveI := gN.2.2.2.2.2.1
        haveI := gN.2.2.2.2.2.2.1
        haveI := gN.2.2.2.2.2.2.2.1
        haveI : NatV (K W N') uz4 (lwN (L - B) (L + 1)) := mz4
        haveI : NatV (K W N') wz4 (lwD (L - B) (L + 1) - 1) := lz4
        exact a_call (en_f rfl Try.call38) (Spec.boxed2 (u := fun v w => .tuple #[.agg #[v, w], .int .i64 0]) [bxD 25 [.slice none 0 0, .slice none 0 0] (s 10) (s 11), [(b15, row 25 [u15, w15])], [(b13, row 25 [r3.v1, r3.v2])], [(b11, row 25 [r2.v1, r2.v2])], [(b9, row 25 [r1.v1, r1.v2])]] (by rw [boxes_bxD25]; rfl) (fmul2_spec (p := L - B) (q := L + 1) (r := A2) (s := Bn) (wl_e (e := 9) (by omega) (by omega)) (wl_e c2 (by omega)) (wl_e b4 (by omega)) (wl_e b1 (by omega)) (by omega) hn2 (fit_lt (a := 9 + u) (e := 16384) fd3 (by omega)) (fit_lt (a := 9 + u) (e := 16384) fd2 (by omega)))) fun r w h => ⟨[r.L], [], h, r.v1, r.v2, rfl, r.ok1, r.ok2⟩
      · rintro s N' gN h0 hn0 v6 d6 e6 ⟨uz6, wz6, rfl, mz6, lz6⟩
        show Acts _ _ _ (K W (bxD 25 [.slice none 0 0, .slice none 0 0] (s 10) (s 11) :: [(b15, row 25 [u15, w15])] :: [(b13, row 25 [r3.v1, r3.v2])] :: [(b11, row 25 [r2.v1, r2.v2])] :: [(b9, row 25 [r1.v1, r1.v2])] :: N')) _ _
        exact a_y (y_move rfl) fun w h => ⟨[], [], h, uz6, wz6, rfl, mz6, lz6⟩
      · rintro s N' gN h0 hn0 v7 d7 e7 ⟨uz7, wz7, rfl, mz7, lz7⟩
        show Acts _ _ _ (K W (bxD 25 [.slice none 0 0, .slice none 0 0] (s 10) (s 11) :: [(b15, row 25 [u15, w15])] :: [(b13, row 25 [r3.v1, r3.v2])] :: [(b11, row 25 [r2.v1, r2.v2])] :: [(b9, row 25 [r1.v1, r1.v2])] :: N')) _ _
        exact a_y (y_extract rfl rfl) fun w h => ⟨[], [], h, uz7, wz7, rfl, mz7, lz7⟩
      · rintro s N' gN h0 hn0 v7 d7 e7 ⟨uz7, wz7, rfl, mz7, lz7⟩
        show Acts _ _ _ (K W (bxD 25 [.slice none 0 0, .slice none 0 0] (s 10) (s 11) :: [(b15, row 25 [u15, w15])] :: [(b13, row 25 [r3.v1, r3.v2])] :: [(b11, row 25 [r2.v1, r2.v2])] :: [(b9, row 25 [r1.v1, r1.v2])] :: N')) _ _
        exact a_y (y_extract rfl rfl) fun w h => ⟨[], [], h, rfl⟩
      · intro s N' gN h0 hn0
        show Acts _ _ _ (K W (bxD 25 [.slice none 0 0, .slice none 0 0] (s 10) (s 11) :: [(b15, row 25 [u15, w15])] :: [(b13, row 25 [r3.v1, r3.v2])] :: [(b11, row 25 [r2.v1, r2.v2])] :: [(b9, row 25 [r1.v1, r1.v2])] :: N')) _ _
        have hz : s 11 = none := hn0 11 rfl
        have hy : s 10 = none := h0
        rw [hy, hz]
        show Acts _ _ _ (K W ([] :: [(b15, row 25 [u15, w15])] :: [(b13, row 25 [r3.v1, r3.v2])] :: [(b11, row 25 [r2.v1, r2.v2])] :: [(b9, row 25 [r1.v1, r1.v2])] :: N')) _ _
        exact a_do (do_alloc Try.tab rfl) fun bz w h => ⟨[], [], (by show K W (bxD 25 [.slice none 0 0, .slice none 0 0] (some (.pointer (some ⟨bz, 0, none⟩), [])) (s 11) :: [(b15, row 25 [u15, w15])] :: [(b13, row 25 [r3.v1, r3.v2])] :: [(b11, row 25 [r2.v1, r2.v2])] :: [(b9, row 25 [r1.v1, r1.v2])] :: N') w; rw [hz]; exact h.weak [] (by simp [bxD, Value.cells])), bz, rfl⟩
      · rintro s N' gN h0 hn0 v10 d10 e10 ⟨bz10, rfl⟩ v8 d8 e8 ⟨uz8, wz8, rfl, mz8, lz8⟩
        show Acts _ _ _ (K W (bxD 25 [.slice none 0 0, .slice none 0 0] (s 10) (s 11) :: [(b15, row 25 [u15, w15])] :: [(b13, row 25 [r3.v1, r3.v2])] :: [(b11, row 25 [r2.v1, r2.v2])] :: [(b9, row 25 [r1.v1, r1.v2])] :: N')) _ _
        have hy : s 11 = none := h0
        rw [e10, hy]
        show Acts _ _ _ (K W ([(bz10, row 25 [.slice none 0 0, .slice none 0 0])] :: [(b15, row 25 [u15, w15])] :: [(b13, row 25 [r3.v1, r3.v2])] :: [(b11, row 25 [r2.v1, r2.v2])] :: [(b9, row 25 [r1.v1, r1.v2])] :: N')) _ _
        haveI : NatV (K W N') uz8 (lwN ((L - B) * A2) ((L + 1) * Bn)) := mz8
        haveI : NatV (K W N') wz8 (lwD ((L - B) * A2) ((L + 1) * Bn) - 1) := lz8
        exact a_set (set_25 0 rfl rfl rfl rfl) fun w h => ⟨[], [(0, row 25 [uz8, wz8])], (by show K W (bxD 25 [.slice none 0 0, .slice none 0 0] (s 10) (some (undef, [(0, row 25 [uz8, wz8])])) :: [(b15, row 25 [u15, w15])] :: [(b13, row 25 [r3.v1, r3.v2])] :: [(b11, row 25 [r2.v1, r2.v2])] :: [(b9, row 25 [r1.v1, r1.v2])] :: N') w; rw [e10]; exact h), uz8, wz8, rfl, mz8, lz8⟩
      · rintro s N' gN h0 hn0 v9 d9 e9 rfl
        show Acts _ _ _ (K W (bxD 25 [.slice none 0 0, .slice none 0 0] (s 10) (s 11) :: [(b15, row 25 [u15, w15])] :: [(b13, row 25 [r3.v1, r3.v2])] :: [(b11, row 25 [r2.v1, r2.v2])] :: [(b9, row 25 [r1.v1, r1.v2])] :: N')) _ _
        exact a_y (y_assign rfl) fun w h => ⟨[], [], h, rfl⟩
      · intro s N' gN hall v10 d10 e10 f10 v12 d12 e12 f12
        obtain ⟨v, z, u17, w17, hv, m17, l17⟩ := hall 11 (by decide)
        obtain ⟨b17, rfl⟩ := f10
        subst f12
        obtain ⟨q0, q1, q2, q3, q4, q5, q6, q7, M17, hM⟩ := gN
        subst hM
        show Fin _ _ _ _ (K W (bxD 25 [.slice none 0 0, .slice none 0 0] (s 10) (s 11) :: [(b15, row 25 [u15, w15])] :: [(b13, row 25 [r3.v1, r3.v2])] :: [(b11, row 25 [r2.v1, r2.v2])] :: [(b9, row 25 [r1.v1, r1.v2])] :: (M17 ++ N)))
        rw [z, e10]
        obtain ⟨v1, v2⟩ := v
        dsimp only at hv
        subst hv
        clear z hall
        show Fin _ _ _ _ (K W ([(b17, row 25 [u17, w17])] :: [(b15, row 25 [u15, w15])] :: [(b13, row 25 [r3.v1, r3.v2])] :: [(b11, row 25 [r2.v1, r2.v2])] :: [(b9, row 25 [r1.v1, r1.v2])] :: (M17 ++ N)))
        refine f_then ?_
        refine c_seq ?_
        refine c_region ?_
        refine s_y (y_loadA Try.tab rfl rfl rfl rfl (cells_row0 1 rfl rfl)) rfl rfl rfl ?_
        refine s_y (y_loadA Try.tab rfl rfl rfl rfl (cells_row0 0 rfl rfl)) rfl rfl rfl ?_
        haveI := q0
        haveI := q1
        haveI := q2
        haveI := q3
        haveI := q4
        haveI := q5
        haveI := q6
        haveI := q7
        haveI := m17
        haveI := l17
        have fs1 : (B + 1) * A1 * ((L + 1) * Bn) ≤ 2 ^ (18 + 2 * u) := fit fd1 fd2 (by omega)
        have fs2 : (L - B) * A2 * ((L + 1) * Bn) ≤ 2 ^ (18 + 2 * u) := fit fd3 fd2 (by omega)
        have fs3 : (L + 1) * Bn * ((L + 1) * Bn) ≤ 2 ^ (18 + 2 * u) := fit fd2 fd2 (by omega)
        have fs4 : (B + 1) * A1 * ((L + 1) * Bn) + (L - B) * A2 * ((L + 1) * Bn) ≤ 2 ^ (19 + 2 * u) := by
          rw [show 19 + 2 * u = (18 + 2 * u) + 1 by omega, Nat.pow_succ]
          omega
        have hz1 : (L + 1) * Bn ≠ 0 := Nat.mul_ne_zero (by omega) hn2
        refine s_call (en_f rfl Try.call39) (Spec.boxed2 (u := fun v w => .tuple #[.agg #[v, w], .int .i64 0]) [[(b17, row 25 [u17, w17])], [(b15, row 25 [u15, w15])], [(b13, row 25 [r3.v1, r3.v2])], [(b11, row 25 [r2.v1, r2.v2])], [(b9, row 25 [r1.v1, r1.v2])]] rfl (fadd2_spec (p := (B + 1) * A1) (q := (L + 1) * Bn) (r := (L - B) * A2) (s := (L + 1) * Bn) (wl_e fd1 (by omega)) (wl_e fd2 (by omega)) (wl_e fd3 (by omega)) (wl_e fd2 (by omega)) hz1 hz1 (fit_lt (a := 19 + 2 * u) (e := 16384) fs4 (by omega)) (fit_lt (a := 18 + 2 * u) (e := 16384) fs3 (by omega)))) rfl rfl rfl (fun r8 => ?_)
        refine s_y (y_move rfl) rfl rfl rfl ?_
        refine s_y (y_extract rfl rfl) rfl rfl rfl ?_
        refine s_y (y_extract rfl rfl) rfl rfl rfl ?_
        refine s_do (do_alloc Try.tab rfl) rfl rfl rfl (fun b19 => ?_)
        refine s_set (set_25 0 rfl rfl rfl rfl) rfl rfl ?_
        refine s_y (y_assign rfl) rfl rfl rfl ?_
        refine s_nil ?_
        refine f_then ?_
        refine c_seq ?_
        obtain ⟨S, hS⟩ : ∃ S, S = (B + 1) * A1 * ((L + 1) * Bn) + (L - B) * A2 * ((L + 1) * Bn) := ⟨_, rfl⟩
        obtain ⟨T, hT⟩ : ∃ T, T = (L + 1) * Bn * ((L + 1) * Bn) := ⟨_, rfl⟩
        have hnT : T ≠ 0 := hT ▸ Nat.mul_ne_zero hz1 hz1
        have wS : wl S ≤ 10000 := hS ▸ wl_e fs4 (by omega)
        have wT : wl T ≤ 10000 := hT ▸ wl_e fs3 (by omega)
        have w1 : wl 1 ≤ 10000 := by rw [wl_one]; omega
        have fs5 : T ≤ 2 ^ (19 + 2 * u) := by
          rw [hT, show 19 + 2 * u = (18 + 2 * u) + 1 by omega, Nat.pow_succ]
          omega
        have hTN : S * 1 + 1 * T < 2 ^ 16384 := by
          rw [Nat.mul_one, Nat.one_mul]
          exact sum_lt (a := 19 + 2 * u) (e := 16384) (hS ▸ fs4) fs5 (by omega)
        have hTD : T * 1 < 2 ^ 16384 := by
          rw [Nat.mul_one]
          exact fit_lt (a := 19 + 2 * u) (e := 16384) fs5 (by omega)
        rw [← hS, ← hT] at hnext
        refine SC.cls (C' := K W ([(b19, row 25 [r8.v1, r8.v2])] :: [(b17, row 25 [u17, w17])] :: [(b15, row 25 [u15, w15])] :: [(b13, row 25 [r3.v1, r3.v2])] :: [(b11, row 25 [r2.v1, r2.v2])] :: [(b9, row 25 [r1.v1, r1.v2])] :: r8.L :: (M17 ++ N))) ?_ (fun w h => h)
        haveI k81 : NatV (K W (r8.L :: (M17 ++ N))) r8.v1 (lwN S T) := r8.ok1.of (by rw [hS, hT])
        haveI k82 : NatV (K W (r8.L :: (M17 ++ N))) r8.v2 (lwD S T - 1) := r8.ok2.of (by rw [hS, hT])
        refine c_drawn [(0, .int .i64 ((L + 1 : Nat) : Int)), (1, .int .i64 ((B + 1 : Nat) : Int)), (9, .pointer (some ⟨b9, 0, none⟩)), (10, .int .i64 0), (11, .pointer (some ⟨b11, 0, none⟩)), (12, .int .i64 0), (13, .pointer (some ⟨b13, 0, none⟩)), (14, .int .i64 0), (15, .pointer (some ⟨b15, 0, none⟩)), (16, .int .i64 0), (17, .pointer (some ⟨b17, 0, none⟩)), (18, .int .i64 0), (19, .pointer (some ⟨b19, 0, none⟩)), (20, .int .i64 0)] [[], [], [(0, 106), (1, 107)], [(2, 108)], [(3, 105)], [(3, 105)], [], [(6, 21), (4, 109)], [(5, 110)]] [(6, 21), (8, 22)] (fun s => [bxD 25 [.slice none 0 0, .slice none 0 0] (s 6) (s 7), [(b19, row 25 [r8.v1, r8.v2])], [(b17, row 25 [u17, w17])], [(b15, row 25 [u15, w15])], [(b13, row 25 [r3.v1, r3.v2])], [(b11, row 25 [r2.v1, r2.v2])], [(b9, row 25 [r1.v1, r1.v2])]])
          [fun _ v _ => .agg #[r8.v1, r8.v2] = v, fun N v _ => ∃ u w, .agg #[u, w] = v ∧ NatV (K W N) u (lwN (1) (1)) ∧ NatV (K W N) w (lwD (1) (1) - 1), fun N v _ => ∃ u w, .tuple #[.agg #[u, w], .int .i64 0] = v ∧ NatV (K W N) u (lwN (S * 1 + 1 * T) (T * 1)) ∧ NatV (K W N) w (lwD (S * 1 + 1 * T) (T * 1) - 1), fun N v _ => ∃ u w, .tuple #[.agg #[u, w], .int .i64 0] = v ∧ NatV (K W N) u (lwN (S * 1 + 1 * T) (T * 1)) ∧ NatV (K W N) w (lwD (S * 1 + 1 * T) (T * 1) - 1), fun N v _ => ∃ u w, .agg #[u, w] = v ∧ NatV (K W N) u (lwN (S * 1 + 1 * T) (T * 1)) ∧ NatV (K W N) w (lwD (S * 1 + 1 * T) (T * 1) - 1), fun _ v _ => .int .i64 0 = v, fun _ v _ => ∃ b, Value.pointer (some ⟨b, 0, none⟩) = v, fun N _ c => ∃ u w, [(0, row 25 [u, w])] = c ∧ NatV (K W N) u (lwN (S * 1 + 1 * T) (T * 1)) ∧ NatV (K W N) w (lwD (S * 1 + 1 * T) (T * 1) - 1), fun _ v _ => .int .i64 0 = v]
          (r8.L :: (M17 ++ N)) (fun N' => NatV (K W N') r1.v1 (lwN (A) (An)) ∧ NatV (K W N') r1.v2 (lwD (A) (An) - 1) ∧ NatV (K W N') r8.v1 (lwN S T) ∧ NatV (K W N') r8.v2 (lwD S T - 1) ∧ ∃ M, N' = M ++ N) ⟨inferInstance, inferInstance, inferInstance, inferInstance, r8.L :: M17, rfl⟩ (fun M N' ⟨h0, h1, h2, h3, M2, e⟩ => ⟨h0.cls fun _ k => k.bck, h1.cls fun _ k => k.bck, h2.cls fun _ k => k.bck, h3.cls fun _ k => k.bck, M ++ M2, by rw [e, List.append_assoc]⟩) Try.mixed (by kernel_rfl) rfl ⟨rfl, rfl, rfl, rfl, rfl, rfl, rfl, rfl, rfl, rfl, rfl, rfl, rfl, rfl, trivial⟩ (fun w h => h.addNil)
          ⟨fun _ _ _ _ h => h, fun _ _ _ _ ⟨u, w, e, h1, h2⟩ => ⟨u, w, e, h1.cls fun _ k => k.bck, h2.cls fun _ k => k.bck⟩, fun _ _ _ _ ⟨u, w, e, h1, h2⟩ => ⟨u, w, e, h1.cls fun _ k => k.bck, h2.cls fun _ k => k.bck⟩, fun _ _ _ _ ⟨u, w, e, h1, h2⟩ => ⟨u, w, e, h1.cls fun _ k => k.bck, h2.cls fun _ k => k.bck⟩, fun _ _ _ _ ⟨u, w, e, h1, h2⟩ => ⟨u, w, e, h1.cls fun _ k => k.bck, h2.cls fun _ k => k.bck⟩, fun _ _ _ _ h => h, fun _ _ _ _ h => h, fun _ _ _ _ ⟨u, w, e, h1, h2⟩ => ⟨u, w, e, h1.cls fun _ k => k.bck, h2.cls fun _ k => k.bck⟩, fun _ _ _ _ h => h, trivial⟩
          ⟨?_, ?_, ?_, ?_, ?_, ?_, ?_, ?_, ?_, trivial⟩ ?_
        · intro s N' gN h0 hn0
          show Acts _ _ _ (K W (bxD 25 [.slice none 0 0, .slice none 0 0] (s 6) (s 7) :: [(b19, row 25 [r8.v1, r8.v2])] :: [(b17, row 25 [u17, w17])] :: [(b15, row 25 [u15, w15])] :: [(b13, row 25 [r3.v1, r3.v2])] :: [(b11, row 25 [r2.v1, r2.v2])] :: [(b9, row 25 [r1.v1, r1.v2])] :: N')) _ _
          exact a_y (y_loadA Try.tab rfl rfl rfl rfl (cells_row0 1 rfl rfl)) fun w h => ⟨[], [], h, rfl⟩
        · intro s N' gN h0 hn0
          show Acts _ _ _ (K W (bxD 25 [.slice none 0 0, .slice none 0 0] (s 6) (s 7) :: [(b19, row 25 [r8.v1, r8.v2])] :: [(b17, row 25 [u17, w17])] :: [(b15, row 25 [u15, w15])] :: [(b13, row 25 [r3.v1, r3.v2])] :: [(b11, row 25 [r2.v1, r2.v2])] :: [(b9, row 25 [r1.v1, r1.v2])] :: N')) _ _
          haveI := gN.1
          haveI := gN.2.1
          haveI := gN.2.2.1
          haveI := gN.2.2.2.1
          exact a_call (en_f rfl Try.call32) (Spec.boxed2 (u := fun v w => .agg #[v, w]) [bxD 25 [.slice none 0 0, .slice none 0 0] (s 6) (s 7), [(b19, row 25 [r8.v1, r8.v2])], [(b17, row 25 [u17, w17])], [(b15, row 25 [u15, w15])], [(b13, row 25 [r3.v1, r3.v2])], [(b11, row 25 [r2.v1, r2.v2])], [(b9, row 25 [r1.v1, r1.v2])]] (by rw [boxes_bxD25]; rfl) (ratio_spec (a := 1) (b := 1) (by omega) (by omega) (by omega))) fun r w h => ⟨[r.L], [], h, r.v1, r.v2, rfl, r.ok1, r.ok2⟩
        · rintro s N' gN h0 hn0 v0 d0 e0 rfl v1 d1 e1 ⟨uz1, wz1, rfl, mz1, lz1⟩
          show Acts _ _ _ (K W (bxD 25 [.slice none 0 0, .slice none 0 0] (s 6) (s 7) :: [(b19, row 25 [r8.v1, r8.v2])] :: [(b17, row 25 [u17, w17])] :: [(b15, row 25 [u15, w15])] :: [(b13, row 25 [r3.v1, r3.v2])] :: [(b11, row 25 [r2.v1, r2.v2])] :: [(b9, row 25 [r1.v1, r1.v2])] :: N')) _ _
          haveI := gN.1
          haveI := gN.2.1
          haveI := gN.2.2.1
          haveI := gN.2.2.2.1
          haveI : NatV (K W N') uz1 (lwN (1) (1)) := mz1
          haveI : NatV (K W N') wz1 (lwD (1) (1) - 1) := lz1
          exact a_call (en_f rfl Try.call39) (Spec.boxed2 (u := fun v w => .tuple #[.agg #[v, w], .int .i64 0]) [bxD 25 [.slice none 0 0, .slice none 0 0] (s 6) (s 7), [(b19, row 25 [r8.v1, r8.v2])], [(b17, row 25 [u17, w17])], [(b15, row 25 [u15, w15])], [(b13, row 25 [r3.v1, r3.v2])], [(b11, row 25 [r2.v1, r2.v2])], [(b9, row 25 [r1.v1, r1.v2])]] (by rw [boxes_bxD25]; rfl) (fadd2_spec (p := S) (q := T) (r := 1) (s := 1) wS wT w1 w1 hnT (by omega) hTN hTD)) fun r w h => ⟨[r.L], [], h, r.v1, r.v2, rfl, r.ok1, r.ok2⟩
        · rintro s N' gN h0 hn0 v2 d2 e2 ⟨uz2, wz2, rfl, mz2, lz2⟩
          show Acts _ _ _ (K W (bxD 25 [.slice none 0 0, .slice none 0 0] (s 6) (s 7) :: [(b19, row 25 [r8.v1, r8.v2])] :: [(b17, row 25 [u17, w17])] :: [(b15, row 25 [u15, w15])] :: [(b13, row 25 [r3.v1, r3.v2])] :: [(b11, row 25 [r2.v1, r2.v2])] :: [(b9, row 25 [r1.v1, r1.v2])] :: N')) _ _
          exact a_y (y_move rfl) fun w h => ⟨[], [], h, uz2, wz2, rfl, mz2, lz2⟩
        · rintro s N' gN h0 hn0 v3 d3 e3 ⟨uz3, wz3, rfl, mz3, lz3⟩
          show Acts _ _ _ (K W (bxD 25 [.slice none 0 0, .slice none 0 0] (s 6) (s 7) :: [(b19, row 25 [r8.v1, r8.v2])] :: [(b17, row 25 [u17, w17])] :: [(b15, row 25 [u15, w15])] :: [(b13, row 25 [r3.v1, r3.v2])] :: [(b11, row 25 [r2.v1, r2.v2])] :: [(b9, row 25 [r1.v1, r1.v2])] :: N')) _ _
          exact a_y (y_extract rfl rfl) fun w h => ⟨[], [], h, uz3, wz3, rfl, mz3, lz3⟩
        · rintro s N' gN h0 hn0 v3 d3 e3 ⟨uz3, wz3, rfl, mz3, lz3⟩
          show Acts _ _ _ (K W (bxD 25 [.slice none 0 0, .slice none 0 0] (s 6) (s 7) :: [(b19, row 25 [r8.v1, r8.v2])] :: [(b17, row 25 [u17, w17])] :: [(b15, row 25 [u15, w15])] :: [(b13, row 25 [r3.v1, r3.v2])] :: [(b11, row 25 [r2.v1, r2.v2])] :: [(b9, row 25 [r1.v1, r1.v2])] :: N')) _ _
          exact a_y (y_extract rfl rfl) fun w h => ⟨[], [], h, rfl⟩
        · intro s N' gN h0 hn0
          show Acts _ _ _ (K W (bxD 25 [.slice none 0 0, .slice none 0 0] (s 6) (s 7) :: [(b19, row 25 [r8.v1, r8.v2])] :: [(b17, row 25 [u17, w17])] :: [(b15, row 25 [u15, w15])] :: [(b13, row 25 [r3.v1, r3.v2])] :: [(b11, row 25 [r2.v1, r2.v2])] :: [(b9, row 25 [r1.v1, r1.v2])] :: N')) _ _
          have hz : s 7 = none := hn0 7 rfl
          have hy : s 6 = none := h0
          rw [hy, hz]
          show Acts _ _ _ (K W ([] :: [(b19, row 25 [r8.v1, r8.v2])] :: [(b17, row 25 [u17, w17])] :: [(b15, row 25 [u15, w15])] :: [(b13, row 25 [r3.v1, r3.v2])] :: [(b11, row 25 [r2.v1, r2.v2])] :: [(b9, row 25 [r1.v1, r1.v2])] :: N')) _ _
          exact a_do (do_alloc Try.tab rfl) fun bz w h => ⟨[], [], (by show K W (bxD 25 [.slice none 0 0, .slice none 0 0] (some (.pointer (some ⟨bz, 0, none⟩), [])) (s 7) :: [(b19, row 25 [r8.v1, r8.v2])] :: [(b17, row 25 [u17, w17])] :: [(b15, row 25 [u15, w15])] :: [(b13, row 25 [r3.v1, r3.v2])] :: [(b11, row 25 [r2.v1, r2.v2])] :: [(b9, row 25 [r1.v1, r1.v2])] :: N') w; rw [hz]; exact h.weak [] (by simp [bxD, Value.cells])), bz, rfl⟩
        · rintro s N' gN h0 hn0 v6 d6 e6 ⟨bz6, rfl⟩ v4 d4 e4 ⟨uz4, wz4, rfl, mz4, lz4⟩
          show Acts _ _ _ (K W (bxD 25 [.slice none 0 0, .slice none 0 0] (s 6) (s 7) :: [(b19, row 25 [r8.v1, r8.v2])] :: [(b17, row 25 [u17, w17])] :: [(b15, row 25 [u15, w15])] :: [(b13, row 25 [r3.v1, r3.v2])] :: [(b11, row 25 [r2.v1, r2.v2])] :: [(b9, row 25 [r1.v1, r1.v2])] :: N')) _ _
          have hy : s 7 = none := h0
          rw [e6, hy]
          show Acts _ _ _ (K W ([(bz6, row 25 [.slice none 0 0, .slice none 0 0])] :: [(b19, row 25 [r8.v1, r8.v2])] :: [(b17, row 25 [u17, w17])] :: [(b15, row 25 [u15, w15])] :: [(b13, row 25 [r3.v1, r3.v2])] :: [(b11, row 25 [r2.v1, r2.v2])] :: [(b9, row 25 [r1.v1, r1.v2])] :: N')) _ _
          haveI : NatV (K W N') uz4 (lwN (S * 1 + 1 * T) (T * 1)) := mz4
          haveI : NatV (K W N') wz4 (lwD (S * 1 + 1 * T) (T * 1) - 1) := lz4
          exact a_set (set_25 0 rfl rfl rfl rfl) fun w h => ⟨[], [(0, row 25 [uz4, wz4])], (by show K W (bxD 25 [.slice none 0 0, .slice none 0 0] (s 6) (some (undef, [(0, row 25 [uz4, wz4])])) :: [(b19, row 25 [r8.v1, r8.v2])] :: [(b17, row 25 [u17, w17])] :: [(b15, row 25 [u15, w15])] :: [(b13, row 25 [r3.v1, r3.v2])] :: [(b11, row 25 [r2.v1, r2.v2])] :: [(b9, row 25 [r1.v1, r1.v2])] :: N') w; rw [e6]; exact h), uz4, wz4, rfl, mz4, lz4⟩
        · rintro s N' gN h0 hn0 v5 d5 e5 rfl
          show Acts _ _ _ (K W (bxD 25 [.slice none 0 0, .slice none 0 0] (s 6) (s 7) :: [(b19, row 25 [r8.v1, r8.v2])] :: [(b17, row 25 [u17, w17])] :: [(b15, row 25 [u15, w15])] :: [(b13, row 25 [r3.v1, r3.v2])] :: [(b11, row 25 [r2.v1, r2.v2])] :: [(b9, row 25 [r1.v1, r1.v2])] :: N')) _ _
          exact a_y (y_assign rfl) fun w h => ⟨[], [], h, rfl⟩
        · intro s N' gN hall v6 d6 e6 f6 v8 d8 e8 f8
          obtain ⟨v, z, u21, w21, hv, m21, l21⟩ := hall 7 (by decide)
          obtain ⟨b21, rfl⟩ := f6
          subst f8
          obtain ⟨qq0, qq1, qq2, qq3, M21, hM⟩ := gN
          subst hM
          show Fin _ _ _ _ (K W (bxD 25 [.slice none 0 0, .slice none 0 0] (s 6) (s 7) :: [(b19, row 25 [r8.v1, r8.v2])] :: [(b17, row 25 [u17, w17])] :: [(b15, row 25 [u15, w15])] :: [(b13, row 25 [r3.v1, r3.v2])] :: [(b11, row 25 [r2.v1, r2.v2])] :: [(b9, row 25 [r1.v1, r1.v2])] :: (M21 ++ N)))
          rw [z, e6]
          obtain ⟨v1, v2⟩ := v
          dsimp only at hv
          subst hv
          clear z hall
          show Fin _ _ _ _ (K W ([(b21, row 25 [u21, w21])] :: [(b19, row 25 [r8.v1, r8.v2])] :: [(b17, row 25 [u17, w17])] :: [(b15, row 25 [u15, w15])] :: [(b13, row 25 [r3.v1, r3.v2])] :: [(b11, row 25 [r2.v1, r2.v2])] :: [(b9, row 25 [r1.v1, r1.v2])] :: (M21 ++ N)))
          refine f_then ?_
          refine c_seq ?_
          refine c_region ?_
          refine s_y (y_move rfl) rfl rfl rfl ?_
          refine s_y (y_T (y_eql rfl rfl) (by omega)) rfl rfl rfl ?_
          refine s_y (y_move rfl) rfl rfl rfl ?_
          refine s_y (y_move rfl) rfl rfl rfl ?_
          refine s_y (y_T (y_eql rfl rfl) (by omega)) rfl rfl rfl ?_
          refine s_y (y_pickT rfl rfl) rfl rfl rfl ?_
          refine s_y (y_move rfl) rfl rfl rfl ?_
          refine s_y (y_move rfl) rfl rfl rfl ?_
          refine s_y (y_T (y_eql rfl rfl) (by omega)) rfl rfl rfl ?_
          refine s_y (y_pickT rfl rfl) rfl rfl rfl ?_
          refine s_y (y_move rfl) rfl rfl rfl ?_
          refine s_y (y_move rfl) rfl rfl rfl ?_
          refine s_y (y_T (y_eql rfl rfl) (by omega)) rfl rfl rfl ?_
          refine s_y (y_pickT rfl rfl) rfl rfl rfl ?_
          refine s_y (y_move rfl) rfl rfl rfl ?_
          refine s_y (y_move rfl) rfl rfl rfl ?_
          refine s_y (y_T (y_eql rfl rfl) (by omega)) rfl rfl rfl ?_
          refine s_y (y_pickT rfl rfl) rfl rfl rfl ?_
          refine s_y (y_move rfl) rfl rfl rfl ?_
          refine s_y (y_move rfl) rfl rfl rfl ?_
          refine s_y (y_T (y_eql rfl rfl) (by omega)) rfl rfl rfl ?_
          refine s_y (y_pickT rfl rfl) rfl rfl rfl ?_
          refine s_y (y_move rfl) rfl rfl rfl ?_
          refine s_y (y_move rfl) rfl rfl rfl ?_
          refine s_y (y_T (y_eql rfl rfl) (by omega)) rfl rfl rfl ?_
          refine s_y (y_pickT rfl rfl) rfl rfl rfl ?_
          refine s_y (y_move rfl) rfl rfl rfl ?_
          refine s_y (y_loadA Try.tab rfl rfl rfl rfl (cells_row0 0 rfl rfl)) rfl rfl rfl ?_
          refine s_y (y_loadA Try.tab rfl rfl rfl rfl (cells_row0 6 rfl rfl)) rfl rfl rfl ?_
          haveI := qq0
          haveI := qq1
          haveI := m21
          haveI := l21
          refine s_call (en_f rfl Try.call31) (fcmp2_spec (p := S * 1 + 1 * T) (q := T * 1) (r := A) (s := An) (wl_lt hTN) (wl_lt hTD) (wl_e b2 (by omega)) (wl_e b0 (by omega)) (Nat.mul_ne_zero hnT Nat.one_ne_zero) hn1) rfl rfl rfl (fun _ => ?_)
          rw [cmpV_eq hnext]
          refine s_y (y_T (y_eql rfl rfl) (by omega)) rfl rfl rfl ?_
          refine s_y (y_pickT rfl rfl) rfl rfl rfl ?_
          refine s_y (y_move rfl) rfl rfl rfl ?_
          refine s_call (en_f rfl Try.call19) awake_spec rfl rfl rfl (fun _ => ?_)
          refine s_y (y_pickT rfl rfl) rfl rfl rfl ?_
          refine s_y (y_assign rfl) rfl rfl rfl ?_
          refine s_nil ?_
          refine f_then ?_
          refine c_ret ?_
          exact f_ret () (res1 rfl rfl) (fun w h => h.tail.tail.tail.tail.tail.tail.tail.bck)
  · rw [decide_eq_false hg]
    refine s_y (y_notF rfl) rfl rfl rfl ?_
    refine s_y (y_pickF rfl rfl) rfl rfl rfl ?_
    refine s_y (y_move rfl) rfl rfl rfl ?_
    iterate 2 refine s_skip rfl rfl rfl ?_
    refine s_y (y_pickT rfl rfl) rfl rfl rfl ?_
    refine s_y (y_move rfl) rfl rfl rfl ?_
    iterate 3 refine s_skip rfl rfl rfl ?_
    refine s_y (y_pickT rfl rfl) rfl rfl rfl ?_
    refine s_y (y_move rfl) rfl rfl rfl ?_
    iterate 2 refine s_skip rfl rfl rfl ?_
    refine s_y (y_pickT rfl rfl) rfl rfl rfl ?_
    refine s_y (y_move rfl) rfl rfl rfl ?_
    iterate 3 refine s_skip rfl rfl rfl ?_
    refine s_y (y_pickT rfl rfl) rfl rfl rfl ?_
    refine s_nil ?_
    refine f_then ?_
    refine c_condT rfl ?_
    refine c_seq ?_
    refine c_region ?_
    refine s_call (en_f rfl Try.call19) awake_spec rfl rfl rfl (fun _ => ?_)
    refine s_y (y_assign rfl) rfl rfl rfl ?_
    refine s_nil ?_
    refine f_then ?_
    refine c_ret ?_
    refine f_thenR ?_
    exact f_ret () (res1 rfl rfl) (fun w h => h)
theorem sampleNext_walk (W : World) (lot bad n c : Int) (hl : i64 lot) (hb : i64 bad) (hn : i64 n) (hc : i64 c) : Spec Try.prog 14 #[.int .i64 lot, .int .i64 bad, .int .i64 n, .int .i64 c] (K W []) (fun _ : Unit => .bool true) (fun _ => K W []) := sNext_spec hl hb hn hc
end Go.KL
end

section
/- SampleNext: for every input the law returns true, and its arguments read as they did. No condition. -/
namespace Go.Proofs.Ytdknafhaphadiaa
open Go.ChangeShapes Go.WideShapes Go.RowKit Go.KL
set_option linter.unusedVariables false
theorem own : ownKnob Try.prog.godebug = none := by kernel_rfl
set_option maxRecDepth 100000 in
theorem sampleNext_lifted (os : Os) (started : os.Started) (H : Type) (enc : TypeId × Value → H) :
    ReturnsInHanded {} Try.checked os 14 .any (Rows.sampleNextSpec.pre6 enc Try.prog Try.f14 Rows.sampleNextRow.domain false) (Rows.sampleNextSpec.post enc Try.prog Try.f14 false true false false) := by
  refine returnsInHanded_of_change (C := Try.checked) own started (by kernel_rfl) Try.func14
    (ChangeSpec.witness6 (enc := enc) (C := Try.checked) false ⟨#[], #[.int .i64 0, .int .i64 0, .int .i64 0, .int .i64 0], []⟩ 8 (by kernel_rfl) (by kernel_rfl) (by kernel_rfl) (by kernel_rfl)) ?_
  intro W base args ds gs before hval hW hcnd _
  obtain ⟨p, q, hA, hV, rfl, hfz, hnd⟩ := id hW
  obtain ⟨rfl, rfl⟩ := trodVars_none hV
  obtain ⟨v0, vs0, d0, ds0, p0, q0, e0, rfl, rfl, h0, r0⟩ := trodAll_cons hA
  obtain ⟨v1, vs1, d1, ds1, p1, q1, rfl, rfl, rfl, h1, r1⟩ := trodAll_cons r0
  obtain ⟨v2, vs2, d2, ds2, p2, q2, rfl, rfl, rfl, h2, r2⟩ := trodAll_cons r1
  obtain ⟨v3, vs3, d3, ds3, p3, q3, rfl, rfl, rfl, h3, r3⟩ := trodAll_cons r2
  obtain ⟨rfl, rfl, rfl⟩ := trodAll_nil r3
  obtain rfl : args = #[v0, v1, v2, v3] := by cases args; simp_all
  obtain ⟨k0, rfl, hk0⟩ := arg3 (hval 0 3 _ rfl rfl) h0
  obtain ⟨k1, rfl, hk1⟩ := arg3 (hval 1 3 _ rfl rfl) h1
  obtain ⟨k2, rfl, hk2⟩ := arg3 (hval 2 3 _ rfl rfl) h2
  obtain ⟨k3, rfl, hk3⟩ := arg3 (hval 3 3 _ rfl rfl) h3
  refine ((sampleNext_walk W k0 k1 k2 k3 hk0 hk1 hk2 hk3) W (K.refl W)).mono ?_
  rintro e W' ⟨x, rfl, hk⟩
  exact ⟨_, rfl, law_post (t := 4) laidOut (by decide +kernel) rfl rfl u4 hW rfl hk.toExt⟩
theorem joined : joinedFacts Try.pinned.checked.prog 14 Try.f14 Rows.sampleNextSpec Rows.sampleNextRow = true := by
  show joinedFacts Try.prog 14 Try.f14 Rows.sampleNextSpec Rows.sampleNextRow = true
  unfold joinedFacts
  rw [Go.KL.may_enter, Go.KL.lifts_final, Go.KL.make_cut]
  kernel_rfl
/-- The statement. -/
theorem sampleNext_holds : Rows.SampleNextSaid :=
  OpenClaim.holds_of_wide 14 Try.f14 rfl rfl rfl rfl rfl rfl rfl ⟨rfl, rfl, rfl, rfl, rfl⟩ rfl rfl rfl rfl rfl (by kernel_rfl) Try.func14 joined
    (of_decide_eq_true (by kernel_rfl)) (by unfold Func.isWrapper; first | (rw [if_pos (by decide +kernel)]; kernel_rfl) | (rw [if_neg (by decide +kernel)]; exact ⟨rfl, rfl⟩))
    (fun os started H enc _ => sampleNext_lifted os started H enc)
end Go.Proofs.Ytdknafhaphadiaa
end
