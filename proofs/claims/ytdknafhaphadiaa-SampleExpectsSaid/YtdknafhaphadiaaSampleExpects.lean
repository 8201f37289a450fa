/- SampleExpects: for every input the law returns true, and its arguments read as they did. No condition. -/
import Derived.Test.YtdknafhaphadiaaRows
import Derived.JoinedOf
import Derived.Handed
import Derived.Test.YtdknafhaphadiaaL7
section
/- Walks: Expect. -/
namespace Go.KL
open Go.Proofs
/-- The samples of u pieces that leave an inspection open. -/
def opnT (g bad n u : Nat) (c : Int) (i : Nat) : Nat := if (i : Int) ≤ c ∧ (u : Int) - i < n - c then tm g bad u i else 0
def opn (lot bad n : Nat) (c : Int) (u : Nat) : Nat := psum (opnT (lot - bad) bad n u c) (u - (lot - bad)) (min u bad + 1 - (u - (lot - bad)))
/-- The sum of the probabilities, not in lowest terms. -/
def expF (lot bad n : Nat) (c : Int) : Nat → Nat × Nat
  | 0 => (0, 1)
  | u + 1 => ((expF lot bad n c u).1 * bino lot u + opn lot bad n c u * (expF lot bad n c u).2, (expF lot bad n c u).2 * bino lot u)
theorem opnT_le {g bad n u i e : Nat} {c : Int} (h : bad + g ≤ e) : opnT g bad n u c i ≤ 2 ^ e := by
  unfold opnT
  split
  · exact Nat.le_trans tm_le (Nat.pow_le_pow_right (by decide) h)
  · exact Nat.zero_le _
theorem psum_leE {T : Nat → Nat} {lo e : Nat} (hT : ∀ i, T i ≤ 2 ^ e) : ∀ d, psum T lo d ≤ d * 2 ^ e
  | 0 => Nat.zero_le _
  | d + 1 => by
    have h := psum_leE (lo := lo) hT d
    have h2 := hT (lo + d)
    rw [psum, Nat.add_mul, Nat.one_mul]
    omega
theorem opn_le {lot bad n u e : Nat} {c : Int} (h1 : bad ≤ lot) (h2 : lot ≤ e) (h3 : lot ≤ 60) : opn lot bad n c u ≤ 2 ^ (6 + e) := by
  unfold opn
  refine Nat.le_trans (psum_leE (e := e) (fun _ => opnT_le (by omega)) _) ?_
  rw [Nat.pow_add]
  exact Nat.mul_le_mul_right _ (by omega)
theorem exp_le {lot bad n e : Nat} {c : Int} (h1 : bad ≤ lot) (h2 : lot ≤ e) (h3 : lot ≤ 60) : ∀ u, (expF lot bad n c u).1 ≤ 2 ^ ((7 + e) * u) ∧ (expF lot bad n c u).2 ≤ 2 ^ (e * u)
  | 0 => ⟨Nat.zero_le _, by show 1 ≤ 2 ^ 0; decide⟩
  | u + 1 => by
    have ih := exp_le (n := n) (c := c) h1 h2 h3 u
    have hb : bino lot u ≤ 2 ^ e := bino_e h2
    have ho := opn_le (n := n) (c := c) (u := u) h1 h2 h3
    have k1 : (expF lot bad n c u).1 * bino lot u ≤ 2 ^ ((7 + e) * u + (6 + e)) := fit ih.1 hb (by omega)
    have k2 : opn lot bad n c u * (expF lot bad n c u).2 ≤ 2 ^ ((7 + e) * u + (6 + e)) := fit ho ih.2 (by
      have : e * u ≤ (7 + e) * u := Nat.mul_le_mul_right u (by omega)
      omega)
    refine ⟨?_, fit ih.2 hb (by rw [Nat.mul_succ]; exact Nat.le_refl _)⟩
    rw [show (7 + e) * (u + 1) = ((7 + e) * u + (6 + e)) + 1 by rw [Nat.mul_succ]; omega, Nat.pow_succ]
    show (expF lot bad n c u).1 * bino lot u + opn lot bad n c u * (expF lot bad n c u).2 ≤ _
    omega
theorem exp_nz {lot bad n : Nat} {c : Int} : ∀ {u : Nat}, u ≤ lot + 1 → (expF lot bad n c u).2 ≠ 0
  | 0, _ => Nat.one_ne_zero
  | u + 1, h => Nat.mul_ne_zero (exp_nz (by omega)) (bino_nz (by omega))
theorem boxes_marks {Ds : List Nat} {F : List Chunk} : boxes (Ds.map (fun D => (D, dfO)) :: F) = boxes F := by
  unfold boxes
  rw [List.all_cons]
  have : (Ds.map (fun D => (D, dfO))).all (fun e => notU e.2) = true := by
    rw [List.all_map]
    exact List.all_eq_true.2 fun _ _ => rfl
  rw [this]
  rfl
theorem boxes_mid {A F : List Chunk} {Ds : List Nat} (h1 : boxes A = true) (h2 : boxes F = true) : boxes (A ++ (Ds.map (fun D => (D, dfO)) :: F)) = true := by
  have h3 := boxes_marks (Ds := Ds) (F := F)
  unfold boxes at *
  rw [List.all_append, h1, h3, h2]
  rfl
theorem SC.sub {P : Program} {n : Nat} {Q : Post} {c : Code} {σ σ' : Slots} {C : World → Prop} (hs : KL.sub σ σ') (h : SC P n Q c σ' C) : SC P n Q c σ C := fun a w hE hw => h a w (hE.mono (sub_look hs)) hw
theorem SC.mark0 {P : Program} {n : Nat} {Q : Post} {c : Code} {σ : Slots} {C : World → Prop} (hm : look σ MK = none) (h : SC P n Q c ((MK, mkV []) :: σ) C) : SC P n Q c σ C := by
  intro a w hE hw
  refine h a w ⟨hE.size, hE.lt, ?_, fun d v hd e => hE.at_ d v hd (by rwa [look_cons_ne (Ne.symm hd)] at e)⟩ hw
  rw [look_cons_eq, mkOf_mkV, hE.defers, hm]
  rfl
theorem sum_lt {x y a e : Nat} (h1 : x ≤ 2 ^ a) (h2 : y ≤ 2 ^ a) (ha : a + 1 < e) : x + y < 2 ^ e := by
  have h3 : x + y ≤ 2 ^ (a + 1) := by
    rw [Nat.pow_succ]
    omega
  exact fit_lt h3 ha
attribute [local irreducible] SC St Fin Sq Ylds Doos Sets Enters Spec CellIs CellsAre Then Ret Rnd Chn resOK ints bools recs arr
set_option maxRecDepth 10000 in
set_option maxHeartbeats 16000000 in
theorem expectE_spec {W : World} {N : List Chunk} {lot bad n c : Int} (h : ¬ ((0 ≤ lot ∧ lot ≤ 256) ∧ (0 ≤ bad ∧ bad ≤ lot) ∧ (0 ≤ n ∧ n ≤ lot) ∧ 0 ≤ c)) :
    Spec Try.prog 40 #[.int .i64 lot, .int .i64 bad, .int .i64 n, .int .i64 c] (K W N) (fun _ : Unit => .tuple #[.agg #[.slice none 0 0, .slice none 0 0], .int .i64 2]) (fun _ => K W N) := by
  refine enter (args := [_, _, _, _]) Try.func40 rfl Try.ntmps40 rfl ?_
  refine c_seq ?_
  refine c_region ?_
  refine s_do (do_box rfl) rfl rfl rfl (fun b6 => ?_)
  refine s_do (do_box rfl) rfl rfl rfl (fun b7 => ?_)
  refine s_do (do_alloc Try.tab rfl) rfl rfl rfl (fun b8 => ?_)
  refine s_y (y_assign rfl) rfl rfl rfl ?_
  refine s_nil ?_
  refine f_then ?_
  refine c_seq ?_
  refine c_seq ?_
  refine c_region ?_
  refine s_y (y_move rfl) rfl rfl rfl ?_
  refine s_call (en_f rfl Try.call49) inside_spec rfl rfl rfl (fun _ => ?_)
  by_cases g1 : 0 ≤ lot ∧ lot ≤ 256
  · rw [decide_eq_true g1]
    refine s_y (y_notT rfl) rfl rfl rfl ?_
    refine s_y (y_move rfl) rfl rfl rfl ?_
    refine s_y (y_move rfl) rfl rfl rfl ?_
    refine s_y (y_move rfl) rfl rfl rfl ?_
    refine s_call (en_f rfl Try.call49) inside_spec rfl rfl rfl (fun _ => ?_)
    by_cases g2 : 0 ≤ bad ∧ bad ≤ lot
    · rw [decide_eq_true g2]
      refine s_y (y_notT rfl) rfl rfl rfl ?_
      refine s_y (y_pickF rfl rfl) rfl rfl rfl ?_
      refine s_y (y_move rfl) rfl rfl rfl ?_
      refine s_y (y_load Try.tab rfl rfl (cell_row 2 rfl rfl)) rfl rfl rfl ?_
      refine s_y (y_move rfl) rfl rfl rfl ?_
      refine s_call (en_f rfl Try.call49) inside_spec rfl rfl rfl (fun _ => ?_)
      by_cases g3 : 0 ≤ n ∧ n ≤ lot
      · have g4 : c < 0 := by
          apply Classical.byContradiction
          intro hc
          exact h ⟨g1, g2, g3, by omega⟩
        rw [decide_eq_true g3]
        refine s_y (y_notT rfl) rfl rfl rfl ?_
        refine s_y (y_pickF rfl rfl) rfl rfl rfl ?_
        refine s_y (y_move rfl) rfl rfl rfl ?_
        refine s_y (y_load Try.tab rfl rfl (cell_row 1 rfl rfl)) rfl rfl rfl ?_
        refine s_y (y_T (y_lss rfl rfl) (by assumption)) rfl rfl rfl ?_
        refine s_y (y_pickF rfl rfl) rfl rfl rfl ?_
        refine s_nil ?_
        refine f_then ?_
        refine c_condT rfl ?_
        refine c_seq ?_
        refine c_region ?_
        refine s_y (y_build Try.tab rfl rfl rfl rfl rfl) rfl rfl rfl ?_
        refine s_set (set_25 0 rfl rfl rfl rfl) rfl rfl ?_
        refine s_y (y_assign rfl) rfl rfl rfl ?_
        refine s_nil ?_
        refine f_then ?_
        refine c_ret ?_
        refine f_thenR ?_
        exact f_ret () (resA1 Try.tab rfl rfl rfl rfl rfl rfl (cells_row0 0 rfl rfl)) (fun w h => h.tail.tail.tail)
      · rw [decide_eq_false g3]
        refine s_y (y_notF rfl) rfl rfl rfl ?_
        refine s_y (y_pickF rfl rfl) rfl rfl rfl ?_
        refine s_y (y_move rfl) rfl rfl rfl ?_
        iterate 2 refine s_skip rfl rfl rfl ?_
        refine s_y (y_pickT rfl rfl) rfl rfl rfl ?_
        refine s_nil ?_
        refine f_then ?_
        refine c_condT rfl ?_
        refine c_seq ?_
        refine c_region ?_
        refine s_y (y_build Try.tab rfl rfl rfl rfl rfl) rfl rfl rfl ?_
        refine s_set (set_25 0 rfl rfl rfl rfl) rfl rfl ?_
        refine s_y (y_assign rfl) rfl rfl rfl ?_
        refine s_nil ?_
        refine f_then ?_
        refine c_ret ?_
        refine f_thenR ?_
        exact f_ret () (resA1 Try.tab rfl rfl rfl rfl rfl rfl (cells_row0 0 rfl rfl)) (fun w h => h.tail.tail.tail)
    · rw [decide_eq_false g2]
      refine s_y (y_notF rfl) rfl rfl rfl ?_
      refine s_y (y_pickF rfl rfl) rfl rfl rfl ?_
      refine s_y (y_move rfl) rfl rfl rfl ?_
      iterate 4 refine s_skip rfl rfl rfl ?_
      refine s_y (y_pickT rfl rfl) rfl rfl rfl ?_
      refine s_y (y_move rfl) rfl rfl rfl ?_
      iterate 2 refine s_skip rfl rfl rfl ?_
      refine s_y (y_pickT rfl rfl) rfl rfl rfl ?_
      refine s_nil ?_
      refine f_then ?_
      refine c_condT rfl ?_
      refine c_seq ?_
      refine c_region ?_
      refine s_y (y_build Try.tab rfl rfl rfl rfl rfl) rfl rfl rfl ?_
      refine s_set (set_25 0 rfl rfl rfl rfl) rfl rfl ?_
      refine s_y (y_assign rfl) rfl rfl rfl ?_
      refine s_nil ?_
      refine f_then ?_
      refine c_ret ?_
      refine f_thenR ?_
      exact f_ret () (resA1 Try.tab rfl rfl rfl rfl rfl rfl (cells_row0 0 rfl rfl)) (fun w h => h.tail.tail.tail)
  · rw [decide_eq_false g1]
    refine s_y (y_notF rfl) rfl rfl rfl ?_
    refine s_y (y_move rfl) rfl rfl rfl ?_
    iterate 4 refine s_skip rfl rfl rfl ?_
    refine s_y (y_pickT rfl rfl) rfl rfl rfl ?_
    refine s_y (y_move rfl) rfl rfl rfl ?_
    iterate 4 refine s_skip rfl rfl rfl ?_
    refine s_y (y_pickT rfl rfl) rfl rfl rfl ?_
    refine s_y (y_move rfl) rfl rfl rfl ?_
    iterate 2 refine s_skip rfl rfl rfl ?_
    refine s_y (y_pickT rfl rfl) rfl rfl rfl ?_
    refine s_nil ?_
    refine f_then ?_
    refine c_condT rfl ?_
    refine c_seq ?_
    refine c_region ?_
    refine s_y (y_build Try.tab rfl rfl rfl rfl rfl) rfl rfl rfl ?_
    refine s_set (set_25 0 rfl rfl rfl rfl) rfl rfl ?_
    refine s_y (y_assign rfl) rfl rfl rfl ?_
    refine s_nil ?_
    refine f_then ?_
    refine c_ret ?_
    refine f_thenR ?_
    exact f_ret () (resA1 Try.tab rfl rfl rfl rfl rfl rfl (cells_row0 0 rfl rfl)) (fun w h => h.tail.tail.tail)
set_option maxRecDepth 10000 in
set_option maxHeartbeats 16000000 in
theorem expect_spec {W : World} {N : List Chunk} {lot bad n : Nat} {c : Int} (h1 : lot ≤ 60) (h2 : bad ≤ lot) (h3 : n ≤ lot) (h4 : 0 ≤ c) (h5 : c < 9223372036854775808) :
    Spec Try.prog 40 #[.int .i64 (lot : Int), .int .i64 (bad : Int), .int .i64 (n : Int), .int .i64 c] (K W N) (X := Res2 W N (lwN (expF lot bad n c n).1 (expF lot bad n c n).2) (lwD (expF lot bad n c n).1 (expF lot bad n c n).2 - 1)) (fun r => .tuple #[.agg #[r.v1, r.v2], .int .i64 0]) (fun r => K W (r.L :: N)) := by
  refine enter (args := [_, _, _, _]) Try.func40 rfl Try.ntmps40 rfl ?_
  refine c_seq ?_
  refine c_region ?_
  refine s_do (do_box rfl) rfl rfl rfl (fun b6 => ?_)
  refine s_do (do_box rfl) rfl rfl rfl (fun b7 => ?_)
  refine s_do (do_alloc Try.tab rfl) rfl rfl rfl (fun b8 => ?_)
  refine s_y (y_assign rfl) rfl rfl rfl ?_
  refine s_nil ?_
  refine f_then ?_
  refine c_seq ?_
  refine c_seq ?_
  refine c_region ?_
  refine s_y (y_move rfl) rfl rfl rfl ?_
  refine s_call (en_f rfl Try.call49) inside_spec rfl rfl rfl (fun _ => ?_)
  rw [decide_eq_true (by omega)]
  refine s_y (y_notT rfl) rfl rfl rfl ?_
  refine s_y (y_move rfl) rfl rfl rfl ?_
  refine s_y (y_move rfl) rfl rfl rfl ?_
  refine s_y (y_move rfl) rfl rfl rfl ?_
  refine s_call (en_f rfl Try.call49) inside_spec rfl rfl rfl (fun _ => ?_)
  rw [decide_eq_true (by omega)]
  refine s_y (y_notT rfl) rfl rfl rfl ?_
  refine s_y (y_pickF rfl rfl) rfl rfl rfl ?_
  refine s_y (y_move rfl) rfl rfl rfl ?_
  refine s_y (y_load Try.tab rfl rfl (cell_row 2 rfl rfl)) rfl rfl rfl ?_
  refine s_y (y_move rfl) rfl rfl rfl ?_
  refine s_call (en_f rfl Try.call49) inside_spec rfl rfl rfl (fun _ => ?_)
  rw [decide_eq_true (by omega)]
  refine s_y (y_notT rfl) rfl rfl rfl ?_
  refine s_y (y_pickF rfl rfl) rfl rfl rfl ?_
  refine s_y (y_move rfl) rfl rfl rfl ?_
  refine s_y (y_load Try.tab rfl rfl (cell_row 1 rfl rfl)) rfl rfl rfl ?_
  refine s_y (y_F (y_lss rfl rfl) (by omega)) rfl rfl rfl ?_
  refine s_y (y_pickF rfl rfl) rfl rfl rfl ?_
  refine s_nil ?_
  refine f_then ?_
  refine c_condF rfl ?_
  refine c_skip ?_
  refine f_then ?_
  refine c_seq ?_
  refine c_region ?_
  refine s_do (do_alloc Try.tab rfl) rfl rfl rfl (fun b10 => ?_)
  refine s_nil ?_
  refine f_then ?_
  refine c_seq ?_
  refine c_seq ?_
  refine c_region ?_
  refine s_y (y_load Try.tab rfl rfl (cell_row 3 rfl rfl)) rfl rfl rfl ?_
  refine s_y (y_move rfl) rfl rfl rfl ?_
  refine s_nil ?_
  refine f_then ?_
  refine c_block ?_
  have ec : (Value.agg #[.slice none 0 0, .slice none 0 0]).cells.toList = [.slice none 0 0, .slice none 0 0] := by simp [Value.cells]
  rw [ec]
  refine SC.mark0 rfl ?_
  refine c_loopP (α := Nat × Nat × List Nat × Value × Value × List Chunk) (fun z => [(MK, mkV z.2.2.1), (0, .int .i64 (lot : Int)), (1, .int .i64 (bad : Int)), (6, .pointer (some ⟨b6, 0, none⟩)), (7, .pointer (some ⟨b7, 0, none⟩)), (8, .pointer (some ⟨b8, 0, none⟩)), (9, .int .i64 0), (10, .pointer (some ⟨b10, 0, none⟩)), (37, .int .i64 (n : Int)), (38, .int .i64 (z.2.1 : Nat))])
    (fun z => z.1 + z.2.1 = n ∧ NatV (K W (z.2.2.2.2.2 ++ N)) z.2.2.2.1 (lwN (expF lot bad n c z.2.1).1 (expF lot bad n c z.2.1).2) ∧ NatV (K W (z.2.2.2.2.2 ++ N)) z.2.2.2.2.1 (lwD (expF lot bad n c z.2.1).1 (expF lot bad n c z.2.1).2 - 1))
    (fun z => K W (z.2.2.1.map (fun D => (D, dfO)) :: [(b10, row 25 [z.2.2.2.1, z.2.2.2.2.1])] :: [(b8, row 25 [.slice none 0 0, .slice none 0 0])] :: [(b7, row 3 [.int .i64 c])] :: [(b6, row 3 [.int .i64 (n : Int)])] :: (z.2.2.2.2.2 ++ N))) (fun z => z.1) (n, 0, [], .slice none 0 0, .slice none 0 0, [])
    ⟨rfl, rfl, rfl, rfl, rfl, rfl, rfl, rfl, rfl, rfl, trivial⟩ ⟨Nat.add_zero n, NatV.nilI.of (lw_zero Nat.one_ne_zero).1.symm, NatV.nilI.of (by show 0 = lwD 0 1 - 1; rw [(lw_zero Nat.one_ne_zero).2])⟩ (fun w h => h.addNil) ?_
  rintro ⟨d, u, Ds, v1, v2, R⟩ ⟨hd, hv1, hv2⟩
  dsimp only at hd hv1 hv2 ⊢
  cases d with
  | zero =>
    obtain rfl : u = n := by omega
    refine c_seq ?_
    refine c_region ?_
    refine s_y (y_F (y_lss rfl rfl) (by omega)) rfl rfl rfl ?_
    refine s_nil ?_
    refine f_then ?_
    refine c_seq ?_
    refine c_condF rfl ?_
    refine c_exit ?_
    refine f_thenE ?_
    refine f_rndE ?_
    refine f_blockE ?_
    refine f_then ?_
    refine c_seq ?_
    refine c_region ?_
    refine s_y (y_loadA Try.tab rfl rfl rfl rfl (cells_row0 1 rfl rfl)) rfl rfl rfl ?_
    refine s_set (set_25 2 rfl rfl rfl rfl) rfl rfl ?_
    refine s_y (y_assign rfl) rfl rfl rfl ?_
    refine s_nil ?_
    refine f_then ?_
    refine c_ret ?_
    exact f_retM (Res2.of hv1 hv2) Ds (resA1 Try.tab rfl rfl rfl rfl rfl rfl (cells_row0 1 rfl rfl)) rfl (fun w h => Res2.of_cls hv1 hv2 h.tail.tail.tail.tail) rfl
  | succ d =>
    refine c_seq ?_
    refine c_region ?_
    refine s_y (y_T (y_lss rfl rfl) (by omega)) rfl rfl rfl ?_
    refine s_nil ?_
    refine f_then ?_
    refine c_seq ?_
    refine c_condT rfl ?_
    refine c_skip ?_
    refine f_then ?_
    refine c_seq ?_
    refine c_block ?_
    refine c_seq ?_
    refine c_region ?_
    refine s_y (y_move rfl) rfl rfl rfl ?_
    refine s_do (do_alloc Try.tab rfl) rfl rfl rfl (fun b11 => ?_)
    refine s_set (set_box1 Try.tab 0 rfl rfl rfl rfl rfl) rfl rfl ?_
    refine s_nil ?_
    refine f_then ?_
    refine c_seq ?_
    refine c_region ?_
    refine s_do (do_alloc Try.tab rfl) rfl rfl rfl (fun b12 => ?_)
    refine s_nil ?_
    refine f_then ?_
    refine c_seq ?_
    refine c_seq ?_
    refine c_region ?_
    refine s_y (y_move rfl) rfl rfl rfl ?_
    refine s_y (y_move rfl) rfl rfl rfl ?_
    refine s_y (y_load Try.tab rfl rfl (cell_row 1 rfl rfl)) rfl rfl rfl ?_
    refine s_call (en_f rfl Try.call72) terms_spec rfl rfl rfl (fun t => ?_)
    refine s_nil ?_
    refine f_then ?_
    refine c_block ?_
    obtain ⟨t1, t2, t3⟩ := t
    have e71 : (Value.agg #[.slice none 0 0]).cells.toList = [.slice none 0 0] := by simp [Value.cells]
    rw [e71]
    refine SC.cls (C' := K W ([(t3, row 3 [.int .i64 (u : Int)])] :: [(t2, row 3 [.int .i64 (bad : Int)])] :: [(t1, row 3 [.int .i64 (lot : Int)])] :: [(b12, row 71 [.slice none 0 0])] :: [(b11, row 3 [.int .i64 (u : Nat)])] :: Ds.map (fun D => (D, dfO)) :: [(b10, row 25 [v1, v2])] :: [(b8, row 25 [.slice none 0 0, .slice none 0 0])] :: [(b7, row 3 [.int .i64 c])] :: [(b6, row 3 [.int .i64 (n : Int)])] :: (R ++ N))) ?_ (fun w h => h)
    refine c_rangeF (X := { x : Value × List Chunk × Option Code // NatV (K W (x.2.1 ++ (R ++ N))) x.1 (opn lot bad n c u) ∧ x.2.2 = none }) (fun _ => .tuple #[]) (fun x => x.1.2.2) (fun x => [(b12, row 71 [x.1.1])] :: [(b11, row 3 [.int .i64 (u : Nat)])] :: Ds.map (fun D => (D, dfO)) :: [(b10, row 25 [v1, v2])] :: [(b8, row 25 [.slice none 0 0, .slice none 0 0])] :: [(b7, row 3 [.int .i64 c])] :: [(b6, row 3 [.int .i64 (n : Int)])] :: (x.1.2.1 ++ (R ++ N))) RN.h rfl Try.call112 (fun k l D hps has hbd hE => ?_) (fun x D hj => ?_) (fun x D cc hj => ?_)
    · obtain ⟨g, hg⟩ : ∃ g, g = lot - bad := ⟨_, rfl⟩
      obtain ⟨lo, hlo⟩ : ∃ lo, lo = u - g := ⟨_, rfl⟩
      have hR : Rounds W l k (min u bad) (tm g bad u) Value (fun z => [(D, dfO)] :: [(b12, row 71 [z])] :: [(b11, row 3 [.int .i64 (u : Nat)])] :: Ds.map (fun D => (D, dfO)) :: [(b10, row 25 [v1, v2])] :: [(b8, row 25 [.slice none 0 0, .slice none 0 0])] :: [(b7, row 3 [.int .i64 c])] :: [[(b6, row 3 [.int .i64 (n : Int)])]]) (fun i z N' => lo ≤ i ∧ NatV (K W N') z (psum (opnT g bad n u c) lo (i - lo))) (fun _ _ _ => False) := by
        refine ⟨fun z => ?_, fun i z M N h => ⟨h.1, h.2.cls fun _ k => k.bck⟩, fun z M N cc h => h, fun i z N' F0 q hi hF hJ hq => ?_⟩
        · exact boxes_mid (A := [_, _, _]) rfl rfl
        refine yspec 0 hE hps rfl rfl rfl ?_
        rw [has, hbd]
        refine c_seq ?_
        refine c_region ?_
        refine s_y (y_assign rfl) rfl rfl rfl ?_
        refine s_nil ?_
        refine f_then ?_
        refine c_region ?_
        refine s_do (do_alloc Try.tab rfl) rfl rfl rfl (fun b14 => ?_)
        refine s_set (set_71 0 rfl rfl rfl rfl) rfl rfl ?_
        refine s_nil ?_
        refine f_beg 1 rfl ?_
        refine SC.cls (C' := K W ([(b14, row 71 [q])] :: [(l, k.bsy)] :: [(D, dfO)] :: [(b12, row 71 [z])] :: [(b11, row 3 [.int .i64 (u : Nat)])] :: Ds.map (fun D => (D, dfO)) :: [(b10, row 25 [v1, v2])] :: [(b8, row 25 [.slice none 0 0, .slice none 0 0])] :: [(b7, row 3 [.int .i64 c])] :: [(b6, row 3 [.int .i64 (n : Int)])] :: (F0 ++ N'))) ?_ (fun w h => h)
        have hs : psum (opnT g bad n u c) lo (i - lo) + opnT g bad n u c i = psum (opnT g bad n u c) lo (i + 1 - lo) := by
          rw [show i + 1 - lo = (i - lo) + 1 by omega, psum, show lo + (i - lo) = i by omega]
        by_cases p1 : (i : Int) ≤ c
        · by_cases p2 : (u : Int) - i < n - c
          · have hT : opnT g bad n u c i = tm g bad u i := if_pos ⟨p1, p2⟩
            rw [hT] at hs
            have hb : psum (opnT g bad n u c) lo (i + 1 - lo) < 2 ^ 16384 := Nat.lt_of_le_of_lt (psum_leE (e := bad + g) (fun _ => opnT_le (Nat.le_refl _)) _) (two_lt (a := 13) (show i + 1 - lo ≤ 2 ^ 13 by omega) (Nat.le_refl _) (by omega))
            have hw1 : wl (psum (opnT g bad n u c) lo (i - lo)) ≤ 800000 := Nat.le_trans (wl_16k (x := psum (opnT g bad n u c) lo (i - lo)) (by omega)) (by omega)
            have hw2 : wl (tm g bad u i) ≤ 800000 := Nat.le_trans (wl_16k (x := tm g bad u i) (by omega)) (by omega)
            haveI := hJ.2
            refine c_block ?_
            refine c_seq ?_
            refine c_region ?_
            refine s_y (y_move rfl) rfl rfl rfl ?_
            refine s_y (y_load Try.tab rfl rfl (cell_row 8 rfl rfl)) rfl rfl rfl ?_
            refine s_y (y_T (y_leq rfl rfl) (by assumption)) rfl rfl rfl ?_
            refine s_y (y_move rfl) rfl rfl rfl ?_
            refine s_y (y_load Try.tab rfl rfl (cell_row 4 rfl rfl)) rfl rfl rfl ?_
            refine s_y (y_move rfl) rfl rfl rfl ?_
            refine s_y (y_sub rfl rfl (by omega)) rfl rfl rfl ?_
            refine s_y (y_load Try.tab rfl rfl (cell_row 9 rfl rfl)) rfl rfl rfl ?_
            refine s_y (y_load Try.tab rfl rfl (cell_row 8 rfl rfl)) rfl rfl rfl ?_
            refine s_y (y_sub rfl rfl (by omega)) rfl rfl rfl ?_
            refine s_y (y_T (y_lss rfl rfl) (by assumption)) rfl rfl rfl ?_
            refine s_y (y_pickT rfl rfl) rfl rfl rfl ?_
            refine s_nil ?_
            refine f_then ?_
            refine c_condT rfl ?_
            refine c_region ?_
            refine s_y (y_loadA Try.tab rfl rfl rfl rfl (cells_row0 3 rfl rfl)) rfl rfl rfl ?_
            refine s_y (y_loadA Try.tab rfl rfl rfl rfl (cells_row0 0 rfl rfl)) rfl rfl rfl ?_
            refine s_call (en_f rfl Try.call73) (Spec.boxed (u := fun v => .tuple #[.agg #[v], .int .i64 0]) ([(b14, row 71 [q])] :: [(l, k.bsy)] :: [(D, dfO)] :: [(b12, row 71 [z])] :: [(b11, row 3 [.int .i64 (u : Nat)])] :: Ds.map (fun D => (D, dfO)) :: [(b10, row 25 [v1, v2])] :: [(b8, row 25 [.slice none 0 0, .slice none 0 0])] :: [(b7, row 3 [.int .i64 c])] :: [(b6, row 3 [.int .i64 (n : Int)])] :: F0) (boxes_mid (A := [_, _, _, _, _]) rfl hF) (nadd0_spec hs.symm (hs ▸ hb) hw1 hw2)) rfl rfl rfl (fun r1 => ?_)
            refine s_y (y_move rfl) rfl rfl rfl ?_
            refine s_y (y_extract rfl rfl) rfl rfl rfl ?_
            refine s_y (y_extract rfl rfl) rfl rfl rfl ?_
            refine s_set (set_71 3 rfl rfl rfl rfl) rfl rfl ?_
            refine s_nil ?_
            refine f_blockN ?_
            refine f_rpN 1 ⟨(r1.v, [r1.L], none), (fun _ => ⟨by omega, r1.ok⟩), fun cc e => by cases e⟩ rfl rfl ?_
            exact fun w h => h.tail
          · have hT : opnT g bad n u c i = 0 := if_neg fun h => p2 h.2
            rw [hT, Nat.add_zero] at hs
            refine c_block ?_
            refine c_seq ?_
            refine c_region ?_
            refine s_y (y_move rfl) rfl rfl rfl ?_
            refine s_y (y_load Try.tab rfl rfl (cell_row 8 rfl rfl)) rfl rfl rfl ?_
            refine s_y (y_T (y_leq rfl rfl) (by assumption)) rfl rfl rfl ?_
            refine s_y (y_move rfl) rfl rfl rfl ?_
            refine s_y (y_load Try.tab rfl rfl (cell_row 4 rfl rfl)) rfl rfl rfl ?_
            refine s_y (y_move rfl) rfl rfl rfl ?_
            refine s_y (y_sub rfl rfl (by omega)) rfl rfl rfl ?_
            refine s_y (y_load Try.tab rfl rfl (cell_row 9 rfl rfl)) rfl rfl rfl ?_
            refine s_y (y_load Try.tab rfl rfl (cell_row 8 rfl rfl)) rfl rfl rfl ?_
            refine s_y (y_sub rfl rfl (by omega)) rfl rfl rfl ?_
            refine s_y (y_F (y_lss rfl rfl) (by assumption)) rfl rfl rfl ?_
            refine s_y (y_pickT rfl rfl) rfl rfl rfl ?_
            refine s_nil ?_
            refine f_then ?_
            refine c_condF rfl ?_
            refine c_skip ?_
            refine f_blockN ?_
            refine f_rpN 1 ⟨(z, [], none), (fun _ => ⟨by omega, hJ.2.of hs⟩), fun cc e => by cases e⟩ rfl rfl ?_
            exact fun w h => h.tail
        · have hT : opnT g bad n u c i = 0 := if_neg fun h => p1 h.1
          rw [hT, Nat.add_zero] at hs
          refine c_block ?_
          refine c_seq ?_
          refine c_region ?_
          refine s_y (y_move rfl) rfl rfl rfl ?_
          refine s_y (y_load Try.tab rfl rfl (cell_row 8 rfl rfl)) rfl rfl rfl ?_
          refine s_y (y_F (y_leq rfl rfl) (by assumption)) rfl rfl rfl ?_
          refine s_y (y_move rfl) rfl rfl rfl ?_
          iterate 7 refine s_skip rfl rfl rfl ?_
          refine s_y (y_pickF rfl rfl) rfl rfl rfl ?_
          refine s_nil ?_
          refine f_then ?_
          refine c_condF rfl ?_
          refine c_skip ?_
          refine f_blockN ?_
          refine f_rpN 1 ⟨(z, [], none), (fun _ => ⟨by omega, hJ.2.of hs⟩), fun cc e => by cases e⟩ rfl rfl ?_
          exact fun w h => h.tail
      have hJ0 : u - (lot - bad) ≤ u - (lot - bad) ∧ NatV (K W (R ++ N)) (.slice none 0 0) (psum (opnT (lot - bad) bad n u c) (u - (lot - bad)) (u - (lot - bad) - (u - (lot - bad)))) := ⟨Nat.le_refl _, NatV.nilI.of (by rw [Nat.sub_self]; rfl)⟩
      subst hlo hg
      have key := terms1_spec (b1 := t1) (b2 := t2) (b3 := t3) (z0 := .slice none 0 0) (by omega) h2 (by omega) hR hJ0
      refine (key.pre fun w h => K.toM (M := [[(l, k.rdy)], [(D, dfO)]]) (B := [[(t3, row 3 [.int .i64 (u : Int)])], [(t2, row 3 [.int .i64 (bad : Int)])], [(t1, row 3 [.int .i64 (lot : Int)])]]) h).map (fun x => ⟨x.1, ?_⟩) (fun _ => rfl) (fun x w h => h)
      obtain ⟨⟨q, M, j⟩, q1, q2⟩ := x
      cases j with
      | none => exact ⟨(q1 rfl).2, rfl⟩
      | some cc => exact (q2 cc rfl).elim
    · obtain ⟨⟨q, M, j⟩, hq, hj0⟩ := x
      dsimp only at hq hj0 hj ⊢
      refine f_blockN ?_
      refine f_then ?_
      refine c_seq ?_
      refine SC.sub (σ' := [(MK, mkV (D :: Ds)), (0, .int .i64 (lot : Int)), (1, .int .i64 (bad : Int)), (6, .pointer (some ⟨b6, 0, none⟩)), (7, .pointer (some ⟨b7, 0, none⟩)), (8, .pointer (some ⟨b8, 0, none⟩)), (9, .int .i64 0), (10, .pointer (some ⟨b10, 0, none⟩)), (11, .pointer (some ⟨b11, 0, none⟩)), (12, .pointer (some ⟨b12, 0, none⟩)), (37, .int .i64 (n : Int)), (38, .int .i64 (u : Int))]) ⟨congrArg (fun l => some (mkV (D :: l))) (mkOf_mkV Ds), rfl, rfl, rfl, rfl, rfl, rfl, rfl, rfl, rfl, rfl, rfl, trivial⟩ ?_
      refine SC.cls (C' := K W ([(b12, row 71 [q])] :: [(b11, row 3 [.int .i64 (u : Int)])] :: [(b10, row 25 [v1, v2])] :: [(b8, row 25 [.slice none 0 0, .slice none 0 0])] :: [(b7, row 3 [.int .i64 c])] :: [(b6, row 3 [.int .i64 (n : Int)])] :: (D :: Ds).map (fun D => (D, dfO)) :: (M ++ (R ++ N)))) ?_ (fun w h => (((h.front 3).front 1).join.fronts [6, 6, 6, 6, 6, 6]))
      obtain ⟨O, hO⟩ : ∃ O, O = opn lot bad n c u := ⟨_, rfl⟩
      obtain ⟨P, hP⟩ : ∃ P, P = (expF lot bad n c u).1 := ⟨_, rfl⟩
      obtain ⟨Q, hQ⟩ : ∃ Q, Q = (expF lot bad n c u).2 := ⟨_, rfl⟩
      obtain ⟨Bn, hBn⟩ : ∃ Bn, Bn = bino lot u := ⟨_, rfl⟩
      obtain ⟨e, he⟩ : ∃ e, e = 60 := ⟨_, rfl⟩
      have xle := exp_le (n := n) (c := c) (e := e) h2 (by omega) h1 u
      rw [← hP, ← hQ] at xle
      have x0 : O ≤ 2 ^ (6 + e) := hO ▸ opn_le h2 (by omega) h1
      have x1 : Bn ≤ 2 ^ e := hBn ▸ bino_e (by omega)
      have hnB : Bn ≠ 0 := hBn ▸ bino_nz (by omega)
      have hnQ : Q ≠ 0 := hQ ▸ exp_nz (by omega)
      have hu60 : u ≤ 60 := by omega
      have hm1 : (7 + e) * u ≤ 4020 := Nat.le_trans (Nat.mul_le_mul (show 7 + e ≤ 67 by omega) hu60) (by omega)
      have hm2 : e * u ≤ 3600 := Nat.le_trans (Nat.mul_le_mul (show e ≤ 60 by omega) hu60) (by omega)
      have wO : wl O ≤ 10000 := wl_e x0 (by omega)
      have wB : wl Bn ≤ 10000 := wl_e x1 (by omega)
      have wP : wl P ≤ 10000 := wl_e xle.1 (by omega)
      have wQ : wl Q ≤ 10000 := wl_e xle.2 (by omega)
      obtain ⟨t, ht⟩ : ∃ t, t = 4100 := ⟨_, rfl⟩
      have y1 : P * Bn ≤ 2 ^ t := fit xle.1 x1 (by omega)
      have y2 : O * Q ≤ 2 ^ t := fit x0 xle.2 (by omega)
      have y3 : Q * Bn ≤ 2 ^ t := fit xle.2 x1 (by omega)
      haveI kq : NatV (K W (M ++ (R ++ N))) q O := hq.of hO.symm
      haveI kv1 : NatV (K W (R ++ N)) v1 (lwN P Q) := hv1.of (by rw [hP, hQ])
      haveI kv2 : NatV (K W (R ++ N)) v2 (lwD P Q - 1) := hv2.of (by rw [hP, hQ])
      haveI kv3 : NatV (K W (M ++ (R ++ N))) v1 (lwN P Q) := kv1.cls fun _ k => k.bck
      haveI kv4 : NatV (K W (M ++ (R ++ N))) v2 (lwD P Q - 1) := kv2.cls fun _ k => k.bck
      refine c_drawn [(1000000000, mkV (D :: Ds)), (0, .int .i64 (lot : Int)), (1, .int .i64 (bad : Int)), (6, .pointer (some ⟨b6, 0, none⟩)), (7, .pointer (some ⟨b7, 0, none⟩)), (8, .pointer (some ⟨b8, 0, none⟩)), (9, .int .i64 0), (10, .pointer (some ⟨b10, 0, none⟩)), (11, .pointer (some ⟨b11, 0, none⟩)), (12, .pointer (some ⟨b12, 0, none⟩)), (37, .int .i64 (n : Int)), (38, .int .i64 (u : Int))] [[], [], [], [(1, 67), (2, 68)], [(0, 66), (3, 69)], [(4, 70)], [(5, 65)], [(5, 65)], [], [(8, 15), (6, 71)], [(7, 72)]] [(8, 15), (10, 16)] (fun s => [bxD 25 [.slice none 0 0, .slice none 0 0] (s 8) (s 9), [(b12, row 71 [q])], [(b11, row 3 [.int .i64 (u : Int)])], [(b10, row 25 [v1, v2])], [(b8, row 25 [.slice none 0 0, .slice none 0 0])], [(b7, row 3 [.int .i64 c])], [(b6, row 3 [.int .i64 (n : Int)])], (D :: Ds).map (fun D => (D, dfO))])
        [fun _ v _ => .agg #[q] = v, fun _ v _ => .int .i64 (lot : Int) = v, fun _ v _ => .int .i64 (u : Int) = v, fun N v _ => ∃ u, .agg #[u] = v ∧ NatV (K W N) u (Bn), fun N v _ => ∃ u w, .tuple #[.agg #[u, w], .int .i64 0] = v ∧ NatV (K W N) u (lwN (O) (Bn)) ∧ NatV (K W N) w (lwD (O) (Bn) - 1), fun N v _ => ∃ u w, .tuple #[.agg #[u, w], .int .i64 0] = v ∧ NatV (K W N) u (lwN (O) (Bn)) ∧ NatV (K W N) w (lwD (O) (Bn) - 1), fun N v _ => ∃ u w, .agg #[u, w] = v ∧ NatV (K W N) u (lwN (O) (Bn)) ∧ NatV (K W N) w (lwD (O) (Bn) - 1), fun _ v _ => .int .i64 0 = v, fun _ v _ => ∃ b, Value.pointer (some ⟨b, 0, none⟩) = v, fun N _ c => ∃ u w, [(0, row 25 [u, w])] = c ∧ NatV (K W N) u (lwN (O) (Bn)) ∧ NatV (K W N) w (lwD (O) (Bn) - 1), fun _ v _ => .int .i64 0 = v]
        (M ++ (R ++ N)) (fun N' => NatV (K W N') q (O) ∧ NatV (K W N') v1 (lwN P Q) ∧ NatV (K W N') v2 (lwD P Q - 1) ∧ ∃ M, N' = M ++ N) ⟨inferInstance, inferInstance, inferInstance, M ++ R, (List.append_assoc M R N).symm⟩ (fun M N' ⟨h0, h1, h2, M2, e⟩ => ⟨h0.cls fun _ k => k.bck, h1.cls fun _ k => k.bck, h2.cls fun _ k => k.bck, M ++ M2, by rw [e, List.append_assoc]⟩) Try.mixed (by kernel_rfl) rfl ⟨rfl, rfl, rfl, rfl, rfl, rfl, rfl, rfl, rfl, rfl, rfl, rfl, trivial⟩ (fun w h => h.addNil)
        ⟨fun _ _ _ _ h => h, fun _ _ _ _ h => h, fun _ _ _ _ h => h, fun _ _ _ _ ⟨u, e, h⟩ => ⟨u, e, h.cls fun _ k => k.bck⟩, fun _ _ _ _ ⟨u, w, e, h1, h2⟩ => ⟨u, w, e, h1.cls fun _ k => k.bck, h2.cls fun _ k => k.bck⟩, fun _ _ _ _ ⟨u, w, e, h1, h2⟩ => ⟨u, w, e, h1.cls fun _ k => k.bck, h2.cls fun _ k => k.bck⟩, fun _ _ _ _ ⟨u, w, e, h1, h2⟩ => ⟨u, w, e, h1.cls fun _ k => k.bck, h2.cls fun _ k => k.bck⟩, fun _ _ _ _ h => h, fun _ _ _ _ h => h, fun _ _ _ _ ⟨u, w, e, h1, h2⟩ => ⟨u, w, e, h1.cls fun _ k => k.bck, h2.cls fun _ k => k.bck⟩, fun _ _ _ _ h => h, trivial⟩
        ⟨?_, ?_, ?_, ?_, ?_, ?_, ?_, ?_, ?_, ?_, ?_, trivial⟩ ?_
      · intro s N' gN h0 hn0
        show Acts _ _ _ (K W (bxD 25 [.slice none 0 0, .slice none 0 0] (s 8) (s 9) :: [(b12, row 71 [q])] :: [(b11, row 3 [.int .i64 (u : Int)])] :: [(b10, row 25 [v1, v2])] :: [(b8, row 25 [.slice none 0 0, .slice none 0 0])] :: [(b7, row 3 [.int .i64 c])] :: [(b6, row 3 [.int .i64 (n : Int)])] :: (D :: Ds).map (fun D => (D, dfO)) :: N')) _ _
        exact a_y (y_loadA Try.tab rfl rfl rfl rfl (cells_row0 1 rfl rfl)) fun w h => ⟨[], [], h, rfl⟩
      · intro s N' gN h0 hn0
        show Acts _ _ _ (K W (bxD 25 [.slice none 0 0, .slice none 0 0] (s 8) (s 9) :: [(b12, row 71 [q])] :: [(b11, row 3 [.int .i64 (u : Int)])] :: [(b10, row 25 [v1, v2])] :: [(b8, row 25 [.slice none 0 0, .slice none 0 0])] :: [(b7, row 3 [.int .i64 c])] :: [(b6, row 3 [.int .i64 (n : Int)])] :: (D :: Ds).map (fun D => (D, dfO)) :: N')) _ _
        exact a_y (y_move rfl) fun w h => ⟨[], [], h, rfl⟩
      · intro s N' gN h0 hn0
        show Acts _ _ _ (K W (bxD 25 [.slice none 0 0, .slice none 0 0] (s 8) (s 9) :: [(b12, row 71 [q])] :: [(b11, row 3 [.int .i64 (u : Int)])] :: [(b10, row 25 [v1, v2])] :: [(b8, row 25 [.slice none 0 0, .slice none 0 0])] :: [(b7, row 3 [.int .i64 c])] :: [(b6, row 3 [.int .i64 (n : Int)])] :: (D :: Ds).map (fun D => (D, dfO)) :: N')) _ _
        exact a_y (y_load Try.tab rfl rfl (cell_row 2 rfl rfl)) fun w h => ⟨[], [], h, rfl⟩
      · rintro s N' gN h0 hn0 v1 d1 e1 rfl v2 d2 e2 rfl
        show Acts _ _ _ (K W (bxD 25 [.slice none 0 0, .slice none 0 0] (s 8) (s 9) :: [(b12, row 71 [q])] :: [(b11, row 3 [.int .i64 (u : Int)])] :: [(b10, row 25 [v1, v2])] :: [(b8, row 25 [.slice none 0 0, .slice none 0 0])] :: [(b7, row 3 [.int .i64 c])] :: [(b6, row 3 [.int .i64 (n : Int)])] :: (D :: Ds).map (fun D => (D, dfO)) :: N')) _ _
        haveI := gN.1
        haveI := gN.2.1
        haveI := gN.2.2.1
        exact a_call (en_f rfl Try.call52) (Spec.boxed (u := fun v => .agg #[v]) [bxD 25 [.slice none 0 0, .slice none 0 0] (s 8) (s 9), [(b12, row 71 [q])], [(b11, row 3 [.int .i64 (u : Int)])], [(b10, row 25 [v1, v2])], [(b8, row 25 [.slice none 0 0, .slice none 0 0])], [(b7, row 3 [.int .i64 c])], [(b6, row 3 [.int .i64 (n : Int)])], (D :: Ds).map (fun D => (D, dfO))] (by rw [boxes_bxD25]; exact boxes_mid (A := [_, _, _, _, _, _]) (Ds := D :: Ds) (F := []) rfl rfl) (hBn ▸ samples_spec (n := lot) (k := u) (by omega) (by omega))) fun r w h => ⟨[r.L], [], h, r.v, rfl, r.ok⟩
      · rintro s N' gN h0 hn0 v0 d0 e0 rfl v3 d3 e3 ⟨uz3, rfl, mz3⟩
        show Acts _ _ _ (K W (bxD 25 [.slice none 0 0, .slice none 0 0] (s 8) (s 9) :: [(b12, row 71 [q])] :: [(b11, row 3 [.int .i64 (u : Int)])] :: [(b10, row 25 [v1, v2])] :: [(b8, row 25 [.slice none 0 0, .slice none 0 0])] :: [(b7, row 3 [.int .i64 c])] :: [(b6, row 3 [.int .i64 (n : Int)])] :: (D :: Ds).map (fun D => (D, dfO)) :: N')) _ _
        haveI := gN.1
        haveI := gN.2.1
        haveI := gN.2.2.1
        haveI : NatV (K W N') uz3 (Bn) := mz3
        exact a_call (en_f rfl Try.call50) (Spec.boxed2 (u := fun v w => .tuple #[.agg #[v, w], .int .i64 0]) [bxD 25 [.slice none 0 0, .slice none 0 0] (s 8) (s 9), [(b12, row 71 [q])], [(b11, row 3 [.int .i64 (u : Int)])], [(b10, row 25 [v1, v2])], [(b8, row 25 [.slice none 0 0, .slice none 0 0])], [(b7, row 3 [.int .i64 c])], [(b6, row 3 [.int .i64 (n : Int)])], (D :: Ds).map (fun D => (D, dfO))] (by rw [boxes_bxD25]; exact boxes_mid (A := [_, _, _, _, _, _]) (Ds := D :: Ds) (F := []) rfl rfl) (newFrac_spec (x := O) (y := Bn) (by omega) (by omega) hnB)) fun r w h => ⟨[r.L], [], h, r.v1, r.v2, rfl, r.ok1, r.ok2⟩
      · rintro s N' gN h0 hn0 v4 d4 e4 ⟨uz4, wz4, rfl, mz4, lz4⟩
        show Acts _ _ _ (K W (bxD 25 [.slice none 0 0, .slice none 0 0] (s 8) (s 9) :: [(b12, row 71 [q])] :: [(b11, row 3 [.int .i64 (u : Int)])] :: [(b10, row 25 [v1, v2])] :: [(b8, row 25 [.slice none 0 0, .slice none 0 0])] :: [(b7, row 3 [.int .i64 c])] :: [(b6, row 3 [.int .i64 (n : Int)])] :: (D :: Ds).map (fun D => (D, dfO)) :: N')) _ _
        exact a_y (y_move rfl) fun w h => ⟨[], [], h, uz4, wz4, rfl, mz4, lz4⟩
      · rintro s N' gN h0 hn0 v5 d5 e5 ⟨uz5, wz5, rfl, mz5, lz5⟩
        show Acts _ _ _ (K W (bxD 25 [.slice none 0 0, .slice none 0 0] (s 8) (s 9) :: [(b12, row 71 [q])] :: [(b11, row 3 [.int .i64 (u : Int)])] :: [(b10, row 25 [v1, v2])] :: [(b8, row 25 [.slice none 0 0, .slice none 0 0])] :: [(b7, row 3 [.int .i64 c])] :: [(b6, row 3 [.int .i64 (n : Int)])] :: (D :: Ds).map (fun D => (D, dfO)) :: N')) _ _
        exact a_y (y_extract rfl rfl) fun w h => ⟨[], [], h, uz5, wz5, rfl, mz5, lz5⟩
      · rintro s N' gN h0 hn0 v5 d5 e5 ⟨uz5, wz5, rfl, mz5, lz5⟩
        show Acts _ _ _ (K W (bxD 25 [.slice none 0 0, .slice none 0 0] (s 8) (s 9) :: [(b12, row 71 [q])] :: [(b11, row 3 [.int .i64 (u : Int)])] :: [(b10, row 25 [v1, v2])] :: [(b8, row 25 [.slice none 0 0, .slice none 0 0])] :: [(b7, row 3 [.int .i64 c])] :: [(b6, row 3 [.int .i64 (n : Int)])] :: (D :: Ds).map (fun D => (D, dfO)) :: N')) _ _
        exact a_y (y_extract rfl rfl) fun w h => ⟨[], [], h, rfl⟩
      · intro s N' gN h0 hn0
        show Acts _ _ _ (K W (bxD 25 [.slice none 0 0, .slice none 0 0] (s 8) (s 9) :: [(b12, row 71 [q])] :: [(b11, row 3 [.int .i64 (u : Int)])] :: [(b10, row 25 [v1, v2])] :: [(b8, row 25 [.slice none 0 0, .slice none 0 0])] :: [(b7, row 3 [.int .i64 c])] :: [(b6, row 3 [.int .i64 (n : Int)])] :: (D :: Ds).map (fun D => (D, dfO)) :: N')) _ _
        have hz : s 9 = none := hn0 9 rfl
        have hy : s 8 = none := h0
        rw [hy, hz]
        show Acts _ _ _ (K W ([] :: [(b12, row 71 [q])] :: [(b11, row 3 [.int .i64 (u : Int)])] :: [(b10, row 25 [v1, v2])] :: [(b8, row 25 [.slice none 0 0, .slice none 0 0])] :: [(b7, row 3 [.int .i64 c])] :: [(b6, row 3 [.int .i64 (n : Int)])] :: (D :: Ds).map (fun D => (D, dfO)) :: N')) _ _
        exact a_do (do_alloc Try.tab rfl) fun bz w h => ⟨[], [], (by show K W (bxD 25 [.slice none 0 0, .slice none 0 0] (some (.pointer (some ⟨bz, 0, none⟩), [])) (s 9) :: [(b12, row 71 [q])] :: [(b11, row 3 [.int .i64 (u : Int)])] :: [(b10, row 25 [v1, v2])] :: [(b8, row 25 [.slice none 0 0, .slice none 0 0])] :: [(b7, row 3 [.int .i64 c])] :: [(b6, row 3 [.int .i64 (n : Int)])] :: (D :: Ds).map (fun D => (D, dfO)) :: N') w; rw [hz]; exact h.weak [] (by simp [bxD, Value.cells])), bz, rfl⟩
      · rintro s N' gN h0 hn0 v8 d8 e8 ⟨bz8, rfl⟩ v6 d6 e6 ⟨uz6, wz6, rfl, mz6, lz6⟩
        show Acts _ _ _ (K W (bxD 25 [.slice none 0 0, .slice none 0 0] (s 8) (s 9) :: [(b12, row 71 [q])] :: [(b11, row 3 [.int .i64 (u : Int)])] :: [(b10, row 25 [v1, v2])] :: [(b8, row 25 [.slice none 0 0, .slice none 0 0])] :: [(b7, row 3 [.int .i64 c])] :: [(b6, row 3 [.int .i64 (n : Int)])] :: (D :: Ds).map (fun D => (D, dfO)) :: N')) _ _
        have hy : s 9 = none := h0
        rw [e8, hy]
        show Acts _ _ _ (K W ([(bz8, row 25 [.slice none 0 0, .slice none 0 0])] :: [(b12, row 71 [q])] :: [(b11, row 3 [.int .i64 (u : Int)])] :: [(b10, row 25 [v1, v2])] :: [(b8, row 25 [.slice none 0 0, .slice none 0 0])] :: [(b7, row 3 [.int .i64 c])] :: [(b6, row 3 [.int .i64 (n : Int)])] :: (D :: Ds).map (fun D => (D, dfO)) :: N')) _ _
        haveI : NatV (K W N') uz6 (lwN (O) (Bn)) := mz6
        haveI : NatV (K W N') wz6 (lwD (O) (Bn) - 1) := lz6
        exact a_set (set_25 0 rfl rfl rfl rfl) fun w h => ⟨[], [(0, row 25 [uz6, wz6])], (by show K W (bxD 25 [.slice none 0 0, .slice none 0 0] (s 8) (some (undef, [(0, row 25 [uz6, wz6])])) :: [(b12, row 71 [q])] :: [(b11, row 3 [.int .i64 (u : Int)])] :: [(b10, row 25 [v1, v2])] :: [(b8, row 25 [.slice none 0 0, .slice none 0 0])] :: [(b7, row 3 [.int .i64 c])] :: [(b6, row 3 [.int .i64 (n : Int)])] :: (D :: Ds).map (fun D => (D, dfO)) :: N') w; rw [e8]; exact h), uz6, wz6, rfl, mz6, lz6⟩
      · rintro s N' gN h0 hn0 v7 d7 e7 rfl
        show Acts _ _ _ (K W (bxD 25 [.slice none 0 0, .slice none 0 0] (s 8) (s 9) :: [(b12, row 71 [q])] :: [(b11, row 3 [.int .i64 (u : Int)])] :: [(b10, row 25 [v1, v2])] :: [(b8, row 25 [.slice none 0 0, .slice none 0 0])] :: [(b7, row 3 [.int .i64 c])] :: [(b6, row 3 [.int .i64 (n : Int)])] :: (D :: Ds).map (fun D => (D, dfO)) :: N')) _ _
        exact a_y (y_assign rfl) fun w h => ⟨[], [], h, rfl⟩
      · intro s N' gN hall v8 d8 e8 f8 v10 d10 e10 f10
        obtain ⟨v, z, u15, w15, hv, m15, l15⟩ := hall 9 (by decide)
        obtain ⟨b15, rfl⟩ := f8
        subst f10
        obtain ⟨g0, g1, g2, M13, hM⟩ := gN
        subst hM
        show Fin _ _ _ _ (K W (bxD 25 [.slice none 0 0, .slice none 0 0] (s 8) (s 9) :: [(b12, row 71 [q])] :: [(b11, row 3 [.int .i64 (u : Int)])] :: [(b10, row 25 [v1, v2])] :: [(b8, row 25 [.slice none 0 0, .slice none 0 0])] :: [(b7, row 3 [.int .i64 c])] :: [(b6, row 3 [.int .i64 (n : Int)])] :: (D :: Ds).map (fun D => (D, dfO)) :: (M13 ++ N)))
        rw [z, e8]
        obtain ⟨v9, c9⟩ := v
        dsimp only at hv
        subst hv
        clear z hall
        show Fin _ _ _ _ (K W ([(b15, row 25 [u15, w15])] :: [(b12, row 71 [q])] :: [(b11, row 3 [.int .i64 (u : Int)])] :: [(b10, row 25 [v1, v2])] :: [(b8, row 25 [.slice none 0 0, .slice none 0 0])] :: [(b7, row 3 [.int .i64 c])] :: [(b6, row 3 [.int .i64 (n : Int)])] :: (D :: Ds).map (fun D => (D, dfO)) :: (M13 ++ N)))
        haveI := g0
        haveI := g1
        haveI := g2
        haveI := m15
        haveI := l15
        refine f_then ?_
        refine c_region ?_
        refine s_y (y_loadA Try.tab rfl rfl rfl rfl (cells_row0 3 rfl rfl)) rfl rfl rfl ?_
        refine s_y (y_loadA Try.tab rfl rfl rfl rfl (cells_row0 0 rfl rfl)) rfl rfl rfl ?_
        refine s_call (en_f rfl Try.call39) (Spec.boxed2 (u := fun v w => .tuple #[.agg #[v, w], .int .i64 0]) [[(b15, row 25 [u15, w15])], [(b12, row 71 [q])], [(b11, row 3 [.int .i64 (u : Int)])], [(b10, row 25 [v1, v2])], [(b8, row 25 [.slice none 0 0, .slice none 0 0])], [(b7, row 3 [.int .i64 c])], [(b6, row 3 [.int .i64 (n : Int)])], (D :: Ds).map (fun D => (D, dfO))] (boxes_mid (A := [_, _, _, _, _, _, _]) (Ds := D :: Ds) (F := []) rfl rfl) (fadd2_spec (p := P) (q := Q) (r := O) (s := Bn) wP wQ wO wB hnQ hnB (sum_lt (a := t) (e := 16384) y1 y2 (by omega)) (fit_lt (a := t) (e := 16384) y3 (by omega)))) rfl rfl rfl (fun r8 => ?_)
        refine s_y (y_move rfl) rfl rfl rfl ?_
        refine s_y (y_extract rfl rfl) rfl rfl rfl ?_
        refine s_y (y_extract rfl rfl) rfl rfl rfl ?_
        refine s_set (set_25 3 rfl rfl rfl rfl) rfl rfl ?_
        refine s_nil ?_
        refine f_blockN ?_
        refine f_then ?_
        refine c_region ?_
        refine s_y (y_add rfl rfl (by omega)) rfl rfl rfl ?_
        refine s_y (y_move rfl) rfl rfl rfl ?_
        refine s_nil ?_
        have k1 : NatV (K W ((r8.L :: M13) ++ N)) r8.v1 (lwN (expF lot bad n c (u + 1)).1 (expF lot bad n c (u + 1)).2) := r8.ok1.of (by rw [hP, hQ, hO, hBn]; rfl)
        have k2 : NatV (K W ((r8.L :: M13) ++ N)) r8.v2 (lwD (expF lot bad n c (u + 1)).1 (expF lot bad n c (u + 1)).2 - 1) := r8.ok2.of (by rw [hP, hQ, hO, hBn]; rfl)
        exact f_roundP (d, u + 1, D :: Ds, r8.v1, r8.v2, r8.L :: M13) ⟨by dsimp only; omega, k1, k2⟩ (by dsimp only; omega) ⟨rfl, rfl, rfl, rfl, rfl, rfl, rfl, rfl, rfl, congrArg (fun z => some (Value.int .i64 z)) (by dsimp only; omega), trivial⟩ (fun w h => h.tail.tail.tail.front 4)
    · obtain ⟨⟨q, M, j⟩, hq, hj0⟩ := x
      dsimp only at hq hj0 hj
      rw [hj0] at hj
      cases hj
end Go.KL
end

section
/- The law of the expected effort, plain. No program in sight. -/
namespace Go.KL
def opz (g b n u : Nat) (c : Int) (i : Nat) : Nat := if (i : Int) ≤ c ∧ (u : Int) - i < n - c then tmz g b u i else 0
theorem opz_zero {g b n u i : Nat} {c : Int} (h : tmz g b u i = 0) : opz g b n u c i = 0 := by
  unfold opz
  split
  · exact h
  · rfl
theorem opn_z {lot bad n u : Nat} {c : Int} (h1 : bad ≤ lot) (h2 : u ≤ lot) : opn lot bad n c u = psum (opz (lot - bad) bad n u c) 0 (u + 1) := by
  obtain ⟨g, hg⟩ : ∃ g, g = lot - bad := ⟨_, rfl⟩
  obtain ⟨lo, hlo⟩ : ∃ lo, lo = u - g := ⟨_, rfl⟩
  unfold opn
  rw [← hg, ← hlo, show psum (opz g bad n u c) 0 (u + 1) = psum (opz g bad n u c) 0 (lo + ((min u bad + 1 - lo) + (u - min u bad))) by rw [show lo + ((min u bad + 1 - lo) + (u - min u bad)) = u + 1 by omega], psum_split, psum_zero (d := lo), Nat.zero_add, Nat.zero_add, psum_split, psum_zero (d := u - min u bad), Nat.add_zero]
  · refine psum_congr fun j hj => ?_
    unfold opnT opz
    rw [tmz_tm (by omega)]
  · intro j hj
    exact opz_zero (tmz_bad (by omega))
  · intro j hj
    exact opz_zero (tmz_good (by omega))
theorem open_term {g b n u i : Nat} {c : Int} : (u + 1) * opz (g + 1) (b + 1) (n + 1) (u + 1) c (i + 1) = (b + 1) * opz (g + 1) b n u (c - 1) i + (g + 1) * opz g (b + 1) n u c (i + 1) := by
  unfold opz
  by_cases h : ((i + 1 : Nat) : Int) ≤ c ∧ ((u + 1 : Nat) : Int) - ((i + 1 : Nat) : Int) < ((n + 1 : Nat) : Int) - c
  · rw [if_pos h, if_pos (by omega), if_pos (by omega), first_term]
  · rw [if_neg h, if_neg (by omega), if_neg (by omega), Nat.mul_zero, Nat.mul_zero, Nat.mul_zero]
theorem open_term0 {g b n u : Nat} {c : Int} : (u + 1) * opz (g + 1) (b + 1) (n + 1) (u + 1) c 0 = (g + 1) * opz g (b + 1) n u c 0 := by
  unfold opz
  by_cases h : ((0 : Nat) : Int) ≤ c ∧ ((u + 1 : Nat) : Int) - ((0 : Nat) : Int) < ((n + 1 : Nat) : Int) - c
  · rw [if_pos h, if_pos (by omega), first_term0]
  · rw [if_neg h, if_neg (by omega), Nat.mul_zero, Nat.mul_zero]
theorem open_first {g b n u : Nat} {c : Int} : (u + 1) * psum (opz (g + 1) (b + 1) (n + 1) (u + 1) c) 0 (u + 2) = (b + 1) * psum (opz (g + 1) b n u (c - 1)) 0 (u + 1) + (g + 1) * psum (opz g (b + 1) n u c) 0 (u + 1) := by
  have hz : psum (opz g (b + 1) n u c) 0 (u + 2) = psum (opz g (b + 1) n u c) 0 (u + 1) := by
    rw [psum, Nat.zero_add, opz_zero, Nat.add_zero]
    rw [tmz, if_neg (by omega)]
  rw [← hz, psum_shift (T := opz (g + 1) (b + 1) (n + 1) (u + 1) c), psum_shift (T := opz g (b + 1) n u c), Nat.mul_add, Nat.mul_add, open_term0, ← psum_mul, ← psum_mul, ← psum_mul, psum_congr (T' := fun i => (b + 1) * opz (g + 1) b n u (c - 1) i + (g + 1) * opz g (b + 1) n u c (i + 1)) fun j _ => open_term, psum_add]
  omega
theorem opn_first {L B n u : Nat} {c : Int} (h1 : B + 1 ≤ L) (h2 : u ≤ L) : (u + 1) * opn (L + 1) (B + 1) (n + 1) c (u + 1) = (B + 1) * opn L B n (c - 1) u + (L - B) * opn L (B + 1) n c u := by
  obtain ⟨g, hg⟩ : ∃ g, L = B + 1 + g := ⟨L - B - 1, by omega⟩
  subst hg
  rw [opn_z (by omega) (by omega), opn_z (by omega) h2, opn_z h1 h2, show B + 1 + g + 1 - (B + 1) = g + 1 by omega, show B + 1 + g - B = g + 1 by omega, show B + 1 + g - (B + 1) = g by omega]
  exact open_first
theorem exp_den {lot bad bad' n n' : Nat} {c c' : Int} : ∀ u, (expF lot bad n c u).2 = (expF lot bad' n' c' u).2
  | 0 => rfl
  | u + 1 => by
    show (expF lot bad n c u).2 * _ = (expF lot bad' n' c' u).2 * _
    rw [exp_den u]
theorem step_alg {l R P Q a P1 b P2 Bn bn O o1 o2 k : Nat} (h : l * R * P = Q * (l * R + a * P1 + b * P2)) (h1 : k * O = a * o1 + b * o2) (h2 : Bn * k = bn * l) :
    k * (l * (R * bn) * (P * Bn + O * Q)) = k * (Q * Bn * (l * (R * bn) + a * (P1 * bn + o1 * R) + b * (P2 * bn + o2 * R))) := by
  have e1 : k * (l * (R * bn) * (P * Bn + O * Q)) = k * bn * Bn * (l * R * P) + (k * O) * (bn * l) * R * Q := by
    simp only [Nat.mul_add, Nat.mul_comm, Nat.mul_left_comm]
  have e2 : k * (Q * Bn * (l * (R * bn) + a * (P1 * bn + o1 * R) + b * (P2 * bn + o2 * R))) = k * bn * Bn * (Q * (l * R + a * P1 + b * P2)) + (a * o1 + b * o2) * (Bn * k) * R * Q := by
    simp only [Nat.mul_add, Nat.mul_comm, Nat.mul_left_comm]
    omega
  rw [e1, e2, h, h1, h2]
/-- One piece, and what comes after a bad or a good one. -/
theorem exp_first {L B n : Nat} {c : Int} (h1 : B + 1 ≤ L) (h0 : 0 ≤ c) (hc : c ≤ n) : ∀ {u : Nat}, u ≤ L → (L + 1) * (expF L B n (c - 1) u).2 * (expF (L + 1) (B + 1) (n + 1) c (u + 1)).1 =
    (expF (L + 1) (B + 1) (n + 1) c (u + 1)).2 * ((L + 1) * (expF L B n (c - 1) u).2 + (B + 1) * (expF L B n (c - 1) u).1 + (L - B) * (expF L (B + 1) n c u).1)
  | 0, _ => by
    have e : ∀ k, bino k 0 = 1 := fun k => by unfold bino; rfl
    have ho : opn (L + 1) (B + 1) (n + 1) c 0 = 1 := by
      rw [opn_z (by omega) (Nat.zero_le _), psum, psum, Nat.zero_add, opz, if_pos (by omega), tmz, if_pos (by omega), e, e]
    show (L + 1) * 1 * (0 * bino (L + 1) 0 + opn (L + 1) (B + 1) (n + 1) c 0 * 1) = 1 * bino (L + 1) 0 * ((L + 1) * 1 + (B + 1) * 0 + (L - B) * 0)
    rw [ho, e]
    omega
  | u + 1, h => by
    have ih := exp_first h1 h0 hc (u := u) (by omega)
    have ho := opn_first (n := n) (c := c) (u := u) h1 (by omega)
    have hb : bino (L + 1) (u + 1) * (u + 1) = bino L u * (L + 1) := bino_succ L u
    have hd : (expF L (B + 1) n c u).2 = (expF L B n (c - 1) u).2 := exp_den u
    have key := step_alg ih ho hb
    rw [← hd] at key
    refine Nat.eq_of_mul_eq_mul_left (Nat.succ_pos u) ?_
    have e1 : (expF L B n (c - 1) (u + 1)).2 = (expF L (B + 1) n c u).2 * bino L u := by
      show (expF L B n (c - 1) u).2 * _ = _
      rw [hd]
    have e2 : (expF L B n (c - 1) (u + 1)).1 = (expF L B n (c - 1) u).1 * bino L u + opn L B n (c - 1) u * (expF L (B + 1) n c u).2 := by
      show (expF L B n (c - 1) u).1 * _ + _ * (expF L B n (c - 1) u).2 = _
      rw [hd]
    rw [e1, e2]
    exact key
theorem next_cross {lR P Q a b : Nat} (h : lR * P = Q * (lR + a + b)) : ((a * lR + b * lR) * 1 + 1 * (lR * lR)) * Q = P * (lR * lR * 1) := by
  have e1 : ((a * lR + b * lR) * 1 + 1 * (lR * lR)) * Q = lR * (Q * (lR + a + b)) := by
    simp only [Nat.mul_one, Nat.mul_add, Nat.mul_comm, Nat.mul_left_comm]
    omega
  rw [e1, ← h]
  simp only [Nat.mul_one, Nat.mul_comm, Nat.mul_left_comm]
end Go.KL
end

section
/- The law of the expected effort where all pieces are good, or bad; plain. No program in sight. -/
namespace Go.KL
theorem bino_0 (k : Nat) : bino k 0 = 1 := by unfold bino; rfl
theorem bino_z (k : Nat) : bino 0 (k + 1) = 0 := by unfold bino; rfl
theorem bino_mul (n k : Nat) : (k + 1) * bino (n + 1) (k + 1) = (n + 1) * bino n k := by
  have := bino_succ n k
  rw [Nat.mul_comm, this, Nat.mul_comm]
theorem opn_good {L n u : Nat} {c : Int} (h : u ≤ L) : (u + 1) * opn (L + 1) 0 (n + 1) c (u + 1) = (L + 1) * opn L 0 n c u := by
  have e : ∀ (G N U : Nat), psum (opz G 0 N U c) 0 (U + 1) = if 0 ≤ c ∧ (U : Int) < N - c then bino G U else 0 := by
    intro G N U
    rw [psum_shift, psum_zero (T := fun i => opz G 0 N U c (i + 1)) fun j _ => opz_zero (tmz_bad (by omega)), Nat.add_zero]
    unfold opz
    by_cases hc : 0 ≤ c ∧ (U : Int) < N - c
    · rw [if_pos (by omega), if_pos hc, tmz, if_pos (Nat.zero_le _), bino_0, Nat.one_mul]
      rfl
    · rw [if_neg (by omega), if_neg hc]
  rw [opn_z (Nat.zero_le _) (by omega), opn_z (Nat.zero_le _) h, e, e]
  by_cases hc : 0 ≤ c ∧ (u : Int) < n - c
  · rw [if_pos (by omega), if_pos hc]
    exact bino_mul L u
  · rw [if_neg (by omega), if_neg hc, Nat.mul_zero, Nat.mul_zero]
theorem opn_bad {L n u : Nat} {c : Int} (h : u ≤ L) : (u + 1) * opn (L + 1) (L + 1) (n + 1) c (u + 1) = (L + 1) * opn L L n (c - 1) u := by
  have e : ∀ (Bd N U : Nat) (c : Int), psum (opz 0 Bd N U c) 0 (U + 1) = if (U : Int) ≤ c ∧ 0 < (N : Int) - c then bino Bd U else 0 := by
    intro Bd N U c
    rw [psum, psum_zero fun j hj => opz_zero (tmz_good (by omega)), Nat.zero_add, Nat.zero_add]
    unfold opz
    by_cases hc : (U : Int) ≤ c ∧ 0 < (N : Int) - c
    · rw [if_pos (by omega), if_pos hc, tmz, if_pos (Nat.le_refl _), Nat.sub_self, bino_0, Nat.mul_one]
    · rw [if_neg (by omega), if_neg hc]
  rw [opn_z (Nat.le_refl _) (by omega), opn_z (Nat.le_refl _) h, Nat.sub_self, Nat.sub_self, e, e]
  by_cases hc : (u : Int) ≤ c - 1 ∧ 0 < (n : Int) - (c - 1)
  · rw [if_pos (by omega), if_pos hc]
    exact bino_mul L u
  · rw [if_neg (by omega), if_neg hc, Nat.mul_zero, Nat.mul_zero]
theorem exp_first1 {L B B' n : Nat} {c c' : Int} (h0 : 0 ≤ c) (hc : c ≤ n) (hB : B ≤ L + 1) (ho : ∀ u, u ≤ L → (u + 1) * opn (L + 1) B (n + 1) c (u + 1) = (L + 1) * opn L B' n c' u) : ∀ {u : Nat}, u ≤ L → (L + 1) * (expF L B' n c' u).2 * (expF (L + 1) B (n + 1) c (u + 1)).1 =
    (expF (L + 1) B (n + 1) c (u + 1)).2 * ((L + 1) * (expF L B' n c' u).2 + (L + 1) * (expF L B' n c' u).1)
  | 0, _ => by
    have h1 : opn (L + 1) B (n + 1) c 0 = 1 := by
      rw [opn_z hB (Nat.zero_le _), psum, psum, Nat.zero_add, opz, if_pos (by omega), tmz, if_pos (by omega), bino_0, bino_0]
    show (L + 1) * 1 * (0 * bino (L + 1) 0 + opn (L + 1) B (n + 1) c 0 * 1) = 1 * bino (L + 1) 0 * ((L + 1) * 1 + (L + 1) * 0)
    rw [h1, bino_0]
    omega
  | u + 1, h => by
    have ih := exp_first1 h0 hc hB ho (u := u) (by omega)
    have h1 := ho u (by omega)
    have hb : bino (L + 1) (u + 1) * (u + 1) = bino L u * (L + 1) := bino_succ L u
    have key := step_alg (l := L + 1) (R := (expF L B' n c' u).2) (P := (expF (L + 1) B (n + 1) c (u + 1)).1) (Q := (expF (L + 1) B (n + 1) c (u + 1)).2) (a := L + 1) (P1 := (expF L B' n c' u).1) (b := 0) (P2 := 0) (k := u + 1) (O := opn (L + 1) B (n + 1) c (u + 1)) (o1 := opn L B' n c' u) (o2 := 0) (by rw [Nat.zero_mul, Nat.add_zero]; exact ih) (by rw [Nat.zero_mul, Nat.add_zero]; exact h1) hb
    refine Nat.eq_of_mul_eq_mul_left (Nat.succ_pos u) ?_
    rw [Nat.zero_mul, Nat.add_zero] at key
    exact key
theorem exp_good {L n u : Nat} {c : Int} (h0 : 0 ≤ c) (hc : c ≤ n) (h : u ≤ L) : (L + 1) * (expF L 0 n c u).2 * (expF (L + 1) 0 (n + 1) c (u + 1)).1 = (expF (L + 1) 0 (n + 1) c (u + 1)).2 * ((L + 1) * (expF L 0 n c u).2 + (L + 1) * (expF L 0 n c u).1) :=
  exp_first1 h0 hc (Nat.zero_le _) (fun _ h => opn_good h) h
theorem exp_bad {L n u : Nat} {c : Int} (h0 : 0 ≤ c) (hc : c ≤ n) (h : u ≤ L) : (L + 1) * (expF L L n (c - 1) u).2 * (expF (L + 1) (L + 1) (n + 1) c (u + 1)).1 = (expF (L + 1) (L + 1) (n + 1) c (u + 1)).2 * ((L + 1) * (expF L L n (c - 1) u).2 + (L + 1) * (expF L L n (c - 1) u).1) :=
  exp_first1 h0 hc (Nat.le_refl _) (fun _ h => opn_bad h) h
/-- Closed from the first on. -/
theorem exp_closed {lot bad n : Nat} {c : Int} (h : bad ≤ lot) (hc : c < 0 ∨ (n : Int) ≤ c) : ∀ {u : Nat}, u ≤ lot + 1 → (expF lot bad n c u).1 = 0
  | 0, _ => rfl
  | u + 1, hu => by
    have ih := exp_closed h hc (u := u) (by omega)
    have ho : opn lot bad n c u = 0 := by
      rw [opn_z h (by omega)]
      refine psum_zero fun j hj => ?_
      rw [Nat.zero_add, opz, if_neg (by omega)]
    show (expF lot bad n c u).1 * _ + opn lot bad n c u * _ = 0
    rw [ih, ho, Nat.zero_mul, Nat.zero_mul]
end Go.KL
end

section
/- Walks: the reference's Expect. -/
namespace Go.KL
open Go.Proofs
theorem rwl_exp {lot bad n u : Nat} {c : Int} (h1 : bad ≤ lot) (h2 : lot ≤ 60) (h3 : u ≤ 60) : KR.wl (expF lot bad n c u).1 ≤ 300 ∧ KR.wl (expF lot bad n c u).2 ≤ 300 := by
  obtain ⟨e, he⟩ : ∃ e, e = 60 := ⟨_, rfl⟩
  have h := exp_le (n := n) (c := c) h1 (show lot ≤ e by omega) h2 u
  have a1 : (7 + e) * u ≤ (7 + e) * 60 := Nat.mul_le_mul_left _ h3
  have a2 : e * u ≤ e * 60 := Nat.mul_le_mul_left _ h3
  obtain ⟨f, hf⟩ : ∃ f, f = 300 := ⟨_, rfl⟩
  rw [← hf, KR.wl_le, KR.wl_le, KR.B_two]
  exact ⟨Nat.lt_of_le_of_lt h.1 (Nat.pow_lt_pow_right (by decide) (by omega)), Nat.lt_of_le_of_lt h.2 (Nat.pow_lt_pow_right (by decide) (by omega))⟩
theorem sum_cross {l R P Q a b P1 P2 : Nat} (h : l * R * P = Q * (l * R + a * P1 + b * P2)) : ((1 * (l * R) + a * P1 * 1) * (l * R) + b * P2 * (1 * (l * R))) * Q = P * (1 * (l * R) * (l * R)) := by
  have e1 : ((1 * (l * R) + a * P1 * 1) * (l * R) + b * P2 * (1 * (l * R))) * Q = l * R * (Q * (l * R + a * P1 + b * P2)) := by
    rw [Nat.one_mul, Nat.mul_one]
    generalize l * R = x
    generalize a * P1 = y
    generalize b * P2 = z
    rw [← Nat.add_mul, Nat.mul_comm (x + y + z) x, Nat.mul_assoc, Nat.mul_comm (x + y + z) Q]
  rw [e1, ← h, Nat.one_mul, Nat.mul_comm P, Nat.mul_assoc (l * R)]
theorem sum_cross1 {l R P Q P1 : Nat} (h : l * R * P = Q * (l * R + l * P1)) : (1 * (l * R) + l * P1 * 1) * Q = P * (1 * (l * R)) := by
  rw [Nat.one_mul, Nat.mul_one, Nat.mul_comm, ← h, Nat.mul_comm]
attribute [local irreducible] SC St Fin Sq Ylds Doos Sets Enters Spec CellIs CellsAre Then Ret Rnd Chn resOK ints bools recs arr
theorem rfmul2_spec {W : World} {N : List Chunk} {a b c d : Value} {p q r s : Nat} [ha : NumV (K W N) a (lwN p q)] [hb : NumV (K W N) b (lwD p q)] [hc : NumV (K W N) c (lwN r s)] [hd : NumV (K W N) d (lwD r s)] (hp : KR.wl p ≤ 20000) (hq : KR.wl q ≤ 20000) (hr : KR.wl r ≤ 20000) (hs : KR.wl s ≤ 20000) (hq0 : q ≠ 0) (hs0 : s ≠ 0) :
    Spec Try.prog 76 #[.agg #[a, b], .agg #[c, d]] (K W N) (X := NFr2 W (lwN (p * r) (q * s)) (lwD (p * r) (q * s))) (fun r => .agg #[r.v1, r.v2]) (fun r => K W (r.L :: N)) := by
  have h1 := rwl_lw hp hq
  have h2 := rwl_lw hr hs
  have h := rfmul_spec (W := W) (N := N) (a := a) (b := b) (c := c) (d := d) h1.1 h1.2 h2.1 h2.2 (Nat.mul_ne_zero (Nat.pos_iff_ne_zero.1 (lwD_pos hq0)) (Nat.pos_iff_ne_zero.1 (lwD_pos hs0)))
  rw [(lw_mul hq0 hs0).1, (lw_mul hq0 hs0).2] at h
  exact h
theorem rfadd2_spec {W : World} {N : List Chunk} {a b c d : Value} {p q r s : Nat} [ha : NumV (K W N) a (lwN p q)] [hb : NumV (K W N) b (lwD p q)] [hc : NumV (K W N) c (lwN r s)] [hd : NumV (K W N) d (lwD r s)] (hp : KR.wl p ≤ 20000) (hq : KR.wl q ≤ 20000) (hr : KR.wl r ≤ 20000) (hs : KR.wl s ≤ 20000) (hq0 : q ≠ 0) (hs0 : s ≠ 0) :
    Spec Try.prog 75 #[.agg #[a, b], .agg #[c, d]] (K W N) (X := NFr2 W (lwN (p * s + r * q) (q * s)) (lwD (p * s + r * q) (q * s))) (fun r => .agg #[r.v1, r.v2]) (fun r => K W (r.L :: N)) := by
  have h1 := rwl_lw hp hq
  have h2 := rwl_lw hr hs
  have h := rfadd_spec (W := W) (N := N) (a := a) (b := b) (c := c) (d := d) h1.1 h1.2 h2.1 h2.2 (Nat.mul_ne_zero (Nat.pos_iff_ne_zero.1 (lwD_pos hq0)) (Nat.pos_iff_ne_zero.1 (lwD_pos hs0)))
  rw [(lw_add hq0 hs0).1, (lw_add hq0 hs0).2] at h
  exact h
theorem spec_cast {W : World} {N : List Chunk} {f : FuncId} {args : Array Value} {C : World → Prop} {a b a' b' : Nat} (h : Spec Try.prog f args C (X := NFr2 W (lwN a b) (lwD a b)) (fun r => .agg #[r.v1, r.v2]) (fun r => K W (r.L :: N))) (ha : a = a') (hb : b = b') : Spec Try.prog f args C (X := NFr2 W (lwN a' b') (lwD a' b')) (fun r => .agg #[r.v1, r.v2]) (fun r => K W (r.L :: N)) := by
  subst ha hb
  exact h
theorem num1_spec {W : World} {N : List Chunk} : Spec Try.prog 74 #[.int .i64 1] (K W N) (X := NFr W 1) (fun r => r.v) (fun r => K W (r.L :: N)) := num_spec (x := 1) (by omega)
set_option maxRecDepth 10000 in
set_option maxHeartbeats 16000000 in
theorem rexp_zero {W : World} {N : List Chunk} {lot bad n g b : Nat} {c : Int} (h0 : 0 ≤ c) (hc2 : c < 9223372036854775808) (hn : n ≤ 60) (hcl : (n : Int) - c ≤ g ∨ c < b) :
    Spec Try.prog 41 #[.int .i64 (lot : Int), .int .i64 (bad : Int), .int .i64 (n : Int), .int .i64 c, .int .i64 (g : Int), .int .i64 (b : Int)] (K W N) (X := NFr2 W 0 1) (fun r => .agg #[r.v1, r.v2]) (fun r => K W (r.L :: N)) := by
  refine enter (args := [_, _, _, _, _, _]) Try.func41 rfl Try.ntmps41 rfl ?_
  refine c_seq ?_
  refine c_region ?_
  refine s_do (do_alloc Try.tab rfl) rfl rfl rfl (fun b12 => ?_)
  refine s_nil ?_
  refine f_then ?_
  refine c_seq ?_
  refine c_region ?_
  refine s_call (en_f rfl Try.call74) num1_spec rfl rfl rfl (fun r0 => ?_)
  by_cases h1 : (n : Int) - c ≤ g
  · refine s_y (y_build34 rfl rfl) rfl rfl rfl ?_
    refine s_do (do_alloc Try.tab rfl) rfl rfl rfl (fun b13 => ?_)
    refine s_set (set_34 0 rfl rfl rfl rfl) rfl rfl ?_
    refine s_nil ?_
    refine f_then ?_
    refine c_seq ?_
    refine c_seq ?_
    refine c_region ?_
    refine s_y (y_move rfl) rfl rfl rfl ?_
    refine s_y (y_move rfl) rfl rfl rfl ?_
    refine s_y (y_move rfl) rfl rfl rfl ?_
    refine s_y (y_sub rfl rfl (by omega)) rfl rfl rfl ?_
    refine s_y (y_T (y_geq rfl rfl) (by assumption)) rfl rfl rfl ?_
    refine s_y (y_move rfl) rfl rfl rfl ?_
    iterate 3 refine s_skip rfl rfl rfl ?_
    refine s_y (y_pickT rfl rfl) rfl rfl rfl ?_
    refine s_nil ?_
    refine f_then ?_
    refine c_condT rfl ?_
    refine c_seq ?_
    refine c_region ?_
    refine s_y (y_loadA Try.tab rfl rfl rfl rfl (cells_row0 0 rfl rfl)) rfl rfl rfl ?_
    refine s_set (set_34 2 rfl rfl rfl rfl) rfl rfl ?_
    refine s_nil ?_
    refine f_then ?_
    refine c_ret ?_
    refine f_thenR ?_
    exact f_ret ⟨r0.L, _, _, NumV.nilI, r0.ok⟩ (resA Try.tab rfl rfl rfl rfl rfl (cells_row0 2 rfl rfl)) (fun w h => (K.dropAt 2 h).tail)
  · have h2 : c < b := by omega
    refine s_y (y_build34 rfl rfl) rfl rfl rfl ?_
    refine s_do (do_alloc Try.tab rfl) rfl rfl rfl (fun b13 => ?_)
    refine s_set (set_34 0 rfl rfl rfl rfl) rfl rfl ?_
    refine s_nil ?_
    refine f_then ?_
    refine c_seq ?_
    refine c_seq ?_
    refine c_region ?_
    refine s_y (y_move rfl) rfl rfl rfl ?_
    refine s_y (y_move rfl) rfl rfl rfl ?_
    refine s_y (y_move rfl) rfl rfl rfl ?_
    refine s_y (y_sub rfl rfl (by omega)) rfl rfl rfl ?_
    refine s_y (y_F (y_geq rfl rfl) (by assumption)) rfl rfl rfl ?_
    refine s_y (y_move rfl) rfl rfl rfl ?_
    refine s_y (y_move rfl) rfl rfl rfl ?_
    refine s_y (y_move rfl) rfl rfl rfl ?_
    refine s_y (y_T (y_gtr rfl rfl) (by assumption)) rfl rfl rfl ?_
    refine s_y (y_pickF rfl rfl) rfl rfl rfl ?_
    refine s_nil ?_
    refine f_then ?_
    refine c_condT rfl ?_
    refine c_seq ?_
    refine c_region ?_
    refine s_y (y_loadA Try.tab rfl rfl rfl rfl (cells_row0 0 rfl rfl)) rfl rfl rfl ?_
    refine s_set (set_34 2 rfl rfl rfl rfl) rfl rfl ?_
    refine s_nil ?_
    refine f_then ?_
    refine c_ret ?_
    refine f_thenR ?_
    exact f_ret ⟨r0.L, _, _, NumV.nilI, r0.ok⟩ (resA Try.tab rfl rfl rfl rfl rfl (cells_row0 2 rfl rfl)) (fun w h => (K.dropAt 2 h).tail)
set_option maxRecDepth 10000 in
set_option maxHeartbeats 16000000 in
theorem rexp_spec : ∀ (m : Nat) {W : World} {N : List Chunk} {lot bad n g b : Nat} {c : Int} (_ : lot ≤ 60) (_ : bad ≤ lot) (_ : n ≤ lot) (_ : b ≤ bad) (_ : g ≤ lot - bad) (_ : g + b + m = n) (_ : 0 ≤ c) (_ : c < 9223372036854775808),
    Spec Try.prog 41 #[.int .i64 (lot : Int), .int .i64 (bad : Int), .int .i64 (n : Int), .int .i64 c, .int .i64 (g : Int), .int .i64 (b : Int)] (K W N) (X := NFr2 W (lwN (expF (lot - g - b) (bad - b) m (c - b) m).1 (expF (lot - g - b) (bad - b) m (c - b) m).2) (lwD (expF (lot - g - b) (bad - b) m (c - b) m).1 (expF (lot - g - b) (bad - b) m (c - b) m).2)) (fun r => .agg #[r.v1, r.v2]) (fun r => K W (r.L :: N)) := by
  intro m
  have closed : ∀ {W : World} {N : List Chunk} {lot bad n g b m : Nat} {c : Int} (_ : lot ≤ 60) (_ : bad ≤ lot) (_ : n ≤ lot) (_ : b ≤ bad) (_ : g ≤ lot - bad) (_ : g + b + m = n) (_ : 0 ≤ c) (_ : c < 9223372036854775808) (_ : (n : Int) - c ≤ g ∨ c < b),
      Spec Try.prog 41 #[.int .i64 (lot : Int), .int .i64 (bad : Int), .int .i64 (n : Int), .int .i64 c, .int .i64 (g : Int), .int .i64 (b : Int)] (K W N) (X := NFr2 W (lwN (expF (lot - g - b) (bad - b) m (c - b) m).1 (expF (lot - g - b) (bad - b) m (c - b) m).2) (lwD (expF (lot - g - b) (bad - b) m (c - b) m).1 (expF (lot - g - b) (bad - b) m (c - b) m).2)) (fun r => .agg #[r.v1, r.v2]) (fun r => K W (r.L :: N)) := by
    intro W N lot bad n g b m c h1 h2 h3 hb hg hm h0 hc2 hcl
    have hz := exp_closed (lot := lot - g - b) (bad := bad - b) (n := m) (c := c - b) (by omega) (by omega) (u := m) (by omega)
    have hnz := exp_nz (lot := lot - g - b) (bad := bad - b) (n := m) (c := c - b) (u := m) (by omega)
    have h := rexp_zero (W := W) (N := N) (lot := lot) (bad := bad) h0 hc2 (show n ≤ 60 by omega) hcl
    rw [hz, (lw_zero hnz).1, (lw_zero hnz).2]
    exact h
  induction m with
  | zero =>
    intro W N lot bad n g b c h1 h2 h3 hb hg hm h0 hc2
    exact closed h1 h2 h3 hb hg hm h0 hc2 (by omega)
  | succ k ih =>
    intro W N lot bad n g b c h1 h2 h3 hb hg hm h0 hc2
    by_cases hcl : (n : Int) - c ≤ g ∨ c < b
    · exact closed h1 h2 h3 hb hg hm h0 hc2 hcl
    clear closed
    have c1 : ¬ (n : Int) - c ≤ g := by omega
    have c2 : ¬ c < b := by omega
    obtain ⟨L, hL⟩ : ∃ L, lot - g - b = L + 1 := ⟨lot - g - b - 1, by omega⟩
    have hLi : (lot : Int) - (g : Int) - (b : Int) = ((L + 1 : Nat) : Int) := by omega
    have wL := KR.wl_int (x := L + 1) (by omega)
    have w1 := KR.wl_int (x := 1) (by omega)
    rw [hL]
    have hQ0 := exp_nz (lot := L + 1) (bad := bad - b) (n := k + 1) (c := c - b) (u := k + 1) (by omega)
    obtain ⟨cc, hcc⟩ : ∃ cc, cc = c - (b : Int) := ⟨_, rfl⟩
    rw [← hcc] at hQ0 ⊢
    have ccb : 0 ≤ cc ∧ cc ≤ k := by omega
    obtain ⟨P, hP⟩ : ∃ P, P = (expF (L + 1) (bad - b) (k + 1) cc (k + 1)).1 := ⟨_, rfl⟩
    obtain ⟨Q, hQ⟩ : ∃ Q, Q = (expF (L + 1) (bad - b) (k + 1) cc (k + 1)).2 := ⟨_, rfl⟩
    rw [← hQ] at hQ0
    rw [← hP, ← hQ]
    refine enter (args := [_, _, _, _, _, _]) Try.func41 rfl Try.ntmps41 rfl ?_
    refine c_seq ?_
    refine c_region ?_
    refine s_do (do_alloc Try.tab rfl) rfl rfl rfl (fun b12 => ?_)
    refine s_nil ?_
    refine f_then ?_
    refine c_seq ?_
    refine c_region ?_
    refine s_call (en_f rfl Try.call74) num1_spec rfl rfl rfl (fun r0 => ?_)
    refine s_y (y_build34 rfl rfl) rfl rfl rfl ?_
    refine s_do (do_alloc Try.tab rfl) rfl rfl rfl (fun b13 => ?_)
    refine s_set (set_34 0 rfl rfl rfl rfl) rfl rfl ?_
    refine s_nil ?_
    refine f_then ?_
    refine c_seq ?_
    refine c_seq ?_
    refine c_region ?_
    refine s_y (y_move rfl) rfl rfl rfl ?_
    refine s_y (y_move rfl) rfl rfl rfl ?_
    refine s_y (y_move rfl) rfl rfl rfl ?_
    refine s_y (y_sub rfl rfl (by omega)) rfl rfl rfl ?_
    refine s_y (y_F (y_geq rfl rfl) (by assumption)) rfl rfl rfl ?_
    refine s_y (y_move rfl) rfl rfl rfl ?_
    refine s_y (y_move rfl) rfl rfl rfl ?_
    refine s_y (y_move rfl) rfl rfl rfl ?_
    refine s_y (y_F (y_gtr rfl rfl) (by assumption)) rfl rfl rfl ?_
    refine s_y (y_pickF rfl rfl) rfl rfl rfl ?_
    refine s_nil ?_
    refine f_then ?_
    refine c_condF rfl ?_
    refine c_skip ?_
    refine f_then ?_
    refine c_seq ?_
    refine c_region ?_
    refine s_y (y_move rfl) rfl rfl rfl ?_
    refine s_y (y_move rfl) rfl rfl rfl ?_
    refine s_y (y_sub rfl rfl (by omega)) rfl rfl rfl ?_
    refine s_y (y_move rfl) rfl rfl rfl ?_
    refine s_y (y_sub rfl rfl (by omega)) rfl rfl rfl ?_
    refine s_y (y_assign rfl) rfl rfl rfl ?_
    refine s_nil ?_
    refine f_then ?_
    refine c_seq ?_
    refine c_region ?_
    rw [hLi]
    refine s_call (en_f rfl Try.call74) num1_spec rfl rfl rfl (fun r1 => ?_)
    skip
    refine s_call (en_f rfl Try.call74) num1_spec rfl rfl rfl (fun r2 => ?_)
    by_cases q1 : b < bad
    · obtain ⟨B, hB⟩ : ∃ B, bad - b = B + 1 := ⟨bad - b - 1, by omega⟩
      have hBi : (bad : Int) - (b : Int) = ((B + 1 : Nat) : Int) := by omega
      have wB := KR.wl_int (x := B + 1) (by omega)
      obtain ⟨P1, hP1⟩ : ∃ P1, P1 = (expF L B k (cc - 1) k).1 := ⟨_, rfl⟩
      obtain ⟨R, hR⟩ : ∃ R, R = (expF L B k (cc - 1) k).2 := ⟨_, rfl⟩
      have ih1 := fun (N' : List Chunk) => spec_cast (ih (W := W) (N := N') (lot := lot) (bad := bad) (n := n) (g := g) (b := b + 1) (c := c) h1 h2 h3 (by omega) hg (by omega) h0 hc2) (a' := P1) (b' := R) (by rw [show lot - g - (b + 1) = L by omega, show bad - (b + 1) = B by omega, show c - ((b + 1 : Nat) : Int) = cc - 1 by omega, hP1]) (by rw [show lot - g - (b + 1) = L by omega, show bad - (b + 1) = B by omega, show c - ((b + 1 : Nat) : Int) = cc - 1 by omega, hR])
      have hw1 := rwl_exp (lot := L) (bad := B) (n := k) (u := k) (c := cc - 1) (by omega) (by omega) (by omega)
      have hR1 := exp_nz (lot := L) (bad := B) (n := k) (c := cc - 1) (u := k) (by omega)
      rw [← hP1, ← hR] at hw1
      rw [← hR] at hR1
      rw [hB] at hP hQ
      by_cases q2 : bad + g < lot
      · have hlaw := exp_first (L := L) (B := B) (n := k) (c := cc) (u := k) (by omega) ccb.1 ccb.2 (by omega)
        have hG : (lot : Int) - (bad : Int) - (g : Int) = ((L - B : Nat) : Int) := by omega
        have wG := KR.wl_int (x := L - B) (by omega)
        obtain ⟨P2, hP2⟩ : ∃ P2, P2 = (expF L (B + 1) k cc k).1 := ⟨_, rfl⟩
        have ih2 := fun (N' : List Chunk) => spec_cast (ih (W := W) (N := N') (lot := lot) (bad := bad) (n := n) (g := g + 1) (b := b) (c := c) h1 h2 h3 hb (by omega) (by omega) h0 hc2) (a' := P2) (b' := R) (by rw [show lot - (g + 1) - b = L by omega, hB, ← hcc, hP2]) (by rw [show lot - (g + 1) - b = L by omega, hB, ← hcc, hR, exp_den])
        have hw2 := (rwl_exp (lot := L) (bad := B + 1) (n := k) (u := k) (c := cc) (by omega) (by omega) (by omega)).1
        rw [← hP, ← hQ, ← hP1, ← hR, ← hP2] at hlaw
        rw [← hP2] at hw2
        clear hP hQ hP1 hP2 hR ih
        have hx := lw_canon (p := (1 * ((L + 1) * R) + (B + 1) * P1 * 1) * ((L + 1) * R) + (L - B) * P2 * (1 * ((L + 1) * R))) (q := 1 * ((L + 1) * R) * ((L + 1) * R)) (p' := P) (q' := Q) (Nat.mul_ne_zero (Nat.mul_ne_zero Nat.one_ne_zero (Nat.mul_ne_zero (Nat.succ_ne_zero L) hR1)) (Nat.mul_ne_zero (Nat.succ_ne_zero L) hR1)) hQ0 (sum_cross hlaw)
        clear hlaw hQ0
        have v1 := KR.wl_mul wL hw1.2
        have v2 := KR.wl_mul wB hw1.1
        have v3 := KR.wl_mul w1 v1
        have v4 := KR.wl_mul v2 w1
        have v5 := KR.wl_mul wG hw2
        have v6 := KR.wl_add (m := 1000) (show KR.wl (1 * ((L + 1) * R)) ≤ 1000 by omega) (show KR.wl ((B + 1) * P1 * 1) ≤ 1000 by omega)
        have z1 : (L + 1) * R ≠ 0 := Nat.mul_ne_zero (Nat.succ_ne_zero L) hR1
        have z2 : 1 * ((L + 1) * R) ≠ 0 := Nat.mul_ne_zero Nat.one_ne_zero z1
        refine s_y (y_build34 rfl rfl) rfl rfl rfl ?_
        refine s_do (do_alloc Try.tab rfl) rfl rfl rfl (fun b15 => ?_)
        refine s_set (set_34 0 rfl rfl rfl rfl) rfl rfl ?_
        refine s_nil ?_
        refine f_then ?_
        refine c_seq ?_
        refine c_seq ?_
        refine c_region ?_
        refine s_y (y_move rfl) rfl rfl rfl ?_
        refine s_y (y_move rfl) rfl rfl rfl ?_
        refine s_y (y_sub rfl rfl (by omega)) rfl rfl rfl ?_
        refine s_y (y_T (y_gtr rfl rfl) (by omega)) rfl rfl rfl ?_
        refine s_nil ?_
        refine f_then ?_
        refine c_condT rfl ?_
        refine SC.cls (C' := K W ([(b15, row 34 [r1.v, r2.v])] :: r2.L :: r1.L :: [(b12, row 34 [.slice none 0 0, .slice none 0 0])] :: N)) ?_ (fun w h => (K.dropAt 3 h).dropAt 3)
        haveI k1 : NumV (K W (r2.L :: r1.L :: [(b12, row 34 [.slice none 0 0, .slice none 0 0])] :: N)) r1.v (lwN 1 1) := (inferInstance : NumV (K W (r2.L :: r1.L :: [(b12, row 34 [.slice none 0 0, .slice none 0 0])] :: N)) r1.v 1).of (lw_one (by decide)).1.symm
        haveI k2 : NumV (K W (r2.L :: r1.L :: [(b12, row 34 [.slice none 0 0, .slice none 0 0])] :: N)) r2.v (lwD 1 1) := (inferInstance : NumV (K W (r2.L :: r1.L :: [(b12, row 34 [.slice none 0 0, .slice none 0 0])] :: N)) r2.v 1).of (lw_one (by decide)).2.symm
        refine c_plan [.c 0, .c 1, .c 2, .c 3, .c 5, .c 8, .c 9, .c 10, .c 11, .c 12, .c 13, .c 14, .s 4, .s 6, .s 7, .s 15, .s 16, .s 17, .s 18] [18] ((K W ([(b15, row 34 [r1.v, r2.v])] :: r2.L :: r1.L :: [(b12, row 34 [.slice none 0 0, .slice none 0 0])] :: N))) Try.mixed (by kernel_rfl) rfl K.cl ?_
        refine d_c rfl (Qui.ylds (y_loadA Try.tab rfl rfl rfl rfl (cells_row0 0 rfl rfl))) rfl rfl rfl (fun _ h => h) K.cl ?_
        refine d_c rfl (Qui.ylds (y_move rfl)) rfl rfl rfl (fun _ h => h) K.cl ?_
        refine d_c rfl (Qui.ylds (y_move rfl)) rfl rfl rfl (fun _ h => h) K.cl ?_
        refine d_c rfl (Qui.ylds (y_sub rfl rfl (by omega))) rfl rfl rfl (fun _ h => h) K.cl ?_
        refine d_c rfl (Qui.ylds (y_move rfl)) rfl rfl rfl (fun _ h => h) K.cl ?_
        refine d_c rfl (Qui.ylds (y_move rfl)) rfl rfl rfl (fun _ h => h) K.cl ?_
        refine d_c rfl (Qui.ylds (y_move rfl)) rfl rfl rfl (fun _ h => h) K.cl ?_
        refine d_c rfl (Qui.ylds (y_move rfl)) rfl rfl rfl (fun _ h => h) K.cl ?_
        refine d_c rfl (Qui.ylds (y_move rfl)) rfl rfl rfl (fun _ h => h) K.cl ?_
        refine d_c rfl (Qui.ylds (y_move rfl)) rfl rfl rfl (fun _ h => h) K.cl ?_
        refine d_c rfl (Qui.ylds (y_move rfl)) rfl rfl rfl (fun _ h => h) K.cl ?_
        refine d_c rfl (Qui.ylds (y_add rfl rfl (by omega))) rfl rfl rfl (fun _ h => h) K.cl ?_
        rw [hBi]
        refine d_call rfl (en_f rfl Try.call74) (num_spec (x := (B + 1)) (by omega)) rfl rfl rfl (fun _ => K.cl) (fun _ _ _ h => h.tail) (fun x1 => ?_)
        skip
        refine d_call rfl (en_f rfl Try.call74) (num_spec (x := L + 1) (by omega)) rfl rfl rfl (fun _ => K.cl) (fun _ _ _ h => h.tail.tail) (fun x2 => ?_)
        skip
        refine d_call rfl (en_f rfl Try.call57) (low_spec (p := (B + 1)) (q := L + 1) (by omega) (by omega) (Nat.succ_ne_zero L)) rfl rfl rfl (fun _ => K.cl) (fun _ _ _ h => h.tail.tail.tail) (fun x3 => ?_)
        skip
        refine d_call rfl (en_f rfl Try.call41) (ih1 _) rfl rfl rfl (fun _ => K.cl) (fun _ _ _ h => h.tail.tail.tail.tail) (fun x4 => ?_)
        skip
        refine d_call rfl (en_f rfl Try.call76) (rfmul2_spec (p := (B + 1)) (q := L + 1) (r := P1) (s := R) (by omega) (by omega) (by omega) (by omega) (Nat.succ_ne_zero L) hR1) rfl rfl rfl (fun _ => K.cl) (fun _ _ _ h => h.tail.tail.tail.tail.tail) (fun x5 => ?_)
        skip
        refine d_call rfl (en_f rfl Try.call75) (rfadd2_spec (p := 1) (q := 1) (r := (B + 1) * P1) (s := (L + 1) * R) (by omega) (by omega) (by omega) (by omega) Nat.one_ne_zero z1) rfl rfl rfl (fun _ => K.cl) (fun _ _ _ h => h.tail.tail.tail.tail.tail.tail) (fun x6 => ?_)
        refine d_set rfl (set_34 6 rfl rfl rfl rfl) rfl rfl K.cl (fun h => by cases h) ?_
        refine d_nil ?_
        refine f_then ?_
        refine c_seq ?_
        refine c_seq ?_
        refine c_region ?_
        refine s_y (y_move rfl) rfl rfl rfl ?_
        refine s_y (y_move rfl) rfl rfl rfl ?_
        refine s_y (y_sub rfl rfl (by omega)) rfl rfl rfl ?_
        refine s_y (y_move rfl) rfl rfl rfl ?_
        refine s_y (y_sub rfl rfl (by omega)) rfl rfl rfl ?_
        refine s_y (y_T (y_gtr rfl rfl) (by omega)) rfl rfl rfl ?_
        refine s_nil ?_
        refine f_then ?_
        refine c_condT rfl ?_
        refine SC.cls (C' := K W (x6.L :: [(b15, row 34 [x6.v1, x6.v2])] :: [(b12, row 34 [.slice none 0 0, .slice none 0 0])] :: N)) ?_ (fun w h => (K.dropAt 1 (K.dropAt 2 (K.dropAt 3 (K.dropAt 4 (K.dropAt 5 (K.dropAt 7 (K.dropAt 8 h))))))))
        refine c_plan [.c 0, .c 1, .c 2, .c 3, .c 4, .c 5, .c 7, .c 10, .c 11, .c 12, .c 13, .c 14, .c 15, .c 16, .s 6, .s 8, .s 9, .s 17, .s 18, .s 19, .s 20] [20] ((K W (x6.L :: [(b15, row 34 [x6.v1, x6.v2])] :: [(b12, row 34 [.slice none 0 0, .slice none 0 0])] :: N))) Try.mixed (by kernel_rfl) rfl K.cl ?_
        refine d_c rfl (Qui.ylds (y_loadA Try.tab rfl rfl rfl rfl (cells_row0 1 rfl rfl))) rfl rfl rfl (fun _ h => h) K.cl ?_
        refine d_c rfl (Qui.ylds (y_move rfl)) rfl rfl rfl (fun _ h => h) K.cl ?_
        refine d_c rfl (Qui.ylds (y_move rfl)) rfl rfl rfl (fun _ h => h) K.cl ?_
        refine d_c rfl (Qui.ylds (y_sub rfl rfl (by omega))) rfl rfl rfl (fun _ h => h) K.cl ?_
        refine d_c rfl (Qui.ylds (y_move rfl)) rfl rfl rfl (fun _ h => h) K.cl ?_
        refine d_c rfl (Qui.ylds (y_sub rfl rfl (by omega))) rfl rfl rfl (fun _ h => h) K.cl ?_
        refine d_c rfl (Qui.ylds (y_move rfl)) rfl rfl rfl (fun _ h => h) K.cl ?_
        refine d_c rfl (Qui.ylds (y_move rfl)) rfl rfl rfl (fun _ h => h) K.cl ?_
        refine d_c rfl (Qui.ylds (y_move rfl)) rfl rfl rfl (fun _ h => h) K.cl ?_
        refine d_c rfl (Qui.ylds (y_move rfl)) rfl rfl rfl (fun _ h => h) K.cl ?_
        refine d_c rfl (Qui.ylds (y_move rfl)) rfl rfl rfl (fun _ h => h) K.cl ?_
        refine d_c rfl (Qui.ylds (y_move rfl)) rfl rfl rfl (fun _ h => h) K.cl ?_
        refine d_c rfl (Qui.ylds (y_add rfl rfl (by omega))) rfl rfl rfl (fun _ h => h) K.cl ?_
        refine d_c rfl (Qui.ylds (y_move rfl)) rfl rfl rfl (fun _ h => h) K.cl ?_
        rw [hG]
        refine d_call rfl (en_f rfl Try.call74) (num_spec (x := (L - B)) (by omega)) rfl rfl rfl (fun _ => K.cl) (fun _ _ _ h => h.tail) (fun y1 => ?_)
        skip
        refine d_call rfl (en_f rfl Try.call74) (num_spec (x := L + 1) (by omega)) rfl rfl rfl (fun _ => K.cl) (fun _ _ _ h => h.tail.tail) (fun y2 => ?_)
        skip
        refine d_call rfl (en_f rfl Try.call57) (low_spec (p := (L - B)) (q := L + 1) (by omega) (by omega) (Nat.succ_ne_zero L)) rfl rfl rfl (fun _ => K.cl) (fun _ _ _ h => h.tail.tail.tail) (fun y3 => ?_)
        skip
        refine d_call rfl (en_f rfl Try.call41) (ih2 _) rfl rfl rfl (fun _ => K.cl) (fun _ _ _ h => h.tail.tail.tail.tail) (fun y4 => ?_)
        skip
        refine d_call rfl (en_f rfl Try.call76) (rfmul2_spec (p := (L - B)) (q := L + 1) (r := P2) (s := R) (by omega) (by omega) (by omega) (by omega) (Nat.succ_ne_zero L) hR1) rfl rfl rfl (fun _ => K.cl) (fun _ _ _ h => h.tail.tail.tail.tail.tail) (fun y5 => ?_)
        skip
        refine d_call rfl (en_f rfl Try.call75) (rfadd2_spec (p := 1 * ((L + 1) * R) + (B + 1) * P1 * 1) (q := 1 * ((L + 1) * R)) (r := (L - B) * P2) (s := (L + 1) * R) (by omega) (by omega) (by omega) (by omega) z2 z1) rfl rfl rfl (fun _ => K.cl) (fun _ _ _ h => h.tail.tail.tail.tail.tail.tail) (fun y6 => ?_)
        refine d_set rfl (set_34 7 rfl rfl rfl rfl) rfl rfl K.cl (fun h => by cases h) ?_
        refine d_nil ?_
        refine f_then ?_
        refine c_seq ?_
        refine c_region ?_
        refine s_y (y_loadA Try.tab rfl rfl rfl rfl (cells_row0 7 rfl rfl)) rfl rfl rfl ?_
        refine St.cls (C' := K W (y6.L :: y5.L :: y4.L :: y3.L :: y2.L :: y1.L :: x6.L :: [(b15, row 34 [y6.v1, y6.v2])] :: [(b12, row 34 [.slice none 0 0, .slice none 0 0])] :: N)) ?_ (fun w h => h)
        refine s_set (set_34 8 rfl rfl rfl rfl) rfl rfl ?_
        refine s_nil ?_
        refine f_then ?_
        refine c_ret ?_
        exact f_ret ⟨y6.L, y6.v1, y6.v2, y6.ok1.of hx.1, y6.ok2.of hx.2⟩ (resA Try.tab rfl rfl rfl rfl rfl (cells_row0 8 rfl rfl)) (fun w h => (K.dropAt 1 (K.dropAt 2 (K.dropAt 3 (K.dropAt 4 (K.dropAt 5 (K.dropAt 6 (K.dropAt 7 (K.dropAt 8 h)))))))))
      · obtain rfl : B = L := by omega
        have hlaw := exp_bad (L := B) (n := k) (c := cc) (u := k) ccb.1 ccb.2 (by omega)
        rw [← hP, ← hQ, ← hP1, ← hR] at hlaw
        clear hP hQ hP1 hR ih
        have hx := lw_canon (p := 1 * ((B + 1) * R) + (B + 1) * P1 * 1) (q := 1 * ((B + 1) * R)) (p' := P) (q' := Q) (Nat.mul_ne_zero Nat.one_ne_zero (Nat.mul_ne_zero (Nat.succ_ne_zero B) hR1)) hQ0 (sum_cross1 hlaw)
        clear hlaw hQ0
        have v1 := KR.wl_mul wL hw1.2
        have v2 := KR.wl_mul wB hw1.1
        have z1 : (B + 1) * R ≠ 0 := Nat.mul_ne_zero (Nat.succ_ne_zero B) hR1
        refine s_y (y_build34 rfl rfl) rfl rfl rfl ?_
        refine s_do (do_alloc Try.tab rfl) rfl rfl rfl (fun b15 => ?_)
        refine s_set (set_34 0 rfl rfl rfl rfl) rfl rfl ?_
        refine s_nil ?_
        refine f_then ?_
        refine c_seq ?_
        refine c_seq ?_
        refine c_region ?_
        refine s_y (y_move rfl) rfl rfl rfl ?_
        refine s_y (y_move rfl) rfl rfl rfl ?_
        refine s_y (y_sub rfl rfl (by omega)) rfl rfl rfl ?_
        refine s_y (y_T (y_gtr rfl rfl) (by omega)) rfl rfl rfl ?_
        refine s_nil ?_
        refine f_then ?_
        refine c_condT rfl ?_
        refine SC.cls (C' := K W ([(b15, row 34 [r1.v, r2.v])] :: r2.L :: r1.L :: [(b12, row 34 [.slice none 0 0, .slice none 0 0])] :: N)) ?_ (fun w h => (K.dropAt 3 h).dropAt 3)
        haveI k1 : NumV (K W (r2.L :: r1.L :: [(b12, row 34 [.slice none 0 0, .slice none 0 0])] :: N)) r1.v (lwN 1 1) := (inferInstance : NumV (K W (r2.L :: r1.L :: [(b12, row 34 [.slice none 0 0, .slice none 0 0])] :: N)) r1.v 1).of (lw_one (by decide)).1.symm
        haveI k2 : NumV (K W (r2.L :: r1.L :: [(b12, row 34 [.slice none 0 0, .slice none 0 0])] :: N)) r2.v (lwD 1 1) := (inferInstance : NumV (K W (r2.L :: r1.L :: [(b12, row 34 [.slice none 0 0, .slice none 0 0])] :: N)) r2.v 1).of (lw_one (by decide)).2.symm
        refine c_plan [.c 0, .c 1, .c 2, .c 3, .c 5, .c 8, .c 9, .c 10, .c 11, .c 12, .c 13, .c 14, .s 4, .s 6, .s 7, .s 15, .s 16, .s 17, .s 18] [18] ((K W ([(b15, row 34 [r1.v, r2.v])] :: r2.L :: r1.L :: [(b12, row 34 [.slice none 0 0, .slice none 0 0])] :: N))) Try.mixed (by kernel_rfl) rfl K.cl ?_
        refine d_c rfl (Qui.ylds (y_loadA Try.tab rfl rfl rfl rfl (cells_row0 0 rfl rfl))) rfl rfl rfl (fun _ h => h) K.cl ?_
        refine d_c rfl (Qui.ylds (y_move rfl)) rfl rfl rfl (fun _ h => h) K.cl ?_
        refine d_c rfl (Qui.ylds (y_move rfl)) rfl rfl rfl (fun _ h => h) K.cl ?_
        refine d_c rfl (Qui.ylds (y_sub rfl rfl (by omega))) rfl rfl rfl (fun _ h => h) K.cl ?_
        refine d_c rfl (Qui.ylds (y_move rfl)) rfl rfl rfl (fun _ h => h) K.cl ?_
        refine d_c rfl (Qui.ylds (y_move rfl)) rfl rfl rfl (fun _ h => h) K.cl ?_
        refine d_c rfl (Qui.ylds (y_move rfl)) rfl rfl rfl (fun _ h => h) K.cl ?_
        refine d_c rfl (Qui.ylds (y_move rfl)) rfl rfl rfl (fun _ h => h) K.cl ?_
        refine d_c rfl (Qui.ylds (y_move rfl)) rfl rfl rfl (fun _ h => h) K.cl ?_
        refine d_c rfl (Qui.ylds (y_move rfl)) rfl rfl rfl (fun _ h => h) K.cl ?_
        refine d_c rfl (Qui.ylds (y_move rfl)) rfl rfl rfl (fun _ h => h) K.cl ?_
        refine d_c rfl (Qui.ylds (y_add rfl rfl (by omega))) rfl rfl rfl (fun _ h => h) K.cl ?_
        rw [hBi]
        refine d_call rfl (en_f rfl Try.call74) (num_spec (x := (B + 1)) (by omega)) rfl rfl rfl (fun _ => K.cl) (fun _ _ _ h => h.tail) (fun x1 => ?_)
        skip
        refine d_call rfl (en_f rfl Try.call74) (num_spec (x := B + 1) (by omega)) rfl rfl rfl (fun _ => K.cl) (fun _ _ _ h => h.tail.tail) (fun x2 => ?_)
        skip
        refine d_call rfl (en_f rfl Try.call57) (low_spec (p := (B + 1)) (q := B + 1) (by omega) (by omega) (Nat.succ_ne_zero B)) rfl rfl rfl (fun _ => K.cl) (fun _ _ _ h => h.tail.tail.tail) (fun x3 => ?_)
        skip
        refine d_call rfl (en_f rfl Try.call41) (ih1 _) rfl rfl rfl (fun _ => K.cl) (fun _ _ _ h => h.tail.tail.tail.tail) (fun x4 => ?_)
        skip
        refine d_call rfl (en_f rfl Try.call76) (rfmul2_spec (p := (B + 1)) (q := B + 1) (r := P1) (s := R) (by omega) (by omega) (by omega) (by omega) (Nat.succ_ne_zero B) hR1) rfl rfl rfl (fun _ => K.cl) (fun _ _ _ h => h.tail.tail.tail.tail.tail) (fun x5 => ?_)
        skip
        refine d_call rfl (en_f rfl Try.call75) (rfadd2_spec (p := 1) (q := 1) (r := (B + 1) * P1) (s := (B + 1) * R) (by omega) (by omega) (by omega) (by omega) Nat.one_ne_zero z1) rfl rfl rfl (fun _ => K.cl) (fun _ _ _ h => h.tail.tail.tail.tail.tail.tail) (fun x6 => ?_)
        refine d_set rfl (set_34 6 rfl rfl rfl rfl) rfl rfl K.cl (fun h => by cases h) ?_
        refine d_nil ?_
        refine f_then ?_
        refine c_seq ?_
        refine c_seq ?_
        refine c_region ?_
        refine s_y (y_move rfl) rfl rfl rfl ?_
        refine s_y (y_move rfl) rfl rfl rfl ?_
        refine s_y (y_sub rfl rfl (by omega)) rfl rfl rfl ?_
        refine s_y (y_move rfl) rfl rfl rfl ?_
        refine s_y (y_sub rfl rfl (by omega)) rfl rfl rfl ?_
        refine s_y (y_F (y_gtr rfl rfl) (by omega)) rfl rfl rfl ?_
        refine s_nil ?_
        refine f_then ?_
        refine c_condF rfl ?_
        refine c_skip ?_
        refine f_then ?_
        refine c_seq ?_
        refine c_region ?_
        refine s_y (y_loadA Try.tab rfl rfl rfl rfl (cells_row0 6 rfl rfl)) rfl rfl rfl ?_
        refine St.cls (C' := K W (x6.L :: x5.L :: x4.L :: x3.L :: x2.L :: x1.L :: [(b15, row 34 [x6.v1, x6.v2])] :: r2.L :: r1.L :: [(b12, row 34 [.slice none 0 0, .slice none 0 0])] :: N)) ?_ (fun w h => h)
        refine s_set (set_34 9 rfl rfl rfl rfl) rfl rfl ?_
        refine s_nil ?_
        refine f_then ?_
        refine c_ret ?_
        exact f_ret ⟨x6.L, x6.v1, x6.v2, x6.ok1.of hx.1, x6.ok2.of hx.2⟩ (resA Try.tab rfl rfl rfl rfl rfl (cells_row0 9 rfl rfl)) (fun w h => (K.dropAt 1 (K.dropAt 2 (K.dropAt 3 (K.dropAt 4 (K.dropAt 5 (K.dropAt 6 (K.dropAt 7 (K.dropAt 8 (K.dropAt 9 h))))))))))
    · have hB : bad - b = 0 := by omega
      have hG : (lot : Int) - (bad : Int) - (g : Int) = ((L + 1 : Nat) : Int) := by omega
      obtain ⟨P2, hP2⟩ : ∃ P2, P2 = (expF L 0 k cc k).1 := ⟨_, rfl⟩
      obtain ⟨R, hR⟩ : ∃ R, R = (expF L 0 k cc k).2 := ⟨_, rfl⟩
      have ih2 := fun (N' : List Chunk) => spec_cast (ih (W := W) (N := N') (lot := lot) (bad := bad) (n := n) (g := g + 1) (b := b) (c := c) h1 h2 h3 hb (by omega) (by omega) h0 hc2) (a' := P2) (b' := R) (by rw [show lot - (g + 1) - b = L by omega, hB, ← hcc, hP2]) (by rw [show lot - (g + 1) - b = L by omega, hB, ← hcc, hR])
      have hw2 := rwl_exp (lot := L) (bad := 0) (n := k) (u := k) (c := cc) (by omega) (by omega) (by omega)
      have hR1 := exp_nz (lot := L) (bad := 0) (n := k) (c := cc) (u := k) (by omega)
      rw [← hP2, ← hR] at hw2
      rw [← hR] at hR1
      rw [hB] at hP hQ
      have hlaw := exp_good (L := L) (n := k) (c := cc) (u := k) ccb.1 ccb.2 (by omega)
      rw [← hP, ← hQ, ← hP2, ← hR] at hlaw
      clear hP hQ hP2 hR ih
      have hx := lw_canon (p := 1 * ((L + 1) * R) + (L + 1) * P2 * 1) (q := 1 * ((L + 1) * R)) (p' := P) (q' := Q) (Nat.mul_ne_zero Nat.one_ne_zero (Nat.mul_ne_zero (Nat.succ_ne_zero L) hR1)) hQ0 (sum_cross1 hlaw)
      clear hlaw hQ0
      have v1 := KR.wl_mul wL hw2.2
      have v2 := KR.wl_mul wL hw2.1
      have z1 : (L + 1) * R ≠ 0 := Nat.mul_ne_zero (Nat.succ_ne_zero L) hR1
      refine s_y (y_build34 rfl rfl) rfl rfl rfl ?_
      refine s_do (do_alloc Try.tab rfl) rfl rfl rfl (fun b15 => ?_)
      refine s_set (set_34 0 rfl rfl rfl rfl) rfl rfl ?_
      refine s_nil ?_
      refine f_then ?_
      refine c_seq ?_
      refine c_seq ?_
      refine c_region ?_
      refine s_y (y_move rfl) rfl rfl rfl ?_
      refine s_y (y_move rfl) rfl rfl rfl ?_
      refine s_y (y_sub rfl rfl (by omega)) rfl rfl rfl ?_
      refine s_y (y_F (y_gtr rfl rfl) (by omega)) rfl rfl rfl ?_
      refine s_nil ?_
      refine f_then ?_
      refine c_condF rfl ?_
      refine c_skip ?_
      refine f_then ?_
      refine c_seq ?_
      refine c_seq ?_
      refine c_region ?_
      refine s_y (y_move rfl) rfl rfl rfl ?_
      refine s_y (y_move rfl) rfl rfl rfl ?_
      refine s_y (y_sub rfl rfl (by omega)) rfl rfl rfl ?_
      refine s_y (y_move rfl) rfl rfl rfl ?_
      refine s_y (y_sub rfl rfl (by omega)) rfl rfl rfl ?_
      refine s_y (y_T (y_gtr rfl rfl) (by omega)) rfl rfl rfl ?_
      refine s_nil ?_
      refine f_then ?_
      refine c_condT rfl ?_
      refine SC.cls (C' := K W ([(b15, row 34 [r1.v, r2.v])] :: r2.L :: r1.L :: [(b12, row 34 [.slice none 0 0, .slice none 0 0])] :: N)) ?_ (fun w h => (K.dropAt 3 h).dropAt 3)
      haveI k1 : NumV (K W (r2.L :: r1.L :: [(b12, row 34 [.slice none 0 0, .slice none 0 0])] :: N)) r1.v (lwN 1 1) := (inferInstance : NumV (K W (r2.L :: r1.L :: [(b12, row 34 [.slice none 0 0, .slice none 0 0])] :: N)) r1.v 1).of (lw_one (by decide)).1.symm
      haveI k2 : NumV (K W (r2.L :: r1.L :: [(b12, row 34 [.slice none 0 0, .slice none 0 0])] :: N)) r2.v (lwD 1 1) := (inferInstance : NumV (K W (r2.L :: r1.L :: [(b12, row 34 [.slice none 0 0, .slice none 0 0])] :: N)) r2.v 1).of (lw_one (by decide)).2.symm
      refine c_plan [.c 0, .c 1, .c 2, .c 3, .c 4, .c 5, .c 7, .c 10, .c 11, .c 12, .c 13, .c 14, .c 15, .c 16, .s 6, .s 8, .s 9, .s 17, .s 18, .s 19, .s 20] [20] ((K W ([(b15, row 34 [r1.v, r2.v])] :: r2.L :: r1.L :: [(b12, row 34 [.slice none 0 0, .slice none 0 0])] :: N))) Try.mixed (by kernel_rfl) rfl K.cl ?_
      refine d_c rfl (Qui.ylds (y_loadA Try.tab rfl rfl rfl rfl (cells_row0 0 rfl rfl))) rfl rfl rfl (fun _ h => h) K.cl ?_
      refine d_c rfl (Qui.ylds (y_move rfl)) rfl rfl rfl (fun _ h => h) K.cl ?_
      refine d_c rfl (Qui.ylds (y_move rfl)) rfl rfl rfl (fun _ h => h) K.cl ?_
      refine d_c rfl (Qui.ylds (y_sub rfl rfl (by omega))) rfl rfl rfl (fun _ h => h) K.cl ?_
      refine d_c rfl (Qui.ylds (y_move rfl)) rfl rfl rfl (fun _ h => h) K.cl ?_
      refine d_c rfl (Qui.ylds (y_sub rfl rfl (by omega))) rfl rfl rfl (fun _ h => h) K.cl ?_
      refine d_c rfl (Qui.ylds (y_move rfl)) rfl rfl rfl (fun _ h => h) K.cl ?_
      refine d_c rfl (Qui.ylds (y_move rfl)) rfl rfl rfl (fun _ h => h) K.cl ?_
      refine d_c rfl (Qui.ylds (y_move rfl)) rfl rfl rfl (fun _ h => h) K.cl ?_
      refine d_c rfl (Qui.ylds (y_move rfl)) rfl rfl rfl (fun _ h => h) K.cl ?_
      refine d_c rfl (Qui.ylds (y_move rfl)) rfl rfl rfl (fun _ h => h) K.cl ?_
      refine d_c rfl (Qui.ylds (y_move rfl)) rfl rfl rfl (fun _ h => h) K.cl ?_
      refine d_c rfl (Qui.ylds (y_add rfl rfl (by omega))) rfl rfl rfl (fun _ h => h) K.cl ?_
      refine d_c rfl (Qui.ylds (y_move rfl)) rfl rfl rfl (fun _ h => h) K.cl ?_
      rw [hG]
      refine d_call rfl (en_f rfl Try.call74) (num_spec (x := (L + 1)) (by omega)) rfl rfl rfl (fun _ => K.cl) (fun _ _ _ h => h.tail) (fun y1 => ?_)
      skip
      refine d_call rfl (en_f rfl Try.call74) (num_spec (x := L + 1) (by omega)) rfl rfl rfl (fun _ => K.cl) (fun _ _ _ h => h.tail.tail) (fun y2 => ?_)
      skip
      refine d_call rfl (en_f rfl Try.call57) (low_spec (p := (L + 1)) (q := L + 1) (by omega) (by omega) (Nat.succ_ne_zero L)) rfl rfl rfl (fun _ => K.cl) (fun _ _ _ h => h.tail.tail.tail) (fun y3 => ?_)
      skip
      refine d_call rfl (en_f rfl Try.call41) (ih2 _) rfl rfl rfl (fun _ => K.cl) (fun _ _ _ h => h.tail.tail.tail.tail) (fun y4 => ?_)
      skip
      refine d_call rfl (en_f rfl Try.call76) (rfmul2_spec (p := (L + 1)) (q := L + 1) (r := P2) (s := R) (by omega) (by omega) (by omega) (by omega) (Nat.succ_ne_zero L) hR1) rfl rfl rfl (fun _ => K.cl) (fun _ _ _ h => h.tail.tail.tail.tail.tail) (fun y5 => ?_)
      skip
      refine d_call rfl (en_f rfl Try.call75) (rfadd2_spec (p := 1) (q := 1) (r := (L + 1) * P2) (s := (L + 1) * R) (by omega) (by omega) (by omega) (by omega) Nat.one_ne_zero z1) rfl rfl rfl (fun _ => K.cl) (fun _ _ _ h => h.tail.tail.tail.tail.tail.tail) (fun y6 => ?_)
      refine d_set rfl (set_34 6 rfl rfl rfl rfl) rfl rfl K.cl (fun h => by cases h) ?_
      refine d_nil ?_
      refine f_then ?_
      refine c_seq ?_
      refine c_region ?_
      refine s_y (y_loadA Try.tab rfl rfl rfl rfl (cells_row0 6 rfl rfl)) rfl rfl rfl ?_
      refine St.cls (C' := K W (y6.L :: y5.L :: y4.L :: y3.L :: y2.L :: y1.L :: [(b15, row 34 [y6.v1, y6.v2])] :: r2.L :: r1.L :: [(b12, row 34 [.slice none 0 0, .slice none 0 0])] :: N)) ?_ (fun w h => h)
      refine s_set (set_34 9 rfl rfl rfl rfl) rfl rfl ?_
      refine s_nil ?_
      refine f_then ?_
      refine c_ret ?_
      exact f_ret ⟨y6.L, y6.v1, y6.v2, y6.ok1.of hx.1, y6.ok2.of hx.2⟩ (resA Try.tab rfl rfl rfl rfl rfl (cells_row0 9 rfl rfl)) (fun w h => (K.dropAt 1 (K.dropAt 2 (K.dropAt 3 (K.dropAt 4 (K.dropAt 5 (K.dropAt 6 (K.dropAt 7 (K.dropAt 8 (K.dropAt 9 h))))))))))
end Go.KL
end

section
/- Walks: SampleExpects. -/
namespace Go.KL
open Go.Proofs
theorem lwx_16k {lot bad n u : Nat} {c : Int} (h1 : bad ≤ lot) (h2 : lot ≤ 60) (h3 : u ≤ 60) : lwN (expF lot bad n c u).1 (expF lot bad n c u).2 < 2 ^ 16384 ∧ lwD (expF lot bad n c u).1 (expF lot bad n c u).2 < 2 ^ 16384 := by
  obtain ⟨e, he⟩ : ∃ e, e = 60 := ⟨_, rfl⟩
  have h := exp_le (n := n) (c := c) h1 (show lot ≤ e by omega) h2 u
  have a1 : (7 + e) * u ≤ (7 + e) * 60 := Nat.mul_le_mul_left _ h3
  have a2 : e * u ≤ e * 60 := Nat.mul_le_mul_left _ h3
  obtain ⟨f, hf⟩ : ∃ f, f = 16384 := ⟨_, rfl⟩
  rw [← hf]
  exact ⟨Nat.lt_of_le_of_lt (Nat.le_trans lw_le.1 h.1) (Nat.pow_lt_pow_right (by decide) (by omega)), Nat.lt_of_le_of_lt (Nat.le_trans lw_le.2 h.2) (Nat.pow_lt_pow_right (by decide) (by omega))⟩
attribute [local irreducible] SC St Fin Sq Ylds Doos Sets Enters Spec CellIs CellsAre Then Ret Rnd Chn resOK ints bools recs arr
theorem rexp0_spec {W : World} {N : List Chunk} {lot bad n : Nat} {c : Int} (h1 : lot ≤ 60) (h2 : bad ≤ lot) (h3 : n ≤ lot) (h0 : 0 ≤ c) (hc2 : c < 9223372036854775808) :
    Spec Try.prog 41 #[.int .i64 (lot : Int), .int .i64 (bad : Int), .int .i64 (n : Int), .int .i64 c, .int .i64 0, .int .i64 0] (K W N) (X := NFr2 W (lwN (expF lot bad n c n).1 (expF lot bad n c n).2) (lwD (expF lot bad n c n).1 (expF lot bad n c n).2)) (fun r => .agg #[r.v1, r.v2]) (fun r => K W (r.L :: N)) :=
  spec_cast (rexp_spec n (g := 0) (b := 0) h1 h2 h3 (Nat.zero_le _) (Nat.zero_le _) (by omega) h0 hc2) (by rw [show c - ((0 : Nat) : Int) = c by omega]; rfl) (by rw [show c - ((0 : Nat) : Int) = c by omega]; rfl)
set_option maxRecDepth 10000 in
set_option maxHeartbeats 8000000 in
theorem sampleExpects_walk (W : World) (lot bad n c : Int) (hl : i64 lot) (hb : i64 bad) (hn : i64 n) (hc : i64 c) : Spec Try.prog 13 #[.int .i64 lot, .int .i64 bad, .int .i64 n, .int .i64 c] (K W []) (fun _ : Unit => .bool true) (fun _ => K W []) := by
  unfold i64 at hl hb hn hc
  refine enter (args := [_, _, _, _]) Try.func13 rfl Try.ntmps13 rfl ?_
  by_cases h1 : 40 < lot
  · by_cases h2 : lot ≤ 256
    · refine c_seq ?_
      refine c_region ?_
      refine s_y (y_assign rfl) rfl rfl rfl ?_
      refine s_nil ?_
      refine f_then ?_
      refine c_seq ?_
      refine c_seq ?_
      refine c_region ?_
      refine s_y (y_move rfl) rfl rfl rfl ?_
      refine s_y (y_T (y_gtr rfl rfl) (by assumption)) rfl rfl rfl ?_
      refine s_y (y_move rfl) rfl rfl rfl ?_
      refine s_y (y_move rfl) rfl rfl rfl ?_
      refine s_y (y_T (y_leq rfl rfl) (by assumption)) rfl rfl rfl ?_
      refine s_y (y_pickT rfl rfl) rfl rfl rfl ?_
      refine s_y (y_move rfl) rfl rfl rfl ?_
      iterate 11 refine s_skip rfl rfl rfl ?_
      refine s_y (y_pickT rfl rfl) rfl rfl rfl ?_
      refine s_nil ?_
      refine f_then ?_
      refine c_condT rfl ?_
      refine c_seq ?_
      refine c_region ?_
      refine s_call (en_f rfl Try.call19) awake_spec rfl rfl rfl (fun _ => ?_)
      refine s_y (y_assign rfl) rfl rfl rfl ?_
      refine s_nil ?_
      refine f_then ?_
      refine c_ret ?_
      refine f_thenR ?_
      exact f_ret () (res1 rfl rfl) (fun w h => h)
    · have hd : decide (goodB lot bad n 256) = false := decide_eq_false (by unfold goodB; omega)
      refine c_seq ?_
      refine c_region ?_
      refine s_y (y_assign rfl) rfl rfl rfl ?_
      refine s_nil ?_
      refine f_then ?_
      refine c_seq ?_
      refine c_seq ?_
      refine c_region ?_
      refine s_y (y_move rfl) rfl rfl rfl ?_
      refine s_y (y_T (y_gtr rfl rfl) (by assumption)) rfl rfl rfl ?_
      refine s_y (y_move rfl) rfl rfl rfl ?_
      refine s_y (y_move rfl) rfl rfl rfl ?_
      refine s_y (y_F (y_leq rfl rfl) (by assumption)) rfl rfl rfl ?_
      refine s_y (y_pickT rfl rfl) rfl rfl rfl ?_
      refine s_y (y_move rfl) rfl rfl rfl ?_
      refine s_y (y_move rfl) rfl rfl rfl ?_
      refine s_y (y_F (y_leq rfl rfl) (by omega)) rfl rfl rfl ?_
      refine s_y (y_move rfl) rfl rfl rfl ?_
      iterate 2 refine s_skip rfl rfl rfl ?_
      refine s_y (y_pickF rfl rfl) rfl rfl rfl ?_
      refine s_y (y_move rfl) rfl rfl rfl ?_
      iterate 3 refine s_skip rfl rfl rfl ?_
      refine s_y (y_pickF rfl rfl) rfl rfl rfl ?_
      refine s_y (y_pickF rfl rfl) rfl rfl rfl ?_
      refine s_nil ?_
      refine f_then ?_
      refine c_condF rfl ?_
      refine c_skip ?_
      refine f_then ?_
      refine c_seq ?_
      refine c_region ?_
      refine s_y (y_move rfl) rfl rfl rfl ?_
      refine s_y (y_move rfl) rfl rfl rfl ?_
      refine s_y (y_move rfl) rfl rfl rfl ?_
      refine s_y (y_move rfl) rfl rfl rfl ?_
      refine s_call (en_f rfl Try.call40) (expectE_spec (by omega)) rfl rfl rfl (fun _ => ?_)
      refine s_y (y_move rfl) rfl rfl rfl ?_
      refine s_y (y_extract rfl rfl) rfl rfl rfl ?_
      refine s_y (y_extract rfl rfl) rfl rfl rfl ?_
      refine s_do (do_alloc Try.tab rfl) rfl rfl rfl (fun b9 => ?_)
      refine s_set (set_25 0 rfl rfl rfl rfl) rfl rfl ?_
      refine s_y (y_assign rfl) rfl rfl rfl ?_
      refine s_nil ?_
      refine f_then ?_
      refine c_seq ?_
      refine c_seq ?_
      refine c_region ?_
      refine s_y (y_move rfl) rfl rfl rfl ?_
      refine s_y (y_move rfl) rfl rfl rfl ?_
      refine s_y (y_move rfl) rfl rfl rfl ?_
      refine s_call (en_f rfl Try.call21) good_spec rfl rfl rfl (fun _ => ?_)
      rw [hd]
      refine s_y (y_notF rfl) rfl rfl rfl ?_
      refine s_y (y_move rfl) rfl rfl rfl ?_
      iterate 2 refine s_skip rfl rfl rfl ?_
      refine s_y (y_pickT rfl rfl) rfl rfl rfl ?_
      refine s_nil ?_
      refine f_then ?_
      refine c_condT rfl ?_
      refine c_seq ?_
      refine c_region ?_
      refine s_y (y_loadA Try.tab rfl rfl rfl rfl (cells_row0 0 rfl rfl)) rfl rfl rfl ?_
      refine s_y (y_move rfl) rfl rfl rfl ?_
      refine s_call (en_f rfl Try.call22) refused_spec rfl rfl rfl (fun _ => ?_)
      refine s_y (y_move rfl) rfl rfl rfl ?_
      refine s_call (en_f rfl Try.call19) awake_spec rfl rfl rfl (fun _ => ?_)
      refine s_y (y_pickT rfl rfl) rfl rfl rfl ?_
      refine s_y (y_assign rfl) rfl rfl rfl ?_
      refine s_nil ?_
      refine f_then ?_
      refine c_ret ?_
      refine f_thenR ?_
      exact f_ret () (res1 rfl rfl) (fun w h => h.tail)
  by_cases h6 : 6 < n
  · by_cases h7 : n ≤ lot
    · refine c_seq ?_
      refine c_region ?_
      refine s_y (y_assign rfl) rfl rfl rfl ?_
      refine s_nil ?_
      refine f_then ?_
      refine c_seq ?_
      refine c_seq ?_
      refine c_region ?_
      refine s_y (y_move rfl) rfl rfl rfl ?_
      refine s_y (y_F (y_gtr rfl rfl) (by assumption)) rfl rfl rfl ?_
      refine s_y (y_move rfl) rfl rfl rfl ?_
      iterate 2 refine s_skip rfl rfl rfl ?_
      refine s_y (y_pickF rfl rfl) rfl rfl rfl ?_
      refine s_y (y_move rfl) rfl rfl rfl ?_
      refine s_y (y_move rfl) rfl rfl rfl ?_
      refine s_y (y_T (y_leq rfl rfl) (by omega)) rfl rfl rfl ?_
      refine s_y (y_move rfl) rfl rfl rfl ?_
      refine s_y (y_move rfl) rfl rfl rfl ?_
      refine s_y (y_T (y_gtr rfl rfl) (by assumption)) rfl rfl rfl ?_
      refine s_y (y_pickT rfl rfl) rfl rfl rfl ?_
      refine s_y (y_move rfl) rfl rfl rfl ?_
      refine s_y (y_move rfl) rfl rfl rfl ?_
      refine s_y (y_move rfl) rfl rfl rfl ?_
      refine s_y (y_T (y_leq rfl rfl) (by assumption)) rfl rfl rfl ?_
      refine s_y (y_pickT rfl rfl) rfl rfl rfl ?_
      refine s_y (y_pickF rfl rfl) rfl rfl rfl ?_
      refine s_nil ?_
      refine f_then ?_
      refine c_condT rfl ?_
      refine c_seq ?_
      refine c_region ?_
      refine s_call (en_f rfl Try.call19) awake_spec rfl rfl rfl (fun _ => ?_)
      refine s_y (y_assign rfl) rfl rfl rfl ?_
      refine s_nil ?_
      refine f_then ?_
      refine c_ret ?_
      refine f_thenR ?_
      exact f_ret () (res1 rfl rfl) (fun w h => h)
    · have hd : decide (goodB lot bad n 256) = false := decide_eq_false (by unfold goodB; omega)
      refine c_seq ?_
      refine c_region ?_
      refine s_y (y_assign rfl) rfl rfl rfl ?_
      refine s_nil ?_
      refine f_then ?_
      refine c_seq ?_
      refine c_seq ?_
      refine c_region ?_
      refine s_y (y_move rfl) rfl rfl rfl ?_
      refine s_y (y_F (y_gtr rfl rfl) (by assumption)) rfl rfl rfl ?_
      refine s_y (y_move rfl) rfl rfl rfl ?_
      iterate 2 refine s_skip rfl rfl rfl ?_
      refine s_y (y_pickF rfl rfl) rfl rfl rfl ?_
      refine s_y (y_move rfl) rfl rfl rfl ?_
      refine s_y (y_move rfl) rfl rfl rfl ?_
      refine s_y (y_T (y_leq rfl rfl) (by omega)) rfl rfl rfl ?_
      refine s_y (y_move rfl) rfl rfl rfl ?_
      refine s_y (y_move rfl) rfl rfl rfl ?_
      refine s_y (y_T (y_gtr rfl rfl) (by assumption)) rfl rfl rfl ?_
      refine s_y (y_pickT rfl rfl) rfl rfl rfl ?_
      refine s_y (y_move rfl) rfl rfl rfl ?_
      refine s_y (y_move rfl) rfl rfl rfl ?_
      refine s_y (y_move rfl) rfl rfl rfl ?_
      refine s_y (y_F (y_leq rfl rfl) (by assumption)) rfl rfl rfl ?_
      refine s_y (y_pickT rfl rfl) rfl rfl rfl ?_
      refine s_y (y_pickF rfl rfl) rfl rfl rfl ?_
      refine s_nil ?_
      refine f_then ?_
      refine c_condF rfl ?_
      refine c_skip ?_
      refine f_then ?_
      refine c_seq ?_
      refine c_region ?_
      refine s_y (y_move rfl) rfl rfl rfl ?_
      refine s_y (y_move rfl) rfl rfl rfl ?_
      refine s_y (y_move rfl) rfl rfl rfl ?_
      refine s_y (y_move rfl) rfl rfl rfl ?_
      refine s_call (en_f rfl Try.call40) (expectE_spec (by omega)) rfl rfl rfl (fun _ => ?_)
      refine s_y (y_move rfl) rfl rfl rfl ?_
      refine s_y (y_extract rfl rfl) rfl rfl rfl ?_
      refine s_y (y_extract rfl rfl) rfl rfl rfl ?_
      refine s_do (do_alloc Try.tab rfl) rfl rfl rfl (fun b9 => ?_)
      refine s_set (set_25 0 rfl rfl rfl rfl) rfl rfl ?_
      refine s_y (y_assign rfl) rfl rfl rfl ?_
      refine s_nil ?_
      refine f_then ?_
      refine c_seq ?_
      refine c_seq ?_
      refine c_region ?_
      refine s_y (y_move rfl) rfl rfl rfl ?_
      refine s_y (y_move rfl) rfl rfl rfl ?_
      refine s_y (y_move rfl) rfl rfl rfl ?_
      refine s_call (en_f rfl Try.call21) good_spec rfl rfl rfl (fun _ => ?_)
      rw [hd]
      refine s_y (y_notF rfl) rfl rfl rfl ?_
      refine s_y (y_move rfl) rfl rfl rfl ?_
      iterate 2 refine s_skip rfl rfl rfl ?_
      refine s_y (y_pickT rfl rfl) rfl rfl rfl ?_
      refine s_nil ?_
      refine f_then ?_
      refine c_condT rfl ?_
      refine c_seq ?_
      refine c_region ?_
      refine s_y (y_loadA Try.tab rfl rfl rfl rfl (cells_row0 0 rfl rfl)) rfl rfl rfl ?_
      refine s_y (y_move rfl) rfl rfl rfl ?_
      refine s_call (en_f rfl Try.call22) refused_spec rfl rfl rfl (fun _ => ?_)
      refine s_y (y_move rfl) rfl rfl rfl ?_
      refine s_call (en_f rfl Try.call19) awake_spec rfl rfl rfl (fun _ => ?_)
      refine s_y (y_pickT rfl rfl) rfl rfl rfl ?_
      refine s_y (y_assign rfl) rfl rfl rfl ?_
      refine s_nil ?_
      refine f_then ?_
      refine c_ret ?_
      refine f_thenR ?_
      exact f_ret () (res1 rfl rfl) (fun w h => h.tail)
  by_cases hg : goodB lot bad n 256
  · have hd := decide_eq_true hg
    obtain ⟨g1, g2, g3, g4, g5, g6⟩ := hg
    by_cases hc0 : c < 0
    · refine c_seq ?_
      refine c_region ?_
      refine s_y (y_assign rfl) rfl rfl rfl ?_
      refine s_nil ?_
      refine f_then ?_
      refine c_seq ?_
      refine c_seq ?_
      refine c_region ?_
      refine s_y (y_move rfl) rfl rfl rfl ?_
      refine s_y (y_F (y_gtr rfl rfl) (by assumption)) rfl rfl rfl ?_
      refine s_y (y_move rfl) rfl rfl rfl ?_
      iterate 2 refine s_skip rfl rfl rfl ?_
      refine s_y (y_pickF rfl rfl) rfl rfl rfl ?_
      refine s_y (y_move rfl) rfl rfl rfl ?_
      refine s_y (y_move rfl) rfl rfl rfl ?_
      refine s_y (y_T (y_leq rfl rfl) (by omega)) rfl rfl rfl ?_
      refine s_y (y_move rfl) rfl rfl rfl ?_
      refine s_y (y_move rfl) rfl rfl rfl ?_
      refine s_y (y_F (y_gtr rfl rfl) (by assumption)) rfl rfl rfl ?_
      refine s_y (y_pickT rfl rfl) rfl rfl rfl ?_
      refine s_y (y_move rfl) rfl rfl rfl ?_
      iterate 3 refine s_skip rfl rfl rfl ?_
      refine s_y (y_pickF rfl rfl) rfl rfl rfl ?_
      refine s_y (y_pickF rfl rfl) rfl rfl rfl ?_
      refine s_nil ?_
      refine f_then ?_
      refine c_condF rfl ?_
      refine c_skip ?_
      refine f_then ?_
      refine c_seq ?_
      refine c_region ?_
      refine s_y (y_move rfl) rfl rfl rfl ?_
      refine s_y (y_move rfl) rfl rfl rfl ?_
      refine s_y (y_move rfl) rfl rfl rfl ?_
      refine s_y (y_move rfl) rfl rfl rfl ?_
      refine s_call (en_f rfl Try.call40) (expectE_spec (by omega)) rfl rfl rfl (fun _ => ?_)
      refine s_y (y_move rfl) rfl rfl rfl ?_
      refine s_y (y_extract rfl rfl) rfl rfl rfl ?_
      refine s_y (y_extract rfl rfl) rfl rfl rfl ?_
      refine s_do (do_alloc Try.tab rfl) rfl rfl rfl (fun b9 => ?_)
      refine s_set (set_25 0 rfl rfl rfl rfl) rfl rfl ?_
      refine s_y (y_assign rfl) rfl rfl rfl ?_
      refine s_nil ?_
      refine f_then ?_
      refine c_seq ?_
      refine c_seq ?_
      refine c_region ?_
      refine s_y (y_move rfl) rfl rfl rfl ?_
      refine s_y (y_move rfl) rfl rfl rfl ?_
      refine s_y (y_move rfl) rfl rfl rfl ?_
      refine s_call (en_f rfl Try.call21) good_spec rfl rfl rfl (fun _ => ?_)
      rw [hd]
      refine s_y (y_notT rfl) rfl rfl rfl ?_
      refine s_y (y_move rfl) rfl rfl rfl ?_
      refine s_y (y_move rfl) rfl rfl rfl ?_
      refine s_y (y_T (y_lss rfl rfl) (by assumption)) rfl rfl rfl ?_
      refine s_y (y_pickF rfl rfl) rfl rfl rfl ?_
      refine s_nil ?_
      refine f_then ?_
      refine c_condT rfl ?_
      refine c_seq ?_
      refine c_region ?_
      refine s_y (y_loadA Try.tab rfl rfl rfl rfl (cells_row0 0 rfl rfl)) rfl rfl rfl ?_
      refine s_y (y_move rfl) rfl rfl rfl ?_
      refine s_call (en_f rfl Try.call22) refused_spec rfl rfl rfl (fun _ => ?_)
      refine s_y (y_move rfl) rfl rfl rfl ?_
      refine s_call (en_f rfl Try.call19) awake_spec rfl rfl rfl (fun _ => ?_)
      refine s_y (y_pickT rfl rfl) rfl rfl rfl ?_
      refine s_y (y_assign rfl) rfl rfl rfl ?_
      refine s_nil ?_
      refine f_then ?_
      refine c_ret ?_
      refine f_thenR ?_
      exact f_ret () (res1 rfl rfl) (fun w h => h.tail)
    obtain ⟨lot, rfl⟩ : ∃ k : Nat, lot = (k : Int) := ⟨lot.toNat, by omega⟩
    obtain ⟨bad, rfl⟩ : ∃ k : Nat, bad = (k : Int) := ⟨bad.toNat, by omega⟩
    obtain ⟨n, rfl⟩ : ∃ k : Nat, n = (k : Int) := ⟨n.toNat, by omega⟩
    refine c_seq ?_
    refine c_region ?_
    refine s_y (y_assign rfl) rfl rfl rfl ?_
    refine s_nil ?_
    refine f_then ?_
    refine c_seq ?_
    refine c_seq ?_
    refine c_region ?_
    refine s_y (y_move rfl) rfl rfl rfl ?_
    refine s_y (y_F (y_gtr rfl rfl) (by assumption)) rfl rfl rfl ?_
    refine s_y (y_move rfl) rfl rfl rfl ?_
    iterate 2 refine s_skip rfl rfl rfl ?_
    refine s_y (y_pickF rfl rfl) rfl rfl rfl ?_
    refine s_y (y_move rfl) rfl rfl rfl ?_
    refine s_y (y_move rfl) rfl rfl rfl ?_
    refine s_y (y_T (y_leq rfl rfl) (by omega)) rfl rfl rfl ?_
    refine s_y (y_move rfl) rfl rfl rfl ?_
    refine s_y (y_move rfl) rfl rfl rfl ?_
    refine s_y (y_F (y_gtr rfl rfl) (by assumption)) rfl rfl rfl ?_
    refine s_y (y_pickT rfl rfl) rfl rfl rfl ?_
    refine s_y (y_move rfl) rfl rfl rfl ?_
    iterate 3 refine s_skip rfl rfl rfl ?_
    refine s_y (y_pickF rfl rfl) rfl rfl rfl ?_
    refine s_y (y_pickF rfl rfl) rfl rfl rfl ?_
    refine s_nil ?_
    refine f_then ?_
    refine c_condF rfl ?_
    refine c_skip ?_
    refine f_then ?_
    refine c_seq ?_
    refine c_region ?_
    refine s_y (y_move rfl) rfl rfl rfl ?_
    refine s_y (y_move rfl) rfl rfl rfl ?_
    refine s_y (y_move rfl) rfl rfl rfl ?_
    refine s_y (y_move rfl) rfl rfl rfl ?_
    refine s_call (en_f rfl Try.call40) (expect_spec (W := W) (N := []) (lot := lot) (bad := bad) (n := n) (c := c) (by omega) (by omega) (by omega) (by omega) (by omega)) rfl rfl rfl (fun r1 => ?_)
    refine s_y (y_move rfl) rfl rfl rfl ?_
    refine s_y (y_extract rfl rfl) rfl rfl rfl ?_
    refine s_y (y_extract rfl rfl) rfl rfl rfl ?_
    refine s_do (do_alloc Try.tab rfl) rfl rfl rfl (fun b9 => ?_)
    refine s_set (set_25 0 rfl rfl rfl rfl) rfl rfl ?_
    refine s_y (y_assign rfl) rfl rfl rfl ?_
    refine s_nil ?_
    refine f_then ?_
    refine c_seq ?_
    refine c_seq ?_
    refine c_region ?_
    refine s_y (y_move rfl) rfl rfl rfl ?_
    refine s_y (y_move rfl) rfl rfl rfl ?_
    refine s_y (y_move rfl) rfl rfl rfl ?_
    refine St.cls (C' := K W ([(b9, row 25 [r1.v1, r1.v2])] :: r1.L :: [])) ?_ (fun w h => h)
    refine s_call (en_f rfl Try.call21) good_spec rfl rfl rfl (fun _ => ?_)
    rw [hd]
    have hsz := lwx_16k (lot := lot) (bad := bad) (n := n) (c := c) (u := n) (by omega) (by omega) (by omega)
    have hD0 : lwD (expF lot bad n c n).1 (expF lot bad n c n).2 ≠ 0 := Nat.pos_iff_ne_zero.1 (lwD_pos (exp_nz (by omega)))
    obtain ⟨P, hP⟩ : ∃ P, P = lwN (expF lot bad n c n).1 (expF lot bad n c n).2 := ⟨_, rfl⟩
    obtain ⟨Q, hQ⟩ : ∃ Q, Q = lwD (expF lot bad n c n).1 (expF lot bad n c n).2 := ⟨_, rfl⟩
    have hi1 : NatV (K W (r1.L :: [])) r1.v1 P := r1.ok1.of hP.symm
    have hi2 : NatV (K W (r1.L :: [])) r1.v2 (Q - 1) := r1.ok2.of (by rw [hQ])
    rw [← hP, ← hQ] at hsz
    rw [← hQ] at hD0
    have ht := fun (N' : List Chunk) (x y : Value) (_ : NatV (K W N') r1.v1 P) (_ : NatV (K W N') r1.v2 (Q - 1)) (_ : NumV (K W N') x P) (_ : NumV (K W N') y Q) => told_spec (W := W) (N := N') (a := r1.v1) (b := r1.v2) (c := x) (d := y) hD0 hsz.1 hsz.2
    clear hsz hD0
    refine s_y (y_notT rfl) rfl rfl rfl ?_
    refine s_y (y_move rfl) rfl rfl rfl ?_
    refine s_y (y_move rfl) rfl rfl rfl ?_
    refine s_y (y_F (y_lss rfl rfl) (by assumption)) rfl rfl rfl ?_
    refine s_y (y_pickF rfl rfl) rfl rfl rfl ?_
    refine s_nil ?_
    refine f_then ?_
    refine c_condF rfl ?_
    refine c_skip ?_
    refine f_then ?_
    refine c_seq ?_
    refine c_plan [.c 0, .c 1, .c 2, .c 3, .c 4, .c 5, .s 6, .s 7, .c 8, .s 9, .c 10, .c 11] [] ((K W ([(b9, row 25 [r1.v1, r1.v2])] :: r1.L :: []))) Try.mixed (by kernel_rfl) rfl K.cl ?_
    refine d_c rfl (Qui.ylds (y_loadA Try.tab rfl rfl rfl rfl (cells_row0 0 rfl rfl))) rfl rfl rfl (fun _ h => h) K.cl ?_
    refine d_c rfl (Qui.ylds (y_move rfl)) rfl rfl rfl (fun _ h => h) K.cl ?_
    refine d_c rfl (Qui.ylds (y_move rfl)) rfl rfl rfl (fun _ h => h) K.cl ?_
    refine d_c rfl (Qui.ylds (y_move rfl)) rfl rfl rfl (fun _ h => h) K.cl ?_
    refine d_c rfl (Qui.ylds (y_move rfl)) rfl rfl rfl (fun _ h => h) K.cl ?_
    refine d_c rfl (Qui.ylds (y_move rfl)) rfl rfl rfl (fun _ h => h) K.cl ?_
    refine d_call rfl (en_f rfl Try.call41) (rexp0_spec (lot := lot) (bad := bad) (n := n) (c := c) (by omega) (by omega) (by omega) (by omega) (by omega)) rfl rfl rfl (fun _ => K.cl) (fun _ _ _ h => h.tail) (fun r2 => ?_)
    skip
    haveI hj1 : NumV (K W (r2.L :: [(b9, row 25 [r1.v1, r1.v2])] :: r1.L :: [])) r2.v1 P := (inferInstance : NumV (K W (r2.L :: [(b9, row 25 [r1.v1, r1.v2])] :: r1.L :: [])) r2.v1 (lwN (expF lot bad n c n).1 (expF lot bad n c n).2)).of hP.symm
    haveI hj2 : NumV (K W (r2.L :: [(b9, row 25 [r1.v1, r1.v2])] :: r1.L :: [])) r2.v2 Q := (inferInstance : NumV (K W (r2.L :: [(b9, row 25 [r1.v1, r1.v2])] :: r1.L :: [])) r2.v2 (lwD (expF lot bad n c n).1 (expF lot bad n c n).2)).of hQ.symm
    clear hP hQ
    refine d_call rfl (en_f rfl Try.call23) (ht _ _ _ inferInstance inferInstance inferInstance inferInstance) rfl rfl rfl (fun _ => K.cl) (fun _ _ _ h => h.tail) (fun _ => ?_)
    refine d_c rfl (Qui.ylds (y_move rfl)) rfl rfl rfl (fun _ h => h.tail) K.cl ?_
    refine d_call rfl (en_f rfl Try.call19) awake_spec rfl rfl rfl (fun _ => K.cl) (fun _ _ _ h => h.tail) (fun _ => ?_)
    refine d_c rfl (Qui.ylds (y_pickT rfl rfl)) rfl rfl rfl (fun _ h => h.tail) K.cl ?_
    refine d_c rfl (Qui.ylds (y_assign rfl)) rfl rfl rfl (fun _ h => h.tail) K.cl ?_
    refine d_nil ?_
    refine f_then ?_
    refine c_ret ?_
    exact f_ret () (res1 rfl rfl) (fun w h => h.tail.tail.tail)
  · have hd : decide (goodB lot bad n 256) = false := decide_eq_false hg
    refine c_seq ?_
    refine c_region ?_
    refine s_y (y_assign rfl) rfl rfl rfl ?_
    refine s_nil ?_
    refine f_then ?_
    refine c_seq ?_
    refine c_seq ?_
    refine c_region ?_
    refine s_y (y_move rfl) rfl rfl rfl ?_
    refine s_y (y_F (y_gtr rfl rfl) (by assumption)) rfl rfl rfl ?_
    refine s_y (y_move rfl) rfl rfl rfl ?_
    iterate 2 refine s_skip rfl rfl rfl ?_
    refine s_y (y_pickF rfl rfl) rfl rfl rfl ?_
    refine s_y (y_move rfl) rfl rfl rfl ?_
    refine s_y (y_move rfl) rfl rfl rfl ?_
    refine s_y (y_T (y_leq rfl rfl) (by omega)) rfl rfl rfl ?_
    refine s_y (y_move rfl) rfl rfl rfl ?_
    refine s_y (y_move rfl) rfl rfl rfl ?_
    refine s_y (y_F (y_gtr rfl rfl) (by assumption)) rfl rfl rfl ?_
    refine s_y (y_pickT rfl rfl) rfl rfl rfl ?_
    refine s_y (y_move rfl) rfl rfl rfl ?_
    iterate 3 refine s_skip rfl rfl rfl ?_
    refine s_y (y_pickF rfl rfl) rfl rfl rfl ?_
    refine s_y (y_pickF rfl rfl) rfl rfl rfl ?_
    refine s_nil ?_
    refine f_then ?_
    refine c_condF rfl ?_
    refine c_skip ?_
    refine f_then ?_
    refine c_seq ?_
    refine c_region ?_
    refine s_y (y_move rfl) rfl rfl rfl ?_
    refine s_y (y_move rfl) rfl rfl rfl ?_
    refine s_y (y_move rfl) rfl rfl rfl ?_
    refine s_y (y_move rfl) rfl rfl rfl ?_
    refine s_call (en_f rfl Try.call40) (expectE_spec (by unfold goodB at hg; omega)) rfl rfl rfl (fun _ => ?_)
    refine s_y (y_move rfl) rfl rfl rfl ?_
    refine s_y (y_extract rfl rfl) rfl rfl rfl ?_
    refine s_y (y_extract rfl rfl) rfl rfl rfl ?_
    refine s_do (do_alloc Try.tab rfl) rfl rfl rfl (fun b9 => ?_)
    refine s_set (set_25 0 rfl rfl rfl rfl) rfl rfl ?_
    refine s_y (y_assign rfl) rfl rfl rfl ?_
    refine s_nil ?_
    refine f_then ?_
    refine c_seq ?_
    refine c_seq ?_
    refine c_region ?_
    refine s_y (y_move rfl) rfl rfl rfl ?_
    refine s_y (y_move rfl) rfl rfl rfl ?_
    refine s_y (y_move rfl) rfl rfl rfl ?_
    refine s_call (en_f rfl Try.call21) good_spec rfl rfl rfl (fun _ => ?_)
    rw [hd]
    refine s_y (y_notF rfl) rfl rfl rfl ?_
    refine s_y (y_move rfl) rfl rfl rfl ?_
    iterate 2 refine s_skip rfl rfl rfl ?_
    refine s_y (y_pickT rfl rfl) rfl rfl rfl ?_
    refine s_nil ?_
    refine f_then ?_
    refine c_condT rfl ?_
    refine c_seq ?_
    refine c_region ?_
    refine s_y (y_loadA Try.tab rfl rfl rfl rfl (cells_row0 0 rfl rfl)) rfl rfl rfl ?_
    refine s_y (y_move rfl) rfl rfl rfl ?_
    refine s_call (en_f rfl Try.call22) refused_spec rfl rfl rfl (fun _ => ?_)
    refine s_y (y_move rfl) rfl rfl rfl ?_
    refine s_call (en_f rfl Try.call19) awake_spec rfl rfl rfl (fun _ => ?_)
    refine s_y (y_pickT rfl rfl) rfl rfl rfl ?_
    refine s_y (y_assign rfl) rfl rfl rfl ?_
    refine s_nil ?_
    refine f_then ?_
    refine c_ret ?_
    refine f_thenR ?_
    exact f_ret () (res1 rfl rfl) (fun w h => h.tail)
end Go.KL
end

section
/- SampleExpects: for every input the law returns true, and its arguments read as they did. No condition. -/
namespace Go.Proofs.Ytdknafhaphadiaa
open Go.ChangeShapes Go.WideShapes Go.RowKit Go.KL
set_option linter.unusedVariables false
theorem own : ownKnob Try.prog.godebug = none := by kernel_rfl
set_option maxRecDepth 100000 in
theorem sampleExpects_lifted (os : Os) (started : os.Started) (H : Type) (enc : TypeId × Value → H) :
    ReturnsInHanded {} Try.checked os 13 .any (Rows.sampleExpectsSpec.pre6 enc Try.prog Try.f13 Rows.sampleExpectsRow.domain false) (Rows.sampleExpectsSpec.post enc Try.prog Try.f13 false true false false) := by
  refine returnsInHanded_of_change (C := Try.checked) own started (by kernel_rfl) Try.func13
    (ChangeSpec.witness6 (enc := enc) (C := Try.checked) false ⟨#[], #[.int .i64 0, .int .i64 0, .int .i64 0, .int .i64 0], []⟩ 8 (by kernel_rfl) (by kernel_rfl) (by kernel_rfl) (by kernel_rfl)) ?_
  intro W base args ds gs before hval hW hcnd _
  obtain ⟨p, q, hA, hV, rfl, hfz, hnd⟩ := id hW
  obtain ⟨rfl, rfl⟩ := trodVars_none hV
  obtain ⟨v0, vs0, d0, ds0, p0, q0, e0, rfl, rfl, h0, r0⟩ := trodAll_cons hA
  obtain ⟨v1, vs1, d1, ds1, p1, q1, rfl, rfl, rfl, h1, r1⟩ := trodAll_cons r0
  obtain ⟨v2, vs2, d2, ds2, p2, q2, rfl, rfl, rfl, h2, r2⟩ := trodAll_cons r1
  obtain ⟨v3, vs3, d3, ds3, p3, q3, rfl, rfl, rfl, h3, r3⟩ := trodAll_cons r2
  obtain ⟨rfl, rfl, rfl⟩ := trodAll_nil r3
  obtain rfl : args = #[v0, v1, v2, v3] := by cases args; simp_all
  obtain ⟨k0, rfl, hk0⟩ := arg3 (hval 0 3 _ rfl rfl) h0
  obtain ⟨k1, rfl, hk1⟩ := arg3 (hval 1 3 _ rfl rfl) h1
  obtain ⟨k2, rfl, hk2⟩ := arg3 (hval 2 3 _ rfl rfl) h2
  obtain ⟨k3, rfl, hk3⟩ := arg3 (hval 3 3 _ rfl rfl) h3
  refine ((sampleExpects_walk W k0 k1 k2 k3 hk0 hk1 hk2 hk3) W (K.refl W)).mono ?_
  rintro e W' ⟨x, rfl, hk⟩
  exact ⟨_, rfl, law_post (t := 4) laidOut (by decide +kernel) rfl rfl u4 hW rfl hk.toExt⟩
theorem joined : joinedFacts Try.pinned.checked.prog 13 Try.f13 Rows.sampleExpectsSpec Rows.sampleExpectsRow = true := by
  show joinedFacts Try.prog 13 Try.f13 Rows.sampleExpectsSpec Rows.sampleExpectsRow = true
  unfold joinedFacts
  rw [Go.KL.may_enter, Go.KL.lifts_final, Go.KL.make_cut]
  kernel_rfl
/-- The statement. -/
theorem sampleExpects_holds : Rows.SampleExpectsSaid :=
  OpenClaim.holds_of_wide 13 Try.f13 rfl rfl rfl rfl rfl rfl rfl ⟨rfl, rfl, rfl, rfl, rfl⟩ rfl rfl rfl rfl rfl (by kernel_rfl) Try.func13 joined
    (of_decide_eq_true (by kernel_rfl)) (by unfold Func.isWrapper; first | (rw [if_pos (by decide +kernel)]; kernel_rfl) | (rw [if_neg (by decide +kernel)]; exact ⟨rfl, rfl⟩))
    (fun os started H enc _ => sampleExpects_lifted os started H enc)
end Go.Proofs.Ytdknafhaphadiaa
end
