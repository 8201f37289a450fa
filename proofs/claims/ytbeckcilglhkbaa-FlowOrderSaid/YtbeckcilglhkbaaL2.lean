/- The library of the proof, part 2: a program logic over the model, walks of functions, plain laws. -/
import Derived.Test.YtbeckcilglhkbaaL1
section
/- Plain lemmas: what filling keeps. No program in sight. -/
namespace Go.KL
section
variable {n m : Nat} {outs : Nat → List Nat} {to tl par : Nat → Nat} {cost high : Nat → Int} {s t : Nat}
/-- A link with room that costs nothing more. -/
def adm (tl to : Nat → Nat) (room cost high : Nat → Int) (k : Nat) : Prop := 0 < room k ∧ cost k + high (tl k) - high (to k) = 0
theorem LInv.way (hG : PG n m outs to tl par cost) {room level : Nat → Int} (h : LInv n s outs to (adm tl to room cost high) level) (ht : t < n) (hp : 0 < level t) : Way n outs to tl cost high level room t s := by
  have key : ∀ (j : Nat) (u : Nat), u < n → level u = (j : Int) + 1 → Way n outs to tl cost high level room t u → Way n outs to tl cost high level room t s := by
    intro j
    induction j with
    | zero =>
      intro u hu hl hw
      by_cases e : u = s
      · rw [← e]; exact hw
      · obtain ⟨v, _, h2, _, _, _, _, h6⟩ := h.par u e (by omega)
        omega
    | succ j ih =>
      intro u hu hl hw
      by_cases e : u = s
      · rw [← e]; exact hw
      · obtain ⟨v, h1, h2, k, h3, h4, h5, h6⟩ := h.par u e (by omega)
        have htk := ((hG.out_iff v h1 k).1 h3).2
        refine ih v h1 (by omega) (.step h1 h3 ⟨h4.1, by rw [h5, htk]; exact h6, h4.2⟩ (by rw [h5]; exact hw))
  obtain ⟨j, hj⟩ := Int.eq_ofNat_of_zero_le (show 0 ≤ level t - 1 by omega)
  exact key j t ht (by omega) .here

/-- What has been sent from s to t, and what it has done. -/
structure Fl (m : Nat) (to tl par : Nat → Nat) (cost high : Nat → Int) (s t : Nat) (room room' : Nat → Int) (sent : Int) : Prop where
  lo : 0 ≤ sent
  nonneg : ∀ k, k < m → 0 ≤ room' k
  pair : ∀ k, k < m → room' k + room' (par k) = room k + room (par k)
  same : ∀ k, room' k ≠ room k → k < m ∧ red tl to cost high k = 0
  bal : ∀ u, outflow m tl room' u = outflow m tl room u - (if s = u then sent else 0) + (if t = u then sent else 0)
  nothing : sent = 0 → room' = room
theorem Fl.none {room : Nat → Int} (hr : ∀ k, k < m → 0 ≤ room k) : Fl m to tl par cost high s t room room 0 :=
  ⟨Int.le_refl _, hr, fun _ _ => rfl, fun _ h => absurd rfl h, fun u => by split <;> split <;> omega, fun _ => rfl⟩
theorem Fl.step {room room1 room2 lev : Nat → Int} {sent most got : Int} (h1 : Fl m to tl par cost high s t room room1 sent) (h2 : Sent m to tl par cost high lev t s most room1 room2 got) : Fl m to tl par cost high s t room room2 (sent + got) := by
  have q1 := h1.lo
  have q2 := h2.lo
  refine ⟨by omega, h2.nonneg, fun k hk => (h2.pair k hk).trans (h1.pair k hk), ?_, ?_, ?_⟩
  · intro k hk
    by_cases e : room2 k = room1 k
    · exact h1.same k (by rw [← e]; exact hk)
    · exact ⟨(h2.same k e).1, (h2.same k e).2.1⟩
  · intro u
    rw [h2.bal u, h1.bal u]
    split <;> split <;> omega
  · intro h0
    rw [h2.nothing (by omega), h1.nothing (by omega)]
theorem Fl.trans {room room1 room2 high2 : Nat → Int} {a b : Int} (h1 : Fl m to tl par cost high s t room room1 a) (h2 : Fl m to tl par cost high2 s t room1 room2 b) :
    (∀ k, k < m → 0 ≤ room2 k) ∧ (∀ k, k < m → room2 k + room2 (par k) = room k + room (par k)) ∧ (∀ u, outflow m tl room2 u = outflow m tl room u - (if s = u then a + b else 0) + (if t = u then a + b else 0)) := by
  refine ⟨h2.nonneg, fun k hk => (h2.pair k hk).trans (h1.pair k hk), fun u => ?_⟩
  rw [h2.bal u, h1.bal u]
  split <;> split <;> omega
end
end Go.KL
end

section
/- Walks: small functions of package flow. -/
namespace Go.KL
open Go.Proofs
attribute [local irreducible] SC St Fin Sq Sw Ylds Doos Sets Enters Spec CellIs CellsAre Then Ret Rnd Chn resOK ints bools recs arr
theorem within_spec (C : World → Prop) (m lo hi : Int) : Spec Try.prog 46 #[.int .i64 m, .int .i64 lo, .int .i64 hi] C (fun _ : Unit => .bool (decide (lo ≤ m ∧ m ≤ hi))) (fun _ => C) := by
  refine enter (args := [_, _, _]) Try.func46 rfl Try.ntmps46 rfl ?_
  by_cases h1 : lo ≤ m
  · (repeat (first | refine c_seq ?_ | refine c_region ?_ | refine c_block ?_ | refine c_ret ?_ | refine c_exit ?_ | refine c_skip ?_ | refine c_label ?_ | refine c_condT rfl ?_ | refine c_condF rfl ?_ | refine s_nil ?_ | refine q_nil ?_ | refine w_nil ?_ | refine f_then ?_ | refine f_thenE ?_ | refine f_thenR ?_ | refine f_blockE ?_ | refine f_blockN ?_ | refine f_blockR ?_ | refine f_blockX rfl ?_ | refine f_rndE ?_ | refine f_rndR ?_ | refine f_cutE ?_ | refine f_cutR ?_ | refine s_skip rfl rfl rfl ?_ | refine q_skip rfl rfl rfl ?_ | refine w_skip rfl rfl rfl ?_ | refine s_skip0 rfl rfl ?_ | refine s_do (do_alloc Try.tab rfl) rfl rfl rfl (fun bx => ?_) | refine s_set (set_rowB Try.tab 0 rfl rfl rfl rfl rfl rfl) rfl rfl ?_ | refine s_set (set_box Try.tab 0 rfl rfl rfl rfl rfl rfl rfl) rfl rfl ?_ | refine s_set (set_rowB Try.tab 1 rfl rfl rfl rfl rfl rfl) rfl rfl ?_ | refine s_set (set_box Try.tab 1 rfl rfl rfl rfl rfl rfl rfl) rfl rfl ?_ | refine s_set (set_rowB Try.tab 2 rfl rfl rfl rfl rfl rfl) rfl rfl ?_ | refine s_set (set_box Try.tab 2 rfl rfl rfl rfl rfl rfl rfl) rfl rfl ?_ | refine s_set (set_rowB Try.tab 3 rfl rfl rfl rfl rfl rfl) rfl rfl ?_ | refine s_set (set_box Try.tab 3 rfl rfl rfl rfl rfl rfl rfl) rfl rfl ?_ | refine s_set (set_rowB Try.tab 4 rfl rfl rfl rfl rfl rfl) rfl rfl ?_ | refine s_set (set_box Try.tab 4 rfl rfl rfl rfl rfl rfl rfl) rfl rfl ?_ | refine s_set (set_rowB Try.tab 5 rfl rfl rfl rfl rfl rfl) rfl rfl ?_ | refine s_set (set_box Try.tab 5 rfl rfl rfl rfl rfl rfl rfl) rfl rfl ?_ | refine s_set (set_rowB Try.tab 6 rfl rfl rfl rfl rfl rfl) rfl rfl ?_ | refine s_set (set_box Try.tab 6 rfl rfl rfl rfl rfl rfl rfl) rfl rfl ?_ | refine s_y (by (first | exact y_move rfl | exact y_assign rfl | exact y_nilP rfl | exact y_fieldAddr0 Try.tab rfl rfl rfl rfl rfl | exact y_fieldAddr Try.tab rfl rfl rfl rfl | exact y_len Try.tab rfl rfl | exact y_pickT rfl rfl | exact y_pickF rfl rfl | exact y_extract rfl rfl | exact y_not rfl | exact y_T (y_lss rfl rfl) (by assumption) | exact y_F (y_lss rfl rfl) (by assumption) | exact y_lss rfl rfl | exact y_T (y_leq rfl rfl) (by assumption) | exact y_F (y_leq rfl rfl) (by assumption) | exact y_leq rfl rfl | exact y_T (y_gtr rfl rfl) (by assumption) | exact y_F (y_gtr rfl rfl) (by assumption) | exact y_gtr rfl rfl | exact y_T (y_geq rfl rfl) (by assumption) | exact y_F (y_geq rfl rfl) (by assumption) | exact y_geq rfl rfl | exact y_T (y_eql rfl rfl) (by assumption) | exact y_F (y_eql rfl rfl) (by assumption) | exact y_eql rfl rfl | exact y_T (y_neq rfl rfl) (by assumption) | exact y_F (y_neq rfl rfl) (by assumption) | exact y_neq rfl rfl | exact y_nilF rfl | exact y_field1 Try.tab rfl rfl rfl rfl rfl | exact y_fieldA Try.tab rfl rfl rfl rfl rfl | exact y_min rfl rfl | exact y_max rfl rfl | exact y_load Try.tab rfl rfl (by assumption) | exact y_load Try.tab rfl rfl (CellIs.cons (by assumption)) | exact y_load Try.tab rfl rfl (CellIs.cons (CellIs.cons (by assumption))) | exact y_loadA Try.tab rfl rfl rfl rfl (by assumption) | exact y_loadA Try.tab rfl rfl rfl rfl (CellsAre.cons (by assumption)) | exact y_load Try.tab rfl rfl (cell_row 0 rfl rfl) | exact y_load Try.tab rfl rfl (cell_row 1 rfl rfl) | exact y_load Try.tab rfl rfl (cell_row 2 rfl rfl) | exact y_load Try.tab rfl rfl (cell_row 3 rfl rfl) | exact y_load Try.tab rfl rfl (cell_row 4 rfl rfl) | exact y_load Try.tab rfl rfl (cell_row 5 rfl rfl) | exact y_load Try.tab rfl rfl (cell_row 6 rfl rfl) | exact y_add rfl rfl (by omega) | exact y_sub rfl rfl (by omega) | exact y_mul rfl rfl (by omega) | exact y_neg rfl (by omega) | exact y_indexAddr1 Try.tab rfl rfl rfl rfl _ rfl (by omega) | exact y_indexAddr0 Try.tab rfl rfl rfl rfl _ rfl (by omega) | exact y_load Try.tab rfl rfl (cell_ints 0 rfl (by omega)) | exact y_load Try.tab rfl rfl (cell_bools 0 rfl (by omega)) | exact y_load Try.tab rfl rfl (cell_ints 1 rfl (by omega)) | exact y_load Try.tab rfl rfl (cell_bools 1 rfl (by omega)) | exact y_load Try.tab rfl rfl (cell_ints 2 rfl (by omega)) | exact y_load Try.tab rfl rfl (cell_bools 2 rfl (by omega)) | exact y_load Try.tab rfl rfl (cell_ints 3 rfl (by omega)) | exact y_load Try.tab rfl rfl (cell_bools 3 rfl (by omega)) | exact y_load Try.tab rfl rfl (cell_ints 4 rfl (by omega)) | exact y_load Try.tab rfl rfl (cell_bools 4 rfl (by omega)) | exact y_load Try.tab rfl rfl (cell_ints 5 rfl (by omega)) | exact y_load Try.tab rfl rfl (cell_bools 5 rfl (by omega)) | exact y_load Try.tab rfl rfl (cell_ints 6 rfl (by omega)) | exact y_load Try.tab rfl rfl (cell_bools 6 rfl (by omega)))) rfl rfl rfl ?_ | refine q_y (by (first | exact y_move rfl | exact y_assign rfl | exact y_nilP rfl | exact y_fieldAddr0 Try.tab rfl rfl rfl rfl rfl | exact y_fieldAddr Try.tab rfl rfl rfl rfl | exact y_len Try.tab rfl rfl | exact y_pickT rfl rfl | exact y_pickF rfl rfl | exact y_extract rfl rfl | exact y_not rfl | exact y_T (y_lss rfl rfl) (by assumption) | exact y_F (y_lss rfl rfl) (by assumption) | exact y_lss rfl rfl | exact y_T (y_leq rfl rfl) (by assumption) | exact y_F (y_leq rfl rfl) (by assumption) | exact y_leq rfl rfl | exact y_T (y_gtr rfl rfl) (by assumption) | exact y_F (y_gtr rfl rfl) (by assumption) | exact y_gtr rfl rfl | exact y_T (y_geq rfl rfl) (by assumption) | exact y_F (y_geq rfl rfl) (by assumption) | exact y_geq rfl rfl | exact y_T (y_eql rfl rfl) (by assumption) | exact y_F (y_eql rfl rfl) (by assumption) | exact y_eql rfl rfl | exact y_T (y_neq rfl rfl) (by assumption) | exact y_F (y_neq rfl rfl) (by assumption) | exact y_neq rfl rfl | exact y_nilF rfl | exact y_field1 Try.tab rfl rfl rfl rfl rfl | exact y_fieldA Try.tab rfl rfl rfl rfl rfl | exact y_min rfl rfl | exact y_max rfl rfl | exact y_load Try.tab rfl rfl (by assumption) | exact y_load Try.tab rfl rfl (CellIs.cons (by assumption)) | exact y_load Try.tab rfl rfl (CellIs.cons (CellIs.cons (by assumption))) | exact y_loadA Try.tab rfl rfl rfl rfl (by assumption) | exact y_loadA Try.tab rfl rfl rfl rfl (CellsAre.cons (by assumption)) | exact y_load Try.tab rfl rfl (cell_row 0 rfl rfl) | exact y_load Try.tab rfl rfl (cell_row 1 rfl rfl) | exact y_load Try.tab rfl rfl (cell_row 2 rfl rfl) | exact y_load Try.tab rfl rfl (cell_row 3 rfl rfl) | exact y_load Try.tab rfl rfl (cell_row 4 rfl rfl) | exact y_load Try.tab rfl rfl (cell_row 5 rfl rfl) | exact y_load Try.tab rfl rfl (cell_row 6 rfl rfl) | exact y_add rfl rfl (by omega) | exact y_sub rfl rfl (by omega) | exact y_mul rfl rfl (by omega) | exact y_neg rfl (by omega) | exact y_indexAddr1 Try.tab rfl rfl rfl rfl _ rfl (by omega) | exact y_indexAddr0 Try.tab rfl rfl rfl rfl _ rfl (by omega) | exact y_load Try.tab rfl rfl (cell_ints 0 rfl (by omega)) | exact y_load Try.tab rfl rfl (cell_bools 0 rfl (by omega)) | exact y_load Try.tab rfl rfl (cell_ints 1 rfl (by omega)) | exact y_load Try.tab rfl rfl (cell_bools 1 rfl (by omega)) | exact y_load Try.tab rfl rfl (cell_ints 2 rfl (by omega)) | exact y_load Try.tab rfl rfl (cell_bools 2 rfl (by omega)) | exact y_load Try.tab rfl rfl (cell_ints 3 rfl (by omega)) | exact y_load Try.tab rfl rfl (cell_bools 3 rfl (by omega)) | exact y_load Try.tab rfl rfl (cell_ints 4 rfl (by omega)) | exact y_load Try.tab rfl rfl (cell_bools 4 rfl (by omega)) | exact y_load Try.tab rfl rfl (cell_ints 5 rfl (by omega)) | exact y_load Try.tab rfl rfl (cell_bools 5 rfl (by omega)) | exact y_load Try.tab rfl rfl (cell_ints 6 rfl (by omega)) | exact y_load Try.tab rfl rfl (cell_bools 6 rfl (by omega)))) rfl rfl rfl ?_ | refine w_y (by (first | exact y_move rfl | exact y_assign rfl | exact y_nilP rfl | exact y_fieldAddr0 Try.tab rfl rfl rfl rfl rfl | exact y_fieldAddr Try.tab rfl rfl rfl rfl | exact y_len Try.tab rfl rfl | exact y_pickT rfl rfl | exact y_pickF rfl rfl | exact y_extract rfl rfl | exact y_not rfl | exact y_T (y_lss rfl rfl) (by assumption) | exact y_F (y_lss rfl rfl) (by assumption) | exact y_lss rfl rfl | exact y_T (y_leq rfl rfl) (by assumption) | exact y_F (y_leq rfl rfl) (by assumption) | exact y_leq rfl rfl | exact y_T (y_gtr rfl rfl) (by assumption) | exact y_F (y_gtr rfl rfl) (by assumption) | exact y_gtr rfl rfl | exact y_T (y_geq rfl rfl) (by assumption) | exact y_F (y_geq rfl rfl) (by assumption) | exact y_geq rfl rfl | exact y_T (y_eql rfl rfl) (by assumption) | exact y_F (y_eql rfl rfl) (by assumption) | exact y_eql rfl rfl | exact y_T (y_neq rfl rfl) (by assumption) | exact y_F (y_neq rfl rfl) (by assumption) | exact y_neq rfl rfl | exact y_nilF rfl | exact y_field1 Try.tab rfl rfl rfl rfl rfl | exact y_fieldA Try.tab rfl rfl rfl rfl rfl | exact y_min rfl rfl | exact y_max rfl rfl | exact y_load Try.tab rfl rfl (by assumption) | exact y_load Try.tab rfl rfl (CellIs.cons (by assumption)) | exact y_load Try.tab rfl rfl (CellIs.cons (CellIs.cons (by assumption))) | exact y_loadA Try.tab rfl rfl rfl rfl (by assumption) | exact y_loadA Try.tab rfl rfl rfl rfl (CellsAre.cons (by assumption)) | exact y_load Try.tab rfl rfl (cell_row 0 rfl rfl) | exact y_load Try.tab rfl rfl (cell_row 1 rfl rfl) | exact y_load Try.tab rfl rfl (cell_row 2 rfl rfl) | exact y_load Try.tab rfl rfl (cell_row 3 rfl rfl) | exact y_load Try.tab rfl rfl (cell_row 4 rfl rfl) | exact y_load Try.tab rfl rfl (cell_row 5 rfl rfl) | exact y_load Try.tab rfl rfl (cell_row 6 rfl rfl) | exact y_add rfl rfl (by omega) | exact y_sub rfl rfl (by omega) | exact y_mul rfl rfl (by omega) | exact y_neg rfl (by omega) | exact y_indexAddr1 Try.tab rfl rfl rfl rfl _ rfl (by omega) | exact y_indexAddr0 Try.tab rfl rfl rfl rfl _ rfl (by omega) | exact y_load Try.tab rfl rfl (cell_ints 0 rfl (by omega)) | exact y_load Try.tab rfl rfl (cell_bools 0 rfl (by omega)) | exact y_load Try.tab rfl rfl (cell_ints 1 rfl (by omega)) | exact y_load Try.tab rfl rfl (cell_bools 1 rfl (by omega)) | exact y_load Try.tab rfl rfl (cell_ints 2 rfl (by omega)) | exact y_load Try.tab rfl rfl (cell_bools 2 rfl (by omega)) | exact y_load Try.tab rfl rfl (cell_ints 3 rfl (by omega)) | exact y_load Try.tab rfl rfl (cell_bools 3 rfl (by omega)) | exact y_load Try.tab rfl rfl (cell_ints 4 rfl (by omega)) | exact y_load Try.tab rfl rfl (cell_bools 4 rfl (by omega)) | exact y_load Try.tab rfl rfl (cell_ints 5 rfl (by omega)) | exact y_load Try.tab rfl rfl (cell_bools 5 rfl (by omega)) | exact y_load Try.tab rfl rfl (cell_ints 6 rfl (by omega)) | exact y_load Try.tab rfl rfl (cell_bools 6 rfl (by omega)))) rfl rfl rfl ?_))
    refine f_retE () (res1 rfl rfl) (by simp [h1]) (fun _ h => h)
  · (repeat (first | refine c_seq ?_ | refine c_region ?_ | refine c_block ?_ | refine c_ret ?_ | refine c_exit ?_ | refine c_skip ?_ | refine c_label ?_ | refine c_condT rfl ?_ | refine c_condF rfl ?_ | refine s_nil ?_ | refine q_nil ?_ | refine w_nil ?_ | refine f_then ?_ | refine f_thenE ?_ | refine f_thenR ?_ | refine f_blockE ?_ | refine f_blockN ?_ | refine f_blockR ?_ | refine f_blockX rfl ?_ | refine f_rndE ?_ | refine f_rndR ?_ | refine f_cutE ?_ | refine f_cutR ?_ | refine s_skip rfl rfl rfl ?_ | refine q_skip rfl rfl rfl ?_ | refine w_skip rfl rfl rfl ?_ | refine s_skip0 rfl rfl ?_ | refine s_do (do_alloc Try.tab rfl) rfl rfl rfl (fun bx => ?_) | refine s_set (set_rowB Try.tab 0 rfl rfl rfl rfl rfl rfl) rfl rfl ?_ | refine s_set (set_box Try.tab 0 rfl rfl rfl rfl rfl rfl rfl) rfl rfl ?_ | refine s_set (set_rowB Try.tab 1 rfl rfl rfl rfl rfl rfl) rfl rfl ?_ | refine s_set (set_box Try.tab 1 rfl rfl rfl rfl rfl rfl rfl) rfl rfl ?_ | refine s_set (set_rowB Try.tab 2 rfl rfl rfl rfl rfl rfl) rfl rfl ?_ | refine s_set (set_box Try.tab 2 rfl rfl rfl rfl rfl rfl rfl) rfl rfl ?_ | refine s_set (set_rowB Try.tab 3 rfl rfl rfl rfl rfl rfl) rfl rfl ?_ | refine s_set (set_box Try.tab 3 rfl rfl rfl rfl rfl rfl rfl) rfl rfl ?_ | refine s_set (set_rowB Try.tab 4 rfl rfl rfl rfl rfl rfl) rfl rfl ?_ | refine s_set (set_box Try.tab 4 rfl rfl rfl rfl rfl rfl rfl) rfl rfl ?_ | refine s_set (set_rowB Try.tab 5 rfl rfl rfl rfl rfl rfl) rfl rfl ?_ | refine s_set (set_box Try.tab 5 rfl rfl rfl rfl rfl rfl rfl) rfl rfl ?_ | refine s_set (set_rowB Try.tab 6 rfl rfl rfl rfl rfl rfl) rfl rfl ?_ | refine s_set (set_box Try.tab 6 rfl rfl rfl rfl rfl rfl rfl) rfl rfl ?_ | refine s_y (by (first | exact y_move rfl | exact y_assign rfl | exact y_nilP rfl | exact y_fieldAddr0 Try.tab rfl rfl rfl rfl rfl | exact y_fieldAddr Try.tab rfl rfl rfl rfl | exact y_len Try.tab rfl rfl | exact y_pickT rfl rfl | exact y_pickF rfl rfl | exact y_extract rfl rfl | exact y_not rfl | exact y_T (y_lss rfl rfl) (by assumption) | exact y_F (y_lss rfl rfl) (by assumption) | exact y_lss rfl rfl | exact y_T (y_leq rfl rfl) (by assumption) | exact y_F (y_leq rfl rfl) (by assumption) | exact y_leq rfl rfl | exact y_T (y_gtr rfl rfl) (by assumption) | exact y_F (y_gtr rfl rfl) (by assumption) | exact y_gtr rfl rfl | exact y_T (y_geq rfl rfl) (by assumption) | exact y_F (y_geq rfl rfl) (by assumption) | exact y_geq rfl rfl | exact y_T (y_eql rfl rfl) (by assumption) | exact y_F (y_eql rfl rfl) (by assumption) | exact y_eql rfl rfl | exact y_T (y_neq rfl rfl) (by assumption) | exact y_F (y_neq rfl rfl) (by assumption) | exact y_neq rfl rfl | exact y_nilF rfl | exact y_field1 Try.tab rfl rfl rfl rfl rfl | exact y_fieldA Try.tab rfl rfl rfl rfl rfl | exact y_min rfl rfl | exact y_max rfl rfl | exact y_load Try.tab rfl rfl (by assumption) | exact y_load Try.tab rfl rfl (CellIs.cons (by assumption)) | exact y_load Try.tab rfl rfl (CellIs.cons (CellIs.cons (by assumption))) | exact y_loadA Try.tab rfl rfl rfl rfl (by assumption) | exact y_loadA Try.tab rfl rfl rfl rfl (CellsAre.cons (by assumption)) | exact y_load Try.tab rfl rfl (cell_row 0 rfl rfl) | exact y_load Try.tab rfl rfl (cell_row 1 rfl rfl) | exact y_load Try.tab rfl rfl (cell_row 2 rfl rfl) | exact y_load Try.tab rfl rfl (cell_row 3 rfl rfl) | exact y_load Try.tab rfl rfl (cell_row 4 rfl rfl) | exact y_load Try.tab rfl rfl (cell_row 5 rfl rfl) | exact y_load Try.tab rfl rfl (cell_row 6 rfl rfl) | exact y_add rfl rfl (by omega) | exact y_sub rfl rfl (by omega) | exact y_mul rfl rfl (by omega) | exact y_neg rfl (by omega) | exact y_indexAddr1 Try.tab rfl rfl rfl rfl _ rfl (by omega) | exact y_indexAddr0 Try.tab rfl rfl rfl rfl _ rfl (by omega) | exact y_load Try.tab rfl rfl (cell_ints 0 rfl (by omega)) | exact y_load Try.tab rfl rfl (cell_bools 0 rfl (by omega)) | exact y_load Try.tab rfl rfl (cell_ints 1 rfl (by omega)) | exact y_load Try.tab rfl rfl (cell_bools 1 rfl (by omega)) | exact y_load Try.tab rfl rfl (cell_ints 2 rfl (by omega)) | exact y_load Try.tab rfl rfl (cell_bools 2 rfl (by omega)) | exact y_load Try.tab rfl rfl (cell_ints 3 rfl (by omega)) | exact y_load Try.tab rfl rfl (cell_bools 3 rfl (by omega)) | exact y_load Try.tab rfl rfl (cell_ints 4 rfl (by omega)) | exact y_load Try.tab rfl rfl (cell_bools 4 rfl (by omega)) | exact y_load Try.tab rfl rfl (cell_ints 5 rfl (by omega)) | exact y_load Try.tab rfl rfl (cell_bools 5 rfl (by omega)) | exact y_load Try.tab rfl rfl (cell_ints 6 rfl (by omega)) | exact y_load Try.tab rfl rfl (cell_bools 6 rfl (by omega)))) rfl rfl rfl ?_ | refine q_y (by (first | exact y_move rfl | exact y_assign rfl | exact y_nilP rfl | exact y_fieldAddr0 Try.tab rfl rfl rfl rfl rfl | exact y_fieldAddr Try.tab rfl rfl rfl rfl | exact y_len Try.tab rfl rfl | exact y_pickT rfl rfl | exact y_pickF rfl rfl | exact y_extract rfl rfl | exact y_not rfl | exact y_T (y_lss rfl rfl) (by assumption) | exact y_F (y_lss rfl rfl) (by assumption) | exact y_lss rfl rfl | exact y_T (y_leq rfl rfl) (by assumption) | exact y_F (y_leq rfl rfl) (by assumption) | exact y_leq rfl rfl | exact y_T (y_gtr rfl rfl) (by assumption) | exact y_F (y_gtr rfl rfl) (by assumption) | exact y_gtr rfl rfl | exact y_T (y_geq rfl rfl) (by assumption) | exact y_F (y_geq rfl rfl) (by assumption) | exact y_geq rfl rfl | exact y_T (y_eql rfl rfl) (by assumption) | exact y_F (y_eql rfl rfl) (by assumption) | exact y_eql rfl rfl | exact y_T (y_neq rfl rfl) (by assumption) | exact y_F (y_neq rfl rfl) (by assumption) | exact y_neq rfl rfl | exact y_nilF rfl | exact y_field1 Try.tab rfl rfl rfl rfl rfl | exact y_fieldA Try.tab rfl rfl rfl rfl rfl | exact y_min rfl rfl | exact y_max rfl rfl | exact y_load Try.tab rfl rfl (by assumption) | exact y_load Try.tab rfl rfl (CellIs.cons (by assumption)) | exact y_load Try.tab rfl rfl (CellIs.cons (CellIs.cons (by assumption))) | exact y_loadA Try.tab rfl rfl rfl rfl (by assumption) | exact y_loadA Try.tab rfl rfl rfl rfl (CellsAre.cons (by assumption)) | exact y_load Try.tab rfl rfl (cell_row 0 rfl rfl) | exact y_load Try.tab rfl rfl (cell_row 1 rfl rfl) | exact y_load Try.tab rfl rfl (cell_row 2 rfl rfl) | exact y_load Try.tab rfl rfl (cell_row 3 rfl rfl) | exact y_load Try.tab rfl rfl (cell_row 4 rfl rfl) | exact y_load Try.tab rfl rfl (cell_row 5 rfl rfl) | exact y_load Try.tab rfl rfl (cell_row 6 rfl rfl) | exact y_add rfl rfl (by omega) | exact y_sub rfl rfl (by omega) | exact y_mul rfl rfl (by omega) | exact y_neg rfl (by omega) | exact y_indexAddr1 Try.tab rfl rfl rfl rfl _ rfl (by omega) | exact y_indexAddr0 Try.tab rfl rfl rfl rfl _ rfl (by omega) | exact y_load Try.tab rfl rfl (cell_ints 0 rfl (by omega)) | exact y_load Try.tab rfl rfl (cell_bools 0 rfl (by omega)) | exact y_load Try.tab rfl rfl (cell_ints 1 rfl (by omega)) | exact y_load Try.tab rfl rfl (cell_bools 1 rfl (by omega)) | exact y_load Try.tab rfl rfl (cell_ints 2 rfl (by omega)) | exact y_load Try.tab rfl rfl (cell_bools 2 rfl (by omega)) | exact y_load Try.tab rfl rfl (cell_ints 3 rfl (by omega)) | exact y_load Try.tab rfl rfl (cell_bools 3 rfl (by omega)) | exact y_load Try.tab rfl rfl (cell_ints 4 rfl (by omega)) | exact y_load Try.tab rfl rfl (cell_bools 4 rfl (by omega)) | exact y_load Try.tab rfl rfl (cell_ints 5 rfl (by omega)) | exact y_load Try.tab rfl rfl (cell_bools 5 rfl (by omega)) | exact y_load Try.tab rfl rfl (cell_ints 6 rfl (by omega)) | exact y_load Try.tab rfl rfl (cell_bools 6 rfl (by omega)))) rfl rfl rfl ?_ | refine w_y (by (first | exact y_move rfl | exact y_assign rfl | exact y_nilP rfl | exact y_fieldAddr0 Try.tab rfl rfl rfl rfl rfl | exact y_fieldAddr Try.tab rfl rfl rfl rfl | exact y_len Try.tab rfl rfl | exact y_pickT rfl rfl | exact y_pickF rfl rfl | exact y_extract rfl rfl | exact y_not rfl | exact y_T (y_lss rfl rfl) (by assumption) | exact y_F (y_lss rfl rfl) (by assumption) | exact y_lss rfl rfl | exact y_T (y_leq rfl rfl) (by assumption) | exact y_F (y_leq rfl rfl) (by assumption) | exact y_leq rfl rfl | exact y_T (y_gtr rfl rfl) (by assumption) | exact y_F (y_gtr rfl rfl) (by assumption) | exact y_gtr rfl rfl | exact y_T (y_geq rfl rfl) (by assumption) | exact y_F (y_geq rfl rfl) (by assumption) | exact y_geq rfl rfl | exact y_T (y_eql rfl rfl) (by assumption) | exact y_F (y_eql rfl rfl) (by assumption) | exact y_eql rfl rfl | exact y_T (y_neq rfl rfl) (by assumption) | exact y_F (y_neq rfl rfl) (by assumption) | exact y_neq rfl rfl | exact y_nilF rfl | exact y_field1 Try.tab rfl rfl rfl rfl rfl | exact y_fieldA Try.tab rfl rfl rfl rfl rfl | exact y_min rfl rfl | exact y_max rfl rfl | exact y_load Try.tab rfl rfl (by assumption) | exact y_load Try.tab rfl rfl (CellIs.cons (by assumption)) | exact y_load Try.tab rfl rfl (CellIs.cons (CellIs.cons (by assumption))) | exact y_loadA Try.tab rfl rfl rfl rfl (by assumption) | exact y_loadA Try.tab rfl rfl rfl rfl (CellsAre.cons (by assumption)) | exact y_load Try.tab rfl rfl (cell_row 0 rfl rfl) | exact y_load Try.tab rfl rfl (cell_row 1 rfl rfl) | exact y_load Try.tab rfl rfl (cell_row 2 rfl rfl) | exact y_load Try.tab rfl rfl (cell_row 3 rfl rfl) | exact y_load Try.tab rfl rfl (cell_row 4 rfl rfl) | exact y_load Try.tab rfl rfl (cell_row 5 rfl rfl) | exact y_load Try.tab rfl rfl (cell_row 6 rfl rfl) | exact y_add rfl rfl (by omega) | exact y_sub rfl rfl (by omega) | exact y_mul rfl rfl (by omega) | exact y_neg rfl (by omega) | exact y_indexAddr1 Try.tab rfl rfl rfl rfl _ rfl (by omega) | exact y_indexAddr0 Try.tab rfl rfl rfl rfl _ rfl (by omega) | exact y_load Try.tab rfl rfl (cell_ints 0 rfl (by omega)) | exact y_load Try.tab rfl rfl (cell_bools 0 rfl (by omega)) | exact y_load Try.tab rfl rfl (cell_ints 1 rfl (by omega)) | exact y_load Try.tab rfl rfl (cell_bools 1 rfl (by omega)) | exact y_load Try.tab rfl rfl (cell_ints 2 rfl (by omega)) | exact y_load Try.tab rfl rfl (cell_bools 2 rfl (by omega)) | exact y_load Try.tab rfl rfl (cell_ints 3 rfl (by omega)) | exact y_load Try.tab rfl rfl (cell_bools 3 rfl (by omega)) | exact y_load Try.tab rfl rfl (cell_ints 4 rfl (by omega)) | exact y_load Try.tab rfl rfl (cell_bools 4 rfl (by omega)) | exact y_load Try.tab rfl rfl (cell_ints 5 rfl (by omega)) | exact y_load Try.tab rfl rfl (cell_bools 5 rfl (by omega)) | exact y_load Try.tab rfl rfl (cell_ints 6 rfl (by omega)) | exact y_load Try.tab rfl rfl (cell_bools 6 rfl (by omega)))) rfl rfl rfl ?_))
    refine f_retE () (res1 rfl rfl) (by simp [h1]) (fun _ h => h)
end Go.KL
end

section
/- Walks: used, reduced. -/
namespace Go.KL
open Go.Proofs
attribute [local irreducible] SC St Fin Sq Sw Ylds Doos Sets Enters Spec CellIs CellsAre Then Ret Rnd resOK ints bools recs arr
/-- A link's three cells. -/
def lnk (to room cost : Nat → Int) : Nat → Nat → Value := fun k j => match j with
  | 0 => .int .i64 (to k)
  | 1 => .int .i64 (room k)
  | _ => .int .i64 (cost k)

theorem used_spec (C : World → Prop) (p bl nl cl k : Nat) (r : Int) (h1 : CellIs C ⟨p, 0, none⟩ (.slice (some ⟨bl, 0, none⟩) nl cl)) (h2 : CellIs C ⟨bl, (2 * k + 1) * 3 + 1, none⟩ (.int .i64 r)) (hk : 2 * k + 1 < nl) (hb : nl ≤ 1000000) :
    Spec Try.prog 43 #[.pointer (some ⟨p, 0, none⟩), .int .i64 k] C (fun _ : Unit => .int .i64 r) (fun _ => C) := by
  refine enter (args := [_, _]) Try.func43 rfl Try.ntmps43 rfl ?_
  refine c_seq ?_
  refine c_region ?_
  refine s_y (y_assign rfl) rfl rfl rfl ?_
  refine s_nil ?_
  refine f_then ?_
  refine c_seq ?_
  refine c_region ?_
  refine s_y (y_move rfl) rfl rfl rfl ?_
  refine s_y (y_nilP rfl) rfl rfl rfl ?_
  refine s_y (y_fieldAddr0 Try.tab rfl rfl rfl rfl rfl) rfl rfl rfl ?_
  refine s_y (y_load Try.tab rfl rfl (by assumption)) rfl rfl rfl ?_
  refine s_y (y_move rfl) rfl rfl rfl ?_
  refine s_y (y_mul rfl rfl (by omega)) rfl rfl rfl ?_
  refine s_y (y_add rfl rfl (by omega)) rfl rfl rfl ?_
  refine s_y (y_indexAddr0 (s := 3) Try.tab rfl rfl rfl rfl _ rfl (by omega)) rfl rfl rfl ?_
  refine s_y (y_fieldAddr Try.tab 1 rfl rfl rfl rfl rfl) rfl rfl rfl ?_
  refine s_y (y_load Try.tab rfl rfl (by assumption)) rfl rfl rfl ?_
  refine s_y (y_assign rfl) rfl rfl rfl ?_
  refine s_nil ?_
  refine f_then ?_
  refine c_ret ?_
  exact f_ret () (res1 rfl rfl) (fun _ h => h)

theorem reduced_spec (W : World) (Ls : List Chunk) (p bl nl cl bh n ch k u t : Nat) (r c hu ht : Int) (h1 : CellIs (K W Ls) ⟨p, 0, none⟩ (.slice (some ⟨bl, 0, none⟩) nl cl)) (h2 : CellsAre (K W Ls) ⟨bl, k * 3, none⟩ [.int .i64 t, .int .i64 r, .int .i64 c]) (hk : k < nl)
    (h3 : CellIs (K W Ls) ⟨p, 4, none⟩ (.slice (some ⟨bh, 0, none⟩) n ch)) (h4 : CellIs (K W Ls) ⟨bh, u, none⟩ (.int .i64 hu)) (h5 : CellIs (K W Ls) ⟨bh, t, none⟩ (.int .i64 ht)) (hu' : u < n) (ht' : t < n)
    (hb : -1000000000000000000 ≤ c ∧ c ≤ 1000000000000000000 ∧ -1000000000000000000 ≤ hu ∧ hu ≤ 1000000000000000000 ∧ -1000000000000000000 ≤ ht ∧ ht ≤ 1000000000000000000) :
    Spec Try.prog 57 #[.pointer (some ⟨p, 0, none⟩), .int .i64 u, .int .i64 k] (K W Ls) (fun _ : Unit => .int .i64 (c + hu - ht)) (fun _ => K W Ls) := by
  refine enter (args := [_, _, _]) Try.func57 rfl Try.ntmps57 rfl ?_
  refine c_seq ?_
  refine c_region ?_
  refine s_y (y_assign rfl) rfl rfl rfl ?_
  refine s_nil ?_
  refine f_then ?_
  refine c_seq ?_
  refine c_region ?_
  refine s_y (y_move rfl) rfl rfl rfl ?_
  refine s_y (y_nilP rfl) rfl rfl rfl ?_
  refine s_y (y_fieldAddr0 Try.tab rfl rfl rfl rfl rfl) rfl rfl rfl ?_
  refine s_y (y_load Try.tab rfl rfl (by assumption)) rfl rfl rfl ?_
  refine s_y (y_move rfl) rfl rfl rfl ?_
  refine s_y (y_indexAddr0 (s := 3) Try.tab rfl rfl rfl rfl _ rfl (by omega)) rfl rfl rfl ?_
  refine s_y (y_loadA Try.tab rfl rfl rfl rfl (by assumption)) rfl rfl rfl ?_
  refine s_do (do_alloc Try.tab rfl) rfl rfl rfl (fun b7 => ?_)
  refine s_set (set_box Try.tab 0 rfl rfl rfl rfl rfl rfl rfl) rfl rfl ?_
  refine s_nil ?_
  refine f_then ?_
  refine c_seq ?_
  refine c_quiet Try.mixed (by kernel_rfl) K.drew ?_
  refine q_y (y_fieldAddrB Try.tab 2 rfl rfl rfl rfl rfl) rfl rfl rfl ?_
  refine q_y (y_load Try.tab rfl rfl (cell_row 0 rfl rfl)) rfl rfl rfl ?_
  refine q_y (y_move rfl) rfl rfl rfl ?_
  refine q_y (y_nilP rfl) rfl rfl rfl ?_
  refine q_y (y_fieldAddrB Try.tab 4 rfl rfl rfl rfl rfl) rfl rfl rfl ?_
  refine q_y (y_load Try.tab rfl rfl (CellIs.cons (by assumption))) rfl rfl rfl ?_
  refine q_y (y_move rfl) rfl rfl rfl ?_
  refine q_y (y_indexAddr1 Try.tab rfl rfl rfl rfl _ rfl (by omega)) rfl rfl rfl ?_
  refine q_y (y_load Try.tab rfl rfl (CellIs.cons (by assumption))) rfl rfl rfl ?_
  refine q_y (y_add rfl rfl (by omega)) rfl rfl rfl ?_
  refine q_y (y_move rfl) rfl rfl rfl ?_
  refine q_y (y_nilP rfl) rfl rfl rfl ?_
  refine q_y (y_fieldAddrB Try.tab 4 rfl rfl rfl rfl rfl) rfl rfl rfl ?_
  refine q_y (y_load Try.tab rfl rfl (CellIs.cons (by assumption))) rfl rfl rfl ?_
  refine q_y (y_fieldAddr0 Try.tab rfl rfl rfl rfl rfl) rfl rfl rfl ?_
  refine q_y (y_load Try.tab rfl rfl (cell_row 0 rfl rfl)) rfl rfl rfl ?_
  refine q_y (y_indexAddr1 Try.tab rfl rfl rfl rfl _ rfl (by omega)) rfl rfl rfl ?_
  refine q_y (y_load Try.tab rfl rfl (CellIs.cons (by assumption))) rfl rfl rfl ?_
  refine q_y (y_sub rfl rfl (by omega)) rfl rfl rfl ?_
  refine q_y (y_assign rfl) rfl rfl rfl ?_
  refine q_nil ?_
  refine f_then ?_
  refine c_ret ?_
  exact f_ret () (res1 rfl rfl) (fun _ h => h.tail)
end Go.KL
end

section
/- Walks: newNetwork. -/
namespace Go.KL
open Go.Proofs
attribute [local irreducible] SC St Fin Sq Sw Ylds Doos Sets Enters Spec CellIs CellsAre Then Ret Rnd resOK ints bools recs arr
theorem newNetwork_spec (W : World) (Ls : List Chunk) (n : Nat) (hn : n ≤ 100000) :
    Spec Try.prog 40 #[.int .i64 n] (K W Ls) (fun x : Nat × Nat × Nat => .pointer (some ⟨x.1, 0, none⟩))
      (fun x => K W ([(x.1, row 78 [nilS, .slice (some ⟨x.2.1, 0, none⟩) n n, nilS, nilS, .slice (some ⟨x.2.2, 0, none⟩) n n])] :: [(x.2.1, arr 26 n (fun _ => nilS) [])] :: [(x.2.2, ints 3 n (fun _ => 0) [])] :: Ls)) := by
  refine enter (args := [_]) Try.func40 rfl Try.ntmps40 rfl ?_
  refine c_seq ?_
  refine c_region ?_
  refine s_y (y_assign rfl) rfl rfl rfl ?_
  refine s_nil ?_
  refine f_then ?_
  refine c_seq ?_
  refine c_plan [.c 0, .c 2, .t 1 3, .c 4, .s 5, .c 6] [] ((K W Ls)) Try.mixed (by kernel_rfl) rfl K.cl ?_
  refine d_c rfl (Qui.ylds (y_move rfl)) rfl rfl rfl (fun _ h => h) K.cl ?_
  refine d_c rfl (Qui.ylds (y_move rfl)) rfl rfl rfl (fun _ h => h) K.cl ?_
  refine d_two rfl rfl rfl rfl rfl rfl rfl rfl (makes (by_ := 24) Try.tab rfl rfl rfl rfl rfl rfl (by omega)) (fun x => ⟨rfl, make_ints (by_ := 8) Try.tab rfl rfl rfl rfl rfl rfl (by omega)⟩) (make_ints (by_ := 8) Try.tab rfl rfl rfl rfl rfl rfl (by omega)) (fun x => ⟨rfl, makes (by_ := 24) Try.tab rfl rfl rfl rfl rfl rfl (by omega)⟩)
    (fun _ => K.cl) (fun _ _ => K.cl) (fun _ => K.cl) (fun _ _ => K.cl) (fun _ _ _ h => h.tail) (fun _ _ _ _ h => h.tail.tail) (fun _ _ _ h => h.tail) (fun _ _ _ _ h => h.tail.tail) (fun bo bh => ?_) (fun bh bo => ?_)
  · refine d_c rfl (Qui.ylds (y_build Try.tab rfl rfl rfl rfl rfl)) rfl rfl rfl (fun _ h => h.tail.tail) K.cl ?_
    refine d_s rfl (do_box rfl) rfl rfl rfl (fun _ => K.cl) (fun _ _ _ h => h.tail.tail.tail) (fun b8 => ?_)
    refine d_c rfl (Qui.ylds (y_assign rfl)) rfl rfl rfl (fun _ h => h.tail.tail.tail) K.cl ?_
    refine d_nil ?_
    refine f_then ?_
    refine c_ret ?_
    exact f_ret (b8, bo, bh) (res1 rfl rfl) (fun _ h => (h.front 2).front 1)
  · refine d_c rfl (Qui.ylds (y_build Try.tab rfl rfl rfl rfl rfl)) rfl rfl rfl (fun _ h => h.tail.tail) K.cl ?_
    refine d_s rfl (do_box rfl) rfl rfl rfl (fun _ => K.cl) (fun _ _ _ h => h.tail.tail.tail) (fun b8 => ?_)
    refine d_c rfl (Qui.ylds (y_assign rfl)) rfl rfl rfl (fun _ h => h.tail.tail.tail) K.cl ?_
    refine d_nil ?_
    refine f_then ?_
    refine c_ret ?_
    exact f_ret (b8, bo, bh) (res1 rfl rfl) (fun _ h => h)
end Go.KL
end

section
/- Walks: add. -/
namespace Go.KL
open Go.Proofs
attribute [local irreducible] SC St Fin Sq Sw Ylds Doos Sets Enters Spec CellIs CellsAre Then Ret Rnd resOK ints bools recs arr
attribute [local irreducible] rowv lvals rvals
/-- The network while it is built. -/
def bnet (p bo n m : Nat) (hs : Value) (L : Option Own) (R : Nat → Option Own) (g : Nat → Nat → Value) (outs : Nat → List Nat) (F : List Chunk) : List Chunk :=
  [(p, row 78 [ov L m, .slice (some ⟨bo, 0, none⟩) n n, nilS, nilS, hs])] :: [(bo, arr 26 n (rowv R outs) [])] :: oc 85 L (lvals m g) :: (rowsC n R outs ++ F)

set_option maxHeartbeats 2000000 in
theorem add_spec (W : World) (F : List Chunk) (p bo n m from_ to_ : Nat) (room cost : Int) (hs : Value) (L : Option Own) (R : Nat → Option Own) (g : Nat → Nat → Value) (outs : Nat → List Nat)
    (hL : owfO 3 L m (lvals m g)) (hR : rowsOK n R outs) (hf : from_ < n) (ht : to_ < n) (hm : m ≤ 1000000) (hout : ∀ v, v < n → (outs v).length ≤ m) (hcost : -1000000000000 ≤ cost ∧ cost ≤ 1000000000000) :
    Spec Try.prog 41 #[.pointer (some ⟨p, 0, none⟩), .int .i64 from_, .int .i64 to_, .int .i64 room, .int .i64 cost] (K W (bnet p bo n m hs L R g outs F)) (X := { x : Option Own × (Nat → Option Own) // owfO 3 x.1 (m + 2) (lvals (m + 2) (put2 g m (fun j => match j with | 0 => .int .i64 to_ | 1 => .int .i64 room | _ => .int .i64 cost) (fun j => match j with | 0 => .int .i64 from_ | 1 => .int .i64 0 | _ => .int .i64 (-cost)))) ∧ rowsOK n x.2 (upd (upd outs from_ (outs from_ ++ [m])) to_ (upd outs from_ (outs from_ ++ [m]) to_ ++ [m + 1])) })
      (fun _ => .tuple #[])
      (fun x => K W (bnet p bo n (m + 2) hs x.1.1 x.1.2 (put2 g m (fun j => match j with | 0 => .int .i64 to_ | 1 => .int .i64 room | _ => .int .i64 cost) (fun j => match j with | 0 => .int .i64 from_ | 1 => .int .i64 0 | _ => .int .i64 (-cost))) (upd (upd outs from_ (outs from_ ++ [m])) to_ (upd outs from_ (outs from_ ++ [m]) to_ ++ [m + 1])) F)) := by
  refine enter (args := [_, _, _, _, _]) Try.func41 rfl Try.ntmps41 rfl ?_
  refine c_seq ?_
  have hD : ∀ w, K W (bnet p bo n m hs L R g outs F) w → K W [[(p, row 78 [ov L m, .slice (some ⟨bo, 0, none⟩) n n, nilS, nilS, hs])], [(bo, arr 26 n (rowv R outs) [])]] w := fun w h => h.keep 2
  refine c_plan [.c 0, .c 1, .c 2, .c 3, .c 4, .c 5, .c 6, .c 7, .c 8, .c 9, .c 10, .c 11, .c 12, .c 13, .c 14, .c 15, .c 16, .s 17, .s 18, .c 19, .s 20] [20] ((K W [[(p, row 78 [ov L m, .slice (some ⟨bo, 0, none⟩) n n, nilS, nilS, hs])], [(bo, arr 26 n (rowv R outs) [])]])) Try.mixed (by kernel_rfl) rfl K.cl ?_
  refine d_c rfl (Qui.ylds (y_move rfl)) rfl rfl rfl hD K.cl ?_
  refine d_c rfl (Qui.ylds (y_nilP rfl)) rfl rfl rfl hD K.cl ?_
  refine d_c rfl (Qui.ylds (y_fieldAddrB Try.tab 1 rfl rfl rfl rfl rfl)) rfl rfl rfl hD K.cl ?_
  refine d_c rfl (Qui.ylds (y_load Try.tab rfl rfl (cell_row 0 rfl rfl))) rfl rfl rfl hD K.cl ?_
  refine d_c rfl (Qui.ylds (y_move rfl)) rfl rfl rfl hD K.cl ?_
  refine d_c rfl (Qui.ylds (y_move rfl)) rfl rfl rfl hD K.cl ?_
  refine d_c rfl (Qui.ylds (y_nilP rfl)) rfl rfl rfl hD K.cl ?_
  refine d_c rfl (Qui.ylds (y_fieldAddrB Try.tab 1 rfl rfl rfl rfl rfl)) rfl rfl rfl hD K.cl ?_
  refine d_c rfl (Qui.ylds (y_load Try.tab rfl rfl (cell_row 0 rfl rfl))) rfl rfl rfl hD K.cl ?_
  refine d_c rfl (Qui.ylds (y_move rfl)) rfl rfl rfl hD K.cl ?_
  refine d_c rfl (Qui.ylds (y_indexAddr1 Try.tab rfl rfl rfl rfl _ rfl (by omega))) rfl rfl rfl hD K.cl ?_
  refine d_c rfl (Qui.ylds (y_load Try.tab rfl rfl (cell_arr 1 rfl (by omega)))) rfl rfl rfl hD K.cl ?_
  refine d_c rfl (Qui.ylds (y_move rfl)) rfl rfl rfl hD K.cl ?_
  refine d_c rfl (Qui.ylds (y_nilP rfl)) rfl rfl rfl hD K.cl ?_
  refine d_c rfl (Qui.ylds (y_fieldAddr0 Try.tab rfl rfl rfl rfl rfl)) rfl rfl rfl hD K.cl ?_
  refine d_c rfl (Qui.ylds (y_load Try.tab rfl rfl (cell_row 0 rfl rfl))) rfl rfl rfl hD K.cl ?_
  refine d_c rfl (Qui.ylds (y_lenO Try.tab rfl hL rfl)) rfl rfl rfl hD K.cl ?_
  refine d_s rfl (do_buildSlice1 Try.tab ⟨rfl, rfl, rfl, rfl⟩ rfl rfl rfl rfl) rfl rfl rfl (fun _ => K.cl) (fun _ _ w h => hD w h.tail) (fun b27 => ?_)
  refine d_s rfl (do_rowapp Try.tab [[(b27, row 3 [.int .i64 m])], [(p, row 78 [ov L m, .slice (some ⟨bo, 0, none⟩) n n, nilS, nilS, hs])], [(bo, arr 26 n (rowv R outs) [])], oc 85 L (lvals m g)] rfl rfl ⟨rfl, rfl, rfl, rfl⟩ hf hR (CellsAre.one (cell_row 0 rfl rfl)) (by have := hout from_ hf; omega)) rfl rfl rfl (fun _ => K.cl) (fun _ _ w h => h.tail.keep 2) (fun o1 => ?_)
  refine d_c rfl (Qui.ylds (y_indexAddr1 Try.tab rfl rfl rfl rfl _ rfl (by omega))) rfl rfl rfl (fun w h => h.tail.keep 2) K.cl ?_
  refine d_set rfl (set_arr Try.tab 2 rfl rfl rfl rfl rfl (by omega)) rfl rfl K.cl (fun h => by cases h) ?_
  refine d_nil ?_
  refine f_then ?_
  refine SC.cls (C' := K W (bnet p bo n m hs L (upd R from_ (some o1.1)) g (upd outs from_ (outs from_ ++ [m])) F)) ?_ (fun w h => by rw [rowv_upd] at h; exact h.tail)
  have hR1 := rowsOK_upd (v := from_) hR o1.2
  generalize hRe : upd R from_ (some o1.1) = R1 at hR1 ⊢
  have q1 := hout _ ht
  have q2 := hout _ hf
  have hout1 : (upd outs from_ (outs from_ ++ [m]) to_).length ≤ m + 1 := by
    simp only [upd]
    split
    · simp only [List.length_append, List.length_cons, List.length_nil]; omega
    · omega
  generalize hoe : upd outs from_ (outs from_ ++ [m]) = outs1 at hR1 hout1 ⊢
  refine c_seq ?_
  clear hD
  have hD : ∀ w, K W (bnet p bo n m hs L R1 g outs1 F) w → K W [[(p, row 78 [ov L m, .slice (some ⟨bo, 0, none⟩) n n, nilS, nilS, hs])], [(bo, arr 26 n (rowv R1 outs1) [])]] w := fun w h => h.keep 2
  refine c_plan [.c 0, .c 1, .c 2, .c 3, .c 4, .c 5, .c 6, .c 7, .c 8, .c 9, .c 10, .c 11, .c 12, .c 13, .c 14, .c 15, .c 16, .c 17, .s 18, .s 19, .c 20, .s 21] [21] ((K W [[(p, row 78 [ov L m, .slice (some ⟨bo, 0, none⟩) n n, nilS, nilS, hs])], [(bo, arr 26 n (rowv R1 outs1) [])]])) Try.mixed (by kernel_rfl) rfl K.cl ?_
  refine d_c rfl (Qui.ylds (y_move rfl)) rfl rfl rfl hD K.cl ?_
  refine d_c rfl (Qui.ylds (y_nilP rfl)) rfl rfl rfl hD K.cl ?_
  refine d_c rfl (Qui.ylds (y_fieldAddrB Try.tab 1 rfl rfl rfl rfl rfl)) rfl rfl rfl hD K.cl ?_
  refine d_c rfl (Qui.ylds (y_load Try.tab rfl rfl (cell_row 0 rfl rfl))) rfl rfl rfl hD K.cl ?_
  refine d_c rfl (Qui.ylds (y_move rfl)) rfl rfl rfl hD K.cl ?_
  refine d_c rfl (Qui.ylds (y_move rfl)) rfl rfl rfl hD K.cl ?_
  refine d_c rfl (Qui.ylds (y_nilP rfl)) rfl rfl rfl hD K.cl ?_
  refine d_c rfl (Qui.ylds (y_fieldAddrB Try.tab 1 rfl rfl rfl rfl rfl)) rfl rfl rfl hD K.cl ?_
  refine d_c rfl (Qui.ylds (y_load Try.tab rfl rfl (cell_row 0 rfl rfl))) rfl rfl rfl hD K.cl ?_
  refine d_c rfl (Qui.ylds (y_move rfl)) rfl rfl rfl hD K.cl ?_
  refine d_c rfl (Qui.ylds (y_indexAddr1 Try.tab rfl rfl rfl rfl _ rfl (by omega))) rfl rfl rfl hD K.cl ?_
  refine d_c rfl (Qui.ylds (y_load Try.tab rfl rfl (cell_arr 1 rfl (by omega)))) rfl rfl rfl hD K.cl ?_
  refine d_c rfl (Qui.ylds (y_move rfl)) rfl rfl rfl hD K.cl ?_
  refine d_c rfl (Qui.ylds (y_nilP rfl)) rfl rfl rfl hD K.cl ?_
  refine d_c rfl (Qui.ylds (y_fieldAddr0 Try.tab rfl rfl rfl rfl rfl)) rfl rfl rfl hD K.cl ?_
  refine d_c rfl (Qui.ylds (y_load Try.tab rfl rfl (cell_row 0 rfl rfl))) rfl rfl rfl hD K.cl ?_
  refine d_c rfl (Qui.ylds (y_lenO Try.tab rfl hL rfl)) rfl rfl rfl hD K.cl ?_
  refine d_c rfl (Qui.ylds (y_add rfl rfl (by omega))) rfl rfl rfl hD K.cl ?_
  refine d_s rfl (do_buildSlice1 Try.tab ⟨rfl, rfl, rfl, rfl⟩ rfl rfl rfl rfl) rfl rfl rfl (fun _ => K.cl) (fun _ _ w h => hD w h.tail) (fun b48 => ?_)
  refine d_s rfl (do_rowapp (k := m + 1) Try.tab [[(b48, row 3 [.int .i64 (m + 1)])], [(p, row 78 [ov L m, .slice (some ⟨bo, 0, none⟩) n n, nilS, nilS, hs])], [(bo, arr 26 n (rowv R1 outs1) [])], oc 85 L (lvals m g)] rfl rfl ⟨rfl, rfl, rfl, rfl⟩ ht hR1 (CellsAre.one (cell_row 0 rfl rfl)) (by omega)) rfl rfl rfl (fun _ => K.cl) (fun _ _ w h => h.tail.keep 2) (fun o2 => ?_)
  refine d_c rfl (Qui.ylds (y_indexAddr1 Try.tab rfl rfl rfl rfl _ rfl (by omega))) rfl rfl rfl (fun w h => h.tail.keep 2) K.cl ?_
  refine d_set rfl (set_arr Try.tab 2 rfl rfl rfl rfl rfl (by omega)) rfl rfl K.cl (fun h => by cases h) ?_
  refine d_nil ?_
  refine f_then ?_
  refine SC.cls (C' := K W (bnet p bo n m hs L (upd R1 to_ (some o2.1)) g (upd outs1 to_ (outs1 to_ ++ [m + 1])) F)) ?_ (fun w h => by rw [rowv_upd] at h; exact h.tail)
  have hR2 := rowsOK_upd (v := to_) hR1 o2.2
  generalize hRe2 : upd R1 to_ (some o2.1) = R2 at hR2 ⊢
  generalize hoe2 : upd outs1 to_ (outs1 to_ ++ [m + 1]) = outs2 at hR2 ⊢
  refine c_region ?_
  refine s_y (y_move rfl) rfl rfl rfl ?_
  refine s_y (y_move rfl) rfl rfl rfl ?_
  refine s_y (y_nilP rfl) rfl rfl rfl ?_
  refine s_y (y_fieldAddr0 Try.tab rfl rfl rfl rfl rfl) rfl rfl rfl ?_
  refine s_y (y_load Try.tab rfl rfl (cell_row 0 rfl rfl)) rfl rfl rfl ?_
  refine s_y (y_move rfl) rfl rfl rfl ?_
  refine s_y (y_move rfl) rfl rfl rfl ?_
  refine s_y (y_move rfl) rfl rfl rfl ?_
  refine s_y (y_build Try.tab rfl rfl rfl rfl rfl) rfl rfl rfl ?_
  refine s_y (y_move rfl) rfl rfl rfl ?_
  refine s_y (y_move rfl) rfl rfl rfl ?_
  refine s_y (y_neg rfl (by omega)) rfl rfl rfl ?_
  refine s_y (y_build Try.tab rfl rfl rfl rfl rfl) rfl rfl rfl ?_
  refine s_do (do_buildSliceS Try.tab ⟨rfl, rfl, rfl, rfl⟩ rfl rfl rfl rfl) rfl rfl rfl (fun b64 => ?_)
  refine s_do (do_appendO Try.tab 3 (s := 3) (by_ := 24) (k := 2) (news := [.int .i64 to_, .int .i64 room, .int .i64 cost, .int .i64 from_, .int .i64 0, .int .i64 (-cost)]) (xs := lvals m g) (o := L) rfl rfl ⟨rfl, rfl, rfl, rfl⟩ rfl rfl (by simp [bnet]) hL (cells_row0 0 rfl rfl) rfl (by simp [Value.oneCell']) (by omega) (by unfold maxLen; omega) (by omega)) rfl rfl rfl (fun o3 => ?_)
  refine s_y (y_nilP rfl) rfl rfl rfl ?_
  refine s_y (y_fieldAddr0 Try.tab rfl rfl rfl rfl rfl) rfl rfl rfl ?_
  refine s_set (set_rowB Try.tab 1 rfl rfl rfl rfl rfl rfl) rfl rfl ?_
  refine s_nil ?_
  have hfin := lvals_put2 m g (fun j => match j with | 0 => .int .i64 to_ | 1 => .int .i64 room | _ => .int .i64 cost) (fun j => match j with | 0 => .int .i64 from_ | 1 => .int .i64 0 | _ => .int .i64 (-cost))
  refine f_end ⟨(some o3.1, R2), by rw [hfin]; exact o3.2, hR2⟩ (res0 rfl) (fun w h => ?_)
  simp only [bnet, hfin]
  exact h.tail
end Go.KL
end

section
/- Walks: reach. -/
namespace Go.KL
open Go.Proofs
attribute [local irreducible] SC St Fin Sq Sw Ylds Doos Sets Enters Spec CellIs CellsAre Then Ret Rnd resOK ints bools recs arr
attribute [local irreducible] rvals lk3 RowF
set_option maxHeartbeats 2000000 in
theorem reach_spec (W : World) (Ls : List Chunk) (p n m s : Nat) (vl vo a b c : Value) (outs : Nat → List Nat) (to : Nat → Nat) (room cost : Nat → Int)
    (hO : OutV (K W ([(p, row 78 [vl, vo, a, b, c])] :: Ls)) vo n outs) (hL : LinkV (K W ([(p, row 78 [vl, vo, a, b, c])] :: Ls)) vl m to room cost) (hG : GOK n m outs to) (hs : s < n) (hn : n ≤ 1000) (hm : m ≤ 1000000) :
    Spec Try.prog 48 #[.pointer (some ⟨p, 0, none⟩), .int .i64 s] (K W ([(p, row 78 [vl, vo, a, b, c])] :: Ls)) (X := { x : Nat × (Nat → Bool) // Reached n s outs to (fun k => 0 < room k) x.2 })
      (fun x => .slice (some ⟨x.1.1, 0, none⟩) n n) (fun x => K W ([(x.1.1, bools 4 n x.1.2 [])] :: [(p, row 78 [vl, vo, a, b, c])] :: Ls)) := by
  generalize hLs : ([(p, row 78 [vl, vo, a, b, c])] :: Ls) = L0 at hO hL
  have hp : ∀ (i : Nat) (v : Value), [vl, vo, a, b, c][i]? = some v → CellIs (K W L0) ⟨p, i, none⟩ v := fun i v hv => by subst hLs; exact cell_row 0 rfl hv
  have hp0 := hp 0 vl rfl
  have hp1 := hp 1 vo rfl
  clear hp hLs
  obtain ⟨bo, rfl, hrow⟩ := hO
  refine enter (args := [_, _]) Try.func48 rfl Try.ntmps48 rfl ?_
  refine c_seq ?_
  refine c_region ?_
  refine s_y (y_assign rfl) rfl rfl rfl ?_
  refine s_nil ?_
  refine f_then ?_
  refine c_seq ?_
  refine c_region ?_
  refine s_y (y_move rfl) rfl rfl rfl ?_
  refine s_y (y_nilP rfl) rfl rfl rfl ?_
  refine s_y (y_fieldAddrB Try.tab 1 rfl rfl rfl rfl rfl) rfl rfl rfl ?_
  refine s_y (y_load Try.tab rfl rfl (by assumption)) rfl rfl rfl ?_
  refine s_y (y_len Try.tab rfl rfl) rfl rfl rfl ?_
  refine s_do (make_bools (by_ := 1) Try.tab rfl rfl rfl rfl rfl rfl (by omega)) rfl rfl rfl (fun b16 => ?_)
  refine s_y (y_assign rfl) rfl rfl rfl ?_
  refine s_nil ?_
  refine f_then ?_
  refine c_seq ?_
  refine c_region ?_
  refine s_y (y_move rfl) rfl rfl rfl ?_
  refine s_y (y_move rfl) rfl rfl rfl ?_
  refine s_y (y_indexAddr1 Try.tab rfl rfl rfl rfl _ rfl (by omega)) rfl rfl rfl ?_
  refine s_set (set_bools Try.tab 0 rfl rfl rfl rfl (by omega)) rfl rfl ?_
  refine s_nil ?_
  refine f_then ?_
  refine c_seq ?_
  refine c_region ?_
  refine s_y (y_move rfl) rfl rfl rfl ?_
  refine s_do (do_buildSlice1 Try.tab ⟨rfl, rfl, rfl, rfl⟩ rfl rfl rfl rfl) rfl rfl rfl (fun b21 => ?_)
  refine s_y (y_assign rfl) rfl rfl rfl ?_
  refine s_nil ?_
  refine f_then ?_
  refine c_seq ?_
  refine c_block ?_
  refine c_loopP (α := (Nat → Bool) × List Nat × Own) (fun z => [(0, .pointer (some ⟨p, 0, none⟩)), (5, .slice (some ⟨b16, 0, none⟩) n n), (6, osl z.2.2 z.2.1.length)])
    (fun z => RInv n s outs to (fun k => 0 < room k) z.1 z.2.1 n 0 ∧ owf 1 z.2.2 z.2.1.length (rvals z.2.1)) (fun z => K W ([(b16, bools 4 n z.1 [])] :: och 3 z.2.2 (rvals z.2.1) :: L0)) (fun z => z.2.1.length + 2 * cnt n (fun u => !z.1 u))
    (upd (fun _ => false) s true, [s], ⟨b21, 1, [], []⟩) ⟨rfl, rfl, rfl, trivial⟩ ⟨RInv.begin hs, ⟨Nat.le_refl _, by unfold maxLen; dsimp only; omega, by rw [rvals_len]; rfl, by simp⟩⟩ (fun w h => by rw [rvals_one]; exact h.front 1) ?_
  rintro ⟨seen, st, o⟩ ⟨hI, ho⟩
  dsimp only at hI ho ⊢
  refine c_seq ?_
  refine c_seq ?_
  refine c_region ?_
  refine s_y (y_move rfl) rfl rfl rfl ?_
  refine s_y (y_len Try.tab rfl rfl) rfl rfl rfl ?_
  refine s_y (y_gtr rfl rfl) rfl rfl rfl ?_
  refine s_nil ?_
  refine f_then ?_
  refine c_condD rfl (fun hpos => ?_) (fun hneg => ?_)
  rotate_left
  · have hnil : st = [] := by
      cases st with
      | nil => rfl
      | cons x r => simp only [List.length_cons] at hneg; omega
    subst hnil
    refine c_exit ?_
    refine f_thenE ?_
    refine f_rndE ?_
    refine f_blockE ?_
    refine f_then ?_
    refine c_seq ?_
    refine c_region ?_
    refine s_y (y_move rfl) rfl rfl rfl ?_
    refine s_y (y_assign rfl) rfl rfl rfl ?_
    refine s_nil ?_
    refine f_then ?_
    refine c_ret ?_
    exact f_ret ⟨(b16, seen), hI.reached⟩ (res1 rfl rfl) (fun w h => (h.front 1).tail)
  obtain ⟨st', v, rfl⟩ : ∃ st' v, st = st' ++ [v] := by
    rcases List.eq_nil_or_concat st with h | ⟨a, b, h⟩
    · subst h; simp at hpos
    · exact ⟨a, b, by simpa using h⟩
  have hvn := (hI.stk v (by simp)).1
  have hvs := (hI.stk v (by simp)).2
  have hb1 := hI.bound
  have hlen : (st' ++ [v]).length = st'.length + 1 := by simp
  rw [hlen] at ho hb1
  have hI1 := hI.pop rfl
  clear hI
  obtain ⟨val, hval, hr⟩ := hrow v hvn
  unfold RowF at hr
  obtain ⟨pa, cc, rfl, hcells⟩ := hr
  refine c_skip ?_
  refine f_then ?_
  refine c_block ?_
  refine c_seq ?_
  refine c_region ?_
  refine s_y (y_move rfl) rfl rfl rfl ?_
  refine s_y (y_move rfl) rfl rfl rfl ?_
  refine s_y (y_len Try.tab rfl rfl) rfl rfl rfl ?_
  refine s_y (y_sub rfl rfl (by omega)) rfl rfl rfl ?_
  refine s_y (y_indexAddr (s := 1) Try.tab rfl rfl rfl rfl _ (Int.toNat_of_nonneg (by omega)).symm (by omega)) rfl rfl rfl ?_
  refine s_y (y_load Try.tab rfl rfl (cell_own (v := .int .i64 v) 1 rfl st'.length (by rw [hlen]; omega) (by simp [rvals]))) rfl rfl rfl ?_
  refine s_y (y_assign rfl) rfl rfl rfl ?_
  refine s_nil ?_
  refine f_then ?_
  refine c_seq ?_
  refine c_region ?_
  refine s_y (y_move rfl) rfl rfl rfl ?_
  refine s_y (y_move rfl) rfl rfl rfl ?_
  refine s_y (y_len Try.tab rfl rfl) rfl rfl rfl ?_
  refine s_y (y_sub rfl rfl (by omega)) rfl rfl rfl ?_
  refine s_y (y_sliceTo Try.tab rfl rfl rfl rfl (hi := st'.length) (by simp) (by have := ho.le; omega)) rfl rfl rfl ?_
  refine s_y (y_assign rfl) rfl rfl rfl ?_
  refine s_nil ?_
  refine f_then ?_
  refine c_seq ?_
  refine c_region ?_
  refine s_y (y_move rfl) rfl rfl rfl ?_
  refine s_y (y_nilP rfl) rfl rfl rfl ?_
  refine s_y (y_fieldAddrB Try.tab 1 rfl rfl rfl rfl rfl) rfl rfl rfl ?_
  refine s_y (y_load Try.tab rfl rfl (CellIs.cons (CellIs.cons (by assumption)))) rfl rfl rfl ?_
  refine s_y (y_move rfl) rfl rfl rfl ?_
  refine s_y (y_indexAddr1 Try.tab rfl rfl rfl rfl _ rfl (by omega)) rfl rfl rfl ?_
  refine s_y (y_load Try.tab rfl rfl (CellIs.cons (CellIs.cons (by assumption)))) rfl rfl rfl ?_
  refine s_y (y_len Try.tab rfl rfl) rfl rfl rfl ?_
  refine s_y (y_move rfl) rfl rfl rfl ?_
  refine s_nil ?_
  refine f_then ?_
  refine c_block ?_
  have hrv : rvals (st' ++ [v]) = rvals st' ++ [.int .i64 ((v : Nat) : Int)] := rvals_app st' v
  rw [hrv] at ho
  refine SC.cls (C' := K W ([(b16, bools 4 n seen [])] :: och 3 (o.pop (.int .i64 ((v : Nat) : Int))) (rvals st') :: L0)) ?_ (fun w h => by rw [hrv, och_pop] at h; exact h)
  have ho1 := owf_pop (s := 1) ho rfl
  refine c_loopP (α := (Nat → Bool) × List Nat × Own × Nat) (fun z => [(0, .pointer (some ⟨p, 0, none⟩)), (5, .slice (some ⟨b16, 0, none⟩) n n), (6, osl z.2.2.1 z.2.1.length), (7, .int .i64 v), (42, .slice pa (outs v).length cc), (43, .int .i64 (outs v).length), (44, .int .i64 z.2.2.2)])
    (fun z => RInv n s outs to (fun k => 0 < room k) z.1 z.2.1 v z.2.2.2 ∧ owf 1 z.2.2.1 z.2.1.length (rvals z.2.1) ∧ z.2.2.2 ≤ (outs v).length ∧ z.1 v = true ∧ z.2.1.length + 2 * cnt n (fun u => !z.1 u) < st'.length + 1 + 2 * cnt n (fun u => !seen u))
    (fun z => K W ([(b16, bools 4 n z.1 [])] :: och 3 z.2.2.1 (rvals z.2.1) :: L0)) (fun z => (outs v).length - z.2.2.2)
    (seen, st', o.pop (.int .i64 ((v : Nat) : Int)), 0) ⟨rfl, rfl, rfl, rfl, rfl, rfl, rfl, trivial⟩ ⟨hI1, ho1, Nat.zero_le _, hvs, by dsimp only; omega⟩ (fun w h => h) ?_
  rintro ⟨seen1, st1, o1, j⟩ ⟨hJ, ho1, hj, hvs1, hmu⟩
  dsimp only at hJ ho1 hj hvs1 hmu ⊢
  refine c_seq ?_
  refine c_region ?_
  refine s_y (y_lss rfl rfl) rfl rfl rfl ?_
  refine s_nil ?_
  refine f_then ?_
  refine c_seq ?_
  refine c_condD rfl (fun hlt => ?_) (fun hge => ?_)
  rotate_left
  · refine c_exit ?_
    refine f_thenE ?_
    refine f_rndE ?_
    refine f_blockE ?_
    refine f_blockN ?_
    exact f_roundP (seen1, st1, o1) ⟨hJ.done (by omega), ho1⟩ (by simp only [List.length_append, List.length_cons, List.length_nil]; omega) ⟨rfl, rfl, rfl, trivial⟩ (fun w h => h)
  have hjl : j < (outs v).length := by omega
  obtain ⟨b, rfl, hck⟩ := hcells j hjl
  obtain ⟨k, hk⟩ : ∃ k, (outs v)[j]? = some k := ⟨_, List.getElem?_eq_getElem hjl⟩
  have hkm := hG.link v hvn k (List.mem_of_getElem? hk)
  obtain ⟨bl, cl, rfl, hlc⟩ := hL (by omega)
  have hck' := hck k hk
  have hlk := hlc k hkm
  rw [lk3_eq] at hlk
  have htn := hG.head k hkm
  have hlenv := hG.len v hvn
  have hb2 := hJ.bound
  by_cases hr : (0 : Int) < room k
  · refine c_skip ?_
    refine f_then ?_
    refine c_seq ?_
    refine c_block ?_
    refine c_seq ?_
    refine c_region ?_
    refine s_y (y_indexAddr1 Try.tab rfl rfl rfl rfl _ rfl (by omega)) rfl rfl rfl ?_
    refine s_y (y_load Try.tab rfl rfl (CellIs.cons (CellIs.cons (by assumption)))) rfl rfl rfl ?_
    refine s_y (y_assign rfl) rfl rfl rfl ?_
    refine s_nil ?_
    refine f_then ?_
    refine c_seq ?_
    refine c_region ?_
    refine s_y (y_move rfl) rfl rfl rfl ?_
    refine s_y (y_nilP rfl) rfl rfl rfl ?_
    refine s_y (y_fieldAddr0 Try.tab rfl rfl rfl rfl rfl) rfl rfl rfl ?_
    refine s_y (y_load Try.tab rfl rfl (CellIs.cons (CellIs.cons (by assumption)))) rfl rfl rfl ?_
    refine s_y (y_move rfl) rfl rfl rfl ?_
    refine s_y (y_indexAddr0 (s := 3) Try.tab rfl rfl rfl rfl _ rfl (by omega)) rfl rfl rfl ?_
    refine s_y (y_loadA Try.tab rfl rfl rfl rfl (CellsAre.cons (CellsAre.cons (by assumption)))) rfl rfl rfl ?_
    refine s_do (do_alloc Try.tab rfl) rfl rfl rfl (fun b10 => ?_)
    refine s_set (set_box Try.tab 0 rfl rfl rfl rfl rfl rfl rfl) rfl rfl ?_
    refine s_nil ?_
    refine f_then ?_
    refine c_seq ?_
    refine c_region ?_
    refine s_y (y_fieldAddrB Try.tab 1 rfl rfl rfl rfl rfl) rfl rfl rfl ?_
    refine s_y (y_load Try.tab rfl rfl (cell_row 0 rfl rfl)) rfl rfl rfl ?_
    refine s_y (y_T (y_gtr rfl rfl) (by assumption)) rfl rfl rfl ?_
    refine s_y (y_move rfl) rfl rfl rfl ?_
    refine s_y (y_move rfl) rfl rfl rfl ?_
    refine s_y (y_fieldAddr0 Try.tab rfl rfl rfl rfl rfl) rfl rfl rfl ?_
    refine s_y (y_load Try.tab rfl rfl (cell_row 0 rfl rfl)) rfl rfl rfl ?_
    refine s_y (y_indexAddr1 Try.tab rfl rfl rfl rfl _ rfl (by omega)) rfl rfl rfl ?_
    refine s_y (y_load Try.tab rfl rfl (cell_bools 1 rfl (by omega))) rfl rfl rfl ?_
    refine s_y (y_not rfl) rfl rfl rfl ?_
    refine s_y (y_pickT rfl rfl) rfl rfl rfl ?_
    refine s_nil ?_
    refine f_then ?_
    refine c_cond rfl (fun ht => ?_) (fun hf => ?_)
    · refine c_seq ?_
      refine c_region ?_
      refine s_y (y_move rfl) rfl rfl rfl ?_
      refine s_y (y_fieldAddr0 Try.tab rfl rfl rfl rfl rfl) rfl rfl rfl ?_
      refine s_y (y_load Try.tab rfl rfl (cell_row 0 rfl rfl)) rfl rfl rfl ?_
      refine s_y (y_indexAddr1 Try.tab rfl rfl rfl rfl _ rfl (by omega)) rfl rfl rfl ?_
      refine s_set (set_bools Try.tab 1 rfl rfl rfl rfl (by omega)) rfl rfl ?_
      refine s_nil ?_
      refine f_then ?_
      refine c_region ?_
      refine s_y (y_move rfl) rfl rfl rfl ?_
      refine s_y (y_fieldAddr0 Try.tab rfl rfl rfl rfl rfl) rfl rfl rfl ?_
      refine s_y (y_load Try.tab rfl rfl (cell_row 0 rfl rfl)) rfl rfl rfl ?_
      refine s_do (do_buildSlice1 Try.tab ⟨rfl, rfl, rfl, rfl⟩ rfl rfl rfl rfl) rfl rfl rfl (fun b73 => ?_)
      have hold : seen1 (to k) = false := by simpa using ht
      have hJ2 := hJ.push hk hr hold htn hvn hvs1
      have hc := cnt_drop n (fun u => !seen1 u) (fun u => !upd seen1 (to k) true u) (to k) htn (by simp [hold]) (by simp) (fun i _ hne => by simp [upd, hne])
      refine s_do (do_append Try.tab 3 (s := 1) (by_ := 8) (k := 1) (xs := rvals st1) (news := [.int .i64 ((to k : Nat) : Int)]) (o := o1) rfl rfl ⟨rfl, rfl, rfl, rfl⟩ rfl rfl ho1 (CellsAre.one (cell_row 0 rfl rfl)) rfl (by simp [Value.oneCell']) (by unfold maxLen; omega) (by omega)) rfl rfl rfl (fun o2 => ?_)
      refine s_y (y_assign rfl) rfl rfl rfl ?_
      refine s_nil ?_
      refine f_blockN ?_
      refine f_then ?_
      refine c_region ?_
      refine s_y (y_add rfl rfl (by omega)) rfl rfl rfl ?_
      refine s_y (y_move rfl) rfl rfl rfl ?_
      refine s_nil ?_
      exact f_roundP (upd seen1 (to k) true, st1 ++ [to k], o2.1, j + 1) ⟨hJ2, by dsimp only; rw [rvals_app, List.length_append]; exact o2.2.1, by dsimp only; omega, by simp only [upd]; split <;> simp [hvs1], by simp only [List.length_append, List.length_cons, List.length_nil]; omega⟩ (by dsimp only; omega)
        ⟨rfl, rfl, by dsimp only; rw [List.length_append]; rfl, rfl, rfl, rfl, rfl, trivial⟩ (fun w h => by dsimp only; rw [rvals_app]; exact h.tail.tail)
    · refine c_skip ?_
      refine f_blockN ?_
      refine f_then ?_
      refine c_region ?_
      refine s_y (y_add rfl rfl (by omega)) rfl rfl rfl ?_
      refine s_y (y_move rfl) rfl rfl rfl ?_
      refine s_nil ?_
      have hold : seen1 (to k) = true := by simpa using hf
      exact f_roundP (seen1, st1, o1, j + 1) ⟨hJ.keep hk (fun _ => hold), ho1, by dsimp only; omega, hvs1, hmu⟩ (by dsimp only; omega) ⟨rfl, rfl, rfl, rfl, rfl, rfl, rfl, trivial⟩ (fun w h => h.tail)
  · refine c_skip ?_
    refine f_then ?_
    refine c_seq ?_
    refine c_block ?_
    refine c_seq ?_
    refine c_region ?_
    refine s_y (y_indexAddr1 Try.tab rfl rfl rfl rfl _ rfl (by omega)) rfl rfl rfl ?_
    refine s_y (y_load Try.tab rfl rfl (CellIs.cons (CellIs.cons (by assumption)))) rfl rfl rfl ?_
    refine s_y (y_assign rfl) rfl rfl rfl ?_
    refine s_nil ?_
    refine f_then ?_
    refine c_seq ?_
    refine c_region ?_
    refine s_y (y_move rfl) rfl rfl rfl ?_
    refine s_y (y_nilP rfl) rfl rfl rfl ?_
    refine s_y (y_fieldAddr0 Try.tab rfl rfl rfl rfl rfl) rfl rfl rfl ?_
    refine s_y (y_load Try.tab rfl rfl (CellIs.cons (CellIs.cons (by assumption)))) rfl rfl rfl ?_
    refine s_y (y_move rfl) rfl rfl rfl ?_
    refine s_y (y_indexAddr0 (s := 3) Try.tab rfl rfl rfl rfl _ rfl (by omega)) rfl rfl rfl ?_
    refine s_y (y_loadA Try.tab rfl rfl rfl rfl (CellsAre.cons (CellsAre.cons (by assumption)))) rfl rfl rfl ?_
    refine s_do (do_alloc Try.tab rfl) rfl rfl rfl (fun b10 => ?_)
    refine s_set (set_box Try.tab 0 rfl rfl rfl rfl rfl rfl rfl) rfl rfl ?_
    refine s_nil ?_
    refine f_then ?_
    refine c_seq ?_
    refine c_region ?_
    refine s_y (y_fieldAddrB Try.tab 1 rfl rfl rfl rfl rfl) rfl rfl rfl ?_
    refine s_y (y_load Try.tab rfl rfl (cell_row 0 rfl rfl)) rfl rfl rfl ?_
    refine s_y (y_F (y_gtr rfl rfl) (by assumption)) rfl rfl rfl ?_
    refine s_y (y_move rfl) rfl rfl rfl ?_
    refine s_skip rfl rfl rfl ?_
    refine s_skip rfl rfl rfl ?_
    refine s_skip rfl rfl rfl ?_
    refine s_skip rfl rfl rfl ?_
    refine s_skip rfl rfl rfl ?_
    refine s_skip rfl rfl rfl ?_
    refine s_y (y_pickF rfl rfl) rfl rfl rfl ?_
    refine s_nil ?_
    refine f_then ?_
    refine c_condF rfl ?_
    refine c_skip ?_
    refine f_blockN ?_
    refine f_then ?_
    refine c_region ?_
    refine s_y (y_add rfl rfl (by omega)) rfl rfl rfl ?_
    refine s_y (y_move rfl) rfl rfl rfl ?_
    refine s_nil ?_
    exact f_roundP (seen1, st1, o1, j + 1) ⟨hJ.keep hk (fun h => absurd h hr), ho1, by dsimp only; omega, hvs1, hmu⟩ (by dsimp only; omega) ⟨rfl, rfl, rfl, rfl, rfl, rfl, rfl, trivial⟩ (fun w h => h.tail)
end Go.KL
end

section
/- Walks: layers. -/
namespace Go.KL
open Go.Proofs
attribute [local irreducible] SC St Fin Sq Sw Ylds Doos Sets Enters Spec CellIs CellsAre Then Ret Rnd resOK ints bools recs arr
attribute [local irreducible] rvals lk3 RowF
structure Small (n m : Nat) (cost high : Nat → Int) : Prop where
  cost : ∀ k, k < m → -1000000000000000 ≤ cost k ∧ cost k ≤ 1000000000000000
  high : ∀ v, v < n → -1000000000000000 ≤ high v ∧ high v ≤ 1000000000000000
set_option maxHeartbeats 4000000 in
theorem layers_spec (W : World) (Ls : List Chunk) (p n m s t : Nat) (vl vo a b vh : Value) (outs : Nat → List Nat) (to tl : Nat → Nat) (room cost high : Nat → Int)
    (hO : OutV (K W Ls) vo n outs) (hL : LinkV (K W Ls) vl m to room cost) (hH : HighV (K W Ls) vh n high) (hG : GOK n m outs to) (htl : ∀ v, v < n → ∀ k, k ∈ outs v → tl k = v) (hS : Small n m cost high) (hs : s < n) (ht : t < n) (hn : n ≤ 1000) (hm : m ≤ 1000000) :
    Spec Try.prog 51 #[.pointer (some ⟨p, 0, none⟩), .int .i64 s, .int .i64 t] (K W ([(p, row 78 [vl, vo, a, b, vh])] :: Ls))
      (X := { x : Nat × Nat × (Nat → Int) // LInv n s outs to (adm tl to room cost high) x.2.2 ∧ Reached n s outs to (adm tl to room cost high) (pos x.2.2) })
      (fun x => .bool (decide (0 < x.1.2.2 t))) (fun x => K W ([(p, row 78 [vl, vo, .slice (some ⟨x.1.1, 0, none⟩) n n, .slice (some ⟨x.1.2.1, 0, none⟩) n n, vh])] :: [(x.1.1, ints 3 n x.1.2.2 [])] :: [(x.1.2.1, ints 3 n (fun _ => 0) [])] :: Ls)) := by
  obtain ⟨bo, rfl, hrow⟩ := hO
  obtain ⟨bh, rfl, hhigh⟩ := hH
  refine enter (args := [_, _, _]) Try.func51 rfl Try.ntmps51 rfl ?_
  refine c_seq ?_
  refine c_region ?_
  refine s_y (y_assign rfl) rfl rfl rfl ?_
  refine s_nil ?_
  refine f_then ?_
  refine c_seq ?_
  refine c_region ?_
  refine s_y (y_move rfl) rfl rfl rfl ?_
  refine s_y (y_move rfl) rfl rfl rfl ?_
  refine s_y (y_nilP rfl) rfl rfl rfl ?_
  refine s_y (y_fieldAddrB Try.tab 1 rfl rfl rfl rfl rfl) rfl rfl rfl ?_
  refine s_y (y_load Try.tab rfl rfl (cell_row 0 rfl rfl)) rfl rfl rfl ?_
  refine s_y (y_len Try.tab rfl rfl) rfl rfl rfl ?_
  refine s_do (make_ints (by_ := 8) Try.tab rfl rfl rfl rfl rfl rfl (by omega)) rfl rfl rfl (fun b18 => ?_)
  refine s_y (y_nilP rfl) rfl rfl rfl ?_
  refine s_y (y_fieldAddrB Try.tab 2 rfl rfl rfl rfl rfl) rfl rfl rfl ?_
  refine s_set (set_rowB Try.tab 1 rfl rfl rfl rfl rfl rfl) rfl rfl ?_
  refine s_nil ?_
  refine f_then ?_
  refine c_seq ?_
  refine c_region ?_
  refine s_y (y_move rfl) rfl rfl rfl ?_
  refine s_y (y_move rfl) rfl rfl rfl ?_
  refine s_y (y_nilP rfl) rfl rfl rfl ?_
  refine s_y (y_fieldAddrB Try.tab 1 rfl rfl rfl rfl rfl) rfl rfl rfl ?_
  refine s_y (y_load Try.tab rfl rfl (cell_row 1 rfl rfl)) rfl rfl rfl ?_
  refine s_y (y_len Try.tab rfl rfl) rfl rfl rfl ?_
  refine s_do (make_ints (by_ := 8) Try.tab rfl rfl rfl rfl rfl rfl (by omega)) rfl rfl rfl (fun b27 => ?_)
  refine s_y (y_nilP rfl) rfl rfl rfl ?_
  refine s_y (y_fieldAddrB Try.tab 3 rfl rfl rfl rfl rfl) rfl rfl rfl ?_
  refine s_set (set_rowB Try.tab 2 rfl rfl rfl rfl rfl rfl) rfl rfl ?_
  refine s_nil ?_
  refine f_then ?_
  refine c_seq ?_
  refine c_region ?_
  refine s_y (y_move rfl) rfl rfl rfl ?_
  refine s_y (y_nilP rfl) rfl rfl rfl ?_
  refine s_y (y_fieldAddrB Try.tab 2 rfl rfl rfl rfl rfl) rfl rfl rfl ?_
  refine s_y (y_load Try.tab rfl rfl (cell_row 2 rfl rfl)) rfl rfl rfl ?_
  refine s_y (y_move rfl) rfl rfl rfl ?_
  refine s_y (y_indexAddr1 Try.tab rfl rfl rfl rfl _ rfl (by omega)) rfl rfl rfl ?_
  refine s_set (set_ints Try.tab 1 rfl rfl rfl rfl (by omega)) rfl rfl ?_
  refine s_nil ?_
  refine f_then ?_
  refine c_seq ?_
  refine c_region ?_
  refine s_y (y_move rfl) rfl rfl rfl ?_
  refine s_do (do_buildSlice1 Try.tab ⟨rfl, rfl, rfl, rfl⟩ rfl rfl rfl rfl) rfl rfl rfl (fun b37 => ?_)
  refine s_y (y_assign rfl) rfl rfl rfl ?_
  refine s_nil ?_
  refine f_then ?_
  refine c_seq ?_
  refine c_block ?_
  have hcq0 := cnt_le n (pos (upd (fun _ => 0) s 1))
  refine c_loopP (α := (Nat → Int) × List Nat × Own) (fun z => [(0, .pointer (some ⟨p, 0, none⟩)), (1, .int .i64 s), (2, .int .i64 t), (7, osl z.2.2 z.2.1.length)])
    (fun z => (LInv n s outs to (adm tl to room cost high) z.1 ∧ RInv n s outs to (adm tl to room cost high) (pos z.1) z.2.1 n 0) ∧ owf 1 z.2.2 z.2.1.length (rvals z.2.1))
    (fun z => K W (och 3 z.2.2 (rvals z.2.1) :: [(b27, ints 3 n (fun _ => 0) [])] :: [(b18, ints 3 n z.1 [])] :: [(p, row 78 [vl, .slice (some ⟨bo, 0, none⟩) n n, .slice (some ⟨b18, 0, none⟩) n n, .slice (some ⟨b27, 0, none⟩) n n, .slice (some ⟨bh, 0, none⟩) n n])] :: Ls)) (fun z => z.2.1.length + 2 * cnt n (fun u => !pos z.1 u))
    (upd (fun _ => 0) s 1, [s], ⟨b37, 1, [], []⟩) ⟨rfl, rfl, rfl, rfl, trivial⟩ ⟨⟨LInv.begin hs, by dsimp only; rw [pos_upd _ _ _ (by omega)]; exact RInv.begin hs⟩, ⟨Nat.le_refl _, by unfold maxLen; dsimp only; omega, by rw [rvals_len]; rfl, by simp⟩⟩ (fun w h => by rw [rvals_one]; exact h) ?_
  rintro ⟨level, q, o⟩ ⟨⟨hLi, hI⟩, ho⟩
  dsimp only at hI hLi ho ⊢
  refine c_seq ?_
  refine c_seq ?_
  refine c_region ?_
  refine s_y (y_move rfl) rfl rfl rfl ?_
  refine s_y (y_len Try.tab rfl rfl) rfl rfl rfl ?_
  refine s_y (y_gtr rfl rfl) rfl rfl rfl ?_
  refine s_nil ?_
  refine f_then ?_
  refine c_condD rfl (fun hpos => ?_) (fun hneg => ?_)
  rotate_left
  · have hnil : q = [] := by
      cases q with
      | nil => rfl
      | cons x r => simp only [List.length_cons] at hneg; omega
    subst hnil
    refine c_exit ?_
    refine f_thenE ?_
    refine f_rndE ?_
    refine f_blockE ?_
    refine f_then ?_
    refine c_seq ?_
    refine c_region ?_
    refine s_y (y_move rfl) rfl rfl rfl ?_
    refine s_y (y_nilP rfl) rfl rfl rfl ?_
    refine s_y (y_fieldAddrB Try.tab 2 rfl rfl rfl rfl rfl) rfl rfl rfl ?_
    refine s_y (y_load Try.tab rfl rfl (cell_row 3 rfl rfl)) rfl rfl rfl ?_
    refine s_y (y_move rfl) rfl rfl rfl ?_
    refine s_y (y_indexAddr1 Try.tab rfl rfl rfl rfl _ rfl (by omega)) rfl rfl rfl ?_
    refine s_y (y_load Try.tab rfl rfl (cell_ints 2 rfl (by omega))) rfl rfl rfl ?_
    refine s_y (y_gtr rfl rfl) rfl rfl rfl ?_
    refine s_y (y_assign rfl) rfl rfl rfl ?_
    refine s_nil ?_
    refine f_then ?_
    refine c_ret ?_
    exact f_ret ⟨(b18, b27, level), hLi, hI.reached⟩ (res1 rfl rfl) (fun w h => ((h.tail.front 1).front 2))
  obtain ⟨v, q', rfl⟩ : ∃ v q', q = v :: q' := by
    cases q with
    | nil => simp at hpos
    | cons a b => exact ⟨a, b, rfl⟩
  have hvn := (hI.stk v (by simp)).1
  have hvs : 0 < level v := of_decide_eq_true (hI.stk v (by simp)).2
  have hb1 := hI.bound
  have hlen : (v :: q').length = q'.length + 1 := by simp
  rw [hlen] at ho hb1
  rw [rvals_cons] at ho
  have hI1 := hI.popFront rfl
  clear hI
  obtain ⟨val, hval, hr⟩ := hrow v hvn
  unfold RowF at hr
  obtain ⟨pa, cc, rfl, hcells⟩ := hr
  refine c_skip ?_
  refine f_then ?_
  refine c_block ?_
  refine c_seq ?_
  refine c_region ?_
  refine s_y (y_move rfl) rfl rfl rfl ?_
  refine s_y (y_indexAddr (s := 1) Try.tab rfl rfl rfl rfl 0 rfl (by omega)) rfl rfl rfl ?_
  refine s_y (y_load Try.tab rfl rfl (cell_own (v := .int .i64 v) 0 rfl 0 (by omega) (by rw [rvals_cons]; rfl))) rfl rfl rfl ?_
  refine s_y (y_assign rfl) rfl rfl rfl ?_
  refine s_nil ?_
  refine f_then ?_
  refine c_seq ?_
  refine c_region ?_
  refine s_y (y_move rfl) rfl rfl rfl ?_
  refine s_y (y_eq (y_sliceFrom Try.tab (s := 1) (lo := 1) rfl rfl rfl rfl rfl (by simp) ho.le) (osl_shift o q'.length (.int .i64 ((v : Nat) : Int)))) rfl rfl rfl ?_
  refine s_y (y_assign rfl) rfl rfl rfl ?_
  refine s_nil ?_
  refine f_then ?_
  refine c_seq ?_
  refine c_region ?_
  refine s_y (y_move rfl) rfl rfl rfl ?_
  refine s_y (y_nilP rfl) rfl rfl rfl ?_
  refine s_y (y_fieldAddrB Try.tab 1 rfl rfl rfl rfl rfl) rfl rfl rfl ?_
  refine s_y (y_load Try.tab rfl rfl (cell_row 3 rfl rfl)) rfl rfl rfl ?_
  refine s_y (y_move rfl) rfl rfl rfl ?_
  refine s_y (y_indexAddr1 Try.tab rfl rfl rfl rfl _ rfl (by omega)) rfl rfl rfl ?_
  refine s_y (y_load Try.tab rfl rfl (CellIs.cons (CellIs.cons (CellIs.cons (CellIs.cons (by assumption)))))) rfl rfl rfl ?_
  refine s_y (y_len Try.tab rfl rfl) rfl rfl rfl ?_
  refine s_y (y_move rfl) rfl rfl rfl ?_
  refine s_nil ?_
  refine f_then ?_
  refine c_block ?_
  refine SC.cls (C' := K W (och 3 (o.shift (.int .i64 ((v : Nat) : Int))) (rvals q') :: [(b27, ints 3 n (fun _ => 0) [])] :: [(b18, ints 3 n level [])] :: [(p, row 78 [vl, .slice (some ⟨bo, 0, none⟩) n n, .slice (some ⟨b18, 0, none⟩) n n, .slice (some ⟨b27, 0, none⟩) n n, .slice (some ⟨bh, 0, none⟩) n n])] :: Ls)) ?_ (fun w h => by rw [rvals_cons, och_shift 3 ho] at h; exact h)
  have ho1 := owf_shift ho
  have hlenv := hG.len v hvn
  refine c_loopP (α := (Nat → Int) × List Nat × Own × Nat) (fun z => [(0, .pointer (some ⟨p, 0, none⟩)), (1, .int .i64 s), (2, .int .i64 t), (7, osl z.2.2.1 z.2.1.length), (8, .int .i64 v), (52, .slice pa (outs v).length cc), (53, .int .i64 (outs v).length), (54, .int .i64 z.2.2.2)])
    (fun z => (LInv n s outs to (adm tl to room cost high) z.1 ∧ RInv n s outs to (adm tl to room cost high) (pos z.1) z.2.1 v z.2.2.2) ∧ owf 1 z.2.2.1 z.2.1.length (rvals z.2.1) ∧ z.2.2.2 ≤ (outs v).length ∧ 0 < z.1 v ∧ z.2.1.length + 2 * cnt n (fun u => !pos z.1 u) < q'.length + 1 + 2 * cnt n (fun u => !pos level u))
    (fun z => K W (och 3 z.2.2.1 (rvals z.2.1) :: [(b27, ints 3 n (fun _ => 0) [])] :: [(b18, ints 3 n z.1 [])] :: [(p, row 78 [vl, .slice (some ⟨bo, 0, none⟩) n n, .slice (some ⟨b18, 0, none⟩) n n, .slice (some ⟨b27, 0, none⟩) n n, .slice (some ⟨bh, 0, none⟩) n n])] :: Ls)) (fun z => (outs v).length - z.2.2.2)
    (level, q', o.shift (.int .i64 ((v : Nat) : Int)), 0) ⟨rfl, rfl, rfl, rfl, rfl, rfl, rfl, rfl, trivial⟩ ⟨⟨hLi, hI1⟩, ho1, Nat.zero_le _, hvs, by dsimp only; omega⟩ (fun w h => h) ?_
  rintro ⟨lev, q1, o1, j⟩ ⟨⟨hL1, hJ⟩, ho1, hj, hvs1, hmu⟩
  dsimp only at hL1 hJ ho1 hj hvs1 hmu ⊢
  refine c_seq ?_
  refine c_region ?_
  refine s_y (y_lss rfl rfl) rfl rfl rfl ?_
  refine s_nil ?_
  refine f_then ?_
  refine c_seq ?_
  refine c_condD rfl (fun hlt => ?_) (fun hge => ?_)
  rotate_left
  · refine c_exit ?_
    refine f_thenE ?_
    refine f_rndE ?_
    refine f_blockE ?_
    refine f_blockN ?_
    exact f_roundP (lev, q1, o1) ⟨⟨hL1, hJ.done (by omega)⟩, ho1⟩ (by simp only [List.length_cons]; omega) ⟨rfl, rfl, rfl, rfl, trivial⟩ (fun w h => h)
  have hjl : j < (outs v).length := by omega
  obtain ⟨b, rfl, hck⟩ := hcells j hjl
  obtain ⟨k, hk⟩ : ∃ k, (outs v)[j]? = some k := ⟨_, List.getElem?_eq_getElem hjl⟩
  have hkv := List.mem_of_getElem? hk
  have hkm := hG.link v hvn k hkv
  obtain ⟨bl, cl, rfl, hlc⟩ := hL (by omega)
  have hck' := hck k hk
  have hlk := hlc k hkm
  rw [lk3_eq] at hlk
  have htn := hG.head k hkm
  have hb2 := hJ.bound
  have htk := htl v hvn k hkv
  have hhv := hhigh v hvn
  have hht := hhigh (to k) htn
  have hc1 := hS.cost k hkm
  have hc2 := hS.high v hvn
  have hc3 := hS.high (to k) htn
  have hlv1 := hL1.hi v
  have hlv2 := cnt_le n (pos lev)
  have hlo := hL1.lo (to k)
  by_cases hr : (0 : Int) < room k
  · by_cases hnew : lev (to k) = 0
    · refine c_skip ?_
      refine f_then ?_
      refine c_seq ?_
      refine c_block ?_
      refine c_seq ?_
      refine c_region ?_
      refine s_y (y_indexAddr1 Try.tab rfl rfl rfl rfl _ rfl (by omega)) rfl rfl rfl ?_
      refine s_y (y_load Try.tab rfl rfl (CellIs.cons (CellIs.cons (CellIs.cons (CellIs.cons (by assumption)))))) rfl rfl rfl ?_
      refine s_y (y_assign rfl) rfl rfl rfl ?_
      refine s_nil ?_
      refine f_then ?_
      refine c_seq ?_
      refine c_region ?_
      refine s_y (y_move rfl) rfl rfl rfl ?_
      refine s_y (y_nilP rfl) rfl rfl rfl ?_
      refine s_y (y_fieldAddr0 Try.tab rfl rfl rfl rfl rfl) rfl rfl rfl ?_
      refine s_y (y_load Try.tab rfl rfl (cell_row 3 rfl rfl)) rfl rfl rfl ?_
      refine s_y (y_move rfl) rfl rfl rfl ?_
      refine s_y (y_indexAddr0 (s := 3) Try.tab rfl rfl rfl rfl _ rfl (by omega)) rfl rfl rfl ?_
      refine s_y (y_loadA Try.tab rfl rfl rfl rfl (CellsAre.cons (CellsAre.cons (CellsAre.cons (CellsAre.cons (by assumption)))))) rfl rfl rfl ?_
      refine s_do (do_alloc Try.tab rfl) rfl rfl rfl (fun b11 => ?_)
      refine s_set (set_box Try.tab 0 rfl rfl rfl rfl rfl rfl rfl) rfl rfl ?_
      refine s_nil ?_
      refine f_then ?_
      refine c_seq ?_
      refine c_quiet Try.mixed (by kernel_rfl) K.drew ?_
      refine q_y (y_fieldAddrB Try.tab 1 rfl rfl rfl rfl rfl) rfl rfl rfl ?_
      refine q_y (y_load Try.tab rfl rfl (cell_row 0 rfl rfl)) rfl rfl rfl ?_
      refine q_y (y_T (y_gtr rfl rfl) (by assumption)) rfl rfl rfl ?_
      refine q_y (y_move rfl) rfl rfl rfl ?_
      refine q_y (y_move rfl) rfl rfl rfl ?_
      refine q_y (y_nilP rfl) rfl rfl rfl ?_
      refine q_y (y_fieldAddrB Try.tab 2 rfl rfl rfl rfl rfl) rfl rfl rfl ?_
      refine q_y (y_load Try.tab rfl rfl (cell_row 4 rfl rfl)) rfl rfl rfl ?_
      refine q_y (y_fieldAddr0 Try.tab rfl rfl rfl rfl rfl) rfl rfl rfl ?_
      refine q_y (y_load Try.tab rfl rfl (cell_row 0 rfl rfl)) rfl rfl rfl ?_
      refine q_y (y_indexAddr1 Try.tab rfl rfl rfl rfl _ rfl (by omega)) rfl rfl rfl ?_
      refine q_y (y_load Try.tab rfl rfl (cell_ints 3 rfl (by omega))) rfl rfl rfl ?_
      refine q_y (y_T (y_eql rfl rfl) (by assumption)) rfl rfl rfl ?_
      refine q_y (y_pickT rfl rfl) rfl rfl rfl ?_
      refine q_y (y_move rfl) rfl rfl rfl ?_
      refine q_y (y_move rfl) rfl rfl rfl ?_
      refine q_y (y_move rfl) rfl rfl rfl ?_
      refine q_y (y_move rfl) rfl rfl rfl ?_
      refine q_call (en_f rfl Try.call57) (reduced_spec W _ p bl m cl bh n n k v (to k) (room k) (cost k) (high v) (high (to k)) (cell_row 4 rfl rfl) (CellsAre.cons (CellsAre.cons (CellsAre.cons (CellsAre.cons (CellsAre.cons hlk))))) hkm (cell_row 4 rfl rfl) (CellIs.cons (CellIs.cons (CellIs.cons (CellIs.cons (CellIs.cons hhv))))) (CellIs.cons (CellIs.cons (CellIs.cons (CellIs.cons (CellIs.cons hht))))) hvn htn (by omega)) rfl rfl rfl ?_
      by_cases hrd : cost k + high v - high (to k) = 0
      · refine q_y (y_T (y_eql rfl rfl) (by assumption)) rfl rfl rfl ?_
        refine q_y (y_pickT rfl rfl) rfl rfl rfl ?_
        refine q_nil ?_
        refine f_then ?_
        refine c_condT rfl ?_
        refine c_seq ?_
        refine c_tail 15 Try.mixed (by kernel_rfl) K.drew ?_
        refine w_y (y_move rfl) rfl rfl rfl ?_
        refine w_y (y_nilP rfl) rfl rfl rfl ?_
        refine w_y (y_fieldAddrB Try.tab 2 rfl rfl rfl rfl rfl) rfl rfl rfl ?_
        refine w_y (y_load Try.tab rfl rfl (cell_row 4 rfl rfl)) rfl rfl rfl ?_
        refine w_y (y_fieldAddr0 Try.tab rfl rfl rfl rfl rfl) rfl rfl rfl ?_
        refine w_y (y_load Try.tab rfl rfl (cell_row 0 rfl rfl)) rfl rfl rfl ?_
        refine w_y (y_move rfl) rfl rfl rfl ?_
        refine w_y (y_nilP rfl) rfl rfl rfl ?_
        refine w_y (y_fieldAddrB Try.tab 2 rfl rfl rfl rfl rfl) rfl rfl rfl ?_
        refine w_y (y_load Try.tab rfl rfl (cell_row 4 rfl rfl)) rfl rfl rfl ?_
        refine w_y (y_move rfl) rfl rfl rfl ?_
        refine w_y (y_indexAddr1 Try.tab rfl rfl rfl rfl _ rfl (by omega)) rfl rfl rfl ?_
        refine w_y (y_load Try.tab rfl rfl (cell_ints 3 rfl (by omega))) rfl rfl rfl ?_
        refine w_y (y_add rfl rfl (by omega)) rfl rfl rfl ?_
        refine w_y (y_indexAddr1 Try.tab rfl rfl rfl rfl _ rfl (by omega)) rfl rfl rfl ?_
        refine w_nil ?_
        refine s_set (set_ints Try.tab 3 rfl rfl rfl rfl (by omega)) rfl rfl ?_
        refine s_nil ?_
        refine f_then ?_
        refine c_region ?_
        refine s_y (y_move rfl) rfl rfl rfl ?_
        refine s_y (y_fieldAddr0 Try.tab rfl rfl rfl rfl rfl) rfl rfl rfl ?_
        refine s_y (y_load Try.tab rfl rfl (cell_row 0 rfl rfl)) rfl rfl rfl ?_
        refine s_do (do_buildSlice1 Try.tab ⟨rfl, rfl, rfl, rfl⟩ rfl rfl rfl rfl) rfl rfl rfl (fun b104 => ?_)
        have hns : to k ≠ s := fun e => by rw [e, hL1.one] at hnew; omega
        have hok : adm tl to room cost high k := ⟨hr, by rw [htk]; exact hrd⟩
        have hL2 := hL1.push hvn hkv hok hnew htn hvs1 hns
        have hpu := pos_upd lev (to k) (lev v + 1) (by omega)
        have hJ2 := hJ.push hk hok (decide_eq_false (by omega)) htn hvn (decide_eq_true hvs1)
        rw [← hpu] at hJ2
        have hc := cnt_drop n (fun u => !pos lev u) (fun u => !pos (upd lev (to k) (lev v + 1)) u) (to k) htn (by simp [pos, hnew]) (by rw [hpu]; simp) (fun i _ hne => by rw [hpu]; simp [upd, hne])
        refine s_do (do_append Try.tab 2 (s := 1) (by_ := 8) (k := 1) (xs := rvals q1) (news := [.int .i64 ((to k : Nat) : Int)]) (o := o1) rfl rfl ⟨rfl, rfl, rfl, rfl⟩ rfl rfl ho1 (CellsAre.one (cell_row 0 rfl rfl)) rfl (by simp [Value.oneCell']) (by unfold maxLen; omega) (by omega)) rfl rfl rfl (fun o2 => ?_)
        refine s_y (y_assign rfl) rfl rfl rfl ?_
        refine s_nil ?_
        refine f_blockN ?_
        refine f_then ?_
        refine c_region ?_
        refine s_y (y_add rfl rfl (by omega)) rfl rfl rfl ?_
        refine s_y (y_move rfl) rfl rfl rfl ?_
        refine s_nil ?_
        exact f_roundP (upd lev (to k) (lev v + 1), q1 ++ [to k], o2.1, j + 1) ⟨⟨hL2, hJ2⟩, by dsimp only; rw [rvals_app, List.length_append]; exact o2.2.1, by dsimp only; omega, by simp only [upd]; split <;> omega, by simp only [List.length_append, List.length_cons, List.length_nil]; omega⟩ (by dsimp only; omega)
          ⟨rfl, rfl, rfl, by dsimp only; rw [List.length_append]; rfl, rfl, rfl, rfl, rfl, trivial⟩ (fun w h => by dsimp only; rw [rvals_app]; exact h.tail.tail)
      · refine q_y (y_F (y_eql rfl rfl) (by assumption)) rfl rfl rfl ?_
        refine q_y (y_pickT rfl rfl) rfl rfl rfl ?_
        refine q_nil ?_
        refine f_then ?_
        refine c_condF rfl ?_
        refine c_skip ?_
        refine f_blockN ?_
        refine f_then ?_
        refine c_region ?_
        refine s_y (y_add rfl rfl (by omega)) rfl rfl rfl ?_
        refine s_y (y_move rfl) rfl rfl rfl ?_
        refine s_nil ?_
        exact f_roundP (lev, q1, o1, j + 1) ⟨⟨hL1, hJ.keep hk (fun h => absurd (by rw [← htk]; exact h.2) hrd)⟩, ho1, by dsimp only; omega, hvs1, hmu⟩ (by dsimp only; omega) ⟨rfl, rfl, rfl, rfl, rfl, rfl, rfl, rfl, trivial⟩ (fun w h => h.tail)
    · refine c_skip ?_
      refine f_then ?_
      refine c_seq ?_
      refine c_block ?_
      refine c_seq ?_
      refine c_region ?_
      refine s_y (y_indexAddr1 Try.tab rfl rfl rfl rfl _ rfl (by omega)) rfl rfl rfl ?_
      refine s_y (y_load Try.tab rfl rfl (CellIs.cons (CellIs.cons (CellIs.cons (CellIs.cons (by assumption)))))) rfl rfl rfl ?_
      refine s_y (y_assign rfl) rfl rfl rfl ?_
      refine s_nil ?_
      refine f_then ?_
      refine c_seq ?_
      refine c_region ?_
      refine s_y (y_move rfl) rfl rfl rfl ?_
      refine s_y (y_nilP rfl) rfl rfl rfl ?_
      refine s_y (y_fieldAddr0 Try.tab rfl rfl rfl rfl rfl) rfl rfl rfl ?_
      refine s_y (y_load Try.tab rfl rfl (cell_row 3 rfl rfl)) rfl rfl rfl ?_
      refine s_y (y_move rfl) rfl rfl rfl ?_
      refine s_y (y_indexAddr0 (s := 3) Try.tab rfl rfl rfl rfl _ rfl (by omega)) rfl rfl rfl ?_
      refine s_y (y_loadA Try.tab rfl rfl rfl rfl (CellsAre.cons (CellsAre.cons (CellsAre.cons (CellsAre.cons (by assumption)))))) rfl rfl rfl ?_
      refine s_do (do_alloc Try.tab rfl) rfl rfl rfl (fun b11 => ?_)
      refine s_set (set_box Try.tab 0 rfl rfl rfl rfl rfl rfl rfl) rfl rfl ?_
      refine s_nil ?_
      refine f_then ?_
      refine c_seq ?_
      refine c_quiet Try.mixed (by kernel_rfl) K.drew ?_
      refine q_y (y_fieldAddrB Try.tab 1 rfl rfl rfl rfl rfl) rfl rfl rfl ?_
      refine q_y (y_load Try.tab rfl rfl (cell_row 0 rfl rfl)) rfl rfl rfl ?_
      refine q_y (y_T (y_gtr rfl rfl) (by assumption)) rfl rfl rfl ?_
      refine q_y (y_move rfl) rfl rfl rfl ?_
      refine q_y (y_move rfl) rfl rfl rfl ?_
      refine q_y (y_nilP rfl) rfl rfl rfl ?_
      refine q_y (y_fieldAddrB Try.tab 2 rfl rfl rfl rfl rfl) rfl rfl rfl ?_
      refine q_y (y_load Try.tab rfl rfl (cell_row 4 rfl rfl)) rfl rfl rfl ?_
      refine q_y (y_fieldAddr0 Try.tab rfl rfl rfl rfl rfl) rfl rfl rfl ?_
      refine q_y (y_load Try.tab rfl rfl (cell_row 0 rfl rfl)) rfl rfl rfl ?_
      refine q_y (y_indexAddr1 Try.tab rfl rfl rfl rfl _ rfl (by omega)) rfl rfl rfl ?_
      refine q_y (y_load Try.tab rfl rfl (cell_ints 3 rfl (by omega))) rfl rfl rfl ?_
      refine q_y (y_F (y_eql rfl rfl) (by assumption)) rfl rfl rfl ?_
      refine q_y (y_pickT rfl rfl) rfl rfl rfl ?_
      refine q_y (y_move rfl) rfl rfl rfl ?_
      refine q_skip rfl rfl rfl ?_
      refine q_skip rfl rfl rfl ?_
      refine q_skip rfl rfl rfl ?_
      refine q_skip rfl rfl rfl ?_
      refine q_skip rfl rfl rfl ?_
      refine q_y (y_pickF rfl rfl) rfl rfl rfl ?_
      refine q_nil ?_
      refine f_then ?_
      refine c_condF rfl ?_
      refine c_skip ?_
      refine f_blockN ?_
      refine f_then ?_
      refine c_region ?_
      refine s_y (y_add rfl rfl (by omega)) rfl rfl rfl ?_
      refine s_y (y_move rfl) rfl rfl rfl ?_
      refine s_nil ?_
      exact f_roundP (lev, q1, o1, j + 1) ⟨⟨hL1, hJ.keep hk (fun _ => decide_eq_true (by omega))⟩, ho1, by dsimp only; omega, hvs1, hmu⟩ (by dsimp only; omega) ⟨rfl, rfl, rfl, rfl, rfl, rfl, rfl, rfl, trivial⟩ (fun w h => h.tail)
  · refine c_skip ?_
    refine f_then ?_
    refine c_seq ?_
    refine c_block ?_
    refine c_seq ?_
    refine c_region ?_
    refine s_y (y_indexAddr1 Try.tab rfl rfl rfl rfl _ rfl (by omega)) rfl rfl rfl ?_
    refine s_y (y_load Try.tab rfl rfl (CellIs.cons (CellIs.cons (CellIs.cons (CellIs.cons (by assumption)))))) rfl rfl rfl ?_
    refine s_y (y_assign rfl) rfl rfl rfl ?_
    refine s_nil ?_
    refine f_then ?_
    refine c_seq ?_
    refine c_region ?_
    refine s_y (y_move rfl) rfl rfl rfl ?_
    refine s_y (y_nilP rfl) rfl rfl rfl ?_
    refine s_y (y_fieldAddr0 Try.tab rfl rfl rfl rfl rfl) rfl rfl rfl ?_
    refine s_y (y_load Try.tab rfl rfl (cell_row 3 rfl rfl)) rfl rfl rfl ?_
    refine s_y (y_move rfl) rfl rfl rfl ?_
    refine s_y (y_indexAddr0 (s := 3) Try.tab rfl rfl rfl rfl _ rfl (by omega)) rfl rfl rfl ?_
    refine s_y (y_loadA Try.tab rfl rfl rfl rfl (CellsAre.cons (CellsAre.cons (CellsAre.cons (CellsAre.cons (by assumption)))))) rfl rfl rfl ?_
    refine s_do (do_alloc Try.tab rfl) rfl rfl rfl (fun b11 => ?_)
    refine s_set (set_box Try.tab 0 rfl rfl rfl rfl rfl rfl rfl) rfl rfl ?_
    refine s_nil ?_
    refine f_then ?_
    refine c_seq ?_
    refine c_quiet Try.mixed (by kernel_rfl) K.drew ?_
    refine q_y (y_fieldAddrB Try.tab 1 rfl rfl rfl rfl rfl) rfl rfl rfl ?_
    refine q_y (y_load Try.tab rfl rfl (cell_row 0 rfl rfl)) rfl rfl rfl ?_
    refine q_y (y_F (y_gtr rfl rfl) (by assumption)) rfl rfl rfl ?_
    refine q_y (y_move rfl) rfl rfl rfl ?_
    refine q_skip rfl rfl rfl ?_
    refine q_skip rfl rfl rfl ?_
    refine q_skip rfl rfl rfl ?_
    refine q_skip rfl rfl rfl ?_
    refine q_skip rfl rfl rfl ?_
    refine q_skip rfl rfl rfl ?_
    refine q_skip rfl rfl rfl ?_
    refine q_skip rfl rfl rfl ?_
    refine q_skip rfl rfl rfl ?_
    refine q_y (y_pickF rfl rfl) rfl rfl rfl ?_
    refine q_y (y_move rfl) rfl rfl rfl ?_
    refine q_skip rfl rfl rfl ?_
    refine q_skip rfl rfl rfl ?_
    refine q_skip rfl rfl rfl ?_
    refine q_skip rfl rfl rfl ?_
    refine q_skip rfl rfl rfl ?_
    refine q_y (y_pickF rfl rfl) rfl rfl rfl ?_
    refine q_nil ?_
    refine f_then ?_
    refine c_condF rfl ?_
    refine c_skip ?_
    refine f_blockN ?_
    refine f_then ?_
    refine c_region ?_
    refine s_y (y_add rfl rfl (by omega)) rfl rfl rfl ?_
    refine s_y (y_move rfl) rfl rfl rfl ?_
    refine s_nil ?_
    exact f_roundP (lev, q1, o1, j + 1) ⟨⟨hL1, hJ.keep hk (fun h => absurd h.1 hr)⟩, ho1, by dsimp only; omega, hvs1, hmu⟩ (by dsimp only; omega) ⟨rfl, rfl, rfl, rfl, rfl, rfl, rfl, rfl, trivial⟩ (fun w h => h.tail)
end Go.KL
end

section
/- The network's memory while flow is sent: the links' own block. -/
namespace Go.KL
open Go.Proofs
def lg (to : Nat → Nat) (room cost : Nat → Int) : Nat → Nat → Value := lnk (fun k => (to k : Int)) room cost
theorem lg_upd (to : Nat → Nat) (room cost : Nat → Int) (k : Nat) (x : Int) : upd2 (lg to room cost) k 1 (.int .i64 x) = lg to (upd room k x) cost := by
  funext a j
  simp only [upd2, lg, lnk, upd]
  by_cases h : a = k
  · subst h
    match j with
    | 0 => simp
    | 1 => simp
    | j + 2 => simp
  · simp only [h, false_and, if_false]
/-- Integers behind a slice. -/
def IntsV (C : World → Prop) (v : Value) (n : Nat) (f : Nat → Int) : Prop := ∃ b, v = .slice (some ⟨b, 0, none⟩) n n ∧ ∀ u, u < n → CellIs C ⟨b, u, none⟩ (.int .i64 (f u))
theorem IntsV.cls {C D : World → Prop} {v : Value} {n : Nat} {f : Nat → Int} (h : IntsV C v n f) (hC : ∀ w, D w → C w) : IntsV D v n f :=
  let ⟨b, h1, h2⟩ := h; ⟨b, h1, fun u hu => (h2 u hu).cls hC⟩
/-- The links' chunk, whatever the rooms. -/
def LinkC (vl : Value) (Lc : (Nat → Int) → Chunk) (m : Nat) (to : Nat → Nat) (cost : Nat → Int) : Prop :=
  0 < m → ∃ bl c rest, vl = .slice (some ⟨bl, 0, none⟩) m c ∧ Lc = fun room => [(bl, recs 85 3 m (lg to room cost) rest)]
theorem nxt_upd (nxt : Nat → Nat) (v : Nat) : (fun u => ((upd nxt v (nxt v + 1) u : Nat) : Int)) = upd (fun u => ((nxt u : Nat) : Int)) v ((nxt v : Int) + 1) := by
  funext u; simp only [upd]; split
  · rename_i h; subst h; omega
  · rfl
theorem PG.gok {n m : Nat} {outs : Nat → List Nat} {to tl par : Nat → Nat} {cost : Nat → Int} (h : PG n m outs to tl par cost) : GOK n m outs to :=
  ⟨fun v hv k hk => ((h.out_iff v hv k).1 hk).1, h.head, h.len⟩
theorem CellIs_recs {W : World} {Ls : List Chunk} (i : Nat) {b k m : Nat} {to : Nat → Nat} {room cost : Nat → Int} {rest : List Value} {c : Chunk} (hi : Ls.getD i [] = (b, recs 85 3 m (lg to room cost) rest) :: c) (hk : k < m) :
    CellsAre (K W Ls) ⟨b, k * 3, none⟩ [.int .i64 ((to k : Nat) : Int), .int .i64 (room k), .int .i64 (cost k)] := cells_recs i hi hk
theorem cell_room {W : World} {Ls : List Chunk} (i : Nat) {b k m : Nat} {to : Nat → Nat} {room cost : Nat → Int} {rest : List Value} {c : Chunk} (hi : Ls.getD i [] = (b, recs 85 3 m (lg to room cost) rest) :: c) (hk : k < m) :
    CellIs (K W Ls) ⟨b, k * 3 + 1, none⟩ (.int .i64 (room k)) := cell_recs i hi hk (by omega)
end Go.KL
end

section
/- Walks: push. -/
namespace Go.KL
open Go.Proofs
attribute [local irreducible] SC St Fin Sq Sw Ylds Doos Sets Enters Spec CellIs CellsAre Then Ret Rnd resOK ints bools recs arr
attribute [local irreducible] RowF lg
set_option maxHeartbeats 8000000 in
theorem push_spec (W : World) (Ls : List Chunk) (p nb n m t : Nat) (vl vo vlev vh : Value) (Lc : (Nat → Int) → Chunk) (outs : Nat → List Nat) (to tl : Nat → Nat) (cost high lev : Nat → Int)
    (hO : OutV (K W Ls) vo n outs) (hH : HighV (K W Ls) vh n high) (hV : IntsV (K W Ls) vlev n lev) (hLc : LinkC vl Lc m to cost) (hG : PG n m outs to tl par2 cost) (hS : ∀ k, k < m → -1000000000000000 ≤ cost k ∧ cost k ≤ 1000000000000000) (hS2 : ∀ v, v < n → -1000000000000000 ≤ high v ∧ high v ≤ 1000000000000000)
    (ht : t < n) (hn : n ≤ 1000) (hm : m ≤ 1000000) (hlev : ∀ u, u < n → 0 ≤ lev u ∧ lev u ≤ n) :
    ∀ (d v : Nat) (most : Int) (room : Nat → Int) (nxt : Nat → Nat), v < n → (n : Int) < lev v + d → 0 ≤ most → most ≤ 9223372036854775807 → (∀ k, k < m → 0 ≤ room k) → (∀ k, k < m → room k + room (par2 k) ≤ 4000000000000000000) → (∀ u, u < n → nxt u ≤ (outs u).length) →
    Spec Try.prog 52 #[.pointer (some ⟨p, 0, none⟩), .int .i64 v, .int .i64 t, .int .i64 most] (K W ([(p, row 78 [vl, vo, vlev, .slice (some ⟨nb, 0, none⟩) n n, vh])] :: Lc room :: [(nb, ints 3 n (fun u => (nxt u : Int)) [])] :: Ls))
      (X := { x : Int × (Nat → Int) × (Nat → Nat) // Sent m to tl par2 cost high lev t v most room x.2.1 x.1 ∧ Moved lev v nxt x.2.2 ∧ (∀ u, u < n → x.2.2 u ≤ (outs u).length) ∧
        (0 < most → Past n outs to tl cost high lev t room nxt → x.1 = 0 → Past n outs to tl cost high lev t room x.2.2 ∧ ¬ Way n outs to tl cost high lev room t v) })
      (fun x => .int .i64 x.1.1) (fun x => K W ([(p, row 78 [vl, vo, vlev, .slice (some ⟨nb, 0, none⟩) n n, vh])] :: Lc x.1.2.1 :: [(nb, ints 3 n (fun u => (x.1.2.2 u : Int)) [])] :: Ls)) := by
  obtain ⟨bo, rfl, hrow⟩ := hO
  obtain ⟨bh, rfl, hhigh⟩ := hH
  obtain ⟨blv, rfl, hlv⟩ := hV
  intro d
  induction d with
  | zero => intro v most room nxt hv hd; have := (hlev v hv).2; omega
  | succ d ih =>
  intro v most room nxt hv hd hm0 hm1 hr0 hr1 hnx
  refine enter (args := [_, _, _, _]) Try.func52 rfl Try.ntmps52 rfl ?_
  by_cases hvt : (v : Int) = (t : Int)
  · refine c_seq ?_
    refine c_region ?_
    refine s_y (y_assign rfl) rfl rfl rfl ?_
    refine s_nil ?_
    refine f_then ?_
    refine c_scope ?_
    refine c_seq ?_
    refine c_seq ?_
    refine c_region ?_
    refine s_y (y_move rfl) rfl rfl rfl ?_
    refine s_y (y_move rfl) rfl rfl rfl ?_
    refine s_y (y_T (y_eql rfl rfl) (by assumption)) rfl rfl rfl ?_
    refine s_nil ?_
    refine f_then ?_
    refine c_condT rfl ?_
    refine c_seq ?_
    refine c_region ?_
    refine s_y (y_move rfl) rfl rfl rfl ?_
    refine s_y (y_assign rfl) rfl rfl rfl ?_
    refine s_nil ?_
    refine f_then ?_
    refine c_ret ?_
    refine f_thenR ?_
    refine f_noR ?_
    have hvt' : v = t := by omega
    subst hvt'
    exact f_ret ⟨(most, room, nxt), Sent.atT hm0 hr0, Moved.refl _ _, hnx, fun h1 _ h2 => by dsimp only at h2; omega⟩ (res1 rfl rfl) (fun w h => h)
  obtain ⟨val, hval, hr⟩ := hrow v hv
  unfold RowF at hr
  obtain ⟨pa, cc, rfl, hcells⟩ := hr
  refine c_seq ?_
  refine c_region ?_
  refine s_y (y_assign rfl) rfl rfl rfl ?_
  refine s_nil ?_
  refine f_then ?_
  refine c_scope ?_
  refine c_seq ?_
  refine c_seq ?_
  refine c_region ?_
  refine s_y (y_move rfl) rfl rfl rfl ?_
  refine s_y (y_move rfl) rfl rfl rfl ?_
  refine s_y (y_F (y_eql rfl rfl) (by assumption)) rfl rfl rfl ?_
  refine s_nil ?_
  refine f_then ?_
  refine c_condF rfl ?_
  refine c_skip ?_
  refine f_then ?_
  refine c_seq ?_
  refine c_region ?_
  refine s_y (y_assign rfl) rfl rfl rfl ?_
  refine s_nil ?_
  refine f_then ?_
  refine c_seq ?_
  refine c_label ?_
  refine f_then ?_
  refine c_seq ?_
  refine c_block ?_
  refine c_loopP (α := Int × (Nat → Int) × (Nat → Nat)) (fun z => [(0, .pointer (some ⟨p, 0, none⟩)), (1, .int .i64 v), (2, .int .i64 t), (3, .int .i64 most), (9, .int .i64 z.1)])
    (fun z => (Sent m to tl par2 cost high lev t v most room z.2.1 z.1 ∧ Moved lev v nxt z.2.2) ∧ (∀ u, u < n → z.2.2 u ≤ (outs u).length) ∧ (0 < most → Past n outs to tl cost high lev t room nxt → z.1 = 0 → Past n outs to tl cost high lev t room z.2.2))
    (fun z => K W ([(p, row 78 [vl, .slice (some ⟨bo, 0, none⟩) n n, .slice (some ⟨blv, 0, none⟩) n n, .slice (some ⟨nb, 0, none⟩) n n, .slice (some ⟨bh, 0, none⟩) n n])] :: Lc z.2.1 :: [(nb, ints 3 n (fun u => (z.2.2 u : Int)) [])] :: Ls)) (fun z => (outs v).length - z.2.2 v)
    (0, room, nxt) ⟨rfl, rfl, rfl, rfl, rfl, trivial⟩ ⟨⟨Sent.none hm0 hr0, Moved.refl _ _⟩, hnx, fun _ h _ => h⟩ (fun w h => h) ?_
  rintro ⟨sent, room1, nxt1⟩ ⟨⟨hs1, hmv1⟩, hn1, hp1⟩
  dsimp only at hs1 hmv1 hn1 hp1 ⊢
  have hvn1 := hn1 v hv
  have hlenv := hG.len v hv
  have q1 := hs1.lo
  have q2 := hs1.hi
  refine c_seq ?_
  refine c_seq ?_
  refine c_quiet Try.mixed (by kernel_rfl) K.drew ?_
  refine q_y (y_move rfl) rfl rfl rfl ?_
  refine q_y (y_nilP rfl) rfl rfl rfl ?_
  refine q_y (y_fieldAddrB Try.tab 3 rfl rfl rfl rfl rfl) rfl rfl rfl ?_
  refine q_y (y_load Try.tab rfl rfl (cell_row 0 rfl rfl)) rfl rfl rfl ?_
  refine q_y (y_move rfl) rfl rfl rfl ?_
  refine q_y (y_indexAddr1 Try.tab rfl rfl rfl rfl _ rfl (by omega)) rfl rfl rfl ?_
  refine q_y (y_load Try.tab rfl rfl (cell_ints 2 rfl (by omega))) rfl rfl rfl ?_
  refine q_y (y_move rfl) rfl rfl rfl ?_
  refine q_y (y_nilP rfl) rfl rfl rfl ?_
  refine q_y (y_fieldAddrB Try.tab 1 rfl rfl rfl rfl rfl) rfl rfl rfl ?_
  refine q_y (y_load Try.tab rfl rfl (cell_row 0 rfl rfl)) rfl rfl rfl ?_
  refine q_y (y_move rfl) rfl rfl rfl ?_
  refine q_y (y_indexAddr1 Try.tab rfl rfl rfl rfl _ rfl (by omega)) rfl rfl rfl ?_
  refine q_y (y_load Try.tab rfl rfl (CellIs.cons (CellIs.cons (CellIs.cons (by assumption))))) rfl rfl rfl ?_
  refine q_y (y_len Try.tab rfl rfl) rfl rfl rfl ?_
  refine q_y (y_lss rfl rfl) rfl rfl rfl ?_
  refine q_nil ?_
  refine f_then ?_
  refine c_condD rfl (fun hlt => ?_) (fun hge => ?_)
  rotate_left
  · refine c_exit ?_
    refine f_thenE ?_
    refine f_rndE ?_
    refine f_blockE ?_
    refine f_then ?_
    refine c_seq ?_
    refine c_region ?_
    refine s_y (y_move rfl) rfl rfl rfl ?_
    refine s_y (y_assign rfl) rfl rfl rfl ?_
    refine s_nil ?_
    refine f_then ?_
    refine c_ret ?_
    refine f_noR ?_
    exact f_ret ⟨(sent, room1, nxt1), hs1, hmv1, hn1, fun h1 h2 h3 => ⟨hp1 h1 h2 h3, (hp1 h1 h2 h3).noWay hv (by omega) (by omega)⟩⟩ (res1 rfl rfl) (fun w h => h)
  have hjl : nxt1 v < (outs v).length := by omega
  obtain ⟨b, rfl, hck⟩ := hcells _ hjl
  obtain ⟨k, hk⟩ : ∃ k, (outs v)[nxt1 v]? = some k := ⟨_, List.getElem?_eq_getElem hjl⟩
  have hkv := List.mem_of_getElem? hk
  obtain ⟨hkm, htk⟩ := (hG.out_iff v hv k).1 hkv
  obtain ⟨bl, cl, rest, rfl, rfl⟩ := hLc (by omega)
  dsimp only at ih ⊢
  have hck' := hck k hk
  have htn := hG.head k hkm
  have hpm := hG.par_lt k hkm
  have hhv := hhigh v hv
  have hht := hhigh (to k) htn
  have hlv1 := hlv v hv
  have hlt1 := hlv (to k) htn
  have hc1 := hS k hkm
  have hc2 := hS2 v hv
  have hc3 := hS2 (to k) htn
  have hc4 := hlev v hv
  have hc5 := hlev (to k) htn
  have hr3 := hs1.nonneg k hkm
  have hr4 := hs1.pair k hkm
  have hr5 := hr1 k hkm
  have hr6 := hs1.nonneg _ hpm
  have hlk := CellIs_recs (W := W) (Ls := [(p, row 78 [.slice (some ⟨bl, 0, none⟩) m cl, .slice (some ⟨bo, 0, none⟩) n n, .slice (some ⟨blv, 0, none⟩) n n, .slice (some ⟨nb, 0, none⟩) n n, .slice (some ⟨bh, 0, none⟩) n n])] :: [(bl, recs 85 3 m (lg to room1 cost) rest)] :: [(nb, ints 3 n (fun u => (nxt1 u : Int)) [])] :: Ls) 1 rfl hkm
  have hinc : ∀ u, u < n → upd nxt1 v (nxt1 v + 1) u ≤ (outs u).length := fun u hu => by
    have := hn1 u hu
    simp only [upd]; split
    · rename_i e; subst e; omega
    · exact this
  have hskip : ¬ Adm to tl cost high lev room1 k → 0 < most → Past n outs to tl cost high lev t room nxt → sent = 0 → Past n outs to tl cost high lev t room (upd nxt1 v (nxt1 v + 1)) := fun hna h1 h2 h3 =>
    (hp1 h1 h2 h3).next hk (fun h => hna (by rw [hs1.nothing h3]; exact h.1))
  have hmu : (outs v).length - upd nxt1 v (nxt1 v + 1) v < (outs v).length - nxt1 v := by rw [upd_same]; omega
  by_cases hroom : room1 k = 0
  · refine c_skip ?_
    refine f_then ?_
    refine c_seq ?_
    refine c_block ?_
    refine c_seq ?_
    refine c_quiet Try.mixed (by kernel_rfl) K.drew ?_
    refine q_y (y_move rfl) rfl rfl rfl ?_
    refine q_y (y_nilP rfl) rfl rfl rfl ?_
    refine q_y (y_fieldAddrB Try.tab 1 rfl rfl rfl rfl rfl) rfl rfl rfl ?_
    refine q_y (y_load Try.tab rfl rfl (cell_row 0 rfl rfl)) rfl rfl rfl ?_
    refine q_y (y_move rfl) rfl rfl rfl ?_
    refine q_y (y_indexAddr1 Try.tab rfl rfl rfl rfl _ rfl (by omega)) rfl rfl rfl ?_
    refine q_y (y_load Try.tab rfl rfl (CellIs.cons (CellIs.cons (CellIs.cons (by assumption))))) rfl rfl rfl ?_
    refine q_y (y_move rfl) rfl rfl rfl ?_
    refine q_y (y_nilP rfl) rfl rfl rfl ?_
    refine q_y (y_fieldAddrB Try.tab 3 rfl rfl rfl rfl rfl) rfl rfl rfl ?_
    refine q_y (y_load Try.tab rfl rfl (cell_row 0 rfl rfl)) rfl rfl rfl ?_
    refine q_y (y_move rfl) rfl rfl rfl ?_
    refine q_y (y_indexAddr1 Try.tab rfl rfl rfl rfl _ rfl (by omega)) rfl rfl rfl ?_
    refine q_y (y_load Try.tab rfl rfl (cell_ints 2 rfl (by omega))) rfl rfl rfl ?_
    refine q_y (y_indexAddr1 Try.tab rfl rfl rfl rfl _ rfl (by omega)) rfl rfl rfl ?_
    refine q_y (y_load Try.tab rfl rfl (CellIs.cons (CellIs.cons (CellIs.cons (by assumption))))) rfl rfl rfl ?_
    refine q_y (y_assign rfl) rfl rfl rfl ?_
    refine q_nil ?_
    refine f_then ?_
    refine c_seq ?_
    refine c_region ?_
    refine s_y (y_move rfl) rfl rfl rfl ?_
    refine s_y (y_nilP rfl) rfl rfl rfl ?_
    refine s_y (y_fieldAddr0 Try.tab rfl rfl rfl rfl rfl) rfl rfl rfl ?_
    refine s_y (y_load Try.tab rfl rfl (cell_row 0 rfl rfl)) rfl rfl rfl ?_
    refine s_y (y_move rfl) rfl rfl rfl ?_
    refine s_y (y_indexAddr0 (s := 3) Try.tab rfl rfl rfl rfl _ rfl (by omega)) rfl rfl rfl ?_
    refine s_y (y_loadA Try.tab rfl rfl rfl rfl (by assumption)) rfl rfl rfl ?_
    refine s_do (do_alloc Try.tab rfl) rfl rfl rfl (fun b11 => ?_)
    refine s_set (set_box Try.tab 0 rfl rfl rfl rfl rfl rfl rfl) rfl rfl ?_
    refine s_nil ?_
    refine f_then ?_
    refine c_seq ?_
    refine c_seq ?_
    refine c_quiet Try.mixed (by kernel_rfl) K.drew ?_
    refine q_y (y_fieldAddrB Try.tab 1 rfl rfl rfl rfl rfl) rfl rfl rfl ?_
    refine q_y (y_load Try.tab rfl rfl (cell_row 0 rfl rfl)) rfl rfl rfl ?_
    refine q_y (y_T (y_eql rfl rfl) (by assumption)) rfl rfl rfl ?_
    refine q_y (y_move rfl) rfl rfl rfl ?_
    refine q_skip rfl rfl rfl ?_
    refine q_skip rfl rfl rfl ?_
    refine q_skip rfl rfl rfl ?_
    refine q_skip rfl rfl rfl ?_
    refine q_skip rfl rfl rfl ?_
    refine q_skip rfl rfl rfl ?_
    refine q_skip rfl rfl rfl ?_
    refine q_skip rfl rfl rfl ?_
    refine q_skip rfl rfl rfl ?_
    refine q_skip rfl rfl rfl ?_
    refine q_skip rfl rfl rfl ?_
    refine q_skip rfl rfl rfl ?_
    refine q_skip rfl rfl rfl ?_
    refine q_skip rfl rfl rfl ?_
    refine q_skip rfl rfl rfl ?_
    refine q_skip rfl rfl rfl ?_
    refine q_skip rfl rfl rfl ?_
    refine q_y (y_pickT rfl rfl) rfl rfl rfl ?_
    refine q_y (y_move rfl) rfl rfl rfl ?_
    refine q_skip rfl rfl rfl ?_
    refine q_skip rfl rfl rfl ?_
    refine q_skip rfl rfl rfl ?_
    refine q_skip rfl rfl rfl ?_
    refine q_skip rfl rfl rfl ?_
    refine q_y (y_pickT rfl rfl) rfl rfl rfl ?_
    refine q_nil ?_
    refine f_then ?_
    refine c_condT rfl ?_
    refine c_exit ?_
    refine f_thenE ?_
    refine f_blockE ?_
    refine f_then ?_
    refine c_region ?_
    refine s_y (y_move rfl) rfl rfl rfl ?_
    refine s_y (y_nilP rfl) rfl rfl rfl ?_
    refine s_y (y_fieldAddrB Try.tab 3 rfl rfl rfl rfl rfl) rfl rfl rfl ?_
    refine s_y (y_load Try.tab rfl rfl (cell_row 1 rfl rfl)) rfl rfl rfl ?_
    refine s_y (y_move rfl) rfl rfl rfl ?_
    refine s_y (y_indexAddr1 Try.tab rfl rfl rfl rfl _ rfl (by omega)) rfl rfl rfl ?_
    refine s_y (y_load Try.tab rfl rfl (cell_ints 3 rfl (by omega))) rfl rfl rfl ?_
    refine s_y (y_add rfl rfl (by omega)) rfl rfl rfl ?_
    refine s_y (y_indexAddr1 Try.tab rfl rfl rfl rfl _ rfl (by omega)) rfl rfl rfl ?_
    refine s_set (set_ints Try.tab 3 rfl rfl rfl rfl (by omega)) rfl rfl ?_
    refine s_nil ?_
    exact f_roundP (sent, room1, upd nxt1 v (nxt1 v + 1)) ⟨⟨hs1, hmv1.inc⟩, hinc, hskip (fun h => by have := h.1; omega)⟩ hmu ⟨rfl, rfl, rfl, rfl, rfl, trivial⟩ (fun w h => by dsimp only; rw [nxt_upd]; exact h.tail)
  by_cases hl : lev (to k) = lev v + 1
  rotate_left
  · refine c_skip ?_
    refine f_then ?_
    refine c_seq ?_
    refine c_block ?_
    refine c_seq ?_
    refine c_quiet Try.mixed (by kernel_rfl) K.drew ?_
    refine q_y (y_move rfl) rfl rfl rfl ?_
    refine q_y (y_nilP rfl) rfl rfl rfl ?_
    refine q_y (y_fieldAddrB Try.tab 1 rfl rfl rfl rfl rfl) rfl rfl rfl ?_
    refine q_y (y_load Try.tab rfl rfl (cell_row 0 rfl rfl)) rfl rfl rfl ?_
    refine q_y (y_move rfl) rfl rfl rfl ?_
    refine q_y (y_indexAddr1 Try.tab rfl rfl rfl rfl _ rfl (by omega)) rfl rfl rfl ?_
    refine q_y (y_load Try.tab rfl rfl (CellIs.cons (CellIs.cons (CellIs.cons (by assumption))))) rfl rfl rfl ?_
    refine q_y (y_move rfl) rfl rfl rfl ?_
    refine q_y (y_nilP rfl) rfl rfl rfl ?_
    refine q_y (y_fieldAddrB Try.tab 3 rfl rfl rfl rfl rfl) rfl rfl rfl ?_
    refine q_y (y_load Try.tab rfl rfl (cell_row 0 rfl rfl)) rfl rfl rfl ?_
    refine q_y (y_move rfl) rfl rfl rfl ?_
    refine q_y (y_indexAddr1 Try.tab rfl rfl rfl rfl _ rfl (by omega)) rfl rfl rfl ?_
    refine q_y (y_load Try.tab rfl rfl (cell_ints 2 rfl (by omega))) rfl rfl rfl ?_
    refine q_y (y_indexAddr1 Try.tab rfl rfl rfl rfl _ rfl (by omega)) rfl rfl rfl ?_
    refine q_y (y_load Try.tab rfl rfl (CellIs.cons (CellIs.cons (CellIs.cons (by assumption))))) rfl rfl rfl ?_
    refine q_y (y_assign rfl) rfl rfl rfl ?_
    refine q_nil ?_
    refine f_then ?_
    refine c_seq ?_
    refine c_region ?_
    refine s_y (y_move rfl) rfl rfl rfl ?_
    refine s_y (y_nilP rfl) rfl rfl rfl ?_
    refine s_y (y_fieldAddr0 Try.tab rfl rfl rfl rfl rfl) rfl rfl rfl ?_
    refine s_y (y_load Try.tab rfl rfl (cell_row 0 rfl rfl)) rfl rfl rfl ?_
    refine s_y (y_move rfl) rfl rfl rfl ?_
    refine s_y (y_indexAddr0 (s := 3) Try.tab rfl rfl rfl rfl _ rfl (by omega)) rfl rfl rfl ?_
    refine s_y (y_loadA Try.tab rfl rfl rfl rfl (by assumption)) rfl rfl rfl ?_
    refine s_do (do_alloc Try.tab rfl) rfl rfl rfl (fun b11 => ?_)
    refine s_set (set_box Try.tab 0 rfl rfl rfl rfl rfl rfl rfl) rfl rfl ?_
    refine s_nil ?_
    refine f_then ?_
    refine c_seq ?_
    refine c_seq ?_
    refine c_quiet Try.mixed (by kernel_rfl) K.drew ?_
    refine q_y (y_fieldAddrB Try.tab 1 rfl rfl rfl rfl rfl) rfl rfl rfl ?_
    refine q_y (y_load Try.tab rfl rfl (cell_row 0 rfl rfl)) rfl rfl rfl ?_
    refine q_y (y_F (y_eql rfl rfl) (by assumption)) rfl rfl rfl ?_
    refine q_y (y_move rfl) rfl rfl rfl ?_
    refine q_y (y_move rfl) rfl rfl rfl ?_
    refine q_y (y_nilP rfl) rfl rfl rfl ?_
    refine q_y (y_fieldAddrB Try.tab 2 rfl rfl rfl rfl rfl) rfl rfl rfl ?_
    refine q_y (y_load Try.tab rfl rfl (cell_row 1 rfl rfl)) rfl rfl rfl ?_
    refine q_y (y_fieldAddr0 Try.tab rfl rfl rfl rfl rfl) rfl rfl rfl ?_
    refine q_y (y_load Try.tab rfl rfl (cell_row 0 rfl rfl)) rfl rfl rfl ?_
    refine q_y (y_indexAddr1 Try.tab rfl rfl rfl rfl _ rfl (by omega)) rfl rfl rfl ?_
    refine q_y (y_load Try.tab rfl rfl (CellIs.cons (CellIs.cons (CellIs.cons (CellIs.cons (by assumption)))))) rfl rfl rfl ?_
    refine q_y (y_move rfl) rfl rfl rfl ?_
    refine q_y (y_nilP rfl) rfl rfl rfl ?_
    refine q_y (y_fieldAddrB Try.tab 2 rfl rfl rfl rfl rfl) rfl rfl rfl ?_
    refine q_y (y_load Try.tab rfl rfl (cell_row 1 rfl rfl)) rfl rfl rfl ?_
    refine q_y (y_move rfl) rfl rfl rfl ?_
    refine q_y (y_indexAddr1 Try.tab rfl rfl rfl rfl _ rfl (by omega)) rfl rfl rfl ?_
    refine q_y (y_load Try.tab rfl rfl (CellIs.cons (CellIs.cons (CellIs.cons (CellIs.cons (by assumption)))))) rfl rfl rfl ?_
    refine q_y (y_add rfl rfl (by omega)) rfl rfl rfl ?_
    refine q_y (y_T (y_neq rfl rfl) (by assumption)) rfl rfl rfl ?_
    refine q_y (y_pickF rfl rfl) rfl rfl rfl ?_
    refine q_y (y_move rfl) rfl rfl rfl ?_
    refine q_skip rfl rfl rfl ?_
    refine q_skip rfl rfl rfl ?_
    refine q_skip rfl rfl rfl ?_
    refine q_skip rfl rfl rfl ?_
    refine q_skip rfl rfl rfl ?_
    refine q_y (y_pickT rfl rfl) rfl rfl rfl ?_
    refine q_nil ?_
    refine f_then ?_
    refine c_condT rfl ?_
    refine c_exit ?_
    refine f_thenE ?_
    refine f_blockE ?_
    refine f_then ?_
    refine c_region ?_
    refine s_y (y_move rfl) rfl rfl rfl ?_
    refine s_y (y_nilP rfl) rfl rfl rfl ?_
    refine s_y (y_fieldAddrB Try.tab 3 rfl rfl rfl rfl rfl) rfl rfl rfl ?_
    refine s_y (y_load Try.tab rfl rfl (cell_row 1 rfl rfl)) rfl rfl rfl ?_
    refine s_y (y_move rfl) rfl rfl rfl ?_
    refine s_y (y_indexAddr1 Try.tab rfl rfl rfl rfl _ rfl (by omega)) rfl rfl rfl ?_
    refine s_y (y_load Try.tab rfl rfl (cell_ints 3 rfl (by omega))) rfl rfl rfl ?_
    refine s_y (y_add rfl rfl (by omega)) rfl rfl rfl ?_
    refine s_y (y_indexAddr1 Try.tab rfl rfl rfl rfl _ rfl (by omega)) rfl rfl rfl ?_
    refine s_set (set_ints Try.tab 3 rfl rfl rfl rfl (by omega)) rfl rfl ?_
    refine s_nil ?_
    exact f_roundP (sent, room1, upd nxt1 v (nxt1 v + 1)) ⟨⟨hs1, hmv1.inc⟩, hinc, hskip (fun h => hl (by rw [h.2.1, htk]))⟩ hmu ⟨rfl, rfl, rfl, rfl, rfl, trivial⟩ (fun w h => by dsimp only; rw [nxt_upd]; exact h.tail)
  refine c_skip ?_
  refine f_then ?_
  refine c_seq ?_
  refine c_block ?_
  refine c_seq ?_
  refine c_quiet Try.mixed (by kernel_rfl) K.drew ?_
  refine q_y (y_move rfl) rfl rfl rfl ?_
  refine q_y (y_nilP rfl) rfl rfl rfl ?_
  refine q_y (y_fieldAddrB Try.tab 1 rfl rfl rfl rfl rfl) rfl rfl rfl ?_
  refine q_y (y_load Try.tab rfl rfl (cell_row 0 rfl rfl)) rfl rfl rfl ?_
  refine q_y (y_move rfl) rfl rfl rfl ?_
  refine q_y (y_indexAddr1 Try.tab rfl rfl rfl rfl _ rfl (by omega)) rfl rfl rfl ?_
  refine q_y (y_load Try.tab rfl rfl (CellIs.cons (CellIs.cons (CellIs.cons (by assumption))))) rfl rfl rfl ?_
  refine q_y (y_move rfl) rfl rfl rfl ?_
  refine q_y (y_nilP rfl) rfl rfl rfl ?_
  refine q_y (y_fieldAddrB Try.tab 3 rfl rfl rfl rfl rfl) rfl rfl rfl ?_
  refine q_y (y_load Try.tab rfl rfl (cell_row 0 rfl rfl)) rfl rfl rfl ?_
  refine q_y (y_move rfl) rfl rfl rfl ?_
  refine q_y (y_indexAddr1 Try.tab rfl rfl rfl rfl _ rfl (by omega)) rfl rfl rfl ?_
  refine q_y (y_load Try.tab rfl rfl (cell_ints 2 rfl (by omega))) rfl rfl rfl ?_
  refine q_y (y_indexAddr1 Try.tab rfl rfl rfl rfl _ rfl (by omega)) rfl rfl rfl ?_
  refine q_y (y_load Try.tab rfl rfl (CellIs.cons (CellIs.cons (CellIs.cons (by assumption))))) rfl rfl rfl ?_
  refine q_y (y_assign rfl) rfl rfl rfl ?_
  refine q_nil ?_
  refine f_then ?_
  refine c_seq ?_
  refine c_region ?_
  refine s_y (y_move rfl) rfl rfl rfl ?_
  refine s_y (y_nilP rfl) rfl rfl rfl ?_
  refine s_y (y_fieldAddr0 Try.tab rfl rfl rfl rfl rfl) rfl rfl rfl ?_
  refine s_y (y_load Try.tab rfl rfl (cell_row 0 rfl rfl)) rfl rfl rfl ?_
  refine s_y (y_move rfl) rfl rfl rfl ?_
  refine s_y (y_indexAddr0 (s := 3) Try.tab rfl rfl rfl rfl _ rfl (by omega)) rfl rfl rfl ?_
  refine s_y (y_loadA Try.tab rfl rfl rfl rfl (by assumption)) rfl rfl rfl ?_
  refine s_do (do_alloc Try.tab rfl) rfl rfl rfl (fun b11 => ?_)
  refine s_set (set_box Try.tab 0 rfl rfl rfl rfl rfl rfl rfl) rfl rfl ?_
  refine s_nil ?_
  refine f_then ?_
  refine c_seq ?_
  refine c_seq ?_
  refine c_quiet Try.mixed (by kernel_rfl) K.drew ?_
  refine q_y (y_fieldAddrB Try.tab 1 rfl rfl rfl rfl rfl) rfl rfl rfl ?_
  refine q_y (y_load Try.tab rfl rfl (cell_row 0 rfl rfl)) rfl rfl rfl ?_
  refine q_y (y_F (y_eql rfl rfl) (by assumption)) rfl rfl rfl ?_
  refine q_y (y_move rfl) rfl rfl rfl ?_
  refine q_y (y_move rfl) rfl rfl rfl ?_
  refine q_y (y_nilP rfl) rfl rfl rfl ?_
  refine q_y (y_fieldAddrB Try.tab 2 rfl rfl rfl rfl rfl) rfl rfl rfl ?_
  refine q_y (y_load Try.tab rfl rfl (cell_row 1 rfl rfl)) rfl rfl rfl ?_
  refine q_y (y_fieldAddr0 Try.tab rfl rfl rfl rfl rfl) rfl rfl rfl ?_
  refine q_y (y_load Try.tab rfl rfl (cell_row 0 rfl rfl)) rfl rfl rfl ?_
  refine q_y (y_indexAddr1 Try.tab rfl rfl rfl rfl _ rfl (by omega)) rfl rfl rfl ?_
  refine q_y (y_load Try.tab rfl rfl (CellIs.cons (CellIs.cons (CellIs.cons (CellIs.cons (by assumption)))))) rfl rfl rfl ?_
  refine q_y (y_move rfl) rfl rfl rfl ?_
  refine q_y (y_nilP rfl) rfl rfl rfl ?_
  refine q_y (y_fieldAddrB Try.tab 2 rfl rfl rfl rfl rfl) rfl rfl rfl ?_
  refine q_y (y_load Try.tab rfl rfl (cell_row 1 rfl rfl)) rfl rfl rfl ?_
  refine q_y (y_move rfl) rfl rfl rfl ?_
  refine q_y (y_indexAddr1 Try.tab rfl rfl rfl rfl _ rfl (by omega)) rfl rfl rfl ?_
  refine q_y (y_load Try.tab rfl rfl (CellIs.cons (CellIs.cons (CellIs.cons (CellIs.cons (by assumption)))))) rfl rfl rfl ?_
  refine q_y (y_add rfl rfl (by omega)) rfl rfl rfl ?_
  refine q_y (y_F (y_neq rfl rfl) (by omega)) rfl rfl rfl ?_
  refine q_y (y_pickF rfl rfl) rfl rfl rfl ?_
  refine q_y (y_move rfl) rfl rfl rfl ?_
  refine q_y (y_move rfl) rfl rfl rfl ?_
  refine q_y (y_move rfl) rfl rfl rfl ?_
  refine q_y (y_move rfl) rfl rfl rfl ?_
  refine q_call (en_f rfl Try.call57) (reduced_spec W _ p bl m cl bh n n k v (to k) (room1 k) (cost k) (high v) (high (to k)) (cell_row 1 rfl rfl) (CellsAre.cons hlk) hkm (cell_row 1 rfl rfl) (CellIs.cons (CellIs.cons (CellIs.cons (CellIs.cons hhv)))) (CellIs.cons (CellIs.cons (CellIs.cons (CellIs.cons hht)))) hv htn (by omega)) rfl rfl rfl ?_
  by_cases hrd : cost k + high v - high (to k) = 0
  rotate_left
  · refine q_y (y_T (y_neq rfl rfl) (by assumption)) rfl rfl rfl ?_
    refine q_y (y_pickF rfl rfl) rfl rfl rfl ?_
    refine q_nil ?_
    refine f_then ?_
    refine c_condT rfl ?_
    refine c_exit ?_
    refine f_thenE ?_
    refine f_blockE ?_
    refine f_then ?_
    refine c_region ?_
    refine s_y (y_move rfl) rfl rfl rfl ?_
    refine s_y (y_nilP rfl) rfl rfl rfl ?_
    refine s_y (y_fieldAddrB Try.tab 3 rfl rfl rfl rfl rfl) rfl rfl rfl ?_
    refine s_y (y_load Try.tab rfl rfl (cell_row 1 rfl rfl)) rfl rfl rfl ?_
    refine s_y (y_move rfl) rfl rfl rfl ?_
    refine s_y (y_indexAddr1 Try.tab rfl rfl rfl rfl _ rfl (by omega)) rfl rfl rfl ?_
    refine s_y (y_load Try.tab rfl rfl (cell_ints 3 rfl (by omega))) rfl rfl rfl ?_
    refine s_y (y_add rfl rfl (by omega)) rfl rfl rfl ?_
    refine s_y (y_indexAddr1 Try.tab rfl rfl rfl rfl _ rfl (by omega)) rfl rfl rfl ?_
    refine s_set (set_ints Try.tab 3 rfl rfl rfl rfl (by omega)) rfl rfl ?_
    refine s_nil ?_
    exact f_roundP (sent, room1, upd nxt1 v (nxt1 v + 1)) ⟨⟨hs1, hmv1.inc⟩, hinc, hskip (fun h => hrd (by rw [← htk]; exact h.2.2))⟩ hmu ⟨rfl, rfl, rfl, rfl, rfl, trivial⟩ (fun w h => by dsimp only; rw [nxt_upd]; exact h.tail)
  refine q_y (y_F (y_neq rfl rfl) (by omega)) rfl rfl rfl ?_
  refine q_y (y_pickF rfl rfl) rfl rfl rfl ?_
  refine q_nil ?_
  refine f_then ?_
  refine c_condF rfl ?_
  refine c_skip ?_
  refine f_then ?_
  refine c_seq ?_
  refine c_region ?_
  refine s_y (y_move rfl) rfl rfl rfl ?_
  refine s_y (y_fieldAddr0 Try.tab rfl rfl rfl rfl rfl) rfl rfl rfl ?_
  refine s_y (y_load Try.tab rfl rfl (cell_row 0 rfl rfl)) rfl rfl rfl ?_
  refine s_y (y_move rfl) rfl rfl rfl ?_
  refine s_y (y_move rfl) rfl rfl rfl ?_
  refine s_y (y_move rfl) rfl rfl rfl ?_
  refine s_y (y_sub rfl rfl (by omega)) rfl rfl rfl ?_
  refine s_y (y_fieldAddrB Try.tab 1 rfl rfl rfl rfl rfl) rfl rfl rfl ?_
  refine s_y (y_load Try.tab rfl rfl (cell_row 0 rfl rfl)) rfl rfl rfl ?_
  refine s_y (y_min rfl rfl) rfl rfl rfl ?_
  refine St.cls (C' := K W ([(p, row 78 [.slice (some ⟨bl, 0, none⟩) m cl, .slice (some ⟨bo, 0, none⟩) n n, .slice (some ⟨blv, 0, none⟩) n n, .slice (some ⟨nb, 0, none⟩) n n, .slice (some ⟨bh, 0, none⟩) n n])] :: [(bl, recs 85 3 m (lg to room1 cost) rest)] :: [(nb, ints 3 n (fun u => (nxt1 u : Int)) [])] :: Ls)) ?_ (fun w h => h.tail)
  refine s_call (en_f rfl Try.call52) (ih (to k) (min (most - sent) (room1 k)) room1 nxt1 htn (by omega) (by omega) (by omega) hs1.nonneg (fun j hj => by have := hs1.pair j hj; have := hr1 j hj; omega) hn1) rfl rfl rfl (fun x => ?_)
  obtain ⟨⟨got, room2, nxt2⟩, hs2, hmv2, hn2, hp2⟩ := x
  dsimp only at hs2 hmv2 hn2 hp2 ⊢
  have g1 := hs2.lo
  have g2 := hs2.hi
  have g3 := hs2.nonneg k hkm
  have g4 := hs2.pair k hkm
  have g5 := hs2.nonneg _ hpm
  have hsum := Sent.step hG hs1 hkm htk hl (by unfold red; rw [htk]; exact hrd) (by omega) (by omega) hs2
  have hrk2 : got ≤ room2 k := by
    have h1 := hsum.nonneg k hkm
    rw [along_self hG] at h1
    omega
  have hcell1 := cell_room (W := W) (Ls := [(p, row 78 [.slice (some ⟨bl, 0, none⟩) m cl, .slice (some ⟨bo, 0, none⟩) n n, .slice (some ⟨blv, 0, none⟩) n n, .slice (some ⟨nb, 0, none⟩) n n, .slice (some ⟨bh, 0, none⟩) n n])] :: [(bl, recs 85 3 m (lg to room2 cost) rest)] :: [(nb, ints 3 n (fun u => (nxt2 u : Int)) [])] :: Ls) 1 rfl hkm
  refine s_y (y_assign rfl) rfl rfl rfl ?_
  refine s_nil ?_
  refine f_then ?_
  refine c_seq ?_
  refine c_region ?_
  refine s_y (y_move rfl) rfl rfl rfl ?_
  refine s_y (y_nilP rfl) rfl rfl rfl ?_
  refine s_y (y_fieldAddr0 Try.tab rfl rfl rfl rfl rfl) rfl rfl rfl ?_
  refine s_y (y_load Try.tab rfl rfl (cell_row 0 rfl rfl)) rfl rfl rfl ?_
  refine s_y (y_move rfl) rfl rfl rfl ?_
  refine s_y (y_indexAddr0 (s := 3) Try.tab rfl rfl rfl rfl _ rfl (by omega)) rfl rfl rfl ?_
  refine s_y (y_fieldAddr Try.tab 1 rfl rfl rfl rfl rfl) rfl rfl rfl ?_
  refine s_y (y_load Try.tab rfl rfl (by assumption)) rfl rfl rfl ?_
  refine s_y (y_move rfl) rfl rfl rfl ?_
  refine s_y (y_sub rfl rfl (by omega)) rfl rfl rfl ?_
  refine s_y (y_indexAddr0 (s := 3) Try.tab rfl rfl rfl rfl _ rfl (by omega)) rfl rfl rfl ?_
  refine s_y (y_fieldAddr Try.tab 1 rfl rfl rfl rfl rfl) rfl rfl rfl ?_
  refine s_set (set_recs (s := 3) (j := 1) (k := k) Try.tab 1 rfl rfl rfl rfl rfl hkm (by omega)) rfl rfl ?_
  refine St.cls (C' := K W ([(p, row 78 [.slice (some ⟨bl, 0, none⟩) m cl, .slice (some ⟨bo, 0, none⟩) n n, .slice (some ⟨blv, 0, none⟩) n n, .slice (some ⟨nb, 0, none⟩) n n, .slice (some ⟨bh, 0, none⟩) n n])] :: [(bl, recs 85 3 m (lg to (upd room2 k (room2 k - got)) cost) rest)] :: [(nb, ints 3 n (fun u => (nxt2 u : Int)) [])] :: Ls)) ?_ (fun w h => by rw [lg_upd] at h; exact h)
  have hcell2 := (cell_room (W := W) (to := to) (cost := cost) (room := upd room2 k (room2 k - got)) (Ls := [(p, row 78 [.slice (some ⟨bl, 0, none⟩) m cl, .slice (some ⟨bo, 0, none⟩) n n, .slice (some ⟨blv, 0, none⟩) n n, .slice (some ⟨nb, 0, none⟩) n n, .slice (some ⟨bh, 0, none⟩) n n])] :: [(bl, recs 85 3 m (lg to (upd room2 k (room2 k - got)) cost) rest)] :: [(nb, ints 3 n (fun u => (nxt2 u : Int)) [])] :: Ls) 1 rfl hpm).of (v' := .int .i64 (room2 (par2 k))) (by rw [upd_ne _ _ (par2_ne k)])
  have g6 := hs1.pair k hkm
  refine s_nil ?_
  refine f_then ?_
  refine c_seq ?_
  refine c_region ?_
  refine s_y (y_move rfl) rfl rfl rfl ?_
  refine s_y (y_nilP rfl) rfl rfl rfl ?_
  refine s_y (y_fieldAddr0 Try.tab rfl rfl rfl rfl rfl) rfl rfl rfl ?_
  refine s_y (y_load Try.tab rfl rfl (cell_row 0 rfl rfl)) rfl rfl rfl ?_
  refine s_y (y_move rfl) rfl rfl rfl ?_
  refine s_y (y_xor1 rfl rfl rfl (by omega)) rfl rfl rfl ?_
  refine s_y (y_indexAddr0 (s := 3) Try.tab rfl rfl rfl rfl _ rfl (by omega)) rfl rfl rfl ?_
  refine s_y (y_fieldAddr Try.tab 1 rfl rfl rfl rfl rfl) rfl rfl rfl ?_
  refine s_y (y_load Try.tab rfl rfl (by assumption)) rfl rfl rfl ?_
  refine s_y (y_move rfl) rfl rfl rfl ?_
  refine s_y (y_add rfl rfl (by omega)) rfl rfl rfl ?_
  refine s_y (y_indexAddr0 (s := 3) Try.tab rfl rfl rfl rfl _ rfl (by omega)) rfl rfl rfl ?_
  refine s_y (y_fieldAddr Try.tab 1 rfl rfl rfl rfl rfl) rfl rfl rfl ?_
  refine s_set (set_recs (s := 3) (j := 1) (k := par2 k) Try.tab 1 rfl rfl rfl rfl rfl hpm (by omega)) rfl rfl ?_
  refine St.cls (C' := K W ([(p, row 78 [.slice (some ⟨bl, 0, none⟩) m cl, .slice (some ⟨bo, 0, none⟩) n n, .slice (some ⟨blv, 0, none⟩) n n, .slice (some ⟨nb, 0, none⟩) n n, .slice (some ⟨bh, 0, none⟩) n n])] :: [(bl, recs 85 3 m (lg to (along par2 room2 k got) cost) rest)] :: [(nb, ints 3 n (fun u => (nxt2 u : Int)) [])] :: Ls)) ?_ (fun w h => by rw [lg_upd] at h; exact h)
  have hn2v : nxt2 v = nxt1 v := by
    by_cases e : nxt2 v = nxt1 v
    · exact e
    · have := hmv2.same v e; omega
  have hmv3 := hmv1.trans hmv2 (by omega)
  have hinc2 : ∀ u, u < n → upd nxt2 v (nxt2 v + 1) u ≤ (outs u).length := fun u hu => by
    have := hn2 u hu
    simp only [upd]; split
    · rename_i e; subst e; omega
    · exact this
  refine s_nil ?_
  refine f_then ?_
  refine c_seq ?_
  refine c_region ?_
  refine s_y (y_move rfl) rfl rfl rfl ?_
  refine s_y (y_move rfl) rfl rfl rfl ?_
  refine s_y (y_add rfl rfl (by omega)) rfl rfl rfl ?_
  refine s_y (y_assign rfl) rfl rfl rfl ?_
  refine s_nil ?_
  refine f_then ?_
  refine c_seq ?_
  refine c_region ?_
  refine s_y (y_move rfl) rfl rfl rfl ?_
  refine s_y (y_move rfl) rfl rfl rfl ?_
  refine s_y (y_eql rfl rfl) rfl rfl rfl ?_
  refine s_nil ?_
  refine f_then ?_
  refine c_condD rfl (fun heq => ?_) (fun hneq => ?_)
  · refine c_exit ?_
    refine f_blockX rfl ?_
    refine f_thenE ?_
    refine f_rndE ?_
    refine f_blockE ?_
    refine f_then ?_
    refine c_seq ?_
    refine c_region ?_
    refine s_y (y_move rfl) rfl rfl rfl ?_
    refine s_y (y_assign rfl) rfl rfl rfl ?_
    refine s_nil ?_
    refine f_then ?_
    refine c_ret ?_
    refine f_noR ?_
    exact f_ret ⟨(sent + got, along par2 room2 k got, nxt2), hsum, hmv3, hn2, fun h1 _ h3 => by dsimp only at h3; omega⟩ (res1 rfl rfl) (fun w h => h)
  · refine c_skip ?_
    refine f_blockN ?_
    refine f_then ?_
    refine c_region ?_
    refine s_y (y_move rfl) rfl rfl rfl ?_
    refine s_y (y_nilP rfl) rfl rfl rfl ?_
    refine s_y (y_fieldAddrB Try.tab 3 rfl rfl rfl rfl rfl) rfl rfl rfl ?_
    refine s_y (y_load Try.tab rfl rfl (cell_row 0 rfl rfl)) rfl rfl rfl ?_
    refine s_y (y_move rfl) rfl rfl rfl ?_
    refine s_y (y_indexAddr1 Try.tab rfl rfl rfl rfl _ rfl (by omega)) rfl rfl rfl ?_
    refine s_y (y_load Try.tab rfl rfl (cell_ints 2 rfl (by omega))) rfl rfl rfl ?_
    refine s_y (y_add rfl rfl (by omega)) rfl rfl rfl ?_
    refine s_y (y_indexAddr1 Try.tab rfl rfl rfl rfl _ rfl (by omega)) rfl rfl rfl ?_
    refine s_set (set_ints Try.tab 2 rfl rfl rfl rfl (by omega)) rfl rfl ?_
    refine s_nil ?_
    refine f_roundP (sent + got, along par2 room2 k got, upd nxt2 v (nxt2 v + 1)) ⟨⟨hsum, hmv3.inc⟩, hinc2, fun h1 h2 h3 => ?_⟩ (by dsimp only; rw [upd_same]; omega) ⟨rfl, rfl, rfl, rfl, rfl, trivial⟩ (fun w h => by dsimp only; rw [nxt_upd]; exact h)
    have s0 : sent = 0 := by omega
    have e1 := hs1.nothing s0
    have hpos : 0 < room1 k := by omega
    obtain ⟨h4, h5⟩ := hp2 (by omega) (by rw [e1]; exact hp1 h1 h2 s0) (by omega)
    rw [e1] at h4 h5
    exact h4.next (by rw [hn2v]; exact hk) (fun h => h5 h.2)
end Go.KL
end

section
/- Walks: fill. -/
namespace Go.KL
open Go.Proofs
attribute [local irreducible] SC St Fin Sq Sw Ylds Doos Sets Enters Spec CellIs CellsAre Then Ret Rnd resOK ints bools recs arr
theorem LinkC.linkV {W : World} {Ls : List Chunk} {vl : Value} {Lc : (Nat → Int) → Chunk} {m : Nat} {to : Nat → Nat} {cost : Nat → Int} (h : LinkC vl Lc m to cost) (room : Nat → Int) : LinkV (K W (Lc room :: Ls)) vl m to room cost := by
  intro hm
  obtain ⟨bl, c, rest, h1, h2⟩ := h hm
  subst h2
  exact ⟨bl, c, h1, fun k hk => by rw [lk3_eq]; exact CellIs_recs 0 rfl hk⟩
/-- What filling comes to. -/
structure Filled (n m : Nat) (outs : Nat → List Nat) (to tl : Nat → Nat) (cost high : Nat → Int) (s t : Nat) (most : Int) (room room' : Nat → Int) (sent : Int) : Prop where
  fl : Fl m to tl par2 cost high s t room room' sent
  hi : sent ≤ most
  ev : 0 < sent → ∃ level, LInv n s outs to (adm tl to room cost high) level ∧ 0 < level t
  full : sent < most → ∃ S, Reached n s outs to (adm tl to room' cost high) S ∧ S t = false
set_option maxHeartbeats 4000000 in
theorem fill_spec (W : World) (Ls : List Chunk) (p n m s t : Nat) (vl vo a b vh : Value) (Lc : (Nat → Int) → Chunk) (outs : Nat → List Nat) (to tl : Nat → Nat) (cost high room : Nat → Int) (most : Int)
    (hO : OutV (K W Ls) vo n outs) (hH : HighV (K W Ls) vh n high) (hLc : LinkC vl Lc m to cost) (hG : PG n m outs to tl par2 cost) (hS : Small n m cost high)
    (hs : s < n) (ht : t < n) (hn : n ≤ 1000) (hm : m ≤ 1000000) (hm0 : 0 ≤ most) (hm1 : most ≤ 9223372036854775807) (hr0 : ∀ k, k < m → 0 ≤ room k) (hr1 : ∀ k, k < m → room k + room (par2 k) ≤ 4000000000000000000) :
    Spec Try.prog 47 #[.pointer (some ⟨p, 0, none⟩), .int .i64 s, .int .i64 t, .int .i64 most] (K W ([(p, row 78 [vl, vo, a, b, vh])] :: Lc room :: Ls))
      (X := { x : Int × (Nat → Int) × Value × Value // Filled n m outs to tl cost high s t most room x.2.1 x.1 })
      (fun x => .int .i64 x.1.1) (fun x => K W ([(p, row 78 [vl, vo, x.1.2.2.1, x.1.2.2.2, vh])] :: Lc x.1.2.1 :: Ls)) := by
  refine enter (args := [_, _, _, _]) Try.func47 rfl Try.ntmps47 rfl ?_
  refine c_seq ?_
  refine c_region ?_
  refine s_y (y_assign rfl) rfl rfl rfl ?_
  refine s_nil ?_
  refine f_then ?_
  refine c_seq ?_
  refine c_region ?_
  refine s_y (y_assign rfl) rfl rfl rfl ?_
  refine s_nil ?_
  refine f_then ?_
  refine c_seq ?_
  refine c_block ?_
  refine c_loopP (α := Int × (Nat → Int) × Value × Value) (fun z => [(0, .pointer (some ⟨p, 0, none⟩)), (1, .int .i64 s), (2, .int .i64 t), (3, .int .i64 most), (9, .int .i64 z.1)])
    (fun z => Fl m to tl par2 cost high s t room z.2.1 z.1 ∧ z.1 ≤ most ∧ (0 < z.1 → ∃ level, LInv n s outs to (adm tl to room cost high) level ∧ 0 < level t))
    (fun z => K W ([(p, row 78 [vl, vo, z.2.2.1, z.2.2.2, vh])] :: Lc z.2.1 :: Ls)) (fun z => (most - z.1).toNat)
    (0, room, a, b) ⟨rfl, rfl, rfl, rfl, rfl, trivial⟩ ⟨Fl.none hr0, hm0, fun h => absurd h (Int.lt_irrefl 0)⟩ (fun w h => h) ?_
  rintro ⟨sent, room1, a1, b1⟩ ⟨hf, hhi, hev⟩
  dsimp only at hf hhi hev ⊢
  have q0 := hf.lo
  by_cases hlt : sent < most
  rotate_left
  · refine c_seq ?_
    refine c_seq ?_
    refine c_region ?_
    refine s_y (y_move rfl) rfl rfl rfl ?_
    refine s_y (y_move rfl) rfl rfl rfl ?_
    refine s_y (y_F (y_lss rfl rfl) (by assumption)) rfl rfl rfl ?_
    refine s_y (y_move rfl) rfl rfl rfl ?_
    refine s_skip rfl rfl rfl ?_
    refine s_skip rfl rfl rfl ?_
    refine s_skip rfl rfl rfl ?_
    refine s_skip rfl rfl rfl ?_
    refine s_y (y_pickF rfl rfl) rfl rfl rfl ?_
    refine s_nil ?_
    refine f_then ?_
    refine c_condF rfl ?_
    refine c_exit ?_
    refine f_thenE ?_
    refine f_rndE ?_
    refine f_blockE ?_
    refine f_then ?_
    refine c_seq ?_
    refine c_region ?_
    refine s_y (y_move rfl) rfl rfl rfl ?_
    refine s_y (y_assign rfl) rfl rfl rfl ?_
    refine s_nil ?_
    refine f_then ?_
    refine c_ret ?_
    exact f_ret ⟨(sent, room1, a1, b1), hf, hhi, hev, fun h => absurd h hlt⟩ (res1 rfl rfl) (fun w h => h)
  refine c_seq ?_
  refine c_seq ?_
  refine c_region ?_
  refine s_y (y_move rfl) rfl rfl rfl ?_
  refine s_y (y_move rfl) rfl rfl rfl ?_
  refine s_y (y_T (y_lss rfl rfl) (by assumption)) rfl rfl rfl ?_
  refine s_y (y_move rfl) rfl rfl rfl ?_
  refine s_y (y_move rfl) rfl rfl rfl ?_
  refine s_y (y_move rfl) rfl rfl rfl ?_
  refine s_y (y_move rfl) rfl rfl rfl ?_
  refine s_call (en_f rfl Try.call51) (layers_spec W (Lc room1 :: Ls) p n m s t vl vo a1 b1 vh outs to tl room1 cost high (hO.cls fun w h => h.tail) (hLc.linkV room1) (hH.cls fun w h => h.tail) hG.gok (fun v hv k hk => ((hG.out_iff v hv k).1 hk).2) hS hs ht hn hm) rfl rfl rfl (fun x => ?_)
  obtain ⟨⟨lb, nb, level⟩, hL, hR⟩ := x
  dsimp only at hL hR ⊢
  by_cases hlt2 : 0 < level t
  rotate_left
  · simp only [hlt2, decide_false]
    refine s_y (y_pickT rfl rfl) rfl rfl rfl ?_
    refine s_nil ?_
    refine f_then ?_
    refine c_condF rfl ?_
    refine c_exit ?_
    refine f_thenE ?_
    refine f_rndE ?_
    refine f_blockE ?_
    refine f_then ?_
    refine c_seq ?_
    refine c_region ?_
    refine s_y (y_move rfl) rfl rfl rfl ?_
    refine s_y (y_assign rfl) rfl rfl rfl ?_
    refine s_nil ?_
    refine f_then ?_
    refine c_ret ?_
    refine f_ret ⟨(sent, room1, .slice (some ⟨lb, 0, none⟩) n n, .slice (some ⟨nb, 0, none⟩) n n), hf, hhi, hev, fun _ => ⟨pos level, hR, by simp [pos, hlt2]⟩⟩ (res1 rfl rfl) (fun w h => ?_)
    exact K.dropAt 1 (K.dropAt 1 h)
  simp only [hlt2, decide_true]
  refine s_y (y_pickT rfl rfl) rfl rfl rfl ?_
  refine s_nil ?_
  refine f_then ?_
  refine c_condT rfl ?_
  refine c_skip ?_
  refine f_then ?_
  refine c_block ?_
  refine c_region ?_
  refine s_y (y_move rfl) rfl rfl rfl ?_
  refine s_y (y_move rfl) rfl rfl rfl ?_
  refine s_y (y_move rfl) rfl rfl rfl ?_
  refine s_y (y_move rfl) rfl rfl rfl ?_
  refine s_y (y_move rfl) rfl rfl rfl ?_
  refine s_y (y_move rfl) rfl rfl rfl ?_
  refine s_y (y_sub rfl rfl (by omega)) rfl rfl rfl ?_
  refine St.cls (C' := K W ([(p, row 78 [vl, vo, .slice (some ⟨lb, 0, none⟩) n n, .slice (some ⟨nb, 0, none⟩) n n, vh])] :: Lc room1 :: [(nb, ints 3 n (fun u => (((fun _ => 0 : Nat → Nat) u : Nat) : Int)) [])] :: [(lb, ints 3 n level [])] :: Ls)) ?_ (fun w h => K.fronts [1, 2, 3, 3] h)
  have hlc := cnt_le n (pos level)
  refine s_call (en_f rfl Try.call52) (push_spec W ([(lb, ints 3 n level [])] :: Ls) p nb n m t vl vo _ vh Lc outs to tl cost high level (hO.cls fun w h => h.tail) (hH.cls fun w h => h.tail) ⟨lb, rfl, fun u hu => cell_ints 0 rfl hu⟩ hLc hG hS.cost hS.high ht hn hm
    (fun u hu => ⟨hL.lo u, by have := hL.hi u; omega⟩) n s (most - sent) room1 (fun _ => 0) hs (by rw [hL.one]; omega) (by omega) (by omega) hf.nonneg (fun k hk => by rw [hf.pair k hk]; exact hr1 k hk) (fun _ _ => Nat.zero_le _)) rfl rfl rfl (fun x => ?_)
  obtain ⟨⟨got, room2, nxt2⟩, hs2, hmv2, hn2, hp2⟩ := x
  dsimp only at hs2 hmv2 hn2 hp2 ⊢
  have g1 := hs2.lo
  have g2 := hs2.hi
  have hgot : got ≠ 0 := fun e => (hp2 (by omega) (fun u _ i hi => absurd hi (Nat.not_lt_zero i)) e).2 (hL.way hG ht hlt2)
  refine s_y (y_add rfl rfl (by omega)) rfl rfl rfl ?_
  refine s_y (y_assign rfl) rfl rfl rfl ?_
  refine s_nil ?_
  refine f_blockN ?_
  refine f_roundP (sent + got, room2, .slice (some ⟨lb, 0, none⟩) n n, .slice (some ⟨nb, 0, none⟩) n n) ⟨hf.step hs2, by dsimp only; omega, fun _ => ?_⟩ (by dsimp only; omega) ⟨rfl, rfl, rfl, rfl, rfl, trivial⟩ (fun w h => K.dropAt 2 (K.dropAt 2 h))
  by_cases e : 0 < sent
  · exact hev e
  · have := hf.nothing (by omega)
    rw [this] at hL
    exact ⟨level, hL, hlt2⟩
end Go.KL
end

section
/- The queue's memory: marks in a slice of one's own. -/
namespace Go.KL
open Go.Proofs
abbrev Mk := Nat × Int
def mg (f : Nat → Mk) : Nat → Nat → Value := fun i j => match j with
  | 0 => .int .i64 ((f i).1 : Int)
  | _ => .int .i64 (f i).2
def mk2 (x : Mk) : List Value := [.int .i64 (x.1 : Int), .int .i64 x.2]
theorem mg_updR (f : Nat → Mk) (k : Nat) (x : Mk) : ∀ a, ∀ j, j < 2 → updR (mg f) k (mk2 x) a j = mg (upd f k x) a j := by
  intro a j hj
  simp only [updR, mg, upd]
  by_cases h : a = k
  · subst h
    match j, hj with
    | 0, _ => simp [mk2]
    | 1, _ => simp [mk2]
  · simp [h]
theorem rl_mg_snoc (m : Nat) (f : Nat → Mk) (x : Mk) : rl 2 (m + 1) (mg (upd f m x)) = rl 2 m (mg f) ++ mk2 x := by
  rw [← rl_snoc 2 m (mg f) (mk2 x) rfl]
  exact rl_congr fun a _ j hj => (mg_updR f m x a j hj).symm
theorem recs_mg_upd (m k : Nat) (f : Nat → Mk) (x : Mk) (rest : List Value) : recs 90 2 m (updR (mg f) k (mk2 x)) rest = recs 90 2 m (mg (upd f k x)) rest := recs_congr fun a _ j hj => mg_updR f k x a j hj
theorem recs_mg_upd2 (m k i : Nat) (f : Nat → Mk) (x y : Mk) (rest : List Value) : recs 90 2 m (updR (updR (mg f) k (mk2 x)) i (mk2 y)) rest = recs 90 2 m (mg (upd (upd f k x) i y)) rest := by
  refine recs_congr fun a _ j hj => ?_
  rw [← mg_updR _ _ _ _ _ hj]
  simp only [updR]
  split
  · rfl
  · exact mg_updR f k x a j hj
/-- The list of the first m. -/
def ls (m : Nat) (f : Nat → Mk) : List Mk := (List.range m).map f
theorem ls_len (m : Nat) (f : Nat → Mk) : (ls m f).length = m := by simp [ls]
theorem ls_snoc (m : Nat) (f : Nat → Mk) (x : Mk) : ls (m + 1) (upd f m x) = ls m f ++ [x] := by
  unfold ls
  rw [List.range_succ, List.map_append]
  congr 1
  · apply List.map_congr_left
    intro i hi
    have : i < m := by simpa using hi
    rw [upd_ne _ _ (by omega)]
  · simp
theorem ls_split (m k : Nat) (f : Nat → Mk) (hk : k < m) : ∃ A B, ls m f = A ++ f k :: B ∧ A.length = k ∧ ∀ x, ls m (upd f k x) = A ++ x :: B := by
  refine ⟨(ls m f).take k, (ls m f).drop (k + 1), ?_, by simp [ls]; omega, ?_⟩
  · have hl : k < (ls m f).length := by simp [ls, hk]
    conv => lhs; rw [← List.take_append_drop k (ls m f)]
    rw [List.drop_eq_getElem_cons hl]
    congr 2
    simp [ls]
  · intro x
    apply List.ext_getElem?
    intro i
    by_cases h1 : i < k
    · rw [List.getElem?_append_left (by simp [ls]; omega)]
      simp [ls, h1, show i < m by omega, upd, show i ≠ k by omega]
    · by_cases h2 : i = k
      · subst h2
        rw [List.getElem?_append_right (by simp [ls]; omega)]
        simp [ls, hk, upd, show min i m = i by omega]
      · rw [List.getElem?_append_right (by simp [ls]; omega)]
        have e : i - (List.take k (ls m f)).length = (i - k - 1) + 1 := by simp [ls]; omega
        rw [e, List.getElem?_cons_succ, List.getElem?_drop]
        have e2 : k + 1 + (i - k - 1) = i := by omega
        rw [e2]
        by_cases h3 : i < m
        · simp [ls, upd, h2, h3]
        · simp [ls, h3]
theorem ls_swap (m i j : Nat) (f : Nat → Mk) (hi : i < m) (hj : j < m) : (ls m (upd (upd f i (f j)) j (f i))).Perm (ls m f) := by
  by_cases e : i = j
  · subst e
    have : upd (upd f i (f i)) i (f i) = f := by funext u; simp only [upd]; split <;> simp_all
    rw [this]
  · obtain ⟨A, B, h1, h2, h3⟩ := ls_split m i f hi
    obtain ⟨A', B', h4, h5, h6⟩ := ls_split m j (upd f i (f j)) hj
    rw [h6 (f i)]
    have h7 : (upd f i (f j)) j = f j := upd_ne _ _ (fun e' => e e'.symm)
    rw [h7, h3 (f j)] at h4
    -- count: A' ++ f j :: B' = A ++ f j :: B, and the list is A ++ f i :: B
    rw [h1]
    have p1 : (A' ++ f i :: B').Perm (f i :: (A' ++ B')) := List.perm_middle
    have p2 : (A ++ f i :: B).Perm (f i :: (A ++ B)) := List.perm_middle
    refine p1.trans (List.Perm.trans ?_ p2.symm)
    refine List.Perm.cons _ ?_
    have p3 : (f j :: (A' ++ B')).Perm (f j :: (A ++ B)) := (List.perm_middle.symm.trans (by rw [← h4])).trans List.perm_middle
    exact p3.cons_inv
theorem ls_get (m i : Nat) (f : Nat → Mk) (hi : i < m) : (ls m f)[i]? = some (f i) := by simp [ls, hi]
theorem owf_len {s m : Nat} {o o' : Own} {xs ys : List Value} (h : owf s o m xs) (e : ys.length = xs.length) (e1 : o'.cap = o.cap) (e2 : o'.rest = o.rest) : owf s o' m ys :=
  ⟨by rw [e1]; exact h.le, by rw [e1]; exact h.max, by rw [e]; exact h.len, by rw [e1, e2]; exact h.room⟩
theorem cells_mg {W : World} {Ls : List Chunk} (i : Nat) {b k m : Nat} {f : Nat → Mk} {rest : List Value} {c : Chunk} (hi : Ls.getD i [] = (b, recs 90 2 m (mg f) rest) :: c) (hk : k < m) :
    CellsAre (K W Ls) ⟨b, k * 2, none⟩ [.int .i64 ((f k).1 : Int), .int .i64 (f k).2] := cells_recs i hi hk
end Go.KL
end

section
/- Walks: the priority queue. -/
namespace Go.KL
open Go.Proofs
attribute [local irreducible] SC St Fin Sq Sw Ylds Doos Sets Enters Spec CellIs CellsAre Then Ret Rnd resOK ints bools recs arr
attribute [local irreducible] mg rl
abbrev mkV (x : Mk) : Value := .agg #[.int .i64 (x.1 : Int), .int .i64 x.2]
abbrev fnV : Value := .func (.func 53) #[] #[]
theorem less_spec (W : World) (Ls : List Chunk) (x y : Mk) : Spec Try.prog 53 #[mkV x, mkV y] (K W Ls) (fun _ : Unit => .bool (decide (x.2 < y.2))) (fun _ => K W Ls) := by
  refine enter (args := [_, _]) Try.func53 rfl Try.ntmps53 rfl ?_
  refine c_seq ?_
  refine c_region ?_
  refine s_do (do_box rfl) rfl rfl rfl (fun b2 => ?_)
  refine s_do (do_box rfl) rfl rfl rfl (fun b3 => ?_)
  refine s_y (y_assign rfl) rfl rfl rfl ?_
  refine s_nil ?_
  refine f_then ?_
  refine c_seq ?_
  refine c_region ?_
  refine s_y (y_fieldAddrB Try.tab 1 rfl rfl rfl rfl rfl) rfl rfl rfl ?_
  refine s_y (y_load Try.tab rfl rfl (cell_row 1 rfl rfl)) rfl rfl rfl ?_
  refine s_y (y_fieldAddrB Try.tab 1 rfl rfl rfl rfl rfl) rfl rfl rfl ?_
  refine s_y (y_load Try.tab rfl rfl (cell_row 0 rfl rfl)) rfl rfl rfl ?_
  refine s_y (y_lss rfl rfl) rfl rfl rfl ?_
  refine s_y (y_assign rfl) rfl rfl rfl ?_
  refine s_nil ?_
  refine f_then ?_
  refine c_ret ?_
  exact f_ret () (res1 rfl rfl) (fun w h => h.tail.tail)
/-- The queue: its struct's cells, its list. -/
def hpL (ph m : Nat) (L : Option Own) (f : Nat → Mk) (Ls : List Chunk) : List Chunk := [(ph, row 94 [ov L m, fnV])] :: oc 90 L (rl 2 m (mg f)) :: Ls
def hpOK (m : Nat) (L : Option Own) (f : Nat → Mk) : Prop := owfO 2 L m (rl 2 m (mg f))
theorem empty_spec (W : World) (Ls : List Chunk) (ph m : Nat) (L : Option Own) (f : Nat → Mk) (hL : hpOK m L f) : Spec Try.prog 55 #[.pointer (some ⟨ph, 0, none⟩)] (K W (hpL ph m L f Ls)) (fun _ : Unit => .bool (decide (m = 0))) (fun _ => K W (hpL ph m L f Ls)) := by
  refine enter (args := [_]) Try.func55 rfl Try.ntmps55 rfl ?_
  refine c_seq ?_
  refine c_region ?_
  refine s_y (y_assign rfl) rfl rfl rfl ?_
  refine s_nil ?_
  refine f_then ?_
  refine c_seq ?_
  refine c_region ?_
  refine s_y (y_move rfl) rfl rfl rfl ?_
  refine s_y (y_nilP rfl) rfl rfl rfl ?_
  refine s_y (y_fieldAddr0 Try.tab rfl rfl rfl rfl rfl) rfl rfl rfl ?_
  refine s_y (y_load Try.tab rfl rfl (cell_row 0 rfl rfl)) rfl rfl rfl ?_
  refine s_y (y_lenO Try.tab rfl hL rfl) rfl rfl rfl ?_
  refine s_y (y_eql rfl rfl) rfl rfl rfl ?_
  refine s_y (y_assign rfl) rfl rfl rfl ?_
  refine s_nil ?_
  refine f_then ?_
  refine c_ret ?_
  exact f_retE () (res1 rfl rfl) (by congr 1; by_cases h : m = 0 <;> simp [h]) (fun w h => h)
set_option maxHeartbeats 4000000 in
theorem hpush_spec (W : World) (Ls : List Chunk) (ph m : Nat) (L : Option Own) (f : Nat → Mk) (x : Mk) (hL : hpOK m L f) (hm : m ≤ 1000000000000) :
    Spec Try.prog 54 #[.pointer (some ⟨ph, 0, none⟩), mkV x] (K W (hpL ph m L f Ls)) (X := { z : Own × (Nat → Mk) // hpOK (m + 1) (some z.1) z.2 ∧ (ls (m + 1) z.2).Perm (ls m f ++ [x]) }) (fun _ => .tuple #[])
      (fun z => K W (hpL ph (m + 1) (some z.1.1) z.1.2 Ls)) := by
  refine enter (args := [_, _]) Try.func54 rfl Try.ntmps54 rfl ?_
  refine c_seq ?_
  refine c_region ?_
  refine s_do (do_box rfl) rfl rfl rfl (fun b3 => ?_)
  refine s_nil ?_
  refine f_then ?_
  refine c_seq ?_
  refine c_plan [.c 0, .c 1, .c 2, .c 3, .c 4, .c 5, .s 6, .s 7, .c 8, .c 9, .s 10] [10] ((K W [[(b3, row 90 [.int .i64 (x.1 : Int), .int .i64 x.2])], [(ph, row 94 [ov L m, fnV])]])) Try.mixed (by kernel_rfl) rfl K.cl ?_
  refine d_c rfl (Qui.ylds (y_move rfl)) rfl rfl rfl (fun w h => h.keep 2) K.cl ?_
  refine d_c rfl (Qui.ylds (y_move rfl)) rfl rfl rfl (fun w h => h.keep 2) K.cl ?_
  refine d_c rfl (Qui.ylds (y_nilP rfl)) rfl rfl rfl (fun w h => h.keep 2) K.cl ?_
  refine d_c rfl (Qui.ylds (y_fieldAddr0 Try.tab rfl rfl rfl rfl rfl)) rfl rfl rfl (fun w h => h.keep 2) K.cl ?_
  refine d_c rfl (Qui.ylds (y_load Try.tab rfl rfl (cell_row 1 rfl rfl))) rfl rfl rfl (fun w h => h.keep 2) K.cl ?_
  refine d_c rfl (Qui.ylds (y_loadA Try.tab rfl rfl rfl rfl (cells_row0 0 rfl rfl))) rfl rfl rfl (fun w h => h.keep 2) K.cl ?_
  refine d_s rfl (do_buildSliceS Try.tab ⟨rfl, rfl, rfl, rfl⟩ rfl rfl rfl rfl) rfl rfl rfl (fun _ => K.cl) (fun _ _ _ h => h.tail.keep 2) (fun b12 => ?_)
  refine d_s rfl (do_appendO Try.tab 3 (s := 2) (by_ := 16) (k := 1) (news := mk2 x) (xs := rl 2 m (mg f)) (o := L) rfl rfl ⟨rfl, rfl, rfl, rfl⟩ rfl rfl (by simp [hpL]) hL (cells_row0 0 rfl rfl) rfl (by simp [mk2, Value.oneCell']) (by omega) (by unfold maxLen; omega) (by omega)) rfl rfl rfl (fun _ => K.cl) (fun _ _ _ h => h.tail.keep 2) (fun o1 => ?_)
  refine d_c rfl (Qui.ylds (y_nilP rfl)) rfl rfl rfl (fun w h => h.tail.keep 2) K.cl ?_
  refine d_c rfl (Qui.ylds (y_fieldAddr0 Try.tab rfl rfl rfl rfl rfl)) rfl rfl rfl (fun w h => h.tail.keep 2) K.cl ?_
  refine d_set rfl (set_rowB Try.tab 2 rfl rfl rfl rfl rfl rfl) rfl rfl K.cl (fun h => by cases h) ?_
  refine d_nil ?_
  refine f_then ?_
  obtain ⟨⟨ob, ocap, pre, orest⟩, ho, hp⟩ := o1
  have hpre : pre = [] := List.eq_nil_of_length_eq_zero (by simpa using hp)
  subst hpre
  rw [← rl_mg_snoc] at ho
  refine SC.cls (C' := K W ([(ph, row 94 [.slice (some ⟨ob, 0, none⟩) (m + 1) ocap, fnV])] :: [(ob, recs 90 2 (m + 1) (mg (upd f m x)) orest)] :: Ls)) ?_ (fun w h => by rw [recs_rl, rl_mg_snoc]; exact h.tail.tail)
  have hout : ∀ f' w, K W ([(ph, row 94 [.slice (some ⟨ob, 0, none⟩) (m + 1) ocap, fnV])] :: [(ob, recs 90 2 (m + 1) (mg f') orest)] :: Ls) w → K W (hpL ph (m + 1) (some ⟨ob, ocap, [], orest⟩) f' Ls) w := fun f' w h => by rw [recs_rl] at h; exact h
  have hfin : ∀ f', hpOK (m + 1) (some ⟨ob, ocap, [], orest⟩) f' := fun f' => ⟨owf_len ho (by rw [rl_len, rl_len]) rfl rfl, Nat.le_refl _⟩
  refine c_seq ?_
  refine c_region ?_
  refine s_y (y_move rfl) rfl rfl rfl ?_
  refine s_y (y_nilP rfl) rfl rfl rfl ?_
  refine s_y (y_fieldAddr0 Try.tab rfl rfl rfl rfl rfl) rfl rfl rfl ?_
  refine s_y (y_load Try.tab rfl rfl (cell_row 0 rfl rfl)) rfl rfl rfl ?_
  refine s_y (y_len Try.tab rfl rfl) rfl rfl rfl ?_
  refine s_y (y_sub rfl rfl (by omega)) rfl rfl rfl ?_
  refine s_y (y_assign rfl) rfl rfl rfl ?_
  refine s_nil ?_
  refine f_then ?_
  refine c_block ?_
  refine c_loopP (α := (Nat → Mk) × Nat) (fun z => [(0, .pointer (some ⟨ph, 0, none⟩)), (4, .int .i64 z.2)]) (fun z => (ls (m + 1) z.1).Perm (ls m f ++ [x]) ∧ z.2 ≤ m)
    (fun z => K W ([(ph, row 94 [.slice (some ⟨ob, 0, none⟩) (m + 1) ocap, fnV])] :: [(ob, recs 90 2 (m + 1) (mg z.1) orest)] :: Ls)) (fun z => z.2)
    (upd f m x, m) ⟨rfl, by dsimp only; simp only [look]; congr 2; omega, trivial⟩ ⟨by rw [ls_snoc], Nat.le_refl _⟩ (fun w h => h) ?_
  rintro ⟨f1, k⟩ ⟨hp1, hk⟩
  dsimp only at hp1 hk ⊢
  refine c_seq ?_
  refine c_seq ?_
  refine c_region ?_
  refine s_y (y_move rfl) rfl rfl rfl ?_
  refine s_y (y_gtr rfl rfl) rfl rfl rfl ?_
  refine s_nil ?_
  refine f_then ?_
  refine c_condD rfl (fun hpos => ?_) (fun hneg => ?_)
  rotate_left
  · refine c_exit ?_
    refine f_thenE ?_
    refine f_rndE ?_
    refine f_blockE ?_
    exact f_end ⟨(⟨ob, ocap, [], orest⟩, f1), hfin f1, hp1⟩ (res0 rfl) (hout f1)
  have hq : ((k : Int) - 1) / 2 = (((k - 1) / 2 : Nat) : Int) := by omega
  refine c_skip ?_
  refine f_then ?_
  refine c_block ?_
  refine c_seq ?_
  refine c_region ?_
  refine s_y (y_move rfl) rfl rfl rfl ?_
  refine s_y (y_sub rfl rfl (by omega)) rfl rfl rfl ?_
  refine s_y (y_quo rfl rfl (by omega)) rfl rfl rfl ?_
  refine s_y (y_assign rfl) rfl rfl rfl ?_
  refine s_nil ?_
  refine f_then ?_
  refine c_seq ?_
  refine c_seq ?_
  refine c_quiet Try.mixed (by kernel_rfl) K.drew ?_
  refine q_y (y_move rfl) rfl rfl rfl ?_
  refine q_y (y_nilP rfl) rfl rfl rfl ?_
  refine q_y (y_fieldAddrB Try.tab 1 rfl rfl rfl rfl rfl) rfl rfl rfl ?_
  refine q_y (y_load Try.tab rfl rfl (cell_row 0 rfl rfl)) rfl rfl rfl ?_
  refine q_y (y_move rfl) rfl rfl rfl ?_
  refine q_y (y_nilP rfl) rfl rfl rfl ?_
  refine q_y (y_fieldAddr0 Try.tab rfl rfl rfl rfl rfl) rfl rfl rfl ?_
  refine q_y (y_load Try.tab rfl rfl (cell_row 0 rfl rfl)) rfl rfl rfl ?_
  refine q_y (y_move rfl) rfl rfl rfl ?_
  refine q_y (y_indexAddr0 (s := 2) Try.tab rfl rfl rfl rfl _ rfl (by omega)) rfl rfl rfl ?_
  rw [hq]
  have hc1 : CellsAre (K W ([(ph, row 94 [.slice (some ⟨ob, 0, none⟩) (m + 1) ocap, fnV])] :: [(ob, recs 90 2 (m + 1) (mg f1) orest)] :: Ls)) ⟨ob, k * 2, none⟩ _ := cells_mg 1 rfl (by omega)
  have hc2 : CellsAre (K W ([(ph, row 94 [.slice (some ⟨ob, 0, none⟩) (m + 1) ocap, fnV])] :: [(ob, recs 90 2 (m + 1) (mg f1) orest)] :: Ls)) ⟨ob, ((k - 1) / 2) * 2, none⟩ _ := cells_mg 1 rfl (by omega)
  refine q_y (y_loadA Try.tab rfl rfl rfl rfl (by assumption)) rfl rfl rfl ?_
  refine q_y (y_move rfl) rfl rfl rfl ?_
  refine q_y (y_nilP rfl) rfl rfl rfl ?_
  refine q_y (y_fieldAddr0 Try.tab rfl rfl rfl rfl rfl) rfl rfl rfl ?_
  refine q_y (y_load Try.tab rfl rfl (cell_row 0 rfl rfl)) rfl rfl rfl ?_
  refine q_y (y_move rfl) rfl rfl rfl ?_
  refine q_y (y_indexAddr0 (s := 2) Try.tab rfl rfl rfl rfl _ rfl (by omega)) rfl rfl rfl ?_
  refine q_y (y_loadA Try.tab rfl rfl rfl rfl (by assumption)) rfl rfl rfl ?_
  have hsp := less_spec W ([(ph, row 94 [.slice (some ⟨ob, 0, none⟩) (m + 1) ocap, fnV])] :: [(ob, recs 90 2 (m + 1) (mg f1) orest)] :: Ls) (f1 k) (f1 ((k - 1) / 2))
  by_cases hlt : (f1 k).2 < (f1 ((k - 1) / 2)).2
  rotate_left
  · rw [decide_eq_false hlt] at hsp
    refine q_call (en_v (cap := []) rfl rfl Try.call53) hsp rfl rfl rfl ?_
    refine q_y (y_not rfl) rfl rfl rfl ?_
    refine q_nil ?_
    refine f_then ?_
    refine c_condT rfl ?_
    refine c_ret ?_
    refine f_thenR ?_
    refine f_blockR ?_
    refine f_rndR ?_
    refine f_blockR ?_
    exact f_ret ⟨(⟨ob, ocap, [], orest⟩, f1), hfin f1, hp1⟩ (res0 rfl) (hout f1)
  rw [decide_eq_true hlt] at hsp
  refine q_call (en_v (cap := []) rfl rfl Try.call53) hsp rfl rfl rfl ?_
  refine q_y (y_not rfl) rfl rfl rfl ?_
  refine q_nil ?_
  refine f_then ?_
  refine c_condF rfl ?_
  refine c_skip ?_
  refine f_then ?_
  refine c_seq ?_
  refine c_planM 9 [.c 0, .c 1, .c 2, .c 3, .c 4, .c 5, .c 6, .c 7, .c 8, .c 10, .c 11, .c 12, .c 13, .c 14, .c 15, .c 16, .c 17, .c 18, .c 19, .c 20, .c 21, .c 22, .c 23, .c 24, .s 25, .s 26, .s 27] [9, 25, 26, 27] (K W ([(ph, row 94 [.slice (some ⟨ob, 0, none⟩) (m + 1) ocap, fnV])] :: [(ob, recs 90 2 (m + 1) (mg f1) orest)] :: Ls)) Try.mixed (by kernel_rfl) rfl rfl (Qui.ylds (y_move rfl)) rfl rfl rfl K.cl ?_
  refine d_c rfl (Qui.ylds (y_move rfl)) rfl rfl rfl (fun _ h => h) K.cl ?_
  refine d_c rfl (Qui.ylds (y_nilP rfl)) rfl rfl rfl (fun _ h => h) K.cl ?_
  refine d_c rfl (Qui.ylds (y_fieldAddr0 Try.tab rfl rfl rfl rfl rfl)) rfl rfl rfl (fun _ h => h) K.cl ?_
  refine d_c rfl (Qui.ylds (y_load Try.tab rfl rfl (cell_row 0 rfl rfl))) rfl rfl rfl (fun _ h => h) K.cl ?_
  refine d_c rfl (Qui.ylds (y_move rfl)) rfl rfl rfl (fun _ h => h) K.cl ?_
  refine d_c rfl (Qui.ylds (y_move rfl)) rfl rfl rfl (fun _ h => h) K.cl ?_
  refine d_c rfl (Qui.ylds (y_nilP rfl)) rfl rfl rfl (fun _ h => h) K.cl ?_
  refine d_c rfl (Qui.ylds (y_fieldAddr0 Try.tab rfl rfl rfl rfl rfl)) rfl rfl rfl (fun _ h => h) K.cl ?_
  refine d_c rfl (Qui.ylds (y_load Try.tab rfl rfl (cell_row 0 rfl rfl))) rfl rfl rfl (fun _ h => h) K.cl ?_
  refine d_c rfl (Qui.ylds (y_move rfl)) rfl rfl rfl (fun _ h => h) K.cl ?_
  refine d_c rfl (Qui.ylds (y_nilP rfl)) rfl rfl rfl (fun _ h => h) K.cl ?_
  refine d_c rfl (Qui.ylds (y_fieldAddr0 Try.tab rfl rfl rfl rfl rfl)) rfl rfl rfl (fun _ h => h) K.cl ?_
  refine d_c rfl (Qui.ylds (y_load Try.tab rfl rfl (cell_row 0 rfl rfl))) rfl rfl rfl (fun _ h => h) K.cl ?_
  refine d_c rfl (Qui.ylds (y_move rfl)) rfl rfl rfl (fun _ h => h) K.cl ?_
  refine d_c rfl (Qui.ylds (y_indexAddr0 (s := 2) Try.tab rfl rfl rfl rfl _ rfl (by omega))) rfl rfl rfl (fun _ h => h) K.cl ?_
  refine d_c rfl (Qui.ylds (y_loadA Try.tab rfl rfl rfl rfl (by assumption))) rfl rfl rfl (fun _ h => h) K.cl ?_
  refine d_c rfl (Qui.ylds (y_move rfl)) rfl rfl rfl (fun _ h => h) K.cl ?_
  refine d_c rfl (Qui.ylds (y_nilP rfl)) rfl rfl rfl (fun _ h => h) K.cl ?_
  refine d_c rfl (Qui.ylds (y_fieldAddr0 Try.tab rfl rfl rfl rfl rfl)) rfl rfl rfl (fun _ h => h) K.cl ?_
  refine d_c rfl (Qui.ylds (y_load Try.tab rfl rfl (cell_row 0 rfl rfl))) rfl rfl rfl (fun _ h => h) K.cl ?_
  refine d_c rfl (Qui.ylds (y_move rfl)) rfl rfl rfl (fun _ h => h) K.cl ?_
  refine d_c rfl (Qui.ylds (y_indexAddr0 (s := 2) Try.tab rfl rfl rfl rfl _ rfl (by omega))) rfl rfl rfl (fun _ h => h) K.cl ?_
  refine d_c rfl (Qui.ylds (y_loadA Try.tab rfl rfl rfl rfl (by assumption))) rfl rfl rfl (fun _ h => h) K.cl ?_
  refine d_c rfl (Qui.ylds (y_indexAddr0 (s := 2) Try.tab rfl rfl rfl rfl _ rfl (by omega))) rfl rfl rfl (fun _ h => h) K.cl ?_
  refine d_set rfl (set_recsA (s := 2) (k := k) Try.tab 1 rfl rfl rfl rfl rfl rfl (by omega)) rfl rfl K.cl (fun h => by cases h) ?_
  refine d_sy rfl (y_indexAddr0 (s := 2) Try.tab rfl rfl rfl rfl _ rfl (by omega)) rfl rfl rfl K.cl (fun h => by cases h) ?_
  refine d_set rfl (set_recsA (s := 2) (k := (k - 1) / 2) Try.tab 1 rfl rfl rfl rfl rfl rfl (by omega)) rfl rfl K.cl (fun h => by cases h) ?_
  refine d_nil ?_
  refine f_then ?_
  refine c_region ?_
  refine s_y (y_move rfl) rfl rfl rfl ?_
  refine s_y (y_assign rfl) rfl rfl rfl ?_
  refine s_nil ?_
  refine f_blockN ?_
  refine f_roundP (upd (upd f1 k (f1 ((k - 1) / 2))) ((k - 1) / 2) (f1 k), (k - 1) / 2) ⟨(ls_swap (m + 1) k ((k - 1) / 2) f1 (by omega) (by omega)).trans hp1, by dsimp only; omega⟩ (by dsimp only; omega) ⟨rfl, rfl, trivial⟩ (fun w h => ?_)
  dsimp only
  rw [← recs_mg_upd2]
  exact h
theorem rl_mg_succ (m : Nat) (f : Nat → Mk) : rl 2 (m + 1) (mg f) = rl 2 m (mg f) ++ mk2 (f m) := by
  rw [← rl_mg_snoc]
  congr 2
  funext a
  unfold upd
  split
  · subst_vars; rfl
  · rfl
theorem ls_pop (m : Nat) (f : Nat → Mk) : (f 0 :: ls m (upd f 0 (f m))).Perm (ls (m + 1) f) := by
  refine List.Perm.trans ?_ (ls_swap (m + 1) 0 m f (by omega) (by omega))
  rw [ls_snoc]
  exact (List.perm_append_singleton _ _).symm
set_option maxHeartbeats 4000000 in
theorem hpop_spec (W : World) (Ls : List Chunk) (ph m : Nat) (L : Option Own) (f : Nat → Mk) (hL : hpOK (m + 1) L f) (hm : m ≤ 1000000000000) :
    Spec Try.prog 56 #[.pointer (some ⟨ph, 0, none⟩)] (K W (hpL ph (m + 1) L f Ls)) (X := { z : Own × (Nat → Mk) // hpOK m (some z.1) z.2 ∧ (f 0 :: ls m z.2).Perm (ls (m + 1) f) }) (fun _ => mkV (f 0))
      (fun z => K W (hpL ph m (some z.1.1) z.1.2 Ls)) := by
  obtain _ | ⟨ob, ocap, pre, orest⟩ := L
  · exact absurd hL.2 (by omega)
  have hpre : pre = [] := List.eq_nil_of_length_eq_zero (by simpa using hL.2)
  subst hpre
  refine enter (args := [_]) Try.func56 rfl Try.ntmps56 rfl ?_
  refine SC.cls (C' := K W ([(ph, row 94 [.slice (some ⟨ob, 0, none⟩) (m + 1) ocap, fnV])] :: [(ob, recs 90 2 (m + 1) (mg f) orest)] :: Ls)) ?_ (fun w h => by rw [recs_rl]; exact h)
  refine c_seq ?_
  refine c_region ?_
  refine s_do (do_alloc Try.tab rfl) rfl rfl rfl (fun b2 => ?_)
  refine s_nil ?_
  refine f_then ?_
  refine c_seq ?_
  refine c_region ?_
  refine s_y (y_move rfl) rfl rfl rfl ?_
  refine s_y (y_nilP rfl) rfl rfl rfl ?_
  refine s_y (y_fieldAddr0 Try.tab rfl rfl rfl rfl rfl) rfl rfl rfl ?_
  refine s_y (y_load Try.tab rfl rfl (cell_row 1 rfl rfl)) rfl rfl rfl ?_
  refine s_y (y_indexAddr0 (s := 2) Try.tab rfl rfl rfl rfl 0 rfl (by omega)) rfl rfl rfl ?_
  refine s_y (y_loadA Try.tab rfl rfl rfl rfl (cells_mg (k := 0) 2 rfl (by omega))) rfl rfl rfl ?_
  refine s_do (do_alloc Try.tab rfl) rfl rfl rfl (fun b3 => ?_)
  refine s_set (set_box Try.tab 0 rfl rfl rfl rfl rfl rfl rfl) rfl rfl ?_
  refine s_nil ?_
  refine f_then ?_
  refine c_seq ?_
  refine c_region ?_
  refine s_y (y_move rfl) rfl rfl rfl ?_
  refine s_y (y_nilP rfl) rfl rfl rfl ?_
  refine s_y (y_fieldAddr0 Try.tab rfl rfl rfl rfl rfl) rfl rfl rfl ?_
  refine s_y (y_load Try.tab rfl rfl (cell_row 2 rfl rfl)) rfl rfl rfl ?_
  refine s_y (y_len Try.tab rfl rfl) rfl rfl rfl ?_
  refine s_y (y_sub rfl rfl (by omega)) rfl rfl rfl ?_
  refine s_y (y_assign rfl) rfl rfl rfl ?_
  refine s_nil ?_
  refine f_then ?_
  refine c_seq ?_
  refine c_tail 12 Try.mixed (by kernel_rfl) K.drew ?_
  refine w_y (y_move rfl) rfl rfl rfl ?_
  refine w_y (y_nilP rfl) rfl rfl rfl ?_
  refine w_y (y_fieldAddr0 Try.tab rfl rfl rfl rfl rfl) rfl rfl rfl ?_
  refine w_y (y_load Try.tab rfl rfl (cell_row 2 rfl rfl)) rfl rfl rfl ?_
  refine w_y (y_move rfl) rfl rfl rfl ?_
  refine w_y (y_nilP rfl) rfl rfl rfl ?_
  refine w_y (y_fieldAddr0 Try.tab rfl rfl rfl rfl rfl) rfl rfl rfl ?_
  refine w_y (y_load Try.tab rfl rfl (cell_row 2 rfl rfl)) rfl rfl rfl ?_
  refine w_y (y_move rfl) rfl rfl rfl ?_
  refine w_y (y_indexAddr0 (s := 2) Try.tab rfl rfl rfl rfl _ (Int.toNat_of_nonneg (by omega)).symm (by omega)) rfl rfl rfl ?_
  rw [show ((m + 1 : Nat) : Int) - 1 = (m : Int) by omega, Int.toNat_natCast]
  refine w_y (y_loadA Try.tab rfl rfl rfl rfl (cells_mg (k := m) 3 rfl (by omega))) rfl rfl rfl ?_
  refine w_y (y_indexAddr0 (s := 2) Try.tab rfl rfl rfl rfl 0 rfl (by omega)) rfl rfl rfl ?_
  refine w_nil ?_
  refine s_set (set_recsA (s := 2) (k := 0) Try.tab 3 rfl rfl rfl rfl rfl rfl (by omega)) rfl rfl ?_
  refine s_nil ?_
  refine f_then ?_
  refine c_seq ?_
  refine c_region ?_
  refine s_y (y_move rfl) rfl rfl rfl ?_
  refine s_y (y_move rfl) rfl rfl rfl ?_
  refine s_y (y_nilP rfl) rfl rfl rfl ?_
  refine s_y (y_fieldAddr0 Try.tab rfl rfl rfl rfl rfl) rfl rfl rfl ?_
  refine s_y (y_load Try.tab rfl rfl (cell_row 2 rfl rfl)) rfl rfl rfl ?_
  refine s_y (y_move rfl) rfl rfl rfl ?_
  refine s_y (y_sliceTo (hi := m) Try.tab rfl rfl rfl rfl rfl (by have := hL.1.le; dsimp only at this; omega)) rfl rfl rfl ?_
  refine s_y (y_nilP rfl) rfl rfl rfl ?_
  refine s_y (y_fieldAddr0 Try.tab rfl rfl rfl rfl rfl) rfl rfl rfl ?_
  refine s_set (set_rowB Try.tab 2 rfl rfl rfl rfl rfl rfl) rfl rfl ?_
  refine s_nil ?_
  refine f_then ?_
  refine c_seq ?_
  refine c_region ?_
  refine s_y (y_assign rfl) rfl rfl rfl ?_
  refine s_nil ?_
  refine f_then ?_
  refine c_block ?_
  refine c_loopP (α := (Nat → Mk) × Nat) (fun z => [(0, .pointer (some ⟨ph, 0, none⟩)), (2, .pointer (some ⟨b2, 0, none⟩)), (3, .pointer (some ⟨b3, 0, none⟩)), (4, .int .i64 m), (5, .int .i64 z.2)]) (fun z => (f 0 :: ls m z.1).Perm (ls (m + 1) f) ∧ z.2 ≤ m)
    (fun z => K W ([(b3, row 90 (mk2 (f 0)))] :: [(b2, row 90 [.int .i64 0, .int .i64 0])] :: [(ph, row 94 [.slice (some ⟨ob, 0, none⟩) m ocap, fnV])] :: [(ob, recs 90 2 (m + 1) (mg z.1) orest)] :: Ls)) (fun z => m - z.2)
    (upd f 0 (f m), 0) ⟨rfl, rfl, rfl, rfl, rfl, trivial⟩ ⟨ls_pop m f, by omega⟩ (fun w h => by dsimp only; rw [← recs_mg_upd]; exact h) ?_
  rintro ⟨f1, k⟩ ⟨hp1, hk⟩
  dsimp only at hp1 hk ⊢
  refine c_block ?_
  refine c_seq ?_
  refine c_region ?_
  refine s_y (y_move rfl) rfl rfl rfl ?_
  refine s_y (y_assign rfl) rfl rfl rfl ?_
  refine s_nil ?_
  refine f_then ?_
  refine c_seq ?_
  refine c_seq ?_
  refine c_region ?_
  refine s_y (y_move rfl) rfl rfl rfl ?_
  refine s_y (y_mul rfl rfl (by omega)) rfl rfl rfl ?_
  refine s_y (y_add rfl rfl (by omega)) rfl rfl rfl ?_
  refine s_y (y_assign rfl) rfl rfl rfl ?_
  refine s_nil ?_
  refine f_then ?_
  refine c_block_cutP (α := Nat) (fun z => [(0, .pointer (some ⟨ph, 0, none⟩)), (2, .pointer (some ⟨b2, 0, none⟩)), (3, .pointer (some ⟨b3, 0, none⟩)), (4, .int .i64 m), (5, .int .i64 k), (6, .int .i64 z)]) (fun z => z = k ∨ (k < z ∧ z < m))
    (fun _ => K W ([(b3, row 90 (mk2 (f 0)))] :: [(b2, row 90 [.int .i64 0, .int .i64 0])] :: [(ph, row 94 [.slice (some ⟨ob, 0, none⟩) m ocap, fnV])] :: [(ob, recs 90 2 (m + 1) (mg f1) orest)] :: Ls)) ?_ ?_
  · refine c_loopP (α := Nat × Nat) (fun z => [(0, .pointer (some ⟨ph, 0, none⟩)), (2, .pointer (some ⟨b2, 0, none⟩)), (3, .pointer (some ⟨b3, 0, none⟩)), (4, .int .i64 m), (5, .int .i64 k), (6, .int .i64 z.1), (7, .int .i64 z.2)]) (fun z => (z.1 = k ∨ (k < z.1 ∧ z.1 < m)) ∧ k < z.2 ∧ z.2 ≤ 2 * k + 3)
      (fun _ => K W ([(b3, row 90 (mk2 (f 0)))] :: [(b2, row 90 [.int .i64 0, .int .i64 0])] :: [(ph, row 94 [.slice (some ⟨ob, 0, none⟩) m ocap, fnV])] :: [(ob, recs 90 2 (m + 1) (mg f1) orest)] :: Ls)) (fun z => 2 * k + 3 - z.2) (k, 2 * k + 1) ⟨rfl, rfl, rfl, rfl, rfl, rfl, by dsimp only; simp only [look]; congr 2, trivial⟩ ⟨.inl rfl, by dsimp only; omega, by dsimp only; omega⟩ (fun w h => h) ?_
    rintro ⟨best, down⟩ ⟨hb, hd1, hd2⟩
    dsimp only at hb hd1 hd2 ⊢
    by_cases hg : down ≤ 2 * k + 2 ∧ down < m
    · obtain ⟨hg1, hg2⟩ := hg
      have hg1' : (down : Int) ≤ 2 * (k : Int) + 2 := by omega
      have hg2' : (down : Int) < (m : Int) := by omega
      have hc1 : CellsAre (K W ([(b3, row 90 (mk2 (f 0)))] :: [(b2, row 90 [.int .i64 0, .int .i64 0])] :: [(ph, row 94 [.slice (some ⟨ob, 0, none⟩) m ocap, fnV])] :: [(ob, recs 90 2 (m + 1) (mg f1) orest)] :: Ls)) ⟨ob, down * 2, none⟩ _ := cells_mg 3 rfl (by omega)
      have hc2 : CellsAre (K W ([(b3, row 90 (mk2 (f 0)))] :: [(b2, row 90 [.int .i64 0, .int .i64 0])] :: [(ph, row 94 [.slice (some ⟨ob, 0, none⟩) m ocap, fnV])] :: [(ob, recs 90 2 (m + 1) (mg f1) orest)] :: Ls)) ⟨ob, best * 2, none⟩ _ := cells_mg 3 rfl (by omega)
      refine c_seq ?_
      refine c_seq ?_
      refine c_region ?_
      refine s_y (y_move rfl) rfl rfl rfl ?_
      refine s_y (y_move rfl) rfl rfl rfl ?_
      refine s_y (y_mul rfl rfl (by omega)) rfl rfl rfl ?_
      refine s_y (y_add rfl rfl (by omega)) rfl rfl rfl ?_
      refine s_y (y_T (y_leq rfl rfl) (by assumption)) rfl rfl rfl ?_
      refine s_y (y_move rfl) rfl rfl rfl ?_
      refine s_y (y_move rfl) rfl rfl rfl ?_
      refine s_y (y_move rfl) rfl rfl rfl ?_
      refine s_y (y_T (y_lss rfl rfl) (by assumption)) rfl rfl rfl ?_
      refine s_y (y_pickT rfl rfl) rfl rfl rfl ?_
      refine s_nil ?_
      refine f_then ?_
      refine c_condT rfl ?_
      refine c_skip ?_
      refine f_then ?_
      refine c_seq ?_
      refine c_block ?_
      refine c_seq ?_
      refine c_quiet Try.mixed (by kernel_rfl) K.drew ?_
      refine q_y (y_move rfl) rfl rfl rfl ?_
      refine q_y (y_nilP rfl) rfl rfl rfl ?_
      refine q_y (y_fieldAddrB Try.tab 1 rfl rfl rfl rfl rfl) rfl rfl rfl ?_
      refine q_y (y_load Try.tab rfl rfl (cell_row 2 rfl rfl)) rfl rfl rfl ?_
      refine q_y (y_move rfl) rfl rfl rfl ?_
      refine q_y (y_nilP rfl) rfl rfl rfl ?_
      refine q_y (y_fieldAddr0 Try.tab rfl rfl rfl rfl rfl) rfl rfl rfl ?_
      refine q_y (y_load Try.tab rfl rfl (cell_row 2 rfl rfl)) rfl rfl rfl ?_
      refine q_y (y_move rfl) rfl rfl rfl ?_
      refine q_y (y_indexAddr0 (s := 2) Try.tab rfl rfl rfl rfl _ rfl (by omega)) rfl rfl rfl ?_
      refine q_y (y_loadA Try.tab rfl rfl rfl rfl (by assumption)) rfl rfl rfl ?_
      refine q_y (y_move rfl) rfl rfl rfl ?_
      refine q_y (y_nilP rfl) rfl rfl rfl ?_
      refine q_y (y_fieldAddr0 Try.tab rfl rfl rfl rfl rfl) rfl rfl rfl ?_
      refine q_y (y_load Try.tab rfl rfl (cell_row 2 rfl rfl)) rfl rfl rfl ?_
      refine q_y (y_move rfl) rfl rfl rfl ?_
      refine q_y (y_indexAddr0 (s := 2) Try.tab rfl rfl rfl rfl _ rfl (by omega)) rfl rfl rfl ?_
      refine q_y (y_loadA Try.tab rfl rfl rfl rfl (by assumption)) rfl rfl rfl ?_
      have hsp := less_spec W ([(b3, row 90 (mk2 (f 0)))] :: [(b2, row 90 [.int .i64 0, .int .i64 0])] :: [(ph, row 94 [.slice (some ⟨ob, 0, none⟩) m ocap, fnV])] :: [(ob, recs 90 2 (m + 1) (mg f1) orest)] :: Ls) (f1 down) (f1 best)
      by_cases hlt : (f1 down).2 < (f1 best).2
      · rw [decide_eq_true hlt] at hsp
        refine q_call (en_v (cap := []) rfl rfl Try.call53) hsp rfl rfl rfl ?_
        refine q_nil ?_
        refine f_then ?_
        refine c_condT rfl ?_
        refine c_region ?_
        refine s_y (y_move rfl) rfl rfl rfl ?_
        refine s_y (y_assign rfl) rfl rfl rfl ?_
        refine s_nil ?_
        refine f_blockN ?_
        refine f_then ?_
        refine c_region ?_
        refine s_y (y_move rfl) rfl rfl rfl ?_
        refine s_y (y_add rfl rfl (by omega)) rfl rfl rfl ?_
        refine s_y (y_assign rfl) rfl rfl rfl ?_
        refine s_nil ?_
        exact f_roundP (down, down + 1) ⟨.inr ⟨hd1, hg2⟩, by dsimp only; omega, by dsimp only; omega⟩ (by dsimp only; omega) ⟨rfl, rfl, rfl, rfl, rfl, rfl, rfl, trivial⟩ (fun w h => h)
      · rw [decide_eq_false hlt] at hsp
        refine q_call (en_v (cap := []) rfl rfl Try.call53) hsp rfl rfl rfl ?_
        refine q_nil ?_
        refine f_then ?_
        refine c_condF rfl ?_
        refine c_skip ?_
        refine f_blockN ?_
        refine f_then ?_
        refine c_region ?_
        refine s_y (y_move rfl) rfl rfl rfl ?_
        refine s_y (y_add rfl rfl (by omega)) rfl rfl rfl ?_
        refine s_y (y_assign rfl) rfl rfl rfl ?_
        refine s_nil ?_
        exact f_roundP (best, down + 1) ⟨hb, by dsimp only; omega, by dsimp only; omega⟩ (by dsimp only; omega) ⟨rfl, rfl, rfl, rfl, rfl, rfl, rfl, trivial⟩ (fun w h => h)
    by_cases hg1 : down ≤ 2 * k + 2
    · have hg1' : (down : Int) ≤ 2 * (k : Int) + 2 := by omega
      have hg2' : ¬ (down : Int) < (m : Int) := by omega
      refine c_seq ?_
      refine c_seq ?_
      refine c_region ?_
      refine s_y (y_move rfl) rfl rfl rfl ?_
      refine s_y (y_move rfl) rfl rfl rfl ?_
      refine s_y (y_mul rfl rfl (by omega)) rfl rfl rfl ?_
      refine s_y (y_add rfl rfl (by omega)) rfl rfl rfl ?_
      refine s_y (y_T (y_leq rfl rfl) (by assumption)) rfl rfl rfl ?_
      refine s_y (y_move rfl) rfl rfl rfl ?_
      refine s_y (y_move rfl) rfl rfl rfl ?_
      refine s_y (y_move rfl) rfl rfl rfl ?_
      refine s_y (y_F (y_lss rfl rfl) (by assumption)) rfl rfl rfl ?_
      refine s_y (y_pickT rfl rfl) rfl rfl rfl ?_
      refine s_nil ?_
      refine f_then ?_
      refine c_condF rfl ?_
      refine c_exit ?_
      refine f_thenE ?_
      refine f_rndE ?_
      refine f_blockE ?_
      exact f_cutP best hb ⟨rfl, rfl, rfl, rfl, rfl, rfl, trivial⟩ (fun w h => h)
    · have hg1' : ¬ (down : Int) ≤ 2 * (k : Int) + 2 := by omega
      refine c_seq ?_
      refine c_seq ?_
      refine c_region ?_
      refine s_y (y_move rfl) rfl rfl rfl ?_
      refine s_y (y_move rfl) rfl rfl rfl ?_
      refine s_y (y_mul rfl rfl (by omega)) rfl rfl rfl ?_
      refine s_y (y_add rfl rfl (by omega)) rfl rfl rfl ?_
      refine s_y (y_F (y_leq rfl rfl) (by assumption)) rfl rfl rfl ?_
      refine s_y (y_move rfl) rfl rfl rfl ?_
      refine s_skip rfl rfl rfl ?_
      refine s_skip rfl rfl rfl ?_
      refine s_skip rfl rfl rfl ?_
      refine s_y (y_pickF rfl rfl) rfl rfl rfl ?_
      refine s_nil ?_
      refine f_then ?_
      refine c_condF rfl ?_
      refine c_exit ?_
      refine f_thenE ?_
      refine f_rndE ?_
      refine f_blockE ?_
      exact f_cutP best hb ⟨rfl, rfl, rfl, rfl, rfl, rfl, trivial⟩ (fun w h => h)
  intro best hbest
  refine f_then ?_
  refine c_seq ?_
  refine c_seq ?_
  refine c_region ?_
  refine s_y (y_move rfl) rfl rfl rfl ?_
  refine s_y (y_move rfl) rfl rfl rfl ?_
  refine s_y (y_eql rfl rfl) rfl rfl rfl ?_
  refine s_nil ?_
  refine f_then ?_
  refine c_condD rfl (fun hbk => ?_) (fun hbk => ?_)
  · refine c_seq ?_
    refine c_region ?_
    refine s_y (y_loadA Try.tab rfl rfl rfl rfl (cells_row0 0 rfl rfl)) rfl rfl rfl ?_
    refine s_set (set_box Try.tab 1 rfl rfl rfl rfl rfl rfl rfl) rfl rfl ?_
    refine s_nil ?_
    refine f_then ?_
    refine c_ret ?_
    refine f_thenR ?_
    refine f_blockR ?_
    refine f_rndR ?_
    refine f_blockR ?_
    have hok : hpOK m (some ⟨ob, ocap, [], mk2 (f1 m) ++ orest⟩) f1 := by
      refine ⟨⟨?_, hL.1.max, rl_len _ _ _, ?_⟩, Nat.le_refl _⟩
      · have := hL.1.le
        dsimp only at this ⊢
        omega
      · have h1 := hL.1.room
        have h2 := hL.1.le
        simp only [List.length_append, mk2, List.length_cons, List.length_nil] at h1 h2 ⊢
        omega
    refine f_ret ⟨(⟨ob, ocap, [], mk2 (f1 m) ++ orest⟩, f1), hok, hp1⟩ (resA Try.tab rfl rfl rfl rfl rfl (cells_row0 1 rfl rfl)) (fun w h => ?_)
    have h2 := h.tail.tail
    rw [recs_rl, rl_mg_succ, List.append_assoc] at h2
    exact h2
  · refine c_skip ?_
    refine f_then ?_
    refine c_seq ?_
    have hc1 : CellsAre (K W ([(b3, row 90 (mk2 (f 0)))] :: [(b2, row 90 [.int .i64 0, .int .i64 0])] :: [(ph, row 94 [.slice (some ⟨ob, 0, none⟩) m ocap, fnV])] :: [(ob, recs 90 2 (m + 1) (mg f1) orest)] :: Ls)) ⟨ob, best * 2, none⟩ _ := cells_mg 3 rfl (by omega)
    have hc2 : CellsAre (K W ([(b3, row 90 (mk2 (f 0)))] :: [(b2, row 90 [.int .i64 0, .int .i64 0])] :: [(ph, row 94 [.slice (some ⟨ob, 0, none⟩) m ocap, fnV])] :: [(ob, recs 90 2 (m + 1) (mg f1) orest)] :: Ls)) ⟨ob, k * 2, none⟩ _ := cells_mg 3 rfl (by omega)
    refine c_planM 9 [.c 0, .c 1, .c 2, .c 3, .c 4, .c 5, .c 6, .c 7, .c 8, .c 10, .c 11, .c 12, .c 13, .c 14, .c 15, .c 16, .c 17, .c 18, .c 19, .c 20, .c 21, .c 22, .c 23, .c 24, .s 25, .s 26, .s 27] [9, 25, 26, 27] (K W ([(b3, row 90 (mk2 (f 0)))] :: [(b2, row 90 [.int .i64 0, .int .i64 0])] :: [(ph, row 94 [.slice (some ⟨ob, 0, none⟩) m ocap, fnV])] :: [(ob, recs 90 2 (m + 1) (mg f1) orest)] :: Ls)) Try.mixed (by kernel_rfl) rfl rfl (Qui.ylds (y_move rfl)) rfl rfl rfl K.cl ?_
    refine d_c rfl (Qui.ylds (y_move rfl)) rfl rfl rfl (fun _ h => h) K.cl ?_
    refine d_c rfl (Qui.ylds (y_nilP rfl)) rfl rfl rfl (fun _ h => h) K.cl ?_
    refine d_c rfl (Qui.ylds (y_fieldAddr0 Try.tab rfl rfl rfl rfl rfl)) rfl rfl rfl (fun _ h => h) K.cl ?_
    refine d_c rfl (Qui.ylds (y_load Try.tab rfl rfl (cell_row 2 rfl rfl))) rfl rfl rfl (fun _ h => h) K.cl ?_
    refine d_c rfl (Qui.ylds (y_move rfl)) rfl rfl rfl (fun _ h => h) K.cl ?_
    refine d_c rfl (Qui.ylds (y_move rfl)) rfl rfl rfl (fun _ h => h) K.cl ?_
    refine d_c rfl (Qui.ylds (y_nilP rfl)) rfl rfl rfl (fun _ h => h) K.cl ?_
    refine d_c rfl (Qui.ylds (y_fieldAddr0 Try.tab rfl rfl rfl rfl rfl)) rfl rfl rfl (fun _ h => h) K.cl ?_
    refine d_c rfl (Qui.ylds (y_load Try.tab rfl rfl (cell_row 2 rfl rfl))) rfl rfl rfl (fun _ h => h) K.cl ?_
    refine d_c rfl (Qui.ylds (y_move rfl)) rfl rfl rfl (fun _ h => h) K.cl ?_
    refine d_c rfl (Qui.ylds (y_nilP rfl)) rfl rfl rfl (fun _ h => h) K.cl ?_
    refine d_c rfl (Qui.ylds (y_fieldAddr0 Try.tab rfl rfl rfl rfl rfl)) rfl rfl rfl (fun _ h => h) K.cl ?_
    refine d_c rfl (Qui.ylds (y_load Try.tab rfl rfl (cell_row 2 rfl rfl))) rfl rfl rfl (fun _ h => h) K.cl ?_
    refine d_c rfl (Qui.ylds (y_move rfl)) rfl rfl rfl (fun _ h => h) K.cl ?_
    refine d_c rfl (Qui.ylds (y_indexAddr0 (s := 2) Try.tab rfl rfl rfl rfl _ rfl (by omega))) rfl rfl rfl (fun _ h => h) K.cl ?_
    refine d_c rfl (Qui.ylds (y_loadA Try.tab rfl rfl rfl rfl (by assumption))) rfl rfl rfl (fun _ h => h) K.cl ?_
    refine d_c rfl (Qui.ylds (y_move rfl)) rfl rfl rfl (fun _ h => h) K.cl ?_
    refine d_c rfl (Qui.ylds (y_nilP rfl)) rfl rfl rfl (fun _ h => h) K.cl ?_
    refine d_c rfl (Qui.ylds (y_fieldAddr0 Try.tab rfl rfl rfl rfl rfl)) rfl rfl rfl (fun _ h => h) K.cl ?_
    refine d_c rfl (Qui.ylds (y_load Try.tab rfl rfl (cell_row 2 rfl rfl))) rfl rfl rfl (fun _ h => h) K.cl ?_
    refine d_c rfl (Qui.ylds (y_move rfl)) rfl rfl rfl (fun _ h => h) K.cl ?_
    refine d_c rfl (Qui.ylds (y_indexAddr0 (s := 2) Try.tab rfl rfl rfl rfl _ rfl (by omega))) rfl rfl rfl (fun _ h => h) K.cl ?_
    refine d_c rfl (Qui.ylds (y_loadA Try.tab rfl rfl rfl rfl (by assumption))) rfl rfl rfl (fun _ h => h) K.cl ?_
    refine d_c rfl (Qui.ylds (y_indexAddr0 (s := 2) Try.tab rfl rfl rfl rfl _ rfl (by omega))) rfl rfl rfl (fun _ h => h) K.cl ?_
    refine d_set rfl (set_recsA (s := 2) (k := k) Try.tab 3 rfl rfl rfl rfl rfl rfl (by omega)) rfl rfl K.cl (fun h => by cases h) ?_
    refine d_sy rfl (y_indexAddr0 (s := 2) Try.tab rfl rfl rfl rfl _ rfl (by omega)) rfl rfl rfl K.cl (fun h => by cases h) ?_
    refine d_set rfl (set_recsA (s := 2) (k := best) Try.tab 3 rfl rfl rfl rfl rfl rfl (by omega)) rfl rfl K.cl (fun h => by cases h) ?_
    refine d_nil ?_
    refine f_then ?_
    refine c_region ?_
    refine s_y (y_move rfl) rfl rfl rfl ?_
    refine s_y (y_assign rfl) rfl rfl rfl ?_
    refine s_nil ?_
    refine f_blockN ?_
    refine f_roundP (upd (upd f1 k (f1 best)) best (f1 k), best) ⟨?_, by dsimp only; omega⟩ (by dsimp only; omega) ⟨rfl, rfl, rfl, rfl, rfl, trivial⟩ (fun w h => ?_)
    · exact (List.Perm.cons _ (ls_swap m k best f1 (by omega) (by omega))).trans hp1
    dsimp only
    rw [← recs_mg_upd2]
    exact h
end Go.KL
end

section
/- Plain lemmas: labels of a search for the shortest ways. No program in sight. -/
namespace Go.KL
section
/-- Walks over good links, with their lengths. -/
inductive Wk (n s : Nat) (outs : Nat → List Nat) (to : Nat → Nat) (ok : Nat → Prop) (w : Nat → Int) : Nat → Int → Prop
  | base : Wk n s outs to ok w s 0
  | step {v k : Nat} {d : Int} : Wk n s outs to ok w v d → v < n → k ∈ outs v → ok k → Wk n s outs to ok w (to k) (d + w k)
def rch (best : Nat → Int) : Nat → Bool := fun u => decide (0 ≤ best u)
theorem rch_upd (best : Nat → Int) (t : Nat) (x : Int) (hx : 0 ≤ x) : rch (upd best t x) = upd (rch best) t true := by
  funext u; simp only [rch, upd]; split <;> simp [hx]
/-- How far the labels may fall. -/
def ph (B : Nat) (best : Nat → Int) : Nat → Nat
  | 0 => 0
  | n + 1 => ph B best n + (if best n < 0 then B + 1 else (best n).toNat)
theorem ph_congr (B n : Nat) (f g : Nat → Int) (h : ∀ i, i < n → f i = g i) : ph B f n = ph B g n := by
  induction n with
  | zero => rfl
  | succ n ih => simp only [ph, h n (by omega), ih fun i hi => h i (by omega)]
theorem ph_drop (B n t : Nat) (best : Nat → Int) (x : Int) (ht : t < n) (h0 : 0 ≤ x) (hB : x ≤ B) (hx : best t < 0 ∨ x < best t) : ph B (upd best t x) n + 1 ≤ ph B best n := by
  induction n with
  | zero => omega
  | succ n ih =>
    simp only [ph]
    by_cases hn : n = t
    · subst hn
      rw [ph_congr B n (upd best n x) best fun i hi => upd_ne _ _ (by omega)]
      rw [upd_same]
      split <;> split <;> omega
    · have := ih (by omega)
      rw [upd_ne _ _ hn]
      omega
theorem ph_le (B n : Nat) (best : Nat → Int) (h : ∀ u, best u ≤ B) : ph B best n ≤ n * (B + 1) := by
  induction n with
  | zero => simp [ph]
  | succ n ih =>
    simp only [ph, Nat.succ_mul]
    have := h n
    split <;> omega

structure DI (n s : Nat) (outs : Nat → List Nat) (to : Nat → Nat) (ok : Nat → Prop) (w : Nat → Int) (C : Nat) (best : Nat → Int) (q : List Mk) (v j : Nat) : Prop where
  start : best s = 0
  lo : ∀ u, -1 ≤ best u
  hi : ∀ u, 0 ≤ best u → best u + C ≤ ((cnt n (rch best) * C : Nat) : Int)
  walk : ∀ u, 0 ≤ best u → u < n ∧ Wk n s outs to ok w u (best u)
  ent : ∀ x, x ∈ q → x.1 < n ∧ 0 ≤ best x.1 ∧ best x.1 ≤ x.2 ∧ x.2 ≤ ((n * C : Nat) : Int)
  tri : ∀ u, 0 ≤ best u → (u, best u) ∈ q ∨ (u = v ∧ ∀ k, k ∈ (outs v).take j → ok k → 0 ≤ best (to k) ∧ best (to k) ≤ best u + w k) ∨
    ∀ k, k ∈ outs u → ok k → 0 ≤ best (to k) ∧ best (to k) ≤ best u + w k
  bnd : q.length + 2 * ph (n * C) best n ≤ 2 * (n * (n * C + 1)) + 1
variable {n s C : Nat} {outs : Nat → List Nat} {to : Nat → Nat} {ok : Nat → Prop} {w : Nat → Int} {best : Nat → Int} {q : List Mk} {v j : Nat}
theorem DI.begin (hs : s < n) : DI n s outs to ok w C (upd (fun _ => -1) s 0) [(s, 0)] n 0 := by
  have hc : cnt n (rch (upd (fun _ => -1) s 0)) = 1 := by
    have h1 := cnt_drop n (rch (upd (fun _ => -1) s 0)) (fun _ => false) s hs (by simp [rch]) rfl (fun i _ hne => by simp [rch, upd, hne])
    have h2 : cnt n (fun _ => false) = 0 := by
      clear h1 hs
      induction n with
      | zero => rfl
      | succ n ih => simp [cnt, ih]
    omega
  refine ⟨by simp, ?_, ?_, ?_, ?_, ?_, ?_⟩
  · intro u; simp only [upd]; split <;> omega
  · intro u hu; rw [hc]; simp only [upd]; split <;> omega
  · intro u hu
    by_cases e : u = s
    · subst e; rw [upd_same]; exact ⟨hs, .base⟩
    · rw [upd_ne _ _ e] at hu; omega
  · intro x hx
    simp only [List.mem_singleton] at hx
    subst hx
    dsimp only
    rw [upd_same]
    exact ⟨hs, by omega, by omega, by omega⟩
  · intro u hu
    by_cases e : u = s
    · subst e; left; simp
    · rw [upd_ne _ _ e] at hu; omega
  · have := ph_le (n * C) n (upd (fun _ => -1) s 0) (fun u => by simp only [upd]; split <;> omega)
    simp only [List.length_cons, List.length_nil]
    omega
/-- The queue's order does not matter. -/
theorem DI.perm {q' : List Mk} (h : DI n s outs to ok w C best q v j) (hp : q'.Perm q) : DI n s outs to ok w C best q' v j :=
  ⟨h.start, h.lo, h.hi, h.walk, fun x hx => h.ent x (hp.mem_iff.1 hx), fun u hu => (h.tri u hu).imp_left fun h1 => hp.mem_iff.2 h1, by rw [hp.length_eq]; exact h.bnd⟩
theorem DI.old {x : Mk} (h : DI n s outs to ok w C best (x :: q) n 0) (hx : best x.1 < x.2) : DI n s outs to ok w C best q n 0 := by
  refine ⟨h.start, h.lo, h.hi, h.walk, fun y hy => h.ent y (by simp [hy]), fun u hu => ?_, by have := h.bnd; simp at this; omega⟩
  rcases h.tri u hu with h1 | h1 | h1
  · rcases List.mem_cons.1 h1 with h1 | h1
    · subst h1; dsimp only at hx; omega
    · exact .inl h1
  · have := (h.walk u hu).1; omega
  · exact .inr (.inr h1)
theorem DI.pop {x : Mk} (h : DI n s outs to ok w C best (x :: q) n 0) (hx : best x.1 = x.2) : DI n s outs to ok w C best q x.1 0 := by
  refine ⟨h.start, h.lo, h.hi, h.walk, fun y hy => h.ent y (by simp [hy]), fun u hu => ?_, by have := h.bnd; simp at this; omega⟩
  rcases h.tri u hu with h1 | h1 | h1
  · rcases List.mem_cons.1 h1 with h1 | h1
    · subst h1; right; left; exact ⟨rfl, by simp⟩
    · exact .inl h1
  · have := (h.walk u hu).1; omega
  · exact .inr (.inr h1)
theorem DI.keep {k : Nat} (h : DI n s outs to ok w C best q v j) (hk : (outs v)[j]? = some k) (hno : ok k → 0 ≤ best (to k) ∧ best (to k) ≤ best v + w k) : DI n s outs to ok w C best q v (j + 1) := by
  refine ⟨h.start, h.lo, h.hi, h.walk, h.ent, fun u hu => ?_, h.bnd⟩
  rcases h.tri u hu with h1 | ⟨h1, h2⟩ | h1
  · exact .inl h1
  · refine .inr (.inl ⟨h1, fun x hx hok => ?_⟩)
    rw [List.take_add_one, hk] at hx
    rcases List.mem_append.1 hx with hx | hx
    · exact h2 x hx hok
    · simp at hx; subst hx; rw [h1]; exact hno hok
  · exact .inr (.inr h1)
theorem DI.done (h : DI n s outs to ok w C best q v j) (hj : (outs v).length ≤ j) : DI n s outs to ok w C best q n 0 := by
  refine ⟨h.start, h.lo, h.hi, h.walk, h.ent, fun u hu => ?_, h.bnd⟩
  rcases h.tri u hu with h1 | ⟨h1, h2⟩ | h1
  · exact .inl h1
  · rw [List.take_of_length_le hj] at h2
    subst h1
    exact .inr (.inr h2)
  · exact .inr (.inr h1)
theorem DI.le (h : DI n s outs to ok w C best q v j) {u : Nat} (hu : 0 ≤ best u) : best u + C ≤ ((n * C : Nat) : Int) := by
  have h1 := h.hi u hu
  have h2 := Nat.mul_le_mul_right C (cnt_le n (rch best))
  omega
theorem DI.set {k : Nat} (h : DI n s outs to ok w C best q v j) (hk : (outs v)[j]? = some k) (hok : ok k) (hv : v < n) (hbv : 0 ≤ best v) (hw : 0 ≤ w k ∧ w k ≤ C) (ht : to k < n)
    (hnew : best (to k) = -1 ∨ best v + w k < best (to k)) : DI n s outs to ok w C (upd best (to k) (best v + w k)) (q ++ [(to k, best v + w k)]) v (j + 1) ∧ upd best (to k) (best v + w k) v = best v ∧
      ph (n * C) (upd best (to k) (best v + w k)) n + 1 ≤ ph (n * C) best n := by
  have hne : v ≠ to k := fun e => by rw [← e] at hnew; omega
  have hts : s ≠ to k := fun e => by rw [← e, h.start] at hnew; omega
  have hle := h.le hbv
  have hph := ph_drop (n * C) n (to k) best (best v + w k) ht (by omega) (by omega) (by omega)
  have hcv := h.hi v hbv
  have hup : ∀ u, 0 ≤ best u → 0 ≤ upd best (to k) (best v + w k) u ∧ upd best (to k) (best v + w k) u ≤ best u := fun u hu => by
    simp only [upd]; split
    · subst_vars; omega
    · omega
  have hcnt : cnt n (rch best) * C ≤ cnt n (rch (upd best (to k) (best v + w k))) * C := Nat.mul_le_mul_right C (cnt_mono _ _ _ fun i _ hi => by
    rw [rch_upd _ _ _ (by omega)]; simp only [upd]; split <;> simp [hi])
  refine ⟨⟨?_, ?_, ?_, ?_, ?_, ?_, ?_⟩, upd_ne _ _ hne, hph⟩
  · rw [upd_ne _ _ hts]; exact h.start
  · intro u; have := h.lo u; simp only [upd]; split <;> omega
  · intro u hu
    by_cases e : u = to k
    · subst e
      rw [upd_same]
      rcases hnew with h1 | h1
      · have h2 := cnt_drop n (rch (upd best (to k) (best v + w k))) (rch best) (to k) ht (by rw [rch_upd _ _ _ (by omega)]; simp) (by simp [rch, h1]) (fun i _ hne => by rw [rch_upd _ _ _ (by omega), upd_ne _ _ hne])
        rw [← h2, Nat.succ_mul]
        omega
      · have := h.hi (to k) (by omega)
        omega
    · rw [upd_ne _ _ e] at hu ⊢
      have := h.hi u hu
      omega
  · intro u hu
    by_cases e : u = to k
    · subst e
      rw [upd_same]
      exact ⟨ht, .step (h.walk v hbv).2 hv (List.mem_of_getElem? hk) hok⟩
    · rw [upd_ne _ _ e] at hu ⊢
      exact h.walk u hu
  · intro x hx
    rcases List.mem_append.1 hx with hx | hx
    · obtain ⟨h1, h2, h3, h4⟩ := h.ent x hx
      have := hup _ h2
      exact ⟨h1, this.1, by omega, h4⟩
    · simp only [List.mem_singleton] at hx
      subst hx
      dsimp only
      rw [upd_same]
      exact ⟨ht, by omega, by omega, by omega⟩
  · have hT : ∀ u x, 0 ≤ best (to x) ∧ best (to x) ≤ best u + w x → u ≠ to k → 0 ≤ upd best (to k) (best v + w k) (to x) ∧ upd best (to k) (best v + w k) (to x) ≤ upd best (to k) (best v + w k) u + w x := fun u x h1 h2 => by
      rw [upd_ne _ _ h2]
      have := hup _ h1.1
      omega
    intro u hu
    by_cases e : u = to k
    · left; subst e; simp
    · rw [upd_ne _ _ e] at hu
      rcases h.tri u hu with h1 | ⟨h1, h2⟩ | h1
      · left; rw [upd_ne _ _ e]; simp [h1]
      · refine .inr (.inl ⟨h1, fun x hx hok' => ?_⟩)
        rw [List.take_add_one, hk] at hx
        rcases List.mem_append.1 hx with hx | hx
        · exact hT u x (h2 x hx hok') e
        · simp at hx; subst hx
          rw [upd_same, upd_ne _ _ e, h1]
          omega
      · exact .inr (.inr fun x hx hok' => hT u x (h1 x hx hok') e)
  · have := h.bnd
    simp only [List.length_append, List.length_cons, List.length_nil]
    omega
/-- What the labels are at the end. -/
structure DistP (n s : Nat) (outs : Nat → List Nat) (to : Nat → Nat) (ok : Nat → Prop) (w : Nat → Int) (C : Nat) (best : Nat → Int) : Prop where
  start : best s = 0
  lo : ∀ u, -1 ≤ best u
  hi : ∀ u, best u ≤ ((n * C : Nat) : Int)
  walk : ∀ u, 0 ≤ best u → u < n ∧ Wk n s outs to ok w u (best u)
  tri : ∀ u, 0 ≤ best u → ∀ k, k ∈ outs u → ok k → 0 ≤ best (to k) ∧ best (to k) ≤ best u + w k
theorem DI.dist (h : DI n s outs to ok w C best [] n 0) : DistP n s outs to ok w C best := by
  refine ⟨h.start, h.lo, fun u => ?_, h.walk, fun u hu => ?_⟩
  · by_cases h1 : best u < 0
    · omega
    · have := h.le (u := u) (by omega)
      omega
  · rcases h.tri u hu with h1 | ⟨h1, h2⟩ | h1
    · cases h1
    · have := (h.walk u hu).1; omega
    · exact h1
theorem DistP.wk (h : DistP n s outs to ok w C best) {u : Nat} {d : Int} (hw : Wk n s outs to ok w u d) : 0 ≤ best u ∧ best u ≤ d := by
  induction hw with
  | base => rw [h.start]; omega
  | step _ _ hk hok ih =>
    have := h.tri _ ih.1 _ hk hok
    omega
/-- What is reached over tight links only holds every shortest way. -/
theorem DistP.tight (h : DistP n s outs to ok w C best) (hw : ∀ v, v < n → ∀ k, k ∈ outs v → ok k → 0 ≤ w k) {b : Int} {X : Nat → Prop} (hX : X s)
    (hcl : ∀ v, v < n → X v → 0 ≤ best v → best v ≤ b → ∀ k, k ∈ outs v → ok k → best (to k) = best v + w k → best (to k) ≤ b → X (to k)) {u : Nat} {d : Int} (hu : Wk n s outs to ok w u d) : d = best u → best u ≤ b → X u := by
  induction hu with
  | base => intro _ _; exact hX
  | @step v k d hv hvn hk hok ih =>
    intro e hb
    have h1 := h.wk hv
    have h2 := h.tri v h1.1 k hk hok
    have h3 := hw v hvn k hk hok
    exact hcl v hvn (ih (by omega) (by omega)) h1.1 (by omega) k hk hok (by omega) hb
end
end Go.KL
end

section
/- Walks: distances. -/
namespace Go.KL
open Go.Proofs
attribute [local irreducible] SC St Fin Sq Sw Ylds Doos Sets Enters Spec CellIs CellsAre Then Ret Rnd resOK ints bools recs arr
theorem ints_congr {e : TypeId} {n : Nat} {f g : Nat → Int} {rest : List Value} (h : ∀ u, u < n → f u = g u) : ints e n f rest = ints e n g rest := by
  unfold ints arr
  congr 2
  exact List.map_congr_left fun u hu => by rw [h u (List.mem_range.1 hu)]
theorem hpOK_zero (f : Nat → Mk) : hpOK 0 none f := ⟨by simp [rl], rfl⟩
theorem hpL_new {W : World} {Ls : List Chunk} {w : World} {ph : Nat} {f : Nat → Mk} (h : K W ([(ph, row 94 [nilS, fnV])] :: Ls) w) : K W (hpL ph 0 none f Ls) w := ⟨h.os, h.tape, h.output, h.size, h.base, h.own, h.nd⟩
attribute [local irreducible] rvals lk3 RowF hpOK mg rl
/-- Weights and sizes as the search for distances needs them. -/
structure WOK (n m : Nat) (outs : Nat → List Nat) (to tl : Nat → Nat) (room cost high : Nat → Int) (C : Nat) : Prop where
  room0 : ∀ k, k < m → 0 ≤ room k
  w : ∀ v, v < n → ∀ k, k ∈ outs v → 0 < room k → 0 ≤ red tl to cost high k ∧ red tl to cost high k ≤ C
  cost : ∀ k, k < m → -1000000000000000 ≤ cost k ∧ cost k ≤ 1000000000000000
  high : ∀ v, v < n → -1000000000000000 ≤ high v ∧ high v ≤ 1000000000000000
set_option maxHeartbeats 4000000 in
theorem distances_spec (W : World) (Ls : List Chunk) (p n m s C : Nat) (vl vo a b vh : Value) (outs : Nat → List Nat) (to tl : Nat → Nat) (room cost high : Nat → Int)
    (hO : OutV (K W Ls) vo n outs) (hL : LinkV (K W Ls) vl m to room cost) (hH : HighV (K W Ls) vh n high) (hG : GOK n m outs to) (htl : ∀ v, v < n → ∀ k, k ∈ outs v → tl k = v) (hW : WOK n m outs to tl room cost high C) (hs : s < n) (hn1 : n ≤ 1000) (hm : m ≤ 1000000) (hC : 2 * (n * (n * C + 1)) ≤ 900000000000) :
    Spec Try.prog 50 #[.pointer (some ⟨p, 0, none⟩), .int .i64 s] (K W ([(p, row 78 [vl, vo, a, b, vh])] :: Ls))
      (X := { x : Nat × (Nat → Int) // DistP n s outs to (fun k => 0 < room k) (red tl to cost high) C x.2 })
      (fun x => .slice (some ⟨x.1.1, 0, none⟩) n n) (fun x => K W ([(p, row 78 [vl, vo, a, b, vh])] :: [(x.1.1, ints 3 n x.1.2 [])] :: Ls)) := by
  obtain ⟨bo, rfl, hrow⟩ := hO
  obtain ⟨bh, rfl, hhigh⟩ := hH
  refine enter (args := [_, _]) Try.func50 rfl Try.ntmps50 rfl ?_
  refine c_seq ?_
  refine c_region ?_
  refine s_y (y_assign rfl) rfl rfl rfl ?_
  refine s_nil ?_
  refine f_then ?_
  refine c_seq ?_
  refine c_region ?_
  refine s_y (y_move rfl) rfl rfl rfl ?_
  refine s_y (y_nilP rfl) rfl rfl rfl ?_
  refine s_y (y_fieldAddrB Try.tab 1 rfl rfl rfl rfl rfl) rfl rfl rfl ?_
  refine s_y (y_load Try.tab rfl rfl (cell_row 0 rfl rfl)) rfl rfl rfl ?_
  refine s_y (y_len Try.tab rfl rfl) rfl rfl rfl ?_
  refine s_do (make_ints (by_ := 8) Try.tab rfl rfl rfl rfl rfl rfl (by omega)) rfl rfl rfl (fun b18 => ?_)
  refine s_y (y_assign rfl) rfl rfl rfl ?_
  refine s_nil ?_
  refine f_then ?_
  refine c_seq ?_
  refine c_seq ?_
  refine c_region ?_
  refine s_y (y_move rfl) rfl rfl rfl ?_
  refine s_y (y_len Try.tab rfl rfl) rfl rfl rfl ?_
  refine s_y (y_move rfl) rfl rfl rfl ?_
  refine s_nil ?_
  refine f_then ?_
  refine c_block ?_
  refine c_loopP (α := (Nat → Int) × Nat) (fun z => [(0, .pointer (some ⟨p, 0, none⟩)), (1, .int .i64 s), (5, .slice (some ⟨b18, 0, none⟩) n n), (20, .int .i64 n), (21, .int .i64 z.2)])
    (fun z => z.2 ≤ n ∧ ∀ u, u < z.2 → z.1 u = -1) (fun z => K W ([(b18, ints 3 n z.1 [])] :: [(p, row 78 [vl, .slice (some ⟨bo, 0, none⟩) n n, a, b, .slice (some ⟨bh, 0, none⟩) n n])] :: Ls)) (fun z => n - z.2)
    (fun _ => 0, 0) ⟨rfl, rfl, rfl, rfl, rfl, trivial⟩ ⟨Nat.zero_le _, fun u hu => by dsimp only at hu; omega⟩ (fun w h => h) ?_
  rintro ⟨f0, i⟩ ⟨hi, hf0⟩
  dsimp only at hi hf0 ⊢
  refine c_seq ?_
  refine c_region ?_
  refine s_y (y_lss rfl rfl) rfl rfl rfl ?_
  refine s_nil ?_
  refine f_then ?_
  refine c_seq ?_
  refine c_condD rfl (fun hlt => ?_) (fun hge => ?_)
  · refine c_skip ?_
    refine f_then ?_
    refine c_seq ?_
    refine c_block ?_
    refine c_seq ?_
    refine c_region ?_
    refine s_y (y_move rfl) rfl rfl rfl ?_
    refine s_y (y_assign rfl) rfl rfl rfl ?_
    refine s_nil ?_
    refine f_then ?_
    refine c_region ?_
    refine s_y (y_move rfl) rfl rfl rfl ?_
    refine s_y (y_move rfl) rfl rfl rfl ?_
    refine s_y (y_indexAddr1 Try.tab rfl rfl rfl rfl _ rfl (by omega)) rfl rfl rfl ?_
    refine s_set (set_ints Try.tab 0 rfl rfl rfl rfl (by omega)) rfl rfl ?_
    refine s_nil ?_
    refine f_blockN ?_
    refine f_then ?_
    refine c_region ?_
    refine s_y (y_add rfl rfl (by omega)) rfl rfl rfl ?_
    refine s_y (y_move rfl) rfl rfl rfl ?_
    refine s_nil ?_
    exact f_roundP (upd f0 i (-1), i + 1) ⟨by dsimp only; omega, fun u hu => by simp only [upd]; split; rfl; exact hf0 u (by omega)⟩ (by dsimp only; omega) ⟨rfl, rfl, rfl, rfl, rfl, trivial⟩ (fun w h => h)
  have hin : n = i := by omega
  clear hge
  subst hin
  refine SC.cls (C' := K W ([(b18, ints 3 n (fun _ => -1) [])] :: [(p, row 78 [vl, .slice (some ⟨bo, 0, none⟩) n n, a, b, .slice (some ⟨bh, 0, none⟩) n n])] :: Ls)) ?_ (fun w h => by rw [← ints_congr hf0]; exact h)
  refine c_exit ?_
  refine f_thenE ?_
  refine f_rndE ?_
  refine f_blockE ?_
  refine f_then ?_
  refine c_seq ?_
  refine c_region ?_
  refine s_y (y_move rfl) rfl rfl rfl ?_
  refine s_y (y_move rfl) rfl rfl rfl ?_
  refine s_y (y_indexAddr1 Try.tab rfl rfl rfl rfl _ rfl (by omega)) rfl rfl rfl ?_
  refine s_set (set_ints Try.tab 0 rfl rfl rfl rfl (by omega)) rfl rfl ?_
  refine s_nil ?_
  refine f_then ?_
  refine c_seq ?_
  refine c_region ?_
  refine s_y (y_build Try.tab rfl rfl rfl rfl rfl) rfl rfl rfl ?_
  refine s_do (do_box rfl) rfl rfl rfl (fun b32 => ?_)
  refine s_y (y_assign rfl) rfl rfl rfl ?_
  refine s_nil ?_
  refine f_then ?_
  refine c_seq ?_
  refine c_region ?_
  refine s_y (y_move rfl) rfl rfl rfl ?_
  refine s_y (y_move rfl) rfl rfl rfl ?_
  refine s_y (y_build Try.tab rfl rfl rfl rfl rfl) rfl rfl rfl ?_
  refine s_call (en_f rfl Try.call54) (Spec.cls (hpush_spec W ([(b18, ints 3 n (upd (fun _ => -1) s 0) [])] :: [(p, row 78 [vl, .slice (some ⟨bo, 0, none⟩) n n, a, b, .slice (some ⟨bh, 0, none⟩) n n])] :: Ls) b32 0 none (fun _ => (0, 0)) (s, 0) (hpOK_zero _) (by omega)) (fun w h => hpL_new h)) rfl rfl rfl (fun x0 => ?_)
  obtain ⟨⟨o0, f0⟩, hok0, hp0⟩ := x0
  dsimp only
  refine s_nil ?_
  refine f_then ?_
  refine c_seq ?_
  refine c_block ?_
  refine c_loopP (α := (Nat → Int) × Nat × Option Own × (Nat → Mk)) (fun z => [(0, .pointer (some ⟨p, 0, none⟩)), (5, .slice (some ⟨b18, 0, none⟩) n n), (7, .pointer (some ⟨b32, 0, none⟩))])
    (fun z => DI n s outs to (fun k => 0 < room k) (red tl to cost high) C z.1 (ls z.2.1 z.2.2.2) n 0 ∧ hpOK z.2.1 z.2.2.1 z.2.2.2)
    (fun z => K W (hpL b32 z.2.1 z.2.2.1 z.2.2.2 ([(b18, ints 3 n z.1 [])] :: [(p, row 78 [vl, .slice (some ⟨bo, 0, none⟩) n n, a, b, .slice (some ⟨bh, 0, none⟩) n n])] :: Ls))) (fun z => z.2.1 + 2 * ph (n * C) z.1 n)
    (upd (fun _ => -1) s 0, 1, some o0, f0) ⟨rfl, rfl, rfl, trivial⟩ ⟨(DI.begin hs).perm hp0, hok0⟩ (fun w h => h) ?_
  rintro ⟨best, q, L, f⟩ ⟨hD, hok⟩
  dsimp only at hD hok ⊢
  refine c_seq ?_
  refine c_seq ?_
  refine c_region ?_
  refine s_y (y_move rfl) rfl rfl rfl ?_
  have hem := empty_spec W ([(b18, ints 3 n best [])] :: [(p, row 78 [vl, .slice (some ⟨bo, 0, none⟩) n n, a, b, .slice (some ⟨bh, 0, none⟩) n n])] :: Ls) b32 q L f hok
  by_cases hq0 : q = 0
  · subst hq0
    rw [decide_eq_true rfl] at hem
    refine s_call (en_f rfl Try.call55) hem rfl rfl rfl (fun _ => ?_)
    refine s_y (y_not rfl) rfl rfl rfl ?_
    refine s_nil ?_
    refine f_then ?_
    refine c_condF rfl ?_
    refine c_exit ?_
    refine f_thenE ?_
    refine f_rndE ?_
    refine f_blockE ?_
    refine f_then ?_
    refine c_seq ?_
    refine c_region ?_
    refine s_y (y_move rfl) rfl rfl rfl ?_
    refine s_y (y_assign rfl) rfl rfl rfl ?_
    refine s_nil ?_
    refine f_then ?_
    refine c_ret ?_
    have hD0 : DistP n s outs to (fun k => 0 < room k) (red tl to cost high) C best := hD.dist
    exact f_ret ⟨(b18, best), hD0⟩ (res1 rfl rfl) (fun w h => h.tail.tail.front 1)
  rw [decide_eq_false hq0] at hem
  refine s_call (en_f rfl Try.call55) hem rfl rfl rfl (fun _ => ?_)
  refine s_y (y_not rfl) rfl rfl rfl ?_
  refine s_nil ?_
  refine f_then ?_
  refine c_condT rfl ?_
  refine c_skip ?_
  refine f_then ?_
  refine c_block ?_
  refine c_seq ?_
  refine c_region ?_
  refine s_y (y_move rfl) rfl rfl rfl ?_
  obtain ⟨q, rfl⟩ : ∃ q', q = q' + 1 := ⟨q - 1, by omega⟩
  have hbq := hD.bnd
  rw [ls_len] at hbq
  refine s_call (en_f rfl Try.call56) (hpop_spec W ([(b18, ints 3 n best [])] :: [(p, row 78 [vl, .slice (some ⟨bo, 0, none⟩) n n, a, b, .slice (some ⟨bh, 0, none⟩) n n])] :: Ls) b32 q L f hok (by omega)) rfl rfl rfl (fun x1 => ?_)
  obtain ⟨⟨o1, f1⟩, hok1, hp1⟩ := x1
  dsimp only at hok1 hp1 ⊢
  have hD1 := hD.perm hp1
  generalize f 0 = x1 at hD1 hp1 ⊢
  obtain ⟨v, d⟩ := x1
  have hx := hD1.ent (v, d) (by simp)
  dsimp only at hx
  obtain ⟨hvn, hbv0, hbvd, hdB⟩ := hx
  refine s_do (do_alloc Try.tab rfl) rfl rfl rfl (fun b8 => ?_)
  refine s_set (set_box Try.tab 0 rfl rfl rfl rfl rfl rfl rfl) rfl rfl ?_
  refine s_nil ?_
  refine f_then ?_
  refine c_seq ?_
  refine c_seq ?_
  refine c_quiet Try.mixed (by kernel_rfl) K.drew ?_
  refine q_y (y_fieldAddrB Try.tab 1 rfl rfl rfl rfl rfl) rfl rfl rfl ?_
  refine q_y (y_load Try.tab rfl rfl (cell_row 0 rfl rfl)) rfl rfl rfl ?_
  refine q_y (y_move rfl) rfl rfl rfl ?_
  refine q_y (y_fieldAddr0 Try.tab rfl rfl rfl rfl rfl) rfl rfl rfl ?_
  refine q_y (y_load Try.tab rfl rfl (cell_row 0 rfl rfl)) rfl rfl rfl ?_
  refine q_y (y_indexAddr1 Try.tab rfl rfl rfl rfl _ rfl (by omega)) rfl rfl rfl ?_
  refine q_y (y_load Try.tab rfl rfl (cell_ints 3 rfl (by omega))) rfl rfl rfl ?_
  refine q_y (y_gtr rfl rfl) rfl rfl rfl ?_
  refine q_nil ?_
  refine f_then ?_
  refine c_condD rfl (fun hgt => ?_) (fun hle => ?_)
  · refine c_exit ?_
    refine f_thenE ?_
    refine f_blockE ?_
    exact f_roundP (best, q, some o1, f1) ⟨hD1.old hgt, hok1⟩ (by dsimp only; omega) ⟨rfl, rfl, rfl, trivial⟩ (fun w h => h.tail)
  dsimp only at hle ⊢
  have hbv : best v = d := by omega
  clear hle
  have hD2 := hD1.pop hbv
  dsimp only at hD2
  obtain ⟨val, hval, hr⟩ := hrow v hvn
  unfold RowF at hr
  obtain ⟨pa, cc, rfl, hcells⟩ := hr
  have hlenv := hG.len v hvn
  refine c_skip ?_
  refine f_then ?_
  refine c_seq ?_
  refine c_quiet Try.mixed (by kernel_rfl) K.drew ?_
  refine q_y (y_move rfl) rfl rfl rfl ?_
  refine q_y (y_nilP rfl) rfl rfl rfl ?_
  refine q_y (y_fieldAddrB Try.tab 1 rfl rfl rfl rfl rfl) rfl rfl rfl ?_
  refine q_y (y_load Try.tab rfl rfl (cell_row 4 rfl rfl)) rfl rfl rfl ?_
  refine q_y (y_fieldAddr0 Try.tab rfl rfl rfl rfl rfl) rfl rfl rfl ?_
  refine q_y (y_load Try.tab rfl rfl (cell_row 0 rfl rfl)) rfl rfl rfl ?_
  refine q_y (y_indexAddr1 Try.tab rfl rfl rfl rfl _ rfl (by omega)) rfl rfl rfl ?_
  refine q_y (y_load Try.tab rfl rfl (CellIs.cons (CellIs.cons (CellIs.cons (CellIs.cons (CellIs.cons (by assumption))))))) rfl rfl rfl ?_
  refine q_y (y_len Try.tab rfl rfl) rfl rfl rfl ?_
  refine q_y (y_move rfl) rfl rfl rfl ?_
  refine q_nil ?_
  refine f_then ?_
  refine c_block ?_
  refine c_loopP (α := (Nat → Int) × Nat × Own × (Nat → Mk) × Nat) (fun z => [(0, .pointer (some ⟨p, 0, none⟩)), (5, .slice (some ⟨b18, 0, none⟩) n n), (7, .pointer (some ⟨b32, 0, none⟩)), (8, .pointer (some ⟨b8, 0, none⟩)), (57, .slice pa (outs v).length cc), (58, .int .i64 (outs v).length), (59, .int .i64 z.2.2.2.2)])
    (fun z => DI n s outs to (fun k => 0 < room k) (red tl to cost high) C z.1 (ls z.2.1 z.2.2.2.1) v z.2.2.2.2 ∧ hpOK z.2.1 (some z.2.2.1) z.2.2.2.1 ∧ z.2.2.2.2 ≤ (outs v).length ∧ z.1 v = d ∧ z.2.1 + 2 * ph (n * C) z.1 n ≤ q + 2 * ph (n * C) best n)
    (fun z => K W ([(b8, row 90 [.int .i64 (v : Int), .int .i64 d])] :: hpL b32 z.2.1 (some z.2.2.1) z.2.2.2.1 ([(b18, ints 3 n z.1 [])] :: [(p, row 78 [vl, .slice (some ⟨bo, 0, none⟩) n n, a, b, .slice (some ⟨bh, 0, none⟩) n n])] :: Ls))) (fun z => (outs v).length - z.2.2.2.2)
    (best, q, o1, f1, 0) ⟨rfl, rfl, rfl, rfl, rfl, rfl, rfl, trivial⟩ ⟨hD2, hok1, Nat.zero_le _, hbv, Nat.le_refl _⟩ (fun w h => h) ?_
  rintro ⟨bst, m1, o2, f2, j⟩ ⟨hJ, hok2, hj, hbv1, hmu⟩
  dsimp only at hJ hok2 hj hbv1 hmu ⊢
  refine c_seq ?_
  refine c_region ?_
  refine s_y (y_lss rfl rfl) rfl rfl rfl ?_
  refine s_nil ?_
  refine f_then ?_
  refine c_seq ?_
  refine c_condD rfl (fun hlt => ?_) (fun hge => ?_)
  rotate_left
  · refine c_exit ?_
    refine f_thenE ?_
    refine f_rndE ?_
    refine f_blockE ?_
    refine f_blockN ?_
    exact f_roundP (bst, m1, some o2, f2) ⟨hJ.done (by omega), hok2⟩ (by dsimp only; omega) ⟨rfl, rfl, rfl, trivial⟩ (fun w h => h.tail)
  have hjl : j < (outs v).length := by omega
  obtain ⟨bb, rfl, hck⟩ := hcells j hjl
  obtain ⟨k, hk⟩ : ∃ k, (outs v)[j]? = some k := ⟨_, List.getElem?_eq_getElem hjl⟩
  have hkv := List.mem_of_getElem? hk
  have hkm := hG.link v hvn k hkv
  obtain ⟨bl, cl, rfl, hlc⟩ := hL (by omega)
  have hck' := hck k hk
  have hlk := hlc k hkm
  rw [lk3_eq] at hlk
  have htn := hG.head k hkm
  have htk := htl v hvn k hkv
  have hhv := hhigh v hvn
  have hht := hhigh (to k) htn
  have hc1 := hW.cost k hkm
  have hc2 := hW.high v hvn
  have hc3 := hW.high (to k) htn
  have hr0 := hW.room0 k hkm
  by_cases hr : room k = 0
  · refine c_skip ?_
    refine f_then ?_
    refine c_seq ?_
    refine c_block ?_
    refine c_seq ?_
    refine c_region ?_
    refine s_y (y_indexAddr1 Try.tab rfl rfl rfl rfl _ rfl (by omega)) rfl rfl rfl ?_
    refine s_y (y_load Try.tab rfl rfl (CellIs.cons (CellIs.cons (CellIs.cons (CellIs.cons (CellIs.cons (by assumption))))))) rfl rfl rfl ?_
    refine s_y (y_assign rfl) rfl rfl rfl ?_
    refine s_nil ?_
    refine f_then ?_
    refine c_seq ?_
    refine c_region ?_
    refine s_y (y_move rfl) rfl rfl rfl ?_
    refine s_y (y_nilP rfl) rfl rfl rfl ?_
    refine s_y (y_fieldAddr0 Try.tab rfl rfl rfl rfl rfl) rfl rfl rfl ?_
    refine s_y (y_load Try.tab rfl rfl (cell_row 4 rfl rfl)) rfl rfl rfl ?_
    refine s_y (y_move rfl) rfl rfl rfl ?_
    refine s_y (y_indexAddr0 (s := 3) Try.tab rfl rfl rfl rfl _ rfl (by omega)) rfl rfl rfl ?_
    refine s_y (y_loadA Try.tab rfl rfl rfl rfl (CellsAre.cons (CellsAre.cons (CellsAre.cons (CellsAre.cons (CellsAre.cons (by assumption))))))) rfl rfl rfl ?_
    refine s_do (do_alloc Try.tab rfl) rfl rfl rfl (fun b11 => ?_)
    refine s_set (set_box Try.tab 0 rfl rfl rfl rfl rfl rfl rfl) rfl rfl ?_
    refine s_nil ?_
    refine f_then ?_
    refine c_seq ?_
    refine c_seq ?_
    refine c_region ?_
    refine s_y (y_fieldAddrB Try.tab 1 rfl rfl rfl rfl rfl) rfl rfl rfl ?_
    refine s_y (y_load Try.tab rfl rfl (cell_row 0 rfl rfl)) rfl rfl rfl ?_
    refine s_y (y_T (y_eql rfl rfl) (by assumption)) rfl rfl rfl ?_
    refine s_nil ?_
    refine f_then ?_
    refine c_condT rfl ?_
    refine c_exit ?_
    refine f_thenE ?_
    refine f_blockE ?_
    refine f_then ?_
    refine c_region ?_
    refine s_y (y_add rfl rfl (by omega)) rfl rfl rfl ?_
    refine s_y (y_move rfl) rfl rfl rfl ?_
    refine s_nil ?_
    exact f_roundP (bst, m1, o2, f2, j + 1) ⟨hJ.keep hk (fun h => absurd hr (by omega)), hok2, by dsimp only; omega, hbv1, hmu⟩ (by dsimp only; omega) ⟨rfl, rfl, rfl, rfl, rfl, rfl, rfl, trivial⟩ (fun w h => h.tail)
  have hr1 : 0 < room k := by omega
  have hww := hW.w v hvn k hkv hr1
  have hred : red tl to cost high k = cost k + high v - high (to k) := by unfold red; rw [htk]
  have hnC : n * C ≤ 900000000000 := by
    have : 1 * (n * C + 1) ≤ n * (n * C + 1) := Nat.mul_le_mul_right _ (by omega)
    omega
  have hC1 : C ≤ n * C := Nat.le_mul_of_pos_left C (by omega)
  have hbk := hJ.bnd
  rw [ls_len] at hbk
  refine c_skip ?_
  refine f_then ?_
  refine c_seq ?_
  refine c_block ?_
  refine c_seq ?_
  refine c_region ?_
  refine s_y (y_indexAddr1 Try.tab rfl rfl rfl rfl _ rfl (by omega)) rfl rfl rfl ?_
  refine s_y (y_load Try.tab rfl rfl (CellIs.cons (CellIs.cons (CellIs.cons (CellIs.cons (CellIs.cons (by assumption))))))) rfl rfl rfl ?_
  refine s_y (y_assign rfl) rfl rfl rfl ?_
  refine s_nil ?_
  refine f_then ?_
  refine c_seq ?_
  refine c_region ?_
  refine s_y (y_move rfl) rfl rfl rfl ?_
  refine s_y (y_nilP rfl) rfl rfl rfl ?_
  refine s_y (y_fieldAddr0 Try.tab rfl rfl rfl rfl rfl) rfl rfl rfl ?_
  refine s_y (y_load Try.tab rfl rfl (cell_row 4 rfl rfl)) rfl rfl rfl ?_
  refine s_y (y_move rfl) rfl rfl rfl ?_
  refine s_y (y_indexAddr0 (s := 3) Try.tab rfl rfl rfl rfl _ rfl (by omega)) rfl rfl rfl ?_
  refine s_y (y_loadA Try.tab rfl rfl rfl rfl (CellsAre.cons (CellsAre.cons (CellsAre.cons (CellsAre.cons (CellsAre.cons (by assumption))))))) rfl rfl rfl ?_
  refine s_do (do_alloc Try.tab rfl) rfl rfl rfl (fun b11 => ?_)
  refine s_set (set_box Try.tab 0 rfl rfl rfl rfl rfl rfl rfl) rfl rfl ?_
  refine s_nil ?_
  refine f_then ?_
  refine c_seq ?_
  refine c_seq ?_
  refine c_region ?_
  refine s_y (y_fieldAddrB Try.tab 1 rfl rfl rfl rfl rfl) rfl rfl rfl ?_
  refine s_y (y_load Try.tab rfl rfl (cell_row 0 rfl rfl)) rfl rfl rfl ?_
  refine s_y (y_F (y_eql rfl rfl) (by assumption)) rfl rfl rfl ?_
  refine s_nil ?_
  refine f_then ?_
  refine c_condF rfl ?_
  refine c_skip ?_
  refine f_then ?_
  refine c_seq ?_
  refine c_quiet Try.mixed (by kernel_rfl) K.drew ?_
  refine q_y (y_fieldAddrB Try.tab 1 rfl rfl rfl rfl rfl) rfl rfl rfl ?_
  refine q_y (y_load Try.tab rfl rfl (cell_row 1 rfl rfl)) rfl rfl rfl ?_
  refine q_y (y_move rfl) rfl rfl rfl ?_
  refine q_y (y_fieldAddr0 Try.tab rfl rfl rfl rfl rfl) rfl rfl rfl ?_
  refine q_y (y_load Try.tab rfl rfl (cell_row 1 rfl rfl)) rfl rfl rfl ?_
  refine q_y (y_move rfl) rfl rfl rfl ?_
  refine q_call (en_f rfl Try.call57) (reduced_spec W _ p bl m cl bh n n k v (to k) (room k) (cost k) (high v) (high (to k)) (cell_row 5 rfl rfl) (CellsAre.cons (CellsAre.cons (CellsAre.cons (CellsAre.cons (CellsAre.cons (CellsAre.cons hlk)))))) hkm (cell_row 5 rfl rfl) (CellIs.cons (CellIs.cons (CellIs.cons (CellIs.cons (CellIs.cons (CellIs.cons hhv)))))) (CellIs.cons (CellIs.cons (CellIs.cons (CellIs.cons (CellIs.cons (CellIs.cons hht)))))) hvn htn (by omega)) rfl rfl rfl ?_
  rw [← hred]
  have hset : bst (to k) = -1 ∨ bst v + red tl to cost high k < bst (to k) → _ := fun h => hJ.set hk hr1 hvn (by omega) hww htn h
  rw [hbv1] at hset
  by_cases hnew : bst (to k) = -1
  · refine q_y (y_add rfl rfl (by omega)) rfl rfl rfl ?_
    refine q_y (y_assign rfl) rfl rfl rfl ?_
    refine q_nil ?_
    refine f_then ?_
    refine c_seq ?_
    refine c_region ?_
    refine s_y (y_move rfl) rfl rfl rfl ?_
    refine s_y (y_fieldAddr0 Try.tab rfl rfl rfl rfl rfl) rfl rfl rfl ?_
    refine s_y (y_load Try.tab rfl rfl (cell_row 0 rfl rfl)) rfl rfl rfl ?_
    refine s_y (y_indexAddr1 Try.tab rfl rfl rfl rfl _ rfl (by omega)) rfl rfl rfl ?_
    refine s_y (y_load Try.tab rfl rfl (cell_ints 4 rfl (by omega))) rfl rfl rfl ?_
    refine s_y (y_T (y_eql rfl rfl) (by assumption)) rfl rfl rfl ?_
    refine s_y (y_move rfl) rfl rfl rfl ?_
    refine s_skip rfl rfl rfl ?_
    refine s_skip rfl rfl rfl ?_
    refine s_skip rfl rfl rfl ?_
    refine s_skip rfl rfl rfl ?_
    refine s_skip rfl rfl rfl ?_
    refine s_skip rfl rfl rfl ?_
    refine s_skip rfl rfl rfl ?_
    refine s_y (y_pickT rfl rfl) rfl rfl rfl ?_
    refine s_nil ?_
    refine f_then ?_
    refine c_condT rfl ?_
    refine c_seq ?_
    refine c_region ?_
    refine s_y (y_move rfl) rfl rfl rfl ?_
    refine s_y (y_fieldAddr0 Try.tab rfl rfl rfl rfl rfl) rfl rfl rfl ?_
    refine s_y (y_load Try.tab rfl rfl (cell_row 0 rfl rfl)) rfl rfl rfl ?_
    refine s_y (y_move rfl) rfl rfl rfl ?_
    refine s_y (y_indexAddr1 Try.tab rfl rfl rfl rfl _ rfl (by omega)) rfl rfl rfl ?_
    refine s_set (set_ints Try.tab 4 rfl rfl rfl rfl (by omega)) rfl rfl ?_
    refine s_nil ?_
    refine f_then ?_
    refine c_region ?_
    refine s_y (y_move rfl) rfl rfl rfl ?_
    refine s_y (y_fieldAddr0 Try.tab rfl rfl rfl rfl rfl) rfl rfl rfl ?_
    refine s_y (y_load Try.tab rfl rfl (cell_row 0 rfl rfl)) rfl rfl rfl ?_
    refine s_y (y_move rfl) rfl rfl rfl ?_
    refine s_y (y_build Try.tab rfl rfl rfl rfl rfl) rfl rfl rfl ?_
    obtain ⟨hS1, hS2, hS3⟩ := hset (.inl hnew)
    refine St.cls (C' := K W (hpL b32 m1 (some o2) f2 ([(b11, row 85 [.int .i64 (to k : Int), .int .i64 (room k), .int .i64 (cost k)])] :: [(b8, row 90 [.int .i64 (v : Int), .int .i64 d])] :: [(b18, ints 3 n (upd bst (to k) (d + red tl to cost high k)) [])] :: [(p, row 78 [.slice (some ⟨bl, 0, none⟩) m cl, .slice (some ⟨bo, 0, none⟩) n n, a, b, .slice (some ⟨bh, 0, none⟩) n n])] :: Ls))) ?_ (fun w h => ((h.front 2).front 3).front 1)
    refine s_call (en_f rfl Try.call54) (hpush_spec W ([(b11, row 85 [.int .i64 (to k : Int), .int .i64 (room k), .int .i64 (cost k)])] :: [(b8, row 90 [.int .i64 (v : Int), .int .i64 d])] :: [(b18, ints 3 n (upd bst (to k) (d + red tl to cost high k)) [])] :: [(p, row 78 [.slice (some ⟨bl, 0, none⟩) m cl, .slice (some ⟨bo, 0, none⟩) n n, a, b, .slice (some ⟨bh, 0, none⟩) n n])] :: Ls) b32 m1 (some o2) f2 (to k, d + red tl to cost high k) hok2 (by omega)) rfl rfl rfl (fun x3 => ?_)
    obtain ⟨⟨o3, f3⟩, hok3, hp3⟩ := x3
    dsimp only at hok3 hp3 ⊢
    refine s_nil ?_
    refine f_blockN ?_
    refine f_then ?_
    refine c_region ?_
    refine s_y (y_add rfl rfl (by omega)) rfl rfl rfl ?_
    refine s_y (y_move rfl) rfl rfl rfl ?_
    refine s_nil ?_
    exact f_roundP (upd bst (to k) (d + red tl to cost high k), m1 + 1, o3, f3, j + 1) ⟨hS1.perm hp3, hok3, by dsimp only; omega, hS2, by dsimp only; omega⟩ (by dsimp only; omega) ⟨rfl, rfl, rfl, rfl, rfl, rfl, rfl, trivial⟩ (fun w h => ((h.front 3).front 3).tail)
  by_cases hls : d + red tl to cost high k < bst (to k)
  · refine q_y (y_add rfl rfl (by omega)) rfl rfl rfl ?_
    refine q_y (y_assign rfl) rfl rfl rfl ?_
    refine q_nil ?_
    refine f_then ?_
    refine c_seq ?_
    refine c_region ?_
    refine s_y (y_move rfl) rfl rfl rfl ?_
    refine s_y (y_fieldAddr0 Try.tab rfl rfl rfl rfl rfl) rfl rfl rfl ?_
    refine s_y (y_load Try.tab rfl rfl (cell_row 0 rfl rfl)) rfl rfl rfl ?_
    refine s_y (y_indexAddr1 Try.tab rfl rfl rfl rfl _ rfl (by omega)) rfl rfl rfl ?_
    refine s_y (y_load Try.tab rfl rfl (cell_ints 4 rfl (by omega))) rfl rfl rfl ?_
    refine s_y (y_F (y_eql rfl rfl) (by assumption)) rfl rfl rfl ?_
    refine s_y (y_move rfl) rfl rfl rfl ?_
    refine s_y (y_move rfl) rfl rfl rfl ?_
    refine s_y (y_move rfl) rfl rfl rfl ?_
    refine s_y (y_fieldAddr0 Try.tab rfl rfl rfl rfl rfl) rfl rfl rfl ?_
    refine s_y (y_load Try.tab rfl rfl (cell_row 0 rfl rfl)) rfl rfl rfl ?_
    refine s_y (y_indexAddr1 Try.tab rfl rfl rfl rfl _ rfl (by omega)) rfl rfl rfl ?_
    refine s_y (y_load Try.tab rfl rfl (cell_ints 4 rfl (by omega))) rfl rfl rfl ?_
    refine s_y (y_T (y_lss rfl rfl) (by assumption)) rfl rfl rfl ?_
    refine s_y (y_pickF rfl rfl) rfl rfl rfl ?_
    refine s_nil ?_
    refine f_then ?_
    refine c_condT rfl ?_
    refine c_seq ?_
    refine c_region ?_
    refine s_y (y_move rfl) rfl rfl rfl ?_
    refine s_y (y_fieldAddr0 Try.tab rfl rfl rfl rfl rfl) rfl rfl rfl ?_
    refine s_y (y_load Try.tab rfl rfl (cell_row 0 rfl rfl)) rfl rfl rfl ?_
    refine s_y (y_move rfl) rfl rfl rfl ?_
    refine s_y (y_indexAddr1 Try.tab rfl rfl rfl rfl _ rfl (by omega)) rfl rfl rfl ?_
    refine s_set (set_ints Try.tab 4 rfl rfl rfl rfl (by omega)) rfl rfl ?_
    refine s_nil ?_
    refine f_then ?_
    refine c_region ?_
    refine s_y (y_move rfl) rfl rfl rfl ?_
    refine s_y (y_fieldAddr0 Try.tab rfl rfl rfl rfl rfl) rfl rfl rfl ?_
    refine s_y (y_load Try.tab rfl rfl (cell_row 0 rfl rfl)) rfl rfl rfl ?_
    refine s_y (y_move rfl) rfl rfl rfl ?_
    refine s_y (y_build Try.tab rfl rfl rfl rfl rfl) rfl rfl rfl ?_
    obtain ⟨hS1, hS2, hS3⟩ := hset (.inr hls)
    refine St.cls (C' := K W (hpL b32 m1 (some o2) f2 ([(b11, row 85 [.int .i64 (to k : Int), .int .i64 (room k), .int .i64 (cost k)])] :: [(b8, row 90 [.int .i64 (v : Int), .int .i64 d])] :: [(b18, ints 3 n (upd bst (to k) (d + red tl to cost high k)) [])] :: [(p, row 78 [.slice (some ⟨bl, 0, none⟩) m cl, .slice (some ⟨bo, 0, none⟩) n n, a, b, .slice (some ⟨bh, 0, none⟩) n n])] :: Ls))) ?_ (fun w h => ((h.front 2).front 3).front 1)
    refine s_call (en_f rfl Try.call54) (hpush_spec W ([(b11, row 85 [.int .i64 (to k : Int), .int .i64 (room k), .int .i64 (cost k)])] :: [(b8, row 90 [.int .i64 (v : Int), .int .i64 d])] :: [(b18, ints 3 n (upd bst (to k) (d + red tl to cost high k)) [])] :: [(p, row 78 [.slice (some ⟨bl, 0, none⟩) m cl, .slice (some ⟨bo, 0, none⟩) n n, a, b, .slice (some ⟨bh, 0, none⟩) n n])] :: Ls) b32 m1 (some o2) f2 (to k, d + red tl to cost high k) hok2 (by omega)) rfl rfl rfl (fun x3 => ?_)
    obtain ⟨⟨o3, f3⟩, hok3, hp3⟩ := x3
    dsimp only at hok3 hp3 ⊢
    refine s_nil ?_
    refine f_blockN ?_
    refine f_then ?_
    refine c_region ?_
    refine s_y (y_add rfl rfl (by omega)) rfl rfl rfl ?_
    refine s_y (y_move rfl) rfl rfl rfl ?_
    refine s_nil ?_
    exact f_roundP (upd bst (to k) (d + red tl to cost high k), m1 + 1, o3, f3, j + 1) ⟨hS1.perm hp3, hok3, by dsimp only; omega, hS2, by dsimp only; omega⟩ (by dsimp only; omega) ⟨rfl, rfl, rfl, rfl, rfl, rfl, rfl, trivial⟩ (fun w h => ((h.front 3).front 3).tail)
  refine q_y (y_add rfl rfl (by omega)) rfl rfl rfl ?_
  refine q_y (y_assign rfl) rfl rfl rfl ?_
  refine q_nil ?_
  refine f_then ?_
  refine c_seq ?_
  refine c_region ?_
  refine s_y (y_move rfl) rfl rfl rfl ?_
  refine s_y (y_fieldAddr0 Try.tab rfl rfl rfl rfl rfl) rfl rfl rfl ?_
  refine s_y (y_load Try.tab rfl rfl (cell_row 0 rfl rfl)) rfl rfl rfl ?_
  refine s_y (y_indexAddr1 Try.tab rfl rfl rfl rfl _ rfl (by omega)) rfl rfl rfl ?_
  refine s_y (y_load Try.tab rfl rfl (cell_ints 4 rfl (by omega))) rfl rfl rfl ?_
  refine s_y (y_F (y_eql rfl rfl) (by assumption)) rfl rfl rfl ?_
  refine s_y (y_move rfl) rfl rfl rfl ?_
  refine s_y (y_move rfl) rfl rfl rfl ?_
  refine s_y (y_move rfl) rfl rfl rfl ?_
  refine s_y (y_fieldAddr0 Try.tab rfl rfl rfl rfl rfl) rfl rfl rfl ?_
  refine s_y (y_load Try.tab rfl rfl (cell_row 0 rfl rfl)) rfl rfl rfl ?_
  refine s_y (y_indexAddr1 Try.tab rfl rfl rfl rfl _ rfl (by omega)) rfl rfl rfl ?_
  refine s_y (y_load Try.tab rfl rfl (cell_ints 4 rfl (by omega))) rfl rfl rfl ?_
  refine s_y (y_F (y_lss rfl rfl) (by assumption)) rfl rfl rfl ?_
  refine s_y (y_pickF rfl rfl) rfl rfl rfl ?_
  refine s_nil ?_
  refine f_then ?_
  refine c_condF rfl ?_
  refine c_skip ?_
  refine f_blockN ?_
  refine f_then ?_
  refine c_region ?_
  refine s_y (y_add rfl rfl (by omega)) rfl rfl rfl ?_
  refine s_y (y_move rfl) rfl rfl rfl ?_
  refine s_nil ?_
  have hlo := hJ.lo (to k)
  exact f_roundP (bst, m1, o2, f2, j + 1) ⟨hJ.keep hk (fun _ => by omega), hok2, by dsimp only; omega, hbv1, hmu⟩ (by dsimp only; omega) ⟨rfl, rfl, rfl, rfl, rfl, rfl, rfl, trivial⟩ (fun w h => h.tail)
end Go.KL
end

section
/- Plain lemmas: flows of least cost, step by step. No program in sight. -/
namespace Go.KL
section
/-- By how much the potentials rise. -/
def rise (best : Nat → Int) (t : Nat) (u : Nat) : Int := if best u = -1 ∨ best t < best u then best t else best u
/-- What cheapest keeps. -/
structure Ch (n m s t MC : Nat) (to tl : Nat → Nat) (cost room0 room high : Nat → Int) (sent : Int) : Prop where
  lo : 0 ≤ sent
  nonneg : ∀ k, k < m → 0 ≤ room k
  pair : ∀ k, k < m → room k + room (par2 k) = room0 k + room0 (par2 k)
  bal : ∀ u, outflow m tl room u = outflow m tl room0 u - (if s = u then sent else 0) + (if t = u then sent else 0)
  hs : high s = 0
  h0 : ∀ v, v < n → 0 ≤ high v ∧ high v ≤ high t
  top : high t + MC ≤ ((n * MC : Nat) : Int)
  cert : ∀ k, k < m → 0 < room k → 0 ≤ red tl to cost high k
variable {n m s t MC : Nat} {outs : Nat → List Nat} {to tl : Nat → Nat} {cost room0 room room' high best : Nat → Int} {sent got most : Int}
theorem Ch.begin (hr : ∀ k, k < m → 0 ≤ room0 k) (hc : ∀ k, k < m → 0 < room0 k → 0 ≤ cost k) (hn : 0 < n) : Ch n m s t MC to tl cost room0 room0 (fun _ => 0) 0 := by
  refine ⟨Int.le_refl _, hr, fun _ _ => rfl, fun u => by split <;> split <;> omega, rfl, fun _ _ => ⟨Int.le_refl _, Int.le_refl _⟩, ?_, fun k hk h => ?_⟩
  · have := Nat.le_mul_of_pos_left MC hn
    omega
  · have h1 := hc k hk h
    have h2 : red tl to cost (fun _ => 0) k = cost k + 0 - 0 := rfl
    omega
theorem LInv.high_le (hG : PG n m outs to tl par2 cost) (hc : ∀ k, k < m → cost k ≤ MC) {level : Nat → Int} (h : LInv n s outs to (adm tl to room cost high) level) (hs : high s = 0) :
    ∀ (j : Nat) (u : Nat), level u ≤ j → 0 < level u → high u + MC ≤ level u * MC := by
  intro j
  induction j with
  | zero => intro u h1 h2; omega
  | succ j ih =>
    intro u h1 h2
    by_cases e : u = s
    · subst e; rw [hs, h.one]; omega
    · obtain ⟨v, hv, hlv, k, hk, hok, rfl, hl⟩ := h.par u e h2
      have h3 := ih v (by omega) hlv
      obtain ⟨hkm, htk⟩ := (hG.out_iff v hv k).1 hk
      have h4 := hok.2
      rw [htk] at h4
      have h5 := hc k hkm
      rw [hl, Int.add_mul, Int.one_mul]
      omega
theorem Ch.step (hG : PG n m outs to tl par2 cost) (hc : ∀ k, k < m → -(MC : Int) ≤ cost k ∧ cost k ≤ MC) (h : Ch n m s t MC to tl cost room0 room high sent) {C : Nat}
    (hd : DistP n s outs to (fun k => 0 < room k) (red tl to cost high) C best) (hbt : 0 ≤ best t)
    (hf : Filled n m outs to tl cost (fun u => high u + rise best t u) s t most room room' got) (hmost : 0 < most) :
    Ch n m s t MC to tl cost room0 room' (fun u => high u + rise best t u) (sent + got) ∧ 0 < got := by
  have hlo := hd.lo
  have r1 : ∀ u, 0 ≤ rise best t u ∧ rise best t u ≤ best t := fun u => by
    have := hlo u
    unfold rise
    split <;> omega
  have rs : rise best t s = 0 := by unfold rise; rw [hd.start]; split <;> omega
  have rt : rise best t t = best t := by unfold rise; split <;> omega
  have rr : ∀ u, 0 ≤ best u → best u ≤ best t → rise best t u = best u := fun u h1 h2 => by unfold rise; split <;> omega
  have hred : ∀ k, red tl to cost (fun u => high u + rise best t u) k = red tl to cost high k + rise best t (tl k) - rise best t (to k) := fun k => by simp only [red]; omega
  have hcert : ∀ k, k < m → 0 < room k → 0 ≤ red tl to cost (fun u => high u + rise best t u) k := fun k hk hr => by
    rw [hred]
    have h1 := h.cert k hk hr
    have h2 := r1 (to k)
    by_cases e : best (tl k) = -1 ∨ best t < best (tl k)
    · have : rise best t (tl k) = best t := by unfold rise; rw [if_pos e]
      omega
    · have h3 := hlo (tl k)
      have h4 : rise best t (tl k) = best (tl k) := by unfold rise; rw [if_neg e]
      have h5 := hd.tri (tl k) (by omega) k ((hG.out_iff _ (hG.tl_lt hk) k).2 ⟨hk, rfl⟩) hr
      have h6 : rise best t (to k) ≤ best (to k) := by unfold rise; split <;> omega
      omega
  have hgot : 0 < got := by
    have h1 := hf.fl.lo
    rcases Int.lt_or_eq_of_le h1 with h2 | h2
    · exact h2
    · exfalso
      obtain ⟨S, hS, hSt⟩ := hf.full (by omega)
      rw [hf.fl.nothing h2.symm] at hS
      have := hd.tight (fun v hv k hk hok => h.cert k ((hG.out_iff v hv k).1 hk).1 hok) (b := best t) (X := fun u => S u = true) hS.start (fun v hv hSv hb0 hbb k hk hok heq hle => by
        refine hS.closed v hSv k hk ⟨hok, ?_⟩
        have h3 := hred k
        have htk := ((hG.out_iff v hv k).1 hk).2
        have h4 := h.cert k ((hG.out_iff v hv k).1 hk).1 hok
        have h5 : 0 ≤ best (to k) := by omega
        simp only [red, htk] at h3 heq ⊢
        rw [rr v hb0 hbb, rr (to k) h5 hle]
        omega) (hd.walk t hbt).2 rfl (Int.le_refl _)
      rw [hSt] at this
      cases this
  refine ⟨⟨by have := h.lo; omega, hf.fl.nonneg, fun k hk => (hf.fl.pair k hk).trans (h.pair k hk), fun u => ?_, ?_, fun v hv => ?_, ?_, fun k hk hr => ?_⟩, hgot⟩
  · rw [hf.fl.bal u, h.bal u]
    split <;> split <;> omega
  · rw [h.hs, rs]; rfl
  · have := h.h0 v hv
    have := r1 v
    rw [rt]
    omega
  · obtain ⟨level, hL, hlt⟩ := hf.ev hgot
    have h1 := hL.high_le hG (fun k hk => (hc k hk).2) (by rw [h.hs, rs]; rfl) (level t).toNat t (by omega) hlt
    have h2 := hL.hi t
    have h3 := cnt_le n (pos level)
    have h4 : level t * (MC : Int) ≤ (n : Int) * MC := Int.mul_le_mul_of_nonneg_right (by omega) (by omega)
    rw [Int.natCast_mul]
    omega
  · by_cases e : room' k = room k
    · exact hcert k hk (by rw [← e]; exact hr)
    · rw [(hf.fl.same k e).2]; exact Int.le_refl _
/-- The next search's weights. -/
theorem Ch.wok (hG : PG n m outs to tl par2 cost) (hc : ∀ k, k < m → -(MC : Int) ≤ cost k ∧ cost k ≤ MC) (h : Ch n m s t MC to tl cost room0 room high sent) :
    ∀ v, v < n → ∀ k, k ∈ outs v → 0 < room k → 0 ≤ red tl to cost high k ∧ red tl to cost high k ≤ ((n * MC : Nat) : Int) := by
  intro v hv k hk hr
  obtain ⟨hkm, htk⟩ := (hG.out_iff v hv k).1 hk
  refine ⟨h.cert k hkm hr, ?_⟩
  have h1 := h.h0 v hv
  have h2 := h.h0 (to k) (hG.head k hkm)
  have h3 := hc k hkm
  have h4 := h.top
  unfold red
  rw [htk]
  omega
end
end Go.KL
end

section
/- Walks: cheapest. -/
namespace Go.KL
open Go.Proofs
attribute [local irreducible] SC St Fin Sq Sw Ylds Doos Sets Enters Spec CellIs CellsAre Then Ret Rnd resOK ints bools recs arr
attribute [local irreducible] rvals lk3 RowF OutV
/-- What cheapest comes to. -/
structure Cheap (n m s t MC : Nat) (outs : Nat → List Nat) (to tl : Nat → Nat) (cost room0 : Nat → Int) (want : Int) (room high : Nat → Int) (sent : Int) : Prop where
  ch : Ch n m s t MC to tl cost room0 room high sent
  hi : sent ≤ want
  full : sent < want → ∃ S : Nat → Bool, S s = true ∧ (∀ v, S v = true → ∀ k, k ∈ outs v → 0 < room k → S (to k) = true) ∧ S t = false
set_option maxHeartbeats 4000000 in
theorem cheapest_spec (W : World) (Ls : List Chunk) (p n m s t bh MC : Nat) (vl vo a b : Value) (Lc : (Nat → Int) → Chunk) (outs : Nat → List Nat) (to tl : Nat → Nat) (cost room0 : Nat → Int) (want : Int)
    (hO : OutV (K W Ls) vo n outs) (hLc : LinkC vl Lc m to cost) (hG : PG n m outs to tl par2 cost) (hc : ∀ k, k < m → -(MC : Int) ≤ cost k ∧ cost k ≤ MC) (hcr : ∀ k, k < m → 0 < room0 k → 0 ≤ cost k)
    (hs : s < n) (ht : t < n) (hn1 : n ≤ 40) (hm : m ≤ 1000000) (hMC : MC ≤ 1048576) (hm0 : 0 ≤ want) (hm1 : want ≤ 9223372036854775807) (hr0 : ∀ k, k < m → 0 ≤ room0 k) (hr1 : ∀ k, k < m → room0 k + room0 (par2 k) ≤ 4000000000000000000) :
    Spec Try.prog 42 #[.pointer (some ⟨p, 0, none⟩), .int .i64 s, .int .i64 t, .int .i64 want] (K W ([(p, row 78 [vl, vo, a, b, .slice (some ⟨bh, 0, none⟩) n n])] :: Lc room0 :: [(bh, ints 3 n (fun _ => 0) [])] :: Ls))
      (X := { x : Int × (Nat → Int) × (Nat → Int) × Value × Value // Cheap n m s t MC outs to tl cost room0 want x.2.1 x.2.2.1 x.1 })
      (fun x => .int .i64 x.1.1) (fun x => K W ([(p, row 78 [vl, vo, x.1.2.2.2.1, x.1.2.2.2.2, .slice (some ⟨bh, 0, none⟩) n n])] :: Lc x.1.2.1 :: [(bh, ints 3 n x.1.2.2.1 [])] :: Ls)) := by
  refine enter (args := [_, _, _, _]) Try.func42 rfl Try.ntmps42 rfl ?_
  have hnMC : n * MC ≤ 41943040 := Nat.mul_le_mul hn1 hMC
  have hC : 2 * (n * (n * (n * MC) + 1)) ≤ 900000000000 := by
    have h1 : n * (n * MC) ≤ 40 * 41943040 := Nat.mul_le_mul hn1 hnMC
    have h2 : n * (n * (n * MC) + 1) ≤ 40 * (40 * 41943040 + 1) := Nat.mul_le_mul hn1 (by omega)
    omega
  refine c_seq ?_
  refine c_region ?_
  refine s_y (y_assign rfl) rfl rfl rfl ?_
  refine s_nil ?_
  refine f_then ?_
  refine c_seq ?_
  refine c_region ?_
  refine s_y (y_assign rfl) rfl rfl rfl ?_
  refine s_nil ?_
  refine f_then ?_
  refine c_seq ?_
  refine c_block ?_
  refine c_loopP (α := Int × (Nat → Int) × (Nat → Int) × Value × Value) (fun z => [(0, .pointer (some ⟨p, 0, none⟩)), (1, .int .i64 s), (2, .int .i64 t), (3, .int .i64 want), (9, .int .i64 z.1)])
    (fun z => Ch n m s t MC to tl cost room0 z.2.1 z.2.2.1 z.1 ∧ z.1 ≤ want)
    (fun z => K W ([(p, row 78 [vl, vo, z.2.2.2.1, z.2.2.2.2, .slice (some ⟨bh, 0, none⟩) n n])] :: Lc z.2.1 :: [(bh, ints 3 n z.2.2.1 [])] :: Ls)) (fun z => (want - z.1).toNat)
    (0, room0, fun _ => 0, a, b) ⟨rfl, rfl, rfl, rfl, rfl, trivial⟩ ⟨Ch.begin hr0 hcr (by omega), hm0⟩ (fun w h => h) ?_
  rintro ⟨sent, room1, high1, a1, b1⟩ ⟨hch, hhi⟩
  dsimp only at hch hhi ⊢
  have q0 := hch.lo
  by_cases hlt : sent < want
  rotate_left
  · refine c_seq ?_
    refine c_seq ?_
    refine c_region ?_
    refine s_y (y_move rfl) rfl rfl rfl ?_
    refine s_y (y_move rfl) rfl rfl rfl ?_
    refine s_y (y_F (y_lss rfl rfl) (by assumption)) rfl rfl rfl ?_
    refine s_nil ?_
    refine f_then ?_
    refine c_condF rfl ?_
    refine c_exit ?_
    refine f_thenE ?_
    refine f_rndE ?_
    refine f_blockE ?_
    refine f_then ?_
    refine c_seq ?_
    refine c_region ?_
    refine s_y (y_move rfl) rfl rfl rfl ?_
    refine s_y (y_assign rfl) rfl rfl rfl ?_
    refine s_nil ?_
    refine f_then ?_
    refine c_ret ?_
    exact f_ret ⟨(sent, room1, high1, a1, b1), hch, hhi, fun h => absurd h hlt⟩ (res1 rfl rfl) (fun w h => h)
  have htop := hch.top
  have hh0 := hch.h0
  refine c_seq ?_
  refine c_seq ?_
  refine c_region ?_
  refine s_y (y_move rfl) rfl rfl rfl ?_
  refine s_y (y_move rfl) rfl rfl rfl ?_
  refine s_y (y_T (y_lss rfl rfl) (by assumption)) rfl rfl rfl ?_
  refine s_nil ?_
  refine f_then ?_
  refine c_condT rfl ?_
  refine c_skip ?_
  refine f_then ?_
  refine c_block ?_
  refine c_seq ?_
  refine c_region ?_
  refine s_y (y_move rfl) rfl rfl rfl ?_
  refine s_y (y_move rfl) rfl rfl rfl ?_
  refine s_call (en_f rfl Try.call50) (distances_spec W (Lc room1 :: [(bh, ints 3 n high1 [])] :: Ls) p n m s (n * MC) vl vo a1 b1 _ outs to tl room1 cost high1 (hO.cls fun w h => h.tail.tail) (hLc.linkV room1) ⟨bh, rfl, fun v hv => cell_ints 1 rfl hv⟩ hG.gok (fun v hv k hk => ((hG.out_iff v hv k).1 hk).2)
    ⟨hch.nonneg, hch.wok hG hc, fun k hk => by have := hc k hk; omega, fun v hv => by have := hh0 v hv; omega⟩ hs (by omega) hm hC) rfl rfl rfl (fun x => ?_)
  obtain ⟨⟨db, best⟩, hd⟩ := x
  dsimp only at hd ⊢
  by_cases hbt : best t = -1
  · refine s_y (y_assign rfl) rfl rfl rfl ?_
    refine s_nil ?_
    refine f_then ?_
    refine c_seq ?_
    refine c_seq ?_
    refine c_region ?_
    refine s_y (y_move rfl) rfl rfl rfl ?_
    refine s_y (y_move rfl) rfl rfl rfl ?_
    refine s_y (y_indexAddr1 Try.tab rfl rfl rfl rfl _ rfl (by omega)) rfl rfl rfl ?_
    refine s_y (y_load Try.tab rfl rfl (cell_ints 1 rfl (by omega))) rfl rfl rfl ?_
    refine s_y (y_T (y_eql rfl rfl) (by assumption)) rfl rfl rfl ?_
    refine s_nil ?_
    refine f_then ?_
    refine c_condT rfl ?_
    refine c_exit ?_
    refine f_thenE ?_
    refine f_blockX rfl ?_
    refine f_rndE ?_
    refine f_blockE ?_
    refine f_then ?_
    refine c_seq ?_
    refine c_region ?_
    refine s_y (y_move rfl) rfl rfl rfl ?_
    refine s_y (y_assign rfl) rfl rfl rfl ?_
    refine s_nil ?_
    refine f_then ?_
    refine c_ret ?_
    refine f_ret ⟨(sent, room1, high1, a1, b1), hch, hhi, fun _ => ⟨rch best, by simp [rch, hd.start], fun v hv k hk hr => ?_, by simp [rch, hbt]⟩⟩ (res1 rfl rfl) (fun w h => K.dropAt 1 h)
    have hv' : 0 ≤ best v := of_decide_eq_true hv
    exact decide_eq_true (hd.tri v hv' k hk hr).1
  have hbt0 : 0 ≤ best t := by have := hd.lo t; omega
  refine s_y (y_assign rfl) rfl rfl rfl ?_
  refine s_nil ?_
  refine f_then ?_
  refine c_seq ?_
  refine c_seq ?_
  refine c_region ?_
  refine s_y (y_move rfl) rfl rfl rfl ?_
  refine s_y (y_move rfl) rfl rfl rfl ?_
  refine s_y (y_indexAddr1 Try.tab rfl rfl rfl rfl _ rfl (by omega)) rfl rfl rfl ?_
  refine s_y (y_load Try.tab rfl rfl (cell_ints 1 rfl (by omega))) rfl rfl rfl ?_
  refine s_y (y_F (y_eql rfl rfl) (by assumption)) rfl rfl rfl ?_
  refine s_nil ?_
  refine f_then ?_
  refine c_condF rfl ?_
  refine c_skip ?_
  refine f_then ?_
  refine c_seq ?_
  refine c_seq ?_
  refine c_region ?_
  refine s_y (y_move rfl) rfl rfl rfl ?_
  refine s_y (y_len Try.tab rfl rfl) rfl rfl rfl ?_
  refine s_y (y_move rfl) rfl rfl rfl ?_
  refine s_nil ?_
  refine f_then ?_
  refine c_block ?_
  refine c_loopP (α := (Nat → Int) × Nat) (fun z => [(0, .pointer (some ⟨p, 0, none⟩)), (1, .int .i64 s), (2, .int .i64 t), (3, .int .i64 want), (9, .int .i64 sent), (10, .slice (some ⟨db, 0, none⟩) n n), (24, .slice (some ⟨db, 0, none⟩) n n), (25, .int .i64 n), (26, .int .i64 z.2)])
    (fun z => z.2 ≤ n ∧ ∀ u, z.1 u = if u < z.2 then high1 u + rise best t u else high1 u)
    (fun z => K W ([(p, row 78 [vl, vo, a1, b1, .slice (some ⟨bh, 0, none⟩) n n])] :: [(db, ints 3 n best [])] :: Lc room1 :: [(bh, ints 3 n z.1 [])] :: Ls)) (fun z => n - z.2)
    (high1, 0) ⟨rfl, rfl, rfl, rfl, rfl, rfl, rfl, rfl, rfl, trivial⟩ ⟨Nat.zero_le _, fun u => by rw [if_neg (Nat.not_lt_zero u)]⟩ (fun w h => h) ?_
  rintro ⟨h1, i⟩ ⟨hi, hh1⟩
  dsimp only at hi hh1 ⊢
  refine c_seq ?_
  refine c_region ?_
  refine s_y (y_lss rfl rfl) rfl rfl rfl ?_
  refine s_nil ?_
  refine f_then ?_
  refine c_seq ?_
  refine c_condD rfl (fun hlti => ?_) (fun hge => ?_)
  · have hin : i < n := by omega
    have hup : ∀ x, x = rise best t i → ∀ u, upd h1 i (h1 i + x) u = if u < i + 1 then high1 u + rise best t u else high1 u := fun x hx u => by
      have e1 := hh1 u
      simp only [upd]
      by_cases e : u = i
      · subst e
        rw [if_pos rfl, if_pos (by omega), e1, if_neg (by omega), hx]
      · rw [if_neg e, e1]
        by_cases e2 : u < i
        · rw [if_pos e2, if_pos (by omega)]
        · rw [if_neg e2, if_neg (by omega)]
    have e1 := hh1 i
    rw [if_neg (by omega)] at e1
    have q1 := hh0 i hin
    have q2 := hd.hi i
    have q3 := hd.hi t
    have q4 := hd.lo i
    have q5 : n * (n * MC) ≤ 40 * 41943040 := Nat.mul_le_mul hn1 hnMC
    by_cases c1 : best i = -1
    · have er : best t = rise best t i := by unfold rise; rw [if_pos (.inl c1)]
      refine c_skip ?_
      refine f_then ?_
      refine c_seq ?_
      refine c_block ?_
      refine c_seq ?_
      refine c_region ?_
      refine s_y (y_move rfl) rfl rfl rfl ?_
      refine s_y (y_indexAddr1 Try.tab rfl rfl rfl rfl _ rfl (by omega)) rfl rfl rfl ?_
      refine s_y (y_load Try.tab rfl rfl (cell_ints 1 rfl (by omega))) rfl rfl rfl ?_
      refine s_y (y_assign rfl) rfl rfl rfl ?_
      refine s_y (y_assign rfl) rfl rfl rfl ?_
      refine s_nil ?_
      refine f_then ?_
      refine c_seq ?_
      refine c_seq ?_
      refine c_region ?_
      refine s_y (y_move rfl) rfl rfl rfl ?_
      refine s_y (y_T (y_eql rfl rfl) (by assumption)) rfl rfl rfl ?_
      refine s_y (y_move rfl) rfl rfl rfl ?_
      refine s_skip rfl rfl rfl ?_
      refine s_skip rfl rfl rfl ?_
      refine s_skip rfl rfl rfl ?_
      refine s_skip rfl rfl rfl ?_
      refine s_skip rfl rfl rfl ?_
      refine s_skip rfl rfl rfl ?_
      refine s_y (y_pickT rfl rfl) rfl rfl rfl ?_
      refine s_nil ?_
      refine f_then ?_
      refine c_condT rfl ?_
      refine c_region ?_
      refine s_y (y_move rfl) rfl rfl rfl ?_
      refine s_y (y_move rfl) rfl rfl rfl ?_
      refine s_y (y_indexAddr1 Try.tab rfl rfl rfl rfl _ rfl (by omega)) rfl rfl rfl ?_
      refine s_y (y_load Try.tab rfl rfl (cell_ints 1 rfl (by omega))) rfl rfl rfl ?_
      refine s_y (y_assign rfl) rfl rfl rfl ?_
      refine s_nil ?_
      refine f_then ?_
      refine c_region ?_
      refine s_y (y_move rfl) rfl rfl rfl ?_
      refine s_y (y_nilP rfl) rfl rfl rfl ?_
      refine s_y (y_fieldAddrB Try.tab 4 rfl rfl rfl rfl rfl) rfl rfl rfl ?_
      refine s_y (y_load Try.tab rfl rfl (cell_row 0 rfl rfl)) rfl rfl rfl ?_
      refine s_y (y_move rfl) rfl rfl rfl ?_
      refine s_y (y_indexAddr1 Try.tab rfl rfl rfl rfl _ rfl (by omega)) rfl rfl rfl ?_
      refine s_y (y_load Try.tab rfl rfl (cell_ints 3 rfl (by omega))) rfl rfl rfl ?_
      refine s_y (y_move rfl) rfl rfl rfl ?_
      refine s_y (y_add rfl rfl (by omega)) rfl rfl rfl ?_
      refine s_y (y_indexAddr1 Try.tab rfl rfl rfl rfl _ rfl (by omega)) rfl rfl rfl ?_
      refine s_set (set_ints Try.tab 3 rfl rfl rfl rfl (by omega)) rfl rfl ?_
      refine s_nil ?_
      refine f_blockN ?_
      refine f_then ?_
      refine c_region ?_
      refine s_y (y_add rfl rfl (by omega)) rfl rfl rfl ?_
      refine s_y (y_move rfl) rfl rfl rfl ?_
      refine s_nil ?_
      exact f_roundP (upd h1 i (h1 i + best t), i + 1) ⟨by dsimp only; omega, hup _ er⟩ (by dsimp only; omega) ⟨rfl, rfl, rfl, rfl, rfl, rfl, rfl, rfl, rfl, trivial⟩ (fun w h => h)
    by_cases c2 : best t < best i
    · have er : best t = rise best t i := by unfold rise; rw [if_pos (.inr c2)]
      refine c_skip ?_
      refine f_then ?_
      refine c_seq ?_
      refine c_block ?_
      refine c_seq ?_
      refine c_region ?_
      refine s_y (y_move rfl) rfl rfl rfl ?_
      refine s_y (y_indexAddr1 Try.tab rfl rfl rfl rfl _ rfl (by omega)) rfl rfl rfl ?_
      refine s_y (y_load Try.tab rfl rfl (cell_ints 1 rfl (by omega))) rfl rfl rfl ?_
      refine s_y (y_assign rfl) rfl rfl rfl ?_
      refine s_y (y_assign rfl) rfl rfl rfl ?_
      refine s_nil ?_
      refine f_then ?_
      refine c_seq ?_
      refine c_seq ?_
      refine c_region ?_
      refine s_y (y_move rfl) rfl rfl rfl ?_
      refine s_y (y_F (y_eql rfl rfl) (by assumption)) rfl rfl rfl ?_
      refine s_y (y_move rfl) rfl rfl rfl ?_
      refine s_y (y_move rfl) rfl rfl rfl ?_
      refine s_y (y_move rfl) rfl rfl rfl ?_
      refine s_y (y_move rfl) rfl rfl rfl ?_
      refine s_y (y_indexAddr1 Try.tab rfl rfl rfl rfl _ rfl (by omega)) rfl rfl rfl ?_
      refine s_y (y_load Try.tab rfl rfl (cell_ints 1 rfl (by omega))) rfl rfl rfl ?_
      refine s_y (y_T (y_gtr rfl rfl) (by assumption)) rfl rfl rfl ?_
      refine s_y (y_pickF rfl rfl) rfl rfl rfl ?_
      refine s_nil ?_
      refine f_then ?_
      refine c_condT rfl ?_
      refine c_region ?_
      refine s_y (y_move rfl) rfl rfl rfl ?_
      refine s_y (y_move rfl) rfl rfl rfl ?_
      refine s_y (y_indexAddr1 Try.tab rfl rfl rfl rfl _ rfl (by omega)) rfl rfl rfl ?_
      refine s_y (y_load Try.tab rfl rfl (cell_ints 1 rfl (by omega))) rfl rfl rfl ?_
      refine s_y (y_assign rfl) rfl rfl rfl ?_
      refine s_nil ?_
      refine f_then ?_
      refine c_region ?_
      refine s_y (y_move rfl) rfl rfl rfl ?_
      refine s_y (y_nilP rfl) rfl rfl rfl ?_
      refine s_y (y_fieldAddrB Try.tab 4 rfl rfl rfl rfl rfl) rfl rfl rfl ?_
      refine s_y (y_load Try.tab rfl rfl (cell_row 0 rfl rfl)) rfl rfl rfl ?_
      refine s_y (y_move rfl) rfl rfl rfl ?_
      refine s_y (y_indexAddr1 Try.tab rfl rfl rfl rfl _ rfl (by omega)) rfl rfl rfl ?_
      refine s_y (y_load Try.tab rfl rfl (cell_ints 3 rfl (by omega))) rfl rfl rfl ?_
      refine s_y (y_move rfl) rfl rfl rfl ?_
      refine s_y (y_add rfl rfl (by omega)) rfl rfl rfl ?_
      refine s_y (y_indexAddr1 Try.tab rfl rfl rfl rfl _ rfl (by omega)) rfl rfl rfl ?_
      refine s_set (set_ints Try.tab 3 rfl rfl rfl rfl (by omega)) rfl rfl ?_
      refine s_nil ?_
      refine f_blockN ?_
      refine f_then ?_
      refine c_region ?_
      refine s_y (y_add rfl rfl (by omega)) rfl rfl rfl ?_
      refine s_y (y_move rfl) rfl rfl rfl ?_
      refine s_nil ?_
      exact f_roundP (upd h1 i (h1 i + best t), i + 1) ⟨by dsimp only; omega, hup _ er⟩ (by dsimp only; omega) ⟨rfl, rfl, rfl, rfl, rfl, rfl, rfl, rfl, rfl, trivial⟩ (fun w h => h)
    have er : best i = rise best t i := by unfold rise; rw [if_neg (by omega)]
    refine c_skip ?_
    refine f_then ?_
    refine c_seq ?_
    refine c_block ?_
    refine c_seq ?_
    refine c_region ?_
    refine s_y (y_move rfl) rfl rfl rfl ?_
    refine s_y (y_indexAddr1 Try.tab rfl rfl rfl rfl _ rfl (by omega)) rfl rfl rfl ?_
    refine s_y (y_load Try.tab rfl rfl (cell_ints 1 rfl (by omega))) rfl rfl rfl ?_
    refine s_y (y_assign rfl) rfl rfl rfl ?_
    refine s_y (y_assign rfl) rfl rfl rfl ?_
    refine s_nil ?_
    refine f_then ?_
    refine c_seq ?_
    refine c_seq ?_
    refine c_region ?_
    refine s_y (y_move rfl) rfl rfl rfl ?_
    refine s_y (y_F (y_eql rfl rfl) (by assumption)) rfl rfl rfl ?_
    refine s_y (y_move rfl) rfl rfl rfl ?_
    refine s_y (y_move rfl) rfl rfl rfl ?_
    refine s_y (y_move rfl) rfl rfl rfl ?_
    refine s_y (y_move rfl) rfl rfl rfl ?_
    refine s_y (y_indexAddr1 Try.tab rfl rfl rfl rfl _ rfl (by omega)) rfl rfl rfl ?_
    refine s_y (y_load Try.tab rfl rfl (cell_ints 1 rfl (by omega))) rfl rfl rfl ?_
    refine s_y (y_F (y_gtr rfl rfl) (by assumption)) rfl rfl rfl ?_
    refine s_y (y_pickF rfl rfl) rfl rfl rfl ?_
    refine s_nil ?_
    refine f_then ?_
    refine c_condF rfl ?_
    refine c_skip ?_
    refine f_then ?_
    refine c_region ?_
    refine s_y (y_move rfl) rfl rfl rfl ?_
    refine s_y (y_nilP rfl) rfl rfl rfl ?_
    refine s_y (y_fieldAddrB Try.tab 4 rfl rfl rfl rfl rfl) rfl rfl rfl ?_
    refine s_y (y_load Try.tab rfl rfl (cell_row 0 rfl rfl)) rfl rfl rfl ?_
    refine s_y (y_move rfl) rfl rfl rfl ?_
    refine s_y (y_indexAddr1 Try.tab rfl rfl rfl rfl _ rfl (by omega)) rfl rfl rfl ?_
    refine s_y (y_load Try.tab rfl rfl (cell_ints 3 rfl (by omega))) rfl rfl rfl ?_
    refine s_y (y_move rfl) rfl rfl rfl ?_
    refine s_y (y_add rfl rfl (by omega)) rfl rfl rfl ?_
    refine s_y (y_indexAddr1 Try.tab rfl rfl rfl rfl _ rfl (by omega)) rfl rfl rfl ?_
    refine s_set (set_ints Try.tab 3 rfl rfl rfl rfl (by omega)) rfl rfl ?_
    refine s_nil ?_
    refine f_blockN ?_
    refine f_then ?_
    refine c_region ?_
    refine s_y (y_add rfl rfl (by omega)) rfl rfl rfl ?_
    refine s_y (y_move rfl) rfl rfl rfl ?_
    refine s_nil ?_
    exact f_roundP (upd h1 i (h1 i + best i), i + 1) ⟨by dsimp only; omega, hup _ er⟩ (by dsimp only; omega) ⟨rfl, rfl, rfl, rfl, rfl, rfl, rfl, rfl, rfl, trivial⟩ (fun w h => h)
  have hin : i = n := by omega
  have hrs : ∀ u, 0 ≤ rise best t u ∧ rise best t u ≤ best t := fun u => by
    have := hd.lo u
    unfold rise
    split <;> omega
  have q3 := hd.hi t
  have q5 : n * (n * MC) ≤ 40 * 41943040 := Nat.mul_le_mul hn1 hnMC
  refine SC.cls (C' := K W ([(p, row 78 [vl, vo, a1, b1, .slice (some ⟨bh, 0, none⟩) n n])] :: Lc room1 :: [(bh, ints 3 n (fun u => high1 u + rise best t u) [])] :: Ls)) ?_ (fun w h => by
    rw [← ints_congr (f := h1) (fun u hu => by rw [hh1 u, if_pos (by omega)])]
    exact K.dropAt 1 h)
  have hHV : HighV (K W ([(bh, ints 3 n (fun u => high1 u + rise best t u) [])] :: Ls)) (.slice (some ⟨bh, 0, none⟩) n n) n (fun u => high1 u + rise best t u) := ⟨bh, rfl, fun v hv => cell_ints (g := fun u => high1 u + rise best t u) 0 rfl hv⟩
  refine c_exit ?_
  refine f_thenE ?_
  refine f_rndE ?_
  refine f_blockE ?_
  refine f_then ?_
  refine c_region ?_
  refine s_y (y_move rfl) rfl rfl rfl ?_
  refine s_y (y_move rfl) rfl rfl rfl ?_
  refine s_y (y_move rfl) rfl rfl rfl ?_
  refine s_y (y_move rfl) rfl rfl rfl ?_
  refine s_y (y_move rfl) rfl rfl rfl ?_
  refine s_y (y_move rfl) rfl rfl rfl ?_
  refine s_y (y_sub rfl rfl (by omega)) rfl rfl rfl ?_
  refine s_call (en_f rfl Try.call47) (fill_spec W ([(bh, ints 3 n (fun u => high1 u + rise best t u) [])] :: Ls) p n m s t vl vo a1 b1 _ Lc outs to tl cost (fun u => high1 u + rise best t u) room1 (want - sent) (hO.cls fun w h => h.tail) hHV hLc hG
    ⟨fun k hk => by have := hc k hk; omega, fun v hv => by have := hh0 v hv; have := hrs v; omega⟩ hs ht (by omega) hm (by omega) (by omega) hch.nonneg (fun k hk => by rw [hch.pair k hk]; exact hr1 k hk)) rfl rfl rfl (fun x => ?_)
  obtain ⟨⟨got, room2, a2, b2⟩, hf⟩ := x
  dsimp only at hf ⊢
  obtain ⟨hch2, hgot⟩ := hch.step hG hc hd hbt0 hf (by omega)
  have hgh := hf.hi
  refine s_y (y_add rfl rfl (by omega)) rfl rfl rfl ?_
  refine s_y (y_assign rfl) rfl rfl rfl ?_
  refine s_nil ?_
  refine f_blockN ?_
  exact f_roundP (sent + got, room2, fun u => high1 u + rise best t u, a2, b2) ⟨hch2, by dsimp only; omega⟩ (by dsimp only; omega) ⟨rfl, rfl, rfl, rfl, rfl, trivial⟩ (fun w h => h)
end Go.KL
end
