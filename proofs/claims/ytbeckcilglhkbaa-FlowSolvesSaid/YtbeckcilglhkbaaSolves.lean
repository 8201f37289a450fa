/- FlowSolves: for every input the law returns true, and its arguments read as they did. No condition. -/
import Derived.Test.YtbeckcilglhkbaaRows
import Derived.JoinedOf
import Derived.Handed
import Derived.Test.YtbeckcilglhkbaaGdL4
section
/- The walk of FlowSolves. -/
namespace Go.KL
open Go.Proofs
theorem K.any {W w : World} {Ls : List Chunk} (h : K W Ls w) : K W [] w := h.weak Ls.flatten (by simp)
theorem SlV.any {W : World} {v : Value} {n s : Nat} {g : Nat → Nat → Value} (h : SlV (K W []) v n s g) (Ls : List Chunk) : SlV (K W Ls) v n s g := h.cls fun _ h => h.any
theorem ov_sl {o : Option Own} {m : Nat} {f : Nat → Int} (h : owfO 1 o m (onV m f)) : ∃ po co, ov o m = .slice po m co ∧ ∀ W : World, SlI (K W [oc 3 o (onV m f)]) (.slice po m co) m f := by
  cases o with
  | none =>
    obtain ⟨_, rfl⟩ := h
    exact ⟨none, 0, rfl, fun W => SlV.empty⟩
  | some o =>
    refine ⟨_, _, rfl, fun W => SlV.grown 0 rfl h.1 fun k hk j hj => ?_⟩
    have : j = 0 := by omega
    subst this
    simp [onV, hk]
/-- What Solve returns, its memory in short. -/
structure SolveR (n na : Nat) (A : Nat → Ac) (s t : Nat) (want : Int) where
  v : Int
  f : Nat → Int
  p : Nat → Int
  po : Option Addr
  co : Nat
  c1 : Chunk
  bh : Nat
  hP : SolveP n na A s t want v f p
  hF : ∀ W : World, SlI (K W [c1]) (.slice po na co) na f
theorem solve_spec2 (W : World) (Ls : List Chunk) (n na s t : Nat) (want : Int) (va : Value) (A : Nat → Ac) (hA : SlA (K W Ls) va na A) (hN : NetOK n na A s t) (hn40 : n ≤ 40) (hw0 : 0 ≤ want ∧ want ≤ 9223372036854775807) :
    Spec Try.prog 17 #[.int .i64 n, va, .int .i64 s, .int .i64 t, .int .i64 want] (K W Ls) (X := SolveR n na A s t want)
      (fun x => .tuple #[.agg #[.int .i64 x.v, .int .i64 (cst (cstN A) x.f na), .slice x.po na x.co, .slice (some ⟨x.bh, 0, none⟩) n n], .int .i64 0])
      (fun x => K W (x.c1 :: [(x.bh, ints 3 n x.p [])] :: Ls)) := by
  intro w hw
  refine (solve_spec W Ls n na s t want va A hA hN hn40 hw0 w hw).mono ?_
  rintro e w' ⟨⟨⟨v, f, p, o, bh⟩, hP, ho⟩, he, hk⟩
  dsimp only at hP ho he hk
  obtain ⟨po, co, e1, e2⟩ := ov_sl ho
  rw [e1] at he
  exact ⟨⟨v, f, p, po, co, _, bh, hP, e2⟩, he, hk⟩
theorem awakeQ (w : World) : Calls Try.prog 16 #[] w fun e w' => e = .returned (.bool true) ∧ Ext w w' := (awake_spec w [] w (K.refl w)).mono fun _ _ ⟨_, h1, h2⟩ => ⟨h1, h2.toExt⟩
attribute [local irreducible] SC St Fin Sq Sw Ylds Doos Sets Enters Spec CellIs CellsAre Then Ret Rnd Chn resOK ints bools recs arr
open Classical in
set_option maxHeartbeats 8000000 in
theorem flowSolves_walk (W : World) (n s t want : Int) (va : Value) (na : Nat) (A : Nat → Ac) (hA : SlA (K W []) va na A) (hna : na ≤ 9223372036854775807) (hw : want ≤ 9223372036854775807) :
    Spec Try.prog 3 #[.agg #[.int .i64 n, va, .int .i64 s, .int .i64 t], .int .i64 want] (K W []) (fun _ : Unit => .bool true) (fun _ => K W []) := by
  obtain ⟨pa, ca, rfl, hca, hcells⟩ := hA.open
  refine enter (args := [_, _]) Try.func3 rfl Try.ntmps3 rfl ?_
  by_cases hfew : fewP n na
  rotate_left
  · refine c_seq ?_
    refine c_region ?_
    refine s_do (do_box rfl) rfl rfl rfl (fun b2 => ?_)
    refine s_y (y_assign rfl) rfl rfl rfl ?_
    refine s_nil ?_
    refine f_then ?_
    refine c_seq ?_
    refine c_seq ?_
    refine c_region ?_
    refine s_y (y_loadA Try.tab rfl rfl rfl rfl (cells_row0 0 rfl rfl)) rfl rfl rfl ?_
    refine s_call (en_f rfl Try.call15) (few_spec W _ n s t pa na ca) rfl rfl rfl (fun _ => ?_)
    refine s_y (y_notD rfl) rfl rfl rfl ?_
    refine s_nil ?_
    refine f_then ?_
    refine c_condD rfl (fun _ => ?_) (fun h => absurd hfew h)
    refine c_seq ?_
    refine c_region ?_
    refine s_call (en_f rfl Try.call16) (awake_spec W _) rfl rfl rfl (fun _ => ?_)
    refine s_y (y_assign rfl) rfl rfl rfl ?_
    refine s_nil ?_
    refine f_then ?_
    refine c_ret ?_
    refine f_thenR ?_
    exact f_ret () (res1 rfl rfl) (fun w h => h.any)
  have hfew' := hfew
  unfold fewP at hfew'
  refine c_seq ?_
  refine c_region ?_
  refine s_do (do_box rfl) rfl rfl rfl (fun b2 => ?_)
  refine s_y (y_assign rfl) rfl rfl rfl ?_
  refine s_nil ?_
  refine f_then ?_
  refine c_seq ?_
  refine c_seq ?_
  refine c_region ?_
  refine s_y (y_loadA Try.tab rfl rfl rfl rfl (cells_row0 0 rfl rfl)) rfl rfl rfl ?_
  refine s_call (en_f rfl Try.call15) (few_spec W _ n s t pa na ca) rfl rfl rfl (fun _ => ?_)
  refine s_y (y_notD rfl) rfl rfl rfl ?_
  refine s_nil ?_
  refine f_then ?_
  refine c_condD rfl (fun h => absurd hfew h) (fun _ => ?_)
  refine c_skip ?_
  refine f_then ?_
  refine c_seq ?_
  refine c_region ?_
  refine s_do (do_buildSliceS Try.tab ⟨rfl, rfl, rfl, rfl⟩ rfl rfl rfl rfl) rfl rfl rfl (fun b13 => ?_)
  refine s_y (y_fieldAddrB Try.tab 1 rfl rfl rfl rfl rfl) rfl rfl rfl ?_
  refine s_y (y_load Try.tab rfl rfl (cell_row 1 rfl rfl)) rfl rfl rfl ?_
  refine s_do (do_appendE (b := b13) (k := na) (by_ := 32) Try.tab 0 rfl rfl (hA.any _) ⟨rfl, rfl, rfl, rfl⟩ rfl rfl (fun i j => by unfold ag; split <;> rfl) (by unfold maxLen; omega) (by omega)) rfl rfl rfl (fun o => ?_)
  obtain ⟨o, ho, hpre⟩ := o
  dsimp only
  refine s_y (y_assign rfl) rfl rfl rfl ?_
  refine s_nil ?_
  refine f_then ?_
  refine c_seq ?_
  refine c_region ?_
  refine s_y (y_fieldAddr0 Try.tab rfl rfl rfl rfl rfl) rfl rfl rfl ?_
  refine s_y (y_load Try.tab rfl rfl (cell_row 1 rfl rfl)) rfl rfl rfl ?_
  refine s_y (y_move rfl) rfl rfl rfl ?_
  refine s_y (y_fieldAddrB Try.tab 2 rfl rfl rfl rfl rfl) rfl rfl rfl ?_
  refine s_y (y_load Try.tab rfl rfl (cell_row 1 rfl rfl)) rfl rfl rfl ?_
  refine s_y (y_fieldAddrB Try.tab 3 rfl rfl rfl rfl rfl) rfl rfl rfl ?_
  refine s_y (y_load Try.tab rfl rfl (cell_row 1 rfl rfl)) rfl rfl rfl ?_
  refine s_y (y_move rfl) rfl rfl rfl ?_
  have hIn : SlA (K W (och 35 o (vw 4 na (ag A)) :: [[(b2, row 24 [.int .i64 n, .slice pa na ca, .int .i64 s, .int .i64 t])]])) (osl o na) na A := SlV.vw 0 rfl ho
  by_cases hN : NetOK n na A s t
  rotate_left
  · refine s_call (en_f rfl Try.call17) (solve_bad_spec W _ n s t want na (osl o na) A hIn (by omega) hN) rfl rfl rfl (fun _ => ?_)
    refine s_y (y_move rfl) rfl rfl rfl ?_
    refine s_y (y_extract rfl rfl) rfl rfl rfl ?_
    refine s_y (y_extract rfl rfl) rfl rfl rfl ?_
    refine s_do (do_alloc Try.tab rfl) rfl rfl rfl (fun b6 => ?_)
    refine s_set (set_box Try.tab 0 rfl rfl rfl rfl rfl rfl rfl) rfl rfl ?_
    refine s_y (y_assign rfl) rfl rfl rfl ?_
    refine s_nil ?_
    refine f_then ?_
    refine c_seq ?_
    refine c_seq ?_
    refine c_region ?_
    refine s_y (y_loadA Try.tab rfl rfl rfl rfl (cells_row0 2 rfl rfl)) rfl rfl rfl ?_
    refine s_call (en_f rfl Try.call18) (nvalid_spec W _ n s t (.slice pa na ca) na A (hA.any _) (by omega)) rfl rfl rfl (fun _ => ?_)
    refine s_y (y_notD rfl) rfl rfl rfl ?_
    refine s_nil ?_
    refine f_then ?_
    refine c_condD rfl (fun _ => ?_) (fun h => absurd hN h)
    refine c_seq ?_
    refine c_region ?_
    refine s_y (y_move rfl) rfl rfl rfl ?_
    refine s_y (y_T (y_eql rfl rfl) (by omega)) rfl rfl rfl ?_
    refine s_y (y_move rfl) rfl rfl rfl ?_
    refine s_y (y_loadA Try.tab rfl rfl rfl rfl (cells_row0 0 rfl rfl)) rfl rfl rfl ?_
    refine s_call (en_f rfl Try.call19) (empty1_spec W _ _ _ _ _ _ _ _ _) rfl rfl rfl (fun _ => ?_)
    refine s_y (y_pickT rfl rfl) rfl rfl rfl ?_
    refine s_y (y_move rfl) rfl rfl rfl ?_
    refine s_call (en_f rfl Try.call16) (awake_spec W _) rfl rfl rfl (fun _ => ?_)
    refine s_y (y_pickT rfl rfl) rfl rfl rfl ?_
    refine s_y (y_assign rfl) rfl rfl rfl ?_
    refine s_nil ?_
    refine f_then ?_
    refine c_ret ?_
    refine f_thenR ?_
    exact f_ret () (res1 rfl rfl) (fun w h => h.any)
  obtain ⟨n, s, t, rfl, rfl, rfl⟩ := hN.nats
  by_cases hneg : want < 0
  · refine s_call (en_f rfl Try.call17) (solve_neg_spec W _ n s t want na (osl o na) A hIn hN hneg) rfl rfl rfl (fun _ => ?_)
    refine s_y (y_move rfl) rfl rfl rfl ?_
    refine s_y (y_extract rfl rfl) rfl rfl rfl ?_
    refine s_y (y_extract rfl rfl) rfl rfl rfl ?_
    refine s_do (do_alloc Try.tab rfl) rfl rfl rfl (fun b6 => ?_)
    refine s_set (set_box Try.tab 0 rfl rfl rfl rfl rfl rfl rfl) rfl rfl ?_
    refine s_y (y_assign rfl) rfl rfl rfl ?_
    refine s_nil ?_
    refine f_then ?_
    refine c_seq ?_
    refine c_seq ?_
    refine c_region ?_
    refine s_y (y_loadA Try.tab rfl rfl rfl rfl (cells_row0 2 rfl rfl)) rfl rfl rfl ?_
    refine s_call (en_f rfl Try.call18) (nvalid_spec W _ n s t (.slice pa na ca) na A (hA.any _) (by omega)) rfl rfl rfl (fun _ => ?_)
    refine s_y (y_notD rfl) rfl rfl rfl ?_
    refine s_nil ?_
    refine f_then ?_
    refine c_condD rfl (fun h => absurd hN h) (fun _ => ?_)
    refine c_skip ?_
    refine f_then ?_
    refine c_seq ?_
    refine c_seq ?_
    refine c_region ?_
    refine s_y (y_move rfl) rfl rfl rfl ?_
    refine s_y (y_T (y_lss rfl rfl) (by assumption)) rfl rfl rfl ?_
    refine s_nil ?_
    refine f_then ?_
    refine c_condT rfl ?_
    refine c_seq ?_
    refine c_region ?_
    refine s_y (y_move rfl) rfl rfl rfl ?_
    refine s_y (y_T (y_eql rfl rfl) (by omega)) rfl rfl rfl ?_
    refine s_y (y_move rfl) rfl rfl rfl ?_
    refine s_y (y_loadA Try.tab rfl rfl rfl rfl (cells_row0 0 rfl rfl)) rfl rfl rfl ?_
    refine s_call (en_f rfl Try.call19) (empty1_spec W _ _ _ _ _ _ _ _ _) rfl rfl rfl (fun _ => ?_)
    refine s_y (y_pickT rfl rfl) rfl rfl rfl ?_
    refine s_y (y_move rfl) rfl rfl rfl ?_
    refine s_call (en_f rfl Try.call16) (awake_spec W _) rfl rfl rfl (fun _ => ?_)
    refine s_y (y_pickT rfl rfl) rfl rfl rfl ?_
    refine s_y (y_assign rfl) rfl rfl rfl ?_
    refine s_nil ?_
    refine f_then ?_
    refine c_ret ?_
    refine f_thenR ?_
    exact f_ret () (res1 rfl rfl) (fun w h => h.any)
  have hn := hN.hn
  refine s_call (en_f rfl Try.call17) (solve_spec2 W _ n na s t want (osl o na) A hIn hN (by omega) (by omega)) rfl rfl rfl (fun x => ?_)
  obtain ⟨v, f, p, po, co, c1, bh, hP, hF⟩ := x
  dsimp only
  have hchk := hP.chk hN
  have hhi := hP.hi
  refine s_y (y_move rfl) rfl rfl rfl ?_
  refine s_y (y_extract rfl rfl) rfl rfl rfl ?_
  refine s_y (y_extract rfl rfl) rfl rfl rfl ?_
  refine s_do (do_alloc Try.tab rfl) rfl rfl rfl (fun b6 => ?_)
  refine s_set (set_box Try.tab 0 rfl rfl rfl rfl rfl rfl rfl) rfl rfl ?_
  refine s_y (y_assign rfl) rfl rfl rfl ?_
  refine s_nil ?_
  refine f_then ?_
  refine c_seq ?_
  refine c_seq ?_
  refine c_region ?_
  refine s_y (y_loadA Try.tab rfl rfl rfl rfl (cells_row0 4 rfl rfl)) rfl rfl rfl ?_
  refine s_call (en_f rfl Try.call18) (nvalid_spec W _ n s t (.slice pa na ca) na A (hA.any _) (by omega)) rfl rfl rfl (fun _ => ?_)
  refine s_y (y_notD rfl) rfl rfl rfl ?_
  refine s_nil ?_
  refine f_then ?_
  refine c_condD rfl (fun h => absurd hN h) (fun _ => ?_)
  refine c_skip ?_
  refine f_then ?_
  refine c_seq ?_
  refine c_seq ?_
  refine c_region ?_
  refine s_y (y_move rfl) rfl rfl rfl ?_
  refine s_y (y_F (y_lss rfl rfl) (by assumption)) rfl rfl rfl ?_
  refine s_nil ?_
  refine f_then ?_
  refine c_condF rfl ?_
  refine c_skip ?_
  refine f_then ?_
  refine c_seq ?_
  refine c_chain 72 (decide (False)) ?_ ?_
  · refine c_region ?_
    refine s_y (y_move rfl) rfl rfl rfl ?_
    refine s_y (y_F (y_neq rfl rfl) (by omega)) rfl rfl rfl ?_
    refine s_y (y_move rfl) rfl rfl rfl ?_
    refine s_y (y_fieldAddr0 Try.tab rfl rfl rfl rfl rfl) rfl rfl rfl ?_
    refine s_y (y_load Try.tab rfl rfl (cell_row 4 rfl rfl)) rfl rfl rfl ?_
    refine s_y (y_fieldAddrB Try.tab 1 rfl rfl rfl rfl rfl) rfl rfl rfl ?_
    refine s_y (y_load Try.tab rfl rfl (cell_row 4 rfl rfl)) rfl rfl rfl ?_
    refine s_y (y_fieldAddrB Try.tab 2 rfl rfl rfl rfl rfl) rfl rfl rfl ?_
    refine s_y (y_load Try.tab rfl rfl (cell_row 4 rfl rfl)) rfl rfl rfl ?_
    refine s_y (y_fieldAddrB Try.tab 3 rfl rfl rfl rfl rfl) rfl rfl rfl ?_
    refine s_y (y_load Try.tab rfl rfl (cell_row 4 rfl rfl)) rfl rfl rfl ?_
    refine s_y (y_loadA Try.tab rfl rfl rfl rfl (cells_row0 0 rfl rfl)) rfl rfl rfl ?_
    refine s_call (en_f rfl Try.call20) (rcheck_spec W _ n s t v _ (.slice pa na ca) (.slice po na co) (.slice (some ⟨bh, 0, none⟩) n n) na na n A f p (hA.any _) ((hF W).cls fun w h => (h.front 1).keep 1) (SlI.own 2 rfl) (by omega)) rfl rfl rfl (fun _ => ?_)
    refine s_y (y_F (y_neq rfl rfl) (by omega)) rfl rfl rfl ?_
    refine s_y (y_pickF rfl rfl) rfl rfl rfl ?_
    refine s_y (y_move rfl) rfl rfl rfl ?_
    refine s_y (y_fieldAddr0 Try.tab rfl rfl rfl rfl rfl) rfl rfl rfl ?_
    refine s_y (y_load Try.tab rfl rfl (cell_row 0 rfl rfl)) rfl rfl rfl ?_
    refine s_y (y_move rfl) rfl rfl rfl ?_
    refine s_y (y_F (y_gtr rfl rfl) (by omega)) rfl rfl rfl ?_
    refine s_y (y_pickF rfl rfl) rfl rfl rfl ?_
    refine s_nil ?_
    exact f_chain rfl ((decide_eq_false (by simp [*])).symm) ⟨rfl, rfl, rfl, rfl, rfl, rfl, rfl, rfl, rfl, rfl, rfl, rfl, rfl, rfl, rfl, rfl, rfl, rfl, rfl, rfl, rfl, rfl, rfl, rfl, rfl, rfl, rfl, rfl, rfl, rfl, rfl, trivial⟩
  refine c_condD rfl (fun h => h.elim) (fun _ => ?_)
  refine c_skip ?_
  refine f_then ?_
  refine c_seq ?_
  refine c_seq ?_
  refine c_region ?_
  refine s_y (y_assign rfl) rfl rfl rfl ?_
  refine s_nil ?_
  refine f_then ?_
  refine c_block ?_
  have hIn2 : SlA (K W ([(b6, row 28 [.int .i64 v, .int .i64 (cst (cstN A) f na), .slice po na co, .slice (some ⟨bh, 0, none⟩) n n])] :: c1 :: [(bh, ints 3 n p [])] :: och 35 o (vw 4 na (ag A)) :: [[(b2, row 24 [.int .i64 n, .slice pa na ca, .int .i64 s, .int .i64 t])]])) (osl o na) na A := SlV.cls (C := K W [och 35 o (vw 4 na (ag A))]) (SlV.vw 0 rfl ho) (fun w h => (h.front 3).keep 1)
  obtain ⟨pa2, c2, e2, _, hc2⟩ := hIn2.open
  injection e2 with e2 _ e3
  subst e2; subst e3
  refine c_loopP (α := Nat) (fun z => [(1, .int .i64 want), (2, .pointer (some ⟨b2, 0, none⟩)), (5, osl o na), (6, .pointer (some ⟨b6, 0, none⟩)), (8, .int .i64 z)]) (fun z => z ≤ na) (fun _ => K W ([(b6, row 28 [.int .i64 v, .int .i64 (cst (cstN A) f na), .slice po na co, .slice (some ⟨bh, 0, none⟩) n n])] :: c1 :: [(bh, ints 3 n p [])] :: och 35 o (vw 4 na (ag A)) :: [[(b2, row 24 [.int .i64 n, .slice pa na ca, .int .i64 s, .int .i64 t])]])) (fun z => na - z) 0
    ⟨rfl, rfl, rfl, rfl, rfl, trivial⟩ (Nat.zero_le _) (fun w h => h) ?_
  rintro i hi
  refine c_seq ?_
  refine c_seq ?_
  refine c_region ?_
  refine s_y (y_move rfl) rfl rfl rfl ?_
  refine s_y (y_move rfl) rfl rfl rfl ?_
  refine s_y (y_len Try.tab rfl rfl) rfl rfl rfl ?_
  refine s_y (y_lss rfl rfl) rfl rfl rfl ?_
  refine s_nil ?_
  refine f_then ?_
  refine c_condD rfl (fun hlt => ?_) (fun hge => ?_)
  · have hin : i < na := by omega
    obtain ⟨ba, oa, rfl, hca, hc0, hc1, hc2', hc3⟩ := hcells (by omega)
    obtain ⟨bi, oi, e4, hci, _⟩ := hc2 (by omega)
    injection e4 with e4
    injection e4 with e4 e5 _
    subst e4; subst e5
    have hca2 := fun (Ls : List Chunk) i (hi : i < na) => (hca i hi).cls (C := K W Ls) (fun w h => h.any)
    refine c_skip ?_
    refine f_then ?_
    refine c_seq ?_
    refine c_block ?_
    refine c_seq ?_
    refine c_quiet Try.mixed (by kernel_rfl) K.drew ?_
    refine q_y (y_move rfl) rfl rfl rfl ?_
    refine q_y (y_move rfl) rfl rfl rfl ?_
    refine q_y (y_indexAddr (s := 4) Try.tab rfl rfl rfl rfl _ rfl (by omega)) rfl rfl rfl ?_
    refine q_y (y_loadA Try.tab rfl rfl rfl rfl (hci _ (by omega))) rfl rfl rfl ?_
    refine q_y (y_fieldAddrB Try.tab 1 rfl rfl rfl rfl rfl) rfl rfl rfl ?_
    refine q_y (y_load Try.tab rfl rfl (cell_row 4 rfl rfl)) rfl rfl rfl ?_
    refine q_y (y_move rfl) rfl rfl rfl ?_
    refine q_y (y_indexAddr (s := 4) Try.tab rfl rfl rfl rfl _ rfl (by omega)) rfl rfl rfl ?_
    refine q_y (y_loadA Try.tab rfl rfl rfl rfl (hca2 _ _ (by omega))) rfl rfl rfl ?_
    refine q_y (y_neqS Try.tab rfl rfl rfl (by kernel_rfl) (by kernel_rfl) rfl rfl) rfl rfl rfl ?_
    refine q_nil ?_
    refine f_then ?_
    refine c_condD rfl (fun h => absurd rfl h) (fun _ => ?_)
    refine c_skip ?_
    refine f_blockN ?_
    refine f_then ?_
    refine c_region ?_
    refine s_y (y_move rfl) rfl rfl rfl ?_
    refine s_y (y_add rfl rfl (by omega)) rfl rfl rfl ?_
    refine s_y (y_assign rfl) rfl rfl rfl ?_
    refine s_nil ?_
    exact f_roundP (i + 1) (by omega) (by omega) ⟨rfl, rfl, rfl, rfl, rfl, trivial⟩ (fun w h => h)
  have him : i = na := by omega
  clear hc2
  by_cases hvw : v = want
  · refine c_exit ?_
    refine f_thenE ?_
    refine f_rndE ?_
    refine f_blockE ?_
    refine f_then ?_
    refine c_seq ?_
    refine c_free [] ((K W ([(b6, row 28 [.int .i64 v, .int .i64 (cst (cstN A) f na), .slice po na co, .slice (some ⟨bh, 0, none⟩) n n])] :: c1 :: [(bh, ints 3 n p [])] :: och 35 o (vw 4 na (ag A)) :: [[(b2, row 24 [.int .i64 n, .slice pa na ca, .int .i64 s, .int .i64 t])]]))) Try.mixed (by kernel_rfl) K.cl ?_
    refine l_c 0 rfl (by kernel_rfl) (Qui.ylds (y_fieldAddr0 Try.tab rfl rfl rfl rfl rfl)) rfl rfl rfl (fun _ h => h) K.cl ?_
    refine l_c 1 rfl (by kernel_rfl) (Qui.ylds (y_load Try.tab rfl rfl (cell_row 0 rfl rfl))) rfl rfl rfl (fun _ h => h) K.cl ?_
    refine l_c 2 rfl (by kernel_rfl) (Qui.ylds (y_move rfl)) rfl rfl rfl (fun _ h => h) K.cl ?_
    refine l_c 3 rfl (by kernel_rfl) (Qui.ylds (y_T (y_eql rfl rfl) (by assumption))) rfl rfl rfl (fun _ h => h) K.cl ?_
    refine l_c 4 rfl (by kernel_rfl) (Qui.ylds (y_move rfl)) rfl rfl rfl (fun _ h => h) K.cl ?_
    refine l_skip 5 rfl (by kernel_rfl) rfl rfl rfl (fun _ h => h) K.cl ?_
    refine l_skip 6 rfl (by kernel_rfl) rfl rfl rfl (fun _ h => h) K.cl ?_
    refine l_skip 7 rfl (by kernel_rfl) rfl rfl rfl (fun _ h => h) K.cl ?_
    refine l_skip 8 rfl (by kernel_rfl) rfl rfl rfl (fun _ h => h) K.cl ?_
    refine l_skip 9 rfl (by kernel_rfl) rfl rfl rfl (fun _ h => h) K.cl ?_
    refine l_skip 10 rfl (by kernel_rfl) rfl rfl rfl (fun _ h => h) K.cl ?_
    refine l_skip 11 rfl (by kernel_rfl) rfl rfl rfl (fun _ h => h) K.cl ?_
    refine l_skip 12 rfl (by kernel_rfl) rfl rfl rfl (fun _ h => h) K.cl ?_
    refine l_skip 14 rfl (by kernel_rfl) rfl rfl rfl (fun _ h => h) K.cl ?_
    refine l_skip 15 rfl (by kernel_rfl) rfl rfl rfl (fun _ h => h) K.cl ?_
    refine l_skip 13 rfl (by kernel_rfl) rfl rfl rfl (fun _ h => h) K.cl ?_
    refine l_skip 16 rfl (by kernel_rfl) rfl rfl rfl (fun _ h => h) K.cl ?_
    refine l_skip 17 rfl (by kernel_rfl) rfl rfl rfl (fun _ h => h) K.cl ?_
    refine l_skip 18 rfl (by kernel_rfl) rfl rfl rfl (fun _ h => h) K.cl ?_
    refine l_c 19 rfl (by kernel_rfl) (Qui.ylds (y_pickT rfl rfl)) rfl rfl rfl (fun _ h => h) K.cl ?_
    refine l_c 20 rfl (by kernel_rfl) (Qui.ylds (y_move rfl)) rfl rfl rfl (fun _ h => h) K.cl ?_
    refine l_c 21 rfl (by kernel_rfl) (Qui.call (en_f rfl Try.call16) (fun w _ => awakeQ w)) rfl rfl rfl (fun _ h => h) K.cl ?_
    refine l_c 22 rfl (by kernel_rfl) (Qui.ylds (y_pickT rfl rfl)) rfl rfl rfl (fun _ h => h) K.cl ?_
    refine l_c 23 rfl (by kernel_rfl) (Qui.ylds (y_assign rfl)) rfl rfl rfl (fun _ h => h) K.cl ?_
    refine l_nil (by kernel_rfl) ?_
    refine f_then ?_
    refine c_ret ?_
    exact f_ret () (res1 rfl rfl) (fun w h => h.any)
  refine c_exit ?_
  refine f_thenE ?_
  refine f_rndE ?_
  refine f_blockE ?_
  refine f_then ?_
  refine c_seq ?_
  refine c_free [] ((K W ([(b6, row 28 [.int .i64 v, .int .i64 (cst (cstN A) f na), .slice po na co, .slice (some ⟨bh, 0, none⟩) n n])] :: c1 :: [(bh, ints 3 n p [])] :: och 35 o (vw 4 na (ag A)) :: [[(b2, row 24 [.int .i64 n, .slice pa na ca, .int .i64 s, .int .i64 t])]]))) Try.mixed (by kernel_rfl) K.cl ?_
  refine l_c 0 rfl (by kernel_rfl) (Qui.ylds (y_fieldAddr0 Try.tab rfl rfl rfl rfl rfl)) rfl rfl rfl (fun _ h => h) K.cl ?_
  refine l_c 1 rfl (by kernel_rfl) (Qui.ylds (y_load Try.tab rfl rfl (cell_row 0 rfl rfl))) rfl rfl rfl (fun _ h => h) K.cl ?_
  refine l_c 2 rfl (by kernel_rfl) (Qui.ylds (y_move rfl)) rfl rfl rfl (fun _ h => h) K.cl ?_
  refine l_c 3 rfl (by kernel_rfl) (Qui.ylds (y_F (y_eql rfl rfl) (by assumption))) rfl rfl rfl (fun _ h => h) K.cl ?_
  refine l_c 4 rfl (by kernel_rfl) (Qui.ylds (y_move rfl)) rfl rfl rfl (fun _ h => h) K.cl ?_
  refine l_c 5 rfl (by kernel_rfl) (Qui.ylds (y_fieldAddr0 Try.tab rfl rfl rfl rfl rfl)) rfl rfl rfl (fun _ h => h) K.cl ?_
  refine l_c 6 rfl (by kernel_rfl) (Qui.ylds (y_load Try.tab rfl rfl (cell_row 4 rfl rfl))) rfl rfl rfl (fun _ h => h) K.cl ?_
  refine l_c 7 rfl (by kernel_rfl) (Qui.ylds (y_fieldAddrB Try.tab 1 rfl rfl rfl rfl rfl)) rfl rfl rfl (fun _ h => h) K.cl ?_
  refine l_c 8 rfl (by kernel_rfl) (Qui.ylds (y_load Try.tab rfl rfl (cell_row 4 rfl rfl))) rfl rfl rfl (fun _ h => h) K.cl ?_
  refine l_c 9 rfl (by kernel_rfl) (Qui.ylds (y_fieldAddrB Try.tab 2 rfl rfl rfl rfl rfl)) rfl rfl rfl (fun _ h => h) K.cl ?_
  refine l_c 10 rfl (by kernel_rfl) (Qui.ylds (y_load Try.tab rfl rfl (cell_row 0 rfl rfl))) rfl rfl rfl (fun _ h => h) K.cl ?_
  refine l_c 11 rfl (by kernel_rfl) (Qui.ylds (y_fieldAddrB Try.tab 2 rfl rfl rfl rfl rfl)) rfl rfl rfl (fun _ h => h) K.cl ?_
  refine l_c 12 rfl (by kernel_rfl) (Qui.ylds (y_load Try.tab rfl rfl (cell_row 4 rfl rfl))) rfl rfl rfl (fun _ h => h) K.cl ?_
  refine l_c 14 rfl (by kernel_rfl) (Qui.ylds (y_fieldAddrB Try.tab 3 rfl rfl rfl rfl rfl)) rfl rfl rfl (fun _ h => h) K.cl ?_
  refine l_c 15 rfl (by kernel_rfl) (Qui.ylds (y_load Try.tab rfl rfl (cell_row 4 rfl rfl))) rfl rfl rfl (fun _ h => h) K.cl ?_
  refine l_call 13 rfl (by kernel_rfl) (en_f rfl Try.call21) (rreach_spec W _ n s t (.slice pa na ca) (.slice po na co) na A f (hA.any _) ((hF W).cls fun w h => (h.front 1).keep 1) hN) rfl rfl rfl (fun _ => K.cl) (fun _ _ _ h => h.tail) (fun y => ?_)
  obtain ⟨⟨bg, g⟩, hR⟩ := y
  dsimp only at hR ⊢
  have hgt : g t = false := by
    obtain ⟨S, q1, q2, q3⟩ := hP.full (by omega)
    cases e : g t with
    | false => rfl
    | true =>
      have := hR.least (fun u => S u = true) q1 (fun i hi => q3 i hi) t e
      rw [q2] at this; cases this
  have ht := hN.ht
  have hcg := cell_bools (W := W) (Ls := [(bg, bools 4 n g [])] :: ([(b6, row 28 [.int .i64 v, .int .i64 (cst (cstN A) f na), .slice po na co, .slice (some ⟨bh, 0, none⟩) n n])] :: c1 :: [(bh, ints 3 n p [])] :: och 35 o (vw 4 na (ag A)) :: [[(b2, row 24 [.int .i64 n, .slice pa na ca, .int .i64 s, .int .i64 t])]])) 0 rfl (k := t) (by omega)
  rw [hgt] at hcg
  refine l_c 16 rfl (by kernel_rfl) (Qui.ylds (y_indexAddr1 Try.tab rfl rfl rfl rfl _ rfl (by omega))) rfl rfl rfl (fun _ h => h.tail) K.cl ?_
  refine l_sy 17 rfl (by kernel_rfl) (y_load Try.tab rfl rfl hcg) rfl rfl rfl K.cl (fun _ _ h => h.tail) ?_
  refine l_c 18 rfl (by kernel_rfl) (Qui.ylds (y_notF rfl)) rfl rfl rfl (fun _ h => h.tail) K.cl ?_
  refine l_c 19 rfl (by kernel_rfl) (Qui.ylds (y_pickF rfl rfl)) rfl rfl rfl (fun _ h => h.tail) K.cl ?_
  refine l_c 20 rfl (by kernel_rfl) (Qui.ylds (y_move rfl)) rfl rfl rfl (fun _ h => h.tail) K.cl ?_
  refine l_c 21 rfl (by kernel_rfl) (Qui.call (en_f rfl Try.call16) (fun w _ => awakeQ w)) rfl rfl rfl (fun _ h => h.tail) K.cl ?_
  refine l_c 22 rfl (by kernel_rfl) (Qui.ylds (y_pickT rfl rfl)) rfl rfl rfl (fun _ h => h.tail) K.cl ?_
  refine l_c 23 rfl (by kernel_rfl) (Qui.ylds (y_assign rfl)) rfl rfl rfl (fun _ h => h.tail) K.cl ?_
  refine l_nil (by kernel_rfl) ?_
  refine f_then ?_
  refine c_ret ?_
  exact f_ret () (res1 rfl rfl) (fun w h => h.any)
end Go.KL
end

section
/- FlowSolves: for every input the law returns true, and its arguments read as they did. No condition. -/
namespace Go.Proofs.Ytbeckcilglhkbaa
open Go.ChangeShapes Go.WideShapes Go.RowKit Go.KL
set_option linter.unusedVariables false
theorem own : ownKnob Try.prog.godebug = none := by kernel_rfl
set_option maxRecDepth 100000 in
theorem flowSolves_lifted (os : Os) (started : os.Started) (H : Type) (enc : TypeId × Value → H) :
    ReturnsInHanded {} Try.checked os 3 .any (Rows.flowSolvesSpec.pre6 enc Try.prog Try.f3 Rows.flowSolvesRow.domain false) (Rows.flowSolvesSpec.post enc Try.prog Try.f3 false true false false) := by
  refine returnsInHanded_of_change (C := Try.checked) own started (by kernel_rfl) Try.func3
    (ChangeSpec.witness6 (enc := enc) (C := Try.checked) false ⟨#[], #[.agg #[.int .i64 0, .slice none 0 0, .int .i64 0, .int .i64 0], .int .i64 0], []⟩ 8 (by kernel_rfl) (by kernel_rfl) (by kernel_rfl) (by kernel_rfl)) ?_
  intro W base args ds gs before hval hW hcnd _
  obtain ⟨p, q, hA, hV, rfl, hfz, hnd⟩ := id hW
  obtain ⟨rfl, rfl⟩ := trodVars_none hV
  obtain ⟨v0, vs0, d0, ds0, p0, q0, e0, rfl, rfl, h0, r0⟩ := trodAll_cons hA
  obtain ⟨v1, vs1, d1, ds1, p1, q1, rfl, rfl, rfl, h1, r1⟩ := trodAll_cons r0
  obtain ⟨rfl, rfl, rfl⟩ := trodAll_nil r1
  obtain rfl : args = #[v0, v1] := by cases args; simp_all
  obtain ⟨n, s, t, va, na, A, rfl, hSA, hna, hn, hs, ht, hAb⟩ := arg24 (hval 0 24 _ rfl rfl) h0
  obtain ⟨want, rfl, hwant⟩ := arg3 (hval 1 3 _ rfl rfl) h1
  refine ((flowSolves_walk W n s t want va na A hSA hna hwant.2) W (K.refl W)).mono ?_
  rintro e W' ⟨x, rfl, hk⟩
  exact ⟨_, rfl, law_post (t := 4) laidOut (by decide +kernel) rfl rfl u4 hW rfl hk.toExt⟩
/-- The statement. -/
theorem flowSolves_holds : Rows.FlowSolvesSaid :=
  OpenClaim.holds_of_wide 3 Try.f3 rfl rfl rfl rfl rfl rfl rfl ⟨rfl, rfl, rfl, rfl, rfl⟩ rfl rfl rfl rfl rfl (by kernel_rfl) Try.func3 (by kernel_rfl)
    (of_decide_eq_true (by kernel_rfl)) (by unfold Func.isWrapper; first | (rw [if_pos (by decide +kernel)]; kernel_rfl) | (rw [if_neg (by decide +kernel)]; exact ⟨rfl, rfl⟩))
    (fun os started H enc _ => flowSolves_lifted os started H enc)
end Go.Proofs.Ytbeckcilglhkbaa
end
