/- The library of the proof, part 6: a program logic over the model, walks of functions, plain laws. No condition. -/
import Derived.Test.YtcbmmldkpicaiaaGreatSerL5
section
/- Walks: the document's maps: full, Swap, move, Alike; runs. -/
namespace Go.KL
open Go.Proofs
theorem resA12 {P : Program} {n : Nat} {σ : Slots} {C : World → Prop} {fn : Func} {a u u' : Tmp} {t : TypeId} {p : Addr} {s : Nat} {l : List Value} {v v' : Value} (T : Tab P) (hr : fn.results = #[.cell a t, .tmp u, .tmp u']) (ha : lookE σ a = some (.pointer (some p))) (hu : lookE σ u = some v) (hu' : lookE σ u' = some v')
    (hg : T.agg t = some true) (hs : T.size t = some s) (hl : l.length = s) (hc : CellsAre C p l) : resOK P fn n σ C (.tuple #[.agg l.toArray, v, v']) := by
  intro act w hE hw
  have h1 := hE.atE ha
  have h2 := hE.atE hu
  have h2' := hE.atE hu'
  have h3 := run_loadVarA (P := P) T hg hs hl (hc w hw)
  rw [Array.getD_eq_getD_getElem?] at h1 h2 h2'
  simp [results, hr, h1, h2, h2', asAddr, h3]
attribute [local irreducible] SC St Fin Sq Ylds Doos Sets Enters Spec CellIs CellsAre Then Ret Rnd Chn resOK ints bools recs arr
section
variable {W : World} {N : List Chunk} {lv : Value} {n : Nat} {f : Nat → Nat}
set_option maxRecDepth 10000 in
theorem full_spec {u : Value} {c : Chunk} {R : List Rn} (hB : BufR 26 3 u c (rnl R)) (hl : R.length ≤ 4096) {lv : Value} : Spec Tryz.prog 72 #[.agg #[.int .i64 (n : Nat), lv], u] (K W (c :: N)) (fun _ : Unit => .tuple #[.agg #[.int .i64 (n : Nat), u], .int .i64 0]) (fun _ => K W (c :: N)) := by
  have hlr : (rnl R).length = R.length := List.length_map _
  obtain ⟨pa, k, rfl, _, _⟩ := (hB.view (C := K W (c :: N)) (Hs.at 0 rfl)).view
  refine enter (args := [_, _]) Tryz.func72 rfl Tryz.ntmps72 rfl ?_
  refine csr ?_
  refine sbx fun b2 => ?_
  refine sal fun b4 => ?_
  refine sa ?_
  refine snf ?_
  refine c_seq ?_
  refine csr ?_
  refine sm ?_
  refine sy (y_lenR' Tryz.tab rfl hB rfl) ?_
  refine sy (y_F (y_gtr rfl rfl) (by omega)) ?_
  refine snf ?_
  refine c_condF rfl ?_
  refine c_skip ?_
  refine f_then ?_
  refine csr ?_
  refine sf0 ?_
  refine slr 1 ?_
  refine sm ?_
  refine sy (y_build Tryz.tab rfl rfl rfl rfl rfl) ?_
  refine ss (set_box Tryz.tab 0 rfl rfl rfl rfl rfl rfl rfl) ?_
  refine sa ?_
  refine snf ?_
  refine c_ret ?_
  exact f_ret () (resA1 Tryz.tab rfl rfl rfl rfl rfl rfl (cells_row0 0 rfl rfl)) (fun w h => h.tail.tail)
set_option maxRecDepth 10000 in
set_option maxHeartbeats 8000000 in
theorem rswap_spec (h : RMp (K W N) lv n f) {lo hi fr to : Nat} (h1 : lo ≤ hi) (h2 : hi ≤ n) (h3 : fr < 16) (h4 : to < 16) (h5 : nbd (swf f lo hi fr to) n ≤ 4096) : Spec Tryz.prog 33 #[.agg #[.int .i64 (n : Nat), lv], .int .i64 (lo : Nat), .int .i64 (hi : Nat), .int .i64 (fr : Nat), .int .i64 (to : Nat), .bool false] (K W N)
    (X := { x : Value × Chunk × Nat // BufR 26 3 x.1 x.2.1 (rnl (rns (swf f lo hi fr to) 0 n)) }) (fun x => .tuple #[.agg #[.int .i64 (n : Nat), x.1.1], .int .i64 (x.1.2.2 : Nat), .int .i64 0]) (fun x => K W (x.1.2.1 :: N)) := by
  have hR := rns_ok (f := f) (lo := 0) (hi := n) (Nat.zero_le _)
  have hlen := rns_len f n
  have hV := h.v
  have hnb := h.nb
  have hpos := h.pos
  obtain ⟨pa, k, rfl, _, _⟩ := hV.view
  have hlr : (rnl (rns f 0 n)).length = (rns f 0 n).length := List.length_map _
  refine enter (args := [_, _, _, _, _, _]) Tryz.func33 rfl Tryz.ntmps33 rfl ?_
  refine csr ?_
  refine sbx fun b6 => ?_
  refine sal fun b12 => ?_
  refine sa ?_
  refine sa ?_
  refine snf ?_
  refine c_seq ?_
  refine csr ?_
  refine sy (y_loadA Tryz.tab rfl rfl rfl rfl (cells_row0 1 rfl rfl)) ?_
  refine sk Tryz.call69 (usableM_spec h.cons.cons) fun _ => ?_
  refine sy (y_notT rfl) ?_
  refine snf ?_
  refine c_condF rfl ?_
  refine c_skip ?_
  refine f_then ?_
  refine c_seq ?_
  refine csr ?_
  refine sy (y_loadA Tryz.tab rfl rfl rfl rfl (cells_row0 1 rfl rfl)) ?_
  refine sm ?_
  refine sm ?_
  refine sk Tryz.call70 (validT h.cons.cons h1 h2) fun _ => ?_
  refine sy (y_notT rfl) ?_
  refine snf ?_
  refine c_condF rfl ?_
  refine c_skip ?_
  refine f_then ?_
  refine c_seq ?_
  refine csr ?_
  refine sm ?_
  refine sy (y_notF rfl) ?_
  refine sm ?_
  refine sm ?_
  refine s_call (en_f rfl Tryz.call71) (rtagT (by omega)) rfl rfl rfl (fun _ => ?_)
  refine sy (y_notT rfl) ?_
  refine spT ?_
  refine sm ?_
  refine sm ?_
  refine s_call (en_f rfl Tryz.call71) (rtagT (by omega)) rfl rfl rfl (fun _ => ?_)
  refine sy (y_notT rfl) ?_
  refine spF ?_
  refine snf ?_
  refine c_condF rfl ?_
  refine c_skip ?_
  refine f_then ?_
  refine csr ?_
  refine sa ?_
  refine snf ?_
  refine csr ?_
  refine sa ?_
  refine snf ?_
  refine c_seq ?_
  refine csr ?_
  refine sa ?_
  refine snf ?_
  refine c_block ?_
  refine c_loopP (α := Nat × Nat × Nat × Value × Chunk × List Rn) (fun z => [(1, .int .i64 (lo : Nat)), (2, .int .i64 (hi : Nat)), (3, .int .i64 (fr : Nat)), (4, .int .i64 (to : Nat)), (5, .bool false), (6, .pointer (some ⟨b6, 0, none⟩)), (12, .pointer (some ⟨b12, 0, none⟩)), (15, z.2.2.2.1), (16, .int .i64 (z.2.2.1 : Nat)), (17, .int .i64 (z.1 : Nat))])
    (fun z => z.1 ≤ (rns f 0 n).length ∧ Rns f z.2.1 n ((rns f 0 n).drop z.1) ∧ Rns (swf f lo hi fr to) 0 z.2.1 z.2.2.2.2.2 ∧ z.2.2.2.2.2.length ≤ 3 * z.1 ∧ BufR 26 3 z.2.2.2.1 z.2.2.2.2.1 (rnl z.2.2.2.2.2) ∧ z.2.2.1 ≤ z.2.1) (fun z => K W (z.2.2.2.2.1 :: [(b12, row 37 [.int .i64 0, .slice none 0 0])] :: [(b6, row 37 [.int .i64 (n : Nat), .slice pa (rnl (rns f 0 n)).length k])] :: N)) (fun z => (rns f 0 n).length - z.1) (0, 0, 0, .slice none 0 0, [], [])
    ⟨rfl, rfl, rfl, rfl, rfl, rfl, rfl, rfl, rfl, rfl, trivial⟩ ⟨Nat.zero_le _, by rw [List.drop_zero]; exact hR, rfl, Nat.le_refl _, .nil, Nat.le_refl _⟩ (fun w h => h.addNil) ?_
  rintro ⟨i, at_, m, u, d, R⟩ ⟨g1, g2, g3, g4, g5, g6⟩
  dsimp only at g1 g2 g3 g4 g5 g6 ⊢
  have hV2 : EV (K W (d :: [(b12, row 37 [.int .i64 0, .slice none 0 0])] :: [(b6, row 37 [.int .i64 (n : Nat), .slice pa (rnl (rns f 0 n)).length k])] :: N)) (.slice pa (rnl (rns f 0 n)).length k) 3 (rnl (rns f 0 n)) := hV.cons.cons.cons
  by_cases c : i < (rns f 0 n).length
  · obtain ⟨x, hx⟩ : ∃ x, (rns f 0 n)[i]? = some x := ⟨(rns f 0 n)[i], by rw [List.getElem?_eq_getElem]⟩
    have hcx : CellsAre (K W (d :: [(b12, row 37 [.int .i64 0, .slice none 0 0])] :: [(b6, row 37 [.int .i64 (n : Nat), .slice pa (rnl (rns f 0 n)).length k])] :: N)) ⟨vblk (.slice pa (rnl (rns f 0 n)).length k), voff (.slice pa (rnl (rns f 0 n)).length k) + i * 3, none⟩ [.int .i64 (x.1 : Nat), .int .i64 (x.2.1 : Nat), .int .i64 (x.2.2 : Nat)] := hV2.row (rnl_get hx)
    rw [drop_get' hx] at g2
    obtain ⟨rfl, q2, q3, _, q5⟩ := g2
    have hc := g3.swap q2 q3
    have hxn := q5.le
    have hA : swa lo x.1 x.2.1 = max x.1 (min lo x.2.1) := rfl
    have hB : swb hi x.1 x.2.1 = min x.2.1 (max hi x.1) := rfl
    have ea : max (x.1 : Int) (min (lo : Int) (x.2.1 : Int)) = ((swa lo x.1 x.2.1 : Nat) : Int) := by omega
    have eb : min (x.2.1 : Int) (max (hi : Int) (x.1 : Int)) = ((swb hi x.1 x.2.1 : Nat) : Int) := by omega
    have j1 := fun {A : List Chunk} => rjoin_spec (W := W) (N := A) (lo := x.1) (hi := swa lo x.1 x.2.1) (tag := x.2.2) g5 (by omega)
    have l1 := jn_len R (x.1, swa lo x.1 x.2.1, x.2.2)
    by_cases ct : x.2.2 = fr
    · rw [if_pos ct] at hc
      refine c_seq ?_
      refine csr ?_
      refine sm ?_
      refine sf 1 ?_
      refine slr 2 ?_
      refine sy (y_lenE Tryz.tab rfl (hV2) rfl) ?_
      refine sy (y_T (y_lss rfl rfl) (by omega)) ?_
      refine snf ?_
      refine c_condT rfl ?_
      refine c_skip ?_
      refine f_then ?_
      refine c_seq ?_
      refine c_block ?_
      refine csr ?_
      refine sf 1 ?_
      refine slr 2 ?_
      refine sm ?_
      refine sy (y_ixE Tryz.tab rfl rfl rfl rfl (hV2) _ rfl (by omega)) ?_
      refine sy (y_loadA Tryz.tab rfl rfl rfl rfl hcx) ?_
      refine sal fun b18 => ?_
      refine ss (set_box Tryz.tab 0 rfl rfl rfl rfl rfl rfl rfl) ?_
      refine snf ?_
      refine c_seq ?_
      refine c_quiet Tryz.mixed (by kernel_rfl) K.drew ?_
      refine q_y (y_fieldAddr0 Tryz.tab rfl rfl rfl rfl rfl) rfl rfl rfl ?_
      refine q_y (y_load Tryz.tab rfl rfl (cell_row 0 rfl rfl)) rfl rfl rfl ?_
      refine q_y (y_move rfl) rfl rfl rfl ?_
      refine q_y (y_fieldAddrB Tryz.tab 1 rfl rfl rfl rfl rfl) rfl rfl rfl ?_
      refine q_y (y_load Tryz.tab rfl rfl (cell_row 0 rfl rfl)) rfl rfl rfl ?_
      refine q_y (y_min rfl rfl) rfl rfl rfl ?_
      refine q_y (y_max rfl rfl) rfl rfl rfl ?_
      refine q_y (y_fieldAddrB Tryz.tab 1 rfl rfl rfl rfl rfl) rfl rfl rfl ?_
      refine q_y (y_load Tryz.tab rfl rfl (cell_row 0 rfl rfl)) rfl rfl rfl ?_
      refine q_y (y_move rfl) rfl rfl rfl ?_
      refine q_y (y_fieldAddr0 Tryz.tab rfl rfl rfl rfl rfl) rfl rfl rfl ?_
      refine q_y (y_load Tryz.tab rfl rfl (cell_row 0 rfl rfl)) rfl rfl rfl ?_
      refine q_y (y_max rfl rfl) rfl rfl rfl ?_
      refine q_y (y_min rfl rfl) rfl rfl rfl ?_
      refine q_y (y_assign rfl) rfl rfl rfl ?_
      refine q_y (y_assign rfl) rfl rfl rfl ?_
      refine q_nil ?_
      refine f_then ?_
      refine csr ?_
      refine sf 2 ?_
      refine slr 0 ?_
      refine sa ?_
      refine snf ?_
      refine c_seq ?_
      refine csr ?_
      refine sm ?_
      refine sm ?_
      refine sf 2 ?_
      refine slr 0 ?_
      refine sm ?_
      refine sy (y_T (y_eql rfl rfl) (by omega)) ?_
      refine spF ?_
      refine snf ?_
      refine c_condT rfl ?_
      refine csr ?_
      refine sm ?_
      refine sa ?_
      refine snf ?_
      refine c_region ?_
      refine sm ?_
      refine sm ?_
      refine sm ?_
      refine sy (y_sub rfl rfl (by omega)) ?_
      refine sy (y_max rfl rfl) ?_
      refine sy (y_add rfl rfl (by omega)) ?_
      refine sa ?_
      refine snf ?_
      refine csr ?_
      refine sm ?_
      refine sf0 ?_
      refine slr 0 ?_
      refine sm ?_
      refine sf 2 ?_
      refine slr 0 ?_
      refine sy (y_build Tryz.tab rfl rfl rfl rfl rfl) ?_
      rw [ea, eb]
      skip
      refine St.cls (C' := K W (d :: [(b18, row 26 [.int .i64 (x.1 : Nat), .int .i64 (x.2.1 : Nat), .int .i64 (x.2.2 : Nat)])] :: [(b12, row 37 [.int .i64 0, .slice none 0 0])] :: [(b6, row 37 [.int .i64 (n : Nat), .slice pa (rnl (rns f 0 n)).length k])] :: N)) ?_ (fun w h => K.front 1 h)
      refine sk Tryz.call68 j1 fun y => ?_
      obtain ⟨⟨u1, d1⟩, hu1⟩ := y
      dsimp only at hu1 ⊢
      have j2 := rjoin_spec (W := W) (N := [(b18, row 26 [.int .i64 (x.1 : Nat), .int .i64 (x.2.1 : Nat), .int .i64 (x.2.2 : Nat)])] :: [(b12, row 37 [.int .i64 0, .slice none 0 0])] :: [(b6, row 37 [.int .i64 (n : Nat), .slice pa (rnl (rns f 0 n)).length k])] :: N) (lo := swa lo x.1 x.2.1) (hi := swb hi x.1 x.2.1) (tag := to) hu1 (by omega)
      have l2 := jn_len (jn R (x.1, swa lo x.1 x.2.1, x.2.2)) (swa lo x.1 x.2.1, swb hi x.1 x.2.1, to)
      refine sa ?_
      refine snf ?_
      refine csr ?_
      refine sm ?_
      refine sm ?_
      refine sm ?_
      refine sm ?_
      refine sy (y_build Tryz.tab rfl rfl rfl rfl rfl) ?_
      refine sk Tryz.call68 j2 fun y => ?_
      obtain ⟨⟨u2, d2⟩, hu2⟩ := y
      dsimp only at hu2 ⊢
      have j3 := rjoin_spec (W := W) (N := [(b18, row 26 [.int .i64 (x.1 : Nat), .int .i64 (x.2.1 : Nat), .int .i64 (x.2.2 : Nat)])] :: [(b12, row 37 [.int .i64 0, .slice none 0 0])] :: [(b6, row 37 [.int .i64 (n : Nat), .slice pa (rnl (rns f 0 n)).length k])] :: N) (lo := max (swa lo x.1 x.2.1) (swb hi x.1 x.2.1)) (hi := x.2.1) (tag := x.2.2) hu2 (by omega)
      rw [show ((max (swa lo x.1 x.2.1) (swb hi x.1 x.2.1) : Nat) : Int) = max ((swa lo x.1 x.2.1 : Nat) : Int) ((swb hi x.1 x.2.1 : Nat) : Int) by omega] at j3
      have l3 := jn_len (jn (jn R (x.1, swa lo x.1 x.2.1, x.2.2)) (swa lo x.1 x.2.1, swb hi x.1 x.2.1, to)) (max (swa lo x.1 x.2.1) (swb hi x.1 x.2.1), x.2.1, x.2.2)
      refine sa ?_
      refine snf ?_
      refine c_region ?_
      refine sm ?_
      refine sm ?_
      refine sm ?_
      refine sy (y_max rfl rfl) ?_
      refine sf 1 ?_
      refine slr 1 ?_
      refine sf 2 ?_
      refine slr 1 ?_
      refine sy (y_build Tryz.tab rfl rfl rfl rfl rfl) ?_
      refine sk Tryz.call68 j3 fun y => ?_
      obtain ⟨⟨u3, d3⟩, hu3⟩ := y
      dsimp only at hu3 ⊢
      refine sa ?_
      refine s_nil ?_
      refine f_blockN ?_
      refine f_then ?_
      refine c_region ?_
      refine sm ?_
      refine sy (y_add rfl rfl (by omega)) ?_
      refine sa ?_
      refine s_nil ?_
      rw [show (m : Int) + max 0 (((swb hi x.1 x.2.1 : Nat) : Int) - ((swa lo x.1 x.2.1 : Nat) : Int)) = ((m + (swb hi x.1 x.2.1 - swa lo x.1 x.2.1) : Nat) : Int) by omega]
      exact f_roundP (i + 1, x.2.1, m + (swb hi x.1 x.2.1 - swa lo x.1 x.2.1), u3, d3, jn (jn (jn R (x.1, swa lo x.1 x.2.1, x.2.2)) (swa lo x.1 x.2.1, swb hi x.1 x.2.1, to)) (max (swa lo x.1 x.2.1) (swb hi x.1 x.2.1), x.2.1, x.2.2)) ⟨c, q5, hc, by dsimp only; omega, hu3, by dsimp only; omega⟩ (by dsimp only; omega) ⟨rfl, rfl, rfl, rfl, rfl, rfl, rfl, rfl, rfl, rfl, trivial⟩ (fun w h => h.dropAt 1)
    · rw [if_neg ct] at hc
      refine c_seq ?_
      refine csr ?_
      refine sm ?_
      refine sf 1 ?_
      refine slr 2 ?_
      refine sy (y_lenE Tryz.tab rfl (hV2) rfl) ?_
      refine sy (y_T (y_lss rfl rfl) (by omega)) ?_
      refine snf ?_
      refine c_condT rfl ?_
      refine c_skip ?_
      refine f_then ?_
      refine c_seq ?_
      refine c_block ?_
      refine csr ?_
      refine sf 1 ?_
      refine slr 2 ?_
      refine sm ?_
      refine sy (y_ixE Tryz.tab rfl rfl rfl rfl (hV2) _ rfl (by omega)) ?_
      refine sy (y_loadA Tryz.tab rfl rfl rfl rfl hcx) ?_
      refine sal fun b18 => ?_
      refine ss (set_box Tryz.tab 0 rfl rfl rfl rfl rfl rfl rfl) ?_
      refine snf ?_
      refine c_seq ?_
      refine c_quiet Tryz.mixed (by kernel_rfl) K.drew ?_
      refine q_y (y_fieldAddr0 Tryz.tab rfl rfl rfl rfl rfl) rfl rfl rfl ?_
      refine q_y (y_load Tryz.tab rfl rfl (cell_row 0 rfl rfl)) rfl rfl rfl ?_
      refine q_y (y_move rfl) rfl rfl rfl ?_
      refine q_y (y_fieldAddrB Tryz.tab 1 rfl rfl rfl rfl rfl) rfl rfl rfl ?_
      refine q_y (y_load Tryz.tab rfl rfl (cell_row 0 rfl rfl)) rfl rfl rfl ?_
      refine q_y (y_min rfl rfl) rfl rfl rfl ?_
      refine q_y (y_max rfl rfl) rfl rfl rfl ?_
      refine q_y (y_fieldAddrB Tryz.tab 1 rfl rfl rfl rfl rfl) rfl rfl rfl ?_
      refine q_y (y_load Tryz.tab rfl rfl (cell_row 0 rfl rfl)) rfl rfl rfl ?_
      refine q_y (y_move rfl) rfl rfl rfl ?_
      refine q_y (y_fieldAddr0 Tryz.tab rfl rfl rfl rfl rfl) rfl rfl rfl ?_
      refine q_y (y_load Tryz.tab rfl rfl (cell_row 0 rfl rfl)) rfl rfl rfl ?_
      refine q_y (y_max rfl rfl) rfl rfl rfl ?_
      refine q_y (y_min rfl rfl) rfl rfl rfl ?_
      refine q_y (y_assign rfl) rfl rfl rfl ?_
      refine q_y (y_assign rfl) rfl rfl rfl ?_
      refine q_nil ?_
      refine f_then ?_
      refine csr ?_
      refine sf 2 ?_
      refine slr 0 ?_
      refine sa ?_
      refine snf ?_
      refine c_seq ?_
      refine csr ?_
      refine sm ?_
      refine sm ?_
      refine sf 2 ?_
      refine slr 0 ?_
      refine sm ?_
      refine sy (y_F (y_eql rfl rfl) (by omega)) ?_
      refine spF ?_
      refine snf ?_
      refine c_condF rfl ?_
      refine c_skip ?_
      refine f_then ?_
      refine csr ?_
      refine sm ?_
      refine sf0 ?_
      refine slr 0 ?_
      refine sm ?_
      refine sf 2 ?_
      refine slr 0 ?_
      refine sy (y_build Tryz.tab rfl rfl rfl rfl rfl) ?_
      rw [ea, eb]
      skip
      refine St.cls (C' := K W (d :: [(b18, row 26 [.int .i64 (x.1 : Nat), .int .i64 (x.2.1 : Nat), .int .i64 (x.2.2 : Nat)])] :: [(b12, row 37 [.int .i64 0, .slice none 0 0])] :: [(b6, row 37 [.int .i64 (n : Nat), .slice pa (rnl (rns f 0 n)).length k])] :: N)) ?_ (fun w h => K.front 1 h)
      refine sk Tryz.call68 j1 fun y => ?_
      obtain ⟨⟨u1, d1⟩, hu1⟩ := y
      dsimp only at hu1 ⊢
      have j2 := rjoin_spec (W := W) (N := [(b18, row 26 [.int .i64 (x.1 : Nat), .int .i64 (x.2.1 : Nat), .int .i64 (x.2.2 : Nat)])] :: [(b12, row 37 [.int .i64 0, .slice none 0 0])] :: [(b6, row 37 [.int .i64 (n : Nat), .slice pa (rnl (rns f 0 n)).length k])] :: N) (lo := swa lo x.1 x.2.1) (hi := swb hi x.1 x.2.1) (tag := x.2.2) hu1 (by omega)
      have l2 := jn_len (jn R (x.1, swa lo x.1 x.2.1, x.2.2)) (swa lo x.1 x.2.1, swb hi x.1 x.2.1, x.2.2)
      refine sa ?_
      refine snf ?_
      refine csr ?_
      refine sm ?_
      refine sm ?_
      refine sm ?_
      refine sm ?_
      refine sy (y_build Tryz.tab rfl rfl rfl rfl rfl) ?_
      refine sk Tryz.call68 j2 fun y => ?_
      obtain ⟨⟨u2, d2⟩, hu2⟩ := y
      dsimp only at hu2 ⊢
      have j3 := rjoin_spec (W := W) (N := [(b18, row 26 [.int .i64 (x.1 : Nat), .int .i64 (x.2.1 : Nat), .int .i64 (x.2.2 : Nat)])] :: [(b12, row 37 [.int .i64 0, .slice none 0 0])] :: [(b6, row 37 [.int .i64 (n : Nat), .slice pa (rnl (rns f 0 n)).length k])] :: N) (lo := max (swa lo x.1 x.2.1) (swb hi x.1 x.2.1)) (hi := x.2.1) (tag := x.2.2) hu2 (by omega)
      rw [show ((max (swa lo x.1 x.2.1) (swb hi x.1 x.2.1) : Nat) : Int) = max ((swa lo x.1 x.2.1 : Nat) : Int) ((swb hi x.1 x.2.1 : Nat) : Int) by omega] at j3
      have l3 := jn_len (jn (jn R (x.1, swa lo x.1 x.2.1, x.2.2)) (swa lo x.1 x.2.1, swb hi x.1 x.2.1, x.2.2)) (max (swa lo x.1 x.2.1) (swb hi x.1 x.2.1), x.2.1, x.2.2)
      refine sa ?_
      refine snf ?_
      refine c_region ?_
      refine sm ?_
      refine sm ?_
      refine sm ?_
      refine sy (y_max rfl rfl) ?_
      refine sf 1 ?_
      refine slr 1 ?_
      refine sf 2 ?_
      refine slr 1 ?_
      refine sy (y_build Tryz.tab rfl rfl rfl rfl rfl) ?_
      refine sk Tryz.call68 j3 fun y => ?_
      obtain ⟨⟨u3, d3⟩, hu3⟩ := y
      dsimp only at hu3 ⊢
      refine sa ?_
      refine s_nil ?_
      refine f_blockN ?_
      refine f_then ?_
      refine c_region ?_
      refine sm ?_
      refine sy (y_add rfl rfl (by omega)) ?_
      refine sa ?_
      refine s_nil ?_
      exact f_roundP (i + 1, x.2.1, m, u3, d3, jn (jn (jn R (x.1, swa lo x.1 x.2.1, x.2.2)) (swa lo x.1 x.2.1, swb hi x.1 x.2.1, x.2.2)) (max (swa lo x.1 x.2.1) (swb hi x.1 x.2.1), x.2.1, x.2.2)) ⟨c, q5, hc, by dsimp only; omega, hu3, by dsimp only; omega⟩ (by dsimp only; omega) ⟨rfl, rfl, rfl, rfl, rfl, rfl, rfl, rfl, rfl, rfl, trivial⟩ (fun w h => h.dropAt 1)
  · obtain rfl : i = (rns f 0 n).length := by omega
    rw [List.drop_length] at g2
    obtain rfl : at_ = n := g2
    have hRl : R.length ≤ 4096 := by rw [g3.eq, rns_len]; exact h5
    obtain ⟨pu, ku, rfl, _, _⟩ := (g5.view (C := K W (d :: N)) (Hs.at 0 rfl)).view
    refine c_seq ?_
    refine csr ?_
    refine sm ?_
    refine sf 1 ?_
    refine slr 2 ?_
    refine sy (y_lenE Tryz.tab rfl (hV2) rfl) ?_
    refine sy (y_F (y_lss rfl rfl) (by omega)) ?_
    refine snf ?_
    refine c_condF rfl ?_
    refine c_exit ?_
    refine f_thenE ?_
    refine f_rndE ?_
    refine f_blockE ?_
    refine f_then ?_
    refine csr ?_
    refine sy (y_loadA Tryz.tab rfl rfl rfl rfl (cells_row0 2 rfl rfl)) ?_
    refine sm ?_
    refine sk Tryz.call72 (full_spec g5 hRl) fun _ => ?_
    refine sm ?_
    refine sx ?_
    refine sx ?_
    refine sal fun b22 => ?_
    refine ss (set_box Tryz.tab 0 rfl rfl rfl rfl rfl rfl rfl) ?_
    refine sa ?_
    refine snf ?_
    refine c_seq ?_
    refine csr ?_
    refine sm ?_
    refine sy (y_F (y_neq rfl rfl) (by omega)) ?_
    refine snf ?_
    refine c_condF rfl ?_
    refine c_skip ?_
    refine f_then ?_
    refine csr ?_
    refine sy (y_loadA Tryz.tab rfl rfl rfl rfl (cells_row0 0 rfl rfl)) ?_
    refine sm ?_
    refine ss (set_box Tryz.tab 2 rfl rfl rfl rfl rfl rfl rfl) ?_
    refine sa ?_
    refine sa ?_
    refine snf ?_
    refine c_ret ?_
    exact f_ret ⟨(_, d, m), g5.of (by rw [g3.eq])⟩ (resA12 Tryz.tab rfl rfl rfl rfl rfl rfl rfl (cells_row0 2 rfl rfl)) (fun w h => (h.tail.dropAt 1).dropAt 1)
theorem rmove_spec (h : RMp (K W N) lv n f) {o : Oa} {rv : Value} (h1 : o.lo ≤ o.hi) (h2 : o.hi ≤ n) (h3 : o.fr < 16) (h4 : o.to < 16) (h5 : nbd (swf f o.lo o.hi o.fr o.to) n ≤ 4096) : Spec Tryz.prog 80 #[.agg #[.int .i64 (n : Nat), lv], .agg #[.bool o.mv, .int .i64 (o.lo : Nat), .int .i64 (o.hi : Nat), .int .i64 (o.fr : Nat), .int .i64 (o.to : Nat), rv]] (K W N)
    (X := { x : Value × Chunk // BufR 26 3 x.1 x.2 (rnl (rns (swf f o.lo o.hi o.fr o.to) 0 n)) }) (fun x => .agg #[.int .i64 (n : Nat), x.1.1]) (fun x => K W (x.1.2 :: N)) := by
  have hV := h.v
  obtain ⟨pa, k, rfl, _, _⟩ := hV.view
  refine enter (args := [_, _]) Tryz.func80 rfl Tryz.ntmps80 rfl ?_
  refine csr ?_
  refine sbx fun b2 => ?_
  refine sbx fun b3 => ?_
  refine sal fun b4 => ?_
  refine snf ?_
  refine csr ?_
  refine sy (y_loadA Tryz.tab rfl rfl rfl rfl (cells_row0 2 rfl rfl)) ?_
  refine sf 1 ?_
  refine slr 1 ?_
  refine sf 2 ?_
  refine slr 1 ?_
  refine sf 3 ?_
  refine slr 1 ?_
  refine sf 4 ?_
  refine slr 1 ?_
  refine sk Tryz.call33 (rswap_spec h.cons.cons.cons h1 h2 h3 h4 h5) fun y => ?_
  obtain ⟨⟨u, d, m⟩, hu⟩ := y
  dsimp only at hu ⊢
  obtain ⟨pu, ku, rfl, _, _⟩ := (hu.view (C := K W (d :: N)) (Hs.at 0 rfl)).view
  refine sm ?_
  refine sx ?_
  refine sx ?_
  refine sx ?_
  refine sal fun b5 => ?_
  refine ss (set_box Tryz.tab 0 rfl rfl rfl rfl rfl rfl rfl) ?_
  refine sa ?_
  refine sa ?_
  refine snf ?_
  refine c_seq ?_
  refine csr ?_
  refine sm ?_
  refine sy (y_F (y_neq rfl rfl) (by omega)) ?_
  refine snf ?_
  refine c_condF rfl ?_
  refine c_skip ?_
  refine f_then ?_
  refine csr ?_
  refine sy (y_loadA Tryz.tab rfl rfl rfl rfl (cells_row0 0 rfl rfl)) ?_
  refine ss (set_box Tryz.tab 2 rfl rfl rfl rfl rfl rfl rfl) ?_
  refine snf ?_
  refine c_ret ?_
  exact f_ret ⟨(_, d), hu⟩ (resA Tryz.tab rfl rfl rfl rfl rfl (cells_row0 2 rfl rfl)) (fun w h => ((h.tail.dropAt 1).dropAt 1).dropAt 1)
end
section
variable {W : World} {N : List Chunk} {a b : Value} {R R' : List Rn}
theorem rnc_inj {x y : Rn} (h : rnc x = rnc y) : x = y := by
  unfold rnc at h
  simp only [List.cons.injEq, Value.int.injEq, true_and, and_true] at h
  exact Prod.ext (by omega) (Prod.ext (by omega) (by omega))
set_option maxRecDepth 10000 in
set_option maxHeartbeats 4000000 in
theorem alike_spec (hA : EV (K W N) a 3 (rnl R)) (hB : EV (K W N) b 3 (rnl R')) (hl : R.length < 1000000) : Spec Tryz.prog 34 #[a, b] (K W N) (fun _ : Unit => .bool (decide (R = R'))) (fun _ => K W N) := by
  have hla : (rnl R).length = R.length := List.length_map _
  have hlb : (rnl R').length = R'.length := List.length_map _
  refine enter (args := [_, _]) Tryz.func34 rfl Tryz.ntmps34 rfl ?_
  by_cases c0 : R.length = R'.length
  · refine csr ?_
    refine sa ?_
    refine snf ?_
    refine c_seq ?_
    refine csr ?_
    refine sm ?_
    refine sy (y_lenE Tryz.tab rfl (hA) rfl) ?_
    refine sm ?_
    refine sy (y_lenE Tryz.tab rfl (hB) rfl) ?_
    refine sy (y_F (y_neq rfl rfl) (by omega)) ?_
    refine snf ?_
    refine c_condF rfl ?_
    refine c_skip ?_
    refine f_then ?_
    refine c_seq ?_
    refine csr ?_
    refine sa ?_
    refine snf ?_
    refine c_block ?_
    refine c_loopP (α := Nat) (fun z => [(0, a), (1, b), (5, .int .i64 (z : Nat))]) (fun z => z ≤ R.length ∧ R.take z = R'.take z) (fun _ => K W N) (fun z => R.length - z) 0 ⟨rfl, rfl, rfl, trivial⟩ ⟨Nat.zero_le _, rfl⟩ (fun w h => h) ?_
    rintro i ⟨g1, g2⟩
    by_cases c : i < R.length
    · obtain ⟨x, hx⟩ : ∃ x, R[i]? = some x := ⟨R[i], by rw [List.getElem?_eq_getElem]⟩
      obtain ⟨y, hy⟩ : ∃ y, R'[i]? = some y := ⟨R'[i]'(by omega), by rw [List.getElem?_eq_getElem]⟩
      have hcx : CellsAre (K W N) ⟨vblk a, voff a + i * 3, none⟩ [.int .i64 (x.1 : Nat), .int .i64 (x.2.1 : Nat), .int .i64 (x.2.2 : Nat)] := hA.row (rnl_get hx)
      have hcy : CellsAre (K W N) ⟨vblk b, voff b + i * 3, none⟩ [.int .i64 (y.1 : Nat), .int .i64 (y.2.1 : Nat), .int .i64 (y.2.2 : Nat)] := hB.row (rnl_get hy)
      by_cases e : x = y
      · subst e
        refine c_seq ?_
        refine csr ?_
        refine sm ?_
        refine sm ?_
        refine sy (y_lenE Tryz.tab rfl (hA) rfl) ?_
        refine sy (y_T (y_lss rfl rfl) (by omega)) ?_
        refine snf ?_
        refine c_condT rfl ?_
        refine c_skip ?_
        refine f_then ?_
        refine c_seq ?_
        refine c_block ?_
        refine c_seq ?_
        refine c_quiet Tryz.mixed (by kernel_rfl) K.drew ?_
        refine q_y (y_move rfl) rfl rfl rfl ?_
        refine q_y (y_move rfl) rfl rfl rfl ?_
        refine q_y (y_ixE Tryz.tab rfl rfl rfl rfl (hA) _ rfl (by omega)) rfl rfl rfl ?_
        refine q_y (y_loadA Tryz.tab rfl rfl rfl rfl hcx) rfl rfl rfl ?_
        refine q_y (y_move rfl) rfl rfl rfl ?_
        refine q_y (y_move rfl) rfl rfl rfl ?_
        refine q_y (y_ixE Tryz.tab rfl rfl rfl rfl (hB) _ rfl (by omega)) rfl rfl rfl ?_
        refine q_y (y_loadA Tryz.tab rfl rfl rfl rfl hcy) rfl rfl rfl ?_
        refine q_y (y_neqS Tryz.tab rfl rfl rfl (by kernel_rfl) (by kernel_rfl) rfl rfl) rfl rfl rfl ?_
        refine q_nil ?_
        refine f_then ?_
        refine c_cond rfl (fun h => by simp at h) (fun _ => ?_)
        refine c_skip ?_
        refine f_blockN ?_
        refine f_then ?_
        refine c_region ?_
        refine sm ?_
        refine sy (y_add rfl rfl (by omega)) ?_
        refine sa ?_
        refine s_nil ?_
        exact f_roundP (i + 1) ⟨c, by rw [List.take_add_one, List.take_add_one, g2, hx, hy]⟩ (by omega) ⟨rfl, rfl, rfl, trivial⟩ (fun w h => h)
      · have hne : ¬ R = R' := fun h => by
          rw [h, hy] at hx
          exact e (Option.some.inj hx).symm
        rw [decide_eq_false hne]
        refine c_seq ?_
        refine csr ?_
        refine sm ?_
        refine sm ?_
        refine sy (y_lenE Tryz.tab rfl (hA) rfl) ?_
        refine sy (y_T (y_lss rfl rfl) (by omega)) ?_
        refine snf ?_
        refine c_condT rfl ?_
        refine c_skip ?_
        refine f_then ?_
        refine c_seq ?_
        refine c_block ?_
        refine c_seq ?_
        refine c_quiet Tryz.mixed (by kernel_rfl) K.drew ?_
        refine q_y (y_move rfl) rfl rfl rfl ?_
        refine q_y (y_move rfl) rfl rfl rfl ?_
        refine q_y (y_ixE Tryz.tab rfl rfl rfl rfl (hA) _ rfl (by omega)) rfl rfl rfl ?_
        refine q_y (y_loadA Tryz.tab rfl rfl rfl rfl hcx) rfl rfl rfl ?_
        refine q_y (y_move rfl) rfl rfl rfl ?_
        refine q_y (y_move rfl) rfl rfl rfl ?_
        refine q_y (y_ixE Tryz.tab rfl rfl rfl rfl (hB) _ rfl (by omega)) rfl rfl rfl ?_
        refine q_y (y_loadA Tryz.tab rfl rfl rfl rfl hcy) rfl rfl rfl ?_
        refine q_y (y_neqS Tryz.tab rfl rfl rfl (by kernel_rfl) (by kernel_rfl) rfl rfl) rfl rfl rfl ?_
        refine q_nil ?_
        refine f_then ?_
        refine c_cond rfl (fun _ => ?_) (fun h => absurd (show rnc x = rnc y by simpa [rnc] using h) fun h2 => e (rnc_inj h2))
        refine csr ?_
        refine sa ?_
        refine snf ?_
        refine c_ret ?_
        refine f_blockR ?_
        refine f_thenR ?_
        refine f_rndR ?_
        refine f_blockR ?_
        refine f_thenR ?_
        exact f_ret () (res1 rfl rfl) (fun w h => h)
    · have he : R = R' := by
        rw [List.take_of_length_le (by omega), List.take_of_length_le (by omega)] at g2
        exact g2
      rw [decide_eq_true he]
      refine c_seq ?_
      refine csr ?_
      refine sm ?_
      refine sm ?_
      refine sy (y_lenE Tryz.tab rfl (hA) rfl) ?_
      refine sy (y_F (y_lss rfl rfl) (by omega)) ?_
      refine snf ?_
      refine c_condF rfl ?_
      refine c_exit ?_
      refine f_thenE ?_
      refine f_rndE ?_
      refine f_blockE ?_
      refine f_then ?_
      refine csr ?_
      refine sa ?_
      refine snf ?_
      refine c_ret ?_
      exact f_ret () (res1 rfl rfl) (fun w h => h)
  · rw [decide_eq_false (show ¬ R = R' from fun e => c0 (by rw [e]))]
    refine csr ?_
    refine sa ?_
    refine snf ?_
    refine c_seq ?_
    refine csr ?_
    refine sm ?_
    refine sy (y_lenE Tryz.tab rfl (hA) rfl) ?_
    refine sm ?_
    refine sy (y_lenE Tryz.tab rfl (hB) rfl) ?_
    refine sy (y_T (y_neq rfl rfl) (by omega)) ?_
    refine snf ?_
    refine c_condT rfl ?_
    refine csr ?_
    refine sa ?_
    refine snf ?_
    refine c_ret ?_
    refine f_thenR ?_
    exact f_ret () (res1 rfl rfl) (fun w h => h)
set_option maxRecDepth 10000 in
set_option maxHeartbeats 4000000 in
theorem runsEq_spec {p : Chunk} {mv lv : Value} {n : Nat} {f : Nat → Nat} (hM : MV p mv n f) (hnb : nbd f n ≤ 4096) (h : RMp (K W N) lv n f) : Spec Tryz.prog 24 #[.agg #[mv], .agg #[.int .i64 (n : Nat), lv]] (K W (p :: N)) (fun _ : Unit => .bool true) (fun _ => K W (p :: N)) := by
  have hV := h.v
  have hpos := h.pos
  obtain ⟨pa, k, rfl, _, _⟩ := hV.view
  obtain ⟨a, rfl⟩ := hM.ptr
  refine enter (args := [_, _]) Tryz.func24 rfl Tryz.ntmps24 rfl ?_
  refine csr ?_
  refine sbx fun b2 => ?_
  refine sbx fun b3 => ?_
  refine sa ?_
  refine snf ?_
  refine c_seq ?_
  refine SC.cls (C' := K W (p :: [(b3, row 37 [.int .i64 (n : Nat), .slice pa (rnl (rns f 0 n)).length k])] :: [(b2, row 29 [.pointer (some a)])] :: N)) ?_ (fun w h => K.front 2 h)
  refine c_plan [.c 0, .c 1, .s 2, .s 3, .c 4, .c 5, .c 6, .c 7, .c 8] [] ((K W [[(b3, row 37 [.int .i64 (n : Nat), .slice pa (rnl (rns f 0 n)).length k])], [(b2, row 29 [.pointer (some a)])]])) Tryz.mixed (by kernel_rfl) rfl K.cl ?_
  have hD := fun (w : World) (h : K W (p :: [(b3, row 37 [.int .i64 (n : Nat), .slice pa (rnl (rns f 0 n)).length k])] :: [(b2, row 29 [.pointer (some a)])] :: N) w) => h.tail.keep 2
  refine dy rfl (y_loadA Tryz.tab rfl rfl rfl rfl (cells_row0 1 rfl rfl)) hD ?_
  refine dy rfl (y_loadA Tryz.tab rfl rfl rfl rfl (cells_row0 1 rfl rfl)) hD ?_
  refine d_call rfl (en_f rfl Tryz.call36) (msize_spec hM) rfl rfl rfl (fun _ => K.cl) (fun _ _ _ h => h.tail.keep 2) (fun _ => ?_)
  skip
  refine d_call rfl (en_f rfl Tryz.call60) (mruns_spec (lo := 0) (most := 1048576) hM (Nat.zero_le _) (Nat.le_refl _) (by omega) hnb) rfl rfl rfl (fun _ => K.cl) (fun _ _ _ h => h.tail.tail.keep 2) (fun y => ?_)
  obtain ⟨⟨u, d⟩, hu⟩ := y
  have hu := bufR_runs hu
  dsimp only at hu ⊢
  clear hD
  have hD := fun (w : World) (h : K W (d :: p :: [(b3, row 37 [.int .i64 (n : Nat), .slice pa (rnl (rns f 0 n)).length k])] :: [(b2, row 29 [.pointer (some a)])] :: N) w) => h.tail.tail.keep 2
  refine dy rfl (y_move rfl) hD ?_
  refine dy rfl (y_extract rfl rfl) hD ?_
  refine dy rfl (y_extract rfl rfl) hD ?_
  refine dy rfl (y_assign rfl) hD ?_
  refine dy rfl (y_assign rfl) hD ?_
  refine d_nil ?_
  refine f_then ?_
  refine c_seq ?_
  refine SC.cls (C' := K W (p :: d :: [(b3, row 37 [.int .i64 (n : Nat), .slice pa (rnl (rns f 0 n)).length k])] :: [(b2, row 29 [.pointer (some a)])] :: N)) ?_ (fun w h => K.front 1 h)
  have hEu : EV (K W (p :: d :: [(b3, row 37 [.int .i64 (n : Nat), .slice pa (rnl (rns f 0 n)).length k])] :: [(b2, row 29 [.pointer (some a)])] :: N)) u 3 (rnl (rns f 0 n)) := hu.view (Hs.at 1 rfl)
  have hEl : EV (K W (p :: d :: [(b3, row 37 [.int .i64 (n : Nat), .slice pa (rnl (rns f 0 n)).length k])] :: [(b2, row 29 [.pointer (some a)])] :: N)) (.slice pa (rnl (rns f 0 n)).length k) 3 (rnl (rns f 0 n)) := hV.cons.cons.cons.cons
  have hal := alike_spec hEu hEl (by rw [rns_len]; omega)
  rw [decide_eq_true rfl] at hal
  clear hD
  have hD := fun (w : World) (h : K W (p :: d :: [(b3, row 37 [.int .i64 (n : Nat), .slice pa (rnl (rns f 0 n)).length k])] :: [(b2, row 29 [.pointer (some a)])] :: N) w) => h.tail.tail.keep 2
  refine c_plan [.c 0, .c 2, .c 3, .s 1, .c 4, .c 5, .c 6, .c 7, .c 8, .c 9, .c 10, .c 11, .c 12, .s 13, .c 14, .c 15] [] ((K W [[(b3, row 37 [.int .i64 (n : Nat), .slice pa (rnl (rns f 0 n)).length k])], [(b2, row 29 [.pointer (some a)])]])) Tryz.mixed (by kernel_rfl) rfl K.cl ?_
  refine dy rfl (y_loadA Tryz.tab rfl rfl rfl rfl (cells_row0 1 rfl rfl)) hD ?_
  refine dy rfl (y_fieldAddr0 Tryz.tab rfl rfl rfl rfl rfl) hD ?_
  refine dy rfl (y_load Tryz.tab rfl rfl (cell_row 0 rfl rfl)) hD ?_
  refine d_call rfl (en_f rfl Tryz.call36) (msize_spec hM) rfl rfl rfl (fun _ => K.cl) (fun _ _ _ h => h.tail.tail.keep 2) (fun _ => ?_)
  refine dy rfl (y_T (y_eql rfl rfl) (by omega)) hD ?_
  refine dy rfl (y_move rfl) hD ?_
  refine dy rfl (y_move rfl) hD ?_
  refine dy rfl (y_T (y_eql rfl rfl) (by omega)) hD ?_
  refine dy rfl (y_pickT rfl rfl) hD ?_
  refine dy rfl (y_move rfl) hD ?_
  refine dy rfl (y_move rfl) hD ?_
  refine dy rfl (y_fieldAddrB Tryz.tab 1 rfl rfl rfl rfl rfl) hD ?_
  refine dy rfl (y_load Tryz.tab rfl rfl (cell_row 0 rfl rfl)) hD ?_
  refine d_call rfl (en_f rfl Tryz.call34) hal rfl rfl rfl (fun _ => K.cl) (fun _ _ _ h => h.tail.tail.keep 2) (fun _ => ?_)
  refine dy rfl (y_pickT rfl rfl) hD ?_
  refine dy rfl (y_assign rfl) hD ?_
  refine d_nil ?_
  refine f_then ?_
  refine c_ret ?_
  exact f_ret () (res1 rfl rfl) (fun w h => ((h.dropAt 1).dropAt 1).dropAt 1)
end
end Go.KL
end

section
/- Walks: few; Log of a book that has committed nothing. -/
namespace Go.KL
open Go.Proofs
attribute [local irreducible] SC St Fin Sq Ylds Doos Sets Enters Spec CellIs CellsAre Then Ret Rnd Chn resOK ints bools recs arr
section
variable {g : Bg} {W : World} {N : List Chunk}
theorem runsNow {lv : Value} {n : Nat} {f : Nat → Nat} (hB : g.OK) (hz : g.size = n) (hC : g.C = f) (h : RMp (K W N) lv n f) : Spec Tryz.prog 24 #[.agg #[g.cv], .agg #[.int .i64 (n : Nat), lv]] (K W (g.L ++ N)) (fun _ : Unit => .bool true) (fun _ => K W (g.L ++ N)) := by
  have hM := hB.mC
  rw [hz, hC] at hM
  exact runsEq_spec (p := g.p) (N := g.L.tail ++ N) hM h.nb (h.cls fun w h => K.bck h)
end
end Go.KL
end

section
/- Walks: Log of a book. -/
namespace Go.KL
open Go.Proofs
theorem K.mrg {W w : World} {A B : List Chunk} {D : Chunk} (h : K W A w) (p : ∀ x : Nat × Obj, ∀ (_ : DecidableEq (Nat × Obj)), A.flatten.count x = B.flatten.count x + D.count x) : K W B w := h.weak D (by
  haveI : DecidableEq (Nat × Obj) := fun a b => Classical.propDecidable (a = b)
  exact List.perm_iff_count.2 fun x => by rw [p x _, List.count_append])
theorem K.mrg2 {W w : World} {x c y d r N} (h : K W (x :: c :: y :: d :: r :: N) w) : K W (d :: (c ++ r) :: N) w := h.mrg (D := x ++ y) fun z _ => by
  simp only [List.flatten_cons, List.count_append]
  omega
theorem K.mrg3 {W w : World} {x c y d r N} (h : K W (x :: c :: y :: d :: r :: N) w) : K W (c :: y :: d :: (x ++ r) :: N) w := h.mrg (D := []) fun z _ => by
  simp only [List.flatten_cons, List.count_append, List.count_nil]
  omega
theorem K.mrg1 {W w : World} {d p N} (h : K W (d :: p :: N) w) : K W ((d ++ p) :: N) w := h.mrg (D := []) fun z _ => by
  simp only [List.flatten_cons, List.count_append, List.count_nil]
  omega
section
variable {e : TypeId} {s : Nat} {v : Value} {c p : Chunk} {rows : List (List Value)}
theorem BufR.put {i j : Nat} {x : List Value} (h : BufR e s v c rows) (hi : rows[i]? = some x) (hj : j < s) :
    ∃ (o : Own) (l : List Value), v = .slice (some ⟨o.b, 0, none⟩) rows.length o.cap ∧ c = [(o.b, row e l)] ∧ i * s + j < l.length ∧ ∀ z, BufR e s v [(o.b, row e (l.set (i * s + j) z))] (rows.set i (x.set j z)) := by
  have hil : i < rows.length := (List.getElem?_eq_some_iff.1 hi).1
  have hx : x.length = s := h.len x (List.mem_of_getElem? hi)
  rcases h.buf.ok with ⟨h0, _⟩ | ⟨o, hv, hc, ho, hp⟩
  · omega
  obtain ⟨b, cap, pre, rest⟩ := o
  dsimp only at hp
  subst hp
  have hfl := flat_len h.len
  have hlt : i * s + j < rows.flatten.length := by
    rw [hfl]
    have : (i + 1) * s ≤ rows.length * s := Nat.mul_le_mul_right s hil
    rw [Nat.add_mul] at this
    omega
  have hset : ∀ z, (rows.set i (x.set j z)).flatten = rows.flatten.set (i * s + j) z := fun z => by
    have hl2 : lens s (rows.set i (x.set j z)) := fun y hy => by
      rcases List.mem_or_eq_of_mem_set hy with hy | rfl
      · exact h.len y hy
      · rw [List.length_set, hx]
    apply List.ext_getElem?
    intro n
    by_cases c : n < rows.length * s
    · have hs : 0 < s := by omega
      have h1 : n / s < rows.length := (Nat.div_lt_iff_lt_mul hs).2 c
      have h2 := Nat.mod_lt n hs
      have e1 : n / s * s + n % s = n := Nat.div_add_mod' n s
      obtain ⟨y, hy⟩ : ∃ y, rows[n / s]? = some y := ⟨rows[n / s], by simp [h1]⟩
      by_cases c2 : n / s = i
      · have hy' : rows[n / s]? = some x := by rw [c2]; exact hi
        have hg : (rows.set i (x.set j z))[n / s]? = some (x.set j z) := by rw [c2, List.getElem?_set_self hil]
        have h3 := flat_get hl2 hg h2
        have h4 := flat_get h.len hy' h2
        rw [e1] at h3 h4
        rw [h3]
        by_cases c3 : n % s = j
        · have e2 : i * s + j = n := by rw [← c2, ← c3]; exact e1
          rw [e2, List.getElem?_set_self (by rw [hfl]; exact c), c3, List.getElem?_set_self (by omega)]
        · have e2 : i * s + j ≠ n := fun e => c3 (by rw [← c2] at e; omega)
          rw [List.getElem?_set_ne e2, List.getElem?_set_ne (fun e => c3 e.symm), h4]
      · have hg : (rows.set i (x.set j z))[n / s]? = some y := by rw [List.getElem?_set_ne (fun e => c2 e.symm)]; exact hy
        have h3 := flat_get hl2 hg h2
        have h4 := flat_get h.len hy h2
        rw [e1] at h3 h4
        have e2 : i * s + j ≠ n := fun e => c2 (by rw [← e, Nat.mul_comm, Nat.mul_add_div hs, Nat.div_eq_of_lt hj]; omega)
        rw [h3, List.getElem?_set_ne e2, h4]
    · rw [List.getElem?_eq_none (by rw [flat_len hl2, List.length_set]; omega), List.getElem?_eq_none (by rw [List.length_set, hfl]; omega)]
  refine ⟨⟨b, cap, [], rest⟩, rows.flatten ++ rest, hv, ?_, ?_, fun z => ?_⟩
  · rw [hc]; simp
  · rw [List.length_append]; omega
  · refine ⟨fun y hy => ?_, ⟨.inr ⟨⟨b, cap, [], rest⟩, by rw [List.length_set]; exact hv, ?_, ?_, rfl⟩⟩⟩
    · rcases List.mem_or_eq_of_mem_set hy with hy | rfl
      · exact h.len y hy
      · rw [List.length_set, hx]
    · show [(b, row e ((rows.flatten ++ rest).set (i * s + j) z))] = [(b, row e ([] ++ (rows.set i (x.set j z)).flatten ++ rest))]
      rw [hset, List.set_append_left _ _ hlt, List.nil_append]
    · rw [List.length_set]
      exact ⟨ho.le, ho.max, by rw [flat_len (show lens s (rows.set i (x.set j z)) from fun y hy => by
        rcases List.mem_or_eq_of_mem_set hy with hy | rfl
        · exact h.len y hy
        · rw [List.length_set, hx]), List.length_set], ho.room⟩
end
theorem opl_ones {p : Chunk} {os : List Ov} (h : OpsV p os) : ones (opl os) := fun x hx y hy => by
  obtain ⟨o, ho, rfl⟩ := List.mem_map.1 hx
  simp only [opc, List.mem_cons, List.not_mem_nil, or_false] at hy
  rcases hy with rfl | rfl | rfl | rfl | rfl | rfl
  · rfl
  · rfl
  · rfl
  · rfl
  · rfl
  · exact (h o ho).one
end Go.KL
end

section
/- Walks: Log of a book, in full. -/
namespace Go.KL
open Go.Proofs
attribute [local irreducible] SC St Fin Sq Ylds Doos Sets Enters Spec CellIs CellsAre Then Ret Rnd Chn resOK ints bools recs arr
section
variable {g : Bg} {W : World} {N : List Chunk}
abbrev lgr (ls : List Lg) : List (List Value) := ls.map fun x => [.int .i64 (x.1 : Nat), x.2.1]
structure LgV (p : Chunk) (v : Value) (ls : List Lg) : Prop where
  v : PE p v 2 (lgr ls)
  o : ∀ x ∈ ls, PE p x.2.1 6 (opl x.2.2) ∧ OpsV p x.2.2
theorem opl_get2 {os : List Ov} {i : Nat} {x : Ov} (h : os[i]? = some x) : (opl os)[i]? = some (opc x.1 x.2) := by simp [h]
set_option maxRecDepth 10000 in
set_option maxHeartbeats 8000000 in
theorem Log_b (hB : g.OK) (hl : g.ls.length < 1000000) (hn : ∀ x ∈ g.ls, x.2.2.length < 1000000 ∧ ∀ o ∈ x.2.2, o.1.runs.length < 1000000) : Spec Tryz.prog 22 #[.pointer (some ⟨g.b, 0, none⟩)] (K W (g.L ++ N))
    (X := { x : Value × List Lg × Chunk // LgV x.2.2 x.1 x.2.1 ∧ (x.2.1.map fun y => (y.1, ops y.2.2)) = g.bk.log }) (fun x => x.1.1) (fun x => K W (x.1.2.2 :: (g.L ++ N))) := by
  have hus := usable_spec (hB.bf (C := K W (g.L ++ N)) Hs.bk)
  obtain ⟨f0, f1, f2, f3, f4, f5, fq, fl, fea, fer⟩ := hB.bf (C := K W (g.L ++ N)) Hs.bk
  have hpp : Hs (K W (g.L ++ N)) g.p := Hs.sub (c := g.L.flatten) Hs.bk fun e he => by simp [he]
  refine enter (args := [_]) Tryz.func22 rfl Tryz.ntmps22 rfl ?_
  refine csr ?_
  refine sa ?_
  refine snf ?_
  refine c_seq ?_
  refine csr ?_
  refine sm ?_
  refine sk Tryz.call52 hus fun _ => ?_
  refine sy (y_notT rfl) ?_
  refine snf ?_
  refine c_condF rfl ?_
  refine c_skip ?_
  refine f_then ?_
  refine csr ?_
  refine sa ?_
  refine snf ?_
  refine c_seq ?_
  refine csr ?_
  refine sm ?_
  refine sn ?_
  refine sf 5 ?_
  refine sl f5 ?_
  refine sy (y_lenE Tryz.tab rfl (fl) rfl) ?_
  refine sm ?_
  refine snf ?_
  refine c_block ?_
  refine c_loopP (α := Nat × Value × Chunk × List Lg × Chunk) (fun z => [(3, z.2.1), (14, g.lv), (15, .int .i64 (lgr g.ls).length), (16, .int .i64 (z.1 : Nat))])
    (fun z => z.1 ≤ g.ls.length ∧ BufR 58 2 z.2.1 z.2.2.1 (lgr z.2.2.2.1) ∧ (z.2.2.2.1.map fun y => (y.1, ops y.2.2)) = g.bk.log.take z.1 ∧ ∀ x ∈ z.2.2.2.1, PE z.2.2.2.2 x.2.1 6 (opl x.2.2) ∧ OpsV z.2.2.2.2 x.2.2)
    (fun z => K W (z.2.2.1 :: z.2.2.2.2 :: (g.L ++ N))) (fun z => g.ls.length - z.1) (0, .slice none 0 0, [], [], []) ⟨rfl, rfl, rfl, rfl, trivial⟩ ⟨Nat.zero_le _, .nil, rfl, fun x hx => by simp at hx⟩ (fun w h => h.addNil.addNil) ?_
  rintro ⟨i, u, d, ls, p⟩ ⟨hi, hu, hls, hP⟩
  dsimp only at hi hu hls hP ⊢
  have hlr : (lgr g.ls).length = g.ls.length := List.length_map _
  have hbl : g.bk.log.length = g.ls.length := List.length_map _
  have fl' : EV (K W (d :: p :: (g.L ++ N))) g.lv 2 (lgr g.ls) := fl.cons.cons
  by_cases c1 : i < g.ls.length
  · obtain ⟨⟨tx, ov, os⟩, hx⟩ : ∃ x, g.ls[i]? = some x := ⟨g.ls[i], by simp [c1]⟩
    have hxm := List.mem_of_getElem? hx
    obtain ⟨hn1, hn2⟩ := hn _ hxm
    obtain ⟨hO, hR⟩ := hB.lO _ hxm
    dsimp only at hn1 hn2 hO hR
    have hcell := fl'.row (i := i) (x := [.int .i64 (tx : Nat), ov]) (by simp [hx])
    have hov := hO.ev hpp
    obtain ⟨pa, k0, rfl, _, _⟩ := hov.view
    have hol : (opl os).length = os.length := List.length_map _
    refine csr ?_
    refine sy (y_T (y_lss rfl rfl) (by omega)) ?_
    refine snf ?_
    refine c_seq ?_
    refine c_condT rfl ?_
    refine c_skip ?_
    refine f_then ?_
    refine c_seq ?_
    refine c_block ?_
    refine csr ?_
    refine sy (y_ixE Tryz.tab rfl rfl rfl rfl (fl') _ rfl (by omega)) ?_
    refine sy (y_loadA Tryz.tab rfl rfl rfl rfl hcell) ?_
    refine sal fun b5 => ?_
    refine ss (set_box Tryz.tab 0 rfl rfl rfl rfl rfl rfl rfl) ?_
    refine snf ?_
    refine csr ?_
    refine sf 1 ?_
    refine slr 0 ?_
    have hcl := cloneO (W := W) (N := [(b5, row 58 [.int .i64 (tx : Nat), .slice pa (opl os).length k0])] :: d :: p :: (g.L ++ N)) hov.cons.cons.cons (opl_ones hR) (by omega)
    refine sk Tryz.call58 hcl fun x => ?_
    obtain ⟨⟨v6, c6⟩, hB6⟩ := x
    dsimp only at hB6 ⊢
    obtain ⟨p6, k6, hv6, _, _⟩ := (hB6.view (C := K W (c6 :: [])) (Hs.at 0 rfl)).view
    refine sa ?_
    refine snf ?_
    refine c_seq ?_
    refine csr ?_
    refine sm ?_
    refine sy (y_lenR' Tryz.tab rfl hB6 rfl) ?_
    refine sm ?_
    refine snf ?_
    refine c_block ?_
    refine c_loopP (α := Nat × Chunk × List Ov × Chunk) (fun y => [(3, u), (5, .pointer (some ⟨b5, 0, none⟩)), (6, v6), (14, g.lv), (15, .int .i64 (lgr g.ls).length), (16, .int .i64 (i : Nat)), (24, .int .i64 ((opl os).length : Nat)), (25, .int .i64 (y.1 : Nat))])
      (fun y => y.1 ≤ os.length ∧ BufR 60 6 v6 y.2.1 (opl (y.2.2.1 ++ os.drop y.1)) ∧ y.2.2.1.length = y.1 ∧ ops y.2.2.1 = (ops os).take y.1 ∧ OpsV y.2.2.2 y.2.2.1 ∧ Sub p y.2.2.2)
      (fun y => K W (y.2.1 :: [(b5, row 58 [.int .i64 (tx : Nat), .slice pa (opl os).length k0])] :: d :: y.2.2.2 :: (g.L ++ N))) (fun y => os.length - y.1) (0, c6, [], p) ⟨rfl, rfl, rfl, rfl, rfl, rfl, rfl, rfl, trivial⟩ ⟨Nat.zero_le _, hB6, rfl, rfl, .nil, .refl _⟩ (fun w h => h) ?_
    clear hB6
    rintro ⟨k, c7, L1, r⟩ ⟨hk, hB6, hL1, hops, hRV, hS⟩
    dsimp only at hk hB6 hL1 hops hRV hS ⊢
    have hll : (opl (L1 ++ os.drop k)).length = os.length := by rw [List.length_map, List.length_append, hL1, List.length_drop]; omega
    by_cases c2 : k < os.length
    · obtain ⟨o, ho⟩ : ∃ o, os[k]? = some o := ⟨os[k], by simp [c2]⟩
      have hom := List.mem_of_getElem? ho
      have hdr := drop_get' ho
      have hg : (opl (L1 ++ os.drop k))[k]? = some (opc o.1 o.2) := opl_get2 (by rw [hdr, List.getElem?_append_right (by omega), hL1, Nat.sub_self]; rfl)
      have hE6 : EV (K W (c7 :: [(b5, row 58 [.int .i64 (tx : Nat), .slice pa (opl os).length k0])] :: d :: r :: (g.L ++ N))) v6 6 (opl (L1 ++ os.drop k)) := hB6.view (Hs.at 0 rfl)
      have hrow := hE6.row hg
      obtain ⟨w6, l6, hv, hc, hlt, hput⟩ := hB6.put (j := 5) hg (by decide)
      rw [hll] at hv
      subst hv hc
      have hrc := cloneR (W := W) (N := [(w6.b, row 60 l6)] :: [(b5, row 58 [.int .i64 (tx : Nat), .slice pa (opl os).length k0])] :: d :: r :: (g.L ++ N)) ((hR o hom).ev hpp).cons.cons.cons.cons (rnl_ones _) (by have := hn2 o hom; rw [List.length_map]; exact this)
      have hro := (hR o hom).one
      refine csr ?_
      refine sy (y_T (y_lss rfl rfl) (by omega)) ?_
      refine snf ?_
      refine c_seq ?_
      refine c_condT rfl ?_
      refine c_skip ?_
      refine f_then ?_
      refine c_seq ?_
      refine c_block ?_
      refine csr ?_
      refine sm ?_
      refine sa ?_
      refine snf ?_
      refine c_region ?_
      refine sm ?_
      refine sm ?_
      refine sm ?_
      refine sm ?_
      refine sy (y_ixE Tryz.tab rfl rfl rfl rfl (hE6) _ rfl (by omega)) ?_
      refine sy (y_fieldAddr Tryz.tab 5 rfl rfl rfl rfl rfl) ?_
      refine sl (CellsAre.nth 5 (hrow) rfl) ?_
      refine sk Tryz.call59 hrc fun x => ?_
      obtain ⟨⟨v7, c8⟩, hB7⟩ := x
      dsimp only at hB7 ⊢
      have hE7 := hE6.cons (d := c8)
      have hv1 := hB7.one
      refine sy (y_ixE Tryz.tab rfl rfl rfl rfl hE7 _ rfl (by omega)) ?_
      refine sy (y_fieldAddr Tryz.tab 5 rfl rfl rfl rfl rfl) ?_
      refine ss (set_row Tryz.tab 1 rfl rfl hv1 rfl rfl (by show 0 + k * 6 + 5 < l6.length; omega)) ?_
      refine St.cls (C' := K W ([(w6.b, row 60 (l6.set (k * 6 + 5) v7))] :: [(b5, row 58 [.int .i64 (tx : Nat), .slice pa (opl os).length k0])] :: d :: (c8 ++ r) :: (g.L ++ N))) ?_ (fun w h => by rw [show k * 6 + 5 = 0 + k * 6 + 5 from by omega]; exact K.mrg3 h)
      refine s_nil ?_
      refine f_blockN ?_
      refine f_then ?_
      refine c_region ?_
      refine sy (y_add rfl rfl (by omega)) ?_
      refine sm ?_
      refine s_nil ?_
      refine f_roundP (k + 1, [(w6.b, row 60 (l6.set (k * 6 + 5) v7))], L1 ++ [(o.1, v7)], c8 ++ r) ⟨c2, ?_, by rw [List.length_append, hL1]; rfl, ?_, (hRV.app c8).snoc (hB7.pool r), hS.trans ⟨c8, rfl⟩⟩ (by dsimp only; omega) ⟨rfl, rfl, rfl, rfl, rfl, rfl, rfl, rfl, trivial⟩ (fun w h => h)
      · have h7 := hput v7
        refine h7.of ?_
        rw [hdr]
        show List.set (List.map _ _) _ _ = _
        rw [List.map_append, List.map_cons, List.set_append_right _ _ (by rw [List.length_map]; omega), List.length_map, hL1, Nat.sub_self, List.set_cons_zero]
        simp [opl, opc]
      · show List.map _ _ = _
        rw [List.map_append, show L1.map (·.1) = (ops os).take k from hops, List.take_add_one, show (ops os)[k]? = some o.1 by simp [ho]]
        rfl
    · obtain rfl : k = os.length := by omega
      rw [List.drop_length, List.append_nil] at hB6
      rw [List.take_of_length_le (by rw [List.length_map]; omega)] at hops
      subst hv6
      have hlu : (lgr ls).length < 1000000 := by
        have := congrArg List.length hls
        rw [List.length_map, List.length_take] at this
        rw [List.length_map]
        omega
      refine csr ?_
      refine sy (y_F (y_lss rfl rfl) (by omega)) ?_
      refine snf ?_
      refine c_seq ?_
      refine c_condF rfl ?_
      refine c_exit ?_
      refine f_thenE ?_
      refine f_rndE ?_
      refine f_blockE ?_
      refine f_then ?_
      refine c_region ?_
      refine sm ?_
      refine sf0 ?_
      refine slr 1 ?_
      refine sm ?_
      refine sy (y_build Tryz.tab rfl rfl rfl rfl rfl) ?_
      refine s_do (do_buildSliceS Tryz.tab ⟨rfl, rfl, rfl, rfl⟩ rfl rfl rfl rfl) rfl rfl rfl (fun b44 => ?_)
      refine s_do (do_appendR (by_ := 32) (news := [.int .i64 (tx : Nat), .slice p6 (opl os).length k6]) Tryz.tab 3 rfl hu rfl ⟨rfl, rfl, rfl, rfl⟩ rfl (by simp) rfl (cells_row0 0 rfl rfl) rfl rfl (by omega) (by omega)) rfl rfl rfl (fun x => ?_)
      obtain ⟨⟨u', d'⟩, hu'⟩ := x
      dsimp only at hu' ⊢
      refine sa ?_
      refine s_nil ?_
      refine f_blockN ?_
      refine f_then ?_
      refine c_region ?_
      refine sy (y_add rfl rfl (by omega)) ?_
      refine sm ?_
      refine s_nil ?_
      refine f_roundP (i + 1, u', d', ls ++ [(tx, .slice p6 (opl os).length k6, L1)], c7 ++ r) ⟨c1, hu'.of (by simp [lgr]), ?_, fun x hx => ?_⟩ (by dsimp only; omega) ⟨rfl, rfl, rfl, rfl, trivial⟩ (fun w h => K.mrg2 h)
      · rw [List.map_append, hls, List.take_add_one, show g.bk.log[i]? = some (tx, ops os) by simp [Bg.bk, hx]]
        simp only [List.map_cons, List.map_nil, hops]
        rfl
      · rcases List.mem_append.1 hx with hx | hx
        · exact ⟨Sub.pe (hP x hx).1 (hS.trans ⟨c7, rfl⟩), (hP x hx).2.sub (hS.trans ⟨c7, rfl⟩)⟩
        · rw [List.mem_singleton.1 hx]
          exact ⟨hB6.pool r, hRV.app c7⟩
  · obtain rfl : i = g.ls.length := by omega
    rw [List.take_of_length_le (by omega)] at hls
    refine csr ?_
    refine sy (y_F (y_lss rfl rfl) (by omega)) ?_
    refine snf ?_
    refine c_seq ?_
    refine c_condF rfl ?_
    refine c_exit ?_
    refine f_thenE ?_
    refine f_rndE ?_
    refine f_blockE ?_
    refine f_then ?_
    refine csr ?_
    refine sm ?_
    refine sa ?_
    refine snf ?_
    refine c_ret ?_
    exact f_ret ⟨(u, ls, d ++ p), ⟨hu.pool p, fun x hx => ⟨(hP x hx).1.app d, (hP x hx).2.app d⟩⟩, hls⟩ (res1 rfl rfl) (fun w h => K.mrg1 h)
end
end Go.KL
end

section
/- Walks: the document's Replay. -/
namespace Go.KL
open Go.Proofs
abbrev flt (l : List (Nat × List Oa)) : List Oa := (l.map Prod.snd).flatten
theorem flt_take {l : List (Nat × List Oa)} {i : Nat} {x : Nat × List Oa} (h : l[i]? = some x) : flt (l.take (i + 1)) = flt (l.take i) ++ x.2 := by
  rw [List.take_add_one, h]
  simp [flt]
theorem flt_split {l : List (Nat × List Oa)} {i : Nat} {x : Nat × List Oa} (h : l[i]? = some x) : flt l = flt (l.take i) ++ (x.2 ++ flt (l.drop (i + 1))) := by
  have h1 := drop_get' h
  conv => lhs; rw [← List.take_append_drop i l, h1]
  simp [flt]
theorem Opk.swf {n : Nat} {f : Nat → Nat} {o : Oa} (h : Opk n f o) (hm : o.mv = true) : KL.swf f o.lo o.hi o.fr o.to = stp f o := by
  rw [swf_setf (h.move hm), stp, if_pos hm]
theorem K.rotR {W w : World} {c x a b N} (h : K W (c :: x :: a :: b :: N) w) : K W (a :: b :: c :: N) w := h.mrg (D := x) fun z _ => by
  simp only [List.flatten_cons, List.count_append]
  omega
theorem K.pre {W w : World} {A B : List Chunk} (h : K W (A ++ B) w) : K W A w := h.weak B.flatten (by rw [List.flatten_append])
theorem K.pre2 {W w : World} {A B G : List Chunk} (h : K W (A ++ (B ++ G)) w) : K W (A ++ B) w := K.pre (B := G) (by rw [List.append_assoc]; exact h)
attribute [local irreducible] SC St Fin Sq Ylds Doos Sets Enters Spec CellIs CellsAre Then Ret Rnd Chn resOK ints bools recs arr
section
variable {W : World} {M G : List Chunk} {v lv : Value} {n : Nat} {f : Nat → Nat} {ls : List Lg}
set_option maxRecDepth 10000 in
set_option maxHeartbeats 8000000 in
theorem Replay_spec (hM : RMp (K W M) lv n f) (hL : EV (K W (M ++ G)) v 2 (lgr ls)) (hO : ∀ x ∈ ls, EV (K W (M ++ G)) x.2.1 6 (opl x.2.2) ∧ ∀ o ∈ x.2.2, EV (K W (M ++ G)) o.2 3 (rnl o.1.runs)) (hR : Rep n f (flt (ls.map fun x => (x.1, ops x.2.2)))) (hn : n ≤ 4096) (hl : ls.length < 1000000) (hl2 : ∀ x ∈ ls, x.2.2.length < 1000000) :
    Spec Tryz.prog 43 #[.agg #[.int .i64 (n : Nat), lv], v] (K W (M ++ G)) (X := { x : Value × List Chunk // RMp (K W (x.2 ++ M)) x.1 n (ap f (flt (ls.map fun x => (x.1, ops x.2.2)))) }) (fun x => .tuple #[.agg #[.int .i64 (n : Nat), x.1.1], .bool true]) (fun x => K W (x.1.2 ++ (M ++ G))) := by
  obtain ⟨pa, k0, rfl, _, _⟩ := hM.v.view
  have hlr : (lgr ls).length = ls.length := List.length_map _
  obtain ⟨lg, hlg⟩ : ∃ lg, lg = ls.map fun x : Lg => (x.1, ops x.2.2) := ⟨_, rfl⟩
  have hgl : lg.length = ls.length := by rw [hlg]; exact List.length_map _
  rw [← hlg] at hR ⊢
  refine enter (args := [_, _]) Tryz.func43 rfl Tryz.ntmps43 rfl ?_
  refine csr ?_
  refine sbx fun b2 => ?_
  refine sal fun b4 => ?_
  refine sa ?_
  refine snf ?_
  refine c_seq ?_
  refine csr ?_
  refine sa ?_
  refine snf ?_
  refine c_block ?_
  refine c_loopP (α := Nat × Value × List Chunk) (fun z => [(1, v), (2, .pointer (some ⟨b2, 0, none⟩)), (4, .pointer (some ⟨b4, 0, none⟩)), (6, .int .i64 (z.1 : Nat))])
    (fun z => z.1 ≤ ls.length ∧ RMp (K W (z.2.2 ++ M)) z.2.1 n (ap f (flt (lg.take z.1))))
    (fun z => K W ([(b4, row 37 [.int .i64 0, .slice none 0 0])] :: [(b2, row 37 [.int .i64 (n : Nat), z.2.1])] :: (z.2.2 ++ (M ++ G)))) (fun z => ls.length - z.1) (0, .slice pa (rnl (rns f 0 n)).length k0, []) ⟨rfl, rfl, rfl, rfl, trivial⟩ ⟨Nat.zero_le _, hM⟩ (fun w h => h) ?_
  rintro ⟨i, lm, M1⟩ ⟨hi, hR1⟩
  dsimp only at hi hR1 ⊢
  have hL1 : EV (K W ([(b4, row 37 [.int .i64 0, .slice none 0 0])] :: [(b2, row 37 [.int .i64 (n : Nat), lm])] :: (M1 ++ (M ++ G)))) v 2 (lgr ls) := hL.cls fun w h => K.bck h.tail.tail
  by_cases c1 : i < ls.length
  · obtain ⟨⟨tx, ov, os⟩, hx⟩ : ∃ x, ls[i]? = some x := ⟨ls[i], by simp [c1]⟩
    have hxm := List.mem_of_getElem? hx
    have hlx : lg[i]? = some (tx, ops os) := by rw [hlg]; simp [hx]
    obtain ⟨hov, hrv⟩ := hO _ hxm
    have hol := hl2 _ hxm
    dsimp only at hov hrv hol
    have hop : (opl os).length = os.length := List.length_map _
    have hos : (ops os).length = os.length := List.length_map _
    have hRi : Rep n (ap f (flt (lg.take i))) (ops os) := by
      have h := hR
      rw [flt_split hlx] at h
      exact (Rep.app.1 (Rep.app.1 h).2).1
    refine c_seq ?_
    refine csr ?_
    refine sm ?_
    refine sm ?_
    refine sy (y_lenE Tryz.tab rfl (hL1) rfl) ?_
    refine sy (y_T (y_lss rfl rfl) (by omega)) ?_
    refine snf ?_
    refine c_condT rfl ?_
    refine c_skip ?_
    refine f_then ?_
    refine c_seq ?_
    refine c_block ?_
    refine csr ?_
    refine sa ?_
    refine snf ?_
    refine c_block ?_
    refine c_loopP (α := Nat × Value × List Chunk) (fun z => [(1, v), (2, .pointer (some ⟨b2, 0, none⟩)), (4, .pointer (some ⟨b4, 0, none⟩)), (6, .int .i64 (i : Nat)), (7, .int .i64 (z.1 : Nat))])
      (fun z => z.1 ≤ os.length ∧ RMp (K W (z.2.2 ++ M)) z.2.1 n (ap (ap f (flt (lg.take i))) ((ops os).take z.1)))
      (fun z => K W ([(b4, row 37 [.int .i64 0, .slice none 0 0])] :: [(b2, row 37 [.int .i64 (n : Nat), z.2.1])] :: (z.2.2 ++ (M ++ G)))) (fun z => os.length - z.1) (0, lm, M1) ⟨rfl, rfl, rfl, rfl, rfl, trivial⟩ ⟨Nat.zero_le _, hR1⟩ (fun w h => h) ?_
    clear hL1 hR1 
    rintro ⟨k, lq, M2⟩ ⟨hk, hR2⟩
    dsimp only at hk hR2 ⊢
    have hL2 : EV (K W ([(b4, row 37 [.int .i64 0, .slice none 0 0])] :: [(b2, row 37 [.int .i64 (n : Nat), lq])] :: (M2 ++ (M ++ G)))) v 2 (lgr ls) := hL.cls fun w h => K.bck h.tail.tail
    have hO2 : EV (K W ([(b4, row 37 [.int .i64 0, .slice none 0 0])] :: [(b2, row 37 [.int .i64 (n : Nat), lq])] :: (M2 ++ (M ++ G)))) ov 6 (opl os) := hov.cls fun w h => K.bck h.tail.tail
    have hxr : (lgr ls)[i]? = some [.int .i64 (tx : Nat), ov] := by simp [hx]
    have hrow := hL2.row hxr
    by_cases c2 : k < os.length
    · obtain ⟨o, ho⟩ : ∃ o, os[k]? = some o := ⟨os[k], by simp [c2]⟩
      have hom := List.mem_of_getElem? ho
      have hok : (ops os)[k]? = some o.1 := by simp [ho]
      have hO3 : EV (K W (M2 ++ (M ++ G))) o.2 3 (rnl o.1.runs) := (hrv o hom).cls fun w h => K.bck h
      have hore := hO3.view
      obtain ⟨g, hg⟩ : ∃ g, g = ap (ap f (flt (lg.take i))) ((ops os).take k) := ⟨_, rfl⟩
      have hk1 : Opk n g o.1 := by
        have := hRi.drop k
        rw [drop_get' hok] at this
        rw [hg]
        exact this.1
      have hst : ap (ap f (flt (lg.take i))) ((ops os).take (k + 1)) = stp g o.1 := by rw [List.take_add_one, hok, hg]; exact ap_snoc _ _ _
      rw [← hg] at hR2
      have hR2' : RMp (K W (M2 ++ (M ++ G))) lq n g := hR2.cls fun w h => K.pre2 h
      have hcx := hO2.row (opl_get2 ho)
      obtain ⟨o, ow⟩ := o
      dsimp only at hcx hk1 hst hO3 hore
      obtain ⟨pq, kq, rfl, _, _⟩ := hore
      have hro := hk1.rng
      have htg := hk1.tag
      refine c_seq ?_
      refine csr ?_
      refine sm ?_
      refine sm ?_
      refine sm ?_
      refine sy (y_ixE Tryz.tab rfl rfl rfl rfl (hL2) _ rfl (by omega)) ?_
      refine sy (y_fieldAddr Tryz.tab 1 rfl rfl rfl rfl rfl) ?_
      refine sl (CellsAre.nth 1 (hrow) rfl) ?_
      refine sy (y_lenE Tryz.tab rfl (hO2) rfl) ?_
      refine sy (y_T (y_lss rfl rfl) (by omega)) ?_
      refine snf ?_
      refine c_condT rfl ?_
      refine c_skip ?_
      refine f_then ?_
      refine c_seq ?_
      refine c_block ?_
      refine csr ?_
      refine sm ?_
      refine sm ?_
      refine sy (y_ixE Tryz.tab rfl rfl rfl rfl (hL2) _ rfl (by omega)) ?_
      refine sy (y_fieldAddr Tryz.tab 1 rfl rfl rfl rfl rfl) ?_
      refine sl (CellsAre.nth 1 (hrow) rfl) ?_
      refine sm ?_
      refine sy (y_ixE Tryz.tab rfl rfl rfl rfl (hO2) _ rfl (by omega)) ?_
      refine sy (y_loadA Tryz.tab rfl rfl rfl rfl hcx) ?_
      refine sal fun b8 => ?_
      refine ss (set_box Tryz.tab 0 rfl rfl rfl rfl rfl rfl rfl) ?_
      refine snf ?_
      refine c_seq ?_
      refine csr ?_
      refine sf0 ?_
      refine slr 0 ?_
      refine sy (y_not rfl) ?_
      refine snf ?_
      cases hmv : o.mv with
      | false =>
        refine c_condT rfl ?_
        refine csr ?_
        refine sy (y_loadA Tryz.tab rfl rfl rfl rfl (cells_row0 2 rfl rfl)) ?_
        refine sf 1 ?_
        refine slr 0 ?_
        refine sf 2 ?_
        refine slr 0 ?_
        refine sk Tryz.call78 (rruns_spec hR2'.cons.cons.cons hro.1 hro.2) fun x => ?_
        obtain ⟨⟨v9, c9⟩, hB9⟩ := x
        dsimp only at hB9 ⊢
        have hrl := rns_le (f := g) hro.1 hro.2
        have hnb := nbd_le g n
        refine sm ?_
        refine sx ?_
        refine sx ?_
        refine sa ?_
        refine sa ?_
        refine snf ?_
        refine c_seq ?_
        refine csr ?_
        refine sm ?_
        refine sy (y_F (y_neq rfl rfl) (by omega)) ?_
        refine sm ?_
        refine sm ?_
        refine sf 5 ?_
        refine slr 1 ?_
        refine s_call (en_f rfl Tryz.call34) (alike_spec (hB9.view (Hs.at 0 rfl)) hO3.cons.cons.cons.cons (by omega)) rfl rfl rfl (fun _ => ?_)
        rw [decide_eq_true (hk1.look hmv).symm]
        refine sy (y_notT rfl) ?_
        refine spF ?_
        refine snf ?_
        refine c_condF rfl ?_
        refine c_skip ?_
        refine f_then ?_
        refine c_exit ?_
        refine f_thenE ?_
        refine f_blockE ?_
        refine f_then ?_
        refine c_region ?_
        refine sm ?_
        refine sy (y_add rfl rfl (by omega)) ?_
        refine sa ?_
        refine s_nil ?_
        exact f_roundP (k + 1, lq, M2) ⟨c2, by rw [hst, stp, if_neg (by rw [hmv]; decide)]; exact hR2⟩ (by dsimp only; omega) ⟨rfl, rfl, rfl, rfl, rfl, trivial⟩ (fun w h => h.tail.tail)
      | true =>
        refine c_condF rfl ?_
        refine c_skip ?_
        refine f_then ?_
        refine csr ?_
        refine sy (y_loadA Tryz.tab rfl rfl rfl rfl (cells_row0 2 rfl rfl)) ?_
        refine sf 1 ?_
        refine slr 0 ?_
        refine sf 2 ?_
        refine slr 0 ?_
        refine sf 3 ?_
        refine slr 0 ?_
        refine sk Tryz.call79 (rcount_spec hR2'.cons.cons.cons hro.1 hro.2 htg.1) fun _ => ?_
        have hcn : (cntR o.fr (rns g o.lo o.hi) : Int) = (o.hi : Int) - (o.lo : Int) := (cntR_all hro.1).2 (hk1.move hmv)
        have hmvs := fun (N : List Chunk) (h : RMp (K W N) lq n g) => rmove_spec (o := o) (rv := .slice pq (rnl o.runs).length kq) h hro.1 hro.2 htg.1 htg.2 (by have := nbd_le (swf g o.lo o.hi o.fr o.to) n; omega)
        refine sm ?_
        refine sx ?_
        refine sx ?_
        refine sa ?_
        refine sa ?_
        refine snf ?_
        refine c_seq ?_
        refine csr ?_
        refine sm ?_
        refine sy (y_F (y_neq rfl rfl) (by omega)) ?_
        refine sm ?_
        refine sm ?_
        refine sf 2 ?_
        refine slr 0 ?_
        refine sf 1 ?_
        refine slr 0 ?_
        refine sy (y_sub rfl rfl (by omega)) ?_
        refine sy (y_F (y_neq rfl rfl) (by omega)) ?_
        refine spF ?_
        refine snf ?_
        refine c_condF rfl ?_
        refine c_skip ?_
        refine f_then ?_
        refine c_region ?_
        refine sy (y_loadA Tryz.tab rfl rfl rfl rfl (cells_row0 2 rfl rfl)) ?_
        refine sy (y_loadA Tryz.tab rfl rfl rfl rfl (cells_row0 0 rfl rfl)) ?_
        refine sk Tryz.call80 (hmvs _ hR2'.cons.cons.cons) fun x => ?_
        obtain ⟨⟨v9, c9⟩, hB9⟩ := x
        dsimp only at hB9 ⊢
        rw [hk1.swf hmv] at hB9
        have hnb := nbd_le (stp g o) n
        have hR3 : RMp (K W ((c9 :: M2) ++ M)) v9 n (stp g o) := ⟨hB9.view (Hs.at 0 rfl), hR2.pos, by omega⟩
        obtain ⟨pw, kw, rfl, _, _⟩ := hR3.v.view
        refine ss (set_box Tryz.tab 3 rfl rfl rfl rfl rfl rfl rfl) ?_
        refine s_nil ?_
        refine f_blockN ?_
        refine f_then ?_
        refine c_region ?_
        refine sm ?_
        refine sy (y_add rfl rfl (by omega)) ?_
        refine sa ?_
        refine s_nil ?_
        exact f_roundP (k + 1, _, c9 :: M2) ⟨c2, by rw [hst]; exact hR3⟩ (by dsimp only; omega) ⟨rfl, rfl, rfl, rfl, rfl, trivial⟩ (fun w h => K.rotR h)
    · obtain rfl : k = os.length := by omega
      rw [show (ops os).take os.length = ops os from List.take_of_length_le (by omega)] at hR2
      refine c_seq ?_
      refine csr ?_
      refine sm ?_
      refine sm ?_
      refine sm ?_
      refine sy (y_ixE Tryz.tab rfl rfl rfl rfl (hL2) _ rfl (by omega)) ?_
      refine sy (y_fieldAddr Tryz.tab 1 rfl rfl rfl rfl rfl) ?_
      refine sl (CellsAre.nth 1 (hrow) rfl) ?_
      refine sy (y_lenE Tryz.tab rfl (hO2) rfl) ?_
      refine sy (y_F (y_lss rfl rfl) (by omega)) ?_
      refine snf ?_
      refine c_condF rfl ?_
      refine c_exit ?_
      refine f_thenE ?_
      refine f_rndE ?_
      refine f_blockE ?_
      refine f_blockN ?_
      refine f_then ?_
      refine c_region ?_
      refine sm ?_
      refine sy (y_add rfl rfl (by omega)) ?_
      refine sa ?_
      refine s_nil ?_
      exact f_roundP (i + 1, lq, M2) ⟨c1, by rw [flt_take hlx, ap_app]; exact hR2⟩ (by dsimp only; omega) ⟨rfl, rfl, rfl, rfl, trivial⟩ (fun w h => h)
  · obtain rfl : i = ls.length := by omega
    rw [List.take_of_length_le (by omega)] at hR1
    obtain ⟨pm, km, rfl, _, _⟩ := hR1.v.view
    refine c_seq ?_
    refine csr ?_
    refine sm ?_
    refine sm ?_
    refine sy (y_lenE Tryz.tab rfl (hL1) rfl) ?_
    refine sy (y_F (y_lss rfl rfl) (by omega)) ?_
    refine snf ?_
    refine c_condF rfl ?_
    refine c_exit ?_
    refine f_thenE ?_
    refine f_rndE ?_
    refine f_blockE ?_
    refine f_then ?_
    refine csr ?_
    refine sy (y_loadA Tryz.tab rfl rfl rfl rfl (cells_row0 1 rfl rfl)) ?_
    refine ss (set_box Tryz.tab 0 rfl rfl rfl rfl rfl rfl rfl) ?_
    refine sa ?_
    refine snf ?_
    refine c_ret ?_
    exact f_ret ⟨(_, M1), hR1⟩ (resA1 Tryz.tab rfl rfl rfl rfl rfl rfl (cells_row0 0 rfl rfl)) (fun w h => h.tail.tail)
end
end Go.KL
end
