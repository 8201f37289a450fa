/- ClerkAlone: for every input the law returns true, and its arguments read as they did. No condition. -/
import Derived.Test.YtcbmmldkpicaiaaGreatRows
import Derived.JoinedOf
import Derived.Handed
import Derived.Test.YtcbmmldkpicaiaaGreatAloL5
section
/- The law: ClerkAlone. -/
namespace Go.KL
open Go.Proofs
theorem K.pm {W w : World} {A B : List Chunk} (h : K W A w) (p : A.Perm B) : K W B w := h.weak [] (by simpa using p.flatten)
theorem pmc {A B : List Chunk} (p : ∀ x : Chunk, ∀ (_ : DecidableEq Chunk), A.count x = B.count x) : A.Perm B := by
  haveI : DecidableEq Chunk := fun a b => Classical.propDecidable (a = b)
  exact List.perm_iff_count.2 fun x => p x _
theorem K.al1 {W w : World} {A N : List Chunk} {x c y z : Chunk} (h : K W (x :: c :: y :: z :: (A ++ N)) w) : K W (A ++ (y :: z :: c :: N)) w := K.pm h.tail (pmc fun x _ => by
  simp only [List.count_append, List.count_cons]
  omega)
attribute [local irreducible] SC St Fin Sq Ylds Doos Sets Enters Spec CellIs CellsAre Then Ret Rnd Chn resOK ints bools recs arr
set_option maxRecDepth 10000 in
set_option maxHeartbeats 16000000 in
theorem alone_spec {W : World} {N : List Chunk} {tv lv : Value} {nt nl : Nat} {tf : Nat → Int} {lf : Nat → Nat → Int} (hT : SlV (K W N) tv nt 1 (fun i _ => .int .u8 (tf i))) (hL : SlV (K W N) lv nl 6 (fun i j => (clc (lf i)).getD j undef))
    (htf : ∀ i, i < nt → 0 ≤ tf i ∧ tf i < 256) (hlf : ∀ i, i < nl → 0 ≤ lf i 0 ∧ lf i 0 < 256) (hnt : nt ≤ 9223372036854775807) (hnl : nl ≤ 9223372036854775807) :
    Spec Tryz.prog 7 #[tv, lv] (K W N) (fun _ : Unit => .bool true) (fun _ => K W N) := by
  refine enter (args := [_, _]) Tryz.func7 rfl Tryz.ntmps7 rfl ?_
  by_cases c0 : nt = 0
  · refine csr ?_
    refine sa ?_
    refine snf ?_
    refine csr ?_
    refine sm ?_
    refine sk Tryz.call20 (made_no hT (.inl c0)) fun _ => ?_
    refine sm ?_
    refine sx ?_
    refine sx ?_
    refine sx ?_
    refine sal fun b5 => ?_
    refine sal fun b6 => ?_
    refine ss (set_box Tryz.tab 1 rfl rfl rfl rfl rfl rfl rfl) ?_
    refine ss (set_box Tryz.tab 0 rfl rfl rfl rfl rfl rfl rfl) ?_
    refine sa ?_
    refine snf ?_
    refine c_seq ?_
    refine csr ?_
    refine sm ?_
    refine sy (y_lenV Tryz.tab rfl (hT.cons.cons) rfl) ?_
    refine sy (y_T (y_eql rfl rfl) (by omega)) ?_
    refine sm ?_
    iterate 4 refine s_skip rfl rfl rfl ?_
    refine spT ?_
    refine snf ?_
    refine c_condT rfl ?_
    refine csr ?_
    refine sk Tryz.call13 awake_spec fun _ => ?_
    refine sa ?_
    refine snf ?_
    refine c_ret ?_
    refine f_thenR ?_
    exact f_ret () (res1 rfl rfl) (fun w h => h.tail.tail)
  by_cases c1 : 200 < nt
  · refine csr ?_
    refine sa ?_
    refine snf ?_
    refine csr ?_
    refine sm ?_
    refine sk Tryz.call20 (made_no hT (.inr c1)) fun _ => ?_
    refine sm ?_
    refine sx ?_
    refine sx ?_
    refine sx ?_
    refine sal fun b5 => ?_
    refine sal fun b6 => ?_
    refine ss (set_box Tryz.tab 1 rfl rfl rfl rfl rfl rfl rfl) ?_
    refine ss (set_box Tryz.tab 0 rfl rfl rfl rfl rfl rfl rfl) ?_
    refine sa ?_
    refine snf ?_
    refine c_seq ?_
    refine csr ?_
    refine sm ?_
    refine sy (y_lenV Tryz.tab rfl (hT.cons.cons) rfl) ?_
    refine sy (y_F (y_eql rfl rfl) (by omega)) ?_
    refine sm ?_
    refine sm ?_
    refine sm ?_
    refine sk Tryz.call21 (fewC_spec hT.cons.cons hL.cons.cons) fun _ => ?_
    rw [decide_eq_false (show ¬ (nt ≤ 60 ∧ nl ≤ 60) from fun h => by omega)]
    refine sy (y_notF rfl) ?_
    refine spF ?_
    refine snf ?_
    refine c_condT rfl ?_
    refine csr ?_
    refine sk Tryz.call13 awake_spec fun _ => ?_
    refine sa ?_
    refine snf ?_
    refine c_ret ?_
    refine f_thenR ?_
    exact f_ret () (res1 rfl rfl) (fun w h => h.tail.tail)
  have hm := made_spec hT (by omega) (by omega) htf
  refine csr ?_
  refine sa ?_
  refine snf ?_
  refine csr ?_
  refine sm ?_
  refine sk Tryz.call20 hm fun x => ?_
  obtain ⟨⟨p, mv, c, rv⟩, hM, hB⟩ := x
  dsimp only at hM hB ⊢
  obtain ⟨pa, k, rfl, _, _⟩ := (hB.view (C := K W (c :: N)) (Hs.at 0 rfl)).view
  obtain ⟨a, rfl⟩ := hM.ptr
  have hT2 : SlV (K W (p :: c :: N)) tv nt 1 (fun i _ => .int .u8 (tf i)) := hT.cons.cons
  have hL2 : SlV (K W (p :: c :: N)) lv nl 6 (fun i j => (clc (lf i)).getD j undef) := hL.cons.cons
  refine sm ?_
  refine sx ?_
  refine sx ?_
  refine sx ?_
  refine sal fun b5 => ?_
  refine sal fun b6 => ?_
  refine ss (set_box Tryz.tab 1 rfl rfl rfl rfl rfl rfl rfl) ?_
  refine ss (set_box Tryz.tab 0 rfl rfl rfl rfl rfl rfl rfl) ?_
  refine sa ?_
  refine snf ?_
  refine c_seq ?_
  refine csr ?_
  refine sm ?_
  refine sy (y_lenV Tryz.tab rfl (hT2.cons.cons) rfl) ?_
  refine sy (y_F (y_eql rfl rfl) (by omega)) ?_
  refine sm ?_
  refine sm ?_
  refine sm ?_
  refine sk Tryz.call21 (fewC_spec hT2.cons.cons hL2.cons.cons) fun _ => ?_
  by_cases c2 : nt ≤ 60 ∧ nl ≤ 60
  · rw [decide_eq_true c2]
    refine sy (y_notT rfl) ?_
    refine spF ?_
    refine snf ?_
    refine c_condF rfl ?_
    refine c_skip ?_
    refine f_then ?_
    refine csr ?_
    refine sy (y_loadA Tryz.tab rfl rfl rfl rfl (cells_row0 1 rfl rfl)) ?_
    refine St.cls (C' := K W (p :: [(b6, row 37 [.int .i64 (nt : Nat), .slice pa (rnl (rns (tgs nt tf) 0 nt)).length k])] :: [(b5, row 29 [.pointer (some a)])] :: c :: N)) ?_ (fun w h => K.front 2 h)
    obtain ⟨M, hMM⟩ : ∃ M, M = [(b6, row 37 [.int .i64 (nt : Nat), .slice pa (rnl (rns (tgs nt tf) 0 nt)).length k])] :: [(b5, row 29 [.pointer (some a)])] :: c :: N := ⟨_, rfl⟩
    have hok := tgs_ok (f := tf) (n := nt) (by omega) (by omega)
    have hTM : SlV (K W M) tv nt 1 (fun i _ => .int .u8 (tf i)) := by rw [hMM]; exact hT.cons.cons.cons
    have hLM : SlV (K W M) lv nl 6 (fun i j => (clc (lf i)).getD j undef) := by rw [hMM]; exact hL.cons.cons.cons
    have hc6 : CellsAre (K W M) ⟨b6, 0, none⟩ [.int .i64 (nt : Nat), .slice pa (rnl (rns (tgs nt tf) 0 nt)).length k] := by rw [hMM]; exact cells_row0 0 rfl rfl
    have hRM : RMp (K W M) (.slice pa (rnl (rns (tgs nt tf) 0 nt)).length k) nt (tgs nt tf) := by rw [hMM]; exact ⟨hB.view (Hs.at 2 rfl), hok.pos, hok.nb⟩
    have hMN : ∀ w, K W M w → K W N w := fun w h => by rw [hMM] at h; exact h.tail.tail.tail
    rw [← hMM]
    obtain ⟨f, hf⟩ : ∃ f, f = tgs nt tf := ⟨_, rfl⟩
    rw [← hf] at hc6 hRM hM hok
    clear hT2 hL2 hB
    refine sk Tryz.call15 (New_b hM) fun x => ?_
    obtain ⟨g0, hB0, hb0, _⟩ := x
    dsimp only
    have hs0 := Bk.fresh_solo (n := nt) (f := f) ⟨by omega, by omega⟩ hok.nb
    have ht0 : g0.ts.length = 0 := by
      have := congrArg (fun A : Bk => A.ts.length) hb0
      simpa [Bg.bk, Bk.fresh] using this
    have hr0 : g0.rn = [] := congrArg Bk.rn hb0
    refine sm ?_
    refine sx ?_
    refine sx ?_
    refine sa ?_
    refine sa ?_
    refine snf ?_
    refine csr ?_
    refine sm ?_
    refine s_call (en_f rfl Tryz.call26) (Begin_b (N := M) hB0 (by omega)) rfl rfl rfl (fun x => ?_)
    obtain ⟨⟨g1, n1, e1⟩, hB1, hbb1, hc1⟩ := x
    dsimp only at hB1 hbb1 hc1 ⊢
    rcases hc1 with ⟨h, _⟩ | ⟨_, hb1, he1⟩
    · rw [hr0] at h
      exact absurd h (by decide)
    obtain ⟨rfl, rfl⟩ := Prod.mk.inj he1
    rw [hb0] at hb1
    rw [ht0]
    have hc6g : CellsAre (K W (g1.L ++ M)) ⟨b6, 0, none⟩ [.int .i64 (nt : Nat), .slice pa (rnl (rns f 0 nt)).length k] := hc6.cls fun w h => K.bck h
    refine sm ?_
    refine sx ?_
    refine sx ?_
    refine sa ?_
    refine sa ?_
    refine snf ?_
    refine c_seq ?_
    refine csr ?_
    refine sm ?_
    refine sy (y_notT rfl) ?_
    refine sm ?_
    refine sm ?_
    refine sy (y_F (y_neq rfl rfl) (by omega)) ?_
    refine spF ?_
    refine sm ?_
    refine sm ?_
    refine sy (y_F (y_neq rfl rfl) (by omega)) ?_
    refine spF ?_
    refine snf ?_
    refine c_condF rfl ?_
    refine c_skip ?_
    refine f_then ?_
    refine csr ?_
    refine sy (y_loadA Tryz.tab rfl rfl rfl rfl hc6g) ?_
    refine sal fun b12 => ?_
    refine ss (set_box Tryz.tab 0 rfl rfl rfl rfl rfl rfl rfl) ?_
    refine snf ?_
    refine c_seq ?_
    refine csr ?_
    refine sa ?_
    refine snf ?_
    refine c_block ?_
    refine SC.cls (C' := K W (g1.L ++ ([(b12, row 37 [.int .i64 (nt : Nat), .slice pa (rnl (rns f 0 nt)).length k])] :: M))) ?_ (fun w h => K.bckN (A := [[(b12, row 37 [.int .i64 (nt : Nat), .slice pa (rnl (rns f 0 nt)).length k])]]) (B := g1.L) h)
    refine c_loopP (α := Nat × Bg × Value × List Chunk) (fun z => [(0, tv), (1, lv), (6, .pointer (some ⟨b6, 0, none⟩)), (8, .pointer (some ⟨g0.b, 0, none⟩)), (10, .int .i64 1), (12, .pointer (some ⟨b12, 0, none⟩)), (13, .int .i64 (z.1 : Nat))]) (fun z => z.1 ≤ nl ∧ z.2.1.OK ∧ z.2.1.b = g0.b ∧ z.2.1.bk.Solo (2 * z.1) ∧ z.2.1.bk.size = nt ∧ z.2.1.bk.C = f ∧ z.2.1.bk.log = [] ∧ (∀ w, K W z.2.2.2 w → K W M w) ∧ RMp (K W z.2.2.2) z.2.2.1 nt z.2.1.bk.W)
      (fun z => K W (z.2.1.L ++ ([(b12, row 37 [.int .i64 (nt : Nat), z.2.2.1])] :: z.2.2.2))) (fun z => nl - z.1) (0, g1, .slice pa (rnl (rns f 0 nt)).length k, M) ⟨rfl, rfl, rfl, rfl, rfl, rfl, rfl, trivial⟩ ⟨Nat.zero_le _, hB1, hbb1, by rw [hb1]; exact hs0, by rw [hb1]; rfl, by rw [hb1]; rfl, by rw [hb1]; rfl, fun _ h => h, by rw [hb1]; exact hRM⟩ (fun w h => h) ?_
    clear hs0 ht0 hr0 hb1 hbb1 hB1
    rintro ⟨i, g, lm, M1⟩ ⟨hi, hgB, hgb, hgS, hgz, hgC, hgl, hM1, hRl⟩
    dsimp only at hi hgB hgb hgS hgz hgC hgl hM1 hRl ⊢
    have hLg : SlV (K W (g.L ++ ([(b12, row 37 [.int .i64 (nt : Nat), lm])] :: M1))) lv nl 6 (fun i j => (clc (lf i)).getD j undef) := hLM.cls fun w h => hM1 w (K.bck h).tail
    by_cases ci : i < nl
    · have hcell : CellsAre (K W (g.L ++ ([(b12, row 37 [.int .i64 (nt : Nat), lm])] :: M1))) ⟨vblk lv, voff lv + i * 6, none⟩ [.int .u8 (lf i 0), .int .i64 (lf i 1), .int .i64 (lf i 2), .int .i64 (lf i 3), .int .i64 (lf i 4), .int .i64 (lf i 5)] := hLg.rowAt ci
      refine c_seq ?_
      refine csr ?_
      refine sm ?_
      refine sm ?_
      refine sy (y_lenV Tryz.tab rfl (hLg) rfl) ?_
      refine sy (y_T (y_lss rfl rfl) (by omega)) ?_
      refine snf ?_
      refine c_condT rfl ?_
      refine c_skip ?_
      refine f_then ?_
      refine c_seq ?_
      refine c_block ?_
      refine csr ?_
      refine sm ?_
      refine sm ?_
      refine sy (y_ixV Tryz.tab rfl rfl rfl rfl (hLg) _ rfl (by omega)) ?_
      refine sy (y_loadA Tryz.tab rfl rfl rfl rfl hcell) ?_
      refine sal fun b14 => ?_
      refine ss (set_box Tryz.tab 0 rfl rfl rfl rfl rfl rfl rfl) ?_
      refine snf ?_
      refine c_seq ?_
      refine csr ?_
      refine sm ?_
      refine sm ?_
      refine sf 2 ?_
      refine slr 0 ?_
      refine sf 3 ?_
      refine slr 0 ?_
      refine sf 4 ?_
      refine slr 0 ?_
      refine sf 5 ?_
      refine slr 0 ?_
      have hmv := Move_b (W := W) (N := [(b14, row 46 [.int .u8 (lf i 0), .int .i64 (lf i 1), .int .i64 (lf i 2), .int .i64 (lf i 3), .int .i64 (lf i 4), .int .i64 (lf i 5)])] :: [(b12, row 37 [.int .i64 (nt : Nat), lm])] :: M1) (tx := 1) (lo := lf i 2) (hi := lf i 3) (fr := lf i 4) (to := lf i 5) hgB (hgS.ok.pre (by omega))
      rw [hgb] at hmv
      refine St.cls (C' := K W (g.L ++ ([(b14, row 46 [.int .u8 (lf i 0), .int .i64 (lf i 1), .int .i64 (lf i 2), .int .i64 (lf i 3), .int .i64 (lf i 4), .int .i64 (lf i 5)])] :: [(b12, row 37 [.int .i64 (nt : Nat), lm])] :: M1))) ?_ (fun w h => K.bckN (A := [[(b14, row 46 [.int .u8 (lf i 0), .int .i64 (lf i 1), .int .i64 (lf i 2), .int .i64 (lf i 3), .int .i64 (lf i 4), .int .i64 (lf i 5)])]]) (B := g.L) h)
      have hc14 : CellsAre (K W (g.L ++ ([(b14, row 46 [.int .u8 (lf i 0), .int .i64 (lf i 1), .int .i64 (lf i 2), .int .i64 (lf i 3), .int .i64 (lf i 4), .int .i64 (lf i 5)])] :: [(b12, row 37 [.int .i64 (nt : Nat), lm])] :: M1))) ⟨b14, 0, none⟩ [.int .u8 (lf i 0), .int .i64 (lf i 1), .int .i64 (lf i 2), .int .i64 (lf i 3), .int .i64 (lf i 4), .int .i64 (lf i 5)] := (cells_row0 (Ls := [(b14, row 46 [.int .u8 (lf i 0), .int .i64 (lf i 1), .int .i64 (lf i 2), .int .i64 (lf i 3), .int .i64 (lf i 4), .int .i64 (lf i 5)])] :: [(b12, row 37 [.int .i64 (nt : Nat), lm])] :: M1) 0 rfl rfl).cls fun w h => K.bck h
      skip
      refine sk Tryz.call27 hmv fun x => ?_
      obtain ⟨⟨g', e, rs, v, c'⟩, hgB', hgP, hgA, _⟩ := x
      dsimp only at hgB' hgP hgA ⊢
      obtain ⟨q1, q2, q3, q4, q5⟩ := hgS.perf hgP
      have hb' := hgA.b.trans hgb
      clear hc14
      refine St.cls (C' := K W ([(b14, row 46 [.int .u8 (lf i 0), .int .i64 (lf i 1), .int .i64 (lf i 2), .int .i64 (lf i 3), .int .i64 (lf i 4), .int .i64 (lf i 5)])] :: [(b12, row 37 [.int .i64 (nt : Nat), lm])] :: (g'.L ++ M1))) ?_ (fun w h => K.bckN (A := g'.L) (B := [[(b14, row 46 [.int .u8 (lf i 0), .int .i64 (lf i 1), .int .i64 (lf i 2), .int .i64 (lf i 3), .int .i64 (lf i 4), .int .i64 (lf i 5)])], [(b12, row 37 [.int .i64 (nt : Nat), lm])]]) h.tail)
      by_cases ce : e = 0
      · subst ce
        obtain ⟨l, m, hl, hm, hlm, hmz, q5⟩ := (q5.resolve_left fun h => h.1 rfl).2
        obtain ⟨_, a, b, hfr, hto, ha, hb, hall, hW'⟩ := q5.resolve_left fun h => by cases h.1
        have hsw := rswap_spec (hRl.cls (D := K W ([(b14, row 46 [.int .u8 (lf i 0), .int .i64 (lf i 1), .int .i64 (lf i 2), .int .i64 (lf i 3), .int .i64 (lf i 4), .int .i64 (lf i 5)])] :: [(b12, row 37 [.int .i64 (nt : Nat), lm])] :: (g'.L ++ M1))) fun w h => K.bck h.tail.tail) hlm (by rw [← hgz]; exact hmz) ha hb (by have := nbd_le (swf g.bk.W l m a b) nt; omega)
        have hsf : swf g.bk.W l m a b = g'.bk.W := (swf_setf hall).trans hW'.symm
        rw [hsf, ← hl, ← hm, ← hfr, ← hto] at hsw
        refine sy (y_T (y_eql rfl rfl) (by omega)) ?_
        refine snf ?_
        refine c_condT rfl ?_
        refine csr ?_
        refine sy (y_loadA Tryz.tab rfl rfl rfl rfl (cells_row0 1 rfl rfl)) ?_
        refine sf 2 ?_
        refine slr 0 ?_
        refine sf 3 ?_
        refine slr 0 ?_
        refine sf 4 ?_
        refine slr 0 ?_
        refine sf 5 ?_
        refine slr 0 ?_
        refine sk Tryz.call33 hsw fun x => ?_
        obtain ⟨⟨lw, c, cn⟩, hBw⟩ := x
        dsimp only at hBw ⊢
        obtain ⟨pw, kw, rfl, _, _⟩ := (hBw.view (C := K W (c :: M1)) (Hs.at 0 rfl)).view
        refine sm ?_
        refine sx ?_
        refine sx ?_
        refine sx ?_
        refine sal fun b15 => ?_
        refine ss (set_box Tryz.tab 0 rfl rfl rfl rfl rfl rfl rfl) ?_
        refine sa ?_
        refine sa ?_
        refine snf ?_
        refine c_seq ?_
        refine csr ?_
        refine sm ?_
        refine sy (y_F (y_neq rfl rfl) (by omega)) ?_
        refine snf ?_
        refine c_condF rfl ?_
        refine c_skip ?_
        refine f_then ?_
        refine c_region ?_
        refine sy (y_loadA Tryz.tab rfl rfl rfl rfl (cells_row0 0 rfl rfl)) ?_
        refine ss (set_box Tryz.tab 3 rfl rfl rfl rfl rfl rfl rfl) ?_
        refine snf ?_
        refine csr ?_
        refine sm ?_
        refine sm ?_
        refine sm ?_
        obtain ⟨lw, hlw⟩ : ∃ lw, lw = Value.slice pw (rnl (rns g'.bk.W 0 nt)).length kw := ⟨_, rfl⟩
        rw [← hlw] at hBw ⊢
        obtain ⟨M2, hM2e⟩ : ∃ M2, M2 = c :: M1 := ⟨_, rfl⟩
        have hM2 : ∀ w, K W M2 w → K W M w := fun w h => by rw [hM2e] at h; exact hM1 w h.tail
        have hRw : RMp (K W M2) lw nt g'.bk.W := by
          rw [hM2e]
          exact ⟨hBw.view (Hs.at 0 rfl), hRl.pos, by have := nbd_le g'.bk.W nt; omega⟩
        refine St.cls (C' := K W (g'.L ++ ([(b14, row 46 [.int .u8 (lf i 0), .int .i64 (lf i 1), .int .i64 (lf i 2), .int .i64 (lf i 3), .int .i64 (lf i 4), .int .i64 (lf i 5)])] :: [(b12, row 37 [.int .i64 (nt : Nat), lw])] :: M2))) ?_ (fun w h => by rw [hM2e]; exact K.al1 h)
        have hTg : SlV (K W (g'.L ++ ([(b14, row 46 [.int .u8 (lf i 0), .int .i64 (lf i 1), .int .i64 (lf i 2), .int .i64 (lf i 3), .int .i64 (lf i 4), .int .i64 (lf i 5)])] :: [(b12, row 37 [.int .i64 (nt : Nat), lw])] :: M2))) tv nt 1 (fun i _ => .int .u8 (tf i)) := hTM.cls fun w h => hM2 w (K.bck h).tail.tail
        have hlk := Look_b (W := W) (N := [(b14, row 46 [.int .u8 (lf i 0), .int .i64 (lf i 1), .int .i64 (lf i 2), .int .i64 (lf i 3), .int .i64 (lf i 4), .int .i64 (lf i 5)])] :: [(b12, row 37 [.int .i64 (nt : Nat), lw])] :: M2) (tx := 1) (lo := 0) (hi := (nt : Nat)) hgB' (q1.ok.pre (by omega))
        rw [hb'] at hlk
        refine sy (y_lenV Tryz.tab rfl (hTg) rfl) ?_
        refine sk Tryz.call28 hlk fun x => ?_
        obtain ⟨⟨g4, e4, rs4, v4, c4⟩, hgB4, hgP4, hgA4, hgV4⟩ := x
        dsimp only at hgB4 hgP4 hgA4 hgV4 ⊢
        obtain ⟨z1, z2, z3, z4, _⟩ := q1.perf (lo := ((0 : Nat) : Int)) (hi := (nt : Nat)) (fr := ((0 : Nat) : Int)) (to := ((0 : Nat) : Int)) hgP4
        obtain ⟨rfl, rfl, z5⟩ := q1.look (by omega) (Nat.zero_le _) (Nat.le_of_eq (q2.trans hgz).symm) (l := 0) (m := nt) hgP4
        have hb4 := hgA4.b.trans hb'
        have hc64 : CellsAre (K W (c4 :: [(b14, row 46 [.int .u8 (lf i 0), .int .i64 (lf i 1), .int .i64 (lf i 2), .int .i64 (lf i 3), .int .i64 (lf i 4), .int .i64 (lf i 5)])] :: [(b12, row 37 [.int .i64 (nt : Nat), lw])] :: M2)) ⟨b6, 0, none⟩ [.int .i64 (nt : Nat), .slice pa (rnl (rns f 0 nt)).length k] := hc6.cls fun w h => hM2 w h.tail.tail.tail
        have hc124 : CellsAre (K W (c4 :: [(b14, row 46 [.int .u8 (lf i 0), .int .i64 (lf i 1), .int .i64 (lf i 2), .int .i64 (lf i 3), .int .i64 (lf i 4), .int .i64 (lf i 5)])] :: [(b12, row 37 [.int .i64 (nt : Nat), lw])] :: M2)) ⟨b12, 0, none⟩ [.int .i64 (nt : Nat), lw] := cells_row0 2 rfl rfl
        have hEv : EV (K W (g4.L ++ (c4 :: [(b14, row 46 [.int .u8 (lf i 0), .int .i64 (lf i 1), .int .i64 (lf i 2), .int .i64 (lf i 3), .int .i64 (lf i 4), .int .i64 (lf i 5)])] :: [(b12, row 37 [.int .i64 (nt : Nat), lw])] :: M2))) v4 3 (rnl (rns g'.bk.W 0 nt)) := hgV4.view (Hs.sub (c := c4) (fun w hw e he => (hw.own e (by simp [he])).2) fun e he => he)
        have hEl : EV (K W (g4.L ++ (c4 :: [(b14, row 46 [.int .u8 (lf i 0), .int .i64 (lf i 1), .int .i64 (lf i 2), .int .i64 (lf i 3), .int .i64 (lf i 4), .int .i64 (lf i 5)])] :: [(b12, row 37 [.int .i64 (nt : Nat), lw])] :: M2))) lw 3 (rnl (rns g'.bk.W 0 nt)) := hRw.v.cls fun w h => (K.bck h).tail.tail.tail
        have hal := alike_spec hEv hEl (by have := rns_len g'.bk.W nt; have := nbd_le g'.bk.W nt; omega)
        rw [decide_eq_true rfl] at hal
        have hnow := Now_b (W := W) (N := c4 :: [(b14, row 46 [.int .u8 (lf i 0), .int .i64 (lf i 1), .int .i64 (lf i 2), .int .i64 (lf i 3), .int .i64 (lf i 4), .int .i64 (lf i 5)])] :: [(b12, row 37 [.int .i64 (nt : Nat), lw])] :: M2) hgB4
        rw [hb4] at hnow
        have hrq := runsNow (W := W) hgB4 (z2.trans (q2.trans hgz)) (z3.trans (q3.trans hgC)) (hRM.cls (D := K W (c4 :: [(b14, row 46 [.int .u8 (lf i 0), .int .i64 (lf i 1), .int .i64 (lf i 2), .int .i64 (lf i 3), .int .i64 (lf i 4), .int .i64 (lf i 5)])] :: [(b12, row 37 [.int .i64 (nt : Nat), lw])] :: M2)) fun w h => hM2 w h.tail.tail.tail)
        refine sm ?_
        refine sx ?_
        refine sx ?_
        refine sa ?_
        refine sa ?_
        refine snf ?_
        refine c_seq ?_
        refine SC.cls (C' := K W (g4.L ++ (c4 :: [(b14, row 46 [.int .u8 (lf i 0), .int .i64 (lf i 1), .int .i64 (lf i 2), .int .i64 (lf i 3), .int .i64 (lf i 4), .int .i64 (lf i 5)])] :: [(b12, row 37 [.int .i64 (nt : Nat), lw])] :: M2))) ?_ (fun w h => K.bckN (A := [c4]) (B := g4.L) h)
        have hD := fun (w : World) (h : K W (g4.L ++ (c4 :: [(b14, row 46 [.int .u8 (lf i 0), .int .i64 (lf i 1), .int .i64 (lf i 2), .int .i64 (lf i 3), .int .i64 (lf i 4), .int .i64 (lf i 5)])] :: [(b12, row 37 [.int .i64 (nt : Nat), lw])] :: M2)) w) => K.bck h
        refine c_plan [.c 0, .c 1, .c 2, .c 3, .c 4, .c 5, .s 6, .c 7, .c 8, .c 9, .c 10, .c 12, .s 11, .s 13, .c 14, .c 15] [] ((K W (c4 :: [(b14, row 46 [.int .u8 (lf i 0), .int .i64 (lf i 1), .int .i64 (lf i 2), .int .i64 (lf i 3), .int .i64 (lf i 4), .int .i64 (lf i 5)])] :: [(b12, row 37 [.int .i64 (nt : Nat), lw])] :: M2))) Tryz.mixed (by kernel_rfl) rfl K.cl ?_
        refine dy rfl (y_move rfl) hD ?_
        refine dy rfl (y_F (y_neq rfl rfl) (by omega)) hD ?_
        refine dy rfl (y_move rfl) hD ?_
        refine dy rfl (y_move rfl) hD ?_
        refine dy rfl (y_fieldAddrB Tryz.tab 1 rfl rfl rfl rfl rfl) hD ?_
        refine dy rfl (y_load Tryz.tab rfl rfl (CellsAre.nth 1 (hc124) rfl)) hD ?_
        refine d_call rfl (en_f rfl Tryz.call34) hal rfl rfl rfl (fun _ => K.cl) (fun _ _ _ h => K.bck h) (fun _ => ?_)
        refine dy rfl (y_notT rfl) hD ?_
        refine dy rfl (y_pickF rfl rfl) hD ?_
        refine dy rfl (y_move rfl) hD ?_
        refine dy rfl (y_move rfl) hD ?_
        refine dy rfl (y_loadA Tryz.tab rfl rfl rfl rfl hc64) hD ?_
        refine d_call rfl (en_f rfl Tryz.call35) hnow rfl rfl rfl (fun _ => K.cl) (fun _ _ _ h => K.bck h) (fun _ => ?_)
        skip
        refine d_call rfl (en_f rfl Tryz.call24) hrq rfl rfl rfl (fun _ => K.cl) (fun _ _ _ h => K.bck h) (fun _ => ?_)
        refine dy rfl (y_notT rfl) hD ?_
        refine dy rfl (y_pickF rfl rfl) hD ?_
        refine d_nil ?_
        refine f_then ?_
        refine c_condF rfl ?_
        refine c_skip ?_
        refine f_blockN ?_
        refine f_then ?_
        refine c_region ?_
        refine sm ?_
        refine sy (y_add rfl rfl (by omega)) ?_
        refine sa ?_
        refine s_nil ?_
        exact f_roundP (i + 1, g4, lw, M2) ⟨ci, hgB4, hb4, by rw [Nat.mul_succ]; exact z1, z2.trans (q2.trans hgz), z3.trans (q3.trans hgC), z4.trans (q4.trans hgl), hM2, by rw [z5]; exact hRw⟩ (by dsimp only; omega) ⟨rfl, rfl, rfl, rfl, rfl, rfl, rfl, trivial⟩ (fun w h => K.dropMid (K.dropMid h))
      · obtain ⟨_, hW'⟩ := q5.resolve_right fun h => ce h.1
        obtain ⟨lw, hlw⟩ : ∃ lw, lw = lm := ⟨_, rfl⟩
        obtain ⟨M2, hM2e⟩ : ∃ M2, M2 = M1 := ⟨_, rfl⟩
        subst hlw
        subst hM2e
        have hM2 := hM1
        have hRw : RMp (K W M2) lw nt g'.bk.W := by rw [hW']; exact hRl
        refine sy (y_F (y_eql rfl rfl) (by omega)) ?_
        refine snf ?_
        refine c_condF rfl ?_
        refine c_skip ?_
        refine f_then ?_
        refine csr ?_
        refine sm ?_
        refine sm ?_
        refine sm ?_
        refine St.cls (C' := K W (g'.L ++ ([(b14, row 46 [.int .u8 (lf i 0), .int .i64 (lf i 1), .int .i64 (lf i 2), .int .i64 (lf i 3), .int .i64 (lf i 4), .int .i64 (lf i 5)])] :: [(b12, row 37 [.int .i64 (nt : Nat), lw])] :: M2))) ?_ (fun w h => K.bckN (A := [[(b14, row 46 [.int .u8 (lf i 0), .int .i64 (lf i 1), .int .i64 (lf i 2), .int .i64 (lf i 3), .int .i64 (lf i 4), .int .i64 (lf i 5)])], [(b12, row 37 [.int .i64 (nt : Nat), lw])]]) (B := g'.L) h)
        have hTg : SlV (K W (g'.L ++ ([(b14, row 46 [.int .u8 (lf i 0), .int .i64 (lf i 1), .int .i64 (lf i 2), .int .i64 (lf i 3), .int .i64 (lf i 4), .int .i64 (lf i 5)])] :: [(b12, row 37 [.int .i64 (nt : Nat), lw])] :: M2))) tv nt 1 (fun i _ => .int .u8 (tf i)) := hTM.cls fun w h => hM2 w (K.bck h).tail.tail
        have hlk := Look_b (W := W) (N := [(b14, row 46 [.int .u8 (lf i 0), .int .i64 (lf i 1), .int .i64 (lf i 2), .int .i64 (lf i 3), .int .i64 (lf i 4), .int .i64 (lf i 5)])] :: [(b12, row 37 [.int .i64 (nt : Nat), lw])] :: M2) (tx := 1) (lo := 0) (hi := (nt : Nat)) hgB' (q1.ok.pre (by omega))
        rw [hb'] at hlk
        refine sy (y_lenV Tryz.tab rfl (hTg) rfl) ?_
        refine sk Tryz.call28 hlk fun x => ?_
        obtain ⟨⟨g4, e4, rs4, v4, c4⟩, hgB4, hgP4, hgA4, hgV4⟩ := x
        dsimp only at hgB4 hgP4 hgA4 hgV4 ⊢
        obtain ⟨z1, z2, z3, z4, _⟩ := q1.perf (lo := ((0 : Nat) : Int)) (hi := (nt : Nat)) (fr := ((0 : Nat) : Int)) (to := ((0 : Nat) : Int)) hgP4
        obtain ⟨rfl, rfl, z5⟩ := q1.look (by omega) (Nat.zero_le _) (Nat.le_of_eq (q2.trans hgz).symm) (l := 0) (m := nt) hgP4
        have hb4 := hgA4.b.trans hb'
        have hc64 : CellsAre (K W (c4 :: [(b14, row 46 [.int .u8 (lf i 0), .int .i64 (lf i 1), .int .i64 (lf i 2), .int .i64 (lf i 3), .int .i64 (lf i 4), .int .i64 (lf i 5)])] :: [(b12, row 37 [.int .i64 (nt : Nat), lw])] :: M2)) ⟨b6, 0, none⟩ [.int .i64 (nt : Nat), .slice pa (rnl (rns f 0 nt)).length k] := hc6.cls fun w h => hM2 w h.tail.tail.tail
        have hc124 : CellsAre (K W (c4 :: [(b14, row 46 [.int .u8 (lf i 0), .int .i64 (lf i 1), .int .i64 (lf i 2), .int .i64 (lf i 3), .int .i64 (lf i 4), .int .i64 (lf i 5)])] :: [(b12, row 37 [.int .i64 (nt : Nat), lw])] :: M2)) ⟨b12, 0, none⟩ [.int .i64 (nt : Nat), lw] := cells_row0 2 rfl rfl
        have hEv : EV (K W (g4.L ++ (c4 :: [(b14, row 46 [.int .u8 (lf i 0), .int .i64 (lf i 1), .int .i64 (lf i 2), .int .i64 (lf i 3), .int .i64 (lf i 4), .int .i64 (lf i 5)])] :: [(b12, row 37 [.int .i64 (nt : Nat), lw])] :: M2))) v4 3 (rnl (rns g'.bk.W 0 nt)) := hgV4.view (Hs.sub (c := c4) (fun w hw e he => (hw.own e (by simp [he])).2) fun e he => he)
        have hEl : EV (K W (g4.L ++ (c4 :: [(b14, row 46 [.int .u8 (lf i 0), .int .i64 (lf i 1), .int .i64 (lf i 2), .int .i64 (lf i 3), .int .i64 (lf i 4), .int .i64 (lf i 5)])] :: [(b12, row 37 [.int .i64 (nt : Nat), lw])] :: M2))) lw 3 (rnl (rns g'.bk.W 0 nt)) := hRw.v.cls fun w h => (K.bck h).tail.tail.tail
        have hal := alike_spec hEv hEl (by have := rns_len g'.bk.W nt; have := nbd_le g'.bk.W nt; omega)
        rw [decide_eq_true rfl] at hal
        have hnow := Now_b (W := W) (N := c4 :: [(b14, row 46 [.int .u8 (lf i 0), .int .i64 (lf i 1), .int .i64 (lf i 2), .int .i64 (lf i 3), .int .i64 (lf i 4), .int .i64 (lf i 5)])] :: [(b12, row 37 [.int .i64 (nt : Nat), lw])] :: M2) hgB4
        rw [hb4] at hnow
        have hrq := runsNow (W := W) hgB4 (z2.trans (q2.trans hgz)) (z3.trans (q3.trans hgC)) (hRM.cls (D := K W (c4 :: [(b14, row 46 [.int .u8 (lf i 0), .int .i64 (lf i 1), .int .i64 (lf i 2), .int .i64 (lf i 3), .int .i64 (lf i 4), .int .i64 (lf i 5)])] :: [(b12, row 37 [.int .i64 (nt : Nat), lw])] :: M2)) fun w h => hM2 w h.tail.tail.tail)
        refine sm ?_
        refine sx ?_
        refine sx ?_
        refine sa ?_
        refine sa ?_
        refine snf ?_
        refine c_seq ?_
        refine SC.cls (C' := K W (g4.L ++ (c4 :: [(b14, row 46 [.int .u8 (lf i 0), .int .i64 (lf i 1), .int .i64 (lf i 2), .int .i64 (lf i 3), .int .i64 (lf i 4), .int .i64 (lf i 5)])] :: [(b12, row 37 [.int .i64 (nt : Nat), lw])] :: M2))) ?_ (fun w h => K.bckN (A := [c4]) (B := g4.L) h)
        have hD := fun (w : World) (h : K W (g4.L ++ (c4 :: [(b14, row 46 [.int .u8 (lf i 0), .int .i64 (lf i 1), .int .i64 (lf i 2), .int .i64 (lf i 3), .int .i64 (lf i 4), .int .i64 (lf i 5)])] :: [(b12, row 37 [.int .i64 (nt : Nat), lw])] :: M2)) w) => K.bck h
        refine c_plan [.c 0, .c 1, .c 2, .c 3, .c 4, .c 5, .s 6, .c 7, .c 8, .c 9, .c 10, .c 12, .s 11, .s 13, .c 14, .c 15] [] ((K W (c4 :: [(b14, row 46 [.int .u8 (lf i 0), .int .i64 (lf i 1), .int .i64 (lf i 2), .int .i64 (lf i 3), .int .i64 (lf i 4), .int .i64 (lf i 5)])] :: [(b12, row 37 [.int .i64 (nt : Nat), lw])] :: M2))) Tryz.mixed (by kernel_rfl) rfl K.cl ?_
        refine dy rfl (y_move rfl) hD ?_
        refine dy rfl (y_F (y_neq rfl rfl) (by omega)) hD ?_
        refine dy rfl (y_move rfl) hD ?_
        refine dy rfl (y_move rfl) hD ?_
        refine dy rfl (y_fieldAddrB Tryz.tab 1 rfl rfl rfl rfl rfl) hD ?_
        refine dy rfl (y_load Tryz.tab rfl rfl (CellsAre.nth 1 (hc124) rfl)) hD ?_
        refine d_call rfl (en_f rfl Tryz.call34) hal rfl rfl rfl (fun _ => K.cl) (fun _ _ _ h => K.bck h) (fun _ => ?_)
        refine dy rfl (y_notT rfl) hD ?_
        refine dy rfl (y_pickF rfl rfl) hD ?_
        refine dy rfl (y_move rfl) hD ?_
        refine dy rfl (y_move rfl) hD ?_
        refine dy rfl (y_loadA Tryz.tab rfl rfl rfl rfl hc64) hD ?_
        refine d_call rfl (en_f rfl Tryz.call35) hnow rfl rfl rfl (fun _ => K.cl) (fun _ _ _ h => K.bck h) (fun _ => ?_)
        skip
        refine d_call rfl (en_f rfl Tryz.call24) hrq rfl rfl rfl (fun _ => K.cl) (fun _ _ _ h => K.bck h) (fun _ => ?_)
        refine dy rfl (y_notT rfl) hD ?_
        refine dy rfl (y_pickF rfl rfl) hD ?_
        refine d_nil ?_
        refine f_then ?_
        refine c_condF rfl ?_
        refine c_skip ?_
        refine f_blockN ?_
        refine f_then ?_
        refine c_region ?_
        refine sm ?_
        refine sy (y_add rfl rfl (by omega)) ?_
        refine sa ?_
        refine s_nil ?_
        exact f_roundP (i + 1, g4, lw, M2) ⟨ci, hgB4, hb4, by rw [Nat.mul_succ]; exact z1, z2.trans (q2.trans hgz), z3.trans (q3.trans hgC), z4.trans (q4.trans hgl), hM2, by rw [z5]; exact hRw⟩ (by dsimp only; omega) ⟨rfl, rfl, rfl, rfl, rfl, rfl, rfl, trivial⟩ (fun w h => K.dropMid (K.dropMid h))
    · obtain rfl : i = nl := by omega
      have hcm := Commit_b (W := W) (N := [(b12, row 37 [.int .i64 (nt : Nat), lm])] :: M1) (tx := 1) hgB (hgS.ok.inv.good (by omega)) (fun k hk hh _ _ => hgS.ok.inv.apOK hh) (by
        have : g.bk.log.length = g.ls.length := by simp [Bg.bk]
        rw [hgl] at this
        rw [← this]; decide)
      rw [hgb] at hcm
      refine c_seq ?_
      refine csr ?_
      refine sm ?_
      refine sm ?_
      refine sy (y_lenV Tryz.tab rfl (hLg) rfl) ?_
      refine sy (y_F (y_lss rfl rfl) (by omega)) ?_
      refine snf ?_
      refine c_condF rfl ?_
      refine c_exit ?_
      refine f_thenE ?_
      refine f_rndE ?_
      refine f_blockE ?_
      refine f_then ?_
      refine csr ?_
      refine sm ?_
      refine sm ?_
      refine sk Tryz.call30 hcm fun x => ?_
      obtain ⟨⟨g2, n2, e2⟩, hgB2, hgP2, hgA2⟩ := x
      dsimp only at hgB2 hgP2 hgA2 ⊢
      obtain ⟨rfl, hbk2, rfl⟩ := Bk.Ok.cmt1 hgS.has hgS.st hgP2
      obtain ⟨s1, s2, s3, _⟩ := Bk.commit_same (A := g.bk) hgS.has
      rw [← hbk2] at s1 s2 s3
      rw [← hgS.sees] at s2
      rw [show g2.bk.log.length = 1 by rw [s3, hgl]; rfl]
      have hb2 := hgA2.b.trans hgb
      have hD := fun (w : World) (h : K W (g2.L ++ ([(b12, row 37 [.int .i64 (nt : Nat), lm])] :: M1)) w) => K.bck h
      have hnow := Now_b (W := W) (N := [(b12, row 37 [.int .i64 (nt : Nat), lm])] :: M1) hgB2
      rw [hb2] at hnow
      have hrq := runsNow (W := W) hgB2 (s1.trans hgz) s2 (hRl.cons (d := [(b12, row 37 [.int .i64 (nt : Nat), lm])]))
      have hc12 : CellsAre (K W ([(b12, row 37 [.int .i64 (nt : Nat), lm])] :: M1)) ⟨b12, 0, none⟩ [.int .i64 (nt : Nat), lm] := cells_row0 0 rfl rfl
      refine sm ?_
      refine sx ?_
      refine sx ?_
      refine sa ?_
      refine sa ?_
      refine snf ?_
      refine c_seq ?_
      refine c_plan [.c 0, .c 1, .c 2, .c 3, .c 4, .c 5, .c 6, .c 7, .c 9, .s 8, .s 10, .c 11, .c 12, .s 13, .c 14, .c 15] [] ((K W ([(b12, row 37 [.int .i64 (nt : Nat), lm])] :: M1))) Tryz.mixed (by kernel_rfl) rfl K.cl ?_
      refine dy rfl (y_move rfl) hD ?_
      refine dy rfl (y_T (y_eql rfl rfl) (by omega)) hD ?_
      refine dy rfl (y_move rfl) hD ?_
      refine dy rfl (y_move rfl) hD ?_
      refine dy rfl (y_T (y_eql rfl rfl) (by omega)) hD ?_
      refine dy rfl (y_pickT rfl rfl) hD ?_
      refine dy rfl (y_move rfl) hD ?_
      refine dy rfl (y_move rfl) hD ?_
      refine dy rfl (y_loadA Tryz.tab rfl rfl rfl rfl hc12) hD ?_
      refine d_call rfl (en_f rfl Tryz.call35) hnow rfl rfl rfl (fun _ => K.cl) (fun _ _ _ h => K.bck h) (fun _ => ?_)
      skip
      refine d_call rfl (en_f rfl Tryz.call24) hrq rfl rfl rfl (fun _ => K.cl) (fun _ _ _ h => K.bck h) (fun _ => ?_)
      refine dy rfl (y_pickT rfl rfl) hD ?_
      refine dy rfl (y_move rfl) hD ?_
      refine d_call rfl (en_f rfl Tryz.call13) awake_spec rfl rfl rfl (fun _ => K.cl) (fun _ _ _ h => K.bck h) (fun _ => ?_)
      refine dy rfl (y_pickT rfl rfl) hD ?_
      refine dy rfl (y_assign rfl) hD ?_
      refine d_nil ?_
      refine f_then ?_
      refine c_ret ?_
      exact f_ret () (res1 rfl rfl) (fun w h => hMN w (hM1 w (K.bck h).tail))
  · rw [decide_eq_false c2]
    refine sy (y_notF rfl) ?_
    refine spF ?_
    refine snf ?_
    refine c_condT rfl ?_
    refine csr ?_
    refine sk Tryz.call13 awake_spec fun _ => ?_
    refine sa ?_
    refine snf ?_
    refine c_ret ?_
    refine f_thenR ?_
    exact f_ret () (res1 rfl rfl) (fun w h => h.tail.tail.tail.tail)
/-- The law, walked. -/
theorem clerkAlone_walk (W : World) (nt : Nat) (tf : Nat → Int) (nl : Nat) (lf : Nat → Nat → Int) (tv lv : Value) (hT : SlV (K W []) tv nt 1 (fun i _ => .int .u8 (tf i))) (hnt : nt ≤ 9223372036854775807) (htf : ∀ i, i < nt → 0 ≤ tf i ∧ tf i < 256)
    (hL : SlV (K W []) lv nl 6 (fun i j => (clc (lf i)).getD j undef)) (hnl : nl ≤ 9223372036854775807) (hlf : ∀ i, i < nl → (0 ≤ lf i 0 ∧ lf i 0 < 256) ∧ ∀ j, 1 ≤ j → j < 6 → i64 (lf i j)) :
    Spec Tryz.prog 7 #[tv, lv] (K W []) (fun _ : Unit => .bool true) (fun _ => K W []) := alone_spec hT hL htf (fun i hi => (hlf i hi).1) hnt hnl
end Go.KL
end

section
namespace Go.Proofs.YtcbmmldkpicaiaaGreat
open Go.ChangeShapes Go.WideShapes Go.RowKit Go.KL
set_option linter.unusedVariables false
theorem own : ownKnob Tryz.prog.godebug = none := by kernel_rfl
set_option maxRecDepth 100000 in
theorem clerkAlone_lifted (os : Os) (started : os.Started) (H : Type) (enc : TypeId × Value → H) :
    ReturnsInHanded {} Tryz.checked os 7 .any (Rows.clerkAloneSpec.pre6 enc Tryz.prog Tryz.f7 Rows.clerkAloneRow.domain false) (Rows.clerkAloneSpec.post enc Tryz.prog Tryz.f7 false true false false) := by
  refine returnsInHanded_of_change (C := Tryz.checked) own started (by kernel_rfl) Tryz.func7
    (ChangeSpec.witness6 (enc := enc) (C := Tryz.checked) false ⟨#[], #[.slice none 0 0, .slice none 0 0], []⟩ 8 (by kernel_rfl) (by kernel_rfl) (by kernel_rfl) (by kernel_rfl)) ?_
  intro W base args ds gs before hval hW hcnd _
  obtain ⟨p, q, hA, hV, rfl, hfz, hnd⟩ := id hW
  obtain ⟨rfl, rfl⟩ := trodVars_none hV
  obtain ⟨v0, vs0, d0, ds0, p0, q0, e0, rfl, rfl, h0, r0⟩ := trodAll_cons hA
  obtain ⟨v1, vs1, d1, ds1, p1, q1, rfl, rfl, rfl, h1, r1⟩ := trodAll_cons r0
  obtain ⟨rfl, rfl, rfl⟩ := trodAll_nil r1
  obtain rfl : args = #[v0, v1] := by cases args; simp_all
  obtain ⟨n0, f0, hV0, hm0, hf0⟩ := arg50 (hval 0 50 _ rfl rfl) h0
  obtain ⟨n1, f1, hV1, hm1, hf1⟩ := arg22 (hval 1 22 _ rfl rfl) h1
  refine ((clerkAlone_walk W n0 f0 n1 f1 v0 v1 hV0 hm0 hf0 hV1 hm1 hf1) W (K.refl W)).mono ?_
  rintro e W' ⟨x, rfl, hk⟩
  exact ⟨_, rfl, law_post (t := 4) laidOut (by decide +kernel) rfl rfl u4 hW rfl hk.toExt⟩
theorem joined : joinedFacts Tryz.pinned.checked.prog 7 Tryz.f7 Rows.clerkAloneSpec Rows.clerkAloneRow = true := by
  show joinedFacts Tryz.prog 7 Tryz.f7 Rows.clerkAloneSpec Rows.clerkAloneRow = true
  unfold joinedFacts
  rw [Go.KL.may_enter, Go.KL.lifts_final, Go.KL.make_cut]
  kernel_rfl
/-- The statement. -/
theorem clerkAlone_holds : Rows.ClerkAloneSaid :=
  OpenClaim.holds_of_wide 7 Tryz.f7 rfl rfl rfl rfl rfl rfl rfl ⟨rfl, rfl, rfl, rfl, rfl⟩ rfl rfl rfl rfl rfl (by kernel_rfl) Tryz.func7 joined
    (of_decide_eq_true (by kernel_rfl)) (by unfold Func.isWrapper; first | (rw [if_pos (by decide +kernel)]; kernel_rfl) | (rw [if_neg (by decide +kernel)]; exact ⟨rfl, rfl⟩))
    (fun os started H enc _ => clerkAlone_lifted os started H enc)
end Go.Proofs.YtcbmmldkpicaiaaGreat
end
