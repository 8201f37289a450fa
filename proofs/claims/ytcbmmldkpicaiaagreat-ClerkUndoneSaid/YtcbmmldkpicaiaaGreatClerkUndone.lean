/- ClerkUndone: for every input the law returns true, and its arguments read as they did. No condition. -/
import Derived.Test.YtcbmmldkpicaiaaGreatRows
import Derived.JoinedOf
import Derived.Handed
import Derived.Test.YtcbmmldkpicaiaaGreatUndL5
section
/- The law: ClerkUndone. -/
namespace Go.KL
open Go.Proofs
attribute [local irreducible] SC St Fin Sq Ylds Doos Sets Enters Spec CellIs CellsAre Then Ret Rnd Chn resOK ints bools recs arr
set_option maxRecDepth 10000 in
set_option maxHeartbeats 16000000 in
theorem undone_spec {W : World} {N : List Chunk} {tv lv : Value} {nt nl : Nat} {tf : Nat → Int} {lf : Nat → Nat → Int} (hT : SlV (K W N) tv nt 1 (fun i _ => .int .u8 (tf i))) (hL : SlV (K W N) lv nl 6 (fun i j => (clc (lf i)).getD j undef))
    (htf : ∀ i, i < nt → 0 ≤ tf i ∧ tf i < 256) (hlf : ∀ i, i < nl → 0 ≤ lf i 0 ∧ lf i 0 < 256) (hnt : nt ≤ 9223372036854775807) (hnl : nl ≤ 9223372036854775807) :
    Spec Tryz.prog 8 #[tv, lv] (K W N) (fun _ : Unit => .bool true) (fun _ => K W N) := by
  refine enter (args := [_, _]) Tryz.func8 rfl Tryz.ntmps8 rfl ?_
  by_cases c0 : nt = 0
  · refine csr ?_
    refine sa ?_
    refine snf ?_
    refine csr ?_
    refine sm ?_
    refine sk Tryz.call20 (made_no hT (.inl c0)) fun _ => ?_
    refine sm ?_
    refine sx ?_
    refine sx ?_
    refine sx ?_
    refine sal fun b5 => ?_
    refine sal fun b6 => ?_
    refine ss (set_box Tryz.tab 1 rfl rfl rfl rfl rfl rfl rfl) ?_
    refine ss (set_box Tryz.tab 0 rfl rfl rfl rfl rfl rfl rfl) ?_
    refine sa ?_
    refine snf ?_
    refine c_seq ?_
    refine csr ?_
    refine sm ?_
    refine sy (y_lenV Tryz.tab rfl (hT.cons.cons) rfl) ?_
    refine sy (y_T (y_eql rfl rfl) (by omega)) ?_
    refine sm ?_
    iterate 4 refine s_skip rfl rfl rfl ?_
    refine spT ?_
    refine snf ?_
    refine c_condT rfl ?_
    refine csr ?_
    refine sk Tryz.call13 awake_spec fun _ => ?_
    refine sa ?_
    refine snf ?_
    refine c_ret ?_
    refine f_thenR ?_
    exact f_ret () (res1 rfl rfl) (fun w h => h.tail.tail)
  by_cases c1 : 200 < nt
  · refine csr ?_
    refine sa ?_
    refine snf ?_
    refine csr ?_
    refine sm ?_
    refine sk Tryz.call20 (made_no hT (.inr c1)) fun _ => ?_
    refine sm ?_
    refine sx ?_
    refine sx ?_
    refine sx ?_
    refine sal fun b5 => ?_
    refine sal fun b6 => ?_
    refine ss (set_box Tryz.tab 1 rfl rfl rfl rfl rfl rfl rfl) ?_
    refine ss (set_box Tryz.tab 0 rfl rfl rfl rfl rfl rfl rfl) ?_
    refine sa ?_
    refine snf ?_
    refine c_seq ?_
    refine csr ?_
    refine sm ?_
    refine sy (y_lenV Tryz.tab rfl (hT.cons.cons) rfl) ?_
    refine sy (y_F (y_eql rfl rfl) (by omega)) ?_
    refine sm ?_
    refine sm ?_
    refine sm ?_
    refine sk Tryz.call21 (fewC_spec hT.cons.cons hL.cons.cons) fun _ => ?_
    rw [decide_eq_false (show ¬ (nt ≤ 60 ∧ nl ≤ 60) from fun h => by omega)]
    refine sy (y_notF rfl) ?_
    refine spF ?_
    refine snf ?_
    refine c_condT rfl ?_
    refine csr ?_
    refine sk Tryz.call13 awake_spec fun _ => ?_
    refine sa ?_
    refine snf ?_
    refine c_ret ?_
    refine f_thenR ?_
    exact f_ret () (res1 rfl rfl) (fun w h => h.tail.tail)
  have hm := made_spec hT (by omega) (by omega) htf
  refine csr ?_
  refine sa ?_
  refine snf ?_
  refine csr ?_
  refine sm ?_
  refine sk Tryz.call20 hm fun x => ?_
  obtain ⟨⟨p, mv, c, rv⟩, hM, hB⟩ := x
  dsimp only at hM hB ⊢
  obtain ⟨pa, k, rfl, _, _⟩ := (hB.view (C := K W (c :: N)) (Hs.at 0 rfl)).view
  obtain ⟨a, rfl⟩ := hM.ptr
  have hT2 : SlV (K W (p :: c :: N)) tv nt 1 (fun i _ => .int .u8 (tf i)) := hT.cons.cons
  have hL2 : SlV (K W (p :: c :: N)) lv nl 6 (fun i j => (clc (lf i)).getD j undef) := hL.cons.cons
  refine sm ?_
  refine sx ?_
  refine sx ?_
  refine sx ?_
  refine sal fun b5 => ?_
  refine sal fun b6 => ?_
  refine ss (set_box Tryz.tab 1 rfl rfl rfl rfl rfl rfl rfl) ?_
  refine ss (set_box Tryz.tab 0 rfl rfl rfl rfl rfl rfl rfl) ?_
  refine sa ?_
  refine snf ?_
  refine c_seq ?_
  refine csr ?_
  refine sm ?_
  refine sy (y_lenV Tryz.tab rfl (hT2.cons.cons) rfl) ?_
  refine sy (y_F (y_eql rfl rfl) (by omega)) ?_
  refine sm ?_
  refine sm ?_
  refine sm ?_
  refine sk Tryz.call21 (fewC_spec hT2.cons.cons hL2.cons.cons) fun _ => ?_
  by_cases c2 : nt ≤ 60 ∧ nl ≤ 60
  · rw [decide_eq_true c2]
    refine sy (y_notT rfl) ?_
    refine spF ?_
    refine snf ?_
    refine c_condF rfl ?_
    refine c_skip ?_
    refine f_then ?_
    refine csr ?_
    refine sy (y_loadA Tryz.tab rfl rfl rfl rfl (cells_row0 1 rfl rfl)) ?_
    refine St.cls (C' := K W (p :: [(b6, row 37 [.int .i64 (nt : Nat), .slice pa (rnl (rns (tgs nt tf) 0 nt)).length k])] :: [(b5, row 29 [.pointer (some a)])] :: c :: N)) ?_ (fun w h => K.front 2 h)
    obtain ⟨M, hMM⟩ : ∃ M, M = [(b6, row 37 [.int .i64 (nt : Nat), .slice pa (rnl (rns (tgs nt tf) 0 nt)).length k])] :: [(b5, row 29 [.pointer (some a)])] :: c :: N := ⟨_, rfl⟩
    have hok := tgs_ok (f := tf) (n := nt) (by omega) (by omega)
    have hTM : SlV (K W M) tv nt 1 (fun i _ => .int .u8 (tf i)) := by rw [hMM]; exact hT.cons.cons.cons
    have hLM : SlV (K W M) lv nl 6 (fun i j => (clc (lf i)).getD j undef) := by rw [hMM]; exact hL.cons.cons.cons
    have hc6 : CellsAre (K W M) ⟨b6, 0, none⟩ [.int .i64 (nt : Nat), .slice pa (rnl (rns (tgs nt tf) 0 nt)).length k] := by rw [hMM]; exact cells_row0 0 rfl rfl
    have hRM : RMp (K W M) (.slice pa (rnl (rns (tgs nt tf) 0 nt)).length k) nt (tgs nt tf) := by rw [hMM]; exact ⟨hB.view (Hs.at 2 rfl), hok.pos, hok.nb⟩
    have hMN : ∀ w, K W M w → K W N w := fun w h => by rw [hMM] at h; exact h.tail.tail.tail
    rw [← hMM]
    obtain ⟨f, hf⟩ : ∃ f, f = tgs nt tf := ⟨_, rfl⟩
    rw [← hf] at hc6 hRM hM hok
    clear hT2 hL2 hB
    refine sk Tryz.call15 (New_b hM) fun x => ?_
    obtain ⟨g0, hB0, hb0, _⟩ := x
    dsimp only
    have hs0 := Bk.fresh_solo (n := nt) (f := f) ⟨by omega, by omega⟩ hok.nb
    have ht0 : g0.ts.length = 0 := by
      have := congrArg (fun A : Bk => A.ts.length) hb0
      simpa [Bg.bk, Bk.fresh] using this
    have hr0 : g0.rn = [] := congrArg Bk.rn hb0
    refine sm ?_
    refine sx ?_
    refine sx ?_
    refine sa ?_
    refine sa ?_
    refine snf ?_
    refine csr ?_
    refine sm ?_
    refine s_call (en_f rfl Tryz.call26) (Begin_b (N := M) hB0 (by omega)) rfl rfl rfl (fun x => ?_)
    obtain ⟨⟨g1, n1, e1⟩, hB1, hbb1, hc1⟩ := x
    dsimp only at hB1 hbb1 hc1 ⊢
    rcases hc1 with ⟨h, _⟩ | ⟨_, hb1, he1⟩
    · rw [hr0] at h
      exact absurd h (by decide)
    obtain ⟨rfl, rfl⟩ := Prod.mk.inj he1
    rw [hb0] at hb1
    rw [ht0]
    refine sm ?_
    refine sx ?_
    refine sx ?_
    refine sa ?_
    refine sa ?_
    refine snf ?_
    refine c_seq ?_
    refine csr ?_
    refine sm ?_
    refine sy (y_notT rfl) ?_
    refine sm ?_
    refine sm ?_
    refine sy (y_F (y_neq rfl rfl) (by omega)) ?_
    refine spF ?_
    refine sm ?_
    refine sm ?_
    refine sy (y_F (y_neq rfl rfl) (by omega)) ?_
    refine spF ?_
    refine snf ?_
    refine c_condF rfl ?_
    refine c_skip ?_
    refine f_then ?_
    refine c_seq ?_
    refine csr ?_
    refine sa ?_
    refine snf ?_
    refine c_block ?_
    refine c_loopP (α := Nat × Bg) (fun z => [(0, tv), (1, lv), (6, .pointer (some ⟨b6, 0, none⟩)), (8, .pointer (some ⟨g0.b, 0, none⟩)), (10, .int .i64 1), (12, .int .i64 (z.1 : Nat))]) (fun z => z.1 ≤ nl ∧ z.2.OK ∧ z.2.b = g0.b ∧ z.2.bk.Solo z.1 ∧ z.2.bk.size = nt ∧ z.2.bk.C = f ∧ z.2.bk.log = [])
      (fun z => K W (z.2.L ++ M)) (fun z => nl - z.1) (0, g1) ⟨rfl, rfl, rfl, rfl, rfl, rfl, trivial⟩ ⟨Nat.zero_le _, hB1, hbb1, by rw [hb1]; exact hs0, by rw [hb1]; rfl, by rw [hb1]; rfl, by rw [hb1]; rfl⟩ (fun w h => h) ?_
    clear hs0 ht0 hr0 hb1 hbb1 hB1
    rintro ⟨i, g⟩ ⟨hi, hgB, hgb, hgS, hgz, hgC, hgl⟩
    dsimp only at hi hgB hgb hgS hgz hgC hgl ⊢
    have hLg : SlV (K W (g.L ++ M)) lv nl 6 (fun i j => (clc (lf i)).getD j undef) := hLM.cls fun w h => K.bck h
    by_cases ci : i < nl
    · have hcell : CellsAre (K W (g.L ++ M)) ⟨vblk lv, voff lv + i * 6, none⟩ [.int .u8 (lf i 0), .int .i64 (lf i 1), .int .i64 (lf i 2), .int .i64 (lf i 3), .int .i64 (lf i 4), .int .i64 (lf i 5)] := hLg.rowAt ci
      refine c_seq ?_
      refine csr ?_
      refine sm ?_
      refine sm ?_
      refine sy (y_lenV Tryz.tab rfl (hLg) rfl) ?_
      refine sy (y_T (y_lss rfl rfl) (by omega)) ?_
      refine snf ?_
      refine c_condT rfl ?_
      refine c_skip ?_
      refine f_then ?_
      refine c_seq ?_
      refine c_block ?_
      refine csr ?_
      refine sm ?_
      refine sm ?_
      refine sy (y_ixV Tryz.tab rfl rfl rfl rfl (hLg) _ rfl (by omega)) ?_
      refine sy (y_loadA Tryz.tab rfl rfl rfl rfl hcell) ?_
      refine sal fun b13 => ?_
      refine ss (set_box Tryz.tab 0 rfl rfl rfl rfl rfl rfl rfl) ?_
      refine snf ?_
      refine c_seq ?_
      have hc13 : CellsAre (K W ([(b13, row 46 [.int .u8 (lf i 0), .int .i64 (lf i 1), .int .i64 (lf i 2), .int .i64 (lf i 3), .int .i64 (lf i 4), .int .i64 (lf i 5)])] :: M)) ⟨b13, 0, none⟩ [.int .u8 (lf i 0), .int .i64 (lf i 1), .int .i64 (lf i 2), .int .i64 (lf i 3), .int .i64 (lf i 4), .int .i64 (lf i 5)] := cells_row0 0 rfl rfl
      have hc62 : CellsAre (K W ([(b13, row 46 [.int .u8 (lf i 0), .int .i64 (lf i 1), .int .i64 (lf i 2), .int .i64 (lf i 3), .int .i64 (lf i 4), .int .i64 (lf i 5)])] :: M)) ⟨b6, 0, none⟩ [.int .i64 (nt : Nat), .slice pa (rnl (rns f 0 nt)).length k] := hc6.cons
      have hD := fun (w : World) (h : K W (g.L ++ ([(b13, row 46 [.int .u8 (lf i 0), .int .i64 (lf i 1), .int .i64 (lf i 2), .int .i64 (lf i 3), .int .i64 (lf i 4), .int .i64 (lf i 5)])] :: M)) w) => K.bck h
      have hmv := Move_b (W := W) (N := [(b13, row 46 [.int .u8 (lf i 0), .int .i64 (lf i 1), .int .i64 (lf i 2), .int .i64 (lf i 3), .int .i64 (lf i 4), .int .i64 (lf i 5)])] :: M) (tx := 1) (lo := lf i 2) (hi := lf i 3) (fr := lf i 4) (to := lf i 5) hgB (hgS.ok.pre (by omega))
      rw [hgb] at hmv
      refine SC.cls (C' := K W (g.L ++ ([(b13, row 46 [.int .u8 (lf i 0), .int .i64 (lf i 1), .int .i64 (lf i 2), .int .i64 (lf i 3), .int .i64 (lf i 4), .int .i64 (lf i 5)])] :: M))) ?_ (fun w h => K.bckN (A := [[(b13, row 46 [.int .u8 (lf i 0), .int .i64 (lf i 1), .int .i64 (lf i 2), .int .i64 (lf i 3), .int .i64 (lf i 4), .int .i64 (lf i 5)])]]) (B := g.L) h)
      refine c_plan [.c 0, .c 1, .c 2, .c 3, .c 4, .c 5, .c 6, .c 7, .c 8, .c 9, .s 10, .c 11, .c 12, .c 13, .c 15, .s 14, .s 16, .c 17, .c 18] [] ((K W ([(b13, row 46 [.int .u8 (lf i 0), .int .i64 (lf i 1), .int .i64 (lf i 2), .int .i64 (lf i 3), .int .i64 (lf i 4), .int .i64 (lf i 5)])] :: M))) Tryz.mixed (by kernel_rfl) rfl K.cl ?_
      refine dy rfl (y_move rfl) hD ?_
      refine dy rfl (y_move rfl) hD ?_
      refine dy rfl (y_fieldAddrB Tryz.tab 2 rfl rfl rfl rfl rfl) hD ?_
      refine dy rfl (y_load Tryz.tab rfl rfl (CellsAre.nth 2 (hc13) rfl)) hD ?_
      refine dy rfl (y_fieldAddrB Tryz.tab 3 rfl rfl rfl rfl rfl) hD ?_
      refine dy rfl (y_load Tryz.tab rfl rfl (CellsAre.nth 3 (hc13) rfl)) hD ?_
      refine dy rfl (y_fieldAddrB Tryz.tab 4 rfl rfl rfl rfl rfl) hD ?_
      refine dy rfl (y_load Tryz.tab rfl rfl (CellsAre.nth 4 (hc13) rfl)) hD ?_
      refine dy rfl (y_fieldAddrB Tryz.tab 5 rfl rfl rfl rfl rfl) hD ?_
      refine dy rfl (y_load Tryz.tab rfl rfl (CellsAre.nth 5 (hc13) rfl)) hD ?_
      refine d_call rfl (en_f rfl Tryz.call27) hmv rfl rfl rfl (fun _ => K.cl) (fun _ _ _ h => K.bck h.tail) (fun x => ?_)
      obtain ⟨⟨g', e, rs, v, c'⟩, hgB', hgP, hgA, _⟩ := x
      dsimp only at hgB' hgP hgA ⊢
      obtain ⟨q1, q2, q3, q4, _⟩ := hgS.perf hgP
      refine Sd.cls (C' := K W (g'.L ++ ([(b13, row 46 [.int .u8 (lf i 0), .int .i64 (lf i 1), .int .i64 (lf i 2), .int .i64 (lf i 3), .int .i64 (lf i 4), .int .i64 (lf i 5)])] :: M))) ?_ (fun w h => h.tail)
      clear hD
      have hD := fun (w : World) (h : K W (g'.L ++ ([(b13, row 46 [.int .u8 (lf i 0), .int .i64 (lf i 1), .int .i64 (lf i 2), .int .i64 (lf i 3), .int .i64 (lf i 4), .int .i64 (lf i 5)])] :: M)) w) => K.bck h
      by_cases ce : e = 0
      · subst ce
        have hnow := Now_b (W := W) (N := [(b13, row 46 [.int .u8 (lf i 0), .int .i64 (lf i 1), .int .i64 (lf i 2), .int .i64 (lf i 3), .int .i64 (lf i 4), .int .i64 (lf i 5)])] :: M) hgB'
        rw [hgA.b, hgb] at hnow
        have hrq := runsNow (W := W) hgB' (q2.trans hgz) (q3.trans hgC) (hRM.cons (d := [(b13, row 46 [.int .u8 (lf i 0), .int .i64 (lf i 1), .int .i64 (lf i 2), .int .i64 (lf i 3), .int .i64 (lf i 4), .int .i64 (lf i 5)])]))
        refine dy rfl (y_T (y_eql rfl rfl) (by omega)) hD ?_
        refine dy rfl (y_move rfl) hD ?_
        refine dy rfl (y_move rfl) hD ?_
        refine dy rfl (y_loadA Tryz.tab rfl rfl rfl rfl hc62) hD ?_
        refine d_call rfl (en_f rfl Tryz.call35) hnow rfl rfl rfl (fun _ => K.cl) (fun _ _ _ h => K.bck h) (fun _ => ?_)
        skip
        refine d_call rfl (en_f rfl Tryz.call24) hrq rfl rfl rfl (fun _ => K.cl) (fun _ _ _ h => K.bck h) (fun _ => ?_)
        refine dy rfl (y_notT rfl) hD ?_
        refine dy rfl (y_pickT rfl rfl) hD ?_
        refine d_nil ?_
        refine f_then ?_
        refine c_condF rfl ?_
        refine c_skip ?_
        refine f_blockN ?_
        refine f_then ?_
        refine c_region ?_
        refine sm ?_
        refine sy (y_add rfl rfl (by omega)) ?_
        refine sa ?_
        refine s_nil ?_
        exact f_roundP (i + 1, g') ⟨ci, hgB', hgA.b.trans hgb, q1, q2.trans hgz, q3.trans hgC, q4.trans hgl⟩ (by dsimp only; omega) ⟨rfl, rfl, rfl, rfl, rfl, rfl, trivial⟩ (fun w h => K.dropMid h)
      · refine dy rfl (y_F (y_eql rfl rfl) (by omega)) hD ?_
        refine dy rfl (y_move rfl) hD ?_
        refine d_skip rfl rfl rfl rfl hD K.cl ?_
        refine d_skip rfl rfl rfl rfl hD K.cl ?_
        refine d_sskip rfl rfl rfl rfl (fun _ _ h => K.bck h) ?_
        skip
        refine d_sskip rfl rfl rfl rfl (fun _ _ h => K.bck h) ?_
        refine d_skip rfl rfl rfl rfl hD K.cl ?_
        refine dy rfl (y_pickF rfl rfl) hD ?_
        refine d_nil ?_
        refine f_then ?_
        refine c_condF rfl ?_
        refine c_skip ?_
        refine f_blockN ?_
        refine f_then ?_
        refine c_region ?_
        refine sm ?_
        refine sy (y_add rfl rfl (by omega)) ?_
        refine sa ?_
        refine s_nil ?_
        exact f_roundP (i + 1, g') ⟨ci, hgB', hgA.b.trans hgb, q1, q2.trans hgz, q3.trans hgC, q4.trans hgl⟩ (by dsimp only; omega) ⟨rfl, rfl, rfl, rfl, rfl, rfl, trivial⟩ (fun w h => K.dropMid h)
    · obtain rfl : i = nl := by omega
      have htw := hgS.two (by omega) hgl
      rw [hgz, hgC] at htw
      have hab := Abort_b (W := W) (N := M) (tx := 1) hgB (hgS.ok.inv.good (by omega))
      rw [hgb] at hab
      refine c_seq ?_
      refine csr ?_
      refine sm ?_
      refine sm ?_
      refine sy (y_lenV Tryz.tab rfl (hLg) rfl) ?_
      refine sy (y_F (y_lss rfl rfl) (by omega)) ?_
      refine snf ?_
      refine c_condF rfl ?_
      refine c_exit ?_
      refine f_thenE ?_
      refine f_rndE ?_
      refine f_blockE ?_
      refine f_then ?_
      refine csr ?_
      refine sm ?_
      refine sm ?_
      refine sk Tryz.call31 hab fun x => ?_
      obtain ⟨⟨g2, e2⟩, hgB2, hgP2, hgA2⟩ := x
      dsimp only at hgB2 hgP2 hgA2 ⊢
      obtain ⟨rfl, hbk2⟩ := Bk.Ok.abt1 hgS.has hgS.st hgP2
      have ht2 : g2.ts.length = 1 := by
        have h1 := (Bk.abort_same hgS.has).2.2.2
        rw [← hbk2] at h1
        have h2 := hgS.one
        simpa [Bg.bk] using h1.trans h2
      have hr2 : g2.rn = [] := by
        have h1 : g2.bk.rn = [] := by rw [hbk2, Bk.abort_rn, hgS.rn]; rfl
        exact h1
      have hb2 := hgA2.b.trans hgb
      have hbe := Begin_b (W := W) (N := M) hgB2 (by omega)
      rw [hb2] at hbe
      refine sa ?_
      refine snf ?_
      refine csr ?_
      refine sm ?_
      refine sk Tryz.call26 hbe fun x => ?_
      obtain ⟨⟨g3, n3, e3⟩, hgB3, hgb3, hgc3⟩ := x
      dsimp only at hgB3 hgb3 hgc3 ⊢
      rcases hgc3 with ⟨h, _⟩ | ⟨_, hbk3, he3⟩
      · rw [hr2] at h
        exact absurd h (by decide)
      obtain ⟨rfl, rfl⟩ := Prod.mk.inj he3
      rw [hbk2] at hbk3
      rw [ht2]
      have htm : g3.bk.Two nt f := by rw [hbk3]; exact htw
      have hlk := Look_b (W := W) (N := M) (tx := 2) (lo := 0) (hi := (nt : Nat)) hgB3 (htm.ok.pre (by omega))
      rw [hgb3] at hlk
      have hT3 : SlV (K W (g3.L ++ M)) tv nt 1 (fun i _ => .int .u8 (tf i)) := hTM.cls fun w h => K.bck h
      refine sm ?_
      refine sx ?_
      refine sx ?_
      refine sa ?_
      refine sa ?_
      refine snf ?_
      refine csr ?_
      refine sm ?_
      refine sm ?_
      refine sm ?_
      refine sy (y_lenV Tryz.tab rfl (hT3) rfl) ?_
      refine sk Tryz.call28 hlk fun x => ?_
      obtain ⟨⟨g4, e4, rs, v4, c4⟩, hgB4, hgP4, hgA4, hgV4⟩ := x
      dsimp only at hgB4 hgP4 hgA4 hgV4 ⊢
      obtain ⟨rfl, rfl, z1, z2, z3, z4, z5, z6⟩ := htm.look (by omega) hgP4
      have hb4 := hgA4.b.trans hgb3
      have hc64 : CellsAre (K W (c4 :: M)) ⟨b6, 0, none⟩ [.int .i64 (nt : Nat), .slice pa (rnl (rns f 0 nt)).length k] := hc6.cons
      have hEv : EV (K W (g4.L ++ (c4 :: M))) v4 3 (rnl (rns f 0 nt)) := hgV4.view (Hs.sub (c := c4) (fun w hw e he => (hw.own e (by simp [he])).2) fun e he => he)
      have hEl : EV (K W (g4.L ++ (c4 :: M))) (.slice pa (rnl (rns f 0 nt)).length k) 3 (rnl (rns f 0 nt)) := hRM.v.cls fun w h => (K.bck h).tail
      have hal := alike_spec hEv hEl (by rw [rns_len]; have := hok.nb; omega)
      rw [decide_eq_true rfl] at hal
      have hnow := Now_b (W := W) (N := c4 :: M) hgB4
      have hlog := Log0_b (W := W) (N := c4 :: M) hgB4 (by
        have : g4.bk.log.length = g4.ls.length := by simp [Bg.bk]
        rw [z3] at this
        exact List.eq_nil_of_length_eq_zero this.symm)
      have hab4 := Abort_b (W := W) (N := c4 :: M) (tx := 1) hgB4 (z6.inv.good (by omega))
      rw [hb4] at hnow hlog hab4
      have hrq := runsNow (W := W) hgB4 z1 z2 (hRM.cons (d := c4))
      refine sm ?_
      refine sx ?_
      refine sx ?_
      refine sa ?_
      refine sa ?_
      refine snf ?_
      refine c_seq ?_
      refine SC.cls (C' := K W (g4.L ++ (c4 :: M))) ?_ (fun w h => K.bckN (A := [c4]) (B := g4.L) h)
      have hD := fun (w : World) (h : K W (g4.L ++ (c4 :: M)) w) => K.bck h
      refine c_plan [.c 0, .c 1, .c 2, .c 3, .c 4, .c 5, .c 6, .c 7, .c 8, .c 9, .c 10, .c 11, .c 12, .c 13, .s 14, .c 15, .c 16, .c 17, .c 19, .s 18, .s 20, .c 21, .c 22, .c 23, .s 24, .c 25, .c 26, .c 27, .c 28, .c 29, .c 30, .s 31, .c 32, .c 33, .c 34, .s 35, .c 36, .c 37] [] ((K W (c4 :: M))) Tryz.mixed (by kernel_rfl) rfl K.cl ?_
      refine dy rfl (y_move rfl) hD ?_
      refine dy rfl (y_T (y_eql rfl rfl) (by omega)) hD ?_
      refine dy rfl (y_move rfl) hD ?_
      refine dy rfl (y_move rfl) hD ?_
      refine dy rfl (y_T (y_eql rfl rfl) (by omega)) hD ?_
      refine dy rfl (y_pickT rfl rfl) hD ?_
      refine dy rfl (y_move rfl) hD ?_
      refine dy rfl (y_move rfl) hD ?_
      refine dy rfl (y_T (y_eql rfl rfl) (by omega)) hD ?_
      refine dy rfl (y_pickT rfl rfl) hD ?_
      refine dy rfl (y_move rfl) hD ?_
      refine dy rfl (y_move rfl) hD ?_
      refine dy rfl (y_fieldAddrB Tryz.tab 1 rfl rfl rfl rfl rfl) hD ?_
      refine dy rfl (y_load Tryz.tab rfl rfl (CellsAre.nth 1 (hc64) rfl)) hD ?_
      refine d_call rfl (en_f rfl Tryz.call34) hal rfl rfl rfl (fun _ => K.cl) (fun _ _ _ h => K.bck h) (fun _ => ?_)
      refine dy rfl (y_pickT rfl rfl) hD ?_
      refine dy rfl (y_move rfl) hD ?_
      refine dy rfl (y_move rfl) hD ?_
      refine dy rfl (y_loadA Tryz.tab rfl rfl rfl rfl hc64) hD ?_
      refine d_call rfl (en_f rfl Tryz.call35) hnow rfl rfl rfl (fun _ => K.cl) (fun _ _ _ h => K.bck h) (fun _ => ?_)
      skip
      refine d_call rfl (en_f rfl Tryz.call24) hrq rfl rfl rfl (fun _ => K.cl) (fun _ _ _ h => K.bck h) (fun _ => ?_)
      refine dy rfl (y_pickT rfl rfl) hD ?_
      refine dy rfl (y_move rfl) hD ?_
      refine dy rfl (y_move rfl) hD ?_
      refine d_call rfl (en_f rfl Tryz.call22) hlog rfl rfl rfl (fun _ => K.cl) (fun _ _ _ h => K.bck h) (fun _ => ?_)
      refine dy rfl (y_len Tryz.tab rfl rfl) hD ?_
      refine dy rfl (y_T (y_eql rfl rfl) (by omega)) hD ?_
      refine dy rfl (y_pickT rfl rfl) hD ?_
      refine dy rfl (y_move rfl) hD ?_
      refine dy rfl (y_move rfl) hD ?_
      refine dy rfl (y_move rfl) hD ?_
      refine d_call rfl (en_f rfl Tryz.call31) hab4 rfl rfl rfl (fun _ => K.cl) (fun _ _ _ h => K.bck h) (fun x => ?_)
      obtain ⟨⟨g5, e5⟩, hgB5, hgP5, hgA5⟩ := x
      dsimp only at hgB5 hgP5 hgA5 ⊢
      have he5 : e5 = 81 := by
        rcases hgP5 with ⟨h, _⟩ | ⟨j, hj, _, h⟩
        · exact absurd ⟨by decide, by rw [z4]; decide⟩ h
        · obtain rfl : j = 1 := by omega
          rcases h with ⟨_, _, h⟩ | ⟨h, _⟩ | ⟨_, h, _⟩
          · exact h
          · omega
          · omega
      subst he5
      clear hD
      have hD := fun (w : World) (h : K W (g5.L ++ (c4 :: M)) w) => K.bck h
      refine dy rfl (y_T (y_eql rfl rfl) (by omega)) hD ?_
      refine dy rfl (y_pickT rfl rfl) hD ?_
      refine dy rfl (y_move rfl) hD ?_
      refine d_call rfl (en_f rfl Tryz.call13) awake_spec rfl rfl rfl (fun _ => K.cl) (fun _ _ _ h => K.bck h) (fun _ => ?_)
      refine dy rfl (y_pickT rfl rfl) hD ?_
      refine dy rfl (y_assign rfl) hD ?_
      refine d_nil ?_
      refine f_then ?_
      refine c_ret ?_
      exact f_ret () (res1 rfl rfl) (fun w h => hMN w (K.bck h).tail)
  · rw [decide_eq_false c2]
    refine sy (y_notF rfl) ?_
    refine spF ?_
    refine snf ?_
    refine c_condT rfl ?_
    refine csr ?_
    refine sk Tryz.call13 awake_spec fun _ => ?_
    refine sa ?_
    refine snf ?_
    refine c_ret ?_
    refine f_thenR ?_
    exact f_ret () (res1 rfl rfl) (fun w h => h.tail.tail.tail.tail)
/-- The law, walked. -/
theorem clerkUndone_walk (W : World) (nt : Nat) (tf : Nat → Int) (nl : Nat) (lf : Nat → Nat → Int) (tv lv : Value) (hT : SlV (K W []) tv nt 1 (fun i _ => .int .u8 (tf i))) (hnt : nt ≤ 9223372036854775807) (htf : ∀ i, i < nt → 0 ≤ tf i ∧ tf i < 256)
    (hL : SlV (K W []) lv nl 6 (fun i j => (clc (lf i)).getD j undef)) (hnl : nl ≤ 9223372036854775807) (hlf : ∀ i, i < nl → (0 ≤ lf i 0 ∧ lf i 0 < 256) ∧ ∀ j, 1 ≤ j → j < 6 → i64 (lf i j)) :
    Spec Tryz.prog 8 #[tv, lv] (K W []) (fun _ : Unit => .bool true) (fun _ => K W []) := undone_spec hT hL htf (fun i hi => (hlf i hi).1) hnt hnl
end Go.KL
end

section
namespace Go.Proofs.YtcbmmldkpicaiaaGreat
open Go.ChangeShapes Go.WideShapes Go.RowKit Go.KL
set_option linter.unusedVariables false
theorem own : ownKnob Tryz.prog.godebug = none := by kernel_rfl
set_option maxRecDepth 100000 in
theorem clerkUndone_lifted (os : Os) (started : os.Started) (H : Type) (enc : TypeId × Value → H) :
    ReturnsInHanded {} Tryz.checked os 8 .any (Rows.clerkUndoneSpec.pre6 enc Tryz.prog Tryz.f8 Rows.clerkUndoneRow.domain false) (Rows.clerkUndoneSpec.post enc Tryz.prog Tryz.f8 false true false false) := by
  refine returnsInHanded_of_change (C := Tryz.checked) own started (by kernel_rfl) Tryz.func8
    (ChangeSpec.witness6 (enc := enc) (C := Tryz.checked) false ⟨#[], #[.slice none 0 0, .slice none 0 0], []⟩ 8 (by kernel_rfl) (by kernel_rfl) (by kernel_rfl) (by kernel_rfl)) ?_
  intro W base args ds gs before hval hW hcnd _
  obtain ⟨p, q, hA, hV, rfl, hfz, hnd⟩ := id hW
  obtain ⟨rfl, rfl⟩ := trodVars_none hV
  obtain ⟨v0, vs0, d0, ds0, p0, q0, e0, rfl, rfl, h0, r0⟩ := trodAll_cons hA
  obtain ⟨v1, vs1, d1, ds1, p1, q1, rfl, rfl, rfl, h1, r1⟩ := trodAll_cons r0
  obtain ⟨rfl, rfl, rfl⟩ := trodAll_nil r1
  obtain rfl : args = #[v0, v1] := by cases args; simp_all
  obtain ⟨n0, f0, hV0, hm0, hf0⟩ := arg50 (hval 0 50 _ rfl rfl) h0
  obtain ⟨n1, f1, hV1, hm1, hf1⟩ := arg22 (hval 1 22 _ rfl rfl) h1
  refine ((clerkUndone_walk W n0 f0 n1 f1 v0 v1 hV0 hm0 hf0 hV1 hm1 hf1) W (K.refl W)).mono ?_
  rintro e W' ⟨x, rfl, hk⟩
  exact ⟨_, rfl, law_post (t := 4) laidOut (by decide +kernel) rfl rfl u4 hW rfl hk.toExt⟩
theorem joined : joinedFacts Tryz.pinned.checked.prog 8 Tryz.f8 Rows.clerkUndoneSpec Rows.clerkUndoneRow = true := by
  show joinedFacts Tryz.prog 8 Tryz.f8 Rows.clerkUndoneSpec Rows.clerkUndoneRow = true
  unfold joinedFacts
  rw [Go.KL.may_enter, Go.KL.lifts_final, Go.KL.make_cut]
  kernel_rfl
/-- The statement. -/
theorem clerkUndone_holds : Rows.ClerkUndoneSaid :=
  OpenClaim.holds_of_wide 8 Tryz.f8 rfl rfl rfl rfl rfl rfl rfl ⟨rfl, rfl, rfl, rfl, rfl⟩ rfl rfl rfl rfl rfl (by kernel_rfl) Tryz.func8 joined
    (of_decide_eq_true (by kernel_rfl)) (by unfold Func.isWrapper; first | (rw [if_pos (by decide +kernel)]; kernel_rfl) | (rw [if_neg (by decide +kernel)]; exact ⟨rfl, rfl⟩))
    (fun os started H enc _ => clerkUndone_lifted os started H enc)
end Go.Proofs.YtcbmmldkpicaiaaGreat
end
