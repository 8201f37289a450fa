/- ClerkEnds: for every input the law returns true, and its arguments read as they did. No condition. -/
import Derived.Test.YtcbmmldkpicaiaaGreatRows
import Derived.JoinedOf
import Derived.Handed
import Derived.Test.YtcbmmldkpicaiaaGreatEndL5
section
/- The law: ClerkEnds. -/
namespace Go.KL
open Go.Proofs
attribute [local irreducible] SC St Fin Sq Ylds Doos Sets Enters Spec CellIs CellsAre Then Ret Rnd Chn resOK ints bools recs arr
set_option maxRecDepth 10000 in
set_option maxHeartbeats 16000000 in
theorem ends_spec {W : World} {N : List Chunk} {tv lv cv : Value} {nt nl nc : Nat} {tf : Nat → Int} {lf : Nat → Nat → Int} {cf : Nat → Bool} (hT : SlV (K W N) tv nt 1 (fun i _ => .int .u8 (tf i))) (hL : SlV (K W N) lv nl 6 (fun i j => (clc (lf i)).getD j undef)) (hC : SlB (K W N) cv nc cf)
    (htf : ∀ i, i < nt → 0 ≤ tf i ∧ tf i < 256) (hlf : ∀ i, i < nl → 0 ≤ lf i 0 ∧ lf i 0 < 256) (hnt : nt ≤ 9223372036854775807) (hnl : nl ≤ 9223372036854775807) (hnc : nc ≤ 9223372036854775807) :
    Spec Tryz.prog 11 #[tv, lv, cv] (K W N) (fun _ : Unit => .bool true) (fun _ => K W N) := by
  refine enter (args := [_, _, _]) Tryz.func11 rfl Tryz.ntmps11 rfl ?_
  by_cases c1 : nt = 0 ∨ 200 < nt
  · by_cases c0 : nt = 0
    · refine csr ?_
      refine sa ?_
      refine snf ?_
      refine csr ?_
      refine sm ?_
      refine sk Tryz.call20 (made_no hT c1) fun _ => ?_
      refine sm ?_
      refine sx ?_
      refine sx ?_
      refine sx ?_
      refine sal fun b7 => ?_
      refine sal fun b8 => ?_
      refine ss (set_box Tryz.tab 1 rfl rfl rfl rfl rfl rfl rfl) ?_
      refine ss (set_box Tryz.tab 0 rfl rfl rfl rfl rfl rfl rfl) ?_
      refine sa ?_
      refine snf ?_
      refine c_seq ?_
      refine csr ?_
      refine sm ?_
      refine sy (y_lenV Tryz.tab rfl (hT.cons.cons) rfl) ?_
      refine sy (y_T (y_eql rfl rfl) (by omega)) ?_
      refine sm ?_
      iterate 3 refine s_skip rfl rfl rfl ?_
      refine spT ?_
      refine sm ?_
      iterate 3 refine s_skip rfl rfl rfl ?_
      refine spT ?_
      refine snf ?_
      refine c_condT rfl ?_
      refine csr ?_
      refine sk Tryz.call13 awake_spec fun _ => ?_
      refine sa ?_
      refine snf ?_
      refine c_ret ?_
      refine f_thenR ?_
      exact f_ret () (res1 rfl rfl) (fun w h => h.tail.tail)
    · have c3 : 200 < nt := by omega
      refine csr ?_
      refine sa ?_
      refine snf ?_
      refine csr ?_
      refine sm ?_
      refine sk Tryz.call20 (made_no hT c1) fun _ => ?_
      refine sm ?_
      refine sx ?_
      refine sx ?_
      refine sx ?_
      refine sal fun b7 => ?_
      refine sal fun b8 => ?_
      refine ss (set_box Tryz.tab 1 rfl rfl rfl rfl rfl rfl rfl) ?_
      refine ss (set_box Tryz.tab 0 rfl rfl rfl rfl rfl rfl rfl) ?_
      refine sa ?_
      refine snf ?_
      refine c_seq ?_
      refine csr ?_
      refine sm ?_
      refine sy (y_lenV Tryz.tab rfl (hT.cons.cons) rfl) ?_
      refine sy (y_F (y_eql rfl rfl) (by omega)) ?_
      refine sm ?_
      refine sm ?_
      refine sy (y_lenV Tryz.tab rfl (hT.cons.cons) rfl) ?_
      refine sy (y_T (y_gtr rfl rfl) (by omega)) ?_
      refine spF ?_
      refine sm ?_
      iterate 3 refine s_skip rfl rfl rfl ?_
      refine spT ?_
      refine snf ?_
      refine c_condT rfl ?_
      refine csr ?_
      refine sk Tryz.call13 awake_spec fun _ => ?_
      refine sa ?_
      refine snf ?_
      refine c_ret ?_
      refine f_thenR ?_
      exact f_ret () (res1 rfl rfl) (fun w h => h.tail.tail)
  have hm := made_spec hT (by omega) (by omega) htf
  refine csr ?_
  refine sa ?_
  refine snf ?_
  refine csr ?_
  refine sm ?_
  refine sk Tryz.call20 hm fun x => ?_
  obtain ⟨⟨p, mv, c, rv⟩, hM, hB⟩ := x
  dsimp only at hM hB ⊢
  obtain ⟨pa, k, rfl, _, _⟩ := (hB.view (C := K W (c :: N)) (Hs.at 0 rfl)).view
  obtain ⟨a, rfl⟩ := hM.ptr
  have hT2 : SlV (K W (p :: c :: N)) tv nt 1 (fun i _ => .int .u8 (tf i)) := hT.cons.cons
  have hL2 : SlV (K W (p :: c :: N)) lv nl 6 (fun i j => (clc (lf i)).getD j undef) := hL.cons.cons
  by_cases c2 : 200 < nl
  · refine sm ?_
    refine sx ?_
    refine sx ?_
    refine sx ?_
    refine sal fun b7 => ?_
    refine sal fun b8 => ?_
    refine ss (set_box Tryz.tab 1 rfl rfl rfl rfl rfl rfl rfl) ?_
    refine ss (set_box Tryz.tab 0 rfl rfl rfl rfl rfl rfl rfl) ?_
    refine sa ?_
    refine snf ?_
    refine c_seq ?_
    refine csr ?_
    refine sm ?_
    refine sy (y_lenV Tryz.tab rfl (hT2.cons.cons) rfl) ?_
    refine sy (y_F (y_eql rfl rfl) (by omega)) ?_
    refine sm ?_
    refine sm ?_
    refine sy (y_lenV Tryz.tab rfl (hT2.cons.cons) rfl) ?_
    refine sy (y_F (y_gtr rfl rfl) (by omega)) ?_
    refine spF ?_
    refine sm ?_
    refine sm ?_
    refine sy (y_lenV Tryz.tab rfl (hL2.cons.cons) rfl) ?_
    refine sy (y_T (y_gtr rfl rfl) (by omega)) ?_
    refine spF ?_
    refine snf ?_
    refine c_condT rfl ?_
    refine csr ?_
    refine sk Tryz.call13 awake_spec fun _ => ?_
    refine sa ?_
    refine snf ?_
    refine c_ret ?_
    refine f_thenR ?_
    exact f_ret () (res1 rfl rfl) (fun w h => h.tail.tail.tail.tail)
  refine sm ?_
  refine sx ?_
  refine sx ?_
  refine sx ?_
  refine sal fun b7 => ?_
  refine sal fun b8 => ?_
  refine ss (set_box Tryz.tab 1 rfl rfl rfl rfl rfl rfl rfl) ?_
  refine ss (set_box Tryz.tab 0 rfl rfl rfl rfl rfl rfl rfl) ?_
  refine sa ?_
  refine snf ?_
  refine c_seq ?_
  refine csr ?_
  refine sm ?_
  refine sy (y_lenV Tryz.tab rfl (hT2.cons.cons) rfl) ?_
  refine sy (y_F (y_eql rfl rfl) (by omega)) ?_
  refine sm ?_
  refine sm ?_
  refine sy (y_lenV Tryz.tab rfl (hT2.cons.cons) rfl) ?_
  refine sy (y_F (y_gtr rfl rfl) (by omega)) ?_
  refine spF ?_
  refine sm ?_
  refine sm ?_
  refine sy (y_lenV Tryz.tab rfl (hL2.cons.cons) rfl) ?_
  refine sy (y_F (y_gtr rfl rfl) (by omega)) ?_
  refine spF ?_
  refine snf ?_
  refine c_condF rfl ?_
  refine c_skip ?_
  refine f_then ?_
  refine csr ?_
  refine sy (y_loadA Tryz.tab rfl rfl rfl rfl (cells_row0 1 rfl rfl)) ?_
  refine St.cls (C' := K W (p :: [(b8, row 37 [.int .i64 (nt : Nat), .slice pa (rnl (rns (tgs nt tf) 0 nt)).length k])] :: [(b7, row 29 [.pointer (some a)])] :: c :: N)) ?_ (fun w h => K.front 2 h)
  refine sk Tryz.call15 (New_b hM) fun x => ?_
  obtain ⟨g0, hB0, hb0, _⟩ := x
  dsimp only
  have hok0 : g0.bk.Ok 0 := by
    rw [hb0]
    have := tgs_ok (f := tf) (n := nt) (by omega) (by omega)
    exact Bk.fresh_ok ⟨by omega, by omega⟩ this.nb
  have ht0 : g0.ts.length = 0 := by
    have := congrArg (fun A : Bk => A.ts.length) hb0
    simpa [Bg.bk, Bk.fresh] using this
  have hl0 : g0.ls.length = 0 := by
    have := congrArg (fun A : Bk => A.log.length) hb0
    simpa [Bg.bk, Bk.fresh] using this
  refine sm ?_
  refine sx ?_
  refine sx ?_
  refine sa ?_
  refine sa ?_
  refine snf ?_
  refine c_seq ?_
  refine csr ?_
  refine sm ?_
  refine sy (y_notT rfl) ?_
  refine sm ?_
  refine sm ?_
  refine sy (y_F (y_neq rfl rfl) (by omega)) ?_
  refine spF ?_
  refine snf ?_
  refine c_condF rfl ?_
  refine c_skip ?_
  refine f_then ?_
  refine c_seq ?_
  refine csr ?_
  refine sa ?_
  refine snf ?_
  refine c_block ?_
  refine c_loopP (α := Nat × Bg) (fun z => [(0, tv), (1, lv), (2, cv), (10, .pointer (some ⟨g0.b, 0, none⟩)), (12, .int .i64 (z.1 : Nat))]) (fun z => z.1 ≤ nl ∧ z.2.OK ∧ z.2.b = g0.b ∧ z.2.bk.Ok z.1 ∧ z.2.ts.length ≤ z.1 ∧ z.2.ls.length ≤ z.1)
    (fun z => K W (z.2.L ++ N)) (fun z => nl - z.1) (0, g0) ⟨rfl, rfl, rfl, rfl, rfl, trivial⟩ ⟨Nat.zero_le _, hB0, rfl, hok0, by dsimp only; omega, by dsimp only; omega⟩ (fun w h => ((K.dropMid (K.dropMid (K.dropMid h))))) ?_
  clear hT2 hL2 hok0 ht0 hl0
  rintro ⟨i, g⟩ ⟨hi, hgB, hgb, hgO, hgt, hgl⟩
  dsimp only at hi hgB hgb hgO hgt hgl ⊢
  have hLg : SlV (K W (g.L ++ N)) lv nl 6 (fun i j => (clc (lf i)).getD j undef) := hL.cls fun w h => K.bck h
  by_cases ci : i < nl
  · have hcell : CellsAre (K W (g.L ++ N)) ⟨vblk lv, voff lv + i * 6, none⟩ [.int .u8 (lf i 0), .int .i64 (lf i 1), .int .i64 (lf i 2), .int .i64 (lf i 3), .int .i64 (lf i 4), .int .i64 (lf i 5)] := hLg.rowAt ci
    have hcl := call_spec (W := W) (N := N) (f := lf i) hgB hgO (by omega) (by omega) (by omega) (hlf i ci)
    rw [hgb] at hcl
    refine c_seq ?_
    refine csr ?_
    refine sm ?_
    refine sm ?_
    refine sy (y_lenV Tryz.tab rfl (hLg) rfl) ?_
    refine sy (y_T (y_lss rfl rfl) (by omega)) ?_
    refine snf ?_
    refine c_condT rfl ?_
    refine c_skip ?_
    refine f_then ?_
    refine c_seq ?_
    refine c_block ?_
    refine c_region ?_
    refine sm ?_
    refine sm ?_
    refine sm ?_
    refine sy (y_ixV Tryz.tab rfl rfl rfl rfl (hLg) _ rfl (by omega)) ?_
    refine sy (y_loadA Tryz.tab rfl rfl rfl rfl hcell) ?_
    refine sk Tryz.call40 hcl fun x => ?_
    obtain ⟨g', hB', hc', hb'⟩ := x
    dsimp only
    obtain ⟨_, _, q3, q4⟩ := hgO.grow hc'
    have e1 : g'.bk.ts.length = g'.ts.length := by simp [Bg.bk]
    have e2 : g.bk.ts.length = g.ts.length := by simp [Bg.bk]
    have e3 : g'.bk.log.length = g'.ls.length := by simp [Bg.bk]
    have e4 : g.bk.log.length = g.ls.length := by simp [Bg.bk]
    refine s_nil ?_
    refine f_blockN ?_
    refine f_then ?_
    refine c_region ?_
    refine sm ?_
    refine sy (y_add rfl rfl (by omega)) ?_
    refine sa ?_
    refine s_nil ?_
    exact f_roundP (i + 1, g') ⟨ci, hB', hb', hgO.cl hc', by dsimp only; omega, by dsimp only; omega⟩ (by dsimp only; omega) ⟨rfl, rfl, rfl, rfl, rfl, trivial⟩ (fun w h => h)
  · have hbg := begun_spec (W := W) (N := N) (most := nl) hgB (by omega) hgO.inv.st
    rw [hgb, show min nl g.ts.length = g.ts.length by omega] at hbg
    obtain ⟨n, hn⟩ : ∃ n, g.ts.length = n := ⟨_, rfl⟩
    have hrn := hgO.rn_le
    have e2 : g.bk.ts.length = g.ts.length := by simp [Bg.bk]
    have e4 : g.bk.log.length = g.ls.length := by simp [Bg.bk]
    have hr64 := hgO.inv.rnl
    rw [hn] at hbg
    refine c_seq ?_
    refine csr ?_
    refine sm ?_
    refine sm ?_
    refine sy (y_lenV Tryz.tab rfl (hLg) rfl) ?_
    refine sy (y_F (y_lss rfl rfl) (by omega)) ?_
    refine snf ?_
    refine c_condF rfl ?_
    refine c_exit ?_
    refine f_thenE ?_
    refine f_rndE ?_
    refine f_blockE ?_
    refine f_then ?_
    refine csr ?_
    refine sm ?_
    refine sm ?_
    refine sy (y_lenV Tryz.tab rfl (hLg) rfl) ?_
    refine sk Tryz.call41 hbg fun _ => ?_
    refine sa ?_
    refine snf ?_
    refine c_seq ?_
    refine csr ?_
    refine sa ?_
    refine snf ?_
    refine c_block ?_
    refine c_loopP (α := Nat × Bg) (fun z => [(2, cv), (10, .pointer (some ⟨g0.b, 0, none⟩)), (13, .int .i64 (n : Nat)), (14, .int .i64 (z.1 : Nat))]) (fun z => z.1 ≤ n ∧ z.2.OK ∧ z.2.b = g0.b ∧ z.2.bk.Ok nl ∧ z.2.bk.ts.length = n ∧ z.2.bk.log.length + z.2.bk.rn.length ≤ 300 ∧ (z.2.bk.rn.length + z.1 ≤ n ∨ z.2.bk.rn = []))
      (fun z => K W (z.2.L ++ N)) (fun z => n - z.1) (0, g) ⟨rfl, rfl, rfl, rfl, trivial⟩ ⟨Nat.zero_le _, hgB, hgb, hgO.mono hi, by dsimp only; omega, by dsimp only; omega, .inl (by dsimp only; omega)⟩ (fun w h => h) ?_
    clear hbg hrn hr64 hLg e2 e4
    rintro ⟨t, h⟩ ⟨ht, hhB, hhb, hhO, hhl, hhg, hhr⟩
    dsimp only at ht hhB hhb hhO hhl hhg hhr ⊢
    by_cases ct : t < n
    · refine c_seq ?_
      refine csr ?_
      refine sm ?_
      refine sm ?_
      refine sy (y_T (y_lss rfl rfl) (by omega)) ?_
      refine snf ?_
      refine c_condT rfl ?_
      refine c_skip ?_
      refine f_then ?_
      refine c_seq ?_
      refine c_block ?_
      refine csr ?_
      refine sa ?_
      refine snf ?_
      refine c_block ?_
      refine c_loopP (α := Nat × Bg) (fun z => [(2, cv), (10, .pointer (some ⟨g0.b, 0, none⟩)), (13, .int .i64 (n : Nat)), (14, .int .i64 (t : Nat)), (15, .int .i64 (z.1 : Nat))]) (fun z => 1 ≤ z.1 ∧ z.1 ≤ n + 1 ∧ z.2.OK ∧ z.2.b = g0.b ∧ z.2.bk.Turn nl n t z.1)
        (fun z => K W (z.2.L ++ N)) (fun z => n + 1 - z.1) (1, h) ⟨rfl, rfl, rfl, rfl, rfl, trivial⟩ ⟨Nat.le_refl _, by dsimp only; omega, hhB, hhb, .start hhO hhl hhg hhr⟩ (fun w h => h) ?_
      rintro ⟨x, y⟩ ⟨hx1, hx2, hyB, hyb, hyT⟩
      dsimp only at hx1 hx2 hyB hyb hyT ⊢
      have e2 : y.bk.ts.length = y.ts.length := by simp [Bg.bk]
      have e4 : y.bk.log.length = y.ls.length := by simp [Bg.bk]
      by_cases cx : x ≤ n
      · have hst := State_b (W := W) (N := N) (tx := x) hyB
        have hxh : y.bk.has x := ⟨hx1, by rw [hyT.len]; exact cx⟩
        have es : y.bk.stI x = (y.bk.tx x).st := by
          rw [Bk.stI, if_pos (by have := hyT.len; omega), Int.toNat_natCast]
        rw [es, hyb] at hst
        have hCy : SlV (K W (y.L ++ N)) cv nc 1 (fun i _ => .bool (cf i)) := hC.cls fun w h => K.bck h
        have hcm := Commit_b (W := W) (N := N) (tx := x) hyB (hyT.ok.inv.good (by omega)) (fun k _ hk _ _ => hyT.ok.inv.apOK hk) (by have := hyT.lg; omega)
        have hab := Abort_b (W := W) (N := N) (tx := x) hyB (hyT.ok.inv.good (by omega))
        rw [hyb] at hcm hab
        by_cases cs : (y.bk.tx x).st = 1
        · rw [cs] at hst
          by_cases cc : x < nc
          · have hcell : CellIs (K W (y.L ++ N)) ⟨vblk cv, voff cv + x * 1, none⟩ (.bool (cf x)) := hCy.cell1 cc
            cases ccx : cf x with
            | true =>
              rw [ccx] at hcell
              refine c_seq ?_
              refine csr ?_
              refine sm ?_
              refine sm ?_
              refine sy (y_T (y_leq rfl rfl) (by omega)) ?_
              refine snf ?_
              refine c_condT rfl ?_
              refine c_skip ?_
              refine f_then ?_
              refine c_seq ?_
              refine c_block ?_
              refine c_seq ?_
              refine csr ?_
              refine sm ?_
              refine sm ?_
              refine sk Tryz.call38 hst fun _ => ?_
              refine sy (y_F (y_neq rfl rfl) (by omega)) ?_
              refine snf ?_
              refine c_condF rfl ?_
              refine c_skip ?_
              refine f_then ?_
              refine csr ?_
              refine sa ?_
              refine snf ?_
              refine c_seq ?_
              refine csr ?_
              refine sm ?_
              refine sm ?_
              refine sy (y_lenV Tryz.tab rfl (hCy) rfl) ?_
              refine sy (y_T (y_lss rfl rfl) (by omega)) ?_
              refine sm ?_
              refine sm ?_
              refine sm ?_
              refine sy (y_ixV Tryz.tab rfl rfl rfl rfl (hCy) _ rfl (by omega)) ?_
              refine sl hcell ?_
              refine spT ?_
              refine snf ?_
              refine c_condT rfl ?_
              refine c_region ?_
              refine sm ?_
              refine sm ?_
              refine sk Tryz.call30 hcm fun z => ?_
              obtain ⟨⟨y', n', e'⟩, hyB', hyC, hyA⟩ := z
              dsimp only at hyB' hyC hyA ⊢
              obtain ⟨rfl, hbk, _⟩ := Bk.Ok.cmt1 hxh cs hyC
              obtain ⟨_, _, m3, m4⟩ := Bk.commit_same hxh
              refine sm ?_
              refine sx ?_
              refine sx ?_
              refine sa ?_
              refine snf ?_
              refine csr ?_
              refine sm ?_
              refine sy (y_F (y_neq rfl rfl) (by omega)) ?_
              refine snf ?_
              refine c_condF rfl ?_
              refine c_skip ?_
              refine f_blockN ?_
              refine f_then ?_
              refine c_region ?_
              refine sm ?_
              refine sy (y_add rfl rfl (by omega)) ?_
              refine sa ?_
              refine s_nil ?_
              exact f_roundP (x + 1, y') ⟨by dsimp only; omega, by dsimp only; omega, hyB', hyA.b.trans hyb, hyT.fin hxh cs (hyT.ok.cmt hyC) (by rw [hbk]; exact m4) (by rw [hbk]; exact Bk.commit_rn) (by rw [hbk, m3, List.length_append]; exact Nat.le_refl _)⟩ (by dsimp only; omega) ⟨rfl, rfl, rfl, rfl, rfl, trivial⟩ (fun w h => h)
            | false =>
              rw [ccx] at hcell
              refine c_seq ?_
              refine csr ?_
              refine sm ?_
              refine sm ?_
              refine sy (y_T (y_leq rfl rfl) (by omega)) ?_
              refine snf ?_
              refine c_condT rfl ?_
              refine c_skip ?_
              refine f_then ?_
              refine c_seq ?_
              refine c_block ?_
              refine c_seq ?_
              refine csr ?_
              refine sm ?_
              refine sm ?_
              refine sk Tryz.call38 hst fun _ => ?_
              refine sy (y_F (y_neq rfl rfl) (by omega)) ?_
              refine snf ?_
              refine c_condF rfl ?_
              refine c_skip ?_
              refine f_then ?_
              refine csr ?_
              refine sa ?_
              refine snf ?_
              refine c_seq ?_
              refine csr ?_
              refine sm ?_
              refine sm ?_
              refine sy (y_lenV Tryz.tab rfl (hCy) rfl) ?_
              refine sy (y_T (y_lss rfl rfl) (by omega)) ?_
              refine sm ?_
              refine sm ?_
              refine sm ?_
              refine sy (y_ixV Tryz.tab rfl rfl rfl rfl (hCy) _ rfl (by omega)) ?_
              refine sl hcell ?_
              refine spT ?_
              refine snf ?_
              refine c_condF rfl ?_
              refine c_region ?_
              refine sm ?_
              refine sm ?_
              refine sk Tryz.call31 hab fun z => ?_
              obtain ⟨⟨y', e'⟩, hyB', hyC, hyA⟩ := z
              dsimp only at hyB' hyC hyA ⊢
              obtain ⟨rfl, hbk⟩ := Bk.Ok.abt1 hxh cs hyC
              obtain ⟨_, _, m3, m4⟩ := Bk.abort_same hxh
              refine sa ?_
              refine snf ?_
              refine csr ?_
              refine sm ?_
              refine sy (y_F (y_neq rfl rfl) (by omega)) ?_
              refine snf ?_
              refine c_condF rfl ?_
              refine c_skip ?_
              refine f_blockN ?_
              refine f_then ?_
              refine c_region ?_
              refine sm ?_
              refine sy (y_add rfl rfl (by omega)) ?_
              refine sa ?_
              refine s_nil ?_
              exact f_roundP (x + 1, y') ⟨by dsimp only; omega, by dsimp only; omega, hyB', hyA.b.trans hyb, hyT.fin hxh cs (hyT.ok.abt hyC) (by rw [hbk]; exact m4) (by rw [hbk]; exact Bk.abort_rn) (by rw [hbk, m3]; omega)⟩ (by dsimp only; omega) ⟨rfl, rfl, rfl, rfl, rfl, trivial⟩ (fun w h => h)
          · refine c_seq ?_
            refine csr ?_
            refine sm ?_
            refine sm ?_
            refine sy (y_T (y_leq rfl rfl) (by omega)) ?_
            refine snf ?_
            refine c_condT rfl ?_
            refine c_skip ?_
            refine f_then ?_
            refine c_seq ?_
            refine c_block ?_
            refine c_seq ?_
            refine csr ?_
            refine sm ?_
            refine sm ?_
            refine sk Tryz.call38 hst fun _ => ?_
            refine sy (y_F (y_neq rfl rfl) (by omega)) ?_
            refine snf ?_
            refine c_condF rfl ?_
            refine c_skip ?_
            refine f_then ?_
            refine csr ?_
            refine sa ?_
            refine snf ?_
            refine c_seq ?_
            refine csr ?_
            refine sm ?_
            refine sm ?_
            refine sy (y_lenV Tryz.tab rfl (hCy) rfl) ?_
            refine sy (y_F (y_lss rfl rfl) (by omega)) ?_
            refine sm ?_
            iterate 4 refine s_skip rfl rfl rfl ?_
            refine spF ?_
            refine snf ?_
            refine c_condF rfl ?_
            refine c_region ?_
            refine sm ?_
            refine sm ?_
            refine sk Tryz.call31 hab fun z => ?_
            obtain ⟨⟨y', e'⟩, hyB', hyC, hyA⟩ := z
            dsimp only at hyB' hyC hyA ⊢
            obtain ⟨rfl, hbk⟩ := Bk.Ok.abt1 hxh cs hyC
            obtain ⟨_, _, m3, m4⟩ := Bk.abort_same hxh
            refine sa ?_
            refine snf ?_
            refine csr ?_
            refine sm ?_
            refine sy (y_F (y_neq rfl rfl) (by omega)) ?_
            refine snf ?_
            refine c_condF rfl ?_
            refine c_skip ?_
            refine f_blockN ?_
            refine f_then ?_
            refine c_region ?_
            refine sm ?_
            refine sy (y_add rfl rfl (by omega)) ?_
            refine sa ?_
            refine s_nil ?_
            exact f_roundP (x + 1, y') ⟨by dsimp only; omega, by dsimp only; omega, hyB', hyA.b.trans hyb, hyT.fin hxh cs (hyT.ok.abt hyC) (by rw [hbk]; exact m4) (by rw [hbk]; exact Bk.abort_rn) (by rw [hbk, m3]; omega)⟩ (by dsimp only; omega) ⟨rfl, rfl, rfl, rfl, rfl, trivial⟩ (fun w h => h)
        · refine c_seq ?_
          refine csr ?_
          refine sm ?_
          refine sm ?_
          refine sy (y_T (y_leq rfl rfl) (by omega)) ?_
          refine snf ?_
          refine c_condT rfl ?_
          refine c_skip ?_
          refine f_then ?_
          refine c_seq ?_
          refine c_block ?_
          refine c_seq ?_
          refine csr ?_
          refine sm ?_
          refine sm ?_
          refine sk Tryz.call38 hst fun _ => ?_
          refine sy (y_T (y_neq rfl rfl) (by omega)) ?_
          refine snf ?_
          refine c_condT rfl ?_
          refine c_exit ?_
          refine f_thenE ?_
          refine f_blockE ?_
          refine f_then ?_
          refine c_region ?_
          refine sm ?_
          refine sy (y_add rfl rfl (by omega)) ?_
          refine sa ?_
          refine s_nil ?_
          exact f_roundP (x + 1, y) ⟨by dsimp only; omega, by dsimp only; omega, hyB, hyb, hyT.skip cs⟩ (by dsimp only; omega) ⟨rfl, rfl, rfl, rfl, rfl, trivial⟩ (fun w h => h)
      · obtain rfl : x = n + 1 := by omega
        refine c_seq ?_
        refine csr ?_
        refine sm ?_
        refine sm ?_
        refine sy (y_F (y_leq rfl rfl) (by omega)) ?_
        refine snf ?_
        refine c_condF rfl ?_
        refine c_exit ?_
        refine f_thenE ?_
        refine f_rndE ?_
        refine f_blockE ?_
        refine f_blockN ?_
        refine f_then ?_
        refine c_region ?_
        refine sm ?_
        refine sy (y_add rfl rfl (by omega)) ?_
        refine sa ?_
        refine s_nil ?_
        exact f_roundP (t + 1, y) ⟨ct, hyB, hyb, hyT.ok, hyT.len, hyT.lg, hyT.next⟩ (by dsimp only; omega) ⟨rfl, rfl, rfl, rfl, trivial⟩ (fun w h => h)
    · obtain rfl : t = n := by omega
      have hnone : h.bk.rn = [] := by
        rcases hhr with c | c
        · exact List.eq_nil_of_length_eq_zero (by omega)
        · exact c
      obtain ⟨hq, hall⟩ := hhO.none hnone
      refine c_seq ?_
      refine csr ?_
      refine sm ?_
      refine sm ?_
      refine sy (y_F (y_lss rfl rfl) (by omega)) ?_
      refine snf ?_
      refine c_condF rfl ?_
      refine c_exit ?_
      refine f_thenE ?_
      refine f_rndE ?_
      refine f_blockE ?_
      refine f_then ?_
      refine c_seq ?_
      refine csr ?_
      refine sa ?_
      refine snf ?_
      refine c_block ?_
      refine c_loopP (α := Nat) (fun z => [(10, .pointer (some ⟨g0.b, 0, none⟩)), (13, .int .i64 (t : Nat)), (17, .int .i64 (z : Nat))]) (fun z => 1 ≤ z ∧ z ≤ t + 1)
        (fun z => K W (h.L ++ N)) (fun z => t + 1 - z) 1 ⟨rfl, rfl, rfl, trivial⟩ ⟨Nat.le_refl _, by omega⟩ (fun w h => h) ?_
      rintro x ⟨hx1, hx2⟩
      by_cases cx : x ≤ t
      · have hxh : h.bk.has x := ⟨hx1, by rw [hhl]; exact cx⟩
        obtain ⟨hs, hlk⟩ := hall x hxh
        have hst := State_b (W := W) (N := N) (tx := x) hhB
        have es : h.bk.stI x = (h.bk.tx x).st := by
          rw [Bk.stI, if_pos (by omega), Int.toNat_natCast]
        have hhd := Held_b (W := W) (N := N) (tx := x) hhB (hhO.inv.good (by omega))
        have eh : h.bk.lkI x = [] := by
          rw [Bk.lkI, if_pos (by omega), Int.toNat_natCast, hlk]
        rw [es, hhb] at hst
        rw [eh, hhb] at hhd
        rcases hs with hs | hs
        · rw [hs] at hst
          refine c_seq ?_
          refine csr ?_
          refine sm ?_
          refine sm ?_
          refine sy (y_T (y_leq rfl rfl) (by omega)) ?_
          refine snf ?_
          refine c_condT rfl ?_
          refine c_skip ?_
          refine f_then ?_
          refine c_seq ?_
          refine c_block ?_
          refine csr ?_
          refine sm ?_
          refine sm ?_
          refine sk Tryz.call38 hst fun _ => ?_
          refine sa ?_
          refine snf ?_
          refine csr ?_
          refine sm ?_
          refine sy (y_F (y_neq rfl rfl) (by omega)) ?_
          refine sm ?_
          iterate 2 refine s_skip rfl rfl rfl ?_
          refine spF ?_
          refine sm ?_
          refine sm ?_
          refine sm ?_
          refine sk Tryz.call29 hhd fun z => ?_
          obtain ⟨⟨zv, zc⟩, hz⟩ := z
          dsimp only at hz ⊢
          refine sy (y_lenR' Tryz.tab rfl hz rfl) ?_
          refine sy (y_neq rfl rfl) ?_
          refine spF ?_
          refine snf ?_
          refine c_condF rfl ?_
          refine c_skip ?_
          refine f_blockN ?_
          refine f_then ?_
          refine c_region ?_
          refine sm ?_
          refine sy (y_add rfl rfl (by omega)) ?_
          refine sa ?_
          refine s_nil ?_
          exact f_roundP (x + 1) ⟨by omega, by omega⟩ (by omega) ⟨rfl, rfl, rfl, trivial⟩ (fun w h => h.tail)
        · rw [hs] at hst
          refine c_seq ?_
          refine csr ?_
          refine sm ?_
          refine sm ?_
          refine sy (y_T (y_leq rfl rfl) (by omega)) ?_
          refine snf ?_
          refine c_condT rfl ?_
          refine c_skip ?_
          refine f_then ?_
          refine c_seq ?_
          refine c_block ?_
          refine csr ?_
          refine sm ?_
          refine sm ?_
          refine sk Tryz.call38 hst fun _ => ?_
          refine sa ?_
          refine snf ?_
          refine csr ?_
          refine sm ?_
          refine sy (y_T (y_neq rfl rfl) (by omega)) ?_
          refine sm ?_
          refine sm ?_
          refine sy (y_F (y_neq rfl rfl) (by omega)) ?_
          refine spT ?_
          refine sm ?_
          refine sm ?_
          refine sm ?_
          refine sk Tryz.call29 hhd fun z => ?_
          obtain ⟨⟨zv, zc⟩, hz⟩ := z
          dsimp only at hz ⊢
          refine sy (y_lenR' Tryz.tab rfl hz rfl) ?_
          refine sy (y_neq rfl rfl) ?_
          refine spF ?_
          refine snf ?_
          refine c_condF rfl ?_
          refine c_skip ?_
          refine f_blockN ?_
          refine f_then ?_
          refine c_region ?_
          refine sm ?_
          refine sy (y_add rfl rfl (by omega)) ?_
          refine sa ?_
          refine s_nil ?_
          exact f_roundP (x + 1) ⟨by omega, by omega⟩ (by omega) ⟨rfl, rfl, rfl, trivial⟩ (fun w h => h.tail)
      · have hqu := Queue_b (W := W) (N := N) hhB (hhO.inv.good (by omega))
        have eq : h.bk.reqs = [] := by rw [Bk.reqs, hq]; rfl
        rw [eq, hhb] at hqu
        refine c_seq ?_
        refine csr ?_
        refine sm ?_
        refine sm ?_
        refine sy (y_F (y_leq rfl rfl) (by omega)) ?_
        refine snf ?_
        refine c_condF rfl ?_
        refine c_exit ?_
        refine f_thenE ?_
        refine f_rndE ?_
        refine f_blockE ?_
        refine f_then ?_
        refine csr ?_
        refine sm ?_
        refine sk Tryz.call39 hqu fun z => ?_
        obtain ⟨⟨zv, zc⟩, hz⟩ := z
        dsimp only at hz ⊢
        refine sy (y_lenR' Tryz.tab rfl hz rfl) ?_
        refine sy (y_eql rfl rfl) ?_
        refine sm ?_
        refine sk Tryz.call13 awake_spec fun _ => ?_
        refine spT ?_
        refine sa ?_
        refine snf ?_
        refine c_ret ?_
        exact f_ret () (res1 rfl rfl) (fun w h => K.bck h.tail)
/-- The law, walked. -/
theorem clerkEnds_walk (W : World) (nt : Nat) (tf : Nat → Int) (nl : Nat) (lf : Nat → Nat → Int) (nc : Nat) (cf : Nat → Bool) (tv lv cv : Value) (hT : SlV (K W []) tv nt 1 (fun i _ => .int .u8 (tf i))) (hnt : nt ≤ 9223372036854775807) (htf : ∀ i, i < nt → 0 ≤ tf i ∧ tf i < 256)
    (hL : SlV (K W []) lv nl 6 (fun i j => (clc (lf i)).getD j undef)) (hnl : nl ≤ 9223372036854775807) (hlf : ∀ i, i < nl → (0 ≤ lf i 0 ∧ lf i 0 < 256) ∧ ∀ j, 1 ≤ j → j < 6 → i64 (lf i j)) (hC : SlB (K W []) cv nc cf) (hnc : nc ≤ 9223372036854775807) :
    Spec Tryz.prog 11 #[tv, lv, cv] (K W []) (fun _ : Unit => .bool true) (fun _ => K W []) := ends_spec hT hL hC htf (fun i hi => (hlf i hi).1) hnt hnl hnc
end Go.KL
end

section
namespace Go.Proofs.YtcbmmldkpicaiaaGreat
open Go.ChangeShapes Go.WideShapes Go.RowKit Go.KL
set_option linter.unusedVariables false
theorem own : ownKnob Tryz.prog.godebug = none := by kernel_rfl
set_option maxRecDepth 100000 in
theorem clerkEnds_lifted (os : Os) (started : os.Started) (H : Type) (enc : TypeId × Value → H) :
    ReturnsInHanded {} Tryz.checked os 11 .any (Rows.clerkEndsSpec.pre6 enc Tryz.prog Tryz.f11 Rows.clerkEndsRow.domain false) (Rows.clerkEndsSpec.post enc Tryz.prog Tryz.f11 false true false false) := by
  refine returnsInHanded_of_change (C := Tryz.checked) own started (by kernel_rfl) Tryz.func11
    (ChangeSpec.witness6 (enc := enc) (C := Tryz.checked) false ⟨#[], #[.slice none 0 0, .slice none 0 0, .slice none 0 0], []⟩ 8 (by kernel_rfl) (by kernel_rfl) (by kernel_rfl) (by kernel_rfl)) ?_
  intro W base args ds gs before hval hW hcnd _
  obtain ⟨p, q, hA, hV, rfl, hfz, hnd⟩ := id hW
  obtain ⟨rfl, rfl⟩ := trodVars_none hV
  obtain ⟨v0, vs0, d0, ds0, p0, q0, e0, rfl, rfl, h0, r0⟩ := trodAll_cons hA
  obtain ⟨v1, vs1, d1, ds1, p1, q1, rfl, rfl, rfl, h1, r1⟩ := trodAll_cons r0
  obtain ⟨v2, vs2, d2, ds2, p2, q2, rfl, rfl, rfl, h2, r2⟩ := trodAll_cons r1
  obtain ⟨rfl, rfl, rfl⟩ := trodAll_nil r2
  obtain rfl : args = #[v0, v1, v2] := by cases args; simp_all
  obtain ⟨n0, f0, hV0, hm0, hf0⟩ := arg50 (hval 0 50 _ rfl rfl) h0
  obtain ⟨n1, f1, hV1, hm1, hf1⟩ := arg22 (hval 1 22 _ rfl rfl) h1
  obtain ⟨n2, f2, hB2, hm2⟩ := arg87 (hval 2 87 _ rfl rfl) h2
  refine ((clerkEnds_walk W n0 f0 n1 f1 n2 f2 v0 v1 v2 hV0 hm0 hf0 hV1 hm1 hf1 hB2 hm2) W (K.refl W)).mono ?_
  rintro e W' ⟨x, rfl, hk⟩
  exact ⟨_, rfl, law_post (t := 4) laidOut (by decide +kernel) rfl rfl u4 hW rfl hk.toExt⟩
theorem joined : joinedFacts Tryz.pinned.checked.prog 11 Tryz.f11 Rows.clerkEndsSpec Rows.clerkEndsRow = true := by
  show joinedFacts Tryz.prog 11 Tryz.f11 Rows.clerkEndsSpec Rows.clerkEndsRow = true
  unfold joinedFacts
  rw [Go.KL.may_enter, Go.KL.lifts_final, Go.KL.make_cut]
  kernel_rfl
/-- The statement. -/
theorem clerkEnds_holds : Rows.ClerkEndsSaid :=
  OpenClaim.holds_of_wide 11 Tryz.f11 rfl rfl rfl rfl rfl rfl rfl ⟨rfl, rfl, rfl, rfl, rfl⟩ rfl rfl rfl rfl rfl (by kernel_rfl) Tryz.func11 joined
    (of_decide_eq_true (by kernel_rfl)) (by unfold Func.isWrapper; first | (rw [if_pos (by decide +kernel)]; kernel_rfl) | (rw [if_neg (by decide +kernel)]; exact ⟨rfl, rfl⟩))
    (fun os started H enc _ => clerkEnds_lifted os started H enc)
end Go.Proofs.YtcbmmldkpicaiaaGreat
end
