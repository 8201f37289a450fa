/- ClerkSerial: for every input the law returns true, and its arguments read as they did. No condition. -/
import Derived.Test.YtcbmmldkpicaiaaGreatRows
import Derived.JoinedOf
import Derived.Handed
import Derived.Test.YtcbmmldkpicaiaaGreatSerL6
section
/- The law: ClerkSerial. -/
namespace Go.KL
open Go.Proofs
theorem K.pm {W w : World} {A B : List Chunk} (h : K W A w) (p : ∀ x : Chunk, ∀ (_ : DecidableEq Chunk), A.count x = B.count x) : K W B w := h.weak [] (by
  haveI : DecidableEq Chunk := fun a b => Classical.propDecidable (a = b)
  simpa using (List.perm_iff_count.2 fun x => p x _ : A.Perm B).flatten)
theorem K.al2 {W w : World} {A G M : List Chunk} {c : Chunk} (h : K W (c :: (A ++ (G ++ M))) w) : K W (A ++ ((G ++ M) ++ [c])) w := K.pm h fun x _ => by
  simp only [List.count_append, List.count_cons, List.count_nil]
  omega
theorem K.al3 {W w : World} {T G M : List Chunk} {c p : Chunk} (h : K W ((T ++ [p]) ++ ((G ++ M) ++ [c])) w) : K W (c :: (G ++ (T ++ (p :: M)))) w := K.pm h fun x _ => by
  simp only [List.count_append, List.count_cons, List.count_nil]
  omega
theorem K.al4 {W w : World} {T G M : List Chunk} {p : Chunk} (h : K W (G ++ (T ++ (p :: M))) w) : K W (G ++ M) w := (K.pm (B := p :: (T ++ (G ++ M))) h fun x _ => by
  simp only [List.count_append, List.count_cons]
  omega).tail.bck
theorem K.al6 {W w : World} {G M F : List Chunk} {p : Chunk} (h : K W ([p] ++ ((G ++ M) ++ F)) w) : K W (M ++ (p :: (G ++ F))) w := K.pm h fun x _ => by
  simp only [List.count_append, List.count_cons, List.count_nil]
  omega
theorem K.al7 {W w : World} {T G M F : List Chunk} {p : Chunk} (h : K W (T ++ (M ++ (p :: (G ++ F)))) w) : K W ((T ++ [p]) ++ ((G ++ M) ++ F)) w := K.pm h fun x _ => by
  simp only [List.count_append, List.count_cons, List.count_nil]
  omega
attribute [local irreducible] SC St Fin Sq Ylds Doos Sets Enters Spec CellIs CellsAre Then Ret Rnd Chn resOK ints bools recs arr
set_option maxRecDepth 10000 in
set_option maxHeartbeats 16000000 in
theorem serial_spec {W : World} {N : List Chunk} {tv lv : Value} {nt nl : Nat} {tf : Nat → Int} {lf : Nat → Nat → Int} (hT : SlV (K W N) tv nt 1 (fun i _ => .int .u8 (tf i))) (hL : SlV (K W N) lv nl 6 (fun i j => (clc (lf i)).getD j undef))
    (htf : ∀ i, i < nt → 0 ≤ tf i ∧ tf i < 256) (hlf : ∀ i, i < nl → 0 ≤ lf i 0 ∧ lf i 0 < 256) (hnt : nt ≤ 9223372036854775807) (hnl : nl ≤ 9223372036854775807) :
    Spec Tryz.prog 12 #[tv, lv] (K W N) (fun _ : Unit => .bool true) (fun _ => K W N) := by
  refine enter (args := [_, _]) Tryz.func12 rfl Tryz.ntmps12 rfl ?_
  by_cases c1 : nt = 0 ∨ 200 < nt
  · by_cases c0 : nt = 0
    · refine csr ?_
      refine sa ?_
      refine snf ?_
      refine csr ?_
      refine sm ?_
      refine sk Tryz.call20 (made_no hT c1) fun _ => ?_
      refine sm ?_
      refine sx ?_
      refine sx ?_
      refine sx ?_
      refine sal fun b5 => ?_
      refine sal fun b6 => ?_
      refine ss (set_box Tryz.tab 1 rfl rfl rfl rfl rfl rfl rfl) ?_
      refine ss (set_box Tryz.tab 0 rfl rfl rfl rfl rfl rfl rfl) ?_
      refine sa ?_
      refine snf ?_
      refine c_seq ?_
      refine csr ?_
      refine sm ?_
      refine sy (y_lenV Tryz.tab rfl (hT.cons.cons) rfl) ?_
      refine sy (y_T (y_eql rfl rfl) (by omega)) ?_
      refine sm ?_
      iterate 3 refine s_skip rfl rfl rfl ?_
      refine spT ?_
      refine sm ?_
      iterate 3 refine s_skip rfl rfl rfl ?_
      refine spT ?_
      refine snf ?_
      refine c_condT rfl ?_
      refine csr ?_
      refine sk Tryz.call13 awake_spec fun _ => ?_
      refine sa ?_
      refine snf ?_
      refine c_ret ?_
      refine f_thenR ?_
      exact f_ret () (res1 rfl rfl) (fun w h => h.tail.tail)
    · have c3 : 200 < nt := by omega
      refine csr ?_
      refine sa ?_
      refine snf ?_
      refine csr ?_
      refine sm ?_
      refine sk Tryz.call20 (made_no hT c1) fun _ => ?_
      refine sm ?_
      refine sx ?_
      refine sx ?_
      refine sx ?_
      refine sal fun b5 => ?_
      refine sal fun b6 => ?_
      refine ss (set_box Tryz.tab 1 rfl rfl rfl rfl rfl rfl rfl) ?_
      refine ss (set_box Tryz.tab 0 rfl rfl rfl rfl rfl rfl rfl) ?_
      refine sa ?_
      refine snf ?_
      refine c_seq ?_
      refine csr ?_
      refine sm ?_
      refine sy (y_lenV Tryz.tab rfl (hT.cons.cons) rfl) ?_
      refine sy (y_F (y_eql rfl rfl) (by omega)) ?_
      refine sm ?_
      refine sm ?_
      refine sy (y_lenV Tryz.tab rfl (hT.cons.cons) rfl) ?_
      refine sy (y_T (y_gtr rfl rfl) (by omega)) ?_
      refine spF ?_
      refine sm ?_
      iterate 3 refine s_skip rfl rfl rfl ?_
      refine spT ?_
      refine snf ?_
      refine c_condT rfl ?_
      refine csr ?_
      refine sk Tryz.call13 awake_spec fun _ => ?_
      refine sa ?_
      refine snf ?_
      refine c_ret ?_
      refine f_thenR ?_
      exact f_ret () (res1 rfl rfl) (fun w h => h.tail.tail)
  have hm := made_spec hT (by omega) (by omega) htf
  refine csr ?_
  refine sa ?_
  refine snf ?_
  refine csr ?_
  refine sm ?_
  refine sk Tryz.call20 hm fun x => ?_
  obtain ⟨⟨p, mv, c, rv⟩, hM, hB⟩ := x
  dsimp only at hM hB ⊢
  obtain ⟨pa, k, rfl, _, _⟩ := (hB.view (C := K W (c :: N)) (Hs.at 0 rfl)).view
  obtain ⟨a, rfl⟩ := hM.ptr
  have hT2 : SlV (K W (p :: c :: N)) tv nt 1 (fun i _ => .int .u8 (tf i)) := hT.cons.cons
  have hL2 : SlV (K W (p :: c :: N)) lv nl 6 (fun i j => (clc (lf i)).getD j undef) := hL.cons.cons
  by_cases c2 : 200 < nl
  · refine sm ?_
    refine sx ?_
    refine sx ?_
    refine sx ?_
    refine sal fun b5 => ?_
    refine sal fun b6 => ?_
    refine ss (set_box Tryz.tab 1 rfl rfl rfl rfl rfl rfl rfl) ?_
    refine ss (set_box Tryz.tab 0 rfl rfl rfl rfl rfl rfl rfl) ?_
    refine sa ?_
    refine snf ?_
    refine c_seq ?_
    refine csr ?_
    refine sm ?_
    refine sy (y_lenV Tryz.tab rfl (hT2.cons.cons) rfl) ?_
    refine sy (y_F (y_eql rfl rfl) (by omega)) ?_
    refine sm ?_
    refine sm ?_
    refine sy (y_lenV Tryz.tab rfl (hT2.cons.cons) rfl) ?_
    refine sy (y_F (y_gtr rfl rfl) (by omega)) ?_
    refine spF ?_
    refine sm ?_
    refine sm ?_
    refine sy (y_lenV Tryz.tab rfl (hL2.cons.cons) rfl) ?_
    refine sy (y_T (y_gtr rfl rfl) (by omega)) ?_
    refine spF ?_
    refine snf ?_
    refine c_condT rfl ?_
    refine csr ?_
    refine sk Tryz.call13 awake_spec fun _ => ?_
    refine sa ?_
    refine snf ?_
    refine c_ret ?_
    refine f_thenR ?_
    exact f_ret () (res1 rfl rfl) (fun w h => h.tail.tail.tail.tail)
  refine sm ?_
  refine sx ?_
  refine sx ?_
  refine sx ?_
  refine sal fun b5 => ?_
  refine sal fun b6 => ?_
  refine ss (set_box Tryz.tab 1 rfl rfl rfl rfl rfl rfl rfl) ?_
  refine ss (set_box Tryz.tab 0 rfl rfl rfl rfl rfl rfl rfl) ?_
  refine sa ?_
  refine snf ?_
  refine c_seq ?_
  refine csr ?_
  refine sm ?_
  refine sy (y_lenV Tryz.tab rfl (hT2.cons.cons) rfl) ?_
  refine sy (y_F (y_eql rfl rfl) (by omega)) ?_
  refine sm ?_
  refine sm ?_
  refine sy (y_lenV Tryz.tab rfl (hT2.cons.cons) rfl) ?_
  refine sy (y_F (y_gtr rfl rfl) (by omega)) ?_
  refine spF ?_
  refine sm ?_
  refine sm ?_
  refine sy (y_lenV Tryz.tab rfl (hL2.cons.cons) rfl) ?_
  refine sy (y_F (y_gtr rfl rfl) (by omega)) ?_
  refine spF ?_
  refine snf ?_
  refine c_condF rfl ?_
  refine c_skip ?_
  refine f_then ?_
  refine csr ?_
  refine sy (y_loadA Tryz.tab rfl rfl rfl rfl (cells_row0 1 rfl rfl)) ?_
  refine St.cls (C' := K W (p :: [(b6, row 37 [.int .i64 (nt : Nat), .slice pa (rnl (rns (tgs nt tf) 0 nt)).length k])] :: [(b5, row 29 [.pointer (some a)])] :: c :: N)) ?_ (fun w h => K.front 2 h)
  obtain ⟨M, hMM⟩ : ∃ M, M = [(b6, row 37 [.int .i64 (nt : Nat), .slice pa (rnl (rns (tgs nt tf) 0 nt)).length k])] :: [(b5, row 29 [.pointer (some a)])] :: c :: N := ⟨_, rfl⟩
  have hok := tgs_ok (f := tf) (n := nt) (by omega) (by omega)
  have hLM : SlV (K W M) lv nl 6 (fun i j => (clc (lf i)).getD j undef) := by rw [hMM]; exact hL.cons.cons.cons
  have hc6 : CellsAre (K W M) ⟨b6, 0, none⟩ [.int .i64 (nt : Nat), .slice pa (rnl (rns (tgs nt tf) 0 nt)).length k] := by rw [hMM]; exact cells_row0 0 rfl rfl
  have hRM : RMp (K W M) (.slice pa (rnl (rns (tgs nt tf) 0 nt)).length k) nt (tgs nt tf) := by rw [hMM]; exact ⟨hB.view (Hs.at 2 rfl), hok.pos, hok.nb⟩
  have hMN : ∀ w, K W M w → K W N w := fun w h => by rw [hMM] at h; exact h.tail.tail.tail
  rw [← hMM]
  obtain ⟨f, hf⟩ : ∃ f, f = tgs nt tf := ⟨_, rfl⟩
  rw [← hf] at hc6 hRM hM hok
  clear hT2 hL2 hB
  refine sk Tryz.call15 (New_b hM) fun x => ?_
  obtain ⟨g0, hB0, hb0, _⟩ := x
  dsimp only
  have hok0 : g0.bk.Ok 0 := by
    rw [hb0]
    exact Bk.fresh_ok ⟨by omega, by omega⟩ hok.nb
  have hlk0 : g0.bk.Lgk f 0 := by
    rw [hb0]
    exact Bk.fresh_lgk
  have hz0 : g0.bk.size = nt := by rw [hb0]; rfl
  have ht0 : g0.ts.length = 0 := by
    have := congrArg (fun A : Bk => A.ts.length) hb0
    simpa [Bg.bk, Bk.fresh] using this
  have hl0 : g0.ls.length = 0 := by
    have := congrArg (fun A : Bk => A.log.length) hb0
    simpa [Bg.bk, Bk.fresh] using this
  refine sm ?_
  refine sx ?_
  refine sx ?_
  refine sa ?_
  refine sa ?_
  refine snf ?_
  refine c_seq ?_
  refine csr ?_
  refine sm ?_
  refine sy (y_notT rfl) ?_
  refine sm ?_
  refine sm ?_
  refine sy (y_F (y_neq rfl rfl) (by omega)) ?_
  refine spF ?_
  refine snf ?_
  refine c_condF rfl ?_
  refine c_skip ?_
  refine f_then ?_
  refine c_seq ?_
  refine csr ?_
  refine sa ?_
  refine snf ?_
  refine c_block ?_
  refine c_loopP (α := Nat × Bg) (fun z => [(0, tv), (1, lv), (6, .pointer (some ⟨b6, 0, none⟩)), (8, .pointer (some ⟨g0.b, 0, none⟩)), (10, .int .i64 (z.1 : Nat))]) (fun z => z.1 ≤ nl ∧ z.2.OK ∧ z.2.b = g0.b ∧ z.2.bk.Ok z.1 ∧ z.2.ts.length ≤ z.1 ∧ z.2.ls.length ≤ z.1 ∧ z.2.bk.Lgk f z.1 ∧ z.2.bk.size = nt)
    (fun z => K W (z.2.L ++ M)) (fun z => nl - z.1) (0, g0) ⟨rfl, rfl, rfl, rfl, rfl, trivial⟩ ⟨Nat.zero_le _, hB0, rfl, hok0, by dsimp only; omega, by dsimp only; omega, hlk0, hz0⟩ (fun w h => h) ?_
  clear hok0 ht0 hl0 hlk0 hz0
  rintro ⟨i, g⟩ ⟨hi, hgB, hgb, hgO, hgt, hgl, hgk, hgz⟩
  dsimp only at hi hgB hgb hgO hgt hgl hgk hgz ⊢
  have hLg : SlV (K W (g.L ++ M)) lv nl 6 (fun i j => (clc (lf i)).getD j undef) := hLM.cls fun w h => K.bck h
  by_cases ci : i < nl
  · have hcell : CellsAre (K W (g.L ++ M)) ⟨vblk lv, voff lv + i * 6, none⟩ [.int .u8 (lf i 0), .int .i64 (lf i 1), .int .i64 (lf i 2), .int .i64 (lf i 3), .int .i64 (lf i 4), .int .i64 (lf i 5)] := hLg.rowAt ci
    have hcl := call_spec (W := W) (N := M) (f := lf i) hgB hgO (by omega) (by omega) (by omega) (hlf i ci)
    rw [hgb] at hcl
    refine c_seq ?_
    refine csr ?_
    refine sm ?_
    refine sm ?_
    refine sy (y_lenV Tryz.tab rfl (hLg) rfl) ?_
    refine sy (y_T (y_lss rfl rfl) (by omega)) ?_
    refine snf ?_
    refine c_condT rfl ?_
    refine c_skip ?_
    refine f_then ?_
    refine c_seq ?_
    refine c_block ?_
    refine c_region ?_
    refine sm ?_
    refine sm ?_
    refine sm ?_
    refine sy (y_ixV Tryz.tab rfl rfl rfl rfl (hLg) _ rfl (by omega)) ?_
    refine sy (y_loadA Tryz.tab rfl rfl rfl rfl hcell) ?_
    refine sk Tryz.call40 hcl fun x => ?_
    obtain ⟨g', hB', hc', hb'⟩ := x
    dsimp only
    obtain ⟨q1, _, q3, q4⟩ := hgO.grow hc'
    have e1 : g'.bk.ts.length = g'.ts.length := by simp [Bg.bk]
    have e2 : g.bk.ts.length = g.ts.length := by simp [Bg.bk]
    have e3 : g'.bk.log.length = g'.ls.length := by simp [Bg.bk]
    have e4 : g.bk.log.length = g.ls.length := by simp [Bg.bk]
    refine s_nil ?_
    refine f_blockN ?_
    refine f_then ?_
    refine c_region ?_
    refine sm ?_
    refine sy (y_add rfl rfl (by omega)) ?_
    refine sa ?_
    refine s_nil ?_
    exact f_roundP (i + 1, g') ⟨ci, hB', hb', hgO.cl hc', by dsimp only; omega, by dsimp only; omega, hgk.cl hgO hc', q1.trans hgz⟩ (by dsimp only; omega) ⟨rfl, rfl, rfl, rfl, rfl, trivial⟩ (fun w h => h)
  · obtain rfl : i = nl := by omega
    have e4 : g.bk.log.length = g.ls.length := by simp [Bg.bk]
    have hnn : ∀ x ∈ g.ls, x.2.2.length < 1000000 ∧ ∀ o ∈ x.2.2, o.1.runs.length < 1000000 := fun x hx => by
      have hx' : (x.1, ops x.2.2) ∈ g.bk.log := List.mem_map.2 ⟨x, hx, rfl⟩
      refine ⟨?_, fun o ho => ?_⟩
      · have := hgk.len _ hx'
        simp only [List.length_map] at this
        omega
      · have := hgk.runs hx' (o := o.1) (List.mem_map.2 ⟨o, ho, rfl⟩)
        rw [hgz] at this
        omega
    have hc6g : CellsAre (K W (g.L ++ M)) ⟨b6, 0, none⟩ [.int .i64 (nt : Nat), .slice pa (rnl (rns f 0 nt)).length k] := hc6.cls fun w h => K.bck h
    refine c_seq ?_
    refine csr ?_
    refine sm ?_
    refine sm ?_
    refine sy (y_lenV Tryz.tab rfl (hLg) rfl) ?_
    refine sy (y_F (y_lss rfl rfl) (by omega)) ?_
    refine snf ?_
    refine c_condF rfl ?_
    refine c_exit ?_
    refine f_thenE ?_
    refine f_rndE ?_
    refine f_blockE ?_
    refine f_then ?_
    refine c_seq ?_
    obtain ⟨F, hF⟩ : ∃ F : Option Nat → List Chunk, F = flo (fun b => [(b, row 37 [.int .i64 0, .slice none 0 0])]) := ⟨_, rfl⟩
    have hD : ∀ (A : List Chunk) (y : Option Nat) (w : World), K W (A ++ ((g.L ++ M) ++ F y)) w → K W (g.L ++ M) w := fun A y w h => K.pre (K.bck h)
    have hal : ∀ (A : List Chunk) {σ : Slots} {o : Oper}, Doos Tryz.prog 73 σ (K W (A ++ (g.L ++ M))) o (fun b => Value.pointer (some ⟨b, 0, none⟩)) (fun b => K W ([(b, row 37 [.int .i64 0, .slice none 0 0])] :: (A ++ (g.L ++ M)))) → Outs Tryz.prog 73 σ (K W (A ++ ((g.L ++ M) ++ F none))) o (fun b => Value.pointer (some ⟨b, 0, none⟩)) (fun b => K W (A ++ ((g.L ++ M) ++ F (some b)))) := fun A σ o h => by
      rw [hF]
      refine (h.outs.cls (D := K W (A ++ ((g.L ++ M) ++ []))) fun w hk => by rw [List.append_nil] at hk; exact hk).conv fun b w hk => K.al2 hk
    refine SC.cls (C' := K W ([] ++ ((g.L ++ M) ++ F none))) ?_ (fun w h => by rw [hF]; exact (List.append_nil (g.L ++ M)).symm ▸ h)
    refine c_planJ (Y := Nat) 7 11 (fun b => .pointer (some ⟨b, 0, none⟩)) [.c 0, .c 1, .s 2, .s 3, .c 4, .c 5, .c 6] [.s 8, .s 9] (K W (g.L ++ M)) (fun y => K W ([] ++ ((g.L ++ M) ++ F y))) Tryz.mixed (by kernel_rfl) rfl K.cl ?_
    refine j_c rfl (Qui.ylds (y_loadA Tryz.tab rfl rfl rfl rfl hc6g)) rfl (fun _ => rfl) rfl rfl rfl rfl rfl (hD _) (fun _ => K.cl) ?_
    refine j_c rfl (Qui.ylds (y_move rfl)) rfl (fun _ => rfl) rfl rfl rfl rfl rfl (hD _) (fun _ => K.cl) ?_
    have hlog := fun y => Log_b (W := W) (N := M ++ F y) hgB (by omega) hnn
    rw [hgb] at hlog
    refine j_s (X := { x : Value × List Lg × Chunk // LgV x.2.2 x.1 x.2.1 ∧ (x.2.1.map fun y => (y.1, ops y.2.2)) = g.bk.log }) (v := fun x => x.1.1) (C' := fun x y => K W ([x.1.2.2] ++ ((g.L ++ M) ++ F y))) rfl rfl (fun y => ((Outs.call (en_f rfl Tryz.call22) (hlog y)).cls fun w h => by rw [← List.append_assoc]; exact h).conv fun x w h => by rw [List.append_assoc]; exact h) (hal [] (do_alloc Tryz.tab rfl)) rfl (fun _ => rfl) rfl rfl rfl rfl rfl rfl rfl (fun _ => K.cl) (fun _ _ => K.cl) (hD []) (fun x y => hD [_] y) (fun x => ?_)
    obtain ⟨⟨v9, ls9, p9⟩, hV9, hE9⟩ := x
    dsimp only at hV9 hE9 ⊢
    have hls9 : ls9.length = g.ls.length := by
      have := congrArg List.length hE9
      rw [List.length_map, e4] at this
      exact this
    have hRep : Rep nt f (flt (ls9.map fun x => (x.1, ops x.2.2))) := by
      rw [hE9]
      have := hgk.rep
      rw [hgz] at this
      exact this
    have hrp : ∀ y, Spec Tryz.prog 43 #[.agg #[.int .i64 (nt : Nat), .slice pa (rnl (rns f 0 nt)).length k], v9] (K W (M ++ (p9 :: (g.L ++ F y)))) (X := { x : Value × List Chunk // RMp (K W (x.2 ++ M)) x.1 nt g.bk.C }) (fun x => .tuple #[.agg #[.int .i64 (nt : Nat), x.1.1], .bool true]) (fun x => K W (x.1.2 ++ (M ++ (p9 :: (g.L ++ F y))))) := fun y => by
      have hC : ap f (flt (ls9.map fun x => (x.1, ops x.2.2))) = g.bk.C := by rw [hE9]; exact hgk.C.symm
      rw [← hC]
      have hs9 : Hs (K W (M ++ (p9 :: (g.L ++ F y)))) p9 := Hs.sub (c := (M ++ (p9 :: (g.L ++ F y))).flatten) (fun w hw e he => (hw.own e he).2) fun e he => by simp [he]
      refine Replay_spec hRM (hV9.v.ev hs9) (fun x hx => ⟨(hV9.o x hx).1.ev hs9, fun o ho => ((hV9.o x hx).2 o ho).ev hs9⟩) hRep (by omega) (by omega) (fun x hx => ?_)
      have hx' : (x.1, ops x.2.2) ∈ g.bk.log := by rw [← hE9]; exact List.mem_map.2 ⟨x, hx, rfl⟩
      have := hgk.len _ hx'
      simp only [List.length_map] at this
      omega
    refine j_s (X := { x : Value × List Chunk // RMp (K W (x.2 ++ M)) x.1 nt g.bk.C }) (v := fun x => .tuple #[.agg #[.int .i64 (nt : Nat), x.1.1], .bool true]) (C' := fun x y => K W ((x.1.2 ++ [p9]) ++ ((g.L ++ M) ++ F y))) rfl rfl (fun y => ((Outs.call (en_f rfl Tryz.call43) (hrp y)).cls fun w h => K.al6 h).conv fun x w h => K.al7 h) (hal [_] (do_alloc Tryz.tab rfl)) rfl (fun _ => rfl) rfl rfl rfl rfl rfl rfl rfl (fun _ => K.cl) (fun _ _ => K.cl) (hD [_]) (fun x y => hD _ y) (fun x => ?_)
    obtain ⟨⟨vr, T⟩, hRT⟩ := x
    dsimp only at hRT ⊢
    obtain ⟨pr, kr, rfl, _, _⟩ := hRT.v.view
    refine j_c rfl (Qui.ylds (y_move rfl)) rfl (fun _ => rfl) rfl rfl rfl rfl rfl (hD _) (fun _ => K.cl) ?_
    refine j_c rfl (Qui.ylds (y_extract rfl rfl)) rfl (fun _ => rfl) rfl rfl rfl rfl rfl (hD _) (fun _ => K.cl) ?_
    refine j_c rfl (Qui.ylds (y_extract rfl rfl)) rfl (fun _ => rfl) rfl rfl rfl rfl rfl (hD _) (fun _ => K.cl) ?_
    refine j_j rfl (hal _ (do_alloc Tryz.tab rfl)) rfl rfl rfl (fun _ => K.cl) (hD _) (fun b11 => ?_)
    refine Sd.cls (C' := K W ([(b11, row 37 [.int .i64 0, .slice none 0 0])] :: (g.L ++ (T ++ (p9 :: M))))) ?_ (fun w h => by rw [hF] at h; exact K.al3 h)
    refine d_set rfl (set_box Tryz.tab 0 rfl rfl rfl rfl rfl rfl rfl) rfl rfl K.cl (fun _ w h => K.al4 h.tail) ?_
    refine d_sy rfl (y_assign rfl) rfl rfl rfl K.cl (fun _ w h => K.al4 h.tail) ?_
    refine d_nil ?_
    clear hD hal
    have hRG : RMp (K W ([(b11, row 37 [.int .i64 (nt : Nat), .slice pr (rnl (rns g.bk.C 0 nt)).length kr])] :: (T ++ (p9 :: M)))) (.slice pr (rnl (rns g.bk.C 0 nt)).length kr) nt g.bk.C := hRT.cls fun w h => K.dropMid h.tail
    have hnow := Now_b (W := W) (N := [(b11, row 37 [.int .i64 (nt : Nat), .slice pr (rnl (rns g.bk.C 0 nt)).length kr])] :: (T ++ (p9 :: M))) hgB
    rw [hgb] at hnow
    have hrq := runsNow (W := W) hgB hgz rfl hRG
    have hc11 : CellsAre (K W ([(b11, row 37 [.int .i64 (nt : Nat), .slice pr (rnl (rns g.bk.C 0 nt)).length kr])] :: (T ++ (p9 :: M)))) ⟨b11, 0, none⟩ [.int .i64 (nt : Nat), .slice pr (rnl (rns g.bk.C 0 nt)).length kr] := cells_row0 0 rfl rfl
    refine f_then ?_
    refine c_seq ?_
    refine SC.cls (C' := K W (g.L ++ ([(b11, row 37 [.int .i64 (nt : Nat), .slice pr (rnl (rns g.bk.C 0 nt)).length kr])] :: (T ++ (p9 :: M))))) ?_ (fun w h => K.bckN (A := [[(b11, row 37 [.int .i64 (nt : Nat), .slice pr (rnl (rns g.bk.C 0 nt)).length kr])]]) (B := g.L) h)
    have hD := fun (w : World) (h : K W (g.L ++ ([(b11, row 37 [.int .i64 (nt : Nat), .slice pr (rnl (rns g.bk.C 0 nt)).length kr])] :: (T ++ (p9 :: M)))) w) => K.bck h
    refine c_plan [.c 0, .c 1, .c 2, .c 4, .s 3, .s 5, .c 6, .c 7, .s 8, .c 9, .c 10] [] ((K W ([(b11, row 37 [.int .i64 (nt : Nat), .slice pr (rnl (rns g.bk.C 0 nt)).length kr])] :: (T ++ (p9 :: M))))) Tryz.mixed (by kernel_rfl) rfl K.cl ?_
    refine dy rfl (y_move rfl) hD ?_
    refine dy rfl (y_move rfl) hD ?_
    refine dy rfl (y_move rfl) hD ?_
    refine dy rfl (y_loadA Tryz.tab rfl rfl rfl rfl hc11) hD ?_
    refine d_call rfl (en_f rfl Tryz.call35) hnow rfl rfl rfl (fun _ => K.cl) (fun _ _ _ h => K.bck h) (fun _ => ?_)
    skip
    refine d_call rfl (en_f rfl Tryz.call24) hrq rfl rfl rfl (fun _ => K.cl) (fun _ _ _ h => K.bck h) (fun _ => ?_)
    refine dy rfl (y_pickT rfl rfl) hD ?_
    refine dy rfl (y_move rfl) hD ?_
    refine d_call rfl (en_f rfl Tryz.call13) awake_spec rfl rfl rfl (fun _ => K.cl) (fun _ _ _ h => K.bck h) (fun _ => ?_)
    refine dy rfl (y_pickT rfl rfl) hD ?_
    refine dy rfl (y_assign rfl) hD ?_
    refine d_nil ?_
    refine f_then ?_
    refine c_ret ?_
    exact f_ret () (res1 rfl rfl) (fun w h => hMN w (K.bck (K.bck h).tail).tail)
/-- The law, walked. -/
theorem clerkSerial_walk (W : World) (nt : Nat) (tf : Nat → Int) (nl : Nat) (lf : Nat → Nat → Int) (tv lv : Value) (hT : SlV (K W []) tv nt 1 (fun i _ => .int .u8 (tf i))) (hnt : nt ≤ 9223372036854775807) (htf : ∀ i, i < nt → 0 ≤ tf i ∧ tf i < 256)
    (hL : SlV (K W []) lv nl 6 (fun i j => (clc (lf i)).getD j undef)) (hnl : nl ≤ 9223372036854775807) (hlf : ∀ i, i < nl → (0 ≤ lf i 0 ∧ lf i 0 < 256) ∧ ∀ j, 1 ≤ j → j < 6 → i64 (lf i j)) :
    Spec Tryz.prog 12 #[tv, lv] (K W []) (fun _ : Unit => .bool true) (fun _ => K W []) := serial_spec hT hL htf (fun i hi => (hlf i hi).1) hnt hnl
end Go.KL
end

section
namespace Go.Proofs.YtcbmmldkpicaiaaGreat
open Go.ChangeShapes Go.WideShapes Go.RowKit Go.KL
set_option linter.unusedVariables false
theorem own : ownKnob Tryz.prog.godebug = none := by kernel_rfl
set_option maxRecDepth 100000 in
theorem clerkSerial_lifted (os : Os) (started : os.Started) (H : Type) (enc : TypeId × Value → H) :
    ReturnsInHanded {} Tryz.checked os 12 .any (Rows.clerkSerialSpec.pre6 enc Tryz.prog Tryz.f12 Rows.clerkSerialRow.domain false) (Rows.clerkSerialSpec.post enc Tryz.prog Tryz.f12 false true false false) := by
  refine returnsInHanded_of_change (C := Tryz.checked) own started (by kernel_rfl) Tryz.func12
    (ChangeSpec.witness6 (enc := enc) (C := Tryz.checked) false ⟨#[], #[.slice none 0 0, .slice none 0 0], []⟩ 8 (by kernel_rfl) (by kernel_rfl) (by kernel_rfl) (by kernel_rfl)) ?_
  intro W base args ds gs before hval hW hcnd _
  obtain ⟨p, q, hA, hV, rfl, hfz, hnd⟩ := id hW
  obtain ⟨rfl, rfl⟩ := trodVars_none hV
  obtain ⟨v0, vs0, d0, ds0, p0, q0, e0, rfl, rfl, h0, r0⟩ := trodAll_cons hA
  obtain ⟨v1, vs1, d1, ds1, p1, q1, rfl, rfl, rfl, h1, r1⟩ := trodAll_cons r0
  obtain ⟨rfl, rfl, rfl⟩ := trodAll_nil r1
  obtain rfl : args = #[v0, v1] := by cases args; simp_all
  obtain ⟨n0, f0, hV0, hm0, hf0⟩ := arg50 (hval 0 50 _ rfl rfl) h0
  obtain ⟨n1, f1, hV1, hm1, hf1⟩ := arg22 (hval 1 22 _ rfl rfl) h1
  refine ((clerkSerial_walk W n0 f0 n1 f1 v0 v1 hV0 hm0 hf0 hV1 hm1 hf1) W (K.refl W)).mono ?_
  rintro e W' ⟨x, rfl, hk⟩
  exact ⟨_, rfl, law_post (t := 4) laidOut (by decide +kernel) rfl rfl u4 hW rfl hk.toExt⟩
theorem joined : joinedFacts Tryz.pinned.checked.prog 12 Tryz.f12 Rows.clerkSerialSpec Rows.clerkSerialRow = true := by
  show joinedFacts Tryz.prog 12 Tryz.f12 Rows.clerkSerialSpec Rows.clerkSerialRow = true
  unfold joinedFacts
  rw [Go.KL.may_enter, Go.KL.lifts_final, Go.KL.make_cut]
  kernel_rfl
/-- The statement. -/
theorem clerkSerial_holds : Rows.ClerkSerialSaid :=
  OpenClaim.holds_of_wide 12 Tryz.f12 rfl rfl rfl rfl rfl rfl rfl ⟨rfl, rfl, rfl, rfl, rfl⟩ rfl rfl rfl rfl rfl (by kernel_rfl) Tryz.func12 joined
    (of_decide_eq_true (by kernel_rfl)) (by unfold Func.isWrapper; first | (rw [if_pos (by decide +kernel)]; kernel_rfl) | (rw [if_neg (by decide +kernel)]; exact ⟨rfl, rfl⟩))
    (fun os started H enc _ => clerkSerial_lifted os started H enc)
end Go.Proofs.YtcbmmldkpicaiaaGreat
end
