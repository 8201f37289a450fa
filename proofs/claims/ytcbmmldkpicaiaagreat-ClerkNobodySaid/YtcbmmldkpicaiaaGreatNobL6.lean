/- The library of the proof, part 6: a program logic over the model, walks of functions, plain laws. No condition. -/
import Derived.Test.YtcbmmldkpicaiaaGreatNobL5
section
/- Walks: release. -/
namespace Go.KL
open Go.Proofs
/-- What the walk through a release asks. -/
structure Lm (g : Bg) : Prop where
  lk : ∀ t ∈ g.ts, t.locks.length ≤ 4096
  rn : g.rn.length ≤ 64
  q : g.q.length ≤ 64
attribute [local irreducible] SC St Fin Sq Ylds Doos Sets Enters Spec CellIs CellsAre Then Ret Rnd Chn resOK ints bools recs arr
set_option maxRecDepth 10000 in
set_option maxHeartbeats 16000000 in
theorem release_spec {g : Bg} {W : World} {N : List Chunk} {k : Nat} (hB : g.OK) (hL : Lm g) (hk : g.has k) :
    Spec Tryz.prog 66 #[.pointer (some ⟨g.b, 0, none⟩), g.ptr k] (K W (g.L ++ N)) (X := { g' : Bg // g'.OK ∧ g'.bk = g.bk.release k ∧ g.Anc g' }) (fun _ => .tuple #[]) (fun g' => K W (g'.1.L ++ N)) := by
  obtain ⟨t, htm, hti, hid, hpb, htx⟩ := hB.at hk
  have ep : g.ptr k = .pointer (some ⟨t.b, 0, none⟩) := by rw [Bg.ptr, hpb]
  rw [ep]
  refine enter (args := [_, _]) Tryz.func66 rfl Tryz.ntmps66 rfl ?_
  refine c_seq ?_
  refine c_region ?_
  refine s_do (do_box rfl) rfl rfl rfl (fun b3 => ?_)
  refine s_nil ?_
  refine f_then ?_
  refine c_seq ?_
  refine c_region ?_
  refine s_y (y_load Tryz.tab rfl rfl (cell_row 0 rfl rfl)) rfl rfl rfl ?_
  refine s_y (y_nilP rfl) rfl rfl rfl ?_
  refine s_y (y_fieldAddrB Tryz.tab 2 rfl rfl rfl rfl rfl) rfl rfl rfl ?_
  refine St.cls (C' := K W (t.chunks ++ (g.fixed ++ (g.rest k ++ ([(b3, row 105 [.pointer (some ⟨t.b, 0, none⟩)])] :: N))))) ?_ (fun w h => K.foc hti (K.bckN (A := [[(b3, row 105 [.pointer (some ⟨t.b, 0, none⟩)])]]) h))
  obtain ⟨t1, ht1⟩ : ∃ t1 : Tg, t1 = { t with locks := [], lv := .slice none 0 0, lc := [] } := ⟨_, rfl⟩
  refine s_set (set_rowB Tryz.tab 0 rfl rfl rfl rfl rfl rfl) rfl rfl ?_
  refine s_nil ?_
  refine f_then ?_
  obtain ⟨g1, hg1⟩ : ∃ g1 : Bg, g1 = g.setT k t1 := ⟨_, rfl⟩
  refine SC.cls (C' := K W (g1.L ++ ([(b3, row 105 [.pointer (some ⟨t.b, 0, none⟩)])] :: N))) ?_ (fun w h => by
    rw [hg1]
    refine K.unfoc (t' := t1) (F := g.fixed) hti ?_
    rw [ht1]
    exact (h.dropAt 1).weak [] (by simp))
  have hA1 : g.Anc g1 := by rw [hg1]; exact setT_anc hti (by rw [ht1])
  have hB1 : g1.OK := by
    rw [hg1]
    refine hB.setT hti (by rw [ht1]) (by rw [ht1]) ?_
    rw [ht1]
    exact ⟨.nil, (hB.ok t htm).o, (hB.ok t htm).r⟩
  have hq1 : g1.q = g.q := by rw [hg1]; rfl
  have hbk1 : g1.bk = g.bk.setT k { g.bk.tx k with locks := [] } := by rw [hg1, setT_bk, htx, ht1]; rfl
  have ht1m : t1 ∈ g1.ts := by
    rw [hg1]
    exact List.mem_of_getElem? (i := k - 1) (by rw [setT_get hti, if_pos rfl])
  have hti1 : t1.id = k := by rw [ht1]; exact hid
  have hp1 : g1.ptr k = .pointer (some ⟨t.b, 0, none⟩) := by rw [hA1.ptr, ep]
  obtain ⟨f0, f1, f2, f3, f4, f5, fq, fl, fea, fer⟩ := hB1.bf (C := K W (g1.L ++ ([(b3, row 105 [.pointer (some ⟨t.b, 0, none⟩)])] :: N))) Hs.bk
  rw [hA1.b] at f4
  clear f0 f1 f2 f3 f5 fq fl fea fer
  refine c_seq ?_
  refine c_region ?_
  refine s_y (y_move rfl) rfl rfl rfl ?_
  refine s_y (y_move rfl) rfl rfl rfl ?_
  refine s_y (y_nilP rfl) rfl rfl rfl ?_
  refine s_y (y_fieldAddrB Tryz.tab 4 rfl rfl rfl rfl rfl) rfl rfl rfl ?_
  refine s_y (y_load Tryz.tab rfl rfl f4) rfl rfl rfl ?_
  refine s_y (y_makeFunc rfl rfl) rfl rfl rfl ?_
  refine St.cls (C' := K W (g1.qc :: g1.noQ ([(b3, row 105 [.pointer (some ⟨t.b, 0, none⟩)])] :: N))) ?_ (fun w h => h.front 4)
  refine s_call (en_f rfl Tryz.call96) (delf_spec (k := k) (bx := b3) hB1 Hs.noQ (hA1.has hk) (by rw [hp1]; exact Hs.cell (e := 105) (l := [.pointer (some ⟨t.b, 0, none⟩)]) Hs.noQX (by simp) rfl) hB1.qB hB1.qh (by rw [hq1]; have := hL.q; omega)) rfl rfl rfl (fun x => ?_)
  obtain ⟨⟨v2, c2⟩, hR2⟩ := x
  dsimp only at hR2 ⊢
  obtain ⟨q2, hq2⟩ : ∃ q2, q2 = g.q.filter fun j => !decide (j = k) := ⟨_, rfl⟩
  rw [hq1, ← hq2] at hR2
  have hq2h : ∀ j ∈ q2, g1.has j := fun j hj => hA1.has (hB.qh j (by rw [hq2] at hj; exact (List.mem_filter.1 hj).1))
  obtain ⟨g2, hg2⟩ : ∃ g2 : Bg, g2 = g1.setQ q2 v2 c2 := ⟨_, rfl⟩
  have hB2 : g2.OK := by rw [hg2]; exact hB1.setQ hR2 hq2h
  have hA2 : g1.Anc g2 := by rw [hg2]; exact ⟨rfl, rfl, rfl⟩
  refine St.cls (C' := K W (c2 :: g1.p :: [(g.b, row 96 g1.cells)] :: [(g1.ba, mobj g1.ea g1.ca)] :: [(g1.br, mobj g1.er g1.cr)] :: g1.lc :: (g1.ts.flatMap Tg.chunks ++ ([(b3, row 105 [.pointer (some ⟨t.b, 0, none⟩)])] :: N)))) ?_ (fun w h => by rw [← hA1.b]; exact h)
  refine s_y (y_nilP rfl) rfl rfl rfl ?_
  refine s_y (y_fieldAddrB Tryz.tab 4 rfl rfl rfl rfl rfl) rfl rfl rfl ?_
  refine s_set (set_row Tryz.tab 2 rfl rfl hR2.one rfl rfl (Nat.lt_of_sub_eq_succ rfl)) rfl rfl ?_
  refine s_nil ?_
  refine f_then ?_
  refine SC.cls (C' := K W (g2.L ++ ([(b3, row 105 [.pointer (some ⟨t.b, 0, none⟩)])] :: N))) ?_ (fun w h => by
    rw [← hA1.b] at h
    rw [hg2]
    exact K.bckN (A := [c2]) (B := [g1.p, [(g1.b, row 96 [g1.cv, g1.wv, .map (some g1.ba), .map (some g1.br), v2, g1.lv])], [(g1.ba, mobj g1.ea g1.ca)], [(g1.br, mobj g1.er g1.cr)]]) h)
  have ht1m2 : t1 ∈ g2.ts := by rw [hg2]; exact ht1m
  obtain ⟨f0, f1, f2, f3, f4, f5, fq, fl, fea, fer⟩ := hB2.bf (C := K W (g2.L ++ ([(b3, row 105 [.pointer (some ⟨t.b, 0, none⟩)])] :: N))) Hs.bk
  obtain ⟨e0, e1, e2, e3, e7, el, eo⟩ := hB2.tf (C := K W (g2.L ++ ([(b3, row 105 [.pointer (some ⟨t.b, 0, none⟩)])] :: N))) Hs.bk ht1m2
  have etb : t1.b = t.b := by rw [ht1]
  rw [hA2.b, hA1.b] at f3
  rw [etb, hti1] at e0
  have hbx : CellIs (K W (g2.L ++ ([(b3, row 105 [.pointer (some ⟨t.b, 0, none⟩)])] :: N))) ⟨b3, 0, none⟩ (.pointer (some ⟨t.b, 0, none⟩)) := Hs.cell (e := 105) (l := [.pointer (some ⟨t.b, 0, none⟩)]) Hs.nx (by simp) rfl
  clear f0 f1 f2 f4 f5 fq fl fea fer e1 e2 e3 e7 el eo
  refine c_seq ?_
  refine c_plan [.c 0, .c 1, .c 2, .c 3, .c 4, .c 5, .c 6, .c 7, .s 8] [8] (K W (g2.L ++ ([(b3, row 105 [.pointer (some ⟨t.b, 0, none⟩)])] :: N))) Tryz.mixed (by kernel_rfl) rfl K.cl ?_
  refine d_c rfl (Qui.ylds (y_move rfl)) rfl rfl rfl (fun _ h => h) K.cl ?_
  refine d_c rfl (Qui.ylds (y_nilP rfl)) rfl rfl rfl (fun _ h => h) K.cl ?_
  refine d_c rfl (Qui.ylds (y_fieldAddrB Tryz.tab 3 rfl rfl rfl rfl rfl)) rfl rfl rfl (fun _ h => h) K.cl ?_
  refine d_c rfl (Qui.ylds (y_load Tryz.tab rfl rfl f3)) rfl rfl rfl (fun _ h => h) K.cl ?_
  refine d_c rfl (Qui.ylds (y_load Tryz.tab rfl rfl hbx)) rfl rfl rfl (fun _ h => h) K.cl ?_
  refine d_c rfl (Qui.ylds (y_nilP rfl)) rfl rfl rfl (fun _ h => h) K.cl ?_
  refine d_c rfl (Qui.ylds (y_fieldAddr0 Tryz.tab rfl rfl rfl rfl rfl)) rfl rfl rfl (fun _ h => h) K.cl ?_
  refine d_c rfl (Qui.ylds (y_load Tryz.tab rfl rfl e0)) rfl rfl rfl (fun _ h => h) K.cl ?_
  refine d_do0 rfl (do_delete Tryz.tab 3 rfl rfl rfl rfl rfl) rfl rfl (fun _ => K.cl) (fun h => by cases h) (fun _ => ?_)
  obtain ⟨g3, hg3⟩ : ∃ g3 : Bg, g3 = g2.delR k := ⟨_, rfl⟩
  have hB3 : g3.OK := by rw [hg3]; exact hB2.delR k
  have hA3 : g.Anc g3 := hA1.trans (hA2.trans (by rw [hg3]; exact ⟨rfl, rfl, rfl⟩))
  have hbk3 : g3.bk = g.bk.off k := by
    have e1 : g3.bk = { g1.bk with q := q2, rn := g1.bk.rn.filter fun j => !decide (j = k) } := by rw [hg3, hg2]; rfl
    rw [e1, hbk1, hq2]
    rfl
  have hq3 : g3.q = q2 := by rw [hg3, hg2]; rfl
  have hv3 : g3.qv = v2 := by rw [hg3, hg2]; rfl
  have hc3 : g3.qc = c2 := by rw [hg3, hg2]; rfl
  have hlk3 : ∀ u ∈ g3.ts, u.locks.length ≤ 4096 := fun u hu => by
    rw [hg3, hg2, hg1] at hu
    rcases List.mem_or_eq_of_mem_set hu with hu | rfl
    · exact hL.lk u hu
    · rw [ht1]; exact Nat.zero_le _
  have hrn3 : g3.rn.length ≤ 64 := by
    have h1 : g3.rn = g.rn.filter fun j => !decide (j = k) := by rw [hg3, hg2, hg1]; rfl
    rw [h1]
    exact Nat.le_trans (List.length_filter_le _ _) hL.rn
  have hq2l : q2.length ≤ 64 := by rw [hq2]; exact Nat.le_trans (List.length_filter_le _ _) hL.q
  refine d_nil (Fin.cls (C' := K W (g3.L ++ ([(b3, row 105 [.pointer (some ⟨t.b, 0, none⟩)])] :: N))) ?_ (fun w h => by rw [hg3]; exact h))
  clear hB2 hA2 ht1m2 f3 e0 etb hbx hg2 hg3 hB1 hA1 hq1 hbk1 ht1m hti1 hp1 f4 hg1 ht1 hR2 hq2h
  obtain ⟨f0, f1, f2, f3, f4, f5, fq, fl, fea, fer⟩ := hB3.bf (C := K W (g3.L ++ ([(b3, row 105 [.pointer (some ⟨t.b, 0, none⟩)])] :: N))) Hs.bk
  rw [hA3.b] at f4
  clear f0 f1 f2 f3 f5 fl fea fer
  have hl2 : (ptrs g3 g3.q).length = g3.q.length := List.length_map _
  have hq3l : g3.q.length ≤ 64 := by rw [hq3]; exact hq2l
  refine f_then ?_
  refine c_seq ?_
  refine c_region ?_
  refine s_y (y_assign rfl) rfl rfl rfl ?_
  refine s_nil ?_
  refine f_then ?_
  refine c_seq ?_
  refine c_seq ?_
  refine c_region ?_
  refine s_y (y_move rfl) rfl rfl rfl ?_
  refine s_y (y_nilP rfl) rfl rfl rfl ?_
  refine s_y (y_fieldAddrB Tryz.tab 4 rfl rfl rfl rfl rfl) rfl rfl rfl ?_
  refine s_y (y_load Tryz.tab rfl rfl f4) rfl rfl rfl ?_
  refine s_y (y_lenE Tryz.tab rfl (fq) rfl) rfl rfl rfl ?_
  refine s_y (y_move rfl) rfl rfl rfl ?_
  refine s_nil ?_
  refine f_then ?_
  refine c_block ?_
  refine c_loopP (α := Nat × Bg × List Nat × Value × Chunk) (fun z => [(0, .pointer (some ⟨g.b, 0, none⟩)), (4, z.2.2.2.1), (30, g3.qv), (31, .int .i64 (ptrs g3 g3.q).length), (32, .int .i64 (z.1 : Nat))])
    (fun z => z.1 ≤ g3.q.length ∧ z.2.1.OK ∧ g3.Anc z.2.1 ∧ z.2.1.q = g3.q ∧ z.2.1.qv = g3.qv ∧ z.2.1.rn = g3.rn ∧ (∀ u ∈ z.2.1.ts, u.locks.length ≤ 4096 + z.1) ∧ (∀ j ∈ z.2.2.1, j ∈ g3.q) ∧ z.2.2.1.length ≤ z.1 ∧ BufR 105 1 z.2.2.2.1 z.2.2.2.2 (ptrs g3 z.2.2.1) ∧ g3.bk.gr g3.q [] = z.2.1.bk.gr (g3.q.drop z.1) z.2.2.1)
    (fun z => K W (z.2.2.2.2 :: (z.2.1.L ++ ([(b3, row 105 [.pointer (some ⟨t.b, 0, none⟩)])] :: N)))) (fun z => g3.q.length - z.1) (0, g3, [], .slice none 0 0, [])
    ⟨rfl, rfl, rfl, rfl, rfl, trivial⟩ ⟨Nat.zero_le _, hB3, .refl _, rfl, rfl, rfl, hlk3, fun j hj => by simp at hj, Nat.le_refl _, .nil, rfl⟩ (fun w h => h.addNil) ?_
  rintro ⟨i, g', st, sv, sc⟩ ⟨hi, hB', hA', hq', hv', hr', hlk', hst, hsl, hS, hgr⟩
  dsimp only at hi hB' hA' hq' hv' hr' hlk' hst hsl hS hgr ⊢
  have hHs : Hs (K W (sc :: (g'.L ++ ([(b3, row 105 [.pointer (some ⟨t.b, 0, none⟩)])] :: N)))) g'.L.flatten := Hs.bk.cons
  by_cases c1 : i < g3.q.length
  · obtain ⟨x, hx⟩ : ∃ x, g3.q[i]? = some x := ⟨g3.q[i], by simp [c1]⟩
    have hxq : x ∈ g3.q := List.mem_of_getElem? hx
    have hxh : g'.has x := hA'.has (hB3.qh x hxq)
    obtain ⟨u, hum, hui, hid2, hpb2, hux⟩ := hB'.at hxh
    have hcell := (hB'.bf hHs).q.cell (i := i) (x := .pointer (some ⟨u.b, 0, none⟩)) (by rw [hq']; simp [hx, Bg.ptr, hpb2])
    rw [hv'] at hcell
    have hEq : EV (K W (sc :: (g'.L ++ ([(b3, row 105 [.pointer (some ⟨t.b, 0, none⟩)])] :: N)))) g3.qv 1 (ptrs g3 g3.q) := by
      have := (hB'.bf hHs).q
      rw [hv', hq'] at this
      change EV _ _ 1 (ptrs g' g3.q) at this
      rw [hA'.ptl] at this
      exact this
    obtain ⟨e0, e1, e2, e3, e7, el, eo⟩ := hB'.tf hHs hum
    have hfree := free_b (l := u.req) (fr := st) (fv := sv) hB' ⟨fun u hu => by have := hlk' u hu; omega, by rw [hr']; omega, by rw [hq', hq3]; omega⟩ hHs (by rw [hA'.ptl]; exact hS.view (Hs.at 0 rfl)) (fun j hj => hA'.has (hB3.qh j (hst j hj))) (by omega)
    rw [hA'.b, hA3.b] at hfree
    have hdrop : g3.q.drop i = x :: g3.q.drop (i + 1) := by
      rw [List.drop_eq_getElem_cons c1]
      congr 1
      rw [List.getElem?_eq_getElem c1] at hx
      exact Option.some.inj hx
    have hreq : (g'.bk.tx x).req = u.req := by rw [hux]; rfl
    clear e0 e1 e2 e7 el eo
    refine c_seq ?_
    refine c_region ?_
    refine s_y (y_T (y_lss rfl rfl) (by omega)) rfl rfl rfl ?_
    refine s_nil ?_
    refine f_then ?_
    refine c_seq ?_
    refine c_condT rfl ?_
    refine c_skip ?_
    refine f_then ?_
    refine c_seq ?_
    refine c_block ?_
    refine c_seq ?_
    refine c_region ?_
    refine s_y (y_ixE Tryz.tab rfl rfl rfl rfl (hEq) _ rfl (by omega)) rfl rfl rfl ?_
    refine s_y (y_load Tryz.tab rfl rfl hcell) rfl rfl rfl ?_
    refine s_y (y_assign rfl) rfl rfl rfl ?_
    refine s_nil ?_
    refine f_then ?_
    refine c_seq ?_
    refine c_seq ?_
    refine c_region ?_
    refine s_y (y_move rfl) rfl rfl rfl ?_
    refine s_y (y_move rfl) rfl rfl rfl ?_
    refine s_y (y_nilP rfl) rfl rfl rfl ?_
    refine s_y (y_fieldAddrB Tryz.tab 3 rfl rfl rfl rfl rfl) rfl rfl rfl ?_
    refine s_y (y_loadA Tryz.tab rfl rfl rfl rfl e3) rfl rfl rfl ?_
    refine s_y (y_move rfl) rfl rfl rfl ?_
    refine s_call (en_f rfl Tryz.call98) hfree rfl rfl rfl (fun _ => ?_)
    have hpx : g3.ptr x = .pointer (some ⟨u.b, 0, none⟩) := by rw [← hA'.ptr, Bg.ptr, hpb2]
    cases hf : g'.bk.free u.req st with
    | false =>
      refine s_y (y_notF rfl) rfl rfl rfl ?_
      refine s_nil ?_
      refine f_then ?_
      refine c_condT rfl ?_
      refine c_seq ?_
      refine c_region ?_
      refine s_y (y_move rfl) rfl rfl rfl ?_
      refine s_y (y_move rfl) rfl rfl rfl ?_
      refine s_do (do_buildSlice1 Tryz.tab ⟨rfl, rfl, rfl, rfl⟩ rfl rfl rfl rfl) rfl rfl rfl (fun b46 => ?_)
      refine s_do (do_appendR (by_ := 8) Tryz.tab 1 rfl hS rfl ⟨rfl, rfl, rfl, rfl⟩ rfl (by simp) rfl (cells_row0 0 rfl rfl) rfl rfl (by rw [List.length_map]; omega) (by omega)) rfl rfl rfl (fun y => ?_)
      obtain ⟨⟨sv', sc'⟩, hS'⟩ := y
      dsimp only at hS' ⊢
      refine s_y (y_assign rfl) rfl rfl rfl ?_
      refine s_nil ?_
      refine f_then ?_
      refine c_exit ?_
      refine f_thenE ?_
      refine f_blockE ?_
      refine f_then ?_
      refine c_region ?_
      refine s_y (y_add rfl rfl (by omega)) rfl rfl rfl ?_
      refine s_y (y_move rfl) rfl rfl rfl ?_
      refine s_nil ?_
      exact f_roundP (i + 1, g', st ++ [x], sv', sc') ⟨c1, hB', hA', hq', hv', hr', fun u hu => by have := hlk' u hu; dsimp only; omega, fun j hj => by
        rcases List.mem_append.1 hj with hj | hj
        · exact hst j hj
        · rw [List.mem_singleton.1 hj]; exact hxq, by rw [List.length_append]; dsimp only [List.length_cons, List.length_nil]; omega, by
        rw [ptrs, List.map_append]
        rw [← hpx] at hS'
        exact hS', by
        rw [hgr, hdrop, Bk.gr, hreq, hf]
        rfl⟩ (by dsimp only; omega) ⟨rfl, rfl, rfl, rfl, rfl, trivial⟩ (fun w h => h.tail)
    | true =>
      have hOu := hB'.ok u hum
      refine s_y (y_notT rfl) rfl rfl rfl ?_
      refine s_nil ?_
      refine f_then ?_
      refine c_condF rfl ?_
      refine c_skip ?_
      refine f_then ?_
      refine c_seq ?_
      refine SC.cls (C' := K W (u.chunks ++ (g'.fixed ++ (g'.rest x ++ (sc :: [(b3, row 105 [.pointer (some ⟨t.b, 0, none⟩)])] :: N))))) ?_ (fun w h => K.foc hui (K.bckN (A := [sc]) h))
      have hrq : CellsAre (K W [[(u.b, row 113 u.cells)]]) ⟨u.b, 3, none⟩ (lkc u.req) := req_cells 0 rfl
      refine c_plan [.c 0, .c 1, .c 2, .c 3, .c 4, .c 5, .c 6, .c 7, .c 8, .s 9, .s 10, .c 11, .c 12, .s 13] [13] ((K W [[(u.b, row 113 u.cells)]])) Tryz.mixed (by kernel_rfl) rfl K.cl ?_
      refine d_c rfl (Qui.ylds (y_move rfl)) rfl rfl rfl (fun w h => h.keep 1) K.cl ?_
      refine d_c rfl (Qui.ylds (y_move rfl)) rfl rfl rfl (fun w h => h.keep 1) K.cl ?_
      refine d_c rfl (Qui.ylds (y_nilP rfl)) rfl rfl rfl (fun w h => h.keep 1) K.cl ?_
      refine d_c rfl (Qui.ylds (y_fieldAddrB Tryz.tab 2 rfl rfl rfl rfl rfl)) rfl rfl rfl (fun w h => h.keep 1) K.cl ?_
      refine d_c rfl (Qui.ylds (y_load Tryz.tab rfl rfl (cell_row 0 rfl rfl))) rfl rfl rfl (fun w h => h.keep 1) K.cl ?_
      refine d_c rfl (Qui.ylds (y_move rfl)) rfl rfl rfl (fun w h => h.keep 1) K.cl ?_
      refine d_c rfl (Qui.ylds (y_nilP rfl)) rfl rfl rfl (fun w h => h.keep 1) K.cl ?_
      refine d_c rfl (Qui.ylds (y_fieldAddrB Tryz.tab 3 rfl rfl rfl rfl rfl)) rfl rfl rfl (fun w h => h.keep 1) K.cl ?_
      refine d_c rfl (Qui.ylds (y_loadA Tryz.tab rfl rfl rfl rfl hrq)) rfl rfl rfl (fun w h => h.keep 1) K.cl ?_
      refine d_s rfl (do_buildSliceS Tryz.tab ⟨rfl, rfl, rfl, rfl⟩ rfl rfl rfl rfl) rfl rfl rfl (fun _ => K.cl) (fun _ _ _ h => h.tail.keep 1) (fun b57 => ?_)
      refine d_s rfl (do_appendR (by_ := 32) Tryz.tab 2 rfl hOu.l rfl ⟨rfl, rfl, rfl, rfl⟩ rfl (by simp) rfl (cells_row0 0 rfl rfl) rfl rfl (by rw [List.length_map]; have := hlk' u hum; omega) (by omega)) rfl rfl rfl (fun _ => K.cl) (fun _ _ _ h => h.tail.keep 1) (fun y => ?_)
      obtain ⟨⟨lv', lc'⟩, hl'⟩ := y
      dsimp only at hl' ⊢
      refine d_c rfl (Qui.ylds (y_nilP rfl)) rfl rfl rfl (fun w h => h.tail.keep 1) K.cl ?_
      refine d_c rfl (Qui.ylds (y_fieldAddrB Tryz.tab 2 rfl rfl rfl rfl rfl)) rfl rfl rfl (fun w h => h.tail.keep 1) K.cl ?_
      refine d_set rfl (set_row Tryz.tab 1 rfl rfl hl'.one rfl rfl (Nat.lt_of_sub_eq_succ rfl)) rfl rfl K.cl (fun h => by cases h) ?_
      refine d_nil ?_
      refine f_then ?_
      refine c_region ?_
      refine s_y (y_move rfl) rfl rfl rfl ?_
      refine s_y (y_move rfl) rfl rfl rfl ?_
      refine s_y (y_build Tryz.tab rfl rfl rfl rfl rfl) rfl rfl rfl ?_
      refine s_y (y_nilP rfl) rfl rfl rfl ?_
      refine s_y (y_fieldAddrB Tryz.tab 1 rfl rfl rfl rfl rfl) rfl rfl rfl ?_
      refine s_set (set_rowB Tryz.tab 1 rfl rfl rfl rfl rfl rfl) rfl rfl ?_
      refine s_y (y_nilP rfl) rfl rfl rfl ?_
      refine s_y (y_fieldAddrB Tryz.tab 3 rfl rfl rfl rfl rfl) rfl rfl rfl ?_
      refine s_set (set_aggB Tryz.tab 1 rfl rfl rfl rfl rfl rfl rfl) rfl rfl ?_
      refine s_nil ?_
      refine f_blockN ?_
      refine f_then ?_
      refine c_region ?_
      refine s_y (y_add rfl rfl (by omega)) rfl rfl rfl ?_
      refine s_y (y_move rfl) rfl rfl rfl ?_
      refine s_nil ?_
      obtain ⟨u', hu'⟩ : ∃ u' : Tg, u' = { u with st := 1, locks := u.locks ++ [u.req], req := Lk.zero, lv := lv', lc := lc' } := ⟨_, rfl⟩
      have hub : u'.b = u.b := by rw [hu']
      have huid : u'.id = u.id := by rw [hu']
      have huo : u'.OK g'.p := by
        rw [hu']
        exact ⟨hl'.of (by simp [lks, allCells, cellsL]), hOu.o, hOu.r⟩
      have hA2 := setT_anc (t' := u') hui hub
      exact f_roundP (i + 1, g'.setT x u', st, sv, sc) ⟨c1, hB'.setT hui hub huid huo, hA'.trans hA2, hq', hv', hr', fun y hy => by
        dsimp only at hy ⊢
        rcases List.mem_or_eq_of_mem_set hy with hy | rfl
        · have := hlk' y hy; omega
        · have := hlk' u hum
          rw [hu', List.length_append]
          simp only [List.length_cons, List.length_nil]
          omega, hst, by dsimp only; omega, hS, by
        rw [hgr, hdrop, Bk.gr, hreq, hf, if_pos rfl]
        congr 1
        rw [setT_bk, Bk.grant, hux, hu']
        simp [Tg.tx]⟩ (by dsimp only; omega) ⟨rfl, rfl, rfl, rfl, rfl, trivial⟩ (fun w h => by
        have h2 := h.tail
        have h3 : K W (u'.chunks ++ (g'.fixed ++ (g'.rest x ++ (sc :: [(b3, row 105 [.pointer (some ⟨t.b, 0, none⟩)])] :: N)))) w := by rw [hu']; exact h2
        exact K.bckN (A := (g'.setT x u').L) (B := [sc]) (K.unfoc hui h3))
  · obtain rfl : i = g3.q.length := by omega
    rw [List.drop_length, Bk.gr] at hgr
    refine c_seq ?_
    refine c_region ?_
    refine s_y (y_F (y_lss rfl rfl) (by omega)) rfl rfl rfl ?_
    refine s_nil ?_
    refine f_then ?_
    refine c_seq ?_
    refine c_condF rfl ?_
    refine c_exit ?_
    refine f_thenE ?_
    refine f_rndE ?_
    refine f_blockE ?_
    refine f_then ?_
    refine c_region ?_
    refine s_y (y_move rfl) rfl rfl rfl ?_
    refine s_y (y_move rfl) rfl rfl rfl ?_
    refine s_y (y_nilP rfl) rfl rfl rfl ?_
    refine s_y (y_fieldAddrB Tryz.tab 4 rfl rfl rfl rfl rfl) rfl rfl rfl ?_
    refine St.cls (C' := K W (sc :: g'.p :: [(g.b, row 96 g'.cells)] :: [(g'.ba, mobj g'.ea g'.ca)] :: [(g'.br, mobj g'.er g'.cr)] :: g'.qc :: g'.lc :: (g'.ts.flatMap Tg.chunks ++ ([(b3, row 105 [.pointer (some ⟨t.b, 0, none⟩)])] :: N)))) ?_ (fun w h => by rw [← hA3.b, ← hA'.b]; exact h)
    skip
    refine s_set (set_row Tryz.tab 2 rfl rfl hS.one rfl rfl (Nat.lt_of_sub_eq_succ rfl)) rfl rfl ?_
    refine s_nil ?_
    refine f_end ⟨g'.setQ st sv sc, hB'.setQ (by
      change BufR 105 1 sv sc (ptrs g' st)
      rw [hA'.ptl]; exact hS) (fun j hj => hA'.has (hB3.qh j (hst j hj))), ?_, hA3.trans (hA'.trans ⟨rfl, rfl, rfl⟩)⟩ (res0 rfl) (fun w h => ?_)
    · have hq : (g.bk.off k).q = g3.q := by rw [← hbk3]; rfl
      rw [Bk.release, hq, ← hbk3, hgr]
      rfl
    · have h2 := h.dropAt 5
      have h3 : K W ([sc] ++ ([g'.p, [(g.b, row 96 [g'.cv, g'.wv, .map (some g'.ba), .map (some g'.br), sv, g'.lv])], [(g'.ba, mobj g'.ea g'.ca)], [(g'.br, mobj g'.er g'.cr)]] ++ (g'.lc :: (g'.ts.flatMap Tg.chunks ++ ([(b3, row 105 [.pointer (some ⟨t.b, 0, none⟩)])] :: N))))) w := h2
      have h4 := K.bckN h3
      rw [← hA3.b, ← hA'.b] at h4
      exact (K.bckN (A := (g'.setQ st sv sc).L) (B := [[(b3, row 105 [.pointer (some ⟨t.b, 0, none⟩)])]]) h4).tail
end Go.KL
end

section
/- Walks: Backward, abort. -/
namespace Go.KL
open Go.Proofs
/-- What a caller makes of the operations, the last first. -/
structure Bw (l b1 : Nat) (ov : Value) (os : List Ov) (Z : Type) (C : Z → World → Prop) (G : Nat → Z → Prop) : Prop where
  box : ∀ z, CellIs (C z) ⟨b1, 0, none⟩ ov
  view : ∀ z, EV (C z) ov 6 (opl os)
  yield : ∀ (n : Nat) (z : Z) (x : Ov), G (n + 1) z → os[n]? = some x → YSpec Tryz.prog l #[.int .i64 (n : Nat), .agg (opc x.1 x.2).toArray] (C z) (X := { z' : Z // G n z' }) (fun _ => .bool true) (fun z' => C z'.1)
theorem opl_get {os : List Ov} {i : Nat} {x : Ov} (h : os[i]? = some x) : (opl os)[i]? = some (opc x.1 x.2) := by simp [h]
theorem un_drop {W : Nat → Nat} {os : List Ov} {n : Nat} {x : Ov} (h : os[n]? = some x) : un W ((ops os).drop n) = if x.1.mv then setf (un W ((ops os).drop (n + 1))) x.1.lo x.1.hi x.1.fr else un W ((ops os).drop (n + 1)) := by
  have hlt := (List.getElem?_eq_some_iff.1 h).1
  have e : (ops os).drop n = x.1 :: (ops os).drop (n + 1) := by
    rw [List.drop_eq_getElem_cons (by simpa using hlt)]
    congr 1
    rw [List.getElem?_eq_getElem hlt] at h
    simp [Option.some.inj h]
  rw [e]
  rfl
theorem opc_one {o : Oa} {rv : Value} (h : rv.oneCell' = true) : (opc o rv).all Value.oneCell' = true := by
  simp only [opc, List.all_cons, List.all_nil, h]
  rfl
/-- What the walk through the undoing asks. -/
structure UnOK (size : Nat) (W : Nat → Nat) (os : List Ov) : Prop where
  rng : ∀ x ∈ os, x.1.mv = true → x.1.lo ≤ x.1.hi ∧ x.1.hi ≤ size ∧ x.1.fr < 16
  nb : ∀ n, nbd (un W ((ops os).drop n)) size ≤ 4096
attribute [local irreducible] SC St Fin Sq Ylds Doos Sets Enters Spec CellIs CellsAre Then Ret Rnd Chn resOK ints bools recs arr
set_option maxRecDepth 10000 in
set_option maxHeartbeats 4000000 in
theorem backw_spec {l b1 : Nat} {ov : Value} {os : List Ov} {Z : Type} {C : Z → World → Prop} {G : Nat → Z → Prop} {z0 : Z} (hV : Bw l b1 ov os Z C G) (hG : G os.length z0) (hl : os.length < 1000000) :
    Spec Tryz.prog 119 #[.func (.yield l) #[] #[], .pointer (some ⟨b1, 0, none⟩)] (C z0) (X := { z' : Z // G 0 z' }) (fun _ => .tuple #[]) (fun z' => C z'.1) := by
  have hl2 : (opl os).length = os.length := List.length_map _
  have hb0 := hV.box z0
  have hv0 := hV.view z0
  refine enter (args := [_, _]) Tryz.func119 rfl Tryz.ntmps119 rfl ?_
  refine c_seq ?_
  refine c_region ?_
  refine s_y (y_load Tryz.tab rfl rfl hb0) rfl rfl rfl ?_
  refine s_y (y_lenE Tryz.tab rfl (hv0) rfl) rfl rfl rfl ?_
  refine s_y (y_sub rfl rfl (by omega)) rfl rfl rfl ?_
  refine s_y (y_assign rfl) rfl rfl rfl ?_
  refine s_nil ?_
  refine f_then ?_
  refine c_block ?_
  refine c_loopP (α := Nat × Z) (fun z => [(0, .func (.yield l) #[] #[]), (1, .pointer (some ⟨b1, 0, none⟩)), (3, .int .i64 ((z.1 : Int) - 1))]) (fun z => z.1 ≤ os.length ∧ G z.1 z.2) (fun z => C z.2) (fun z => z.1) (os.length, z0)
    ⟨rfl, rfl, congrArg (fun z => some (Value.int .i64 z)) (by dsimp only; omega), trivial⟩ ⟨Nat.le_refl _, hG⟩ (fun w h => h) ?_
  rintro ⟨n, z⟩ ⟨hn, hGz⟩
  dsimp only at hn hGz ⊢
  clear hb0 hv0
  have hb1 := hV.box z
  have hv1 := hV.view z
  cases n with
  | zero =>
    refine c_seq ?_
    refine c_seq ?_
    refine c_region ?_
    refine s_y (y_move rfl) rfl rfl rfl ?_
    refine s_y (y_F (y_geq rfl rfl) (by omega)) rfl rfl rfl ?_
    refine s_nil ?_
    refine f_then ?_
    refine c_condF rfl ?_
    refine c_exit ?_
    refine f_thenE ?_
    refine f_rndE ?_
    refine f_blockE ?_
    exact f_end ⟨z, hGz⟩ (res0 rfl) (fun w h => h)
  | succ n =>
    obtain ⟨x, hx⟩ : ∃ x, os[n]? = some x := ⟨os[n], by simp [show n < os.length by omega]⟩
    have hcx := hv1.row (opl_get hx)
    have hy := hV.yield n z x hGz hx
    have en : ((n + 1 : Nat) : Int) - 1 = (n : Int) := by omega
    rw [en]
    refine c_seq ?_
    refine c_seq ?_
    refine c_region ?_
    refine s_y (y_move rfl) rfl rfl rfl ?_
    refine s_y (y_T (y_geq rfl rfl) (by omega)) rfl rfl rfl ?_
    refine s_nil ?_
    refine f_then ?_
    refine c_condT rfl ?_
    refine c_skip ?_
    refine f_then ?_
    refine c_seq ?_
    refine c_block ?_
    refine c_seq ?_
    refine c_region ?_
    refine s_y (y_move rfl) rfl rfl rfl ?_
    refine s_y (y_move rfl) rfl rfl rfl ?_
    refine s_y (y_load Tryz.tab rfl rfl hb1) rfl rfl rfl ?_
    refine s_y (y_move rfl) rfl rfl rfl ?_
    refine s_y (y_ixE Tryz.tab rfl rfl rfl rfl (hv1) _ rfl (by omega)) rfl rfl rfl ?_
    refine s_y (y_loadA Tryz.tab rfl rfl rfl rfl hcx) rfl rfl rfl ?_
    refine s_yield (en_y rfl rfl) hy rfl rfl rfl (fun z' => ?_)
    obtain ⟨z', hG'⟩ := z'
    dsimp only
    refine s_y (y_notT rfl) rfl rfl rfl ?_
    refine s_nil ?_
    refine f_then ?_
    refine c_condF rfl ?_
    refine c_skip ?_
    refine f_blockN ?_
    refine f_then ?_
    refine c_region ?_
    refine s_y (y_move rfl) rfl rfl rfl ?_
    refine s_y (y_sub rfl rfl (by omega)) rfl rfl rfl ?_
    refine s_y (y_assign rfl) rfl rfl rfl ?_
    refine s_nil ?_
    exact f_roundP (n, z') ⟨by dsimp only; omega, hG'⟩ (by dsimp only; omega) ⟨rfl, rfl, rfl, trivial⟩ (fun w h => h)
set_option maxRecDepth 10000 in
theorem backward_spec {W : World} {Ls : List Chunk} {v : Value} : Spec Tryz.prog 99 #[v] (K W Ls) (X := Nat) (fun b => .func (.func 119) #[] #[.pointer (some ⟨b, 0, none⟩)]) (fun b => K W ([(b, row 56 v.cells.toList)] :: Ls)) := by
  refine enter (args := [_]) Tryz.func99 rfl Tryz.ntmps99 rfl ?_
  refine c_seq ?_
  refine c_region ?_
  refine s_do (do_box rfl) rfl rfl rfl (fun b1 => ?_)
  refine s_y (y_assign rfl) rfl rfl rfl ?_
  refine s_nil ?_
  refine f_then ?_
  refine c_seq ?_
  refine c_region ?_
  refine s_y (y_makeFunc rfl rfl) rfl rfl rfl ?_
  refine s_y (y_assign rfl) rfl rfl rfl ?_
  refine s_nil ?_
  refine f_then ?_
  refine c_ret ?_
  exact f_ret b1 (res1 rfl rfl) (fun w h => h)
set_option maxRecDepth 10000 in
set_option maxHeartbeats 16000000 in
theorem abort_spec {g : Bg} {W : World} {N : List Chunk} {k : Nat} {t : Tg} (hB : g.OK) (hL : Lm g) (hk : g.has k) (hti : g.ts[k - 1]? = some t) (hU : UnOK g.size g.W t.os) (hol : t.os.length < 1000000) :
    Spec Tryz.prog 67 #[.pointer (some ⟨g.b, 0, none⟩), g.ptr k] (K W (g.L ++ N)) (X := { g' : Bg // g'.OK ∧ g'.bk = g.bk.abort k ∧ g.Anc g' }) (fun _ => .tuple #[]) (fun g' => K W (g'.1.L ++ N)) := by
  have htm : t ∈ g.ts := List.mem_of_getElem? hti
  obtain ⟨t', _, hti', hid, hpb, htx⟩ := hB.at hk
  obtain rfl : t' = t := by rw [hti] at hti'; exact (Option.some.inj hti').symm
  clear hti'
  have ep : g.ptr k = .pointer (some ⟨t'.b, 0, none⟩) := by rw [Bg.ptr, hpb]
  have hOt := hB.ok t' htm
  rw [ep]
  refine enter (args := [_, _]) Tryz.func67 rfl Tryz.ntmps67 rfl ?_
  obtain ⟨e0, e1, e2, e3, e7, el, eo⟩ := hB.tf (C := K W (g.L ++ N)) Hs.bk htm
  clear e0 e1 e2 e3 el eo
  refine c_seq ?_
  refine c_region ?_
  refine s_do (do_box rfl) rfl rfl rfl (fun b2 => ?_)
  refine s_nil ?_
  refine f_then ?_
  refine c_seq ?_
  refine c_seq ?_
  refine c_region ?_
  refine s_y (y_move rfl) rfl rfl rfl ?_
  refine s_y (y_nilP rfl) rfl rfl rfl ?_
  refine s_y (y_fieldAddrB Tryz.tab 7 rfl rfl rfl rfl rfl) rfl rfl rfl ?_
  refine s_y (y_load Tryz.tab rfl rfl e7.cons) rfl rfl rfl ?_
  refine s_call (en_f rfl Tryz.call99) backward_spec rfl rfl rfl (fun b1 => ?_)
  refine s_nil ?_
  refine f_then ?_
  refine c_block ?_
  have eov : t'.ov.cells.toList = [t'.ov] := by rw [cells_one hOt.o.one]
  refine SC.cls (C' := K W ([(b1, row 56 [t'.ov])] :: [(b2, row 33 [.pointer (some ⟨g.b, 0, none⟩)])] :: ((g.setW g.p g.wv g.W).L ++ N))) ?_ (fun w h => by rw [eov] at h; exact h)
  refine c_rangeF (X := { x : Chunk × Value // Sub g.p x.1 ∧ MV x.1 x.2 g.size (un g.W ((ops t'.os).drop 0)) }) (fun _ => .tuple #[]) (fun _ => none) (fun x => [(b1, row 56 [t'.ov])] :: [(b2, row 33 [.pointer (some ⟨g.b, 0, none⟩)])] :: ((g.setW x.1.1 x.1.2 g.W).L ++ N)) (by rw [r_inB, r_then, r_ret]) rfl Tryz.call119 (fun kk l D hps has hbd hE => ?_) (fun x D hj => ?_) (fun x D cc hj => ?_)
  · have hV : Bw l b1 t'.ov t'.os (Chunk × Value) (fun z => K W ([(l, kk.rdy)] :: [(D, dfO)] :: [(b1, row 56 [t'.ov])] :: [(b2, row 33 [.pointer (some ⟨g.b, 0, none⟩)])] :: ((g.setW z.1 z.2 g.W).L ++ N))) (fun n z => Sub g.p z.1 ∧ MV z.1 z.2 g.size (un g.W ((ops t'.os).drop n))) := by
      refine ⟨fun z => cell_row 2 rfl rfl, fun z => hOt.o.view ?_, fun n z x hG hx => ?_⟩
      · refine Hs.cls (C := K W ((g.setW z.1 z.2 g.W).L ++ N)) ?_ (fun w h => h.tail.tail.tail.tail)
        exact Hs.sub (c := (g.setW z.1 z.2 g.W).L.flatten) Hs.bk fun e he => Bg.mem_ts (g := g.setW z.1 z.2 g.W) (c := t'.oc) htm (by simp) he
      · obtain ⟨p, wv⟩ := z
        obtain ⟨hS, hM⟩ := hG
        dsimp only at hS hM
        refine yspec 0 hE hps rfl rfl rfl ?_
        rw [has, hbd]
        have hrv := (hOt.r x (List.mem_of_getElem? hx)).one
        refine c_region ?_
        refine s_do (do_alloc Tryz.tab rfl) rfl rfl rfl (fun b5 => ?_)
        refine s_set (set_box Tryz.tab 0 rfl rfl (opc_one hrv) rfl rfl rfl rfl) rfl rfl ?_
        refine s_nil ?_
        refine f_beg 1 rfl ?_
        have hstep := un_drop (W := g.W) hx
        cases hmv : x.1.mv with
        | false =>
          rw [hmv, if_neg (by decide)] at hstep
          refine c_block ?_
          refine c_seq ?_
          refine c_region ?_
          refine s_y (y_fieldAddr0 Tryz.tab rfl rfl rfl rfl rfl) rfl rfl rfl ?_
          refine s_y (y_load Tryz.tab rfl rfl (cell_row 0 rfl rfl)) rfl rfl rfl ?_
          refine s_nil ?_
          refine f_then ?_
          refine c_condF (congrArg (fun b => some (Value.bool b)) hmv) ?_
          refine c_skip ?_
          refine f_blockN ?_
          exact f_rpN 1 ⟨(p, wv), hS, by rw [hstep]; exact hM⟩ rfl rfl (fun w h => h.tail)
        | true =>
          rw [hmv, if_pos rfl] at hstep
          obtain ⟨r1, r2, r3⟩ := hU.rng x (List.mem_of_getElem? hx) hmv
          have hnb := hU.nb n
          rw [hstep] at hnb
          refine c_block ?_
          refine c_seq ?_
          refine c_region ?_
          refine s_y (y_fieldAddr0 Tryz.tab rfl rfl rfl rfl rfl) rfl rfl rfl ?_
          refine s_y (y_load Tryz.tab rfl rfl (cell_row 0 rfl rfl)) rfl rfl rfl ?_
          refine s_nil ?_
          refine f_then ?_
          refine c_condT (congrArg (fun b => some (Value.bool b)) hmv) ?_
          refine SC.cls (C' := K W (p :: [(b2, row 33 [.pointer (some ⟨g.b, 0, none⟩)])] :: [(b5, row 60 (opc x.1 x.2))] :: [(l, kk.bsy)] :: [(D, dfO)] :: [(b1, row 56 [t'.ov])] :: [(g.b, row 96 [g.cv, wv, .map (some g.ba), .map (some g.br), g.qv, g.lv])] :: [(g.ba, mobj g.ea g.ca)] :: [(g.br, mobj g.er g.cr)] :: g.qc :: g.lc :: (g.ts.flatMap Tg.chunks ++ N))) ?_ (fun w h => ((h.front 5).front 5).front 1)
          have hwc : CellsAre (K W (p :: [(b2, row 33 [.pointer (some ⟨g.b, 0, none⟩)])] :: [(b5, row 60 (opc x.1 x.2))] :: [(l, kk.bsy)] :: [(D, dfO)] :: [(b1, row 56 [t'.ov])] :: [(g.b, row 96 [g.cv, wv, .map (some g.ba), .map (some g.br), g.qv, g.lv])] :: [(g.ba, mobj g.ea g.ca)] :: [(g.br, mobj g.er g.cr)] :: g.qc :: g.lc :: (g.ts.flatMap Tg.chunks ++ N))) ⟨g.b, 1, none⟩ [wv] := CellsAre.one (cell_row 6 rfl rfl)
          have hD := fun (w : World) (h : K W (p :: [(b2, row 33 [.pointer (some ⟨g.b, 0, none⟩)])] :: [(b5, row 60 (opc x.1 x.2))] :: [(l, kk.bsy)] :: [(D, dfO)] :: [(b1, row 56 [t'.ov])] :: [(g.b, row 96 [g.cv, wv, .map (some g.ba), .map (some g.br), g.qv, g.lv])] :: [(g.ba, mobj g.ea g.ca)] :: [(g.br, mobj g.er g.cr)] :: g.qc :: g.lc :: (g.ts.flatMap Tg.chunks ++ N)) w) => h.tail.keep 2
          refine c_plan [.c 0, .c 1, .c 2, .c 3, .c 5, .c 6, .c 7, .c 8, .c 9, .c 10, .s 4, .s 11, .s 12, .c 14, .c 13, .c 15, .c 16, .s 17] [] (K W [[(b2, row 33 [.pointer (some ⟨g.b, 0, none⟩)])], [(b5, row 60 (opc x.1 x.2))]]) Tryz.mixed (by kernel_rfl) rfl K.cl ?_
          refine d_c rfl (Qui.ylds (y_load Tryz.tab rfl rfl (cell_row 0 rfl rfl))) rfl rfl rfl hD K.cl ?_
          refine d_c rfl (Qui.ylds (y_load Tryz.tab rfl rfl (cell_row 0 rfl rfl))) rfl rfl rfl hD K.cl ?_
          refine d_c rfl (Qui.ylds (y_nilP rfl)) rfl rfl rfl hD K.cl ?_
          refine d_c rfl (Qui.ylds (y_fieldAddrB Tryz.tab 1 rfl rfl rfl rfl rfl)) rfl rfl rfl hD K.cl ?_
          refine d_c rfl (Qui.ylds (y_fieldAddrB Tryz.tab 1 rfl rfl rfl rfl rfl)) rfl rfl rfl hD K.cl ?_
          refine d_c rfl (Qui.ylds (y_load Tryz.tab rfl rfl (cell_row 1 rfl rfl))) rfl rfl rfl hD K.cl ?_
          refine d_c rfl (Qui.ylds (y_fieldAddrB Tryz.tab 2 rfl rfl rfl rfl rfl)) rfl rfl rfl hD K.cl ?_
          refine d_c rfl (Qui.ylds (y_load Tryz.tab rfl rfl (cell_row 1 rfl rfl))) rfl rfl rfl hD K.cl ?_
          refine d_c rfl (Qui.ylds (y_fieldAddrB Tryz.tab 3 rfl rfl rfl rfl rfl)) rfl rfl rfl hD K.cl ?_
          refine d_c rfl (Qui.ylds (y_load Tryz.tab rfl rfl (cell_row 1 rfl rfl))) rfl rfl rfl hD K.cl ?_
          refine d_sy rfl (y_loadA Tryz.tab rfl rfl rfl rfl hwc) rfl rfl rfl K.cl (fun _ => hD) ?_
          refine d_call rfl (en_f rfl Tryz.call65) (mset_spec hM r1 r2 r3 hnb) rfl rfl rfl (fun _ => K.cl) (fun _ _ _ h => h.tail.keep 2) (fun y => ?_)
          obtain ⟨⟨p', wv'⟩, hS', hM'⟩ := y
          dsimp only at hS' hM' ⊢
          obtain ⟨a, rfl⟩ := hM'.ptr
          have hD1 := fun (w : World) (h : K W (p' :: [(b2, row 33 [.pointer (some ⟨g.b, 0, none⟩)])] :: [(b5, row 60 (opc x.1 x.2))] :: [(l, kk.bsy)] :: [(D, dfO)] :: [(b1, row 56 [t'.ov])] :: [(g.b, row 96 [g.cv, wv, .map (some g.ba), .map (some g.br), g.qv, g.lv])] :: [(g.ba, mobj g.ea g.ca)] :: [(g.br, mobj g.er g.cr)] :: g.qc :: g.lc :: (g.ts.flatMap Tg.chunks ++ N)) w) => h.tail.keep 2
          refine d_sy rfl (y_move rfl) rfl rfl rfl K.cl (fun _ => hD1) ?_
          refine d_c rfl (Qui.ylds (y_extract rfl rfl)) rfl rfl rfl hD1 K.cl ?_
          refine d_c rfl (Qui.ylds (y_extract rfl rfl)) rfl rfl rfl hD1 K.cl ?_
          refine d_c rfl (Qui.ylds (y_nilP rfl)) rfl rfl rfl hD1 K.cl ?_
          refine d_c rfl (Qui.ylds (y_fieldAddrB Tryz.tab 1 rfl rfl rfl rfl rfl)) rfl rfl rfl hD1 K.cl ?_
          refine d_set rfl (set_aggB Tryz.tab 6 rfl rfl rfl rfl rfl rfl rfl) rfl rfl K.cl (fun _ _ h => h.tail.keep 2) ?_
          refine d_nil ?_
          refine f_blockN ?_
          exact f_rpN 3 ⟨(p', .pointer (some a)), hS.trans hS', by rw [hstep]; exact hM'⟩ rfl rfl (fun w h => K.bckN (A := [[(b2, row 33 [.pointer (some ⟨g.b, 0, none⟩)])], p']) (B := [[(l, kk.rdy)], [(D, dfO)], [(b1, row 56 [t'.ov])]]) ((h.dropAt 2).front 1))
    exact (backw_spec hV (z0 := (g.p, g.wv)) ⟨.refl _, by rw [List.drop_eq_nil_of_le (by simp)]; exact hB.mW⟩ hol).conv (fun z => ⟨z.1, z.2⟩) (fun _ => rfl) (fun _ _ h => h)
  · obtain ⟨⟨p, wv⟩, hS, hM⟩ := x
    dsimp only at hS hM ⊢
    rw [List.drop_zero] at hM
    obtain ⟨g1, hg1⟩ : ∃ g1 : Bg, g1 = g.setW p wv (un g.W (ops t'.os)) := ⟨_, rfl⟩
    have hB1 : g1.OK := by rw [hg1]; exact hB.setW hS hM
    have hA1 : g.Anc g1 := by rw [hg1]; exact ⟨rfl, rfl, rfl⟩
    have hti1 : g1.ts[k - 1]? = some t' := by rw [hg1]; exact hti
    refine f_blockN ?_
    refine f_then ?_
    refine c_seq ?_
    refine c_region ?_
    refine s_y (y_move rfl) rfl rfl rfl ?_
    refine s_y (y_move rfl) rfl rfl rfl ?_
    refine s_y (y_move rfl) rfl rfl rfl ?_
    refine s_y (y_build Tryz.tab rfl rfl rfl rfl rfl) rfl rfl rfl ?_
    refine s_y (y_nilP rfl) rfl rfl rfl ?_
    refine s_y (y_fieldAddrB Tryz.tab 1 rfl rfl rfl rfl rfl) rfl rfl rfl ?_
    refine St.cls (C' := K W (t'.chunks ++ (g1.fixed ++ (g1.rest k ++ ([(D, dfO)] :: [(b1, row 56 [t'.ov])] :: [(b2, row 33 [.pointer (some ⟨g.b, 0, none⟩)])] :: N))))) ?_ (fun w h => K.foc hti1 (by rw [hg1]; exact K.bckN (A := [[(D, dfO)], [(b1, row 56 [t'.ov])], [(b2, row 33 [.pointer (some ⟨g.b, 0, none⟩)])]]) h))
    obtain ⟨t2, ht2⟩ : ∃ t2 : Tg, t2 = { t' with st := 4, os := [], ov := .slice none 0 0, oc := [], req := Lk.zero } := ⟨_, rfl⟩
    refine s_set (set_rowB Tryz.tab 0 rfl rfl rfl rfl rfl rfl) rfl rfl ?_
    refine s_y (y_nilP rfl) rfl rfl rfl ?_
    refine s_y (y_fieldAddrB Tryz.tab 7 rfl rfl rfl rfl rfl) rfl rfl rfl ?_
    refine s_set (set_rowB Tryz.tab 0 rfl rfl rfl rfl rfl rfl) rfl rfl ?_
    refine s_y (y_nilP rfl) rfl rfl rfl ?_
    refine s_y (y_fieldAddrB Tryz.tab 3 rfl rfl rfl rfl rfl) rfl rfl rfl ?_
    refine s_set (set_aggB Tryz.tab 0 rfl rfl rfl rfl rfl rfl rfl) rfl rfl ?_
    refine s_nil ?_
    refine f_then ?_
    refine c_region ?_
    obtain ⟨g2, hg2⟩ : ∃ g2 : Bg, g2 = g1.setT k t2 := ⟨_, rfl⟩
    have h2b : t2.b = t'.b := by rw [ht2]
    have hB2 : g2.OK := by
      rw [hg2]
      refine hB1.setT hti1 h2b (by rw [ht2]) ?_
      rw [ht2]
      exact ⟨(hB1.ok t' (List.mem_of_getElem? hti1)).l, .nil, .nil⟩
    have hA2 : g1.Anc g2 := by rw [hg2]; exact setT_anc hti1 h2b
    refine St.cls (C' := K W (g2.L ++ ([(D, dfO)] :: [(b1, row 56 [t'.ov])] :: [(b2, row 33 [.pointer (some ⟨g.b, 0, none⟩)])] :: N))) ?_ (fun w h => by
      rw [hg2]
      refine K.unfoc (t' := t2) (F := g1.fixed) hti1 ?_
      have h3 : K W ([(t2.b, row 113 t2.cells)] :: t2.lc :: t'.oc :: (g1.fixed ++ (g1.rest k ++ ([(D, dfO)] :: [(b1, row 56 [t'.ov])] :: [(b2, row 33 [.pointer (some ⟨g.b, 0, none⟩)])] :: N)))) w := by rw [ht2]; exact h
      have e1 : t2.oc = [] := by rw [ht2]
      exact (h3.dropAt 2).weak [] (by simp [e1]))
    have hbx : CellIs (K W (g2.L ++ ([(D, dfO)] :: [(b1, row 56 [t'.ov])] :: [(b2, row 33 [.pointer (some ⟨g.b, 0, none⟩)])] :: N))) ⟨b2, 0, none⟩ (.pointer (some ⟨g.b, 0, none⟩)) := by
      refine CellIs.cls (C' := K W [[(b2, row 33 [.pointer (some ⟨g.b, 0, none⟩)])]]) (cell_row 0 rfl rfl) (fun w h => ?_)
      exact (K.bckN (A := g2.L ++ [[(D, dfO)], [(b1, row 56 [t'.ov])]]) (B := [[(b2, row 33 [.pointer (some ⟨g.b, 0, none⟩)])]]) (by simpa using h)).keep 1
    have hrel := release_spec (W := W) (N := [(D, dfO)] :: [(b1, row 56 [t'.ov])] :: [(b2, row 33 [.pointer (some ⟨g.b, 0, none⟩)])] :: N) (k := k) hB2 ⟨fun u hu => ?_, by rw [hg2, hg1]; exact hL.rn, by rw [hg2, hg1]; exact hL.q⟩ (hA2.has (hA1.has hk))
    rw [hA2.ptr, hA1.ptr, ep, hA2.b, hA1.b] at hrel
    refine s_y (y_load Tryz.tab rfl rfl hbx) rfl rfl rfl ?_
    refine s_y (y_move rfl) rfl rfl rfl ?_
    refine s_call (en_f rfl Tryz.call66) hrel rfl rfl rfl (fun y => ?_)
    obtain ⟨g3, hB3, hbk3, hA3⟩ := y
    dsimp only
    refine s_nil ?_
    refine Fin.cls (C' := K W ([(D, dfO)] :: (g3.L ++ ([(b1, row 56 [t'.ov])] :: [(b2, row 33 [.pointer (some ⟨g.b, 0, none⟩)])] :: N)))) ?_ (fun w h => K.bckN (A := g3.L) (B := [[(D, dfO)]]) h)
    refine f_endM (v := fun _ : { g' : Bg // g'.OK ∧ g'.bk = g.bk.abort k ∧ g.Anc g' } => .tuple #[]) (C' := fun g' => K W (g'.1.L ++ N)) ⟨g3, hB3, ?_, hA1.trans (hA2.trans hA3)⟩ [D] (res0 rfl) rfl (fun w h => (K.bckN (A := g3.L) (B := [[(b1, row 56 [t'.ov])], [(b2, row 33 [.pointer (some ⟨g.b, 0, none⟩)])]]) h).tail.tail) rfl
    rw [hbk3, hg2, setT_bk, hg1, Bk.abort, htx, ht2]
    rfl
    rw [hg2, hg1] at hu
    rcases List.mem_or_eq_of_mem_set hu with hu | rfl
    · exact hL.lk u hu
    · rw [ht2]; exact hL.lk t' htm
  · cases hj
end Go.KL
end

section
/- What the walks ask of a book; plain. No program in sight. -/
namespace Go.KL
namespace Bk
/-- What the walks ask of a book. -/
structure Good (A : Bk) : Prop where
  rn : A.rn.length ≤ 64
  q : A.q.length ≤ 64
  w : ∀ k, A.has k → (A.tx k).st = 2 → k ∈ A.q
  lk : ∀ t ∈ A.ts, t.locks.length ≤ 4096 ∧ ∀ x ∈ t.locks, x.lo ≤ 1099511627776
  ol : ∀ t ∈ A.ts, t.ops.length < 100000
  un : ∀ t ∈ A.ts, (∀ o ∈ t.ops, o.mv = true → o.lo ≤ o.hi ∧ o.hi ≤ A.size ∧ o.fr < 16) ∧ ∀ n, nbd (un A.W (t.ops.drop n)) A.size ≤ 4096
theorem gr_rn : ∀ (l : List Nat) (A : Bk) (st : List Nat), (gr A l st).1.rn = A.rn
  | [], _, _ => rfl
  | k :: l, A, st => by
    rw [gr]
    split
    · rw [gr_rn l]; rfl
    · rw [gr_rn l]
theorem gr_len : ∀ (l : List Nat) (A : Bk) (st : List Nat), (gr A l st).2.length ≤ st.length + l.length
  | [], _, st => Nat.le_refl _
  | k :: l, A, st => by
    rw [gr]
    split
    · have := gr_len l (A.grant k) st
      simp only [List.length_cons]
      omega
    · have := gr_len l A (st ++ [k])
      simp only [List.length_append, List.length_cons, List.length_nil] at this ⊢
      omega
theorem filter_lt {l : List Nat} {k : Nat} (h : k ∈ l) : (l.filter fun j => !decide (j = k)).length < l.length := by
  have h1 := List.length_filter_le (fun j => !decide (j = k)) l
  by_cases c : (l.filter fun j => !decide (j = k)).length = l.length
  · have := List.length_filter_eq_length_iff.1 c k h
    simp at this
  · omega
/-- Ending a transaction lets the book shrink. -/
theorem release_less {A : Bk} {k : Nat} (h : k ∈ A.rn ∨ k ∈ A.q) : (A.release k).rn.length + (A.release k).q.length < A.rn.length + A.q.length := by
  have h1 : (A.release k).rn = A.rn.filter fun j => !decide (j = k) := by rw [release]; exact gr_rn _ _ _
  have h2 : (A.release k).q.length ≤ (A.q.filter fun j => !decide (j = k)).length := by
    have := gr_len (A.off k).q (A.off k) []
    simp only [List.length_nil, Nat.zero_add] at this
    exact this
  have h3 := List.length_filter_le (fun j => !decide (j = k)) A.rn
  have h4 := List.length_filter_le (fun j => !decide (j = k)) A.q
  rw [h1]
  rcases h with h | h
  · have := filter_lt h; omega
  · have := filter_lt h; omega
theorem abort_less {A : Bk} {k : Nat} (h : k ∈ A.rn ∨ k ∈ A.q) : (A.abort k).rn.length + (A.abort k).q.length < A.rn.length + A.q.length := release_less (A := { A.setT k ⟨4, (A.tx k).locks, Lk.zero, []⟩ with W := KL.un A.W (A.tx k).ops }) h
theorem sum_perm {f : Nat → Nat} {l m : List Nat} (h : l.Perm m) : (l.map f).sum = (m.map f).sum := (h.map f).sum_nat
theorem sum_take {f : Nat → Nat} {l : List Nat} {i x : Nat} (h : l[i]? = some x) : ((l.take (i + 1)).map f).sum = ((l.take i).map f).sum + f x := by
  rw [List.take_add_one, h]
  simp
end Bk
end Go.KL
end

section
/- Walks: obtain. -/
namespace Go.KL
open Go.Proofs
theorem Bg.has_bk {g : Bg} {k : Nat} : g.bk.has k ↔ g.has k := by
  unfold Bk.has Bg.has Bg.bk
  simp
theorem good_lm {g : Bg} (h : g.bk.Good) : Lm g := ⟨fun t ht => (h.lk t.tx (List.mem_map.2 ⟨t, ht, rfl⟩)).1, h.rn, h.q⟩
theorem good_few {g : Bg} (h : g.bk.Good) : Few g :=
  ⟨⟨fun t ht => by have := (h.lk t.tx (List.mem_map.2 ⟨t, ht, rfl⟩)).1; exact Nat.le_trans this (by omega), by have := h.rn; simp only [Bg.bk] at this; omega, by have := h.q; simp only [Bg.bk] at this; omega⟩, h.rn, h.q, fun k hk hs => h.w k (Bg.has_bk.2 hk) hs⟩
theorem good_un {g : Bg} (h : g.bk.Good) {t : Tg} (ht : t ∈ g.ts) : UnOK g.size g.W t.os :=
  ⟨fun x hx => (h.un t.tx (List.mem_map.2 ⟨t, ht, rfl⟩)).1 x.1 (List.mem_map.2 ⟨x, hx, rfl⟩), (h.un t.tx (List.mem_map.2 ⟨t, ht, rfl⟩)).2⟩
theorem good_ol {g : Bg} (h : g.bk.Good) {t : Tg} (ht : t ∈ g.ts) : t.os.length < 1000000 := by
  have := h.ol t.tx (List.mem_map.2 ⟨t, ht, rfl⟩)
  simp only [Tg.tx, List.length_map] at this
  omega
theorem good_lo {g : Bg} (h : g.bk.Good) {t : Tg} (ht : t ∈ g.ts) : t.locks.length ≤ 4096 ∧ ∀ x ∈ t.locks, x.lo ≤ 1099511627776 := h.lk t.tx (List.mem_map.2 ⟨t, ht, rfl⟩)
theorem Bk.R_mem {A : Bk} {k j : Nat} (h : A.R k j) : j ∈ A.rn ∨ j ∈ A.q := by
  have hE : ∀ k j, A.E k j → j ∈ A.rn ∨ j ∈ A.q := by
    intro k j h
    unfold Bk.E Bk.waits at h
    split at h
    · simp at h
    · rcases List.mem_append.1 h with h | h
      · exact .inl (mem_srt.1 (List.mem_filter.1 h).1)
      · exact .inr ((List.takeWhile_sublist _).subset (List.mem_filter.1 h).1)
  cases h with
  | one h => exact hE _ _ h
  | more _ h => exact hE _ _ h
/-- The outcome of a search for a lock. -/
abbrev ObtX (g : Bg) (k lo hi : Nat) (wr : Bool) := { x : Bg × Nat // x.1.OK ∧ Bk.Obt g.bk k lo hi wr x.1.bk x.2 ∧ g.Anc x.1 }
attribute [local irreducible] SC St Fin Sq Ylds Doos Sets Enters Spec CellIs CellsAre Then Ret Rnd Chn resOK ints bools recs arr
set_option maxRecDepth 10000 in
set_option maxHeartbeats 16000000 in
theorem obtain_spec {g : Bg} {W : World} {N : List Chunk} {k lo hi : Nat} {wr : Bool} (I : Bk → Prop) (hB : g.OK) (hG : g.bk.Good) (hk : g.has k) (hI : ∀ A, I A → A.Good)
    (hab : ∀ A v, I A → (A.tx k).st = 2 → A.IsVic k v → v ≠ 0 → I (A.abort v)) (h0 : ¬ Hold (g.bk.tx k).locks lo hi wr → g.bk.count < 1024 → g.bk.free ⟨k, lo, hi, wr⟩ g.q = false → I (g.bk.wait k ⟨k, lo, hi, wr⟩)) (hstI : ∀ A, I A → (A.tx k).st = 1 ∨ (A.tx k).st = 2 ∨ (A.tx k).st = 4) :
    Spec Tryz.prog 92 #[.pointer (some ⟨g.b, 0, none⟩), g.ptr k, .int .i64 (lo : Nat), .int .i64 (hi : Nat), .bool wr] (K W (g.L ++ N)) (X := ObtX g k lo hi wr) (fun x => .int .i64 (x.1.2 : Nat)) (fun x => K W (x.1.1.L ++ N)) := by
  obtain ⟨t, htm, hti, hid, hpb, htx⟩ := hB.at hk
  have ep : g.ptr k = .pointer (some ⟨t.b, 0, none⟩) := by rw [Bg.ptr, hpb]
  have hOt := hB.ok t htm
  have hlk := good_lo hG htm
  have hF := hB.tf (C := K W (g.L ++ N)) Hs.bk htm
  obtain ⟨e0, e1, e2, e3, e7, el, eo⟩ := hF
  obtain ⟨f0, f1, f2, f3, f4, f5, fq, fl, fea, fer⟩ := hB.bf (C := K W (g.L ++ N)) Hs.bk
  rw [ep]
  refine enter (args := [_, _, _, _, _]) Tryz.func92 rfl Tryz.ntmps92 rfl ?_
  clear f0 f1 f2 f3 f5 fl fea fer e3 e7 eo
  refine c_seq ?_
  refine c_region ?_
  refine s_y (y_assign rfl) rfl rfl rfl ?_
  refine s_nil ?_
  refine f_then ?_
  refine c_seq ?_
  refine c_seq ?_
  refine c_region ?_
  refine s_y (y_move rfl) rfl rfl rfl ?_
  refine s_y (y_move rfl) rfl rfl rfl ?_
  refine s_y (y_move rfl) rfl rfl rfl ?_
  refine s_y (y_move rfl) rfl rfl rfl ?_
  refine s_call (en_f rfl Tryz.call109) (holds_b (lo := lo) (hi := hi) (wr := wr) (hB.tf (C := K W (g.L ++ N)) Hs.bk htm) hlk.1 hlk.2) rfl rfl rfl (fun _ => ?_)
  have eh : (Hold t.locks lo hi wr) = Hold (g.bk.tx k).locks lo hi wr := by rw [htx]; rfl
  by_cases ch : Hold t.locks lo hi wr
  · rw [decide_eq_true ch]
    refine s_nil ?_
    refine f_then ?_
    refine c_condT rfl ?_
    refine c_seq ?_
    refine c_region ?_
    refine s_y (y_assign rfl) rfl rfl rfl ?_
    refine s_nil ?_
    refine f_then ?_
    refine c_ret ?_
    refine f_thenR ?_
    exact f_ret ⟨(g, 0), hB, .has (by rw [← eh]; exact ch), .refl _⟩ (res1 rfl rfl) (fun w h => h)
  · rw [decide_eq_false ch]
    rw [eh] at ch
    have hql : (ptrs g g.q).length = g.q.length := List.length_map _
    refine s_nil ?_
    refine f_then ?_
    refine c_condF rfl ?_
    refine c_skip ?_
    refine f_then ?_
    refine c_seq ?_
    refine c_region ?_
    refine s_y (y_move rfl) rfl rfl rfl ?_
    refine s_y (y_nilP rfl) rfl rfl rfl ?_
    refine s_y (y_fieldAddrB Tryz.tab 4 rfl rfl rfl rfl rfl) rfl rfl rfl ?_
    refine s_y (y_load Tryz.tab rfl rfl f4) rfl rfl rfl ?_
    refine s_y (y_lenE Tryz.tab rfl (fq) rfl) rfl rfl rfl ?_
    refine s_y (y_assign rfl) rfl rfl rfl ?_
    refine s_nil ?_
    refine f_then ?_
    refine c_seq ?_
    refine c_seq ?_
    refine c_region ?_
    refine s_y (y_move rfl) rfl rfl rfl ?_
    refine s_call (en_f rfl Tryz.call110) (progress_b hB Hs.bk) rfl rfl rfl (fun x => ?_)
    obtain ⟨⟨v, c⟩, hR⟩ := x
    dsimp only at hR ⊢
    have hE := hR.view (C := K W (c :: (g.L ++ N))) (Hs.at 0 rfl)
    have hsl : (ptrs g (srt g.rn)).length = (srt g.rn).length := List.length_map _
    have hsr : (srt g.rn).length = g.rn.length := List.length_mergeSort _
    have hrnl := hG.rn
    have hqll := hG.q
    change g.rn.length ≤ 64 at hrnl
    change g.q.length ≤ 64 at hqll
    have hsum : ((srt g.rn).map fun j => (g.bk.tx j).locks.length).sum + g.q.length = g.bk.count := by
      rw [Bk.sum_perm (l := srt g.rn) (List.mergeSort_perm g.rn _)]
      rfl
    refine s_y (y_lenE Tryz.tab rfl (hE) rfl) rfl rfl rfl ?_
    refine s_y (y_move rfl) rfl rfl rfl ?_
    refine s_nil ?_
    refine f_then ?_
    refine c_block ?_
    refine c_loopP (α := Nat) (fun z => [(0, .pointer (some ⟨g.b, 0, none⟩)), (1, .pointer (some ⟨t.b, 0, none⟩)), (2, .int .i64 (lo : Nat)), (3, .int .i64 (hi : Nat)), (4, .bool wr), (11, .int .i64 ((g.q.length + (((srt g.rn).take z).map fun j => (g.bk.tx j).locks.length).sum : Nat) : Int)), (27, v), (28, .int .i64 (ptrs g (srt g.rn)).length), (29, .int .i64 (z : Nat))])
      (fun z => z ≤ (srt g.rn).length ∧ (((srt g.rn).take z).map fun j => (g.bk.tx j).locks.length).sum ≤ 4096 * z) (fun _ => K W (c :: (g.L ++ N))) (fun z => (srt g.rn).length - z) 0
      ⟨rfl, rfl, rfl, rfl, rfl, congrArg (fun z : Nat => some (Value.int .i64 (z : Int))) (by simp [hql]), rfl, rfl, rfl, trivial⟩ ⟨Nat.zero_le _, by simp⟩ (fun w h => h) ?_
    rintro i ⟨hi1, hsb⟩
    by_cases c1 : i < (srt g.rn).length
    · obtain ⟨j, hj⟩ : ∃ j, (srt g.rn)[i]? = some j := ⟨(srt g.rn)[i], by simp [c1]⟩
      have hjm : j ∈ g.rn := mem_srt.1 (List.mem_of_getElem? hj)
      obtain ⟨u, hum, _, hid2, hpb2, hux⟩ := hB.at (hB.rnh j hjm)
      have hcell := hE.cell (i := i) (x := .pointer (some ⟨u.b, 0, none⟩)) (by simp [hj, Bg.ptr, hpb2])
      obtain ⟨d0, d1, d2, d3, d7, dl, d_o⟩ := hB.tf (C := K W (g.L ++ N)) Hs.bk hum
      have hul := (good_lo hG hum).1
      have hll : (lks u.locks).length = u.locks.length := List.length_map _
      have hnx := Bk.sum_take (f := fun j => (g.bk.tx j).locks.length) hj
      have huxl : (g.bk.tx j).locks.length = u.locks.length := by rw [hux]; rfl
      rw [huxl] at hnx
      have hS0 : (((srt g.rn).take i).map fun j => (g.bk.tx j).locks.length).sum ≤ 262144 := Nat.le_trans hsb (by omega)
      generalize (((srt g.rn).take i).map fun j => (g.bk.tx j).locks.length).sum = S at hnx hsb hS0 ⊢
      clear el e0 e1 e2 f4 fq d0 d1 d3 d7 d_o
      refine c_seq ?_
      refine c_region ?_
      refine s_y (y_T (y_lss rfl rfl) (by omega)) rfl rfl rfl ?_
      refine s_nil ?_
      refine f_then ?_
      refine c_seq ?_
      refine c_condT rfl ?_
      refine c_skip ?_
      refine f_then ?_
      refine c_seq ?_
      refine c_block ?_
      refine c_seq ?_
      refine c_region ?_
      refine s_y (y_ixE Tryz.tab rfl rfl rfl rfl (hE) _ rfl (by omega)) rfl rfl rfl ?_
      refine s_y (y_load Tryz.tab rfl rfl hcell) rfl rfl rfl ?_
      refine s_y (y_assign rfl) rfl rfl rfl ?_
      refine s_nil ?_
      refine f_then ?_
      refine c_region ?_
      refine s_y (y_move rfl) rfl rfl rfl ?_
      refine s_y (y_move rfl) rfl rfl rfl ?_
      refine s_y (y_nilP rfl) rfl rfl rfl ?_
      refine s_y (y_fieldAddrB Tryz.tab 2 rfl rfl rfl rfl rfl) rfl rfl rfl ?_
      refine s_y (y_load Tryz.tab rfl rfl d2.cons) rfl rfl rfl ?_
      refine s_y (y_lenE Tryz.tab rfl (dl.cons) rfl) rfl rfl rfl ?_
      refine s_y (y_add rfl rfl (by omega)) rfl rfl rfl ?_
      refine s_y (y_assign rfl) rfl rfl rfl ?_
      refine s_nil ?_
      refine f_blockN ?_
      refine f_then ?_
      refine c_region ?_
      refine s_y (y_add rfl rfl (by omega)) rfl rfl rfl ?_
      refine s_y (y_move rfl) rfl rfl rfl ?_
      refine s_nil ?_
      exact f_roundP (i + 1) ⟨c1, by rw [hnx]; omega⟩ (by omega) ⟨rfl, rfl, rfl, rfl, rfl, congrArg (fun z => some (Value.int .i64 z)) (by rw [hnx]; omega), rfl, rfl, rfl, trivial⟩ (fun w h => h)
    · obtain rfl : i = (srt g.rn).length := by omega
      rw [List.take_length] at hsb
      have ecount : g.q.length + ((srt g.rn).map fun j => (g.bk.tx j).locks.length).sum = g.bk.count := by omega
      have hcl : g.bk.count ≤ 300000 := by rw [← ecount]; omega
      rw [List.take_length, ecount]
      by_cases cc : 1024 ≤ g.bk.count
      · refine c_seq ?_
        refine c_region ?_
        refine s_y (y_F (y_lss rfl rfl) (by omega)) rfl rfl rfl ?_
        refine s_nil ?_
        refine f_then ?_
        refine c_seq ?_
        refine c_condF rfl ?_
        refine c_exit ?_
        refine f_thenE ?_
        refine f_rndE ?_
        refine f_blockE ?_
        refine f_then ?_
        refine c_seq ?_
        refine c_seq ?_
        refine c_region ?_
        refine s_y (y_move rfl) rfl rfl rfl ?_
        refine s_y (y_T (y_geq rfl rfl) (by omega)) rfl rfl rfl ?_
        refine s_nil ?_
        refine f_then ?_
        refine c_condT rfl ?_
        refine c_seq ?_
        refine c_region ?_
        refine s_y (y_assign rfl) rfl rfl rfl ?_
        refine s_nil ?_
        refine f_then ?_
        refine c_ret ?_
        refine f_thenR ?_
        exact f_ret ⟨(g, 5), hB, .full ch cc, .refl _⟩ (res1 rfl rfl) (fun w h => h.tail)
      · refine c_seq ?_
        refine c_region ?_
        refine s_y (y_F (y_lss rfl rfl) (by omega)) rfl rfl rfl ?_
        refine s_nil ?_
        refine f_then ?_
        refine c_seq ?_
        refine c_condF rfl ?_
        refine c_exit ?_
        refine f_thenE ?_
        refine f_rndE ?_
        refine f_blockE ?_
        refine f_then ?_
        refine c_seq ?_
        refine c_seq ?_
        refine c_region ?_
        refine s_y (y_move rfl) rfl rfl rfl ?_
        refine s_y (y_F (y_geq rfl rfl) (by omega)) rfl rfl rfl ?_
        refine s_nil ?_
        refine f_then ?_
        refine c_condF rfl ?_
        refine c_skip ?_
        refine f_then ?_
        refine c_seq ?_
        refine c_region ?_
        refine s_y (y_move rfl) rfl rfl rfl ?_
        refine s_y (y_nilP rfl) rfl rfl rfl ?_
        refine s_y (y_fieldAddr0 Tryz.tab rfl rfl rfl rfl rfl) rfl rfl rfl ?_
        refine s_y (y_load Tryz.tab rfl rfl e0.cons) rfl rfl rfl ?_
        refine s_y (y_move rfl) rfl rfl rfl ?_
        refine s_y (y_move rfl) rfl rfl rfl ?_
        refine s_y (y_move rfl) rfl rfl rfl ?_
        refine s_y (y_build Tryz.tab rfl rfl rfl rfl rfl) rfl rfl rfl ?_
        refine s_do (do_alloc Tryz.tab rfl) rfl rfl rfl (fun b14 => ?_)
        refine s_set (set_box Tryz.tab 0 rfl rfl rfl rfl rfl rfl rfl) rfl rfl ?_
        refine s_nil ?_
        refine f_then ?_
        refine c_seq ?_
        refine c_seq ?_
        obtain ⟨lk, hlk2⟩ : ∃ lk : Lk, lk = ⟨k, lo, hi, wr⟩ := ⟨_, rfl⟩
        refine SC.cls (C' := K W ([(b14, row 111 (lkc lk))] :: (g.L ++ N))) ?_ (fun w h => by
          rw [hlk2, ← hid]
          exact h.dropAt 1)
        have hfree := free_b (l := lk) (fr := g.q) (fv := g.qv) (W := W) (N := [(b14, row 111 (lkc lk))] :: (g.L ++ N)) hB (good_few hG).lim Hs.bk.cons fq.cons hB.qh (by omega)
        rw [← hlk2] at h0
        clear e0 e1 el hE
        refine c_plan [.c 0, .c 1, .c 2, .c 3, .c 4, .c 5, .s 6] [] ((K W ([(b14, row 111 (lkc lk))] :: (g.L ++ N)))) Tryz.mixed (by kernel_rfl) rfl K.cl ?_
        refine d_c rfl (Qui.ylds (y_move rfl)) rfl rfl rfl (fun _ h => h) K.cl ?_
        refine d_c rfl (Qui.ylds (y_loadA Tryz.tab rfl rfl rfl rfl (cells_row0 0 rfl rfl))) rfl rfl rfl (fun _ h => h) K.cl ?_
        refine d_c rfl (Qui.ylds (y_move rfl)) rfl rfl rfl (fun _ h => h) K.cl ?_
        refine d_c rfl (Qui.ylds (y_nilP rfl)) rfl rfl rfl (fun _ h => h) K.cl ?_
        refine d_c rfl (Qui.ylds (y_fieldAddrB Tryz.tab 4 rfl rfl rfl rfl rfl)) rfl rfl rfl (fun _ h => h) K.cl ?_
        refine d_c rfl (Qui.ylds (y_load Tryz.tab rfl rfl f4.cons)) rfl rfl rfl (fun _ h => h) K.cl ?_
        refine d_call rfl (en_f rfl Tryz.call98) hfree rfl rfl rfl (fun _ => K.cl) (fun _ _ _ h => h) (fun _ => ?_)
        cases hf : g.bk.free lk g.q with
        | true =>
          refine d_nil ?_
          refine f_then ?_
          refine c_condT rfl ?_
          refine c_seq ?_
          refine SC.cls (C' := K W ([(b14, row 111 (lkc lk))] :: (t.chunks ++ (g.fixed ++ (g.rest k ++ N))))) ?_ (fun w h => K.bckN (A := t.chunks ++ (g.fixed ++ (g.rest k))) (B := [[(b14, row 111 (lkc lk))]]) (N := N) (by
            have := K.foc (N := [(b14, row 111 (lkc lk))] :: N) hti (K.bckN (A := [[(b14, row 111 (lkc lk))]]) h)
            simpa using this))
          refine c_plan [.c 0, .c 1, .c 2, .c 3, .c 4, .c 5, .s 6, .s 7, .c 8, .c 9, .s 10] [10] ((K W [[(b14, row 111 (lkc lk))], [(t.b, row 113 t.cells)]])) Tryz.mixed (by kernel_rfl) rfl K.cl ?_
          refine d_c rfl (Qui.ylds (y_move rfl)) rfl rfl rfl (fun w h => h.keep 2) K.cl ?_
          refine d_c rfl (Qui.ylds (y_move rfl)) rfl rfl rfl (fun w h => h.keep 2) K.cl ?_
          refine d_c rfl (Qui.ylds (y_nilP rfl)) rfl rfl rfl (fun w h => h.keep 2) K.cl ?_
          refine d_c rfl (Qui.ylds (y_fieldAddrB Tryz.tab 2 rfl rfl rfl rfl rfl)) rfl rfl rfl (fun w h => h.keep 2) K.cl ?_
          refine d_c rfl (Qui.ylds (y_load Tryz.tab rfl rfl (cell_row 1 rfl rfl))) rfl rfl rfl (fun w h => h.keep 2) K.cl ?_
          refine d_c rfl (Qui.ylds (y_loadA Tryz.tab rfl rfl rfl rfl (cells_row0 0 rfl rfl))) rfl rfl rfl (fun w h => h.keep 2) K.cl ?_
          refine d_s rfl (do_buildSliceS Tryz.tab ⟨rfl, rfl, rfl, rfl⟩ rfl rfl rfl rfl) rfl rfl rfl (fun _ => K.cl) (fun _ _ _ h => h.tail.keep 2) (fun b64 => ?_)
          refine d_s rfl (do_appendR (by_ := 32) Tryz.tab 3 rfl hOt.l rfl ⟨rfl, rfl, rfl, rfl⟩ rfl (by simp) rfl (cells_row0 0 rfl rfl) rfl rfl (by rw [List.length_map]; omega) (by omega)) rfl rfl rfl (fun _ => K.cl) (fun _ _ _ h => h.tail.keep 2) (fun y => ?_)
          obtain ⟨⟨lv', lc'⟩, hl'⟩ := y
          dsimp only at hl' ⊢
          refine d_c rfl (Qui.ylds (y_nilP rfl)) rfl rfl rfl (fun w h => h.tail.keep 2) K.cl ?_
          refine d_c rfl (Qui.ylds (y_fieldAddrB Tryz.tab 2 rfl rfl rfl rfl rfl)) rfl rfl rfl (fun w h => h.tail.keep 2) K.cl ?_
          refine d_set rfl (set_row Tryz.tab 2 rfl rfl hl'.one rfl rfl (Nat.lt_of_sub_eq_succ rfl)) rfl rfl K.cl (fun h => by cases h) ?_
          refine d_nil ?_
          refine f_then ?_
          refine c_seq ?_
          refine c_region ?_
          refine s_y (y_assign rfl) rfl rfl rfl ?_
          refine s_nil ?_
          refine f_then ?_
          refine c_ret ?_
          refine f_thenR ?_
          obtain ⟨t1, ht1⟩ : ∃ t1 : Tg, t1 = { t with locks := t.locks ++ [lk], lv := lv', lc := lc' } := ⟨_, rfl⟩
          have h1b : t1.b = t.b := by rw [ht1]
          refine f_ret ⟨(g.setT k t1, 0), hB.setT hti h1b (by rw [ht1]) ?_, ?_, setT_anc hti h1b⟩ (res1 rfl rfl) (fun w h => ?_)
          · rw [ht1]
            exact ⟨hl'.of (by simp [lks, allCells, cellsL]), hOt.o, hOt.r⟩
          · dsimp only
            rw [setT_bk, ht1]
            have := Bk.Obt.got (A := g.bk) (k := k) (lo := lo) (hi := hi) (wr := wr) ch (by omega) (by first | exact hf | (rw [← hlk2]; exact hf))
            rw [← hlk2, htx] at this
            exact this
          · have h3 : K W (t1.chunks ++ (g.fixed ++ (g.rest k ++ N))) w := by rw [ht1]; exact h.tail.tail
            exact K.unfoc hti h3
        | false =>
          refine d_nil ?_
          refine f_then ?_
          refine c_condF rfl ?_
          refine c_skip ?_
          refine f_then ?_
          refine c_seq ?_
          refine SC.cls (C' := K W ([(b14, row 111 (lkc lk))] :: (t.chunks ++ (g.fixed ++ (g.rest k ++ N))))) ?_ (fun w h => K.bckN (A := t.chunks ++ (g.fixed ++ (g.rest k))) (B := [[(b14, row 111 (lkc lk))]]) (N := N) (by
            have := K.foc (N := [(b14, row 111 (lkc lk))] :: N) hti (K.bckN (A := [[(b14, row 111 (lkc lk))]]) h)
            simpa using this))
          refine c_plan [.c 0, .c 1, .c 2, .c 3, .c 4, .s 5, .c 6, .c 7, .s 8] [] (K W [[(b14, row 111 (lkc lk))]]) Tryz.mixed (by kernel_rfl) rfl K.cl ?_
          refine d_c rfl (Qui.ylds (y_move rfl)) rfl rfl rfl (fun w h => h.keep 1) K.cl ?_
          refine d_c rfl (Qui.ylds (y_move rfl)) rfl rfl rfl (fun w h => h.keep 1) K.cl ?_
          refine d_c rfl (Qui.ylds (y_loadA Tryz.tab rfl rfl rfl rfl (cells_row0 0 rfl rfl))) rfl rfl rfl (fun w h => h.keep 1) K.cl ?_
          refine d_c rfl (Qui.ylds (y_nilP rfl)) rfl rfl rfl (fun w h => h.keep 1) K.cl ?_
          refine d_c rfl (Qui.ylds (y_fieldAddrB Tryz.tab 1 rfl rfl rfl rfl rfl)) rfl rfl rfl (fun w h => h.keep 1) K.cl ?_
          refine d_set rfl (set_rowB Tryz.tab 1 rfl rfl rfl rfl rfl rfl) rfl rfl K.cl (fun _ _ h => h.keep 1) ?_
          refine d_c rfl (Qui.ylds (y_nilP rfl)) rfl rfl rfl (fun w h => h.keep 1) K.cl ?_
          refine d_c rfl (Qui.ylds (y_fieldAddrB Tryz.tab 3 rfl rfl rfl rfl rfl)) rfl rfl rfl (fun w h => h.keep 1) K.cl ?_
          refine d_set rfl (set_aggB Tryz.tab 1 rfl rfl rfl rfl rfl rfl rfl) rfl rfl K.cl (fun _ _ h => h.keep 1) ?_
          refine d_nil ?_
          refine f_then ?_
          obtain ⟨t1, ht1⟩ : ∃ t1 : Tg, t1 = { t with st := 2, req := lk } := ⟨_, rfl⟩
          have h1b : t1.b = t.b := by rw [ht1]
          obtain ⟨g1, hg1⟩ : ∃ g1 : Bg, g1 = g.setT k t1 := ⟨_, rfl⟩
          have hA1 : g.Anc g1 := by rw [hg1]; exact setT_anc hti h1b
          have hB1 : g1.OK := by
            rw [hg1]
            refine hB.setT hti h1b (by rw [ht1]) ?_
            rw [ht1]
            exact ⟨hOt.l, hOt.o, hOt.r⟩
          have hq1 : g1.q = g.q := by rw [hg1]; rfl
          refine SC.cls (C' := K W ([(b14, row 111 (lkc lk))] :: g1.p :: [(g.b, row 96 g1.cells)] :: [(g1.ba, mobj g1.ea g1.ca)] :: [(g1.br, mobj g1.er g1.cr)] :: g1.qc :: g1.lc :: (g1.ts.flatMap Tg.chunks ++ N))) ?_ (fun w h => by
            have h2 : K W ([(b14, row 111 (lkc lk))] :: [(t1.b, row 113 t1.cells)] :: t1.lc :: t1.oc :: (g.fixed ++ (g.rest k ++ N))) w := by rw [ht1]; exact h
            have h3 : K W (t1.chunks ++ (g.fixed ++ (g.rest k ++ ([(b14, row 111 (lkc lk))] :: N)))) w := by
              have := K.bckN (A := [[(b14, row 111 (lkc lk))]]) (B := t1.chunks ++ (g.fixed ++ g.rest k)) (N := N) (by simpa using h2)
              simpa using this
            have h4 := K.unfoc hti h3
            rw [hg1]
            exact K.bckN (A := (g.setT k t1).L) (B := [[(b14, row 111 (lkc lk))]]) h4)
          have hk1 : g1.ptr k = .pointer (some ⟨t.b, 0, none⟩) := by rw [hA1.ptr, ep]
          have hql1 : g1.q.length ≤ 64 := by rw [hq1]; exact hqll
          have hqB1 := hB1.qB
          refine c_seq ?_
          refine c_region ?_
          refine s_y (y_move rfl) rfl rfl rfl ?_
          refine s_y (y_move rfl) rfl rfl rfl ?_
          refine s_y (y_nilP rfl) rfl rfl rfl ?_
          refine s_y (y_fieldAddrB Tryz.tab 4 rfl rfl rfl rfl rfl) rfl rfl rfl ?_
          refine s_y (y_load Tryz.tab rfl rfl (cell_row 2 rfl rfl)) rfl rfl rfl ?_
          refine s_y (y_move rfl) rfl rfl rfl ?_
          refine s_do (do_buildSlice1 Tryz.tab ⟨rfl, rfl, rfl, rfl⟩ rfl rfl rfl rfl) rfl rfl rfl (fun b81 => ?_)
          refine s_do (do_appendR (by_ := 8) Tryz.tab 6 rfl hqB1 rfl ⟨rfl, rfl, rfl, rfl⟩ rfl (by simp) rfl (cells_row0 0 rfl rfl) rfl rfl (by rw [List.length_map]; omega) (by omega)) rfl rfl rfl (fun y => ?_)
          obtain ⟨⟨qv', qc'⟩, hq'⟩ := y
          dsimp only at hq' ⊢
          refine s_y (y_nilP rfl) rfl rfl rfl ?_
          refine s_y (y_fieldAddrB Tryz.tab 4 rfl rfl rfl rfl rfl) rfl rfl rfl ?_
          refine s_set (set_row Tryz.tab 3 rfl rfl hq'.one rfl rfl (Nat.lt_of_sub_eq_succ rfl)) rfl rfl ?_
          refine s_nil ?_
          refine f_then ?_
          refine c_seq ?_
          refine c_block ?_
          obtain ⟨g2, hg2⟩ : ∃ g2 : Bg, g2 = g1.setQ (g.q ++ [k]) qv' qc' := ⟨_, rfl⟩
          have hB2 : g2.OK := by
            rw [hg2]
            refine hB1.setQ (hq'.of ?_) fun j hj => ?_
            · rw [hq1, List.map_append, List.map_cons, List.map_nil, hk1]
            · rcases List.mem_append.1 hj with hj | hj
              · exact hA1.has (hB.qh j hj)
              · rw [List.mem_singleton.1 hj]; exact hA1.has hk
          have hA2 : g.Anc g2 := by rw [hg2]; exact ⟨hA1.b, hA1.pb, hA1.len⟩
          have hbk2 : g2.bk = g.bk.wait k lk := by
            rw [hg2, hg1, ht1, Bk.wait, htx]
            simp only [Bg.setQ, Bg.bk, Bg.setT, Bk.setT, List.map_set, Tg.tx]
          have hI2 : I g2.bk := by
            rw [hbk2]
            exact h0 ch (by omega) (by first | exact hf | (rw [← hlk2]; exact hf))
          refine c_loopP (α := Bg) (fun gi => [(0, .pointer (some ⟨g.b, 0, none⟩)), (1, .pointer (some ⟨t.b, 0, none⟩))])
            (fun gi => gi.OK ∧ g.Anc gi ∧ I gi.bk ∧ ∀ B e, Bk.Res k gi.bk B e → Bk.Res k g2.bk B e) (fun gi => K W (gi.L ++ ([(b14, row 111 (lkc lk))] :: N))) (fun gi => gi.rn.length + gi.q.length) g2
            ⟨rfl, rfl, trivial⟩ ⟨hB2, hA2, hI2, fun _ _ h => h⟩ (fun w h => by
              have e2 : g2.L = g1.p :: [(g.b, row 96 g2.cells)] :: [(g1.ba, mobj g1.ea g1.ca)] :: [(g1.br, mobj g1.er g1.cr)] :: qc' :: g1.lc :: (g1.ts.flatMap Tg.chunks) := by
                rw [hg2, ← hA1.b]; rfl
              have h2 : K W ([(b14, row 111 (lkc lk))] :: (g2.L ++ N)) w := by
                rw [e2, hg2]
                exact h.tail
              exact K.bckN (A := [[(b14, row 111 (lkc lk))]]) (B := g2.L) h2) ?_
          rintro gi ⟨hBi, hAi, hIi, hRi⟩
          have hGi := hI _ hIi
          have hki := hAi.has hk
          obtain ⟨u, hum, huti, huid, hupb, hux⟩ := hBi.at hki
          have hub : u.b = t.b := by rw [← hupb, hAi.pb, hpb]
          obtain ⟨d0, d1, d2, d3, d7, dl, d_o⟩ := hBi.tf (C := K W (gi.L ++ ([(b14, row 111 (lkc lk))] :: N))) Hs.bk hum
          clear d0 d2 d3 d7 dl d_o hfree
          have hsx := hstI _ hIi
          have hux2 : (gi.bk.tx k).st = u.st := by rw [hux]; rfl
          rw [hux2] at hsx
          rw [hub] at d1
          rcases hsx with c2 | c2 | c2
          · rw [c2] at d1
            refine c_seq ?_
            refine c_seq ?_
            refine c_region ?_
            refine s_y (y_move rfl) rfl rfl rfl ?_
            refine s_y (y_nilP rfl) rfl rfl rfl ?_
            refine s_y (y_fieldAddrB Tryz.tab 1 rfl rfl rfl rfl rfl) rfl rfl rfl ?_
            refine s_y (y_load Tryz.tab rfl rfl d1) rfl rfl rfl ?_
            refine s_y (y_F (y_eql rfl rfl) (by omega)) rfl rfl rfl ?_
            refine s_nil ?_
            refine f_then ?_
            refine c_condF rfl ?_
            refine c_exit ?_
            refine f_thenE ?_
            refine f_rndE ?_
            refine f_blockE ?_
            refine f_then ?_
            refine c_seq ?_
            refine c_seq ?_
            refine c_region ?_
            refine s_y (y_move rfl) rfl rfl rfl ?_
            refine s_y (y_nilP rfl) rfl rfl rfl ?_
            refine s_y (y_fieldAddrB Tryz.tab 1 rfl rfl rfl rfl rfl) rfl rfl rfl ?_
            refine s_y (y_load Tryz.tab rfl rfl d1) rfl rfl rfl ?_
            refine s_y (y_F (y_eql rfl rfl) (by omega)) rfl rfl rfl ?_
            refine s_nil ?_
            refine f_then ?_
            refine c_condF rfl ?_
            refine c_skip ?_
            refine f_then ?_
            refine c_seq ?_
            refine c_region ?_
            refine s_y (y_assign rfl) rfl rfl rfl ?_
            refine s_nil ?_
            refine f_then ?_
            refine c_ret ?_
            exact f_ret ⟨(gi, 0), hBi, .res ch (by omega) (by first | exact hf | (rw [← hlk2]; exact hf)) (by rw [← hlk2, ← hbk2]; exact hRi _ _ (.free (by rw [hux2, c2]))), hAi⟩ (res1 rfl rfl) (fun w h => (K.bckN (A := gi.L) (B := [[(b14, row 111 (lkc lk))]]) h).tail)
          · rw [c2] at d1
            have hvic := victim_b (N := gi.L ++ ([(b14, row 111 (lkc lk))] :: N)) (W := W) hBi (good_few hGi) Hs.bk hki hum huid hupb hux
            rw [hAi.b, hub] at hvic
            refine c_seq ?_
            refine c_seq ?_
            refine c_region ?_
            refine s_y (y_move rfl) rfl rfl rfl ?_
            refine s_y (y_nilP rfl) rfl rfl rfl ?_
            refine s_y (y_fieldAddrB Tryz.tab 1 rfl rfl rfl rfl rfl) rfl rfl rfl ?_
            refine s_y (y_load Tryz.tab rfl rfl d1) rfl rfl rfl ?_
            refine s_y (y_T (y_eql rfl rfl) (by omega)) rfl rfl rfl ?_
            refine s_nil ?_
            refine f_then ?_
            refine c_condT rfl ?_
            refine c_skip ?_
            refine f_then ?_
            refine c_block ?_
            refine c_seq ?_
            refine c_region ?_
            refine s_y (y_move rfl) rfl rfl rfl ?_
            refine s_y (y_move rfl) rfl rfl rfl ?_
            refine s_call (en_f rfl Tryz.call111) hvic rfl rfl rfl (fun y => ?_)
            obtain ⟨v, hv⟩ := y
            dsimp only
            by_cases cv : v = 0
            · subst cv
              refine s_y (y_assign rfl) rfl rfl rfl ?_
              refine s_nil ?_
              refine f_then ?_
              refine c_seq ?_
              refine c_seq ?_
              refine c_region ?_
              refine s_y (y_move rfl) rfl rfl rfl ?_
              refine s_y (y_T (y_eql rfl rfl) (by omega)) rfl rfl rfl ?_
              refine s_nil ?_
              refine f_then ?_
              refine c_condT rfl ?_
              refine c_seq ?_
              refine c_region ?_
              refine s_y (y_assign rfl) rfl rfl rfl ?_
              refine s_nil ?_
              refine f_then ?_
              refine c_ret ?_
              refine f_thenR ?_
              refine f_blockR ?_
              refine f_rndR ?_
              refine f_blockR ?_
              refine f_thenR ?_
              exact f_ret ⟨(gi, 83), hBi, .res ch (by omega) (by first | exact hf | (rw [← hlk2]; exact hf)) (by rw [← hlk2, ← hbk2]; exact hRi _ _ (.wait (by rw [hux2, c2]) hv)), hAi⟩ (res1 rfl rfl) (fun w h => (K.bckN (A := gi.L) (B := [[(b14, row 111 (lkc lk))]]) h).tail)
            · have hvm : v ∈ gi.rn ∨ v ∈ gi.q := by
                rcases hv with ⟨h, _⟩ | ⟨_, h, _⟩
                · exact absurd h cv
                · exact Bk.R_mem (A := gi.bk) h.1
              have hvh : gi.has v := by
                rcases hvm with h | h
                · exact hBi.rnh v h
                · exact hBi.qh v h
              obtain ⟨x, hxm, hxti, _, _, _⟩ := hBi.at hvh
              have hget := hBi.eaG v hvh
              obtain ⟨_, _, b2, _, _, _, _, _, bea, _⟩ := hBi.bf (C := K W (gi.L ++ ([(b14, row 111 (lkc lk))] :: N))) Hs.bk
              rw [hAi.b] at b2
              have hMi := hBi.eaM
              have hab1 := abort_spec (W := W) (N := [(b14, row 111 (lkc lk))] :: N) hBi (good_lm hGi) hvh hxti (good_un hGi hxm) (good_ol hGi hxm)
              rw [hAi.b] at hab1
              clear d1
              refine s_y (y_assign rfl) rfl rfl rfl ?_
              refine s_nil ?_
              refine f_then ?_
              refine c_seq ?_
              refine c_seq ?_
              refine c_region ?_
              refine s_y (y_move rfl) rfl rfl rfl ?_
              refine s_y (y_F (y_eql rfl rfl) (by omega)) rfl rfl rfl ?_
              refine s_nil ?_
              refine f_then ?_
              refine c_condF rfl ?_
              refine c_skip ?_
              refine f_then ?_
              refine c_region ?_
              refine s_y (y_move rfl) rfl rfl rfl ?_
              refine s_y (y_move rfl) rfl rfl rfl ?_
              refine s_y (y_nilP rfl) rfl rfl rfl ?_
              refine s_y (y_fieldAddrB Tryz.tab 2 rfl rfl rfl rfl rfl) rfl rfl rfl ?_
              refine s_y (y_load Tryz.tab rfl rfl b2) rfl rfl rfl ?_
              refine s_y (y_move rfl) rfl rfl rfl ?_
              refine s_y (y_lookupE Tryz.tab rfl rfl rfl rfl (fun _ => rfl) (bea) (by assumption)) rfl rfl rfl ?_
              refine s_call (en_f rfl Tryz.call67) hab1 rfl rfl rfl (fun y => ?_)
              obtain ⟨gj, hBj, hbkj, hAj⟩ := y
              dsimp only
              refine s_nil ?_
              refine f_blockN ?_
              exact f_roundP gj ⟨hBj, hAi.trans hAj, by rw [hbkj]; exact hab _ v hIi (by rw [hux2, c2]) hv cv, fun B e h => hRi B e (.next (by rw [hux2, c2]) hv cv (by rw [← hbkj]; exact h))⟩ (by
                have := Bk.abort_less (A := gi.bk) (k := v) hvm
                rw [← hbkj] at this
                exact this) ⟨rfl, rfl, trivial⟩ (fun w h => h)
          · rw [c2] at d1
            refine c_seq ?_
            refine c_seq ?_
            refine c_region ?_
            refine s_y (y_move rfl) rfl rfl rfl ?_
            refine s_y (y_nilP rfl) rfl rfl rfl ?_
            refine s_y (y_fieldAddrB Tryz.tab 1 rfl rfl rfl rfl rfl) rfl rfl rfl ?_
            refine s_y (y_load Tryz.tab rfl rfl d1) rfl rfl rfl ?_
            refine s_y (y_F (y_eql rfl rfl) (by omega)) rfl rfl rfl ?_
            refine s_nil ?_
            refine f_then ?_
            refine c_condF rfl ?_
            refine c_exit ?_
            refine f_thenE ?_
            refine f_rndE ?_
            refine f_blockE ?_
            refine f_then ?_
            refine c_seq ?_
            refine c_seq ?_
            refine c_region ?_
            refine s_y (y_move rfl) rfl rfl rfl ?_
            refine s_y (y_nilP rfl) rfl rfl rfl ?_
            refine s_y (y_fieldAddrB Tryz.tab 1 rfl rfl rfl rfl rfl) rfl rfl rfl ?_
            refine s_y (y_load Tryz.tab rfl rfl d1) rfl rfl rfl ?_
            refine s_y (y_T (y_eql rfl rfl) (by omega)) rfl rfl rfl ?_
            refine s_nil ?_
            refine f_then ?_
            refine c_condT rfl ?_
            refine c_seq ?_
            refine c_region ?_
            refine s_y (y_assign rfl) rfl rfl rfl ?_
            refine s_nil ?_
            refine f_then ?_
            refine c_ret ?_
            refine f_thenR ?_
            exact f_ret ⟨(gi, 84), hBi, .res ch (by omega) (by first | exact hf | (rw [← hlk2]; exact hf)) (by rw [← hlk2, ← hbk2]; exact hRi _ _ (.gone (by rw [hux2, c2]))), hAi⟩ (res1 rfl rfl) (fun w h => (K.bckN (A := gi.L) (B := [[(b14, row 111 (lkc lk))]]) h).tail)
end Go.KL
end

section
/- Walks: find, moves, Room. -/
namespace Go.KL
open Go.Proofs
attribute [local irreducible] SC St Fin Sq Ylds Doos Sets Enters Spec CellIs CellsAre Then Ret Rnd Chn resOK ints bools recs arr
/-- What find returns. -/
def Bg.fnd (g : Bg) (z : Int) : Value × Nat := if 1 ≤ z ∧ z ≤ g.ts.length then (if (g.bk.tx z.toNat).st = 4 then (.pointer none, 81) else if (g.bk.tx z.toNat).st = 3 then (.pointer none, 82) else (g.ptr z.toNat, 0)) else (.pointer none, 80)
set_option maxRecDepth 10000 in
set_option maxHeartbeats 4000000 in
theorem find_b {g : Bg} {W : World} {N : List Chunk} {z : Int} (hB : g.OK) (hH : Hs (K W N) g.L.flatten) : Spec Tryz.prog 64 #[.pointer (some ⟨g.b, 0, none⟩), .int .i64 z] (K W N)
    (fun _ : Unit => .tuple #[(g.fnd z).1, .int .i64 ((g.fnd z).2 : Nat)]) (fun _ => K W N) := by
  have hus := usable_spec (hB.bf hH)
  obtain ⟨f0, f1, f2, f3, f4, f5, fq, fl, fea, fer⟩ := hB.bf hH
  clear f0 f1 f3 f4 f5 fq fl fer
  refine enter (args := [_, _]) Tryz.func64 rfl Tryz.ntmps64 rfl ?_
  by_cases c : 1 ≤ z ∧ z ≤ g.ts.length
  · obtain ⟨k, rfl⟩ : ∃ k : Nat, z = k := ⟨z.toNat, by omega⟩
    have hk : g.has k := ⟨by omega, by omega⟩
    obtain ⟨t, htm, hti, hid, hpb, htx⟩ := hB.at hk
    have hget := hB.eaG k hk
    have ef : g.fnd k = if t.st = 4 then (.pointer none, 81) else if t.st = 3 then (.pointer none, 82) else (.pointer (some ⟨t.b, 0, none⟩), 0) := by
      rw [Bg.fnd, if_pos c, Int.toNat_natCast, htx, Bg.ptr, hpb]
      rfl
    rw [Bg.ptr, hpb] at hget
    obtain ⟨d0, d1, d2, d3, d7, dl, d_o⟩ := hB.tf hH htm
    clear d0 d2 d3 d7 dl d_o
    rw [ef]
    refine c_seq ?_
    refine c_region ?_
    refine s_y (y_assign rfl) rfl rfl rfl ?_
    refine s_y (y_assign rfl) rfl rfl rfl ?_
    refine s_nil ?_
    refine f_then ?_
    refine c_seq ?_
    refine c_seq ?_
    refine c_region ?_
    refine s_y (y_move rfl) rfl rfl rfl ?_
    refine s_call (en_f rfl Tryz.call52) hus rfl rfl rfl (fun _ => ?_)
    by_cases c4 : t.st = 4
    · rw [if_pos c4]
      rw [c4] at d1
      refine s_y (y_notT rfl) rfl rfl rfl ?_
      refine s_nil ?_
      refine f_then ?_
      refine c_condF rfl ?_
      refine c_skip ?_
      refine f_then ?_
      refine c_seq ?_
      refine c_region ?_
      refine s_y (y_move rfl) rfl rfl rfl ?_
      refine s_y (y_nilP rfl) rfl rfl rfl ?_
      refine s_y (y_fieldAddrB Tryz.tab 2 rfl rfl rfl rfl rfl) rfl rfl rfl ?_
      refine s_y (y_load Tryz.tab rfl rfl f2) rfl rfl rfl ?_
      refine s_y (y_move rfl) rfl rfl rfl ?_
      refine s_y (y_lookupE Tryz.tab rfl rfl rfl rfl (fun _ => rfl) (fea) (by assumption)) rfl rfl rfl ?_
      refine s_y (y_assign rfl) rfl rfl rfl ?_
      refine s_nil ?_
      refine f_then ?_
      refine c_seq ?_
      refine c_block ?_
      refine c_seq ?_
      refine c_region ?_
      refine s_y (y_move rfl) rfl rfl rfl ?_
      refine s_y (y_eqlPN Tryz.tab rfl rfl) rfl rfl rfl ?_
      refine s_y (y_assign rfl) rfl rfl rfl ?_
      refine s_nil ?_
      refine f_then ?_
      refine c_condF rfl ?_
      refine c_seq ?_
      refine c_region ?_
      refine s_y (y_move rfl) rfl rfl rfl ?_
      refine s_y (y_nilP rfl) rfl rfl rfl ?_
      refine s_y (y_fieldAddrB Tryz.tab 1 rfl rfl rfl rfl rfl) rfl rfl rfl ?_
      refine s_y (y_load Tryz.tab rfl rfl d1) rfl rfl rfl ?_
      refine s_y (y_T (y_eql rfl rfl) (by omega)) rfl rfl rfl ?_
      refine s_y (y_assign rfl) rfl rfl rfl ?_
      refine s_nil ?_
      refine f_then ?_
      refine c_condT rfl ?_
      refine c_seq ?_
      refine c_region ?_
      refine s_y (y_assign rfl) rfl rfl rfl ?_
      refine s_y (y_assign rfl) rfl rfl rfl ?_
      refine s_nil ?_
      refine f_then ?_
      refine c_ret ?_
      refine f_blockR ?_
      refine f_thenR ?_
      exact f_ret () (res2 rfl rfl rfl) (fun w h => h)
    · rw [if_neg c4]
      by_cases c3 : t.st = 3
      · rw [if_pos c3]
        rw [c3] at d1
        refine s_y (y_notT rfl) rfl rfl rfl ?_
        refine s_nil ?_
        refine f_then ?_
        refine c_condF rfl ?_
        refine c_skip ?_
        refine f_then ?_
        refine c_seq ?_
        refine c_region ?_
        refine s_y (y_move rfl) rfl rfl rfl ?_
        refine s_y (y_nilP rfl) rfl rfl rfl ?_
        refine s_y (y_fieldAddrB Tryz.tab 2 rfl rfl rfl rfl rfl) rfl rfl rfl ?_
        refine s_y (y_load Tryz.tab rfl rfl f2) rfl rfl rfl ?_
        refine s_y (y_move rfl) rfl rfl rfl ?_
        refine s_y (y_lookupE Tryz.tab rfl rfl rfl rfl (fun _ => rfl) (fea) (by assumption)) rfl rfl rfl ?_
        refine s_y (y_assign rfl) rfl rfl rfl ?_
        refine s_nil ?_
        refine f_then ?_
        refine c_seq ?_
        refine c_block ?_
        refine c_seq ?_
        refine c_region ?_
        refine s_y (y_move rfl) rfl rfl rfl ?_
        refine s_y (y_eqlPN Tryz.tab rfl rfl) rfl rfl rfl ?_
        refine s_y (y_assign rfl) rfl rfl rfl ?_
        refine s_nil ?_
        refine f_then ?_
        refine c_condF rfl ?_
        refine c_seq ?_
        refine c_region ?_
        refine s_y (y_move rfl) rfl rfl rfl ?_
        refine s_y (y_nilP rfl) rfl rfl rfl ?_
        refine s_y (y_fieldAddrB Tryz.tab 1 rfl rfl rfl rfl rfl) rfl rfl rfl ?_
        refine s_y (y_load Tryz.tab rfl rfl d1) rfl rfl rfl ?_
        refine s_y (y_F (y_eql rfl rfl) (by omega)) rfl rfl rfl ?_
        refine s_y (y_assign rfl) rfl rfl rfl ?_
        refine s_nil ?_
        refine f_then ?_
        refine c_condF rfl ?_
        refine c_seq ?_
        refine c_region ?_
        refine s_y (y_move rfl) rfl rfl rfl ?_
        refine s_y (y_nilP rfl) rfl rfl rfl ?_
        refine s_y (y_fieldAddrB Tryz.tab 1 rfl rfl rfl rfl rfl) rfl rfl rfl ?_
        refine s_y (y_load Tryz.tab rfl rfl d1) rfl rfl rfl ?_
        refine s_y (y_T (y_eql rfl rfl) (by omega)) rfl rfl rfl ?_
        refine s_y (y_assign rfl) rfl rfl rfl ?_
        refine s_nil ?_
        refine f_then ?_
        refine c_condT rfl ?_
        refine c_seq ?_
        refine c_region ?_
        refine s_y (y_assign rfl) rfl rfl rfl ?_
        refine s_y (y_assign rfl) rfl rfl rfl ?_
        refine s_nil ?_
        refine f_then ?_
        refine c_ret ?_
        refine f_blockR ?_
        refine f_thenR ?_
        exact f_ret () (res2 rfl rfl rfl) (fun w h => h)
      · rw [if_neg c3]
        refine s_y (y_notT rfl) rfl rfl rfl ?_
        refine s_nil ?_
        refine f_then ?_
        refine c_condF rfl ?_
        refine c_skip ?_
        refine f_then ?_
        refine c_seq ?_
        refine c_region ?_
        refine s_y (y_move rfl) rfl rfl rfl ?_
        refine s_y (y_nilP rfl) rfl rfl rfl ?_
        refine s_y (y_fieldAddrB Tryz.tab 2 rfl rfl rfl rfl rfl) rfl rfl rfl ?_
        refine s_y (y_load Tryz.tab rfl rfl f2) rfl rfl rfl ?_
        refine s_y (y_move rfl) rfl rfl rfl ?_
        refine s_y (y_lookupE Tryz.tab rfl rfl rfl rfl (fun _ => rfl) (fea) (by assumption)) rfl rfl rfl ?_
        refine s_y (y_assign rfl) rfl rfl rfl ?_
        refine s_nil ?_
        refine f_then ?_
        refine c_seq ?_
        refine c_block ?_
        refine c_seq ?_
        refine c_region ?_
        refine s_y (y_move rfl) rfl rfl rfl ?_
        refine s_y (y_eqlPN Tryz.tab rfl rfl) rfl rfl rfl ?_
        refine s_y (y_assign rfl) rfl rfl rfl ?_
        refine s_nil ?_
        refine f_then ?_
        refine c_condF rfl ?_
        refine c_seq ?_
        refine c_region ?_
        refine s_y (y_move rfl) rfl rfl rfl ?_
        refine s_y (y_nilP rfl) rfl rfl rfl ?_
        refine s_y (y_fieldAddrB Tryz.tab 1 rfl rfl rfl rfl rfl) rfl rfl rfl ?_
        refine s_y (y_load Tryz.tab rfl rfl d1) rfl rfl rfl ?_
        refine s_y (y_F (y_eql rfl rfl) (by omega)) rfl rfl rfl ?_
        refine s_y (y_assign rfl) rfl rfl rfl ?_
        refine s_nil ?_
        refine f_then ?_
        refine c_condF rfl ?_
        refine c_seq ?_
        refine c_region ?_
        refine s_y (y_move rfl) rfl rfl rfl ?_
        refine s_y (y_nilP rfl) rfl rfl rfl ?_
        refine s_y (y_fieldAddrB Tryz.tab 1 rfl rfl rfl rfl rfl) rfl rfl rfl ?_
        refine s_y (y_load Tryz.tab rfl rfl d1) rfl rfl rfl ?_
        refine s_y (y_F (y_eql rfl rfl) (by omega)) rfl rfl rfl ?_
        refine s_y (y_assign rfl) rfl rfl rfl ?_
        refine s_nil ?_
        refine f_then ?_
        refine c_condF rfl ?_
        refine c_skip ?_
        refine f_blockN ?_
        refine f_then ?_
        refine c_seq ?_
        refine c_region ?_
        refine s_y (y_move rfl) rfl rfl rfl ?_
        refine s_y (y_assign rfl) rfl rfl rfl ?_
        refine s_y (y_assign rfl) rfl rfl rfl ?_
        refine s_nil ?_
        refine f_then ?_
        refine c_ret ?_
        exact f_ret () (res2 rfl rfl rfl) (fun w h => h)
  · have ef : g.fnd z = (.pointer none, 80) := by rw [Bg.fnd, if_neg c]
    have hget : mget z (.pointer none) g.ea = .pointer none := mget_out (by rw [hB.eaH]; exact decide_eq_false c)
    rw [ef]
    refine c_seq ?_
    refine c_region ?_
    refine s_y (y_assign rfl) rfl rfl rfl ?_
    refine s_y (y_assign rfl) rfl rfl rfl ?_
    refine s_nil ?_
    refine f_then ?_
    refine c_seq ?_
    refine c_seq ?_
    refine c_region ?_
    refine s_y (y_move rfl) rfl rfl rfl ?_
    refine s_call (en_f rfl Tryz.call52) hus rfl rfl rfl (fun _ => ?_)
    refine s_y (y_notT rfl) rfl rfl rfl ?_
    refine s_nil ?_
    refine f_then ?_
    refine c_condF rfl ?_
    refine c_skip ?_
    refine f_then ?_
    refine c_seq ?_
    refine c_region ?_
    refine s_y (y_move rfl) rfl rfl rfl ?_
    refine s_y (y_nilP rfl) rfl rfl rfl ?_
    refine s_y (y_fieldAddrB Tryz.tab 2 rfl rfl rfl rfl rfl) rfl rfl rfl ?_
    refine s_y (y_load Tryz.tab rfl rfl f2) rfl rfl rfl ?_
    refine s_y (y_move rfl) rfl rfl rfl ?_
    refine s_y (y_lookupE Tryz.tab rfl rfl rfl rfl (fun _ => rfl) (fea) (by assumption)) rfl rfl rfl ?_
    refine s_y (y_assign rfl) rfl rfl rfl ?_
    refine s_nil ?_
    refine f_then ?_
    refine c_seq ?_
    refine c_block ?_
    refine c_seq ?_
    refine c_region ?_
    refine s_y (y_move rfl) rfl rfl rfl ?_
    refine s_y (y_eqlPN Tryz.tab rfl rfl) rfl rfl rfl ?_
    refine s_y (y_assign rfl) rfl rfl rfl ?_
    refine s_nil ?_
    refine f_then ?_
    refine c_condT rfl ?_
    refine c_seq ?_
    refine c_region ?_
    refine s_y (y_assign rfl) rfl rfl rfl ?_
    refine s_y (y_assign rfl) rfl rfl rfl ?_
    refine s_nil ?_
    refine f_then ?_
    refine c_ret ?_
    refine f_blockR ?_
    refine f_thenR ?_
    exact f_ret () (res2 rfl rfl rfl) (fun w h => h)
theorem mvs_take {os : List Ov} {i : Nat} {x : Ov} (h : os[i]? = some x) : mvs (ops (os.take (i + 1))) = mvs (ops (os.take i)) + (if x.1.mv then 1 else 0) := by
  rw [List.take_add_one, h]
  unfold mvs ops
  rw [List.map_append, List.filter_append, List.length_append]
  congr 1
  cases hm : x.1.mv <;> simp [hm]
set_option maxRecDepth 10000 in
set_option maxHeartbeats 4000000 in
theorem moves_b {t : Tg} {W : World} {N : List Chunk} (hF : TF (K W N) t) (hol : t.os.length < 1000000) (hov : ∀ x ∈ t.os, x.2.oneCell' = true) : Spec Tryz.prog 53 #[.pointer (some ⟨t.b, 0, none⟩)] (K W N) (fun _ : Unit => .int .i64 (mvs (ops t.os) : Nat)) (fun _ => K W N) := by
  obtain ⟨e0, e1, e2, e3, e7, el, eo⟩ := hF
  have hl2 : (opl t.os).length = t.os.length := List.length_map _
  have hml : ∀ i, mvs (ops (t.os.take i)) ≤ t.os.length := fun i => by
    refine Nat.le_trans (List.length_filter_le _ _) ?_
    rw [List.length_map]
    exact List.length_take_le' i _
  clear e0 e1 e2 e3 el
  refine enter (args := [_]) Tryz.func53 rfl Tryz.ntmps53 rfl ?_
  refine c_seq ?_
  refine c_region ?_
  refine s_y (y_assign rfl) rfl rfl rfl ?_
  refine s_nil ?_
  refine f_then ?_
  refine c_seq ?_
  refine c_region ?_
  refine s_y (y_assign rfl) rfl rfl rfl ?_
  refine s_nil ?_
  refine f_then ?_
  refine c_seq ?_
  refine c_seq ?_
  refine c_region ?_
  refine s_y (y_move rfl) rfl rfl rfl ?_
  refine s_y (y_nilP rfl) rfl rfl rfl ?_
  refine s_y (y_fieldAddrB Tryz.tab 7 rfl rfl rfl rfl rfl) rfl rfl rfl ?_
  refine s_y (y_load Tryz.tab rfl rfl e7) rfl rfl rfl ?_
  refine s_y (y_lenE Tryz.tab rfl (eo) rfl) rfl rfl rfl ?_
  refine s_y (y_move rfl) rfl rfl rfl ?_
  refine s_nil ?_
  refine f_then ?_
  refine c_block ?_
  refine c_loopP (α := Nat) (fun z => [(3, .int .i64 (mvs (ops (t.os.take z)) : Nat)), (9, t.ov), (10, .int .i64 (opl t.os).length), (11, .int .i64 (z : Nat))])
    (fun z => z ≤ t.os.length) (fun _ => K W N) (fun z => t.os.length - z) 0 ⟨rfl, rfl, rfl, rfl, trivial⟩ (Nat.zero_le _) (fun w h => h) ?_
  intro i hi
  by_cases c1 : i < t.os.length
  · obtain ⟨x, hx⟩ : ∃ x, t.os[i]? = some x := ⟨t.os[i], by simp [c1]⟩
    have hcx := eo.row (opl_get hx)
    have hm := mvs_take hx
    have hmi := hml i
    have hrv := hov x (List.mem_of_getElem? hx)
    refine c_seq ?_
    refine c_region ?_
    refine s_y (y_T (y_lss rfl rfl) (by omega)) rfl rfl rfl ?_
    refine s_nil ?_
    refine f_then ?_
    refine c_seq ?_
    refine c_condT rfl ?_
    refine c_skip ?_
    refine f_then ?_
    refine c_seq ?_
    refine c_block ?_
    refine c_seq ?_
    refine c_region ?_
    refine s_y (y_ixE Tryz.tab rfl rfl rfl rfl (eo) _ rfl (by omega)) rfl rfl rfl ?_
    refine s_y (y_loadA Tryz.tab rfl rfl rfl rfl hcx) rfl rfl rfl ?_
    refine s_do (do_alloc Tryz.tab rfl) rfl rfl rfl (fun b5 => ?_)
    refine s_set (set_box Tryz.tab 0 rfl rfl (opc_one hrv) rfl rfl rfl rfl) rfl rfl ?_
    refine s_nil ?_
    refine f_then ?_
    refine c_seq ?_
    refine c_region ?_
    refine s_y (y_fieldAddr0 Tryz.tab rfl rfl rfl rfl rfl) rfl rfl rfl ?_
    refine s_y (y_load Tryz.tab rfl rfl (cell_row 0 rfl rfl)) rfl rfl rfl ?_
    refine s_nil ?_
    refine f_then ?_
    cases hmv : x.1.mv with
    | true =>
      rw [hmv, if_pos rfl] at hm
      refine c_condT rfl ?_
      refine c_region ?_
      refine s_y (y_move rfl) rfl rfl rfl ?_
      refine s_y (y_add rfl rfl (by omega)) rfl rfl rfl ?_
      refine s_y (y_assign rfl) rfl rfl rfl ?_
      refine s_nil ?_
      refine f_blockN ?_
      refine f_then ?_
      refine c_region ?_
      refine s_y (y_add rfl rfl (by omega)) rfl rfl rfl ?_
      refine s_y (y_move rfl) rfl rfl rfl ?_
      refine s_nil ?_
      exact f_roundP (i + 1) c1 (by omega) ⟨congrArg (fun z : Nat => some (Value.int .i64 (z : Int))) hm.symm, rfl, rfl, rfl, trivial⟩ (fun w h => h.tail)
    | false =>
      rw [hmv, if_neg (by decide)] at hm
      refine c_condF rfl ?_
      refine c_skip ?_
      refine f_blockN ?_
      refine f_then ?_
      refine c_region ?_
      refine s_y (y_add rfl rfl (by omega)) rfl rfl rfl ?_
      refine s_y (y_move rfl) rfl rfl rfl ?_
      refine s_nil ?_
      exact f_roundP (i + 1) c1 (by omega) ⟨congrArg (fun z : Nat => some (Value.int .i64 (z : Int))) hm.symm, rfl, rfl, rfl, trivial⟩ (fun w h => h.tail)
  · obtain rfl : i = t.os.length := by omega
    have hmi := hml t.os.length
    rw [List.take_length] at hmi ⊢
    refine c_seq ?_
    refine c_region ?_
    refine s_y (y_F (y_lss rfl rfl) (by omega)) rfl rfl rfl ?_
    refine s_nil ?_
    refine f_then ?_
    refine c_seq ?_
    refine c_condF rfl ?_
    refine c_exit ?_
    refine f_thenE ?_
    refine f_rndE ?_
    refine f_blockE ?_
    refine f_then ?_
    refine c_seq ?_
    refine c_region ?_
    refine s_y (y_move rfl) rfl rfl rfl ?_
    refine s_y (y_assign rfl) rfl rfl rfl ?_
    refine s_nil ?_
    refine f_then ?_
    refine c_ret ?_
    exact f_ret () (res1 rfl rfl) (fun w h => h)
/-- A sum over the entries that were seen. -/
def sumS (f : Ent → Nat) (seen : Array Nat) (es : List Ent) : Nat := ((es.filter fun e => decide (e.2.2 ∈ seen)).map f).sum
theorem sumS_nil {f : Ent → Nat} {es : List Ent} : sumS f #[] es = 0 := by
  rw [sumS, List.filter_eq_nil_iff.2 (fun e _ => by simp)]
  rfl
theorem sumS_all {f : Ent → Nat} {es : List Ent} {seen : Array Nat} (h : ∀ e ∈ es, e.2.2 ∈ seen) : sumS f seen es = (es.map f).sum := by
  rw [sumS, List.filter_eq_self.2 fun e he => decide_eq_true (h e he)]
theorem sumS_skip {f : Ent → Nat} {b : Nat} {seen : Array Nat} : ∀ {es : List Ent}, (∀ e ∈ es, e.2.2 ≠ b) → sumS f (seen.push b) es = sumS f seen es
  | [], _ => rfl
  | a :: r, h => by
    have ih := sumS_skip (f := f) (seen := seen) (es := r) fun e he => h e (List.mem_cons_of_mem _ he)
    have ha := h a (List.mem_cons_self ..)
    unfold sumS at ih ⊢
    rw [List.filter_cons, List.filter_cons]
    by_cases c : a.2.2 ∈ seen
    · rw [if_pos (decide_eq_true (Array.mem_push.2 (.inl c))), if_pos (decide_eq_true c), List.map_cons, List.map_cons, List.sum_cons, List.sum_cons, ih]
    · rw [if_neg (by simp only [decide_eq_true_eq]; exact fun hm => (Array.mem_push.1 hm).elim c ha), if_neg (by simp only [decide_eq_true_eq]; exact c), ih]
theorem sumS_push {f : Ent → Nat} {x : Ent} {seen : Array Nat} : ∀ {es : List Ent}, (es.map (·.2.2)).Nodup → x ∈ es → x.2.2 ∉ seen → sumS f (seen.push x.2.2) es = sumS f seen es + f x
  | [], _, h, _ => by simp at h
  | a :: r, hn, hx, hs => by
    rw [List.map_cons, List.nodup_cons] at hn
    rcases List.mem_cons.1 hx with rfl | hx
    · have h1 := sumS_skip (f := f) (b := x.2.2) (seen := seen) (es := r) fun e he e2 => hn.1 (by rw [← e2]; exact List.mem_map.2 ⟨e, he, rfl⟩)
      unfold sumS at h1 ⊢
      rw [List.filter_cons, List.filter_cons, if_pos (decide_eq_true (Array.mem_push.2 (.inr rfl))), if_neg (by simp only [decide_eq_true_eq]; exact hs), List.map_cons, List.sum_cons, h1, Nat.add_comm]
    · have ih := sumS_push (f := f) (seen := seen) hn.2 hx hs
      have hne : a.2.2 ≠ x.2.2 := fun e => hn.1 (by rw [e]; exact List.mem_map.2 ⟨x, hx, rfl⟩)
      unfold sumS at ih ⊢
      rw [List.filter_cons, List.filter_cons]
      by_cases c : a.2.2 ∈ seen
      · rw [if_pos (decide_eq_true (Array.mem_push.2 (.inl c))), if_pos (decide_eq_true c), List.map_cons, List.map_cons, List.sum_cons, List.sum_cons, ih, Nat.add_assoc]
      · rw [if_neg (by simp only [decide_eq_true_eq]; exact fun hm => (Array.mem_push.1 hm).elim c hne), if_neg (by simp only [decide_eq_true_eq]; exact c), ih]
theorem sumS_le {f : Ent → Nat} {seen : Array Nat} : ∀ {es : List Ent}, sumS f seen es ≤ (es.map f).sum
  | [] => Nat.le_refl _
  | a :: r => by
    have ih := sumS_le (f := f) (seen := seen) (es := r)
    unfold sumS at ih ⊢
    rw [List.filter_cons]
    split
    · rw [List.map_cons, List.sum_cons, List.map_cons, List.sum_cons]; omega
    · rw [List.map_cons, List.sum_cons]; omega
abbrev Bg.mvE (g : Bg) (e : Ent) : Nat := mvs (g.bk.tx e.1.toNat).ops
theorem mvE_sum {g : Bg} (h : g.OK) : (g.er.map g.mvE).sum = g.bk.moves := by
  have e1 : g.er.map g.mvE = (g.er.map (·.1)).map fun z : Int => mvs (g.bk.tx z.toNat).ops := by rw [List.map_map]; rfl
  rw [e1, h.er_keys, List.map_map]
  rfl
set_option maxRecDepth 10000 in
set_option maxHeartbeats 8000000 in
theorem room_b {g : Bg} {W : World} {N : List Chunk} (hB : g.OK) (hol : ∀ t ∈ g.ts, t.os.length < 1000000) (hr : nbd g.C g.size + 2 * g.bk.moves ≤ 4096) : Spec Tryz.prog 17 #[.pointer (some ⟨g.b, 0, none⟩)] (K W (g.L ++ N)) (fun _ : Unit => .int .i64 (g.bk.room : Nat)) (fun _ => K W (g.L ++ N)) := by
  have hus := usable_spec (hB.bf (C := K W (g.L ++ N)) Hs.bk)
  obtain ⟨f0, f1, f2, f3, f4, f5, fq, fl, fea, fer⟩ := hB.bf (C := K W (g.L ++ N)) Hs.bk
  have hms : Spec Tryz.prog 37 #[.agg #[g.cv]] (K W (g.L ++ N)) (fun _ : Unit => .int .i64 (nbd g.C g.size : Nat)) (fun _ => K W (g.L ++ N)) := mlen_spec (R := [(g.b, row 96 g.cells)] :: [(g.ba, mobj g.ea g.ca)] :: [(g.br, mobj g.er g.cr)] :: g.qc :: g.lc :: (g.ts.flatMap Tg.chunks ++ N)) hB.mC
  have f0' := CellsAre.one f0
  clear f0 f1 f2 f4 f5 fq fl fea fer
  have hsum := mvE_sum hB
  refine enter (args := [_]) Tryz.func17 rfl Tryz.ntmps17 rfl ?_
  refine c_seq ?_
  refine c_region ?_
  refine s_y (y_assign rfl) rfl rfl rfl ?_
  refine s_nil ?_
  refine f_then ?_
  refine c_seq ?_
  refine c_seq ?_
  refine c_region ?_
  refine s_y (y_move rfl) rfl rfl rfl ?_
  refine s_call (en_f rfl Tryz.call52) hus rfl rfl rfl (fun _ => ?_)
  refine s_y (y_notT rfl) rfl rfl rfl ?_
  refine s_nil ?_
  refine f_then ?_
  refine c_condF rfl ?_
  refine c_skip ?_
  refine f_then ?_
  refine c_seq ?_
  refine c_region ?_
  refine s_y (y_move rfl) rfl rfl rfl ?_
  refine s_y (y_nilP rfl) rfl rfl rfl ?_
  refine s_y (y_fieldAddr0 Tryz.tab rfl rfl rfl rfl rfl) rfl rfl rfl ?_
  refine s_y (y_loadA Tryz.tab rfl rfl rfl rfl f0') rfl rfl rfl ?_
  refine s_call (en_f rfl Tryz.call37) hms rfl rfl rfl (fun _ => ?_)
  refine s_y (y_sub rfl rfl (by omega)) rfl rfl rfl ?_
  refine s_y (y_assign rfl) rfl rfl rfl ?_
  refine s_nil ?_
  refine f_then ?_
  refine c_seq ?_
  refine c_seq ?_
  refine c_region ?_
  refine s_y (y_move rfl) rfl rfl rfl ?_
  refine s_y (y_nilP rfl) rfl rfl rfl ?_
  refine s_y (y_fieldAddrB Tryz.tab 3 rfl rfl rfl rfl rfl) rfl rfl rfl ?_
  refine s_y (y_load Tryz.tab rfl rfl f3) rfl rfl rfl ?_
  refine s_do (do_range Tryz.tab 3 rfl rfl rfl) rfl rfl rfl (fun r => ?_)
  refine s_nil ?_
  refine f_then ?_
  refine c_block ?_
  refine c_loopP (α := Array Nat) (fun z => [(3, .int .i64 (4096 - (nbd g.C g.size : Nat) - 2 * (sumS g.mvE z g.er : Nat) : Int)), (19, .pointer (some ⟨r, 0, none⟩))])
    (fun _ => True) (fun z => K W ([(r, mit g.br g.cr z)] :: (g.L ++ N))) (fun z => leftN g.er z) #[]
    ⟨congrArg (fun z => some (Value.int .i64 z)) (by rw [sumS_nil]; omega), rfl, trivial⟩ trivial (fun w h => h) ?_
  intro seen _
  have hle := sumS_le (f := g.mvE) (seen := seen) (es := g.er)
  rw [hsum] at hle
  refine c_seq ?_
  refine c_region ?_
  refine s_do (do_next 0 4 rfl rfl rfl hB.erM.old) rfl rfl rfl (fun x => ?_)
  obtain ⟨_ | e, hx⟩ := x
  · dsimp only [nextV, nextLs]
    have hall := sumS_all (f := g.mvE) hx
    rw [hsum] at hall
    rw [hall]
    have hrm : (g.bk.room : Int) = (4096 - (nbd g.C g.size : Nat) - 2 * (g.bk.moves : Nat)) / 2 := by
      rw [Bk.room]
      show ((((4096 - nbd g.C g.size - 2 * g.bk.moves) / 2 : Nat)) : Int) = _
      omega
    refine s_y (y_extract rfl rfl) rfl rfl rfl ?_
    refine s_nil ?_
    refine f_then ?_
    refine c_seq ?_
    refine c_condF rfl ?_
    refine c_exit ?_
    refine f_thenE ?_
    refine f_rndE ?_
    refine f_blockE ?_
    refine f_then ?_
    refine c_seq ?_
    refine c_region ?_
    refine s_y (y_move rfl) rfl rfl rfl ?_
    refine s_y (y_quo rfl rfl (by omega)) rfl rfl rfl ?_
    refine s_y (y_max rfl rfl) rfl rfl rfl ?_
    refine s_y (y_assign rfl) rfl rfl rfl ?_
    refine s_nil ?_
    refine f_then ?_
    refine c_ret ?_
    exact f_ret () (res1 rfl (congrArg (fun z => some (Value.int .i64 z)) (by rw [hrm]; exact Int.max_eq_right (by omega)))) (fun w h => h.tail)
  · obtain ⟨hx1, hx2⟩ := hx
    dsimp only [nextV, nextLs]
    have hek : (e.1, e.2.1) ∈ g.rn.map (fun k : Nat => ((k : Int), g.ptr k)) := by
      rw [← hB.erE]; exact List.mem_map.2 ⟨e, hx1, rfl⟩
    obtain ⟨k, hkr, hke⟩ := List.mem_map.1 hek
    simp only [Prod.mk.injEq] at hke
    obtain ⟨t, htm, _, _, hpb, htx⟩ := hB.at (hB.rnh k hkr)
    have hm := leftN_lt hx1 hx2
    have hsp := sumS_push (f := g.mvE) hB.erM.born hx1 hx2
    have hmv : g.mvE e = mvs (ops t.os) := by
      rw [Bg.mvE, ← hke.1, Int.toNat_natCast, htx]; rfl
    rw [hmv] at hsp
    have hle2 := sumS_le (f := g.mvE) (seen := seen.push e.2.2) (es := g.er)
    rw [hsum, hsp] at hle2
    refine St.cls (C' := K W ([(r, mit g.br g.cr (seen.push e.2.2))] :: (g.L ++ N))) ?_ (fun w h => h)
    have hmb := moves_b (W := W) (N := [(r, mit g.br g.cr (seen.push e.2.2))] :: (g.L ++ N)) (hB.tf Hs.bk.cons htm) (hol t htm) (fun x hx => ((hB.ok t htm).r x hx).one)
    refine s_y (y_extract rfl rfl) rfl rfl rfl ?_
    refine s_nil ?_
    refine f_then ?_
    refine c_seq ?_
    refine c_condT rfl ?_
    refine c_skip ?_
    refine f_then ?_
    refine c_block ?_
    refine c_seq ?_
    refine c_region ?_
    refine s_y (y_entry 0 4 (e := e) rfl rfl rfl hx1 hB.erM.born) rfl rfl rfl ?_
    rw [← hke.2, Bg.ptr, hpb]
    refine s_y (y_extract rfl rfl) rfl rfl rfl ?_
    refine s_y (y_assign rfl) rfl rfl rfl ?_
    refine s_nil ?_
    refine f_then ?_
    refine c_region ?_
    refine s_y (y_move rfl) rfl rfl rfl ?_
    refine s_y (y_move rfl) rfl rfl rfl ?_
    refine s_call (en_f rfl Tryz.call53) hmb rfl rfl rfl (fun _ => ?_)
    refine s_y (y_mul rfl rfl (by omega)) rfl rfl rfl ?_
    refine s_y (y_sub rfl rfl (by omega)) rfl rfl rfl ?_
    refine s_y (y_assign rfl) rfl rfl rfl ?_
    refine s_nil ?_
    refine f_blockN ?_
    exact f_roundP (seen.push e.2.2) trivial hm ⟨congrArg (fun z => some (Value.int .i64 z)) (by rw [hsp]; omega), rfl, trivial⟩ (fun w h => h)
end Go.KL
end

section
/- Drawn regions that have a call and a new box, in either order. No program in sight. -/
namespace Go.KL
section
variable {P : Program} {n : Nat} {σ : Slots} {C D : World → Prop} {Q : Post} {ops : Array Oper} {dr : Nat → Bool}
/-- Two are left to choose from, each with its own plan behind it. -/
def brB (ops : Array Oper) (dr : Nat → Bool) (i j : Nat) (p1 p2 : List PS) (listed : Array Bool) : Bool :=
  (Region.ready .any ops listed) == [i, j] && planB ops dr p1 (listed.setIfInBounds i true) && planB ops dr p2 (listed.setIfInBounds j true)
/-- Quiet ones first. -/
def planW (ops : Array Oper) (dr : Nat → Bool) (i j : Nat) (p1 p2 : List PS) : List Nat → Array Bool → Bool
  | [], listed => brB ops dr i j p1 p2 listed
  | k :: r, listed => (Region.ready .any ops listed).contains k && freeD ops dr listed k && planW ops dr i j p1 p2 r (listed.setIfInBounds k true)
def SdW (P : Program) (n : Nat) (ops : Array Oper) (dr : Nat → Bool) (D : World → Prop) (Q : Post) (i j : Nat) (p1 p2 : List PS) (ks : List Nat) (σ : Slots) (C : World → Prop) : Prop :=
  ∀ listed a, Env n σ a → DC ops listed → planW ops dr i j p1 p2 ks listed = true → (∀ (j : Nat) (o : Oper) cs b, ops[j]? = some o → o.op ≠ .select cs b) → AnyC P ops dr D Q (planLen p1 + 1 + ks.length) listed a C
theorem c_planW (i j : Nat) (ks : List Nat) (p1 p2 : List PS) (D : World → Prop) {id : Nat} {l : List Oper} (hm : P.follows .mixedOrders = true) (hsB : (Region.noSelect l.toArray && planW l.toArray (drOf []) i j p1 p2 ks (Array.replicate l.toArray.size false)) = true) (hl : planLen p1 + 1 + ks.length = l.toArray.size)
    (hC : Cl C) (h : SdW P n l.toArray (drOf []) D Q i j p1 p2 ks σ C) : SC P n Q (.region id l.toArray true) σ C := by
  obtain ⟨hs, hB⟩ := Bool.and_eq_true_iff.1 hsB
  intro a w hE hw
  refine wpIn_region_any hm ?_
  have h1 := h _ a hE (fun j hj => by simp [Array.getElem?_replicate] at hj; split at hj <;> simp at hj) hB (Region.noSelect_spec hs)
  rw [hl] at h1
  exact wpAny_of_AnyC _ _ _ _ h1 _ (hC _ _ hw (Ext.drew w))
theorem w_c {i j : Nat} {p1 p2 : List PS} {k : Nat} {ks : List Nat} {o : Oper} {v : Value} {d : Nat} (hi : ops[k]? = some o) (hy : Qui P n σ D o v) (hg : gd ops σ o = some true) (hd : o.dst = some d) (hn : Nat.blt d n = true) (hCD : ∀ w, C w → D w) (hCl : Cl C)
    (r : SdW P n ops dr D Q i j p1 p2 ks ((d, v) :: σ) C) : SdW P n ops dr D Q i j p1 p2 (k :: ks) σ C := by
  intro listed a hE hdc hB hs
  simp only [planW, Bool.and_eq_true] at hB
  obtain ⟨⟨h1, h2⟩, h3⟩ := hB
  refine AnyC_first hi hs _ _ _ _ (freeD_spec hi h2) hdc (by simpa using h1) (.inl ⟨gd_wanted hE hg, fun w hw => hy a w hE hw⟩) hCD hCl ?_
  rw [hd]
  exact r _ _ (hE.put hn v) (hdc.set (ready_PL (by simpa using h1))) h3 hs
theorem w_br {i j : Nat} {p1 p2 : List PS} {oi oj : Oper} {X Y : Type} {v : X → Value} {u : Y → Value} {Ci : X → World → Prop} {Cj : Y → World → Prop} {di dj : Nat} {f : FuncId} {args : Array Value}
    (hi : ops[i]? = some oi) (hj : ops[j]? = some oj) (hl : planLen p1 = planLen p2) (he : Enters P n σ C oi f args) (hsp : Spec P f args C v Ci) (hgi : gd ops σ oi = some true) (hgj : gd ops σ oj = some true) (hdi : oi.dst = some di) (hdj : oj.dst = some dj) (hni : Nat.blt di n = true) (hnj : Nat.blt dj n = true)
    (hy : Doos P n σ C oj u Cj) (c1 : ∀ x, Cl (Ci x)) (c2 : ∀ y, Cl (Cj y)) (e1 : dr i = true → ∀ x w, Ci x w → D w) (e2 : dr j = true → ∀ y w, Cj y w → D w)
    (k1 : ∀ x, Sd P n ops dr D Q p1 ((di, v x) :: σ) (Ci x)) (k2 : ∀ y, Sd P n ops dr D Q p2 ((dj, u y) :: σ) (Cj y)) : SdW P n ops dr D Q i j p1 p2 [] σ C := by
  intro listed a hE hdc hB hs
  simp only [planW, brB, Bool.and_eq_true, beq_iff_eq] at hB
  obtain ⟨⟨r1, b1⟩, b2⟩ := hB
  refine ⟨fun h => (by rw [h] at r1; cases r1), fun m hm o ho => ?_⟩
  rw [r1] at hm
  simp only [List.mem_cons, List.not_mem_nil, or_false] at hm
  rcases hm with rfl | rfl
  · rw [hi] at ho
    obtain rfl := Option.some.inj ho
    refine .inl ⟨gd_wanted hE hgi, X, v, Ci, fun w hw => ?_, fun x => ⟨c1 x, (fun h => e1 h x), ?_⟩⟩
    · unfold Out
      rw [he a w hE hw]
      exact (hsp w hw).mono fun e w' ⟨x, h1, h2⟩ => ⟨v x, h1, x, rfl, h2⟩
    · rw [hdi]
      exact k1 x _ _ (hE.put hni _) (hdc.set (ready_PL (by rw [r1]; simp))) b1 hs
  · rw [hj] at ho
    obtain rfl := Option.some.inj ho
    refine .inl ⟨gd_wanted hE hgj, Y, u, Cj, hy.out hE, fun y => ⟨c2 y, (fun h => e2 h y), ?_⟩⟩
    rw [hdj]
    have := k2 y _ _ (hE.put hnj _) (hdc.set (ready_PL (by rw [r1]; simp))) b2 hs
    rw [← hl] at this
    exact this
theorem AnyC_cls : ∀ (f : Nat) (listed : Array Bool) (a : Act) (C C' : World → Prop), AnyC P ops dr D Q f listed a C' → (∀ w, C w → C' w) → AnyC P ops dr D Q f listed a C
  | 0, _, _, _, _, h, hC => ⟨h.1, fun w hw => h.2 w (hC w hw)⟩
  | f + 1, listed, a, C, C', h, hC => by
    refine ⟨fun h0 w hw => h.1 h0 w (hC w hw), fun i hi o ho => ?_⟩
    rcases h.2 i hi o ho with ⟨hwt, X, v, C2, h1, h2⟩ | ⟨hwt, h2⟩
    · exact .inl ⟨hwt, X, v, C2, fun w hw => h1 w (hC w hw), h2⟩
    · exact .inr ⟨hwt, fun hd w hw => h2.1 hd w (hC w hw), AnyC_cls f _ _ C C' h2.2 hC⟩
theorem Sd.cls {plan : List PS} {C' : World → Prop} (h : Sd P n ops dr D Q plan σ C') (hC : ∀ w, C w → C' w) : Sd P n ops dr D Q plan σ C := by
  intro listed a hE hdc hB hs
  have := h listed a hE hdc hB hs
  exact AnyC_cls _ _ _ _ _ this hC
end
end Go.KL
end

section
/- Walks: kindOf, look, move. -/
namespace Go.KL
open Go.Proofs
attribute [local irreducible] SC St Fin Sq Ylds Doos Sets Enters Spec CellIs CellsAre Then Ret Rnd Chn resOK ints bools recs arr
set_option maxRecDepth 10000 in
set_option maxHeartbeats 4000000 in
theorem kind_spec {mv : Bool} {lo hi fr to : Int} {rv : Value} {W : World} {N : List Chunk} : Spec Tryz.prog 91 #[.agg #[.bool mv, .int .i64 lo, .int .i64 hi, .int .i64 fr, .int .i64 to, rv]] (K W N) (fun _ : Unit => .agg #[.bool mv, .func (.func (if mv then 108 else 107)) #[] #[]]) (fun _ => K W N) := by
  refine enter (args := [_]) Tryz.func91 rfl Tryz.ntmps91 rfl ?_
  refine c_seq ?_
  refine c_region ?_
  refine s_do (do_box rfl) rfl rfl rfl (fun b1 => ?_)
  refine s_do (do_alloc Tryz.tab rfl) rfl rfl rfl (fun b2 => ?_)
  refine s_nil ?_
  refine f_then ?_
  refine c_seq ?_
  refine c_region ?_
  refine s_y (y_build Tryz.tab rfl rfl rfl rfl rfl) rfl rfl rfl ?_
  refine s_y (y_build Tryz.tab rfl rfl rfl rfl rfl) rfl rfl rfl ?_
  refine s_y (y_buildArr Tryz.tab rfl rfl rfl rfl rfl) rfl rfl rfl ?_
  refine s_do (do_alloc Tryz.tab rfl) rfl rfl rfl (fun b3 => ?_)
  refine s_set (set_box Tryz.tab 0 rfl rfl rfl rfl rfl rfl rfl) rfl rfl ?_
  refine s_nil ?_
  refine f_then ?_
  refine c_seq ?_
  refine c_seq ?_
  refine c_region ?_
  refine s_y (y_fieldAddr0 Tryz.tab rfl rfl rfl rfl rfl) rfl rfl rfl ?_
  refine s_y (y_load Tryz.tab rfl rfl (cell_row 2 rfl rfl)) rfl rfl rfl ?_
  refine s_nil ?_
  refine f_then ?_
  cases mv
  · refine c_condF rfl ?_
    refine c_skip ?_
    refine f_then ?_
    refine c_seq ?_
    refine c_region ?_
    refine s_y (y_indexArr0 Tryz.tab rfl rfl rfl rfl rfl (by omega)) rfl rfl rfl ?_
    refine St.cls (C' := K W ([(b3, row 172 [.bool false, .func (.func 107) #[] #[], .bool true, .func (.func 108) #[] #[]])] :: [(b2, row 145 [.bool false, .nilFunc])] :: [(b1, row 60 [.bool false, .int .i64 lo, .int .i64 hi, .int .i64 fr, .int .i64 to, rv])] :: N)) ?_ (fun w h => h)
    have hc : CellsAre (K W ([(b3, row 172 [.bool false, .func (.func 107) #[] #[], .bool true, .func (.func 108) #[] #[]])] :: [(b2, row 145 [.bool false, .nilFunc])] :: [(b1, row 60 [.bool false, .int .i64 lo, .int .i64 hi, .int .i64 fr, .int .i64 to, rv])] :: N)) ⟨b3, 0, none⟩ [.bool false, .func (.func 107) #[] #[]] := cells_row 0 rfl (fun j hj => by
      have : j < 2 := hj
      rcases (show j = 0 ∨ j = 1 by omega) with rfl | rfl <;> rfl)
    refine s_y (y_loadA Tryz.tab rfl rfl rfl rfl hc) rfl rfl rfl ?_
    refine s_set (set_box Tryz.tab 1 rfl rfl rfl rfl rfl rfl rfl) rfl rfl ?_
    refine s_nil ?_
    refine f_then ?_
    refine c_ret ?_
    refine Fin.cls (C' := K W ([(b3, row 172 [.bool false, .func (.func 107) #[] #[], .bool true, .func (.func 108) #[] #[]])] :: [(b2, row 145 [.bool false, .func (.func 107) #[] #[]])] :: [(b1, row 60 [.bool false, .int .i64 lo, .int .i64 hi, .int .i64 fr, .int .i64 to, rv])] :: N)) ?_ (fun w h => h)
    exact f_ret () (resA Tryz.tab rfl rfl rfl rfl rfl (cells_row0 1 rfl rfl)) (fun w h => h.tail.tail.tail)
  · refine c_condT rfl ?_
    refine c_seq ?_
    refine c_region ?_
    refine St.cls (C' := K W ([(b3, row 172 [.bool false, .func (.func 107) #[] #[], .bool true, .func (.func 108) #[] #[]])] :: [(b2, row 145 [.bool false, .nilFunc])] :: [(b1, row 60 [.bool true, .int .i64 lo, .int .i64 hi, .int .i64 fr, .int .i64 to, rv])] :: N)) ?_ (fun w h => h)
    have hc : CellsAre (K W ([(b3, row 172 [.bool false, .func (.func 107) #[] #[], .bool true, .func (.func 108) #[] #[]])] :: [(b2, row 145 [.bool false, .nilFunc])] :: [(b1, row 60 [.bool true, .int .i64 lo, .int .i64 hi, .int .i64 fr, .int .i64 to, rv])] :: N)) ⟨b3, 0 + 1 * 2, none⟩ [.bool true, .func (.func 108) #[] #[]] := cells_row 0 rfl (fun j hj => by
      have : j < 2 := hj
      rcases (show j = 0 ∨ j = 1 by omega) with rfl | rfl <;> rfl)
    refine s_y (y_indexArr Tryz.tab rfl rfl rfl rfl 1 rfl (by omega)) rfl rfl rfl ?_
    refine s_y (y_loadA Tryz.tab rfl rfl rfl rfl hc) rfl rfl rfl ?_
    refine s_set (set_box Tryz.tab 1 rfl rfl rfl rfl rfl rfl rfl) rfl rfl ?_
    refine s_nil ?_
    refine f_then ?_
    refine c_ret ?_
    refine f_thenR ?_
    refine Fin.cls (C' := K W ([(b3, row 172 [.bool false, .func (.func 107) #[] #[], .bool true, .func (.func 108) #[] #[]])] :: [(b2, row 145 [.bool true, .func (.func 108) #[] #[]])] :: [(b1, row 60 [.bool true, .int .i64 lo, .int .i64 hi, .int .i64 fr, .int .i64 to, rv])] :: N)) ?_ (fun w h => h)
    exact f_ret () (resA Tryz.tab rfl rfl rfl rfl rfl (cells_row0 1 rfl rfl)) (fun w h => h.tail.tail.tail)
theorem nbd_mono (f : Nat → Nat) (a : Nat) : ∀ b, nbd f a ≤ nbd f (a + b)
  | 0 => Nat.le_refl _
  | b + 1 => by
    rw [← Nat.add_assoc, nbd]
    exact Nat.le_trans (nbd_mono f a b) (Nat.le_add_right _ _)
theorem rnsK_le (f : Nat → Nat) (lo : Nat) : ∀ k, (rnsK f lo k).length ≤ nbd f (lo + k) ∧ ∀ x ∈ (rnsK f lo k).getLast?, k ≠ 0 ∧ x.2.2 = f (lo + k - 1)
  | 0 => ⟨Nat.zero_le _, by simp [rnsK]⟩
  | k + 1 => by
    obtain ⟨h1, h2⟩ := rnsK_le f lo k
    rw [rnsK, ← Nat.add_assoc, nbd]
    have hlt : (lo + k, lo + k + 1, f (lo + k)).1 < (lo + k, lo + k + 1, f (lo + k)).2.1 := by simp
    rcases List.eq_nil_or_concat (rnsK f lo k) with e | ⟨R', y, e⟩
    · rw [e, jn_nil _ hlt]
      have h3 := nbd_mono f 1 (lo + k)
      rw [Nat.add_comm 1] at h3
      have h4 : nbd f 1 = 1 := by simp [nbd]
      rw [h4] at h3
      exact ⟨h3, by simp⟩
    · rw [List.concat_eq_append] at e
      rw [e] at h1 h2 ⊢
      obtain ⟨h3, h4⟩ := h2 y (by simp)
      rw [jn_snoc _ _ _ hlt]
      by_cases c : y.2.2 = f (lo + k)
      · rw [if_pos c]
        refine ⟨by simp only [List.length_append, List.length_singleton] at h1 ⊢; omega, by simp⟩
      · rw [if_neg c, if_pos (by rw [← h4]; exact .inr c)]
        refine ⟨by simp only [List.length_append, List.length_singleton] at h1 ⊢; omega, by simp⟩
theorem rns_le {f : Nat → Nat} {lo hi n : Nat} (h1 : lo ≤ hi) (h2 : hi ≤ n) : (rns f lo hi).length ≤ nbd f n := by
  have h3 := (rnsK_le f lo (hi - lo)).1
  have h4 := nbd_mono f hi (n - hi)
  rw [show lo + (hi - lo) = hi by omega] at h3
  rw [show hi + (n - hi) = n by omega] at h4
  exact Nat.le_trans h3 h4
theorem rvals_flat (L : List Rn) : rvals L = (rnl L).flatten := by
  rw [rvals, List.flatten_eq_flatMap, List.flatMap_map]
  rfl
theorem bufR_runs {v : Value} {c : Chunk} {L : List Rn} (h : Buf 26 3 v c L.length (rvals L)) : BufR 26 3 v c (rnl L) := ⟨lens.map rnc_len, by rw [List.length_map, ← rvals_flat]; exact h⟩
theorem op_cells {W : World} {Ls : List Chunk} {b : Nat} {e : TypeId} {z : Value} (o : Oa) (v : Value) (i : Nat) (hi : Ls.getD i [] = [(b, row e (z :: opc o v))]) : CellsAre (K W Ls) ⟨b, 1, none⟩ (opc o v) := cells_row i hi fun j hj => by
  rw [Nat.add_comm, List.getElem?_cons_succ]
set_option maxRecDepth 10000 in
set_option maxHeartbeats 16000000 in
theorem look_b {g : Bg} {W : World} {N : List Chunk} {k lo hi fr to : Nat} {mv : Bool} {t : Tg} (hB : g.OK) (hk : g.has k) (hti : g.ts[k - 1]? = some t) (h1 : lo ≤ hi) (h2 : hi ≤ g.size) (hnb : nbd g.W g.size ≤ 4096) (hol : t.os.length < 1000000) :
    Spec Tryz.prog 107 #[.pointer (some ⟨g.b, 0, none⟩), .agg #[g.ptr k, .bool mv, .int .i64 (lo : Nat), .int .i64 (hi : Nat), .int .i64 (fr : Nat), .int .i64 (to : Nat), .slice none 0 0]] (K W (g.L ++ N))
      (X := { x : Bg × Value × Chunk // x.1.OK ∧ x.1.bk = g.bk.done k ⟨mv, lo, hi, fr, to, rns g.W lo hi⟩ ∧ g.Anc x.1 ∧ BufR 26 3 x.2.1 x.2.2 (rnl (rns g.W lo hi)) }) (fun x => .tuple #[x.1.2.1, .int .i64 0]) (fun x => K W (x.1.2.2 :: (x.1.1.L ++ N))) := by
  have htm : t ∈ g.ts := List.mem_of_getElem? hti
  obtain ⟨t', _, hti', hid, hpb, htx⟩ := hB.at hk
  obtain rfl : t' = t := by rw [hti] at hti'; exact (Option.some.inj hti').symm
  clear hti'
  have ep : g.ptr k = .pointer (some ⟨t'.b, 0, none⟩) := by rw [Bg.ptr, hpb]
  have hOt := hB.ok t' htm
  rw [ep]
  refine enter (args := [_, _]) Tryz.func107 rfl Tryz.ntmps107 rfl ?_
  refine c_seq ?_
  refine c_region ?_
  refine s_do (do_box rfl) rfl rfl rfl (fun b3 => ?_)
  refine s_y (y_assign rfl) rfl rfl rfl ?_
  refine s_y (y_assign rfl) rfl rfl rfl ?_
  refine s_nil ?_
  refine f_then ?_
  refine c_seq ?_
  refine SC.cls (C' := K W (g.p :: [(b3, row 149 [.pointer (some ⟨t'.b, 0, none⟩), .bool mv, .int .i64 (lo : Nat), .int .i64 (hi : Nat), .int .i64 (fr : Nat), .int .i64 (to : Nat), .slice none 0 0])] :: [(g.b, row 96 g.cells)] :: [(g.ba, mobj g.ea g.ca)] :: [(g.br, mobj g.er g.cr)] :: g.qc :: g.lc :: (g.ts.flatMap Tg.chunks ++ N))) ?_ (fun w h => h.front 1)
  have hwc : CellsAre (K W (g.p :: [(b3, row 149 [.pointer (some ⟨t'.b, 0, none⟩), .bool mv, .int .i64 (lo : Nat), .int .i64 (hi : Nat), .int .i64 (fr : Nat), .int .i64 (to : Nat), .slice none 0 0])] :: [(g.b, row 96 g.cells)] :: [(g.ba, mobj g.ea g.ca)] :: [(g.br, mobj g.er g.cr)] :: g.qc :: g.lc :: (g.ts.flatMap Tg.chunks ++ N))) ⟨g.b, 1, none⟩ [g.wv] := CellsAre.one (cell_row 2 rfl rfl)
  refine c_plan [.c 0, .c 1, .c 2, .c 3, .c 4, .c 5, .c 6, .c 7, .c 8, .c 9, .s 10, .c 11, .c 12, .c 13, .c 14, .c 15] [] ((K W (g.p :: [(b3, row 149 [.pointer (some ⟨t'.b, 0, none⟩), .bool mv, .int .i64 (lo : Nat), .int .i64 (hi : Nat), .int .i64 (fr : Nat), .int .i64 (to : Nat), .slice none 0 0])] :: [(g.b, row 96 g.cells)] :: [(g.ba, mobj g.ea g.ca)] :: [(g.br, mobj g.er g.cr)] :: g.qc :: g.lc :: (g.ts.flatMap Tg.chunks ++ N)))) Tryz.mixed (by kernel_rfl) rfl K.cl ?_
  refine d_c rfl (Qui.ylds (y_move rfl)) rfl rfl rfl (fun _ h => h) K.cl ?_
  refine d_c rfl (Qui.ylds (y_nilP rfl)) rfl rfl rfl (fun _ h => h) K.cl ?_
  refine d_c rfl (Qui.ylds (y_fieldAddrB Tryz.tab 1 rfl rfl rfl rfl rfl)) rfl rfl rfl (fun _ h => h) K.cl ?_
  refine d_c rfl (Qui.ylds (y_loadA Tryz.tab rfl rfl rfl rfl hwc)) rfl rfl rfl (fun _ h => h) K.cl ?_
  refine d_c rfl (Qui.ylds (y_fieldAddrB Tryz.tab 1 rfl rfl rfl rfl rfl)) rfl rfl rfl (fun _ h => h) K.cl ?_
  refine d_c rfl (Qui.ylds (y_fieldAddr Tryz.tab 1 rfl rfl rfl rfl rfl)) rfl rfl rfl (fun _ h => h) K.cl ?_
  refine d_c rfl (Qui.ylds (y_load Tryz.tab rfl rfl (cell_row 1 rfl rfl))) rfl rfl rfl (fun _ h => h) K.cl ?_
  refine d_c rfl (Qui.ylds (y_fieldAddrB Tryz.tab 1 rfl rfl rfl rfl rfl)) rfl rfl rfl (fun _ h => h) K.cl ?_
  refine d_c rfl (Qui.ylds (y_fieldAddr Tryz.tab 2 rfl rfl rfl rfl rfl)) rfl rfl rfl (fun _ h => h) K.cl ?_
  refine d_c rfl (Qui.ylds (y_load Tryz.tab rfl rfl (cell_row 1 rfl rfl))) rfl rfl rfl (fun _ h => h) K.cl ?_
  refine d_call rfl (en_f rfl Tryz.call60) (mruns_spec (most := 4096) (R := [(b3, row 149 [.pointer (some ⟨t'.b, 0, none⟩), .bool mv, .int .i64 (lo : Nat), .int .i64 (hi : Nat), .int .i64 (fr : Nat), .int .i64 (to : Nat), .slice none 0 0])] :: [(g.b, row 96 g.cells)] :: [(g.ba, mobj g.ea g.ca)] :: [(g.br, mobj g.er g.cr)] :: g.qc :: g.lc :: (g.ts.flatMap Tg.chunks ++ N)) hB.mW h1 h2 hnb hnb) rfl rfl rfl (fun _ => K.cl) (fun _ _ _ h => h.tail) (fun y => ?_)
  obtain ⟨⟨rv, rc⟩, hR⟩ := y
  dsimp only at hR ⊢
  have hR2 := bufR_runs hR
  have hrl : (rnl (rns g.W lo hi)).length < 1000000 := by
    rw [List.length_map]
    have := rns_le (f := g.W) h1 h2
    omega
  refine d_c rfl (Qui.ylds (y_move rfl)) rfl rfl rfl (fun _ h => h.tail) K.cl ?_
  refine d_c rfl (Qui.ylds (y_extract rfl rfl)) rfl rfl rfl (fun _ h => h.tail) K.cl ?_
  refine d_c rfl (Qui.ylds (y_extract rfl rfl)) rfl rfl rfl (fun _ h => h.tail) K.cl ?_
  refine d_c rfl (Qui.ylds (y_assign rfl)) rfl rfl rfl (fun _ h => h.tail) K.cl ?_
  refine d_c rfl (Qui.ylds (y_assign rfl)) rfl rfl rfl (fun _ h => h.tail) K.cl ?_
  refine d_nil ?_
  refine f_then ?_
  refine c_seq ?_
  refine c_seq ?_
  refine c_region ?_
  refine s_y (y_move rfl) rfl rfl rfl ?_
  refine s_y (y_F (y_neq rfl rfl) (by omega)) rfl rfl rfl ?_
  refine s_nil ?_
  refine f_then ?_
  refine c_condF rfl ?_
  refine c_skip ?_
  refine f_then ?_
  refine c_seq ?_
  refine c_region ?_
  refine s_y (y_move rfl) rfl rfl rfl ?_
  refine s_call (en_f rfl Tryz.call59) (cloneR (hR2.view (Hs.at 0 rfl)) (rnl_ones _) hrl) rfl rfl rfl (fun y => ?_)
  obtain ⟨⟨v2, c2⟩, hR3⟩ := y
  dsimp only at hR3 ⊢
  refine s_y (y_fieldAddrB Tryz.tab 1 rfl rfl rfl rfl rfl) rfl rfl rfl ?_
  refine s_y (y_fieldAddr Tryz.tab 5 rfl rfl rfl rfl rfl) rfl rfl rfl ?_
  refine s_set (set_row Tryz.tab 3 rfl rfl hR3.one rfl rfl (Nat.lt_of_sub_eq_succ rfl)) rfl rfl ?_
  refine s_nil ?_
  refine f_then ?_
  refine c_seq ?_
  obtain ⟨g1, hg1⟩ : ∃ g1 : Bg, g1 = g.setW (c2 ++ g.p) g.wv g.W := ⟨_, rfl⟩
  have hS1 : Sub g.p (c2 ++ g.p) := .app ..
  have hB1 : g1.OK := by rw [hg1]; exact hB.setW hS1 (hB.mW.sub hS1)
  have hti1 : g1.ts[k - 1]? = some t' := by rw [hg1]; exact hti
  refine SC.cls (C' := K W ([(b3, row 149 [.pointer (some ⟨t'.b, 0, none⟩), .bool mv, .int .i64 (lo : Nat), .int .i64 (hi : Nat), .int .i64 (fr : Nat), .int .i64 (to : Nat), v2])] :: [(t'.b, row 113 t'.cells)] :: t'.lc :: t'.oc :: (g1.fixed ++ (g1.rest k ++ (rc :: N))))) ?_ (fun w h => by
    have h1 : K W ([(b3, row 149 [.pointer (some ⟨t'.b, 0, none⟩), .bool mv, .int .i64 (lo : Nat), .int .i64 (hi : Nat), .int .i64 (fr : Nat), .int .i64 (to : Nat), v2])] :: rc :: c2 :: g.p :: [(g.b, row 96 g.cells)] :: [(g.ba, mobj g.ea g.ca)] :: [(g.br, mobj g.er g.cr)] :: g.qc :: g.lc :: (g.ts.flatMap Tg.chunks ++ N)) w := (h.front 1).front 3
    have h2 := (K.bckN (A := [[(b3, row 149 [.pointer (some ⟨t'.b, 0, none⟩), .bool mv, .int .i64 (lo : Nat), .int .i64 (hi : Nat), .int .i64 (fr : Nat), .int .i64 (to : Nat), v2])], rc]) (B := c2 :: g.p :: [(g.b, row 96 g.cells)] :: [(g.ba, mobj g.ea g.ca)] :: [(g.br, mobj g.er g.cr)] :: g.qc :: g.lc :: (g.ts.flatMap Tg.chunks)) h1).join
    have h3 : K W (g1.L ++ ([(b3, row 149 [.pointer (some ⟨t'.b, 0, none⟩), .bool mv, .int .i64 (lo : Nat), .int .i64 (hi : Nat), .int .i64 (fr : Nat), .int .i64 (to : Nat), v2])] :: rc :: N)) w := by rw [hg1]; exact h2
    have h4 := K.foc hti1 h3
    exact K.bckN (A := t'.chunks ++ (g1.fixed ++ g1.rest k)) (B := [[(b3, row 149 [.pointer (some ⟨t'.b, 0, none⟩), .bool mv, .int .i64 (lo : Nat), .int .i64 (hi : Nat), .int .i64 (fr : Nat), .int .i64 (to : Nat), v2])]]) (N := rc :: N) (by simpa using h4))
  have hop : CellsAre (K W [[(b3, row 149 [.pointer (some ⟨t'.b, 0, none⟩), .bool mv, .int .i64 (lo : Nat), .int .i64 (hi : Nat), .int .i64 (fr : Nat), .int .i64 (to : Nat), v2])], [(t'.b, row 113 t'.cells)]]) ⟨b3, 1, none⟩ (opc ⟨mv, lo, hi, fr, to, rns g.W lo hi⟩ v2) := op_cells _ _ 0 rfl
  refine c_plan [.c 0, .c 1, .c 2, .c 3, .c 4, .c 5, .c 6, .c 7, .c 8, .s 9, .s 10, .c 11, .c 12, .s 13] [13] ((K W [[(b3, row 149 [.pointer (some ⟨t'.b, 0, none⟩), .bool mv, .int .i64 (lo : Nat), .int .i64 (hi : Nat), .int .i64 (fr : Nat), .int .i64 (to : Nat), v2])], [(t'.b, row 113 t'.cells)]])) Tryz.mixed (by kernel_rfl) rfl K.cl ?_
  refine d_c rfl (Qui.ylds (y_fieldAddr0 Tryz.tab rfl rfl rfl rfl rfl)) rfl rfl rfl (fun w h => h.keep 2) K.cl ?_
  refine d_c rfl (Qui.ylds (y_load Tryz.tab rfl rfl (cell_row 0 rfl rfl))) rfl rfl rfl (fun w h => h.keep 2) K.cl ?_
  refine d_c rfl (Qui.ylds (y_fieldAddr0 Tryz.tab rfl rfl rfl rfl rfl)) rfl rfl rfl (fun w h => h.keep 2) K.cl ?_
  refine d_c rfl (Qui.ylds (y_load Tryz.tab rfl rfl (cell_row 0 rfl rfl))) rfl rfl rfl (fun w h => h.keep 2) K.cl ?_
  refine d_c rfl (Qui.ylds (y_nilP rfl)) rfl rfl rfl (fun w h => h.keep 2) K.cl ?_
  refine d_c rfl (Qui.ylds (y_fieldAddrB Tryz.tab 7 rfl rfl rfl rfl rfl)) rfl rfl rfl (fun w h => h.keep 2) K.cl ?_
  refine d_c rfl (Qui.ylds (y_load Tryz.tab rfl rfl (cell_row 1 rfl rfl))) rfl rfl rfl (fun w h => h.keep 2) K.cl ?_
  refine d_c rfl (Qui.ylds (y_fieldAddrB Tryz.tab 1 rfl rfl rfl rfl rfl)) rfl rfl rfl (fun w h => h.keep 2) K.cl ?_
  refine d_c rfl (Qui.ylds (y_loadA Tryz.tab rfl rfl rfl rfl hop)) rfl rfl rfl (fun w h => h.keep 2) K.cl ?_
  refine d_s rfl (do_buildSliceS Tryz.tab ⟨rfl, rfl, rfl, rfl⟩ rfl rfl rfl rfl) rfl rfl rfl (fun _ => K.cl) (fun _ _ _ h => h.tail.keep 2) (fun b38 => ?_)
  have hal : allCells [Value.agg (opc ⟨mv, lo, hi, fr, to, rns g.W lo hi⟩ v2).toArray] = opc ⟨mv, lo, hi, fr, to, rns g.W lo hi⟩ v2 := by simp [allCells, cellsL]
  refine d_s rfl (do_appendR (by_ := 64) (news := opc ⟨mv, lo, hi, fr, to, rns g.W lo hi⟩ v2) Tryz.tab 4 rfl hOt.o rfl ⟨rfl, rfl, rfl, rfl⟩ rfl (by simp) rfl (cells_row0 0 rfl hal) rfl (opc_one hR3.one) (by rw [List.length_map]; omega) (by omega)) rfl rfl rfl (fun _ => K.cl) (fun _ _ _ h => h.tail.keep 2) (fun y => ?_)
  obtain ⟨⟨ov', oc'⟩, hl'⟩ := y
  dsimp only at hl' ⊢
  refine d_c rfl (Qui.ylds (y_nilP rfl)) rfl rfl rfl (fun w h => h.tail.keep 2) K.cl ?_
  refine d_c rfl (Qui.ylds (y_fieldAddrB Tryz.tab 7 rfl rfl rfl rfl rfl)) rfl rfl rfl (fun w h => h.tail.keep 2) K.cl ?_
  refine d_set rfl (set_row Tryz.tab 2 rfl rfl hl'.one rfl rfl (Nat.lt_of_sub_eq_succ rfl)) rfl rfl K.cl (fun h => by cases h) ?_
  refine d_nil ?_
  refine f_then ?_
  refine c_seq ?_
  refine c_region ?_
  refine s_y (y_move rfl) rfl rfl rfl ?_
  refine s_y (y_assign rfl) rfl rfl rfl ?_
  refine s_y (y_assign rfl) rfl rfl rfl ?_
  refine s_nil ?_
  refine f_then ?_
  refine c_ret ?_
  obtain ⟨t1, ht1⟩ : ∃ t1 : Tg, t1 = { t' with os := t'.os ++ [(⟨mv, lo, hi, fr, to, rns g.W lo hi⟩, v2)], ov := ov', oc := oc' } := ⟨_, rfl⟩
  have h1b : t1.b = t'.b := by rw [ht1]
  refine f_ret ⟨(g1.setT k t1, rv, rc), hB1.setT hti1 h1b (by rw [ht1]) ?_, ?_, ?_, hR2⟩ (res2 rfl rfl rfl) (fun w h => ?_)
  · rw [ht1]
    refine ⟨hOt.l, hl'.of (by simp [opl]), (hB1.ok t' (List.mem_of_getElem? hti1)).r.snoc ?_⟩
    rw [hg1]
    exact hR3.pool g.p
  · rw [setT_bk, ht1, hg1, Bk.done, htx]
    simp [Tg.tx, Bg.setW, Bg.bk]
  · exact Bg.Anc.trans (by rw [hg1]; exact ⟨rfl, rfl, rfl⟩) (setT_anc hti1 h1b)
  · dsimp only
    have h3 : K W (t1.chunks ++ (g1.fixed ++ (g1.rest k ++ (rc :: N)))) w := by rw [ht1]; exact h.tail.tail
    exact K.bckN (A := (g1.setT k t1).L) (B := [rc]) (K.unfoc hti1 h3)
/-- What a move does, its range being had. -/
def Bk.Mvd (A : Bk) (k : Nat) (o : Oa) (B : Bk) (e : Nat) : Prop := (¬ A.allT o.lo o.hi o.fr ∧ B = A ∧ e = 6) ∨ (A.allT o.lo o.hi o.fr ∧ A.room = 0 ∧ B = A ∧ e = 5) ∨ (A.allT o.lo o.hi o.fr ∧ A.room ≠ 0 ∧ B = ({ A with W := setf A.W o.lo o.hi o.to }).done k o ∧ e = 0)
set_option maxRecDepth 10000 in
set_option maxHeartbeats 16000000 in
theorem move_b {g : Bg} {W : World} {N : List Chunk} {k lo hi fr to : Nat} {mv : Bool} {t : Tg} (hB : g.OK) (hk : g.has k) (hti : g.ts[k - 1]? = some t) (h1 : lo ≤ hi) (h2 : hi ≤ g.size) (h3 : fr < 16) (h4 : to < 16) (hr : nbd g.C g.size + 2 * g.bk.moves ≤ 4096) (hnb : g.bk.room ≠ 0 → nbd (setf g.W lo hi to) g.size ≤ 4096) (hol : ∀ t ∈ g.ts, t.os.length < 1000000) :
    Spec Tryz.prog 108 #[.pointer (some ⟨g.b, 0, none⟩), .agg #[g.ptr k, .bool mv, .int .i64 (lo : Nat), .int .i64 (hi : Nat), .int .i64 (fr : Nat), .int .i64 (to : Nat), .slice none 0 0]] (K W (g.L ++ N))
      (X := { x : Bg × Nat // x.1.OK ∧ g.bk.Mvd k ⟨mv, lo, hi, fr, to, []⟩ x.1.bk x.2 ∧ g.Anc x.1 }) (fun x => .tuple #[.slice none 0 0, .int .i64 (x.1.2 : Nat)]) (fun x => K W (x.1.1.L ++ N)) := by
  have htm : t ∈ g.ts := List.mem_of_getElem? hti
  obtain ⟨t', _, hti', hid, hpb, htx⟩ := hB.at hk
  obtain rfl : t' = t := by rw [hti] at hti'; exact (Option.some.inj hti').symm
  clear hti'
  have ep : g.ptr k = .pointer (some ⟨t'.b, 0, none⟩) := by rw [Bg.ptr, hpb]
  have hOt := hB.ok t' htm
  have hot := hol t' htm
  have hsz := hB.mW.pos
  rw [ep]
  refine enter (args := [_, _]) Tryz.func108 rfl Tryz.ntmps108 rfl ?_
  refine c_seq ?_
  refine c_region ?_
  refine s_do (do_box rfl) rfl rfl rfl (fun b3 => ?_)
  refine s_y (y_assign rfl) rfl rfl rfl ?_
  refine s_y (y_assign rfl) rfl rfl rfl ?_
  refine s_nil ?_
  refine f_then ?_
  refine c_seq ?_
  refine c_seq ?_
  refine SC.cls (C' := K W (g.p :: [(b3, row 149 [.pointer (some ⟨t'.b, 0, none⟩), .bool mv, .int .i64 (lo : Nat), .int .i64 (hi : Nat), .int .i64 (fr : Nat), .int .i64 (to : Nat), .slice none 0 0])] :: [(g.b, row 96 g.cells)] :: [(g.ba, mobj g.ea g.ca)] :: [(g.br, mobj g.er g.cr)] :: g.qc :: g.lc :: (g.ts.flatMap Tg.chunks ++ N))) ?_ (fun w h => K.front 1 h)
  have hwc : CellsAre (K W (g.p :: [(b3, row 149 [.pointer (some ⟨t'.b, 0, none⟩), .bool mv, .int .i64 (lo : Nat), .int .i64 (hi : Nat), .int .i64 (fr : Nat), .int .i64 (to : Nat), .slice none 0 0])] :: [(g.b, row 96 g.cells)] :: [(g.ba, mobj g.ea g.ca)] :: [(g.br, mobj g.er g.cr)] :: g.qc :: g.lc :: (g.ts.flatMap Tg.chunks ++ N))) ⟨g.b, 1, none⟩ [g.wv] := CellsAre.one (cell_row 2 rfl rfl)
  refine c_plan [.c 0, .c 1, .c 2, .c 3, .c 4, .c 5, .c 6, .c 7, .c 8, .c 9, .c 10, .c 11, .c 12, .s 13, .c 14, .c 15, .c 16, .c 17, .c 18] [] ((K W (g.p :: [(b3, row 149 [.pointer (some ⟨t'.b, 0, none⟩), .bool mv, .int .i64 (lo : Nat), .int .i64 (hi : Nat), .int .i64 (fr : Nat), .int .i64 (to : Nat), .slice none 0 0])] :: [(g.b, row 96 g.cells)] :: [(g.ba, mobj g.ea g.ca)] :: [(g.br, mobj g.er g.cr)] :: g.qc :: g.lc :: (g.ts.flatMap Tg.chunks ++ N)))) Tryz.mixed (by kernel_rfl) rfl K.cl ?_
  refine d_c rfl (Qui.ylds (y_move rfl)) rfl rfl rfl (fun _ h => h) K.cl ?_
  refine d_c rfl (Qui.ylds (y_nilP rfl)) rfl rfl rfl (fun _ h => h) K.cl ?_
  refine d_c rfl (Qui.ylds (y_fieldAddrB Tryz.tab 1 rfl rfl rfl rfl rfl)) rfl rfl rfl (fun _ h => h) K.cl ?_
  refine d_c rfl (Qui.ylds (y_loadA Tryz.tab rfl rfl rfl rfl hwc)) rfl rfl rfl (fun _ h => h) K.cl ?_
  refine d_c rfl (Qui.ylds (y_fieldAddrB Tryz.tab 1 rfl rfl rfl rfl rfl)) rfl rfl rfl (fun _ h => h) K.cl ?_
  refine d_c rfl (Qui.ylds (y_fieldAddr Tryz.tab 1 rfl rfl rfl rfl rfl)) rfl rfl rfl (fun _ h => h) K.cl ?_
  refine d_c rfl (Qui.ylds (y_load Tryz.tab rfl rfl (cell_row 1 rfl rfl))) rfl rfl rfl (fun _ h => h) K.cl ?_
  refine d_c rfl (Qui.ylds (y_fieldAddrB Tryz.tab 1 rfl rfl rfl rfl rfl)) rfl rfl rfl (fun _ h => h) K.cl ?_
  refine d_c rfl (Qui.ylds (y_fieldAddr Tryz.tab 2 rfl rfl rfl rfl rfl)) rfl rfl rfl (fun _ h => h) K.cl ?_
  refine d_c rfl (Qui.ylds (y_load Tryz.tab rfl rfl (cell_row 1 rfl rfl))) rfl rfl rfl (fun _ h => h) K.cl ?_
  refine d_c rfl (Qui.ylds (y_fieldAddrB Tryz.tab 1 rfl rfl rfl rfl rfl)) rfl rfl rfl (fun _ h => h) K.cl ?_
  refine d_c rfl (Qui.ylds (y_fieldAddr Tryz.tab 3 rfl rfl rfl rfl rfl)) rfl rfl rfl (fun _ h => h) K.cl ?_
  refine d_c rfl (Qui.ylds (y_load Tryz.tab rfl rfl (cell_row 1 rfl rfl))) rfl rfl rfl (fun _ h => h) K.cl ?_
  refine d_call rfl (en_f rfl Tryz.call121) (mcount_spec (R := [(b3, row 149 [.pointer (some ⟨t'.b, 0, none⟩), .bool mv, .int .i64 (lo : Nat), .int .i64 (hi : Nat), .int .i64 (fr : Nat), .int .i64 (to : Nat), .slice none 0 0])] :: [(g.b, row 96 g.cells)] :: [(g.ba, mobj g.ea g.ca)] :: [(g.br, mobj g.er g.cr)] :: g.qc :: g.lc :: (g.ts.flatMap Tg.chunks ++ N)) hB.mW h1 h2 h3) rfl rfl rfl (fun _ => K.cl) (fun _ _ _ h => h) (fun _ => ?_)
  have hcr := cntf_range g.W fr h1
  by_cases ca : g.bk.allT lo hi fr
  · rw [hcr.2 ca]
    refine d_c rfl (Qui.ylds (y_move rfl)) rfl rfl rfl (fun _ h => h) K.cl ?_
    refine d_c rfl (Qui.ylds (y_extract rfl rfl)) rfl rfl rfl (fun _ h => h) K.cl ?_
    refine d_c rfl (Qui.ylds (y_extract rfl rfl)) rfl rfl rfl (fun _ h => h) K.cl ?_
    refine d_c rfl (Qui.ylds (y_assign rfl)) rfl rfl rfl (fun _ h => h) K.cl ?_
    refine d_c rfl (Qui.ylds (y_assign rfl)) rfl rfl rfl (fun _ h => h) K.cl ?_
    refine d_nil ?_
    refine f_then ?_
    refine c_seq ?_
    refine c_region ?_
    refine s_y (y_move rfl) rfl rfl rfl ?_
    refine s_y (y_fieldAddrB Tryz.tab 1 rfl rfl rfl rfl rfl) rfl rfl rfl ?_
    refine s_y (y_fieldAddr Tryz.tab 2 rfl rfl rfl rfl rfl) rfl rfl rfl ?_
    refine s_y (y_load Tryz.tab rfl rfl (cell_row 1 rfl rfl)) rfl rfl rfl ?_
    refine s_y (y_fieldAddrB Tryz.tab 1 rfl rfl rfl rfl rfl) rfl rfl rfl ?_
    refine s_y (y_fieldAddr Tryz.tab 1 rfl rfl rfl rfl rfl) rfl rfl rfl ?_
    refine s_y (y_load Tryz.tab rfl rfl (cell_row 1 rfl rfl)) rfl rfl rfl ?_
    refine s_y (y_sub rfl rfl (by omega)) rfl rfl rfl ?_
    refine s_y (y_F (y_neq rfl rfl) (by omega)) rfl rfl rfl ?_
    refine s_nil ?_
    refine f_then ?_
    refine c_condF rfl ?_
    refine c_skip ?_
    refine f_then ?_
    refine c_seq ?_
    refine c_seq ?_
    refine c_region ?_
    refine s_y (y_move rfl) rfl rfl rfl ?_
    refine St.cls (C' := K W (g.L ++ ([(b3, row 149 [.pointer (some ⟨t'.b, 0, none⟩), .bool mv, .int .i64 (lo : Nat), .int .i64 (hi : Nat), .int .i64 (fr : Nat), .int .i64 (to : Nat), .slice none 0 0])] :: N))) ?_ (fun w h => by
      have h2 : K W ([(b3, row 149 [.pointer (some ⟨t'.b, 0, none⟩), .bool mv, .int .i64 (lo : Nat), .int .i64 (hi : Nat), .int .i64 (fr : Nat), .int .i64 (to : Nat), .slice none 0 0])] :: g.p :: [(g.b, row 96 g.cells)] :: [(g.ba, mobj g.ea g.ca)] :: [(g.br, mobj g.er g.cr)] :: g.qc :: g.lc :: (g.ts.flatMap Tg.chunks ++ N)) w := K.front 1 h
      exact K.bckN (A := [[(b3, row 149 [.pointer (some ⟨t'.b, 0, none⟩), .bool mv, .int .i64 (lo : Nat), .int .i64 (hi : Nat), .int .i64 (fr : Nat), .int .i64 (to : Nat), .slice none 0 0])]]) (B := g.p :: [(g.b, row 96 g.cells)] :: [(g.ba, mobj g.ea g.ca)] :: [(g.br, mobj g.er g.cr)] :: g.qc :: g.lc :: (g.ts.flatMap Tg.chunks)) h2)
    have hrm := room_b (W := W) (N := [(b3, row 149 [.pointer (some ⟨t'.b, 0, none⟩), .bool mv, .int .i64 (lo : Nat), .int .i64 (hi : Nat), .int .i64 (fr : Nat), .int .i64 (to : Nat), .slice none 0 0])] :: N) hB hol hr
    skip
    refine s_call (en_f rfl Tryz.call17) hrm rfl rfl rfl (fun _ => ?_)
    by_cases c0 : g.bk.room = 0
    · rw [c0]
      refine s_y (y_T (y_eql rfl rfl) (by omega)) rfl rfl rfl ?_
      refine s_nil ?_
      refine f_then ?_
      refine c_condT rfl ?_
      refine c_seq ?_
      refine c_region ?_
      refine s_y (y_assign rfl) rfl rfl rfl ?_
      refine s_y (y_assign rfl) rfl rfl rfl ?_
      refine s_nil ?_
      refine f_then ?_
      refine c_ret ?_
      refine f_thenR ?_
      exact f_ret ⟨(g, 5), hB, .inr (.inl ⟨ca, c0, rfl, rfl⟩), .refl _⟩ (res2 rfl rfl rfl) (fun w h => (K.bckN (A := g.L) (B := [[(b3, row 149 [.pointer (some ⟨t'.b, 0, none⟩), .bool mv, .int .i64 (lo : Nat), .int .i64 (hi : Nat), .int .i64 (fr : Nat), .int .i64 (to : Nat), .slice none 0 0])]]) h).tail)
    · refine s_y (y_F (y_eql rfl rfl) (by omega)) rfl rfl rfl ?_
      refine s_nil ?_
      refine f_then ?_
      refine c_condF rfl ?_
      refine c_skip ?_
      refine f_then ?_
      refine c_seq ?_
      refine SC.cls (C' := K W (g.p :: [(b3, row 149 [.pointer (some ⟨t'.b, 0, none⟩), .bool mv, .int .i64 (lo : Nat), .int .i64 (hi : Nat), .int .i64 (fr : Nat), .int .i64 (to : Nat), .slice none 0 0])] :: [(g.b, row 96 g.cells)] :: [(g.ba, mobj g.ea g.ca)] :: [(g.br, mobj g.er g.cr)] :: g.qc :: g.lc :: (g.ts.flatMap Tg.chunks ++ N))) ?_ (fun w h => by
        have h2 : K W ([(b3, row 149 [.pointer (some ⟨t'.b, 0, none⟩), .bool mv, .int .i64 (lo : Nat), .int .i64 (hi : Nat), .int .i64 (fr : Nat), .int .i64 (to : Nat), .slice none 0 0])] :: g.p :: [(g.b, row 96 g.cells)] :: [(g.ba, mobj g.ea g.ca)] :: [(g.br, mobj g.er g.cr)] :: g.qc :: g.lc :: (g.ts.flatMap Tg.chunks ++ N)) w := K.bckN (A := g.L) (B := [[(b3, row 149 [.pointer (some ⟨t'.b, 0, none⟩), .bool mv, .int .i64 (lo : Nat), .int .i64 (hi : Nat), .int .i64 (fr : Nat), .int .i64 (to : Nat), .slice none 0 0])]]) h
        exact h2.front 1)
      have hwc2 : CellsAre (K W ([(b3, row 149 [.pointer (some ⟨t'.b, 0, none⟩), .bool mv, .int .i64 (lo : Nat), .int .i64 (hi : Nat), .int .i64 (fr : Nat), .int .i64 (to : Nat), .slice none 0 0])] :: [(g.b, row 96 g.cells)] :: [(g.ba, mobj g.ea g.ca)] :: [(g.br, mobj g.er g.cr)] :: g.qc :: g.lc :: (g.ts.flatMap Tg.chunks ++ N))) ⟨g.b, 1, none⟩ [g.wv] := CellsAre.one (cell_row 1 rfl rfl)
      refine c_planW 13 17 [0, 1, 2, 3, 4, 5, 6, 7, 8, 9, 10, 11, 12] [.c 14, .c 15, .c 16, .s 17, .s 18, .c 19] [.s 13, .c 14, .c 15, .c 16, .s 18, .c 19] (K W ([(b3, row 149 [.pointer (some ⟨t'.b, 0, none⟩), .bool mv, .int .i64 (lo : Nat), .int .i64 (hi : Nat), .int .i64 (fr : Nat), .int .i64 (to : Nat), .slice none 0 0])] :: [(g.b, row 96 g.cells)] :: [(g.ba, mobj g.ea g.ca)] :: [(g.br, mobj g.er g.cr)] :: g.qc :: g.lc :: (g.ts.flatMap Tg.chunks ++ N))) Tryz.mixed (by kernel_rfl) rfl K.cl ?_
      refine w_c rfl (Qui.ylds (y_move rfl)) rfl rfl rfl (fun _ h => h.tail) K.cl ?_
      refine w_c rfl (Qui.ylds (y_nilP rfl)) rfl rfl rfl (fun _ h => h.tail) K.cl ?_
      refine w_c rfl (Qui.ylds (y_fieldAddrB Tryz.tab 1 rfl rfl rfl rfl rfl)) rfl rfl rfl (fun _ h => h.tail) K.cl ?_
      refine w_c rfl (Qui.ylds (y_loadA Tryz.tab rfl rfl rfl rfl hwc2)) rfl rfl rfl (fun _ h => h.tail) K.cl ?_
      refine w_c rfl (Qui.ylds (y_fieldAddrB Tryz.tab 1 rfl rfl rfl rfl rfl)) rfl rfl rfl (fun _ h => h.tail) K.cl ?_
      refine w_c rfl (Qui.ylds (y_fieldAddr Tryz.tab 1 rfl rfl rfl rfl rfl)) rfl rfl rfl (fun _ h => h.tail) K.cl ?_
      refine w_c rfl (Qui.ylds (y_load Tryz.tab rfl rfl (cell_row 0 rfl rfl))) rfl rfl rfl (fun _ h => h.tail) K.cl ?_
      refine w_c rfl (Qui.ylds (y_fieldAddrB Tryz.tab 1 rfl rfl rfl rfl rfl)) rfl rfl rfl (fun _ h => h.tail) K.cl ?_
      refine w_c rfl (Qui.ylds (y_fieldAddr Tryz.tab 2 rfl rfl rfl rfl rfl)) rfl rfl rfl (fun _ h => h.tail) K.cl ?_
      refine w_c rfl (Qui.ylds (y_load Tryz.tab rfl rfl (cell_row 0 rfl rfl))) rfl rfl rfl (fun _ h => h.tail) K.cl ?_
      refine w_c rfl (Qui.ylds (y_fieldAddrB Tryz.tab 1 rfl rfl rfl rfl rfl)) rfl rfl rfl (fun _ h => h.tail) K.cl ?_
      refine w_c rfl (Qui.ylds (y_fieldAddr Tryz.tab 4 rfl rfl rfl rfl rfl)) rfl rfl rfl (fun _ h => h.tail) K.cl ?_
      refine w_c rfl (Qui.ylds (y_load Tryz.tab rfl rfl (cell_row 0 rfl rfl))) rfl rfl rfl (fun _ h => h.tail) K.cl ?_
      refine w_br rfl rfl rfl (en_f rfl Tryz.call65) (mset_spec (R := [(b3, row 149 [.pointer (some ⟨t'.b, 0, none⟩), .bool mv, .int .i64 (lo : Nat), .int .i64 (hi : Nat), .int .i64 (fr : Nat), .int .i64 (to : Nat), .slice none 0 0])] :: [(g.b, row 96 g.cells)] :: [(g.ba, mobj g.ea g.ca)] :: [(g.br, mobj g.er g.cr)] :: g.qc :: g.lc :: (g.ts.flatMap Tg.chunks ++ N)) hB.mW h1 h2 h4 (hnb c0)) rfl rfl rfl rfl rfl rfl (do_alloc Tryz.tab rfl) (fun _ => K.cl) (fun _ => K.cl) (fun _ _ _ h => h.tail) (fun _ _ _ h => h.tail.tail) (fun y => ?_) (fun b8 => ?_)
      · obtain ⟨⟨p', wv'⟩, hS', hM'⟩ := y
        dsimp only at hS' hM' ⊢
        obtain ⟨a, rfl⟩ := hM'.ptr
        refine d_c rfl (Qui.ylds (y_move rfl)) rfl rfl rfl (fun _ h => h.tail) K.cl ?_
        refine d_c rfl (Qui.ylds (y_extract rfl rfl)) rfl rfl rfl (fun _ h => h.tail) K.cl ?_
        refine d_c rfl (Qui.ylds (y_extract rfl rfl)) rfl rfl rfl (fun _ h => h.tail) K.cl ?_
        refine d_s rfl (do_alloc Tryz.tab rfl) rfl rfl rfl (fun _ => K.cl) (fun _ _ _ h => h.tail.tail) (fun b8 => ?_)
        refine d_set rfl (set_aggB Tryz.tab 0 rfl rfl rfl rfl rfl rfl rfl) rfl rfl K.cl (fun _ _ h => h.tail.tail) ?_
        refine d_c rfl (Qui.ylds (y_assign rfl)) rfl rfl rfl (fun _ h => h.tail.tail) K.cl ?_
        refine d_nil ?_
        refine f_then ?_
        refine c_seq ?_
        refine c_seq ?_
        refine c_region ?_
        refine s_y (y_move rfl) rfl rfl rfl ?_
        refine s_y (y_F (y_neq rfl rfl) (by omega)) rfl rfl rfl ?_
        refine s_nil ?_
        refine f_then ?_
        refine c_condF rfl ?_
        refine c_skip ?_
        refine f_then ?_
        refine c_seq ?_
        refine c_region ?_
        refine s_y (y_move rfl) rfl rfl rfl ?_
        refine s_y (y_loadA Tryz.tab rfl rfl rfl rfl (cells_row0 0 rfl rfl)) rfl rfl rfl ?_
        refine s_y (y_nilP rfl) rfl rfl rfl ?_
        refine s_y (y_fieldAddrB Tryz.tab 1 rfl rfl rfl rfl rfl) rfl rfl rfl ?_
        refine s_set (set_aggB Tryz.tab 3 rfl rfl rfl rfl rfl rfl rfl) rfl rfl ?_
        refine s_nil ?_
        refine f_then ?_
        refine c_seq ?_
        obtain ⟨g1, hg1⟩ : ∃ g1 : Bg, g1 = g.setW p' (.pointer (some a)) (setf g.W lo hi to) := ⟨_, rfl⟩
        have hB1 : g1.OK := by rw [hg1]; exact hB.setW hS' hM'
        have hti1 : g1.ts[k - 1]? = some t' := by rw [hg1]; exact hti
        refine SC.cls (C' := K W ([(b3, row 149 [.pointer (some ⟨t'.b, 0, none⟩), .bool mv, .int .i64 (lo : Nat), .int .i64 (hi : Nat), .int .i64 (fr : Nat), .int .i64 (to : Nat), .slice none 0 0])] :: [(t'.b, row 113 t'.cells)] :: t'.lc :: t'.oc :: (g1.fixed ++ (g1.rest k ++ N)))) ?_ (fun w h => by
          have h1 : K W (p' :: [(b3, row 149 [.pointer (some ⟨t'.b, 0, none⟩), .bool mv, .int .i64 (lo : Nat), .int .i64 (hi : Nat), .int .i64 (fr : Nat), .int .i64 (to : Nat), .slice none 0 0])] :: [(g.b, row 96 [g.cv, .pointer (some a), .map (some g.ba), .map (some g.br), g.qv, g.lv])] :: [(g.ba, mobj g.ea g.ca)] :: [(g.br, mobj g.er g.cr)] :: g.qc :: g.lc :: (g.ts.flatMap Tg.chunks ++ N)) w := K.tail (c := [(b8, row 29 [.pointer (some a)])]) h
          have h2 : K W ([(b3, row 149 [.pointer (some ⟨t'.b, 0, none⟩), .bool mv, .int .i64 (lo : Nat), .int .i64 (hi : Nat), .int .i64 (fr : Nat), .int .i64 (to : Nat), .slice none 0 0])] :: p' :: [(g.b, row 96 [g.cv, .pointer (some a), .map (some g.ba), .map (some g.br), g.qv, g.lv])] :: [(g.ba, mobj g.ea g.ca)] :: [(g.br, mobj g.er g.cr)] :: g.qc :: g.lc :: (g.ts.flatMap Tg.chunks ++ N)) w := h1.front 1
          have h3 : K W (g1.L ++ ([(b3, row 149 [.pointer (some ⟨t'.b, 0, none⟩), .bool mv, .int .i64 (lo : Nat), .int .i64 (hi : Nat), .int .i64 (fr : Nat), .int .i64 (to : Nat), .slice none 0 0])] :: N)) w := by rw [hg1]; exact K.bckN (A := [[(b3, row 149 [.pointer (some ⟨t'.b, 0, none⟩), .bool mv, .int .i64 (lo : Nat), .int .i64 (hi : Nat), .int .i64 (fr : Nat), .int .i64 (to : Nat), .slice none 0 0])]]) (B := p' :: [(g.b, row 96 [g.cv, .pointer (some a), .map (some g.ba), .map (some g.br), g.qv, g.lv])] :: [(g.ba, mobj g.ea g.ca)] :: [(g.br, mobj g.er g.cr)] :: g.qc :: g.lc :: (g.ts.flatMap Tg.chunks)) h2
          have h4 := K.foc hti1 h3
          exact K.bckN (A := t'.chunks ++ (g1.fixed ++ g1.rest k)) (B := [[(b3, row 149 [.pointer (some ⟨t'.b, 0, none⟩), .bool mv, .int .i64 (lo : Nat), .int .i64 (hi : Nat), .int .i64 (fr : Nat), .int .i64 (to : Nat), .slice none 0 0])]]) (N := N) (by simpa using h4))
        have hop : CellsAre (K W [[(b3, row 149 [.pointer (some ⟨t'.b, 0, none⟩), .bool mv, .int .i64 (lo : Nat), .int .i64 (hi : Nat), .int .i64 (fr : Nat), .int .i64 (to : Nat), .slice none 0 0])], [(t'.b, row 113 t'.cells)]]) ⟨b3, 1, none⟩ (opc ⟨mv, lo, hi, fr, to, []⟩ (.slice none 0 0)) := op_cells _ _ 0 rfl
        refine c_plan [.c 0, .c 1, .c 2, .c 3, .c 4, .c 5, .c 6, .c 7, .c 8, .s 9, .s 10, .c 11, .c 12, .s 13] [13] ((K W [[(b3, row 149 [.pointer (some ⟨t'.b, 0, none⟩), .bool mv, .int .i64 (lo : Nat), .int .i64 (hi : Nat), .int .i64 (fr : Nat), .int .i64 (to : Nat), .slice none 0 0])], [(t'.b, row 113 t'.cells)]])) Tryz.mixed (by kernel_rfl) rfl K.cl ?_
        refine d_c rfl (Qui.ylds (y_fieldAddr0 Tryz.tab rfl rfl rfl rfl rfl)) rfl rfl rfl (fun w h => h.keep 2) K.cl ?_
        refine d_c rfl (Qui.ylds (y_load Tryz.tab rfl rfl (cell_row 0 rfl rfl))) rfl rfl rfl (fun w h => h.keep 2) K.cl ?_
        refine d_c rfl (Qui.ylds (y_fieldAddr0 Tryz.tab rfl rfl rfl rfl rfl)) rfl rfl rfl (fun w h => h.keep 2) K.cl ?_
        refine d_c rfl (Qui.ylds (y_load Tryz.tab rfl rfl (cell_row 0 rfl rfl))) rfl rfl rfl (fun w h => h.keep 2) K.cl ?_
        refine d_c rfl (Qui.ylds (y_nilP rfl)) rfl rfl rfl (fun w h => h.keep 2) K.cl ?_
        refine d_c rfl (Qui.ylds (y_fieldAddrB Tryz.tab 7 rfl rfl rfl rfl rfl)) rfl rfl rfl (fun w h => h.keep 2) K.cl ?_
        refine d_c rfl (Qui.ylds (y_load Tryz.tab rfl rfl (cell_row 1 rfl rfl))) rfl rfl rfl (fun w h => h.keep 2) K.cl ?_
        refine d_c rfl (Qui.ylds (y_fieldAddrB Tryz.tab 1 rfl rfl rfl rfl rfl)) rfl rfl rfl (fun w h => h.keep 2) K.cl ?_
        refine d_c rfl (Qui.ylds (y_loadA Tryz.tab rfl rfl rfl rfl hop)) rfl rfl rfl (fun w h => h.keep 2) K.cl ?_
        refine d_s rfl (do_buildSliceS Tryz.tab ⟨rfl, rfl, rfl, rfl⟩ rfl rfl rfl rfl) rfl rfl rfl (fun _ => K.cl) (fun _ _ _ h => h.tail.keep 2) (fun b72 => ?_)
        have hal : allCells [Value.agg (opc ⟨mv, lo, hi, fr, to, []⟩ (.slice none 0 0)).toArray] = opc ⟨mv, lo, hi, fr, to, []⟩ (.slice none 0 0) := by simp [allCells, cellsL]
        refine d_s rfl (do_appendR (by_ := 64) (news := opc ⟨mv, lo, hi, fr, to, []⟩ (.slice none 0 0)) Tryz.tab 4 rfl hOt.o rfl ⟨rfl, rfl, rfl, rfl⟩ rfl (by simp) rfl (cells_row0 0 rfl hal) rfl (opc_one rfl) (by rw [List.length_map]; omega) (by omega)) rfl rfl rfl (fun _ => K.cl) (fun _ _ _ h => h.tail.keep 2) (fun y => ?_)
        obtain ⟨⟨ov', oc'⟩, hl'⟩ := y
        dsimp only at hl' ⊢
        refine d_c rfl (Qui.ylds (y_nilP rfl)) rfl rfl rfl (fun w h => h.tail.keep 2) K.cl ?_
        refine d_c rfl (Qui.ylds (y_fieldAddrB Tryz.tab 7 rfl rfl rfl rfl rfl)) rfl rfl rfl (fun w h => h.tail.keep 2) K.cl ?_
        refine d_set rfl (set_row Tryz.tab 2 rfl rfl hl'.one rfl rfl (Nat.lt_of_sub_eq_succ rfl)) rfl rfl K.cl (fun h => by cases h) ?_
        refine d_nil ?_
        refine f_then ?_
        refine c_seq ?_
        refine c_region ?_
        refine s_y (y_assign rfl) rfl rfl rfl ?_
        refine s_y (y_assign rfl) rfl rfl rfl ?_
        refine s_nil ?_
        refine f_then ?_
        refine c_ret ?_
        obtain ⟨t1, ht1⟩ : ∃ t1 : Tg, t1 = { t' with os := t'.os ++ [(⟨mv, lo, hi, fr, to, []⟩, .slice none 0 0)], ov := ov', oc := oc' } := ⟨_, rfl⟩
        have h1b : t1.b = t'.b := by rw [ht1]
        refine f_ret ⟨(g1.setT k t1, 0), hB1.setT hti1 h1b (by rw [ht1]) ?_, .inr (.inr ⟨ca, c0, ?_, rfl⟩), ?_⟩ (res2 rfl rfl rfl) (fun w h => ?_)
        · rw [ht1]
          exact ⟨hOt.l, hl'.of (by simp [opl]), (hB1.ok t' (List.mem_of_getElem? hti1)).r.snoc PE.empty⟩
        · rw [setT_bk, ht1, hg1, Bk.done]
          show _ = Bk.setT _ k { (g.bk.tx k) with ops := _ }
          rw [show (Bk.tx { g.bk with W := setf g.bk.W lo hi to } k) = g.bk.tx k from rfl, htx]
          simp [Tg.tx, Bg.setW, Bg.bk]
        · exact Bg.Anc.trans (by rw [hg1]; exact ⟨rfl, rfl, rfl⟩) (setT_anc hti1 h1b)
        · dsimp only
          have h3 : K W (t1.chunks ++ (g1.fixed ++ (g1.rest k ++ N))) w := by rw [ht1]; exact h.tail.tail
          exact K.unfoc hti1 h3
      · refine Sd.cls (C' := K W (g.p :: [(b8, row 29 [.pointer none])] :: [(b3, row 149 [.pointer (some ⟨t'.b, 0, none⟩), .bool mv, .int .i64 (lo : Nat), .int .i64 (hi : Nat), .int .i64 (fr : Nat), .int .i64 (to : Nat), .slice none 0 0])] :: [(g.b, row 96 g.cells)] :: [(g.ba, mobj g.ea g.ca)] :: [(g.br, mobj g.er g.cr)] :: g.qc :: g.lc :: (g.ts.flatMap Tg.chunks ++ N))) ?_ (fun w h => h.front 1)
        refine d_call rfl (en_f rfl Tryz.call65) (mset_spec (R := [(b8, row 29 [.pointer none])] :: [(b3, row 149 [.pointer (some ⟨t'.b, 0, none⟩), .bool mv, .int .i64 (lo : Nat), .int .i64 (hi : Nat), .int .i64 (fr : Nat), .int .i64 (to : Nat), .slice none 0 0])] :: [(g.b, row 96 g.cells)] :: [(g.ba, mobj g.ea g.ca)] :: [(g.br, mobj g.er g.cr)] :: g.qc :: g.lc :: (g.ts.flatMap Tg.chunks ++ N)) hB.mW h1 h2 h4 (hnb c0)) rfl rfl rfl (fun _ => K.cl) (fun _ _ _ h => h.tail.tail) (fun y => ?_)
        obtain ⟨⟨p', wv'⟩, hS', hM'⟩ := y
        dsimp only at hS' hM' ⊢
        obtain ⟨a, rfl⟩ := hM'.ptr
        refine Sd.cls (C' := K W ([(b8, row 29 [.pointer none])] :: p' :: [(b3, row 149 [.pointer (some ⟨t'.b, 0, none⟩), .bool mv, .int .i64 (lo : Nat), .int .i64 (hi : Nat), .int .i64 (fr : Nat), .int .i64 (to : Nat), .slice none 0 0])] :: [(g.b, row 96 g.cells)] :: [(g.ba, mobj g.ea g.ca)] :: [(g.br, mobj g.er g.cr)] :: g.qc :: g.lc :: (g.ts.flatMap Tg.chunks ++ N))) ?_ (fun w h => K.front 1 h)
        refine d_c rfl (Qui.ylds (y_move rfl)) rfl rfl rfl (fun _ h => h.tail.tail) K.cl ?_
        refine d_c rfl (Qui.ylds (y_extract rfl rfl)) rfl rfl rfl (fun _ h => h.tail.tail) K.cl ?_
        refine d_c rfl (Qui.ylds (y_extract rfl rfl)) rfl rfl rfl (fun _ h => h.tail.tail) K.cl ?_
        refine d_set rfl (set_aggB Tryz.tab 0 rfl rfl rfl rfl rfl rfl rfl) rfl rfl K.cl (fun _ _ h => h.tail.tail) ?_
        refine d_c rfl (Qui.ylds (y_assign rfl)) rfl rfl rfl (fun _ h => h.tail.tail) K.cl ?_
        refine d_nil ?_
        refine f_then ?_
        refine c_seq ?_
        refine c_seq ?_
        refine c_region ?_
        refine s_y (y_move rfl) rfl rfl rfl ?_
        refine s_y (y_F (y_neq rfl rfl) (by omega)) rfl rfl rfl ?_
        refine s_nil ?_
        refine f_then ?_
        refine c_condF rfl ?_
        refine c_skip ?_
        refine f_then ?_
        refine c_seq ?_
        refine c_region ?_
        refine s_y (y_move rfl) rfl rfl rfl ?_
        refine s_y (y_loadA Tryz.tab rfl rfl rfl rfl (cells_row0 0 rfl rfl)) rfl rfl rfl ?_
        refine s_y (y_nilP rfl) rfl rfl rfl ?_
        refine s_y (y_fieldAddrB Tryz.tab 1 rfl rfl rfl rfl rfl) rfl rfl rfl ?_
        refine s_set (set_aggB Tryz.tab 3 rfl rfl rfl rfl rfl rfl rfl) rfl rfl ?_
        refine s_nil ?_
        refine f_then ?_
        refine c_seq ?_
        obtain ⟨g1, hg1⟩ : ∃ g1 : Bg, g1 = g.setW p' (.pointer (some a)) (setf g.W lo hi to) := ⟨_, rfl⟩
        have hB1 : g1.OK := by rw [hg1]; exact hB.setW hS' hM'
        have hti1 : g1.ts[k - 1]? = some t' := by rw [hg1]; exact hti
        refine SC.cls (C' := K W ([(b3, row 149 [.pointer (some ⟨t'.b, 0, none⟩), .bool mv, .int .i64 (lo : Nat), .int .i64 (hi : Nat), .int .i64 (fr : Nat), .int .i64 (to : Nat), .slice none 0 0])] :: [(t'.b, row 113 t'.cells)] :: t'.lc :: t'.oc :: (g1.fixed ++ (g1.rest k ++ N)))) ?_ (fun w h => by
          have h1 : K W (p' :: [(b3, row 149 [.pointer (some ⟨t'.b, 0, none⟩), .bool mv, .int .i64 (lo : Nat), .int .i64 (hi : Nat), .int .i64 (fr : Nat), .int .i64 (to : Nat), .slice none 0 0])] :: [(g.b, row 96 [g.cv, .pointer (some a), .map (some g.ba), .map (some g.br), g.qv, g.lv])] :: [(g.ba, mobj g.ea g.ca)] :: [(g.br, mobj g.er g.cr)] :: g.qc :: g.lc :: (g.ts.flatMap Tg.chunks ++ N)) w := K.tail (c := [(b8, row 29 [.pointer (some a)])]) h
          have h2 : K W ([(b3, row 149 [.pointer (some ⟨t'.b, 0, none⟩), .bool mv, .int .i64 (lo : Nat), .int .i64 (hi : Nat), .int .i64 (fr : Nat), .int .i64 (to : Nat), .slice none 0 0])] :: p' :: [(g.b, row 96 [g.cv, .pointer (some a), .map (some g.ba), .map (some g.br), g.qv, g.lv])] :: [(g.ba, mobj g.ea g.ca)] :: [(g.br, mobj g.er g.cr)] :: g.qc :: g.lc :: (g.ts.flatMap Tg.chunks ++ N)) w := h1.front 1
          have h3 : K W (g1.L ++ ([(b3, row 149 [.pointer (some ⟨t'.b, 0, none⟩), .bool mv, .int .i64 (lo : Nat), .int .i64 (hi : Nat), .int .i64 (fr : Nat), .int .i64 (to : Nat), .slice none 0 0])] :: N)) w := by rw [hg1]; exact K.bckN (A := [[(b3, row 149 [.pointer (some ⟨t'.b, 0, none⟩), .bool mv, .int .i64 (lo : Nat), .int .i64 (hi : Nat), .int .i64 (fr : Nat), .int .i64 (to : Nat), .slice none 0 0])]]) (B := p' :: [(g.b, row 96 [g.cv, .pointer (some a), .map (some g.ba), .map (some g.br), g.qv, g.lv])] :: [(g.ba, mobj g.ea g.ca)] :: [(g.br, mobj g.er g.cr)] :: g.qc :: g.lc :: (g.ts.flatMap Tg.chunks)) h2
          have h4 := K.foc hti1 h3
          exact K.bckN (A := t'.chunks ++ (g1.fixed ++ g1.rest k)) (B := [[(b3, row 149 [.pointer (some ⟨t'.b, 0, none⟩), .bool mv, .int .i64 (lo : Nat), .int .i64 (hi : Nat), .int .i64 (fr : Nat), .int .i64 (to : Nat), .slice none 0 0])]]) (N := N) (by simpa using h4))
        have hop : CellsAre (K W [[(b3, row 149 [.pointer (some ⟨t'.b, 0, none⟩), .bool mv, .int .i64 (lo : Nat), .int .i64 (hi : Nat), .int .i64 (fr : Nat), .int .i64 (to : Nat), .slice none 0 0])], [(t'.b, row 113 t'.cells)]]) ⟨b3, 1, none⟩ (opc ⟨mv, lo, hi, fr, to, []⟩ (.slice none 0 0)) := op_cells _ _ 0 rfl
        refine c_plan [.c 0, .c 1, .c 2, .c 3, .c 4, .c 5, .c 6, .c 7, .c 8, .s 9, .s 10, .c 11, .c 12, .s 13] [13] ((K W [[(b3, row 149 [.pointer (some ⟨t'.b, 0, none⟩), .bool mv, .int .i64 (lo : Nat), .int .i64 (hi : Nat), .int .i64 (fr : Nat), .int .i64 (to : Nat), .slice none 0 0])], [(t'.b, row 113 t'.cells)]])) Tryz.mixed (by kernel_rfl) rfl K.cl ?_
        refine d_c rfl (Qui.ylds (y_fieldAddr0 Tryz.tab rfl rfl rfl rfl rfl)) rfl rfl rfl (fun w h => h.keep 2) K.cl ?_
        refine d_c rfl (Qui.ylds (y_load Tryz.tab rfl rfl (cell_row 0 rfl rfl))) rfl rfl rfl (fun w h => h.keep 2) K.cl ?_
        refine d_c rfl (Qui.ylds (y_fieldAddr0 Tryz.tab rfl rfl rfl rfl rfl)) rfl rfl rfl (fun w h => h.keep 2) K.cl ?_
        refine d_c rfl (Qui.ylds (y_load Tryz.tab rfl rfl (cell_row 0 rfl rfl))) rfl rfl rfl (fun w h => h.keep 2) K.cl ?_
        refine d_c rfl (Qui.ylds (y_nilP rfl)) rfl rfl rfl (fun w h => h.keep 2) K.cl ?_
        refine d_c rfl (Qui.ylds (y_fieldAddrB Tryz.tab 7 rfl rfl rfl rfl rfl)) rfl rfl rfl (fun w h => h.keep 2) K.cl ?_
        refine d_c rfl (Qui.ylds (y_load Tryz.tab rfl rfl (cell_row 1 rfl rfl))) rfl rfl rfl (fun w h => h.keep 2) K.cl ?_
        refine d_c rfl (Qui.ylds (y_fieldAddrB Tryz.tab 1 rfl rfl rfl rfl rfl)) rfl rfl rfl (fun w h => h.keep 2) K.cl ?_
        refine d_c rfl (Qui.ylds (y_loadA Tryz.tab rfl rfl rfl rfl hop)) rfl rfl rfl (fun w h => h.keep 2) K.cl ?_
        refine d_s rfl (do_buildSliceS Tryz.tab ⟨rfl, rfl, rfl, rfl⟩ rfl rfl rfl rfl) rfl rfl rfl (fun _ => K.cl) (fun _ _ _ h => h.tail.keep 2) (fun b72 => ?_)
        have hal : allCells [Value.agg (opc ⟨mv, lo, hi, fr, to, []⟩ (.slice none 0 0)).toArray] = opc ⟨mv, lo, hi, fr, to, []⟩ (.slice none 0 0) := by simp [allCells, cellsL]
        refine d_s rfl (do_appendR (by_ := 64) (news := opc ⟨mv, lo, hi, fr, to, []⟩ (.slice none 0 0)) Tryz.tab 4 rfl hOt.o rfl ⟨rfl, rfl, rfl, rfl⟩ rfl (by simp) rfl (cells_row0 0 rfl hal) rfl (opc_one rfl) (by rw [List.length_map]; omega) (by omega)) rfl rfl rfl (fun _ => K.cl) (fun _ _ _ h => h.tail.keep 2) (fun y => ?_)
        obtain ⟨⟨ov', oc'⟩, hl'⟩ := y
        dsimp only at hl' ⊢
        refine d_c rfl (Qui.ylds (y_nilP rfl)) rfl rfl rfl (fun w h => h.tail.keep 2) K.cl ?_
        refine d_c rfl (Qui.ylds (y_fieldAddrB Tryz.tab 7 rfl rfl rfl rfl rfl)) rfl rfl rfl (fun w h => h.tail.keep 2) K.cl ?_
        refine d_set rfl (set_row Tryz.tab 2 rfl rfl hl'.one rfl rfl (Nat.lt_of_sub_eq_succ rfl)) rfl rfl K.cl (fun h => by cases h) ?_
        refine d_nil ?_
        refine f_then ?_
        refine c_seq ?_
        refine c_region ?_
        refine s_y (y_assign rfl) rfl rfl rfl ?_
        refine s_y (y_assign rfl) rfl rfl rfl ?_
        refine s_nil ?_
        refine f_then ?_
        refine c_ret ?_
        obtain ⟨t1, ht1⟩ : ∃ t1 : Tg, t1 = { t' with os := t'.os ++ [(⟨mv, lo, hi, fr, to, []⟩, .slice none 0 0)], ov := ov', oc := oc' } := ⟨_, rfl⟩
        have h1b : t1.b = t'.b := by rw [ht1]
        refine f_ret ⟨(g1.setT k t1, 0), hB1.setT hti1 h1b (by rw [ht1]) ?_, .inr (.inr ⟨ca, c0, ?_, rfl⟩), ?_⟩ (res2 rfl rfl rfl) (fun w h => ?_)
        · rw [ht1]
          exact ⟨hOt.l, hl'.of (by simp [opl]), (hB1.ok t' (List.mem_of_getElem? hti1)).r.snoc PE.empty⟩
        · rw [setT_bk, ht1, hg1, Bk.done]
          show _ = Bk.setT _ k { (g.bk.tx k) with ops := _ }
          rw [show (Bk.tx { g.bk with W := setf g.bk.W lo hi to } k) = g.bk.tx k from rfl, htx]
          simp [Tg.tx, Bg.setW, Bg.bk]
        · exact Bg.Anc.trans (by rw [hg1]; exact ⟨rfl, rfl, rfl⟩) (setT_anc hti1 h1b)
        · dsimp only
          have h3 : K W (t1.chunks ++ (g1.fixed ++ (g1.rest k ++ N))) w := by rw [ht1]; exact h.tail.tail
          exact K.unfoc hti1 h3
  · have hne : ¬ ((cntf g.W fr hi : Int) - (cntf g.W fr lo : Int) = (hi : Int) - (lo : Int)) := fun h => ca (hcr.1 h)
    have hc1 := cntf_le g.W fr hi
    have hc2 := cntf_le g.W fr lo
    refine d_c rfl (Qui.ylds (y_move rfl)) rfl rfl rfl (fun _ h => h) K.cl ?_
    refine d_c rfl (Qui.ylds (y_extract rfl rfl)) rfl rfl rfl (fun _ h => h) K.cl ?_
    refine d_c rfl (Qui.ylds (y_extract rfl rfl)) rfl rfl rfl (fun _ h => h) K.cl ?_
    refine d_c rfl (Qui.ylds (y_assign rfl)) rfl rfl rfl (fun _ h => h) K.cl ?_
    refine d_c rfl (Qui.ylds (y_assign rfl)) rfl rfl rfl (fun _ h => h) K.cl ?_
    refine d_nil ?_
    refine f_then ?_
    refine c_seq ?_
    refine c_region ?_
    refine s_y (y_move rfl) rfl rfl rfl ?_
    refine s_y (y_fieldAddrB Tryz.tab 1 rfl rfl rfl rfl rfl) rfl rfl rfl ?_
    refine s_y (y_fieldAddr Tryz.tab 2 rfl rfl rfl rfl rfl) rfl rfl rfl ?_
    refine s_y (y_load Tryz.tab rfl rfl (cell_row 1 rfl rfl)) rfl rfl rfl ?_
    refine s_y (y_fieldAddrB Tryz.tab 1 rfl rfl rfl rfl rfl) rfl rfl rfl ?_
    refine s_y (y_fieldAddr Tryz.tab 1 rfl rfl rfl rfl rfl) rfl rfl rfl ?_
    refine s_y (y_load Tryz.tab rfl rfl (cell_row 1 rfl rfl)) rfl rfl rfl ?_
    refine s_y (y_sub rfl rfl (by omega)) rfl rfl rfl ?_
    refine s_y (y_T (y_neq rfl rfl) (by assumption)) rfl rfl rfl ?_
    refine s_nil ?_
    refine f_then ?_
    refine c_condT rfl ?_
    refine c_seq ?_
    refine c_region ?_
    refine s_y (y_assign rfl) rfl rfl rfl ?_
    refine s_y (y_assign rfl) rfl rfl rfl ?_
    refine s_nil ?_
    refine f_then ?_
    refine c_ret ?_
    refine f_thenR ?_
    exact f_ret ⟨(g, 6), hB, .inl ⟨ca, rfl, rfl⟩, .refl _⟩ (res2 rfl rfl rfl) (fun w h => h.dropAt 1)
end Go.KL
end

section
/- Walks: perform. -/
namespace Go.KL
open Go.Proofs
/-- What performing an operation does. -/
inductive Bk.Perf (A : Bk) (tx : Int) (mv : Bool) (lo hi fr to : Int) : Bk → Nat → List Rn → Prop
  | none (h : ¬ (1 ≤ tx ∧ tx ≤ A.ts.length)) : Perf A tx mv lo hi fr to A 80 []
  | aborted {k : Nat} (hk : tx = k) (hh : A.has k) (h : (A.tx k).st = 4) : Perf A tx mv lo hi fr to A 81 []
  | committed {k : Nat} (hk : tx = k) (hh : A.has k) (h : (A.tx k).st = 3) : Perf A tx mv lo hi fr to A 82 []
  | waiting {k : Nat} (hk : tx = k) (hh : A.has k) (h : (A.tx k).st = 2) : Perf A tx mv lo hi fr to A 83 []
  | range {k : Nat} (hk : tx = k) (hh : A.has k) (h : (A.tx k).st = 1) (hr : lo < 0 ∨ hi < lo ∨ (A.size : Int) < hi) : Perf A tx mv lo hi fr to A 3 []
  | arg {k : Nat} (hk : tx = k) (hh : A.has k) (h : (A.tx k).st = 1) (hr : 0 ≤ lo ∧ lo ≤ hi ∧ hi ≤ (A.size : Int)) (ha : fr < 0 ∨ 16 ≤ fr ∨ to < 0 ∨ 16 ≤ to) : Perf A tx mv lo hi fr to A 2 []
  | no {k l m a b e : Nat} {B : Bk} (hk : tx = k) (hh : A.has k) (h : (A.tx k).st = 1) (hl : lo = l) (hm : hi = m) (hf : fr = a) (ht : to = b) (hr : l ≤ m ∧ m ≤ A.size) (ha : a < 16 ∧ b < 16) (ho : A.Obt k l m mv B e) (he : e ≠ 0) : Perf A tx mv lo hi fr to B e []
  | look {k l m a b : Nat} {B : Bk} (hk : tx = k) (hh : A.has k) (h : (A.tx k).st = 1) (hl : lo = l) (hm : hi = m) (hf : fr = a) (ht : to = b) (hr : l ≤ m ∧ m ≤ A.size) (ha : a < 16 ∧ b < 16) (ho : A.Obt k l m mv B 0) (hmv : mv = false) : Perf A tx mv lo hi fr to (B.done k ⟨mv, l, m, a, b, rns B.W l m⟩) 0 (rns B.W l m)
  | move {k l m a b e : Nat} {B D : Bk} (hk : tx = k) (hh : A.has k) (h : (A.tx k).st = 1) (hl : lo = l) (hm : hi = m) (hf : fr = a) (ht : to = b) (hr : l ≤ m ∧ m ≤ A.size) (ha : a < 16 ∧ b < 16) (ho : A.Obt k l m mv B 0) (hmv : mv = true) (hd : B.Mvd k ⟨mv, l, m, a, b, []⟩ D e) : Perf A tx mv lo hi fr to D e []
/-- What the walk through an operation asks of a book. -/
structure Bk.Prm (A : Bk) (k lo hi : Nat) (wr : Bool) : Prop where
  obt : ∃ I : Bk → Prop, (∀ A, I A → A.Good) ∧ (∀ A v, I A → (A.tx k).st = 2 → A.IsVic k v → v ≠ 0 → I (A.abort v)) ∧ (¬ Hold (A.tx k).locks lo hi wr → A.count < 1024 → A.free ⟨k, lo, hi, wr⟩ A.q = false → I (A.wait k ⟨k, lo, hi, wr⟩)) ∧ (∀ A, I A → (A.tx k).st = 1 ∨ (A.tx k).st = 2 ∨ (A.tx k).st = 4)
  aft : ∀ B, A.Obt k lo hi wr B 0 → B.size = A.size ∧ B.Good ∧ nbd B.W B.size ≤ 4096 ∧ nbd B.C B.size + 2 * B.moves ≤ 4096 ∧ (B.room ≠ 0 → ∀ to, nbd (setf B.W lo hi to) B.size ≤ 4096)
attribute [local irreducible] SC St Fin Sq Ylds Doos Sets Enters Spec CellIs CellsAre Then Ret Rnd Chn resOK ints bools recs arr
set_option maxRecDepth 10000 in
set_option maxHeartbeats 16000000 in
theorem perform_b {g : Bg} {W : World} {N : List Chunk} {tx lo hi fr to : Int} {mv : Bool} (hB : g.OK) (hG : g.bk.Good) (hS : ∀ k, g.has k → (g.bk.tx k).st = 1 ∨ (g.bk.tx k).st = 2 ∨ (g.bk.tx k).st = 3 ∨ (g.bk.tx k).st = 4)
    (hP : ∀ k l m : Nat, tx = k → lo = l → hi = m → g.has k → (g.bk.tx k).st = 1 → l ≤ m → m ≤ g.size → g.bk.Prm k l m mv) :
    Spec Tryz.prog 62 #[.pointer (some ⟨g.b, 0, none⟩), .int .i64 tx, .agg #[.bool mv, .int .i64 lo, .int .i64 hi, .int .i64 fr, .int .i64 to, .slice none 0 0]] (K W (g.L ++ N))
      (X := { x : Bg × Nat × List Rn × Value × Chunk // x.1.OK ∧ g.bk.Perf tx mv lo hi fr to x.1.bk x.2.1 x.2.2.1 ∧ g.Anc x.1 ∧ BufR 26 3 x.2.2.2.1 x.2.2.2.2 (rnl x.2.2.1) }) (fun x => .tuple #[x.1.2.2.2.1, .int .i64 (x.1.2.1 : Nat)]) (fun x => K W (x.1.2.2.2.2 :: (x.1.1.L ++ N))) := by
  have hsz := hB.mW.pos
  refine enter (args := [_, _, _]) Tryz.func62 rfl Tryz.ntmps62 rfl ?_
  refine c_seq ?_
  refine c_region ?_
  refine s_do (do_box rfl) rfl rfl rfl (fun b5 => ?_)
  refine s_y (y_assign rfl) rfl rfl rfl ?_
  refine s_y (y_assign rfl) rfl rfl rfl ?_
  refine s_nil ?_
  refine f_then ?_
  refine c_seq ?_
  refine c_region ?_
  refine s_y (y_move rfl) rfl rfl rfl ?_
  refine s_y (y_move rfl) rfl rfl rfl ?_
  refine s_call (en_f rfl Tryz.call64) (find_b hB Hs.bk.cons) rfl rfl rfl (fun _ => ?_)
  by_cases c : 1 ≤ tx ∧ tx ≤ g.ts.length
  · obtain ⟨k, rfl⟩ : ∃ k : Nat, tx = k := ⟨tx.toNat, by omega⟩
    have hk : g.has k := ⟨by omega, by omega⟩
    have hkb : g.bk.has k := Bg.has_bk.2 hk
    obtain ⟨t, htm, hti, hid, hpb, htx⟩ := hB.at hk
    have hst := hS k hk
    rw [htx] at hst
    change t.st = 1 ∨ t.st = 2 ∨ t.st = 3 ∨ t.st = 4 at hst
    have ef : g.fnd k = if t.st = 4 then (.pointer none, 81) else if t.st = 3 then (.pointer none, 82) else (.pointer (some ⟨t.b, 0, none⟩), 0) := by
      rw [Bg.fnd, if_pos c, Int.toNat_natCast, htx, Bg.ptr, hpb]
      rfl
    have hs2 : ∀ z, t.st = z → (g.bk.tx k).st = z := fun z h => by rw [htx]; exact h
    rw [ef]
    by_cases c4 : t.st = 4
    · rw [if_pos c4]
      refine s_y (y_move rfl) rfl rfl rfl ?_
      refine s_y (y_extract rfl rfl) rfl rfl rfl ?_
      refine s_y (y_extract rfl rfl) rfl rfl rfl ?_
      refine s_y (y_assign rfl) rfl rfl rfl ?_
      refine s_y (y_assign rfl) rfl rfl rfl ?_
      refine s_nil ?_
      refine f_then ?_
      refine c_seq ?_
      refine c_block ?_
      refine c_seq ?_
      refine c_region ?_
      refine s_y (y_move rfl) rfl rfl rfl ?_
      refine s_y (y_T (y_neq rfl rfl) (by omega)) rfl rfl rfl ?_
      refine s_y (y_assign rfl) rfl rfl rfl ?_
      refine s_nil ?_
      refine f_then ?_
      refine c_condT rfl ?_
      refine c_seq ?_
      refine c_region ?_
      refine s_y (y_move rfl) rfl rfl rfl ?_
      refine s_y (y_assign rfl) rfl rfl rfl ?_
      refine s_y (y_assign rfl) rfl rfl rfl ?_
      refine s_nil ?_
      refine f_then ?_
      refine c_ret ?_
      refine f_blockR ?_
      refine f_thenR ?_
      exact f_ret ⟨(g, 81, [], .slice none 0 0, []), hB, .aborted rfl hkb (hs2 _ c4), .refl _, .nil⟩ (res2 rfl rfl rfl) (fun w h => h.tail.addNil)
    rw [if_neg c4]
    by_cases c3 : t.st = 3
    · rw [if_pos c3]
      refine s_y (y_move rfl) rfl rfl rfl ?_
      refine s_y (y_extract rfl rfl) rfl rfl rfl ?_
      refine s_y (y_extract rfl rfl) rfl rfl rfl ?_
      refine s_y (y_assign rfl) rfl rfl rfl ?_
      refine s_y (y_assign rfl) rfl rfl rfl ?_
      refine s_nil ?_
      refine f_then ?_
      refine c_seq ?_
      refine c_block ?_
      refine c_seq ?_
      refine c_region ?_
      refine s_y (y_move rfl) rfl rfl rfl ?_
      refine s_y (y_T (y_neq rfl rfl) (by omega)) rfl rfl rfl ?_
      refine s_y (y_assign rfl) rfl rfl rfl ?_
      refine s_nil ?_
      refine f_then ?_
      refine c_condT rfl ?_
      refine c_seq ?_
      refine c_region ?_
      refine s_y (y_move rfl) rfl rfl rfl ?_
      refine s_y (y_assign rfl) rfl rfl rfl ?_
      refine s_y (y_assign rfl) rfl rfl rfl ?_
      refine s_nil ?_
      refine f_then ?_
      refine c_ret ?_
      refine f_blockR ?_
      refine f_thenR ?_
      exact f_ret ⟨(g, 82, [], .slice none 0 0, []), hB, .committed rfl hkb (hs2 _ c3), .refl _, .nil⟩ (res2 rfl rfl rfl) (fun w h => h.tail.addNil)
    rw [if_neg c3]
    have e1 := (hB.tf (C := K W ([(b5, row 60 [.bool mv, .int .i64 lo, .int .i64 hi, .int .i64 fr, .int .i64 to, .slice none 0 0])] :: (g.L ++ N))) Hs.bk.cons htm).c1
    by_cases c2 : t.st = 2
    · rw [c2] at e1
      refine s_y (y_move rfl) rfl rfl rfl ?_
      refine s_y (y_extract rfl rfl) rfl rfl rfl ?_
      refine s_y (y_extract rfl rfl) rfl rfl rfl ?_
      refine s_y (y_assign rfl) rfl rfl rfl ?_
      refine s_y (y_assign rfl) rfl rfl rfl ?_
      refine s_nil ?_
      refine f_then ?_
      refine c_seq ?_
      refine c_block ?_
      refine c_seq ?_
      refine c_region ?_
      refine s_y (y_move rfl) rfl rfl rfl ?_
      refine s_y (y_F (y_neq rfl rfl) (by omega)) rfl rfl rfl ?_
      refine s_y (y_assign rfl) rfl rfl rfl ?_
      refine s_nil ?_
      refine f_then ?_
      refine c_condF rfl ?_
      refine c_seq ?_
      refine c_region ?_
      refine s_y (y_move rfl) rfl rfl rfl ?_
      refine s_y (y_nilP rfl) rfl rfl rfl ?_
      refine s_y (y_fieldAddrB Tryz.tab 1 rfl rfl rfl rfl rfl) rfl rfl rfl ?_
      refine s_y (y_load Tryz.tab rfl rfl e1) rfl rfl rfl ?_
      refine s_y (y_T (y_eql rfl rfl) (by omega)) rfl rfl rfl ?_
      refine s_y (y_assign rfl) rfl rfl rfl ?_
      refine s_nil ?_
      refine f_then ?_
      refine c_condT rfl ?_
      refine c_seq ?_
      refine c_region ?_
      refine s_y (y_assign rfl) rfl rfl rfl ?_
      refine s_y (y_assign rfl) rfl rfl rfl ?_
      refine s_nil ?_
      refine f_then ?_
      refine c_ret ?_
      refine f_blockR ?_
      refine f_thenR ?_
      exact f_ret ⟨(g, 83, [], .slice none 0 0, []), hB, .waiting rfl hkb (hs2 _ c2), .refl _, .nil⟩ (res2 rfl rfl rfl) (fun w h => h.tail.addNil)
    have c1 : t.st = 1 := by omega
    rw [c1] at e1
    refine s_y (y_move rfl) rfl rfl rfl ?_
    refine s_y (y_extract rfl rfl) rfl rfl rfl ?_
    refine s_y (y_extract rfl rfl) rfl rfl rfl ?_
    refine s_y (y_assign rfl) rfl rfl rfl ?_
    refine s_y (y_assign rfl) rfl rfl rfl ?_
    refine s_nil ?_
    refine f_then ?_
    refine c_seq ?_
    refine c_block ?_
    refine c_seq ?_
    refine c_region ?_
    refine s_y (y_move rfl) rfl rfl rfl ?_
    refine s_y (y_F (y_neq rfl rfl) (by omega)) rfl rfl rfl ?_
    refine s_y (y_assign rfl) rfl rfl rfl ?_
    refine s_nil ?_
    refine f_then ?_
    refine c_condF rfl ?_
    refine c_seq ?_
    refine c_region ?_
    refine s_y (y_move rfl) rfl rfl rfl ?_
    refine s_y (y_nilP rfl) rfl rfl rfl ?_
    refine s_y (y_fieldAddrB Tryz.tab 1 rfl rfl rfl rfl rfl) rfl rfl rfl ?_
    refine s_y (y_load Tryz.tab rfl rfl e1) rfl rfl rfl ?_
    refine s_y (y_F (y_eql rfl rfl) (by omega)) rfl rfl rfl ?_
    refine s_y (y_assign rfl) rfl rfl rfl ?_
    refine s_nil ?_
    refine f_then ?_
    refine c_condF rfl ?_
    refine c_seq ?_
    have hs1 := hs2 1 c1
    refine SC.cls (C' := K W (g.p :: [(b5, row 60 [.bool mv, .int .i64 lo, .int .i64 hi, .int .i64 fr, .int .i64 to, .slice none 0 0])] :: [(g.b, row 96 g.cells)] :: [(g.ba, mobj g.ea g.ca)] :: [(g.br, mobj g.er g.cr)] :: g.qc :: g.lc :: (g.ts.flatMap Tg.chunks ++ N))) ?_ (fun w h => K.front 1 h)
    have hwc : CellsAre (K W (g.p :: [(b5, row 60 [.bool mv, .int .i64 lo, .int .i64 hi, .int .i64 fr, .int .i64 to, .slice none 0 0])] :: [(g.b, row 96 g.cells)] :: [(g.ba, mobj g.ea g.ca)] :: [(g.br, mobj g.er g.cr)] :: g.qc :: g.lc :: (g.ts.flatMap Tg.chunks ++ N))) ⟨g.b, 1, none⟩ [g.wv] := CellsAre.one (cell_row 2 rfl rfl)
    have hback : ∀ w, K W (g.p :: [(b5, row 60 [.bool mv, .int .i64 lo, .int .i64 hi, .int .i64 fr, .int .i64 to, .slice none 0 0])] :: [(g.b, row 96 g.cells)] :: [(g.ba, mobj g.ea g.ca)] :: [(g.br, mobj g.er g.cr)] :: g.qc :: g.lc :: (g.ts.flatMap Tg.chunks ++ N)) w → K W ([] :: (g.L ++ N)) w := fun w h => K.addNil (K.dropAt 1 h)
    by_cases q1 : lo < 0
    · refine c_plan [.c 0, .c 1, .c 2, .c 3, .c 4, .c 5, .c 6, .c 7, .c 8, .c 9, .c 10, .c 11, .c 12, .c 13, .c 14, .c 15, .c 16, .s 17, .c 18, .c 19, .c 20] [] ((K W (g.p :: [(b5, row 60 [.bool mv, .int .i64 lo, .int .i64 hi, .int .i64 fr, .int .i64 to, .slice none 0 0])] :: [(g.b, row 96 g.cells)] :: [(g.ba, mobj g.ea g.ca)] :: [(g.br, mobj g.er g.cr)] :: g.qc :: g.lc :: (g.ts.flatMap Tg.chunks ++ N)))) Tryz.mixed (by kernel_rfl) rfl K.cl ?_
      refine d_c rfl (Qui.ylds (y_fieldAddrB Tryz.tab 1 rfl rfl rfl rfl rfl)) rfl rfl rfl (fun _ h => h) K.cl ?_
      refine d_c rfl (Qui.ylds (y_load Tryz.tab rfl rfl (cell_row 1 rfl rfl))) rfl rfl rfl (fun _ h => h) K.cl ?_
      refine d_c rfl (Qui.ylds (y_T (y_lss rfl rfl) (by assumption))) rfl rfl rfl (fun _ h => h) K.cl ?_
      refine d_c rfl (Qui.ylds (y_move rfl)) rfl rfl rfl (fun _ h => h) K.cl ?_
      refine d_skip rfl rfl rfl rfl (fun _ h => h) K.cl ?_
      refine d_skip rfl rfl rfl rfl (fun _ h => h) K.cl ?_
      refine d_skip rfl rfl rfl rfl (fun _ h => h) K.cl ?_
      refine d_skip rfl rfl rfl rfl (fun _ h => h) K.cl ?_
      refine d_skip rfl rfl rfl rfl (fun _ h => h) K.cl ?_
      refine d_c rfl (Qui.ylds (y_pickT rfl rfl)) rfl rfl rfl (fun _ h => h) K.cl ?_
      refine d_c rfl (Qui.ylds (y_move rfl)) rfl rfl rfl (fun _ h => h) K.cl ?_
      refine d_skip rfl rfl rfl rfl (fun _ h => h) K.cl ?_
      refine d_skip rfl rfl rfl rfl (fun _ h => h) K.cl ?_
      refine d_skip rfl rfl rfl rfl (fun _ h => h) K.cl ?_
      refine d_skip rfl rfl rfl rfl (fun _ h => h) K.cl ?_
      refine d_skip rfl rfl rfl rfl (fun _ h => h) K.cl ?_
      refine d_skip rfl rfl rfl rfl (fun _ h => h) K.cl ?_
      refine d_sskip rfl rfl rfl rfl (fun _ _ h => h) ?_
      refine d_skip rfl rfl rfl rfl (fun _ h => h) K.cl ?_
      refine d_c rfl (Qui.ylds (y_pickT rfl rfl)) rfl rfl rfl (fun _ h => h) K.cl ?_
      refine d_c rfl (Qui.ylds (y_assign rfl)) rfl rfl rfl (fun _ h => h) K.cl ?_
      refine d_nil ?_
      refine f_then ?_
      refine c_condT rfl ?_
      refine c_seq ?_
      refine c_region ?_
      refine s_y (y_assign rfl) rfl rfl rfl ?_
      refine s_y (y_assign rfl) rfl rfl rfl ?_
      refine s_nil ?_
      refine f_then ?_
      refine c_ret ?_
      refine f_blockR ?_
      refine f_thenR ?_
      exact f_ret ⟨(g, 3, [], .slice none 0 0, []), hB, .range rfl hkb hs1 (.inl q1), .refl _, .nil⟩ (res2 rfl rfl rfl) hback
    by_cases q2 : hi < lo
    · refine c_plan [.c 0, .c 1, .c 2, .c 3, .c 4, .c 5, .c 6, .c 7, .c 8, .c 9, .c 10, .c 11, .c 12, .c 13, .c 14, .c 15, .c 16, .s 17, .c 18, .c 19, .c 20] [] ((K W (g.p :: [(b5, row 60 [.bool mv, .int .i64 lo, .int .i64 hi, .int .i64 fr, .int .i64 to, .slice none 0 0])] :: [(g.b, row 96 g.cells)] :: [(g.ba, mobj g.ea g.ca)] :: [(g.br, mobj g.er g.cr)] :: g.qc :: g.lc :: (g.ts.flatMap Tg.chunks ++ N)))) Tryz.mixed (by kernel_rfl) rfl K.cl ?_
      refine d_c rfl (Qui.ylds (y_fieldAddrB Tryz.tab 1 rfl rfl rfl rfl rfl)) rfl rfl rfl (fun _ h => h) K.cl ?_
      refine d_c rfl (Qui.ylds (y_load Tryz.tab rfl rfl (cell_row 1 rfl rfl))) rfl rfl rfl (fun _ h => h) K.cl ?_
      refine d_c rfl (Qui.ylds (y_F (y_lss rfl rfl) (by assumption))) rfl rfl rfl (fun _ h => h) K.cl ?_
      refine d_c rfl (Qui.ylds (y_move rfl)) rfl rfl rfl (fun _ h => h) K.cl ?_
      refine d_c rfl (Qui.ylds (y_fieldAddrB Tryz.tab 1 rfl rfl rfl rfl rfl)) rfl rfl rfl (fun _ h => h) K.cl ?_
      refine d_c rfl (Qui.ylds (y_load Tryz.tab rfl rfl (cell_row 1 rfl rfl))) rfl rfl rfl (fun _ h => h) K.cl ?_
      refine d_c rfl (Qui.ylds (y_fieldAddrB Tryz.tab 2 rfl rfl rfl rfl rfl)) rfl rfl rfl (fun _ h => h) K.cl ?_
      refine d_c rfl (Qui.ylds (y_load Tryz.tab rfl rfl (cell_row 1 rfl rfl))) rfl rfl rfl (fun _ h => h) K.cl ?_
      refine d_c rfl (Qui.ylds (y_T (y_gtr rfl rfl) (by assumption))) rfl rfl rfl (fun _ h => h) K.cl ?_
      refine d_c rfl (Qui.ylds (y_pickF rfl rfl)) rfl rfl rfl (fun _ h => h) K.cl ?_
      refine d_c rfl (Qui.ylds (y_move rfl)) rfl rfl rfl (fun _ h => h) K.cl ?_
      refine d_skip rfl rfl rfl rfl (fun _ h => h) K.cl ?_
      refine d_skip rfl rfl rfl rfl (fun _ h => h) K.cl ?_
      refine d_skip rfl rfl rfl rfl (fun _ h => h) K.cl ?_
      refine d_skip rfl rfl rfl rfl (fun _ h => h) K.cl ?_
      refine d_skip rfl rfl rfl rfl (fun _ h => h) K.cl ?_
      refine d_skip rfl rfl rfl rfl (fun _ h => h) K.cl ?_
      refine d_sskip rfl rfl rfl rfl (fun _ _ h => h) ?_
      refine d_skip rfl rfl rfl rfl (fun _ h => h) K.cl ?_
      refine d_c rfl (Qui.ylds (y_pickT rfl rfl)) rfl rfl rfl (fun _ h => h) K.cl ?_
      refine d_c rfl (Qui.ylds (y_assign rfl)) rfl rfl rfl (fun _ h => h) K.cl ?_
      refine d_nil ?_
      refine f_then ?_
      refine c_condT rfl ?_
      refine c_seq ?_
      refine c_region ?_
      refine s_y (y_assign rfl) rfl rfl rfl ?_
      refine s_y (y_assign rfl) rfl rfl rfl ?_
      refine s_nil ?_
      refine f_then ?_
      refine c_ret ?_
      refine f_blockR ?_
      refine f_thenR ?_
      exact f_ret ⟨(g, 3, [], .slice none 0 0, []), hB, .range rfl hkb hs1 (.inr (.inl q2)), .refl _, .nil⟩ (res2 rfl rfl rfl) hback
    by_cases q3 : (g.size : Int) < hi
    · refine c_plan [.c 0, .c 1, .c 2, .c 3, .c 4, .c 5, .c 6, .c 7, .c 8, .c 9, .c 10, .c 11, .c 12, .c 13, .c 14, .c 15, .c 16, .s 17, .c 18, .c 19, .c 20] [] ((K W (g.p :: [(b5, row 60 [.bool mv, .int .i64 lo, .int .i64 hi, .int .i64 fr, .int .i64 to, .slice none 0 0])] :: [(g.b, row 96 g.cells)] :: [(g.ba, mobj g.ea g.ca)] :: [(g.br, mobj g.er g.cr)] :: g.qc :: g.lc :: (g.ts.flatMap Tg.chunks ++ N)))) Tryz.mixed (by kernel_rfl) rfl K.cl ?_
      refine d_c rfl (Qui.ylds (y_fieldAddrB Tryz.tab 1 rfl rfl rfl rfl rfl)) rfl rfl rfl (fun _ h => h) K.cl ?_
      refine d_c rfl (Qui.ylds (y_load Tryz.tab rfl rfl (cell_row 1 rfl rfl))) rfl rfl rfl (fun _ h => h) K.cl ?_
      refine d_c rfl (Qui.ylds (y_F (y_lss rfl rfl) (by assumption))) rfl rfl rfl (fun _ h => h) K.cl ?_
      refine d_c rfl (Qui.ylds (y_move rfl)) rfl rfl rfl (fun _ h => h) K.cl ?_
      refine d_c rfl (Qui.ylds (y_fieldAddrB Tryz.tab 1 rfl rfl rfl rfl rfl)) rfl rfl rfl (fun _ h => h) K.cl ?_
      refine d_c rfl (Qui.ylds (y_load Tryz.tab rfl rfl (cell_row 1 rfl rfl))) rfl rfl rfl (fun _ h => h) K.cl ?_
      refine d_c rfl (Qui.ylds (y_fieldAddrB Tryz.tab 2 rfl rfl rfl rfl rfl)) rfl rfl rfl (fun _ h => h) K.cl ?_
      refine d_c rfl (Qui.ylds (y_load Tryz.tab rfl rfl (cell_row 1 rfl rfl))) rfl rfl rfl (fun _ h => h) K.cl ?_
      refine d_c rfl (Qui.ylds (y_F (y_gtr rfl rfl) (by assumption))) rfl rfl rfl (fun _ h => h) K.cl ?_
      refine d_c rfl (Qui.ylds (y_pickF rfl rfl)) rfl rfl rfl (fun _ h => h) K.cl ?_
      refine d_c rfl (Qui.ylds (y_move rfl)) rfl rfl rfl (fun _ h => h) K.cl ?_
      refine d_c rfl (Qui.ylds (y_fieldAddrB Tryz.tab 2 rfl rfl rfl rfl rfl)) rfl rfl rfl (fun _ h => h) K.cl ?_
      refine d_c rfl (Qui.ylds (y_load Tryz.tab rfl rfl (cell_row 1 rfl rfl))) rfl rfl rfl (fun _ h => h) K.cl ?_
      refine d_c rfl (Qui.ylds (y_move rfl)) rfl rfl rfl (fun _ h => h) K.cl ?_
      refine d_c rfl (Qui.ylds (y_nilP rfl)) rfl rfl rfl (fun _ h => h) K.cl ?_
      refine d_c rfl (Qui.ylds (y_fieldAddrB Tryz.tab 1 rfl rfl rfl rfl rfl)) rfl rfl rfl (fun _ h => h) K.cl ?_
      refine d_c rfl (Qui.ylds (y_loadA Tryz.tab rfl rfl rfl rfl hwc)) rfl rfl rfl (fun _ h => h) K.cl ?_
      refine d_call rfl (en_f rfl Tryz.call36) (msize_spec (R := [(b5, row 60 [.bool mv, .int .i64 lo, .int .i64 hi, .int .i64 fr, .int .i64 to, .slice none 0 0])] :: [(g.b, row 96 g.cells)] :: [(g.ba, mobj g.ea g.ca)] :: [(g.br, mobj g.er g.cr)] :: g.qc :: g.lc :: (g.ts.flatMap Tg.chunks ++ N)) hB.mW) rfl rfl rfl (fun _ => K.cl) (fun _ _ _ h => h) (fun _ => ?_)
      refine d_c rfl (Qui.ylds (y_T (y_gtr rfl rfl) (by assumption))) rfl rfl rfl (fun _ h => h) K.cl ?_
      refine d_c rfl (Qui.ylds (y_pickF rfl rfl)) rfl rfl rfl (fun _ h => h) K.cl ?_
      refine d_c rfl (Qui.ylds (y_assign rfl)) rfl rfl rfl (fun _ h => h) K.cl ?_
      refine d_nil ?_
      refine f_then ?_
      refine c_condT rfl ?_
      refine c_seq ?_
      refine c_region ?_
      refine s_y (y_assign rfl) rfl rfl rfl ?_
      refine s_y (y_assign rfl) rfl rfl rfl ?_
      refine s_nil ?_
      refine f_then ?_
      refine c_ret ?_
      refine f_blockR ?_
      refine f_thenR ?_
      exact f_ret ⟨(g, 3, [], .slice none 0 0, []), hB, .range rfl hkb hs1 (.inr (.inr q3)), .refl _, .nil⟩ (res2 rfl rfl rfl) hback
    by_cases q4 : fr < 0 ∨ 16 ≤ fr ∨ to < 0 ∨ 16 ≤ to
    · have hpf := Bk.Perf.arg (A := g.bk) (mv := mv) (fr := fr) (to := to) rfl hkb hs1 ⟨Int.not_lt.1 q1, Int.not_lt.1 q2, Int.not_lt.1 q3⟩ q4
      by_cases q5 : fr < 0
      · refine c_plan [.c 0, .c 1, .c 2, .c 3, .c 4, .c 5, .c 6, .c 7, .c 8, .c 9, .c 10, .c 11, .c 12, .c 13, .c 14, .c 15, .c 16, .s 17, .c 18, .c 19, .c 20] [] ((K W (g.p :: [(b5, row 60 [.bool mv, .int .i64 lo, .int .i64 hi, .int .i64 fr, .int .i64 to, .slice none 0 0])] :: [(g.b, row 96 g.cells)] :: [(g.ba, mobj g.ea g.ca)] :: [(g.br, mobj g.er g.cr)] :: g.qc :: g.lc :: (g.ts.flatMap Tg.chunks ++ N)))) Tryz.mixed (by kernel_rfl) rfl K.cl ?_
        refine d_c rfl (Qui.ylds (y_fieldAddrB Tryz.tab 1 rfl rfl rfl rfl rfl)) rfl rfl rfl (fun _ h => h) K.cl ?_
        refine d_c rfl (Qui.ylds (y_load Tryz.tab rfl rfl (cell_row 1 rfl rfl))) rfl rfl rfl (fun _ h => h) K.cl ?_
        refine d_c rfl (Qui.ylds (y_F (y_lss rfl rfl) (by assumption))) rfl rfl rfl (fun _ h => h) K.cl ?_
        refine d_c rfl (Qui.ylds (y_move rfl)) rfl rfl rfl (fun _ h => h) K.cl ?_
        refine d_c rfl (Qui.ylds (y_fieldAddrB Tryz.tab 1 rfl rfl rfl rfl rfl)) rfl rfl rfl (fun _ h => h) K.cl ?_
        refine d_c rfl (Qui.ylds (y_load Tryz.tab rfl rfl (cell_row 1 rfl rfl))) rfl rfl rfl (fun _ h => h) K.cl ?_
        refine d_c rfl (Qui.ylds (y_fieldAddrB Tryz.tab 2 rfl rfl rfl rfl rfl)) rfl rfl rfl (fun _ h => h) K.cl ?_
        refine d_c rfl (Qui.ylds (y_load Tryz.tab rfl rfl (cell_row 1 rfl rfl))) rfl rfl rfl (fun _ h => h) K.cl ?_
        refine d_c rfl (Qui.ylds (y_F (y_gtr rfl rfl) (by assumption))) rfl rfl rfl (fun _ h => h) K.cl ?_
        refine d_c rfl (Qui.ylds (y_pickF rfl rfl)) rfl rfl rfl (fun _ h => h) K.cl ?_
        refine d_c rfl (Qui.ylds (y_move rfl)) rfl rfl rfl (fun _ h => h) K.cl ?_
        refine d_c rfl (Qui.ylds (y_fieldAddrB Tryz.tab 2 rfl rfl rfl rfl rfl)) rfl rfl rfl (fun _ h => h) K.cl ?_
        refine d_c rfl (Qui.ylds (y_load Tryz.tab rfl rfl (cell_row 1 rfl rfl))) rfl rfl rfl (fun _ h => h) K.cl ?_
        refine d_c rfl (Qui.ylds (y_move rfl)) rfl rfl rfl (fun _ h => h) K.cl ?_
        refine d_c rfl (Qui.ylds (y_nilP rfl)) rfl rfl rfl (fun _ h => h) K.cl ?_
        refine d_c rfl (Qui.ylds (y_fieldAddrB Tryz.tab 1 rfl rfl rfl rfl rfl)) rfl rfl rfl (fun _ h => h) K.cl ?_
        refine d_c rfl (Qui.ylds (y_loadA Tryz.tab rfl rfl rfl rfl hwc)) rfl rfl rfl (fun _ h => h) K.cl ?_
        refine d_call rfl (en_f rfl Tryz.call36) (msize_spec (R := [(b5, row 60 [.bool mv, .int .i64 lo, .int .i64 hi, .int .i64 fr, .int .i64 to, .slice none 0 0])] :: [(g.b, row 96 g.cells)] :: [(g.ba, mobj g.ea g.ca)] :: [(g.br, mobj g.er g.cr)] :: g.qc :: g.lc :: (g.ts.flatMap Tg.chunks ++ N)) hB.mW) rfl rfl rfl (fun _ => K.cl) (fun _ _ _ h => h) (fun _ => ?_)
        refine d_c rfl (Qui.ylds (y_F (y_gtr rfl rfl) (by assumption))) rfl rfl rfl (fun _ h => h) K.cl ?_
        refine d_c rfl (Qui.ylds (y_pickF rfl rfl)) rfl rfl rfl (fun _ h => h) K.cl ?_
        refine d_c rfl (Qui.ylds (y_assign rfl)) rfl rfl rfl (fun _ h => h) K.cl ?_
        refine d_nil ?_
        refine f_then ?_
        refine c_condF rfl ?_
        refine c_seq ?_
        refine c_region ?_
        refine s_y (y_fieldAddrB Tryz.tab 3 rfl rfl rfl rfl rfl) rfl rfl rfl ?_
        refine s_y (y_load Tryz.tab rfl rfl (cell_row 1 rfl rfl)) rfl rfl rfl ?_
        refine s_y (y_T (y_lss rfl rfl) (by assumption)) rfl rfl rfl ?_
        refine s_y (y_move rfl) rfl rfl rfl ?_
        iterate 3 refine s_skip rfl rfl rfl ?_
        refine s_y (y_pickT rfl rfl) rfl rfl rfl ?_
        refine s_y (y_move rfl) rfl rfl rfl ?_
        iterate 3 refine s_skip rfl rfl rfl ?_
        refine s_y (y_pickT rfl rfl) rfl rfl rfl ?_
        refine s_y (y_move rfl) rfl rfl rfl ?_
        iterate 3 refine s_skip rfl rfl rfl ?_
        refine s_y (y_pickT rfl rfl) rfl rfl rfl ?_
        refine s_y (y_assign rfl) rfl rfl rfl ?_
        refine s_nil ?_
        refine f_then ?_
        refine c_condT rfl ?_
        refine c_seq ?_
        refine c_region ?_
        refine s_y (y_assign rfl) rfl rfl rfl ?_
        refine s_y (y_assign rfl) rfl rfl rfl ?_
        refine s_nil ?_
        refine f_then ?_
        refine c_ret ?_
        refine f_blockR ?_
        refine f_thenR ?_
        exact f_ret ⟨(g, 2, [], .slice none 0 0, []), hB, hpf, .refl _, .nil⟩ (res2 rfl rfl rfl) hback
      by_cases q6 : 16 ≤ fr
      · refine c_plan [.c 0, .c 1, .c 2, .c 3, .c 4, .c 5, .c 6, .c 7, .c 8, .c 9, .c 10, .c 11, .c 12, .c 13, .c 14, .c 15, .c 16, .s 17, .c 18, .c 19, .c 20] [] ((K W (g.p :: [(b5, row 60 [.bool mv, .int .i64 lo, .int .i64 hi, .int .i64 fr, .int .i64 to, .slice none 0 0])] :: [(g.b, row 96 g.cells)] :: [(g.ba, mobj g.ea g.ca)] :: [(g.br, mobj g.er g.cr)] :: g.qc :: g.lc :: (g.ts.flatMap Tg.chunks ++ N)))) Tryz.mixed (by kernel_rfl) rfl K.cl ?_
        refine d_c rfl (Qui.ylds (y_fieldAddrB Tryz.tab 1 rfl rfl rfl rfl rfl)) rfl rfl rfl (fun _ h => h) K.cl ?_
        refine d_c rfl (Qui.ylds (y_load Tryz.tab rfl rfl (cell_row 1 rfl rfl))) rfl rfl rfl (fun _ h => h) K.cl ?_
        refine d_c rfl (Qui.ylds (y_F (y_lss rfl rfl) (by assumption))) rfl rfl rfl (fun _ h => h) K.cl ?_
        refine d_c rfl (Qui.ylds (y_move rfl)) rfl rfl rfl (fun _ h => h) K.cl ?_
        refine d_c rfl (Qui.ylds (y_fieldAddrB Tryz.tab 1 rfl rfl rfl rfl rfl)) rfl rfl rfl (fun _ h => h) K.cl ?_
        refine d_c rfl (Qui.ylds (y_load Tryz.tab rfl rfl (cell_row 1 rfl rfl))) rfl rfl rfl (fun _ h => h) K.cl ?_
        refine d_c rfl (Qui.ylds (y_fieldAddrB Tryz.tab 2 rfl rfl rfl rfl rfl)) rfl rfl rfl (fun _ h => h) K.cl ?_
        refine d_c rfl (Qui.ylds (y_load Tryz.tab rfl rfl (cell_row 1 rfl rfl))) rfl rfl rfl (fun _ h => h) K.cl ?_
        refine d_c rfl (Qui.ylds (y_F (y_gtr rfl rfl) (by assumption))) rfl rfl rfl (fun _ h => h) K.cl ?_
        refine d_c rfl (Qui.ylds (y_pickF rfl rfl)) rfl rfl rfl (fun _ h => h) K.cl ?_
        refine d_c rfl (Qui.ylds (y_move rfl)) rfl rfl rfl (fun _ h => h) K.cl ?_
        refine d_c rfl (Qui.ylds (y_fieldAddrB Tryz.tab 2 rfl rfl rfl rfl rfl)) rfl rfl rfl (fun _ h => h) K.cl ?_
        refine d_c rfl (Qui.ylds (y_load Tryz.tab rfl rfl (cell_row 1 rfl rfl))) rfl rfl rfl (fun _ h => h) K.cl ?_
        refine d_c rfl (Qui.ylds (y_move rfl)) rfl rfl rfl (fun _ h => h) K.cl ?_
        refine d_c rfl (Qui.ylds (y_nilP rfl)) rfl rfl rfl (fun _ h => h) K.cl ?_
        refine d_c rfl (Qui.ylds (y_fieldAddrB Tryz.tab 1 rfl rfl rfl rfl rfl)) rfl rfl rfl (fun _ h => h) K.cl ?_
        refine d_c rfl (Qui.ylds (y_loadA Tryz.tab rfl rfl rfl rfl hwc)) rfl rfl rfl (fun _ h => h) K.cl ?_
        refine d_call rfl (en_f rfl Tryz.call36) (msize_spec (R := [(b5, row 60 [.bool mv, .int .i64 lo, .int .i64 hi, .int .i64 fr, .int .i64 to, .slice none 0 0])] :: [(g.b, row 96 g.cells)] :: [(g.ba, mobj g.ea g.ca)] :: [(g.br, mobj g.er g.cr)] :: g.qc :: g.lc :: (g.ts.flatMap Tg.chunks ++ N)) hB.mW) rfl rfl rfl (fun _ => K.cl) (fun _ _ _ h => h) (fun _ => ?_)
        refine d_c rfl (Qui.ylds (y_F (y_gtr rfl rfl) (by assumption))) rfl rfl rfl (fun _ h => h) K.cl ?_
        refine d_c rfl (Qui.ylds (y_pickF rfl rfl)) rfl rfl rfl (fun _ h => h) K.cl ?_
        refine d_c rfl (Qui.ylds (y_assign rfl)) rfl rfl rfl (fun _ h => h) K.cl ?_
        refine d_nil ?_
        refine f_then ?_
        refine c_condF rfl ?_
        refine c_seq ?_
        refine c_region ?_
        refine s_y (y_fieldAddrB Tryz.tab 3 rfl rfl rfl rfl rfl) rfl rfl rfl ?_
        refine s_y (y_load Tryz.tab rfl rfl (cell_row 1 rfl rfl)) rfl rfl rfl ?_
        refine s_y (y_F (y_lss rfl rfl) (by assumption)) rfl rfl rfl ?_
        refine s_y (y_move rfl) rfl rfl rfl ?_
        refine s_y (y_fieldAddrB Tryz.tab 3 rfl rfl rfl rfl rfl) rfl rfl rfl ?_
        refine s_y (y_load Tryz.tab rfl rfl (cell_row 1 rfl rfl)) rfl rfl rfl ?_
        refine s_y (y_T (y_geq rfl rfl) (by assumption)) rfl rfl rfl ?_
        refine s_y (y_pickF rfl rfl) rfl rfl rfl ?_
        refine s_y (y_move rfl) rfl rfl rfl ?_
        iterate 3 refine s_skip rfl rfl rfl ?_
        refine s_y (y_pickT rfl rfl) rfl rfl rfl ?_
        refine s_y (y_move rfl) rfl rfl rfl ?_
        iterate 3 refine s_skip rfl rfl rfl ?_
        refine s_y (y_pickT rfl rfl) rfl rfl rfl ?_
        refine s_y (y_assign rfl) rfl rfl rfl ?_
        refine s_nil ?_
        refine f_then ?_
        refine c_condT rfl ?_
        refine c_seq ?_
        refine c_region ?_
        refine s_y (y_assign rfl) rfl rfl rfl ?_
        refine s_y (y_assign rfl) rfl rfl rfl ?_
        refine s_nil ?_
        refine f_then ?_
        refine c_ret ?_
        refine f_blockR ?_
        refine f_thenR ?_
        exact f_ret ⟨(g, 2, [], .slice none 0 0, []), hB, hpf, .refl _, .nil⟩ (res2 rfl rfl rfl) hback
      by_cases q7 : to < 0
      · refine c_plan [.c 0, .c 1, .c 2, .c 3, .c 4, .c 5, .c 6, .c 7, .c 8, .c 9, .c 10, .c 11, .c 12, .c 13, .c 14, .c 15, .c 16, .s 17, .c 18, .c 19, .c 20] [] ((K W (g.p :: [(b5, row 60 [.bool mv, .int .i64 lo, .int .i64 hi, .int .i64 fr, .int .i64 to, .slice none 0 0])] :: [(g.b, row 96 g.cells)] :: [(g.ba, mobj g.ea g.ca)] :: [(g.br, mobj g.er g.cr)] :: g.qc :: g.lc :: (g.ts.flatMap Tg.chunks ++ N)))) Tryz.mixed (by kernel_rfl) rfl K.cl ?_
        refine d_c rfl (Qui.ylds (y_fieldAddrB Tryz.tab 1 rfl rfl rfl rfl rfl)) rfl rfl rfl (fun _ h => h) K.cl ?_
        refine d_c rfl (Qui.ylds (y_load Tryz.tab rfl rfl (cell_row 1 rfl rfl))) rfl rfl rfl (fun _ h => h) K.cl ?_
        refine d_c rfl (Qui.ylds (y_F (y_lss rfl rfl) (by assumption))) rfl rfl rfl (fun _ h => h) K.cl ?_
        refine d_c rfl (Qui.ylds (y_move rfl)) rfl rfl rfl (fun _ h => h) K.cl ?_
        refine d_c rfl (Qui.ylds (y_fieldAddrB Tryz.tab 1 rfl rfl rfl rfl rfl)) rfl rfl rfl (fun _ h => h) K.cl ?_
        refine d_c rfl (Qui.ylds (y_load Tryz.tab rfl rfl (cell_row 1 rfl rfl))) rfl rfl rfl (fun _ h => h) K.cl ?_
        refine d_c rfl (Qui.ylds (y_fieldAddrB Tryz.tab 2 rfl rfl rfl rfl rfl)) rfl rfl rfl (fun _ h => h) K.cl ?_
        refine d_c rfl (Qui.ylds (y_load Tryz.tab rfl rfl (cell_row 1 rfl rfl))) rfl rfl rfl (fun _ h => h) K.cl ?_
        refine d_c rfl (Qui.ylds (y_F (y_gtr rfl rfl) (by assumption))) rfl rfl rfl (fun _ h => h) K.cl ?_
        refine d_c rfl (Qui.ylds (y_pickF rfl rfl)) rfl rfl rfl (fun _ h => h) K.cl ?_
        refine d_c rfl (Qui.ylds (y_move rfl)) rfl rfl rfl (fun _ h => h) K.cl ?_
        refine d_c rfl (Qui.ylds (y_fieldAddrB Tryz.tab 2 rfl rfl rfl rfl rfl)) rfl rfl rfl (fun _ h => h) K.cl ?_
        refine d_c rfl (Qui.ylds (y_load Tryz.tab rfl rfl (cell_row 1 rfl rfl))) rfl rfl rfl (fun _ h => h) K.cl ?_
        refine d_c rfl (Qui.ylds (y_move rfl)) rfl rfl rfl (fun _ h => h) K.cl ?_
        refine d_c rfl (Qui.ylds (y_nilP rfl)) rfl rfl rfl (fun _ h => h) K.cl ?_
        refine d_c rfl (Qui.ylds (y_fieldAddrB Tryz.tab 1 rfl rfl rfl rfl rfl)) rfl rfl rfl (fun _ h => h) K.cl ?_
        refine d_c rfl (Qui.ylds (y_loadA Tryz.tab rfl rfl rfl rfl hwc)) rfl rfl rfl (fun _ h => h) K.cl ?_
        refine d_call rfl (en_f rfl Tryz.call36) (msize_spec (R := [(b5, row 60 [.bool mv, .int .i64 lo, .int .i64 hi, .int .i64 fr, .int .i64 to, .slice none 0 0])] :: [(g.b, row 96 g.cells)] :: [(g.ba, mobj g.ea g.ca)] :: [(g.br, mobj g.er g.cr)] :: g.qc :: g.lc :: (g.ts.flatMap Tg.chunks ++ N)) hB.mW) rfl rfl rfl (fun _ => K.cl) (fun _ _ _ h => h) (fun _ => ?_)
        refine d_c rfl (Qui.ylds (y_F (y_gtr rfl rfl) (by assumption))) rfl rfl rfl (fun _ h => h) K.cl ?_
        refine d_c rfl (Qui.ylds (y_pickF rfl rfl)) rfl rfl rfl (fun _ h => h) K.cl ?_
        refine d_c rfl (Qui.ylds (y_assign rfl)) rfl rfl rfl (fun _ h => h) K.cl ?_
        refine d_nil ?_
        refine f_then ?_
        refine c_condF rfl ?_
        refine c_seq ?_
        refine c_region ?_
        refine s_y (y_fieldAddrB Tryz.tab 3 rfl rfl rfl rfl rfl) rfl rfl rfl ?_
        refine s_y (y_load Tryz.tab rfl rfl (cell_row 1 rfl rfl)) rfl rfl rfl ?_
        refine s_y (y_F (y_lss rfl rfl) (by assumption)) rfl rfl rfl ?_
        refine s_y (y_move rfl) rfl rfl rfl ?_
        refine s_y (y_fieldAddrB Tryz.tab 3 rfl rfl rfl rfl rfl) rfl rfl rfl ?_
        refine s_y (y_load Tryz.tab rfl rfl (cell_row 1 rfl rfl)) rfl rfl rfl ?_
        refine s_y (y_F (y_geq rfl rfl) (by assumption)) rfl rfl rfl ?_
        refine s_y (y_pickF rfl rfl) rfl rfl rfl ?_
        refine s_y (y_move rfl) rfl rfl rfl ?_
        refine s_y (y_fieldAddrB Tryz.tab 4 rfl rfl rfl rfl rfl) rfl rfl rfl ?_
        refine s_y (y_load Tryz.tab rfl rfl (cell_row 1 rfl rfl)) rfl rfl rfl ?_
        refine s_y (y_T (y_lss rfl rfl) (by assumption)) rfl rfl rfl ?_
        refine s_y (y_pickF rfl rfl) rfl rfl rfl ?_
        refine s_y (y_move rfl) rfl rfl rfl ?_
        iterate 3 refine s_skip rfl rfl rfl ?_
        refine s_y (y_pickT rfl rfl) rfl rfl rfl ?_
        refine s_y (y_assign rfl) rfl rfl rfl ?_
        refine s_nil ?_
        refine f_then ?_
        refine c_condT rfl ?_
        refine c_seq ?_
        refine c_region ?_
        refine s_y (y_assign rfl) rfl rfl rfl ?_
        refine s_y (y_assign rfl) rfl rfl rfl ?_
        refine s_nil ?_
        refine f_then ?_
        refine c_ret ?_
        refine f_blockR ?_
        refine f_thenR ?_
        exact f_ret ⟨(g, 2, [], .slice none 0 0, []), hB, hpf, .refl _, .nil⟩ (res2 rfl rfl rfl) hback
      have q8 : 16 ≤ to := by omega
      refine c_plan [.c 0, .c 1, .c 2, .c 3, .c 4, .c 5, .c 6, .c 7, .c 8, .c 9, .c 10, .c 11, .c 12, .c 13, .c 14, .c 15, .c 16, .s 17, .c 18, .c 19, .c 20] [] ((K W (g.p :: [(b5, row 60 [.bool mv, .int .i64 lo, .int .i64 hi, .int .i64 fr, .int .i64 to, .slice none 0 0])] :: [(g.b, row 96 g.cells)] :: [(g.ba, mobj g.ea g.ca)] :: [(g.br, mobj g.er g.cr)] :: g.qc :: g.lc :: (g.ts.flatMap Tg.chunks ++ N)))) Tryz.mixed (by kernel_rfl) rfl K.cl ?_
      refine d_c rfl (Qui.ylds (y_fieldAddrB Tryz.tab 1 rfl rfl rfl rfl rfl)) rfl rfl rfl (fun _ h => h) K.cl ?_
      refine d_c rfl (Qui.ylds (y_load Tryz.tab rfl rfl (cell_row 1 rfl rfl))) rfl rfl rfl (fun _ h => h) K.cl ?_
      refine d_c rfl (Qui.ylds (y_F (y_lss rfl rfl) (by assumption))) rfl rfl rfl (fun _ h => h) K.cl ?_
      refine d_c rfl (Qui.ylds (y_move rfl)) rfl rfl rfl (fun _ h => h) K.cl ?_
      refine d_c rfl (Qui.ylds (y_fieldAddrB Tryz.tab 1 rfl rfl rfl rfl rfl)) rfl rfl rfl (fun _ h => h) K.cl ?_
      refine d_c rfl (Qui.ylds (y_load Tryz.tab rfl rfl (cell_row 1 rfl rfl))) rfl rfl rfl (fun _ h => h) K.cl ?_
      refine d_c rfl (Qui.ylds (y_fieldAddrB Tryz.tab 2 rfl rfl rfl rfl rfl)) rfl rfl rfl (fun _ h => h) K.cl ?_
      refine d_c rfl (Qui.ylds (y_load Tryz.tab rfl rfl (cell_row 1 rfl rfl))) rfl rfl rfl (fun _ h => h) K.cl ?_
      refine d_c rfl (Qui.ylds (y_F (y_gtr rfl rfl) (by assumption))) rfl rfl rfl (fun _ h => h) K.cl ?_
      refine d_c rfl (Qui.ylds (y_pickF rfl rfl)) rfl rfl rfl (fun _ h => h) K.cl ?_
      refine d_c rfl (Qui.ylds (y_move rfl)) rfl rfl rfl (fun _ h => h) K.cl ?_
      refine d_c rfl (Qui.ylds (y_fieldAddrB Tryz.tab 2 rfl rfl rfl rfl rfl)) rfl rfl rfl (fun _ h => h) K.cl ?_
      refine d_c rfl (Qui.ylds (y_load Tryz.tab rfl rfl (cell_row 1 rfl rfl))) rfl rfl rfl (fun _ h => h) K.cl ?_
      refine d_c rfl (Qui.ylds (y_move rfl)) rfl rfl rfl (fun _ h => h) K.cl ?_
      refine d_c rfl (Qui.ylds (y_nilP rfl)) rfl rfl rfl (fun _ h => h) K.cl ?_
      refine d_c rfl (Qui.ylds (y_fieldAddrB Tryz.tab 1 rfl rfl rfl rfl rfl)) rfl rfl rfl (fun _ h => h) K.cl ?_
      refine d_c rfl (Qui.ylds (y_loadA Tryz.tab rfl rfl rfl rfl hwc)) rfl rfl rfl (fun _ h => h) K.cl ?_
      refine d_call rfl (en_f rfl Tryz.call36) (msize_spec (R := [(b5, row 60 [.bool mv, .int .i64 lo, .int .i64 hi, .int .i64 fr, .int .i64 to, .slice none 0 0])] :: [(g.b, row 96 g.cells)] :: [(g.ba, mobj g.ea g.ca)] :: [(g.br, mobj g.er g.cr)] :: g.qc :: g.lc :: (g.ts.flatMap Tg.chunks ++ N)) hB.mW) rfl rfl rfl (fun _ => K.cl) (fun _ _ _ h => h) (fun _ => ?_)
      refine d_c rfl (Qui.ylds (y_F (y_gtr rfl rfl) (by assumption))) rfl rfl rfl (fun _ h => h) K.cl ?_
      refine d_c rfl (Qui.ylds (y_pickF rfl rfl)) rfl rfl rfl (fun _ h => h) K.cl ?_
      refine d_c rfl (Qui.ylds (y_assign rfl)) rfl rfl rfl (fun _ h => h) K.cl ?_
      refine d_nil ?_
      refine f_then ?_
      refine c_condF rfl ?_
      refine c_seq ?_
      refine c_region ?_
      refine s_y (y_fieldAddrB Tryz.tab 3 rfl rfl rfl rfl rfl) rfl rfl rfl ?_
      refine s_y (y_load Tryz.tab rfl rfl (cell_row 1 rfl rfl)) rfl rfl rfl ?_
      refine s_y (y_F (y_lss rfl rfl) (by assumption)) rfl rfl rfl ?_
      refine s_y (y_move rfl) rfl rfl rfl ?_
      refine s_y (y_fieldAddrB Tryz.tab 3 rfl rfl rfl rfl rfl) rfl rfl rfl ?_
      refine s_y (y_load Tryz.tab rfl rfl (cell_row 1 rfl rfl)) rfl rfl rfl ?_
      refine s_y (y_F (y_geq rfl rfl) (by assumption)) rfl rfl rfl ?_
      refine s_y (y_pickF rfl rfl) rfl rfl rfl ?_
      refine s_y (y_move rfl) rfl rfl rfl ?_
      refine s_y (y_fieldAddrB Tryz.tab 4 rfl rfl rfl rfl rfl) rfl rfl rfl ?_
      refine s_y (y_load Tryz.tab rfl rfl (cell_row 1 rfl rfl)) rfl rfl rfl ?_
      refine s_y (y_F (y_lss rfl rfl) (by assumption)) rfl rfl rfl ?_
      refine s_y (y_pickF rfl rfl) rfl rfl rfl ?_
      refine s_y (y_move rfl) rfl rfl rfl ?_
      refine s_y (y_fieldAddrB Tryz.tab 4 rfl rfl rfl rfl rfl) rfl rfl rfl ?_
      refine s_y (y_load Tryz.tab rfl rfl (cell_row 1 rfl rfl)) rfl rfl rfl ?_
      refine s_y (y_T (y_geq rfl rfl) (by assumption)) rfl rfl rfl ?_
      refine s_y (y_pickF rfl rfl) rfl rfl rfl ?_
      refine s_y (y_assign rfl) rfl rfl rfl ?_
      refine s_nil ?_
      refine f_then ?_
      refine c_condT rfl ?_
      refine c_seq ?_
      refine c_region ?_
      refine s_y (y_assign rfl) rfl rfl rfl ?_
      refine s_y (y_assign rfl) rfl rfl rfl ?_
      refine s_nil ?_
      refine f_then ?_
      refine c_ret ?_
      refine f_blockR ?_
      refine f_thenR ?_
      exact f_ret ⟨(g, 2, [], .slice none 0 0, []), hB, hpf, .refl _, .nil⟩ (res2 rfl rfl rfl) hback
    obtain ⟨q5, q6, q7, q8⟩ : 0 ≤ fr ∧ fr < 16 ∧ 0 ≤ to ∧ to < 16 := by omega
    refine c_plan [.c 0, .c 1, .c 2, .c 3, .c 4, .c 5, .c 6, .c 7, .c 8, .c 9, .c 10, .c 11, .c 12, .c 13, .c 14, .c 15, .c 16, .s 17, .c 18, .c 19, .c 20] [] ((K W (g.p :: [(b5, row 60 [.bool mv, .int .i64 lo, .int .i64 hi, .int .i64 fr, .int .i64 to, .slice none 0 0])] :: [(g.b, row 96 g.cells)] :: [(g.ba, mobj g.ea g.ca)] :: [(g.br, mobj g.er g.cr)] :: g.qc :: g.lc :: (g.ts.flatMap Tg.chunks ++ N)))) Tryz.mixed (by kernel_rfl) rfl K.cl ?_
    refine d_c rfl (Qui.ylds (y_fieldAddrB Tryz.tab 1 rfl rfl rfl rfl rfl)) rfl rfl rfl (fun _ h => h) K.cl ?_
    refine d_c rfl (Qui.ylds (y_load Tryz.tab rfl rfl (cell_row 1 rfl rfl))) rfl rfl rfl (fun _ h => h) K.cl ?_
    refine d_c rfl (Qui.ylds (y_F (y_lss rfl rfl) (by assumption))) rfl rfl rfl (fun _ h => h) K.cl ?_
    refine d_c rfl (Qui.ylds (y_move rfl)) rfl rfl rfl (fun _ h => h) K.cl ?_
    refine d_c rfl (Qui.ylds (y_fieldAddrB Tryz.tab 1 rfl rfl rfl rfl rfl)) rfl rfl rfl (fun _ h => h) K.cl ?_
    refine d_c rfl (Qui.ylds (y_load Tryz.tab rfl rfl (cell_row 1 rfl rfl))) rfl rfl rfl (fun _ h => h) K.cl ?_
    refine d_c rfl (Qui.ylds (y_fieldAddrB Tryz.tab 2 rfl rfl rfl rfl rfl)) rfl rfl rfl (fun _ h => h) K.cl ?_
    refine d_c rfl (Qui.ylds (y_load Tryz.tab rfl rfl (cell_row 1 rfl rfl))) rfl rfl rfl (fun _ h => h) K.cl ?_
    refine d_c rfl (Qui.ylds (y_F (y_gtr rfl rfl) (by assumption))) rfl rfl rfl (fun _ h => h) K.cl ?_
    refine d_c rfl (Qui.ylds (y_pickF rfl rfl)) rfl rfl rfl (fun _ h => h) K.cl ?_
    refine d_c rfl (Qui.ylds (y_move rfl)) rfl rfl rfl (fun _ h => h) K.cl ?_
    refine d_c rfl (Qui.ylds (y_fieldAddrB Tryz.tab 2 rfl rfl rfl rfl rfl)) rfl rfl rfl (fun _ h => h) K.cl ?_
    refine d_c rfl (Qui.ylds (y_load Tryz.tab rfl rfl (cell_row 1 rfl rfl))) rfl rfl rfl (fun _ h => h) K.cl ?_
    refine d_c rfl (Qui.ylds (y_move rfl)) rfl rfl rfl (fun _ h => h) K.cl ?_
    refine d_c rfl (Qui.ylds (y_nilP rfl)) rfl rfl rfl (fun _ h => h) K.cl ?_
    refine d_c rfl (Qui.ylds (y_fieldAddrB Tryz.tab 1 rfl rfl rfl rfl rfl)) rfl rfl rfl (fun _ h => h) K.cl ?_
    refine d_c rfl (Qui.ylds (y_loadA Tryz.tab rfl rfl rfl rfl hwc)) rfl rfl rfl (fun _ h => h) K.cl ?_
    refine d_call rfl (en_f rfl Tryz.call36) (msize_spec (R := [(b5, row 60 [.bool mv, .int .i64 lo, .int .i64 hi, .int .i64 fr, .int .i64 to, .slice none 0 0])] :: [(g.b, row 96 g.cells)] :: [(g.ba, mobj g.ea g.ca)] :: [(g.br, mobj g.er g.cr)] :: g.qc :: g.lc :: (g.ts.flatMap Tg.chunks ++ N)) hB.mW) rfl rfl rfl (fun _ => K.cl) (fun _ _ _ h => h) (fun _ => ?_)
    refine d_c rfl (Qui.ylds (y_F (y_gtr rfl rfl) (by assumption))) rfl rfl rfl (fun _ h => h) K.cl ?_
    refine d_c rfl (Qui.ylds (y_pickF rfl rfl)) rfl rfl rfl (fun _ h => h) K.cl ?_
    refine d_c rfl (Qui.ylds (y_assign rfl)) rfl rfl rfl (fun _ h => h) K.cl ?_
    refine d_nil ?_
    refine f_then ?_
    refine c_condF rfl ?_
    refine c_seq ?_
    refine c_region ?_
    refine s_y (y_fieldAddrB Tryz.tab 3 rfl rfl rfl rfl rfl) rfl rfl rfl ?_
    refine s_y (y_load Tryz.tab rfl rfl (cell_row 1 rfl rfl)) rfl rfl rfl ?_
    refine s_y (y_F (y_lss rfl rfl) (by omega)) rfl rfl rfl ?_
    refine s_y (y_move rfl) rfl rfl rfl ?_
    refine s_y (y_fieldAddrB Tryz.tab 3 rfl rfl rfl rfl rfl) rfl rfl rfl ?_
    refine s_y (y_load Tryz.tab rfl rfl (cell_row 1 rfl rfl)) rfl rfl rfl ?_
    refine s_y (y_F (y_geq rfl rfl) (by omega)) rfl rfl rfl ?_
    refine s_y (y_pickF rfl rfl) rfl rfl rfl ?_
    refine s_y (y_move rfl) rfl rfl rfl ?_
    refine s_y (y_fieldAddrB Tryz.tab 4 rfl rfl rfl rfl rfl) rfl rfl rfl ?_
    refine s_y (y_load Tryz.tab rfl rfl (cell_row 1 rfl rfl)) rfl rfl rfl ?_
    refine s_y (y_F (y_lss rfl rfl) (by omega)) rfl rfl rfl ?_
    refine s_y (y_pickF rfl rfl) rfl rfl rfl ?_
    refine s_y (y_move rfl) rfl rfl rfl ?_
    refine s_y (y_fieldAddrB Tryz.tab 4 rfl rfl rfl rfl rfl) rfl rfl rfl ?_
    refine s_y (y_load Tryz.tab rfl rfl (cell_row 1 rfl rfl)) rfl rfl rfl ?_
    refine s_y (y_F (y_geq rfl rfl) (by omega)) rfl rfl rfl ?_
    refine s_y (y_pickF rfl rfl) rfl rfl rfl ?_
    refine s_y (y_assign rfl) rfl rfl rfl ?_
    refine s_nil ?_
    refine f_then ?_
    refine c_condF rfl ?_
    refine c_skip ?_
    refine f_blockN ?_
    refine f_then ?_
    refine c_seq ?_
    refine c_region ?_
    refine s_y (y_loadA Tryz.tab rfl rfl rfl rfl (cells_row0 1 rfl rfl)) rfl rfl rfl ?_
    refine s_call (en_f rfl Tryz.call91) kind_spec rfl rfl rfl (fun _ => ?_)
    obtain ⟨l, rfl⟩ := Int.eq_ofNat_of_zero_le (Int.not_lt.1 q1)
    obtain ⟨m, rfl⟩ := Int.eq_ofNat_of_zero_le (show 0 ≤ hi by omega)
    obtain ⟨a, rfl⟩ := Int.eq_ofNat_of_zero_le q5
    obtain ⟨b, rfl⟩ := Int.eq_ofNat_of_zero_le q7
    have hlm : l ≤ m := by omega
    have hms : m ≤ g.size := by omega
    have hab : a < 16 ∧ b < 16 := by omega
    obtain ⟨⟨I, hI1, hI2, hI3, hI4⟩, haf⟩ := hP k l m rfl rfl rfl hk hs1 hlm hms
    have ep : g.ptr k = .pointer (some ⟨t.b, 0, none⟩) := by rw [Bg.ptr, hpb]
    refine s_do (do_alloc Tryz.tab rfl) rfl rfl rfl (fun b10 => ?_)
    refine s_set (set_box Tryz.tab 0 rfl rfl rfl rfl rfl rfl rfl) rfl rfl ?_
    refine s_nil ?_
    refine f_then ?_
    refine c_seq ?_
    refine c_seq ?_
    refine c_region ?_
    refine s_y (y_move rfl) rfl rfl rfl ?_
    refine s_y (y_move rfl) rfl rfl rfl ?_
    refine s_y (y_fieldAddrB Tryz.tab 1 rfl rfl rfl rfl rfl) rfl rfl rfl ?_
    refine s_y (y_load Tryz.tab rfl rfl (cell_row 2 rfl rfl)) rfl rfl rfl ?_
    refine s_y (y_fieldAddrB Tryz.tab 2 rfl rfl rfl rfl rfl) rfl rfl rfl ?_
    refine s_y (y_load Tryz.tab rfl rfl (cell_row 2 rfl rfl)) rfl rfl rfl ?_
    refine s_y (y_fieldAddr0 Tryz.tab rfl rfl rfl rfl rfl) rfl rfl rfl ?_
    refine s_y (y_load Tryz.tab rfl rfl (cell_row 0 rfl rfl)) rfl rfl rfl ?_
    have hob := obtain_spec (W := W) (N := [(b10, row 145 [.bool mv, .func (.func (if mv then 108 else 107)) #[] #[]])] :: [(b5, row 60 [.bool mv, .int .i64 (l : Nat), .int .i64 (m : Nat), .int .i64 (a : Nat), .int .i64 (b : Nat), .slice none 0 0])] :: N) (lo := l) (hi := m) (wr := mv) I hB hG hk hI1 hI2 hI3 hI4
    rw [ep] at hob
    refine St.cls (C' := K W (g.L ++ ([(b10, row 145 [.bool mv, .func (.func (if mv then 108 else 107)) #[] #[]])] :: [(b5, row 60 [.bool mv, .int .i64 (l : Nat), .int .i64 (m : Nat), .int .i64 (a : Nat), .int .i64 (b : Nat), .slice none 0 0])] :: N))) ?_ (fun w h => by
      have h1 : K W ([(b10, row 145 [.bool mv, .func (.func (if mv then 108 else 107)) #[] #[]])] :: g.p :: [(b5, row 60 [.bool mv, .int .i64 (l : Nat), .int .i64 (m : Nat), .int .i64 (a : Nat), .int .i64 (b : Nat), .slice none 0 0])] :: [(g.b, row 96 g.cells)] :: [(g.ba, mobj g.ea g.ca)] :: [(g.br, mobj g.er g.cr)] :: g.qc :: g.lc :: (g.ts.flatMap Tg.chunks ++ N)) w := h
      have h2 : K W ([(b10, row 145 [.bool mv, .func (.func (if mv then 108 else 107)) #[] #[]])] :: [(b5, row 60 [.bool mv, .int .i64 (l : Nat), .int .i64 (m : Nat), .int .i64 (a : Nat), .int .i64 (b : Nat), .slice none 0 0])] :: g.p :: [(g.b, row 96 g.cells)] :: [(g.ba, mobj g.ea g.ca)] :: [(g.br, mobj g.er g.cr)] :: g.qc :: g.lc :: (g.ts.flatMap Tg.chunks ++ N)) w := (h1.front 2).front 1
      exact K.bckN (A := [[(b10, row 145 [.bool mv, .func (.func (if mv then 108 else 107)) #[] #[]])], [(b5, row 60 [.bool mv, .int .i64 (l : Nat), .int .i64 (m : Nat), .int .i64 (a : Nat), .int .i64 (b : Nat), .slice none 0 0])]]) (B := g.p :: [(g.b, row 96 g.cells)] :: [(g.ba, mobj g.ea g.ca)] :: [(g.br, mobj g.er g.cr)] :: g.qc :: g.lc :: (g.ts.flatMap Tg.chunks)) h2)
    refine s_call (en_f rfl Tryz.call92) hob rfl rfl rfl (fun y => ?_)
    obtain ⟨⟨g1, e⟩, hB1, hO, hA1⟩ := y
    dsimp only at hB1 hO hA1 ⊢
    by_cases ce : e = 0
    · subst ce
      obtain ⟨hs1', hG1, hn1, hn2, hn3⟩ := haf _ hO
      have hk1 := hA1.has hk
      obtain ⟨t1, htm1, hti1, hid1, hpb1, htx1⟩ := hB1.at hk1
      have ep1 : g1.ptr k = .pointer (some ⟨t.b, 0, none⟩) := by rw [hA1.ptr, ep]
      have hms1 : m ≤ g1.size := by
        have : g1.size = g.size := hs1'
        omega
      clear hob hwc hback e1
      refine s_y (y_assign rfl) rfl rfl rfl ?_
      refine s_nil ?_
      refine f_then ?_
      refine c_seq ?_
      refine c_region ?_
      refine s_y (y_move rfl) rfl rfl rfl ?_
      refine s_y (y_F (y_neq rfl rfl) (by omega)) rfl rfl rfl ?_
      refine s_nil ?_
      refine f_then ?_
      refine c_condF rfl ?_
      refine c_skip ?_
      refine f_then ?_
      refine c_seq ?_
      refine c_region ?_
      refine s_y (y_fieldAddrB Tryz.tab 1 rfl rfl rfl rfl rfl) rfl rfl rfl ?_
      cases mv
      · refine St.cls (C' := K W ([(b10, row 145 [.bool false, .func (.func 107) #[] #[]])] :: [(b5, row 60 [.bool false, .int .i64 (l : Nat), .int .i64 (m : Nat), .int .i64 (a : Nat), .int .i64 (b : Nat), .slice none 0 0])] :: (g1.L ++ N))) ?_ (fun w h => K.bckN (A := g1.L) (B := [[(b10, row 145 [.bool false, .func (.func 107) #[] #[]])], [(b5, row 60 [.bool false, .int .i64 (l : Nat), .int .i64 (m : Nat), .int .i64 (a : Nat), .int .i64 (b : Nat), .slice none 0 0])]]) h)
        have hb5 : CellsAre (K W ([(b10, row 145 [.bool false, .func (.func 107) #[] #[]])] :: [(b5, row 60 [.bool false, .int .i64 (l : Nat), .int .i64 (m : Nat), .int .i64 (a : Nat), .int .i64 (b : Nat), .slice none 0 0])] :: (g1.L ++ N))) ⟨b5, 0, none⟩ [.bool false, .int .i64 (l : Nat), .int .i64 (m : Nat), .int .i64 (a : Nat), .int .i64 (b : Nat), .slice none 0 0] := cells_row0 1 rfl rfl
        refine s_y (y_load Tryz.tab rfl rfl (cell_row 0 rfl rfl)) rfl rfl rfl ?_
        refine s_y (y_move rfl) rfl rfl rfl ?_
        refine s_y (y_move rfl) rfl rfl rfl ?_
        refine s_y (y_loadA Tryz.tab rfl rfl rfl rfl hb5) rfl rfl rfl ?_
        refine s_y (y_build Tryz.tab rfl rfl rfl rfl rfl) rfl rfl rfl ?_
        refine St.cls (C' := K W (g1.L ++ ([(b10, row 145 [.bool false, .func (.func 107) #[] #[]])] :: [(b5, row 60 [.bool false, .int .i64 (l : Nat), .int .i64 (m : Nat), .int .i64 (a : Nat), .int .i64 (b : Nat), .slice none 0 0])] :: N))) ?_ (fun w h => K.bckN (A := [[(b10, row 145 [.bool false, .func (.func 107) #[] #[]])], [(b5, row 60 [.bool false, .int .i64 (l : Nat), .int .i64 (m : Nat), .int .i64 (a : Nat), .int .i64 (b : Nat), .slice none 0 0])]]) (B := g1.L) h)
        have hlb := look_b (W := W) (N := [(b10, row 145 [.bool false, .func (.func 107) #[] #[]])] :: [(b5, row 60 [.bool false, .int .i64 (l : Nat), .int .i64 (m : Nat), .int .i64 (a : Nat), .int .i64 (b : Nat), .slice none 0 0])] :: N) (lo := l) (hi := m) (fr := a) (to := b) (mv := false) hB1 hk1 hti1 hlm hms1 hn1 (good_ol hG1 htm1)
        rw [ep1, hA1.b] at hlb
        refine s_call (en_v (cap := []) rfl rfl Tryz.call107) hlb rfl rfl rfl (fun y => ?_)
        obtain ⟨⟨g2, rv, rc⟩, hB2, hbk2, hA2, hR2⟩ := y
        dsimp only at hB2 hbk2 hA2 hR2 ⊢
        refine s_y (y_extract rfl rfl) rfl rfl rfl ?_
        refine s_y (y_extract rfl rfl) rfl rfl rfl ?_
        refine s_y (y_assign rfl) rfl rfl rfl ?_
        refine s_y (y_assign rfl) rfl rfl rfl ?_
        refine s_nil ?_
        refine f_then ?_
        refine c_ret ?_
        refine f_ret ⟨(g2, 0, rns g1.W l m, rv, rc), hB2, ?_, hA1.trans hA2, hR2⟩ (res2 rfl rfl rfl) (fun w h => (K.bckN (A := rc :: g2.L) (B := [[(b10, row 145 [.bool false, .func (.func 107) #[] #[]])], [(b5, row 60 [.bool false, .int .i64 (l : Nat), .int .i64 (m : Nat), .int .i64 (a : Nat), .int .i64 (b : Nat), .slice none 0 0])]]) h).tail.tail)
        rw [hbk2]
        exact .look rfl hkb hs1 rfl rfl rfl rfl ⟨hlm, hms⟩ hab hO rfl
      · refine St.cls (C' := K W ([(b10, row 145 [.bool true, .func (.func 108) #[] #[]])] :: [(b5, row 60 [.bool true, .int .i64 (l : Nat), .int .i64 (m : Nat), .int .i64 (a : Nat), .int .i64 (b : Nat), .slice none 0 0])] :: (g1.L ++ N))) ?_ (fun w h => K.bckN (A := g1.L) (B := [[(b10, row 145 [.bool true, .func (.func 108) #[] #[]])], [(b5, row 60 [.bool true, .int .i64 (l : Nat), .int .i64 (m : Nat), .int .i64 (a : Nat), .int .i64 (b : Nat), .slice none 0 0])]]) h)
        have hb5 : CellsAre (K W ([(b10, row 145 [.bool true, .func (.func 108) #[] #[]])] :: [(b5, row 60 [.bool true, .int .i64 (l : Nat), .int .i64 (m : Nat), .int .i64 (a : Nat), .int .i64 (b : Nat), .slice none 0 0])] :: (g1.L ++ N))) ⟨b5, 0, none⟩ [.bool true, .int .i64 (l : Nat), .int .i64 (m : Nat), .int .i64 (a : Nat), .int .i64 (b : Nat), .slice none 0 0] := cells_row0 1 rfl rfl
        refine s_y (y_load Tryz.tab rfl rfl (cell_row 0 rfl rfl)) rfl rfl rfl ?_
        refine s_y (y_move rfl) rfl rfl rfl ?_
        refine s_y (y_move rfl) rfl rfl rfl ?_
        refine s_y (y_loadA Tryz.tab rfl rfl rfl rfl hb5) rfl rfl rfl ?_
        refine s_y (y_build Tryz.tab rfl rfl rfl rfl rfl) rfl rfl rfl ?_
        refine St.cls (C' := K W (g1.L ++ ([(b10, row 145 [.bool true, .func (.func 108) #[] #[]])] :: [(b5, row 60 [.bool true, .int .i64 (l : Nat), .int .i64 (m : Nat), .int .i64 (a : Nat), .int .i64 (b : Nat), .slice none 0 0])] :: N))) ?_ (fun w h => K.bckN (A := [[(b10, row 145 [.bool true, .func (.func 108) #[] #[]])], [(b5, row 60 [.bool true, .int .i64 (l : Nat), .int .i64 (m : Nat), .int .i64 (a : Nat), .int .i64 (b : Nat), .slice none 0 0])]]) (B := g1.L) h)
        have hmb := move_b (W := W) (N := [(b10, row 145 [.bool true, .func (.func 108) #[] #[]])] :: [(b5, row 60 [.bool true, .int .i64 (l : Nat), .int .i64 (m : Nat), .int .i64 (a : Nat), .int .i64 (b : Nat), .slice none 0 0])] :: N) (lo := l) (hi := m) (fr := a) (to := b) (mv := true) hB1 hk1 hti1 hlm hms1 hab.1 hab.2 hn2 (fun h => hn3 h b) (fun t ht => good_ol hG1 ht)
        rw [ep1, hA1.b] at hmb
        refine s_call (en_v (cap := []) rfl rfl Tryz.call108) hmb rfl rfl rfl (fun y => ?_)
        obtain ⟨⟨g2, e⟩, hB2, hM2, hA2⟩ := y
        dsimp only at hB2 hM2 hA2 ⊢
        refine s_y (y_extract rfl rfl) rfl rfl rfl ?_
        refine s_y (y_extract rfl rfl) rfl rfl rfl ?_
        refine s_y (y_assign rfl) rfl rfl rfl ?_
        refine s_y (y_assign rfl) rfl rfl rfl ?_
        refine s_nil ?_
        refine f_then ?_
        refine c_ret ?_
        exact f_ret ⟨(g2, e, [], .slice none 0 0, []), hB2, .move rfl hkb hs1 rfl rfl rfl rfl ⟨hlm, hms⟩ hab hO rfl hM2, hA1.trans hA2, .nil⟩ (res2 rfl rfl rfl) (fun w h => (K.bckN (A := g2.L) (B := [[(b10, row 145 [.bool true, .func (.func 108) #[] #[]])], [(b5, row 60 [.bool true, .int .i64 (l : Nat), .int .i64 (m : Nat), .int .i64 (a : Nat), .int .i64 (b : Nat), .slice none 0 0])]]) h).tail.tail.addNil)
    · refine s_y (y_assign rfl) rfl rfl rfl ?_
      refine s_nil ?_
      refine f_then ?_
      refine c_seq ?_
      refine c_region ?_
      refine s_y (y_move rfl) rfl rfl rfl ?_
      refine s_y (y_T (y_neq rfl rfl) (by omega)) rfl rfl rfl ?_
      refine s_nil ?_
      refine f_then ?_
      refine c_condT rfl ?_
      refine c_seq ?_
      refine c_region ?_
      refine s_y (y_move rfl) rfl rfl rfl ?_
      refine s_y (y_assign rfl) rfl rfl rfl ?_
      refine s_y (y_assign rfl) rfl rfl rfl ?_
      refine s_nil ?_
      refine f_then ?_
      refine c_ret ?_
      refine f_thenR ?_
      exact f_ret ⟨(g1, e, [], .slice none 0 0, []), hB1, .no rfl hkb hs1 rfl rfl rfl rfl ⟨hlm, hms⟩ hab hO ce, hA1, .nil⟩ (res2 rfl rfl rfl) (fun w h => (K.bckN (A := g1.L) (B := [[(b10, row 145 [.bool mv, .func (.func (if mv then 108 else 107)) #[] #[]])], [(b5, row 60 [.bool mv, .int .i64 (l : Nat), .int .i64 (m : Nat), .int .i64 (a : Nat), .int .i64 (b : Nat), .slice none 0 0])]]) h).tail.tail.addNil)
  · have ef : g.fnd tx = (.pointer none, 80) := by rw [Bg.fnd, if_neg c]
    rw [ef]
    refine s_y (y_move rfl) rfl rfl rfl ?_
    refine s_y (y_extract rfl rfl) rfl rfl rfl ?_
    refine s_y (y_extract rfl rfl) rfl rfl rfl ?_
    refine s_y (y_assign rfl) rfl rfl rfl ?_
    refine s_y (y_assign rfl) rfl rfl rfl ?_
    refine s_nil ?_
    refine f_then ?_
    refine c_seq ?_
    refine c_block ?_
    refine c_seq ?_
    refine c_region ?_
    refine s_y (y_move rfl) rfl rfl rfl ?_
    refine s_y (y_T (y_neq rfl rfl) (by omega)) rfl rfl rfl ?_
    refine s_y (y_assign rfl) rfl rfl rfl ?_
    refine s_nil ?_
    refine f_then ?_
    refine c_condT rfl ?_
    refine c_seq ?_
    refine c_region ?_
    refine s_y (y_move rfl) rfl rfl rfl ?_
    refine s_y (y_assign rfl) rfl rfl rfl ?_
    refine s_y (y_assign rfl) rfl rfl rfl ?_
    refine s_nil ?_
    refine f_then ?_
    refine c_ret ?_
    refine f_blockR ?_
    refine f_thenR ?_
    exact f_ret ⟨(g, 80, [], .slice none 0 0, []), hB, .none (by simpa [Bg.bk] using c), .refl _, .nil⟩ (res2 rfl rfl rfl) (fun w h => h.tail.addNil)
end Go.KL
end
