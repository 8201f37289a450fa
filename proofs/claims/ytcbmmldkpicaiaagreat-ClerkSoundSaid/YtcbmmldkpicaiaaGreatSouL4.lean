/- The library of the proof, part 4: a program logic over the model, walks of functions, plain laws. No condition. -/
import Derived.Test.YtcbmmldkpicaiaaGreatSouL3
set_option maxRecDepth 10000
set_option maxHeartbeats 16000000
section
/- Walks: Backward, abort. -/
namespace Go.KL
open Go.Proofs Go.Proofs.Tryz
structure Bw (l b1 : Nat) (ov : Value) (os : List Ov) (Z : Type) (C : Z → World → Prop) (G : Nat → Z → Prop) : Prop where
  box : ∀ z, CellIs (C z) ⟨b1, 0, none⟩ ov
  view : ∀ z, EV (C z) ov 6 (opl os)
  yield : ∀ (n : Nat) (z : Z) (x : Ov), G (n + 1) z → os[n]? = some x → YSpec prog l #[.int .i64 (n : Nat), .agg (opc x.1 x.2).toArray] (C z) (X := { z' : Z // G n z' }) (fun _ => .bool true) (fun z' => C z'.1)
theorem opl_get {os : List Ov} {i : Nat} {x : Ov} (h : os[i]? = some x) : (opl os)[i]? = some (opc x.1 x.2) := by simp [h]
theorem un_drop {W : Nat → Nat} {os : List Ov} {n : Nat} {x : Ov} (h : os[n]? = some x) : un W ((ops os).drop n) = if x.1.mv then setf (un W ((ops os).drop (n + 1))) x.1.lo x.1.hi x.1.fr else un W ((ops os).drop (n + 1)) := by
  have hlt := (List.getElem?_eq_some_iff.1 h).1;have e : (ops os).drop n = x.1 :: (ops os).drop (n + 1) := by
    rw [List.drop_eq_getElem_cons (by simpa using hlt)];congr 1;rw [List.getElem?_eq_getElem hlt] at h;simp [Option.some.inj h]
  rw [e];rfl
theorem opc_one {o : Oa} {rv : Value} (h : rv.oneCell' = true) : (opc o rv).all Value.oneCell' = true := by
  simp only [opc, List.all_cons, List.all_nil, h];rfl
structure UnOK (size : Nat) (W : Nat → Nat) (os : List Ov) : Prop where
  rng : ∀ x ∈ os, x.1.mv = true → x.1.lo ≤ x.1.hi ∧ x.1.hi ≤ size ∧ x.1.fr < 16
  nb : ∀ n, nbd (un W ((ops os).drop n)) size ≤ 4096
attribute [local irreducible] SC St Fin Sq Ylds Doos Sets Enters Spec CellIs CellsAre Then Ret Rnd Chn resOK ints bools recs arr
theorem backw_spec {l b1 : Nat} {ov : Value} {os : List Ov} {Z : Type} {C : Z → World → Prop} {G : Nat → Z → Prop} {z0 : Z} (hV : Bw l b1 ov os Z C G) (hG : G os.length z0) (hl : os.length < 1000000) :
    Spec prog 119 #[.func (.yield l) #[] #[], .pointer (some ⟨b1, 0, none⟩)] (C z0) (X := { z' : Z // G 0 z' }) (fun _ => .tuple #[]) (fun z' => C z'.1) := by
  have hl2 : (opl os).length = os.length := List.length_map _;have hb0 := hV.box z0;have hv0 := hV.view z0;refine enter (args := [_, _]) func119 rfl ntmps119 rfl ?_;refine csr (sl hb0 ?_);refine sy (y_lenE tab rfl (hv0) rfl) ?_;refine sy (y_sub rfl rfl (by omega)) ?_;refine sa ?_;refine snf (c_block ?_);refine c_loopP (α := Nat × Z) (fun z => [(0, .func (.yield l) #[] #[]), (1, .pointer (some ⟨b1, 0, none⟩)), (3, .int .i64 ((z.1 : Int) - 1))]) (fun z => z.1 ≤ os.length ∧ G z.1 z.2) (fun z => C z.2) (fun z => z.1) (os.length, z0)
    ⟨rfl, rfl, congrArg (fun z => some (Value.int .i64 z)) (by dsimp only; omega), trivial⟩ ⟨Nat.le_refl _, hG⟩ (fun w h => h) ?_
  rintro ⟨n, z⟩ ⟨hn, hGz⟩;dsimp only at hn hGz ⊢;clear hb0 hv0;have hb1 := hV.box z;have hv1 := hV.view z;cases n with
  | zero =>
    refine c_seq (csr (sm ?_));refine sy (y_F (y_geq rfl rfl) (by omega)) ?_;refine snf (c_condF rfl (c_exit (f_thenE (f_rndE (f_blockE ?_)))));exact f_end ⟨z, hGz⟩ (res0 rfl) (fun w h => h)
  | succ n =>
    obtain ⟨x, hx⟩ : ∃ x, os[n]? = some x := ⟨os[n], by simp [show n < os.length by omega]⟩;have hcx := hv1.row (opl_get hx);have hy := hV.yield n z x hGz hx;have en : ((n + 1 : Nat) : Int) - 1 = (n : Int) := by omega
    rw [en];refine c_seq (csr (sm ?_));refine sy (y_T (y_geq rfl rfl) (by omega)) ?_;refine snf (c_condT rfl (c_skip (f_then (c_seq (c_block (csr (sm ?_)))))));refine sm ?_;refine sl hb1 ?_;refine sm ?_;refine sy (y_ixE tab rfl rfl rfl rfl (hv1) _ rfl (by omega)) ?_;refine sy (y_loadA tab rfl rfl rfl rfl hcx) ?_;refine s_yield (en_y rfl rfl) hy rfl rfl rfl (fun z' => ?_);obtain ⟨z', hG'⟩ := z';dsimp only;refine sy (y_notT rfl) ?_;refine snf (c_condF rfl (c_skip (f_blockN (f_then (c_region (sm ?_))))));refine sy (y_sub rfl rfl (by omega)) ?_;refine sa ?_;refine s_nil ?_;exact f_roundP (n, z') ⟨by dsimp only; omega, hG'⟩ (by dsimp only; omega) ⟨rfl, rfl, rfl, trivial⟩ (fun w h => h)
theorem backward_spec {W : World} {Ls : List Chunk} {v : Value} : Spec prog 99 #[v] (K W Ls) (X := Nat) (fun b => .func (.func 119) #[] #[.pointer (some ⟨b, 0, none⟩)]) (fun b => K W ([(b, row 56 v.cells.toList)] :: Ls)) := by
  refine enter (args := [_]) func99 rfl ntmps99 rfl ?_;refine csr (sbx fun b1 => ?_);refine sa ?_;refine snf (csr (sy (y_makeFunc rfl rfl) ?_));refine sa ?_;refine snf (c_ret ?_);exact f_ret b1 (res1 rfl rfl) (fun w h => h)
theorem abort_spec {g : Bg} {W : World} {N : List Chunk} {k : Nat} {t : Tg} (hB : g.OK) (hL : Lm g) (hk : g.has k) (hti : g.ts[k - 1]? = some t) (hU : UnOK g.size g.W t.os) (hol : t.os.length < 1000000) :
    Spec prog 67 #[.pointer (some ⟨g.b, 0, none⟩), g.ptr k] (K W (g.L ++ N)) (X := { g' : Bg // g'.OK ∧ g'.bk = g.bk.abort k ∧ g.Anc g' }) (fun _ => .tuple #[]) (fun g' => K W (g'.1.L ++ N)) := by
  have htm : t ∈ g.ts := List.mem_of_getElem? hti;obtain ⟨t', _, hti', hid, hpb, htx⟩ := hB.at hk;obtain rfl : t' = t := by rw [hti] at hti'; exact (Option.some.inj hti').symm
  clear hti';have ep : g.ptr k = .pointer (some ⟨t'.b, 0, none⟩) := by rw [Bg.ptr, hpb]
  have hOt := hB.ok t' htm;rw [ep];refine enter (args := [_, _]) func67 rfl ntmps67 rfl ?_;obtain ⟨e0, e1, e2, e3, e7, el, eo⟩ := hB.tf (C := K W (g.L ++ N)) Hs.bk htm;clear e0 e1 e2 e3 el eo;refine csr (sbx fun b2 => ?_);refine snf (c_seq (csr (sm ?_)));refine sn ?_;refine sf 7 ?_;refine sl e7.cons ?_;refine sk call99 backward_spec fun b1 => ?_;refine snf (c_block ?_);have eov : t'.ov.cells.toList = [t'.ov] := by rw [cells_one hOt.o.one]
  refine SC.cls (C' := K W ([(b1, row 56 [t'.ov])] :: [(b2, row 33 [.pointer (some ⟨g.b, 0, none⟩)])] :: ((g.setW g.p g.wv g.W).L ++ N))) ?_ (fun w h => by rw [eov] at h; exact h);refine c_rangeF (X := { x : Chunk × Value // Sub g.p x.1 ∧ MV x.1 x.2 g.size (un g.W ((ops t'.os).drop 0)) }) (fun _ => .tuple #[]) (fun _ => none) (fun x => [(b1, row 56 [t'.ov])] :: [(b2, row 33 [.pointer (some ⟨g.b, 0, none⟩)])] :: ((g.setW x.1.1 x.1.2 g.W).L ++ N)) (by rw [r_inB, r_then, r_ret]) rfl call119 (fun kk l D hps has hbd hE => ?_) (fun x D hj => ?_) (fun x D cc hj => ?_)
  · have hV : Bw l b1 t'.ov t'.os (Chunk × Value) (fun z => K W ([(l, kk.rdy)] :: [(D, dfO)] :: [(b1, row 56 [t'.ov])] :: [(b2, row 33 [.pointer (some ⟨g.b, 0, none⟩)])] :: ((g.setW z.1 z.2 g.W).L ++ N))) (fun n z => Sub g.p z.1 ∧ MV z.1 z.2 g.size (un g.W ((ops t'.os).drop n))) := by
      refine ⟨fun z => cell_row 2 rfl rfl, fun z => hOt.o.view ?_, fun n z x hG hx => ?_⟩
      · refine Hs.cls (C := K W ((g.setW z.1 z.2 g.W).L ++ N)) ?_ (fun w h => h.tail.tail.tail.tail);exact Hs.sub (c := (g.setW z.1 z.2 g.W).L.flatten) Hs.bk fun e he => Bg.mem_ts (g := g.setW z.1 z.2 g.W) (c := t'.oc) htm (by simp) he
      · obtain ⟨p, wv⟩ := z;obtain ⟨hS, hM⟩ := hG;dsimp only at hS hM;refine yspec 0 hE hps rfl rfl rfl ?_;rw [has, hbd];have hrv := (hOt.r x (List.mem_of_getElem? hx)).one;refine c_region (sal fun b5 => ?_);refine ss (set_box tab 0 rfl rfl (opc_one hrv) rfl rfl rfl rfl) ?_;refine s_nil (f_beg 1 rfl ?_);have hstep := un_drop (W := g.W) hx;cases hmv : x.1.mv with
        | false =>
          rw [hmv, if_neg (by decide)] at hstep;refine c_block (csr (sf0 ?_));refine slr 0 ?_;refine snf (c_condF (congrArg (fun b => some (Value.bool b)) hmv) ?_);refine c_skip (f_blockN ?_);exact f_rpN 1 ⟨(p, wv), hS, by rw [hstep]; exact hM⟩ rfl rfl (fun w h => h.tail)
        | true =>
          rw [hmv, if_pos rfl] at hstep;obtain ⟨r1, r2, r3⟩ := hU.rng x (List.mem_of_getElem? hx) hmv;have hnb := hU.nb n;rw [hstep] at hnb;refine c_block (csr (sf0 ?_));refine slr 0 ?_;refine snf (c_condT (congrArg (fun b => some (Value.bool b)) hmv) ?_);refine SC.cls (C' := K W (p :: [(b2, row 33 [.pointer (some ⟨g.b, 0, none⟩)])] :: [(b5, row 60 (opc x.1 x.2))] :: [(l, kk.bsy)] :: [(D, dfO)] :: [(b1, row 56 [t'.ov])] :: [(g.b, row 96 [g.cv, wv, .map (some g.ba), .map (some g.br), g.qv, g.lv])] :: [(g.ba, mobj g.ea g.ca)] :: [(g.br, mobj g.er g.cr)] :: g.qc :: g.lc :: (g.ts.flatMap Tg.chunks ++ N))) ?_ (fun w h => ((h.front 5).front 5).front 1);have hwc : CellsAre (K W (p :: [(b2, row 33 [.pointer (some ⟨g.b, 0, none⟩)])] :: [(b5, row 60 (opc x.1 x.2))] :: [(l, kk.bsy)] :: [(D, dfO)] :: [(b1, row 56 [t'.ov])] :: [(g.b, row 96 [g.cv, wv, .map (some g.ba), .map (some g.br), g.qv, g.lv])] :: [(g.ba, mobj g.ea g.ca)] :: [(g.br, mobj g.er g.cr)] :: g.qc :: g.lc :: (g.ts.flatMap Tg.chunks ++ N))) ⟨g.b, 1, none⟩ [wv] := CellsAre.one (cell_row 6 rfl rfl);have hD := fun (w : World) (h : K W (p :: [(b2, row 33 [.pointer (some ⟨g.b, 0, none⟩)])] :: [(b5, row 60 (opc x.1 x.2))] :: [(l, kk.bsy)] :: [(D, dfO)] :: [(b1, row 56 [t'.ov])] :: [(g.b, row 96 [g.cv, wv, .map (some g.ba), .map (some g.br), g.qv, g.lv])] :: [(g.ba, mobj g.ea g.ca)] :: [(g.br, mobj g.er g.cr)] :: g.qc :: g.lc :: (g.ts.flatMap Tg.chunks ++ N)) w) => h.tail.keep 2;refine c_plan [.c 0, .c 1, .c 2, .c 3, .c 5, .c 6, .c 7, .c 8, .c 9, .c 10, .s 4, .s 11, .s 12, .c 14, .c 13, .c 15, .c 16, .s 17] [] (K W [[(b2, row 33 [.pointer (some ⟨g.b, 0, none⟩)])], [(b5, row 60 (opc x.1 x.2))]]) mixed (by kernel_rfl) rfl K.cl ?_;refine dy rfl (y_load tab rfl rfl (cell_row 0 rfl rfl)) hD ?_;refine dy rfl (y_load tab rfl rfl (cell_row 0 rfl rfl)) hD ?_;refine dy rfl (y_nilP rfl) hD ?_;refine dy rfl (y_fieldAddrB tab 1 rfl rfl rfl rfl rfl) hD ?_;refine dy rfl (y_fieldAddrB tab 1 rfl rfl rfl rfl rfl) hD ?_;refine dy rfl (y_load tab rfl rfl (cell_row 1 rfl rfl)) hD ?_;refine dy rfl (y_fieldAddrB tab 2 rfl rfl rfl rfl rfl) hD ?_;refine dy rfl (y_load tab rfl rfl (cell_row 1 rfl rfl)) hD ?_;refine dy rfl (y_fieldAddrB tab 3 rfl rfl rfl rfl rfl) hD ?_;refine dy rfl (y_load tab rfl rfl (cell_row 1 rfl rfl)) hD ?_;refine d_sy rfl (y_loadA tab rfl rfl rfl rfl hwc) rfl rfl rfl K.cl (fun _ => hD) ?_;refine d_call rfl (en_f rfl call65) (mset_spec hM r1 r2 r3 hnb) rfl rfl rfl (fun _ => K.cl) (fun _ _ _ h => h.tail.keep 2) (fun y => ?_);obtain ⟨⟨p', wv'⟩, hS', hM'⟩ := y;dsimp only at hS' hM' ⊢;obtain ⟨a, rfl⟩ := hM'.ptr;have hD1 := fun (w : World) (h : K W (p' :: [(b2, row 33 [.pointer (some ⟨g.b, 0, none⟩)])] :: [(b5, row 60 (opc x.1 x.2))] :: [(l, kk.bsy)] :: [(D, dfO)] :: [(b1, row 56 [t'.ov])] :: [(g.b, row 96 [g.cv, wv, .map (some g.ba), .map (some g.br), g.qv, g.lv])] :: [(g.ba, mobj g.ea g.ca)] :: [(g.br, mobj g.er g.cr)] :: g.qc :: g.lc :: (g.ts.flatMap Tg.chunks ++ N)) w) => h.tail.keep 2;refine d_sy rfl (y_move rfl) rfl rfl rfl K.cl (fun _ => hD1) ?_;refine dy rfl (y_extract rfl rfl) hD1 ?_;refine dy rfl (y_extract rfl rfl) hD1 ?_;refine dy rfl (y_nilP rfl) hD1 ?_;refine dy rfl (y_fieldAddrB tab 1 rfl rfl rfl rfl rfl) hD1 ?_;refine d_set rfl (set_aggB tab 6 rfl rfl rfl rfl rfl rfl rfl) rfl rfl K.cl (fun _ _ h => h.tail.keep 2) ?_;refine d_nil (f_blockN ?_);exact f_rpN 3 ⟨(p', .pointer (some a)), hS.trans hS', by rw [hstep]; exact hM'⟩ rfl rfl (fun w h => K.bckN (A := [[(b2, row 33 [.pointer (some ⟨g.b, 0, none⟩)])], p']) (B := [[(l, kk.rdy)], [(D, dfO)], [(b1, row 56 [t'.ov])]]) ((h.dropAt 2).front 1))
    exact (backw_spec hV (z0 := (g.p, g.wv)) ⟨.refl _, by rw [List.drop_eq_nil_of_le (by simp)]; exact hB.mW⟩ hol).conv (fun z => ⟨z.1, z.2⟩) (fun _ => rfl) (fun _ _ h => h)
  · obtain ⟨⟨p, wv⟩, hS, hM⟩ := x;dsimp only at hS hM ⊢;rw [List.drop_zero] at hM;obtain ⟨g1, hg1⟩ : ∃ g1 : Bg, g1 = g.setW p wv (un g.W (ops t'.os)) := ⟨_, rfl⟩;have hB1 : g1.OK := by rw [hg1]; exact hB.setW hS hM
    have hA1 : g.Anc g1 := by rw [hg1]; exact ⟨rfl, rfl, rfl⟩
    have hti1 : g1.ts[k - 1]? = some t' := by rw [hg1]; exact hti
    refine f_blockN (f_then (csr (sm ?_)));refine sm ?_;refine sm ?_;refine sy (y_build tab rfl rfl rfl rfl rfl) ?_;refine sn ?_;refine sf 1 ?_;refine St.cls (C' := K W (t'.chunks ++ (g1.fixed ++ (g1.rest k ++ ([(D, dfO)] :: [(b1, row 56 [t'.ov])] :: [(b2, row 33 [.pointer (some ⟨g.b, 0, none⟩)])] :: N))))) ?_ (fun w h => K.foc hti1 (by rw [hg1]; exact K.bckN (A := [[(D, dfO)], [(b1, row 56 [t'.ov])], [(b2, row 33 [.pointer (some ⟨g.b, 0, none⟩)])]]) h));obtain ⟨t2, ht2⟩ : ∃ t2 : Tg, t2 = { t' with st := 4, os := [], ov := .slice none 0 0, oc := [], req := Lk.zero } := ⟨_, rfl⟩;refine ss (set_rowB tab 0 rfl rfl rfl rfl rfl rfl) ?_;refine sn ?_;refine sf 7 ?_;refine ss (set_rowB tab 0 rfl rfl rfl rfl rfl rfl) ?_;refine sn ?_;refine sf 3 ?_;refine ss (set_aggB tab 0 rfl rfl rfl rfl rfl rfl rfl) ?_;refine snf (c_region ?_);obtain ⟨g2, hg2⟩ : ∃ g2 : Bg, g2 = g1.setT k t2 := ⟨_, rfl⟩;have h2b : t2.b = t'.b := by rw [ht2]
    have hB2 : g2.OK := by
      rw [hg2];refine hB1.setT hti1 h2b (by rw [ht2]) ?_;rw [ht2];exact ⟨(hB1.ok t' (List.mem_of_getElem? hti1)).l, .nil, .nil⟩
    have hA2 : g1.Anc g2 := by rw [hg2]; exact setT_anc hti1 h2b
    refine St.cls (C' := K W (g2.L ++ ([(D, dfO)] :: [(b1, row 56 [t'.ov])] :: [(b2, row 33 [.pointer (some ⟨g.b, 0, none⟩)])] :: N))) ?_ (fun w h => by
      rw [hg2];refine K.unfoc (t' := t2) (F := g1.fixed) hti1 ?_;have h3 : K W ([(t2.b, row 113 t2.cells)] :: t2.lc :: t'.oc :: (g1.fixed ++ (g1.rest k ++ ([(D, dfO)] :: [(b1, row 56 [t'.ov])] :: [(b2, row 33 [.pointer (some ⟨g.b, 0, none⟩)])] :: N)))) w := by rw [ht2]; exact h
      have e1 : t2.oc = [] := by rw [ht2]
      exact (h3.dropAt 2).weak [] (by simp [e1]))
    have hbx : CellIs (K W (g2.L ++ ([(D, dfO)] :: [(b1, row 56 [t'.ov])] :: [(b2, row 33 [.pointer (some ⟨g.b, 0, none⟩)])] :: N))) ⟨b2, 0, none⟩ (.pointer (some ⟨g.b, 0, none⟩)) := by
      refine CellIs.cls (C' := K W [[(b2, row 33 [.pointer (some ⟨g.b, 0, none⟩)])]]) (cell_row 0 rfl rfl) (fun w h => ?_);exact (K.bckN (A := g2.L ++ [[(D, dfO)], [(b1, row 56 [t'.ov])]]) (B := [[(b2, row 33 [.pointer (some ⟨g.b, 0, none⟩)])]]) (by simpa using h)).keep 1
    have hrel := release_spec (W := W) (N := [(D, dfO)] :: [(b1, row 56 [t'.ov])] :: [(b2, row 33 [.pointer (some ⟨g.b, 0, none⟩)])] :: N) (k := k) hB2 ⟨fun u hu => ?_, by rw [hg2, hg1]; exact hL.rn, by rw [hg2, hg1]; exact hL.q⟩ (hA2.has (hA1.has hk));rw [hA2.ptr, hA1.ptr, ep, hA2.b, hA1.b] at hrel;refine sl hbx ?_;refine sm ?_;refine sk call66 hrel fun y => ?_;obtain ⟨g3, hB3, hbk3, hA3⟩ := y;dsimp only;refine s_nil (Fin.cls (C' := K W ([(D, dfO)] :: (g3.L ++ ([(b1, row 56 [t'.ov])] :: [(b2, row 33 [.pointer (some ⟨g.b, 0, none⟩)])] :: N)))) ?_ (fun w h => K.bckN (A := g3.L) (B := [[(D, dfO)]]) h));refine f_endM (v := fun _ : { g' : Bg // g'.OK ∧ g'.bk = g.bk.abort k ∧ g.Anc g' } => .tuple #[]) (C' := fun g' => K W (g'.1.L ++ N)) ⟨g3, hB3, ?_, hA1.trans (hA2.trans hA3)⟩ [D] (res0 rfl) rfl (fun w h => (K.bckN (A := g3.L) (B := [[(b1, row 56 [t'.ov])], [(b2, row 33 [.pointer (some ⟨g.b, 0, none⟩)])]]) h).tail.tail) rfl;rw [hbk3, hg2, setT_bk, hg1, Bk.abort, htx, ht2];rfl;rw [hg2, hg1] at hu;rcases List.mem_or_eq_of_mem_set hu with hu | rfl
    · exact hL.lk u hu
    · rw [ht2]; exact hL.lk t' htm
  · cases hj
end Go.KL
end

section
/- What the walks ask of a book; plain. No program in sight. -/
namespace Go.KL
namespace Bk
structure Good (A : Bk) : Prop where
  rn : A.rn.length ≤ 64
  q : A.q.length ≤ 64
  w : ∀ k, A.has k → (A.tx k).st = 2 → k ∈ A.q
  lk : ∀ t ∈ A.ts, t.locks.length ≤ 4096 ∧ ∀ x ∈ t.locks, x.lo ≤ 1099511627776
  ol : ∀ t ∈ A.ts, t.ops.length < 100000
  un : ∀ t ∈ A.ts, (∀ o ∈ t.ops, o.mv = true → o.lo ≤ o.hi ∧ o.hi ≤ A.size ∧ o.fr < 16) ∧ ∀ n, nbd (un A.W (t.ops.drop n)) A.size ≤ 4096
theorem gr_rn : ∀ (l : List Nat) (A : Bk) (st : List Nat), (gr A l st).1.rn = A.rn
  | [], _, _ => rfl
  | k :: l, A, st => by
    rw [gr];split
    · rw [gr_rn l]; rfl
    · rw [gr_rn l]
theorem gr_len : ∀ (l : List Nat) (A : Bk) (st : List Nat), (gr A l st).2.length ≤ st.length + l.length
  | [], _, st => Nat.le_refl _
  | k :: l, A, st => by
    rw [gr];split
    · have := gr_len l (A.grant k) st;simp only [List.length_cons];omega
    · have := gr_len l A (st ++ [k]);simp only [List.length_append, List.length_cons, List.length_nil] at this ⊢;omega
theorem filter_lt {l : List Nat} {k : Nat} (h : k ∈ l) : (l.filter fun j => !decide (j = k)).length < l.length := by
  have h1 := List.length_filter_le (fun j => !decide (j = k)) l;by_cases c : (l.filter fun j => !decide (j = k)).length = l.length
  · have := List.length_filter_eq_length_iff.1 c k h;simp at this
  · omega
theorem release_less {A : Bk} {k : Nat} (h : k ∈ A.rn ∨ k ∈ A.q) : (A.release k).rn.length + (A.release k).q.length < A.rn.length + A.q.length := by
  have h1 : (A.release k).rn = A.rn.filter fun j => !decide (j = k) := by rw [release]; exact gr_rn _ _ _
  have h2 : (A.release k).q.length ≤ (A.q.filter fun j => !decide (j = k)).length := by
    have := gr_len (A.off k).q (A.off k) [];simp only [List.length_nil, Nat.zero_add] at this;exact this
  have h3 := List.length_filter_le (fun j => !decide (j = k)) A.rn;have h4 := List.length_filter_le (fun j => !decide (j = k)) A.q;rw [h1];rcases h with h | h
  · have := filter_lt h; omega
  · have := filter_lt h; omega
theorem abort_less {A : Bk} {k : Nat} (h : k ∈ A.rn ∨ k ∈ A.q) : (A.abort k).rn.length + (A.abort k).q.length < A.rn.length + A.q.length := release_less (A := { A.setT k ⟨4, (A.tx k).locks, Lk.zero, []⟩ with W := KL.un A.W (A.tx k).ops }) h
theorem sum_perm {f : Nat → Nat} {l m : List Nat} (h : l.Perm m) : (l.map f).sum = (m.map f).sum := (h.map f).sum_nat
theorem sum_take {f : Nat → Nat} {l : List Nat} {i x : Nat} (h : l[i]? = some x) : ((l.take (i + 1)).map f).sum = ((l.take i).map f).sum + f x := by
  rw [List.take_add_one, h];simp
end Bk
end Go.KL
end

section
/- Walks: obtain. -/
namespace Go.KL
open Go.Proofs Go.Proofs.Tryz
theorem Bg.has_bk {g : Bg} {k : Nat} : g.bk.has k ↔ g.has k := by
  unfold Bk.has Bg.has Bg.bk;simp
theorem good_lm {g : Bg} (h : g.bk.Good) : Lm g := ⟨fun t ht => (h.lk t.tx (List.mem_map.2 ⟨t, ht, rfl⟩)).1, h.rn, h.q⟩
theorem good_few {g : Bg} (h : g.bk.Good) : Few g :=
  ⟨⟨fun t ht => by have := (h.lk t.tx (List.mem_map.2 ⟨t, ht, rfl⟩)).1; exact Nat.le_trans this (by omega), by have := h.rn; simp only [Bg.bk] at this; omega, by have := h.q; simp only [Bg.bk] at this; omega⟩, h.rn, h.q, fun k hk hs => h.w k (Bg.has_bk.2 hk) hs⟩
theorem good_un {g : Bg} (h : g.bk.Good) {t : Tg} (ht : t ∈ g.ts) : UnOK g.size g.W t.os :=
  ⟨fun x hx => (h.un t.tx (List.mem_map.2 ⟨t, ht, rfl⟩)).1 x.1 (List.mem_map.2 ⟨x, hx, rfl⟩), (h.un t.tx (List.mem_map.2 ⟨t, ht, rfl⟩)).2⟩
theorem good_ol {g : Bg} (h : g.bk.Good) {t : Tg} (ht : t ∈ g.ts) : t.os.length < 1000000 := by
  have := h.ol t.tx (List.mem_map.2 ⟨t, ht, rfl⟩);simp only [Tg.tx, List.length_map] at this;omega
theorem good_lo {g : Bg} (h : g.bk.Good) {t : Tg} (ht : t ∈ g.ts) : t.locks.length ≤ 4096 ∧ ∀ x ∈ t.locks, x.lo ≤ 1099511627776 := h.lk t.tx (List.mem_map.2 ⟨t, ht, rfl⟩)
theorem Bk.R_mem {A : Bk} {k j : Nat} (h : A.R k j) : j ∈ A.rn ∨ j ∈ A.q := by
  have hE : ∀ k j, A.E k j → j ∈ A.rn ∨ j ∈ A.q := by
    intro k j h;unfold Bk.E Bk.waits at h;split at h
    · simp at h
    · rcases List.mem_append.1 h with h | h
      · exact .inl (mem_srt.1 (List.mem_filter.1 h).1)
      · exact .inr ((List.takeWhile_sublist _).subset (List.mem_filter.1 h).1)
  cases h with
  | one h => exact hE _ _ h
  | more _ h => exact hE _ _ h
abbrev ObtX (g : Bg) (k lo hi : Nat) (wr : Bool) := { x : Bg × Nat // x.1.OK ∧ Bk.Obt g.bk k lo hi wr x.1.bk x.2 ∧ g.Anc x.1 }
attribute [local irreducible] SC St Fin Sq Ylds Doos Sets Enters Spec CellIs CellsAre Then Ret Rnd Chn resOK ints bools recs arr
theorem obtain_spec {g : Bg} {W : World} {N : List Chunk} {k lo hi : Nat} {wr : Bool} (I : Bk → Prop) (hB : g.OK) (hG : g.bk.Good) (hk : g.has k) (hI : ∀ A, I A → A.Good)
    (hab : ∀ A v, I A → (A.tx k).st = 2 → A.IsVic k v → v ≠ 0 → I (A.abort v)) (h0 : ¬ Hold (g.bk.tx k).locks lo hi wr → g.bk.count < 1024 → g.bk.free ⟨k, lo, hi, wr⟩ g.q = false → I (g.bk.wait k ⟨k, lo, hi, wr⟩)) (hstI : ∀ A, I A → (A.tx k).st = 1 ∨ (A.tx k).st = 2 ∨ (A.tx k).st = 4) :
    Spec prog 92 #[.pointer (some ⟨g.b, 0, none⟩), g.ptr k, .int .i64 (lo : Nat), .int .i64 (hi : Nat), .bool wr] (K W (g.L ++ N)) (X := ObtX g k lo hi wr) (fun x => .int .i64 (x.1.2 : Nat)) (fun x => K W (x.1.1.L ++ N)) := by
  obtain ⟨t, htm, hti, hid, hpb, htx⟩ := hB.at hk;have ep : g.ptr k = .pointer (some ⟨t.b, 0, none⟩) := by rw [Bg.ptr, hpb]
  have hOt := hB.ok t htm;have hlk := good_lo hG htm;have hF := hB.tf (C := K W (g.L ++ N)) Hs.bk htm;obtain ⟨e0, e1, e2, e3, e7, el, eo⟩ := hF;obtain ⟨f0, f1, f2, f3, f4, f5, fq, fl, fea, fer⟩ := hB.bf (C := K W (g.L ++ N)) Hs.bk;rw [ep];refine enter (args := [_, _, _, _, _]) func92 rfl ntmps92 rfl ?_;clear f0 f1 f2 f3 f5 fl fea fer e3 e7 eo;refine csr (sa ?_);refine snf (c_seq (csr (sm ?_)));refine sm ?_;refine sm ?_;refine sm ?_;refine sk call109 (holds_b (lo := lo) (hi := hi) (wr := wr) (hB.tf (C := K W (g.L ++ N)) Hs.bk htm) hlk.1 hlk.2) fun _ => ?_;have eh : (Hold t.locks lo hi wr) = Hold (g.bk.tx k).locks lo hi wr := by rw [htx]; rfl
  by_cases ch : Hold t.locks lo hi wr
  · rw [decide_eq_true ch];refine snf (c_condT rfl (csr (sa ?_)));refine snf (c_ret (f_thenR ?_));exact f_ret ⟨(g, 0), hB, .has (by rw [← eh]; exact ch), .refl _⟩ (res1 rfl rfl) (fun w h => h)
  · rw [decide_eq_false ch];rw [eh] at ch;have hql : (ptrs g g.q).length = g.q.length := List.length_map _;refine snf (c_condF rfl (c_skip (f_then (csr (sm ?_)))));refine sn ?_;refine sf 4 ?_;refine sl f4 ?_;refine sy (y_lenE tab rfl (fq) rfl) ?_;refine sa ?_;refine snf (c_seq (csr (sm ?_)));refine sk call110 (progress_b hB Hs.bk) fun x => ?_;obtain ⟨⟨v, c⟩, hR⟩ := x;dsimp only at hR ⊢;have hE := hR.view (C := K W (c :: (g.L ++ N))) (Hs.at 0 rfl);have hsl : (ptrs g (srt g.rn)).length = (srt g.rn).length := List.length_map _;have hsr : (srt g.rn).length = g.rn.length := List.length_mergeSort _;have hrnl := hG.rn;have hqll := hG.q;change g.rn.length ≤ 64 at hrnl;change g.q.length ≤ 64 at hqll;have hsum : ((srt g.rn).map fun j => (g.bk.tx j).locks.length).sum + g.q.length = g.bk.count := by
      rw [Bk.sum_perm (l := srt g.rn) (List.mergeSort_perm g.rn _)];rfl
    refine sy (y_lenE tab rfl (hE) rfl) ?_;refine sm ?_;refine snf (c_block ?_);refine c_loopP (α := Nat) (fun z => [(0, .pointer (some ⟨g.b, 0, none⟩)), (1, .pointer (some ⟨t.b, 0, none⟩)), (2, .int .i64 (lo : Nat)), (3, .int .i64 (hi : Nat)), (4, .bool wr), (11, .int .i64 ((g.q.length + (((srt g.rn).take z).map fun j => (g.bk.tx j).locks.length).sum : Nat) : Int)), (27, v), (28, .int .i64 (ptrs g (srt g.rn)).length), (29, .int .i64 (z : Nat))])
      (fun z => z ≤ (srt g.rn).length ∧ (((srt g.rn).take z).map fun j => (g.bk.tx j).locks.length).sum ≤ 4096 * z) (fun _ => K W (c :: (g.L ++ N))) (fun z => (srt g.rn).length - z) 0
      ⟨rfl, rfl, rfl, rfl, rfl, congrArg (fun z : Nat => some (Value.int .i64 (z : Int))) (by simp [hql]), rfl, rfl, rfl, trivial⟩ ⟨Nat.zero_le _, by simp⟩ (fun w h => h) ?_
    rintro i ⟨hi1, hsb⟩;by_cases c1 : i < (srt g.rn).length
    · obtain ⟨j, hj⟩ : ∃ j, (srt g.rn)[i]? = some j := ⟨(srt g.rn)[i], by simp [c1]⟩;have hjm : j ∈ g.rn := mem_srt.1 (List.mem_of_getElem? hj);obtain ⟨u, hum, _, hid2, hpb2, hux⟩ := hB.at (hB.rnh j hjm);have hcell := hE.cell (i := i) (x := .pointer (some ⟨u.b, 0, none⟩)) (by simp [hj, Bg.ptr, hpb2]);obtain ⟨d0, d1, d2, d3, d7, dl, d_o⟩ := hB.tf (C := K W (g.L ++ N)) Hs.bk hum;have hul := (good_lo hG hum).1;have hll : (lks u.locks).length = u.locks.length := List.length_map _;have hnx := Bk.sum_take (f := fun j => (g.bk.tx j).locks.length) hj;have huxl : (g.bk.tx j).locks.length = u.locks.length := by rw [hux]; rfl
      rw [huxl] at hnx;have hS0 : (((srt g.rn).take i).map fun j => (g.bk.tx j).locks.length).sum ≤ 262144 := Nat.le_trans hsb (by omega)
      generalize (((srt g.rn).take i).map fun j => (g.bk.tx j).locks.length).sum = S at hnx hsb hS0 ⊢
      clear el e0 e1 e2 f4 fq d0 d1 d3 d7 d_o;refine csr (sy (y_T (y_lss rfl rfl) (by omega)) ?_);refine snf (c_seq (c_condT rfl (c_skip (f_then (c_seq (c_block (csr (sy (y_ixE tab rfl rfl rfl rfl (hE) _ rfl (by omega)) ?_))))))));refine sl hcell ?_;refine sa ?_;refine snf (c_region (sm ?_));refine sm ?_;refine sn ?_;refine sf 2 ?_;refine sl d2.cons ?_;refine sy (y_lenE tab rfl (dl.cons) rfl) ?_;refine sy (y_add rfl rfl (by omega)) ?_;refine sa ?_;refine s_nil (f_blockN (f_then (c_region (sy (y_add rfl rfl (by omega)) ?_))));refine sm ?_;refine s_nil ?_;exact f_roundP (i + 1) ⟨c1, by rw [hnx]; omega⟩ (by omega) ⟨rfl, rfl, rfl, rfl, rfl, congrArg (fun z => some (Value.int .i64 z)) (by rw [hnx]; omega), rfl, rfl, rfl, trivial⟩ (fun w h => h)
    · obtain rfl : i = (srt g.rn).length := by omega
      rw [List.take_length] at hsb;have ecount : g.q.length + ((srt g.rn).map fun j => (g.bk.tx j).locks.length).sum = g.bk.count := by omega
      have hcl : g.bk.count ≤ 300000 := by rw [← ecount]; omega
      rw [List.take_length, ecount];by_cases cc : 1024 ≤ g.bk.count
      · refine csr (sy (y_F (y_lss rfl rfl) (by omega)) ?_);refine snf (c_seq (c_condF rfl (c_exit (f_thenE (f_rndE (f_blockE (f_then (c_seq (csr (sm ?_))))))))));refine sy (y_T (y_geq rfl rfl) (by omega)) ?_;refine snf (c_condT rfl (csr (sa ?_)));refine snf (c_ret (f_thenR ?_));exact f_ret ⟨(g, 5), hB, .full ch cc, .refl _⟩ (res1 rfl rfl) (fun w h => h.tail)
      · refine csr (sy (y_F (y_lss rfl rfl) (by omega)) ?_);refine snf (c_seq (c_condF rfl (c_exit (f_thenE (f_rndE (f_blockE (f_then (c_seq (csr (sm ?_))))))))));refine sy (y_F (y_geq rfl rfl) (by omega)) ?_;refine snf (c_condF rfl (c_skip (f_then (csr (sm ?_)))));refine sn ?_;refine sf0 ?_;refine sl e0.cons ?_;refine sm ?_;refine sm ?_;refine sm ?_;refine sy (y_build tab rfl rfl rfl rfl rfl) ?_;refine sal fun b14 => ?_;refine ss (set_box tab 0 rfl rfl rfl rfl rfl rfl rfl) ?_;refine snf (c_seq (c_seq ?_));obtain ⟨lk, hlk2⟩ : ∃ lk : Lk, lk = ⟨k, lo, hi, wr⟩ := ⟨_, rfl⟩;refine SC.cls (C' := K W ([(b14, row 111 (lkc lk))] :: (g.L ++ N))) ?_ (fun w h => by
          rw [hlk2, ← hid];exact h.dropAt 1)
        have hfree := free_b (l := lk) (fr := g.q) (fv := g.qv) (W := W) (N := [(b14, row 111 (lkc lk))] :: (g.L ++ N)) hB (good_few hG).lim Hs.bk.cons fq.cons hB.qh (by omega);rw [← hlk2] at h0;clear e0 e1 el hE;refine c_plan [.c 0, .c 1, .c 2, .c 3, .c 4, .c 5, .s 6] [] ((K W ([(b14, row 111 (lkc lk))] :: (g.L ++ N)))) mixed (by kernel_rfl) rfl K.cl ?_;refine dy rfl (y_move rfl) (fun _ h => h) ?_;refine dy rfl (y_loadA tab rfl rfl rfl rfl (cells_row0 0 rfl rfl)) (fun _ h => h) ?_;refine dy rfl (y_move rfl) (fun _ h => h) ?_;refine dy rfl (y_nilP rfl) (fun _ h => h) ?_;refine dy rfl (y_fieldAddrB tab 4 rfl rfl rfl rfl rfl) (fun _ h => h) ?_;refine dy rfl (y_load tab rfl rfl f4.cons) (fun _ h => h) ?_;refine d_call rfl (en_f rfl call98) hfree rfl rfl rfl (fun _ => K.cl) (fun _ _ _ h => h) (fun _ => ?_);cases hf : g.bk.free lk g.q with
        | true =>
          refine d_nil (f_then (c_condT rfl (c_seq ?_)));refine SC.cls (C' := K W ([(b14, row 111 (lkc lk))] :: (t.chunks ++ (g.fixed ++ (g.rest k ++ N))))) ?_ (fun w h => K.bckN (A := t.chunks ++ (g.fixed ++ (g.rest k))) (B := [[(b14, row 111 (lkc lk))]]) (N := N) (by
            have := K.foc (N := [(b14, row 111 (lkc lk))] :: N) hti (K.bckN (A := [[(b14, row 111 (lkc lk))]]) h);simpa using this))
          refine c_plan [.c 0, .c 1, .c 2, .c 3, .c 4, .c 5, .s 6, .s 7, .c 8, .c 9, .s 10] [10] ((K W [[(b14, row 111 (lkc lk))], [(t.b, row 113 t.cells)]])) mixed (by kernel_rfl) rfl K.cl ?_;refine dy rfl (y_move rfl) (fun w h => h.keep 2) ?_;refine dy rfl (y_move rfl) (fun w h => h.keep 2) ?_;refine dy rfl (y_nilP rfl) (fun w h => h.keep 2) ?_;refine dy rfl (y_fieldAddrB tab 2 rfl rfl rfl rfl rfl) (fun w h => h.keep 2) ?_;refine dy rfl (y_load tab rfl rfl (cell_row 1 rfl rfl)) (fun w h => h.keep 2) ?_;refine dy rfl (y_loadA tab rfl rfl rfl rfl (cells_row0 0 rfl rfl)) (fun w h => h.keep 2) ?_;refine d_s rfl (do_buildSliceS tab ⟨rfl, rfl, rfl, rfl⟩ rfl rfl rfl rfl) rfl rfl rfl (fun _ => K.cl) (fun _ _ _ h => h.tail.keep 2) (fun b64 => ?_);refine d_s rfl (do_appendR (by_ := 32) tab 3 rfl hOt.l rfl ⟨rfl, rfl, rfl, rfl⟩ rfl (by simp) rfl (cells_row0 0 rfl rfl) rfl rfl (by rw [List.length_map]; omega) (by omega)) rfl rfl rfl (fun _ => K.cl) (fun _ _ _ h => h.tail.keep 2) (fun y => ?_);obtain ⟨⟨lv', lc'⟩, hl'⟩ := y;dsimp only at hl' ⊢;refine dy rfl (y_nilP rfl) (fun w h => h.tail.keep 2) ?_;refine dy rfl (y_fieldAddrB tab 2 rfl rfl rfl rfl rfl) (fun w h => h.tail.keep 2) ?_;refine d_set rfl (set_row tab 2 rfl rfl hl'.one rfl rfl (Nat.lt_of_sub_eq_succ rfl)) rfl rfl K.cl (fun h => by cases h) ?_;refine d_nil (f_then (csr (sa ?_)));refine snf (c_ret (f_thenR ?_));obtain ⟨t1, ht1⟩ : ∃ t1 : Tg, t1 = { t with locks := t.locks ++ [lk], lv := lv', lc := lc' } := ⟨_, rfl⟩;have h1b : t1.b = t.b := by rw [ht1]
          refine f_ret ⟨(g.setT k t1, 0), hB.setT hti h1b (by rw [ht1]) ?_, ?_, setT_anc hti h1b⟩ (res1 rfl rfl) (fun w h => ?_)
          · rw [ht1];exact ⟨hl'.of (by simp [lks, allCells, cellsL]), hOt.o, hOt.r⟩
          · dsimp only;rw [setT_bk, ht1];have := Bk.Obt.got (A := g.bk) (k := k) (lo := lo) (hi := hi) (wr := wr) ch (by omega) (by first | exact hf | (rw [← hlk2]; exact hf));rw [← hlk2, htx] at this;exact this
          · have h3 : K W (t1.chunks ++ (g.fixed ++ (g.rest k ++ N))) w := by rw [ht1]; exact h.tail.tail
            exact K.unfoc hti h3
        | false =>
          refine d_nil (f_then (c_condF rfl (c_skip (f_then (c_seq ?_)))));refine SC.cls (C' := K W ([(b14, row 111 (lkc lk))] :: (t.chunks ++ (g.fixed ++ (g.rest k ++ N))))) ?_ (fun w h => K.bckN (A := t.chunks ++ (g.fixed ++ (g.rest k))) (B := [[(b14, row 111 (lkc lk))]]) (N := N) (by
            have := K.foc (N := [(b14, row 111 (lkc lk))] :: N) hti (K.bckN (A := [[(b14, row 111 (lkc lk))]]) h);simpa using this))
          refine c_plan [.c 0, .c 1, .c 2, .c 3, .c 4, .s 5, .c 6, .c 7, .s 8] [] (K W [[(b14, row 111 (lkc lk))]]) mixed (by kernel_rfl) rfl K.cl ?_;refine dy rfl (y_move rfl) (fun w h => h.keep 1) ?_;refine dy rfl (y_move rfl) (fun w h => h.keep 1) ?_;refine dy rfl (y_loadA tab rfl rfl rfl rfl (cells_row0 0 rfl rfl)) (fun w h => h.keep 1) ?_;refine dy rfl (y_nilP rfl) (fun w h => h.keep 1) ?_;refine dy rfl (y_fieldAddrB tab 1 rfl rfl rfl rfl rfl) (fun w h => h.keep 1) ?_;refine d_set rfl (set_rowB tab 1 rfl rfl rfl rfl rfl rfl) rfl rfl K.cl (fun _ _ h => h.keep 1) ?_;refine dy rfl (y_nilP rfl) (fun w h => h.keep 1) ?_;refine dy rfl (y_fieldAddrB tab 3 rfl rfl rfl rfl rfl) (fun w h => h.keep 1) ?_;refine d_set rfl (set_aggB tab 1 rfl rfl rfl rfl rfl rfl rfl) rfl rfl K.cl (fun _ _ h => h.keep 1) ?_;refine d_nil (f_then ?_);obtain ⟨t1, ht1⟩ : ∃ t1 : Tg, t1 = { t with st := 2, req := lk } := ⟨_, rfl⟩;have h1b : t1.b = t.b := by rw [ht1]
          obtain ⟨g1, hg1⟩ : ∃ g1 : Bg, g1 = g.setT k t1 := ⟨_, rfl⟩;have hA1 : g.Anc g1 := by rw [hg1]; exact setT_anc hti h1b
          have hB1 : g1.OK := by
            rw [hg1];refine hB.setT hti h1b (by rw [ht1]) ?_;rw [ht1];exact ⟨hOt.l, hOt.o, hOt.r⟩
          have hq1 : g1.q = g.q := by rw [hg1]; rfl
          refine SC.cls (C' := K W ([(b14, row 111 (lkc lk))] :: g1.p :: [(g.b, row 96 g1.cells)] :: [(g1.ba, mobj g1.ea g1.ca)] :: [(g1.br, mobj g1.er g1.cr)] :: g1.qc :: g1.lc :: (g1.ts.flatMap Tg.chunks ++ N))) ?_ (fun w h => by
            have h2 : K W ([(b14, row 111 (lkc lk))] :: [(t1.b, row 113 t1.cells)] :: t1.lc :: t1.oc :: (g.fixed ++ (g.rest k ++ N))) w := by rw [ht1]; exact h
            have h3 : K W (t1.chunks ++ (g.fixed ++ (g.rest k ++ ([(b14, row 111 (lkc lk))] :: N)))) w := by
              have := K.bckN (A := [[(b14, row 111 (lkc lk))]]) (B := t1.chunks ++ (g.fixed ++ g.rest k)) (N := N) (by simpa using h2);simpa using this
            have h4 := K.unfoc hti h3;rw [hg1];exact K.bckN (A := (g.setT k t1).L) (B := [[(b14, row 111 (lkc lk))]]) h4)
          have hk1 : g1.ptr k = .pointer (some ⟨t.b, 0, none⟩) := by rw [hA1.ptr, ep]
          have hql1 : g1.q.length ≤ 64 := by rw [hq1]; exact hqll
          have hqB1 := hB1.qB;refine csr (sm ?_);refine sm ?_;refine sn ?_;refine sf 4 ?_;refine slr 2 ?_;refine sm ?_;refine s_do (do_buildSlice1 tab ⟨rfl, rfl, rfl, rfl⟩ rfl rfl rfl rfl) rfl rfl rfl (fun b81 => ?_);refine s_do (do_appendR (by_ := 8) tab 6 rfl hqB1 rfl ⟨rfl, rfl, rfl, rfl⟩ rfl (by simp) rfl (cells_row0 0 rfl rfl) rfl rfl (by rw [List.length_map]; omega) (by omega)) rfl rfl rfl (fun y => ?_);obtain ⟨⟨qv', qc'⟩, hq'⟩ := y;dsimp only at hq' ⊢;refine sn ?_;refine sf 4 ?_;refine ss (set_row tab 3 rfl rfl hq'.one rfl rfl (Nat.lt_of_sub_eq_succ rfl)) ?_;refine snf (c_seq (c_block ?_));obtain ⟨g2, hg2⟩ : ∃ g2 : Bg, g2 = g1.setQ (g.q ++ [k]) qv' qc' := ⟨_, rfl⟩;have hB2 : g2.OK := by
            rw [hg2];refine hB1.setQ (hq'.of ?_) fun j hj => ?_
            · rw [hq1, List.map_append, List.map_cons, List.map_nil, hk1]
            · rcases List.mem_append.1 hj with hj | hj
              · exact hA1.has (hB.qh j hj)
              · rw [List.mem_singleton.1 hj]; exact hA1.has hk
          have hA2 : g.Anc g2 := by rw [hg2]; exact ⟨hA1.b, hA1.pb, hA1.len⟩
          have hbk2 : g2.bk = g.bk.wait k lk := by
            rw [hg2, hg1, ht1, Bk.wait, htx];simp only [Bg.setQ, Bg.bk, Bg.setT, Bk.setT, List.map_set, Tg.tx]
          have hI2 : I g2.bk := by
            rw [hbk2];exact h0 ch (by omega) (by first | exact hf | (rw [← hlk2]; exact hf))
          refine c_loopP (α := Bg) (fun gi => [(0, .pointer (some ⟨g.b, 0, none⟩)), (1, .pointer (some ⟨t.b, 0, none⟩))])
            (fun gi => gi.OK ∧ g.Anc gi ∧ I gi.bk ∧ ∀ B e, Bk.Res k gi.bk B e → Bk.Res k g2.bk B e) (fun gi => K W (gi.L ++ ([(b14, row 111 (lkc lk))] :: N))) (fun gi => gi.rn.length + gi.q.length) g2
            ⟨rfl, rfl, trivial⟩ ⟨hB2, hA2, hI2, fun _ _ h => h⟩ (fun w h => by
              have e2 : g2.L = g1.p :: [(g.b, row 96 g2.cells)] :: [(g1.ba, mobj g1.ea g1.ca)] :: [(g1.br, mobj g1.er g1.cr)] :: qc' :: g1.lc :: (g1.ts.flatMap Tg.chunks) := by
                rw [hg2, ← hA1.b]; rfl
              have h2 : K W ([(b14, row 111 (lkc lk))] :: (g2.L ++ N)) w := by
                rw [e2, hg2];exact h.tail
              exact K.bckN (A := [[(b14, row 111 (lkc lk))]]) (B := g2.L) h2) ?_
          rintro gi ⟨hBi, hAi, hIi, hRi⟩;have hGi := hI _ hIi;have hki := hAi.has hk;obtain ⟨u, hum, huti, huid, hupb, hux⟩ := hBi.at hki;have hub : u.b = t.b := by rw [← hupb, hAi.pb, hpb]
          obtain ⟨d0, d1, d2, d3, d7, dl, d_o⟩ := hBi.tf (C := K W (gi.L ++ ([(b14, row 111 (lkc lk))] :: N))) Hs.bk hum;clear d0 d2 d3 d7 dl d_o hfree;have hsx := hstI _ hIi;have hux2 : (gi.bk.tx k).st = u.st := by rw [hux]; rfl
          rw [hux2] at hsx;rw [hub] at d1;rcases hsx with c2 | c2 | c2
          · rw [c2] at d1;refine c_seq (csr (sm ?_));refine sn ?_;refine sf 1 ?_;refine sl d1 ?_;refine sy (y_F (y_eql rfl rfl) (by omega)) ?_;refine snf (c_condF rfl (c_exit (f_thenE (f_rndE (f_blockE (f_then (c_seq (csr (sm ?_)))))))));refine sn ?_;refine sf 1 ?_;refine sl d1 ?_;refine sy (y_F (y_eql rfl rfl) (by omega)) ?_;refine snf (c_condF rfl (c_skip (f_then (csr (sa ?_)))));refine snf (c_ret ?_);exact f_ret ⟨(gi, 0), hBi, .res ch (by omega) (by first | exact hf | (rw [← hlk2]; exact hf)) (by rw [← hlk2, ← hbk2]; exact hRi _ _ (.free (by rw [hux2, c2]))), hAi⟩ (res1 rfl rfl) (fun w h => (K.bckN (A := gi.L) (B := [[(b14, row 111 (lkc lk))]]) h).tail)
          · rw [c2] at d1;have hvic := victim_b (N := gi.L ++ ([(b14, row 111 (lkc lk))] :: N)) (W := W) hBi (good_few hGi) Hs.bk hki hum huid hupb hux;rw [hAi.b, hub] at hvic;refine c_seq (csr (sm ?_));refine sn ?_;refine sf 1 ?_;refine sl d1 ?_;refine sy (y_T (y_eql rfl rfl) (by omega)) ?_;refine snf (c_condT rfl (c_skip (f_then (c_block (csr (sm ?_))))));refine sm ?_;refine sk call111 hvic fun y => ?_;obtain ⟨v, hv⟩ := y;dsimp only;by_cases cv : v = 0
            · subst cv;refine sa ?_;refine snf (c_seq (csr (sm ?_)));refine sy (y_T (y_eql rfl rfl) (by omega)) ?_;refine snf (c_condT rfl (csr (sa ?_)));refine snf (c_ret (f_thenR (f_blockR (f_rndR (f_blockR (f_thenR ?_))))));exact f_ret ⟨(gi, 83), hBi, .res ch (by omega) (by first | exact hf | (rw [← hlk2]; exact hf)) (by rw [← hlk2, ← hbk2]; exact hRi _ _ (.wait (by rw [hux2, c2]) hv)), hAi⟩ (res1 rfl rfl) (fun w h => (K.bckN (A := gi.L) (B := [[(b14, row 111 (lkc lk))]]) h).tail)
            · have hvm : v ∈ gi.rn ∨ v ∈ gi.q := by
                rcases hv with ⟨h, _⟩ | ⟨_, h, _⟩
                · exact absurd h cv
                · exact Bk.R_mem (A := gi.bk) h.1
              have hvh : gi.has v := by
                rcases hvm with h | h
                · exact hBi.rnh v h
                · exact hBi.qh v h
              obtain ⟨x, hxm, hxti, _, _, _⟩ := hBi.at hvh;have hget := hBi.eaG v hvh;obtain ⟨_, _, b2, _, _, _, _, _, bea, _⟩ := hBi.bf (C := K W (gi.L ++ ([(b14, row 111 (lkc lk))] :: N))) Hs.bk;rw [hAi.b] at b2;have hMi := hBi.eaM;have hab1 := abort_spec (W := W) (N := [(b14, row 111 (lkc lk))] :: N) hBi (good_lm hGi) hvh hxti (good_un hGi hxm) (good_ol hGi hxm);rw [hAi.b] at hab1;clear d1;refine sa ?_;refine snf (c_seq (csr (sm ?_)));refine sy (y_F (y_eql rfl rfl) (by omega)) ?_;refine snf (c_condF rfl (c_skip (f_then (c_region (sm ?_)))));refine sm ?_;refine sn ?_;refine sf 2 ?_;refine sl b2 ?_;refine sm ?_;refine sy (y_lookupE tab rfl rfl rfl rfl (fun _ => rfl) (bea) (by assumption)) ?_;refine sk call67 hab1 fun y => ?_;obtain ⟨gj, hBj, hbkj, hAj⟩ := y;dsimp only;refine s_nil (f_blockN ?_);exact f_roundP gj ⟨hBj, hAi.trans hAj, by rw [hbkj]; exact hab _ v hIi (by rw [hux2, c2]) hv cv, fun B e h => hRi B e (.next (by rw [hux2, c2]) hv cv (by rw [← hbkj]; exact h))⟩ (by
                have := Bk.abort_less (A := gi.bk) (k := v) hvm;rw [← hbkj] at this;exact this) ⟨rfl, rfl, trivial⟩ (fun w h => h)
          · rw [c2] at d1;refine c_seq (csr (sm ?_));refine sn ?_;refine sf 1 ?_;refine sl d1 ?_;refine sy (y_F (y_eql rfl rfl) (by omega)) ?_;refine snf (c_condF rfl (c_exit (f_thenE (f_rndE (f_blockE (f_then (c_seq (csr (sm ?_)))))))));refine sn ?_;refine sf 1 ?_;refine sl d1 ?_;refine sy (y_T (y_eql rfl rfl) (by omega)) ?_;refine snf (c_condT rfl (csr (sa ?_)));refine snf (c_ret (f_thenR ?_));exact f_ret ⟨(gi, 84), hBi, .res ch (by omega) (by first | exact hf | (rw [← hlk2]; exact hf)) (by rw [← hlk2, ← hbk2]; exact hRi _ _ (.gone (by rw [hux2, c2]))), hAi⟩ (res1 rfl rfl) (fun w h => (K.bckN (A := gi.L) (B := [[(b14, row 111 (lkc lk))]]) h).tail)
end Go.KL
end

section
/- Walks: find, moves, Room. -/
namespace Go.KL
open Go.Proofs Go.Proofs.Tryz
attribute [local irreducible] SC St Fin Sq Ylds Doos Sets Enters Spec CellIs CellsAre Then Ret Rnd Chn resOK ints bools recs arr
def Bg.fnd (g : Bg) (z : Int) : Value × Nat := if 1 ≤ z ∧ z ≤ g.ts.length then (if (g.bk.tx z.toNat).st = 4 then (.pointer none, 81) else if (g.bk.tx z.toNat).st = 3 then (.pointer none, 82) else (g.ptr z.toNat, 0)) else (.pointer none, 80)
theorem find_b {g : Bg} {W : World} {N : List Chunk} {z : Int} (hB : g.OK) (hH : Hs (K W N) g.L.flatten) : Spec prog 64 #[.pointer (some ⟨g.b, 0, none⟩), .int .i64 z] (K W N)
    (fun _ : Unit => .tuple #[(g.fnd z).1, .int .i64 ((g.fnd z).2 : Nat)]) (fun _ => K W N) := by
  have hus := usable_spec (hB.bf hH);obtain ⟨f0, f1, f2, f3, f4, f5, fq, fl, fea, fer⟩ := hB.bf hH;clear f0 f1 f3 f4 f5 fq fl fer;refine enter (args := [_, _]) func64 rfl ntmps64 rfl ?_;by_cases c : 1 ≤ z ∧ z ≤ g.ts.length
  · obtain ⟨k, rfl⟩ : ∃ k : Nat, z = k := ⟨z.toNat, by omega⟩;have hk : g.has k := ⟨by omega, by omega⟩;obtain ⟨t, htm, hti, hid, hpb, htx⟩ := hB.at hk;have hget := hB.eaG k hk;have ef : g.fnd k = if t.st = 4 then (.pointer none, 81) else if t.st = 3 then (.pointer none, 82) else (.pointer (some ⟨t.b, 0, none⟩), 0) := by
      rw [Bg.fnd, if_pos c, Int.toNat_natCast, htx, Bg.ptr, hpb];rfl
    rw [Bg.ptr, hpb] at hget;obtain ⟨d0, d1, d2, d3, d7, dl, d_o⟩ := hB.tf hH htm;clear d0 d2 d3 d7 dl d_o;rw [ef];refine csr (sa ?_);refine sa ?_;refine snf (c_seq (csr (sm ?_)));refine sk call52 hus fun _ => ?_;by_cases c4 : t.st = 4
    · rw [if_pos c4];rw [c4] at d1;refine sy (y_notT rfl) ?_;refine snf (c_condF rfl (c_skip (f_then (csr (sm ?_)))));refine sn ?_;refine sf 2 ?_;refine sl f2 ?_;refine sm ?_;refine sy (y_lookupE tab rfl rfl rfl rfl (fun _ => rfl) (fea) (by assumption)) ?_;refine sa ?_;refine snf (c_seq (c_block (csr (sm ?_))));refine sy (y_eqlPN tab rfl rfl) ?_;refine sa ?_;refine snf (c_condF rfl (csr (sm ?_)));refine sn ?_;refine sf 1 ?_;refine sl d1 ?_;refine sy (y_T (y_eql rfl rfl) (by omega)) ?_;refine sa ?_;refine snf (c_condT rfl (csr (sa ?_)));refine sa ?_;refine snf (c_ret (f_blockR (f_thenR ?_)));exact f_ret () (res2 rfl rfl rfl) (fun w h => h)
    · rw [if_neg c4];by_cases c3 : t.st = 3
      · rw [if_pos c3];rw [c3] at d1;refine sy (y_notT rfl) ?_;refine snf (c_condF rfl (c_skip (f_then (csr (sm ?_)))));refine sn ?_;refine sf 2 ?_;refine sl f2 ?_;refine sm ?_;refine sy (y_lookupE tab rfl rfl rfl rfl (fun _ => rfl) (fea) (by assumption)) ?_;refine sa ?_;refine snf (c_seq (c_block (csr (sm ?_))));refine sy (y_eqlPN tab rfl rfl) ?_;refine sa ?_;refine snf (c_condF rfl (csr (sm ?_)));refine sn ?_;refine sf 1 ?_;refine sl d1 ?_;refine sy (y_F (y_eql rfl rfl) (by omega)) ?_;refine sa ?_;refine snf (c_condF rfl (csr (sm ?_)));refine sn ?_;refine sf 1 ?_;refine sl d1 ?_;refine sy (y_T (y_eql rfl rfl) (by omega)) ?_;refine sa ?_;refine snf (c_condT rfl (csr (sa ?_)));refine sa ?_;refine snf (c_ret (f_blockR (f_thenR ?_)));exact f_ret () (res2 rfl rfl rfl) (fun w h => h)
      · rw [if_neg c3];refine sy (y_notT rfl) ?_;refine snf (c_condF rfl (c_skip (f_then (csr (sm ?_)))));refine sn ?_;refine sf 2 ?_;refine sl f2 ?_;refine sm ?_;refine sy (y_lookupE tab rfl rfl rfl rfl (fun _ => rfl) (fea) (by assumption)) ?_;refine sa ?_;refine snf (c_seq (c_block (csr (sm ?_))));refine sy (y_eqlPN tab rfl rfl) ?_;refine sa ?_;refine snf (c_condF rfl (csr (sm ?_)));refine sn ?_;refine sf 1 ?_;refine sl d1 ?_;refine sy (y_F (y_eql rfl rfl) (by omega)) ?_;refine sa ?_;refine snf (c_condF rfl (csr (sm ?_)));refine sn ?_;refine sf 1 ?_;refine sl d1 ?_;refine sy (y_F (y_eql rfl rfl) (by omega)) ?_;refine sa ?_;refine snf (c_condF rfl (c_skip (f_blockN (f_then (csr (sm ?_))))));refine sa ?_;refine sa ?_;refine snf (c_ret ?_);exact f_ret () (res2 rfl rfl rfl) (fun w h => h)
  · have ef : g.fnd z = (.pointer none, 80) := by rw [Bg.fnd, if_neg c]
    have hget : mget z (.pointer none) g.ea = .pointer none := mget_out (by rw [hB.eaH]; exact decide_eq_false c);rw [ef];refine csr (sa ?_);refine sa ?_;refine snf (c_seq (csr (sm ?_)));refine sk call52 hus fun _ => ?_;refine sy (y_notT rfl) ?_;refine snf (c_condF rfl (c_skip (f_then (csr (sm ?_)))));refine sn ?_;refine sf 2 ?_;refine sl f2 ?_;refine sm ?_;refine sy (y_lookupE tab rfl rfl rfl rfl (fun _ => rfl) (fea) (by assumption)) ?_;refine sa ?_;refine snf (c_seq (c_block (csr (sm ?_))));refine sy (y_eqlPN tab rfl rfl) ?_;refine sa ?_;refine snf (c_condT rfl (csr (sa ?_)));refine sa ?_;refine snf (c_ret (f_blockR (f_thenR ?_)));exact f_ret () (res2 rfl rfl rfl) (fun w h => h)
theorem mvs_take {os : List Ov} {i : Nat} {x : Ov} (h : os[i]? = some x) : mvs (ops (os.take (i + 1))) = mvs (ops (os.take i)) + (if x.1.mv then 1 else 0) := by
  rw [List.take_add_one, h];unfold mvs ops;rw [List.map_append, List.filter_append, List.length_append];congr 1;cases hm : x.1.mv <;> simp [hm]
theorem moves_b {t : Tg} {W : World} {N : List Chunk} (hF : TF (K W N) t) (hol : t.os.length < 1000000) (hov : ∀ x ∈ t.os, x.2.oneCell' = true) : Spec prog 53 #[.pointer (some ⟨t.b, 0, none⟩)] (K W N) (fun _ : Unit => .int .i64 (mvs (ops t.os) : Nat)) (fun _ => K W N) := by
  obtain ⟨e0, e1, e2, e3, e7, el, eo⟩ := hF;have hl2 : (opl t.os).length = t.os.length := List.length_map _;have hml : ∀ i, mvs (ops (t.os.take i)) ≤ t.os.length := fun i => by
    refine Nat.le_trans (List.length_filter_le _ _) ?_;rw [List.length_map];exact List.length_take_le' i _
  clear e0 e1 e2 e3 el;refine enter (args := [_]) func53 rfl ntmps53 rfl ?_;refine csr (sa ?_);refine snf (csr (sa ?_));refine snf (c_seq (csr (sm ?_)));refine sn ?_;refine sf 7 ?_;refine sl e7 ?_;refine sy (y_lenE tab rfl (eo) rfl) ?_;refine sm ?_;refine snf (c_block ?_);refine c_loopP (α := Nat) (fun z => [(3, .int .i64 (mvs (ops (t.os.take z)) : Nat)), (9, t.ov), (10, .int .i64 (opl t.os).length), (11, .int .i64 (z : Nat))])
    (fun z => z ≤ t.os.length) (fun _ => K W N) (fun z => t.os.length - z) 0 ⟨rfl, rfl, rfl, rfl, trivial⟩ (Nat.zero_le _) (fun w h => h) ?_
  intro i hi;by_cases c1 : i < t.os.length
  · obtain ⟨x, hx⟩ : ∃ x, t.os[i]? = some x := ⟨t.os[i], by simp [c1]⟩;have hcx := eo.row (opl_get hx);have hm := mvs_take hx;have hmi := hml i;have hrv := hov x (List.mem_of_getElem? hx);refine csr (sy (y_T (y_lss rfl rfl) (by omega)) ?_);refine snf (c_seq (c_condT rfl (c_skip (f_then (c_seq (c_block (csr (sy (y_ixE tab rfl rfl rfl rfl (eo) _ rfl (by omega)) ?_))))))));refine sy (y_loadA tab rfl rfl rfl rfl hcx) ?_;refine sal fun b5 => ?_;refine ss (set_box tab 0 rfl rfl (opc_one hrv) rfl rfl rfl rfl) ?_;refine snf (csr (sf0 ?_));refine slr 0 ?_;refine snf ?_;cases hmv : x.1.mv with
    | true =>
      rw [hmv, if_pos rfl] at hm;refine c_condT rfl (c_region (sm ?_));refine sy (y_add rfl rfl (by omega)) ?_;refine sa ?_;refine s_nil (f_blockN (f_then (c_region (sy (y_add rfl rfl (by omega)) ?_))));refine sm ?_;refine s_nil ?_;exact f_roundP (i + 1) c1 (by omega) ⟨congrArg (fun z : Nat => some (Value.int .i64 (z : Int))) hm.symm, rfl, rfl, rfl, trivial⟩ (fun w h => h.tail)
    | false =>
      rw [hmv, if_neg (by decide)] at hm;refine c_condF rfl (c_skip (f_blockN (f_then (c_region (sy (y_add rfl rfl (by omega)) ?_)))));refine sm ?_;refine s_nil ?_;exact f_roundP (i + 1) c1 (by omega) ⟨congrArg (fun z : Nat => some (Value.int .i64 (z : Int))) hm.symm, rfl, rfl, rfl, trivial⟩ (fun w h => h.tail)
  · obtain rfl : i = t.os.length := by omega
    have hmi := hml t.os.length;rw [List.take_length] at hmi ⊢;refine csr (sy (y_F (y_lss rfl rfl) (by omega)) ?_);refine snf (c_seq (c_condF rfl (c_exit (f_thenE (f_rndE (f_blockE (f_then (csr (sm ?_)))))))));refine sa ?_;refine snf (c_ret ?_);exact f_ret () (res1 rfl rfl) (fun w h => h)
def sumS (f : Ent → Nat) (seen : Array Nat) (es : List Ent) : Nat := ((es.filter fun e => decide (e.2.2 ∈ seen)).map f).sum
theorem sumS_nil {f : Ent → Nat} {es : List Ent} : sumS f #[] es = 0 := by
  rw [sumS, List.filter_eq_nil_iff.2 (fun e _ => by simp)];rfl
theorem sumS_all {f : Ent → Nat} {es : List Ent} {seen : Array Nat} (h : ∀ e ∈ es, e.2.2 ∈ seen) : sumS f seen es = (es.map f).sum := by
  rw [sumS, List.filter_eq_self.2 fun e he => decide_eq_true (h e he)]
theorem sumS_skip {f : Ent → Nat} {b : Nat} {seen : Array Nat} : ∀ {es : List Ent}, (∀ e ∈ es, e.2.2 ≠ b) → sumS f (seen.push b) es = sumS f seen es
  | [], _ => rfl
  | a :: r, h => by
    have ih := sumS_skip (f := f) (seen := seen) (es := r) fun e he => h e (List.mem_cons_of_mem _ he);have ha := h a (List.mem_cons_self ..);unfold sumS at ih ⊢;rw [List.filter_cons, List.filter_cons];by_cases c : a.2.2 ∈ seen
    · rw [if_pos (decide_eq_true (Array.mem_push.2 (.inl c))), if_pos (decide_eq_true c), List.map_cons, List.map_cons, List.sum_cons, List.sum_cons, ih]
    · rw [if_neg (by simp only [decide_eq_true_eq]; exact fun hm => (Array.mem_push.1 hm).elim c ha), if_neg (by simp only [decide_eq_true_eq]; exact c), ih]
theorem sumS_push {f : Ent → Nat} {x : Ent} {seen : Array Nat} : ∀ {es : List Ent}, (es.map (·.2.2)).Nodup → x ∈ es → x.2.2 ∉ seen → sumS f (seen.push x.2.2) es = sumS f seen es + f x
  | [], _, h, _ => by simp at h
  | a :: r, hn, hx, hs => by
    rw [List.map_cons, List.nodup_cons] at hn;rcases List.mem_cons.1 hx with rfl | hx
    · have h1 := sumS_skip (f := f) (b := x.2.2) (seen := seen) (es := r) fun e he e2 => hn.1 (by rw [← e2]; exact List.mem_map.2 ⟨e, he, rfl⟩);unfold sumS at h1 ⊢;rw [List.filter_cons, List.filter_cons, if_pos (decide_eq_true (Array.mem_push.2 (.inr rfl))), if_neg (by simp only [decide_eq_true_eq]; exact hs), List.map_cons, List.sum_cons, h1, Nat.add_comm]
    · have ih := sumS_push (f := f) (seen := seen) hn.2 hx hs;have hne : a.2.2 ≠ x.2.2 := fun e => hn.1 (by rw [e]; exact List.mem_map.2 ⟨x, hx, rfl⟩);unfold sumS at ih ⊢;rw [List.filter_cons, List.filter_cons];by_cases c : a.2.2 ∈ seen
      · rw [if_pos (decide_eq_true (Array.mem_push.2 (.inl c))), if_pos (decide_eq_true c), List.map_cons, List.map_cons, List.sum_cons, List.sum_cons, ih, Nat.add_assoc]
      · rw [if_neg (by simp only [decide_eq_true_eq]; exact fun hm => (Array.mem_push.1 hm).elim c hne), if_neg (by simp only [decide_eq_true_eq]; exact c), ih]
theorem sumS_le {f : Ent → Nat} {seen : Array Nat} : ∀ {es : List Ent}, sumS f seen es ≤ (es.map f).sum
  | [] => Nat.le_refl _
  | a :: r => by
    have ih := sumS_le (f := f) (seen := seen) (es := r);unfold sumS at ih ⊢;rw [List.filter_cons];split
    · rw [List.map_cons, List.sum_cons, List.map_cons, List.sum_cons]; omega
    · rw [List.map_cons, List.sum_cons]; omega
abbrev Bg.mvE (g : Bg) (e : Ent) : Nat := mvs (g.bk.tx e.1.toNat).ops
theorem mvE_sum {g : Bg} (h : g.OK) : (g.er.map g.mvE).sum = g.bk.moves := by
  have e1 : g.er.map g.mvE = (g.er.map (·.1)).map fun z : Int => mvs (g.bk.tx z.toNat).ops := by rw [List.map_map]; rfl
  rw [e1, h.er_keys, List.map_map];rfl
theorem room_b {g : Bg} {W : World} {N : List Chunk} (hB : g.OK) (hol : ∀ t ∈ g.ts, t.os.length < 1000000) (hr : nbd g.C g.size + 2 * g.bk.moves ≤ 4096) : Spec prog 17 #[.pointer (some ⟨g.b, 0, none⟩)] (K W (g.L ++ N)) (fun _ : Unit => .int .i64 (g.bk.room : Nat)) (fun _ => K W (g.L ++ N)) := by
  have hus := usable_spec (hB.bf (C := K W (g.L ++ N)) Hs.bk);obtain ⟨f0, f1, f2, f3, f4, f5, fq, fl, fea, fer⟩ := hB.bf (C := K W (g.L ++ N)) Hs.bk;have hms : Spec prog 37 #[.agg #[g.cv]] (K W (g.L ++ N)) (fun _ : Unit => .int .i64 (nbd g.C g.size : Nat)) (fun _ => K W (g.L ++ N)) := mlen_spec (R := [(g.b, row 96 g.cells)] :: [(g.ba, mobj g.ea g.ca)] :: [(g.br, mobj g.er g.cr)] :: g.qc :: g.lc :: (g.ts.flatMap Tg.chunks ++ N)) hB.mC;have f0' := CellsAre.one f0;clear f0 f1 f2 f4 f5 fq fl fea fer;have hsum := mvE_sum hB;refine enter (args := [_]) func17 rfl ntmps17 rfl ?_;refine csr (sa ?_);refine snf (c_seq (csr (sm ?_)));refine sk call52 hus fun _ => ?_;refine sy (y_notT rfl) ?_;refine snf (c_condF rfl (c_skip (f_then (csr (sm ?_)))));refine sn ?_;refine sf0 ?_;refine sy (y_loadA tab rfl rfl rfl rfl f0') ?_;refine sk call37 hms fun _ => ?_;refine sy (y_sub rfl rfl (by omega)) ?_;refine sa ?_;refine snf (c_seq (csr (sm ?_)));refine sn ?_;refine sf 3 ?_;refine sl f3 ?_;refine s_do (do_range tab 3 rfl rfl rfl) rfl rfl rfl (fun r => ?_);refine snf (c_block ?_);refine c_loopP (α := Array Nat) (fun z => [(3, .int .i64 (4096 - (nbd g.C g.size : Nat) - 2 * (sumS g.mvE z g.er : Nat) : Int)), (19, .pointer (some ⟨r, 0, none⟩))])
    (fun _ => True) (fun z => K W ([(r, mit g.br g.cr z)] :: (g.L ++ N))) (fun z => leftN g.er z) #[]
    ⟨congrArg (fun z => some (Value.int .i64 z)) (by rw [sumS_nil]; omega), rfl, trivial⟩ trivial (fun w h => h) ?_
  intro seen _;have hle := sumS_le (f := g.mvE) (seen := seen) (es := g.er);rw [hsum] at hle;refine csr (s_do (do_next 0 4 rfl rfl rfl hB.erM.old) rfl rfl rfl (fun x => ?_));obtain ⟨_ | e, hx⟩ := x
  · dsimp only [nextV, nextLs];have hall := sumS_all (f := g.mvE) hx;rw [hsum] at hall;rw [hall];have hrm : (g.bk.room : Int) = (4096 - (nbd g.C g.size : Nat) - 2 * (g.bk.moves : Nat)) / 2 := by
      rw [Bk.room];show ((((4096 - nbd g.C g.size - 2 * g.bk.moves) / 2 : Nat)) : Int) = _;omega
    refine sx ?_;refine snf (c_seq (c_condF rfl (c_exit (f_thenE (f_rndE (f_blockE (f_then (csr (sm ?_)))))))));refine sy (y_quo rfl rfl (by omega)) ?_;refine sy (y_max rfl rfl) ?_;refine sa ?_;refine snf (c_ret ?_);exact f_ret () (res1 rfl (congrArg (fun z => some (Value.int .i64 z)) (by rw [hrm]; exact Int.max_eq_right (by omega)))) (fun w h => h.tail)
  · obtain ⟨hx1, hx2⟩ := hx;dsimp only [nextV, nextLs];have hek : (e.1, e.2.1) ∈ g.rn.map (fun k : Nat => ((k : Int), g.ptr k)) := by
      rw [← hB.erE]; exact List.mem_map.2 ⟨e, hx1, rfl⟩
    obtain ⟨k, hkr, hke⟩ := List.mem_map.1 hek;simp only [Prod.mk.injEq] at hke;obtain ⟨t, htm, _, _, hpb, htx⟩ := hB.at (hB.rnh k hkr);have hm := leftN_lt hx1 hx2;have hsp := sumS_push (f := g.mvE) hB.erM.born hx1 hx2;have hmv : g.mvE e = mvs (ops t.os) := by
      rw [Bg.mvE, ← hke.1, Int.toNat_natCast, htx]; rfl
    rw [hmv] at hsp;have hle2 := sumS_le (f := g.mvE) (seen := seen.push e.2.2) (es := g.er);rw [hsum, hsp] at hle2;refine St.cls (C' := K W ([(r, mit g.br g.cr (seen.push e.2.2))] :: (g.L ++ N))) ?_ (fun w h => h);have hmb := moves_b (W := W) (N := [(r, mit g.br g.cr (seen.push e.2.2))] :: (g.L ++ N)) (hB.tf Hs.bk.cons htm) (hol t htm) (fun x hx => ((hB.ok t htm).r x hx).one);refine sx ?_;refine snf (c_seq (c_condT rfl (c_skip (f_then (c_block (csr (sy (y_entry 0 4 (e := e) rfl rfl rfl hx1 hB.erM.born) ?_)))))));rw [← hke.2, Bg.ptr, hpb];refine sx ?_;refine sa ?_;refine snf (c_region (sm ?_));refine sm ?_;refine sk call53 hmb fun _ => ?_;refine sy (y_mul rfl rfl (by omega)) ?_;refine sy (y_sub rfl rfl (by omega)) ?_;refine sa ?_;refine s_nil (f_blockN ?_);exact f_roundP (seen.push e.2.2) trivial hm ⟨congrArg (fun z => some (Value.int .i64 z)) (by rw [hsp]; omega), rfl, trivial⟩ (fun w h => h)
end Go.KL
end

section
/- Drawn regions that have a call and a new box, in either order. No program in sight. -/
namespace Go.KL
section
variable {P : Program} {n : Nat} {σ : Slots} {C D : World → Prop} {Q : Post} {ops : Array Oper} {dr : Nat → Bool}
def brB (ops : Array Oper) (dr : Nat → Bool) (i j : Nat) (p1 p2 : List PS) (listed : Array Bool) : Bool :=
  (Region.ready .any ops listed) == [i, j] && planB ops dr p1 (listed.setIfInBounds i true) && planB ops dr p2 (listed.setIfInBounds j true)
def planW (ops : Array Oper) (dr : Nat → Bool) (i j : Nat) (p1 p2 : List PS) : List Nat → Array Bool → Bool
  | [], listed => brB ops dr i j p1 p2 listed
  | k :: r, listed => (Region.ready .any ops listed).contains k && freeD ops dr listed k && planW ops dr i j p1 p2 r (listed.setIfInBounds k true)
def SdW (P : Program) (n : Nat) (ops : Array Oper) (dr : Nat → Bool) (D : World → Prop) (Q : Post) (i j : Nat) (p1 p2 : List PS) (ks : List Nat) (σ : Slots) (C : World → Prop) : Prop :=
  ∀ listed a, Env n σ a → DC ops listed → planW ops dr i j p1 p2 ks listed = true → (∀ (j : Nat) (o : Oper) cs b, ops[j]? = some o → o.op ≠ .select cs b) → AnyC P ops dr D Q (planLen p1 + 1 + ks.length) listed a C
theorem c_planW (i j : Nat) (ks : List Nat) (p1 p2 : List PS) (D : World → Prop) {id : Nat} {l : List Oper} (hm : P.follows .mixedOrders = true) (hsB : (Region.noSelect l.toArray && planW l.toArray (drOf []) i j p1 p2 ks (Array.replicate l.toArray.size false)) = true) (hl : planLen p1 + 1 + ks.length = l.toArray.size)
    (hC : Cl C) (h : SdW P n l.toArray (drOf []) D Q i j p1 p2 ks σ C) : SC P n Q (.region id l.toArray true) σ C := by
  obtain ⟨hs, hB⟩ := Bool.and_eq_true_iff.1 hsB;intro a w hE hw;refine wpIn_region_any hm ?_;have h1 := h _ a hE (fun j hj => by simp [Array.getElem?_replicate] at hj; split at hj <;> simp at hj) hB (Region.noSelect_spec hs);rw [hl] at h1;exact wpAny_of_AnyC _ _ _ _ h1 _ (hC _ _ hw (Ext.drew w))
theorem w_c {i j : Nat} {p1 p2 : List PS} {k : Nat} {ks : List Nat} {o : Oper} {v : Value} {d : Nat} (hi : ops[k]? = some o) (hy : Qui P n σ D o v) (hg : gd ops σ o = some true) (hd : o.dst = some d) (hn : Nat.blt d n = true) (hCD : ∀ w, C w → D w) (hCl : Cl C)
    (r : SdW P n ops dr D Q i j p1 p2 ks ((d, v) :: σ) C) : SdW P n ops dr D Q i j p1 p2 (k :: ks) σ C := by
  intro listed a hE hdc hB hs;simp only [planW, Bool.and_eq_true] at hB;obtain ⟨⟨h1, h2⟩, h3⟩ := hB;refine AnyC_first hi hs _ _ _ _ (freeD_spec hi h2) hdc (by simpa using h1) (.inl ⟨gd_wanted hE hg, fun w hw => hy a w hE hw⟩) hCD hCl ?_;rw [hd];exact r _ _ (hE.put hn v) (hdc.set (ready_PL (by simpa using h1))) h3 hs
theorem w_br {i j : Nat} {p1 p2 : List PS} {oi oj : Oper} {X Y : Type} {v : X → Value} {u : Y → Value} {Ci : X → World → Prop} {Cj : Y → World → Prop} {di dj : Nat} {f : FuncId} {args : Array Value}
    (hi : ops[i]? = some oi) (hj : ops[j]? = some oj) (hl : planLen p1 = planLen p2) (he : Enters P n σ C oi f args) (hsp : Spec P f args C v Ci) (hgi : gd ops σ oi = some true) (hgj : gd ops σ oj = some true) (hdi : oi.dst = some di) (hdj : oj.dst = some dj) (hni : Nat.blt di n = true) (hnj : Nat.blt dj n = true)
    (hy : Doos P n σ C oj u Cj) (c1 : ∀ x, Cl (Ci x)) (c2 : ∀ y, Cl (Cj y)) (e1 : dr i = true → ∀ x w, Ci x w → D w) (e2 : dr j = true → ∀ y w, Cj y w → D w)
    (k1 : ∀ x, Sd P n ops dr D Q p1 ((di, v x) :: σ) (Ci x)) (k2 : ∀ y, Sd P n ops dr D Q p2 ((dj, u y) :: σ) (Cj y)) : SdW P n ops dr D Q i j p1 p2 [] σ C := by
  intro listed a hE hdc hB hs;simp only [planW, brB, Bool.and_eq_true, beq_iff_eq] at hB;obtain ⟨⟨r1, b1⟩, b2⟩ := hB;refine ⟨fun h => (by rw [h] at r1; cases r1), fun m hm o ho => ?_⟩;rw [r1] at hm;simp only [List.mem_cons, List.not_mem_nil, or_false] at hm;rcases hm with rfl | rfl
  · rw [hi] at ho;obtain rfl := Option.some.inj ho;refine .inl ⟨gd_wanted hE hgi, X, v, Ci, fun w hw => ?_, fun x => ⟨c1 x, (fun h => e1 h x), ?_⟩⟩
    · unfold Out;rw [he a w hE hw];exact (hsp w hw).mono fun e w' ⟨x, h1, h2⟩ => ⟨v x, h1, x, rfl, h2⟩
    · rw [hdi];exact k1 x _ _ (hE.put hni _) (hdc.set (ready_PL (by rw [r1]; simp))) b1 hs
  · rw [hj] at ho;obtain rfl := Option.some.inj ho;refine .inl ⟨gd_wanted hE hgj, Y, u, Cj, hy.out hE, fun y => ⟨c2 y, (fun h => e2 h y), ?_⟩⟩;rw [hdj];have := k2 y _ _ (hE.put hnj _) (hdc.set (ready_PL (by rw [r1]; simp))) b2 hs;rw [← hl] at this;exact this
theorem AnyC_cls : ∀ (f : Nat) (listed : Array Bool) (a : Act) (C C' : World → Prop), AnyC P ops dr D Q f listed a C' → (∀ w, C w → C' w) → AnyC P ops dr D Q f listed a C
  | 0, _, _, _, _, h, hC => ⟨h.1, fun w hw => h.2 w (hC w hw)⟩
  | f + 1, listed, a, C, C', h, hC => by
    refine ⟨fun h0 w hw => h.1 h0 w (hC w hw), fun i hi o ho => ?_⟩;rcases h.2 i hi o ho with ⟨hwt, X, v, C2, h1, h2⟩ | ⟨hwt, h2⟩
    · exact .inl ⟨hwt, X, v, C2, fun w hw => h1 w (hC w hw), h2⟩
    · exact .inr ⟨hwt, fun hd w hw => h2.1 hd w (hC w hw), AnyC_cls f _ _ C C' h2.2 hC⟩
theorem Sd.cls {plan : List PS} {C' : World → Prop} (h : Sd P n ops dr D Q plan σ C') (hC : ∀ w, C w → C' w) : Sd P n ops dr D Q plan σ C := by
  intro listed a hE hdc hB hs;have := h listed a hE hdc hB hs;exact AnyC_cls _ _ _ _ _ this hC
end
end Go.KL
end

section
/- Walks: kindOf, look, move. -/
namespace Go.KL
open Go.Proofs Go.Proofs.Tryz
attribute [local irreducible] SC St Fin Sq Ylds Doos Sets Enters Spec CellIs CellsAre Then Ret Rnd Chn resOK ints bools recs arr
theorem kind_spec {mv : Bool} {lo hi fr to : Int} {rv : Value} {W : World} {N : List Chunk} : Spec prog 91 #[.agg #[.bool mv, .int .i64 lo, .int .i64 hi, .int .i64 fr, .int .i64 to, rv]] (K W N) (fun _ : Unit => .agg #[.bool mv, .func (.func (if mv then 108 else 107)) #[] #[]]) (fun _ => K W N) := by
  refine enter (args := [_]) func91 rfl ntmps91 rfl ?_;refine csr (sbx fun b1 => ?_);refine sal fun b2 => ?_;refine snf (csr (sy (y_build tab rfl rfl rfl rfl rfl) ?_));refine sy (y_build tab rfl rfl rfl rfl rfl) ?_;refine sy (y_buildArr tab rfl rfl rfl rfl rfl) ?_;refine sal fun b3 => ?_;refine ss (set_box tab 0 rfl rfl rfl rfl rfl rfl rfl) ?_;refine snf (c_seq (csr (sf0 ?_)));refine slr 2 ?_;refine snf ?_;cases mv
  · refine c_condF rfl (c_skip (f_then (csr (sy (y_indexArr0 tab rfl rfl rfl rfl rfl (by omega)) ?_))));refine St.cls (C' := K W ([(b3, row 172 [.bool false, .func (.func 107) #[] #[], .bool true, .func (.func 108) #[] #[]])] :: [(b2, row 145 [.bool false, .nilFunc])] :: [(b1, row 60 [.bool false, .int .i64 lo, .int .i64 hi, .int .i64 fr, .int .i64 to, rv])] :: N)) ?_ (fun w h => h);have hc : CellsAre (K W ([(b3, row 172 [.bool false, .func (.func 107) #[] #[], .bool true, .func (.func 108) #[] #[]])] :: [(b2, row 145 [.bool false, .nilFunc])] :: [(b1, row 60 [.bool false, .int .i64 lo, .int .i64 hi, .int .i64 fr, .int .i64 to, rv])] :: N)) ⟨b3, 0, none⟩ [.bool false, .func (.func 107) #[] #[]] := cells_row 0 rfl (fun j hj => by
      have : j < 2 := hj;rcases (show j = 0 ∨ j = 1 by omega) with rfl | rfl <;> rfl)
    refine sy (y_loadA tab rfl rfl rfl rfl hc) ?_;refine ss (set_box tab 1 rfl rfl rfl rfl rfl rfl rfl) ?_;refine snf (c_ret (Fin.cls (C' := K W ([(b3, row 172 [.bool false, .func (.func 107) #[] #[], .bool true, .func (.func 108) #[] #[]])] :: [(b2, row 145 [.bool false, .func (.func 107) #[] #[]])] :: [(b1, row 60 [.bool false, .int .i64 lo, .int .i64 hi, .int .i64 fr, .int .i64 to, rv])] :: N)) ?_ (fun w h => h)));exact f_ret () (resA tab rfl rfl rfl rfl rfl (cells_row0 1 rfl rfl)) (fun w h => h.tail.tail.tail)
  · refine c_condT rfl (csr (St.cls (C' := K W ([(b3, row 172 [.bool false, .func (.func 107) #[] #[], .bool true, .func (.func 108) #[] #[]])] :: [(b2, row 145 [.bool false, .nilFunc])] :: [(b1, row 60 [.bool true, .int .i64 lo, .int .i64 hi, .int .i64 fr, .int .i64 to, rv])] :: N)) ?_ (fun w h => h)));have hc : CellsAre (K W ([(b3, row 172 [.bool false, .func (.func 107) #[] #[], .bool true, .func (.func 108) #[] #[]])] :: [(b2, row 145 [.bool false, .nilFunc])] :: [(b1, row 60 [.bool true, .int .i64 lo, .int .i64 hi, .int .i64 fr, .int .i64 to, rv])] :: N)) ⟨b3, 0 + 1 * 2, none⟩ [.bool true, .func (.func 108) #[] #[]] := cells_row 0 rfl (fun j hj => by
      have : j < 2 := hj;rcases (show j = 0 ∨ j = 1 by omega) with rfl | rfl <;> rfl)
    refine sy (y_indexArr tab rfl rfl rfl rfl 1 rfl (by omega)) ?_;refine sy (y_loadA tab rfl rfl rfl rfl hc) ?_;refine ss (set_box tab 1 rfl rfl rfl rfl rfl rfl rfl) ?_;refine snf (c_ret (f_thenR (Fin.cls (C' := K W ([(b3, row 172 [.bool false, .func (.func 107) #[] #[], .bool true, .func (.func 108) #[] #[]])] :: [(b2, row 145 [.bool true, .func (.func 108) #[] #[]])] :: [(b1, row 60 [.bool true, .int .i64 lo, .int .i64 hi, .int .i64 fr, .int .i64 to, rv])] :: N)) ?_ (fun w h => h))));exact f_ret () (resA tab rfl rfl rfl rfl rfl (cells_row0 1 rfl rfl)) (fun w h => h.tail.tail.tail)
theorem nbd_mono (f : Nat → Nat) (a : Nat) : ∀ b, nbd f a ≤ nbd f (a + b)
  | 0 => Nat.le_refl _
  | b + 1 => by
    rw [← Nat.add_assoc, nbd];exact Nat.le_trans (nbd_mono f a b) (Nat.le_add_right _ _)
theorem rnsK_le (f : Nat → Nat) (lo : Nat) : ∀ k, (rnsK f lo k).length ≤ nbd f (lo + k) ∧ ∀ x ∈ (rnsK f lo k).getLast?, k ≠ 0 ∧ x.2.2 = f (lo + k - 1)
  | 0 => ⟨Nat.zero_le _, by simp [rnsK]⟩
  | k + 1 => by
    obtain ⟨h1, h2⟩ := rnsK_le f lo k;rw [rnsK, ← Nat.add_assoc, nbd];have hlt : (lo + k, lo + k + 1, f (lo + k)).1 < (lo + k, lo + k + 1, f (lo + k)).2.1 := by simp
    rcases List.eq_nil_or_concat (rnsK f lo k) with e | ⟨R', y, e⟩
    · rw [e, jn_nil _ hlt];have h3 := nbd_mono f 1 (lo + k);rw [Nat.add_comm 1] at h3;have h4 : nbd f 1 = 1 := by simp [nbd]
      rw [h4] at h3;exact ⟨h3, by simp⟩
    · rw [List.concat_eq_append] at e;rw [e] at h1 h2 ⊢;obtain ⟨h3, h4⟩ := h2 y (by simp);rw [jn_snoc _ _ _ hlt];by_cases c : y.2.2 = f (lo + k)
      · rw [if_pos c];refine ⟨by simp only [List.length_append, List.length_singleton] at h1 ⊢; omega, by simp⟩
      · rw [if_neg c, if_pos (by rw [← h4]; exact .inr c)];refine ⟨by simp only [List.length_append, List.length_singleton] at h1 ⊢; omega, by simp⟩
theorem rns_le {f : Nat → Nat} {lo hi n : Nat} (h1 : lo ≤ hi) (h2 : hi ≤ n) : (rns f lo hi).length ≤ nbd f n := by
  have h3 := (rnsK_le f lo (hi - lo)).1;have h4 := nbd_mono f hi (n - hi);rw [show lo + (hi - lo) = hi by omega] at h3;rw [show hi + (n - hi) = n by omega] at h4;exact Nat.le_trans h3 h4
theorem rvals_flat (L : List Rn) : rvals L = (rnl L).flatten := by
  rw [rvals, List.flatten_eq_flatMap, List.flatMap_map];rfl
theorem bufR_runs {v : Value} {c : Chunk} {L : List Rn} (h : Buf 26 3 v c L.length (rvals L)) : BufR 26 3 v c (rnl L) := ⟨lens.map rnc_len, by rw [List.length_map, ← rvals_flat]; exact h⟩
theorem op_cells {W : World} {Ls : List Chunk} {b : Nat} {e : TypeId} {z : Value} (o : Oa) (v : Value) (i : Nat) (hi : Ls.getD i [] = [(b, row e (z :: opc o v))]) : CellsAre (K W Ls) ⟨b, 1, none⟩ (opc o v) := cells_row i hi fun j hj => by
  rw [Nat.add_comm, List.getElem?_cons_succ]
theorem look_b {g : Bg} {W : World} {N : List Chunk} {k lo hi fr to : Nat} {mv : Bool} {t : Tg} (hB : g.OK) (hk : g.has k) (hti : g.ts[k - 1]? = some t) (h1 : lo ≤ hi) (h2 : hi ≤ g.size) (hnb : nbd g.W g.size ≤ 4096) (hol : t.os.length < 1000000) :
    Spec prog 107 #[.pointer (some ⟨g.b, 0, none⟩), .agg #[g.ptr k, .bool mv, .int .i64 (lo : Nat), .int .i64 (hi : Nat), .int .i64 (fr : Nat), .int .i64 (to : Nat), .slice none 0 0]] (K W (g.L ++ N))
      (X := { x : Bg × Value × Chunk // x.1.OK ∧ x.1.bk = g.bk.done k ⟨mv, lo, hi, fr, to, rns g.W lo hi⟩ ∧ g.Anc x.1 ∧ BufR 26 3 x.2.1 x.2.2 (rnl (rns g.W lo hi)) }) (fun x => .tuple #[x.1.2.1, .int .i64 0]) (fun x => K W (x.1.2.2 :: (x.1.1.L ++ N))) := by
  have htm : t ∈ g.ts := List.mem_of_getElem? hti;obtain ⟨t', _, hti', hid, hpb, htx⟩ := hB.at hk;obtain rfl : t' = t := by rw [hti] at hti'; exact (Option.some.inj hti').symm
  clear hti';have ep : g.ptr k = .pointer (some ⟨t'.b, 0, none⟩) := by rw [Bg.ptr, hpb]
  have hOt := hB.ok t' htm;rw [ep];refine enter (args := [_, _]) func107 rfl ntmps107 rfl ?_;refine csr (sbx fun b3 => ?_);refine sa ?_;refine sa ?_;refine snf (c_seq (SC.cls (C' := K W (g.p :: [(b3, row 149 [.pointer (some ⟨t'.b, 0, none⟩), .bool mv, .int .i64 (lo : Nat), .int .i64 (hi : Nat), .int .i64 (fr : Nat), .int .i64 (to : Nat), .slice none 0 0])] :: [(g.b, row 96 g.cells)] :: [(g.ba, mobj g.ea g.ca)] :: [(g.br, mobj g.er g.cr)] :: g.qc :: g.lc :: (g.ts.flatMap Tg.chunks ++ N))) ?_ (fun w h => h.front 1)));have hwc : CellsAre (K W (g.p :: [(b3, row 149 [.pointer (some ⟨t'.b, 0, none⟩), .bool mv, .int .i64 (lo : Nat), .int .i64 (hi : Nat), .int .i64 (fr : Nat), .int .i64 (to : Nat), .slice none 0 0])] :: [(g.b, row 96 g.cells)] :: [(g.ba, mobj g.ea g.ca)] :: [(g.br, mobj g.er g.cr)] :: g.qc :: g.lc :: (g.ts.flatMap Tg.chunks ++ N))) ⟨g.b, 1, none⟩ [g.wv] := CellsAre.one (cell_row 2 rfl rfl);refine c_plan [.c 0, .c 1, .c 2, .c 3, .c 4, .c 5, .c 6, .c 7, .c 8, .c 9, .s 10, .c 11, .c 12, .c 13, .c 14, .c 15] [] ((K W (g.p :: [(b3, row 149 [.pointer (some ⟨t'.b, 0, none⟩), .bool mv, .int .i64 (lo : Nat), .int .i64 (hi : Nat), .int .i64 (fr : Nat), .int .i64 (to : Nat), .slice none 0 0])] :: [(g.b, row 96 g.cells)] :: [(g.ba, mobj g.ea g.ca)] :: [(g.br, mobj g.er g.cr)] :: g.qc :: g.lc :: (g.ts.flatMap Tg.chunks ++ N)))) mixed (by kernel_rfl) rfl K.cl ?_;refine dy rfl (y_move rfl) (fun _ h => h) ?_;refine dy rfl (y_nilP rfl) (fun _ h => h) ?_;refine dy rfl (y_fieldAddrB tab 1 rfl rfl rfl rfl rfl) (fun _ h => h) ?_;refine dy rfl (y_loadA tab rfl rfl rfl rfl hwc) (fun _ h => h) ?_;refine dy rfl (y_fieldAddrB tab 1 rfl rfl rfl rfl rfl) (fun _ h => h) ?_;refine dy rfl (y_fieldAddr tab 1 rfl rfl rfl rfl rfl) (fun _ h => h) ?_;refine dy rfl (y_load tab rfl rfl (cell_row 1 rfl rfl)) (fun _ h => h) ?_;refine dy rfl (y_fieldAddrB tab 1 rfl rfl rfl rfl rfl) (fun _ h => h) ?_;refine dy rfl (y_fieldAddr tab 2 rfl rfl rfl rfl rfl) (fun _ h => h) ?_;refine dy rfl (y_load tab rfl rfl (cell_row 1 rfl rfl)) (fun _ h => h) ?_;refine d_call rfl (en_f rfl call60) (mruns_spec (most := 4096) (R := [(b3, row 149 [.pointer (some ⟨t'.b, 0, none⟩), .bool mv, .int .i64 (lo : Nat), .int .i64 (hi : Nat), .int .i64 (fr : Nat), .int .i64 (to : Nat), .slice none 0 0])] :: [(g.b, row 96 g.cells)] :: [(g.ba, mobj g.ea g.ca)] :: [(g.br, mobj g.er g.cr)] :: g.qc :: g.lc :: (g.ts.flatMap Tg.chunks ++ N)) hB.mW h1 h2 hnb hnb) rfl rfl rfl (fun _ => K.cl) (fun _ _ _ h => h.tail) (fun y => ?_);obtain ⟨⟨rv, rc⟩, hR⟩ := y;dsimp only at hR ⊢;have hR2 := bufR_runs hR;have hrl : (rnl (rns g.W lo hi)).length < 1000000 := by
    rw [List.length_map];have := rns_le (f := g.W) h1 h2;omega
  refine dy rfl (y_move rfl) (fun _ h => h.tail) ?_;refine dy rfl (y_extract rfl rfl) (fun _ h => h.tail) ?_;refine dy rfl (y_extract rfl rfl) (fun _ h => h.tail) ?_;refine dy rfl (y_assign rfl) (fun _ h => h.tail) ?_;refine dy rfl (y_assign rfl) (fun _ h => h.tail) ?_;refine d_nil (f_then (c_seq (csr (sm ?_))));refine sy (y_F (y_neq rfl rfl) (by omega)) ?_;refine snf (c_condF rfl (c_skip (f_then (csr (sm ?_)))));refine sk call59 (cloneR (hR2.view (Hs.at 0 rfl)) (rnl_ones _) hrl) fun y => ?_;obtain ⟨⟨v2, c2⟩, hR3⟩ := y;dsimp only at hR3 ⊢;refine sf 1 ?_;refine sy (y_fieldAddr tab 5 rfl rfl rfl rfl rfl) ?_;refine ss (set_row tab 3 rfl rfl hR3.one rfl rfl (Nat.lt_of_sub_eq_succ rfl)) ?_;refine snf (c_seq ?_);obtain ⟨g1, hg1⟩ : ∃ g1 : Bg, g1 = g.setW (c2 ++ g.p) g.wv g.W := ⟨_, rfl⟩;have hS1 : Sub g.p (c2 ++ g.p) := .app ..;have hB1 : g1.OK := by rw [hg1]; exact hB.setW hS1 (hB.mW.sub hS1)
  have hti1 : g1.ts[k - 1]? = some t' := by rw [hg1]; exact hti
  refine SC.cls (C' := K W ([(b3, row 149 [.pointer (some ⟨t'.b, 0, none⟩), .bool mv, .int .i64 (lo : Nat), .int .i64 (hi : Nat), .int .i64 (fr : Nat), .int .i64 (to : Nat), v2])] :: [(t'.b, row 113 t'.cells)] :: t'.lc :: t'.oc :: (g1.fixed ++ (g1.rest k ++ (rc :: N))))) ?_ (fun w h => by
    have h1 : K W ([(b3, row 149 [.pointer (some ⟨t'.b, 0, none⟩), .bool mv, .int .i64 (lo : Nat), .int .i64 (hi : Nat), .int .i64 (fr : Nat), .int .i64 (to : Nat), v2])] :: rc :: c2 :: g.p :: [(g.b, row 96 g.cells)] :: [(g.ba, mobj g.ea g.ca)] :: [(g.br, mobj g.er g.cr)] :: g.qc :: g.lc :: (g.ts.flatMap Tg.chunks ++ N)) w := (h.front 1).front 3;have h2 := (K.bckN (A := [[(b3, row 149 [.pointer (some ⟨t'.b, 0, none⟩), .bool mv, .int .i64 (lo : Nat), .int .i64 (hi : Nat), .int .i64 (fr : Nat), .int .i64 (to : Nat), v2])], rc]) (B := c2 :: g.p :: [(g.b, row 96 g.cells)] :: [(g.ba, mobj g.ea g.ca)] :: [(g.br, mobj g.er g.cr)] :: g.qc :: g.lc :: (g.ts.flatMap Tg.chunks)) h1).join;have h3 : K W (g1.L ++ ([(b3, row 149 [.pointer (some ⟨t'.b, 0, none⟩), .bool mv, .int .i64 (lo : Nat), .int .i64 (hi : Nat), .int .i64 (fr : Nat), .int .i64 (to : Nat), v2])] :: rc :: N)) w := by rw [hg1]; exact h2
    have h4 := K.foc hti1 h3;exact K.bckN (A := t'.chunks ++ (g1.fixed ++ g1.rest k)) (B := [[(b3, row 149 [.pointer (some ⟨t'.b, 0, none⟩), .bool mv, .int .i64 (lo : Nat), .int .i64 (hi : Nat), .int .i64 (fr : Nat), .int .i64 (to : Nat), v2])]]) (N := rc :: N) (by simpa using h4))
  have hop : CellsAre (K W [[(b3, row 149 [.pointer (some ⟨t'.b, 0, none⟩), .bool mv, .int .i64 (lo : Nat), .int .i64 (hi : Nat), .int .i64 (fr : Nat), .int .i64 (to : Nat), v2])], [(t'.b, row 113 t'.cells)]]) ⟨b3, 1, none⟩ (opc ⟨mv, lo, hi, fr, to, rns g.W lo hi⟩ v2) := op_cells _ _ 0 rfl;refine c_plan [.c 0, .c 1, .c 2, .c 3, .c 4, .c 5, .c 6, .c 7, .c 8, .s 9, .s 10, .c 11, .c 12, .s 13] [13] ((K W [[(b3, row 149 [.pointer (some ⟨t'.b, 0, none⟩), .bool mv, .int .i64 (lo : Nat), .int .i64 (hi : Nat), .int .i64 (fr : Nat), .int .i64 (to : Nat), v2])], [(t'.b, row 113 t'.cells)]])) mixed (by kernel_rfl) rfl K.cl ?_;refine dy rfl (y_fieldAddr0 tab rfl rfl rfl rfl rfl) (fun w h => h.keep 2) ?_;refine dy rfl (y_load tab rfl rfl (cell_row 0 rfl rfl)) (fun w h => h.keep 2) ?_;refine dy rfl (y_fieldAddr0 tab rfl rfl rfl rfl rfl) (fun w h => h.keep 2) ?_;refine dy rfl (y_load tab rfl rfl (cell_row 0 rfl rfl)) (fun w h => h.keep 2) ?_;refine dy rfl (y_nilP rfl) (fun w h => h.keep 2) ?_;refine dy rfl (y_fieldAddrB tab 7 rfl rfl rfl rfl rfl) (fun w h => h.keep 2) ?_;refine dy rfl (y_load tab rfl rfl (cell_row 1 rfl rfl)) (fun w h => h.keep 2) ?_;refine dy rfl (y_fieldAddrB tab 1 rfl rfl rfl rfl rfl) (fun w h => h.keep 2) ?_;refine dy rfl (y_loadA tab rfl rfl rfl rfl hop) (fun w h => h.keep 2) ?_;refine d_s rfl (do_buildSliceS tab ⟨rfl, rfl, rfl, rfl⟩ rfl rfl rfl rfl) rfl rfl rfl (fun _ => K.cl) (fun _ _ _ h => h.tail.keep 2) (fun b38 => ?_);have hal : allCells [Value.agg (opc ⟨mv, lo, hi, fr, to, rns g.W lo hi⟩ v2).toArray] = opc ⟨mv, lo, hi, fr, to, rns g.W lo hi⟩ v2 := by simp [allCells, cellsL]
  refine d_s rfl (do_appendR (by_ := 64) (news := opc ⟨mv, lo, hi, fr, to, rns g.W lo hi⟩ v2) tab 4 rfl hOt.o rfl ⟨rfl, rfl, rfl, rfl⟩ rfl (by simp) rfl (cells_row0 0 rfl hal) rfl (opc_one hR3.one) (by rw [List.length_map]; omega) (by omega)) rfl rfl rfl (fun _ => K.cl) (fun _ _ _ h => h.tail.keep 2) (fun y => ?_);obtain ⟨⟨ov', oc'⟩, hl'⟩ := y;dsimp only at hl' ⊢;refine dy rfl (y_nilP rfl) (fun w h => h.tail.keep 2) ?_;refine dy rfl (y_fieldAddrB tab 7 rfl rfl rfl rfl rfl) (fun w h => h.tail.keep 2) ?_;refine d_set rfl (set_row tab 2 rfl rfl hl'.one rfl rfl (Nat.lt_of_sub_eq_succ rfl)) rfl rfl K.cl (fun h => by cases h) ?_;refine d_nil (f_then (csr (sm ?_)));refine sa ?_;refine sa ?_;refine snf (c_ret ?_);obtain ⟨t1, ht1⟩ : ∃ t1 : Tg, t1 = { t' with os := t'.os ++ [(⟨mv, lo, hi, fr, to, rns g.W lo hi⟩, v2)], ov := ov', oc := oc' } := ⟨_, rfl⟩;have h1b : t1.b = t'.b := by rw [ht1]
  refine f_ret ⟨(g1.setT k t1, rv, rc), hB1.setT hti1 h1b (by rw [ht1]) ?_, ?_, ?_, hR2⟩ (res2 rfl rfl rfl) (fun w h => ?_)
  · rw [ht1];refine ⟨hOt.l, hl'.of (by simp [opl]), (hB1.ok t' (List.mem_of_getElem? hti1)).r.snoc ?_⟩;rw [hg1];exact hR3.pool g.p
  · rw [setT_bk, ht1, hg1, Bk.done, htx];simp [Tg.tx, Bg.setW, Bg.bk]
  · exact Bg.Anc.trans (by rw [hg1]; exact ⟨rfl, rfl, rfl⟩) (setT_anc hti1 h1b)
  · dsimp only;have h3 : K W (t1.chunks ++ (g1.fixed ++ (g1.rest k ++ (rc :: N)))) w := by rw [ht1]; exact h.tail.tail
    exact K.bckN (A := (g1.setT k t1).L) (B := [rc]) (K.unfoc hti1 h3)
def Bk.Mvd (A : Bk) (k : Nat) (o : Oa) (B : Bk) (e : Nat) : Prop := (¬ A.allT o.lo o.hi o.fr ∧ B = A ∧ e = 6) ∨ (A.allT o.lo o.hi o.fr ∧ A.room = 0 ∧ B = A ∧ e = 5) ∨ (A.allT o.lo o.hi o.fr ∧ A.room ≠ 0 ∧ B = ({ A with W := setf A.W o.lo o.hi o.to }).done k o ∧ e = 0)
theorem move_b {g : Bg} {W : World} {N : List Chunk} {k lo hi fr to : Nat} {mv : Bool} {t : Tg} (hB : g.OK) (hk : g.has k) (hti : g.ts[k - 1]? = some t) (h1 : lo ≤ hi) (h2 : hi ≤ g.size) (h3 : fr < 16) (h4 : to < 16) (hr : nbd g.C g.size + 2 * g.bk.moves ≤ 4096) (hnb : g.bk.room ≠ 0 → nbd (setf g.W lo hi to) g.size ≤ 4096) (hol : ∀ t ∈ g.ts, t.os.length < 1000000) :
    Spec prog 108 #[.pointer (some ⟨g.b, 0, none⟩), .agg #[g.ptr k, .bool mv, .int .i64 (lo : Nat), .int .i64 (hi : Nat), .int .i64 (fr : Nat), .int .i64 (to : Nat), .slice none 0 0]] (K W (g.L ++ N))
      (X := { x : Bg × Nat // x.1.OK ∧ g.bk.Mvd k ⟨mv, lo, hi, fr, to, []⟩ x.1.bk x.2 ∧ g.Anc x.1 }) (fun x => .tuple #[.slice none 0 0, .int .i64 (x.1.2 : Nat)]) (fun x => K W (x.1.1.L ++ N)) := by
  have htm : t ∈ g.ts := List.mem_of_getElem? hti;obtain ⟨t', _, hti', hid, hpb, htx⟩ := hB.at hk;obtain rfl : t' = t := by rw [hti] at hti'; exact (Option.some.inj hti').symm
  clear hti';have ep : g.ptr k = .pointer (some ⟨t'.b, 0, none⟩) := by rw [Bg.ptr, hpb]
  have hOt := hB.ok t' htm;have hot := hol t' htm;have hsz := hB.mW.pos;rw [ep];refine enter (args := [_, _]) func108 rfl ntmps108 rfl ?_;refine csr (sbx fun b3 => ?_);refine sa ?_;refine sa ?_;refine snf (c_seq (c_seq (SC.cls (C' := K W (g.p :: [(b3, row 149 [.pointer (some ⟨t'.b, 0, none⟩), .bool mv, .int .i64 (lo : Nat), .int .i64 (hi : Nat), .int .i64 (fr : Nat), .int .i64 (to : Nat), .slice none 0 0])] :: [(g.b, row 96 g.cells)] :: [(g.ba, mobj g.ea g.ca)] :: [(g.br, mobj g.er g.cr)] :: g.qc :: g.lc :: (g.ts.flatMap Tg.chunks ++ N))) ?_ (fun w h => K.front 1 h))));have hwc : CellsAre (K W (g.p :: [(b3, row 149 [.pointer (some ⟨t'.b, 0, none⟩), .bool mv, .int .i64 (lo : Nat), .int .i64 (hi : Nat), .int .i64 (fr : Nat), .int .i64 (to : Nat), .slice none 0 0])] :: [(g.b, row 96 g.cells)] :: [(g.ba, mobj g.ea g.ca)] :: [(g.br, mobj g.er g.cr)] :: g.qc :: g.lc :: (g.ts.flatMap Tg.chunks ++ N))) ⟨g.b, 1, none⟩ [g.wv] := CellsAre.one (cell_row 2 rfl rfl);refine c_plan [.c 0, .c 1, .c 2, .c 3, .c 4, .c 5, .c 6, .c 7, .c 8, .c 9, .c 10, .c 11, .c 12, .s 13, .c 14, .c 15, .c 16, .c 17, .c 18] [] ((K W (g.p :: [(b3, row 149 [.pointer (some ⟨t'.b, 0, none⟩), .bool mv, .int .i64 (lo : Nat), .int .i64 (hi : Nat), .int .i64 (fr : Nat), .int .i64 (to : Nat), .slice none 0 0])] :: [(g.b, row 96 g.cells)] :: [(g.ba, mobj g.ea g.ca)] :: [(g.br, mobj g.er g.cr)] :: g.qc :: g.lc :: (g.ts.flatMap Tg.chunks ++ N)))) mixed (by kernel_rfl) rfl K.cl ?_;refine dy rfl (y_move rfl) (fun _ h => h) ?_;refine dy rfl (y_nilP rfl) (fun _ h => h) ?_;refine dy rfl (y_fieldAddrB tab 1 rfl rfl rfl rfl rfl) (fun _ h => h) ?_;refine dy rfl (y_loadA tab rfl rfl rfl rfl hwc) (fun _ h => h) ?_;refine dy rfl (y_fieldAddrB tab 1 rfl rfl rfl rfl rfl) (fun _ h => h) ?_;refine dy rfl (y_fieldAddr tab 1 rfl rfl rfl rfl rfl) (fun _ h => h) ?_;refine dy rfl (y_load tab rfl rfl (cell_row 1 rfl rfl)) (fun _ h => h) ?_;refine dy rfl (y_fieldAddrB tab 1 rfl rfl rfl rfl rfl) (fun _ h => h) ?_;refine dy rfl (y_fieldAddr tab 2 rfl rfl rfl rfl rfl) (fun _ h => h) ?_;refine dy rfl (y_load tab rfl rfl (cell_row 1 rfl rfl)) (fun _ h => h) ?_;refine dy rfl (y_fieldAddrB tab 1 rfl rfl rfl rfl rfl) (fun _ h => h) ?_;refine dy rfl (y_fieldAddr tab 3 rfl rfl rfl rfl rfl) (fun _ h => h) ?_;refine dy rfl (y_load tab rfl rfl (cell_row 1 rfl rfl)) (fun _ h => h) ?_;refine d_call rfl (en_f rfl call121) (mcount_spec (R := [(b3, row 149 [.pointer (some ⟨t'.b, 0, none⟩), .bool mv, .int .i64 (lo : Nat), .int .i64 (hi : Nat), .int .i64 (fr : Nat), .int .i64 (to : Nat), .slice none 0 0])] :: [(g.b, row 96 g.cells)] :: [(g.ba, mobj g.ea g.ca)] :: [(g.br, mobj g.er g.cr)] :: g.qc :: g.lc :: (g.ts.flatMap Tg.chunks ++ N)) hB.mW h1 h2 h3) rfl rfl rfl (fun _ => K.cl) (fun _ _ _ h => h) (fun _ => ?_);have hcr := cntf_range g.W fr h1;by_cases ca : g.bk.allT lo hi fr
  · rw [hcr.2 ca];refine dy rfl (y_move rfl) (fun _ h => h) ?_;refine dy rfl (y_extract rfl rfl) (fun _ h => h) ?_;refine dy rfl (y_extract rfl rfl) (fun _ h => h) ?_;refine dy rfl (y_assign rfl) (fun _ h => h) ?_;refine dy rfl (y_assign rfl) (fun _ h => h) ?_;refine d_nil (f_then (csr (sm ?_)));refine sf 1 ?_;refine sy (y_fieldAddr tab 2 rfl rfl rfl rfl rfl) ?_;refine slr 1 ?_;refine sf 1 ?_;refine sy (y_fieldAddr tab 1 rfl rfl rfl rfl rfl) ?_;refine slr 1 ?_;refine sy (y_sub rfl rfl (by omega)) ?_;refine sy (y_F (y_neq rfl rfl) (by omega)) ?_;refine snf (c_condF rfl (c_skip (f_then (c_seq (csr (sm ?_))))));refine St.cls (C' := K W (g.L ++ ([(b3, row 149 [.pointer (some ⟨t'.b, 0, none⟩), .bool mv, .int .i64 (lo : Nat), .int .i64 (hi : Nat), .int .i64 (fr : Nat), .int .i64 (to : Nat), .slice none 0 0])] :: N))) ?_ (fun w h => by
      have h2 : K W ([(b3, row 149 [.pointer (some ⟨t'.b, 0, none⟩), .bool mv, .int .i64 (lo : Nat), .int .i64 (hi : Nat), .int .i64 (fr : Nat), .int .i64 (to : Nat), .slice none 0 0])] :: g.p :: [(g.b, row 96 g.cells)] :: [(g.ba, mobj g.ea g.ca)] :: [(g.br, mobj g.er g.cr)] :: g.qc :: g.lc :: (g.ts.flatMap Tg.chunks ++ N)) w := K.front 1 h;exact K.bckN (A := [[(b3, row 149 [.pointer (some ⟨t'.b, 0, none⟩), .bool mv, .int .i64 (lo : Nat), .int .i64 (hi : Nat), .int .i64 (fr : Nat), .int .i64 (to : Nat), .slice none 0 0])]]) (B := g.p :: [(g.b, row 96 g.cells)] :: [(g.ba, mobj g.ea g.ca)] :: [(g.br, mobj g.er g.cr)] :: g.qc :: g.lc :: (g.ts.flatMap Tg.chunks)) h2)
    have hrm := room_b (W := W) (N := [(b3, row 149 [.pointer (some ⟨t'.b, 0, none⟩), .bool mv, .int .i64 (lo : Nat), .int .i64 (hi : Nat), .int .i64 (fr : Nat), .int .i64 (to : Nat), .slice none 0 0])] :: N) hB hol hr;skip;refine sk call17 hrm fun _ => ?_;by_cases c0 : g.bk.room = 0
    · rw [c0];refine sy (y_T (y_eql rfl rfl) (by omega)) ?_;refine snf (c_condT rfl (csr (sa ?_)));refine sa ?_;refine snf (c_ret (f_thenR ?_));exact f_ret ⟨(g, 5), hB, .inr (.inl ⟨ca, c0, rfl, rfl⟩), .refl _⟩ (res2 rfl rfl rfl) (fun w h => (K.bckN (A := g.L) (B := [[(b3, row 149 [.pointer (some ⟨t'.b, 0, none⟩), .bool mv, .int .i64 (lo : Nat), .int .i64 (hi : Nat), .int .i64 (fr : Nat), .int .i64 (to : Nat), .slice none 0 0])]]) h).tail)
    · refine sy (y_F (y_eql rfl rfl) (by omega)) ?_;refine snf (c_condF rfl (c_skip (f_then (c_seq ?_))));refine SC.cls (C' := K W (g.p :: [(b3, row 149 [.pointer (some ⟨t'.b, 0, none⟩), .bool mv, .int .i64 (lo : Nat), .int .i64 (hi : Nat), .int .i64 (fr : Nat), .int .i64 (to : Nat), .slice none 0 0])] :: [(g.b, row 96 g.cells)] :: [(g.ba, mobj g.ea g.ca)] :: [(g.br, mobj g.er g.cr)] :: g.qc :: g.lc :: (g.ts.flatMap Tg.chunks ++ N))) ?_ (fun w h => by
        have h2 : K W ([(b3, row 149 [.pointer (some ⟨t'.b, 0, none⟩), .bool mv, .int .i64 (lo : Nat), .int .i64 (hi : Nat), .int .i64 (fr : Nat), .int .i64 (to : Nat), .slice none 0 0])] :: g.p :: [(g.b, row 96 g.cells)] :: [(g.ba, mobj g.ea g.ca)] :: [(g.br, mobj g.er g.cr)] :: g.qc :: g.lc :: (g.ts.flatMap Tg.chunks ++ N)) w := K.bckN (A := g.L) (B := [[(b3, row 149 [.pointer (some ⟨t'.b, 0, none⟩), .bool mv, .int .i64 (lo : Nat), .int .i64 (hi : Nat), .int .i64 (fr : Nat), .int .i64 (to : Nat), .slice none 0 0])]]) h;exact h2.front 1)
      have hwc2 : CellsAre (K W ([(b3, row 149 [.pointer (some ⟨t'.b, 0, none⟩), .bool mv, .int .i64 (lo : Nat), .int .i64 (hi : Nat), .int .i64 (fr : Nat), .int .i64 (to : Nat), .slice none 0 0])] :: [(g.b, row 96 g.cells)] :: [(g.ba, mobj g.ea g.ca)] :: [(g.br, mobj g.er g.cr)] :: g.qc :: g.lc :: (g.ts.flatMap Tg.chunks ++ N))) ⟨g.b, 1, none⟩ [g.wv] := CellsAre.one (cell_row 1 rfl rfl);refine c_planW 13 17 [0, 1, 2, 3, 4, 5, 6, 7, 8, 9, 10, 11, 12] [.c 14, .c 15, .c 16, .s 17, .s 18, .c 19] [.s 13, .c 14, .c 15, .c 16, .s 18, .c 19] (K W ([(b3, row 149 [.pointer (some ⟨t'.b, 0, none⟩), .bool mv, .int .i64 (lo : Nat), .int .i64 (hi : Nat), .int .i64 (fr : Nat), .int .i64 (to : Nat), .slice none 0 0])] :: [(g.b, row 96 g.cells)] :: [(g.ba, mobj g.ea g.ca)] :: [(g.br, mobj g.er g.cr)] :: g.qc :: g.lc :: (g.ts.flatMap Tg.chunks ++ N))) mixed (by kernel_rfl) rfl K.cl ?_;refine w_c rfl (Qui.ylds (y_move rfl)) rfl rfl rfl (fun _ h => h.tail) K.cl ?_;refine w_c rfl (Qui.ylds (y_nilP rfl)) rfl rfl rfl (fun _ h => h.tail) K.cl ?_;refine w_c rfl (Qui.ylds (y_fieldAddrB tab 1 rfl rfl rfl rfl rfl)) rfl rfl rfl (fun _ h => h.tail) K.cl ?_;refine w_c rfl (Qui.ylds (y_loadA tab rfl rfl rfl rfl hwc2)) rfl rfl rfl (fun _ h => h.tail) K.cl ?_;refine w_c rfl (Qui.ylds (y_fieldAddrB tab 1 rfl rfl rfl rfl rfl)) rfl rfl rfl (fun _ h => h.tail) K.cl ?_;refine w_c rfl (Qui.ylds (y_fieldAddr tab 1 rfl rfl rfl rfl rfl)) rfl rfl rfl (fun _ h => h.tail) K.cl ?_;refine w_c rfl (Qui.ylds (y_load tab rfl rfl (cell_row 0 rfl rfl))) rfl rfl rfl (fun _ h => h.tail) K.cl ?_;refine w_c rfl (Qui.ylds (y_fieldAddrB tab 1 rfl rfl rfl rfl rfl)) rfl rfl rfl (fun _ h => h.tail) K.cl ?_;refine w_c rfl (Qui.ylds (y_fieldAddr tab 2 rfl rfl rfl rfl rfl)) rfl rfl rfl (fun _ h => h.tail) K.cl ?_;refine w_c rfl (Qui.ylds (y_load tab rfl rfl (cell_row 0 rfl rfl))) rfl rfl rfl (fun _ h => h.tail) K.cl ?_;refine w_c rfl (Qui.ylds (y_fieldAddrB tab 1 rfl rfl rfl rfl rfl)) rfl rfl rfl (fun _ h => h.tail) K.cl ?_;refine w_c rfl (Qui.ylds (y_fieldAddr tab 4 rfl rfl rfl rfl rfl)) rfl rfl rfl (fun _ h => h.tail) K.cl ?_;refine w_c rfl (Qui.ylds (y_load tab rfl rfl (cell_row 0 rfl rfl))) rfl rfl rfl (fun _ h => h.tail) K.cl ?_;refine w_br rfl rfl rfl (en_f rfl call65) (mset_spec (R := [(b3, row 149 [.pointer (some ⟨t'.b, 0, none⟩), .bool mv, .int .i64 (lo : Nat), .int .i64 (hi : Nat), .int .i64 (fr : Nat), .int .i64 (to : Nat), .slice none 0 0])] :: [(g.b, row 96 g.cells)] :: [(g.ba, mobj g.ea g.ca)] :: [(g.br, mobj g.er g.cr)] :: g.qc :: g.lc :: (g.ts.flatMap Tg.chunks ++ N)) hB.mW h1 h2 h4 (hnb c0)) rfl rfl rfl rfl rfl rfl (do_alloc tab rfl) (fun _ => K.cl) (fun _ => K.cl) (fun _ _ _ h => h.tail) (fun _ _ _ h => h.tail.tail) (fun y => ?_) (fun b8 => ?_)
      · obtain ⟨⟨p', wv'⟩, hS', hM'⟩ := y;dsimp only at hS' hM' ⊢;obtain ⟨a, rfl⟩ := hM'.ptr;refine dy rfl (y_move rfl) (fun _ h => h.tail) ?_;refine dy rfl (y_extract rfl rfl) (fun _ h => h.tail) ?_;refine dy rfl (y_extract rfl rfl) (fun _ h => h.tail) ?_;refine d_s rfl (do_alloc tab rfl) rfl rfl rfl (fun _ => K.cl) (fun _ _ _ h => h.tail.tail) (fun b8 => ?_);refine d_set rfl (set_aggB tab 0 rfl rfl rfl rfl rfl rfl rfl) rfl rfl K.cl (fun _ _ h => h.tail.tail) ?_;refine dy rfl (y_assign rfl) (fun _ h => h.tail.tail) ?_;refine d_nil (f_then (c_seq (csr (sm ?_))));refine sy (y_F (y_neq rfl rfl) (by omega)) ?_;refine snf (c_condF rfl (c_skip (f_then (csr (sm ?_)))));refine sy (y_loadA tab rfl rfl rfl rfl (cells_row0 0 rfl rfl)) ?_;refine sn ?_;refine sf 1 ?_;refine ss (set_aggB tab 3 rfl rfl rfl rfl rfl rfl rfl) ?_;refine snf (c_seq ?_);obtain ⟨g1, hg1⟩ : ∃ g1 : Bg, g1 = g.setW p' (.pointer (some a)) (setf g.W lo hi to) := ⟨_, rfl⟩;have hB1 : g1.OK := by rw [hg1]; exact hB.setW hS' hM'
        have hti1 : g1.ts[k - 1]? = some t' := by rw [hg1]; exact hti
        refine SC.cls (C' := K W ([(b3, row 149 [.pointer (some ⟨t'.b, 0, none⟩), .bool mv, .int .i64 (lo : Nat), .int .i64 (hi : Nat), .int .i64 (fr : Nat), .int .i64 (to : Nat), .slice none 0 0])] :: [(t'.b, row 113 t'.cells)] :: t'.lc :: t'.oc :: (g1.fixed ++ (g1.rest k ++ N)))) ?_ (fun w h => by
          have h1 : K W (p' :: [(b3, row 149 [.pointer (some ⟨t'.b, 0, none⟩), .bool mv, .int .i64 (lo : Nat), .int .i64 (hi : Nat), .int .i64 (fr : Nat), .int .i64 (to : Nat), .slice none 0 0])] :: [(g.b, row 96 [g.cv, .pointer (some a), .map (some g.ba), .map (some g.br), g.qv, g.lv])] :: [(g.ba, mobj g.ea g.ca)] :: [(g.br, mobj g.er g.cr)] :: g.qc :: g.lc :: (g.ts.flatMap Tg.chunks ++ N)) w := K.tail (c := [(b8, row 29 [.pointer (some a)])]) h;have h2 : K W ([(b3, row 149 [.pointer (some ⟨t'.b, 0, none⟩), .bool mv, .int .i64 (lo : Nat), .int .i64 (hi : Nat), .int .i64 (fr : Nat), .int .i64 (to : Nat), .slice none 0 0])] :: p' :: [(g.b, row 96 [g.cv, .pointer (some a), .map (some g.ba), .map (some g.br), g.qv, g.lv])] :: [(g.ba, mobj g.ea g.ca)] :: [(g.br, mobj g.er g.cr)] :: g.qc :: g.lc :: (g.ts.flatMap Tg.chunks ++ N)) w := h1.front 1;have h3 : K W (g1.L ++ ([(b3, row 149 [.pointer (some ⟨t'.b, 0, none⟩), .bool mv, .int .i64 (lo : Nat), .int .i64 (hi : Nat), .int .i64 (fr : Nat), .int .i64 (to : Nat), .slice none 0 0])] :: N)) w := by rw [hg1]; exact K.bckN (A := [[(b3, row 149 [.pointer (some ⟨t'.b, 0, none⟩), .bool mv, .int .i64 (lo : Nat), .int .i64 (hi : Nat), .int .i64 (fr : Nat), .int .i64 (to : Nat), .slice none 0 0])]]) (B := p' :: [(g.b, row 96 [g.cv, .pointer (some a), .map (some g.ba), .map (some g.br), g.qv, g.lv])] :: [(g.ba, mobj g.ea g.ca)] :: [(g.br, mobj g.er g.cr)] :: g.qc :: g.lc :: (g.ts.flatMap Tg.chunks)) h2
          have h4 := K.foc hti1 h3;exact K.bckN (A := t'.chunks ++ (g1.fixed ++ g1.rest k)) (B := [[(b3, row 149 [.pointer (some ⟨t'.b, 0, none⟩), .bool mv, .int .i64 (lo : Nat), .int .i64 (hi : Nat), .int .i64 (fr : Nat), .int .i64 (to : Nat), .slice none 0 0])]]) (N := N) (by simpa using h4))
        have hop : CellsAre (K W [[(b3, row 149 [.pointer (some ⟨t'.b, 0, none⟩), .bool mv, .int .i64 (lo : Nat), .int .i64 (hi : Nat), .int .i64 (fr : Nat), .int .i64 (to : Nat), .slice none 0 0])], [(t'.b, row 113 t'.cells)]]) ⟨b3, 1, none⟩ (opc ⟨mv, lo, hi, fr, to, []⟩ (.slice none 0 0)) := op_cells _ _ 0 rfl;refine c_plan [.c 0, .c 1, .c 2, .c 3, .c 4, .c 5, .c 6, .c 7, .c 8, .s 9, .s 10, .c 11, .c 12, .s 13] [13] ((K W [[(b3, row 149 [.pointer (some ⟨t'.b, 0, none⟩), .bool mv, .int .i64 (lo : Nat), .int .i64 (hi : Nat), .int .i64 (fr : Nat), .int .i64 (to : Nat), .slice none 0 0])], [(t'.b, row 113 t'.cells)]])) mixed (by kernel_rfl) rfl K.cl ?_;refine dy rfl (y_fieldAddr0 tab rfl rfl rfl rfl rfl) (fun w h => h.keep 2) ?_;refine dy rfl (y_load tab rfl rfl (cell_row 0 rfl rfl)) (fun w h => h.keep 2) ?_;refine dy rfl (y_fieldAddr0 tab rfl rfl rfl rfl rfl) (fun w h => h.keep 2) ?_;refine dy rfl (y_load tab rfl rfl (cell_row 0 rfl rfl)) (fun w h => h.keep 2) ?_;refine dy rfl (y_nilP rfl) (fun w h => h.keep 2) ?_;refine dy rfl (y_fieldAddrB tab 7 rfl rfl rfl rfl rfl) (fun w h => h.keep 2) ?_;refine dy rfl (y_load tab rfl rfl (cell_row 1 rfl rfl)) (fun w h => h.keep 2) ?_;refine dy rfl (y_fieldAddrB tab 1 rfl rfl rfl rfl rfl) (fun w h => h.keep 2) ?_;refine dy rfl (y_loadA tab rfl rfl rfl rfl hop) (fun w h => h.keep 2) ?_;refine d_s rfl (do_buildSliceS tab ⟨rfl, rfl, rfl, rfl⟩ rfl rfl rfl rfl) rfl rfl rfl (fun _ => K.cl) (fun _ _ _ h => h.tail.keep 2) (fun b72 => ?_);have hal : allCells [Value.agg (opc ⟨mv, lo, hi, fr, to, []⟩ (.slice none 0 0)).toArray] = opc ⟨mv, lo, hi, fr, to, []⟩ (.slice none 0 0) := by simp [allCells, cellsL]
        refine d_s rfl (do_appendR (by_ := 64) (news := opc ⟨mv, lo, hi, fr, to, []⟩ (.slice none 0 0)) tab 4 rfl hOt.o rfl ⟨rfl, rfl, rfl, rfl⟩ rfl (by simp) rfl (cells_row0 0 rfl hal) rfl (opc_one rfl) (by rw [List.length_map]; omega) (by omega)) rfl rfl rfl (fun _ => K.cl) (fun _ _ _ h => h.tail.keep 2) (fun y => ?_);obtain ⟨⟨ov', oc'⟩, hl'⟩ := y;dsimp only at hl' ⊢;refine dy rfl (y_nilP rfl) (fun w h => h.tail.keep 2) ?_;refine dy rfl (y_fieldAddrB tab 7 rfl rfl rfl rfl rfl) (fun w h => h.tail.keep 2) ?_;refine d_set rfl (set_row tab 2 rfl rfl hl'.one rfl rfl (Nat.lt_of_sub_eq_succ rfl)) rfl rfl K.cl (fun h => by cases h) ?_;refine d_nil (f_then (csr (sa ?_)));refine sa ?_;refine snf (c_ret ?_);obtain ⟨t1, ht1⟩ : ∃ t1 : Tg, t1 = { t' with os := t'.os ++ [(⟨mv, lo, hi, fr, to, []⟩, .slice none 0 0)], ov := ov', oc := oc' } := ⟨_, rfl⟩;have h1b : t1.b = t'.b := by rw [ht1]
        refine f_ret ⟨(g1.setT k t1, 0), hB1.setT hti1 h1b (by rw [ht1]) ?_, .inr (.inr ⟨ca, c0, ?_, rfl⟩), ?_⟩ (res2 rfl rfl rfl) (fun w h => ?_)
        · rw [ht1];exact ⟨hOt.l, hl'.of (by simp [opl]), (hB1.ok t' (List.mem_of_getElem? hti1)).r.snoc PE.empty⟩
        · rw [setT_bk, ht1, hg1, Bk.done];show _ = Bk.setT _ k { (g.bk.tx k) with ops := _ };rw [show (Bk.tx { g.bk with W := setf g.bk.W lo hi to } k) = g.bk.tx k from rfl, htx];simp [Tg.tx, Bg.setW, Bg.bk]
        · exact Bg.Anc.trans (by rw [hg1]; exact ⟨rfl, rfl, rfl⟩) (setT_anc hti1 h1b)
        · dsimp only;have h3 : K W (t1.chunks ++ (g1.fixed ++ (g1.rest k ++ N))) w := by rw [ht1]; exact h.tail.tail
          exact K.unfoc hti1 h3
      · refine Sd.cls (C' := K W (g.p :: [(b8, row 29 [.pointer none])] :: [(b3, row 149 [.pointer (some ⟨t'.b, 0, none⟩), .bool mv, .int .i64 (lo : Nat), .int .i64 (hi : Nat), .int .i64 (fr : Nat), .int .i64 (to : Nat), .slice none 0 0])] :: [(g.b, row 96 g.cells)] :: [(g.ba, mobj g.ea g.ca)] :: [(g.br, mobj g.er g.cr)] :: g.qc :: g.lc :: (g.ts.flatMap Tg.chunks ++ N))) ?_ (fun w h => h.front 1);refine d_call rfl (en_f rfl call65) (mset_spec (R := [(b8, row 29 [.pointer none])] :: [(b3, row 149 [.pointer (some ⟨t'.b, 0, none⟩), .bool mv, .int .i64 (lo : Nat), .int .i64 (hi : Nat), .int .i64 (fr : Nat), .int .i64 (to : Nat), .slice none 0 0])] :: [(g.b, row 96 g.cells)] :: [(g.ba, mobj g.ea g.ca)] :: [(g.br, mobj g.er g.cr)] :: g.qc :: g.lc :: (g.ts.flatMap Tg.chunks ++ N)) hB.mW h1 h2 h4 (hnb c0)) rfl rfl rfl (fun _ => K.cl) (fun _ _ _ h => h.tail.tail) (fun y => ?_);obtain ⟨⟨p', wv'⟩, hS', hM'⟩ := y;dsimp only at hS' hM' ⊢;obtain ⟨a, rfl⟩ := hM'.ptr;refine Sd.cls (C' := K W ([(b8, row 29 [.pointer none])] :: p' :: [(b3, row 149 [.pointer (some ⟨t'.b, 0, none⟩), .bool mv, .int .i64 (lo : Nat), .int .i64 (hi : Nat), .int .i64 (fr : Nat), .int .i64 (to : Nat), .slice none 0 0])] :: [(g.b, row 96 g.cells)] :: [(g.ba, mobj g.ea g.ca)] :: [(g.br, mobj g.er g.cr)] :: g.qc :: g.lc :: (g.ts.flatMap Tg.chunks ++ N))) ?_ (fun w h => K.front 1 h);refine dy rfl (y_move rfl) (fun _ h => h.tail.tail) ?_;refine dy rfl (y_extract rfl rfl) (fun _ h => h.tail.tail) ?_;refine dy rfl (y_extract rfl rfl) (fun _ h => h.tail.tail) ?_;refine d_set rfl (set_aggB tab 0 rfl rfl rfl rfl rfl rfl rfl) rfl rfl K.cl (fun _ _ h => h.tail.tail) ?_;refine dy rfl (y_assign rfl) (fun _ h => h.tail.tail) ?_;refine d_nil (f_then (c_seq (csr (sm ?_))));refine sy (y_F (y_neq rfl rfl) (by omega)) ?_;refine snf (c_condF rfl (c_skip (f_then (csr (sm ?_)))));refine sy (y_loadA tab rfl rfl rfl rfl (cells_row0 0 rfl rfl)) ?_;refine sn ?_;refine sf 1 ?_;refine ss (set_aggB tab 3 rfl rfl rfl rfl rfl rfl rfl) ?_;refine snf (c_seq ?_);obtain ⟨g1, hg1⟩ : ∃ g1 : Bg, g1 = g.setW p' (.pointer (some a)) (setf g.W lo hi to) := ⟨_, rfl⟩;have hB1 : g1.OK := by rw [hg1]; exact hB.setW hS' hM'
        have hti1 : g1.ts[k - 1]? = some t' := by rw [hg1]; exact hti
        refine SC.cls (C' := K W ([(b3, row 149 [.pointer (some ⟨t'.b, 0, none⟩), .bool mv, .int .i64 (lo : Nat), .int .i64 (hi : Nat), .int .i64 (fr : Nat), .int .i64 (to : Nat), .slice none 0 0])] :: [(t'.b, row 113 t'.cells)] :: t'.lc :: t'.oc :: (g1.fixed ++ (g1.rest k ++ N)))) ?_ (fun w h => by
          have h1 : K W (p' :: [(b3, row 149 [.pointer (some ⟨t'.b, 0, none⟩), .bool mv, .int .i64 (lo : Nat), .int .i64 (hi : Nat), .int .i64 (fr : Nat), .int .i64 (to : Nat), .slice none 0 0])] :: [(g.b, row 96 [g.cv, .pointer (some a), .map (some g.ba), .map (some g.br), g.qv, g.lv])] :: [(g.ba, mobj g.ea g.ca)] :: [(g.br, mobj g.er g.cr)] :: g.qc :: g.lc :: (g.ts.flatMap Tg.chunks ++ N)) w := K.tail (c := [(b8, row 29 [.pointer (some a)])]) h;have h2 : K W ([(b3, row 149 [.pointer (some ⟨t'.b, 0, none⟩), .bool mv, .int .i64 (lo : Nat), .int .i64 (hi : Nat), .int .i64 (fr : Nat), .int .i64 (to : Nat), .slice none 0 0])] :: p' :: [(g.b, row 96 [g.cv, .pointer (some a), .map (some g.ba), .map (some g.br), g.qv, g.lv])] :: [(g.ba, mobj g.ea g.ca)] :: [(g.br, mobj g.er g.cr)] :: g.qc :: g.lc :: (g.ts.flatMap Tg.chunks ++ N)) w := h1.front 1;have h3 : K W (g1.L ++ ([(b3, row 149 [.pointer (some ⟨t'.b, 0, none⟩), .bool mv, .int .i64 (lo : Nat), .int .i64 (hi : Nat), .int .i64 (fr : Nat), .int .i64 (to : Nat), .slice none 0 0])] :: N)) w := by rw [hg1]; exact K.bckN (A := [[(b3, row 149 [.pointer (some ⟨t'.b, 0, none⟩), .bool mv, .int .i64 (lo : Nat), .int .i64 (hi : Nat), .int .i64 (fr : Nat), .int .i64 (to : Nat), .slice none 0 0])]]) (B := p' :: [(g.b, row 96 [g.cv, .pointer (some a), .map (some g.ba), .map (some g.br), g.qv, g.lv])] :: [(g.ba, mobj g.ea g.ca)] :: [(g.br, mobj g.er g.cr)] :: g.qc :: g.lc :: (g.ts.flatMap Tg.chunks)) h2
          have h4 := K.foc hti1 h3;exact K.bckN (A := t'.chunks ++ (g1.fixed ++ g1.rest k)) (B := [[(b3, row 149 [.pointer (some ⟨t'.b, 0, none⟩), .bool mv, .int .i64 (lo : Nat), .int .i64 (hi : Nat), .int .i64 (fr : Nat), .int .i64 (to : Nat), .slice none 0 0])]]) (N := N) (by simpa using h4))
        have hop : CellsAre (K W [[(b3, row 149 [.pointer (some ⟨t'.b, 0, none⟩), .bool mv, .int .i64 (lo : Nat), .int .i64 (hi : Nat), .int .i64 (fr : Nat), .int .i64 (to : Nat), .slice none 0 0])], [(t'.b, row 113 t'.cells)]]) ⟨b3, 1, none⟩ (opc ⟨mv, lo, hi, fr, to, []⟩ (.slice none 0 0)) := op_cells _ _ 0 rfl;refine c_plan [.c 0, .c 1, .c 2, .c 3, .c 4, .c 5, .c 6, .c 7, .c 8, .s 9, .s 10, .c 11, .c 12, .s 13] [13] ((K W [[(b3, row 149 [.pointer (some ⟨t'.b, 0, none⟩), .bool mv, .int .i64 (lo : Nat), .int .i64 (hi : Nat), .int .i64 (fr : Nat), .int .i64 (to : Nat), .slice none 0 0])], [(t'.b, row 113 t'.cells)]])) mixed (by kernel_rfl) rfl K.cl ?_;refine dy rfl (y_fieldAddr0 tab rfl rfl rfl rfl rfl) (fun w h => h.keep 2) ?_;refine dy rfl (y_load tab rfl rfl (cell_row 0 rfl rfl)) (fun w h => h.keep 2) ?_;refine dy rfl (y_fieldAddr0 tab rfl rfl rfl rfl rfl) (fun w h => h.keep 2) ?_;refine dy rfl (y_load tab rfl rfl (cell_row 0 rfl rfl)) (fun w h => h.keep 2) ?_;refine dy rfl (y_nilP rfl) (fun w h => h.keep 2) ?_;refine dy rfl (y_fieldAddrB tab 7 rfl rfl rfl rfl rfl) (fun w h => h.keep 2) ?_;refine dy rfl (y_load tab rfl rfl (cell_row 1 rfl rfl)) (fun w h => h.keep 2) ?_;refine dy rfl (y_fieldAddrB tab 1 rfl rfl rfl rfl rfl) (fun w h => h.keep 2) ?_;refine dy rfl (y_loadA tab rfl rfl rfl rfl hop) (fun w h => h.keep 2) ?_;refine d_s rfl (do_buildSliceS tab ⟨rfl, rfl, rfl, rfl⟩ rfl rfl rfl rfl) rfl rfl rfl (fun _ => K.cl) (fun _ _ _ h => h.tail.keep 2) (fun b72 => ?_);have hal : allCells [Value.agg (opc ⟨mv, lo, hi, fr, to, []⟩ (.slice none 0 0)).toArray] = opc ⟨mv, lo, hi, fr, to, []⟩ (.slice none 0 0) := by simp [allCells, cellsL]
        refine d_s rfl (do_appendR (by_ := 64) (news := opc ⟨mv, lo, hi, fr, to, []⟩ (.slice none 0 0)) tab 4 rfl hOt.o rfl ⟨rfl, rfl, rfl, rfl⟩ rfl (by simp) rfl (cells_row0 0 rfl hal) rfl (opc_one rfl) (by rw [List.length_map]; omega) (by omega)) rfl rfl rfl (fun _ => K.cl) (fun _ _ _ h => h.tail.keep 2) (fun y => ?_);obtain ⟨⟨ov', oc'⟩, hl'⟩ := y;dsimp only at hl' ⊢;refine dy rfl (y_nilP rfl) (fun w h => h.tail.keep 2) ?_;refine dy rfl (y_fieldAddrB tab 7 rfl rfl rfl rfl rfl) (fun w h => h.tail.keep 2) ?_;refine d_set rfl (set_row tab 2 rfl rfl hl'.one rfl rfl (Nat.lt_of_sub_eq_succ rfl)) rfl rfl K.cl (fun h => by cases h) ?_;refine d_nil (f_then (csr (sa ?_)));refine sa ?_;refine snf (c_ret ?_);obtain ⟨t1, ht1⟩ : ∃ t1 : Tg, t1 = { t' with os := t'.os ++ [(⟨mv, lo, hi, fr, to, []⟩, .slice none 0 0)], ov := ov', oc := oc' } := ⟨_, rfl⟩;have h1b : t1.b = t'.b := by rw [ht1]
        refine f_ret ⟨(g1.setT k t1, 0), hB1.setT hti1 h1b (by rw [ht1]) ?_, .inr (.inr ⟨ca, c0, ?_, rfl⟩), ?_⟩ (res2 rfl rfl rfl) (fun w h => ?_)
        · rw [ht1];exact ⟨hOt.l, hl'.of (by simp [opl]), (hB1.ok t' (List.mem_of_getElem? hti1)).r.snoc PE.empty⟩
        · rw [setT_bk, ht1, hg1, Bk.done];show _ = Bk.setT _ k { (g.bk.tx k) with ops := _ };rw [show (Bk.tx { g.bk with W := setf g.bk.W lo hi to } k) = g.bk.tx k from rfl, htx];simp [Tg.tx, Bg.setW, Bg.bk]
        · exact Bg.Anc.trans (by rw [hg1]; exact ⟨rfl, rfl, rfl⟩) (setT_anc hti1 h1b)
        · dsimp only;have h3 : K W (t1.chunks ++ (g1.fixed ++ (g1.rest k ++ N))) w := by rw [ht1]; exact h.tail.tail
          exact K.unfoc hti1 h3
  · have hne : ¬ ((cntf g.W fr hi : Int) - (cntf g.W fr lo : Int) = (hi : Int) - (lo : Int)) := fun h => ca (hcr.1 h);have hc1 := cntf_le g.W fr hi;have hc2 := cntf_le g.W fr lo;refine dy rfl (y_move rfl) (fun _ h => h) ?_;refine dy rfl (y_extract rfl rfl) (fun _ h => h) ?_;refine dy rfl (y_extract rfl rfl) (fun _ h => h) ?_;refine dy rfl (y_assign rfl) (fun _ h => h) ?_;refine dy rfl (y_assign rfl) (fun _ h => h) ?_;refine d_nil (f_then (csr (sm ?_)));refine sf 1 ?_;refine sy (y_fieldAddr tab 2 rfl rfl rfl rfl rfl) ?_;refine slr 1 ?_;refine sf 1 ?_;refine sy (y_fieldAddr tab 1 rfl rfl rfl rfl rfl) ?_;refine slr 1 ?_;refine sy (y_sub rfl rfl (by omega)) ?_;refine sy (y_T (y_neq rfl rfl) (by assumption)) ?_;refine snf (c_condT rfl (csr (sa ?_)));refine sa ?_;refine snf (c_ret (f_thenR ?_));exact f_ret ⟨(g, 6), hB, .inl ⟨ca, rfl, rfl⟩, .refl _⟩ (res2 rfl rfl rfl) (fun w h => h.dropAt 1)
end Go.KL
end

section
/- Walks: perform. -/
namespace Go.KL
open Go.Proofs Go.Proofs.Tryz
inductive Bk.Perf (A : Bk) (tx : Int) (mv : Bool) (lo hi fr to : Int) : Bk → Nat → List Rn → Prop
  | none (h : ¬ (1 ≤ tx ∧ tx ≤ A.ts.length)) : Perf A tx mv lo hi fr to A 80 []
  | aborted {k : Nat} (hk : tx = k) (hh : A.has k) (h : (A.tx k).st = 4) : Perf A tx mv lo hi fr to A 81 []
  | committed {k : Nat} (hk : tx = k) (hh : A.has k) (h : (A.tx k).st = 3) : Perf A tx mv lo hi fr to A 82 []
  | waiting {k : Nat} (hk : tx = k) (hh : A.has k) (h : (A.tx k).st = 2) : Perf A tx mv lo hi fr to A 83 []
  | range {k : Nat} (hk : tx = k) (hh : A.has k) (h : (A.tx k).st = 1) (hr : lo < 0 ∨ hi < lo ∨ (A.size : Int) < hi) : Perf A tx mv lo hi fr to A 3 []
  | arg {k : Nat} (hk : tx = k) (hh : A.has k) (h : (A.tx k).st = 1) (hr : 0 ≤ lo ∧ lo ≤ hi ∧ hi ≤ (A.size : Int)) (ha : fr < 0 ∨ 16 ≤ fr ∨ to < 0 ∨ 16 ≤ to) : Perf A tx mv lo hi fr to A 2 []
  | no {k l m a b e : Nat} {B : Bk} (hk : tx = k) (hh : A.has k) (h : (A.tx k).st = 1) (hl : lo = l) (hm : hi = m) (hf : fr = a) (ht : to = b) (hr : l ≤ m ∧ m ≤ A.size) (ha : a < 16 ∧ b < 16) (ho : A.Obt k l m mv B e) (he : e ≠ 0) : Perf A tx mv lo hi fr to B e []
  | look {k l m a b : Nat} {B : Bk} (hk : tx = k) (hh : A.has k) (h : (A.tx k).st = 1) (hl : lo = l) (hm : hi = m) (hf : fr = a) (ht : to = b) (hr : l ≤ m ∧ m ≤ A.size) (ha : a < 16 ∧ b < 16) (ho : A.Obt k l m mv B 0) (hmv : mv = false) : Perf A tx mv lo hi fr to (B.done k ⟨mv, l, m, a, b, rns B.W l m⟩) 0 (rns B.W l m)
  | move {k l m a b e : Nat} {B D : Bk} (hk : tx = k) (hh : A.has k) (h : (A.tx k).st = 1) (hl : lo = l) (hm : hi = m) (hf : fr = a) (ht : to = b) (hr : l ≤ m ∧ m ≤ A.size) (ha : a < 16 ∧ b < 16) (ho : A.Obt k l m mv B 0) (hmv : mv = true) (hd : B.Mvd k ⟨mv, l, m, a, b, []⟩ D e) : Perf A tx mv lo hi fr to D e []
structure Bk.Prm (A : Bk) (k lo hi : Nat) (wr : Bool) : Prop where
  obt : ∃ I : Bk → Prop, (∀ A, I A → A.Good) ∧ (∀ A v, I A → (A.tx k).st = 2 → A.IsVic k v → v ≠ 0 → I (A.abort v)) ∧ (¬ Hold (A.tx k).locks lo hi wr → A.count < 1024 → A.free ⟨k, lo, hi, wr⟩ A.q = false → I (A.wait k ⟨k, lo, hi, wr⟩)) ∧ (∀ A, I A → (A.tx k).st = 1 ∨ (A.tx k).st = 2 ∨ (A.tx k).st = 4)
  aft : ∀ B, A.Obt k lo hi wr B 0 → B.size = A.size ∧ B.Good ∧ nbd B.W B.size ≤ 4096 ∧ nbd B.C B.size + 2 * B.moves ≤ 4096 ∧ (B.room ≠ 0 → ∀ to, nbd (setf B.W lo hi to) B.size ≤ 4096)
attribute [local irreducible] SC St Fin Sq Ylds Doos Sets Enters Spec CellIs CellsAre Then Ret Rnd Chn resOK ints bools recs arr
theorem perform_b {g : Bg} {W : World} {N : List Chunk} {tx lo hi fr to : Int} {mv : Bool} (hB : g.OK) (hG : g.bk.Good) (hS : ∀ k, g.has k → (g.bk.tx k).st = 1 ∨ (g.bk.tx k).st = 2 ∨ (g.bk.tx k).st = 3 ∨ (g.bk.tx k).st = 4)
    (hP : ∀ k l m : Nat, tx = k → lo = l → hi = m → g.has k → (g.bk.tx k).st = 1 → l ≤ m → m ≤ g.size → g.bk.Prm k l m mv) :
    Spec prog 62 #[.pointer (some ⟨g.b, 0, none⟩), .int .i64 tx, .agg #[.bool mv, .int .i64 lo, .int .i64 hi, .int .i64 fr, .int .i64 to, .slice none 0 0]] (K W (g.L ++ N))
      (X := { x : Bg × Nat × List Rn × Value × Chunk // x.1.OK ∧ g.bk.Perf tx mv lo hi fr to x.1.bk x.2.1 x.2.2.1 ∧ g.Anc x.1 ∧ BufR 26 3 x.2.2.2.1 x.2.2.2.2 (rnl x.2.2.1) }) (fun x => .tuple #[x.1.2.2.2.1, .int .i64 (x.1.2.1 : Nat)]) (fun x => K W (x.1.2.2.2.2 :: (x.1.1.L ++ N))) := by
  have hsz := hB.mW.pos;refine enter (args := [_, _, _]) func62 rfl ntmps62 rfl ?_;refine csr (sbx fun b5 => ?_);refine sa ?_;refine sa ?_;refine snf (csr (sm ?_));refine sm ?_;refine sk call64 (find_b hB Hs.bk.cons) fun _ => ?_;by_cases c : 1 ≤ tx ∧ tx ≤ g.ts.length
  · obtain ⟨k, rfl⟩ : ∃ k : Nat, tx = k := ⟨tx.toNat, by omega⟩;have hk : g.has k := ⟨by omega, by omega⟩;have hkb : g.bk.has k := Bg.has_bk.2 hk;obtain ⟨t, htm, hti, hid, hpb, htx⟩ := hB.at hk;have hst := hS k hk;rw [htx] at hst;change t.st = 1 ∨ t.st = 2 ∨ t.st = 3 ∨ t.st = 4 at hst;have ef : g.fnd k = if t.st = 4 then (.pointer none, 81) else if t.st = 3 then (.pointer none, 82) else (.pointer (some ⟨t.b, 0, none⟩), 0) := by
      rw [Bg.fnd, if_pos c, Int.toNat_natCast, htx, Bg.ptr, hpb];rfl
    have hs2 : ∀ z, t.st = z → (g.bk.tx k).st = z := fun z h => by rw [htx]; exact h
    rw [ef];by_cases c4 : t.st = 4
    · rw [if_pos c4];refine sm ?_;refine sx ?_;refine sx ?_;refine sa ?_;refine sa ?_;refine snf (c_seq (c_block (csr (sm ?_))));refine sy (y_T (y_neq rfl rfl) (by omega)) ?_;refine sa ?_;refine snf (c_condT rfl (csr (sm ?_)));refine sa ?_;refine sa ?_;refine snf (c_ret (f_blockR (f_thenR ?_)));exact f_ret ⟨(g, 81, [], .slice none 0 0, []), hB, .aborted rfl hkb (hs2 _ c4), .refl _, .nil⟩ (res2 rfl rfl rfl) (fun w h => h.tail.addNil)
    rw [if_neg c4];by_cases c3 : t.st = 3
    · rw [if_pos c3];refine sm ?_;refine sx ?_;refine sx ?_;refine sa ?_;refine sa ?_;refine snf (c_seq (c_block (csr (sm ?_))));refine sy (y_T (y_neq rfl rfl) (by omega)) ?_;refine sa ?_;refine snf (c_condT rfl (csr (sm ?_)));refine sa ?_;refine sa ?_;refine snf (c_ret (f_blockR (f_thenR ?_)));exact f_ret ⟨(g, 82, [], .slice none 0 0, []), hB, .committed rfl hkb (hs2 _ c3), .refl _, .nil⟩ (res2 rfl rfl rfl) (fun w h => h.tail.addNil)
    rw [if_neg c3];have e1 := (hB.tf (C := K W ([(b5, row 60 [.bool mv, .int .i64 lo, .int .i64 hi, .int .i64 fr, .int .i64 to, .slice none 0 0])] :: (g.L ++ N))) Hs.bk.cons htm).c1;by_cases c2 : t.st = 2
    · rw [c2] at e1;refine sm ?_;refine sx ?_;refine sx ?_;refine sa ?_;refine sa ?_;refine snf (c_seq (c_block (csr (sm ?_))));refine sy (y_F (y_neq rfl rfl) (by omega)) ?_;refine sa ?_;refine snf (c_condF rfl (csr (sm ?_)));refine sn ?_;refine sf 1 ?_;refine sl e1 ?_;refine sy (y_T (y_eql rfl rfl) (by omega)) ?_;refine sa ?_;refine snf (c_condT rfl (csr (sa ?_)));refine sa ?_;refine snf (c_ret (f_blockR (f_thenR ?_)));exact f_ret ⟨(g, 83, [], .slice none 0 0, []), hB, .waiting rfl hkb (hs2 _ c2), .refl _, .nil⟩ (res2 rfl rfl rfl) (fun w h => h.tail.addNil)
    have c1 : t.st = 1 := by omega
    rw [c1] at e1;refine sm ?_;refine sx ?_;refine sx ?_;refine sa ?_;refine sa ?_;refine snf (c_seq (c_block (csr (sm ?_))));refine sy (y_F (y_neq rfl rfl) (by omega)) ?_;refine sa ?_;refine snf (c_condF rfl (csr (sm ?_)));refine sn ?_;refine sf 1 ?_;refine sl e1 ?_;refine sy (y_F (y_eql rfl rfl) (by omega)) ?_;refine sa ?_;refine snf (c_condF rfl (c_seq ?_));have hs1 := hs2 1 c1;refine SC.cls (C' := K W (g.p :: [(b5, row 60 [.bool mv, .int .i64 lo, .int .i64 hi, .int .i64 fr, .int .i64 to, .slice none 0 0])] :: [(g.b, row 96 g.cells)] :: [(g.ba, mobj g.ea g.ca)] :: [(g.br, mobj g.er g.cr)] :: g.qc :: g.lc :: (g.ts.flatMap Tg.chunks ++ N))) ?_ (fun w h => K.front 1 h);have hwc : CellsAre (K W (g.p :: [(b5, row 60 [.bool mv, .int .i64 lo, .int .i64 hi, .int .i64 fr, .int .i64 to, .slice none 0 0])] :: [(g.b, row 96 g.cells)] :: [(g.ba, mobj g.ea g.ca)] :: [(g.br, mobj g.er g.cr)] :: g.qc :: g.lc :: (g.ts.flatMap Tg.chunks ++ N))) ⟨g.b, 1, none⟩ [g.wv] := CellsAre.one (cell_row 2 rfl rfl);have hback : ∀ w, K W (g.p :: [(b5, row 60 [.bool mv, .int .i64 lo, .int .i64 hi, .int .i64 fr, .int .i64 to, .slice none 0 0])] :: [(g.b, row 96 g.cells)] :: [(g.ba, mobj g.ea g.ca)] :: [(g.br, mobj g.er g.cr)] :: g.qc :: g.lc :: (g.ts.flatMap Tg.chunks ++ N)) w → K W ([] :: (g.L ++ N)) w := fun w h => K.addNil (K.dropAt 1 h);by_cases q1 : lo < 0
    · refine c_plan [.c 0, .c 1, .c 2, .c 3, .c 4, .c 5, .c 6, .c 7, .c 8, .c 9, .c 10, .c 11, .c 12, .c 13, .c 14, .c 15, .c 16, .s 17, .c 18, .c 19, .c 20] [] ((K W (g.p :: [(b5, row 60 [.bool mv, .int .i64 lo, .int .i64 hi, .int .i64 fr, .int .i64 to, .slice none 0 0])] :: [(g.b, row 96 g.cells)] :: [(g.ba, mobj g.ea g.ca)] :: [(g.br, mobj g.er g.cr)] :: g.qc :: g.lc :: (g.ts.flatMap Tg.chunks ++ N)))) mixed (by kernel_rfl) rfl K.cl ?_;refine dy rfl (y_fieldAddrB tab 1 rfl rfl rfl rfl rfl) (fun _ h => h) ?_;refine dy rfl (y_load tab rfl rfl (cell_row 1 rfl rfl)) (fun _ h => h) ?_;refine dy rfl (y_T (y_lss rfl rfl) (by assumption)) (fun _ h => h) ?_;refine dy rfl (y_move rfl) (fun _ h => h) ?_;refine d_skip rfl rfl rfl rfl (fun _ h => h) K.cl ?_;refine d_skip rfl rfl rfl rfl (fun _ h => h) K.cl ?_;refine d_skip rfl rfl rfl rfl (fun _ h => h) K.cl ?_;refine d_skip rfl rfl rfl rfl (fun _ h => h) K.cl ?_;refine d_skip rfl rfl rfl rfl (fun _ h => h) K.cl ?_;refine dy rfl (y_pickT rfl rfl) (fun _ h => h) ?_;refine dy rfl (y_move rfl) (fun _ h => h) ?_;refine d_skip rfl rfl rfl rfl (fun _ h => h) K.cl ?_;refine d_skip rfl rfl rfl rfl (fun _ h => h) K.cl ?_;refine d_skip rfl rfl rfl rfl (fun _ h => h) K.cl ?_;refine d_skip rfl rfl rfl rfl (fun _ h => h) K.cl ?_;refine d_skip rfl rfl rfl rfl (fun _ h => h) K.cl ?_;refine d_skip rfl rfl rfl rfl (fun _ h => h) K.cl ?_;refine d_sskip rfl rfl rfl rfl (fun _ _ h => h) ?_;refine d_skip rfl rfl rfl rfl (fun _ h => h) K.cl ?_;refine dy rfl (y_pickT rfl rfl) (fun _ h => h) ?_;refine dy rfl (y_assign rfl) (fun _ h => h) ?_;refine d_nil (f_then (c_condT rfl (csr (sa ?_))));refine sa ?_;refine snf (c_ret (f_blockR (f_thenR ?_)));exact f_ret ⟨(g, 3, [], .slice none 0 0, []), hB, .range rfl hkb hs1 (.inl q1), .refl _, .nil⟩ (res2 rfl rfl rfl) hback
    by_cases q2 : hi < lo
    · refine c_plan [.c 0, .c 1, .c 2, .c 3, .c 4, .c 5, .c 6, .c 7, .c 8, .c 9, .c 10, .c 11, .c 12, .c 13, .c 14, .c 15, .c 16, .s 17, .c 18, .c 19, .c 20] [] ((K W (g.p :: [(b5, row 60 [.bool mv, .int .i64 lo, .int .i64 hi, .int .i64 fr, .int .i64 to, .slice none 0 0])] :: [(g.b, row 96 g.cells)] :: [(g.ba, mobj g.ea g.ca)] :: [(g.br, mobj g.er g.cr)] :: g.qc :: g.lc :: (g.ts.flatMap Tg.chunks ++ N)))) mixed (by kernel_rfl) rfl K.cl ?_;refine dy rfl (y_fieldAddrB tab 1 rfl rfl rfl rfl rfl) (fun _ h => h) ?_;refine dy rfl (y_load tab rfl rfl (cell_row 1 rfl rfl)) (fun _ h => h) ?_;refine dy rfl (y_F (y_lss rfl rfl) (by assumption)) (fun _ h => h) ?_;refine dy rfl (y_move rfl) (fun _ h => h) ?_;refine dy rfl (y_fieldAddrB tab 1 rfl rfl rfl rfl rfl) (fun _ h => h) ?_;refine dy rfl (y_load tab rfl rfl (cell_row 1 rfl rfl)) (fun _ h => h) ?_;refine dy rfl (y_fieldAddrB tab 2 rfl rfl rfl rfl rfl) (fun _ h => h) ?_;refine dy rfl (y_load tab rfl rfl (cell_row 1 rfl rfl)) (fun _ h => h) ?_;refine dy rfl (y_T (y_gtr rfl rfl) (by assumption)) (fun _ h => h) ?_;refine dy rfl (y_pickF rfl rfl) (fun _ h => h) ?_;refine dy rfl (y_move rfl) (fun _ h => h) ?_;refine d_skip rfl rfl rfl rfl (fun _ h => h) K.cl ?_;refine d_skip rfl rfl rfl rfl (fun _ h => h) K.cl ?_;refine d_skip rfl rfl rfl rfl (fun _ h => h) K.cl ?_;refine d_skip rfl rfl rfl rfl (fun _ h => h) K.cl ?_;refine d_skip rfl rfl rfl rfl (fun _ h => h) K.cl ?_;refine d_skip rfl rfl rfl rfl (fun _ h => h) K.cl ?_;refine d_sskip rfl rfl rfl rfl (fun _ _ h => h) ?_;refine d_skip rfl rfl rfl rfl (fun _ h => h) K.cl ?_;refine dy rfl (y_pickT rfl rfl) (fun _ h => h) ?_;refine dy rfl (y_assign rfl) (fun _ h => h) ?_;refine d_nil (f_then (c_condT rfl (csr (sa ?_))));refine sa ?_;refine snf (c_ret (f_blockR (f_thenR ?_)));exact f_ret ⟨(g, 3, [], .slice none 0 0, []), hB, .range rfl hkb hs1 (.inr (.inl q2)), .refl _, .nil⟩ (res2 rfl rfl rfl) hback
    by_cases q3 : (g.size : Int) < hi
    · refine c_plan [.c 0, .c 1, .c 2, .c 3, .c 4, .c 5, .c 6, .c 7, .c 8, .c 9, .c 10, .c 11, .c 12, .c 13, .c 14, .c 15, .c 16, .s 17, .c 18, .c 19, .c 20] [] ((K W (g.p :: [(b5, row 60 [.bool mv, .int .i64 lo, .int .i64 hi, .int .i64 fr, .int .i64 to, .slice none 0 0])] :: [(g.b, row 96 g.cells)] :: [(g.ba, mobj g.ea g.ca)] :: [(g.br, mobj g.er g.cr)] :: g.qc :: g.lc :: (g.ts.flatMap Tg.chunks ++ N)))) mixed (by kernel_rfl) rfl K.cl ?_;refine dy rfl (y_fieldAddrB tab 1 rfl rfl rfl rfl rfl) (fun _ h => h) ?_;refine dy rfl (y_load tab rfl rfl (cell_row 1 rfl rfl)) (fun _ h => h) ?_;refine dy rfl (y_F (y_lss rfl rfl) (by assumption)) (fun _ h => h) ?_;refine dy rfl (y_move rfl) (fun _ h => h) ?_;refine dy rfl (y_fieldAddrB tab 1 rfl rfl rfl rfl rfl) (fun _ h => h) ?_;refine dy rfl (y_load tab rfl rfl (cell_row 1 rfl rfl)) (fun _ h => h) ?_;refine dy rfl (y_fieldAddrB tab 2 rfl rfl rfl rfl rfl) (fun _ h => h) ?_;refine dy rfl (y_load tab rfl rfl (cell_row 1 rfl rfl)) (fun _ h => h) ?_;refine dy rfl (y_F (y_gtr rfl rfl) (by assumption)) (fun _ h => h) ?_;refine dy rfl (y_pickF rfl rfl) (fun _ h => h) ?_;refine dy rfl (y_move rfl) (fun _ h => h) ?_;refine dy rfl (y_fieldAddrB tab 2 rfl rfl rfl rfl rfl) (fun _ h => h) ?_;refine dy rfl (y_load tab rfl rfl (cell_row 1 rfl rfl)) (fun _ h => h) ?_;refine dy rfl (y_move rfl) (fun _ h => h) ?_;refine dy rfl (y_nilP rfl) (fun _ h => h) ?_;refine dy rfl (y_fieldAddrB tab 1 rfl rfl rfl rfl rfl) (fun _ h => h) ?_;refine dy rfl (y_loadA tab rfl rfl rfl rfl hwc) (fun _ h => h) ?_;refine d_call rfl (en_f rfl call36) (msize_spec (R := [(b5, row 60 [.bool mv, .int .i64 lo, .int .i64 hi, .int .i64 fr, .int .i64 to, .slice none 0 0])] :: [(g.b, row 96 g.cells)] :: [(g.ba, mobj g.ea g.ca)] :: [(g.br, mobj g.er g.cr)] :: g.qc :: g.lc :: (g.ts.flatMap Tg.chunks ++ N)) hB.mW) rfl rfl rfl (fun _ => K.cl) (fun _ _ _ h => h) (fun _ => ?_);refine dy rfl (y_T (y_gtr rfl rfl) (by assumption)) (fun _ h => h) ?_;refine dy rfl (y_pickF rfl rfl) (fun _ h => h) ?_;refine dy rfl (y_assign rfl) (fun _ h => h) ?_;refine d_nil (f_then (c_condT rfl (csr (sa ?_))));refine sa ?_;refine snf (c_ret (f_blockR (f_thenR ?_)));exact f_ret ⟨(g, 3, [], .slice none 0 0, []), hB, .range rfl hkb hs1 (.inr (.inr q3)), .refl _, .nil⟩ (res2 rfl rfl rfl) hback
    by_cases q4 : fr < 0 ∨ 16 ≤ fr ∨ to < 0 ∨ 16 ≤ to
    · have hpf := Bk.Perf.arg (A := g.bk) (mv := mv) (fr := fr) (to := to) rfl hkb hs1 ⟨Int.not_lt.1 q1, Int.not_lt.1 q2, Int.not_lt.1 q3⟩ q4;by_cases q5 : fr < 0
      · refine c_plan [.c 0, .c 1, .c 2, .c 3, .c 4, .c 5, .c 6, .c 7, .c 8, .c 9, .c 10, .c 11, .c 12, .c 13, .c 14, .c 15, .c 16, .s 17, .c 18, .c 19, .c 20] [] ((K W (g.p :: [(b5, row 60 [.bool mv, .int .i64 lo, .int .i64 hi, .int .i64 fr, .int .i64 to, .slice none 0 0])] :: [(g.b, row 96 g.cells)] :: [(g.ba, mobj g.ea g.ca)] :: [(g.br, mobj g.er g.cr)] :: g.qc :: g.lc :: (g.ts.flatMap Tg.chunks ++ N)))) mixed (by kernel_rfl) rfl K.cl ?_;refine dy rfl (y_fieldAddrB tab 1 rfl rfl rfl rfl rfl) (fun _ h => h) ?_;refine dy rfl (y_load tab rfl rfl (cell_row 1 rfl rfl)) (fun _ h => h) ?_;refine dy rfl (y_F (y_lss rfl rfl) (by assumption)) (fun _ h => h) ?_;refine dy rfl (y_move rfl) (fun _ h => h) ?_;refine dy rfl (y_fieldAddrB tab 1 rfl rfl rfl rfl rfl) (fun _ h => h) ?_;refine dy rfl (y_load tab rfl rfl (cell_row 1 rfl rfl)) (fun _ h => h) ?_;refine dy rfl (y_fieldAddrB tab 2 rfl rfl rfl rfl rfl) (fun _ h => h) ?_;refine dy rfl (y_load tab rfl rfl (cell_row 1 rfl rfl)) (fun _ h => h) ?_;refine dy rfl (y_F (y_gtr rfl rfl) (by assumption)) (fun _ h => h) ?_;refine dy rfl (y_pickF rfl rfl) (fun _ h => h) ?_;refine dy rfl (y_move rfl) (fun _ h => h) ?_;refine dy rfl (y_fieldAddrB tab 2 rfl rfl rfl rfl rfl) (fun _ h => h) ?_;refine dy rfl (y_load tab rfl rfl (cell_row 1 rfl rfl)) (fun _ h => h) ?_;refine dy rfl (y_move rfl) (fun _ h => h) ?_;refine dy rfl (y_nilP rfl) (fun _ h => h) ?_;refine dy rfl (y_fieldAddrB tab 1 rfl rfl rfl rfl rfl) (fun _ h => h) ?_;refine dy rfl (y_loadA tab rfl rfl rfl rfl hwc) (fun _ h => h) ?_;refine d_call rfl (en_f rfl call36) (msize_spec (R := [(b5, row 60 [.bool mv, .int .i64 lo, .int .i64 hi, .int .i64 fr, .int .i64 to, .slice none 0 0])] :: [(g.b, row 96 g.cells)] :: [(g.ba, mobj g.ea g.ca)] :: [(g.br, mobj g.er g.cr)] :: g.qc :: g.lc :: (g.ts.flatMap Tg.chunks ++ N)) hB.mW) rfl rfl rfl (fun _ => K.cl) (fun _ _ _ h => h) (fun _ => ?_);refine dy rfl (y_F (y_gtr rfl rfl) (by assumption)) (fun _ h => h) ?_;refine dy rfl (y_pickF rfl rfl) (fun _ h => h) ?_;refine dy rfl (y_assign rfl) (fun _ h => h) ?_;refine d_nil (f_then (c_condF rfl (csr (sf 3 ?_))));refine slr 1 ?_;refine sy (y_T (y_lss rfl rfl) (by assumption)) ?_;refine sm ?_
        iterate 3 refine s_skip rfl rfl rfl ?_
        refine spT ?_;refine sm ?_
        iterate 3 refine s_skip rfl rfl rfl ?_
        refine spT ?_;refine sm ?_
        iterate 3 refine s_skip rfl rfl rfl ?_
        refine spT ?_;refine sa ?_;refine snf (c_condT rfl (csr (sa ?_)));refine sa ?_;refine snf (c_ret (f_blockR (f_thenR ?_)));exact f_ret ⟨(g, 2, [], .slice none 0 0, []), hB, hpf, .refl _, .nil⟩ (res2 rfl rfl rfl) hback
      by_cases q6 : 16 ≤ fr
      · refine c_plan [.c 0, .c 1, .c 2, .c 3, .c 4, .c 5, .c 6, .c 7, .c 8, .c 9, .c 10, .c 11, .c 12, .c 13, .c 14, .c 15, .c 16, .s 17, .c 18, .c 19, .c 20] [] ((K W (g.p :: [(b5, row 60 [.bool mv, .int .i64 lo, .int .i64 hi, .int .i64 fr, .int .i64 to, .slice none 0 0])] :: [(g.b, row 96 g.cells)] :: [(g.ba, mobj g.ea g.ca)] :: [(g.br, mobj g.er g.cr)] :: g.qc :: g.lc :: (g.ts.flatMap Tg.chunks ++ N)))) mixed (by kernel_rfl) rfl K.cl ?_;refine dy rfl (y_fieldAddrB tab 1 rfl rfl rfl rfl rfl) (fun _ h => h) ?_;refine dy rfl (y_load tab rfl rfl (cell_row 1 rfl rfl)) (fun _ h => h) ?_;refine dy rfl (y_F (y_lss rfl rfl) (by assumption)) (fun _ h => h) ?_;refine dy rfl (y_move rfl) (fun _ h => h) ?_;refine dy rfl (y_fieldAddrB tab 1 rfl rfl rfl rfl rfl) (fun _ h => h) ?_;refine dy rfl (y_load tab rfl rfl (cell_row 1 rfl rfl)) (fun _ h => h) ?_;refine dy rfl (y_fieldAddrB tab 2 rfl rfl rfl rfl rfl) (fun _ h => h) ?_;refine dy rfl (y_load tab rfl rfl (cell_row 1 rfl rfl)) (fun _ h => h) ?_;refine dy rfl (y_F (y_gtr rfl rfl) (by assumption)) (fun _ h => h) ?_;refine dy rfl (y_pickF rfl rfl) (fun _ h => h) ?_;refine dy rfl (y_move rfl) (fun _ h => h) ?_;refine dy rfl (y_fieldAddrB tab 2 rfl rfl rfl rfl rfl) (fun _ h => h) ?_;refine dy rfl (y_load tab rfl rfl (cell_row 1 rfl rfl)) (fun _ h => h) ?_;refine dy rfl (y_move rfl) (fun _ h => h) ?_;refine dy rfl (y_nilP rfl) (fun _ h => h) ?_;refine dy rfl (y_fieldAddrB tab 1 rfl rfl rfl rfl rfl) (fun _ h => h) ?_;refine dy rfl (y_loadA tab rfl rfl rfl rfl hwc) (fun _ h => h) ?_;refine d_call rfl (en_f rfl call36) (msize_spec (R := [(b5, row 60 [.bool mv, .int .i64 lo, .int .i64 hi, .int .i64 fr, .int .i64 to, .slice none 0 0])] :: [(g.b, row 96 g.cells)] :: [(g.ba, mobj g.ea g.ca)] :: [(g.br, mobj g.er g.cr)] :: g.qc :: g.lc :: (g.ts.flatMap Tg.chunks ++ N)) hB.mW) rfl rfl rfl (fun _ => K.cl) (fun _ _ _ h => h) (fun _ => ?_);refine dy rfl (y_F (y_gtr rfl rfl) (by assumption)) (fun _ h => h) ?_;refine dy rfl (y_pickF rfl rfl) (fun _ h => h) ?_;refine dy rfl (y_assign rfl) (fun _ h => h) ?_;refine d_nil (f_then (c_condF rfl (csr (sf 3 ?_))));refine slr 1 ?_;refine sy (y_F (y_lss rfl rfl) (by assumption)) ?_;refine sm ?_;refine sf 3 ?_;refine slr 1 ?_;refine sy (y_T (y_geq rfl rfl) (by assumption)) ?_;refine spF ?_;refine sm ?_
        iterate 3 refine s_skip rfl rfl rfl ?_
        refine spT ?_;refine sm ?_
        iterate 3 refine s_skip rfl rfl rfl ?_
        refine spT ?_;refine sa ?_;refine snf (c_condT rfl (csr (sa ?_)));refine sa ?_;refine snf (c_ret (f_blockR (f_thenR ?_)));exact f_ret ⟨(g, 2, [], .slice none 0 0, []), hB, hpf, .refl _, .nil⟩ (res2 rfl rfl rfl) hback
      by_cases q7 : to < 0
      · refine c_plan [.c 0, .c 1, .c 2, .c 3, .c 4, .c 5, .c 6, .c 7, .c 8, .c 9, .c 10, .c 11, .c 12, .c 13, .c 14, .c 15, .c 16, .s 17, .c 18, .c 19, .c 20] [] ((K W (g.p :: [(b5, row 60 [.bool mv, .int .i64 lo, .int .i64 hi, .int .i64 fr, .int .i64 to, .slice none 0 0])] :: [(g.b, row 96 g.cells)] :: [(g.ba, mobj g.ea g.ca)] :: [(g.br, mobj g.er g.cr)] :: g.qc :: g.lc :: (g.ts.flatMap Tg.chunks ++ N)))) mixed (by kernel_rfl) rfl K.cl ?_;refine dy rfl (y_fieldAddrB tab 1 rfl rfl rfl rfl rfl) (fun _ h => h) ?_;refine dy rfl (y_load tab rfl rfl (cell_row 1 rfl rfl)) (fun _ h => h) ?_;refine dy rfl (y_F (y_lss rfl rfl) (by assumption)) (fun _ h => h) ?_;refine dy rfl (y_move rfl) (fun _ h => h) ?_;refine dy rfl (y_fieldAddrB tab 1 rfl rfl rfl rfl rfl) (fun _ h => h) ?_;refine dy rfl (y_load tab rfl rfl (cell_row 1 rfl rfl)) (fun _ h => h) ?_;refine dy rfl (y_fieldAddrB tab 2 rfl rfl rfl rfl rfl) (fun _ h => h) ?_;refine dy rfl (y_load tab rfl rfl (cell_row 1 rfl rfl)) (fun _ h => h) ?_;refine dy rfl (y_F (y_gtr rfl rfl) (by assumption)) (fun _ h => h) ?_;refine dy rfl (y_pickF rfl rfl) (fun _ h => h) ?_;refine dy rfl (y_move rfl) (fun _ h => h) ?_;refine dy rfl (y_fieldAddrB tab 2 rfl rfl rfl rfl rfl) (fun _ h => h) ?_;refine dy rfl (y_load tab rfl rfl (cell_row 1 rfl rfl)) (fun _ h => h) ?_;refine dy rfl (y_move rfl) (fun _ h => h) ?_;refine dy rfl (y_nilP rfl) (fun _ h => h) ?_;refine dy rfl (y_fieldAddrB tab 1 rfl rfl rfl rfl rfl) (fun _ h => h) ?_;refine dy rfl (y_loadA tab rfl rfl rfl rfl hwc) (fun _ h => h) ?_;refine d_call rfl (en_f rfl call36) (msize_spec (R := [(b5, row 60 [.bool mv, .int .i64 lo, .int .i64 hi, .int .i64 fr, .int .i64 to, .slice none 0 0])] :: [(g.b, row 96 g.cells)] :: [(g.ba, mobj g.ea g.ca)] :: [(g.br, mobj g.er g.cr)] :: g.qc :: g.lc :: (g.ts.flatMap Tg.chunks ++ N)) hB.mW) rfl rfl rfl (fun _ => K.cl) (fun _ _ _ h => h) (fun _ => ?_);refine dy rfl (y_F (y_gtr rfl rfl) (by assumption)) (fun _ h => h) ?_;refine dy rfl (y_pickF rfl rfl) (fun _ h => h) ?_;refine dy rfl (y_assign rfl) (fun _ h => h) ?_;refine d_nil (f_then (c_condF rfl (csr (sf 3 ?_))));refine slr 1 ?_;refine sy (y_F (y_lss rfl rfl) (by assumption)) ?_;refine sm ?_;refine sf 3 ?_;refine slr 1 ?_;refine sy (y_F (y_geq rfl rfl) (by assumption)) ?_;refine spF ?_;refine sm ?_;refine sf 4 ?_;refine slr 1 ?_;refine sy (y_T (y_lss rfl rfl) (by assumption)) ?_;refine spF ?_;refine sm ?_
        iterate 3 refine s_skip rfl rfl rfl ?_
        refine spT ?_;refine sa ?_;refine snf (c_condT rfl (csr (sa ?_)));refine sa ?_;refine snf (c_ret (f_blockR (f_thenR ?_)));exact f_ret ⟨(g, 2, [], .slice none 0 0, []), hB, hpf, .refl _, .nil⟩ (res2 rfl rfl rfl) hback
      have q8 : 16 ≤ to := by omega
      refine c_plan [.c 0, .c 1, .c 2, .c 3, .c 4, .c 5, .c 6, .c 7, .c 8, .c 9, .c 10, .c 11, .c 12, .c 13, .c 14, .c 15, .c 16, .s 17, .c 18, .c 19, .c 20] [] ((K W (g.p :: [(b5, row 60 [.bool mv, .int .i64 lo, .int .i64 hi, .int .i64 fr, .int .i64 to, .slice none 0 0])] :: [(g.b, row 96 g.cells)] :: [(g.ba, mobj g.ea g.ca)] :: [(g.br, mobj g.er g.cr)] :: g.qc :: g.lc :: (g.ts.flatMap Tg.chunks ++ N)))) mixed (by kernel_rfl) rfl K.cl ?_;refine dy rfl (y_fieldAddrB tab 1 rfl rfl rfl rfl rfl) (fun _ h => h) ?_;refine dy rfl (y_load tab rfl rfl (cell_row 1 rfl rfl)) (fun _ h => h) ?_;refine dy rfl (y_F (y_lss rfl rfl) (by assumption)) (fun _ h => h) ?_;refine dy rfl (y_move rfl) (fun _ h => h) ?_;refine dy rfl (y_fieldAddrB tab 1 rfl rfl rfl rfl rfl) (fun _ h => h) ?_;refine dy rfl (y_load tab rfl rfl (cell_row 1 rfl rfl)) (fun _ h => h) ?_;refine dy rfl (y_fieldAddrB tab 2 rfl rfl rfl rfl rfl) (fun _ h => h) ?_;refine dy rfl (y_load tab rfl rfl (cell_row 1 rfl rfl)) (fun _ h => h) ?_;refine dy rfl (y_F (y_gtr rfl rfl) (by assumption)) (fun _ h => h) ?_;refine dy rfl (y_pickF rfl rfl) (fun _ h => h) ?_;refine dy rfl (y_move rfl) (fun _ h => h) ?_;refine dy rfl (y_fieldAddrB tab 2 rfl rfl rfl rfl rfl) (fun _ h => h) ?_;refine dy rfl (y_load tab rfl rfl (cell_row 1 rfl rfl)) (fun _ h => h) ?_;refine dy rfl (y_move rfl) (fun _ h => h) ?_;refine dy rfl (y_nilP rfl) (fun _ h => h) ?_;refine dy rfl (y_fieldAddrB tab 1 rfl rfl rfl rfl rfl) (fun _ h => h) ?_;refine dy rfl (y_loadA tab rfl rfl rfl rfl hwc) (fun _ h => h) ?_;refine d_call rfl (en_f rfl call36) (msize_spec (R := [(b5, row 60 [.bool mv, .int .i64 lo, .int .i64 hi, .int .i64 fr, .int .i64 to, .slice none 0 0])] :: [(g.b, row 96 g.cells)] :: [(g.ba, mobj g.ea g.ca)] :: [(g.br, mobj g.er g.cr)] :: g.qc :: g.lc :: (g.ts.flatMap Tg.chunks ++ N)) hB.mW) rfl rfl rfl (fun _ => K.cl) (fun _ _ _ h => h) (fun _ => ?_);refine dy rfl (y_F (y_gtr rfl rfl) (by assumption)) (fun _ h => h) ?_;refine dy rfl (y_pickF rfl rfl) (fun _ h => h) ?_;refine dy rfl (y_assign rfl) (fun _ h => h) ?_;refine d_nil (f_then (c_condF rfl (csr (sf 3 ?_))));refine slr 1 ?_;refine sy (y_F (y_lss rfl rfl) (by assumption)) ?_;refine sm ?_;refine sf 3 ?_;refine slr 1 ?_;refine sy (y_F (y_geq rfl rfl) (by assumption)) ?_;refine spF ?_;refine sm ?_;refine sf 4 ?_;refine slr 1 ?_;refine sy (y_F (y_lss rfl rfl) (by assumption)) ?_;refine spF ?_;refine sm ?_;refine sf 4 ?_;refine slr 1 ?_;refine sy (y_T (y_geq rfl rfl) (by assumption)) ?_;refine spF ?_;refine sa ?_;refine snf (c_condT rfl (csr (sa ?_)));refine sa ?_;refine snf (c_ret (f_blockR (f_thenR ?_)));exact f_ret ⟨(g, 2, [], .slice none 0 0, []), hB, hpf, .refl _, .nil⟩ (res2 rfl rfl rfl) hback
    obtain ⟨q5, q6, q7, q8⟩ : 0 ≤ fr ∧ fr < 16 ∧ 0 ≤ to ∧ to < 16 := by omega
    refine c_plan [.c 0, .c 1, .c 2, .c 3, .c 4, .c 5, .c 6, .c 7, .c 8, .c 9, .c 10, .c 11, .c 12, .c 13, .c 14, .c 15, .c 16, .s 17, .c 18, .c 19, .c 20] [] ((K W (g.p :: [(b5, row 60 [.bool mv, .int .i64 lo, .int .i64 hi, .int .i64 fr, .int .i64 to, .slice none 0 0])] :: [(g.b, row 96 g.cells)] :: [(g.ba, mobj g.ea g.ca)] :: [(g.br, mobj g.er g.cr)] :: g.qc :: g.lc :: (g.ts.flatMap Tg.chunks ++ N)))) mixed (by kernel_rfl) rfl K.cl ?_;refine dy rfl (y_fieldAddrB tab 1 rfl rfl rfl rfl rfl) (fun _ h => h) ?_;refine dy rfl (y_load tab rfl rfl (cell_row 1 rfl rfl)) (fun _ h => h) ?_;refine dy rfl (y_F (y_lss rfl rfl) (by assumption)) (fun _ h => h) ?_;refine dy rfl (y_move rfl) (fun _ h => h) ?_;refine dy rfl (y_fieldAddrB tab 1 rfl rfl rfl rfl rfl) (fun _ h => h) ?_;refine dy rfl (y_load tab rfl rfl (cell_row 1 rfl rfl)) (fun _ h => h) ?_;refine dy rfl (y_fieldAddrB tab 2 rfl rfl rfl rfl rfl) (fun _ h => h) ?_;refine dy rfl (y_load tab rfl rfl (cell_row 1 rfl rfl)) (fun _ h => h) ?_;refine dy rfl (y_F (y_gtr rfl rfl) (by assumption)) (fun _ h => h) ?_;refine dy rfl (y_pickF rfl rfl) (fun _ h => h) ?_;refine dy rfl (y_move rfl) (fun _ h => h) ?_;refine dy rfl (y_fieldAddrB tab 2 rfl rfl rfl rfl rfl) (fun _ h => h) ?_;refine dy rfl (y_load tab rfl rfl (cell_row 1 rfl rfl)) (fun _ h => h) ?_;refine dy rfl (y_move rfl) (fun _ h => h) ?_;refine dy rfl (y_nilP rfl) (fun _ h => h) ?_;refine dy rfl (y_fieldAddrB tab 1 rfl rfl rfl rfl rfl) (fun _ h => h) ?_;refine dy rfl (y_loadA tab rfl rfl rfl rfl hwc) (fun _ h => h) ?_;refine d_call rfl (en_f rfl call36) (msize_spec (R := [(b5, row 60 [.bool mv, .int .i64 lo, .int .i64 hi, .int .i64 fr, .int .i64 to, .slice none 0 0])] :: [(g.b, row 96 g.cells)] :: [(g.ba, mobj g.ea g.ca)] :: [(g.br, mobj g.er g.cr)] :: g.qc :: g.lc :: (g.ts.flatMap Tg.chunks ++ N)) hB.mW) rfl rfl rfl (fun _ => K.cl) (fun _ _ _ h => h) (fun _ => ?_);refine dy rfl (y_F (y_gtr rfl rfl) (by assumption)) (fun _ h => h) ?_;refine dy rfl (y_pickF rfl rfl) (fun _ h => h) ?_;refine dy rfl (y_assign rfl) (fun _ h => h) ?_;refine d_nil (f_then (c_condF rfl (csr (sf 3 ?_))));refine slr 1 ?_;refine sy (y_F (y_lss rfl rfl) (by omega)) ?_;refine sm ?_;refine sf 3 ?_;refine slr 1 ?_;refine sy (y_F (y_geq rfl rfl) (by omega)) ?_;refine spF ?_;refine sm ?_;refine sf 4 ?_;refine slr 1 ?_;refine sy (y_F (y_lss rfl rfl) (by omega)) ?_;refine spF ?_;refine sm ?_;refine sf 4 ?_;refine slr 1 ?_;refine sy (y_F (y_geq rfl rfl) (by omega)) ?_;refine spF ?_;refine sa ?_;refine snf (c_condF rfl (c_skip (f_blockN (f_then (csr (sy (y_loadA tab rfl rfl rfl rfl (cells_row0 1 rfl rfl)) ?_))))));refine sk call91 kind_spec fun _ => ?_;obtain ⟨l, rfl⟩ := Int.eq_ofNat_of_zero_le (Int.not_lt.1 q1);obtain ⟨m, rfl⟩ := Int.eq_ofNat_of_zero_le (show 0 ≤ hi by omega);obtain ⟨a, rfl⟩ := Int.eq_ofNat_of_zero_le q5;obtain ⟨b, rfl⟩ := Int.eq_ofNat_of_zero_le q7;have hlm : l ≤ m := by omega
    have hms : m ≤ g.size := by omega
    have hab : a < 16 ∧ b < 16 := by omega
    obtain ⟨⟨I, hI1, hI2, hI3, hI4⟩, haf⟩ := hP k l m rfl rfl rfl hk hs1 hlm hms;have ep : g.ptr k = .pointer (some ⟨t.b, 0, none⟩) := by rw [Bg.ptr, hpb]
    refine sal fun b10 => ?_;refine ss (set_box tab 0 rfl rfl rfl rfl rfl rfl rfl) ?_;refine snf (c_seq (csr (sm ?_)));refine sm ?_;refine sf 1 ?_;refine slr 2 ?_;refine sf 2 ?_;refine slr 2 ?_;refine sf0 ?_;refine slr 0 ?_;have hob := obtain_spec (W := W) (N := [(b10, row 145 [.bool mv, .func (.func (if mv then 108 else 107)) #[] #[]])] :: [(b5, row 60 [.bool mv, .int .i64 (l : Nat), .int .i64 (m : Nat), .int .i64 (a : Nat), .int .i64 (b : Nat), .slice none 0 0])] :: N) (lo := l) (hi := m) (wr := mv) I hB hG hk hI1 hI2 hI3 hI4;rw [ep] at hob;refine St.cls (C' := K W (g.L ++ ([(b10, row 145 [.bool mv, .func (.func (if mv then 108 else 107)) #[] #[]])] :: [(b5, row 60 [.bool mv, .int .i64 (l : Nat), .int .i64 (m : Nat), .int .i64 (a : Nat), .int .i64 (b : Nat), .slice none 0 0])] :: N))) ?_ (fun w h => by
      have h1 : K W ([(b10, row 145 [.bool mv, .func (.func (if mv then 108 else 107)) #[] #[]])] :: g.p :: [(b5, row 60 [.bool mv, .int .i64 (l : Nat), .int .i64 (m : Nat), .int .i64 (a : Nat), .int .i64 (b : Nat), .slice none 0 0])] :: [(g.b, row 96 g.cells)] :: [(g.ba, mobj g.ea g.ca)] :: [(g.br, mobj g.er g.cr)] :: g.qc :: g.lc :: (g.ts.flatMap Tg.chunks ++ N)) w := h;have h2 : K W ([(b10, row 145 [.bool mv, .func (.func (if mv then 108 else 107)) #[] #[]])] :: [(b5, row 60 [.bool mv, .int .i64 (l : Nat), .int .i64 (m : Nat), .int .i64 (a : Nat), .int .i64 (b : Nat), .slice none 0 0])] :: g.p :: [(g.b, row 96 g.cells)] :: [(g.ba, mobj g.ea g.ca)] :: [(g.br, mobj g.er g.cr)] :: g.qc :: g.lc :: (g.ts.flatMap Tg.chunks ++ N)) w := (h1.front 2).front 1;exact K.bckN (A := [[(b10, row 145 [.bool mv, .func (.func (if mv then 108 else 107)) #[] #[]])], [(b5, row 60 [.bool mv, .int .i64 (l : Nat), .int .i64 (m : Nat), .int .i64 (a : Nat), .int .i64 (b : Nat), .slice none 0 0])]]) (B := g.p :: [(g.b, row 96 g.cells)] :: [(g.ba, mobj g.ea g.ca)] :: [(g.br, mobj g.er g.cr)] :: g.qc :: g.lc :: (g.ts.flatMap Tg.chunks)) h2)
    refine sk call92 hob fun y => ?_;obtain ⟨⟨g1, e⟩, hB1, hO, hA1⟩ := y;dsimp only at hB1 hO hA1 ⊢;by_cases ce : e = 0
    · subst ce;obtain ⟨hs1', hG1, hn1, hn2, hn3⟩ := haf _ hO;have hk1 := hA1.has hk;obtain ⟨t1, htm1, hti1, hid1, hpb1, htx1⟩ := hB1.at hk1;have ep1 : g1.ptr k = .pointer (some ⟨t.b, 0, none⟩) := by rw [hA1.ptr, ep]
      have hms1 : m ≤ g1.size := by
        have : g1.size = g.size := hs1';omega
      clear hob hwc hback e1;refine sa ?_;refine snf (csr (sm ?_));refine sy (y_F (y_neq rfl rfl) (by omega)) ?_;refine snf (c_condF rfl (c_skip (f_then (csr (sf 1 ?_)))));cases mv
      · refine St.cls (C' := K W ([(b10, row 145 [.bool false, .func (.func 107) #[] #[]])] :: [(b5, row 60 [.bool false, .int .i64 (l : Nat), .int .i64 (m : Nat), .int .i64 (a : Nat), .int .i64 (b : Nat), .slice none 0 0])] :: (g1.L ++ N))) ?_ (fun w h => K.bckN (A := g1.L) (B := [[(b10, row 145 [.bool false, .func (.func 107) #[] #[]])], [(b5, row 60 [.bool false, .int .i64 (l : Nat), .int .i64 (m : Nat), .int .i64 (a : Nat), .int .i64 (b : Nat), .slice none 0 0])]]) h);have hb5 : CellsAre (K W ([(b10, row 145 [.bool false, .func (.func 107) #[] #[]])] :: [(b5, row 60 [.bool false, .int .i64 (l : Nat), .int .i64 (m : Nat), .int .i64 (a : Nat), .int .i64 (b : Nat), .slice none 0 0])] :: (g1.L ++ N))) ⟨b5, 0, none⟩ [.bool false, .int .i64 (l : Nat), .int .i64 (m : Nat), .int .i64 (a : Nat), .int .i64 (b : Nat), .slice none 0 0] := cells_row0 1 rfl rfl;refine slr 0 ?_;refine sm ?_;refine sm ?_;refine sy (y_loadA tab rfl rfl rfl rfl hb5) ?_;refine sy (y_build tab rfl rfl rfl rfl rfl) ?_;refine St.cls (C' := K W (g1.L ++ ([(b10, row 145 [.bool false, .func (.func 107) #[] #[]])] :: [(b5, row 60 [.bool false, .int .i64 (l : Nat), .int .i64 (m : Nat), .int .i64 (a : Nat), .int .i64 (b : Nat), .slice none 0 0])] :: N))) ?_ (fun w h => K.bckN (A := [[(b10, row 145 [.bool false, .func (.func 107) #[] #[]])], [(b5, row 60 [.bool false, .int .i64 (l : Nat), .int .i64 (m : Nat), .int .i64 (a : Nat), .int .i64 (b : Nat), .slice none 0 0])]]) (B := g1.L) h);have hlb := look_b (W := W) (N := [(b10, row 145 [.bool false, .func (.func 107) #[] #[]])] :: [(b5, row 60 [.bool false, .int .i64 (l : Nat), .int .i64 (m : Nat), .int .i64 (a : Nat), .int .i64 (b : Nat), .slice none 0 0])] :: N) (lo := l) (hi := m) (fr := a) (to := b) (mv := false) hB1 hk1 hti1 hlm hms1 hn1 (good_ol hG1 htm1);rw [ep1, hA1.b] at hlb;refine s_call (en_v (cap := []) rfl rfl call107) hlb rfl rfl rfl (fun y => ?_);obtain ⟨⟨g2, rv, rc⟩, hB2, hbk2, hA2, hR2⟩ := y;dsimp only at hB2 hbk2 hA2 hR2 ⊢;refine sx ?_;refine sx ?_;refine sa ?_;refine sa ?_;refine snf (c_ret (f_ret ⟨(g2, 0, rns g1.W l m, rv, rc), hB2, ?_, hA1.trans hA2, hR2⟩ (res2 rfl rfl rfl) (fun w h => (K.bckN (A := rc :: g2.L) (B := [[(b10, row 145 [.bool false, .func (.func 107) #[] #[]])], [(b5, row 60 [.bool false, .int .i64 (l : Nat), .int .i64 (m : Nat), .int .i64 (a : Nat), .int .i64 (b : Nat), .slice none 0 0])]]) h).tail.tail)));rw [hbk2];exact .look rfl hkb hs1 rfl rfl rfl rfl ⟨hlm, hms⟩ hab hO rfl
      · refine St.cls (C' := K W ([(b10, row 145 [.bool true, .func (.func 108) #[] #[]])] :: [(b5, row 60 [.bool true, .int .i64 (l : Nat), .int .i64 (m : Nat), .int .i64 (a : Nat), .int .i64 (b : Nat), .slice none 0 0])] :: (g1.L ++ N))) ?_ (fun w h => K.bckN (A := g1.L) (B := [[(b10, row 145 [.bool true, .func (.func 108) #[] #[]])], [(b5, row 60 [.bool true, .int .i64 (l : Nat), .int .i64 (m : Nat), .int .i64 (a : Nat), .int .i64 (b : Nat), .slice none 0 0])]]) h);have hb5 : CellsAre (K W ([(b10, row 145 [.bool true, .func (.func 108) #[] #[]])] :: [(b5, row 60 [.bool true, .int .i64 (l : Nat), .int .i64 (m : Nat), .int .i64 (a : Nat), .int .i64 (b : Nat), .slice none 0 0])] :: (g1.L ++ N))) ⟨b5, 0, none⟩ [.bool true, .int .i64 (l : Nat), .int .i64 (m : Nat), .int .i64 (a : Nat), .int .i64 (b : Nat), .slice none 0 0] := cells_row0 1 rfl rfl;refine slr 0 ?_;refine sm ?_;refine sm ?_;refine sy (y_loadA tab rfl rfl rfl rfl hb5) ?_;refine sy (y_build tab rfl rfl rfl rfl rfl) ?_;refine St.cls (C' := K W (g1.L ++ ([(b10, row 145 [.bool true, .func (.func 108) #[] #[]])] :: [(b5, row 60 [.bool true, .int .i64 (l : Nat), .int .i64 (m : Nat), .int .i64 (a : Nat), .int .i64 (b : Nat), .slice none 0 0])] :: N))) ?_ (fun w h => K.bckN (A := [[(b10, row 145 [.bool true, .func (.func 108) #[] #[]])], [(b5, row 60 [.bool true, .int .i64 (l : Nat), .int .i64 (m : Nat), .int .i64 (a : Nat), .int .i64 (b : Nat), .slice none 0 0])]]) (B := g1.L) h);have hmb := move_b (W := W) (N := [(b10, row 145 [.bool true, .func (.func 108) #[] #[]])] :: [(b5, row 60 [.bool true, .int .i64 (l : Nat), .int .i64 (m : Nat), .int .i64 (a : Nat), .int .i64 (b : Nat), .slice none 0 0])] :: N) (lo := l) (hi := m) (fr := a) (to := b) (mv := true) hB1 hk1 hti1 hlm hms1 hab.1 hab.2 hn2 (fun h => hn3 h b) (fun t ht => good_ol hG1 ht);rw [ep1, hA1.b] at hmb;refine s_call (en_v (cap := []) rfl rfl call108) hmb rfl rfl rfl (fun y => ?_);obtain ⟨⟨g2, e⟩, hB2, hM2, hA2⟩ := y;dsimp only at hB2 hM2 hA2 ⊢;refine sx ?_;refine sx ?_;refine sa ?_;refine sa ?_;refine snf (c_ret ?_);exact f_ret ⟨(g2, e, [], .slice none 0 0, []), hB2, .move rfl hkb hs1 rfl rfl rfl rfl ⟨hlm, hms⟩ hab hO rfl hM2, hA1.trans hA2, .nil⟩ (res2 rfl rfl rfl) (fun w h => (K.bckN (A := g2.L) (B := [[(b10, row 145 [.bool true, .func (.func 108) #[] #[]])], [(b5, row 60 [.bool true, .int .i64 (l : Nat), .int .i64 (m : Nat), .int .i64 (a : Nat), .int .i64 (b : Nat), .slice none 0 0])]]) h).tail.tail.addNil)
    · refine sa ?_;refine snf (csr (sm ?_));refine sy (y_T (y_neq rfl rfl) (by omega)) ?_;refine snf (c_condT rfl (csr (sm ?_)));refine sa ?_;refine sa ?_;refine snf (c_ret (f_thenR ?_));exact f_ret ⟨(g1, e, [], .slice none 0 0, []), hB1, .no rfl hkb hs1 rfl rfl rfl rfl ⟨hlm, hms⟩ hab hO ce, hA1, .nil⟩ (res2 rfl rfl rfl) (fun w h => (K.bckN (A := g1.L) (B := [[(b10, row 145 [.bool mv, .func (.func (if mv then 108 else 107)) #[] #[]])], [(b5, row 60 [.bool mv, .int .i64 (l : Nat), .int .i64 (m : Nat), .int .i64 (a : Nat), .int .i64 (b : Nat), .slice none 0 0])]]) h).tail.tail.addNil)
  · have ef : g.fnd tx = (.pointer none, 80) := by rw [Bg.fnd, if_neg c]
    rw [ef];refine sm ?_;refine sx ?_;refine sx ?_;refine sa ?_;refine sa ?_;refine snf (c_seq (c_block (csr (sm ?_))));refine sy (y_T (y_neq rfl rfl) (by omega)) ?_;refine sa ?_;refine snf (c_condT rfl (csr (sm ?_)));refine sa ?_;refine sa ?_;refine snf (c_ret (f_blockR (f_thenR ?_)));exact f_ret ⟨(g, 80, [], .slice none 0 0, []), hB, .none (by simpa [Bg.bk] using c), .refl _, .nil⟩ (res2 rfl rfl rfl) (fun w h => h.tail.addNil)
end Go.KL
end

section
/- Walks: Look, Move, Abort, State, Held, Now, Begin. -/
namespace Go.KL
open Go.Proofs Go.Proofs.Tryz
attribute [local irreducible] SC St Fin Sq Ylds Doos Sets Enters Spec CellIs CellsAre Then Ret Rnd Chn resOK ints bools recs arr
section
variable {g : Bg} {W : World} {N : List Chunk} {tx lo hi fr to : Int}
abbrev PerfX (g : Bg) (tx : Int) (mv : Bool) (lo hi fr to : Int) := { x : Bg × Nat × List Rn × Value × Chunk // x.1.OK ∧ g.bk.Perf tx mv lo hi fr to x.1.bk x.2.1 x.2.2.1 ∧ g.Anc x.1 ∧ BufR 26 3 x.2.2.2.1 x.2.2.2.2 (rnl x.2.2.1) }
structure Bk.Pre (A : Bk) (tx lo hi : Int) (mv : Bool) : Prop where
  good : A.Good
  st : ∀ k, A.has k → (A.tx k).st = 1 ∨ (A.tx k).st = 2 ∨ (A.tx k).st = 3 ∨ (A.tx k).st = 4
  prm : ∀ (k l m : Nat), tx = k → lo = l → hi = m → A.has k → (A.tx k).st = 1 → l ≤ m → m ≤ A.size → A.Prm k l m mv
theorem Look_b (hB : g.OK) (hP : g.bk.Pre tx lo hi false) : Spec prog 28 #[.pointer (some ⟨g.b, 0, none⟩), .int .i64 tx, .int .i64 lo, .int .i64 hi] (K W (g.L ++ N)) (X := PerfX g tx false lo hi 0 0) (fun x => .tuple #[x.1.2.2.2.1, .int .i64 (x.1.2.1 : Nat)]) (fun x => K W (x.1.2.2.2.2 :: (x.1.1.L ++ N))) := by
  have hp := perform_b (W := W) (N := N) (tx := tx) (lo := lo) (hi := hi) (fr := 0) (to := 0) (mv := false) hB hP.good (fun k hk => hP.st k (Bg.has_bk.2 hk)) (fun k l m h1 h2 h3 hk => hP.prm k l m h1 h2 h3 (Bg.has_bk.2 hk));refine enter (args := [_, _, _, _]) func28 rfl ntmps28 rfl ?_;refine csr (sa ?_);refine sa ?_;refine snf (csr (sm ?_));refine sm ?_;refine sm ?_;refine sm ?_;refine sy (y_build tab rfl rfl rfl rfl rfl) ?_;refine sk call62 hp fun x => ?_;refine sx ?_;refine sx ?_;refine sa ?_;refine sa ?_;refine snf (c_ret ?_);exact f_ret x (res2 rfl rfl rfl) (fun w h => h)
theorem Move_b (hB : g.OK) (hP : g.bk.Pre tx lo hi true) : Spec prog 27 #[.pointer (some ⟨g.b, 0, none⟩), .int .i64 tx, .int .i64 lo, .int .i64 hi, .int .i64 fr, .int .i64 to] (K W (g.L ++ N)) (X := PerfX g tx true lo hi fr to) (fun x => .int .i64 (x.1.2.1 : Nat)) (fun x => K W (x.1.2.2.2.2 :: (x.1.1.L ++ N))) := by
  have hp := perform_b (W := W) (N := N) (tx := tx) (lo := lo) (hi := hi) (fr := fr) (to := to) (mv := true) hB hP.good (fun k hk => hP.st k (Bg.has_bk.2 hk)) (fun k l m h1 h2 h3 hk => hP.prm k l m h1 h2 h3 (Bg.has_bk.2 hk));refine enter (args := [_, _, _, _, _, _]) func27 rfl ntmps27 rfl ?_;refine csr (sa ?_);refine snf (csr (sm ?_));refine sm ?_;refine sm ?_;refine sm ?_;refine sm ?_;refine sm ?_;refine sy (y_build tab rfl rfl rfl rfl rfl) ?_;refine sk call62 hp fun x => ?_;refine sm ?_;refine sx ?_;refine sx ?_;refine sa ?_;refine sa ?_;refine snf (csr (sm ?_));refine sa ?_;refine snf (c_ret ?_);exact f_ret x (res1 rfl rfl) (fun w h => h)
def Bk.Abt (A : Bk) (tx : Int) (B : Bk) (e : Nat) : Prop := (¬ (1 ≤ tx ∧ tx ≤ A.ts.length) ∧ B = A ∧ e = 80) ∨ ∃ k : Nat, tx = k ∧ A.has k ∧ (((A.tx k).st = 4 ∧ B = A ∧ e = 81) ∨ ((A.tx k).st = 3 ∧ B = A ∧ e = 82) ∨ ((A.tx k).st ≠ 3 ∧ (A.tx k).st ≠ 4 ∧ B = A.abort k ∧ e = 0))
theorem fnd_ptr {k : Nat} (hk : g.has k) : g.fnd k = if (g.bk.tx k).st = 4 then (.pointer none, 81) else if (g.bk.tx k).st = 3 then (.pointer none, 82) else (g.ptr k, 0) := by
  rw [Bg.fnd, if_pos (by unfold Bg.has at hk; omega), Int.toNat_natCast]
theorem fnd_none (h : ¬ (1 ≤ tx ∧ tx ≤ g.ts.length)) : g.fnd tx = (.pointer none, 80) := by rw [Bg.fnd, if_neg h]
theorem Abort_b (hB : g.OK) (hG : g.bk.Good) : Spec prog 31 #[.pointer (some ⟨g.b, 0, none⟩), .int .i64 tx] (K W (g.L ++ N)) (X := { x : Bg × Nat // x.1.OK ∧ g.bk.Abt tx x.1.bk x.2 ∧ g.Anc x.1 }) (fun x => .int .i64 (x.1.2 : Nat)) (fun x => K W (x.1.1.L ++ N)) := by
  refine enter (args := [_, _]) func31 rfl ntmps31 rfl ?_;refine csr (sa ?_);refine snf (csr (sm ?_));refine sm ?_;refine sk call64 (find_b hB Hs.bk) fun _ => ?_;by_cases c : 1 ≤ tx ∧ tx ≤ g.ts.length
  · obtain ⟨k, rfl⟩ : ∃ k : Nat, tx = k := ⟨tx.toNat, by omega⟩;have hk : g.has k := ⟨by omega, by omega⟩;have hkb : g.bk.has k := Bg.has_bk.2 hk;rw [fnd_ptr hk];by_cases c4 : (g.bk.tx k).st = 4
    · rw [if_pos c4];refine sm ?_;refine sx ?_;refine sx ?_;refine sa ?_;refine sa ?_;refine snf (c_seq (csr (sm ?_)));refine sy (y_T (y_neq rfl rfl) (by omega)) ?_;refine snf (c_condT rfl (csr (sm ?_)));refine sa ?_;refine snf (c_ret (f_thenR ?_));exact f_ret ⟨(g, 81), hB, .inr ⟨k, rfl, hkb, .inl ⟨c4, rfl, rfl⟩⟩, .refl _⟩ (res1 rfl rfl) (fun w h => h)
    rw [if_neg c4];by_cases c3 : (g.bk.tx k).st = 3
    · rw [if_pos c3];refine sm ?_;refine sx ?_;refine sx ?_;refine sa ?_;refine sa ?_;refine snf (c_seq (csr (sm ?_)));refine sy (y_T (y_neq rfl rfl) (by omega)) ?_;refine snf (c_condT rfl (csr (sm ?_)));refine sa ?_;refine snf (c_ret (f_thenR ?_));exact f_ret ⟨(g, 82), hB, .inr ⟨k, rfl, hkb, .inr (.inl ⟨c3, rfl, rfl⟩)⟩, .refl _⟩ (res1 rfl rfl) (fun w h => h)
    rw [if_neg c3];obtain ⟨t, htm, hti, _, _, _⟩ := hB.at hk;have hab := abort_spec (W := W) (N := N) hB (good_lm hG) hk hti (good_un hG htm) (good_ol hG htm);refine sm ?_;refine sx ?_;refine sx ?_;refine sa ?_;refine sa ?_;refine snf (c_seq (csr (sm ?_)));refine sy (y_F (y_neq rfl rfl) (by omega)) ?_;refine snf (c_condF rfl (c_skip (f_then (csr (sm ?_)))));refine sm ?_;refine sk call67 hab fun y => ?_;obtain ⟨g', hB', hbk', hA'⟩ := y;dsimp only;refine snf (csr (sa ?_));refine snf (c_ret ?_);exact f_ret ⟨(g', 0), hB', .inr ⟨k, rfl, hkb, .inr (.inr ⟨c3, c4, hbk', rfl⟩)⟩, hA'⟩ (res1 rfl rfl) (fun w h => h)
  · rw [fnd_none c];refine sm ?_;refine sx ?_;refine sx ?_;refine sa ?_;refine sa ?_;refine snf (c_seq (csr (sm ?_)));refine sy (y_T (y_neq rfl rfl) (by omega)) ?_;refine snf (c_condT rfl (csr (sm ?_)));refine sa ?_;refine snf (c_ret (f_thenR ?_));exact f_ret ⟨(g, 80), hB, .inl ⟨by simpa [Bg.bk] using c, rfl, rfl⟩, .refl _⟩ (res1 rfl rfl) (fun w h => h)
def Bk.stI (A : Bk) (tx : Int) : Nat := if 1 ≤ tx ∧ tx ≤ A.ts.length then (A.tx tx.toNat).st else 0
def Bk.lkI (A : Bk) (tx : Int) : List Lk := if 1 ≤ tx ∧ tx ≤ A.ts.length then (A.tx tx.toNat).locks else []
theorem State_b (hB : g.OK) : Spec prog 38 #[.pointer (some ⟨g.b, 0, none⟩), .int .i64 tx] (K W (g.L ++ N)) (fun _ : Unit => .int .i64 (g.bk.stI tx : Nat)) (fun _ => K W (g.L ++ N)) := by
  have hus := usable_spec (hB.bf (C := K W (g.L ++ N)) Hs.bk);obtain ⟨_, _, f2, _, _, _, _, _, fea, _⟩ := hB.bf (C := K W (g.L ++ N)) Hs.bk;refine enter (args := [_, _]) func38 rfl ntmps38 rfl ?_;by_cases c : 1 ≤ tx ∧ tx ≤ g.ts.length
  · obtain ⟨k, rfl⟩ : ∃ k : Nat, tx = k := ⟨tx.toNat, by omega⟩;have hk : g.has k := ⟨by omega, by omega⟩;obtain ⟨t, htm, hti, hid, hpb, htx⟩ := hB.at hk;have hget := hB.eaG k hk;have e1 := (hB.tf (C := K W (g.L ++ N)) Hs.bk htm).c1;have es : g.bk.stI k = t.st := by
      rw [Bk.stI, if_pos (by simpa [Bg.bk] using c), Int.toNat_natCast, htx]; rfl
    rw [es];rw [Bg.ptr, hpb] at hget;refine csr (sa ?_);refine snf (c_seq (csr (sm ?_)));refine sk call52 hus fun _ => ?_;refine sy (y_notT rfl) ?_;refine sm ?_;refine sm ?_;refine sn ?_;refine sf 2 ?_;refine sl f2 ?_;refine sm ?_;refine sy (y_lookupE tab rfl rfl rfl rfl (fun _ => rfl) (fea) (by assumption)) ?_;refine sy (y_eqlPN tab rfl rfl) ?_;refine spF ?_;refine snf (c_condF rfl (c_skip (f_then (csr (sm ?_)))));refine sn ?_;refine sf 2 ?_;refine sl f2 ?_;refine sm ?_;refine sy (y_lookupE tab rfl rfl rfl rfl (fun _ => rfl) (fea) (by assumption)) ?_;refine sn ?_;refine sf 1 ?_;refine sl e1 ?_;refine sa ?_;refine snf (c_ret ?_);exact f_ret () (res1 rfl rfl) (fun w h => h)
  · have hget : mget tx (.pointer none) g.ea = .pointer none := mget_out (by rw [hB.eaH]; exact decide_eq_false c);have es : g.bk.stI tx = 0 := by rw [Bk.stI, if_neg (by simpa [Bg.bk] using c)]
    rw [es];refine csr (sa ?_);refine snf (c_seq (csr (sm ?_)));refine sk call52 hus fun _ => ?_;refine sy (y_notT rfl) ?_;refine sm ?_;refine sm ?_;refine sn ?_;refine sf 2 ?_;refine sl f2 ?_;refine sm ?_;refine sy (y_lookupE tab rfl rfl rfl rfl (fun _ => rfl) (fea) (by assumption)) ?_;refine sy (y_eqlPN tab rfl rfl) ?_;refine spF ?_;refine snf (c_condT rfl (csr (sa ?_)));refine snf (c_ret (f_thenR ?_));exact f_ret () (res1 rfl rfl) (fun w h => h)
theorem Held_b (hB : g.OK) (hG : g.bk.Good) : Spec prog 29 #[.pointer (some ⟨g.b, 0, none⟩), .int .i64 tx] (K W (g.L ++ N)) (X := { x : Value × Chunk // BufR 111 4 x.1 x.2 (lks (g.bk.lkI tx)) }) (fun x => x.1.1) (fun x => K W (x.1.2 :: (g.L ++ N))) := by
  have hus := usable_spec (hB.bf (C := K W (g.L ++ N)) Hs.bk);obtain ⟨_, _, f2, _, _, _, _, _, fea, _⟩ := hB.bf (C := K W (g.L ++ N)) Hs.bk;refine enter (args := [_, _]) func29 rfl ntmps29 rfl ?_;by_cases c : 1 ≤ tx ∧ tx ≤ g.ts.length
  · obtain ⟨k, rfl⟩ : ∃ k : Nat, tx = k := ⟨tx.toNat, by omega⟩;have hk : g.has k := ⟨by omega, by omega⟩;obtain ⟨t, htm, hti, hid, hpb, htx⟩ := hB.at hk;have hget := hB.eaG k hk;obtain ⟨_, _, e2, _, _, el, _⟩ := hB.tf (C := K W (g.L ++ N)) Hs.bk htm;have hlk := (good_lo hG htm).1;have es : g.bk.lkI k = t.locks := by
      rw [Bk.lkI, if_pos (by simpa [Bg.bk] using c), Int.toNat_natCast, htx]; rfl
    rw [es];rw [Bg.ptr, hpb] at hget;refine csr (sa ?_);refine snf (c_seq (csr (sm ?_)));refine sk call52 hus fun _ => ?_;refine sy (y_notT rfl) ?_;refine sm ?_;refine sm ?_;refine sn ?_;refine sf 2 ?_;refine sl f2 ?_;refine sm ?_;refine sy (y_lookupE tab rfl rfl rfl rfl (fun _ => rfl) (fea) (by assumption)) ?_;refine sy (y_eqlPN tab rfl rfl) ?_;refine spF ?_;refine snf (c_condF rfl (c_skip (f_then (csr (sm ?_)))));refine sn ?_;refine sf 2 ?_;refine sl f2 ?_;refine sm ?_;refine sy (y_lookupE tab rfl rfl rfl rfl (fun _ => rfl) (fea) (by assumption)) ?_;refine sn ?_;refine sf 2 ?_;refine sl e2 ?_;refine s_call (en_f rfl call63) (cloneL el (lks_ones _) (by rw [List.length_map]; omega)) rfl rfl rfl (fun y => ?_);obtain ⟨⟨v, d⟩, hR⟩ := y;dsimp only at hR ⊢;refine sa ?_;refine snf (c_ret ?_);exact f_ret ⟨(v, d), hR⟩ (res1 rfl rfl) (fun w h => h)
  · have hget : mget tx (.pointer none) g.ea = .pointer none := mget_out (by rw [hB.eaH]; exact decide_eq_false c);have es : g.bk.lkI tx = [] := by rw [Bk.lkI, if_neg (by simpa [Bg.bk] using c)]
    rw [es];refine csr (sa ?_);refine snf (c_seq (csr (sm ?_)));refine sk call52 hus fun _ => ?_;refine sy (y_notT rfl) ?_;refine sm ?_;refine sm ?_;refine sn ?_;refine sf 2 ?_;refine sl f2 ?_;refine sm ?_;refine sy (y_lookupE tab rfl rfl rfl rfl (fun _ => rfl) (fea) (by assumption)) ?_;refine sy (y_eqlPN tab rfl rfl) ?_;refine spF ?_;refine snf (c_condT rfl (csr (sa ?_)));refine snf (c_ret (f_thenR ?_));exact f_ret ⟨(.slice none 0 0, []), .nil⟩ (res1 rfl rfl) (fun w h => h.addNil)
end
section
theorem MOK.snoc {es : List Ent} {c : Nat} (h : MOK es c) {k : Int} {v : Value} (hk : mhas k es = false) (hr : -9223372036854775808 ≤ k ∧ k ≤ 9223372036854775807) (hl : es.length < 1000000) : MOK (es ++ [(k, v, c)]) (c + 1) := by
  refine ⟨?_, ?_, fun e he => ?_, fun e he => ?_, by rw [List.length_append, List.length_singleton]; omega⟩
  · rw [List.map_append, List.nodup_append];refine ⟨h.keys, by simp, fun a ha b hb e => ?_⟩;simp only [List.map_cons, List.map_nil, List.mem_singleton] at hb;have h1 : mhas k es = true := mhas_mem.2 (by rw [← hb, ← e]; exact ha);rw [h1] at hk;cases hk
  · rw [List.map_append, List.nodup_append];refine ⟨h.born, by simp, fun a ha b hb e => ?_⟩;simp only [List.map_cons, List.map_nil, List.mem_singleton] at hb;obtain ⟨x, hx, rfl⟩ := List.mem_map.1 ha;have := h.old x hx;omega
  · rcases List.mem_append.1 he with he | he
    · have := h.old e he; omega
    · rw [List.mem_singleton.1 he]; exact Nat.lt_succ_self _
  · rcases List.mem_append.1 he with he | he
    · exact h.rng e he
    · rw [List.mem_singleton.1 he]; exact hr
theorem mget_snoc {z x v : Value} {k : Int} {c : Nat} {j : Int} : ∀ {es : List Ent}, j ≠ k → mget j z es = x → mget j z (es ++ [(k, v, c)]) = x
  | [], hj, h => by
    rw [List.nil_append, mget, if_neg hj];exact h
  | e :: r, hj, h => by
    rw [List.cons_append, mget];rw [mget] at h;by_cases c : j = e.1
    · rw [if_pos c] at h ⊢; exact h
    · rw [if_neg c] at h ⊢; exact mget_snoc hj h
theorem mget_last {z v : Value} {k : Int} {c : Nat} : ∀ {es : List Ent}, mhas k es = false → mget k z (es ++ [(k, v, c)]) = v
  | [], _ => by rw [List.nil_append, mget, if_pos rfl]
  | e :: r, h => by
    rw [List.cons_append, mget];simp only [mhas] at h;by_cases c : k = e.1
    · simp [c] at h
    · rw [if_neg c] at h ⊢; exact mget_last h
theorem mhas_snoc {v : Value} {k z : Int} {c : Nat} : ∀ {es : List Ent}, mhas z (es ++ [(k, v, c)]) = (mhas z es || decide (z = k))
  | [] => by simp [mhas]
  | e :: r => by
    rw [List.cons_append];simp only [mhas];split
    · simp
    · exact mhas_snoc
variable {g : Bg} {W : World} {N : List Chunk}
abbrev Tg.new (g : Bg) (b : Nat) : Tg := { id := g.ts.length + 1, b := b, st := 1, locks := [], req := Lk.zero, os := [], lv := .slice none 0 0, lc := [], ov := .slice none 0 0, oc := [] }
def Bg.beg (g : Bg) (b : Nat) : Bg := { g with ts := g.ts ++ [Tg.new g b], rn := g.rn ++ [g.ts.length + 1], ea := g.ea ++ [(((g.ts.length + 1 : Nat) : Int), Value.pointer (some ⟨b, 0, none⟩), g.ca)], ca := g.ca + 1, er := g.er ++ [(((g.ts.length + 1 : Nat) : Int), Value.pointer (some ⟨b, 0, none⟩), g.cr)], cr := g.cr + 1 }
theorem beg_bk {b : Nat} : (g.beg b).bk = g.bk.begin := by
  simp [Bg.beg, Bg.bk, Bk.begin, Tg.tx, Tx.new]
theorem beg_pb {b k : Nat} (hk : g.has k) : (g.beg b).pb k = g.pb k := by
  unfold Bg.has at hk;simp only [Bg.pb, Bg.beg];rw [List.getElem?_append_left (by omega)]
theorem beg_new {b : Nat} : (g.beg b).pb (g.ts.length + 1) = b := by
  simp [Bg.pb, Bg.beg]
theorem er_no (hB : g.OK) : mhas ((g.ts.length + 1 : Nat) : Int) g.er = false := by
  cases h : mhas ((g.ts.length + 1 : Nat) : Int) g.er with
  | false => rfl
  | true =>
    rw [mhas_mem, hB.er_keys] at h;obtain ⟨k, hk, e⟩ := List.mem_map.1 h;have := (hB.rnh k hk).2;have : k = g.ts.length + 1 := Int.ofNat_inj.1 e;omega
theorem ea_no (hB : g.OK) : mhas ((g.ts.length + 1 : Nat) : Int) g.ea = false := by
  rw [hB.eaH];exact decide_eq_false (by omega)
theorem beg_ok (hB : g.OK) {b : Nat} (hb : b ∉ g.ts.map (·.b)) (hl : g.ts.length < 1000000) : (g.beg b).OK := by
  have hlen : (g.beg b).ts.length = g.ts.length + 1 := by simp [Bg.beg]
  have hrl : g.er.length ≤ g.ts.length := by
    rw [hB.er_len];have h1 : g.rn.Subset ((List.range g.ts.length).map (· + 1)) := fun k hk => by
      have h2 := hB.rnh k hk;exact List.mem_map.2 ⟨k - 1, List.mem_range.2 (by unfold Bg.has at h2; omega), by unfold Bg.has at h2; omega⟩
    have h3 := Bk.nodup_le hB.rn_nd h1;simpa using h3
  refine { mC := hB.mC, mW := hB.mW, id := fun i t ht => ?_, ok := fun t ht => ?_, nd := ?_, eaM := hB.eaM.snoc (ea_no hB) (by omega) (by rw [hB.eaL]; exact hl), eaG := fun k hk => ?_, eaH := fun z => ?_, eaL := ?_, erM := hB.erM.snoc (er_no hB) (by omega) (by omega), erE := ?_, rnh := fun k hk => ?_, qB := ?_, qh := fun k hk => ?_, lB := hB.lB, lO := hB.lO }
  · change (g.ts ++ [Tg.new g b])[i]? = some t at ht;rcases Nat.lt_or_ge i g.ts.length with c | c
    · rw [List.getElem?_append_left c] at ht;exact hB.id i t ht
    · rw [List.getElem?_append_right c] at ht;have : i - g.ts.length = 0 := by
        rcases Nat.eq_zero_or_pos (i - g.ts.length) with h | h
        · exact h
        · rw [List.getElem?_eq_none (by rw [List.length_singleton]; omega)] at ht;cases ht
      rw [this] at ht;rw [← Option.some.inj ht];show g.ts.length + 1 = i + 1;omega
  · rcases List.mem_append.1 ht with ht | ht
    · exact hB.ok t ht
    · rw [List.mem_singleton.1 ht];exact ⟨.nil, .nil, .nil⟩
  · show ((g.ts ++ [Tg.new g b]).map (·.b)).Nodup;rw [List.map_append, List.nodup_append];refine ⟨hB.nd, by simp, fun x hx y hy e => ?_⟩;simp only [List.map_cons, List.map_nil, List.mem_singleton] at hy;exact hb (by rw [← hy, ← e]; exact hx)
  · by_cases c : k = g.ts.length + 1
    · subst c;rw [Bg.ptr, beg_new];exact mget_last (ea_no hB)
    · have hk' : g.has k := by unfold Bg.has at hk ⊢; rw [hlen] at hk; omega
      rw [Bg.ptr, beg_pb hk'];exact mget_snoc (by omega) (hB.eaG k hk')
  · rw [hlen];show mhas z (g.ea ++ _) = _;rw [mhas_snoc, hB.eaH];by_cases c1 : 1 ≤ z ∧ z ≤ (g.ts.length : Int)
    · rw [decide_eq_true c1, Bool.true_or];exact (decide_eq_true (by omega)).symm
    · rw [decide_eq_false c1, Bool.false_or];exact decide_eq_decide.2 (by omega)
  · show (g.ea ++ _).length = (g.ts ++ _).length;rw [List.length_append, List.length_append, hB.eaL];rfl
  · show (g.er ++ _).map (fun e => (e.1, e.2.1)) = (g.rn ++ _).map fun k : Nat => ((k : Int), (g.beg b).ptr k);rw [List.map_append, List.map_append, hB.erE];congr 1
    · refine List.map_congr_left fun k hk => ?_;rw [Bg.ptr, Bg.ptr, beg_pb (hB.rnh k hk)]
    · simp only [List.map_cons, List.map_nil, Bg.ptr, beg_new]
  · rcases List.mem_append.1 hk with hk | hk
    · have := hB.rnh k hk;unfold Bg.has at this ⊢;rw [hlen]; omega
    · rw [List.mem_singleton.1 hk];unfold Bg.has;rw [hlen]; omega
  · have : (g.q.map fun k => [(g.beg b).ptr k]) = g.q.map fun k => [g.ptr k] := List.map_congr_left fun k hk => by rw [Bg.ptr, Bg.ptr, beg_pb (hB.qh k hk)]
    show BufR 105 1 g.qv g.qc (g.q.map fun k => [(g.beg b).ptr k]);rw [this];exact hB.qB
  · have := hB.qh k hk;unfold Bg.has at this ⊢;rw [hlen]; omega
theorem Begin_b (hB : g.OK) (hl : g.ts.length < 1000000) : Spec prog 26 #[.pointer (some ⟨g.b, 0, none⟩)] (K W (g.L ++ N))
    (X := { x : Bg × Nat × Nat // x.1.OK ∧ x.1.b = g.b ∧ ((64 ≤ g.rn.length ∧ x.1.bk = g.bk ∧ x.2 = (0, 5)) ∨ (g.rn.length < 64 ∧ x.1.bk = g.bk.begin ∧ x.2 = (g.ts.length + 1, 0))) }) (fun x => .tuple #[.int .i64 (x.1.2.1 : Nat), .int .i64 (x.1.2.2 : Nat)]) (fun x => K W (x.1.1.L ++ N)) := by
  have hus := usable_spec (hB.bf (C := K W (g.L ++ N)) Hs.bk);obtain ⟨_, _, f2, f3, _, _, _, _, fea, fer⟩ := hB.bf (C := K W (g.L ++ N)) Hs.bk;have hel := hB.eaL;have hrl := hB.er_len;have hem := hB.erM;refine enter (args := [_]) func26 rfl ntmps26 rfl ?_;refine csr (sa ?_);refine sa ?_;refine snf (c_seq (c_block (csr (sm ?_))));refine sk call52 hus fun _ => ?_;by_cases c : 64 ≤ g.rn.length
  · refine sy (y_notT rfl) ?_;refine sa ?_;refine snf (c_condF rfl (csr (sm ?_)));refine sn ?_;refine sf 3 ?_;refine sl f3 ?_;refine sy (y_lenMH tab rfl rfl (fer)) ?_;refine sy (y_T (y_geq rfl rfl) (by omega)) ?_;refine sa ?_;refine snf (c_condT rfl (csr (sa ?_)));refine sa ?_;refine snf (c_ret (f_blockR (f_thenR ?_)));exact f_ret ⟨(g, 0, 5), hB, rfl, .inl ⟨c, rfl, rfl⟩⟩ (res2 rfl rfl rfl) (fun w h => h)
  · refine sy (y_notT rfl) ?_;refine sa ?_;refine snf (c_condF rfl (csr (sm ?_)));refine sn ?_;refine sf 3 ?_;refine sl f3 ?_;refine sy (y_lenMH tab rfl rfl (fer)) ?_;refine sy (y_F (y_geq rfl rfl) (by omega)) ?_;refine sa ?_;refine snf (c_condF rfl (c_skip (f_blockN (f_then (csr (sm ?_))))));refine sn ?_;refine sf 2 ?_;refine sl f2 ?_;refine sy (y_lenMH tab rfl rfl (fea)) ?_;refine sy (y_add rfl rfl (by omega)) ?_;refine sy (y_build tab rfl rfl rfl rfl rfl) ?_;refine sbx fun b23 => ?_;refine sa ?_;refine snf (c_seq ?_);rw [hel];refine SC.cls (C' := K W ([(b23, row 113 (Tg.new g b23).cells)] :: [(g.b, row 96 g.cells)] :: g.p :: [(g.ba, mobj g.ea g.ca)] :: [(g.br, mobj g.er g.cr)] :: g.qc :: g.lc :: (g.ts.flatMap Tg.chunks ++ N))) ?_ (fun w h => by
      have h2 : K W ([(b23, row 113 (Tg.new g b23).cells)] :: g.p :: [(g.b, row 96 g.cells)] :: [(g.ba, mobj g.ea g.ca)] :: [(g.br, mobj g.er g.cr)] :: g.qc :: g.lc :: (g.ts.flatMap Tg.chunks ++ N)) w := h;exact (h2.front 2).front 1)
    have hn1 := ea_no hB;have hn2 := er_no hB;have hold1 := hB.eaM.old;have hold2 := hB.erM.old;clear f2 f3 fea fer;refine c_plan [.c 0, .c 1, .c 2, .c 3, .c 4, .c 5, .c 6, .c 7, .c 8, .c 9, .c 10, .c 11, .c 12, .c 13, .c 14, .c 15, .c 16, .c 17, .s 18, .c 19, .s 20, .s 21, .c 22, .s 23] [] (K W [[(b23, row 113 (Tg.new g b23).cells)], [(g.b, row 96 g.cells)]]) mixed (by kernel_rfl) rfl K.cl ?_;refine dy rfl (y_move rfl) (fun w h => h.keep 2) ?_;refine dy rfl (y_nilP rfl) (fun w h => h.keep 2) ?_;refine dy rfl (y_fieldAddrB tab 2 rfl rfl rfl rfl rfl) (fun w h => h.keep 2) ?_;refine dy rfl (y_load tab rfl rfl (cell_row 1 rfl rfl)) (fun w h => h.keep 2) ?_;refine dy rfl (y_move rfl) (fun w h => h.keep 2) ?_;refine dy rfl (y_nilP rfl) (fun w h => h.keep 2) ?_;refine dy rfl (y_fieldAddr0 tab rfl rfl rfl rfl rfl) (fun w h => h.keep 2) ?_;refine dy rfl (y_load tab rfl rfl (cell_row 0 rfl rfl)) (fun w h => h.keep 2) ?_;refine dy rfl (y_move rfl) (fun w h => h.keep 2) ?_;refine dy rfl (y_nilP rfl) (fun w h => h.keep 2) ?_;refine dy rfl (y_fieldAddrB tab 3 rfl rfl rfl rfl rfl) (fun w h => h.keep 2) ?_;refine dy rfl (y_load tab rfl rfl (cell_row 1 rfl rfl)) (fun w h => h.keep 2) ?_;refine dy rfl (y_move rfl) (fun w h => h.keep 2) ?_;refine dy rfl (y_nilP rfl) (fun w h => h.keep 2) ?_;refine dy rfl (y_fieldAddr0 tab rfl rfl rfl rfl rfl) (fun w h => h.keep 2) ?_;refine dy rfl (y_load tab rfl rfl (cell_row 0 rfl rfl)) (fun w h => h.keep 2) ?_;refine dy rfl (y_move rfl) (fun w h => h.keep 2) ?_;refine dy rfl (y_move rfl) (fun w h => h.keep 2) ?_;refine d_s rfl (do_mapEntry tab 3 rfl rfl rfl rfl (fun _ => rfl) rfl hn1) rfl rfl rfl (fun _ => K.cl) (fun _ _ _ h => h.keep 2) (fun _ => ?_);refine dy rfl (y_extract rfl rfl) (fun w h => h.keep 2) ?_;refine d_set rfl (set_entryStore 3 rfl rfl rfl rfl hold1) rfl rfl K.cl (fun _ _ h => h.keep 2) ?_;skip;refine d_s rfl (do_mapEntry tab 4 rfl rfl rfl rfl (fun _ => rfl) rfl hn2) rfl rfl rfl (fun _ => K.cl) (fun _ _ _ h => h.keep 2) (fun _ => ?_);refine dy rfl (y_extract rfl rfl) (fun w h => h.keep 2) ?_;refine d_set rfl (set_entryStore 4 rfl rfl rfl rfl hold2) rfl rfl K.cl (fun _ _ h => h.keep 2) ?_;refine d_nil (f_then (csr (sm ?_)));refine sn ?_;refine sf0 ?_;refine slr 0 ?_;refine sa ?_;refine sa ?_;refine snf (c_ret ?_);have hk : ∀ w, K W ([(b23, row 113 (Tg.new g b23).cells)] :: [(g.b, row 96 g.cells)] :: g.p :: [(g.ba, mobj (g.beg b23).ea (g.beg b23).ca)] :: [(g.br, mobj (g.beg b23).er (g.beg b23).cr)] :: g.qc :: g.lc :: (g.ts.flatMap Tg.chunks ++ N)) w → b23 ∉ g.ts.map (·.b) := fun w h hm => by
      have hnd := (List.nodup_cons.1 h.nd).1;obtain ⟨t, ht, e⟩ := List.mem_map.1 hm;exact hnd (List.mem_map.2 ⟨(t.b, row 113 t.cells), List.mem_flatten.2 ⟨[(t.b, row 113 t.cells)], List.mem_cons_of_mem _ (List.mem_cons_of_mem _ (List.mem_cons_of_mem _ (List.mem_cons_of_mem _ (List.mem_cons_of_mem _ (List.mem_cons_of_mem _ (List.mem_append_left _ (List.mem_flatMap.2 ⟨t, ht, by simp⟩))))))), by simp⟩, e⟩)
    refine Fin.cls (C' := K W ([(b23, row 113 (Tg.new g b23).cells)] :: [(g.b, row 96 g.cells)] :: g.p :: [(g.ba, mobj (g.beg b23).ea (g.beg b23).ca)] :: [(g.br, mobj (g.beg b23).er (g.beg b23).cr)] :: g.qc :: g.lc :: (g.ts.flatMap Tg.chunks ++ N))) ?_ (fun w h => h);refine Fin.fact hk (fun hb => ?_);refine f_ret ⟨(g.beg b23, g.ts.length + 1, 0), beg_ok hB hb hl, rfl, .inr ⟨by omega, beg_bk, rfl⟩⟩ (res2 rfl rfl rfl) (fun w h => ?_);have h2 : K W ((Tg.new g b23).chunks ++ ((g.p :: [(g.b, row 96 g.cells)] :: [(g.ba, mobj (g.beg b23).ea (g.beg b23).ca)] :: [(g.br, mobj (g.beg b23).er (g.beg b23).cr)] :: g.qc :: g.lc :: (g.ts.flatMap Tg.chunks)) ++ N)) w := by
      have h3 : K W ([(b23, row 113 (Tg.new g b23).cells)] :: g.p :: [(g.b, row 96 g.cells)] :: [(g.ba, mobj (g.beg b23).ea (g.beg b23).ca)] :: [(g.br, mobj (g.beg b23).er (g.beg b23).cr)] :: g.qc :: g.lc :: (g.ts.flatMap Tg.chunks ++ N)) w := (h.front 2).front 1;exact h3.weak [] (by simp)
    have h4 := K.bckN (A := (Tg.new g b23).chunks) (B := g.p :: [(g.b, row 96 g.cells)] :: [(g.ba, mobj (g.beg b23).ea (g.beg b23).ca)] :: [(g.br, mobj (g.beg b23).er (g.beg b23).cr)] :: g.qc :: g.lc :: (g.ts.flatMap Tg.chunks)) h2;exact h4.weak [] (by simp [Bg.L, Bg.fixed, Bg.beg])
end
end Go.KL
end

section
/- Walks: without a book; New. -/
namespace Go.KL
open Go.Proofs Go.Proofs.Tryz
attribute [local irreducible] SC St Fin Sq Ylds Doos Sets Enters Spec CellIs CellsAre Then Ret Rnd Chn resOK ints bools recs arr
section
variable {W : World} {N : List Chunk} {tx lo hi fr to : Int}
def Bk.fresh (n : Nat) (f : Nat → Nat) : Bk := ⟨n, f, f, [], [], [], []⟩
theorem New_b {p : Chunk} {v : Value} {n : Nat} {f : Nat → Nat} (hM : MV p v n f) : Spec prog 15 #[.agg #[v]] (K W (p :: N)) (X := { g : Bg // g.OK ∧ g.bk = Bk.fresh n f ∧ g.p = p }) (fun g => .tuple #[.pointer (some ⟨g.1.b, 0, none⟩), .int .i64 0]) (fun g => K W (g.1.L ++ N)) := by
  obtain ⟨a, rfl⟩ := hM.ptr;have hpos := hM.pos;refine enter (args := [_]) func15 rfl ntmps15 rfl ?_;refine csr (sbx fun b1 => ?_);refine sa ?_;refine sa ?_;refine snf (c_seq (csr (sy (y_loadA tab rfl rfl rfl rfl (cells_row0 0 rfl rfl)) ?_)));refine St.cls (C' := K W (p :: [(b1, row 29 [.pointer (some a)])] :: N)) ?_ (fun w h => K.front 1 h);refine sk call36 (msize_spec hM) fun _ => ?_;refine sy (y_F (y_eql rfl rfl) (by omega)) ?_;refine snf (c_condF rfl (c_skip (f_then (csr (sy (y_loadA tab rfl rfl rfl rfl (cells_row0 1 rfl rfl)) ?_)))));refine sy (y_loadA tab rfl rfl rfl rfl (cells_row0 1 rfl rfl)) ?_;refine s_do do_makeMap rfl rfl rfl (fun ba => ?_);skip;refine s_do do_makeMap rfl rfl rfl (fun br => ?_);refine sy (y_build tab rfl rfl rfl rfl rfl) ?_;refine sbx fun b12 => ?_;refine sa ?_;refine sa ?_;refine snf (c_ret (Fin.cls (C' := K W ([(b12, row 96 [.pointer (some a), .pointer (some a), .map (some ba), .map (some br), .slice none 0 0, .slice none 0 0])] :: [(br, mobj [] 0)] :: [(ba, mobj [] 0)] :: p :: [(b1, row 29 [.pointer (some a)])] :: N)) ?_ (fun w h => h)));obtain ⟨g, hg⟩ : ∃ g : Bg, g = ⟨p, b12, ba, br, .pointer (some a), .pointer (some a), .slice none 0 0, .slice none 0 0, 0, 0, n, f, f, [], [], [], [], [], [], [], []⟩ := ⟨_, rfl⟩;have hb : g.b = b12 := by rw [hg]
  refine f_ret ⟨g, ?_, by rw [hg]; rfl, by rw [hg]⟩ (res2 rfl (by rw [hb]; rfl) rfl) (fun w h => ?_)
  · rw [hg];exact { mC := hM, mW := hM, id := fun i t h => by simp at h, ok := fun t h => by simp at h, nd := List.nodup_nil, eaM := .empty, eaG := fun k h => by simp [Bg.has] at h; omega, eaH := fun z => by simp [mhas]; omega, eaL := rfl, erM := .empty, erE := rfl, rnh := fun k h => by simp at h, qB := .nil, qh := fun k h => by simp at h, lB := .nil, lO := fun x h => by simp at h }
  · have h1 : K W (p :: [(b12, row 96 [.pointer (some a), .pointer (some a), .map (some ba), .map (some br), .slice none 0 0, .slice none 0 0])] :: [(ba, mobj [] 0)] :: [(br, mobj [] 0)] :: [(b1, row 29 [.pointer (some a)])] :: N) w := (((h.front 1).front 2).front 2).front 3;have h2 := h1.dropAt 4;show K W (g.L ++ N) w;rw [hg];exact h2.weak [] (by simp [Bg.L, Bg.fixed])
end
end Go.KL
end

section
/- The little book that every statement asks after its own question; plain. No program in sight. -/
namespace Go.KL
namespace Bk
theorem owners_nil {A : Bk} {l : Lk} : A.owners l = [] ↔ ∀ k ∈ A.rn, ∀ x ∈ (A.tx k).locks, cfl x l = false := by
  unfold owners;rw [List.filter_eq_nil_iff];constructor
  · intro h k hk x hx;have := h k (mem_srt.2 hk);simp only [List.any_eq_true, not_exists, not_and] at this;exact Bool.eq_false_iff.2 (this x hx)
  · intro h k hk;simp only [List.any_eq_true, not_exists, not_and];exact fun x hx => Bool.eq_false_iff.1 (h k (mem_srt.1 hk) x hx)
theorem ahead_nil {A : Bk} {l : Lk} {fr : List Nat} : A.ahead l fr = [] ↔ ∀ k ∈ fr, cfl (A.tx k).req l = false := by
  unfold ahead;rw [List.filter_eq_nil_iff];exact ⟨fun h k hk => Bool.eq_false_iff.2 (h k hk), fun h k hk => Bool.eq_false_iff.1 (h k hk)⟩
theorem free_iff {A : Bk} {l : Lk} {fr : List Nat} : A.free l fr = true ↔ (∀ k ∈ A.rn, ∀ x ∈ (A.tx k).locks, cfl x l = false) ∧ ∀ k ∈ fr, cfl (A.tx k).req l = false := by
  rw [free, Bool.and_eq_true, List.isEmpty_iff, List.isEmpty_iff, owners_nil, ahead_nil]
theorem mem_owners {A : Bk} {l : Lk} {k : Nat} : k ∈ A.owners l ↔ k ∈ A.rn ∧ ∃ x ∈ (A.tx k).locks, cfl x l = true := by
  rw [owners, List.mem_filter, mem_srt, List.any_eq_true]
theorem mem_ahead {A : Bk} {l : Lk} {fr : List Nat} {k : Nat} : k ∈ A.ahead l fr ↔ k ∈ fr ∧ cfl (A.tx k).req l = true := by
  rw [ahead, List.mem_filter]
abbrev z0 : Nat → Nat := fun _ => 0
theorem un_look {W : Nat → Nat} : ∀ {ops : List Oa}, (∀ o ∈ ops, o.mv = false) → KL.un W ops = W
  | [], _ => rfl
  | o :: r, h => by
    show (if o.mv then _ else KL.un W r) = W;rw [h o (List.mem_cons_self ..), if_neg (by decide)];exact un_look fun x hx => h x (List.mem_cons_of_mem _ hx)
structure Lit (A : Bk) : Prop where
  size : A.size = 10
  C : A.C = z0
  W : A.W = z0
  ops : ∀ t ∈ A.ts, (∀ o ∈ t.ops, o.mv = false) ∧ t.ops.length < 100 ∧ t.locks.length ≤ 10 ∧ ∀ x ∈ t.locks, x.lo ≤ 10
  rn : A.rn.length ≤ 64
  q : A.q.length ≤ 64
  w : ∀ k, A.has k → (A.tx k).st = 2 → k ∈ A.q
theorem nbd_z0 : nbd z0 10 = 1 := by decide
theorem Lit.good {A : Bk} (h : A.Lit) : A.Good := by
  refine ⟨h.rn, h.q, h.w, fun t ht => ⟨by have := (h.ops t ht).2.2.1; omega, fun x hx => Nat.le_trans ((h.ops t ht).2.2.2 x hx) (by decide)⟩, fun t ht => by have := (h.ops t ht).2.1; omega, fun t ht => ⟨fun o ho hm => ?_, fun n => ?_⟩⟩
  · rw [(h.ops t ht).1 o ho] at hm;cases hm
  · rw [un_look fun o ho => (h.ops t ht).1 o (List.mem_of_mem_drop ho), h.W, h.size, nbd_z0];decide
theorem Lit.moves {A : Bk} (h : A.Lit) (hr : ∀ k ∈ A.rn, A.has k) : A.moves = 0 := by
  unfold Bk.moves;apply List.sum_eq_zero_iff_forall_eq_nat.2;intro x hx;obtain ⟨k, hk, rfl⟩ := List.mem_map.1 hx;have hh := hr k hk;have hm : A.tx k ∈ A.ts := by
    unfold Bk.has at hh;unfold Bk.tx;rw [List.getD_eq_getElem?_getD, List.getElem?_eq_getElem (by omega)];exact List.getElem_mem _
  unfold mvs;rw [List.filter_eq_nil_iff.2 fun o ho => by rw [(h.ops _ hm).1 o ho]; decide];rfl
abbrev l1 : Lk := ⟨1, 0, 5, false⟩
abbrev l2 : Lk := ⟨2, 3, 8, false⟩
abbrev w1 : Lk := ⟨1, 0, 5, true⟩
abbrev w2 : Lk := ⟨2, 3, 8, true⟩
abbrev o1 : Oa := ⟨false, 0, 5, 0, 0, rns z0 0 5⟩
abbrev o2 : Oa := ⟨false, 3, 8, 0, 0, rns z0 3 8⟩
abbrev B0 : Bk := ⟨10, z0, z0, [Tx.new, Tx.new], [1, 2], [], []⟩
abbrev B0' : Bk := ⟨10, z0, z0, [⟨1, [l1], Lk.zero, []⟩, Tx.new], [1, 2], [], []⟩
abbrev B1 : Bk := ⟨10, z0, z0, [⟨1, [l1], Lk.zero, [o1]⟩, Tx.new], [1, 2], [], []⟩
abbrev B1' : Bk := ⟨10, z0, z0, [⟨1, [l1], Lk.zero, [o1]⟩, ⟨1, [l2], Lk.zero, []⟩], [1, 2], [], []⟩
abbrev B2 : Bk := ⟨10, z0, z0, [⟨1, [l1], Lk.zero, [o1]⟩, ⟨1, [l2], Lk.zero, [o2]⟩], [1, 2], [], []⟩
abbrev B3 : Bk := ⟨10, z0, z0, [⟨2, [l1], w1, [o1]⟩, ⟨1, [l2], Lk.zero, [o2]⟩], [1, 2], [1], []⟩
abbrev B4 : Bk := ⟨10, z0, z0, [⟨2, [l1], w1, [o1]⟩, ⟨2, [l2], w2, [o2]⟩], [1, 2], [1, 2], []⟩
abbrev B5 : Bk := ⟨10, z0, z0, [⟨1, [l1, w1], Lk.zero, [o1]⟩, ⟨4, [], Lk.zero, []⟩], [1], [], []⟩
theorem hold_no {L : List Lk} {lo hi : Nat} {wr : Bool} (i : Nat) (h1 : lo ≤ i) (h2 : i < hi) (h : ∀ x ∈ L, ¬ ((x.wr = true ∨ wr = false) ∧ x.lo ≤ i ∧ i < x.hi)) : ¬ Hold L lo hi wr := fun hh => by
  obtain ⟨x, hx, hx2⟩ := hh i h1 h2;exact h x hx hx2
theorem has2 {A : Bk} {a b : Tx} {k : Nat} (hA : A.ts = [a, b]) (h : A.has k) : k = 1 ∨ k = 2 := by
  have := h.2;rw [hA] at this;have h1 := h.1;simp at this;omega
theorem B0_lit : B0.Lit := ⟨rfl, rfl, rfl, by simp [Tx.new], by decide, by decide, fun k hk => by rcases has2 rfl hk with rfl | rfl <;> decide⟩
theorem B0'_lit : B0'.Lit := ⟨rfl, rfl, rfl, by simp [Tx.new], by decide, by decide, fun k hk => by rcases has2 rfl hk with rfl | rfl <;> decide⟩
theorem B1_lit : B1.Lit := ⟨rfl, rfl, rfl, by simp [Tx.new], by decide, by decide, fun k hk => by rcases has2 rfl hk with rfl | rfl <;> decide⟩
theorem B1'_lit : B1'.Lit := ⟨rfl, rfl, rfl, by simp, by decide, by decide, fun k hk => by rcases has2 rfl hk with rfl | rfl <;> decide⟩
theorem B2_lit : B2.Lit := ⟨rfl, rfl, rfl, by simp, by decide, by decide, fun k hk => by rcases has2 rfl hk with rfl | rfl <;> decide⟩
theorem B3_lit : B3.Lit := ⟨rfl, rfl, rfl, by simp, by decide, by decide, fun k hk => by rcases has2 rfl hk with rfl | rfl <;> decide⟩
theorem B4_lit : B4.Lit := ⟨rfl, rfl, rfl, by simp, by decide, by decide, fun k hk => by rcases has2 rfl hk with rfl | rfl <;> decide⟩
theorem B5_lit : B5.Lit := ⟨rfl, rfl, rfl, by simp, by decide, by decide, fun k hk => by rcases has2 rfl hk with rfl | rfl <;> decide⟩
theorem obt_free {A B : Bk} {k lo hi e : Nat} {wr : Bool} (h : A.Obt k lo hi wr B e) (h1 : ¬ Hold (A.tx k).locks lo hi wr) (h2 : A.count < 1024) (h3 : A.free ⟨k, lo, hi, wr⟩ A.q = true) : e = 0 ∧ B = A.setT k { A.tx k with locks := (A.tx k).locks ++ [⟨k, lo, hi, wr⟩] } := by
  cases h with
  | has h => exact absurd h h1
  | full _ h => omega
  | got => exact ⟨rfl, rfl⟩
  | res _ _ h => rw [h3] at h; cases h
theorem obt_wait {A B : Bk} {k lo hi e : Nat} {wr : Bool} (h : A.Obt k lo hi wr B e) (h1 : ¬ Hold (A.tx k).locks lo hi wr) (h2 : A.count < 1024) (h3 : A.free ⟨k, lo, hi, wr⟩ A.q = false) : Res k (A.wait k ⟨k, lo, hi, wr⟩) B e := by
  cases h with
  | has h => exact absurd h h1
  | full _ h => omega
  | got _ _ h => rw [h3] at h; cases h
  | res _ _ _ h => exact h
theorem aft_lit {A : Bk} (h : A.Lit) (hr : ∀ k ∈ A.rn, A.has k) : A.size = 10 ∧ A.Good ∧ nbd A.W A.size ≤ 4096 ∧ nbd A.C A.size + 2 * A.moves ≤ 4096 ∧ (A.room ≠ 0 → ∀ lo hi to, nbd (setf A.W lo hi to) A.size ≤ 4096) := by
  refine ⟨h.size, h.good, by rw [h.W, h.size, nbd_z0]; decide, by rw [h.C, h.size, nbd_z0, h.moves hr]; decide, fun _ lo hi to => ?_⟩;have := nbd_set2 A.W lo hi to A.size;rw [h.W, h.size, nbd_z0] at this;rw [h.W, h.size];omega
theorem f1 : B0.free l1 [] = true := by
  rw [free_iff];decide
theorem f2 : B1.free l2 [] = true := by
  rw [free_iff];decide
theorem f3 : B2.free w1 [] = false := by
  cases h : B2.free w1 [] with
  | false => rfl
  | true =>
    rw [free_iff] at h;exact absurd (h.1 2 (by decide) l2 (by decide)) (by decide)
theorem f4 : B3.free w2 [1] = false := by
  cases h : B3.free w2 [1] with
  | false => rfl
  | true =>
    rw [free_iff] at h;exact absurd (h.1 1 (by decide) l1 (by decide)) (by decide)
theorem rn12 {A : Bk} {a b : Tx} (h1 : A.rn = [1, 2]) (h2 : A.ts = [a, b]) : ∀ k ∈ A.rn, A.has k := by
  intro k hk;rw [h1] at hk;unfold Bk.has;rw [h2];simp at hk ⊢;omega
theorem pre_lit {A : Bk} {tx lo hi : Int} {mv : Bool} (h : A.Lit) (hs : ∀ k, A.has k → (A.tx k).st = 1 ∨ (A.tx k).st = 2 ∨ (A.tx k).st = 3 ∨ (A.tx k).st = 4) (hp : ∀ k l m : Nat, tx = k → lo = l → hi = m → A.Prm k l m mv) : A.Pre tx lo hi mv :=
  ⟨h.good, hs, fun k l m h1 h2 h3 _ _ _ _ => hp k l m h1 h2 h3⟩
theorem prm_free {A : Bk} {k lo hi : Nat} {wr : Bool} (h1 : ¬ Hold (A.tx k).locks lo hi wr) (h2 : A.count < 1024) (h3 : A.free ⟨k, lo, hi, wr⟩ A.q = true) (h4 : (A.setT k { A.tx k with locks := (A.tx k).locks ++ [⟨k, lo, hi, wr⟩] }).Lit) (h5 : ∀ j ∈ A.rn, A.has j) (h6 : A.size = 10) : A.Prm k lo hi wr := by
  refine ⟨⟨fun _ => False, fun _ h => h.elim, fun _ _ h => h.elim, fun _ _ h => (by rw [h3] at h; cases h), fun _ h => h.elim⟩, fun B hB => ?_⟩;obtain ⟨_, rfl⟩ := obt_free hB h1 h2 h3;obtain ⟨a1, a2, a3, a4, a5⟩ := aft_lit h4 (fun j hj => by
    have := h5 j hj;simpa [Bk.has, Bk.setT] using this)
  exact ⟨a1.trans h6.symm, a2, a3, a4, fun h to => a5 h lo hi to⟩
end Bk
end Go.KL
end

section
/- The little book, step by step; plain. No program in sight. -/
namespace Go.KL
namespace Bk
theorem st2 {A : Bk} {a b : Tx} (hA : A.ts = [a, b]) (ha : a.st = 1 ∨ a.st = 2 ∨ a.st = 3 ∨ a.st = 4) (hb : b.st = 1 ∨ b.st = 2 ∨ b.st = 3 ∨ b.st = 4) : ∀ k, A.has k → (A.tx k).st = 1 ∨ (A.tx k).st = 2 ∨ (A.tx k).st = 3 ∨ (A.tx k).st = 4 := by
  intro k hk;have e1 : A.tx 1 = a := by unfold Bk.tx; rw [hA]; rfl
  have e2 : A.tx 2 = b := by unfold Bk.tx; rw [hA]; rfl
  rcases has2 hA hk with rfl | rfl
  · rw [e1]; exact ha
  · rw [e2]; exact hb
theorem pre1 : B0.Pre 1 0 5 false := pre_lit B0_lit (st2 rfl (by decide) (by decide)) fun k l m h1 h2 h3 => by
  obtain rfl : k = 1 := by omega
  obtain rfl : l = 0 := by omega
  obtain rfl : m = 5 := by omega
  exact prm_free (hold_no 0 (by decide) (by decide) (by decide)) (by decide) f1 B0'_lit (rn12 rfl rfl) rfl
theorem pl1 {B : Bk} {e : Nat} {rs : List Rn} (h : B0.Perf 1 false 0 5 0 0 B e rs) : e = 0 ∧ B = B1 := by
  cases h with
  | none h => exact absurd (by decide) h
  | aborted hk _ h => obtain rfl : _ = 1 := (Int.ofNat_inj.1 hk).symm; exact absurd h (by decide)
  | committed hk _ h => obtain rfl : _ = 1 := (Int.ofNat_inj.1 hk).symm; exact absurd h (by decide)
  | waiting hk _ h => obtain rfl : _ = 1 := (Int.ofNat_inj.1 hk).symm; exact absurd h (by decide)
  | range _ _ _ h => exact absurd h (by decide)
  | arg _ _ _ _ h => exact absurd h (by decide)
  | no hk _ _ hl hm _ _ _ _ ho he =>
    obtain rfl : _ = 1 := (Int.ofNat_inj.1 hk).symm;obtain rfl : _ = 0 := (Int.ofNat_inj.1 hl).symm;obtain rfl : _ = 5 := (Int.ofNat_inj.1 hm).symm;exact absurd (obt_free ho (hold_no 0 (by decide) (by decide) (by decide)) (by decide) f1).1 he
  | look hk _ _ hl hm hf ht _ _ ho =>
    obtain rfl : _ = 1 := (Int.ofNat_inj.1 hk).symm;obtain rfl : _ = 0 := (Int.ofNat_inj.1 hl).symm;obtain rfl : _ = 5 := (Int.ofNat_inj.1 hm).symm;obtain rfl : _ = 0 := (Int.ofNat_inj.1 hf).symm;obtain rfl : _ = 0 := (Int.ofNat_inj.1 ht).symm;obtain ⟨_, rfl⟩ := obt_free ho (hold_no 0 (by decide) (by decide) (by decide)) (by decide) f1;exact ⟨rfl, rfl⟩
  | move _ _ _ _ _ _ _ _ _ _ h => cases h
theorem pre2 : B1.Pre 2 3 8 false := pre_lit B1_lit (st2 rfl (by decide) (by decide)) fun k l m h1 h2 h3 => by
  obtain rfl : k = 2 := by omega
  obtain rfl : l = 3 := by omega
  obtain rfl : m = 8 := by omega
  exact prm_free (hold_no 3 (by decide) (by decide) (by decide)) (by decide) f2 B1'_lit (rn12 rfl rfl) rfl
theorem pl2 {B : Bk} {e : Nat} {rs : List Rn} (h : B1.Perf 2 false 3 8 0 0 B e rs) : e = 0 ∧ B = B2 := by
  cases h with
  | none h => exact absurd (by decide) h
  | aborted hk _ h => obtain rfl : _ = 2 := (Int.ofNat_inj.1 hk).symm; exact absurd h (by decide)
  | committed hk _ h => obtain rfl : _ = 2 := (Int.ofNat_inj.1 hk).symm; exact absurd h (by decide)
  | waiting hk _ h => obtain rfl : _ = 2 := (Int.ofNat_inj.1 hk).symm; exact absurd h (by decide)
  | range _ _ _ h => exact absurd h (by decide)
  | arg _ _ _ _ h => exact absurd h (by decide)
  | no hk _ _ hl hm _ _ _ _ ho he =>
    obtain rfl : _ = 2 := (Int.ofNat_inj.1 hk).symm;obtain rfl : _ = 3 := (Int.ofNat_inj.1 hl).symm;obtain rfl : _ = 8 := (Int.ofNat_inj.1 hm).symm;exact absurd (obt_free ho (hold_no 3 (by decide) (by decide) (by decide)) (by decide) f2).1 he
  | look hk _ _ hl hm hf ht _ _ ho =>
    obtain rfl : _ = 2 := (Int.ofNat_inj.1 hk).symm;obtain rfl : _ = 3 := (Int.ofNat_inj.1 hl).symm;obtain rfl : _ = 8 := (Int.ofNat_inj.1 hm).symm;obtain rfl : _ = 0 := (Int.ofNat_inj.1 hf).symm;obtain rfl : _ = 0 := (Int.ofNat_inj.1 ht).symm;obtain ⟨_, rfl⟩ := obt_free ho (hold_no 3 (by decide) (by decide) (by decide)) (by decide) f2;exact ⟨rfl, rfl⟩
  | move _ _ _ _ _ _ _ _ _ _ h => cases h
theorem B3_E {k j : Nat} (h : B3.E k j) : (k = 0 ∨ k = 1) ∧ j = 2 := by
  unfold Bk.E Bk.waits at h;split at h
  · simp at h
  · rename_i hs;have hk : k = 0 ∨ k = 1 := by
      rcases Nat.lt_or_ge k 3 with c | c
      · rcases (show k = 0 ∨ k = 1 ∨ k = 2 by omega) with rfl | rfl | rfl
        · exact .inl rfl
        · exact .inr rfl
        · exact absurd (by decide : (B3.tx 2).st ≠ 2) hs
      · refine absurd (?_ : (B3.tx k).st ≠ 2) hs;have : B3.tx k = Tx.new := by
          unfold Bk.tx;rw [List.getD_eq_getElem?_getD, List.getElem?_eq_none (by show 2 ≤ k - 1; omega)];rfl
        rw [this];decide
    have hreq : (B3.tx k).req = w1 := by rcases hk with rfl | rfl <;> rfl
    rw [hreq] at h;refine ⟨hk, ?_⟩;rcases List.mem_append.1 h with h | h
    · obtain ⟨h1, x, hx, hc⟩ := mem_owners.1 h;simp at h1;rcases h1 with rfl | rfl
      · exfalso;have : x = l1 := by simpa [Bk.tx] using hx
        subst this;exact absurd hc (by decide)
      · rfl
    · obtain ⟨h1, h2⟩ := mem_ahead.1 h;have h3 : j = 1 := by simpa using (List.takeWhile_sublist _).subset h1
      subst h3;exact absurd h2 (by decide)
theorem B3_R {k j : Nat} (h : B3.R k j) : (k = 0 ∨ k = 1) ∧ j = 2 := by
  induction h with
  | one h => exact B3_E h
  | more _ g ih => exact ⟨ih.1, by have := B3_E g; omega⟩
theorem B3_vic {v : Nat} (h : B3.IsVic 1 v) : v = 0 := by
  rcases h with h | ⟨_, h, _⟩
  · exact h.1
  · have h1 := B3_R h.1;have h2 := B3_R h.2;omega
theorem pre3 : B2.Pre 1 0 5 true := pre_lit B2_lit (st2 rfl (by decide) (by decide)) fun k l m h1 h2 h3 => by
  obtain rfl : k = 1 := by omega
  obtain rfl : l = 0 := by omega
  obtain rfl : m = 5 := by omega
  refine ⟨⟨fun A => A = B3, ?_, ?_, fun _ _ _ => rfl, ?_⟩, fun B hB => ?_⟩
  · rintro A rfl; exact B3_lit.good
  · rintro A v rfl _ hv h0; exact absurd (B3_vic hv) h0
  · rintro A rfl; decide
  · have hr : Res 1 B3 B 0 := obt_wait hB (hold_no 0 (by decide) (by decide) (by decide)) (by decide) f3;cases hr with
    | free h => exact absurd h (by decide)
    | next _ hv h0 => exact absurd (B3_vic hv) h0
theorem pm1 {B : Bk} {e : Nat} {rs : List Rn} (h : B2.Perf 1 true 0 5 0 1 B e rs) : e = 83 ∧ B = B3 := by
  have key : ∀ {B : Bk} {e : Nat}, B2.Obt 1 0 5 true B e → e = 83 ∧ B = B3 := fun {B e} ho => by
    have hr : Res 1 B3 B e := obt_wait ho (hold_no 0 (by decide) (by decide) (by decide)) (by decide) f3;cases hr with
    | free h => exact absurd h (by decide)
    | gone h => exact absurd h (by decide)
    | wait => exact ⟨rfl, rfl⟩
    | next _ hv h0 => exact absurd (B3_vic hv) h0
  cases h with
  | none h => exact absurd (by decide) h
  | aborted hk _ h => obtain rfl : _ = 1 := (Int.ofNat_inj.1 hk).symm; exact absurd h (by decide)
  | committed hk _ h => obtain rfl : _ = 1 := (Int.ofNat_inj.1 hk).symm; exact absurd h (by decide)
  | waiting hk _ h => obtain rfl : _ = 1 := (Int.ofNat_inj.1 hk).symm; exact absurd h (by decide)
  | range _ _ _ h => exact absurd h (by decide)
  | arg _ _ _ _ h => exact absurd h (by decide)
  | no hk _ _ hl hm _ _ _ _ ho he =>
    obtain rfl : _ = 1 := (Int.ofNat_inj.1 hk).symm;obtain rfl : _ = 0 := (Int.ofNat_inj.1 hl).symm;obtain rfl : _ = 5 := (Int.ofNat_inj.1 hm).symm;exact key ho
  | look _ _ _ _ _ _ _ _ _ _ h => cases h
  | move hk _ _ hl hm _ _ _ _ ho =>
    obtain rfl : _ = 1 := (Int.ofNat_inj.1 hk).symm;obtain rfl : _ = 0 := (Int.ofNat_inj.1 hl).symm;obtain rfl : _ = 5 := (Int.ofNat_inj.1 hm).symm;exact absurd (key ho).1 (by decide)
theorem B4_R : B4.R 2 2 := by
  refine .more (.one (j := 1) ?_) ?_
  · exact List.mem_append_left _ (mem_owners.2 ⟨by decide, l1, by decide, by decide⟩)
  · exact List.mem_append_left _ (mem_owners.2 ⟨by decide, l2, by decide, by decide⟩)
theorem B4_vic {v : Nat} (h : B4.IsVic 2 v) : v = 2 := by
  rcases h with h | ⟨_, h, hm⟩
  · exact absurd ⟨B4_R, B4_R⟩ (h.2 2)
  · have h1 := hm 2 ⟨B4_R, B4_R⟩;have h2 : v = 1 ∨ v = 2 := by
      rcases Bk.R_mem h.1 with h | h <;> simpa using h
    omega
theorem B4_ab : B4.abort 2 = B5 := by
  have hf : Bk.free ((B4.setT 2 ⟨4, [l2], Lk.zero, []⟩).off 2) w1 [] = true := by
    rw [free_iff];decide
  have hg : Bk.gr ((B4.setT 2 ⟨4, [l2], Lk.zero, []⟩).off 2) [1] [] = (Bk.grant ((B4.setT 2 ⟨4, [l2], Lk.zero, []⟩).off 2) 1, []) := by
    rw [gr];rw [show (Bk.tx ((B4.setT 2 ⟨4, [l2], Lk.zero, []⟩).off 2) 1).req = w1 from rfl, hf, if_pos rfl];rfl
  unfold Bk.abort Bk.release;show { (Bk.gr ((B4.setT 2 ⟨4, [l2], Lk.zero, []⟩).off 2) [1] []).1 with q := (Bk.gr ((B4.setT 2 ⟨4, [l2], Lk.zero, []⟩).off 2) [1] []).2 } = B5;rw [hg];rfl
theorem pre4 : B3.Pre 2 3 8 true := pre_lit B3_lit (st2 rfl (by decide) (by decide)) fun k l m h1 h2 h3 => by
  obtain rfl : k = 2 := by omega
  obtain rfl : l = 3 := by omega
  obtain rfl : m = 8 := by omega
  refine ⟨⟨fun A => A = B4 ∨ A = B5, ?_, ?_, fun _ _ _ => .inl rfl, ?_⟩, fun B hB => ?_⟩
  · rintro A (rfl | rfl)
    · exact B4_lit.good
    · exact B5_lit.good
  · rintro A v (rfl | rfl) hs hv h0
    · rw [B4_vic hv, B4_ab]; exact .inr rfl
    · exact absurd hs (by decide)
  · rintro A (rfl | rfl) <;> decide
  · have hr : Res 2 B4 B 0 := obt_wait hB (hold_no 3 (by decide) (by decide) (by decide)) (by decide) f4;cases hr with
    | free h => exact absurd h (by decide)
    | next _ hv h0 hn =>
      rw [B4_vic hv, B4_ab] at hn;cases hn with
      | free h => exact absurd h (by decide)
      | next h => exact absurd h (by decide)
theorem pm2 {B : Bk} {e : Nat} {rs : List Rn} (h : B3.Perf 2 true 3 8 0 2 B e rs) : e = 84 ∧ B = B5 := by
  have key : ∀ {B : Bk} {e : Nat}, B3.Obt 2 3 8 true B e → e = 84 ∧ B = B5 := fun {B e} ho => by
    have hr : Res 2 B4 B e := obt_wait ho (hold_no 3 (by decide) (by decide) (by decide)) (by decide) f4;cases hr with
    | free h => exact absurd h (by decide)
    | gone h => exact absurd h (by decide)
    | wait _ hv => exact absurd (B4_vic hv) (by decide)
    | next _ hv h0 hn =>
      rw [B4_vic hv, B4_ab] at hn;cases hn with
      | free h => exact absurd h (by decide)
      | gone => exact ⟨rfl, rfl⟩
      | wait h => exact absurd h (by decide)
      | next h => exact absurd h (by decide)
  cases h with
  | none h => exact absurd (by decide) h
  | aborted hk _ h => obtain rfl : _ = 2 := (Int.ofNat_inj.1 hk).symm; exact absurd h (by decide)
  | committed hk _ h => obtain rfl : _ = 2 := (Int.ofNat_inj.1 hk).symm; exact absurd h (by decide)
  | waiting hk _ h => obtain rfl : _ = 2 := (Int.ofNat_inj.1 hk).symm; exact absurd h (by decide)
  | range _ _ _ h => exact absurd h (by decide)
  | arg _ _ _ _ h => exact absurd h (by decide)
  | no hk _ _ hl hm _ _ _ _ ho he =>
    obtain rfl : _ = 2 := (Int.ofNat_inj.1 hk).symm;obtain rfl : _ = 3 := (Int.ofNat_inj.1 hl).symm;obtain rfl : _ = 8 := (Int.ofNat_inj.1 hm).symm;exact key ho
  | look _ _ _ _ _ _ _ _ _ _ h => cases h
  | move hk _ _ hl hm _ _ _ _ ho =>
    obtain rfl : _ = 2 := (Int.ofNat_inj.1 hk).symm;obtain rfl : _ = 3 := (Int.ofNat_inj.1 hl).symm;obtain rfl : _ = 8 := (Int.ofNat_inj.1 hm).symm;exact absurd (key ho).1 (by decide)
end Bk
end Go.KL
end

section
/- Walks: awake. -/
namespace Go.KL
open Go.Proofs Go.Proofs.Tryz
attribute [local irreducible] SC St Fin Sq Ylds Doos Sets Enters Spec CellIs CellsAre Then Ret Rnd Chn resOK ints bools recs arr
theorem awake_spec {W : World} {N : List Chunk} : Spec prog 13 #[] (K W N) (fun _ : Unit => .bool true) (fun _ => K W N) := by
  refine enter (args := []) func13 rfl ntmps13 rfl ?_;refine csr (sa ?_);refine snf (csr (St.cls (C' := K W ([] :: N)) ?_ (fun w h => h.addNil)));refine s_call (en_f rfl call25) (mnew_spec (n := 10) (R := N) (by decide) (by decide)) rfl rfl rfl (fun x => ?_);obtain ⟨⟨p, v⟩, hS, hM⟩ := x;dsimp only at hS hM ⊢;obtain ⟨a, rfl⟩ := hM.ptr;refine sm ?_;refine sx ?_;refine sx ?_;refine sal fun b1 => ?_;refine ss (set_box tab 0 rfl rfl rfl rfl rfl rfl rfl) ?_;refine sa ?_;refine snf (csr (sy (y_loadA tab rfl rfl rfl rfl (cells_row0 0 rfl rfl)) ?_));refine St.cls (C' := K W (p :: [(b1, row 29 [.pointer (some a)])] :: N)) ?_ (fun w h => K.front 1 h);refine sk call15 (New_b (N := [(b1, row 29 [.pointer (some a)])] :: N) hM) fun x => ?_;obtain ⟨g0, hB0, hb0, _⟩ := x;dsimp only;have hr0 : g0.rn = [] := congrArg Bk.rn hb0;have ht0 : g0.ts.length = 0 := by
    have := congrArg (fun A : Bk => A.ts.length) hb0;simpa [Bg.bk, Bk.fresh] using this
  refine sm ?_;refine sx ?_;refine sx ?_;refine sa ?_;refine sa ?_;refine snf (csr (sm ?_));refine s_call (en_f rfl call26) (Begin_b (N := [(b1, row 29 [.pointer (some a)])] :: N) hB0 (by omega)) rfl rfl rfl (fun x => ?_);obtain ⟨⟨g1, n1, e1⟩, hB1, hbb1, hc1⟩ := x;dsimp only at hB1 hbb1 hc1 ⊢;rcases hc1 with ⟨h, _⟩ | ⟨_, hb1, he1⟩
  · rw [hr0] at h;exact absurd h (by decide)
  obtain ⟨rfl, rfl⟩ := Prod.mk.inj he1;rw [hb0] at hb1;have hr1 : g1.rn.length = 1 := congrArg (fun A : Bk => A.rn.length) hb1;have ht1 : g1.ts.length = 1 := by
    have := congrArg (fun A : Bk => A.ts.length) hb1;simpa [Bg.bk, Bk.fresh, Bk.begin] using this
  have hB1b := Begin_b (W := W) (N := [(b1, row 29 [.pointer (some a)])] :: N) hB1 (by omega);rw [hbb1] at hB1b;rw [ht0];refine sm ?_;refine sx ?_;refine sx ?_;refine sa ?_;refine sa ?_;refine snf (csr (sm ?_));refine sk call26 hB1b fun x => ?_;obtain ⟨⟨g2, n2, e2⟩, hB2, hbb2, hc2⟩ := x;dsimp only at hB2 hbb2 hc2 ⊢;rcases hc2 with ⟨h, _⟩ | ⟨_, hb2, he2⟩
  · omega
  obtain ⟨rfl, rfl⟩ := Prod.mk.inj he2;rw [hb1] at hb2;change g2.bk = Bk.B0 at hb2;rw [ht1];have hL1 := Look_b (W := W) (N := [(b1, row 29 [.pointer (some a)])] :: N) (tx := 1) (lo := 0) (hi := 5) hB2 (by rw [hb2]; exact Bk.pre1);rw [hbb2] at hL1;refine sm ?_;refine sx ?_;refine sx ?_;refine sa ?_;refine sa ?_;refine snf (c_seq (csr (sm ?_)));refine sy (y_F (y_neq rfl rfl) (by omega)) ?_;refine sm ?_;refine sm ?_;refine sy (y_F (y_neq rfl rfl) (by omega)) ?_;refine spF ?_;refine sm ?_;refine sm ?_;refine sy (y_F (y_neq rfl rfl) (by omega)) ?_;refine spF ?_;refine sm ?_;refine sm ?_;refine sy (y_F (y_neq rfl rfl) (by omega)) ?_;refine spF ?_;refine sm ?_;refine sm ?_;refine sy (y_F (y_neq rfl rfl) (by omega)) ?_;refine spF ?_;refine sm ?_;refine sm ?_;refine sy (y_F (y_neq rfl rfl) (by omega)) ?_;refine spF ?_;refine snf (c_condF rfl (c_skip (f_then (csr (sm ?_)))));refine sk call28 hL1 fun x => ?_;obtain ⟨⟨g3, e3, r3, v3, c3⟩, hB3, hp3, hA3, _⟩ := x;dsimp only at hB3 hp3 hA3 ⊢;rw [hb2] at hp3;obtain ⟨rfl, hb3⟩ := Bk.pl1 hp3;refine St.cls (C' := K W (g3.L ++ (c3 :: [(b1, row 29 [.pointer (some a)])] :: N))) ?_ (fun w h => K.bckN (A := [c3]) (B := g3.L) h);have hL2 := Look_b (W := W) (N := c3 :: [(b1, row 29 [.pointer (some a)])] :: N) (tx := 2) (lo := 3) (hi := 8) hB3 (by rw [hb3]; exact Bk.pre2);rw [hA3.b, hbb2] at hL2;refine sm ?_;refine sx ?_;refine sx ?_;refine sa ?_;refine snf (csr (sm ?_));refine sk call28 hL2 fun x => ?_;obtain ⟨⟨g4, e4, r4, v4, c4⟩, hB4, hp4, hA4, _⟩ := x;dsimp only at hB4 hp4 hA4 ⊢;rw [hb3] at hp4;obtain ⟨rfl, hb4⟩ := Bk.pl2 hp4;refine St.cls (C' := K W (g4.L ++ (c4 :: c3 :: [(b1, row 29 [.pointer (some a)])] :: N))) ?_ (fun w h => K.bckN (A := [c4]) (B := g4.L) h);have hM1 := Move_b (W := W) (N := c4 :: c3 :: [(b1, row 29 [.pointer (some a)])] :: N) (tx := 1) (lo := 0) (hi := 5) (fr := 0) (to := 1) hB4 (by rw [hb4]; exact Bk.pre3);rw [hA4.b, hA3.b, hbb2] at hM1;refine sm ?_;refine sx ?_;refine sx ?_;refine sa ?_;refine snf (c_seq (csr (sm ?_)));refine sy (y_F (y_neq rfl rfl) (by omega)) ?_;refine sm ?_;refine sm ?_;refine sy (y_F (y_neq rfl rfl) (by omega)) ?_;refine spF ?_;refine sm ?_;refine sm ?_;refine sk call27 hM1 fun x => ?_;obtain ⟨⟨g5, e5, r5, v5, c5⟩, hB5, hp5, hA5, _⟩ := x;dsimp only at hB5 hp5 hA5 ⊢;rw [hb4] at hp5;obtain ⟨rfl, hb5⟩ := Bk.pm1 hp5;refine St.cls (C' := K W (g5.L ++ (c5 :: c4 :: c3 :: [(b1, row 29 [.pointer (some a)])] :: N))) ?_ (fun w h => K.bckN (A := [c5]) (B := g5.L) h);have hM2 := Move_b (W := W) (N := c5 :: c4 :: c3 :: [(b1, row 29 [.pointer (some a)])] :: N) (tx := 2) (lo := 3) (hi := 8) (fr := 0) (to := 2) hB5 (by rw [hb5]; exact Bk.pre4);rw [hA5.b, hA4.b, hA3.b, hbb2] at hM2;refine sy (y_F (y_neq rfl rfl) (by omega)) ?_;refine spF ?_;refine sm ?_;refine sm ?_;refine sk call27 hM2 fun x => ?_;obtain ⟨⟨g6, e6, r6, v6, c6⟩, hB6, hp6, hA6, _⟩ := x;dsimp only at hB6 hp6 hA6 ⊢;rw [hb5] at hp6;obtain ⟨rfl, hb6⟩ := Bk.pm2 hp6;refine St.cls (C' := K W (g6.L ++ (c6 :: c5 :: c4 :: c3 :: [(b1, row 29 [.pointer (some a)])] :: N))) ?_ (fun w h => K.bckN (A := [c6]) (B := g6.L) h);have hS1 := State_b (W := W) (N := c6 :: c5 :: c4 :: c3 :: [(b1, row 29 [.pointer (some a)])] :: N) (tx := 1) hB6;have hS2 := State_b (W := W) (N := c6 :: c5 :: c4 :: c3 :: [(b1, row 29 [.pointer (some a)])] :: N) (tx := 2) hB6;rw [hA6.b, hA5.b, hA4.b, hA3.b, hbb2, hb6] at hS1 hS2;refine sy (y_F (y_neq rfl rfl) (by omega)) ?_;refine spF ?_;refine sm ?_;refine sm ?_;refine sk call38 hS1 fun _ => ?_;rw [show Bk.stI Bk.B5 1 = 1 from rfl];refine sy (y_F (y_neq rfl rfl) (by omega)) ?_;refine spF ?_;refine sm ?_;refine sm ?_;refine sk call38 hS2 fun _ => ?_;rw [show Bk.stI Bk.B5 2 = 4 from rfl];refine sy (y_F (y_neq rfl rfl) (by omega)) ?_;refine spF ?_;refine snf (c_condF rfl (c_skip (f_then (csr (sa ?_)))));refine snf (c_ret ?_);exact f_ret () (res1 rfl rfl) (fun w h => by
    have h2 := K.bckN (A := g6.L ++ [c6, c5, c4, c3, [(b1, row 29 [.pointer (some a)])]]) (B := N) (N := []) (by simpa using h);have h3 : K W (N ++ ((g6.L ++ [c6, c5, c4, c3, [(b1, row 29 [.pointer (some a)])]]) ++ [])) w := h2;exact h3.weak ((g6.L ++ [c6, c5, c4, c3, [(b1, row 29 [.pointer (some a)])]]) ++ []).flatten (by simp))
end Go.KL
end

section
/- Views appended; parts of views. No program in sight. -/
namespace Go.KL
section
variable {P : Program} {W w : World} {Ls : List Chunk} {n : Nat} {σ : Slots} {C D : World → Prop} {dst : Option Tmp} {ty : TypeId} {pos : String} {after : Array Edge} {guard : Option (Nat × Bool)} {e : TypeId} {s : Nat} {v : Value} {c p : Chunk} {rows rows' : List (List Value)}
def frv : Value → Nat → Nat → Value
  | .slice p m c, k, s => .slice (if c = k then p else p.map (·.add (k * s))) (m - k) (c - k)
  | x, _, _ => x
theorem EV.fr (h : EV C v s rows) {k : Nat} (hk : k ≤ rows.length) : EV C (frv v k s) s (rows.drop k) := by
  have hl := h.len;obtain ⟨pa, c, rfl, hc, hv⟩ := h.view;refine ⟨fun x hx => hl x (List.mem_of_mem_drop hx), ?_⟩;rw [List.length_drop];refine ⟨_, _, rfl, by omega, fun h0 => ?_⟩;obtain ⟨b, o, rfl, h3⟩ := hv (by omega);rw [if_neg (by omega)];refine ⟨b, o + k * s, by rw [Option.map_some, Go.WideShapes.add_plain], fun i hi j hj => ?_⟩;have := h3 (k + i) (by omega) j hj;rw [show o + (k + i) * s + j = o + k * s + i * s + j by rw [Nat.add_mul]; omega] at this;simp only [rix, List.getD_eq_getElem?_getD] at this ⊢;rw [List.getElem?_drop];exact this
theorem y_slFrE (T : Tab P) {x a1 : Operand} {t e : TypeId} {k : Nat} {z : Int} (hx : ev σ x = some v) (hh : ev σ a1 = some (.int .i64 z)) (ht : T.und t = some (.slice e)) (hs : T.size e = some s) (hV : EV C v s rows) (e2 : z = (k : Int)) (hk : k ≤ rows.length) :
    Ylds P n σ C ⟨dst, .slice t x (some a1) none none, ty, pos, after, guard⟩ (frv v k s) := by
  obtain ⟨pa, c, rfl, hc, _⟩ := hV.view;exact y_sliceFrom T hx hh ht hs e2 hk hc
theorem do_appendRV (T : Tab P) (i : Nat) {x y : Operand} {t : TypeId} {by_ : Nat} {z : List Value} {u : Value} (hx : ev σ x = some v) (hB : BufR e s v c rows) (hy : ev σ y = some u) (hV : EV (K W Ls) u s rows')
    (hT : TabE T t e s by_ z) (hzs : z.length = s) (hs0 : 0 < s) (hl : i < Ls.length) (hi : Ls.getD i [] = c) (h1 : ∀ r ∈ rows', r.all Value.oneCell' = true) (hmax : rows.length + rows'.length < 1000000) (hby : by_ ≤ 1000) :
    Doos P n σ (K W Ls) ⟨dst, .call ⟨.builtin .append, #[x, y], #[t, t]⟩, ty, pos, after, guard⟩ (X := { u : Value × Chunk // BufR e s u.1 u.2 (rows ++ rows') }) (fun u => u.1.1) (fun u => K W (Ls.set i u.1.2)) := by
  have h2 : (rows.length + rows'.length) * by_ ≤ 1000000 * 1000 := Nat.mul_le_mul (by omega) hby
  have hlen := lens.app.2 ⟨hB.len, hV.len⟩;have hfl := flat_len hV.len;by_cases h0 : rows'.length = 0
  · obtain rfl : rows' = [] := List.eq_nil_of_length_eq_zero h0;obtain ⟨pa, k, rfl, hk, hc⟩ := hV.view;rcases hB.buf.ok with ⟨hz, hz2, rfl, rfl⟩ | ⟨o, rfl, rfl, ho, hp⟩
    · intro a w hE hw;refine ⟨⟨(.slice none 0 0, []), by rw [List.append_nil]; exact hB⟩, w, ?_, ?_⟩
      · exact y_append_nn (C := K W Ls) T hx hy hT a w hE hw
      · show K W (Ls.set i []) w;rw [set_same hl hi]; exact hw
    · intro a w hE hw;obtain ⟨o', w', hr, hk'⟩ := do_append0 (W := W) (Ls := Ls) (n := n) (dst := dst) (ty := ty) (pos := pos) (after := after) (guard := guard) T i hx hy hT hi ho a w hE hw;refine ⟨⟨(osl o'.1 (rows.length + 0), och e o'.1 (rows.flatten ++ [])), ⟨hlen, ⟨.inr ⟨o'.1, ?_, by simp, ?_, ?_⟩⟩⟩⟩, w', hr, hk'⟩
      · simp
      · simpa using o'.2.1
      · have := o'.2.2;exact List.eq_nil_of_length_eq_zero (Nat.le_zero.1 (Nat.le_trans this (by rw [hp]; exact Nat.le_refl 0)))
  · obtain ⟨pa, k, rfl, hk, hc⟩ := hV.view;obtain ⟨b, o2, rfl, h3⟩ := hc (by omega);have hn : CellsAre (K W Ls) ⟨b, o2, none⟩ rows'.flatten := fun w hw j hj => by
      have hj2 : j / s < rows'.length := by
        rw [hfl] at hj;exact (Nat.div_lt_iff_lt_mul hs0).2 hj
      have h4 := hV.view.cell (i := j / s) (j := j % s) hj2 (Nat.mod_lt _ hs0) w hw;obtain ⟨x, hx⟩ : ∃ x, rows'[j / s]? = some x := ⟨rows'[j / s], by simp [hj2]⟩;have h5 := flat_get hV.len hx (j := j % s) (Nat.mod_lt _ hs0);have h6 : j / s * s + j % s = j := Nat.div_add_mod' j s;rw [h6] at h5;rw [addr_add];simp only [vblk, voff] at h4;rw [show o2 + j / s * s + j % s = o2 + j by omega] at h4;rw [h4, h5];have h7 : j % s < x.length := by rw [hV.len x (List.mem_of_getElem? hx)]; exact Nat.mod_lt _ hs0
      simp [rix, List.getD_eq_getElem?_getD, hx, h7]
    intro a w hE hw;obtain ⟨u, w', hr, hk'⟩ := do_appendB (W := W) (n := n) (σ := σ) (dst := dst) (ty := ty) (pos := pos) (after := after) (guard := guard) (k := rows'.length) T i hx hB.buf hy hT hzs hl hi (by omega) hn hfl (fun v hv => by
      obtain ⟨r, hr, hv⟩ := List.mem_flatten.1 hv;exact List.all_eq_true.1 (h1 r hr) v hv) (by unfold maxLen; omega) (by omega) a w hE hw
    exact ⟨⟨u.1, ⟨hlen, by
      have := u.2;rw [List.length_append, List.flatten_append];exact this⟩⟩, w', hr, hk'⟩
theorem CellsAre.nth {b o : Nat} {l : List Value} {x : Value} (j : Nat) (h : CellsAre C ⟨b, o, none⟩ l) (hx : l[j]? = some x) : CellIs C ⟨b, o + j, none⟩ x := fun w hw => by
  have hj : j < l.length := by
    rcases Nat.lt_or_ge j l.length with c | c
    · exact c
    · rw [List.getElem?_eq_none c] at hx; cases hx
  have h1 := h w hw j hj;rw [addr_add] at h1;rw [h1, hx]
theorem BufR.lit {b : Nat} : BufR e s (.slice (some ⟨b, 0, none⟩) 0 0) [(b, row e [])] [] := ⟨lens.nil, ⟨.inr ⟨⟨b, 0, [], []⟩, rfl, rfl, ⟨Nat.le_refl _, by simp, by simp, by simp⟩, rfl⟩⟩⟩
end
end Go.KL
end

section
/- Walks: Join, Of. -/
namespace Go.KL
open Go.Proofs Go.Proofs.Tryz
theorem rnl_get {R : List Rn} {i : Nat} {x : Rn} (h : R[i]? = some x) : (rnl R)[i]? = some (rnc x) := by rw [List.getElem?_map, h]; rfl
theorem rnl_one {R : List Rn} : ∀ r ∈ rnl R, r.all Value.oneCell' = true := fun r hr => by
  obtain ⟨x, _, rfl⟩ := List.mem_map.1 hr;rfl
attribute [local irreducible] SC St Fin Sq Ylds Doos Sets Enters Spec CellIs CellsAre Then Ret Rnd Chn resOK ints bools recs arr
theorem rjoin_spec {W : World} {N : List Chunk} {v : Value} {c : Chunk} {R : List Rn} {lo hi tag : Nat} (hB : BufR 26 3 v c (rnl R)) (hl : R.length < 100000) : Spec prog 68 #[v, .agg #[.int .i64 (lo : Nat), .int .i64 (hi : Nat), .int .i64 (tag : Nat)]] (K W (c :: N))
    (X := { x : Value × Chunk // BufR 26 3 x.1 x.2 (rnl (jn R (lo, hi, tag))) }) (fun x => x.1.1) (fun x => K W (x.1.2 :: N)) := by
  have hrl : (rnl R).length = R.length := List.length_map _;have h1 := hB.one;refine enter (args := [_, _]) func68 rfl ntmps68 rfl ?_;refine csr (sbx fun b3 => ?_);by_cases c0 : hi ≤ lo
  · refine sa ?_;refine snf (c_seq (csr (sf0 ?_)));refine slr 0 ?_;refine sf 1 ?_;refine slr 0 ?_;refine sy (y_T (y_geq rfl rfl) (by omega)) ?_;refine snf (c_condT rfl (csr (sm ?_)));refine sa ?_;refine snf (c_ret (f_thenR ?_));exact f_ret ⟨(v, c), hB.of (by rw [jn, if_pos c0])⟩ (res1 rfl rfl) (fun w h => h.tail)
  rcases List.eq_nil_or_concat R with e | ⟨R', y, e⟩
  · subst e;refine sa ?_;refine snf (c_seq (csr (sf0 ?_)));refine slr 0 ?_;refine sf 1 ?_;refine slr 0 ?_;refine sy (y_F (y_geq rfl rfl) (by omega)) ?_;refine snf (c_condF rfl (c_skip (f_then (csr (sm ?_)))));refine sy (y_lenR' tab rfl hB rfl) ?_;refine sa ?_;refine snf (c_seq (c_seq (c_quiet mixed (by kernel_rfl) K.drew ?_)));refine q_y (y_move rfl) rfl rfl rfl ?_;refine q_y (y_gtr rfl rfl) rfl rfl rfl ?_;refine q_y (y_move rfl) rfl rfl rfl ?_
    iterate 9 refine q_skip rfl rfl rfl ?_
    refine q_y (y_pickF rfl rfl) rfl rfl rfl ?_;refine q_nil (f_then (c_condF rfl (c_skip (f_then (csr (sm ?_))))));refine sy (y_loadA tab rfl rfl rfl rfl (cells_row0 0 rfl rfl)) ?_;refine s_do (do_buildSliceS tab ⟨rfl, rfl, rfl, rfl⟩ rfl rfl rfl rfl) rfl rfl rfl (fun b50 => ?_);refine s_do (do_appendR (by_ := 24) (news := rnc (lo, hi, tag)) tab 2 rfl hB rfl ⟨rfl, rfl, rfl, rfl⟩ rfl (by simp) rfl (cells_row0 0 rfl rfl) rfl rfl (by omega) (by omega)) rfl rfl rfl (fun x => ?_);obtain ⟨⟨u, d⟩, hu⟩ := x;dsimp only at hu ⊢;refine sa ?_;refine snf (c_ret ?_);exact f_ret ⟨(u, d), hu.of (by rw [jn_nil _ (by show lo < hi; omega)]; rfl)⟩ (res1 rfl rfl) (fun w h => h.tail.tail)
  · rw [List.concat_eq_append] at e;subst e;have hE : EV (K W ([(b3, row 26 [.int .i64 (lo : Nat), .int .i64 (hi : Nat), .int .i64 (tag : Nat)])] :: c :: N)) v 3 (rnl (R' ++ [y])) := hB.view (Hs.at 1 rfl);have hl2 : (R' ++ [y]).length = R'.length + 1 := by simp
    have hcy : CellsAre (K W ([(b3, row 26 [.int .i64 (lo : Nat), .int .i64 (hi : Nat), .int .i64 (tag : Nat)])] :: c :: N)) ⟨vblk v, voff v + R'.length * 3, none⟩ [.int .i64 (y.1 : Nat), .int .i64 (y.2.1 : Nat), .int .i64 (y.2.2 : Nat)] := hE.row (rnl_get (i := R'.length) (x := y) (by simp));have hjn := jn_snoc R' y (lo, hi, tag) (by show lo < hi; omega);have e1 : ((rnl (R' ++ [y])).length : Int) - 1 = (R'.length : Nat) := by omega
    by_cases c1 : y.2.2 = tag
    · rw [if_pos c1] at hjn;refine sa ?_;refine snf (c_seq (csr (sf0 ?_)));refine slr 0 ?_;refine sf 1 ?_;refine slr 0 ?_;refine sy (y_F (y_geq rfl rfl) (by omega)) ?_;refine snf (c_condF rfl (c_skip (f_then (csr (sm ?_)))));refine sy (y_lenE tab rfl (hE) rfl) ?_;refine sa ?_;refine snf (c_seq (c_seq (c_quiet mixed (by kernel_rfl) K.drew ?_)));refine q_y (y_move rfl) rfl rfl rfl ?_;refine q_y (y_T (y_gtr rfl rfl) (by omega)) rfl rfl rfl ?_;refine q_y (y_move rfl) rfl rfl rfl ?_;refine q_y (y_move rfl) rfl rfl rfl ?_;refine q_y (y_move rfl) rfl rfl rfl ?_;refine q_y (y_sub rfl rfl (by omega)) rfl rfl rfl ?_;refine q_y (y_ixE tab rfl rfl rfl rfl hE R'.length e1 (by omega)) rfl rfl rfl ?_;refine q_y (y_fieldAddr tab 2 rfl rfl rfl rfl rfl) rfl rfl rfl ?_;refine q_y (y_load tab rfl rfl (CellsAre.nth 2 (hcy) rfl)) rfl rfl rfl ?_;refine q_y (y_fieldAddrB tab 2 rfl rfl rfl rfl rfl) rfl rfl rfl ?_;refine q_y (y_load tab rfl rfl (cell_row 0 rfl rfl)) rfl rfl rfl ?_;refine q_y (y_T (y_eql rfl rfl) (by omega)) rfl rfl rfl ?_;refine q_y (y_pickT rfl rfl) rfl rfl rfl ?_;refine q_nil (f_then (c_condT rfl (csr (sa ?_))));refine snf (csr (sm ?_));refine sm ?_;refine sm ?_;refine sy (y_sub rfl rfl (by omega)) ?_;refine sy (y_toV tab rfl rfl rfl rfl hE e1 (by omega)) ?_;refine St.cls (C' := K W ([] :: [(b3, row 26 [.int .i64 (lo : Nat), .int .i64 (hi : Nat), .int .i64 (tag : Nat)])] :: c :: N)) ?_ (fun w h => h.addNil);refine s_do (do_appendRV (by_ := 24) tab 0 rfl .nil rfl ((hE.to (k := R'.length) (by omega)).cons) ⟨rfl, rfl, rfl, rfl⟩ rfl (by omega) (Nat.lt_of_sub_eq_succ rfl) rfl (fun r hr => rnl_one r (List.mem_of_mem_take hr)) (by simp; omega) (by omega)) rfl rfl rfl (fun x => ?_);obtain ⟨⟨u, d⟩, hu⟩ := x;have hu : BufR 26 3 u d (rnl R') := hu.of (by simp [rnl]);dsimp only;have hur : (rnl R').length = R'.length := List.length_map _;have hE2 : EV (K W (d :: [(b3, row 26 [.int .i64 (lo : Nat), .int .i64 (hi : Nat), .int .i64 (tag : Nat)])] :: c :: N)) v 3 (rnl (R' ++ [y])) := hE.cons;have hcy2 := hcy.cons (c := d);refine sa ?_;refine snf (c_seq (c_plan [.c 0, .c 1, .c 2, .c 3, .c 4, .c 5, .c 6, .c 7, .c 8, .c 9, .c 10, .c 11, .s 12, .s 13, .c 14] [] ((K W ([(b3, row 26 [.int .i64 (lo : Nat), .int .i64 (hi : Nat), .int .i64 (tag : Nat)])] :: c :: N))) mixed (by kernel_rfl) rfl K.cl ?_));refine dy rfl (y_move rfl) (fun _ h => h.tail) ?_;refine dy rfl (y_move rfl) (fun _ h => h.tail) ?_;refine dy rfl (y_move rfl) (fun _ h => h.tail) ?_;refine dy rfl (y_sub rfl rfl (by omega)) (fun _ h => h.tail) ?_;refine dy rfl (y_ixE tab rfl rfl rfl rfl hE R'.length e1 (by omega)) (fun w h => h.tail) ?_;refine dy rfl (y_fieldAddr0 tab rfl rfl rfl rfl rfl) (fun _ h => h.tail) ?_;refine dy rfl (y_load tab rfl rfl (CellsAre.at0 (hcy) rfl)) (fun _ h => h.tail) ?_;refine dy rfl (y_fieldAddrB tab 1 rfl rfl rfl rfl rfl) (fun _ h => h.tail) ?_;refine dy rfl (y_load tab rfl rfl (cell_row 0 rfl rfl)) (fun _ h => h.tail) ?_;refine dy rfl (y_fieldAddrB tab 2 rfl rfl rfl rfl rfl) (fun _ h => h.tail) ?_;refine dy rfl (y_load tab rfl rfl (cell_row 0 rfl rfl)) (fun _ h => h.tail) ?_;refine dy rfl (y_build tab rfl rfl rfl rfl rfl) (fun _ h => h.tail) ?_;refine d_s rfl (do_buildSliceS tab ⟨rfl, rfl, rfl, rfl⟩ rfl rfl rfl rfl) rfl rfl rfl (fun _ => K.cl) (fun _ _ _ h => h.tail.tail) (fun b46 => ?_);refine d_s rfl (do_appendR (by_ := 24) (news := rnc (y.1, hi, tag)) tab 1 rfl hu rfl ⟨rfl, rfl, rfl, rfl⟩ rfl (Nat.lt_of_sub_eq_succ rfl) rfl (cells_row0 0 rfl rfl) rfl rfl (by omega) (by omega)) rfl rfl rfl (fun _ => K.cl) (fun _ _ _ h => h.tail.tail) (fun x => ?_);obtain ⟨⟨u', d'⟩, hu'⟩ := x;dsimp only at hu' ⊢;refine dy rfl (y_assign rfl) (fun _ h => h.tail.tail) ?_;refine d_nil (f_then (c_ret (f_thenR ?_)));exact f_ret ⟨(u', d'), hu'.of (by rw [hjn]; simp [rnl])⟩ (res1 rfl rfl) (fun w h => (h.tail.dropAt 1).dropAt 1)
    · rw [if_neg c1] at hjn;refine sa ?_;refine snf (c_seq (csr (sf0 ?_)));refine slr 0 ?_;refine sf 1 ?_;refine slr 0 ?_;refine sy (y_F (y_geq rfl rfl) (by omega)) ?_;refine snf (c_condF rfl (c_skip (f_then (csr (sm ?_)))));refine sy (y_lenE tab rfl (hE) rfl) ?_;refine sa ?_;refine snf (c_seq (c_seq (c_quiet mixed (by kernel_rfl) K.drew ?_)));refine q_y (y_move rfl) rfl rfl rfl ?_;refine q_y (y_T (y_gtr rfl rfl) (by omega)) rfl rfl rfl ?_;refine q_y (y_move rfl) rfl rfl rfl ?_;refine q_y (y_move rfl) rfl rfl rfl ?_;refine q_y (y_move rfl) rfl rfl rfl ?_;refine q_y (y_sub rfl rfl (by omega)) rfl rfl rfl ?_;refine q_y (y_ixE tab rfl rfl rfl rfl hE R'.length e1 (by omega)) rfl rfl rfl ?_;refine q_y (y_fieldAddr tab 2 rfl rfl rfl rfl rfl) rfl rfl rfl ?_;refine q_y (y_load tab rfl rfl (CellsAre.nth 2 (hcy) rfl)) rfl rfl rfl ?_;refine q_y (y_fieldAddrB tab 2 rfl rfl rfl rfl rfl) rfl rfl rfl ?_;refine q_y (y_load tab rfl rfl (cell_row 0 rfl rfl)) rfl rfl rfl ?_;refine q_y (y_F (y_eql rfl rfl) (by omega)) rfl rfl rfl ?_;refine q_y (y_pickT rfl rfl) rfl rfl rfl ?_;refine q_nil (f_then (c_condF rfl (c_skip (f_then (csr (sm ?_))))));refine sy (y_loadA tab rfl rfl rfl rfl (cells_row0 0 rfl rfl)) ?_;refine s_do (do_buildSliceS tab ⟨rfl, rfl, rfl, rfl⟩ rfl rfl rfl rfl) rfl rfl rfl (fun b50 => ?_);refine s_do (do_appendR (by_ := 24) (news := rnc (lo, hi, tag)) tab 2 rfl hB rfl ⟨rfl, rfl, rfl, rfl⟩ rfl (Nat.lt_of_sub_eq_succ rfl) rfl (cells_row0 0 rfl rfl) rfl rfl (by omega) (by omega)) rfl rfl rfl (fun x => ?_);obtain ⟨⟨u, d⟩, hu⟩ := x;dsimp only at hu ⊢;refine sa ?_;refine snf (c_ret ?_);exact f_ret ⟨(u, d), hu.of (by rw [hjn]; simp [rnl])⟩ (res1 rfl rfl) (fun w h => h.tail.tail)
def tgf (f : Nat → Int) (i : Nat) : Nat := (f i % 16).toNat
theorem rnsK_len_le (f : Nat → Nat) (lo : Nat) : ∀ k, (rnsK f lo k).length ≤ k
  | 0 => Nat.le_refl _
  | k + 1 => by
    have ih := rnsK_len_le f lo k;rw [rnsK, jn];split
    · omega
    · split
      · simp
      · split
        · rw [List.length_append, List.length_dropLast];simp;omega
        · rw [List.length_append];simp;omega
theorem of_spec {W : World} {N : List Chunk} {v : Value} {n : Nat} {f : Nat → Int} (hV : SlV (K W N) v n 1 (fun i _ => .int .u8 (f i))) (hn : n < 100000) (hf : ∀ i, i < n → 0 ≤ f i ∧ f i < 256) : Spec prog 32 #[v] (K W N)
    (X := { x : Value × Chunk // BufR 26 3 x.1 x.2 (rnl (rns (tgf f) 0 n)) }) (fun x => .agg #[.int .i64 (n : Nat), x.1.1]) (fun x => K W (x.1.2 :: N)) := by
  refine enter (args := [_]) func32 rfl ntmps32 rfl ?_;refine csr (sal fun b2 => ?_);refine snf (csr (sa ?_));refine snf (c_seq (csr (sa ?_)));refine snf (c_block ?_);refine c_loopP (α := Nat × Value × Chunk) (fun z => [(0, v), (2, .pointer (some ⟨b2, 0, none⟩)), (3, z.2.1), (4, .int .i64 (z.1 : Nat))]) (fun z => z.1 ≤ n ∧ BufR 26 3 z.2.1 z.2.2 (rnl (rnsK (tgf f) 0 z.1))) (fun z => K W (z.2.2 :: [(b2, row 37 [.int .i64 0, .slice none 0 0])] :: N)) (fun z => n - z.1) (0, .slice none 0 0, [])
    ⟨rfl, rfl, rfl, rfl, trivial⟩ ⟨Nat.zero_le _, .nil⟩ (fun w h => h.addNil) ?_
  rintro ⟨i, u, d⟩ ⟨hi, hu⟩;dsimp only at hi hu ⊢;have hV' : SlV (K W (d :: [(b2, row 37 [.int .i64 0, .slice none 0 0])] :: N)) v n 1 (fun i _ => .int .u8 (f i)) := hV.cons.cons;by_cases c : i < n
  · have hfi := hf i c;have et : f i % 16 = (tgf f i : Nat) := by unfold tgf; omega
    have hj := rjoin_spec (W := W) (N := [(b2, row 37 [.int .i64 0, .slice none 0 0])] :: N) (lo := i) (hi := i + 1) (tag := tgf f i) hu (by have := rnsK_len_le (tgf f) 0 i; omega);rw [show ((i + 1 : Nat) : Int) = (i : Int) + 1 from rfl] at hj;refine c_seq (csr (sm ?_));refine sm ?_;refine sy (y_lenV tab rfl (hV') rfl) ?_;refine sy (y_T (y_lss rfl rfl) (by omega)) ?_;refine snf (c_condT rfl (c_skip (f_then (c_seq (c_block (c_region (sm ?_)))))));refine sm ?_;refine sm ?_;refine sy (y_add rfl rfl (by omega)) ?_;refine sm ?_;refine sm ?_;refine sy (y_ixV tab rfl rfl rfl rfl (hV') _ rfl (by omega)) ?_;refine sl (SlV.cell1 (hV') (by omega)) ?_;refine sy (y_remK rfl rfl (by omega)) ?_;refine sy (y_toI tab rfl rfl rfl (by omega)) ?_;rw [et];refine sy (y_build tab rfl rfl rfl rfl rfl) ?_;refine sk call68 hj fun x => ?_;obtain ⟨⟨u', d'⟩, hu'⟩ := x;dsimp only at hu' ⊢;refine sa ?_;refine s_nil (f_blockN (f_then (c_region (sm ?_))));refine sy (y_add rfl rfl (by omega)) ?_;refine sa ?_;refine s_nil ?_;exact f_roundP (i + 1, u', d') ⟨c, hu'.of (by rw [rnsK, Nat.zero_add])⟩ (by dsimp only; omega) ⟨rfl, rfl, rfl, rfl, trivial⟩ (fun w h => h)
  · obtain rfl : i = n := by omega
    have hE := hu.view (C := K W (d :: [(b2, row 37 [.int .i64 0, .slice none 0 0])] :: N)) (Hs.at 0 rfl);obtain ⟨pa, k, rfl, _, _⟩ := hE.view;refine c_seq (csr (sm ?_));refine sm ?_;refine sy (y_lenV tab rfl (hV') rfl) ?_;refine sy (y_F (y_lss rfl rfl) (by omega)) ?_;refine snf (c_condF rfl (c_exit (f_thenE (f_rndE (f_blockE (f_then (csr (sm ?_))))))));refine sy (y_lenV tab rfl (hV') rfl) ?_;refine sm ?_;refine sy (y_build tab rfl rfl rfl rfl rfl) ?_;refine ss (set_box tab 1 rfl rfl rfl rfl rfl rfl rfl) ?_;refine snf (c_ret ?_);exact f_ret ⟨(_, d), hu⟩ (resA tab rfl rfl rfl rfl rfl (cells_row0 1 rfl rfl)) (fun w h => h.dropAt 1)
end Go.KL
end

section
/- Walks: build, From, made. -/
namespace Go.KL
open Go.Proofs Go.Proofs.Tryz
def bld : Nat → List Rn → Tree
  | 0, _ => .nil
  | k + 1, R => match R[R.length / 2]? with
    | none => .nil
    | some x => .node (bld k (R.take (R.length / 2))) (x.2.1 - x.1) x.2.2 (bld k (R.drop (R.length / 2 + 1)))
theorem bld_node {k : Nat} {R : List Rn} {x : Rn} (h : R[R.length / 2]? = some x) : bld (k + 1) R = .node (bld k (R.take (R.length / 2))) (x.2.1 - x.1) x.2.2 (bld k (R.drop (R.length / 2 + 1))) := by
  rw [bld, h]
theorem bld_none {k : Nat} {R : List Rn} (h : R.length = 0) : bld k R = .nil := by
  cases k with
  | zero => rfl
  | succ k => rw [bld, List.getElem?_eq_none (by omega)]
abbrev rll (x : Rn) : Nat × Nat := (x.2.1 - x.1, x.2.2)
theorem mid_get {R : List Rn} (h : 0 < R.length) : ∃ x, R[R.length / 2]? = some x := ⟨R[R.length / 2], by rw [List.getElem?_eq_getElem]⟩
theorem mid_split {R : List Rn} {x : Rn} {i : Nat} (h : R[i]? = some x) : R = R.take i ++ x :: R.drop (i + 1) := by
  obtain ⟨hi, rfl⟩ := List.getElem?_eq_some_iff.1 h;rw [← List.drop_eq_getElem_cons hi, List.take_append_drop]
theorem bld_toL : ∀ (k : Nat) (R : List Rn), R.length ≤ k → (bld k R).toL = R.map rll
  | 0, R, h => by
    have : R = [] := List.eq_nil_of_length_eq_zero (by omega);rw [this]; rfl
  | k + 1, R, h => by
    by_cases c : R.length = 0
    · have : R = [] := List.eq_nil_of_length_eq_zero c;rw [this]; rfl
    · obtain ⟨x, hx⟩ := mid_get (R := R) (by omega);rw [bld_node hx, Tree.toL, bld_toL k _ (by rw [List.length_take]; omega), bld_toL k _ (by rw [List.length_drop]; omega)];conv => rhs; rw [mid_split hx]
      rw [List.map_append, List.map_cons]
theorem bld_hi : ∀ (k h : Nat) (R : List Rn), R.length < 2 ^ h → (bld k R).ht ≤ h
  | 0, _, _, _ => Nat.zero_le _
  | k + 1, h, R, hl => by
    by_cases c : R.length = 0
    · rw [bld_none c]; exact Nat.zero_le _
    · obtain ⟨x, hx⟩ := mid_get (R := R) (by omega);cases h with
      | zero => rw [Nat.pow_zero] at hl; omega
      | succ h =>
        rw [Nat.pow_succ] at hl;have h1 := bld_hi k h (R.take (R.length / 2)) (by rw [List.length_take]; omega);have h2 := bld_hi k h (R.drop (R.length / 2 + 1)) (by rw [List.length_drop]; omega);rw [bld_node hx, Tree.ht];omega
theorem bld_lo : ∀ (k h : Nat) (R : List Rn), 2 ^ h ≤ R.length → R.length ≤ k → h + 1 ≤ (bld k R).ht
  | 0, h, R, h1, h2 => by
    have := Nat.two_pow_pos h;omega
  | k + 1, h, R, h1, h2 => by
    have hp := Nat.two_pow_pos h;obtain ⟨x, hx⟩ := mid_get (R := R) (by omega);rw [bld_node hx, Tree.ht];cases h with
    | zero => omega
    | succ h =>
      rw [Nat.pow_succ] at h1;have h3 := bld_lo k h (R.take (R.length / 2)) (by rw [List.length_take]; omega) (by rw [List.length_take]; omega);omega
theorem bld_bal : ∀ (k : Nat) (R : List Rn), R.length ≤ k → (bld k R).Bal
  | 0, _, _ => trivial
  | k + 1, R, h => by
    by_cases c : R.length = 0
    · rw [bld_none c]; trivial
    · obtain ⟨x, hx⟩ := mid_get (R := R) (by omega);rw [bld_node hx];have l1 : (R.take (R.length / 2)).length = R.length / 2 := by rw [List.length_take]; omega
      have l2 : (R.drop (R.length / 2 + 1)).length = R.length - (R.length / 2 + 1) := by rw [List.length_drop]
      refine ⟨bld_bal k _ (by omega), bld_bal k _ (by omega), ?_, ?_⟩
      · refine bld_hi k _ _ ?_;rw [Nat.pow_succ];rcases Nat.lt_or_ge (R.drop (R.length / 2 + 1)).length (2 ^ (bld k (R.drop (R.length / 2 + 1))).ht) with d | d
        · omega
        · have := bld_lo k _ _ d (by omega);omega
      · refine Nat.le_trans (bld_hi k (bld k (R.take (R.length / 2))).ht _ ?_) (Nat.le_succ _);rcases Nat.lt_or_ge (R.take (R.length / 2)).length (2 ^ (bld k (R.take (R.length / 2))).ht) with d | d
        · omega
        · have := bld_lo k _ _ d (by omega);omega
structure RnOK (R : List Rn) : Prop where
  ok : ∀ x ∈ R, x.1 ≤ x.2.1 ∧ x.2.2 < 16
  sz : szL (R.map rll) ≤ 1152921504606846976
  len : R.length ≤ 1000000
theorem RnOK.left {A B : List Rn} (h : RnOK (A ++ B)) : RnOK A := ⟨fun x hx => h.ok x (List.mem_append_left _ hx), by have := h.sz; rw [List.map_append, szL_app] at this; omega, by have := h.len; rw [List.length_append] at this; omega⟩
theorem RnOK.right {A B : List Rn} (h : RnOK (A ++ B)) : RnOK B := ⟨fun x hx => h.ok x (List.mem_append_right _ hx), by have := h.sz; rw [List.map_append, szL_app] at this; omega, by have := h.len; rw [List.length_append] at this; omega⟩
attribute [local irreducible] SC St Fin Sq Ylds Doos Sets Enters Spec CellIs CellsAre Then Ret Rnd Chn resOK ints bools recs arr
theorem build_spec {W : World} {R : List Chunk} : ∀ (k : Nat) {p : Chunk} {v : Value} {L : List Rn}, L.length ≤ k → EV (K W R) v 3 (rnl L) → RnOK L → Spec prog 46 #[v] (K W (p :: R)) (X := TX p (bld k L)) (fun x => x.1.2) (fun x => K W (x.1.1 :: R)) := by
  intro k;induction k with
  | zero =>
    intro p v L hl hV hR;obtain rfl : L = [] := List.eq_nil_of_length_eq_zero (by omega);have hV' : EV (K W (p :: R)) v 3 (rnl []) := hV.cons;refine enter (args := [_]) func46 rfl ntmps46 rfl ?_;refine csr (sa ?_);refine snf (c_seq (csr (sm ?_)));refine sy (y_lenE tab rfl (hV') rfl) ?_;refine sy (y_eql rfl rfl) ?_;refine snf (c_condT rfl (csr (sa ?_)));refine snf (c_ret (f_thenR ?_));exact f_ret ⟨(p, .pointer none), .refl _, .nil⟩ (res1 rfl rfl) (fun w h => h)
  | succ k ih =>
    intro p v L hl hV hR;have hV' : EV (K W (p :: R)) v 3 (rnl L) := hV.cons;have hll : (rnl L).length = L.length := List.length_map _;have h1 := hR.len;refine enter (args := [_]) func46 rfl ntmps46 rfl ?_;by_cases c : L.length = 0
    · refine csr (sa ?_);refine snf (c_seq (csr (sm ?_)));refine sy (y_lenE tab rfl (hV') rfl) ?_;refine sy (y_T (y_eql rfl rfl) (by omega)) ?_;refine snf (c_condT rfl (csr (sa ?_)));refine snf (c_ret (f_thenR ?_));exact f_ret ⟨(p, .pointer none), .refl _, by rw [bld_none c]; exact .nil⟩ (res1 rfl rfl) (fun w h => h)
    · obtain ⟨x, hx⟩ := mid_get (R := L) (by omega);have hsp := mid_split hx;obtain ⟨m, hm⟩ : ∃ m, L.length / 2 = m := ⟨_, rfl⟩;have e1 : ((rnl L).length : Int) / 2 = (m : Nat) := by omega
      have e2 : ((rnl L).length : Int) / 2 + 1 = (m + 1 : Nat) := by omega
      rw [hm] at hx hsp;have hcx : CellsAre (K W R) ⟨vblk v, voff v + m * 3, none⟩ [.int .i64 (x.1 : Nat), .int .i64 (x.2.1 : Nat), .int .i64 (x.2.2 : Nat)] := hV.row (rnl_get hx);have hR' := hR;rw [hsp] at hR';have hRl := hR'.left;have hRr : RnOK (L.drop (m + 1)) := RnOK.right (A := [x]) hR'.right;obtain ⟨hx1, hx2⟩ := hR.ok x (List.mem_of_getElem? hx);have hxs : x.2.1 - x.1 ≤ 1152921504606846976 := by
        have := hR'.sz;rw [List.map_append, szL_app, List.map_cons] at this;simp only [szL] at this;omega
      have hVl : EV (K W R) (tov v m) 3 (rnl (L.take m)) := by
        have := hV.to (k := m) (by omega)
        rwa [rnl, ← List.map_take] at this
      have hVr : EV (K W R) (frv v (m + 1) 3) 3 (rnl (L.drop (m + 1))) := by
        have := hV.fr (k := m + 1) (by omega)
        rwa [rnl, ← List.map_drop] at this
      have i1 := fun {q : Chunk} => ih (p := q) (L := L.take m) (by rw [List.length_take]; omega) hVl hRl;have i2 := fun {q : Chunk} => ih (p := q) (L := L.drop (m + 1)) (by rw [List.length_drop]; omega) hVr hRr;have hb := bld_node (k := k) (R := L) (x := x) (by rw [hm]; exact hx);rw [hm] at hb;have hbl : (bld k (L.take m)).toL = (L.take m).map rll := bld_toL k _ (by rw [List.length_take]; omega);have hbr : (bld k (L.drop (m + 1))).toL = (L.drop (m + 1)).map rll := bld_toL k _ (by rw [List.length_drop]; omega);have hpc : (Tree.node (bld k (L.take m)) (x.2.1 - x.1) x.2.2 (bld k (L.drop (m + 1)))).pcs ≤ 1152921504606846976 := by
        have := hR'.sz;rw [List.map_append, szL_app, List.map_cons] at this;simp only [szL] at this;rw [Tree.pcs, Tree.pcs_toL, Tree.pcs_toL, hbl, hbr];omega
      have hrn : (Tree.node (bld k (L.take m)) (x.2.1 - x.1) x.2.2 (bld k (L.drop (m + 1)))).runs ≤ 1152921504606846976 := by
        rw [Tree.runs, Tree.runs_toL, Tree.runs_toL, hbl, hbr, List.length_map, List.length_map, List.length_take, List.length_drop];omega
      have hD := fun (q : Chunk) (w : World) (h : K W (q :: R) w) => h.tail;refine csr (sa ?_);refine snf (c_seq (csr (sm ?_)));refine sy (y_lenE tab rfl (hV') rfl) ?_;refine sy (y_F (y_eql rfl rfl) (by omega)) ?_;refine snf (c_condF rfl (c_skip (f_then (csr (sm ?_)))));refine sy (y_lenE tab rfl (hV') rfl) ?_;refine sy (y_quo rfl rfl (by omega)) ?_;refine sa ?_;refine snf (c_seq (c_plan [.c 0, .c 1, .c 2, .c 4, .c 5, .c 6, .c 7, .c 8, .c 9, .c 10, .c 11, .c 12, .c 13, .c 14, .c 15, .c 16, .c 17, .c 18, .c 19, .c 20, .c 21, .c 22, .c 23, .s 3, .s 24, .s 25, .c 26] [] ((K W R)) mixed (by kernel_rfl) rfl K.cl ?_));refine dy rfl (y_move rfl) (fun _ h => h.tail) ?_;refine dy rfl (y_move rfl) (fun _ h => h.tail) ?_;refine dy rfl (y_toV tab rfl rfl rfl rfl hV e1 (by omega)) (fun _ h => h.tail) ?_;refine dy rfl (y_move rfl) (fun _ h => h.tail) ?_;refine dy rfl (y_move rfl) (fun _ h => h.tail) ?_;refine dy rfl (y_ixE tab rfl rfl rfl rfl hV m e1 (by omega)) (fun _ h => h.tail) ?_;refine dy rfl (y_fieldAddr tab 1 rfl rfl rfl rfl rfl) (fun _ h => h.tail) ?_;refine dy rfl (y_load tab rfl rfl (CellsAre.nth 1 (hcx) rfl)) (fun _ h => h.tail) ?_;refine dy rfl (y_move rfl) (fun _ h => h.tail) ?_;refine dy rfl (y_move rfl) (fun _ h => h.tail) ?_;refine dy rfl (y_ixE tab rfl rfl rfl rfl hV m e1 (by omega)) (fun _ h => h.tail) ?_;refine dy rfl (y_fieldAddr0 tab rfl rfl rfl rfl rfl) (fun _ h => h.tail) ?_;refine dy rfl (y_load tab rfl rfl (CellsAre.at0 (hcx) rfl)) (fun _ h => h.tail) ?_;refine dy rfl (y_sub rfl rfl (by omega)) (fun _ h => h.tail) ?_;refine dy rfl (y_move rfl) (fun _ h => h.tail) ?_;refine dy rfl (y_move rfl) (fun _ h => h.tail) ?_;refine dy rfl (y_ixE tab rfl rfl rfl rfl hV m e1 (by omega)) (fun _ h => h.tail) ?_;refine dy rfl (y_fieldAddr tab 2 rfl rfl rfl rfl rfl) (fun _ h => h.tail) ?_;refine dy rfl (y_load tab rfl rfl (CellsAre.nth 2 (hcx) rfl)) (fun _ h => h.tail) ?_;refine dy rfl (y_move rfl) (fun _ h => h.tail) ?_;refine dy rfl (y_move rfl) (fun _ h => h.tail) ?_;refine dy rfl (y_add rfl rfl (by omega)) (fun _ h => h.tail) ?_;refine dy rfl (y_slFrE tab rfl rfl rfl rfl hV e2 (by omega)) (fun _ h => h.tail) ?_;rw [show ((x.2.1 : Int) - (x.1 : Int)) = ((x.2.1 - x.1 : Nat) : Int) by omega];refine d_call rfl (en_f rfl call46) i1 rfl rfl rfl (fun _ => K.cl) (fun _ _ _ h => h.tail) (fun y => ?_);obtain ⟨⟨p1, v1⟩, hS1, hT1⟩ := y;dsimp only at hS1 hT1 ⊢;skip;refine d_call rfl (en_f rfl call46) i2 rfl rfl rfl (fun _ => K.cl) (fun _ _ _ h => h.tail) (fun y => ?_);obtain ⟨⟨p2, v2⟩, hS2, hT2⟩ := y;dsimp only at hS2 hT2 ⊢;skip;refine d_call rfl (en_f rfl call81) (link_spec (hT1.sub hS2) hT2 hx2 hpc hrn) rfl rfl rfl (fun _ => K.cl) (fun _ _ _ h => h.tail) (fun y => ?_);obtain ⟨⟨p3, v3⟩, hS3, hT3⟩ := y;dsimp only at hS3 hT3 ⊢;refine dy rfl (y_assign rfl) (fun _ h => h.tail) ?_;refine d_nil (f_then (c_ret ?_));exact f_ret ⟨(p3, v3), hS1.trans (hS2.trans hS3), by rw [hb]; exact hT3⟩ (res1 rfl rfl) (fun w h => h)
end Go.KL
end

section
/- Walks: From, made. -/
namespace Go.KL
open Go.Proofs Go.Proofs.Tryz
structure RunsOK (n : Nat) (f : Nat → Nat) : Prop where
  pos : 1 ≤ n ∧ n ≤ 1099511627776
  nb : nbd f n ≤ 4096
  tag : ∀ i, f i < 16
  out : ∀ i, n ≤ i → f i = 0
theorem rns_tags {f : Nat → Nat} : ∀ {R : List Rn} {lo hi : Nat}, Rns f lo hi R → (∀ i, f i < 16) → ∀ x ∈ R, x.1 < x.2.1 ∧ x.2.2 < 16 ∧ x.2.1 ≤ hi
  | [], _, _, _, _, x, hx => by simp at hx
  | y :: R, lo, hi, h, ht, x, hx => by
    rcases List.mem_cons.1 hx with rfl | hx
    · refine ⟨h.2.1, ?_, h.2.2.2.2.le⟩;rw [← h.2.2.1 x.1 (Nat.le_refl _) h.2.1];exact ht _
    · exact rns_tags h.2.2.2.2 ht x hx
theorem rns_sz {f : Nat → Nat} : ∀ {R : List Rn} {lo hi : Nat}, Rns f lo hi R → szL (R.map rll) = hi - lo
  | [], lo, hi, h => by
    have : lo = hi := h;simp [szL, this]
  | x :: R, lo, hi, h => by
    have h1 := h.2.2.2.2.le;have h2 := rns_sz h.2.2.2.2;have h3 := h.1;have h4 := h.2.1;rw [List.map_cons, szL, h2];show x.2.1 - x.1 + (hi - x.2.1) = hi - lo;omega
theorem rns_can {f : Nat → Nat} : ∀ {R : List Rn} {lo hi : Nat}, Rns f lo hi R → Can (R.map rll)
  | [], _, _, _ => trivial
  | [x], lo, hi, h => ⟨by show 0 < x.2.1 - x.1; have := h.2.1; omega, by simp, trivial⟩
  | x :: y :: R, lo, hi, h => ⟨by show 0 < x.2.1 - x.1; have := h.2.1; omega, fun z hz => by
      simp at hz;rw [← hz];exact h.2.2.2.1 y rfl, rns_can h.2.2.2.2⟩
theorem rns_tag {f : Nat → Nat} : ∀ {R : List Rn} {lo hi i : Nat}, Rns f lo hi R → lo + i < hi → tagL (R.map rll) i = f (lo + i)
  | [], lo, hi, i, h, hi' => by
    have : lo = hi := h;omega
  | x :: R, lo, hi, i, h, hi' => by
    have h1 := h.1;have h2 := h.2.1;rw [List.map_cons, tagL];by_cases c : i < x.2.1 - x.1
    · rw [if_pos c, h.2.2.1 (lo + i) (by omega) (by omega)]
    · rw [if_neg c];show tagL (R.map rll) (i - (x.2.1 - x.1)) = _;rw [rns_tag h.2.2.2.2 (by omega)];congr 1;omega
theorem drop_get {α : Type} {l : List α} {i : Nat} {x : α} (h : l[i]? = some x) : l.drop i = x :: l.drop (i + 1) := by
  obtain ⟨hi, rfl⟩ := List.getElem?_eq_some_iff.1 h;exact List.drop_eq_getElem_cons hi
attribute [local irreducible] SC St Fin Sq Ylds Doos Sets Enters Spec CellIs CellsAre Then Ret Rnd Chn resOK ints bools recs arr
theorem isTagT {C : World → Prop} {z : Int} (h : 0 ≤ z ∧ z < 16) : Spec prog 45 #[.int .i64 z] C (fun _ : Unit => .bool true) (fun _ => C) := by
  have := isTag_spec (C := C) (z := z)
  rwa [decide_eq_true h] at this
theorem from_spec {W : World} {R : List Chunk} {p : Chunk} {v : Value} {n : Nat} {f : Nat → Nat} (hF : RunsOK n f) (hV : EV (K W R) v 3 (rnl (rns f 0 n))) : Spec prog 14 #[.int .i64 (n : Nat), v] (K W (p :: R)) (X := MX p n f) (fun x => .tuple #[.agg #[x.1.2], .int .i64 0]) (fun x => K W (x.1.1 :: R)) := by
  have hR := rns_ok (f := f) (lo := 0) (hi := n) (Nat.zero_le _);have hlen := rns_len f n;obtain ⟨L, hL⟩ : ∃ L, L = rns f 0 n := ⟨_, rfl⟩;rw [← hL] at hR hlen hV;have hlr : (rnl L).length = L.length := List.length_map _;have hnb := hF.nb;obtain ⟨hp1, hp2⟩ := hF.pos;have hpos : 0 < L.length := by
    cases L with
    | nil =>
      have : 0 = n := hR;omega
    | cons x r => simp
  have hok : RnOK L := ⟨fun x hx => by have := rns_tags hR hF.tag x hx; omega, by rw [rns_sz hR]; omega, by omega⟩;refine enter (args := [_, _]) func14 rfl ntmps14 rfl ?_;refine csr (sal fun b4 => ?_);have hV4 : EV (K W ([(b4, row 29 [.pointer none])] :: p :: R)) v 3 (rnl L) := hV.cons.cons;refine sa ?_;refine snf (c_seq (csr (sm ?_)));refine sk call44 sized_spec fun _ => ?_;rw [show decide (1 ≤ (n : Int) ∧ (n : Int) ≤ 1099511627776) = true by rw [decide_eq_true_eq]; omega];refine sy (y_notT rfl) ?_;refine sm ?_;refine sm ?_;refine sy (y_lenE tab rfl (hV4) rfl) ?_;refine sy (y_F (y_eql rfl rfl) (by omega)) ?_;refine spF ?_;refine snf (c_condF rfl (c_skip (f_then (csr (sy (y_build tab rfl rfl rfl rfl rfl) ?_)))));refine sal fun b6 => ?_;refine ss (set_box tab 0 rfl rfl rfl rfl rfl rfl rfl) ?_;refine snf (c_seq (csr (sm ?_)));refine sy (y_lenE tab rfl (hV4.cons) rfl) ?_;refine sm ?_;refine snf (c_block ?_);refine c_loopP (α := Nat × Nat × Nat × Int) (fun z => [(0, .int .i64 (n : Nat)), (1, v), (4, .pointer (some ⟨b4, 0, none⟩)), (5, .int .i64 0), (6, .pointer (some ⟨b6, 0, none⟩)), (19, v), (20, .int .i64 ((rnl L).length : Nat)), (21, .int .i64 (z.1 : Nat))])
    (fun z => z.1 ≤ L.length ∧ Rns f z.2.2.1 n (L.drop z.1) ∧ ∀ y ∈ (L.drop z.1).head?, ((y.2.2 : Nat) : Int) ≠ z.2.2.2) (fun z => K W ([(b6, row 26 [.int .i64 (z.2.1 : Nat), .int .i64 (z.2.2.1 : Nat), .int .i64 z.2.2.2])] :: [(b4, row 29 [.pointer none])] :: p :: R)) (fun z => L.length - z.1) (0, 0, 0, -1)
    ⟨rfl, rfl, rfl, rfl, rfl, rfl, rfl, rfl, trivial⟩ ⟨Nat.zero_le _, by rw [List.drop_zero]; exact hR, fun y _ => by dsimp only; omega⟩ (fun w h => h) ?_
  rintro ⟨i, ll, lh, lt⟩ ⟨h1, h2, h3⟩;dsimp only at h1 h2 h3 ⊢;have hV6 : EV (K W ([(b6, row 26 [.int .i64 (ll : Nat), .int .i64 (lh : Nat), .int .i64 lt])] :: [(b4, row 29 [.pointer none])] :: p :: R)) v 3 (rnl L) := hV.cons.cons.cons;by_cases c : i < L.length
  · obtain ⟨x, hx⟩ : ∃ x, L[i]? = some x := ⟨L[i], by simp [c]⟩;have hcx : CellsAre (K W ([(b6, row 26 [.int .i64 (ll : Nat), .int .i64 (lh : Nat), .int .i64 lt])] :: [(b4, row 29 [.pointer none])] :: p :: R)) ⟨vblk v, voff v + i * 3, none⟩ [.int .i64 (x.1 : Nat), .int .i64 (x.2.1 : Nat), .int .i64 (x.2.2 : Nat)] := hV6.row (rnl_get hx);rw [drop_get hx] at h2 h3;obtain ⟨g1, g2, _, g4, g5⟩ := h2;have g3 := h3 x rfl;have g6 := (rns_tags hR hF.tag x (List.mem_of_getElem? hx)).2;refine csr (sy (y_T (y_lss rfl rfl) (by omega)) ?_);refine snf (c_seq (c_condT rfl (c_skip (f_then (c_seq (c_block (csr (sy (y_ixE tab rfl rfl rfl rfl (hV6) _ rfl (by omega)) ?_))))))));refine sy (y_loadA tab rfl rfl rfl rfl hcx) ?_;refine sal fun b8 => ?_;refine ss (set_box tab 0 rfl rfl rfl rfl rfl rfl rfl) ?_;refine snf (c_seq (csr (sf0 ?_)));refine slr 0 ?_;refine sf 1 ?_;refine slr 1 ?_;refine sy (y_F (y_neq rfl rfl) (by omega)) ?_;refine sm ?_;refine sf0 ?_;refine slr 0 ?_;refine sf 1 ?_;refine slr 0 ?_;refine sy (y_F (y_geq rfl rfl) (by omega)) ?_;refine spF ?_;refine sm ?_;refine sf 1 ?_;refine slr 0 ?_;refine sm ?_;refine sy (y_F (y_gtr rfl rfl) (by omega)) ?_;refine spF ?_;refine sm ?_;refine sf 2 ?_;refine slr 0 ?_;refine s_call (en_f rfl call45) ((isTagT (by omega))) rfl rfl rfl (fun _ => ?_);refine sy (y_notT rfl) ?_;refine spF ?_;refine sm ?_;refine sf 2 ?_;refine slr 0 ?_;refine sf 2 ?_;refine slr 1 ?_;refine sy (y_F (y_eql rfl rfl) (by assumption)) ?_;refine spF ?_;refine snf (c_condF rfl (c_skip (f_then (c_region (sy (y_loadA tab rfl rfl rfl rfl (cells_row0 0 rfl rfl)) ?_)))));refine ss (set_box tab 1 rfl rfl rfl rfl rfl rfl rfl) ?_;refine s_nil (f_blockN (f_then (c_region (sy (y_add rfl rfl (by omega)) ?_))));refine sm ?_;refine s_nil ?_;exact f_roundP (i + 1, x.1, x.2.1, (x.2.2 : Nat)) ⟨c, g5, fun y hy => by have := g4 y hy; dsimp only; omega⟩ (by dsimp only; omega) ⟨rfl, rfl, rfl, rfl, rfl, rfl, rfl, rfl, trivial⟩ (fun w h => h.tail)
  · obtain rfl : i = L.length := by omega
    rw [List.drop_length] at h2;have h2 : lh = n := h2;subst h2;refine csr (sy (y_F (y_lss rfl rfl) (by omega)) ?_);refine snf (c_seq (c_condF rfl (c_exit (f_thenE (f_rndE (f_blockE (f_then (c_seq (c_block (csr (sf 1 ?_)))))))))));refine slr 0 ?_;refine sm ?_;refine sy (y_F (y_neq rfl rfl) (by omega)) ?_;refine sa ?_;refine snf (c_condF rfl (csr (sm ?_)));refine sy (y_lenE tab rfl (hV6) rfl) ?_;refine sy (y_F (y_gtr rfl rfl) (by omega)) ?_;refine sa ?_;refine snf (c_condF rfl (c_skip (f_blockN (f_then (csr (sm ?_))))));have hbs := build_spec (W := W) (R := [(b4, row 29 [.pointer none])] :: R) L.length (p := p) (Nat.le_refl _) hV.cons hok;have htl := bld_toL L.length L (Nat.le_refl _);have hne : bld L.length L ≠ .nil := fun e => by
      rw [e] at htl;have := congrArg List.length htl;rw [List.length_map] at this;exact absurd this (by show 0 ≠ L.length; omega)
    refine St.cls (C' := K W (p :: [(b4, row 29 [.pointer none])] :: R)) ?_ (fun w h => (K.front 1 h.tail));refine sk call46 hbs fun x => ?_;obtain ⟨⟨p', v'⟩, hS, hT⟩ := x;dsimp only at hS hT ⊢;obtain ⟨a, rfl⟩ := hT.neC hne;refine sy (y_build tab rfl rfl rfl rfl rfl) ?_;refine ss (set_box tab 1 rfl rfl rfl rfl rfl rfl rfl) ?_;refine sa ?_;refine snf (c_ret ?_);refine f_ret ⟨(p', .pointer (some a)), hS, _, hT, ⟨hne, bld_bal _ _ (Nat.le_refl _), ?_, ?_, ?_⟩, ?_, ?_, ?_⟩ (resA1 tab rfl rfl rfl rfl rfl rfl (cells_row0 1 rfl rfl)) (fun w h => h.dropAt 1)
    · rw [htl];exact (rns_can hR).pos
    · rw [htl];intro y hy;obtain ⟨z, hz, rfl⟩ := List.mem_map.1 hy;exact (rns_tags hR hF.tag z hz).2.1
    · rw [Tree.pcs_toL, htl, rns_sz hR];exact hp2
    · rw [htl];exact rns_can hR
    · rw [Tree.pcs_toL, htl, rns_sz hR, Nat.sub_zero]
    · rw [htl];funext i;by_cases ci : i < lh
      · rw [rns_tag hR (by omega), Nat.zero_add]
      · rw [hF.out i (by omega), tagL_out (by rw [rns_sz hR]; omega)]
end Go.KL
end

section
/- Drawn regions in which one operation may come at any time. No program in sight. -/
namespace Go.KL
section
variable {P : Program} {n : Nat} {σ : Slots} {D : World → Prop} {Q : Post} {ops : Array Oper} {dr : Nat → Bool}
theorem Env.swap {a : Act} {d e : Nat} {v u : Value} (hne : d ≠ e) (h : Env n ((d, v) :: (e, u) :: σ) a) : Env n ((e, u) :: (d, v) :: σ) a := by
  have hl : ∀ x, look ((e, u) :: (d, v) :: σ) x = look ((d, v) :: (e, u) :: σ) x := fun x => by
    by_cases c1 : d = x
    · subst c1;rw [look_cons_ne (fun h => hne h.symm)];simp [look]
    · rw [look_cons_ne c1];by_cases c2 : e = x
      · subst c2;simp [look]
      · rw [look_cons_ne c2, look_cons_ne c2, look_cons_ne c1]
  exact ⟨h.size, h.lt, by rw [hl]; exact h.defers, fun x w hx e' => h.at_ x w hx (by rw [← hl]; exact e')⟩
theorem Env.drop {a : Act} {d : Nat} {u : Value} (h : Env n ((d, u) :: σ) a) (hd : Nat.blt d n = true) (h0 : look σ d = none) : Env n σ a := by
  have hd' : d < n := by simpa [Nat.blt_eq] using hd
  have hM : d ≠ MK := by have := h.lt; omega
  refine ⟨h.size, h.lt, by rw [h.defers, look_cons_ne hM], fun x w hx e => h.at_ x w hx ?_⟩;rw [look_cons_ne fun c => ?_]
  · exact e
  · subst c;rw [h0] at e;cases e
def planJ (ops : Array Oper) (dr : Nat → Bool) (j : Nat) : List PS → List PS → Array Bool → Bool
  | [], q, listed => (Region.ready .any ops listed) == [j] && planB ops dr q (listed.setIfInBounds j true)
  | .c k :: r, q, listed => (Region.ready .any ops listed).contains k && freeD ops dr listed k && planJ ops dr j r q (listed.setIfInBounds k true)
  | .s i :: r, q, listed => ((Region.ready .any ops listed) == [i, j] || (Region.ready .any ops listed) == [j, i]) && planJ ops dr j r q (listed.setIfInBounds i true) && planB ops dr (.s i :: r ++ q) (listed.setIfInBounds j true)
  | .t _ _ :: _, _, _ => false
  | .e _ _ _ :: _, _, _ => false
variable {Y : Type} {u : Y → Value} {dj j : Nat}
structure SJ (P : Program) (n : Nat) (ops : Array Oper) (dr : Nat → Bool) (D : World → Prop) (Q : Post) (j dj : Nat) (u : Y → Value) (plan q : List PS) (σ : Slots) (C : Option Y → World → Prop) : Prop where
  s0 : ∀ listed a, Env n σ a → DC ops listed → planJ ops dr j plan q listed = true → (∀ (j : Nat) (o : Oper) cs b, ops[j]? = some o → o.op ≠ .select cs b) → AnyC P ops dr D Q (planLen (plan ++ q) + 1) listed a (C none)
  s1 : ∀ y, Sd P n ops dr D Q (plan ++ q) ((dj, u y) :: σ) (C (some y))
theorem c_planJ (j dj : Nat) (u : Y → Value) (plan q : List PS) (D : World → Prop) (C : Option Y → World → Prop) {id : Nat} {l : List Oper} (hm : P.follows .mixedOrders = true) (hsB : (Region.noSelect l.toArray && planJ l.toArray (drOf []) j plan q (Array.replicate l.toArray.size false)) = true) (hl : planLen (plan ++ q) + 1 = l.toArray.size)
    (hC : Cl (C none)) (h : SJ P n l.toArray (drOf []) D Q j dj u plan q σ C) : SC P n Q (.region id l.toArray true) σ (C none) := by
  obtain ⟨hs, hB⟩ := Bool.and_eq_true_iff.1 hsB;intro a w hE hw;refine wpIn_region_any hm ?_;have h1 := h.s0 _ a hE (fun j hj => by simp [Array.getElem?_replicate] at hj; split at hj <;> simp at hj) hB (Region.noSelect_spec hs);rw [hl] at h1;exact wpAny_of_AnyC _ _ _ _ h1 _ (hC _ _ hw (Ext.drew w))
theorem Qui.drop {o : Oper} {v x : Value} {d : Nat} (h : Qui P n σ D o v) (hd : Nat.blt d n = true) (h0 : look σ d = none) : Qui P n ((d, x) :: σ) D o v := fun a w hE hw => h a w (hE.drop hd h0) hw
theorem Sd.swap {plan : List PS} {C : World → Prop} {d e : Nat} {v x : Value} (h : Sd P n ops dr D Q plan ((d, v) :: (e, x) :: σ) C) (hne : Nat.beq d e = false) : Sd P n ops dr D Q plan ((e, x) :: (d, v) :: σ) C := fun listed a hE => h listed a (hE.swap fun c => Nat.ne_of_beq_eq_false hne c.symm)
def Outs (P : Program) (n : Nat) (σ : Slots) (C : World → Prop) (o : Oper) {X : Type} (v : X → Value) (C' : X → World → Prop) : Prop := ∀ a w, Env n σ a → C w → Out P o a w (fun u w' => ∃ x, u = v x ∧ C' x w')
theorem Outs.drop {o : Oper} {X : Type} {v : X → Value} {C : World → Prop} {C' : X → World → Prop} {x : Value} {d : Nat} (h : Outs P n σ C o v C') (hd : Nat.blt d n = true) (h0 : look σ d = none) : Outs P n ((d, x) :: σ) C o v C' := fun a w hE hw => h a w (hE.drop hd h0) hw
theorem Doos.outs {o : Oper} {X : Type} {v : X → Value} {C : World → Prop} {C' : X → World → Prop} (h : Doos P n σ C o v C') : Outs P n σ C o v C' := fun _ w hE hw => h.out hE w hw
theorem Outs.call {o : Oper} {f : FuncId} {args : Array Value} {X : Type} {v : X → Value} {C : World → Prop} {C' : X → World → Prop} (he : Enters P n σ C o f args) (hs : Spec P f args C v C') : Outs P n σ C o v C' := fun a w hE hw => by
  unfold Out;rw [he a w hE hw];exact (hs w hw).mono fun e w' ⟨x, h1, h2⟩ => ⟨v x, h1, x, rfl, h2⟩
theorem Outs.conv {o : Oper} {X : Type} {v : X → Value} {C : World → Prop} {C' C'' : X → World → Prop} (h : Outs P n σ C o v C') (hc : ∀ x w, C' x w → C'' x w) : Outs P n σ C o v C'' := fun a w hE hw => (h a w hE hw).mono fun _ _ ⟨x, h1, h2⟩ => ⟨x, h1, hc x _ h2⟩
theorem Outs.cls {o : Oper} {X : Type} {v : X → Value} {C D : World → Prop} {C' : X → World → Prop} (h : Outs P n σ C o v C') (hc : ∀ w, D w → C w) : Outs P n σ D o v C' := fun a w hE hw => h a w hE (hc w hw)
theorem d_o {C : World → Prop} {i : Nat} {o : Oper} {plan : List PS} {X : Type} {v : X → Value} {C' : X → World → Prop} {d : Nat} (hi : ops[i]? = some o) (hy : Outs P n σ C o v C') (hg : gd ops σ o = some true) (hd : o.dst = some d) (hn : Nat.blt d n = true)
    (hCl : ∀ x, Cl (C' x)) (hD : dr i = true → ∀ x w, C' x w → D w) (k : ∀ x, Sd P n ops dr D Q plan ((d, v x) :: σ) (C' x)) : Sd P n ops dr D Q (.s i :: plan) σ C := by
  intro listed a hE hdc hB hs;simp only [planB, Bool.and_eq_true, beq_iff_eq] at hB;refine one_ready hi hB.1 (.inl ⟨gd_wanted hE hg, X, v, C', fun w hw => hy a w hE hw, fun x => ⟨hCl x, fun h => hD h x, ?_⟩⟩);rw [hd];exact k x _ _ (hE.put hn _) (hdc.set (ready_PL (by rw [hB.1]; simp))) hB.2 hs
theorem j_c {k d : Nat} {o : Oper} {v : Value} {plan q : List PS} {C : Option Y → World → Prop} (hi : ops[k]? = some o) (hy : Qui P n σ D o v) (hg : gd ops σ o = some true) (hg1 : ∀ y, gd ops ((dj, u y) :: σ) o = some true) (hd : o.dst = some d) (hn : Nat.blt d n = true) (hdj : Nat.blt dj n = true) (h0 : look σ dj = none) (hne : Nat.beq dj d = false)
    (hCD : ∀ y w, C y w → D w) (hCl : ∀ y, Cl (C y)) (r : SJ P n ops dr D Q j dj u plan q ((d, v) :: σ) C) : SJ P n ops dr D Q j dj u (.c k :: plan) q σ C := by
  refine ⟨fun listed a hE hdc hB hs => ?_, fun y => ?_⟩
  · simp only [planJ, Bool.and_eq_true] at hB;obtain ⟨⟨h1, h2⟩, h3⟩ := hB;refine AnyC_first hi hs _ _ _ _ (freeD_spec hi h2) hdc (by simpa using h1) (.inl ⟨gd_wanted hE hg, fun w hw => hy a w hE hw⟩) (hCD none) (hCl none) ?_;rw [hd];exact r.s0 _ _ (hE.put hn v) (hdc.set (ready_PL (by simpa using h1))) h3 hs
  · exact d_c hi (hy.drop hdj h0) (hg1 y) hd hn (hCD _) (hCl _) ((r.s1 y).swap hne)
theorem j_s {i d : Nat} {o oj : Oper} {X : Type} {v : X → Value} {plan q : List PS} {C : Option Y → World → Prop} {C' : X → Option Y → World → Prop} (hi : ops[i]? = some o) (hj : ops[j]? = some oj) (hy : ∀ y, Outs P n σ (C y) o v (fun x => C' x y)) (hyj : Outs P n σ (C none) oj u (fun y => C (some y)))
    (hg : gd ops σ o = some true) (hg1 : ∀ y, gd ops ((dj, u y) :: σ) o = some true) (hgj : gd ops σ oj = some true) (hd : o.dst = some d) (hjd : oj.dst = some dj) (hn : Nat.blt d n = true) (hdj : Nat.blt dj n = true) (h0 : look σ dj = none) (hne : Nat.beq dj d = false)
    (hCl : ∀ y, Cl (C y)) (hCl' : ∀ x y, Cl (C' x y)) (hD : ∀ y w, C y w → D w) (hD' : ∀ x y w, C' x y w → D w) (r : ∀ x, SJ P n ops dr D Q j dj u plan q ((d, v x) :: σ) (C' x)) : SJ P n ops dr D Q j dj u (.s i :: plan) q σ C := by
  have s1 : ∀ y, Sd P n ops dr D Q (.s i :: (plan ++ q)) ((dj, u y) :: σ) (C (some y)) := fun y => d_o hi ((hy _).drop hdj h0) (hg1 y) hd hn (fun x => hCl' x _) (fun _ x => hD' x _) (fun x => ((r x).s1 y).swap hne);refine ⟨fun listed a hE hdc hB hs => ?_, s1⟩;simp only [planJ, Bool.and_eq_true, Bool.or_eq_true, beq_iff_eq] at hB;obtain ⟨⟨r1, b1⟩, b2⟩ := hB;have hmem : ∀ m, m ∈ Region.ready .any ops listed ↔ m = i ∨ m = j := fun m => by
    rcases r1 with r1 | r1
    · rw [r1]; simp
    · rw [r1]; simp [or_comm]
  refine ⟨fun h => ?_, fun m hm o' ho => ?_⟩
  · have := (hmem i).2 (.inl rfl);rw [h] at this;simp at this
  · rcases (hmem m).1 hm with rfl | rfl
    · rw [hi] at ho;obtain rfl := Option.some.inj ho;refine .inl ⟨gd_wanted hE hg, X, v, fun x => C' x none, fun w hw => hy none a w hE hw, fun x => ⟨hCl' x _, (fun _ => hD' x _), ?_⟩⟩;rw [hd];exact (r x).s0 _ _ (hE.put hn _) (hdc.set (ready_PL hm)) b1 hs
    · rw [hj] at ho;obtain rfl := Option.some.inj ho;refine .inl ⟨gd_wanted hE hgj, Y, u, fun y => C (some y), fun w hw => hyj a w hE hw, fun y => ⟨hCl _, (fun _ => hD _), ?_⟩⟩;rw [hjd];exact s1 y _ _ (hE.put hdj _) (hdc.set (ready_PL hm)) b2 hs
theorem j_j {oj : Oper} {q : List PS} {C : Option Y → World → Prop} (hj : ops[j]? = some oj) (hyj : Outs P n σ (C none) oj u (fun y => C (some y))) (hgj : gd ops σ oj = some true) (hjd : oj.dst = some dj) (hdj : Nat.blt dj n = true) (hCl : ∀ y, Cl (C y)) (hD : ∀ y w, C y w → D w)
    (r : ∀ y, Sd P n ops dr D Q q ((dj, u y) :: σ) (C (some y))) : SJ P n ops dr D Q j dj u [] q σ C := by
  refine ⟨fun listed a hE hdc hB hs => ?_, r⟩;simp only [planJ, Bool.and_eq_true, beq_iff_eq] at hB;refine one_ready hj hB.1 (.inl ⟨gd_wanted hE hgj, Y, u, fun y => C (some y), fun w hw => hyj a w hE hw, fun y => ⟨hCl _, (fun _ => hD _), ?_⟩⟩);rw [hjd];exact r y _ _ (hE.put hdj _) (hdc.set (ready_PL (by rw [hB.1]; simp))) hB.2 hs
end
end Go.KL
end

section
/- Walks: made. -/
namespace Go.KL
open Go.Proofs Go.Proofs.Tryz
theorem resA2 {P : Program} {n : Nat} {σ : Slots} {C : World → Prop} {fn : Func} {a a' u : Tmp} {t t' : TypeId} {p p' : Addr} {s s' : Nat} {l l' : List Value} {v : Value} (T : Tab P) (hr : fn.results = #[.cell a t, .cell a' t', .tmp u]) (ha : lookE σ a = some (.pointer (some p))) (ha' : lookE σ a' = some (.pointer (some p'))) (hu : lookE σ u = some v)
    (hg : T.agg t = some true) (hg' : T.agg t' = some true) (hs : T.size t = some s) (hs' : T.size t' = some s') (hl : l.length = s) (hl' : l'.length = s') (hc : CellsAre C p l) (hc' : CellsAre C p' l') : resOK P fn n σ C (.tuple #[.agg l.toArray, .agg l'.toArray, v]) := by
  intro act w hE hw;have h1 := hE.atE ha;have h1' := hE.atE ha';have h2 := hE.atE hu;have h3 := run_loadVarA (P := P) T hg hs hl (hc w hw);have h3' := run_loadVarA (P := P) T hg' hs' hl' (hc' w hw);rw [Array.getD_eq_getD_getElem?] at h1 h1' h2;simp [results, hr, h1, h1', h2, asAddr, h3, h3']
def tgs (n : Nat) (f : Nat → Int) (i : Nat) : Nat := if i < n then tgf f i else 0
theorem nbd_le (f : Nat → Nat) : ∀ n, nbd f n ≤ n
  | 0 => Nat.le_refl _
  | n + 1 => by
    have := nbd_le f n;rw [nbd];split <;> omega
theorem tgs_ok {n : Nat} {f : Nat → Int} (h1 : 1 ≤ n) (h2 : n ≤ 200) : RunsOK n (tgs n f) := by
  refine ⟨⟨h1, by omega⟩, Nat.le_trans (nbd_le _ _) (by omega), fun i => ?_, fun i hi => ?_⟩
  · unfold tgs tgf;split <;> omega
  · unfold tgs;rw [if_neg (by omega)]
def flo (c : Nat → Chunk) : Option Nat → List Chunk
  | none => []
  | some y => [c y]
theorem tgs_rns {n : Nat} {f : Nat → Int} : rns (tgf f) 0 n = rns (tgs n f) 0 n := rns_congr (Nat.zero_le _) fun i _ hi => by
  unfold tgs;rw [if_pos hi]
attribute [local irreducible] SC St Fin Sq Ylds Doos Sets Enters Spec CellIs CellsAre Then Ret Rnd Chn resOK ints bools recs arr
theorem made_no {W : World} {N : List Chunk} {v : Value} {n : Nat} {f : Nat → Int} (hV : SlV (K W N) v n 1 (fun i _ => .int .u8 (f i))) (h : n = 0 ∨ 200 < n) : Spec prog 20 #[v] (K W N) (fun _ : Unit => .tuple #[.agg #[.pointer none], .agg #[.int .i64 0, .slice none 0 0], .bool false]) (fun _ => K W N) := by
  refine enter (args := [_]) func20 rfl ntmps20 rfl ?_;refine csr (sal fun b2 => ?_);refine sal fun b3 => ?_;have hV' : SlV (K W ([(b3, row 37 [.int .i64 0, .slice none 0 0])] :: [(b2, row 29 [.pointer none])] :: N)) v n 1 (fun i _ => .int .u8 (f i)) := hV.cons.cons;by_cases c : n = 0
  · refine sa ?_;refine snf (c_seq (csr (sm ?_)));refine sy (y_lenV tab rfl (hV') rfl) ?_;refine sy (y_T (y_eql rfl rfl) (by omega)) ?_;refine sm ?_
    iterate 3 refine s_skip rfl rfl rfl ?_
    refine spT ?_;refine snf (c_condT rfl (csr (sy (y_build tab rfl rfl rfl rfl rfl) ?_)));refine sy (y_build tab rfl rfl rfl rfl rfl) ?_;refine ss (set_box tab 1 rfl rfl rfl rfl rfl rfl rfl) ?_;refine ss (set_box tab 0 rfl rfl rfl rfl rfl rfl rfl) ?_;refine sa ?_;refine snf (c_ret (f_thenR ?_));exact f_ret () (resA2 tab rfl rfl rfl rfl rfl rfl rfl rfl rfl rfl (cells_row0 1 rfl rfl) (cells_row0 0 rfl rfl)) (fun w h => h.tail.tail)
  · have c2 : 200 < n := by omega
    refine sa ?_;refine snf (c_seq (csr (sm ?_)));refine sy (y_lenV tab rfl (hV') rfl) ?_;refine sy (y_F (y_eql rfl rfl) (by omega)) ?_;refine sm ?_;refine sm ?_;refine sy (y_lenV tab rfl (hV') rfl) ?_;refine sy (y_T (y_gtr rfl rfl) (by omega)) ?_;refine spF ?_;refine snf (c_condT rfl (csr (sy (y_build tab rfl rfl rfl rfl rfl) ?_)));refine sy (y_build tab rfl rfl rfl rfl rfl) ?_;refine ss (set_box tab 1 rfl rfl rfl rfl rfl rfl rfl) ?_;refine ss (set_box tab 0 rfl rfl rfl rfl rfl rfl rfl) ?_;refine sa ?_;refine snf (c_ret (f_thenR ?_));exact f_ret () (resA2 tab rfl rfl rfl rfl rfl rfl rfl rfl rfl rfl (cells_row0 1 rfl rfl) (cells_row0 0 rfl rfl)) (fun w h => h.tail.tail)
theorem made_spec {W : World} {N : List Chunk} {v : Value} {n : Nat} {f : Nat → Int} (hV : SlV (K W N) v n 1 (fun i _ => .int .u8 (f i))) (h1 : 1 ≤ n) (h2 : n ≤ 200) (hf : ∀ i, i < n → 0 ≤ f i ∧ f i < 256) : Spec prog 20 #[v] (K W N)
    (X := { x : Chunk × Value × Chunk × Value // MV x.1 x.2.1 n (tgs n f) ∧ BufR 26 3 x.2.2.2 x.2.2.1 (rnl (rns (tgs n f) 0 n)) }) (fun x => .tuple #[.agg #[x.1.2.1], .agg #[.int .i64 (n : Nat), x.1.2.2.2], .bool true]) (fun x => K W (x.1.1 :: x.1.2.2.1 :: N)) := by
  refine enter (args := [_]) func20 rfl ntmps20 rfl ?_;refine csr (sal fun b2 => ?_);refine sal fun b3 => ?_;have hV' : SlV (K W ([(b3, row 37 [.int .i64 0, .slice none 0 0])] :: [(b2, row 29 [.pointer none])] :: N)) v n 1 (fun i _ => .int .u8 (f i)) := hV.cons.cons;refine sa ?_;refine snf (c_seq (csr (sm ?_)));refine sy (y_lenV tab rfl (hV') rfl) ?_;refine sy (y_F (y_eql rfl rfl) (by omega)) ?_;refine sm ?_;refine sm ?_;refine sy (y_lenV tab rfl (hV') rfl) ?_;refine sy (y_F (y_gtr rfl rfl) (by omega)) ?_;refine spF ?_;refine snf (c_condF rfl (c_skip (f_then (csr (sm ?_)))));refine s_call (en_f rfl call32) (of_spec hV' (by omega) hf) rfl rfl rfl (fun x => ?_);obtain ⟨⟨lv, c⟩, hB⟩ := x;dsimp only at hB ⊢;rw [tgs_rns] at hB;have hE := hB.view (C := K W (c :: [(b3, row 37 [.int .i64 0, .slice none 0 0])] :: [(b2, row 29 [.pointer none])] :: N)) (Hs.at 0 rfl);obtain ⟨pa, k, rfl, _, _⟩ := hE.view;refine sal fun b5 => ?_;refine ss (set_box tab 0 rfl rfl rfl rfl rfl rfl rfl) ?_;refine snf (c_seq ?_);have hR := tgs_ok (f := f) h1 h2;obtain ⟨N0, hN0⟩ : ∃ N0, N0 = [(b5, row 37 [.int .i64 (n : Nat), .slice pa (rnl (rns (tgs n f) 0 n)).length k])] :: c :: [(b3, row 37 [.int .i64 0, .slice none 0 0])] :: [(b2, row 29 [.pointer none])] :: N := ⟨_, rfl⟩;obtain ⟨F, hF⟩ : ∃ F : Option Nat → List Chunk, F = flo (fun b => [(b, row 29 [.pointer none])]) := ⟨_, rfl⟩;have hEy : ∀ (A : List Chunk) (y : Option Nat), EV (K W (A ++ (F y ++ N0))) (.slice pa (rnl (rns (tgs n f) 0 n)).length k) 3 (rnl (rns (tgs n f) 0 n)) := fun A y => hB.view (Hs.sub (c := N0.flatten) (fun w hw e he => (hw.own e (by simp [he])).2) fun e he => by rw [hN0]; simp [he]);have hc5 : CellsAre (K W N0) ⟨b5, 0, none⟩ [.int .i64 (n : Nat), .slice pa (rnl (rns (tgs n f) 0 n)).length k] := by rw [hN0]; exact cells_row0 0 rfl rfl
  have hD : ∀ (A : List Chunk) (y : Option Nat) (w : World), K W (A ++ (F y ++ N0)) w → K W N0 w := fun A y w h => K.bck (K.bck h);have hal : ∀ (A : List Chunk) {σ : Slots} {o : Oper}, Doos prog 34 σ (K W (A ++ N0)) o (fun b => Value.pointer (some ⟨b, 0, none⟩)) (fun b => K W ([(b, row 29 [.pointer none])] :: (A ++ N0))) → Outs prog 34 σ (K W (A ++ (F none ++ N0))) o (fun b => Value.pointer (some ⟨b, 0, none⟩)) (fun b => K W (A ++ (F (some b) ++ N0))) := fun A σ o h => by
    rw [hF];exact h.outs.conv fun b w hk => K.bckN (A := [[(b, row 29 [.pointer none])]]) (B := A) hk
  refine SC.cls (C' := K W ([] ++ (F none ++ N0))) ?_ (fun w h => by rw [hF, hN0]; exact h);have hlen : (rnl (rns (tgs n f) 0 n)).length ≤ 200 := by
    rw [List.length_map, rns_len];exact Nat.le_trans (nbd_le _ _) h2
  refine c_planJ (Y := Nat) 10 6 (fun b => .pointer (some ⟨b, 0, none⟩)) [.c 0, .c 1, .c 3, .c 4, .s 2, .s 5, .s 6, .c 7, .c 8, .c 9] [.s 11, .s 12] (K W N0) (fun y => K W ([] ++ (F y ++ N0))) mixed (by kernel_rfl) rfl K.cl ?_;refine j_c rfl (Qui.ylds (y_fieldAddr0 tab rfl rfl rfl rfl rfl)) rfl (fun _ => rfl) rfl rfl rfl rfl rfl (hD _) (fun _ => K.cl) ?_;refine j_c rfl (Qui.ylds (y_load tab rfl rfl (CellsAre.at0 hc5 rfl))) rfl (fun _ => rfl) rfl rfl rfl rfl rfl (hD _) (fun _ => K.cl) ?_;refine j_c rfl (Qui.ylds (y_fieldAddrB tab 1 rfl rfl rfl rfl rfl)) rfl (fun _ => rfl) rfl rfl rfl rfl rfl (hD _) (fun _ => K.cl) ?_;refine j_c rfl (Qui.ylds (y_load tab rfl rfl (CellsAre.nth 1 hc5 rfl))) rfl (fun _ => rfl) rfl rfl rfl rfl rfl (hD _) (fun _ => K.cl) ?_;refine j_s (C' := fun b y => K W ([(b, row 26 [])] :: [] ++ (F y ++ N0))) rfl rfl (fun y => (do_buildSliceS (vs := []) (len := 0) (ps := []) tab ⟨rfl, rfl, rfl, rfl⟩ rfl rfl rfl rfl).outs) (hal [] (do_alloc tab rfl)) rfl (fun _ => rfl) rfl rfl rfl rfl rfl rfl rfl (fun _ => K.cl) (fun _ _ => K.cl) (hD _) (fun b y => hD [_] y) (fun b => ?_);have hrow : (rnl (rns (tgs n f) 0 n)).length = (rns (tgs n f) 0 n).length := List.length_map _;refine j_s (X := { u : Value × Chunk // BufR 26 3 u.1 u.2 ([] ++ rnl (rns (tgs n f) 0 n)) }) (v := fun u => u.1.1) (C' := fun x y => K W ([x.1.2] ++ (F y ++ N0))) rfl rfl (fun y => (do_appendRV (by_ := 24) tab 0 rfl .lit rfl (hEy [_] y) ⟨rfl, rfl, rfl, rfl⟩ rfl (by omega) (Nat.lt_of_sub_eq_succ rfl) rfl rnl_one (by simp only [List.length_nil]; omega) (by omega)).outs) (hal [_] (do_alloc tab rfl)) rfl (fun _ => rfl) rfl rfl rfl rfl rfl rfl rfl (fun _ => K.cl) (fun _ _ => K.cl) (hD [_]) (fun x y => hD [_] y) (fun x => ?_);obtain ⟨⟨u, d⟩, hu⟩ := x;have hu : BufR 26 3 u d (rnl (rns (tgs n f) 0 n)) := hu;have hfr : ∀ y, Spec prog 14 #[.int .i64 (n : Nat), u] (K W ([] :: ([d] ++ (F y ++ N0)))) (X := MX [] n (tgs n f)) (fun x => .tuple #[.agg #[x.1.2], .int .i64 0]) (fun x => K W (x.1.1 :: ([d] ++ (F y ++ N0)))) := fun y => from_spec hR (hu.view (Hs.at 0 rfl));refine j_s (X := MX [] n (tgs n f)) (v := fun x => .tuple #[.agg #[x.1.2], .int .i64 0]) (C' := fun x y => K W ([x.1.1, d] ++ (F y ++ N0))) rfl rfl (fun y => (Outs.call (en_f rfl call14) (hfr y)).cls fun w h => h.addNil) (hal [_] (do_alloc tab rfl)) rfl (fun _ => rfl) rfl rfl rfl rfl rfl rfl rfl (fun _ => K.cl) (fun _ _ => K.cl) (hD [_]) (fun x y => hD [_, _] y) (fun x => ?_);obtain ⟨⟨p', v'⟩, hS, hM⟩ := x;dsimp only at hS hM ⊢;obtain ⟨a, rfl⟩ := hM.ptr;refine j_c rfl (Qui.ylds (y_move rfl)) rfl (fun _ => rfl) rfl rfl rfl rfl rfl (hD _) (fun _ => K.cl) ?_;refine j_c rfl (Qui.ylds (y_extract rfl rfl)) rfl (fun _ => rfl) rfl rfl rfl rfl rfl (hD _) (fun _ => K.cl) ?_;refine j_c rfl (Qui.ylds (y_extract rfl rfl)) rfl (fun _ => rfl) rfl rfl rfl rfl rfl (hD _) (fun _ => K.cl) ?_;refine j_j rfl (hal [_, _] (do_alloc tab rfl)) rfl rfl rfl (fun _ => K.cl) (hD [_, _]) (fun b6 => ?_);refine Sd.cls (C' := K W ([(b6, row 29 [.pointer none])] :: p' :: [(b5, row 37 [.int .i64 (n : Nat), .slice pa (rnl (rns (tgs n f) 0 n)).length k])] :: c :: [(b3, row 37 [.int .i64 0, .slice none 0 0])] :: [(b2, row 29 [.pointer none])] :: N)) ?_ (fun w h => by
    rw [hF, hN0] at h;have h1 : K W (p' :: d :: [(b6, row 29 [.pointer none])] :: [(b5, row 37 [.int .i64 (n : Nat), .slice pa (rnl (rns (tgs n f) 0 n)).length k])] :: c :: [(b3, row 37 [.int .i64 0, .slice none 0 0])] :: [(b2, row 29 [.pointer none])] :: N) w := h;exact (h1.dropAt 1).front 1)
  refine d_set rfl (set_box tab 0 rfl rfl rfl rfl rfl rfl rfl) rfl rfl K.cl (fun _ w h => by rw [hN0]; exact h.tail.tail) ?_;refine d_sy rfl (y_assign rfl) rfl rfl rfl K.cl (fun _ w h => by rw [hN0]; exact h.tail.tail) ?_;refine d_nil (f_then (c_seq ?_));clear hD;refine SC.cls (C' := K W ([(b6, row 29 [.pointer (some a)])] :: p' :: [(b5, row 37 [.int .i64 (n : Nat), .slice pa (rnl (rns (tgs n f) 0 n)).length k])] :: c :: [(b3, row 37 [.int .i64 0, .slice none 0 0])] :: [(b2, row 29 [.pointer none])] :: N)) ?_ (fun w h => h);have hD := fun (w : World) (h : K W ([(b6, row 29 [.pointer (some a)])] :: p' :: [(b5, row 37 [.int .i64 (n : Nat), .slice pa (rnl (rns (tgs n f) 0 n)).length k])] :: c :: [(b3, row 37 [.int .i64 0, .slice none 0 0])] :: [(b2, row 29 [.pointer none])] :: N) w) => h.keep 3;refine c_plan [.c 0, .c 1, .c 2, .c 3, .s 4, .s 5, .s 6] [] (K W [[(b6, row 29 [.pointer (some a)])], p', [(b5, row 37 [.int .i64 (n : Nat), .slice pa (rnl (rns (tgs n f) 0 n)).length k])]]) mixed (by kernel_rfl) rfl K.cl ?_;refine dy rfl (y_loadA tab rfl rfl rfl rfl (cells_row0 0 rfl rfl)) hD ?_;refine dy rfl (y_loadA tab rfl rfl rfl rfl (cells_row0 2 rfl rfl)) hD ?_;refine dy rfl (y_move rfl) hD ?_;refine dy rfl (y_T (y_eql rfl rfl) (by omega)) hD ?_;refine d_set rfl (set_box tab 5 rfl rfl rfl rfl rfl rfl rfl) rfl rfl K.cl (fun _ w h => h.keep 3) ?_;refine d_set rfl (set_box tab 4 rfl rfl rfl rfl rfl rfl rfl) rfl rfl K.cl (fun _ w h => h.keep 3) ?_;refine d_sy rfl (y_assign rfl) rfl rfl rfl K.cl (fun _ w h => h.keep 3) ?_;refine d_nil (f_then (c_ret ?_));exact f_ret ⟨(p', .pointer (some a), c, .slice pa (rnl (rns (tgs n f) 0 n)).length k), hM, hB⟩ (resA2 tab rfl rfl rfl rfl rfl rfl rfl rfl rfl rfl (cells_row0 5 rfl rfl) (cells_row0 4 rfl rfl)) (fun w h => (((h.tail.dropAt 1).dropAt 2).dropAt 2))
end Go.KL
end

section
/- Walks: Commit. -/
namespace Go.KL
open Go.Proofs Go.Proofs.Tryz
def Bk.Cmt (A : Bk) (tx : Int) (B : Bk) (n e : Nat) : Prop := (¬ (1 ≤ tx ∧ tx ≤ A.ts.length) ∧ B = A ∧ n = 0 ∧ e = 80) ∨ ∃ k : Nat, tx = k ∧ A.has k ∧ (((A.tx k).st = 4 ∧ B = A ∧ n = 0 ∧ e = 81) ∨ ((A.tx k).st = 3 ∧ B = A ∧ n = 0 ∧ e = 82) ∨ ((A.tx k).st = 2 ∧ B = A ∧ n = 0 ∧ e = 83) ∨ ((A.tx k).st ≠ 2 ∧ (A.tx k).st ≠ 3 ∧ (A.tx k).st ≠ 4 ∧ B = A.commit k ∧ n = B.log.length ∧ e = 0))
structure ApOK (size : Nat) (C : Nat → Nat) (l : List Oa) : Prop where
  rng : ∀ o ∈ l, o.mv = true → o.lo ≤ o.hi ∧ o.hi ≤ size ∧ o.to < 16
  nb : ∀ n, nbd (ap C (l.take n)) size ≤ 4096
theorem ap_take {f : Nat → Nat} {os : List Ov} {i : Nat} {x : Ov} (h : os[i]? = some x) : ap f (ops (os.take (i + 1))) = if x.1.mv then setf (ap f (ops (os.take i))) x.1.lo x.1.hi x.1.to else ap f (ops (os.take i)) := by
  rw [List.take_add_one, h];unfold ap ops;rw [List.map_append, List.foldl_append];rfl
theorem ops_take {os : List Ov} {i : Nat} : ops (os.take i) = (ops os).take i := by rw [ops, List.map_take]
attribute [local irreducible] SC St Fin Sq Ylds Doos Sets Enters Spec CellIs CellsAre Then Ret Rnd Chn resOK ints bools recs arr
theorem Commit_b {g : Bg} {W : World} {N : List Chunk} {tx : Int} (hB : g.OK) (hG : g.bk.Good) (hA : ∀ k : Nat, tx = k → g.bk.has k → (g.bk.tx k).st ≠ 3 → (g.bk.tx k).st ≠ 4 → ApOK g.size g.C (g.bk.tx k).ops) (hll : g.ls.length < 1000000) :
    Spec prog 30 #[.pointer (some ⟨g.b, 0, none⟩), .int .i64 tx] (K W (g.L ++ N)) (X := { x : Bg × Nat × Nat // x.1.OK ∧ g.bk.Cmt tx x.1.bk x.2.1 x.2.2 ∧ g.Anc x.1 }) (fun x => .tuple #[.int .i64 (x.1.2.1 : Nat), .int .i64 (x.1.2.2 : Nat)]) (fun x => K W (x.1.1.L ++ N)) := by
  refine enter (args := [_, _]) func30 rfl ntmps30 rfl ?_;refine csr (sa ?_);refine sa ?_;refine snf (csr (sm ?_));refine sm ?_;refine sk call64 (find_b hB Hs.bk) fun _ => ?_;by_cases c : 1 ≤ tx ∧ tx ≤ g.ts.length
  · obtain ⟨k, rfl⟩ : ∃ k : Nat, tx = k := ⟨tx.toNat, by omega⟩;have hk : g.has k := ⟨by omega, by omega⟩;have hkb : g.bk.has k := Bg.has_bk.2 hk;rw [fnd_ptr hk];by_cases c4 : (g.bk.tx k).st = 4
    · rw [if_pos c4];refine sm ?_;refine sx ?_;refine sx ?_;refine sa ?_;refine sa ?_;refine snf (c_seq (c_block (csr (sm ?_))));refine sy (y_T (y_neq rfl rfl) (by omega)) ?_;refine sa ?_;refine snf (c_condT rfl (csr (sm ?_)));refine sa ?_;refine sa ?_;refine snf (c_ret (f_blockR (f_thenR ?_)));exact f_ret ⟨(g, 0, 81), hB, .inr ⟨k, rfl, hkb, .inl ⟨c4, rfl, rfl, rfl⟩⟩, .refl _⟩ (res2 rfl rfl rfl) (fun w h => h)
    rw [if_neg c4];by_cases c3 : (g.bk.tx k).st = 3
    · rw [if_pos c3];refine sm ?_;refine sx ?_;refine sx ?_;refine sa ?_;refine sa ?_;refine snf (c_seq (c_block (csr (sm ?_))));refine sy (y_T (y_neq rfl rfl) (by omega)) ?_;refine sa ?_;refine snf (c_condT rfl (csr (sm ?_)));refine sa ?_;refine sa ?_;refine snf (c_ret (f_blockR (f_thenR ?_)));exact f_ret ⟨(g, 0, 82), hB, .inr ⟨k, rfl, hkb, .inr (.inl ⟨c3, rfl, rfl, rfl⟩)⟩, .refl _⟩ (res2 rfl rfl rfl) (fun w h => h)
    rw [if_neg c3];have hap := hA k rfl hkb c3 c4;obtain ⟨t, htm, hti, hid, hpb, htx⟩ := hB.at hk;have hot := good_ol hG htm;have hOt := hB.ok t htm;rw [htx] at hap c3 c4;change ApOK g.size g.C (ops t.os) at hap;have ep : g.ptr k = .pointer (some ⟨t.b, 0, none⟩) := by rw [Bg.ptr, hpb]
    rw [ep];obtain ⟨e0, e1, e2, e3, e7, el, eo⟩ := hB.tf (C := K W (g.L ++ N)) Hs.bk htm;clear e0 e2 e3 el;have hl2 : (opl t.os).length = t.os.length := List.length_map _;by_cases c2 : t.st = 2
    · rw [c2] at e1;refine sm ?_;refine sx ?_;refine sx ?_;refine sa ?_;refine sa ?_;refine snf (c_seq (c_block (csr (sm ?_))));refine sy (y_F (y_neq rfl rfl) (by omega)) ?_;refine sa ?_;refine snf (c_condF rfl (csr (sm ?_)));refine sn ?_;refine sf 1 ?_;refine sl e1 ?_;refine sy (y_T (y_eql rfl rfl) (by omega)) ?_;refine sa ?_;refine snf (c_condT rfl (csr (sa ?_)));refine sa ?_;refine snf (c_ret (f_blockR (f_thenR ?_)));exact f_ret ⟨(g, 0, 83), hB, .inr ⟨k, rfl, hkb, .inr (.inr (.inl ⟨by rw [htx]; exact c2, rfl, rfl, rfl⟩))⟩, .refl _⟩ (res2 rfl rfl rfl) (fun w h => h)
    refine sm ?_;refine sx ?_;refine sx ?_;refine sa ?_;refine sa ?_;refine snf (c_seq (c_block (csr (sm ?_))));refine sy (y_F (y_neq rfl rfl) (by omega)) ?_;refine sa ?_;refine snf (c_condF rfl (csr (sm ?_)));refine sn ?_;refine sf 1 ?_;refine sl e1 ?_;refine sy (y_F (y_eql rfl rfl) (by omega)) ?_;refine sa ?_;refine snf (c_condF rfl (c_skip (f_blockN (f_then (c_seq (csr (sm ?_)))))));refine sn ?_;refine sf 7 ?_;refine sl e7 ?_;refine sy (y_lenE tab rfl (eo) rfl) ?_;refine sm ?_;refine snf (c_block ?_);refine c_loopP (α := Nat × Chunk × Value) (fun z => [(0, .pointer (some ⟨g.b, 0, none⟩)), (6, .pointer (some ⟨t.b, 0, none⟩)), (29, t.ov), (30, .int .i64 (opl t.os).length), (31, .int .i64 (z.1 : Nat))])
      (fun z => z.1 ≤ t.os.length ∧ Sub g.p z.2.1 ∧ MV z.2.1 z.2.2 g.size (ap g.C (ops (t.os.take z.1)))) (fun z => K W ((g.setC z.2.1 z.2.2 g.C).L ++ N)) (fun z => t.os.length - z.1) (0, g.p, g.cv)
      ⟨rfl, rfl, rfl, rfl, rfl, trivial⟩ ⟨Nat.zero_le _, .refl _, hB.mC⟩ (fun w h => h) ?_
    rintro ⟨i, p, cv⟩ ⟨hi, hS, hM⟩;dsimp only at hi hS hM ⊢;clear e1 e7 eo;by_cases c1 : i < t.os.length
    · obtain ⟨x, hx⟩ : ∃ x, t.os[i]? = some x := ⟨t.os[i], by simp [c1]⟩;have heo : EV (K W ((g.setC p cv g.C).L ++ N)) t.ov 6 (opl t.os) := hOt.o.view (Hs.sub (c := (g.setC p cv g.C).L.flatten) Hs.bk fun e he => Bg.mem_ts (g := g.setC p cv g.C) (c := t.oc) htm (by simp) he);have hcx := heo.row (opl_get hx);have hrv := (hOt.r x (List.mem_of_getElem? hx)).one;have hat := ap_take (f := g.C) hx;refine csr (sy (y_T (y_lss rfl rfl) (by omega)) ?_);refine snf (c_seq (c_condT rfl (c_skip (f_then (c_seq (c_block (csr (sy (y_ixE tab rfl rfl rfl rfl (heo) _ rfl (by omega)) ?_))))))));refine sy (y_loadA tab rfl rfl rfl rfl hcx) ?_;refine sal fun b9 => ?_;refine ss (set_box tab 0 rfl rfl (opc_one hrv) rfl rfl rfl rfl) ?_;refine snf (csr (sf0 ?_));refine slr 0 ?_;refine snf ?_;cases hmv : x.1.mv with
      | false =>
        rw [hmv, if_neg (by decide)] at hat;refine c_condF rfl (c_skip (f_blockN (f_then (c_region (sy (y_add rfl rfl (by omega)) ?_)))));refine sm ?_;refine s_nil ?_;exact f_roundP (i + 1, p, cv) ⟨c1, hS, by rw [hat]; exact hM⟩ (by dsimp only; omega) ⟨rfl, rfl, rfl, rfl, rfl, trivial⟩ (fun w h => h.tail)
      | true =>
        rw [hmv, if_pos rfl] at hat;obtain ⟨r1, r2, r3⟩ := hap.rng x.1 (List.mem_map.2 ⟨x, List.mem_of_getElem? hx, rfl⟩) hmv;have hnb := hap.nb (i + 1);rw [← ops_take, hat] at hnb;refine c_condT rfl (SC.cls (C' := K W (p :: [(b9, row 60 (opc x.1 x.2))] :: [(g.b, row 96 [cv, g.wv, .map (some g.ba), .map (some g.br), g.qv, g.lv])] :: [(g.ba, mobj g.ea g.ca)] :: [(g.br, mobj g.er g.cr)] :: g.qc :: g.lc :: (g.ts.flatMap Tg.chunks ++ N))) ?_ (fun w h => K.front 1 h));have hwc : CellsAre (K W (p :: [(b9, row 60 (opc x.1 x.2))] :: [(g.b, row 96 [cv, g.wv, .map (some g.ba), .map (some g.br), g.qv, g.lv])] :: [(g.ba, mobj g.ea g.ca)] :: [(g.br, mobj g.er g.cr)] :: g.qc :: g.lc :: (g.ts.flatMap Tg.chunks ++ N))) ⟨g.b, 0, none⟩ [cv] := CellsAre.one (cell_row 2 rfl rfl);have hD := fun (w : World) (h : K W (p :: [(b9, row 60 (opc x.1 x.2))] :: [(g.b, row 96 [cv, g.wv, .map (some g.ba), .map (some g.br), g.qv, g.lv])] :: [(g.ba, mobj g.ea g.ca)] :: [(g.br, mobj g.er g.cr)] :: g.qc :: g.lc :: (g.ts.flatMap Tg.chunks ++ N)) w) => h.tail.keep 1;refine c_plan [.c 0, .c 1, .c 2, .c 3, .c 5, .c 6, .c 7, .c 8, .c 9, .c 10, .s 4, .s 11, .s 12, .c 14, .c 13, .c 15, .c 16, .s 17] [] (K W [[(b9, row 60 (opc x.1 x.2))]]) mixed (by kernel_rfl) rfl K.cl ?_;refine dy rfl (y_move rfl) hD ?_;refine dy rfl (y_move rfl) hD ?_;refine dy rfl (y_nilP rfl) hD ?_;refine dy rfl (y_fieldAddr0 tab rfl rfl rfl rfl rfl) hD ?_;refine dy rfl (y_fieldAddrB tab 1 rfl rfl rfl rfl rfl) hD ?_;refine dy rfl (y_load tab rfl rfl (cell_row 0 rfl rfl)) hD ?_;refine dy rfl (y_fieldAddrB tab 2 rfl rfl rfl rfl rfl) hD ?_;refine dy rfl (y_load tab rfl rfl (cell_row 0 rfl rfl)) hD ?_;refine dy rfl (y_fieldAddrB tab 4 rfl rfl rfl rfl rfl) hD ?_;refine dy rfl (y_load tab rfl rfl (cell_row 0 rfl rfl)) hD ?_;refine d_sy rfl (y_loadA tab rfl rfl rfl rfl hwc) rfl rfl rfl K.cl (fun _ => hD) ?_;refine d_call rfl (en_f rfl call65) (mset_spec hM r1 r2 r3 hnb) rfl rfl rfl (fun _ => K.cl) (fun _ _ _ h => h.tail.keep 1) (fun y => ?_);obtain ⟨⟨p', cv'⟩, hS', hM'⟩ := y;dsimp only at hS' hM' ⊢;obtain ⟨a, rfl⟩ := hM'.ptr;have hD1 := fun (w : World) (h : K W (p' :: [(b9, row 60 (opc x.1 x.2))] :: [(g.b, row 96 [cv, g.wv, .map (some g.ba), .map (some g.br), g.qv, g.lv])] :: [(g.ba, mobj g.ea g.ca)] :: [(g.br, mobj g.er g.cr)] :: g.qc :: g.lc :: (g.ts.flatMap Tg.chunks ++ N)) w) => h.tail.keep 1;refine d_sy rfl (y_move rfl) rfl rfl rfl K.cl (fun _ => hD1) ?_;refine dy rfl (y_extract rfl rfl) hD1 ?_;refine dy rfl (y_extract rfl rfl) hD1 ?_;refine dy rfl (y_nilP rfl) hD1 ?_;refine dy rfl (y_fieldAddr0 tab rfl rfl rfl rfl rfl) hD1 ?_;refine d_set rfl (set_aggB tab 2 rfl rfl rfl rfl rfl rfl rfl) rfl rfl K.cl (fun _ _ h => h.tail.keep 1) ?_;refine d_nil (f_blockN (f_then (c_region (sy (y_add rfl rfl (by omega)) ?_))));refine sm ?_;refine s_nil ?_;exact f_roundP (i + 1, p', .pointer (some a)) ⟨c1, hS.trans hS', by rw [hat]; exact hM'⟩ (by dsimp only; omega) ⟨rfl, rfl, rfl, rfl, rfl, trivial⟩ (fun w h => K.dropAt 1 h)
    · obtain rfl : i = t.os.length := by omega
      rw [List.take_length] at hM;refine csr (sy (y_F (y_lss rfl rfl) (by omega)) ?_);refine snf (c_seq (c_condF rfl (c_exit (f_thenE (f_rndE (f_blockE (f_then (c_seq ?_))))))));have heo : EV (K W ((g.setC p cv g.C).L ++ N)) t.ov 6 (opl t.os) := hOt.o.view (Hs.sub (c := (g.setC p cv g.C).L.flatten) Hs.bk fun e he => Bg.mem_ts (g := g.setC p cv g.C) (c := t.oc) htm (by simp) he);obtain ⟨pa, cc, hov, _, _⟩ := heo.view;obtain ⟨g1, hg1⟩ : ∃ g1 : Bg, g1 = g.setC p cv (ap g.C (ops t.os)) := ⟨_, rfl⟩;have hB1 : g1.OK := by rw [hg1]; exact hB.setC hS hM
      have hA1 : g.Anc g1 := by rw [hg1]; exact ⟨rfl, rfl, rfl⟩
      have hti1 : g1.ts[k - 1]? = some t := by rw [hg1]; exact hti
      have hlB := hB1.lB;have hls : g1.ls = g.ls := by rw [hg1]; rfl
      refine SC.cls (C' := K W ([(g.b, row 96 g1.cells)] :: [(t.b, row 113 t.cells)] :: t.lc :: t.oc :: g1.p :: [(g1.ba, mobj g1.ea g1.ca)] :: [(g1.br, mobj g1.er g1.cr)] :: g1.qc :: g1.lc :: (g1.rest k ++ N))) ?_ (fun w h => by
        have h2 : K W (g1.L ++ N) w := by rw [hg1]; exact h
        have h3 := (K.foc hti1 h2).front 4;rw [← hA1.b];exact h3)
      refine c_plan [.c 0, .c 1, .c 2, .c 3, .c 4, .c 5, .c 6, .c 7, .c 8, .c 9, .c 10, .c 11, .c 12, .c 13, .s 14, .s 15, .c 16, .c 17, .s 18] [18] ((K W [[(g.b, row 96 g1.cells)], [(t.b, row 113 t.cells)]])) mixed (by kernel_rfl) rfl K.cl ?_;refine dy rfl (y_move rfl) (fun w h => h.keep 2) ?_;refine dy rfl (y_move rfl) (fun w h => h.keep 2) ?_;refine dy rfl (y_nilP rfl) (fun w h => h.keep 2) ?_;refine dy rfl (y_fieldAddrB tab 5 rfl rfl rfl rfl rfl) (fun w h => h.keep 2) ?_;refine dy rfl (y_load tab rfl rfl (cell_row 0 rfl rfl)) (fun w h => h.keep 2) ?_;refine dy rfl (y_move rfl) (fun w h => h.keep 2) ?_;refine dy rfl (y_nilP rfl) (fun w h => h.keep 2) ?_;refine dy rfl (y_fieldAddr0 tab rfl rfl rfl rfl rfl) (fun w h => h.keep 2) ?_;refine dy rfl (y_load tab rfl rfl (cell_row 1 rfl rfl)) (fun w h => h.keep 2) ?_;refine dy rfl (y_move rfl) (fun w h => h.keep 2) ?_;refine dy rfl (y_nilP rfl) (fun w h => h.keep 2) ?_;refine dy rfl (y_fieldAddrB tab 7 rfl rfl rfl rfl rfl) (fun w h => h.keep 2) ?_;refine dy rfl (y_load tab rfl rfl (cell_row 1 rfl rfl)) (fun w h => h.keep 2) ?_;rw [hov];refine dy rfl (y_build tab rfl rfl rfl rfl rfl) (fun w h => h.keep 2) ?_;refine d_s rfl (do_buildSliceS tab ⟨rfl, rfl, rfl, rfl⟩ rfl rfl rfl rfl) rfl rfl rfl (fun _ => K.cl) (fun _ _ _ h => h.tail.keep 2) (fun b69 => ?_);refine d_s rfl (do_appendR (by_ := 32) (news := [.int .i64 (t.id : Nat), .slice pa (opl t.os).length cc]) tab 9 rfl hlB rfl ⟨rfl, rfl, rfl, rfl⟩ rfl (by simp) rfl (cells_row0 0 rfl rfl) rfl rfl (by rw [List.length_map, hls]; omega) (by omega)) rfl rfl rfl (fun _ => K.cl) (fun _ _ _ h => h.tail.keep 2) (fun y => ?_);obtain ⟨⟨lv', lc'⟩, hl'⟩ := y;dsimp only at hl' ⊢;refine dy rfl (y_nilP rfl) (fun w h => h.tail.keep 2) ?_;refine dy rfl (y_fieldAddrB tab 5 rfl rfl rfl rfl rfl) (fun w h => h.tail.keep 2) ?_;refine d_set rfl (set_row tab 1 rfl rfl hl'.one rfl rfl (Nat.lt_of_sub_eq_succ rfl)) rfl rfl K.cl (fun h => by cases h) ?_;refine d_nil (f_then (csr (sm ?_)));refine sm ?_;refine sn ?_;refine sf 1 ?_;refine ss (set_rowB tab 2 rfl rfl rfl rfl rfl rfl) ?_;refine sn ?_;refine sf 7 ?_;refine ss (set_rowB tab 2 rfl rfl rfl rfl rfl rfl) ?_;refine snf (csr (sm ?_));refine sm ?_;obtain ⟨t2, ht2⟩ : ∃ t2 : Tg, t2 = { t with st := 3, os := [], ov := .slice none 0 0, oc := [] } := ⟨_, rfl⟩;have h2b : t2.b = t.b := by rw [ht2]
      obtain ⟨g2, hg2⟩ : ∃ g2 : Bg, g2 = (g1.setC (t.oc ++ g1.p) g1.cv g1.C).setL (g1.ls ++ [(k, t.ov, t.os)]) lv' lc' := ⟨_, rfl⟩;have hS1 : Sub g1.p (t.oc ++ g1.p) := .app ..;have hOt1 := hB1.ok t (List.mem_of_getElem? hti1);have hB2 : g2.OK := by
        rw [hg2];refine (hB1.setC hS1 (hB1.mC.sub hS1)).setL (hl'.of ?_) fun x hx => ?_
        · rw [List.map_append, ← hov, hid]; rfl
        · rcases List.mem_append.1 hx with hx | hx
          · exact ⟨Sub.pe (hB1.lO x hx).1 hS1, (hB1.lO x hx).2.sub hS1⟩
          · rw [List.mem_singleton.1 hx];exact ⟨hOt.o.pool g1.p, hOt1.r.sub hS1⟩
      have hA2 : g1.Anc g2 := by rw [hg2]; exact ⟨rfl, rfl, rfl⟩
      have hti2 : g2.ts[k - 1]? = some t := by rw [hg2]; exact hti1
      obtain ⟨g3, hg3⟩ : ∃ g3 : Bg, g3 = g2.setT k t2 := ⟨_, rfl⟩;have hB3 : g3.OK := by
        rw [hg3];refine hB2.setT hti2 h2b (by rw [ht2]) ?_;rw [ht2];exact ⟨hOt1.l, .nil, .nil⟩
      have hA3 : g2.Anc g3 := by rw [hg3]; exact setT_anc hti2 h2b
      refine St.cls (C' := K W (g3.L ++ N)) ?_ (fun w h => by
        rw [hg3];refine K.unfoc (t' := t2) (F := g2.fixed) hti2 ?_;have h1 : K W ([(g.b, row 96 [g1.cv, g1.wv, .map (some g1.ba), .map (some g1.br), g1.qv, lv'])] :: [(t2.b, row 113 t2.cells)] :: t.lc :: t.oc :: g1.p :: [(g1.ba, mobj g1.ea g1.ca)] :: [(g1.br, mobj g1.er g1.cr)] :: g1.qc :: lc' :: (g1.rest k ++ N)) w := by rw [ht2]; exact K.tail h
        have h2 := (((h1.front 3).front 4).front 1).join;have h3 := ((((h2.front 3).front 3).addNil).front 2).front 2;have e2 : g2.fixed = [t.oc ++ g1.p, [(g.b, row 96 [g1.cv, g1.wv, .map (some g1.ba), .map (some g1.br), g1.qv, lv'])], [(g1.ba, mobj g1.ea g1.ca)], [(g1.br, mobj g1.er g1.cr)], g1.qc, lc'] := by rw [hg2, ← hA1.b]; rfl
        have e3 : g2.rest k = g1.rest k := by rw [hg2]; rfl
        have e4 : t2.chunks = [[(t2.b, row 113 t2.cells)], t.lc, []] := by rw [ht2]
        rw [e2, e3, e4];exact h3)
      have hrel := release_spec (W := W) (N := N) (k := k) hB3 ⟨fun u hu => ?_, by rw [hg3, hg2, hg1]; exact hG.rn, by rw [hg3, hg2, hg1]; exact hG.q⟩ (hA3.has (hA2.has (hA1.has hk)));rw [hA3.ptr, hA2.ptr, hA1.ptr, ep, hA3.b, hA2.b, hA1.b] at hrel;skip;refine sk call66 hrel fun y => ?_;obtain ⟨g4, hB4, hbk4, hA4⟩ := y;dsimp only;have hb4 : g4.b = g.b := by rw [hA4.b, hA3.b, hA2.b, hA1.b]
      obtain ⟨_, _, _, _, _, d5, _, dl, _, _⟩ := hB4.bf (C := K W (g4.L ++ N)) Hs.bk;rw [hb4] at d5;have hbk : g4.bk = g.bk.commit k := by
        rw [hbk4, hg3, setT_bk, hg2, hg1, Bk.commit, htx, ht2];simp only [Bg.setC, Bg.setL, Bg.bk, Bk.setT, List.map_append, List.map_cons, List.map_nil];rfl
      have hll4 : g4.bk.log.length = (g4.ls.map fun x => [Value.int .i64 (x.1 : Nat), x.2.1]).length := by simp [Bg.bk]
      refine snf (csr (sm ?_));refine sn ?_;refine sf 5 ?_;refine sl d5 ?_;refine sy (y_lenE tab rfl (dl) rfl) ?_;refine sa ?_;refine sa ?_;refine snf (c_ret ?_);exact f_ret ⟨(g4, (g4.ls.map fun x => [Value.int .i64 (x.1 : Nat), x.2.1]).length, 0), hB4, .inr ⟨k, rfl, hkb, .inr (.inr (.inr ⟨by rw [htx]; exact c2, by rw [htx]; exact c3, by rw [htx]; exact c4, hbk, hll4.symm, rfl⟩))⟩, hA1.trans (hA2.trans (hA3.trans hA4))⟩ (res2 rfl rfl rfl) (fun w h => h);rw [hg3, hg2, hg1] at hu;rcases List.mem_or_eq_of_mem_set hu with hu | rfl
      · exact (good_lo hG hu).1
      · rw [ht2]; exact (good_lo hG htm).1
  · rw [fnd_none c];refine sm ?_;refine sx ?_;refine sx ?_;refine sa ?_;refine sa ?_;refine snf (c_seq (c_block (csr (sm ?_))));refine sy (y_T (y_neq rfl rfl) (by omega)) ?_;refine sa ?_;refine snf (c_condT rfl (csr (sm ?_)));refine sa ?_;refine sa ?_;refine snf (c_ret (f_blockR (f_thenR ?_)));exact f_ret ⟨(g, 0, 80), hB, .inl ⟨by simpa [Bg.bk] using c, rfl, rfl, rfl⟩, .refl _⟩ (res2 rfl rfl rfl) (fun w h => h)
end Go.KL
end
