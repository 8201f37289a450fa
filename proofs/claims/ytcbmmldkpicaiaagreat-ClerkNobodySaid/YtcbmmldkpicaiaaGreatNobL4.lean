/- The library of the proof, part 4: a program logic over the model, walks of functions, plain laws. No condition. -/
import Derived.Shelf.SlIterI.Nil
import Derived.Shelf.SortM.Plain
import Derived.Shelf.SortM.SortNone
import Derived.Test.YtcbmmldkpicaiaaGreatNobL3
section
/- Walks: concat, split. -/
namespace Go.KL
open Go.Proofs
theorem grow_lok {a b : Tree} (ha : a ≠ .nil) (hb : b ≠ .nil) (hk : LOk (a.toL ++ b.toL)) (c : a.takeLast.2.2 = b.first) : LOk (a.takeLast.1.toL ++ (b.grow a.takeLast.2.1).toL) := by
  obtain ⟨n, L, hf⟩ := Tree.first_toL b hb
  have h := hk.cat
  rw [Tree.takeLast_toL a ha, hf, catL_snoc, if_pos c] at h
  rw [Tree.grow_toL b hf]
  exact h
attribute [local irreducible] SC St Fin Sq Ylds Doos Sets Enters Spec CellIs CellsAre Then Ret Rnd Chn resOK ints bools recs arr
set_option maxRecDepth 10000 in
set_option maxHeartbeats 4000000 in
theorem concat_spec {W : World} {p : Chunk} {R : List Chunk} {va vb : Value} {a b : Tree} (ha : Tr p va a) (hb : Tr p vb b) (ba : a.Bal) (bb : b.Bal) (hk : LOk (a.toL ++ b.toL)) :
    Spec Tryz.prog 95 #[va, vb] (K W (p :: R)) (X := TX p (a.concat b)) (fun x => x.1.2) (fun x => K W (x.1.1 :: R)) := by
  refine enter (args := [_, _]) Tryz.func95 rfl Tryz.ntmps95 rfl ?_
  by_cases ca : a = .nil
  · subst ca
    obtain rfl := ha.nilC
    obtain ⟨vq, rfl⟩ := hb.ptr
    refine c_seq ?_
    refine c_region ?_
    refine s_y (y_assign rfl) rfl rfl rfl ?_
    refine s_nil ?_
    refine f_then ?_
    refine c_seq ?_
    refine c_block ?_
    refine c_seq ?_
    refine c_region ?_
    refine s_y (y_move rfl) rfl rfl rfl ?_
    refine s_y (y_eqlPN Tryz.tab rfl rfl) rfl rfl rfl ?_
    refine s_y (y_assign rfl) rfl rfl rfl ?_
    refine s_nil ?_
    refine f_then ?_
    refine c_condT rfl ?_
    refine c_seq ?_
    refine c_region ?_
    refine s_y (y_move rfl) rfl rfl rfl ?_
    refine s_y (y_assign rfl) rfl rfl rfl ?_
    refine s_nil ?_
    refine f_then ?_
    refine c_ret ?_
    refine f_blockR ?_
    refine f_thenR ?_
    exact f_ret ⟨(p, .pointer vq), Sub.refl _, hb⟩ (res1 rfl rfl) (fun w h => h)
  by_cases cb : b = .nil
  · subst cb
    obtain rfl := hb.nilC
    rw [Tree.concat_nil]
    obtain ⟨aq, rfl⟩ := ha.neC ca
    refine c_seq ?_
    refine c_region ?_
    refine s_y (y_assign rfl) rfl rfl rfl ?_
    refine s_nil ?_
    refine f_then ?_
    refine c_seq ?_
    refine c_block ?_
    refine c_seq ?_
    refine c_region ?_
    refine s_y (y_move rfl) rfl rfl rfl ?_
    refine s_y (y_eqlPN Tryz.tab rfl rfl) rfl rfl rfl ?_
    refine s_y (y_assign rfl) rfl rfl rfl ?_
    refine s_nil ?_
    refine f_then ?_
    refine c_condF rfl ?_
    refine c_seq ?_
    refine c_region ?_
    refine s_y (y_move rfl) rfl rfl rfl ?_
    refine s_y (y_eqlPN Tryz.tab rfl rfl) rfl rfl rfl ?_
    refine s_y (y_assign rfl) rfl rfl rfl ?_
    refine s_nil ?_
    refine f_then ?_
    refine c_condT rfl ?_
    refine c_seq ?_
    refine c_region ?_
    refine s_y (y_move rfl) rfl rfl rfl ?_
    refine s_y (y_assign rfl) rfl rfl rfl ?_
    refine s_nil ?_
    refine f_then ?_
    refine c_ret ?_
    refine f_blockR ?_
    refine f_thenR ?_
    exact f_ret ⟨(p, .pointer (some aq)), Sub.refl _, ha⟩ (res1 rfl rfl) (fun w h => h)
  have hkg := fun c => grow_lok ca cb hk c
  have hka := hk.left
  have hj : LOk (a.takeLast.1.toL ++ a.takeLast.2 :: b.toL) := hk.eq (by conv => lhs; rw [Tree.takeLast_toL a ca]
                                                                         simp)
  have hb1 := Tree.takeLast_bal a ca ba
  rw [Tree.concat_eq ca cb]
  obtain ⟨aq, rfl⟩ := ha.neC ca
  obtain ⟨bq, rfl⟩ := hb.neC cb
  refine c_seq ?_
  refine c_region ?_
  refine s_y (y_assign rfl) rfl rfl rfl ?_
  refine s_nil ?_
  refine f_then ?_
  refine c_seq ?_
  refine c_block ?_
  refine c_seq ?_
  refine c_region ?_
  refine s_y (y_move rfl) rfl rfl rfl ?_
  refine s_y (y_eqlPN Tryz.tab rfl rfl) rfl rfl rfl ?_
  refine s_y (y_assign rfl) rfl rfl rfl ?_
  refine s_nil ?_
  refine f_then ?_
  refine c_condF rfl ?_
  refine c_seq ?_
  refine c_region ?_
  refine s_y (y_move rfl) rfl rfl rfl ?_
  refine s_y (y_eqlPN Tryz.tab rfl rfl) rfl rfl rfl ?_
  refine s_y (y_assign rfl) rfl rfl rfl ?_
  refine s_nil ?_
  refine f_then ?_
  refine c_condF rfl ?_
  refine c_skip ?_
  refine f_blockN ?_
  refine f_then ?_
  refine c_seq ?_
  refine c_region ?_
  refine s_y (y_move rfl) rfl rfl rfl ?_
  refine s_call (en_f rfl Tryz.call113) (takeLast_spec a ha ca ba hka) rfl rfl rfl (fun x => ?_)
  obtain ⟨⟨p1, v1⟩, hs1, ht1⟩ := x
  dsimp only at hs1 ht1 ⊢
  have hrl : a.takeLast.1.toL ++ [a.takeLast.2] = a.toL := (Tree.takeLast_toL a ca).symm
  generalize a.takeLast = tla at *
  obtain ⟨ra, na, ta⟩ := tla
  dsimp only at *
  refine s_y (y_move rfl) rfl rfl rfl ?_
  refine s_y (y_extract rfl rfl) rfl rfl rfl ?_
  refine s_y (y_extract rfl rfl) rfl rfl rfl ?_
  refine s_y (y_extract rfl rfl) rfl rfl rfl ?_
  refine s_y (y_assign rfl) rfl rfl rfl ?_
  refine s_y (y_assign rfl) rfl rfl rfl ?_
  refine s_y (y_assign rfl) rfl rfl rfl ?_
  refine s_nil ?_
  refine f_then ?_
  refine c_seq ?_
  refine c_seq ?_
  refine c_region ?_
  refine s_y (y_move rfl) rfl rfl rfl ?_
  refine s_y (y_move rfl) rfl rfl rfl ?_
  refine s_call (en_f rfl Tryz.call114) (first_spec (hb.sub hs1) cb) rfl rfl rfl (fun _ => ?_)
  by_cases c : ta = b.first
  · rw [if_pos c]
    have hkg1 := hkg c
    refine s_y (y_T (y_eql rfl rfl) (by omega)) rfl rfl rfl ?_
    refine s_nil ?_
    refine f_then ?_
    refine c_condT rfl ?_
    refine c_seq ?_
    refine c_region ?_
    refine s_y (y_move rfl) rfl rfl rfl ?_
    refine s_y (y_move rfl) rfl rfl rfl ?_
    refine s_call (en_f rfl Tryz.call115) (grow_spec b (hb.sub hs1) cb hkg1.right) rfl rfl rfl (fun x => ?_)
    obtain ⟨⟨p2, v2⟩, hs2, ht2⟩ := x
    dsimp only at hs2 ht2 ⊢
    by_cases c2 : ra = .nil
    · subst c2
      obtain rfl := ht1.nilC
      rw [if_pos (show Tree.runs .nil = 0 from rfl)]
      refine s_y (y_assign rfl) rfl rfl rfl ?_
      refine s_nil ?_
      refine f_then ?_
      refine c_seq ?_
      refine c_seq ?_
      refine c_region ?_
      refine s_y (y_move rfl) rfl rfl rfl ?_
      refine s_y (y_eqlPN Tryz.tab rfl rfl) rfl rfl rfl ?_
      refine s_nil ?_
      refine f_then ?_
      refine c_condT rfl ?_
      refine c_seq ?_
      refine c_region ?_
      refine s_y (y_move rfl) rfl rfl rfl ?_
      refine s_y (y_assign rfl) rfl rfl rfl ?_
      refine s_nil ?_
      refine f_then ?_
      refine c_ret ?_
      refine f_thenR ?_
      refine f_thenR ?_
      exact f_ret ⟨(p2, v2), hs1.trans hs2, ht2⟩ (res1 rfl rfl) (fun w h => h)
    · rw [if_neg (fun z => c2 (Tree.runs_zero z))]
      obtain ⟨rq, rfl⟩ := ht1.neC c2
      have hrl2 := Tree.takeLast_toL ra c2
      have hb2 := Tree.takeLast_bal ra c2 hb1
      refine s_y (y_assign rfl) rfl rfl rfl ?_
      refine s_nil ?_
      refine f_then ?_
      refine c_seq ?_
      refine c_seq ?_
      refine c_region ?_
      refine s_y (y_move rfl) rfl rfl rfl ?_
      refine s_y (y_eqlPN Tryz.tab rfl rfl) rfl rfl rfl ?_
      refine s_nil ?_
      refine f_then ?_
      refine c_condF rfl ?_
      refine c_skip ?_
      refine f_then ?_
      refine c_region ?_
      refine s_y (y_move rfl) rfl rfl rfl ?_
      refine s_call (en_f rfl Tryz.call113) (takeLast_spec ra (ht1.sub hs2) c2 hb1 hkg1.left) rfl rfl rfl (fun x => ?_)
      obtain ⟨⟨p3, v3⟩, hs3, ht3⟩ := x
      dsimp only at hs3 ht3 ⊢
      refine s_y (y_move rfl) rfl rfl rfl ?_
      refine s_y (y_extract rfl rfl) rfl rfl rfl ?_
      refine s_y (y_extract rfl rfl) rfl rfl rfl ?_
      refine s_y (y_extract rfl rfl) rfl rfl rfl ?_
      refine s_y (y_assign rfl) rfl rfl rfl ?_
      refine s_y (y_assign rfl) rfl rfl rfl ?_
      refine s_y (y_assign rfl) rfl rfl rfl ?_
      refine s_nil ?_
      refine f_then ?_
      refine c_seq ?_
      refine c_region ?_
      refine s_y (y_move rfl) rfl rfl rfl ?_
      refine s_y (y_move rfl) rfl rfl rfl ?_
      refine s_y (y_move rfl) rfl rfl rfl ?_
      refine s_y (y_move rfl) rfl rfl rfl ?_
      have hj3 : LOk (ra.takeLast.1.toL ++ ra.takeLast.2 :: (b.grow na).toL) := by
        refine hkg1.eq ?_
        conv => lhs; rw [hrl2]
        simp
      refine s_call (en_f rfl Tryz.call112) (join_spec ht3 (ht2.sub hs3) hb2 (Tree.grow_bal b bb) hj3) rfl rfl rfl (fun x => ?_)
      obtain ⟨⟨p4, v4⟩, hs4, ht4⟩ := x
      dsimp only at hs4 ht4 ⊢
      refine s_y (y_assign rfl) rfl rfl rfl ?_
      refine s_nil ?_
      refine f_then ?_
      refine c_ret ?_
      exact f_ret ⟨(p4, v4), ((hs1.trans hs2).trans hs3).trans hs4, ht4⟩ (res1 rfl rfl) (fun w h => h)
  · rw [if_neg c]
    refine s_y (y_F (y_eql rfl rfl) (by omega)) rfl rfl rfl ?_
    refine s_nil ?_
    refine f_then ?_
    refine c_condF rfl ?_
    refine c_skip ?_
    refine f_then ?_
    refine c_seq ?_
    refine c_region ?_
    refine s_y (y_move rfl) rfl rfl rfl ?_
    refine s_y (y_move rfl) rfl rfl rfl ?_
    refine s_y (y_move rfl) rfl rfl rfl ?_
    refine s_y (y_move rfl) rfl rfl rfl ?_
    refine s_call (en_f rfl Tryz.call112) (join_spec ht1 (hb.sub hs1) hb1 bb hj) rfl rfl rfl (fun x => ?_)
    obtain ⟨⟨p4, v4⟩, hs4, ht4⟩ := x
    dsimp only at hs4 ht4 ⊢
    refine s_y (y_assign rfl) rfl rfl rfl ?_
    refine s_nil ?_
    refine f_then ?_
    refine c_ret ?_
    exact f_ret ⟨(p4, v4), hs1.trans hs4, ht4⟩ (res1 rfl rfl) (fun w h => h)
set_option maxRecDepth 10000 in
set_option maxHeartbeats 8000000 in
theorem split_spec : ∀ (t : Tree) {W : World} {p : Chunk} {R : List Chunk} {v : Value} {k : Nat} (_ : Tr p v t) (_ : t.Bal) (_ : PosL t.toL) (_ : LOk t.toL) (_ : k ≤ 1152921504606846976),
    Spec Tryz.prog 93 #[v, .int .i64 (k : Nat)] (K W (p :: R)) (X := TX2 p (t.split k).1 (t.split k).2) (fun x => .tuple #[x.1.2.1, x.1.2.2]) (fun x => K W (x.1.1 :: R))
  | .nil, W, p, R, v, k, ht, _, _, _, _ => by
    obtain rfl := ht.nilC
    refine enter (args := [_, _]) Tryz.func93 rfl Tryz.ntmps93 rfl ?_
    refine c_seq ?_
    refine c_region ?_
    refine s_y (y_assign rfl) rfl rfl rfl ?_
    refine s_y (y_assign rfl) rfl rfl rfl ?_
    refine s_nil ?_
    refine f_then ?_
    refine c_seq ?_
    refine c_seq ?_
    refine c_region ?_
    refine s_y (y_move rfl) rfl rfl rfl ?_
    refine s_y (y_eqlPN Tryz.tab rfl rfl) rfl rfl rfl ?_
    refine s_nil ?_
    refine f_then ?_
    refine c_condT rfl ?_
    refine c_seq ?_
    refine c_region ?_
    refine s_y (y_assign rfl) rfl rfl rfl ?_
    refine s_y (y_assign rfl) rfl rfl rfl ?_
    refine s_nil ?_
    refine f_then ?_
    refine c_ret ?_
    refine f_thenR ?_
    exact f_ret ⟨(p, .pointer none, .pointer none), Sub.refl _, Tr.nil, Tr.nil⟩ (res2 rfl rfl rfl) (fun w h => h)
  | .node l n t r, W, p, R, v, k, ht, hb, hpos, hk, hkb => by
    obtain ⟨b, lv, rv, rfl, hbm, hl, hr⟩ := ht.nodeC
    obtain ⟨f0, f1, f2, f3, f4, f5, f6, f7⟩ := ndf (W := W) (R := R) hbm
    clear f4 f5 f6 f7
    have hpos' := hpos
    rw [Tree.toL, PosL.app, PosL.cons] at hpos'
    obtain ⟨hp1, hp2, hp3⟩ := hpos'
    dsimp only at hp2
    have hkl : LOk l.toL := hk.left
    have hkr : LOk r.toL := (hk.eq (B := (l.toL ++ [(n, t)]) ++ r.toL) (by simp [Tree.toL])).right
    have ihl := split_spec l (W := W) (R := R) (k := k) hl hb.1 hp1 hkl hkb
    have ihr := fun (p1 : Chunk) (h : Tr p1 rv r) => split_spec r (W := W) (R := R) (k := k - l.pcs - n) h hb.2.1 hp3 hkr (by omega)
    obtain ⟨e1, e2⟩ := Tree.split_toL (.node l n t r) k hpos
    have ok1 : LOk ((Tree.node l n t r).split k).1.toL := by rw [e1]; exact hk.take k
    have ok2 : LOk ((Tree.node l n t r).split k).2.toL := by rw [e2]; exact hk.drop k
    clear e1 e2
    obtain ⟨sb1, sb2⟩ := Tree.split_bal l k hb.1
    obtain ⟨sb3, sb4⟩ := Tree.split_bal r (k - l.pcs - n) hb.2.1
    have hlb : l.pcs + r.pcs + n ≤ 1152921504606846976 := (Tree.LOk.node hk).2.1
    refine enter (args := [_, _]) Tryz.func93 rfl Tryz.ntmps93 rfl ?_
    refine c_seq ?_
    refine c_region ?_
    refine s_y (y_assign rfl) rfl rfl rfl ?_
    refine s_y (y_assign rfl) rfl rfl rfl ?_
    refine s_nil ?_
    refine f_then ?_
    refine c_seq ?_
    refine c_seq ?_
    refine c_region ?_
    refine s_y (y_move rfl) rfl rfl rfl ?_
    refine s_y (y_eqlPN Tryz.tab rfl rfl) rfl rfl rfl ?_
    refine s_nil ?_
    refine f_then ?_
    refine c_condF rfl ?_
    refine c_skip ?_
    refine f_then ?_
    refine c_seq ?_
    refine c_region ?_
    refine s_y (y_move rfl) rfl rfl rfl ?_
    refine s_y (y_nilP rfl) rfl rfl rfl ?_
    refine s_y (y_fieldAddr0 Tryz.tab rfl rfl rfl rfl rfl) rfl rfl rfl ?_
    refine s_y (y_load Tryz.tab rfl rfl f0) rfl rfl rfl ?_
    refine s_call (en_f rfl Tryz.call73) (pieces_spec hl) rfl rfl rfl (fun _ => ?_)
    rw [Tree.split] at ok1 ok2 ⊢
    by_cases c1 : k ≤ l.pcs
    · rw [if_pos c1] at ok1 ok2 ⊢
      dsimp only at ok1 ok2 ⊢
      rw [Tree.toL_join] at ok2
      clear ihr
      refine s_y (y_assign rfl) rfl rfl rfl ?_
      refine s_nil ?_
      refine f_then ?_
      refine c_seq ?_
      refine c_block ?_
      refine c_seq ?_
      refine c_region ?_
      refine s_y (y_move rfl) rfl rfl rfl ?_
      refine s_y (y_move rfl) rfl rfl rfl ?_
      refine s_y (y_T (y_leq rfl rfl) (by omega)) rfl rfl rfl ?_
      refine s_y (y_assign rfl) rfl rfl rfl ?_
      refine s_nil ?_
      refine f_then ?_
      refine c_condT rfl ?_
      refine c_seq ?_
      refine c_region ?_
      refine s_y (y_move rfl) rfl rfl rfl ?_
      refine s_y (y_nilP rfl) rfl rfl rfl ?_
      refine s_y (y_fieldAddr0 Tryz.tab rfl rfl rfl rfl rfl) rfl rfl rfl ?_
      refine s_y (y_load Tryz.tab rfl rfl f0) rfl rfl rfl ?_
      refine s_y (y_move rfl) rfl rfl rfl ?_
      refine s_call (en_f rfl Tryz.call93) ihl rfl rfl rfl (fun x => ?_)
      obtain ⟨⟨p1, v1, v2⟩, hs1, ht1, ht2⟩ := x
      dsimp only at hs1 ht1 ht2 ⊢
      refine s_y (y_move rfl) rfl rfl rfl ?_
      refine s_y (y_extract rfl rfl) rfl rfl rfl ?_
      refine s_y (y_extract rfl rfl) rfl rfl rfl ?_
      refine s_y (y_assign rfl) rfl rfl rfl ?_
      refine s_y (y_assign rfl) rfl rfl rfl ?_
      refine s_nil ?_
      refine f_then ?_
      refine c_seq ?_
      refine c_plan [.c 0, .c 1, .c 2, .c 3, .c 4, .c 5, .c 6, .c 7, .c 8, .c 9, .c 10, .c 11, .c 12, .c 13, .s 14, .c 15, .c 16] [] ((K W (p1 :: R))) Tryz.mixed (by kernel_rfl) rfl K.cl ?_
      refine d_c rfl (Qui.ylds (y_move rfl)) rfl rfl rfl (fun _ h => h) K.cl ?_
      refine d_c rfl (Qui.ylds (y_move rfl)) rfl rfl rfl (fun _ h => h) K.cl ?_
      refine d_c rfl (Qui.ylds (y_move rfl)) rfl rfl rfl (fun _ h => h) K.cl ?_
      refine d_c rfl (Qui.ylds (y_nilP rfl)) rfl rfl rfl (fun _ h => h) K.cl ?_
      refine d_c rfl (Qui.ylds (y_fieldAddrB Tryz.tab 2 rfl rfl rfl rfl rfl)) rfl rfl rfl (fun _ h => h) K.cl ?_
      refine d_c rfl (Qui.ylds (y_load Tryz.tab rfl rfl (f2.cls (fun _ => K.sub (by assumption))))) rfl rfl rfl (fun _ h => h) K.cl ?_
      refine d_c rfl (Qui.ylds (y_move rfl)) rfl rfl rfl (fun _ h => h) K.cl ?_
      refine d_c rfl (Qui.ylds (y_nilP rfl)) rfl rfl rfl (fun _ h => h) K.cl ?_
      refine d_c rfl (Qui.ylds (y_fieldAddrB Tryz.tab 3 rfl rfl rfl rfl rfl)) rfl rfl rfl (fun _ h => h) K.cl ?_
      refine d_c rfl (Qui.ylds (y_load Tryz.tab rfl rfl (f3.cls (fun _ => K.sub (by assumption))))) rfl rfl rfl (fun _ h => h) K.cl ?_
      refine d_c rfl (Qui.ylds (y_move rfl)) rfl rfl rfl (fun _ h => h) K.cl ?_
      refine d_c rfl (Qui.ylds (y_nilP rfl)) rfl rfl rfl (fun _ h => h) K.cl ?_
      refine d_c rfl (Qui.ylds (y_fieldAddrB Tryz.tab 1 rfl rfl rfl rfl rfl)) rfl rfl rfl (fun _ h => h) K.cl ?_
      refine d_c rfl (Qui.ylds (y_load Tryz.tab rfl rfl (f1.cls (fun _ => K.sub (by assumption))))) rfl rfl rfl (fun _ h => h) K.cl ?_
      refine d_call rfl (en_f rfl Tryz.call112) (join_spec ht2 (hr.sub hs1) sb2 hb.2.1 ok2) rfl rfl rfl (fun _ => K.cl) (fun _ x w h => K.sub x.2.1 h) (fun x => ?_)
      obtain ⟨⟨p2, v3⟩, hs2, ht3⟩ := x
      dsimp only at hs2 ht3 ⊢
      have hD : ∀ w, K W (p2 :: R) w → K W (p1 :: R) w := fun w h => K.sub hs2 h
      refine d_c rfl (Qui.ylds (y_assign rfl)) rfl rfl rfl hD K.cl ?_
      refine d_c rfl (Qui.ylds (y_assign rfl)) rfl rfl rfl hD K.cl ?_
      refine d_nil ?_
      refine f_then ?_
      refine c_ret ?_
      refine f_blockR ?_
      refine f_thenR ?_
      exact f_ret ⟨(p2, v1, v3), hs1.trans hs2, ht1.sub hs2, ht3⟩ (res2 rfl rfl rfl) (fun w h => h)
    · rw [if_neg c1] at ok1 ok2 ⊢
      by_cases c2 : l.pcs + n ≤ k
      · rw [if_pos c2] at ok1 ok2 ⊢
        dsimp only at ok1 ok2 ⊢
        rw [Tree.toL_join] at ok1
        clear ihl
        have ek : (k : Int) - (l.pcs : Int) - (n : Int) = ((k - l.pcs - n : Nat) : Int) := by omega
        refine s_y (y_assign rfl) rfl rfl rfl ?_
        refine s_nil ?_
        refine f_then ?_
        refine c_seq ?_
        refine c_block ?_
        refine c_seq ?_
        refine c_region ?_
        refine s_y (y_move rfl) rfl rfl rfl ?_
        refine s_y (y_move rfl) rfl rfl rfl ?_
        refine s_y (y_F (y_leq rfl rfl) (by omega)) rfl rfl rfl ?_
        refine s_y (y_assign rfl) rfl rfl rfl ?_
        refine s_nil ?_
        refine f_then ?_
        refine c_condF rfl ?_
        refine c_seq ?_
        refine c_region ?_
        refine s_y (y_move rfl) rfl rfl rfl ?_
        refine s_y (y_move rfl) rfl rfl rfl ?_
        refine s_y (y_move rfl) rfl rfl rfl ?_
        refine s_y (y_nilP rfl) rfl rfl rfl ?_
        refine s_y (y_fieldAddrB Tryz.tab 2 rfl rfl rfl rfl rfl) rfl rfl rfl ?_
        refine s_y (y_load Tryz.tab rfl rfl f2) rfl rfl rfl ?_
        refine s_y (y_add rfl rfl (by omega)) rfl rfl rfl ?_
        refine s_y (y_T (y_geq rfl rfl) (by omega)) rfl rfl rfl ?_
        refine s_y (y_assign rfl) rfl rfl rfl ?_
        refine s_nil ?_
        refine f_then ?_
        refine c_condT rfl ?_
        refine c_seq ?_
        refine c_plan [.c 0, .c 1, .c 2, .c 3, .c 4, .c 5, .c 6, .c 7, .c 8, .c 9, .c 10, .c 11, .s 12, .c 13, .c 14, .c 15, .c 16, .c 17] [] ((K W (p :: R))) Tryz.mixed (by kernel_rfl) rfl K.cl ?_
        refine d_c rfl (Qui.ylds (y_move rfl)) rfl rfl rfl (fun _ h => h) K.cl ?_
        refine d_c rfl (Qui.ylds (y_nilP rfl)) rfl rfl rfl (fun _ h => h) K.cl ?_
        refine d_c rfl (Qui.ylds (y_fieldAddrB Tryz.tab 1 rfl rfl rfl rfl rfl)) rfl rfl rfl (fun _ h => h) K.cl ?_
        refine d_c rfl (Qui.ylds (y_load Tryz.tab rfl rfl f1)) rfl rfl rfl (fun _ h => h) K.cl ?_
        refine d_c rfl (Qui.ylds (y_move rfl)) rfl rfl rfl (fun _ h => h) K.cl ?_
        refine d_c rfl (Qui.ylds (y_move rfl)) rfl rfl rfl (fun _ h => h) K.cl ?_
        refine d_c rfl (Qui.ylds (y_sub rfl rfl (by omega))) rfl rfl rfl (fun _ h => h) K.cl ?_
        refine d_c rfl (Qui.ylds (y_move rfl)) rfl rfl rfl (fun _ h => h) K.cl ?_
        refine d_c rfl (Qui.ylds (y_nilP rfl)) rfl rfl rfl (fun _ h => h) K.cl ?_
        refine d_c rfl (Qui.ylds (y_fieldAddrB Tryz.tab 2 rfl rfl rfl rfl rfl)) rfl rfl rfl (fun _ h => h) K.cl ?_
        refine d_c rfl (Qui.ylds (y_load Tryz.tab rfl rfl f2)) rfl rfl rfl (fun _ h => h) K.cl ?_
        refine d_c rfl (Qui.ylds (y_sub rfl rfl (by omega))) rfl rfl rfl (fun _ h => h) K.cl ?_
        rw [ek]
        refine d_call rfl (en_f rfl Tryz.call93) (ihr p hr) rfl rfl rfl (fun _ => K.cl) (fun _ x w h => K.sub x.2.1 h) (fun x => ?_)
        obtain ⟨⟨p1, v1, v2⟩, hs1, ht1, ht2⟩ := x
        dsimp only at hs1 ht1 ht2 ⊢
        have hD : ∀ w, K W (p1 :: R) w → K W (p :: R) w := fun w h => K.sub hs1 h
        refine d_c rfl (Qui.ylds (y_move rfl)) rfl rfl rfl hD K.cl ?_
        refine d_c rfl (Qui.ylds (y_extract rfl rfl)) rfl rfl rfl hD K.cl ?_
        refine d_c rfl (Qui.ylds (y_extract rfl rfl)) rfl rfl rfl hD K.cl ?_
        refine d_c rfl (Qui.ylds (y_assign rfl)) rfl rfl rfl hD K.cl ?_
        refine d_c rfl (Qui.ylds (y_assign rfl)) rfl rfl rfl hD K.cl ?_
        refine d_nil ?_
        refine f_then ?_
        refine c_seq ?_
        refine c_plan [.c 0, .c 1, .c 2, .c 3, .c 4, .c 5, .c 6, .c 7, .c 8, .c 9, .c 10, .c 11, .c 12, .c 14, .s 13, .c 15, .c 16] [] ((K W (p1 :: R))) Tryz.mixed (by kernel_rfl) rfl K.cl ?_
        refine d_c rfl (Qui.ylds (y_move rfl)) rfl rfl rfl (fun _ h => h) K.cl ?_
        refine d_c rfl (Qui.ylds (y_nilP rfl)) rfl rfl rfl (fun _ h => h) K.cl ?_
        refine d_c rfl (Qui.ylds (y_fieldAddr0 Tryz.tab rfl rfl rfl rfl rfl)) rfl rfl rfl (fun _ h => h) K.cl ?_
        refine d_c rfl (Qui.ylds (y_load Tryz.tab rfl rfl (f0.cls (fun _ => K.sub (by assumption))))) rfl rfl rfl (fun _ h => h) K.cl ?_
        refine d_c rfl (Qui.ylds (y_move rfl)) rfl rfl rfl (fun _ h => h) K.cl ?_
        refine d_c rfl (Qui.ylds (y_nilP rfl)) rfl rfl rfl (fun _ h => h) K.cl ?_
        refine d_c rfl (Qui.ylds (y_fieldAddrB Tryz.tab 2 rfl rfl rfl rfl rfl)) rfl rfl rfl (fun _ h => h) K.cl ?_
        refine d_c rfl (Qui.ylds (y_load Tryz.tab rfl rfl (f2.cls (fun _ => K.sub (by assumption))))) rfl rfl rfl (fun _ h => h) K.cl ?_
        refine d_c rfl (Qui.ylds (y_move rfl)) rfl rfl rfl (fun _ h => h) K.cl ?_
        refine d_c rfl (Qui.ylds (y_nilP rfl)) rfl rfl rfl (fun _ h => h) K.cl ?_
        refine d_c rfl (Qui.ylds (y_fieldAddrB Tryz.tab 3 rfl rfl rfl rfl rfl)) rfl rfl rfl (fun _ h => h) K.cl ?_
        refine d_c rfl (Qui.ylds (y_load Tryz.tab rfl rfl (f3.cls (fun _ => K.sub (by assumption))))) rfl rfl rfl (fun _ h => h) K.cl ?_
        refine d_c rfl (Qui.ylds (y_move rfl)) rfl rfl rfl (fun _ h => h) K.cl ?_
        refine d_c rfl (Qui.ylds (y_move rfl)) rfl rfl rfl (fun _ h => h) K.cl ?_
        refine d_call rfl (en_f rfl Tryz.call112) (join_spec (hl.sub hs1) ht1 hb.1 sb3 ok1) rfl rfl rfl (fun _ => K.cl) (fun _ x w h => K.sub x.2.1 h) (fun x => ?_)
        obtain ⟨⟨p2, v3⟩, hs2, ht3⟩ := x
        dsimp only at hs2 ht3 ⊢
        have hD1 : ∀ w, K W (p2 :: R) w → K W (p1 :: R) w := fun w h => K.sub hs2 h
        refine d_c rfl (Qui.ylds (y_assign rfl)) rfl rfl rfl hD1 K.cl ?_
        refine d_c rfl (Qui.ylds (y_assign rfl)) rfl rfl rfl hD1 K.cl ?_
        refine d_nil ?_
        refine f_then ?_
        refine c_ret ?_
        refine f_blockR ?_
        refine f_thenR ?_
        exact f_ret ⟨(p2, v3, v2), hs1.trans hs2, ht3, ht2.sub hs2⟩ (res2 rfl rfl rfl) (fun w h => h)
      · rw [if_neg c2] at ok1 ok2 ⊢
        dsimp only at ok1 ok2 ⊢
        rw [Tree.toL_join] at ok1 ok2
        clear ihl ihr
        have e1 : (k : Int) - (l.pcs : Int) = ((k - l.pcs : Nat) : Int) := by omega
        have e2 : (l.pcs : Int) + (n : Int) - (k : Int) = ((l.pcs + n - k : Nat) : Int) := by omega
        refine s_y (y_assign rfl) rfl rfl rfl ?_
        refine s_nil ?_
        refine f_then ?_
        refine c_seq ?_
        refine c_block ?_
        refine c_seq ?_
        refine c_region ?_
        refine s_y (y_move rfl) rfl rfl rfl ?_
        refine s_y (y_move rfl) rfl rfl rfl ?_
        refine s_y (y_F (y_leq rfl rfl) (by omega)) rfl rfl rfl ?_
        refine s_y (y_assign rfl) rfl rfl rfl ?_
        refine s_nil ?_
        refine f_then ?_
        refine c_condF rfl ?_
        refine c_seq ?_
        refine c_region ?_
        refine s_y (y_move rfl) rfl rfl rfl ?_
        refine s_y (y_move rfl) rfl rfl rfl ?_
        refine s_y (y_move rfl) rfl rfl rfl ?_
        refine s_y (y_nilP rfl) rfl rfl rfl ?_
        refine s_y (y_fieldAddrB Tryz.tab 2 rfl rfl rfl rfl rfl) rfl rfl rfl ?_
        refine s_y (y_load Tryz.tab rfl rfl f2) rfl rfl rfl ?_
        refine s_y (y_add rfl rfl (by omega)) rfl rfl rfl ?_
        refine s_y (y_F (y_geq rfl rfl) (by omega)) rfl rfl rfl ?_
        refine s_y (y_assign rfl) rfl rfl rfl ?_
        refine s_nil ?_
        refine f_then ?_
        refine c_condF rfl ?_
        refine c_skip ?_
        refine f_blockN ?_
        refine f_then ?_
        refine c_seq ?_
        refine c_plan [.c 0, .c 1, .c 2, .c 3, .c 4, .c 5, .c 6, .c 7, .c 8, .c 9, .c 10, .c 12, .c 13, .c 14, .c 15, .c 16, .c 17, .c 18, .c 19, .c 20, .c 21, .c 22, .c 23, .c 24, .c 25, .c 26, .c 27, .s 11, .s 28, .c 29, .c 30] [] ((K W (p :: R))) Tryz.mixed (by kernel_rfl) rfl K.cl ?_
        refine d_c rfl (Qui.ylds (y_move rfl)) rfl rfl rfl (fun _ h => h) K.cl ?_
        refine d_c rfl (Qui.ylds (y_nilP rfl)) rfl rfl rfl (fun _ h => h) K.cl ?_
        refine d_c rfl (Qui.ylds (y_fieldAddr0 Tryz.tab rfl rfl rfl rfl rfl)) rfl rfl rfl (fun _ h => h) K.cl ?_
        refine d_c rfl (Qui.ylds (y_load Tryz.tab rfl rfl f0)) rfl rfl rfl (fun _ h => h) K.cl ?_
        refine d_c rfl (Qui.ylds (y_move rfl)) rfl rfl rfl (fun _ h => h) K.cl ?_
        refine d_c rfl (Qui.ylds (y_move rfl)) rfl rfl rfl (fun _ h => h) K.cl ?_
        refine d_c rfl (Qui.ylds (y_sub rfl rfl (by omega))) rfl rfl rfl (fun _ h => h) K.cl ?_
        refine d_c rfl (Qui.ylds (y_move rfl)) rfl rfl rfl (fun _ h => h) K.cl ?_
        refine d_c rfl (Qui.ylds (y_nilP rfl)) rfl rfl rfl (fun _ h => h) K.cl ?_
        refine d_c rfl (Qui.ylds (y_fieldAddrB Tryz.tab 3 rfl rfl rfl rfl rfl)) rfl rfl rfl (fun _ h => h) K.cl ?_
        refine d_c rfl (Qui.ylds (y_load Tryz.tab rfl rfl f3)) rfl rfl rfl (fun _ h => h) K.cl ?_
        refine d_c rfl (Qui.ylds (y_move rfl)) rfl rfl rfl (fun _ h => h) K.cl ?_
        refine d_c rfl (Qui.ylds (y_move rfl)) rfl rfl rfl (fun _ h => h) K.cl ?_
        refine d_c rfl (Qui.ylds (y_nilP rfl)) rfl rfl rfl (fun _ h => h) K.cl ?_
        refine d_c rfl (Qui.ylds (y_fieldAddrB Tryz.tab 2 rfl rfl rfl rfl rfl)) rfl rfl rfl (fun _ h => h) K.cl ?_
        refine d_c rfl (Qui.ylds (y_load Tryz.tab rfl rfl f2)) rfl rfl rfl (fun _ h => h) K.cl ?_
        refine d_c rfl (Qui.ylds (y_add rfl rfl (by omega))) rfl rfl rfl (fun _ h => h) K.cl ?_
        refine d_c rfl (Qui.ylds (y_move rfl)) rfl rfl rfl (fun _ h => h) K.cl ?_
        refine d_c rfl (Qui.ylds (y_sub rfl rfl (by omega))) rfl rfl rfl (fun _ h => h) K.cl ?_
        refine d_c rfl (Qui.ylds (y_move rfl)) rfl rfl rfl (fun _ h => h) K.cl ?_
        refine d_c rfl (Qui.ylds (y_nilP rfl)) rfl rfl rfl (fun _ h => h) K.cl ?_
        refine d_c rfl (Qui.ylds (y_fieldAddrB Tryz.tab 3 rfl rfl rfl rfl rfl)) rfl rfl rfl (fun _ h => h) K.cl ?_
        refine d_c rfl (Qui.ylds (y_load Tryz.tab rfl rfl f3)) rfl rfl rfl (fun _ h => h) K.cl ?_
        refine d_c rfl (Qui.ylds (y_move rfl)) rfl rfl rfl (fun _ h => h) K.cl ?_
        refine d_c rfl (Qui.ylds (y_nilP rfl)) rfl rfl rfl (fun _ h => h) K.cl ?_
        refine d_c rfl (Qui.ylds (y_fieldAddrB Tryz.tab 1 rfl rfl rfl rfl rfl)) rfl rfl rfl (fun _ h => h) K.cl ?_
        refine d_c rfl (Qui.ylds (y_load Tryz.tab rfl rfl f1)) rfl rfl rfl (fun _ h => h) K.cl ?_
        rw [e1, e2]
        refine d_call rfl (en_f rfl Tryz.call112) (join_spec hl Tr.nil hb.1 (show Tree.Bal .nil from trivial) ok1) rfl rfl rfl (fun _ => K.cl) (fun _ x w h => K.sub x.2.1 h) (fun x => ?_)
        obtain ⟨⟨p1, v1⟩, hs1, ht1⟩ := x
        dsimp only at hs1 ht1 ⊢
        have hD : ∀ w, K W (p1 :: R) w → K W (p :: R) w := fun w h => K.sub hs1 h
        skip
        refine d_call rfl (en_f rfl Tryz.call112) (join_spec Tr.nil (hr.sub hs1) (show Tree.Bal .nil from trivial) hb.2.1 ok2) rfl rfl rfl (fun _ => K.cl) (fun _ x w h => K.sub (hs1.trans x.2.1) h) (fun x => ?_)
        obtain ⟨⟨p2, v2⟩, hs2, ht2⟩ := x
        dsimp only at hs2 ht2 ⊢
        have hD1 : ∀ w, K W (p2 :: R) w → K W (p :: R) w := fun w h => K.sub (hs1.trans hs2) h
        refine d_c rfl (Qui.ylds (y_assign rfl)) rfl rfl rfl hD1 K.cl ?_
        refine d_c rfl (Qui.ylds (y_assign rfl)) rfl rfl rfl hD1 K.cl ?_
        refine d_nil ?_
        refine f_then ?_
        refine c_ret ?_
        exact f_ret ⟨(p2, v1, v2), hs1.trans hs2, ht1.sub hs2, ht2⟩ (res2 rfl rfl rfl) (fun w h => h)
end Go.KL
end

section
/- Walks: isTag, sized, before. -/
namespace Go.KL
open Go.Proofs
attribute [local irreducible] SC St Fin Sq Ylds Doos Sets Enters Spec CellIs CellsAre Then Ret Rnd Chn resOK ints bools recs arr
set_option maxRecDepth 10000 in
theorem isTag_spec {C : World → Prop} {z : Int} : Spec Tryz.prog 45 #[.int .i64 z] C (fun _ : Unit => .bool (decide (0 ≤ z ∧ z < 16))) (fun _ => C) := by
  refine enter (args := [_]) Tryz.func45 rfl Tryz.ntmps45 rfl ?_
  by_cases h1 : 0 ≤ z
  · by_cases h2 : z < 16
    · rw [decide_eq_true ⟨h1, h2⟩]
      refine c_seq ?_
      refine c_region ?_
      refine s_y (y_assign rfl) rfl rfl rfl ?_
      refine s_nil ?_
      refine f_then ?_
      refine c_seq ?_
      refine c_region ?_
      refine s_y (y_move rfl) rfl rfl rfl ?_
      refine s_y (y_T (y_geq rfl rfl) (by assumption)) rfl rfl rfl ?_
      refine s_y (y_move rfl) rfl rfl rfl ?_
      refine s_y (y_move rfl) rfl rfl rfl ?_
      refine s_y (y_T (y_lss rfl rfl) (by assumption)) rfl rfl rfl ?_
      refine s_y (y_pickT rfl rfl) rfl rfl rfl ?_
      refine s_y (y_assign rfl) rfl rfl rfl ?_
      refine s_nil ?_
      refine f_then ?_
      refine c_ret ?_
      exact f_ret () (res1 rfl rfl) (fun w h => h)
    · rw [decide_eq_false (by omega)]
      refine c_seq ?_
      refine c_region ?_
      refine s_y (y_assign rfl) rfl rfl rfl ?_
      refine s_nil ?_
      refine f_then ?_
      refine c_seq ?_
      refine c_region ?_
      refine s_y (y_move rfl) rfl rfl rfl ?_
      refine s_y (y_T (y_geq rfl rfl) (by assumption)) rfl rfl rfl ?_
      refine s_y (y_move rfl) rfl rfl rfl ?_
      refine s_y (y_move rfl) rfl rfl rfl ?_
      refine s_y (y_F (y_lss rfl rfl) (by assumption)) rfl rfl rfl ?_
      refine s_y (y_pickT rfl rfl) rfl rfl rfl ?_
      refine s_y (y_assign rfl) rfl rfl rfl ?_
      refine s_nil ?_
      refine f_then ?_
      refine c_ret ?_
      exact f_ret () (res1 rfl rfl) (fun w h => h)
  · rw [decide_eq_false (by omega)]
    refine c_seq ?_
    refine c_region ?_
    refine s_y (y_assign rfl) rfl rfl rfl ?_
    refine s_nil ?_
    refine f_then ?_
    refine c_seq ?_
    refine c_region ?_
    refine s_y (y_move rfl) rfl rfl rfl ?_
    refine s_y (y_F (y_geq rfl rfl) (by assumption)) rfl rfl rfl ?_
    refine s_y (y_move rfl) rfl rfl rfl ?_
    iterate 2 refine s_skip rfl rfl rfl ?_
    refine s_y (y_pickF rfl rfl) rfl rfl rfl ?_
    refine s_y (y_assign rfl) rfl rfl rfl ?_
    refine s_nil ?_
    refine f_then ?_
    refine c_ret ?_
    exact f_ret () (res1 rfl rfl) (fun w h => h)
set_option maxRecDepth 10000 in
theorem sized_spec {C : World → Prop} {z : Int} : Spec Tryz.prog 44 #[.int .i64 z] C (fun _ : Unit => .bool (decide (1 ≤ z ∧ z ≤ 1099511627776))) (fun _ => C) := by
  refine enter (args := [_]) Tryz.func44 rfl Tryz.ntmps44 rfl ?_
  by_cases h1 : 1 ≤ z
  · by_cases h2 : z ≤ 1099511627776
    · rw [decide_eq_true ⟨h1, h2⟩]
      refine c_seq ?_
      refine c_region ?_
      refine s_y (y_assign rfl) rfl rfl rfl ?_
      refine s_nil ?_
      refine f_then ?_
      refine c_seq ?_
      refine c_region ?_
      refine s_y (y_move rfl) rfl rfl rfl ?_
      refine s_y (y_T (y_geq rfl rfl) (by assumption)) rfl rfl rfl ?_
      refine s_y (y_move rfl) rfl rfl rfl ?_
      refine s_y (y_move rfl) rfl rfl rfl ?_
      refine s_y (y_T (y_leq rfl rfl) (by assumption)) rfl rfl rfl ?_
      refine s_y (y_pickT rfl rfl) rfl rfl rfl ?_
      refine s_y (y_assign rfl) rfl rfl rfl ?_
      refine s_nil ?_
      refine f_then ?_
      refine c_ret ?_
      exact f_ret () (res1 rfl rfl) (fun w h => h)
    · rw [decide_eq_false (by omega)]
      refine c_seq ?_
      refine c_region ?_
      refine s_y (y_assign rfl) rfl rfl rfl ?_
      refine s_nil ?_
      refine f_then ?_
      refine c_seq ?_
      refine c_region ?_
      refine s_y (y_move rfl) rfl rfl rfl ?_
      refine s_y (y_T (y_geq rfl rfl) (by assumption)) rfl rfl rfl ?_
      refine s_y (y_move rfl) rfl rfl rfl ?_
      refine s_y (y_move rfl) rfl rfl rfl ?_
      refine s_y (y_F (y_leq rfl rfl) (by assumption)) rfl rfl rfl ?_
      refine s_y (y_pickT rfl rfl) rfl rfl rfl ?_
      refine s_y (y_assign rfl) rfl rfl rfl ?_
      refine s_nil ?_
      refine f_then ?_
      refine c_ret ?_
      exact f_ret () (res1 rfl rfl) (fun w h => h)
  · rw [decide_eq_false (by omega)]
    refine c_seq ?_
    refine c_region ?_
    refine s_y (y_assign rfl) rfl rfl rfl ?_
    refine s_nil ?_
    refine f_then ?_
    refine c_seq ?_
    refine c_region ?_
    refine s_y (y_move rfl) rfl rfl rfl ?_
    refine s_y (y_F (y_geq rfl rfl) (by assumption)) rfl rfl rfl ?_
    refine s_y (y_move rfl) rfl rfl rfl ?_
    iterate 2 refine s_skip rfl rfl rfl ?_
    refine s_y (y_pickF rfl rfl) rfl rfl rfl ?_
    refine s_y (y_assign rfl) rfl rfl rfl ?_
    refine s_nil ?_
    refine f_then ?_
    refine c_ret ?_
    exact f_ret () (res1 rfl rfl) (fun w h => h)
set_option maxRecDepth 10000 in
set_option maxHeartbeats 4000000 in
theorem before_q {W : World} {p : Chunk} {R : List Chunk} {v : Value} {t : Tree} {k tag : Nat} (ht : Tr p v t) (htg : tag < 16) (hk : LOk t.toL) (hkb : k ≤ 1152921504606846976) : ∀ C : World → Prop, Drew C → (∀ w, C w → K W (p :: R) w) → Spec Tryz.prog 134 #[v, .int .i64 (k : Nat), .int .i64 (tag : Nat)] C (fun _ : Unit => .int .i64 (t.bef tag k : Nat)) (fun _ => C) := by
  intro C hdr hC
  have hpb : t.pcs ≤ 1152921504606846976 := by rw [Tree.pcs_toL]; exact hk.sz
  refine enter (args := [_, _, _]) Tryz.func134 rfl Tryz.ntmps134 rfl ?_
  refine c_seq ?_
  refine c_region ?_
  refine s_y (y_assign rfl) rfl rfl rfl ?_
  refine s_nil ?_
  refine f_then ?_
  refine c_seq ?_
  refine c_region ?_
  refine s_y (y_assign rfl) rfl rfl rfl ?_
  refine s_nil ?_
  refine f_then ?_
  refine c_seq ?_
  refine c_block ?_
  refine c_loopP (α := Tree × Value × Nat × Nat) (fun z => [(0, z.2.1), (1, .int .i64 (z.2.2.1 : Nat)), (2, .int .i64 (tag : Nat)), (7, .int .i64 (z.2.2.2 : Nat))]) (fun z => Tr p z.2.1 z.1 ∧ LOk z.1.toL ∧ z.2.2.1 ≤ 1152921504606846976 ∧ z.2.2.2 + z.1.pcs ≤ t.pcs ∧ z.2.2.2 + z.1.bef tag z.2.2.1 = t.bef tag k) (fun _ => C) (fun z => z.1.runs) (t, v, k, 0)
    ⟨rfl, rfl, rfl, rfl, trivial⟩ ⟨ht, hk, hkb, by simp, by simp⟩ (fun w h => h) ?_
  rintro ⟨u, vu, a, s⟩ ⟨hu, huk, hab, hsp, hse⟩
  dsimp only at hu huk hab hsp hse ⊢
  cases u with
  | nil =>
    obtain rfl := hu.nilC
    rw [Tree.bef, Nat.add_zero] at hse
    rw [← hse]
    refine c_seq ?_
    refine c_seq ?_
    refine c_region ?_
    refine s_y (y_move rfl) rfl rfl rfl ?_
    refine s_y (y_neqPN Tryz.tab rfl rfl) rfl rfl rfl ?_
    refine s_nil ?_
    refine f_then ?_
    refine c_condF rfl ?_
    refine c_exit ?_
    refine f_thenE ?_
    refine f_rndE ?_
    refine f_blockE ?_
    refine f_then ?_
    refine c_seq ?_
    refine c_region ?_
    refine s_y (y_move rfl) rfl rfl rfl ?_
    refine s_y (y_assign rfl) rfl rfl rfl ?_
    refine s_nil ?_
    refine f_then ?_
    refine c_ret ?_
    exact f_ret () (res1 rfl rfl) (fun w h => h)
  | node l n x r =>
    obtain ⟨b, lv, rv, rfl, hbm, hl, hr⟩ := hu.nodeC
    obtain ⟨f0, f1, f2, f3, f4, f5, f6, f7⟩ := (ndf (W := W) (R := R) hbm).cls hC
    clear f4 f5 f6 f7
    have hkl : LOk l.toL := huk.left
    have hkr : LOk r.toL := (huk.eq (B := (l.toL ++ [(n, x)]) ++ r.toL) (by simp [Tree.toL])).right
    have hcl := Tree.cnt_le tag l
    have hrn : l.runs + r.runs + 1 = (Tree.node l n x r).runs := rfl
    rw [Tree.bef] at hse
    simp only [Tree.pcs] at hsp
    refine c_seq ?_
    refine c_seq ?_
    refine c_region ?_
    refine s_y (y_move rfl) rfl rfl rfl ?_
    refine s_y (y_neqPN Tryz.tab rfl rfl) rfl rfl rfl ?_
    refine s_nil ?_
    refine f_then ?_
    refine c_condT rfl ?_
    refine c_skip ?_
    refine f_then ?_
    refine c_block ?_
    refine c_seq ?_
    refine c_region ?_
    refine s_y (y_move rfl) rfl rfl rfl ?_
    refine s_y (y_nilP rfl) rfl rfl rfl ?_
    refine s_y (y_fieldAddr0 Tryz.tab rfl rfl rfl rfl rfl) rfl rfl rfl ?_
    refine s_y (y_load Tryz.tab rfl rfl f0) rfl rfl rfl ?_
    refine s_call (en_f rfl Tryz.call73) (pieces_q hl _ hdr hC) rfl rfl rfl (fun _ => ?_)
    by_cases c1 : a ≤ l.pcs
    · rw [if_pos c1] at hse
      refine s_y (y_assign rfl) rfl rfl rfl ?_
      refine s_nil ?_
      refine f_then ?_
      refine c_seq ?_
      refine c_seq ?_
      refine c_region ?_
      refine s_y (y_move rfl) rfl rfl rfl ?_
      refine s_y (y_move rfl) rfl rfl rfl ?_
      refine s_y (y_T (y_leq rfl rfl) (by omega)) rfl rfl rfl ?_
      refine s_nil ?_
      refine f_then ?_
      refine c_condT rfl ?_
      refine c_seq ?_
      refine c_region ?_
      refine s_y (y_move rfl) rfl rfl rfl ?_
      refine s_y (y_nilP rfl) rfl rfl rfl ?_
      refine s_y (y_fieldAddr0 Tryz.tab rfl rfl rfl rfl rfl) rfl rfl rfl ?_
      refine s_y (y_load Tryz.tab rfl rfl f0) rfl rfl rfl ?_
      refine s_y (y_assign rfl) rfl rfl rfl ?_
      refine s_nil ?_
      refine f_then ?_
      refine c_exit ?_
      refine f_thenE ?_
      refine f_blockE ?_
      exact f_roundP (l, lv, a, s) ⟨hl, hkl, hab, by dsimp only; omega, hse⟩ (by dsimp only; omega) ⟨rfl, rfl, rfl, rfl, trivial⟩ (fun w h => h)
    · rw [if_neg c1] at hse
      have hz := Tree.bef_zero tag r
      by_cases cl : l = .nil
      · subst cl
        obtain rfl := hl.nilC
        have hcz : Tree.cnt tag .nil = 0 := rfl
        have hpz : Tree.pcs .nil = 0 := rfl
        by_cases ce : tag = x
        · subst ce
          rw [if_pos rfl] at hse
          by_cases cb : a ≤ Tree.pcs .nil + n
          · rw [show a - Tree.pcs .nil - n = 0 by omega, hz] at hse
            refine s_y (y_assign rfl) rfl rfl rfl ?_
            refine s_nil ?_
            refine f_then ?_
            refine c_seq ?_
            refine c_seq ?_
            refine c_region ?_
            refine s_y (y_move rfl) rfl rfl rfl ?_
            refine s_y (y_move rfl) rfl rfl rfl ?_
            refine s_y (y_F (y_leq rfl rfl) (by omega)) rfl rfl rfl ?_
            refine s_nil ?_
            refine f_then ?_
            refine c_condF rfl ?_
            refine c_skip ?_
            refine f_then ?_
            refine c_seq ?_
            refine c_seq ?_
            refine c_region ?_
            refine s_y (y_move rfl) rfl rfl rfl ?_
            refine s_y (y_nilP rfl) rfl rfl rfl ?_
            refine s_y (y_fieldAddr0 Tryz.tab rfl rfl rfl rfl rfl) rfl rfl rfl ?_
            refine s_y (y_load Tryz.tab rfl rfl f0) rfl rfl rfl ?_
            refine s_y (y_neqPN Tryz.tab rfl rfl) rfl rfl rfl ?_
            refine s_nil ?_
            refine f_then ?_
            refine c_condF rfl ?_
            refine c_skip ?_
            refine f_then ?_
            refine c_seq ?_
            refine c_seq ?_
            refine c_region ?_
            refine s_y (y_move rfl) rfl rfl rfl ?_
            refine s_y (y_nilP rfl) rfl rfl rfl ?_
            refine s_y (y_fieldAddrB Tryz.tab 3 rfl rfl rfl rfl rfl) rfl rfl rfl ?_
            refine s_y (y_load Tryz.tab rfl rfl f3) rfl rfl rfl ?_
            refine s_y (y_move rfl) rfl rfl rfl ?_
            refine s_y (y_T (y_eql rfl rfl) (by omega)) rfl rfl rfl ?_
            refine s_nil ?_
            refine f_then ?_
            refine c_condT rfl ?_
            refine c_region ?_
            refine s_y (y_move rfl) rfl rfl rfl ?_
            refine s_y (y_move rfl) rfl rfl rfl ?_
            refine s_y (y_move rfl) rfl rfl rfl ?_
            refine s_y (y_sub rfl rfl (by omega)) rfl rfl rfl ?_
            refine s_y (y_move rfl) rfl rfl rfl ?_
            refine s_y (y_nilP rfl) rfl rfl rfl ?_
            refine s_y (y_fieldAddrB Tryz.tab 2 rfl rfl rfl rfl rfl) rfl rfl rfl ?_
            refine s_y (y_load Tryz.tab rfl rfl f2) rfl rfl rfl ?_
            refine s_y (y_min rfl rfl) rfl rfl rfl ?_
            refine s_y (y_add rfl rfl (by omega)) rfl rfl rfl ?_
            refine s_y (y_assign rfl) rfl rfl rfl ?_
            refine s_nil ?_
            refine f_then ?_
            refine c_seq ?_
            refine c_region ?_
            refine s_y (y_move rfl) rfl rfl rfl ?_
            refine s_y (y_move rfl) rfl rfl rfl ?_
            refine s_y (y_move rfl) rfl rfl rfl ?_
            refine s_y (y_nilP rfl) rfl rfl rfl ?_
            refine s_y (y_fieldAddrB Tryz.tab 2 rfl rfl rfl rfl rfl) rfl rfl rfl ?_
            refine s_y (y_load Tryz.tab rfl rfl f2) rfl rfl rfl ?_
            refine s_y (y_add rfl rfl (by omega)) rfl rfl rfl ?_
            refine s_y (y_sub rfl rfl (by omega)) rfl rfl rfl ?_
            refine s_y (y_assign rfl) rfl rfl rfl ?_
            refine s_nil ?_
            refine f_then ?_
            refine c_seq ?_
            refine c_region ?_
            refine s_y (y_move rfl) rfl rfl rfl ?_
            refine s_y (y_nilP rfl) rfl rfl rfl ?_
            refine s_y (y_fieldAddrB Tryz.tab 1 rfl rfl rfl rfl rfl) rfl rfl rfl ?_
            refine s_y (y_load Tryz.tab rfl rfl f1) rfl rfl rfl ?_
            refine s_y (y_assign rfl) rfl rfl rfl ?_
            refine s_nil ?_
            refine f_then ?_
            refine c_seq ?_
            refine c_region ?_
            refine s_y (y_move rfl) rfl rfl rfl ?_
            refine s_y (y_T (y_leq rfl rfl) (by omega)) rfl rfl rfl ?_
            refine s_nil ?_
            refine f_then ?_
            refine c_condT rfl ?_
            refine c_exit ?_
            refine f_blockX rfl ?_
            refine f_rndE ?_
            refine f_blockE ?_
            refine f_then ?_
            refine c_seq ?_
            refine c_region ?_
            refine s_y (y_move rfl) rfl rfl rfl ?_
            refine s_y (y_assign rfl) rfl rfl rfl ?_
            refine s_nil ?_
            refine f_then ?_
            refine c_ret ?_
            exact f_retE () (res1 rfl rfl) (congrArg (Value.int .i64) (by omega)) (fun w h => h)
          · refine s_y (y_assign rfl) rfl rfl rfl ?_
            refine s_nil ?_
            refine f_then ?_
            refine c_seq ?_
            refine c_seq ?_
            refine c_region ?_
            refine s_y (y_move rfl) rfl rfl rfl ?_
            refine s_y (y_move rfl) rfl rfl rfl ?_
            refine s_y (y_F (y_leq rfl rfl) (by omega)) rfl rfl rfl ?_
            refine s_nil ?_
            refine f_then ?_
            refine c_condF rfl ?_
            refine c_skip ?_
            refine f_then ?_
            refine c_seq ?_
            refine c_seq ?_
            refine c_region ?_
            refine s_y (y_move rfl) rfl rfl rfl ?_
            refine s_y (y_nilP rfl) rfl rfl rfl ?_
            refine s_y (y_fieldAddr0 Tryz.tab rfl rfl rfl rfl rfl) rfl rfl rfl ?_
            refine s_y (y_load Tryz.tab rfl rfl f0) rfl rfl rfl ?_
            refine s_y (y_neqPN Tryz.tab rfl rfl) rfl rfl rfl ?_
            refine s_nil ?_
            refine f_then ?_
            refine c_condF rfl ?_
            refine c_skip ?_
            refine f_then ?_
            refine c_seq ?_
            refine c_seq ?_
            refine c_region ?_
            refine s_y (y_move rfl) rfl rfl rfl ?_
            refine s_y (y_nilP rfl) rfl rfl rfl ?_
            refine s_y (y_fieldAddrB Tryz.tab 3 rfl rfl rfl rfl rfl) rfl rfl rfl ?_
            refine s_y (y_load Tryz.tab rfl rfl f3) rfl rfl rfl ?_
            refine s_y (y_move rfl) rfl rfl rfl ?_
            refine s_y (y_T (y_eql rfl rfl) (by omega)) rfl rfl rfl ?_
            refine s_nil ?_
            refine f_then ?_
            refine c_condT rfl ?_
            refine c_region ?_
            refine s_y (y_move rfl) rfl rfl rfl ?_
            refine s_y (y_move rfl) rfl rfl rfl ?_
            refine s_y (y_move rfl) rfl rfl rfl ?_
            refine s_y (y_sub rfl rfl (by omega)) rfl rfl rfl ?_
            refine s_y (y_move rfl) rfl rfl rfl ?_
            refine s_y (y_nilP rfl) rfl rfl rfl ?_
            refine s_y (y_fieldAddrB Tryz.tab 2 rfl rfl rfl rfl rfl) rfl rfl rfl ?_
            refine s_y (y_load Tryz.tab rfl rfl f2) rfl rfl rfl ?_
            refine s_y (y_min rfl rfl) rfl rfl rfl ?_
            refine s_y (y_add rfl rfl (by omega)) rfl rfl rfl ?_
            refine s_y (y_assign rfl) rfl rfl rfl ?_
            refine s_nil ?_
            refine f_then ?_
            refine c_seq ?_
            refine c_region ?_
            refine s_y (y_move rfl) rfl rfl rfl ?_
            refine s_y (y_move rfl) rfl rfl rfl ?_
            refine s_y (y_move rfl) rfl rfl rfl ?_
            refine s_y (y_nilP rfl) rfl rfl rfl ?_
            refine s_y (y_fieldAddrB Tryz.tab 2 rfl rfl rfl rfl rfl) rfl rfl rfl ?_
            refine s_y (y_load Tryz.tab rfl rfl f2) rfl rfl rfl ?_
            refine s_y (y_add rfl rfl (by omega)) rfl rfl rfl ?_
            refine s_y (y_sub rfl rfl (by omega)) rfl rfl rfl ?_
            refine s_y (y_assign rfl) rfl rfl rfl ?_
            refine s_nil ?_
            refine f_then ?_
            refine c_seq ?_
            refine c_region ?_
            refine s_y (y_move rfl) rfl rfl rfl ?_
            refine s_y (y_nilP rfl) rfl rfl rfl ?_
            refine s_y (y_fieldAddrB Tryz.tab 1 rfl rfl rfl rfl rfl) rfl rfl rfl ?_
            refine s_y (y_load Tryz.tab rfl rfl f1) rfl rfl rfl ?_
            refine s_y (y_assign rfl) rfl rfl rfl ?_
            refine s_nil ?_
            refine f_then ?_
            refine c_seq ?_
            refine c_region ?_
            refine s_y (y_move rfl) rfl rfl rfl ?_
            refine s_y (y_F (y_leq rfl rfl) (by omega)) rfl rfl rfl ?_
            refine s_nil ?_
            refine f_then ?_
            refine c_condF rfl ?_
            refine c_skip ?_
            refine f_blockN ?_
            exact f_roundP (r, rv, a - Tree.pcs .nil - n, s + Tree.cnt tag .nil + (min (a - Tree.pcs .nil) n)) ⟨hr, hkr, by dsimp only; omega, by dsimp only; omega, by dsimp only; omega⟩ (by dsimp only; omega) ⟨rfl, congrArg (fun z => some (Value.int .i64 z)) (by dsimp only; omega), rfl, congrArg (fun z => some (Value.int .i64 z)) (by dsimp only; omega), trivial⟩ (fun w h => h)
        · rw [if_neg ce] at hse
          by_cases cb : a ≤ Tree.pcs .nil + n
          · rw [show a - Tree.pcs .nil - n = 0 by omega, hz] at hse
            refine s_y (y_assign rfl) rfl rfl rfl ?_
            refine s_nil ?_
            refine f_then ?_
            refine c_seq ?_
            refine c_seq ?_
            refine c_region ?_
            refine s_y (y_move rfl) rfl rfl rfl ?_
            refine s_y (y_move rfl) rfl rfl rfl ?_
            refine s_y (y_F (y_leq rfl rfl) (by omega)) rfl rfl rfl ?_
            refine s_nil ?_
            refine f_then ?_
            refine c_condF rfl ?_
            refine c_skip ?_
            refine f_then ?_
            refine c_seq ?_
            refine c_seq ?_
            refine c_region ?_
            refine s_y (y_move rfl) rfl rfl rfl ?_
            refine s_y (y_nilP rfl) rfl rfl rfl ?_
            refine s_y (y_fieldAddr0 Tryz.tab rfl rfl rfl rfl rfl) rfl rfl rfl ?_
            refine s_y (y_load Tryz.tab rfl rfl f0) rfl rfl rfl ?_
            refine s_y (y_neqPN Tryz.tab rfl rfl) rfl rfl rfl ?_
            refine s_nil ?_
            refine f_then ?_
            refine c_condF rfl ?_
            refine c_skip ?_
            refine f_then ?_
            refine c_seq ?_
            refine c_seq ?_
            refine c_region ?_
            refine s_y (y_move rfl) rfl rfl rfl ?_
            refine s_y (y_nilP rfl) rfl rfl rfl ?_
            refine s_y (y_fieldAddrB Tryz.tab 3 rfl rfl rfl rfl rfl) rfl rfl rfl ?_
            refine s_y (y_load Tryz.tab rfl rfl f3) rfl rfl rfl ?_
            refine s_y (y_move rfl) rfl rfl rfl ?_
            refine s_y (y_F (y_eql rfl rfl) (by omega)) rfl rfl rfl ?_
            refine s_nil ?_
            refine f_then ?_
            refine c_condF rfl ?_
            refine c_skip ?_
            refine f_then ?_
            refine c_seq ?_
            refine c_region ?_
            refine s_y (y_move rfl) rfl rfl rfl ?_
            refine s_y (y_move rfl) rfl rfl rfl ?_
            refine s_y (y_move rfl) rfl rfl rfl ?_
            refine s_y (y_nilP rfl) rfl rfl rfl ?_
            refine s_y (y_fieldAddrB Tryz.tab 2 rfl rfl rfl rfl rfl) rfl rfl rfl ?_
            refine s_y (y_load Tryz.tab rfl rfl f2) rfl rfl rfl ?_
            refine s_y (y_add rfl rfl (by omega)) rfl rfl rfl ?_
            refine s_y (y_sub rfl rfl (by omega)) rfl rfl rfl ?_
            refine s_y (y_assign rfl) rfl rfl rfl ?_
            refine s_nil ?_
            refine f_then ?_
            refine c_seq ?_
            refine c_region ?_
            refine s_y (y_move rfl) rfl rfl rfl ?_
            refine s_y (y_nilP rfl) rfl rfl rfl ?_
            refine s_y (y_fieldAddrB Tryz.tab 1 rfl rfl rfl rfl rfl) rfl rfl rfl ?_
            refine s_y (y_load Tryz.tab rfl rfl f1) rfl rfl rfl ?_
            refine s_y (y_assign rfl) rfl rfl rfl ?_
            refine s_nil ?_
            refine f_then ?_
            refine c_seq ?_
            refine c_region ?_
            refine s_y (y_move rfl) rfl rfl rfl ?_
            refine s_y (y_T (y_leq rfl rfl) (by omega)) rfl rfl rfl ?_
            refine s_nil ?_
            refine f_then ?_
            refine c_condT rfl ?_
            refine c_exit ?_
            refine f_blockX rfl ?_
            refine f_rndE ?_
            refine f_blockE ?_
            refine f_then ?_
            refine c_seq ?_
            refine c_region ?_
            refine s_y (y_move rfl) rfl rfl rfl ?_
            refine s_y (y_assign rfl) rfl rfl rfl ?_
            refine s_nil ?_
            refine f_then ?_
            refine c_ret ?_
            exact f_retE () (res1 rfl rfl) (congrArg (Value.int .i64) (by omega)) (fun w h => h)
          · refine s_y (y_assign rfl) rfl rfl rfl ?_
            refine s_nil ?_
            refine f_then ?_
            refine c_seq ?_
            refine c_seq ?_
            refine c_region ?_
            refine s_y (y_move rfl) rfl rfl rfl ?_
            refine s_y (y_move rfl) rfl rfl rfl ?_
            refine s_y (y_F (y_leq rfl rfl) (by omega)) rfl rfl rfl ?_
            refine s_nil ?_
            refine f_then ?_
            refine c_condF rfl ?_
            refine c_skip ?_
            refine f_then ?_
            refine c_seq ?_
            refine c_seq ?_
            refine c_region ?_
            refine s_y (y_move rfl) rfl rfl rfl ?_
            refine s_y (y_nilP rfl) rfl rfl rfl ?_
            refine s_y (y_fieldAddr0 Tryz.tab rfl rfl rfl rfl rfl) rfl rfl rfl ?_
            refine s_y (y_load Tryz.tab rfl rfl f0) rfl rfl rfl ?_
            refine s_y (y_neqPN Tryz.tab rfl rfl) rfl rfl rfl ?_
            refine s_nil ?_
            refine f_then ?_
            refine c_condF rfl ?_
            refine c_skip ?_
            refine f_then ?_
            refine c_seq ?_
            refine c_seq ?_
            refine c_region ?_
            refine s_y (y_move rfl) rfl rfl rfl ?_
            refine s_y (y_nilP rfl) rfl rfl rfl ?_
            refine s_y (y_fieldAddrB Tryz.tab 3 rfl rfl rfl rfl rfl) rfl rfl rfl ?_
            refine s_y (y_load Tryz.tab rfl rfl f3) rfl rfl rfl ?_
            refine s_y (y_move rfl) rfl rfl rfl ?_
            refine s_y (y_F (y_eql rfl rfl) (by omega)) rfl rfl rfl ?_
            refine s_nil ?_
            refine f_then ?_
            refine c_condF rfl ?_
            refine c_skip ?_
            refine f_then ?_
            refine c_seq ?_
            refine c_region ?_
            refine s_y (y_move rfl) rfl rfl rfl ?_
            refine s_y (y_move rfl) rfl rfl rfl ?_
            refine s_y (y_move rfl) rfl rfl rfl ?_
            refine s_y (y_nilP rfl) rfl rfl rfl ?_
            refine s_y (y_fieldAddrB Tryz.tab 2 rfl rfl rfl rfl rfl) rfl rfl rfl ?_
            refine s_y (y_load Tryz.tab rfl rfl f2) rfl rfl rfl ?_
            refine s_y (y_add rfl rfl (by omega)) rfl rfl rfl ?_
            refine s_y (y_sub rfl rfl (by omega)) rfl rfl rfl ?_
            refine s_y (y_assign rfl) rfl rfl rfl ?_
            refine s_nil ?_
            refine f_then ?_
            refine c_seq ?_
            refine c_region ?_
            refine s_y (y_move rfl) rfl rfl rfl ?_
            refine s_y (y_nilP rfl) rfl rfl rfl ?_
            refine s_y (y_fieldAddrB Tryz.tab 1 rfl rfl rfl rfl rfl) rfl rfl rfl ?_
            refine s_y (y_load Tryz.tab rfl rfl f1) rfl rfl rfl ?_
            refine s_y (y_assign rfl) rfl rfl rfl ?_
            refine s_nil ?_
            refine f_then ?_
            refine c_seq ?_
            refine c_region ?_
            refine s_y (y_move rfl) rfl rfl rfl ?_
            refine s_y (y_F (y_leq rfl rfl) (by omega)) rfl rfl rfl ?_
            refine s_nil ?_
            refine f_then ?_
            refine c_condF rfl ?_
            refine c_skip ?_
            refine f_blockN ?_
            exact f_roundP (r, rv, a - Tree.pcs .nil - n, s + Tree.cnt tag .nil) ⟨hr, hkr, by dsimp only; omega, by dsimp only; omega, by dsimp only; omega⟩ (by dsimp only; omega) ⟨rfl, congrArg (fun z => some (Value.int .i64 z)) (by dsimp only; omega), rfl, congrArg (fun z => some (Value.int .i64 z)) (by dsimp only; omega), trivial⟩ (fun w h => h)
      · obtain ⟨lq, rfl⟩ := hl.neC cl
        obtain ⟨cl1, cl2⟩ : ∃ bl, lq = ⟨bl, 0, none⟩ ∧ CellIs C ⟨bl, 7 + tag, none⟩ (.int .i64 (l.cnt tag : Nat)) := by
          cases l with
          | nil => exact absurd rfl cl
          | node a1 a2 a3 a4 =>
            obtain ⟨bl, lv2, rv2, e, hbl, _, _⟩ := hl.nodeC
            exact ⟨bl, by injection e with e; injection e, ((ndf (W := W) (R := R) hbl).cls hC).f7 tag htg⟩
        obtain ⟨rfl, g7⟩ := cl2
        by_cases ce : tag = x
        · subst ce
          rw [if_pos rfl] at hse
          by_cases cb : a ≤ l.pcs + n
          · rw [show a - l.pcs - n = 0 by omega, hz] at hse
            refine s_y (y_assign rfl) rfl rfl rfl ?_
            refine s_nil ?_
            refine f_then ?_
            refine c_seq ?_
            refine c_seq ?_
            refine c_region ?_
            refine s_y (y_move rfl) rfl rfl rfl ?_
            refine s_y (y_move rfl) rfl rfl rfl ?_
            refine s_y (y_F (y_leq rfl rfl) (by omega)) rfl rfl rfl ?_
            refine s_nil ?_
            refine f_then ?_
            refine c_condF rfl ?_
            refine c_skip ?_
            refine f_then ?_
            refine c_seq ?_
            refine c_seq ?_
            refine c_region ?_
            refine s_y (y_move rfl) rfl rfl rfl ?_
            refine s_y (y_nilP rfl) rfl rfl rfl ?_
            refine s_y (y_fieldAddr0 Tryz.tab rfl rfl rfl rfl rfl) rfl rfl rfl ?_
            refine s_y (y_load Tryz.tab rfl rfl f0) rfl rfl rfl ?_
            refine s_y (y_neqPN Tryz.tab rfl rfl) rfl rfl rfl ?_
            refine s_nil ?_
            refine f_then ?_
            refine c_condT rfl ?_
            refine c_region ?_
            refine s_y (y_move rfl) rfl rfl rfl ?_
            refine s_y (y_move rfl) rfl rfl rfl ?_
            refine s_y (y_nilP rfl) rfl rfl rfl ?_
            refine s_y (y_fieldAddr0 Tryz.tab rfl rfl rfl rfl rfl) rfl rfl rfl ?_
            refine s_y (y_load Tryz.tab rfl rfl f0) rfl rfl rfl ?_
            refine s_y (y_move rfl) rfl rfl rfl ?_
            refine s_y (y_nilP rfl) rfl rfl rfl ?_
            refine s_y (y_fieldAddrB Tryz.tab 7 rfl rfl rfl rfl rfl) rfl rfl rfl ?_
            refine s_y (y_indexArr1 Tryz.tab rfl rfl rfl rfl _ rfl (by omega)) rfl rfl rfl ?_
            refine s_y (y_load Tryz.tab rfl rfl g7) rfl rfl rfl ?_
            refine s_y (y_add rfl rfl (by omega)) rfl rfl rfl ?_
            refine s_y (y_assign rfl) rfl rfl rfl ?_
            refine s_nil ?_
            refine f_then ?_
            refine c_seq ?_
            refine c_seq ?_
            refine c_region ?_
            refine s_y (y_move rfl) rfl rfl rfl ?_
            refine s_y (y_nilP rfl) rfl rfl rfl ?_
            refine s_y (y_fieldAddrB Tryz.tab 3 rfl rfl rfl rfl rfl) rfl rfl rfl ?_
            refine s_y (y_load Tryz.tab rfl rfl f3) rfl rfl rfl ?_
            refine s_y (y_move rfl) rfl rfl rfl ?_
            refine s_y (y_T (y_eql rfl rfl) (by omega)) rfl rfl rfl ?_
            refine s_nil ?_
            refine f_then ?_
            refine c_condT rfl ?_
            refine c_region ?_
            refine s_y (y_move rfl) rfl rfl rfl ?_
            refine s_y (y_move rfl) rfl rfl rfl ?_
            refine s_y (y_move rfl) rfl rfl rfl ?_
            refine s_y (y_sub rfl rfl (by omega)) rfl rfl rfl ?_
            refine s_y (y_move rfl) rfl rfl rfl ?_
            refine s_y (y_nilP rfl) rfl rfl rfl ?_
            refine s_y (y_fieldAddrB Tryz.tab 2 rfl rfl rfl rfl rfl) rfl rfl rfl ?_
            refine s_y (y_load Tryz.tab rfl rfl f2) rfl rfl rfl ?_
            refine s_y (y_min rfl rfl) rfl rfl rfl ?_
            refine s_y (y_add rfl rfl (by omega)) rfl rfl rfl ?_
            refine s_y (y_assign rfl) rfl rfl rfl ?_
            refine s_nil ?_
            refine f_then ?_
            refine c_seq ?_
            refine c_region ?_
            refine s_y (y_move rfl) rfl rfl rfl ?_
            refine s_y (y_move rfl) rfl rfl rfl ?_
            refine s_y (y_move rfl) rfl rfl rfl ?_
            refine s_y (y_nilP rfl) rfl rfl rfl ?_
            refine s_y (y_fieldAddrB Tryz.tab 2 rfl rfl rfl rfl rfl) rfl rfl rfl ?_
            refine s_y (y_load Tryz.tab rfl rfl f2) rfl rfl rfl ?_
            refine s_y (y_add rfl rfl (by omega)) rfl rfl rfl ?_
            refine s_y (y_sub rfl rfl (by omega)) rfl rfl rfl ?_
            refine s_y (y_assign rfl) rfl rfl rfl ?_
            refine s_nil ?_
            refine f_then ?_
            refine c_seq ?_
            refine c_region ?_
            refine s_y (y_move rfl) rfl rfl rfl ?_
            refine s_y (y_nilP rfl) rfl rfl rfl ?_
            refine s_y (y_fieldAddrB Tryz.tab 1 rfl rfl rfl rfl rfl) rfl rfl rfl ?_
            refine s_y (y_load Tryz.tab rfl rfl f1) rfl rfl rfl ?_
            refine s_y (y_assign rfl) rfl rfl rfl ?_
            refine s_nil ?_
            refine f_then ?_
            refine c_seq ?_
            refine c_region ?_
            refine s_y (y_move rfl) rfl rfl rfl ?_
            refine s_y (y_T (y_leq rfl rfl) (by omega)) rfl rfl rfl ?_
            refine s_nil ?_
            refine f_then ?_
            refine c_condT rfl ?_
            refine c_exit ?_
            refine f_blockX rfl ?_
            refine f_rndE ?_
            refine f_blockE ?_
            refine f_then ?_
            refine c_seq ?_
            refine c_region ?_
            refine s_y (y_move rfl) rfl rfl rfl ?_
            refine s_y (y_assign rfl) rfl rfl rfl ?_
            refine s_nil ?_
            refine f_then ?_
            refine c_ret ?_
            exact f_retE () (res1 rfl rfl) (congrArg (Value.int .i64) (by omega)) (fun w h => h)
          · refine s_y (y_assign rfl) rfl rfl rfl ?_
            refine s_nil ?_
            refine f_then ?_
            refine c_seq ?_
            refine c_seq ?_
            refine c_region ?_
            refine s_y (y_move rfl) rfl rfl rfl ?_
            refine s_y (y_move rfl) rfl rfl rfl ?_
            refine s_y (y_F (y_leq rfl rfl) (by omega)) rfl rfl rfl ?_
            refine s_nil ?_
            refine f_then ?_
            refine c_condF rfl ?_
            refine c_skip ?_
            refine f_then ?_
            refine c_seq ?_
            refine c_seq ?_
            refine c_region ?_
            refine s_y (y_move rfl) rfl rfl rfl ?_
            refine s_y (y_nilP rfl) rfl rfl rfl ?_
            refine s_y (y_fieldAddr0 Tryz.tab rfl rfl rfl rfl rfl) rfl rfl rfl ?_
            refine s_y (y_load Tryz.tab rfl rfl f0) rfl rfl rfl ?_
            refine s_y (y_neqPN Tryz.tab rfl rfl) rfl rfl rfl ?_
            refine s_nil ?_
            refine f_then ?_
            refine c_condT rfl ?_
            refine c_region ?_
            refine s_y (y_move rfl) rfl rfl rfl ?_
            refine s_y (y_move rfl) rfl rfl rfl ?_
            refine s_y (y_nilP rfl) rfl rfl rfl ?_
            refine s_y (y_fieldAddr0 Tryz.tab rfl rfl rfl rfl rfl) rfl rfl rfl ?_
            refine s_y (y_load Tryz.tab rfl rfl f0) rfl rfl rfl ?_
            refine s_y (y_move rfl) rfl rfl rfl ?_
            refine s_y (y_nilP rfl) rfl rfl rfl ?_
            refine s_y (y_fieldAddrB Tryz.tab 7 rfl rfl rfl rfl rfl) rfl rfl rfl ?_
            refine s_y (y_indexArr1 Tryz.tab rfl rfl rfl rfl _ rfl (by omega)) rfl rfl rfl ?_
            refine s_y (y_load Tryz.tab rfl rfl g7) rfl rfl rfl ?_
            refine s_y (y_add rfl rfl (by omega)) rfl rfl rfl ?_
            refine s_y (y_assign rfl) rfl rfl rfl ?_
            refine s_nil ?_
            refine f_then ?_
            refine c_seq ?_
            refine c_seq ?_
            refine c_region ?_
            refine s_y (y_move rfl) rfl rfl rfl ?_
            refine s_y (y_nilP rfl) rfl rfl rfl ?_
            refine s_y (y_fieldAddrB Tryz.tab 3 rfl rfl rfl rfl rfl) rfl rfl rfl ?_
            refine s_y (y_load Tryz.tab rfl rfl f3) rfl rfl rfl ?_
            refine s_y (y_move rfl) rfl rfl rfl ?_
            refine s_y (y_T (y_eql rfl rfl) (by omega)) rfl rfl rfl ?_
            refine s_nil ?_
            refine f_then ?_
            refine c_condT rfl ?_
            refine c_region ?_
            refine s_y (y_move rfl) rfl rfl rfl ?_
            refine s_y (y_move rfl) rfl rfl rfl ?_
            refine s_y (y_move rfl) rfl rfl rfl ?_
            refine s_y (y_sub rfl rfl (by omega)) rfl rfl rfl ?_
            refine s_y (y_move rfl) rfl rfl rfl ?_
            refine s_y (y_nilP rfl) rfl rfl rfl ?_
            refine s_y (y_fieldAddrB Tryz.tab 2 rfl rfl rfl rfl rfl) rfl rfl rfl ?_
            refine s_y (y_load Tryz.tab rfl rfl f2) rfl rfl rfl ?_
            refine s_y (y_min rfl rfl) rfl rfl rfl ?_
            refine s_y (y_add rfl rfl (by omega)) rfl rfl rfl ?_
            refine s_y (y_assign rfl) rfl rfl rfl ?_
            refine s_nil ?_
            refine f_then ?_
            refine c_seq ?_
            refine c_region ?_
            refine s_y (y_move rfl) rfl rfl rfl ?_
            refine s_y (y_move rfl) rfl rfl rfl ?_
            refine s_y (y_move rfl) rfl rfl rfl ?_
            refine s_y (y_nilP rfl) rfl rfl rfl ?_
            refine s_y (y_fieldAddrB Tryz.tab 2 rfl rfl rfl rfl rfl) rfl rfl rfl ?_
            refine s_y (y_load Tryz.tab rfl rfl f2) rfl rfl rfl ?_
            refine s_y (y_add rfl rfl (by omega)) rfl rfl rfl ?_
            refine s_y (y_sub rfl rfl (by omega)) rfl rfl rfl ?_
            refine s_y (y_assign rfl) rfl rfl rfl ?_
            refine s_nil ?_
            refine f_then ?_
            refine c_seq ?_
            refine c_region ?_
            refine s_y (y_move rfl) rfl rfl rfl ?_
            refine s_y (y_nilP rfl) rfl rfl rfl ?_
            refine s_y (y_fieldAddrB Tryz.tab 1 rfl rfl rfl rfl rfl) rfl rfl rfl ?_
            refine s_y (y_load Tryz.tab rfl rfl f1) rfl rfl rfl ?_
            refine s_y (y_assign rfl) rfl rfl rfl ?_
            refine s_nil ?_
            refine f_then ?_
            refine c_seq ?_
            refine c_region ?_
            refine s_y (y_move rfl) rfl rfl rfl ?_
            refine s_y (y_F (y_leq rfl rfl) (by omega)) rfl rfl rfl ?_
            refine s_nil ?_
            refine f_then ?_
            refine c_condF rfl ?_
            refine c_skip ?_
            refine f_blockN ?_
            exact f_roundP (r, rv, a - l.pcs - n, s + l.cnt tag + (min (a - l.pcs) n)) ⟨hr, hkr, by dsimp only; omega, by dsimp only; omega, by dsimp only; omega⟩ (by dsimp only; omega) ⟨rfl, congrArg (fun z => some (Value.int .i64 z)) (by dsimp only; omega), rfl, congrArg (fun z => some (Value.int .i64 z)) (by dsimp only; omega), trivial⟩ (fun w h => h)
        · rw [if_neg ce] at hse
          by_cases cb : a ≤ l.pcs + n
          · rw [show a - l.pcs - n = 0 by omega, hz] at hse
            refine s_y (y_assign rfl) rfl rfl rfl ?_
            refine s_nil ?_
            refine f_then ?_
            refine c_seq ?_
            refine c_seq ?_
            refine c_region ?_
            refine s_y (y_move rfl) rfl rfl rfl ?_
            refine s_y (y_move rfl) rfl rfl rfl ?_
            refine s_y (y_F (y_leq rfl rfl) (by omega)) rfl rfl rfl ?_
            refine s_nil ?_
            refine f_then ?_
            refine c_condF rfl ?_
            refine c_skip ?_
            refine f_then ?_
            refine c_seq ?_
            refine c_seq ?_
            refine c_region ?_
            refine s_y (y_move rfl) rfl rfl rfl ?_
            refine s_y (y_nilP rfl) rfl rfl rfl ?_
            refine s_y (y_fieldAddr0 Tryz.tab rfl rfl rfl rfl rfl) rfl rfl rfl ?_
            refine s_y (y_load Tryz.tab rfl rfl f0) rfl rfl rfl ?_
            refine s_y (y_neqPN Tryz.tab rfl rfl) rfl rfl rfl ?_
            refine s_nil ?_
            refine f_then ?_
            refine c_condT rfl ?_
            refine c_region ?_
            refine s_y (y_move rfl) rfl rfl rfl ?_
            refine s_y (y_move rfl) rfl rfl rfl ?_
            refine s_y (y_nilP rfl) rfl rfl rfl ?_
            refine s_y (y_fieldAddr0 Tryz.tab rfl rfl rfl rfl rfl) rfl rfl rfl ?_
            refine s_y (y_load Tryz.tab rfl rfl f0) rfl rfl rfl ?_
            refine s_y (y_move rfl) rfl rfl rfl ?_
            refine s_y (y_nilP rfl) rfl rfl rfl ?_
            refine s_y (y_fieldAddrB Tryz.tab 7 rfl rfl rfl rfl rfl) rfl rfl rfl ?_
            refine s_y (y_indexArr1 Tryz.tab rfl rfl rfl rfl _ rfl (by omega)) rfl rfl rfl ?_
            refine s_y (y_load Tryz.tab rfl rfl g7) rfl rfl rfl ?_
            refine s_y (y_add rfl rfl (by omega)) rfl rfl rfl ?_
            refine s_y (y_assign rfl) rfl rfl rfl ?_
            refine s_nil ?_
            refine f_then ?_
            refine c_seq ?_
            refine c_seq ?_
            refine c_region ?_
            refine s_y (y_move rfl) rfl rfl rfl ?_
            refine s_y (y_nilP rfl) rfl rfl rfl ?_
            refine s_y (y_fieldAddrB Tryz.tab 3 rfl rfl rfl rfl rfl) rfl rfl rfl ?_
            refine s_y (y_load Tryz.tab rfl rfl f3) rfl rfl rfl ?_
            refine s_y (y_move rfl) rfl rfl rfl ?_
            refine s_y (y_F (y_eql rfl rfl) (by omega)) rfl rfl rfl ?_
            refine s_nil ?_
            refine f_then ?_
            refine c_condF rfl ?_
            refine c_skip ?_
            refine f_then ?_
            refine c_seq ?_
            refine c_region ?_
            refine s_y (y_move rfl) rfl rfl rfl ?_
            refine s_y (y_move rfl) rfl rfl rfl ?_
            refine s_y (y_move rfl) rfl rfl rfl ?_
            refine s_y (y_nilP rfl) rfl rfl rfl ?_
            refine s_y (y_fieldAddrB Tryz.tab 2 rfl rfl rfl rfl rfl) rfl rfl rfl ?_
            refine s_y (y_load Tryz.tab rfl rfl f2) rfl rfl rfl ?_
            refine s_y (y_add rfl rfl (by omega)) rfl rfl rfl ?_
            refine s_y (y_sub rfl rfl (by omega)) rfl rfl rfl ?_
            refine s_y (y_assign rfl) rfl rfl rfl ?_
            refine s_nil ?_
            refine f_then ?_
            refine c_seq ?_
            refine c_region ?_
            refine s_y (y_move rfl) rfl rfl rfl ?_
            refine s_y (y_nilP rfl) rfl rfl rfl ?_
            refine s_y (y_fieldAddrB Tryz.tab 1 rfl rfl rfl rfl rfl) rfl rfl rfl ?_
            refine s_y (y_load Tryz.tab rfl rfl f1) rfl rfl rfl ?_
            refine s_y (y_assign rfl) rfl rfl rfl ?_
            refine s_nil ?_
            refine f_then ?_
            refine c_seq ?_
            refine c_region ?_
            refine s_y (y_move rfl) rfl rfl rfl ?_
            refine s_y (y_T (y_leq rfl rfl) (by omega)) rfl rfl rfl ?_
            refine s_nil ?_
            refine f_then ?_
            refine c_condT rfl ?_
            refine c_exit ?_
            refine f_blockX rfl ?_
            refine f_rndE ?_
            refine f_blockE ?_
            refine f_then ?_
            refine c_seq ?_
            refine c_region ?_
            refine s_y (y_move rfl) rfl rfl rfl ?_
            refine s_y (y_assign rfl) rfl rfl rfl ?_
            refine s_nil ?_
            refine f_then ?_
            refine c_ret ?_
            exact f_retE () (res1 rfl rfl) (congrArg (Value.int .i64) (by omega)) (fun w h => h)
          · refine s_y (y_assign rfl) rfl rfl rfl ?_
            refine s_nil ?_
            refine f_then ?_
            refine c_seq ?_
            refine c_seq ?_
            refine c_region ?_
            refine s_y (y_move rfl) rfl rfl rfl ?_
            refine s_y (y_move rfl) rfl rfl rfl ?_
            refine s_y (y_F (y_leq rfl rfl) (by omega)) rfl rfl rfl ?_
            refine s_nil ?_
            refine f_then ?_
            refine c_condF rfl ?_
            refine c_skip ?_
            refine f_then ?_
            refine c_seq ?_
            refine c_seq ?_
            refine c_region ?_
            refine s_y (y_move rfl) rfl rfl rfl ?_
            refine s_y (y_nilP rfl) rfl rfl rfl ?_
            refine s_y (y_fieldAddr0 Tryz.tab rfl rfl rfl rfl rfl) rfl rfl rfl ?_
            refine s_y (y_load Tryz.tab rfl rfl f0) rfl rfl rfl ?_
            refine s_y (y_neqPN Tryz.tab rfl rfl) rfl rfl rfl ?_
            refine s_nil ?_
            refine f_then ?_
            refine c_condT rfl ?_
            refine c_region ?_
            refine s_y (y_move rfl) rfl rfl rfl ?_
            refine s_y (y_move rfl) rfl rfl rfl ?_
            refine s_y (y_nilP rfl) rfl rfl rfl ?_
            refine s_y (y_fieldAddr0 Tryz.tab rfl rfl rfl rfl rfl) rfl rfl rfl ?_
            refine s_y (y_load Tryz.tab rfl rfl f0) rfl rfl rfl ?_
            refine s_y (y_move rfl) rfl rfl rfl ?_
            refine s_y (y_nilP rfl) rfl rfl rfl ?_
            refine s_y (y_fieldAddrB Tryz.tab 7 rfl rfl rfl rfl rfl) rfl rfl rfl ?_
            refine s_y (y_indexArr1 Tryz.tab rfl rfl rfl rfl _ rfl (by omega)) rfl rfl rfl ?_
            refine s_y (y_load Tryz.tab rfl rfl g7) rfl rfl rfl ?_
            refine s_y (y_add rfl rfl (by omega)) rfl rfl rfl ?_
            refine s_y (y_assign rfl) rfl rfl rfl ?_
            refine s_nil ?_
            refine f_then ?_
            refine c_seq ?_
            refine c_seq ?_
            refine c_region ?_
            refine s_y (y_move rfl) rfl rfl rfl ?_
            refine s_y (y_nilP rfl) rfl rfl rfl ?_
            refine s_y (y_fieldAddrB Tryz.tab 3 rfl rfl rfl rfl rfl) rfl rfl rfl ?_
            refine s_y (y_load Tryz.tab rfl rfl f3) rfl rfl rfl ?_
            refine s_y (y_move rfl) rfl rfl rfl ?_
            refine s_y (y_F (y_eql rfl rfl) (by omega)) rfl rfl rfl ?_
            refine s_nil ?_
            refine f_then ?_
            refine c_condF rfl ?_
            refine c_skip ?_
            refine f_then ?_
            refine c_seq ?_
            refine c_region ?_
            refine s_y (y_move rfl) rfl rfl rfl ?_
            refine s_y (y_move rfl) rfl rfl rfl ?_
            refine s_y (y_move rfl) rfl rfl rfl ?_
            refine s_y (y_nilP rfl) rfl rfl rfl ?_
            refine s_y (y_fieldAddrB Tryz.tab 2 rfl rfl rfl rfl rfl) rfl rfl rfl ?_
            refine s_y (y_load Tryz.tab rfl rfl f2) rfl rfl rfl ?_
            refine s_y (y_add rfl rfl (by omega)) rfl rfl rfl ?_
            refine s_y (y_sub rfl rfl (by omega)) rfl rfl rfl ?_
            refine s_y (y_assign rfl) rfl rfl rfl ?_
            refine s_nil ?_
            refine f_then ?_
            refine c_seq ?_
            refine c_region ?_
            refine s_y (y_move rfl) rfl rfl rfl ?_
            refine s_y (y_nilP rfl) rfl rfl rfl ?_
            refine s_y (y_fieldAddrB Tryz.tab 1 rfl rfl rfl rfl rfl) rfl rfl rfl ?_
            refine s_y (y_load Tryz.tab rfl rfl f1) rfl rfl rfl ?_
            refine s_y (y_assign rfl) rfl rfl rfl ?_
            refine s_nil ?_
            refine f_then ?_
            refine c_seq ?_
            refine c_region ?_
            refine s_y (y_move rfl) rfl rfl rfl ?_
            refine s_y (y_F (y_leq rfl rfl) (by omega)) rfl rfl rfl ?_
            refine s_nil ?_
            refine f_then ?_
            refine c_condF rfl ?_
            refine c_skip ?_
            refine f_blockN ?_
            exact f_roundP (r, rv, a - l.pcs - n, s + l.cnt tag) ⟨hr, hkr, by dsimp only; omega, by dsimp only; omega, by dsimp only; omega⟩ (by dsimp only; omega) ⟨rfl, congrArg (fun z => some (Value.int .i64 z)) (by dsimp only; omega), rfl, congrArg (fun z => some (Value.int .i64 z)) (by dsimp only; omega), trivial⟩ (fun w h => h)
end Go.KL
end

section
/- Walks: Map's Size, Len, few, ranges, Set, New, Count. -/
namespace Go.KL
open Go.Proofs
theorem K.swap {W w : World} {N : List Chunk} {c1 c2 : Chunk} (h : K W (c1 :: c2 :: N) w) : K W (c2 :: c1 :: N) w := h.weak [] (by simpa using List.perm_append_comm_assoc _ _ _)
/-- A map that can be used. -/
structure MOk (t : Tree) : Prop where
  ne : t ≠ .nil
  bal : t.Bal
  pos : PosL t.toL
  tags : ∀ x ∈ t.toL, x.2 < 16
  sz : t.pcs ≤ 1099511627776
theorem len_le_sz : ∀ {L : List (Nat × Nat)}, PosL L → L.length ≤ szL L
  | [], _ => Nat.le_refl _
  | x :: L, h => by
    obtain ⟨h1, h2⟩ := PosL.cons.1 h
    have := len_le_sz h2
    simp only [List.length_cons, szL]
    omega
theorem MOk.lok {t : Tree} (h : MOk t) : LOk t.toL := by
  have h1 := len_le_sz h.pos
  have h2 := h.sz
  rw [Tree.pcs_toL] at h2
  exact ⟨h.tags, by omega, by omega⟩
/-- The tree that Set builds. -/
def setT (t : Tree) (lo hi tag : Nat) : Tree := ((t.split lo).1.concat (.leaf (hi - lo) tag)).concat ((t.split lo).2.split (hi - lo)).2
attribute [local irreducible] SC St Fin Sq Ylds Doos Sets Enters Spec CellIs CellsAre Then Ret Rnd Chn resOK ints bools recs arr
set_option maxRecDepth 10000 in
theorem size_spec {W : World} {p : Chunk} {R : List Chunk} {v : Value} {t : Tree} (ht : Tr p v t) : Spec Tryz.prog 36 #[.agg #[v]] (K W (p :: R)) (fun _ : Unit => .int .i64 (t.pcs : Nat)) (fun _ => K W (p :: R)) := by
  obtain ⟨q, rfl⟩ := ht.ptr
  refine enter (args := [_]) Tryz.func36 rfl Tryz.ntmps36 rfl ?_
  refine c_seq ?_
  refine c_region ?_
  refine s_do (do_box rfl) rfl rfl rfl (fun b1 => ?_)
  refine s_y (y_assign rfl) rfl rfl rfl ?_
  refine s_nil ?_
  refine f_then ?_
  refine c_seq ?_
  refine c_region ?_
  refine s_y (y_fieldAddr0 Tryz.tab rfl rfl rfl rfl rfl) rfl rfl rfl ?_
  refine s_y (y_load Tryz.tab rfl rfl (cell_row 0 rfl rfl)) rfl rfl rfl ?_
  refine s_call (en_f rfl Tryz.call73) (pieces_q (R := R) ht _ K.drew (fun w h => h.tail)) rfl rfl rfl (fun _ => ?_)
  refine s_y (y_assign rfl) rfl rfl rfl ?_
  refine s_nil ?_
  refine f_then ?_
  refine c_ret ?_
  exact f_ret () (res1 rfl rfl) (fun w h => h.tail)
set_option maxRecDepth 10000 in
theorem len_spec {W : World} {p : Chunk} {R : List Chunk} {v : Value} {t : Tree} (ht : Tr p v t) : Spec Tryz.prog 37 #[.agg #[v]] (K W (p :: R)) (fun _ : Unit => .int .i64 (t.runs : Nat)) (fun _ => K W (p :: R)) := by
  obtain ⟨q, rfl⟩ := ht.ptr
  refine enter (args := [_]) Tryz.func37 rfl Tryz.ntmps37 rfl ?_
  refine c_seq ?_
  refine c_region ?_
  refine s_do (do_box rfl) rfl rfl rfl (fun b1 => ?_)
  refine s_y (y_assign rfl) rfl rfl rfl ?_
  refine s_nil ?_
  refine f_then ?_
  refine c_seq ?_
  refine c_region ?_
  refine s_y (y_fieldAddr0 Tryz.tab rfl rfl rfl rfl rfl) rfl rfl rfl ?_
  refine s_y (y_load Tryz.tab rfl rfl (cell_row 0 rfl rfl)) rfl rfl rfl ?_
  refine s_call (en_f rfl Tryz.call74) (sums_q (R := R) ht _ K.drew (fun w h => h.tail)) rfl rfl rfl (fun _ => ?_)
  refine s_y (y_move rfl) rfl rfl rfl ?_
  refine s_y (y_extract rfl rfl) rfl rfl rfl ?_
  refine s_y (y_extract rfl rfl) rfl rfl rfl ?_
  refine s_y (y_extract rfl rfl) rfl rfl rfl ?_
  refine s_y (y_assign rfl) rfl rfl rfl ?_
  refine s_y (y_assign rfl) rfl rfl rfl ?_
  refine s_y (y_assign rfl) rfl rfl rfl ?_
  refine s_nil ?_
  refine f_then ?_
  refine c_seq ?_
  refine c_region ?_
  refine s_y (y_move rfl) rfl rfl rfl ?_
  refine s_y (y_assign rfl) rfl rfl rfl ?_
  refine s_nil ?_
  refine f_then ?_
  refine c_ret ?_
  exact f_ret () (res1 rfl rfl) (fun w h => h.tail)
set_option maxRecDepth 10000 in
theorem few_spec {W : World} {p : Chunk} {R : List Chunk} {v : Value} {t : Tree} (ht : Tr p v t) (hn : t ≠ .nil) : Spec Tryz.prog 94 #[v] (K W (p :: R)) (fun _ : Unit => if t.runs ≤ 4096 then .tuple #[.agg #[v], .int .i64 0] else .tuple #[.agg #[.pointer none], .int .i64 5]) (fun _ => K W (p :: R)) := by
  refine enter (args := [_]) Tryz.func94 rfl Tryz.ntmps94 rfl ?_
  cases t with
  | nil => exact absurd rfl hn
  | node l n k r =>
    obtain ⟨b, lv, rv, rfl, hbm, hl, hr⟩ := ht.nodeC
    have f5 := (ndf (W := W) (R := R) hbm).f5
    by_cases c : (Tree.node l n k r).runs ≤ 4096
    · rw [if_pos c]
      refine c_seq ?_
      refine c_region ?_
      refine s_do (do_alloc Tryz.tab rfl) rfl rfl rfl (fun b2 => ?_)
      refine s_y (y_assign rfl) rfl rfl rfl ?_
      refine s_nil ?_
      refine f_then ?_
      refine c_seq ?_
      refine c_seq ?_
      refine c_region ?_
      refine s_y (y_move rfl) rfl rfl rfl ?_
      refine s_y (y_nilP rfl) rfl rfl rfl ?_
      refine s_y (y_fieldAddrB Tryz.tab 5 rfl rfl rfl rfl rfl) rfl rfl rfl ?_
      refine s_y (y_load Tryz.tab rfl rfl f5.cons) rfl rfl rfl ?_
      refine s_y (y_F (y_gtr rfl rfl) (by omega)) rfl rfl rfl ?_
      refine s_nil ?_
      refine f_then ?_
      refine c_condF rfl ?_
      refine c_skip ?_
      refine f_then ?_
      refine c_seq ?_
      refine c_region ?_
      refine s_y (y_move rfl) rfl rfl rfl ?_
      refine s_y (y_build Tryz.tab rfl rfl rfl rfl rfl) rfl rfl rfl ?_
      refine s_set (set_box Tryz.tab 0 rfl rfl rfl rfl rfl rfl rfl) rfl rfl ?_
      refine s_y (y_assign rfl) rfl rfl rfl ?_
      refine s_nil ?_
      refine f_then ?_
      refine c_ret ?_
      exact f_ret () (resA1 Tryz.tab rfl rfl rfl rfl rfl rfl (cells_row0 0 rfl rfl)) (fun w h => h.tail)
    · rw [if_neg c]
      refine c_seq ?_
      refine c_region ?_
      refine s_do (do_alloc Tryz.tab rfl) rfl rfl rfl (fun b2 => ?_)
      refine s_y (y_assign rfl) rfl rfl rfl ?_
      refine s_nil ?_
      refine f_then ?_
      refine c_seq ?_
      refine c_seq ?_
      refine c_region ?_
      refine s_y (y_move rfl) rfl rfl rfl ?_
      refine s_y (y_nilP rfl) rfl rfl rfl ?_
      refine s_y (y_fieldAddrB Tryz.tab 5 rfl rfl rfl rfl rfl) rfl rfl rfl ?_
      refine s_y (y_load Tryz.tab rfl rfl f5.cons) rfl rfl rfl ?_
      refine s_y (y_T (y_gtr rfl rfl) (by omega)) rfl rfl rfl ?_
      refine s_nil ?_
      refine f_then ?_
      refine c_condT rfl ?_
      refine c_seq ?_
      refine c_region ?_
      refine s_y (y_build Tryz.tab rfl rfl rfl rfl rfl) rfl rfl rfl ?_
      refine s_set (set_box Tryz.tab 0 rfl rfl rfl rfl rfl rfl rfl) rfl rfl ?_
      refine s_y (y_assign rfl) rfl rfl rfl ?_
      refine s_nil ?_
      refine f_then ?_
      refine c_ret ?_
      refine f_thenR ?_
      exact f_ret () (resA1 Tryz.tab rfl rfl rfl rfl rfl rfl (cells_row0 0 rfl rfl)) (fun w h => h.tail)
set_option maxRecDepth 10000 in
theorem ranges_spec {W : World} {p : Chunk} {R : List Chunk} {v : Value} {t : Tree} {lo hi : Nat} (ht : Tr p v t) (hn : t ≠ .nil) (h1 : lo ≤ hi) (h2 : hi ≤ t.pcs) : Spec Tryz.prog 89 #[.agg #[v], .int .i64 (lo : Nat), .int .i64 (hi : Nat)] (K W (p :: R)) (fun _ : Unit => .int .i64 0) (fun _ => K W (p :: R)) := by
  obtain ⟨q, rfl⟩ := ht.neC hn
  refine enter (args := [_, _, _]) Tryz.func89 rfl Tryz.ntmps89 rfl ?_
  refine c_seq ?_
  refine c_region ?_
  refine s_do (do_box rfl) rfl rfl rfl (fun b3 => ?_)
  refine s_y (y_assign rfl) rfl rfl rfl ?_
  refine s_nil ?_
  refine f_then ?_
  refine c_seq ?_
  refine c_block ?_
  refine c_seq ?_
  refine c_region ?_
  refine s_y (y_fieldAddr0 Tryz.tab rfl rfl rfl rfl rfl) rfl rfl rfl ?_
  refine s_y (y_load Tryz.tab rfl rfl (cell_row 0 rfl rfl)) rfl rfl rfl ?_
  refine s_y (y_eqlPN Tryz.tab rfl rfl) rfl rfl rfl ?_
  refine s_y (y_assign rfl) rfl rfl rfl ?_
  refine s_nil ?_
  refine f_then ?_
  refine c_condF rfl ?_
  refine c_seq ?_
  refine c_region ?_
  refine s_y (y_move rfl) rfl rfl rfl ?_
  refine s_y (y_F (y_lss rfl rfl) (by omega)) rfl rfl rfl ?_
  refine s_y (y_move rfl) rfl rfl rfl ?_
  refine s_y (y_move rfl) rfl rfl rfl ?_
  refine s_y (y_move rfl) rfl rfl rfl ?_
  refine s_y (y_F (y_gtr rfl rfl) (by omega)) rfl rfl rfl ?_
  refine s_y (y_pickF rfl rfl) rfl rfl rfl ?_
  refine s_y (y_move rfl) rfl rfl rfl ?_
  refine s_y (y_move rfl) rfl rfl rfl ?_
  refine s_y (y_loadA Tryz.tab rfl rfl rfl rfl (cells_row0 0 rfl rfl)) rfl rfl rfl ?_
  refine St.cls (C' := K W (p :: [(b3, row 29 [.pointer (some q)])] :: R)) ?_ (fun w h => K.swap h)
  skip
  refine s_call (en_f rfl Tryz.call36) (size_spec ht) rfl rfl rfl (fun _ => ?_)
  refine s_y (y_F (y_gtr rfl rfl) (by omega)) rfl rfl rfl ?_
  refine s_y (y_pickF rfl rfl) rfl rfl rfl ?_
  refine s_y (y_assign rfl) rfl rfl rfl ?_
  refine s_nil ?_
  refine f_then ?_
  refine c_condF rfl ?_
  refine c_skip ?_
  refine f_blockN ?_
  refine f_then ?_
  refine c_seq ?_
  refine c_region ?_
  refine s_y (y_assign rfl) rfl rfl rfl ?_
  refine s_nil ?_
  refine f_then ?_
  refine c_ret ?_
  exact f_ret () (res1 rfl rfl) (fun w h => h.swap.tail)
set_option maxRecDepth 10000 in
theorem new_spec {W : World} {p : Chunk} {R : List Chunk} {n : Nat} (h1 : 1 ≤ n) (h2 : n ≤ 1099511627776) : Spec Tryz.prog 25 #[.int .i64 (n : Nat)] (K W (p :: R)) (X := TX p (.leaf n 0)) (fun x => .tuple #[.agg #[x.1.2], .int .i64 0]) (fun x => K W (x.1.1 :: R)) := by
  refine enter (args := [_]) Tryz.func25 rfl Tryz.ntmps25 rfl ?_
  refine c_seq ?_
  refine c_region ?_
  refine s_do (do_alloc Tryz.tab rfl) rfl rfl rfl (fun b2 => ?_)
  refine s_y (y_assign rfl) rfl rfl rfl ?_
  refine s_nil ?_
  refine f_then ?_
  refine c_seq ?_
  refine c_seq ?_
  refine c_region ?_
  refine s_y (y_move rfl) rfl rfl rfl ?_
  refine s_call (en_f rfl Tryz.call44) sized_spec rfl rfl rfl (fun _ => ?_)
  rw [decide_eq_true (show 1 ≤ (n : Int) ∧ (n : Int) ≤ 1099511627776 by omega)]
  refine St.cls (C' := K W (p :: [(b2, row 29 [.pointer none])] :: R)) ?_ (fun w h => K.swap h)
  refine s_y (y_notT rfl) rfl rfl rfl ?_
  refine s_nil ?_
  refine f_then ?_
  refine c_condF rfl ?_
  refine c_skip ?_
  refine f_then ?_
  refine c_seq ?_
  refine c_region ?_
  refine s_y (y_move rfl) rfl rfl rfl ?_
  refine s_call (en_f rfl Tryz.call61) (leaf_spec (t := 0) (by omega) (by omega)) rfl rfl rfl (fun x => ?_)
  obtain ⟨⟨p1, v1⟩, hs1, ht1⟩ := x
  obtain ⟨q, rfl⟩ := ht1.ptr
  dsimp only at hs1 ht1 ⊢
  refine s_y (y_build Tryz.tab rfl rfl rfl rfl rfl) rfl rfl rfl ?_
  refine s_set (set_box Tryz.tab 1 rfl rfl rfl rfl rfl rfl rfl) rfl rfl ?_
  refine s_y (y_assign rfl) rfl rfl rfl ?_
  refine s_nil ?_
  refine f_then ?_
  refine c_ret ?_
  exact f_ret ⟨(p1, .pointer q), hs1, ht1⟩ (resA1 Tryz.tab rfl rfl rfl rfl rfl rfl (cells_row0 1 rfl rfl)) (fun w h => h.swap.tail)
end Go.KL
end

section
/- Walks: Map's Set, Count. -/
namespace Go.KL
open Go.Proofs
theorem K.rot3 {W w : World} {N : List Chunk} {a b c : Chunk} (h : K W (a :: b :: c :: N) w) : K W (c :: a :: b :: N) w := by
  have h1 : K W ((a ++ b) :: c :: N) w := h.join
  exact h1.swap.weak [] (by simp)
theorem LOk.of {L : List (Nat × Nat)} (h : PosL L) (ht : ∀ x ∈ L, x.2 < 16) (hs : szL L ≤ 1099511627776) : LOk L := by
  have := len_le_sz h
  exact ⟨ht, by omega, by omega⟩
theorem takeP_tags {L : List (Nat × Nat)} {k : Nat} (h : ∀ x ∈ L, x.2 < 16) : ∀ x ∈ takeP k L, x.2 < 16 := fun x hx => by
  obtain ⟨y, hy, e⟩ := takeP_ok.2.2 x hx
  rw [e]; exact h y hy
theorem dropP_tags {L : List (Nat × Nat)} {k : Nat} (h : ∀ x ∈ L, x.2 < 16) : ∀ x ∈ dropP k L, x.2 < 16 := fun x hx => by
  obtain ⟨y, hy, e⟩ := dropP_ok.2.2 x hx
  rw [e]; exact h y hy
theorem catL_tags {A B : List (Nat × Nat)} (hA : ∀ x ∈ A, x.2 < 16) (hB : ∀ x ∈ B, x.2 < 16) : ∀ x ∈ catL A B, x.2 < 16 := by
  rcases list_snoc A with rfl | ⟨A', x, rfl⟩
  · exact hB
  cases B with
  | nil => rw [catL_nil]; exact hA
  | cons y B =>
    rw [catL_snoc]
    intro z hz
    split at hz
    · rcases List.mem_append.1 hz with hz | hz
      · exact hA z (by simp [hz])
      · rcases List.mem_cons.1 hz with rfl | hz
        · exact hB y (by simp)
        · exact hB z (by simp [hz])
    · rcases List.mem_append.1 hz with hz | hz
      · exact hA z hz
      · exact hB z hz
/-- What is known of the parts that Set joins. -/
structure SetF (t : Tree) (lo hi tag : Nat) : Prop where
  a1 : (t.split lo).1.Bal
  a2 : (t.split lo).2.Bal
  p2 : PosL (t.split lo).2.toL
  k2 : LOk (t.split lo).2.toL
  b : ((t.split lo).2.split (hi - lo)).2.Bal
  k3 : LOk ((t.split lo).1.toL ++ (Tree.leaf (hi - lo) tag).toL)
  m : ((t.split lo).1.concat (.leaf (hi - lo) tag)).Bal
  k4 : LOk (((t.split lo).1.concat (.leaf (hi - lo) tag)).toL ++ ((t.split lo).2.split (hi - lo)).2.toL)
  ok : MOk (setT t lo hi tag)
  sz : (setT t lo hi tag).pcs = t.pcs
  l : (setT t lo hi tag).toL = catL (catL (takeP lo t.toL) (if hi - lo = 0 then [] else [(hi - lo, tag)])) (dropP (hi - lo) (dropP lo t.toL))
theorem setF {t : Tree} {lo hi tag : Nat} (hM : MOk t) (h1 : lo ≤ hi) (h2 : hi ≤ t.pcs) (h3 : tag < 16) : SetF t lo hi tag := by
  have hsz := hM.sz
  have hpL := Tree.pcs_toL t
  obtain ⟨s1, s2⟩ := Tree.split_toL t lo hM.pos
  obtain ⟨b1, b2⟩ := Tree.split_bal t lo hM.bal
  have p1 : PosL (t.split lo).1.toL := by rw [s1]; exact takeP_pos hM.pos
  have p2 : PosL (t.split lo).2.toL := by rw [s2]; exact dropP_pos hM.pos
  obtain ⟨s3, s4⟩ := Tree.split_toL (t.split lo).2 (hi - lo) p2
  obtain ⟨b3, b4⟩ := Tree.split_bal (t.split lo).2 (hi - lo) b2
  have p4 : PosL ((t.split lo).2.split (hi - lo)).2.toL := by rw [s4]; exact dropP_pos p2
  have t1 : ∀ x ∈ (t.split lo).1.toL, x.2 < 16 := by rw [s1]; exact takeP_tags hM.tags
  have t2 : ∀ x ∈ (t.split lo).2.toL, x.2 < 16 := by rw [s2]; exact dropP_tags hM.tags
  have t4 : ∀ x ∈ ((t.split lo).2.split (hi - lo)).2.toL, x.2 < 16 := by rw [s4]; exact dropP_tags t2
  have z1 : szL (t.split lo).1.toL = lo := by rw [s1]; exact szL_take (by omega)
  have z2 : szL (t.split lo).2.toL = t.pcs - lo := by rw [s2, szL_drop, hpL]
  have z4 : szL ((t.split lo).2.split (hi - lo)).2.toL = t.pcs - hi := by rw [s4, szL_drop, z2]; omega
  have hlf := Tree.leaf_toL (hi - lo) tag
  have pl : PosL (Tree.leaf (hi - lo) tag).toL := by
    rw [hlf]
    split
    · exact fun x hx => by simp at hx
    · exact PosL.cons.2 ⟨by dsimp only; omega, fun x hx => by simp at hx⟩
  have tl' : ∀ x ∈ (Tree.leaf (hi - lo) tag).toL, x.2 < 16 := by
    rw [hlf]
    split
    · exact fun x hx => by simp at hx
    · intro x hx
      rw [List.mem_singleton.1 hx]
      exact h3
  have zl : szL (Tree.leaf (hi - lo) tag).toL = hi - lo := by
    rw [hlf]
    split <;> simp only [szL] <;> omega
  have k3 : LOk ((t.split lo).1.toL ++ (Tree.leaf (hi - lo) tag).toL) := .of (PosL.app.2 ⟨p1, pl⟩) (fun x hx => (List.mem_append.1 hx).elim (t1 x) (tl' x)) (by rw [szL_app]; omega)
  have mL := Tree.concat_toL (t.split lo).1 (.leaf (hi - lo) tag)
  have pm : PosL ((t.split lo).1.concat (.leaf (hi - lo) tag)).toL := by rw [mL]; exact cat_pos p1 pl
  have tm : ∀ x ∈ ((t.split lo).1.concat (.leaf (hi - lo) tag)).toL, x.2 < 16 := by rw [mL]; exact catL_tags t1 tl'
  have zm : szL ((t.split lo).1.concat (.leaf (hi - lo) tag)).toL = hi := by rw [mL, szL_cat]; omega
  have m := Tree.concat_bal b1 (Tree.leaf_bal (hi - lo) tag)
  have k4 : LOk (((t.split lo).1.concat (.leaf (hi - lo) tag)).toL ++ ((t.split lo).2.split (hi - lo)).2.toL) := .of (PosL.app.2 ⟨pm, p4⟩) (fun x hx => (List.mem_append.1 hx).elim (tm x) (t4 x)) (by rw [szL_app]; omega)
  have fL : (setT t lo hi tag).toL = catL ((t.split lo).1.concat (.leaf (hi - lo) tag)).toL ((t.split lo).2.split (hi - lo)).2.toL := Tree.concat_toL _ _
  have fz : (setT t lo hi tag).pcs = t.pcs := by rw [Tree.pcs_toL, fL, szL_cat]; omega
  have hp0 : 0 < t.pcs := by
    cases h : t with
    | nil => exact absurd h hM.ne
    | node l n k r =>
      have := hM.pos
      rw [h, Tree.toL, PosL.app, PosL.cons] at this
      have := this.2.1
      simp only [Tree.pcs] at *
      omega
  refine ⟨b1, b2, p2, .of p2 t2 (by omega), b4, k3, m, k4, ⟨?_, Tree.concat_bal m b4, ?_, ?_, by omega⟩, fz, ?_⟩
  · intro h
    rw [h] at fz
    simp only [Tree.pcs] at fz
    omega
  · rw [fL]; exact cat_pos pm p4
  · rw [fL]; exact catL_tags tm t4
  · rw [fL, mL, s1, s4, s2, hlf]
attribute [local irreducible] SC St Fin Sq Ylds Doos Sets Enters Spec CellIs CellsAre Then Ret Rnd Chn resOK ints bools recs arr
set_option maxRecDepth 10000 in
set_option maxHeartbeats 4000000 in
theorem set_spec {W : World} {p : Chunk} {R : List Chunk} {v : Value} {t : Tree} {lo hi tag : Nat} (ht : Tr p v t) (hM : MOk t) (h1 : lo ≤ hi) (h2 : hi ≤ t.pcs) (h3 : tag < 16) : Spec Tryz.prog 65 #[.agg #[v], .int .i64 (lo : Nat), .int .i64 (hi : Nat), .int .i64 (tag : Nat)] (K W (p :: R)) (X := TX p (setT t lo hi tag))
    (fun x => if (setT t lo hi tag).runs ≤ 4096 then .tuple #[.agg #[x.1.2], .int .i64 0] else .tuple #[.agg #[.pointer none], .int .i64 5]) (fun x => K W (x.1.1 :: R)) := by
  have hF := setF hM h1 h2 h3
  have hsz := hM.sz
  obtain ⟨q, rfl⟩ := ht.neC hM.ne
  have hsub : (hi : Int) - (lo : Int) = ((hi - lo : Nat) : Int) := by omega
  refine enter (args := [_, _, _, _]) Tryz.func65 rfl Tryz.ntmps65 rfl ?_
  refine c_seq ?_
  refine c_region ?_
  refine s_do (do_box rfl) rfl rfl rfl (fun b4 => ?_)
  refine s_do (do_alloc Tryz.tab rfl) rfl rfl rfl (fun b8 => ?_)
  refine s_y (y_assign rfl) rfl rfl rfl ?_
  refine s_nil ?_
  refine f_then ?_
  refine c_seq ?_
  refine c_seq ?_
  refine c_region ?_
  refine s_y (y_loadA Tryz.tab rfl rfl rfl rfl (cells_row0 1 rfl rfl)) rfl rfl rfl ?_
  refine s_y (y_move rfl) rfl rfl rfl ?_
  refine s_y (y_move rfl) rfl rfl rfl ?_
  refine St.cls (C' := K W (p :: [(b8, row 29 [.pointer none])] :: [(b4, row 29 [.pointer (some q)])] :: R)) ?_ (fun w h => K.rot3 h)
  refine s_call (en_f rfl Tryz.call89) (ranges_spec ht hM.ne h1 h2) rfl rfl rfl (fun _ => ?_)
  refine s_y (y_assign rfl) rfl rfl rfl ?_
  refine s_nil ?_
  refine f_then ?_
  refine c_seq ?_
  refine c_region ?_
  refine s_y (y_move rfl) rfl rfl rfl ?_
  refine s_y (y_F (y_neq rfl rfl) (by omega)) rfl rfl rfl ?_
  refine s_nil ?_
  refine f_then ?_
  refine c_condF rfl ?_
  refine c_skip ?_
  refine f_then ?_
  refine c_seq ?_
  refine c_seq ?_
  refine c_region ?_
  refine s_y (y_move rfl) rfl rfl rfl ?_
  refine s_call (en_f rfl Tryz.call45) isTag_spec rfl rfl rfl (fun _ => ?_)
  rw [decide_eq_true (show 0 ≤ (tag : Int) ∧ (tag : Int) < 16 by omega)]
  refine s_y (y_notT rfl) rfl rfl rfl ?_
  refine s_nil ?_
  refine f_then ?_
  refine c_condF rfl ?_
  refine c_skip ?_
  refine f_then ?_
  refine c_seq ?_
  refine c_region ?_
  refine s_y (y_fieldAddr0 Tryz.tab rfl rfl rfl rfl rfl) rfl rfl rfl ?_
  refine s_y (y_load Tryz.tab rfl rfl (cell_row 2 rfl rfl)) rfl rfl rfl ?_
  refine s_y (y_move rfl) rfl rfl rfl ?_
  refine s_call (en_f rfl Tryz.call93) (split_spec t ht hM.bal hM.pos hM.lok (by omega)) rfl rfl rfl (fun x => ?_)
  obtain ⟨⟨p1, v1, v2⟩, hs1, ht1, ht2⟩ := x
  dsimp only at hs1 ht1 ht2 ⊢
  refine s_y (y_move rfl) rfl rfl rfl ?_
  refine s_y (y_extract rfl rfl) rfl rfl rfl ?_
  refine s_y (y_extract rfl rfl) rfl rfl rfl ?_
  refine s_y (y_assign rfl) rfl rfl rfl ?_
  refine s_y (y_assign rfl) rfl rfl rfl ?_
  refine s_nil ?_
  refine f_then ?_
  refine c_seq ?_
  refine c_region ?_
  refine s_y (y_move rfl) rfl rfl rfl ?_
  refine s_y (y_move rfl) rfl rfl rfl ?_
  refine s_y (y_move rfl) rfl rfl rfl ?_
  refine s_y (y_sub rfl rfl (by omega)) rfl rfl rfl ?_
  rw [hsub]
  refine s_call (en_f rfl Tryz.call93) (split_spec (t.split lo).2 ht2 hF.a2 hF.p2 hF.k2 (by omega)) rfl rfl rfl (fun x => ?_)
  obtain ⟨⟨p2, v3, v4⟩, hs2, ht3, ht4⟩ := x
  dsimp only at hs2 ht3 ht4 ⊢
  refine s_y (y_move rfl) rfl rfl rfl ?_
  refine s_y (y_extract rfl rfl) rfl rfl rfl ?_
  refine s_y (y_extract rfl rfl) rfl rfl rfl ?_
  refine s_y (y_assign rfl) rfl rfl rfl ?_
  refine s_y (y_assign rfl) rfl rfl rfl ?_
  refine s_nil ?_
  refine f_then ?_
  refine c_seq ?_
  refine c_region ?_
  refine s_y (y_move rfl) rfl rfl rfl ?_
  refine s_y (y_move rfl) rfl rfl rfl ?_
  refine s_y (y_move rfl) rfl rfl rfl ?_
  refine s_y (y_sub rfl rfl (by omega)) rfl rfl rfl ?_
  refine s_y (y_move rfl) rfl rfl rfl ?_
  rw [hsub]
  refine s_call (en_f rfl Tryz.call61) (leaf_spec (n := hi - lo) (t := tag) h3 (by omega)) rfl rfl rfl (fun x => ?_)
  obtain ⟨⟨p3, v5⟩, hs3, ht5⟩ := x
  dsimp only at hs3 ht5 ⊢
  refine s_call (en_f rfl Tryz.call95) (concat_spec (ht1.sub (hs2.trans hs3)) ht5 hF.a1 (Tree.leaf_bal _ _) hF.k3) rfl rfl rfl (fun x => ?_)
  obtain ⟨⟨p4, v6⟩, hs4, ht6⟩ := x
  dsimp only at hs4 ht6 ⊢
  refine s_y (y_move rfl) rfl rfl rfl ?_
  refine s_call (en_f rfl Tryz.call95) (concat_spec ht6 (ht4.sub (hs3.trans hs4)) hF.m hF.b hF.k4) rfl rfl rfl (fun x => ?_)
  obtain ⟨⟨p5, v7⟩, hs5, ht7⟩ := x
  dsimp only at hs5 ht7 ⊢
  have ht8 : Tr p5 v7 (setT t lo hi tag) := ht7
  refine s_call (en_f rfl Tryz.call94) (few_spec ht8 hF.ok.ne) rfl rfl rfl (fun _ => ?_)
  obtain ⟨q7, rfl⟩ := ht8.ptr
  have hsall := (((hs1.trans hs2).trans hs3).trans hs4).trans hs5
  by_cases c : (setT t lo hi tag).runs ≤ 4096
  · rw [if_pos c]
    refine s_y (y_extract rfl rfl) rfl rfl rfl ?_
    refine s_y (y_extract rfl rfl) rfl rfl rfl ?_
    refine s_set (set_box Tryz.tab 1 rfl rfl rfl rfl rfl rfl rfl) rfl rfl ?_
    refine s_y (y_assign rfl) rfl rfl rfl ?_
    refine s_nil ?_
    refine f_then ?_
    refine c_ret ?_
    exact f_ret ⟨(p5, .pointer q7), hsall, ht8⟩ (by rw [if_pos c]; exact resA1 Tryz.tab rfl rfl rfl rfl rfl rfl (cells_row0 1 rfl rfl)) (fun w h => h.swap.tail.swap.tail)
  · rw [if_neg c]
    refine s_y (y_extract rfl rfl) rfl rfl rfl ?_
    refine s_y (y_extract rfl rfl) rfl rfl rfl ?_
    refine s_set (set_box Tryz.tab 1 rfl rfl rfl rfl rfl rfl rfl) rfl rfl ?_
    refine s_y (y_assign rfl) rfl rfl rfl ?_
    refine s_nil ?_
    refine f_then ?_
    refine c_ret ?_
    exact f_ret ⟨(p5, .pointer q7), hsall, ht8⟩ (by rw [if_neg c]; exact resA1 Tryz.tab rfl rfl rfl rfl rfl rfl (cells_row0 1 rfl rfl)) (fun w h => h.swap.tail.swap.tail)
set_option maxRecDepth 10000 in
set_option maxHeartbeats 4000000 in
theorem count_spec {W : World} {p : Chunk} {R : List Chunk} {v : Value} {t : Tree} {lo hi tag : Nat} (ht : Tr p v t) (hM : MOk t) (h1 : lo ≤ hi) (h2 : hi ≤ t.pcs) (h3 : tag < 16) : Spec Tryz.prog 121 #[.agg #[v], .int .i64 (lo : Nat), .int .i64 (hi : Nat), .int .i64 (tag : Nat)] (K W (p :: R))
    (fun _ : Unit => .tuple #[.int .i64 ((t.bef tag hi : Nat) - (t.bef tag lo : Nat) : Int), .int .i64 0]) (fun _ => K W (p :: R)) := by
  have hsz := hM.sz
  have hb1 := Tree.bef_le tag t hi
  have hb2 := Tree.bef_le tag t lo
  obtain ⟨q, rfl⟩ := ht.neC hM.ne
  refine enter (args := [_, _, _, _]) Tryz.func121 rfl Tryz.ntmps121 rfl ?_
  refine c_seq ?_
  refine c_region ?_
  refine s_do (do_box rfl) rfl rfl rfl (fun b4 => ?_)
  refine s_y (y_assign rfl) rfl rfl rfl ?_
  refine s_y (y_assign rfl) rfl rfl rfl ?_
  refine s_nil ?_
  refine f_then ?_
  refine c_seq ?_
  refine c_seq ?_
  refine c_region ?_
  refine s_y (y_loadA Tryz.tab rfl rfl rfl rfl (cells_row0 0 rfl rfl)) rfl rfl rfl ?_
  refine s_y (y_move rfl) rfl rfl rfl ?_
  refine s_y (y_move rfl) rfl rfl rfl ?_
  refine St.cls (C' := K W (p :: [(b4, row 29 [.pointer (some q)])] :: R)) ?_ (fun w h => K.swap h)
  refine s_call (en_f rfl Tryz.call89) (ranges_spec ht hM.ne h1 h2) rfl rfl rfl (fun _ => ?_)
  refine s_y (y_assign rfl) rfl rfl rfl ?_
  refine s_nil ?_
  refine f_then ?_
  refine c_seq ?_
  refine c_region ?_
  refine s_y (y_move rfl) rfl rfl rfl ?_
  refine s_y (y_F (y_neq rfl rfl) (by omega)) rfl rfl rfl ?_
  refine s_nil ?_
  refine f_then ?_
  refine c_condF rfl ?_
  refine c_skip ?_
  refine f_then ?_
  refine c_seq ?_
  refine c_seq ?_
  refine c_region ?_
  refine s_y (y_move rfl) rfl rfl rfl ?_
  refine s_call (en_f rfl Tryz.call45) isTag_spec rfl rfl rfl (fun _ => ?_)
  rw [decide_eq_true (show 0 ≤ (tag : Int) ∧ (tag : Int) < 16 by omega)]
  refine s_y (y_notT rfl) rfl rfl rfl ?_
  refine s_nil ?_
  refine f_then ?_
  refine c_condF rfl ?_
  refine c_skip ?_
  refine f_then ?_
  refine c_seq ?_
  refine c_plan [.c 0, .c 1, .c 2, .c 3, .c 4, .c 5, .c 6, .c 7, .c 8, .c 9, .c 10, .c 11, .c 12] [] ((K W (p :: [(b4, row 29 [.pointer (some q)])] :: R))) Tryz.mixed (by kernel_rfl) rfl K.cl ?_
  refine d_c rfl (Qui.ylds (y_fieldAddr0 Tryz.tab rfl rfl rfl rfl rfl)) rfl rfl rfl (fun _ h => h) K.cl ?_
  refine d_c rfl (Qui.ylds (y_load Tryz.tab rfl rfl (cell_row 1 rfl rfl))) rfl rfl rfl (fun _ h => h) K.cl ?_
  refine d_c rfl (Qui.ylds (y_move rfl)) rfl rfl rfl (fun _ h => h) K.cl ?_
  refine d_c rfl (Qui.ylds (y_move rfl)) rfl rfl rfl (fun _ h => h) K.cl ?_
  refine d_c rfl (Qui.callD K.cl (en_f rfl Tryz.call134) ((before_q (k := hi) (by assumption) h3 hM.lok (by omega)))) rfl rfl rfl (fun _ h => h) K.cl ?_
  refine d_c rfl (Qui.ylds (y_fieldAddr0 Tryz.tab rfl rfl rfl rfl rfl)) rfl rfl rfl (fun _ h => h) K.cl ?_
  refine d_c rfl (Qui.ylds (y_load Tryz.tab rfl rfl (cell_row 1 rfl rfl))) rfl rfl rfl (fun _ h => h) K.cl ?_
  refine d_c rfl (Qui.ylds (y_move rfl)) rfl rfl rfl (fun _ h => h) K.cl ?_
  refine d_c rfl (Qui.ylds (y_move rfl)) rfl rfl rfl (fun _ h => h) K.cl ?_
  refine d_c rfl (Qui.callD K.cl (en_f rfl Tryz.call134) ((before_q (k := lo) (by assumption) h3 hM.lok (by omega)))) rfl rfl rfl (fun _ h => h) K.cl ?_
  refine d_c rfl (Qui.ylds (y_sub rfl rfl (by omega))) rfl rfl rfl (fun _ h => h) K.cl ?_
  refine d_c rfl (Qui.ylds (y_assign rfl)) rfl rfl rfl (fun _ h => h) K.cl ?_
  refine d_c rfl (Qui.ylds (y_assign rfl)) rfl rfl rfl (fun _ h => h) K.cl ?_
  refine d_nil ?_
  refine f_then ?_
  refine c_ret ?_
  exact f_ret () (res2 rfl rfl rfl) (fun w h => h.swap.tail)
end Go.KL
end

section
/- Walks: visit. -/
namespace Go.KL
open Go.Proofs
/-- A run as a value. -/
abbrev rnv (r : Rn) : Value := .agg #[.int .i64 (r.1 : Nat), .int .i64 (r.2.1 : Nat), .int .i64 (r.2.2 : Nat)]
/-- What a caller makes of the runs that it is passed. -/
structure Vis (W : World) (p : Chunk) (l most : Nat) (Z : Type) (Bx : Z → List Chunk) (G : List Rn → Z → Prop) : Prop where
  pool : ∀ z w, K W (Bx z) w → PoolD W p w
  yield : ∀ (L : List Rn) (z : Z) (r : Rn), L.length < most → G L z → r.1 < r.2.1 → r.2.1 ≤ 1152921504606846976 → r.2.2 < 16 →
    YSpec Tryz.prog l #[rnv r] (K W (Bx z)) (X := { z' : Z // G (L ++ [r]) z' }) (fun _ => .bool true) (fun z' => K W (Bx z'.1))
attribute [local irreducible] SC St Fin Sq Ylds Doos Sets Enters Spec CellIs CellsAre Then Ret Rnd Chn resOK ints bools recs arr
set_option maxRecDepth 10000 in
set_option maxHeartbeats 8000000 in
theorem visit_spec {W : World} {p : Chunk} {l most lo hi : Nat} {Z : Type} {Bx : Z → List Chunk} {G : List Rn → Z → Prop} (hV : Vis W p l most Z Bx G) (hlo : lo ≤ 1152921504606846976) (hhi : hi ≤ 1152921504606846976) :
    ∀ (t : Tree) {v : Value} {o : Nat} {L : List Rn} {z : Z} (_ : Tr p v t) (_ : LOk t.toL) (_ : o + t.pcs ≤ 1152921504606846976) (_ : G L z) (_ : L.length + (t.clip lo hi o).length ≤ most),
    Spec Tryz.prog 106 #[v, .int .i64 (o : Nat), .int .i64 (lo : Nat), .int .i64 (hi : Nat), .func (.yield l) #[] #[]] (K W (Bx z)) (X := { z' : Z // G (L ++ t.clip lo hi o) z' }) (fun _ => .bool true) (fun z' => K W (Bx z'.1))
  | .nil, v, o, L, z, ht, _, _, hG, _ => by
    obtain rfl := ht.nilC
    refine enter (args := [_, _, _, _, _]) Tryz.func106 rfl Tryz.ntmps106 rfl ?_
    refine c_seq ?_
    refine c_region ?_
    refine s_y (y_assign rfl) rfl rfl rfl ?_
    refine s_nil ?_
    refine f_then ?_
    refine c_seq ?_
    refine c_seq ?_
    refine c_region ?_
    refine s_y (y_move rfl) rfl rfl rfl ?_
    refine s_y (y_eqlPN Tryz.tab rfl rfl) rfl rfl rfl ?_
    refine s_y (y_move rfl) rfl rfl rfl ?_
    iterate 3 refine s_skip rfl rfl rfl ?_
    refine s_y (y_pickT rfl rfl) rfl rfl rfl ?_
    refine s_y (y_move rfl) rfl rfl rfl ?_
    iterate 8 refine s_skip rfl rfl rfl ?_
    refine s_y (y_pickT rfl rfl) rfl rfl rfl ?_
    refine s_nil ?_
    refine f_then ?_
    refine c_condT rfl ?_
    refine c_seq ?_
    refine c_region ?_
    refine s_y (y_assign rfl) rfl rfl rfl ?_
    refine s_nil ?_
    refine f_then ?_
    refine c_ret ?_
    refine f_thenR ?_
    exact f_ret ⟨z, by rw [Tree.clip, List.append_nil]; exact hG⟩ (res1 rfl rfl) (fun w h => h)
  | .node lt n k rt, v, o, L, z, ht, hk, ho, hG, hlen => by
    obtain ⟨b, lv, rv, rfl, hbm, hl, hr⟩ := ht.nodeC
    have hkl : LOk lt.toL := hk.left
    have hkr : LOk rt.toL := (hk.eq (B := (lt.toL ++ [(n, k)]) ++ rt.toL) (by simp [Tree.toL])).right
    have hkt := (Tree.LOk.node hk).1
    have hps : (Tree.node lt n k rt).pcs = lt.pcs + rt.pcs + n := rfl
    have hFD := ndp (W := W) hbm
    have hF := hFD.cls (hV.pool z)
    refine enter (args := [_, _, _, _, _]) Tryz.func106 rfl Tryz.ntmps106 rfl ?_
    by_cases c : hi ≤ o ∨ o + (Tree.node lt n k rt).pcs ≤ lo
    · rw [Tree.clip, if_pos c, List.append_nil]
      obtain ⟨f0, f1, f2, f3, f4, f5, f6, f7⟩ := hF
      clear f4 f5 f7
      by_cases c1 : hi ≤ o
      · refine c_seq ?_
        refine c_region ?_
        refine s_y (y_assign rfl) rfl rfl rfl ?_
        refine s_nil ?_
        refine f_then ?_
        refine c_seq ?_
        refine c_seq ?_
        refine c_region ?_
        refine s_y (y_move rfl) rfl rfl rfl ?_
        refine s_y (y_eqlPN Tryz.tab rfl rfl) rfl rfl rfl ?_
        refine s_y (y_move rfl) rfl rfl rfl ?_
        refine s_y (y_move rfl) rfl rfl rfl ?_
        refine s_y (y_move rfl) rfl rfl rfl ?_
        refine s_y (y_T (y_geq rfl rfl) (by omega)) rfl rfl rfl ?_
        refine s_y (y_pickF rfl rfl) rfl rfl rfl ?_
        refine s_y (y_move rfl) rfl rfl rfl ?_
        iterate 8 refine s_skip rfl rfl rfl ?_
        refine s_y (y_pickT rfl rfl) rfl rfl rfl ?_
        refine s_nil ?_
        refine f_then ?_
        refine c_condT rfl ?_
        refine c_seq ?_
        refine c_region ?_
        refine s_y (y_assign rfl) rfl rfl rfl ?_
        refine s_nil ?_
        refine f_then ?_
        refine c_ret ?_
        refine f_thenR ?_
        exact f_ret ⟨z, hG⟩ (res1 rfl rfl) (fun w h => h)
      · refine c_seq ?_
        refine c_region ?_
        refine s_y (y_assign rfl) rfl rfl rfl ?_
        refine s_nil ?_
        refine f_then ?_
        refine c_seq ?_
        refine c_seq ?_
        refine c_region ?_
        refine s_y (y_move rfl) rfl rfl rfl ?_
        refine s_y (y_eqlPN Tryz.tab rfl rfl) rfl rfl rfl ?_
        refine s_y (y_move rfl) rfl rfl rfl ?_
        refine s_y (y_move rfl) rfl rfl rfl ?_
        refine s_y (y_move rfl) rfl rfl rfl ?_
        refine s_y (y_F (y_geq rfl rfl) (by omega)) rfl rfl rfl ?_
        refine s_y (y_pickF rfl rfl) rfl rfl rfl ?_
        refine s_y (y_move rfl) rfl rfl rfl ?_
        refine s_y (y_move rfl) rfl rfl rfl ?_
        refine s_y (y_move rfl) rfl rfl rfl ?_
        refine s_y (y_nilP rfl) rfl rfl rfl ?_
        refine s_y (y_fieldAddrB Tryz.tab 6 rfl rfl rfl rfl rfl) rfl rfl rfl ?_
        refine s_y (y_load Tryz.tab rfl rfl f6) rfl rfl rfl ?_
        refine s_y (y_add rfl rfl (by omega)) rfl rfl rfl ?_
        refine s_y (y_move rfl) rfl rfl rfl ?_
        refine s_y (y_T (y_leq rfl rfl) (by omega)) rfl rfl rfl ?_
        refine s_y (y_pickF rfl rfl) rfl rfl rfl ?_
        refine s_nil ?_
        refine f_then ?_
        refine c_condT rfl ?_
        refine c_seq ?_
        refine c_region ?_
        refine s_y (y_assign rfl) rfl rfl rfl ?_
        refine s_nil ?_
        refine f_then ?_
        refine c_ret ?_
        refine f_thenR ?_
        exact f_ret ⟨z, hG⟩ (res1 rfl rfl) (fun w h => h)
    · rw [Tree.clip, if_neg c] at hlen ⊢
      have ihl := fun (h : L.length + (lt.clip lo hi o).length ≤ most) => visit_spec hV hlo hhi lt (v := lv) (o := o) (L := L) (z := z) hl hkl (by omega) hG h
      have ihr := fun (L' : List Rn) (z' : Z) (hG' : G L' z') (h : L'.length + (rt.clip lo hi (o + lt.pcs + n)).length ≤ most) => visit_spec hV hlo hhi rt (v := rv) (o := o + lt.pcs + n) (L := L') (z := z') hr hkr (by omega) hG' h
      obtain ⟨f0, f1, f2, f3, f4, f5, f6, f7⟩ := hF
      clear f4 f5 f7
      refine c_seq ?_
      refine c_region ?_
      refine s_y (y_assign rfl) rfl rfl rfl ?_
      refine s_nil ?_
      refine f_then ?_
      refine c_seq ?_
      refine c_seq ?_
      refine c_region ?_
      refine s_y (y_move rfl) rfl rfl rfl ?_
      refine s_y (y_eqlPN Tryz.tab rfl rfl) rfl rfl rfl ?_
      refine s_y (y_move rfl) rfl rfl rfl ?_
      refine s_y (y_move rfl) rfl rfl rfl ?_
      refine s_y (y_move rfl) rfl rfl rfl ?_
      refine s_y (y_F (y_geq rfl rfl) (by omega)) rfl rfl rfl ?_
      refine s_y (y_pickF rfl rfl) rfl rfl rfl ?_
      refine s_y (y_move rfl) rfl rfl rfl ?_
      refine s_y (y_move rfl) rfl rfl rfl ?_
      refine s_y (y_move rfl) rfl rfl rfl ?_
      refine s_y (y_nilP rfl) rfl rfl rfl ?_
      refine s_y (y_fieldAddrB Tryz.tab 6 rfl rfl rfl rfl rfl) rfl rfl rfl ?_
      refine s_y (y_load Tryz.tab rfl rfl f6) rfl rfl rfl ?_
      refine s_y (y_add rfl rfl (by omega)) rfl rfl rfl ?_
      refine s_y (y_move rfl) rfl rfl rfl ?_
      refine s_y (y_F (y_leq rfl rfl) (by omega)) rfl rfl rfl ?_
      refine s_y (y_pickF rfl rfl) rfl rfl rfl ?_
      refine s_nil ?_
      refine f_then ?_
      refine c_condF rfl ?_
      refine c_skip ?_
      refine f_then ?_
      refine c_seq ?_
      refine c_region ?_
      refine s_y (y_move rfl) rfl rfl rfl ?_
      refine s_y (y_move rfl) rfl rfl rfl ?_
      refine s_y (y_nilP rfl) rfl rfl rfl ?_
      refine s_y (y_fieldAddr0 Tryz.tab rfl rfl rfl rfl rfl) rfl rfl rfl ?_
      refine s_y (y_load Tryz.tab rfl rfl f0) rfl rfl rfl ?_
      refine s_call (en_f rfl Tryz.call73) (pieces_p hl _ K.drew (hV.pool z)) rfl rfl rfl (fun _ => ?_)
      rw [List.length_append, List.length_append] at hlen
      refine s_y (y_add rfl rfl (by omega)) rfl rfl rfl ?_
      refine s_y (y_assign rfl) rfl rfl rfl ?_
      refine s_nil ?_
      refine f_then ?_
      refine c_seq ?_
      refine c_seq ?_
      refine c_region ?_
      refine s_y (y_move rfl) rfl rfl rfl ?_
      refine s_y (y_nilP rfl) rfl rfl rfl ?_
      refine s_y (y_fieldAddr0 Tryz.tab rfl rfl rfl rfl rfl) rfl rfl rfl ?_
      refine s_y (y_load Tryz.tab rfl rfl f0) rfl rfl rfl ?_
      refine s_y (y_move rfl) rfl rfl rfl ?_
      refine s_y (y_move rfl) rfl rfl rfl ?_
      refine s_y (y_move rfl) rfl rfl rfl ?_
      refine s_y (y_move rfl) rfl rfl rfl ?_
      refine s_call (en_f rfl Tryz.call106) (ihl (by omega)) rfl rfl rfl (fun x => ?_)
      obtain ⟨z1, hG1⟩ := x
      dsimp only
      clear ihl f0 f1 f2 f3 f6
      have hF1 := hFD.cls (hV.pool z1)
      obtain ⟨f0, f1, f2, f3, f4, f5, f6, f7⟩ := hF1
      clear f4 f5 f6 f7 f0
      have em : max ((o : Int) + (lt.pcs : Int)) (lo : Int) = ((max (o + lt.pcs) lo : Nat) : Int) := by omega
      have en : min ((o : Int) + (lt.pcs : Int) + (n : Int)) (hi : Int) = ((min (o + lt.pcs + n) hi : Nat) : Int) := by omega
      have eo : (o : Int) + (lt.pcs : Int) + (n : Int) = ((o + lt.pcs + n : Nat) : Int) := by omega
      by_cases c2 : max (o + lt.pcs) lo < min (o + lt.pcs + n) hi
      · rw [if_pos c2] at hlen ⊢
        simp only [List.length_cons, List.length_nil] at hlen
        have hy := hV.yield (L ++ lt.clip lo hi o) z1 (max (o + lt.pcs) lo, min (o + lt.pcs + n) hi, k) (by rw [List.length_append]; omega) hG1 c2 (by dsimp only; omega) hkt
        refine s_y (y_notT rfl) rfl rfl rfl ?_
        refine s_nil ?_
        refine f_then ?_
        refine c_condF rfl ?_
        refine c_skip ?_
        refine f_then ?_
        refine c_seq ?_
        refine c_quiet Tryz.mixed (by kernel_rfl) K.drew ?_
        refine q_y (y_move rfl) rfl rfl rfl ?_
        refine q_y (y_move rfl) rfl rfl rfl ?_
        refine q_y (y_max rfl rfl) rfl rfl rfl ?_
        refine q_y (y_move rfl) rfl rfl rfl ?_
        refine q_y (y_move rfl) rfl rfl rfl ?_
        refine q_y (y_nilP rfl) rfl rfl rfl ?_
        refine q_y (y_fieldAddrB Tryz.tab 2 rfl rfl rfl rfl rfl) rfl rfl rfl ?_
        refine q_y (y_load Tryz.tab rfl rfl f2) rfl rfl rfl ?_
        refine q_y (y_add rfl rfl (by omega)) rfl rfl rfl ?_
        refine q_y (y_move rfl) rfl rfl rfl ?_
        refine q_y (y_min rfl rfl) rfl rfl rfl ?_
        refine q_y (y_assign rfl) rfl rfl rfl ?_
        refine q_y (y_assign rfl) rfl rfl rfl ?_
        refine q_nil ?_
        refine f_then ?_
        refine c_seq ?_
        refine c_seq ?_
        refine c_region ?_
        refine s_y (y_move rfl) rfl rfl rfl ?_
        refine s_y (y_move rfl) rfl rfl rfl ?_
        refine s_y (y_T (y_lss rfl rfl) (by omega)) rfl rfl rfl ?_
        refine s_y (y_move rfl) rfl rfl rfl ?_
        refine s_y (y_move rfl) rfl rfl rfl ?_
        refine s_y (y_move rfl) rfl rfl rfl ?_
        refine s_y (y_move rfl) rfl rfl rfl ?_
        refine s_y (y_move rfl) rfl rfl rfl ?_
        refine s_y (y_nilP rfl) rfl rfl rfl ?_
        refine s_y (y_fieldAddrB Tryz.tab 3 rfl rfl rfl rfl rfl) rfl rfl rfl ?_
        refine s_y (y_load Tryz.tab rfl rfl f3) rfl rfl rfl ?_
        refine s_y (y_build Tryz.tab rfl rfl rfl rfl rfl) rfl rfl rfl ?_
        rw [em, en]
        skip
        refine s_yield (en_y rfl rfl) hy rfl rfl rfl (fun x => ?_)
        obtain ⟨z2, hG2⟩ := x
        dsimp only
        clear f1 f2 f3
        have hF2 := hFD.cls (hV.pool z2)
        obtain ⟨f0, f1, f2, f3, f4, f5, f6, f7⟩ := hF2
        obtain ⟨g0, g1, g2, g3, g4, g5, g6, g7⟩ := hFD
        clear f4 f5 f6 f7 f0 g0 g3 g4 g5 g6 g7
        have hD := hV.pool z2
        refine s_y (y_notT rfl) rfl rfl rfl ?_
        refine s_y (y_pickT rfl rfl) rfl rfl rfl ?_
        refine s_nil ?_
        refine f_then ?_
        refine c_condF rfl ?_
        refine c_skip ?_
        refine f_then ?_
        refine c_seq ?_
        refine c_plan [.c 0, .c 1, .c 2, .c 3, .c 4, .c 5, .c 6, .c 7, .c 8, .c 9, .c 10, .c 11, .c 12, .s 13, .c 14] [] ((PoolD W p)) Tryz.mixed (by kernel_rfl) rfl K.cl ?_
        refine d_c rfl (Qui.ylds (y_move rfl)) rfl rfl rfl hD K.cl ?_
        refine d_c rfl (Qui.ylds (y_nilP rfl)) rfl rfl rfl hD K.cl ?_
        refine d_c rfl (Qui.ylds (y_fieldAddrB Tryz.tab 1 rfl rfl rfl rfl rfl)) rfl rfl rfl hD K.cl ?_
        refine d_c rfl (Qui.ylds (y_load Tryz.tab rfl rfl g1)) rfl rfl rfl hD K.cl ?_
        refine d_c rfl (Qui.ylds (y_move rfl)) rfl rfl rfl hD K.cl ?_
        refine d_c rfl (Qui.ylds (y_move rfl)) rfl rfl rfl hD K.cl ?_
        refine d_c rfl (Qui.ylds (y_nilP rfl)) rfl rfl rfl hD K.cl ?_
        refine d_c rfl (Qui.ylds (y_fieldAddrB Tryz.tab 2 rfl rfl rfl rfl rfl)) rfl rfl rfl hD K.cl ?_
        refine d_c rfl (Qui.ylds (y_load Tryz.tab rfl rfl g2)) rfl rfl rfl hD K.cl ?_
        refine d_c rfl (Qui.ylds (y_add rfl rfl (by omega))) rfl rfl rfl hD K.cl ?_
        refine d_c rfl (Qui.ylds (y_move rfl)) rfl rfl rfl hD K.cl ?_
        refine d_c rfl (Qui.ylds (y_move rfl)) rfl rfl rfl hD K.cl ?_
        refine d_c rfl (Qui.ylds (y_move rfl)) rfl rfl rfl hD K.cl ?_
        rw [eo]
        refine d_call rfl (en_f rfl Tryz.call106) (ihr _ z2 hG2 (by rw [List.length_append, List.length_append]; simp only [List.length_cons, List.length_nil]; omega)) rfl rfl rfl (fun _ => K.cl) (fun _ x w h => hV.pool x.1 w h) (fun x => ?_)
        obtain ⟨z3, hG3⟩ := x
        dsimp only
        have hD1 := hV.pool z3
        refine d_c rfl (Qui.ylds (y_assign rfl)) rfl rfl rfl hD1 K.cl ?_
        refine d_nil ?_
        refine f_then ?_
        refine c_ret ?_
        exact f_ret ⟨z3, by rw [List.append_assoc, List.append_assoc] at hG3; exact hG3⟩ (res1 rfl rfl) (fun w h => h)
      · rw [if_neg c2] at hlen ⊢
        simp only [List.length_nil] at hlen
        rw [List.nil_append]
        obtain ⟨g0, g1, g2, g3, g4, g5, g6, g7⟩ := hFD
        clear g0 g3 g4 g5 g6 g7
        have hD := hV.pool z1
        refine s_y (y_notT rfl) rfl rfl rfl ?_
        refine s_nil ?_
        refine f_then ?_
        refine c_condF rfl ?_
        refine c_skip ?_
        refine f_then ?_
        refine c_seq ?_
        refine c_quiet Tryz.mixed (by kernel_rfl) K.drew ?_
        refine q_y (y_move rfl) rfl rfl rfl ?_
        refine q_y (y_move rfl) rfl rfl rfl ?_
        refine q_y (y_max rfl rfl) rfl rfl rfl ?_
        refine q_y (y_move rfl) rfl rfl rfl ?_
        refine q_y (y_move rfl) rfl rfl rfl ?_
        refine q_y (y_nilP rfl) rfl rfl rfl ?_
        refine q_y (y_fieldAddrB Tryz.tab 2 rfl rfl rfl rfl rfl) rfl rfl rfl ?_
        refine q_y (y_load Tryz.tab rfl rfl f2) rfl rfl rfl ?_
        refine q_y (y_add rfl rfl (by omega)) rfl rfl rfl ?_
        refine q_y (y_move rfl) rfl rfl rfl ?_
        refine q_y (y_min rfl rfl) rfl rfl rfl ?_
        refine q_y (y_assign rfl) rfl rfl rfl ?_
        refine q_y (y_assign rfl) rfl rfl rfl ?_
        refine q_nil ?_
        refine f_then ?_
        refine c_seq ?_
        refine c_seq ?_
        refine c_region ?_
        refine s_y (y_move rfl) rfl rfl rfl ?_
        refine s_y (y_move rfl) rfl rfl rfl ?_
        refine s_y (y_F (y_lss rfl rfl) (by omega)) rfl rfl rfl ?_
        refine s_y (y_move rfl) rfl rfl rfl ?_
        iterate 10 refine s_skip rfl rfl rfl ?_
        refine s_y (y_pickF rfl rfl) rfl rfl rfl ?_
        refine s_nil ?_
        refine f_then ?_
        refine c_condF rfl ?_
        refine c_skip ?_
        refine f_then ?_
        refine c_seq ?_
        refine c_plan [.c 0, .c 1, .c 2, .c 3, .c 4, .c 5, .c 6, .c 7, .c 8, .c 9, .c 10, .c 11, .c 12, .s 13, .c 14] [] ((PoolD W p)) Tryz.mixed (by kernel_rfl) rfl K.cl ?_
        refine d_c rfl (Qui.ylds (y_move rfl)) rfl rfl rfl hD K.cl ?_
        refine d_c rfl (Qui.ylds (y_nilP rfl)) rfl rfl rfl hD K.cl ?_
        refine d_c rfl (Qui.ylds (y_fieldAddrB Tryz.tab 1 rfl rfl rfl rfl rfl)) rfl rfl rfl hD K.cl ?_
        refine d_c rfl (Qui.ylds (y_load Tryz.tab rfl rfl g1)) rfl rfl rfl hD K.cl ?_
        refine d_c rfl (Qui.ylds (y_move rfl)) rfl rfl rfl hD K.cl ?_
        refine d_c rfl (Qui.ylds (y_move rfl)) rfl rfl rfl hD K.cl ?_
        refine d_c rfl (Qui.ylds (y_nilP rfl)) rfl rfl rfl hD K.cl ?_
        refine d_c rfl (Qui.ylds (y_fieldAddrB Tryz.tab 2 rfl rfl rfl rfl rfl)) rfl rfl rfl hD K.cl ?_
        refine d_c rfl (Qui.ylds (y_load Tryz.tab rfl rfl g2)) rfl rfl rfl hD K.cl ?_
        refine d_c rfl (Qui.ylds (y_add rfl rfl (by omega))) rfl rfl rfl hD K.cl ?_
        refine d_c rfl (Qui.ylds (y_move rfl)) rfl rfl rfl hD K.cl ?_
        refine d_c rfl (Qui.ylds (y_move rfl)) rfl rfl rfl hD K.cl ?_
        refine d_c rfl (Qui.ylds (y_move rfl)) rfl rfl rfl hD K.cl ?_
        rw [eo]
        refine d_call rfl (en_f rfl Tryz.call106) (ihr _ z1 hG1 (by rw [List.length_append]; omega)) rfl rfl rfl (fun _ => K.cl) (fun _ x w h => hV.pool x.1 w h) (fun x => ?_)
        obtain ⟨z3, hG3⟩ := x
        dsimp only
        have hD1 := hV.pool z3
        refine d_c rfl (Qui.ylds (y_assign rfl)) rfl rfl rfl hD1 K.cl ?_
        refine d_nil ?_
        refine f_then ?_
        refine c_ret ?_
        exact f_ret ⟨z3, by rw [List.append_assoc] at hG3; exact hG3⟩ (res1 rfl rfl) (fun w h => h)
end Go.KL
end

section
/- Walks: within, its closure, Runs. -/
namespace Go.KL
open Go.Proofs
/-- Runs as cells. -/
def rvals (L : List Rn) : List Value := L.flatMap fun r => [.int .i64 (r.1 : Nat), .int .i64 (r.2.1 : Nat), .int .i64 (r.2.2 : Nat)]
theorem rvals_snoc (L : List Rn) (r : Rn) : rvals (L ++ [r]) = rvals L ++ [.int .i64 (r.1 : Nat), .int .i64 (r.2.1 : Nat), .int .i64 (r.2.2 : Nat)] := by simp [rvals]
attribute [local irreducible] SC St Fin Sq Ylds Doos Sets Enters Spec CellIs CellsAre Then Ret Rnd Chn resOK ints bools recs arr
set_option maxRecDepth 10000 in
theorem within_spec {W : World} {N : List Chunk} {q : Option Addr} {lo hi : Nat} : Spec Tryz.prog 90 #[.pointer q, .int .i64 (lo : Nat), .int .i64 (hi : Nat)] (K W N) (X := Nat × Nat × Nat) (fun x => .func (.func 105) #[] #[.pointer (some ⟨x.1, 0, none⟩), .pointer (some ⟨x.2.1, 0, none⟩), .pointer (some ⟨x.2.2, 0, none⟩)])
    (fun x => K W ([(x.2.2, row 3 [.int .i64 (hi : Nat)])] :: [(x.2.1, row 3 [.int .i64 (lo : Nat)])] :: [(x.1, row 27 [.pointer q])] :: N)) := by
  refine enter (args := [_, _, _]) Tryz.func90 rfl Tryz.ntmps90 rfl ?_
  refine c_seq ?_
  refine c_region ?_
  refine s_do (do_box rfl) rfl rfl rfl (fun b3 => ?_)
  refine s_do (do_box rfl) rfl rfl rfl (fun b4 => ?_)
  refine s_do (do_box rfl) rfl rfl rfl (fun b5 => ?_)
  refine s_y (y_assign rfl) rfl rfl rfl ?_
  refine s_nil ?_
  refine f_then ?_
  refine c_seq ?_
  refine c_region ?_
  refine s_y (y_makeFunc rfl rfl) rfl rfl rfl ?_
  refine s_y (y_assign rfl) rfl rfl rfl ?_
  refine s_nil ?_
  refine f_then ?_
  refine c_ret ?_
  exact f_ret (b3, b4, b5) (res1 rfl rfl) (fun w h => h)
set_option maxRecDepth 10000 in
theorem within1_spec {W : World} {p : Chunk} {l most lo hi : Nat} {Z : Type} {Bx : Z → List Chunk} {G : List Rn → Z → Prop} (hV : Vis W p l most Z Bx G) (hlo : lo ≤ 1152921504606846976) (hhi : hi ≤ 1152921504606846976)
    {t : Tree} {v : Value} {z : Z} {b3 b4 b5 : Nat} (ht : Tr p v t) (hk : LOk t.toL) (hG : G [] z) (hlen : (t.clip lo hi 0).length ≤ most)
    (h3 : CellIs (K W (Bx z)) ⟨b3, 0, none⟩ v) (h4 : CellIs (K W (Bx z)) ⟨b4, 0, none⟩ (.int .i64 (lo : Nat))) (h5 : CellIs (K W (Bx z)) ⟨b5, 0, none⟩ (.int .i64 (hi : Nat))) :
    Spec Tryz.prog 105 #[.func (.yield l) #[] #[], .pointer (some ⟨b3, 0, none⟩), .pointer (some ⟨b4, 0, none⟩), .pointer (some ⟨b5, 0, none⟩)] (K W (Bx z)) (X := { z' : Z // G (t.clip lo hi 0) z' }) (fun _ => .tuple #[]) (fun z' => K W (Bx z'.1)) := by
  have hpb : t.pcs ≤ 1152921504606846976 := by rw [Tree.pcs_toL]; exact hk.sz
  have hv := visit_spec hV hlo hhi t (v := v) (o := 0) (L := []) (z := z) ht hk (by omega) hG (by simpa using hlen)
  obtain ⟨q, rfl⟩ := ht.ptr
  refine enter (args := [_, _, _, _]) Tryz.func105 rfl Tryz.ntmps105 rfl ?_
  refine c_region ?_
  refine s_y (y_load Tryz.tab rfl rfl h3) rfl rfl rfl ?_
  refine s_y (y_load Tryz.tab rfl rfl h4) rfl rfl rfl ?_
  refine s_y (y_load Tryz.tab rfl rfl h5) rfl rfl rfl ?_
  refine s_y (y_move rfl) rfl rfl rfl ?_
  refine s_call (en_f rfl Tryz.call106) hv rfl rfl rfl (fun x => ?_)
  refine s_nil ?_
  exact f_end ⟨x.1, x.2⟩ (res0 rfl) (fun w h => h)
set_option maxRecDepth 10000 in
set_option maxHeartbeats 8000000 in
theorem runs_spec {W : World} {p : Chunk} {R : List Chunk} {v : Value} {t : Tree} {lo hi most : Nat} (ht : Tr p v t) (hM : MOk t) (h1 : lo ≤ hi) (h2 : hi ≤ t.pcs) (h3 : t.runs ≤ most) (h4 : t.runs ≤ 4096) : Spec Tryz.prog 60 #[.agg #[v], .int .i64 (lo : Nat), .int .i64 (hi : Nat), .int .i64 (most : Nat)] (K W (p :: R))
    (X := { x : Value × Chunk // Buf 26 3 x.1 x.2 (t.clip lo hi 0).length (rvals (t.clip lo hi 0)) }) (fun x => .tuple #[x.1.1, .int .i64 0]) (fun x => K W (x.1.2 :: p :: R)) := by
  have hsz := hM.sz
  have hcl := Tree.clip_len (lo := lo) (hi := hi) t 0
  obtain ⟨q, rfl⟩ := ht.neC hM.ne
  refine enter (args := [_, _, _, _]) Tryz.func60 rfl Tryz.ntmps60 rfl ?_
  refine c_seq ?_
  refine c_region ?_
  refine s_do (do_box rfl) rfl rfl rfl (fun b4 => ?_)
  refine s_do (do_box rfl) rfl rfl rfl (fun b7 => ?_)
  refine s_y (y_assign rfl) rfl rfl rfl ?_
  refine s_y (y_assign rfl) rfl rfl rfl ?_
  refine s_nil ?_
  refine f_then ?_
  refine c_seq ?_
  refine c_seq ?_
  refine c_region ?_
  refine s_y (y_loadA Tryz.tab rfl rfl rfl rfl (cells_row0 1 rfl rfl)) rfl rfl rfl ?_
  refine s_y (y_move rfl) rfl rfl rfl ?_
  refine s_y (y_move rfl) rfl rfl rfl ?_
  refine St.cls (C' := K W (p :: [(b7, row 3 [.int .i64 (most : Nat)])] :: [(b4, row 29 [.pointer (some q)])] :: R)) ?_ (fun w h => K.rot3 h)
  refine s_call (en_f rfl Tryz.call89) (ranges_spec ht hM.ne h1 h2) rfl rfl rfl (fun _ => ?_)
  refine s_y (y_assign rfl) rfl rfl rfl ?_
  refine s_nil ?_
  refine f_then ?_
  refine c_seq ?_
  refine c_region ?_
  refine s_y (y_move rfl) rfl rfl rfl ?_
  refine s_y (y_F (y_neq rfl rfl) (by omega)) rfl rfl rfl ?_
  refine s_nil ?_
  refine f_then ?_
  refine c_condF rfl ?_
  refine c_skip ?_
  refine f_then ?_
  refine c_seq ?_
  refine c_region ?_
  refine s_do (do_alloc Tryz.tab rfl) rfl rfl rfl (fun b11 => ?_)
  refine s_nil ?_
  refine f_then ?_
  refine c_seq ?_
  refine c_seq ?_
  refine c_region ?_
  refine s_y (y_fieldAddr0 Tryz.tab rfl rfl rfl rfl rfl) rfl rfl rfl ?_
  refine s_y (y_load Tryz.tab rfl rfl (cell_row 3 rfl rfl)) rfl rfl rfl ?_
  refine s_y (y_move rfl) rfl rfl rfl ?_
  refine s_y (y_move rfl) rfl rfl rfl ?_
  refine s_call (en_f rfl Tryz.call90) within_spec rfl rfl rfl (fun x => ?_)
  obtain ⟨c3, c4, c5⟩ := x
  dsimp only
  refine s_nil ?_
  refine f_then ?_
  refine c_block ?_
  refine SC.cls (C' := K W ([(c5, row 3 [.int .i64 (hi : Nat)])] :: [(c4, row 3 [.int .i64 (lo : Nat)])] :: [(c3, row 27 [.pointer (some q)])] :: [(b11, row 24 [.slice none 0 0])] :: [] :: p :: [(b7, row 3 [.int .i64 (most : Nat)])] :: [(b4, row 29 [.pointer (some q)])] :: R)) ?_ (fun w h => h.weak [] (by simp [Value.cells]))
  refine c_rangeF (X := { x : Value × Chunk // Buf 26 3 x.1 x.2 (t.clip lo hi 0).length (rvals (t.clip lo hi 0)) }) (fun _ => .tuple #[]) (fun _ => none) (fun x => [(c5, row 3 [.int .i64 (hi : Nat)])] :: [(c4, row 3 [.int .i64 (lo : Nat)])] :: [(c3, row 27 [.pointer (some q)])] :: [(b11, row 24 [x.1.1])] :: x.1.2 :: p :: [(b7, row 3 [.int .i64 (most : Nat)])] :: [(b4, row 29 [.pointer (some q)])] :: R) (by rw [r_inB, r_then, r_ret]) rfl Tryz.call105 (fun k l D hps has hbd hE => ?_) (fun x D hj => ?_) (fun x D cc hj => ?_)
  · have hV : Vis W p l t.runs (Value × Chunk) (fun z => [(l, k.rdy)] :: [(D, dfO)] :: [(c5, row 3 [.int .i64 (hi : Nat)])] :: [(c4, row 3 [.int .i64 (lo : Nat)])] :: [(c3, row 27 [.pointer (some q)])] :: [(b11, row 24 [z.1])] :: z.2 :: p :: [(b7, row 3 [.int .i64 (most : Nat)])] :: [(b4, row 29 [.pointer (some q)])] :: R) (fun L z => Buf 26 3 z.1 z.2 L.length (rvals L)) := by
      refine ⟨fun z w hw => ⟨_, hw.front 7⟩, fun L z r hL hG hr1 hr2 hr3 => ?_⟩
      obtain ⟨u, c⟩ := z
      dsimp only at hG
      refine yspec 0 hE hps rfl rfl rfl ?_
      rw [has, hbd]
      refine c_region ?_
      refine s_do (do_alloc Tryz.tab rfl) rfl rfl rfl (fun b12 => ?_)
      refine s_set (set_box Tryz.tab 0 rfl rfl rfl rfl rfl rfl rfl) rfl rfl ?_
      refine s_nil ?_
      refine f_beg 1 rfl ?_
      refine c_block ?_
      refine c_seq ?_
      refine c_seq ?_
      refine c_region ?_
      refine s_y (y_load Tryz.tab rfl rfl (cell_row 6 rfl rfl)) rfl rfl rfl ?_
      refine s_y (y_lenBuf Tryz.tab rfl (by assumption) rfl) rfl rfl rfl ?_
      refine s_y (y_load Tryz.tab rfl rfl (cell_row 9 rfl rfl)) rfl rfl rfl ?_
      refine s_y (y_F (y_geq rfl rfl) (by omega)) rfl rfl rfl ?_
      refine s_nil ?_
      refine f_then ?_
      refine c_condF rfl ?_
      refine c_skip ?_
      refine f_then ?_
      refine c_region ?_
      refine s_y (y_load Tryz.tab rfl rfl (cell_row 6 rfl rfl)) rfl rfl rfl ?_
      refine s_y (y_loadA Tryz.tab rfl rfl rfl rfl (cells_row0 0 rfl rfl)) rfl rfl rfl ?_
      refine s_do (do_buildSliceS Tryz.tab ⟨rfl, rfl, rfl, rfl⟩ rfl rfl rfl rfl) rfl rfl rfl (fun b32 => ?_)
      refine s_do (do_appendB (k := 1) (by_ := 24) Tryz.tab 8 rfl hG rfl ⟨rfl, rfl, rfl, rfl⟩ rfl (by simp) rfl (by omega) (cells_row0 0 rfl rfl) rfl (by simp [allCells, cellsL, Value.oneCell']) (by unfold maxLen; omega) (by omega)) rfl rfl rfl (fun x => ?_)
      obtain ⟨⟨u', c'⟩, hu⟩ := x
      dsimp only at hu ⊢
      have ho := hu.one
      refine s_set (set_box1 Tryz.tab 7 rfl rfl ho rfl rfl) rfl rfl ?_
      refine s_nil ?_
      refine f_blockN ?_
      exact f_rpN 2 ⟨(u', c'), by rw [rvals_snoc, List.length_append]; exact hu⟩ rfl rfl (fun w h => h.tail.tail)
    exact (within1_spec hV (by omega) (by omega) ht hM.lok (z := (.slice none 0 0, [])) .nil hcl (cell_row 4 rfl rfl) (cell_row 3 rfl rfl) (cell_row 2 rfl rfl)).conv (fun z => ⟨z.1, z.2⟩) (fun _ => rfl) (fun _ _ h => h)
  · obtain ⟨⟨u, c⟩, hu⟩ := x
    dsimp only at hu ⊢
    refine f_blockN ?_
    refine f_then ?_
    refine c_seq ?_
    refine c_region ?_
    refine s_y (y_load Tryz.tab rfl rfl (cell_row 4 rfl rfl)) rfl rfl rfl ?_
    refine s_y (y_assign rfl) rfl rfl rfl ?_
    refine s_y (y_assign rfl) rfl rfl rfl ?_
    refine s_nil ?_
    refine f_then ?_
    refine c_ret ?_
    exact f_retM (v := fun x : { x : Value × Chunk // Buf 26 3 x.1 x.2 (t.clip lo hi 0).length (rvals (t.clip lo hi 0)) } => .tuple #[x.1.1, .int .i64 0]) (C' := fun x => K W (x.1.2 :: p :: R)) ⟨(u, c), hu⟩ [D] (res2 rfl rfl rfl) rfl (fun w h => (h.tail.tail.tail.tail.dropAt 2).dropAt 2) rfl
  · cases hj
end Go.KL
end

section
/- Maps as functions from pieces to tags. -/
namespace Go.KL
open Go.Proofs
/-- A map of a size, with these tags. -/
def MV (p : Chunk) (v : Value) (n : Nat) (f : Nat → Nat) : Prop := ∃ t, Tr p v t ∧ MOk t ∧ Can t.toL ∧ t.pcs = n ∧ tagL t.toL = f
theorem MV.sub {p q : Chunk} {v : Value} {n : Nat} {f : Nat → Nat} (h : MV p v n f) (hS : Sub p q) : MV q v n f := by
  obtain ⟨t, h1, h2⟩ := h
  exact ⟨t, h1.sub hS, h2⟩
theorem MV.ptr {p : Chunk} {v : Value} {n : Nat} {f : Nat → Nat} (h : MV p v n f) : ∃ a, v = .pointer (some a) := by
  obtain ⟨t, h1, h2, _⟩ := h
  exact h1.neC h2.ne
theorem MV.pos {p : Chunk} {v : Value} {n : Nat} {f : Nat → Nat} (h : MV p v n f) : 0 < n ∧ n ≤ 1099511627776 := by
  obtain ⟨t, h1, h2, h3, rfl, _⟩ := h
  refine ⟨?_, h2.sz⟩
  cases t with
  | nil => exact absurd rfl h2.ne
  | node l n k r =>
    have := h2.pos
    rw [Tree.toL, PosL.app, PosL.cons] at this
    have := this.2.1
    simp only [Tree.pcs] at *
    omega
theorem MV.tag {p : Chunk} {v : Value} {n : Nat} {f : Nat → Nat} (h : MV p v n f) (i : Nat) : f i < 16 := by
  obtain ⟨t, h1, h2, h3, _, rfl⟩ := h
  have key : ∀ {L : List (Nat × Nat)} {i : Nat}, (∀ x ∈ L, x.2 < 16) → tagL L i < 16 := by
    intro L
    induction L with
    | nil => intro i _; simp [tagL]
    | cons x L ih =>
      intro i h
      rw [tagL]
      split
      · exact h x List.mem_cons_self
      · exact ih fun y hy => h y (List.mem_cons_of_mem _ hy)
  exact key h2.tags
theorem MV.out {p : Chunk} {v : Value} {n : Nat} {f : Nat → Nat} (h : MV p v n f) {i : Nat} (hi : n ≤ i) : f i = 0 := by
  obtain ⟨t, h1, h2, h3, rfl, rfl⟩ := h
  exact tagL_out (by rw [← Tree.pcs_toL]; exact hi)
theorem setT_tag {t : Tree} {lo hi tag : Nat} (hF : SetF t lo hi tag) (h1 : lo ≤ hi) (h2 : hi ≤ t.pcs) : tagL (setT t lo hi tag).toL = setf (tagL t.toL) lo hi tag := by
  rw [Tree.pcs_toL] at h2
  funext i
  rw [hF.l, tagL_cat, tagL_cat, szL_cat, szL_take (by omega), tagL_drop, tagL_drop, setf]
  have e : szL (if hi - lo = 0 then [] else [(hi - lo, tag)]) = hi - lo := by split <;> simp only [szL] <;> omega
  rw [e]
  by_cases c1 : i < lo
  · rw [if_pos (show i < lo + (hi - lo) by omega), if_pos c1, if_neg (show ¬ (lo ≤ i ∧ i < hi) by omega), tagL_take c1]
  · by_cases c2 : i < hi
    · rw [if_pos (show i < lo + (hi - lo) by omega), if_neg c1, if_pos (show lo ≤ i ∧ i < hi by omega), if_neg (show ¬ hi - lo = 0 by omega)]
      show (if i - lo < hi - lo then tag else _) = tag
      rw [if_pos (by omega)]
    · rw [if_neg (show ¬ i < lo + (hi - lo) by omega), if_neg (show ¬ (lo ≤ i ∧ i < hi) by omega)]
      congr 1
      omega
theorem setT_can {t : Tree} {lo hi tag : Nat} (hF : SetF t lo hi tag) (hc : Can t.toL) : Can (setT t lo hi tag).toL := by
  rw [hF.l]
  refine Can.cat (Can.cat hc.take ?_) hc.drop.drop
  split
  · trivial
  · exact ⟨by dsimp only; omega, by simp, trivial⟩
section
variable {W : World} {p : Chunk} {R : List Chunk} {v : Value} {n : Nat} {f : Nat → Nat} {lo hi tag : Nat}
/-- A map that a call returns. -/
def MX (p : Chunk) (n : Nat) (f : Nat → Nat) := { x : Chunk × Value // Sub p x.1 ∧ MV x.1 x.2 n f }
theorem msize_spec (h : MV p v n f) : Spec Tryz.prog 36 #[.agg #[v]] (K W (p :: R)) (fun _ : Unit => .int .i64 (n : Nat)) (fun _ => K W (p :: R)) := by
  obtain ⟨t, h1, h2, h3, rfl, rfl⟩ := h
  exact size_spec h1
theorem mlen_spec (h : MV p v n f) : Spec Tryz.prog 37 #[.agg #[v]] (K W (p :: R)) (fun _ : Unit => .int .i64 (nbd f n : Nat)) (fun _ => K W (p :: R)) := by
  obtain ⟨t, h1, h2, h3, rfl, rfl⟩ := h
  rw [← Tree.runs_rns h3]
  exact len_spec h1
theorem mset_spec (h : MV p v n f) (h1 : lo ≤ hi) (h2 : hi ≤ n) (h3 : tag < 16) (h4 : nbd (setf f lo hi tag) n ≤ 4096) : Spec Tryz.prog 65 #[.agg #[v], .int .i64 (lo : Nat), .int .i64 (hi : Nat), .int .i64 (tag : Nat)] (K W (p :: R)) (X := MX p n (setf f lo hi tag)) (fun x => .tuple #[.agg #[x.1.2], .int .i64 0]) (fun x => K W (x.1.1 :: R)) := by
  obtain ⟨t, ht, hM, hc, rfl, rfl⟩ := h
  have hF := setF hM h1 h2 h3
  have e := setT_tag hF h1 h2
  have hc' := setT_can hF hc
  have hr : (setT t lo hi tag).runs ≤ 4096 := by rw [Tree.runs_rns hc', e, hF.sz]; exact h4
  exact (set_spec ht hM h1 h2 h3).map (Y := MX p t.pcs (setf (tagL t.toL) lo hi tag)) (fun x => ⟨x.1, x.2.1, _, x.2.2, hF.ok, hc', hF.sz, e⟩) (fun x => by rw [if_pos hr]) (fun _ _ h => h)
theorem mcount_spec (h : MV p v n f) (h1 : lo ≤ hi) (h2 : hi ≤ n) (h3 : tag < 16) : Spec Tryz.prog 121 #[.agg #[v], .int .i64 (lo : Nat), .int .i64 (hi : Nat), .int .i64 (tag : Nat)] (K W (p :: R))
    (fun _ : Unit => .tuple #[.int .i64 ((cntf f tag hi : Nat) - (cntf f tag lo : Nat) : Int), .int .i64 0]) (fun _ => K W (p :: R)) := by
  obtain ⟨t, ht, hM, hc, rfl, rfl⟩ := h
  rw [← Tree.bef_cntf hc h2, ← Tree.bef_cntf hc (Nat.le_trans h1 h2)]
  exact count_spec ht hM h1 h2 h3
theorem mruns_spec {most : Nat} (h : MV p v n f) (h1 : lo ≤ hi) (h2 : hi ≤ n) (h3 : nbd f n ≤ most) (h4 : nbd f n ≤ 4096) : Spec Tryz.prog 60 #[.agg #[v], .int .i64 (lo : Nat), .int .i64 (hi : Nat), .int .i64 (most : Nat)] (K W (p :: R))
    (X := { x : Value × Chunk // Buf 26 3 x.1 x.2 (rns f lo hi).length (rvals (rns f lo hi)) }) (fun x => .tuple #[x.1.1, .int .i64 0]) (fun x => K W (x.1.2 :: p :: R)) := by
  obtain ⟨t, ht, hM, hc, rfl, rfl⟩ := h
  rw [← Tree.runs_rns hc] at h3 h4
  rw [← Tree.clip_rns hc h1 h2]
  exact runs_spec ht hM h1 h2 h3 h4
theorem mnew_spec (h1 : 1 ≤ n) (h2 : n ≤ 1099511627776) : Spec Tryz.prog 25 #[.int .i64 (n : Nat)] (K W (p :: R)) (X := MX p n (fun _ => 0)) (fun x => .tuple #[.agg #[x.1.2], .int .i64 0]) (fun x => K W (x.1.1 :: R)) := by
  have hl : (Tree.leaf n 0).toL = [(n, 0)] := by rw [Tree.leaf_toL, if_neg (by omega)]
  have hp : (Tree.leaf n 0).pcs = n := by rw [Tree.pcs_toL, hl]; simp [szL]
  refine (new_spec h1 h2).map (Y := MX p n (fun _ => 0)) (fun x => ⟨x.1, x.2.1, _, x.2.2, ⟨?_, Tree.leaf_bal n 0, ?_, ?_, by omega⟩, ?_, hp, ?_⟩) (fun x => rfl) (fun _ _ h => h)
  · intro e
    rw [e] at hp
    simp only [Tree.pcs] at hp
    omega
  · rw [hl]; exact PosL.cons.2 ⟨by dsimp only; omega, fun x hx => by simp at hx⟩
  · rw [hl]; intro x hx; rw [List.mem_singleton.1 hx]; exact Nat.succ_pos 15
  · rw [hl]; exact ⟨by dsimp only; omega, by simp, trivial⟩
  · rw [hl]; funext i; simp [tagL]
end
end Go.KL
end

section
/- Walks: conflict, its closure, ContainsFunc. -/
namespace Go.KL
open Go.Proofs
attribute [local irreducible] SC St Fin Sq Ylds Doos Sets Enters Spec CellIs CellsAre Then Ret Rnd Chn resOK ints bools recs arr
set_option maxRecDepth 10000 in
theorem cf_spec' {W : World} {Ls : List Chunk} {a1 a2 a3 q1 q2 q3 : Nat} {a4 q4 : Bool} : Spec Tryz.prog 133 #[.agg #[.int .i64 (a1 : Nat), .int .i64 (a2 : Nat), .int .i64 (a3 : Nat), .bool a4], .agg #[.int .i64 (q1 : Nat), .int .i64 (q2 : Nat), .int .i64 (q3 : Nat), .bool q4]] (K W Ls)
    (fun _ : Unit => .bool (decide (a1 ≠ q1) && ((a4 || q4) && decide (max a2 q2 < min a3 q3)))) (fun _ => K W Ls) := by
  refine enter (args := [_, _]) Tryz.func133 rfl Tryz.ntmps133 rfl ?_
  by_cases h1 : a1 = q1
  · simp only [h1, ne_eq, not_true_eq_false, decide_false, Bool.false_and]
    refine c_seq ?_
    refine c_region ?_
    refine s_do (do_box rfl) rfl rfl rfl (fun b2 => ?_)
    refine s_do (do_box rfl) rfl rfl rfl (fun b3 => ?_)
    refine s_y (y_assign rfl) rfl rfl rfl ?_
    refine s_nil ?_
    refine f_then ?_
    refine c_seq ?_
    refine c_region ?_
    refine s_y (y_fieldAddr0 Tryz.tab rfl rfl rfl rfl rfl) rfl rfl rfl ?_
    refine s_y (y_load Tryz.tab rfl rfl (cell_row 1 rfl rfl)) rfl rfl rfl ?_
    refine s_y (y_fieldAddr0 Tryz.tab rfl rfl rfl rfl rfl) rfl rfl rfl ?_
    refine s_y (y_load Tryz.tab rfl rfl (cell_row 0 rfl rfl)) rfl rfl rfl ?_
    refine s_y (y_F (y_neq rfl rfl) (by omega)) rfl rfl rfl ?_
    refine s_y (y_move rfl) rfl rfl rfl ?_
    iterate 6 refine s_skip rfl rfl rfl ?_
    refine s_y (y_pickF rfl rfl) rfl rfl rfl ?_
    refine s_y (y_move rfl) rfl rfl rfl ?_
    iterate 11 refine s_skip rfl rfl rfl ?_
    refine s_y (y_pickF rfl rfl) rfl rfl rfl ?_
    refine s_y (y_assign rfl) rfl rfl rfl ?_
    refine s_nil ?_
    refine f_then ?_
    refine c_ret ?_
    exact f_ret () (res1 rfl rfl) (fun w h => h.tail.tail)
  · simp only [h1, ne_eq, not_false_eq_true, decide_true, Bool.true_and]
    by_cases h2 : max a2 q2 < min a3 q3
    · simp only [h2, decide_true, Bool.and_true]
      cases a4
      · cases q4
        · refine c_seq ?_
          refine c_region ?_
          refine s_do (do_box rfl) rfl rfl rfl (fun b2 => ?_)
          refine s_do (do_box rfl) rfl rfl rfl (fun b3 => ?_)
          refine s_y (y_assign rfl) rfl rfl rfl ?_
          refine s_nil ?_
          refine f_then ?_
          refine c_seq ?_
          refine c_region ?_
          refine s_y (y_fieldAddr0 Tryz.tab rfl rfl rfl rfl rfl) rfl rfl rfl ?_
          refine s_y (y_load Tryz.tab rfl rfl (cell_row 1 rfl rfl)) rfl rfl rfl ?_
          refine s_y (y_fieldAddr0 Tryz.tab rfl rfl rfl rfl rfl) rfl rfl rfl ?_
          refine s_y (y_load Tryz.tab rfl rfl (cell_row 0 rfl rfl)) rfl rfl rfl ?_
          refine s_y (y_T (y_neq rfl rfl) (by omega)) rfl rfl rfl ?_
          refine s_y (y_move rfl) rfl rfl rfl ?_
          refine s_y (y_fieldAddrB Tryz.tab 3 rfl rfl rfl rfl rfl) rfl rfl rfl ?_
          refine s_y (y_load Tryz.tab rfl rfl (cell_row 1 rfl rfl)) rfl rfl rfl ?_
          refine s_y (y_move rfl) rfl rfl rfl ?_
          refine s_y (y_fieldAddrB Tryz.tab 3 rfl rfl rfl rfl rfl) rfl rfl rfl ?_
          refine s_y (y_load Tryz.tab rfl rfl (cell_row 0 rfl rfl)) rfl rfl rfl ?_
          refine s_y (y_pickF rfl rfl) rfl rfl rfl ?_
          refine s_y (y_pickT rfl rfl) rfl rfl rfl ?_
          refine s_y (y_move rfl) rfl rfl rfl ?_
          iterate 11 refine s_skip rfl rfl rfl ?_
          refine s_y (y_pickF rfl rfl) rfl rfl rfl ?_
          refine s_y (y_assign rfl) rfl rfl rfl ?_
          refine s_nil ?_
          refine f_then ?_
          refine c_ret ?_
          exact f_ret () (res1 rfl rfl) (fun w h => h.tail.tail)
        · refine c_seq ?_
          refine c_region ?_
          refine s_do (do_box rfl) rfl rfl rfl (fun b2 => ?_)
          refine s_do (do_box rfl) rfl rfl rfl (fun b3 => ?_)
          refine s_y (y_assign rfl) rfl rfl rfl ?_
          refine s_nil ?_
          refine f_then ?_
          refine c_seq ?_
          refine c_region ?_
          refine s_y (y_fieldAddr0 Tryz.tab rfl rfl rfl rfl rfl) rfl rfl rfl ?_
          refine s_y (y_load Tryz.tab rfl rfl (cell_row 1 rfl rfl)) rfl rfl rfl ?_
          refine s_y (y_fieldAddr0 Tryz.tab rfl rfl rfl rfl rfl) rfl rfl rfl ?_
          refine s_y (y_load Tryz.tab rfl rfl (cell_row 0 rfl rfl)) rfl rfl rfl ?_
          refine s_y (y_T (y_neq rfl rfl) (by omega)) rfl rfl rfl ?_
          refine s_y (y_move rfl) rfl rfl rfl ?_
          refine s_y (y_fieldAddrB Tryz.tab 3 rfl rfl rfl rfl rfl) rfl rfl rfl ?_
          refine s_y (y_load Tryz.tab rfl rfl (cell_row 1 rfl rfl)) rfl rfl rfl ?_
          refine s_y (y_move rfl) rfl rfl rfl ?_
          refine s_y (y_fieldAddrB Tryz.tab 3 rfl rfl rfl rfl rfl) rfl rfl rfl ?_
          refine s_y (y_load Tryz.tab rfl rfl (cell_row 0 rfl rfl)) rfl rfl rfl ?_
          refine s_y (y_pickF rfl rfl) rfl rfl rfl ?_
          refine s_y (y_pickT rfl rfl) rfl rfl rfl ?_
          refine s_y (y_move rfl) rfl rfl rfl ?_
          refine s_y (y_fieldAddrB Tryz.tab 1 rfl rfl rfl rfl rfl) rfl rfl rfl ?_
          refine s_y (y_load Tryz.tab rfl rfl (cell_row 1 rfl rfl)) rfl rfl rfl ?_
          refine s_y (y_fieldAddrB Tryz.tab 1 rfl rfl rfl rfl rfl) rfl rfl rfl ?_
          refine s_y (y_load Tryz.tab rfl rfl (cell_row 0 rfl rfl)) rfl rfl rfl ?_
          refine s_y (y_max rfl rfl) rfl rfl rfl ?_
          refine s_y (y_fieldAddrB Tryz.tab 2 rfl rfl rfl rfl rfl) rfl rfl rfl ?_
          refine s_y (y_load Tryz.tab rfl rfl (cell_row 1 rfl rfl)) rfl rfl rfl ?_
          refine s_y (y_fieldAddrB Tryz.tab 2 rfl rfl rfl rfl rfl) rfl rfl rfl ?_
          refine s_y (y_load Tryz.tab rfl rfl (cell_row 0 rfl rfl)) rfl rfl rfl ?_
          refine s_y (y_min rfl rfl) rfl rfl rfl ?_
          refine s_y (y_T (y_lss rfl rfl) (by omega)) rfl rfl rfl ?_
          refine s_y (y_pickT rfl rfl) rfl rfl rfl ?_
          refine s_y (y_assign rfl) rfl rfl rfl ?_
          refine s_nil ?_
          refine f_then ?_
          refine c_ret ?_
          exact f_ret () (res1 rfl rfl) (fun w h => h.tail.tail)
      · refine c_seq ?_
        refine c_region ?_
        refine s_do (do_box rfl) rfl rfl rfl (fun b2 => ?_)
        refine s_do (do_box rfl) rfl rfl rfl (fun b3 => ?_)
        refine s_y (y_assign rfl) rfl rfl rfl ?_
        refine s_nil ?_
        refine f_then ?_
        refine c_seq ?_
        refine c_region ?_
        refine s_y (y_fieldAddr0 Tryz.tab rfl rfl rfl rfl rfl) rfl rfl rfl ?_
        refine s_y (y_load Tryz.tab rfl rfl (cell_row 1 rfl rfl)) rfl rfl rfl ?_
        refine s_y (y_fieldAddr0 Tryz.tab rfl rfl rfl rfl rfl) rfl rfl rfl ?_
        refine s_y (y_load Tryz.tab rfl rfl (cell_row 0 rfl rfl)) rfl rfl rfl ?_
        refine s_y (y_T (y_neq rfl rfl) (by omega)) rfl rfl rfl ?_
        refine s_y (y_move rfl) rfl rfl rfl ?_
        refine s_y (y_fieldAddrB Tryz.tab 3 rfl rfl rfl rfl rfl) rfl rfl rfl ?_
        refine s_y (y_load Tryz.tab rfl rfl (cell_row 1 rfl rfl)) rfl rfl rfl ?_
        refine s_y (y_move rfl) rfl rfl rfl ?_
        iterate 2 refine s_skip rfl rfl rfl ?_
        refine s_y (y_pickT rfl rfl) rfl rfl rfl ?_
        refine s_y (y_pickT rfl rfl) rfl rfl rfl ?_
        refine s_y (y_move rfl) rfl rfl rfl ?_
        refine s_y (y_fieldAddrB Tryz.tab 1 rfl rfl rfl rfl rfl) rfl rfl rfl ?_
        refine s_y (y_load Tryz.tab rfl rfl (cell_row 1 rfl rfl)) rfl rfl rfl ?_
        refine s_y (y_fieldAddrB Tryz.tab 1 rfl rfl rfl rfl rfl) rfl rfl rfl ?_
        refine s_y (y_load Tryz.tab rfl rfl (cell_row 0 rfl rfl)) rfl rfl rfl ?_
        refine s_y (y_max rfl rfl) rfl rfl rfl ?_
        refine s_y (y_fieldAddrB Tryz.tab 2 rfl rfl rfl rfl rfl) rfl rfl rfl ?_
        refine s_y (y_load Tryz.tab rfl rfl (cell_row 1 rfl rfl)) rfl rfl rfl ?_
        refine s_y (y_fieldAddrB Tryz.tab 2 rfl rfl rfl rfl rfl) rfl rfl rfl ?_
        refine s_y (y_load Tryz.tab rfl rfl (cell_row 0 rfl rfl)) rfl rfl rfl ?_
        refine s_y (y_min rfl rfl) rfl rfl rfl ?_
        refine s_y (y_T (y_lss rfl rfl) (by omega)) rfl rfl rfl ?_
        refine s_y (y_pickT rfl rfl) rfl rfl rfl ?_
        refine s_y (y_assign rfl) rfl rfl rfl ?_
        refine s_nil ?_
        refine f_then ?_
        refine c_ret ?_
        exact f_ret () (res1 rfl rfl) (fun w h => h.tail.tail)
    · simp only [h2, decide_false, Bool.and_false]
      cases a4
      · cases q4
        · refine c_seq ?_
          refine c_region ?_
          refine s_do (do_box rfl) rfl rfl rfl (fun b2 => ?_)
          refine s_do (do_box rfl) rfl rfl rfl (fun b3 => ?_)
          refine s_y (y_assign rfl) rfl rfl rfl ?_
          refine s_nil ?_
          refine f_then ?_
          refine c_seq ?_
          refine c_region ?_
          refine s_y (y_fieldAddr0 Tryz.tab rfl rfl rfl rfl rfl) rfl rfl rfl ?_
          refine s_y (y_load Tryz.tab rfl rfl (cell_row 1 rfl rfl)) rfl rfl rfl ?_
          refine s_y (y_fieldAddr0 Tryz.tab rfl rfl rfl rfl rfl) rfl rfl rfl ?_
          refine s_y (y_load Tryz.tab rfl rfl (cell_row 0 rfl rfl)) rfl rfl rfl ?_
          refine s_y (y_T (y_neq rfl rfl) (by omega)) rfl rfl rfl ?_
          refine s_y (y_move rfl) rfl rfl rfl ?_
          refine s_y (y_fieldAddrB Tryz.tab 3 rfl rfl rfl rfl rfl) rfl rfl rfl ?_
          refine s_y (y_load Tryz.tab rfl rfl (cell_row 1 rfl rfl)) rfl rfl rfl ?_
          refine s_y (y_move rfl) rfl rfl rfl ?_
          refine s_y (y_fieldAddrB Tryz.tab 3 rfl rfl rfl rfl rfl) rfl rfl rfl ?_
          refine s_y (y_load Tryz.tab rfl rfl (cell_row 0 rfl rfl)) rfl rfl rfl ?_
          refine s_y (y_pickF rfl rfl) rfl rfl rfl ?_
          refine s_y (y_pickT rfl rfl) rfl rfl rfl ?_
          refine s_y (y_move rfl) rfl rfl rfl ?_
          iterate 11 refine s_skip rfl rfl rfl ?_
          refine s_y (y_pickF rfl rfl) rfl rfl rfl ?_
          refine s_y (y_assign rfl) rfl rfl rfl ?_
          refine s_nil ?_
          refine f_then ?_
          refine c_ret ?_
          exact f_ret () (res1 rfl rfl) (fun w h => h.tail.tail)
        · refine c_seq ?_
          refine c_region ?_
          refine s_do (do_box rfl) rfl rfl rfl (fun b2 => ?_)
          refine s_do (do_box rfl) rfl rfl rfl (fun b3 => ?_)
          refine s_y (y_assign rfl) rfl rfl rfl ?_
          refine s_nil ?_
          refine f_then ?_
          refine c_seq ?_
          refine c_region ?_
          refine s_y (y_fieldAddr0 Tryz.tab rfl rfl rfl rfl rfl) rfl rfl rfl ?_
          refine s_y (y_load Tryz.tab rfl rfl (cell_row 1 rfl rfl)) rfl rfl rfl ?_
          refine s_y (y_fieldAddr0 Tryz.tab rfl rfl rfl rfl rfl) rfl rfl rfl ?_
          refine s_y (y_load Tryz.tab rfl rfl (cell_row 0 rfl rfl)) rfl rfl rfl ?_
          refine s_y (y_T (y_neq rfl rfl) (by omega)) rfl rfl rfl ?_
          refine s_y (y_move rfl) rfl rfl rfl ?_
          refine s_y (y_fieldAddrB Tryz.tab 3 rfl rfl rfl rfl rfl) rfl rfl rfl ?_
          refine s_y (y_load Tryz.tab rfl rfl (cell_row 1 rfl rfl)) rfl rfl rfl ?_
          refine s_y (y_move rfl) rfl rfl rfl ?_
          refine s_y (y_fieldAddrB Tryz.tab 3 rfl rfl rfl rfl rfl) rfl rfl rfl ?_
          refine s_y (y_load Tryz.tab rfl rfl (cell_row 0 rfl rfl)) rfl rfl rfl ?_
          refine s_y (y_pickF rfl rfl) rfl rfl rfl ?_
          refine s_y (y_pickT rfl rfl) rfl rfl rfl ?_
          refine s_y (y_move rfl) rfl rfl rfl ?_
          refine s_y (y_fieldAddrB Tryz.tab 1 rfl rfl rfl rfl rfl) rfl rfl rfl ?_
          refine s_y (y_load Tryz.tab rfl rfl (cell_row 1 rfl rfl)) rfl rfl rfl ?_
          refine s_y (y_fieldAddrB Tryz.tab 1 rfl rfl rfl rfl rfl) rfl rfl rfl ?_
          refine s_y (y_load Tryz.tab rfl rfl (cell_row 0 rfl rfl)) rfl rfl rfl ?_
          refine s_y (y_max rfl rfl) rfl rfl rfl ?_
          refine s_y (y_fieldAddrB Tryz.tab 2 rfl rfl rfl rfl rfl) rfl rfl rfl ?_
          refine s_y (y_load Tryz.tab rfl rfl (cell_row 1 rfl rfl)) rfl rfl rfl ?_
          refine s_y (y_fieldAddrB Tryz.tab 2 rfl rfl rfl rfl rfl) rfl rfl rfl ?_
          refine s_y (y_load Tryz.tab rfl rfl (cell_row 0 rfl rfl)) rfl rfl rfl ?_
          refine s_y (y_min rfl rfl) rfl rfl rfl ?_
          refine s_y (y_F (y_lss rfl rfl) (by omega)) rfl rfl rfl ?_
          refine s_y (y_pickT rfl rfl) rfl rfl rfl ?_
          refine s_y (y_assign rfl) rfl rfl rfl ?_
          refine s_nil ?_
          refine f_then ?_
          refine c_ret ?_
          exact f_ret () (res1 rfl rfl) (fun w h => h.tail.tail)
      · refine c_seq ?_
        refine c_region ?_
        refine s_do (do_box rfl) rfl rfl rfl (fun b2 => ?_)
        refine s_do (do_box rfl) rfl rfl rfl (fun b3 => ?_)
        refine s_y (y_assign rfl) rfl rfl rfl ?_
        refine s_nil ?_
        refine f_then ?_
        refine c_seq ?_
        refine c_region ?_
        refine s_y (y_fieldAddr0 Tryz.tab rfl rfl rfl rfl rfl) rfl rfl rfl ?_
        refine s_y (y_load Tryz.tab rfl rfl (cell_row 1 rfl rfl)) rfl rfl rfl ?_
        refine s_y (y_fieldAddr0 Tryz.tab rfl rfl rfl rfl rfl) rfl rfl rfl ?_
        refine s_y (y_load Tryz.tab rfl rfl (cell_row 0 rfl rfl)) rfl rfl rfl ?_
        refine s_y (y_T (y_neq rfl rfl) (by omega)) rfl rfl rfl ?_
        refine s_y (y_move rfl) rfl rfl rfl ?_
        refine s_y (y_fieldAddrB Tryz.tab 3 rfl rfl rfl rfl rfl) rfl rfl rfl ?_
        refine s_y (y_load Tryz.tab rfl rfl (cell_row 1 rfl rfl)) rfl rfl rfl ?_
        refine s_y (y_move rfl) rfl rfl rfl ?_
        iterate 2 refine s_skip rfl rfl rfl ?_
        refine s_y (y_pickT rfl rfl) rfl rfl rfl ?_
        refine s_y (y_pickT rfl rfl) rfl rfl rfl ?_
        refine s_y (y_move rfl) rfl rfl rfl ?_
        refine s_y (y_fieldAddrB Tryz.tab 1 rfl rfl rfl rfl rfl) rfl rfl rfl ?_
        refine s_y (y_load Tryz.tab rfl rfl (cell_row 1 rfl rfl)) rfl rfl rfl ?_
        refine s_y (y_fieldAddrB Tryz.tab 1 rfl rfl rfl rfl rfl) rfl rfl rfl ?_
        refine s_y (y_load Tryz.tab rfl rfl (cell_row 0 rfl rfl)) rfl rfl rfl ?_
        refine s_y (y_max rfl rfl) rfl rfl rfl ?_
        refine s_y (y_fieldAddrB Tryz.tab 2 rfl rfl rfl rfl rfl) rfl rfl rfl ?_
        refine s_y (y_load Tryz.tab rfl rfl (cell_row 1 rfl rfl)) rfl rfl rfl ?_
        refine s_y (y_fieldAddrB Tryz.tab 2 rfl rfl rfl rfl rfl) rfl rfl rfl ?_
        refine s_y (y_load Tryz.tab rfl rfl (cell_row 0 rfl rfl)) rfl rfl rfl ?_
        refine s_y (y_min rfl rfl) rfl rfl rfl ?_
        refine s_y (y_F (y_lss rfl rfl) (by omega)) rfl rfl rfl ?_
        refine s_y (y_pickT rfl rfl) rfl rfl rfl ?_
        refine s_y (y_assign rfl) rfl rfl rfl ?_
        refine s_nil ?_
        refine f_then ?_
        refine c_ret ?_
        exact f_ret () (res1 rfl rfl) (fun w h => h.tail.tail)
theorem cf_spec {W : World} {Ls : List Chunk} {a b : Lk} : Spec Tryz.prog 133 #[lkv a, lkv b] (K W Ls) (fun _ : Unit => .bool (cfl a b)) (fun _ => K W Ls) := cf_spec'
set_option maxRecDepth 10000 in
theorem cfc_spec {W : World} {Ls : List Chunk} {a l : Lk} {b : Nat} (hb : CellsAre (K W Ls) ⟨b, 0, none⟩ (lkc l)) : Spec Tryz.prog 132 #[lkv a, .pointer (some ⟨b, 0, none⟩)] (K W Ls) (fun _ : Unit => .bool (cfl a l)) (fun _ => K W Ls) := by
  refine enter (args := [_, _]) Tryz.func132 rfl Tryz.ntmps132 rfl ?_
  refine c_seq ?_
  refine c_region ?_
  refine s_do (do_box rfl) rfl rfl rfl (fun b2 => ?_)
  refine s_y (y_assign rfl) rfl rfl rfl ?_
  refine s_nil ?_
  refine f_then ?_
  refine c_seq ?_
  refine c_region ?_
  refine s_y (y_loadA Tryz.tab rfl rfl rfl rfl (cells_row0 0 rfl rfl)) rfl rfl rfl ?_
  refine s_y (y_loadA Tryz.tab rfl rfl rfl rfl hb.cons) rfl rfl rfl ?_
  refine s_call (en_f rfl Tryz.call133) (cf_spec (a := a) (b := l)) rfl rfl rfl (fun _ => ?_)
  refine s_y (y_assign rfl) rfl rfl rfl ?_
  refine s_nil ?_
  refine f_then ?_
  refine c_ret ?_
  exact f_ret () (res1 rfl rfl) (fun w h => h.tail)
set_option maxRecDepth 10000 in
theorem index_spec {W : World} {Ls : List Chunk} {v : Value} {L : List Lk} {l : Lk} {b : Nat} (hv : EV (K W Ls) v 4 (lks L)) (hb : CellsAre (K W Ls) ⟨b, 0, none⟩ (lkc l)) (hl : L.length ≤ 1000000) :
    Spec Tryz.prog 143 #[v, .func (.func 132) #[] #[.pointer (some ⟨b, 0, none⟩)]] (K W Ls) (X := { z : Int // (0 ≤ z ↔ (L.any fun x => cfl x l) = true) }) (fun z => .int .i64 z.1) (fun _ => K W Ls) := by
  refine enter (args := [_, _]) Tryz.func143 rfl Tryz.ntmps143 rfl ?_
  refine c_seq ?_
  refine c_region ?_
  refine s_y (y_assign rfl) rfl rfl rfl ?_
  refine s_nil ?_
  refine f_then ?_
  refine c_seq ?_
  refine c_seq ?_
  refine c_region ?_
  refine s_y (y_move rfl) rfl rfl rfl ?_
  refine s_y (y_lenE Tryz.tab rfl (hv) rfl) rfl rfl rfl ?_
  refine s_y (y_move rfl) rfl rfl rfl ?_
  refine s_nil ?_
  refine f_then ?_
  refine c_block ?_
  refine c_loopP (α := Nat) (fun z => [(0, v), (1, .func (.func 132) #[] #[.pointer (some ⟨b, 0, none⟩)]), (7, .int .i64 (lks L).length), (8, .int .i64 (z : Nat))]) (fun z => z ≤ L.length ∧ ∀ i x, i < z → L[i]? = some x → cfl x l = false) (fun _ => K W Ls) (fun z => L.length - z) 0
    ⟨rfl, rfl, rfl, rfl, trivial⟩ ⟨Nat.zero_le _, fun i x h => absurd h (by omega)⟩ (fun w h => h) ?_
  rintro z ⟨hz, hno⟩
  have hlen : (lks L).length = L.length := List.length_map _
  by_cases c : z < L.length
  · obtain ⟨x, hx⟩ : ∃ x, L[z]? = some x := ⟨L[z], by simp [c]⟩
    have hc := hv.row (lks_get hx)
    refine c_seq ?_
    refine c_region ?_
    refine s_y (y_T (y_lss rfl rfl) (by omega)) rfl rfl rfl ?_
    refine s_nil ?_
    refine f_then ?_
    refine c_seq ?_
    refine c_condT rfl ?_
    refine c_skip ?_
    refine f_then ?_
    refine c_seq ?_
    refine c_block ?_
    refine c_seq ?_
    refine c_region ?_
    refine s_y (y_move rfl) rfl rfl rfl ?_
    refine s_y (y_assign rfl) rfl rfl rfl ?_
    refine s_nil ?_
    refine f_then ?_
    refine c_seq ?_
    refine c_region ?_
    refine s_y (y_move rfl) rfl rfl rfl ?_
    refine s_y (y_move rfl) rfl rfl rfl ?_
    refine s_y (y_move rfl) rfl rfl rfl ?_
    refine s_y (y_ixE Tryz.tab rfl rfl rfl rfl (hv) _ rfl (by omega)) rfl rfl rfl ?_
    refine s_y (y_loadA Tryz.tab rfl rfl rfl rfl hc) rfl rfl rfl ?_
    refine s_call (en_v rfl rfl Tryz.call132) (cfc_spec (a := x) hb) rfl rfl rfl (fun _ => ?_)
    cases hcf : cfl x l with
    | true =>
      refine s_nil ?_
      refine f_then ?_
      refine c_condT rfl ?_
      refine c_seq ?_
      refine c_region ?_
      refine s_y (y_move rfl) rfl rfl rfl ?_
      refine s_y (y_assign rfl) rfl rfl rfl ?_
      refine s_nil ?_
      refine f_then ?_
      refine c_ret ?_
      refine f_blockR ?_
      refine f_thenR ?_
      refine f_rndR ?_
      refine f_blockR ?_
      refine f_thenR ?_
      exact f_ret ⟨(z : Int), ⟨fun _ => List.any_eq_true.2 ⟨x, List.mem_of_getElem? hx, hcf⟩, fun _ => by omega⟩⟩ (res1 rfl rfl) (fun w h => h)
    | false =>
      refine s_nil ?_
      refine f_then ?_
      refine c_condF rfl ?_
      refine c_skip ?_
      refine f_blockN ?_
      refine f_then ?_
      refine c_region ?_
      refine s_y (y_add rfl rfl (by omega)) rfl rfl rfl ?_
      refine s_y (y_move rfl) rfl rfl rfl ?_
      refine s_nil ?_
      exact f_roundP (z + 1) ⟨c, fun i y hi hy => by
        by_cases e : i = z
        · subst e
          rw [hx] at hy
          rw [← Option.some.inj hy]; exact hcf
        · exact hno i y (by omega) hy⟩ (by omega) ⟨rfl, rfl, rfl, rfl, trivial⟩ (fun w h => h)
  · obtain rfl : z = L.length := by omega
    refine c_seq ?_
    refine c_region ?_
    refine s_y (y_F (y_lss rfl rfl) (by omega)) rfl rfl rfl ?_
    refine s_nil ?_
    refine f_then ?_
    refine c_seq ?_
    refine c_condF rfl ?_
    refine c_exit ?_
    refine f_thenE ?_
    refine f_rndE ?_
    refine f_blockE ?_
    refine f_then ?_
    refine c_seq ?_
    refine c_region ?_
    refine s_y (y_assign rfl) rfl rfl rfl ?_
    refine s_nil ?_
    refine f_then ?_
    refine c_ret ?_
    refine f_ret ⟨-1, ⟨fun h => absurd h (by omega), fun h => ?_⟩⟩ (res1 rfl rfl) (fun w h => h)
    obtain ⟨x, hx, hcf⟩ := List.any_eq_true.1 h
    obtain ⟨i, hi⟩ := List.getElem?_of_mem hx
    have := hno i x (List.getElem?_eq_some_iff.1 hi).1 hi
    rw [this] at hcf
    cases hcf
set_option maxRecDepth 10000 in
theorem contains_spec {W : World} {Ls : List Chunk} {v : Value} {L : List Lk} {l : Lk} {b : Nat} (hv : EV (K W Ls) v 4 (lks L)) (hb : CellsAre (K W Ls) ⟨b, 0, none⟩ (lkc l)) (hl : L.length ≤ 1000000) :
    Spec Tryz.prog 131 #[v, .func (.func 132) #[] #[.pointer (some ⟨b, 0, none⟩)]] (K W Ls) (fun _ : Unit => .bool (L.any fun x => cfl x l)) (fun _ => K W Ls) := by
  refine enter (args := [_, _]) Tryz.func131 rfl Tryz.ntmps131 rfl ?_
  refine c_seq ?_
  refine c_region ?_
  refine s_y (y_assign rfl) rfl rfl rfl ?_
  refine s_nil ?_
  refine f_then ?_
  refine c_seq ?_
  refine c_region ?_
  refine s_y (y_move rfl) rfl rfl rfl ?_
  refine s_y (y_move rfl) rfl rfl rfl ?_
  refine s_call (en_f rfl Tryz.call143) (index_spec hv hb hl) rfl rfl rfl (fun x => ?_)
  obtain ⟨z, hz⟩ := x
  dsimp only
  cases h : L.any fun x => cfl x l with
  | true =>
    have := hz.2 h
    refine s_y (y_T (y_geq rfl rfl) (by assumption)) rfl rfl rfl ?_
    refine s_y (y_assign rfl) rfl rfl rfl ?_
    refine s_nil ?_
    refine f_then ?_
    refine c_ret ?_
    exact f_ret () (res1 rfl rfl) (fun w h => h)
  | false =>
    have : ¬ 0 ≤ z := fun c => by rw [hz.1 c] at h; cases h
    refine s_y (y_F (y_geq rfl rfl) (by assumption)) rfl rfl rfl ?_
    refine s_y (y_assign rfl) rfl rfl rfl ?_
    refine s_nil ?_
    refine f_then ?_
    refine c_ret ?_
    exact f_ret () (res1 rfl rfl) (fun w h => h)
end Go.KL
end

section
/- The library's contracts at this program: numbers of functions and types (printed by a tool of the kit). -/
namespace Go.Proofs
open Go.Shelf
def Tryz.keysA_ren : Go.Shelf.Ren := ⟨fun | 7 => 126 | 10 => 139 | n => n, fun | 23 => 93 | 26 => 3 | 3 => 105 | 28 => 189 | 0 => 0 | 27 => 188 | 33 => 91 | 4 => 4 | n => n, fun | n => n⟩
theorem Tryz.keysA : Go.Proofs.SlLaysZI.n7 Tryz.prog Tryz.keysA_ren := {
  mixed := by kernel_rfl
  f7 := ⟨Tryz.f126.name, by decide, Tryz.func126.trans (congrArg some (by kernel_rfl))⟩
  f10 := ⟨Tryz.f139.name, by decide, Tryz.func139.trans (congrArg some (by kernel_rfl))⟩
  t0 := Tryz.underlying0
  a0 := Tryz.isAgg0
  z0 := Tryz.sizeOf0
  v0 := Tryz.zeroValue0
  t4 := Tryz.underlying4
  a4 := Tryz.isAgg4
  z4 := Tryz.sizeOf4
  v4 := Tryz.zeroValue4
  t23 := Tryz.underlying93
  a23 := Tryz.isAgg93
  z23 := Tryz.sizeOf93
  v23 := Tryz.zeroValue93
  t26 := Tryz.underlying3
  a26 := Tryz.isAgg3
  z26 := Tryz.sizeOf3
  v26 := Tryz.zeroValue3
  t27 := Tryz.underlying188
  a27 := Tryz.isAgg188
  z27 := Tryz.sizeOf188
  v27 := Tryz.zeroValue188
  t28 := Tryz.underlying189
  a28 := Tryz.isAgg189
  z28 := Tryz.sizeOf189
  v28 := Tryz.zeroValue189
  t33 := Tryz.underlying91
  a33 := Tryz.isAgg91
  z33 := Tryz.sizeOf91
  v33 := Tryz.zeroValue91 }
def Tryz.sortedA_ren : Go.Shelf.Ren := ⟨fun | 6 => 125 | 8 => 137 | 9 => 138 | 11 => 146 | 13 => 148 | 12 => 147 | 23 => 160 | 24 => 161 | 14 => 151 | 15 => 152 | 16 => 153 | 17 => 154 | 18 => 155 | 19 => 156 | 20 => 157 | 21 => 158 | 22 => 159 | 25 => 163 | 26 => 164 | 27 => 165 | 28 => 166 | 29 => 167 | 30 => 136 | 31 => 168 | n => n, fun | 26 => 3 | 28 => 189 | 24 => 179 | 0 => 0 | 3 => 3 | 37 => 205 | 48 => 216 | 50 => 218 | 4 => 4 | 40 => 209 | 39 => 208 | 45 => 213 | 5 => 5 | 9 => 9 | 51 => 219 | 55 => 223 | 57 => 225 | 58 => 130 | 33 => 91 | n => n, fun | n => n⟩
theorem Tryz.sortedA : Go.Proofs.SlLaysZI.n6 Tryz.prog Tryz.sortedA_ren := {
  mixed := by kernel_rfl
  f6 := ⟨Tryz.f125.name, by decide, Tryz.func125.trans (congrArg some (by kernel_rfl))⟩
  f8 := ⟨Tryz.f137.name, by decide, Tryz.func137.trans (congrArg some (by kernel_rfl))⟩
  f11 := ⟨Tryz.f146.name, by decide, Tryz.func146.trans (congrArg some (by kernel_rfl))⟩
  t0 := Tryz.underlying0
  a0 := Tryz.isAgg0
  z0 := Tryz.sizeOf0
  v0 := Tryz.zeroValue0
  t24 := Tryz.underlying179
  a24 := Tryz.isAgg179
  z24 := Tryz.sizeOf179
  v24 := Tryz.zeroValue179
  t26 := Tryz.underlying3
  a26 := Tryz.isAgg3
  z26 := Tryz.sizeOf3
  v26 := Tryz.zeroValue3
  t28 := Tryz.underlying189
  a28 := Tryz.isAgg189
  z28 := Tryz.sizeOf189
  v28 := Tryz.zeroValue189
  i26 := by kernel_rfl }
def Tryz.sortA_ren : Go.Shelf.Ren := ⟨fun | 5 => 138 | 8 => 148 | 7 => 147 | 19 => 160 | 20 => 161 | 10 => 151 | 11 => 152 | 12 => 153 | 13 => 154 | 14 => 155 | 15 => 156 | 16 => 157 | 17 => 158 | 18 => 159 | 30 => 163 | 31 => 164 | 32 => 165 | 33 => 166 | 34 => 167 | 35 => 136 | 40 => 168 | n => n, fun | 23 => 179 | 25 => 3 | 3 => 3 | 32 => 205 | 22 => 179 | 0 => 0 | 44 => 216 | 46 => 218 | 4 => 4 | 36 => 209 | 35 => 208 | 41 => 213 | 5 => 5 | 9 => 9 | 53 => 219 | 57 => 223 | 63 => 225 | 64 => 130 | n => n, fun | n => n⟩
theorem Tryz.sortA : Go.Proofs.SlLaysM.n5 Tryz.prog Tryz.sortA_ren := {
  mixed := by kernel_rfl
  f5 := ⟨Tryz.f138.name, by decide, Tryz.func138.trans (congrArg some (by kernel_rfl))⟩
  f7 := ⟨Tryz.f147.name, by decide, Tryz.func147.trans (congrArg some (by kernel_rfl))⟩
  f8 := Tryz.func148.trans (congrArg some (by kernel_rfl))
  f10 := ⟨Tryz.f151.name, by decide, Tryz.func151.trans (congrArg some (by kernel_rfl))⟩
  f11 := ⟨Tryz.f152.name, by decide, Tryz.func152.trans (congrArg some (by kernel_rfl))⟩
  f12 := ⟨Tryz.f153.name, by decide, Tryz.func153.trans (congrArg some (by kernel_rfl))⟩
  f13 := ⟨Tryz.f154.name, by decide, Tryz.func154.trans (congrArg some (by kernel_rfl))⟩
  f14 := ⟨Tryz.f155.name, by decide, Tryz.func155.trans (congrArg some (by kernel_rfl))⟩
  f15 := ⟨Tryz.f156.name, by decide, Tryz.func156.trans (congrArg some (by kernel_rfl))⟩
  f16 := ⟨Tryz.f157.name, by decide, Tryz.func157.trans (congrArg some (by kernel_rfl))⟩
  f17 := ⟨Tryz.f158.name, by decide, Tryz.func158.trans (congrArg some (by kernel_rfl))⟩
  f18 := ⟨Tryz.f159.name, by decide, Tryz.func159.trans (congrArg some (by kernel_rfl))⟩
  f19 := Tryz.func160.trans (congrArg some (by kernel_rfl))
  f20 := Tryz.func161.trans (congrArg some (by kernel_rfl))
  f30 := ⟨Tryz.f163.name, by decide, Tryz.func163.trans (congrArg some (by kernel_rfl))⟩
  f31 := Tryz.func164.trans (congrArg some (by kernel_rfl))
  f32 := Tryz.func165.trans (congrArg some (by kernel_rfl))
  f33 := ⟨Tryz.f166.name, by decide, Tryz.func166.trans (congrArg some (by kernel_rfl))⟩
  f34 := ⟨Tryz.f167.name, by decide, Tryz.func167.trans (congrArg some (by kernel_rfl))⟩
  f35 := ⟨Tryz.f136.name, by decide, Tryz.func136.trans (congrArg some (by kernel_rfl))⟩
  f40 := ⟨Tryz.f168.name, by decide, Tryz.func168.trans (congrArg some (by kernel_rfl))⟩
  t0 := Tryz.underlying0
  a0 := Tryz.isAgg0
  z0 := Tryz.sizeOf0
  v0 := Tryz.zeroValue0
  t3 := Tryz.underlying3
  a3 := Tryz.isAgg3
  z3 := Tryz.sizeOf3
  v3 := Tryz.zeroValue3
  t4 := Tryz.underlying4
  a4 := Tryz.isAgg4
  z4 := Tryz.sizeOf4
  v4 := Tryz.zeroValue4
  t5 := Tryz.underlying5
  a5 := Tryz.isAgg5
  z5 := Tryz.sizeOf5
  v5 := Tryz.zeroValue5
  t9 := Tryz.underlying9
  a9 := Tryz.isAgg9
  z9 := Tryz.sizeOf9
  v9 := Tryz.zeroValue9
  t22 := Tryz.underlying179
  a22 := Tryz.isAgg179
  z22 := Tryz.sizeOf179
  v22 := Tryz.zeroValue179
  t23 := Tryz.underlying179
  a23 := Tryz.isAgg179
  z23 := Tryz.sizeOf179
  v23 := Tryz.zeroValue179
  t25 := Tryz.underlying3
  a25 := Tryz.isAgg3
  z25 := Tryz.sizeOf3
  v25 := Tryz.zeroValue3
  t32 := Tryz.underlying205
  a32 := Tryz.isAgg205
  z32 := Tryz.sizeOf205
  v32 := Tryz.zeroValue205
  t35 := Tryz.underlying208
  a35 := Tryz.isAgg208
  z35 := Tryz.sizeOf208
  v35 := Tryz.zeroValue208
  t36 := Tryz.underlying209
  a36 := Tryz.isAgg209
  z36 := Tryz.sizeOf209
  v36 := Tryz.zeroValue209
  t41 := Tryz.underlying213
  a41 := Tryz.isAgg213
  z41 := Tryz.sizeOf213
  v41 := Tryz.zeroValue213
  t44 := Tryz.underlying216
  a44 := Tryz.isAgg216
  z44 := Tryz.sizeOf216
  v44 := Tryz.zeroValue216
  t46 := Tryz.underlying218
  a46 := Tryz.isAgg218
  z46 := Tryz.sizeOf218
  v46 := Tryz.zeroValue218
  t53 := Tryz.underlying219
  a53 := Tryz.isAgg219
  z53 := Tryz.sizeOf219
  v53 := Tryz.zeroValue219
  t57 := Tryz.underlying223
  a57 := Tryz.isAgg223
  z57 := Tryz.sizeOf223
  v57 := Tryz.zeroValue223
  t63 := Tryz.underlying225
  a63 := Tryz.isAgg225
  z63 := Tryz.sizeOf225
  v63 := Tryz.zeroValue225
  t64 := Tryz.underlying130
  a64 := Tryz.isAgg130
  z64 := Tryz.sizeOf130
  v64 := Tryz.zeroValue130 }
end Go.Proofs
end

section
/- Contracts: the keys of a map, sorted. -/
namespace Go.KL
open Go.Proofs Go.RowKit Go.Maps Go.Sort Go.Shelf
theorem Below.ext {w w' : World} (h : Below w.heap.size w w') : Ext w w' := ⟨h.os, h.tape, h.output, h.size, h.block⟩
theorem sortsA (m : Nat) : AnyZI.SortsIn Tryz.prog Tryz.sortedA_ren Fence.wide m :=
  ⟨fun blk off cap ss W hH hblk hsz => callsIn_wide.2 (AnyM.slices_Sort_int Tryz.sortA blk off cap ss W hH hblk hsz),
   fun p cap W => callsIn_wide.2 (AnyM.slices_Sort_int_none Tryz.sortA p cap W)⟩
def leI (x y : Int) : Bool := decide (x ≤ y)
/-- The keys of a map, ascending. -/
def skeys (es : List Ent) : List Int := (es.map (·.1)).mergeSort leI
def ivals (l : List Int) : List Value := l.map fun z => .int .i64 z
/-- A new row becomes a chunk. -/
theorem K.newRow {W w w' : World} {Ls : List Chunk} (h : K W Ls w) {v : Value} {n : Nat} {xs : List Value} (hr : w'.ownsRow w.heap.size 3 1 v n xs) (hn : v = .slice none 0 0 ↔ n = 0) (he : Ext w w') :
    ∃ c : Chunk, Buf 3 1 v c n xs ∧ K W (c :: Ls) w' := by
  obtain ⟨hl, hr⟩ := hr
  by_cases h0 : n = 0
  · subst h0
    have : xs = [] := List.eq_nil_of_length_eq_zero (by simpa using hl)
    subst this
    exact ⟨[], ⟨.inl ⟨rfl, rfl, hn.2 rfl, rfl⟩⟩, (h.ext he).addNil⟩
  · rcases hr with ⟨_, h1⟩ | ⟨g, cap, cur, rfl, hb, hg, h1, h2, h3, h4⟩
    · exact absurd h1 h0
    · have e1 : cur = ([] ++ xs ++ cur.toList.drop n).toArray := by
        apply Array.ext'
        simp only [List.nil_append]
        rw [← h4, Nat.mul_one, List.take_append_drop]
      refine ⟨och 3 ⟨g, cap, [], cur.toList.drop n⟩ xs, ⟨.inr ⟨⟨g, cap, [], cur.toList.drop n⟩, rfl, rfl, ⟨h1, h2, by simpa using hl, ?_⟩, rfl⟩⟩, ?_⟩
      · simp at h3 ⊢
        omega
      · have hk : K w [och 3 ⟨g, cap, [], cur.toList.drop n⟩ xs] w' := by
          refine ⟨he.os, he.tape, he.output, he.size, he.block, ?_, by simp [och]⟩
          intro e hm
          simp only [och, List.flatten_cons, List.flatten_nil, List.append_nil, List.mem_singleton] at hm
          subst hm
          refine ⟨hb, ?_⟩
          show _ = some (Obj.cells ([] ++ xs ++ List.drop n cur.toList).toArray 3 (0, 0))
          rw [← e1]
          exact hg
        exact h.compose hk
theorem keys_spec {W : World} {Ls : List Chunk} {m : Option Nat} : Spec Tryz.prog 126 #[.map m] (K W Ls) (fun B : Nat => .func (.func 139) #[] #[.pointer (some ⟨B, 0, none⟩)]) (fun B => K W ([(B, row 93 [.map m])] :: Ls)) := by
  refine enter (args := [_]) Tryz.func126 rfl Tryz.ntmps126 rfl ?_
  refine c_seq ?_
  refine c_region ?_
  refine s_do (do_box rfl) rfl rfl rfl (fun b1 => ?_)
  refine s_y (y_assign rfl) rfl rfl rfl ?_
  refine s_nil ?_
  refine f_then ?_
  refine c_seq ?_
  refine c_region ?_
  refine s_y (y_makeFunc rfl rfl) rfl rfl rfl ?_
  refine s_y (y_assign rfl) rfl rfl rfl ?_
  refine s_nil ?_
  refine f_then ?_
  refine c_ret ?_
  exact f_ret b1 (res1 rfl rfl) (fun w h => h)
set_option maxHeartbeats 1000000 in
theorem sorted_spec {W : World} {Ls : List Chunk} {i B b c : Nat} {es : List Ent} {R : Chunk} (hB : Ls.getD i [] = (B, row 93 [.map (some b)]) :: R) (hb : Hs (K W Ls) [(b, mobj es c)]) (hm : MOK es c) :
    Spec Tryz.prog 125 #[.func (.func 139) #[] #[.pointer (some ⟨B, 0, none⟩)]] (K W Ls) (X := { x : Value × Chunk // Buf 3 1 x.1 x.2 es.length (ivals (skeys es)) }) (fun x => x.1.1) (fun x => K W (x.1.2 :: Ls)) := by
  intro w hw
  have h1 := hw.at hB
  have h2 := hb w hw _ (List.mem_singleton.2 rfl)
  obtain ⟨D, ho, hp, hs⟩ := ownsMap_of hm Tryz.underlying3 h2
  have hcell : w.cell? ⟨B, 0, none⟩ = some (.map (some b)) := by simp [World.cell?, h1, row]
  have hlen := hm.len
  have hseq : SeqGives Fence.wide 3 Tryz.prog 139 #[.pointer (some ⟨B, 0, none⟩)] encZ (fun ss => ss.Perm (intKeys D)) (Maps.size D) w :=
    AnyZI.keys_gives (ρ := Tryz.keysA_ren) { Tryz.keysA with } Fence.wide _ trivial rfl (by omega) B b es.length D w (heap_lt h1) hcell ho
  have cS := AnyZI.sorted_in Tryz.sortedA Fence.wide 6 trivial trivial trivial trivial rfl (by omega) (sortsA _) (enters_of Tryz.func138 (by kernel_rfl) rfl) 139 #[.pointer (some ⟨B, 0, none⟩)] trivial (enters_of Tryz.func139 (by kernel_rfl) rfl) _ _ (by rw [hs]; simp [maxLen]; omega) (by rw [hs]; omega) _ hseq
  change CallsIn _ _ Tryz.prog 125 _ _ _ at cS
  refine (callsIn_wide.1 cS).mono ?_
  rintro e w' ⟨v, ss, rfl, hS, hrow, hnil, hbel⟩
  have hp2 : ss.Perm (es.map (·.1)) := hS.trans hp
  have e1 : ss.mergeSort (fun x y => decide (x ≤ y)) = skeys es := mergeSort_of_perm_i hp2
  have e2 : ss.length = es.length := by rw [hp2.length_eq]; simp
  rw [e1, e2] at hrow
  obtain ⟨o, h3, h4⟩ := K.newRow hw hrow (by rw [hnil, ← e2]; exact List.length_eq_zero_iff.symm) (Below.ext hbel)
  exact ⟨⟨(v, o), h3⟩, rfl, h4⟩
end Go.KL
end

section
/- Maps that are there. No program in sight. -/
namespace Go.KL
section
variable {P : Program} {n : Nat} {σ : Slots} {C : World → Prop} {dst : Option Tmp} {ty : TypeId} {pos : String} {after : Array Edge} {guard : Option (Nat × Bool)}
theorem y_lookupH (T : Tab P) {x k : Operand} {t kt e : TypeId} {b c : Nat} {es : List Ent} {q : Int} {z : Value} (hx : ev σ x = some (.map (some b))) (hk : ev σ k = some (.int .i64 q)) (ht : T.und t = some (.map kt e)) (hkt : T.und kt = some (.int .i64))
    (hz : ∀ w, (zeroValue e).run P w = .ok z w) (hb : Hs C [(b, mobj es c)]) : Ylds P n σ C ⟨dst, .lookup t x k false, ty, pos, after, guard⟩ (mget q z es) := by
  intro a w hE hw
  have := run_lookupM (ok := false) (k := q) w (T.und_ok ht) (T.und_ok hkt) (hz w) (hb w hw _ (List.mem_singleton.2 rfl))
  simp [execOp, ev_eval hE hx, ev_eval hE hk, this]
theorem y_lookupE (T : Tab P) {x k : Operand} {t kt e : TypeId} {b c : Nat} {es : List Ent} {q : Int} {z v : Value} (hx : ev σ x = some (.map (some b))) (hk : ev σ k = some (.int .i64 q)) (ht : T.und t = some (.map kt e)) (hkt : T.und kt = some (.int .i64))
    (hz : ∀ w, (zeroValue e).run P w = .ok z w) (hb : Hs C [(b, mobj es c)]) (hv : mget q z es = v) : Ylds P n σ C ⟨dst, .lookup t x k false, ty, pos, after, guard⟩ v := hv ▸ y_lookupH T hx hk ht hkt hz hb
theorem y_lenMH (T : Tab P) {x : Operand} {t kt e : TypeId} {b c : Nat} {es : List Ent} (hx : ev σ x = some (.map (some b))) (ht : T.und t = some (.map kt e)) (hb : Hs C [(b, mobj es c)]) :
    Ylds P n σ C ⟨dst, .call ⟨.builtin .len, #[x], #[t]⟩, ty, pos, after, guard⟩ (.int .i64 (es.length : Nat)) := fun a w hE hw => by
  have hb' := hb w hw _ (List.mem_singleton.2 rfl)
  have h1 : (getObj b).run P w = .ok (mobj es c) w := MapKept.run_getObj_map hb'
  simp [execOp, resolve, invoke, ev_eval hE hx, builtin, Builtin.len_, run_und T ht, h1, mobj, goInt]
theorem y_neqM0 (T : Tab P) {x : Operand} {t kt e : TypeId} {m : Option Nat} {t' : TypeId} (hx : ev σ x = some (.map m)) (ht : T.und t = some (.map kt e)) :
    Ylds P n σ C ⟨dst, .binOp .neq t x (.const (.map none)) t', ty, pos, after, guard⟩ (.bool m.isSome) := by
  intro a w hE _
  have h := run_equal_map_nil w t kt e m (T.und_ok ht)
  have h2 : (binOp .neq t (.map m) (.map none)).run P w = .ok (.bool m.isSome) w := by
    simp only [binOp, Sem.run_bind, h, Result.andThen]
    cases m <;> rfl
  have h3 : eqGuard .neq t x (.const (.map none)) (.map m) (.map none) = pure () := by cases m <;> rfl
  have h4 : a.eval (.const (.map none)) = .map none := rfl
  simp only [execOp, ev_eval hE hx, h4, h3, Sem.run_bind, Sem.run_pure, Result.andThen, h2]
end
end Go.KL
end

section
/- A book in memory. No program in sight. -/
namespace Go.KL
/-- A transaction in memory: its block, the slices of its locks and operations. -/
structure Tg where
  id : Nat
  b : Nat
  st : Nat
  locks : List Lk
  req : Lk
  os : List Ov
  lv : Value
  lc : Chunk
  ov : Value
  oc : Chunk
def Tg.tx (t : Tg) : Tx := ⟨t.st, t.locks, t.req, ops t.os⟩
abbrev Tg.cells (t : Tg) : List Value := [.int .i64 (t.id : Nat), .int .i64 (t.st : Nat), t.lv, .int .i64 (t.req.tx : Nat), .int .i64 (t.req.lo : Nat), .int .i64 (t.req.hi : Nat), .bool t.req.wr, t.ov]
abbrev Tg.chunks (t : Tg) : List Chunk := [[(t.b, row 113 t.cells)], t.lc, t.oc]
abbrev Tg.ptr (t : Tg) : Value := .pointer (some ⟨t.b, 0, none⟩)
structure Tg.OK (p : Chunk) (t : Tg) : Prop where
  l : BufR 111 4 t.lv t.lc (lks t.locks)
  o : BufR 60 6 t.ov t.oc (opl t.os)
  r : OpsV p t.os
theorem Tg.OK.sub {p q : Chunk} {t : Tg} (h : t.OK p) (hS : Sub p q) : t.OK q := ⟨h.l, h.o, h.r.sub hS⟩
/-- A committed transaction: its number, the slice of its operations, and these. -/
abbrev Lg := Nat × Value × List Ov
/-- A book in memory. -/
structure Bg where
  p : Chunk
  b : Nat
  ba : Nat
  br : Nat
  cv : Value
  wv : Value
  qv : Value
  lv : Value
  ca : Nat
  cr : Nat
  size : Nat
  C : Nat → Nat
  W : Nat → Nat
  rn : List Nat
  q : List Nat
  qc : Chunk
  lc : Chunk
  ls : List Lg
  ea : List Ent
  er : List Ent
  ts : List Tg
namespace Bg
variable (g : Bg)
def bk : Bk := ⟨g.size, g.C, g.W, g.ts.map Tg.tx, g.rn, g.q, g.ls.map fun x => (x.1, ops x.2.2)⟩
def pb (k : Nat) : Nat := (g.ts[k - 1]?).elim 0 (·.b)
abbrev ptr (k : Nat) : Value := .pointer (some ⟨g.pb k, 0, none⟩)
abbrev cells : List Value := [g.cv, g.wv, .map (some g.ba), .map (some g.br), g.qv, g.lv]
abbrev fixed : List Chunk := [g.p, [(g.b, row 96 g.cells)], [(g.ba, mobj g.ea g.ca)], [(g.br, mobj g.er g.cr)], g.qc, g.lc]
abbrev L : List Chunk := g.fixed ++ g.ts.flatMap Tg.chunks
abbrev has (k : Nat) : Prop := 1 ≤ k ∧ k ≤ g.ts.length
structure OK : Prop where
  mC : MV g.p g.cv g.size g.C
  mW : MV g.p g.wv g.size g.W
  id : ∀ (i : Nat) (t : Tg), g.ts[i]? = some t → t.id = i + 1
  ok : ∀ t ∈ g.ts, t.OK g.p
  nd : (g.ts.map (·.b)).Nodup
  eaM : MOK g.ea g.ca
  eaG : ∀ k : Nat, g.has k → mget (k : Int) (.pointer none) g.ea = g.ptr k
  eaH : ∀ z : Int, mhas z g.ea = decide (1 ≤ z ∧ z ≤ g.ts.length)
  eaL : g.ea.length = g.ts.length
  erM : MOK g.er g.cr
  erE : g.er.map (fun e => (e.1, e.2.1)) = g.rn.map (fun k : Nat => ((k : Int), g.ptr k))
  rnh : ∀ k ∈ g.rn, g.has k
  qB : BufR 105 1 g.qv g.qc (g.q.map fun k => [g.ptr k])
  qh : ∀ k ∈ g.q, g.has k
  lB : BufR 58 2 g.lv g.lc (g.ls.map fun x => [.int .i64 (x.1 : Nat), x.2.1])
  lO : ∀ x ∈ g.ls, PE g.p x.2.1 6 (opl x.2.2) ∧ OpsV g.p x.2.2
end Bg
theorem mget_out {k : Int} {z : Value} : ∀ {es : List Ent}, mhas k es = false → mget k z es = z
  | [], _ => rfl
  | e :: r, h => by
    simp only [mhas] at h
    simp only [mget]
    by_cases c : k = e.1
    · simp [c] at h
    · simp only [if_neg c] at h ⊢
      exact mget_out h
theorem mget_mem {k : Int} {z v : Value} : ∀ {es : List Ent}, (es.map (·.1)).Nodup → (∃ c, (k, v, c) ∈ es) → mget k z es = v
  | [], _, h => by obtain ⟨c, h⟩ := h; simp at h
  | e :: r, hn, h => by
    simp only [mget]
    obtain ⟨c, h⟩ := h
    simp only [List.map_cons, List.nodup_cons] at hn
    rcases List.mem_cons.1 h with h | h
    · rw [← h]; simp
    · have hne : k ≠ e.1 := fun e' => hn.1 (by rw [← e']; exact List.mem_map.2 ⟨_, h, rfl⟩)
      rw [if_neg hne]
      exact mget_mem hn.2 ⟨c, h⟩
section
variable {g : Bg}
/-- The transaction with a number. -/
theorem Bg.OK.at (h : g.OK) {k : Nat} (hk : g.has k) : ∃ t, t ∈ g.ts ∧ g.ts[k - 1]? = some t ∧ t.id = k ∧ g.pb k = t.b ∧ g.bk.tx k = t.tx := by
  have hlt : k - 1 < g.ts.length := by omega
  refine ⟨g.ts[k - 1], List.getElem_mem _, by simp [hlt], ?_, by simp [Bg.pb, hlt], ?_⟩
  · have := h.id (k - 1) g.ts[k - 1] (by simp [hlt])
    omega
  · simp [Bk.tx, Bg.bk, List.getD_eq_getElem?_getD, hlt]
theorem Bg.OK.pb_inj (h : g.OK) {j k : Nat} (hj : g.has j) (hk : g.has k) (e : g.pb j = g.pb k) : j = k := by
  obtain ⟨t, _, ht, hi, hp, _⟩ := h.at hj
  obtain ⟨u, _, hu, hi', hp', _⟩ := h.at hk
  rw [hp, hp'] at e
  have h1 : (g.ts.map (·.b))[j - 1]? = some t.b := by simp [ht]
  have h2 : (g.ts.map (·.b))[k - 1]? = some t.b := by simp [hu, e]
  have hlt : j - 1 < (g.ts.map (·.b)).length := by simp; omega
  have := (List.getElem?_inj hlt h.nd).1 (h1.trans h2.symm)
  omega
theorem Bg.OK.rn_nd (h : g.OK) : g.rn.Nodup := by
  have h1 := h.erM.keys
  have h2 : g.er.map (·.1) = g.rn.map (fun k : Nat => (k : Int)) := by
    have := congrArg (List.map Prod.fst) h.erE
    simpa [List.map_map, Function.comp_def] using this
  rw [h2] at h1
  exact (List.pairwise_map.1 h1).imp fun hne e => hne (by rw [e])
theorem Bg.OK.er_keys (h : g.OK) : g.er.map (·.1) = g.rn.map (fun k : Nat => (k : Int)) := by
  have := congrArg (List.map Prod.fst) h.erE
  simpa [List.map_map, Function.comp_def] using this
theorem Bg.OK.er_len (h : g.OK) : g.er.length = g.rn.length := by
  have := congrArg List.length h.er_keys
  simpa using this
theorem Bg.OK.er_get (h : g.OK) {k : Nat} (hk : k ∈ g.rn) : mget (k : Int) (.pointer none) g.er = g.ptr k := by
  refine mget_mem h.erM.keys ?_
  have : ((k : Int), g.ptr k) ∈ g.er.map (fun e => (e.1, e.2.1)) := by
    rw [h.erE]
    exact List.mem_map.2 ⟨k, hk, rfl⟩
  obtain ⟨e, he, e2⟩ := List.mem_map.1 this
  simp only [Prod.mk.injEq] at e2
  exact ⟨e.2.2, by rw [← e2.1, ← e2.2]; exact he⟩
/-- The numbers of those in progress, ascending. -/
theorem skeys_srt (h : g.OK) : skeys g.er = (srt g.rn).map (fun k : Nat => (k : Int)) := by
  unfold skeys srt
  rw [h.er_keys, ← List.map_mergeSort]
  intro a _ b _
  simp [leI]
/-- The book is there. -/
def BIn (w : World) (g : Bg) : Prop := ∀ e ∈ g.L.flatten, w.heap[e.1]? = some e.2
theorem K.bin {W w : World} {N : List Chunk} (h : K W (g.L ++ N) w) : BIn w g := fun e he => (h.own e (by simp only [List.flatten_append, List.mem_append] at he ⊢; exact .inl he)).2
theorem BIn.hs {w : World} {N : List Chunk} (h : BIn w g) : Hs (K w N) g.L.flatten := Hs.base h
/-- What is known of a transaction in memory. -/
structure TF (C : World → Prop) (t : Tg) : Prop where
  c0 : CellIs C ⟨t.b, 0, none⟩ (.int .i64 (t.id : Nat))
  c1 : CellIs C ⟨t.b, 1, none⟩ (.int .i64 (t.st : Nat))
  c2 : CellIs C ⟨t.b, 2, none⟩ t.lv
  c3 : CellsAre C ⟨t.b, 3, none⟩ (lkc t.req)
  c7 : CellIs C ⟨t.b, 7, none⟩ t.ov
  l : EV C t.lv 4 (lks t.locks)
  o : EV C t.ov 6 (opl t.os)
/-- What is known of a book in memory. -/
structure BF (C : World → Prop) (g : Bg) : Prop where
  c0 : CellIs C ⟨g.b, 0, none⟩ g.cv
  c1 : CellIs C ⟨g.b, 1, none⟩ g.wv
  c2 : CellIs C ⟨g.b, 2, none⟩ (.map (some g.ba))
  c3 : CellIs C ⟨g.b, 3, none⟩ (.map (some g.br))
  c4 : CellIs C ⟨g.b, 4, none⟩ g.qv
  c5 : CellIs C ⟨g.b, 5, none⟩ g.lv
  q : EV C g.qv 1 (g.q.map fun k => [g.ptr k])
  l : EV C g.lv 2 (g.ls.map fun x => [.int .i64 (x.1 : Nat), x.2.1])
  ea : Hs C [(g.ba, mobj g.ea g.ca)]
  er : Hs C [(g.br, mobj g.er g.cr)]
theorem Bg.mem_fix {c : Chunk} {e : Nat × Obj} (hc : c ∈ g.fixed) (he : e ∈ c) : e ∈ g.L.flatten := by
  rw [List.flatten_append]
  exact List.mem_append_left _ (List.mem_flatten.2 ⟨c, hc, he⟩)
theorem Bg.mem_ts {t : Tg} {c : Chunk} {e : Nat × Obj} (ht : t ∈ g.ts) (hc : c ∈ t.chunks) (he : e ∈ c) : e ∈ g.L.flatten := by
  rw [List.flatten_append]
  exact List.mem_append_right _ (List.mem_flatten.2 ⟨c, List.mem_flatMap.2 ⟨t, ht, hc⟩, he⟩)
variable {C : World → Prop}
theorem Bg.OK.tf (h : g.OK) (hC : Hs C g.L.flatten) {t : Tg} (ht : t ∈ g.ts) : TF C t := by
  have hb : (t.b, row 113 t.cells) ∈ g.L.flatten := Bg.mem_ts ht (c := [(t.b, row 113 t.cells)]) (by simp) (by simp)
  exact ⟨hC.cell hb rfl, hC.cell hb rfl, hC.cell hb rfl, hC.cellsAre hb (fun j hj => by
      have : j < 4 := hj
      rcases (show j = 0 ∨ j = 1 ∨ j = 2 ∨ j = 3 by omega) with rfl | rfl | rfl | rfl <;> rfl), hC.cell hb rfl,
    (h.ok t ht).l.view (hC.sub fun e he => Bg.mem_ts ht (c := t.lc) (by simp) he), (h.ok t ht).o.view (hC.sub fun e he => Bg.mem_ts ht (c := t.oc) (by simp) he)⟩
theorem Bg.OK.bf (h : g.OK) (hC : Hs C g.L.flatten) : BF C g := by
  have hb : (g.b, row 96 g.cells) ∈ g.L.flatten := Bg.mem_fix (c := [(g.b, row 96 g.cells)]) (by simp) (by simp)
  exact ⟨hC.cell hb rfl, hC.cell hb rfl, hC.cell hb rfl, hC.cell hb rfl, hC.cell hb rfl, hC.cell hb rfl,
    h.qB.view (hC.sub fun e he => Bg.mem_fix (c := g.qc) (by simp) he), h.lB.view (hC.sub fun e he => Bg.mem_fix (c := g.lc) (by simp) he),
    hC.sub fun e he => Bg.mem_fix (c := [(g.ba, mobj g.ea g.ca)]) (by simp) he, hC.sub fun e he => Bg.mem_fix (c := [(g.br, mobj g.er g.cr)]) (by simp) he⟩
theorem Bg.OK.pool (hC : Hs C g.L.flatten) : Hs C g.p := hC.sub fun e he => Bg.mem_fix (c := g.p) (by simp) he
end
end Go.KL
end

section
/- Walks: usable, progress. -/
namespace Go.KL
open Go.Proofs
/-- Transactions as pointers, by their numbers. -/
abbrev ptrs (g : Bg) (l : List Nat) : List (List Value) := l.map fun k => [g.ptr k]
/-- Numbers as elements. -/
abbrev nums (l : List Nat) : List (List Value) := l.map fun k => [Value.int .i64 (k : Nat)]
theorem ptrs_len (g : Bg) (l : List Nat) : lens 1 (ptrs g l) := lens.map fun _ => rfl
theorem nums_len (l : List Nat) : lens 1 (nums l) := lens.map fun _ => rfl
theorem nums_flat (l : List Nat) : (nums l).flatten = l.map fun k => Value.int .i64 (k : Nat) := by
  induction l with
  | nil => rfl
  | cons a l ih => simp [nums] at ih ⊢; exact ih
attribute [local irreducible] SC St Fin Sq Ylds Doos Sets Enters Spec CellIs CellsAre Then Ret Rnd Chn resOK ints bools recs arr
set_option maxRecDepth 10000 in
theorem usable_spec {g : Bg} {C : World → Prop} (hF : BF C g) : Spec Tryz.prog 52 #[.pointer (some ⟨g.b, 0, none⟩)] C (fun _ : Unit => .bool true) (fun _ => C) := by
  obtain ⟨f0, f1, f2, f3, f4, f5, f6, f7, f8, f9⟩ := hF
  refine enter (args := [_]) Tryz.func52 rfl Tryz.ntmps52 rfl ?_
  refine c_seq ?_
  refine c_region ?_
  refine s_y (y_assign rfl) rfl rfl rfl ?_
  refine s_nil ?_
  refine f_then ?_
  refine c_seq ?_
  refine c_region ?_
  refine s_y (y_move rfl) rfl rfl rfl ?_
  refine s_y (y_neqPN Tryz.tab rfl rfl) rfl rfl rfl ?_
  refine s_y (y_move rfl) rfl rfl rfl ?_
  refine s_y (y_move rfl) rfl rfl rfl ?_
  refine s_y (y_nilP rfl) rfl rfl rfl ?_
  refine s_y (y_fieldAddrB Tryz.tab 2 rfl rfl rfl rfl rfl) rfl rfl rfl ?_
  refine s_y (y_load Tryz.tab rfl rfl f2) rfl rfl rfl ?_
  refine s_y (y_neqM0 Tryz.tab rfl rfl) rfl rfl rfl ?_
  refine s_y (y_pickT rfl rfl) rfl rfl rfl ?_
  refine s_y (y_assign rfl) rfl rfl rfl ?_
  refine s_nil ?_
  refine f_then ?_
  refine c_ret ?_
  exact f_ret () (res1 rfl rfl) (fun w h => h)
set_option maxRecDepth 10000 in
theorem usable_nil {C : World → Prop} : Spec Tryz.prog 52 #[.pointer none] C (fun _ : Unit => .bool false) (fun _ => C) := by
  refine enter (args := [_]) Tryz.func52 rfl Tryz.ntmps52 rfl ?_
  refine c_seq ?_
  refine c_region ?_
  refine s_y (y_assign rfl) rfl rfl rfl ?_
  refine s_nil ?_
  refine f_then ?_
  refine c_seq ?_
  refine c_region ?_
  refine s_y (y_move rfl) rfl rfl rfl ?_
  refine s_y (y_neqPN Tryz.tab rfl rfl) rfl rfl rfl ?_
  refine s_y (y_move rfl) rfl rfl rfl ?_
  iterate 5 refine s_skip rfl rfl rfl ?_
  refine s_y (y_pickF rfl rfl) rfl rfl rfl ?_
  refine s_y (y_assign rfl) rfl rfl rfl ?_
  refine s_nil ?_
  refine f_then ?_
  refine c_ret ?_
  exact f_ret () (res1 rfl rfl) (fun w h => h)
set_option maxRecDepth 10000 in
theorem progress_b {g : Bg} {w : World} {N : List Chunk} (hB : g.OK) (hH : Hs (K w N) g.L.flatten) : Spec Tryz.prog 110 #[.pointer (some ⟨g.b, 0, none⟩)] (K w N)
    (X := { x : Value × Chunk // BufR 105 1 x.1 x.2 (ptrs g (srt g.rn)) }) (fun x => x.1.1) (fun x => K w (x.1.2 :: N)) := by
  obtain ⟨f0, f1, f2, f3, f4, f5, f6, f7, f8, f9⟩ := hB.bf hH
  have hlen : (srt g.rn).length = g.er.length := by rw [hB.er_len]; exact List.length_mergeSort _
  have hml := hB.erM.len
  refine enter (args := [_]) Tryz.func110 rfl Tryz.ntmps110 rfl ?_
  refine c_seq ?_
  refine c_region ?_
  refine s_y (y_assign rfl) rfl rfl rfl ?_
  refine s_nil ?_
  refine f_then ?_
  refine c_seq ?_
  refine c_region ?_
  refine s_y (y_assign rfl) rfl rfl rfl ?_
  refine s_nil ?_
  refine f_then ?_
  refine c_seq ?_
  refine c_seq ?_
  refine c_region ?_
  refine s_y (y_move rfl) rfl rfl rfl ?_
  refine s_y (y_nilP rfl) rfl rfl rfl ?_
  refine s_y (y_fieldAddrB Tryz.tab 3 rfl rfl rfl rfl rfl) rfl rfl rfl ?_
  refine s_y (y_load Tryz.tab rfl rfl f3) rfl rfl rfl ?_
  refine s_call (en_f rfl Tryz.call126) keys_spec rfl rfl rfl (fun B => ?_)
  refine s_call (en_f rfl Tryz.call125) (sorted_spec (i := 0) rfl f9.cons hB.erM) rfl rfl rfl (fun x => ?_)
  obtain ⟨⟨v, c⟩, hv⟩ := x
  dsimp only at hv ⊢
  have hR : BufR 3 1 v c (nums (srt g.rn)) := ⟨nums_len _, by
    rw [nums_flat, List.length_map, hlen]
    rw [skeys_srt hB] at hv
    simpa [ivals, List.map_map, Function.comp_def] using hv⟩
  have hE := hR.view (C := K w (c :: [(B, row 93 [.map (some g.br)])] :: N)) (Hs.at 0 rfl)
  refine s_y (y_lenE Tryz.tab rfl (hE) rfl) rfl rfl rfl ?_
  refine s_y (y_move rfl) rfl rfl rfl ?_
  refine s_nil ?_
  refine f_then ?_
  refine c_block ?_
  have hl2 : (nums (srt g.rn)).length = (srt g.rn).length := List.length_map _
  refine c_loopP (α := Nat × Value × Chunk) (fun z => [(0, .pointer (some ⟨g.b, 0, none⟩)), (3, z.2.1), (11, v), (12, .int .i64 (nums (srt g.rn)).length), (13, .int .i64 (z.1 : Nat))]) (fun z => z.1 ≤ (srt g.rn).length ∧ BufR 105 1 z.2.1 z.2.2 (ptrs g ((srt g.rn).take z.1))) (fun z => K w (z.2.2 :: c :: [(B, row 93 [.map (some g.br)])] :: N)) (fun z => (srt g.rn).length - z.1) (0, .slice none 0 0, [])
    ⟨rfl, rfl, rfl, rfl, rfl, trivial⟩ ⟨Nat.zero_le _, .nil⟩ (fun w h => h.addNil) ?_
  rintro ⟨i, u, d⟩ ⟨hi, hu⟩
  dsimp only at hi hu ⊢
  by_cases c1 : i < (srt g.rn).length
  · obtain ⟨k, hk⟩ : ∃ k, (srt g.rn)[i]? = some k := ⟨(srt g.rn)[i], by simp [c1]⟩
    have hkm : k ∈ g.rn := mem_srt.1 (List.mem_of_getElem? hk)
    have hcell := hE.cell (i := i) (x := .int .i64 (k : Nat)) (by simp [hk])
    have hget := hB.er_get hkm
    refine c_seq ?_
    refine c_region ?_
    refine s_y (y_T (y_lss rfl rfl) (by omega)) rfl rfl rfl ?_
    refine s_nil ?_
    refine f_then ?_
    refine c_seq ?_
    refine c_condT rfl ?_
    refine c_skip ?_
    refine f_then ?_
    refine c_seq ?_
    refine c_block ?_
    refine c_seq ?_
    refine c_region ?_
    refine s_y (y_ixE Tryz.tab rfl rfl rfl rfl (hE.cons) _ rfl (by omega)) rfl rfl rfl ?_
    refine s_y (y_load Tryz.tab rfl rfl hcell.cons) rfl rfl rfl ?_
    refine s_y (y_assign rfl) rfl rfl rfl ?_
    refine s_nil ?_
    refine f_then ?_
    refine c_region ?_
    refine s_y (y_move rfl) rfl rfl rfl ?_
    refine s_y (y_move rfl) rfl rfl rfl ?_
    refine s_y (y_nilP rfl) rfl rfl rfl ?_
    refine s_y (y_fieldAddrB Tryz.tab 3 rfl rfl rfl rfl rfl) rfl rfl rfl ?_
    refine s_y (y_load Tryz.tab rfl rfl f3.cons.cons.cons) rfl rfl rfl ?_
    refine s_y (y_move rfl) rfl rfl rfl ?_
    refine s_y (y_lookupE Tryz.tab rfl rfl rfl rfl (fun _ => rfl) (f9.cons.cons.cons) (by assumption)) rfl rfl rfl ?_
    refine s_do (do_buildSlice1 Tryz.tab ⟨rfl, rfl, rfl, rfl⟩ rfl rfl rfl rfl) rfl rfl rfl (fun b24 => ?_)
    refine s_do (do_appendR (by_ := 8) Tryz.tab 1 rfl hu rfl ⟨rfl, rfl, rfl, rfl⟩ rfl (by simp) rfl (cells_row0 0 rfl rfl) rfl rfl (by simp; omega) (by omega)) rfl rfl rfl (fun x => ?_)
    obtain ⟨⟨u', d'⟩, hu'⟩ := x
    dsimp only at hu' ⊢
    refine s_y (y_assign rfl) rfl rfl rfl ?_
    refine s_nil ?_
    refine f_blockN ?_
    refine f_then ?_
    refine c_region ?_
    refine s_y (y_add rfl rfl (by omega)) rfl rfl rfl ?_
    refine s_y (y_move rfl) rfl rfl rfl ?_
    refine s_nil ?_
    exact f_roundP (i + 1, u', d') ⟨c1, by
      rw [List.take_add_one, hk]
      simpa [ptrs] using hu'⟩ (by dsimp only; omega) ⟨rfl, rfl, rfl, rfl, rfl, trivial⟩ (fun w h => h.tail)
  · obtain rfl : i = (srt g.rn).length := by omega
    rw [List.take_length] at hu
    refine c_seq ?_
    refine c_region ?_
    refine s_y (y_F (y_lss rfl rfl) (by omega)) rfl rfl rfl ?_
    refine s_nil ?_
    refine f_then ?_
    refine c_seq ?_
    refine c_condF rfl ?_
    refine c_exit ?_
    refine f_thenE ?_
    refine f_rndE ?_
    refine f_blockE ?_
    refine f_then ?_
    refine c_seq ?_
    refine c_region ?_
    refine s_y (y_move rfl) rfl rfl rfl ?_
    refine s_y (y_assign rfl) rfl rfl rfl ?_
    refine s_nil ?_
    refine f_then ?_
    refine c_ret ?_
    exact f_ret ⟨(u, d), hu⟩ (res1 rfl rfl) (fun w h => (h.dropAt 1).dropAt 1)
theorem filter_snoc {α : Type} {p : α → Bool} {l : List α} {i : Nat} {x : α} (h : l[i]? = some x) : (l.take (i + 1)).filter p = (l.take i).filter p ++ (if p x then [x] else []) := by
  rw [List.take_add_one, h, Option.toList_some, List.filter_append]
  congr 1
  simp only [List.filter_cons, List.filter_nil]
/-- What is needed to walk where the book is. -/
structure Lim (g : Bg) : Prop where
  lk : ∀ t ∈ g.ts, t.locks.length ≤ 1000000
  rn : g.rn.length < 1000000
  q : g.q.length < 1000000
set_option maxRecDepth 10000 in
theorem owners_b {g : Bg} {W : World} {N : List Chunk} {l : Lk} (hB : g.OK) (hL : Lim g) (hH : Hs (K W N) g.L.flatten) : Spec Tryz.prog 117 #[.pointer (some ⟨g.b, 0, none⟩), lkv l] (K W N)
    (X := { x : Value × Chunk // BufR 3 1 x.1 x.2 (nums (g.bk.owners l)) }) (fun x => x.1.1) (fun x => K W (x.1.2 :: N)) := by
  refine enter (args := [_, _]) Tryz.func117 rfl Tryz.ntmps117 rfl ?_
  refine c_seq ?_
  refine c_region ?_
  refine s_do (do_box rfl) rfl rfl rfl (fun b3 => ?_)
  refine s_y (y_assign rfl) rfl rfl rfl ?_
  refine s_nil ?_
  refine f_then ?_
  refine c_seq ?_
  refine c_region ?_
  refine s_y (y_assign rfl) rfl rfl rfl ?_
  refine s_nil ?_
  refine f_then ?_
  refine c_seq ?_
  refine c_seq ?_
  refine c_region ?_
  refine s_y (y_move rfl) rfl rfl rfl ?_
  refine s_call (en_f rfl Tryz.call110) (progress_b hB hH.cons) rfl rfl rfl (fun x => ?_)
  obtain ⟨⟨v, c⟩, hR⟩ := x
  dsimp only at hR ⊢
  have hE := hR.view (C := K W (c :: [(b3, row 111 (lkc l))] :: N)) (Hs.at 0 rfl)
  refine s_y (y_lenE Tryz.tab rfl (hE) rfl) rfl rfl rfl ?_
  refine s_y (y_move rfl) rfl rfl rfl ?_
  refine s_nil ?_
  refine f_then ?_
  refine c_block ?_
  have hl2 : (ptrs g (srt g.rn)).length = (srt g.rn).length := List.length_map _
  have hrl : (srt g.rn).length = g.rn.length := List.length_mergeSort _
  have hrb := hL.rn
  refine c_loopP (α := Nat × Value × Chunk) (fun z => [(0, .pointer (some ⟨g.b, 0, none⟩)), (3, .pointer (some ⟨b3, 0, none⟩)), (5, z.2.1), (9, v), (10, .int .i64 (ptrs g (srt g.rn)).length), (11, .int .i64 (z.1 : Nat))])
    (fun z => z.1 ≤ (srt g.rn).length ∧ BufR 3 1 z.2.1 z.2.2 (nums (((srt g.rn).take z.1).filter fun k => (g.bk.tx k).locks.any fun x => cfl x l))) (fun z => K W (z.2.2 :: c :: [(b3, row 111 (lkc l))] :: N)) (fun z => (srt g.rn).length - z.1) (0, .slice none 0 0, [])
    ⟨rfl, rfl, rfl, rfl, rfl, rfl, trivial⟩ ⟨Nat.zero_le _, .nil⟩ (fun w h => h.addNil) ?_
  rintro ⟨i, u, d⟩ ⟨hi, hu⟩
  dsimp only at hi hu ⊢
  by_cases c1 : i < (srt g.rn).length
  · obtain ⟨k, hk⟩ : ∃ k, (srt g.rn)[i]? = some k := ⟨(srt g.rn)[i], by simp [c1]⟩
    have hkm : k ∈ g.rn := mem_srt.1 (List.mem_of_getElem? hk)
    obtain ⟨t, htm, _, hid, hpb, htx⟩ := hB.at (hB.rnh k hkm)
    have hcell := hE.cell (i := i) (x := .pointer (some ⟨t.b, 0, none⟩)) (by simp [hk, Bg.ptr, hpb])
    obtain ⟨t0, t1, t2, t3, t7, tl, to⟩ := hB.tf hH htm
    have hfl : ∀ n, (((srt g.rn).take i).filter n).length < 1000000 := fun n => by
      have h1 := List.length_filter_le n ((srt g.rn).take i)
      have h2 := List.length_take_le i (srt g.rn)
      omega
    have hfs := filter_snoc (p := fun k => (g.bk.tx k).locks.any fun x => cfl x l) hk
    rw [htx] at hfs
    clear to t3 t7 t1
    refine c_seq ?_
    refine c_region ?_
    refine s_y (y_T (y_lss rfl rfl) (by omega)) rfl rfl rfl ?_
    refine s_nil ?_
    refine f_then ?_
    refine c_seq ?_
    refine c_condT rfl ?_
    refine c_skip ?_
    refine f_then ?_
    refine c_seq ?_
    refine c_block ?_
    refine c_seq ?_
    refine c_region ?_
    refine s_y (y_ixE Tryz.tab rfl rfl rfl rfl (hE.cons) _ rfl (by omega)) rfl rfl rfl ?_
    refine s_y (y_load Tryz.tab rfl rfl hcell.cons) rfl rfl rfl ?_
    refine s_y (y_assign rfl) rfl rfl rfl ?_
    refine s_nil ?_
    refine f_then ?_
    refine c_seq ?_
    refine c_region ?_
    refine s_y (y_move rfl) rfl rfl rfl ?_
    refine s_y (y_nilP rfl) rfl rfl rfl ?_
    refine s_y (y_fieldAddrB Tryz.tab 2 rfl rfl rfl rfl rfl) rfl rfl rfl ?_
    refine s_y (y_load Tryz.tab rfl rfl t2.cons.cons.cons) rfl rfl rfl ?_
    refine s_y (y_makeFunc rfl rfl) rfl rfl rfl ?_
    refine s_call (en_f rfl Tryz.call131) (contains_spec (L := t.locks) (l := l) tl.cons.cons.cons (cells_row0 2 rfl rfl) (hL.lk t htm)) rfl rfl rfl (fun _ => ?_)
    cases hc : t.locks.any fun x => cfl x l with
    | true =>
      rw [show (Tg.tx t).locks = t.locks from rfl, hc, if_pos rfl] at hfs
      refine s_nil ?_
      refine f_then ?_
      refine c_condT rfl ?_
      refine c_region ?_
      refine s_y (y_move rfl) rfl rfl rfl ?_
      refine s_y (y_move rfl) rfl rfl rfl ?_
      refine s_y (y_nilP rfl) rfl rfl rfl ?_
      refine s_y (y_fieldAddr0 Tryz.tab rfl rfl rfl rfl rfl) rfl rfl rfl ?_
      refine s_y (y_load Tryz.tab rfl rfl t0.cons.cons.cons) rfl rfl rfl ?_
      refine s_do (do_buildSlice1 Tryz.tab ⟨rfl, rfl, rfl, rfl⟩ rfl rfl rfl rfl) rfl rfl rfl (fun b26 => ?_)
      rw [hid]
      refine s_do (do_appendR (by_ := 8) Tryz.tab 1 rfl hu rfl ⟨rfl, rfl, rfl, rfl⟩ rfl (by simp) rfl (cells_row0 0 rfl rfl) rfl rfl (by rw [List.length_map]; exact hfl _) (by omega)) rfl rfl rfl (fun x => ?_)
      obtain ⟨⟨u', d'⟩, hu'⟩ := x
      dsimp only at hu' ⊢
      refine s_y (y_assign rfl) rfl rfl rfl ?_
      refine s_nil ?_
      refine f_blockN ?_
      refine f_then ?_
      refine c_region ?_
      refine s_y (y_add rfl rfl (by omega)) rfl rfl rfl ?_
      refine s_y (y_move rfl) rfl rfl rfl ?_
      refine s_nil ?_
      exact f_roundP (i + 1, u', d') ⟨c1, by
        rw [hfs]
        simpa [nums] using hu'⟩ (by dsimp only; omega) ⟨rfl, rfl, rfl, rfl, rfl, rfl, trivial⟩ (fun w h => h.tail)
    | false =>
      rw [show (Tg.tx t).locks = t.locks from rfl, hc, if_neg (by decide), List.append_nil] at hfs
      refine s_nil ?_
      refine f_then ?_
      refine c_condF rfl ?_
      refine c_skip ?_
      refine f_blockN ?_
      refine f_then ?_
      refine c_region ?_
      refine s_y (y_add rfl rfl (by omega)) rfl rfl rfl ?_
      refine s_y (y_move rfl) rfl rfl rfl ?_
      refine s_nil ?_
      exact f_roundP (i + 1, u, d) ⟨c1, by rw [hfs]; exact hu⟩ (by dsimp only; omega) ⟨rfl, rfl, rfl, rfl, rfl, rfl, trivial⟩ (fun w h => h)
  · obtain rfl : i = (srt g.rn).length := by omega
    rw [List.take_length] at hu
    refine c_seq ?_
    refine c_region ?_
    refine s_y (y_F (y_lss rfl rfl) (by omega)) rfl rfl rfl ?_
    refine s_nil ?_
    refine f_then ?_
    refine c_seq ?_
    refine c_condF rfl ?_
    refine c_exit ?_
    refine f_thenE ?_
    refine f_rndE ?_
    refine f_blockE ?_
    refine f_then ?_
    refine c_seq ?_
    refine c_region ?_
    refine s_y (y_move rfl) rfl rfl rfl ?_
    refine s_y (y_assign rfl) rfl rfl rfl ?_
    refine s_nil ?_
    refine f_then ?_
    refine c_ret ?_
    exact f_ret ⟨(u, d), hu⟩ (res1 rfl rfl) (fun w h => (h.dropAt 1).dropAt 1)
end Go.KL
end

section
/- Walks: ahead, free. -/
namespace Go.KL
open Go.Proofs
attribute [local irreducible] SC St Fin Sq Ylds Doos Sets Enters Spec CellIs CellsAre Then Ret Rnd Chn resOK ints bools recs arr
set_option maxRecDepth 10000 in
set_option maxHeartbeats 4000000 in
theorem ahead_b {g : Bg} {W : World} {N : List Chunk} {l : Lk} {fr : List Nat} {fv bv : Value} (hB : g.OK) (hH : Hs (K W N) g.L.flatten) (hf : EV (K W N) fv 1 (ptrs g fr)) (hfh : ∀ k ∈ fr, g.has k) (hfl : fr.length < 1000000) : Spec Tryz.prog 118 #[bv, lkv l, fv] (K W N)
    (X := { x : Value × Chunk // BufR 3 1 x.1 x.2 (nums (g.bk.ahead l fr)) }) (fun x => x.1.1) (fun x => K W (x.1.2 :: N)) := by
  refine enter (args := [_, _, _]) Tryz.func118 rfl Tryz.ntmps118 rfl ?_
  refine c_seq ?_
  refine c_region ?_
  refine s_do (do_box rfl) rfl rfl rfl (fun b4 => ?_)
  refine s_y (y_assign rfl) rfl rfl rfl ?_
  refine s_nil ?_
  refine f_then ?_
  refine c_seq ?_
  refine c_region ?_
  refine s_y (y_assign rfl) rfl rfl rfl ?_
  refine s_nil ?_
  refine f_then ?_
  refine c_seq ?_
  refine c_seq ?_
  refine c_region ?_
  refine s_y (y_move rfl) rfl rfl rfl ?_
  refine s_y (y_lenE Tryz.tab rfl (hf.cons) rfl) rfl rfl rfl ?_
  refine s_y (y_move rfl) rfl rfl rfl ?_
  refine s_nil ?_
  refine f_then ?_
  refine c_block ?_
  have hl2 : (ptrs g fr).length = fr.length := List.length_map _
  refine c_loopP (α := Nat × Value × Chunk) (fun z => [(4, .pointer (some ⟨b4, 0, none⟩)), (7, z.2.1), (10, fv), (11, .int .i64 (ptrs g fr).length), (12, .int .i64 (z.1 : Nat))])
    (fun z => z.1 ≤ fr.length ∧ BufR 3 1 z.2.1 z.2.2 (nums ((fr.take z.1).filter fun k => cfl (g.bk.tx k).req l))) (fun z => K W (z.2.2 :: [(b4, row 111 (lkc l))] :: N)) (fun z => fr.length - z.1) (0, .slice none 0 0, [])
    ⟨rfl, rfl, rfl, rfl, rfl, trivial⟩ ⟨Nat.zero_le _, .nil⟩ (fun w h => h.addNil) ?_
  rintro ⟨i, u, d⟩ ⟨hi, hu⟩
  dsimp only at hi hu ⊢
  by_cases c1 : i < fr.length
  · obtain ⟨k, hk⟩ : ∃ k, fr[i]? = some k := ⟨fr[i], by simp [c1]⟩
    have hkm : k ∈ fr := List.mem_of_getElem? hk
    obtain ⟨t, htm, _, hid, hpb, htx⟩ := hB.at (hfh k hkm)
    have hcell := hf.cell (i := i) (x := .pointer (some ⟨t.b, 0, none⟩)) (by simp [hk, Bg.ptr, hpb])
    obtain ⟨t0, t1, t2, t3, t7, tl, to⟩ := hB.tf hH htm
    have hfl : ∀ n, ((fr.take i).filter n).length < 1000000 := fun n => by
      have h1 := List.length_filter_le n (fr.take i)
      have h2 := List.length_take_le i fr
      omega
    have hfs := filter_snoc (p := fun k => cfl (g.bk.tx k).req l) hk
    rw [htx] at hfs
    clear to t7 t1 tl
    refine c_seq ?_
    refine c_region ?_
    refine s_y (y_T (y_lss rfl rfl) (by omega)) rfl rfl rfl ?_
    refine s_nil ?_
    refine f_then ?_
    refine c_seq ?_
    refine c_condT rfl ?_
    refine c_skip ?_
    refine f_then ?_
    refine c_seq ?_
    refine c_block ?_
    refine c_seq ?_
    refine c_region ?_
    refine s_y (y_ixE Tryz.tab rfl rfl rfl rfl (hf.cons.cons) _ rfl (by omega)) rfl rfl rfl ?_
    refine s_y (y_load Tryz.tab rfl rfl hcell.cons.cons) rfl rfl rfl ?_
    refine s_y (y_assign rfl) rfl rfl rfl ?_
    refine s_nil ?_
    refine f_then ?_
    refine c_seq ?_
    refine c_plan [.c 0, .c 1, .c 2, .c 3, .c 4, .c 5] [] ((K W (d :: [(b4, row 111 (lkc l))] :: N))) Tryz.mixed (by kernel_rfl) rfl K.cl ?_
    refine d_c rfl (Qui.ylds (y_move rfl)) rfl rfl rfl (fun _ h => h) K.cl ?_
    refine d_c rfl (Qui.ylds (y_nilP rfl)) rfl rfl rfl (fun _ h => h) K.cl ?_
    refine d_c rfl (Qui.ylds (y_fieldAddrB Tryz.tab 3 rfl rfl rfl rfl rfl)) rfl rfl rfl (fun _ h => h) K.cl ?_
    refine d_c rfl (Qui.ylds (y_loadA Tryz.tab rfl rfl rfl rfl t3.cons.cons)) rfl rfl rfl (fun _ h => h) K.cl ?_
    refine d_c rfl (Qui.ylds (y_loadA Tryz.tab rfl rfl rfl rfl (cells_row0 1 rfl rfl))) rfl rfl rfl (fun _ h => h) K.cl ?_
    refine d_c rfl ((Qui.any (en_f rfl Tryz.call133) (fun _ _ => cf_spec))) rfl rfl rfl (fun _ h => h) K.cl ?_
    refine d_nil ?_
    refine f_then ?_
    cases hc : cfl t.req l with
    | true =>
      rw [show (Tg.tx t).req = t.req from rfl, hc, if_pos rfl] at hfs
      refine c_condT rfl ?_
      refine c_region ?_
      refine s_y (y_move rfl) rfl rfl rfl ?_
      refine s_y (y_move rfl) rfl rfl rfl ?_
      refine s_y (y_nilP rfl) rfl rfl rfl ?_
      refine s_y (y_fieldAddr0 Tryz.tab rfl rfl rfl rfl rfl) rfl rfl rfl ?_
      refine s_y (y_load Tryz.tab rfl rfl t0.cons.cons) rfl rfl rfl ?_
      refine s_do (do_buildSlice1 Tryz.tab ⟨rfl, rfl, rfl, rfl⟩ rfl rfl rfl rfl) rfl rfl rfl (fun b27 => ?_)
      rw [hid]
      refine s_do (do_appendR (by_ := 8) Tryz.tab 1 rfl hu rfl ⟨rfl, rfl, rfl, rfl⟩ rfl (by simp) rfl (cells_row0 0 rfl rfl) rfl rfl (by rw [List.length_map]; exact hfl _) (by omega)) rfl rfl rfl (fun x => ?_)
      obtain ⟨⟨u', d'⟩, hu'⟩ := x
      dsimp only at hu' ⊢
      refine s_y (y_assign rfl) rfl rfl rfl ?_
      refine s_nil ?_
      refine f_blockN ?_
      refine f_then ?_
      refine c_region ?_
      refine s_y (y_add rfl rfl (by omega)) rfl rfl rfl ?_
      refine s_y (y_move rfl) rfl rfl rfl ?_
      refine s_nil ?_
      exact f_roundP (i + 1, u', d') ⟨c1, by
        rw [hfs]
        simpa [nums] using hu'⟩ (by dsimp only; omega) ⟨rfl, rfl, rfl, rfl, rfl, trivial⟩ (fun w h => h.tail)
    | false =>
      rw [show (Tg.tx t).req = t.req from rfl, hc, if_neg (by decide), List.append_nil] at hfs
      refine c_condF rfl ?_
      refine c_skip ?_
      refine f_blockN ?_
      refine f_then ?_
      refine c_region ?_
      refine s_y (y_add rfl rfl (by omega)) rfl rfl rfl ?_
      refine s_y (y_move rfl) rfl rfl rfl ?_
      refine s_nil ?_
      exact f_roundP (i + 1, u, d) ⟨c1, by rw [hfs]; exact hu⟩ (by dsimp only; omega) ⟨rfl, rfl, rfl, rfl, rfl, trivial⟩ (fun w h => h)
  · obtain rfl : i = fr.length := by omega
    rw [List.take_length] at hu
    refine c_seq ?_
    refine c_region ?_
    refine s_y (y_F (y_lss rfl rfl) (by omega)) rfl rfl rfl ?_
    refine s_nil ?_
    refine f_then ?_
    refine c_seq ?_
    refine c_condF rfl ?_
    refine c_exit ?_
    refine f_thenE ?_
    refine f_rndE ?_
    refine f_blockE ?_
    refine f_then ?_
    refine c_seq ?_
    refine c_region ?_
    refine s_y (y_move rfl) rfl rfl rfl ?_
    refine s_y (y_assign rfl) rfl rfl rfl ?_
    refine s_nil ?_
    refine f_then ?_
    refine c_ret ?_
    exact f_ret ⟨(u, d), hu⟩ (res1 rfl rfl) (fun w h => h.dropAt 1)
set_option maxRecDepth 10000 in
set_option maxHeartbeats 4000000 in
theorem free_b {g : Bg} {W : World} {N : List Chunk} {l : Lk} {fr : List Nat} {fv : Value} (hB : g.OK) (hL : Lim g) (hH : Hs (K W N) g.L.flatten) (hf : EV (K W N) fv 1 (ptrs g fr)) (hfh : ∀ k ∈ fr, g.has k) (hfl : fr.length < 1000000) : Spec Tryz.prog 98 #[.pointer (some ⟨g.b, 0, none⟩), lkv l, fv] (K W N)
    (fun _ : Unit => .bool (g.bk.free l fr)) (fun _ => K W N) := by
  refine enter (args := [_, _, _]) Tryz.func98 rfl Tryz.ntmps98 rfl ?_
  refine c_seq ?_
  refine c_region ?_
  refine s_do (do_box rfl) rfl rfl rfl (fun b4 => ?_)
  refine s_y (y_assign rfl) rfl rfl rfl ?_
  refine s_nil ?_
  refine f_then ?_
  refine c_seq ?_
  refine c_region ?_
  refine s_y (y_move rfl) rfl rfl rfl ?_
  refine s_y (y_loadA Tryz.tab rfl rfl rfl rfl (cells_row0 0 rfl rfl)) rfl rfl rfl ?_
  refine s_call (en_f rfl Tryz.call117) (owners_b (l := l) hB hL hH.cons) rfl rfl rfl (fun x => ?_)
  obtain ⟨⟨v, c⟩, hR⟩ := x
  dsimp only at hR ⊢
  have hl2 : (nums (g.bk.owners l)).length = (g.bk.owners l).length := List.length_map _
  unfold Bk.free
  cases ho : (g.bk.owners l).isEmpty with
  | true =>
    have h0 : (g.bk.owners l).length = 0 := by rw [List.isEmpty_iff] at ho; rw [ho]; rfl
    refine s_y (y_lenR' Tryz.tab rfl hR rfl) rfl rfl rfl ?_
    refine s_y (y_T (y_eql rfl rfl) (by omega)) rfl rfl rfl ?_
    refine s_y (y_move rfl) rfl rfl rfl ?_
    refine s_y (y_move rfl) rfl rfl rfl ?_
    refine s_y (y_loadA Tryz.tab rfl rfl rfl rfl (cells_row0 1 rfl rfl)) rfl rfl rfl ?_
    refine s_y (y_move rfl) rfl rfl rfl ?_
    refine s_call (en_f rfl Tryz.call118) (ahead_b (l := l) hB hH.cons.cons hf.cons.cons hfh hfl) rfl rfl rfl (fun x => ?_)
    obtain ⟨⟨v2, c2⟩, hR2⟩ := x
    dsimp only at hR2 ⊢
    have hl3 : (nums (g.bk.ahead l fr)).length = (g.bk.ahead l fr).length := List.length_map _
    cases ha : (g.bk.ahead l fr).isEmpty with
    | true =>
      have h1 : (g.bk.ahead l fr).length = 0 := by rw [List.isEmpty_iff] at ha; rw [ha]; rfl
      refine s_y (y_lenR' Tryz.tab rfl hR2 rfl) rfl rfl rfl ?_
      refine s_y (y_T (y_eql rfl rfl) (by omega)) rfl rfl rfl ?_
      refine s_y (y_pickT rfl rfl) rfl rfl rfl ?_
      refine s_y (y_assign rfl) rfl rfl rfl ?_
      refine s_nil ?_
      refine f_then ?_
      refine c_ret ?_
      exact f_ret () (res1 rfl rfl) (fun w h => h.tail.tail.tail)
    | false =>
      have h1 : ¬ (g.bk.ahead l fr).length = 0 := fun e => by rw [List.isEmpty_iff.2 (List.eq_nil_of_length_eq_zero e)] at ha; cases ha
      refine s_y (y_lenR' Tryz.tab rfl hR2 rfl) rfl rfl rfl ?_
      refine s_y (y_F (y_eql rfl rfl) (by omega)) rfl rfl rfl ?_
      refine s_y (y_pickT rfl rfl) rfl rfl rfl ?_
      refine s_y (y_assign rfl) rfl rfl rfl ?_
      refine s_nil ?_
      refine f_then ?_
      refine c_ret ?_
      exact f_ret () (res1 rfl rfl) (fun w h => h.tail.tail.tail)
  | false =>
    have h0 : ¬ (g.bk.owners l).length = 0 := fun e => by rw [List.isEmpty_iff.2 (List.eq_nil_of_length_eq_zero e)] at ho; cases ho
    refine s_y (y_lenR' Tryz.tab rfl hR rfl) rfl rfl rfl ?_
    refine s_y (y_F (y_eql rfl rfl) (by omega)) rfl rfl rfl ?_
    refine s_y (y_move rfl) rfl rfl rfl ?_
    iterate 6 refine s_skip rfl rfl rfl ?_
    refine s_y (y_pickF rfl rfl) rfl rfl rfl ?_
    refine s_y (y_assign rfl) rfl rfl rfl ?_
    refine s_nil ?_
    refine f_then ?_
    refine c_ret ?_
    exact f_ret () (res1 rfl rfl) (fun w h => h.tail.tail)
end Go.KL
end

section
/- Who waits for whom: searching; plain. No program in sight. -/
namespace Go.KL
theorem tw_take {q : List Nat} {k : Nat} : ∀ {i : Nat}, (∀ j, j < i → q[j]? ≠ some k) → q[i]? = some k → q.takeWhile (fun j => !decide (j = k)) = q.take i := by
  induction q with
  | nil => intro i _ h; simp at h
  | cons a q ih =>
    intro i h1 h2
    cases i with
    | zero =>
      simp at h2
      simp [h2]
    | succ i =>
      have ha : a ≠ k := fun e => h1 0 (by omega) (by simp [e])
      rw [List.takeWhile_cons, if_pos (by simp [ha]), List.take_succ_cons, ih (i := i) (fun j hj => by simpa using h1 (j + 1) (by omega)) (by simpa using h2)]
namespace Bk
variable {A : Bk}
theorem R.mem {k j : Nat} (h : A.R k j) : ∃ i, j ∈ A.waits i := by
  cases h with
  | one h => exact ⟨_, h⟩
  | more _ h => exact ⟨_, h⟩
theorem waits_sub {k j : Nat} (h : j ∈ A.waits k) : j ∈ A.rn ∨ j ∈ A.q := by
  unfold waits at h
  split at h
  · simp at h
  · rcases List.mem_append.1 h with h | h
    · exact .inl (mem_srt.1 (List.mem_filter.1 h).1)
    · exact .inr ((List.takeWhile_sublist _).subset (List.mem_filter.1 h).1)
theorem R.sub {k j : Nat} (h : A.R k j) : j ∈ A.rn ∨ j ∈ A.q := by
  obtain ⟨i, h⟩ := h.mem
  exact waits_sub h
theorem waits_len (k : Nat) : (A.waits k).length ≤ A.rn.length + A.q.length := by
  unfold waits
  split
  · simp
  · rw [List.length_append]
    have h1 := List.length_filter_le (fun j => (A.tx j).locks.any fun x => cfl x (A.tx k).req) (srt A.rn)
    have h2 := List.length_filter_le (fun j => cfl (A.tx j).req (A.tx k).req) (A.before k)
    have h3 := (List.takeWhile_sublist (fun j => !decide (j = k)) (l := A.q)).length_le
    have h4 : (srt A.rn).length = A.rn.length := List.length_mergeSort _
    unfold owners ahead before at *
    omega
/-- The state of a search from k: what was seen, what is still to be looked at. -/
structure Srch (A : Bk) (k : Nat) (S l : List Nat) : Prop where
  nd : S.Nodup
  hs : ∀ x ∈ S, A.R k x
  hl : ∀ x ∈ l, A.R k x
  o : ∀ x ∈ A.waits k, x ∈ S ∨ x ∈ l
  c : ∀ s ∈ S, ∀ x ∈ A.waits s, x ∈ S ∨ x ∈ l
theorem Srch.begin (k : Nat) : Srch A k [] (A.waits k) := ⟨List.nodup_nil, fun x h => by simp at h, fun x h => .one h, fun x h => .inr h, fun s h => by simp at h⟩
theorem Srch.skip {k a : Nat} {S l : List Nat} (h : Srch A k S (a :: l)) (ha : a ∈ S) : Srch A k S l :=
  ⟨h.nd, h.hs, fun x hx => h.hl x (by simp [hx]), fun x hx => by
    rcases h.o x hx with h1 | h1
    · exact .inl h1
    · rcases List.mem_cons.1 h1 with rfl | h1
      · exact .inl ha
      · exact .inr h1, fun s hs x hx => by
    rcases h.c s hs x hx with h1 | h1
    · exact .inl h1
    · rcases List.mem_cons.1 h1 with rfl | h1
      · exact .inl ha
      · exact .inr h1⟩
theorem Srch.step {k a : Nat} {S l : List Nat} (h : Srch A k S (a :: l)) (ha : a ∉ S) : Srch A k (S ++ [a]) (l ++ A.waits a) := by
  have hra := h.hl a (by simp)
  refine ⟨List.nodup_append.2 ⟨h.nd, by simp, fun x hx y hy => ?_⟩, fun x hx => ?_, fun x hx => ?_, fun x hx => ?_, fun s hs x hx => ?_⟩
  · rw [List.mem_singleton.1 hy]
    rintro rfl
    exact ha hx
  · rcases List.mem_append.1 hx with hx | hx
    · exact h.hs x hx
    · rw [List.mem_singleton.1 hx]; exact hra
  · rcases List.mem_append.1 hx with hx | hx
    · exact h.hl x (by simp [hx])
    · exact .more hra hx
  · rcases h.o x hx with h1 | h1
    · exact .inl (by simp [h1])
    · rcases List.mem_cons.1 h1 with rfl | h1
      · exact .inl (by simp)
      · exact .inr (by simp [h1])
  · rcases List.mem_append.1 hs with hs | hs
    · rcases h.c s hs x hx with h1 | h1
      · exact .inl (by simp [h1])
      · rcases List.mem_cons.1 h1 with rfl | h1
        · exact .inl (by simp)
        · exact .inr (by simp [h1])
    · rw [List.mem_singleton.1 hs] at hx
      exact .inr (by simp [hx])
theorem Srch.all {k : Nat} {S : List Nat} (h : Srch A k S []) {j : Nat} (hj : A.R k j) : j ∈ S := by
  induction hj with
  | one g => exact (h.o _ g).elim id fun h => by simp at h
  | more _ g ih => exact (h.c _ ih _ g).elim id fun h => by simp at h
theorem Srch.iff {k : Nat} {S : List Nat} (h : Srch A k S []) {j : Nat} : j ∈ S ↔ A.R k j := ⟨h.hs j, h.all⟩
theorem nodup_le : ∀ {S L : List Nat}, S.Nodup → (∀ x ∈ S, x ∈ L) → S.length ≤ L.length
  | [], L, _, _ => Nat.zero_le _
  | a :: S, L, hn, h => by
    obtain ⟨h1, h2⟩ := List.nodup_cons.1 hn
    have ha := h a (by simp)
    have := nodup_le (S := S) (L := L.erase a) h2 fun x hx => (List.mem_erase_of_ne (fun e => h1 (by rw [← e]; exact hx))).2 (h x (by simp [hx]))
    rw [List.length_erase_of_mem ha] at this
    have := List.length_pos_of_mem ha
    simp only [List.length_cons]
    omega
theorem Srch.len {k : Nat} {S l : List Nat} (h : Srch A k S l) : S.length ≤ A.rn.length + A.q.length := by
  rw [← List.length_append]
  exact nodup_le h.nd fun x hx => List.mem_append.2 (h.hs x hx).sub
end Bk
end Go.KL
end

section
/- Rows of numbers that shrink at the front and grow at the end. No program in sight. -/
namespace Go.KL
theorem och_eq0 (e : TypeId) (o : Own) (xs : List Value) : och e o (xs ++ []) = och e o xs := by rw [List.append_nil]
structure BufP (e : TypeId) (v : Value) (c : Chunk) (xs : List Value) : Prop where
  ok : (xs = [] ∧ v = .slice none 0 0 ∧ c = []) ∨ ∃ o : Own, v = osl o xs.length ∧ c = och e o xs ∧ owf 1 o xs.length xs
/-- A slice without its first element. -/
def shv : Value → Value
  | .slice p l c => .slice (if c = 1 then p else p.map (·.add (1 * 1))) (l - 1) (c - 1)
  | v => v
section
variable {P : Program} {W w : World} {Ls : List Chunk} {n : Nat} {σ : Slots} {C D : World → Prop} {dst : Option Tmp} {ty : TypeId} {pos : String} {after : Array Edge} {guard : Option (Nat × Bool)} {e : TypeId} {v : Value} {c : Chunk} {xs : List Value}
theorem BufR.p {rows : List (List Value)} (h : BufR e 1 v c rows) : BufP e v c rows.flatten := by
  have hl := flat_len h.len
  rw [Nat.mul_one] at hl
  rcases h.buf.ok with ⟨h1, h2, h3, h4⟩ | ⟨o, h1, h2, h3, _⟩
  · exact ⟨.inl ⟨h2, h3, h4⟩⟩
  · exact ⟨.inr ⟨o, by rw [hl]; exact h1, h2, by rw [hl]; exact h3⟩⟩
theorem BufP.view (h : BufP e v c xs) (hc : Hs C c) : EV C v 1 (xs.map fun x => [x]) := by
  refine ⟨lens.map fun _ => rfl, ?_⟩
  rw [List.length_map]
  rcases h.ok with ⟨rfl, rfl, rfl⟩ | ⟨o, rfl, rfl, ho⟩
  · exact SlV.empty
  · refine ⟨_, _, rfl, ho.le, fun _ => ⟨o.b, o.pre.length, rfl, fun i hi j hj => ?_⟩⟩
    obtain rfl : j = 0 := by omega
    refine hc.cell (e := e) List.mem_cons_self ?_
    rw [show o.pre.length + i * 1 + 0 = o.pre.length + i by omega, och_get (by omega)]
    simp [rix, List.getD_eq_getElem?_getD, hi]
theorem y_lenP (T : Tab P) {x : Operand} {t : TypeId} (hx : ev σ x = some v) (hB : BufP e v c xs) (ht : T.und t = some (.slice e)) :
    Ylds P n σ C ⟨dst, .call ⟨.builtin .len, #[x], #[t]⟩, ty, pos, after, guard⟩ (.int .i64 xs.length) := by
  rcases hB.ok with ⟨rfl, rfl, rfl⟩ | ⟨o, rfl, rfl, ho⟩
  · exact y_len T hx ht
  · exact y_len T hx ht
theorem y_shiftP (T : Tab P) {x a1 : Operand} {t : TypeId} {y : Value} (hx : ev σ x = some v) (hl : ev σ a1 = some (.int .i64 1)) (hB : BufP e v c (y :: xs)) (ht : T.und t = some (.slice e)) (hs : T.size e = some 1) :
    Ylds P n σ C ⟨dst, .slice t x (some a1) none none, ty, pos, after, guard⟩ (shv v) := by
  rcases hB.ok with ⟨h, _⟩ | ⟨o, rfl, rfl, ho⟩
  · cases h
  · exact y_sliceFrom T hx hl ht hs (lo := 1) rfl (by simp) ho.le
theorem BufP.shift {y : Value} (hB : BufP e v c (y :: xs)) : BufP e (shv v) c xs := by
  rcases hB.ok with ⟨h, _⟩ | ⟨o, rfl, rfl, ho⟩
  · cases h
  · have h1 : owf 1 o (xs.length + 1) (y :: xs) := ho
    refine ⟨.inr ⟨o.shift y, ?_, och_shift e h1, owf_shift h1⟩⟩
    have := osl_shift o xs.length y
    simpa [shv] using this
theorem y_append_nn (T : Tab P) {x y : Operand} {t e : TypeId} {s by_ c2 : Nat} {z : List Value} {pa : Option Addr} (hx : ev σ x = some (.slice none 0 0)) (hy : ev σ y = some (.slice pa 0 c2)) (hT : TabE T t e s by_ z) :
    Ylds P n σ C ⟨dst, .call ⟨.builtin .append, #[x, y], #[t, t]⟩, ty, pos, after, guard⟩ (.slice none 0 0) := by
  intro a w hE hw
  obtain ⟨inf, zv, i1, i2, i3, i4, i5⟩ := hT.info
  have hf := run_firstCells_zero (P := P) (s := s) (c := c2) (pa := pa) w
  have hres : ∀ r, (execOp a.eval ⟨dst, .call ⟨.builtin .append, #[x, y], #[t, t]⟩, ty, pos, after, guard⟩).run P w = r ↔ ((Builtin.append_ #[t, t] ty #[.slice none 0 0, .slice pa 0 c2]).run P w).andThen (fun v w' => .ok (.value v) w') = r := by
    intro r
    simp [execOp, resolve, invoke, builtin, ev_eval hE hx, ev_eval hE hy]
  rw [hres]
  simp [Builtin.append_, run_und T hT.und, sizeOf, typeInfo, i1, i2, Builtin.lenOf, hf]
theorem set_same {i : Nat} {c : Chunk} (hl : i < Ls.length) (hi : Ls.getD i [] = c) : Ls.set i c = Ls := by
  apply List.ext_getElem?
  intro k
  rw [List.getElem?_set]
  split
  · rename_i h; subst h
    rw [← hi, List.getD_eq_getElem?_getD, List.getElem?_eq_getElem hl]
    simp
  · rfl
/-- A view of numbers is appended. -/
theorem do_appendP (T : Tab P) (i : Nat) {x y : Operand} {t : TypeId} {by_ : Nat} {z : List Value} {u : Value} {ys : List Value} (hx : ev σ x = some v) (hB : BufP e v c xs) (hy : ev σ y = some u) (hV : EV (K W Ls) u 1 (ys.map fun x => [x]))
    (hT : TabE T t e 1 by_ z) (hzs : z.length = 1) (hl : i < Ls.length) (hi : Ls.getD i [] = c) (h1 : ys.all Value.oneCell' = true) (hmax : xs.length + ys.length < 1000000) (hby : by_ ≤ 1000) :
    Doos P n σ (K W Ls) ⟨dst, .call ⟨.builtin .append, #[x, y], #[t, t]⟩, ty, pos, after, guard⟩ (X := { u : Value × Chunk // BufP e u.1 u.2 (xs ++ ys) }) (fun u => u.1.1) (fun u => K W (Ls.set i u.1.2)) := by
  have h2 : (xs.length + ys.length) * by_ ≤ 1000000 * 1000 := Nat.mul_le_mul (by omega) hby
  have hV' := hV.view
  obtain ⟨pa, k, rfl, hk, hc⟩ := hV.view
  rw [List.length_map] at hy hk hc hV'
  by_cases h0 : ys.length = 0
  · have hys : ys = [] := List.eq_nil_of_length_eq_zero h0
    subst hys
    rcases hB.ok with ⟨rfl, rfl, rfl⟩ | ⟨o, rfl, rfl, ho⟩
    · intro a w hE hw
      refine ⟨⟨(.slice none 0 0, []), ⟨.inl ⟨rfl, rfl, rfl⟩⟩⟩, w, ?_, ?_⟩
      · exact y_append_nn (C := K W Ls) T hx hy hT a w hE hw
      · show K W (Ls.set i []) w
        rw [set_same hl hi]; exact hw
    · intro a w hE hw
      obtain ⟨o', w', hr, hk'⟩ := do_append0 (W := W) (Ls := Ls) (n := n) (dst := dst) (ty := ty) (pos := pos) (after := after) (guard := guard) T i hx hy hT hi ho a w hE hw
      refine ⟨⟨(osl o'.1 xs.length, och e o'.1 (xs ++ [])), ⟨.inr ⟨o'.1, by simp, rfl, by simpa using o'.2.1⟩⟩⟩, w', hr, hk'⟩
  · obtain ⟨b, o2, rfl, _⟩ := hc (by omega)
    have hn : CellsAre (K W Ls) ⟨b, o2, none⟩ ys := by
      intro w hw j hj
      have h3 := hV'.cell (i := j) (j := 0) (by omega) (by omega) w hw
      rw [addr_add]
      simp only [vblk, voff, Nat.mul_one, Nat.add_zero] at h3
      rw [h3]
      simp [rix, List.getD_eq_getElem?_getD, hj]
    rcases hB.ok with ⟨rfl, rfl, rfl⟩ | ⟨o, rfl, rfl, ho⟩
    · intro a w hE hw
      obtain ⟨o', w', hr, hk'⟩ := do_append_nil (W := W) (Ls := Ls) (n := n) (dst := dst) (ty := ty) (pos := pos) (after := after) (guard := guard) T hx hy hT hzs hn (by omega) (by omega) (by unfold maxLen; simp at hmax; omega) (by simp at h2; omega) a w hE hw
      refine ⟨⟨(osl o'.1 ys.length, och e o'.1 ys), ⟨.inr ⟨o'.1, by simp, by simp, by simpa using o'.2.1⟩⟩⟩, w', hr, K.putNil hl hi hk'⟩
    · intro a w hE hw
      obtain ⟨o', w', hr, hk'⟩ := do_append (W := W) (Ls := Ls) (n := n) (dst := dst) (ty := ty) (pos := pos) (after := after) (guard := guard) T i hx hy hT hzs hi ho hn (by omega) (List.all_eq_true.1 h1) (by unfold maxLen; omega) (by omega) a w hE hw
      refine ⟨⟨(osl o'.1 (xs.length + ys.length), och e o'.1 (xs ++ ys)), ⟨.inr ⟨o'.1, by simp, rfl, by simpa using o'.2.1⟩⟩⟩, w', hr, hk'⟩
end
section
variable {P : Program} {n : Nat} {σ : Slots} {C D : World → Prop} {Q : Post} {ops : Array Oper} {dr : Nat → Bool}
/-- An operation that stands alone, passed over. -/
theorem d_sskip {i : Nat} {o : Oper} {plan : List PS} {d : Nat} (hi : ops[i]? = some o) (hg : gd ops σ o = some false) (hd : o.dst = some d) (hn : Nat.blt d n = true) (hD : dr i = true → ∀ w, C w → D w)
    (k : Sd P n ops dr D Q plan ((d, undef) :: σ) C) : Sd P n ops dr D Q (.s i :: plan) σ C := by
  intro listed a hE hdc hB hs
  simp only [planB, Bool.and_eq_true, beq_iff_eq] at hB
  refine one_ready hi hB.1 (.inr ⟨gd_wanted hE hg, hD, ?_⟩)
  rw [hd]
  exact k _ _ (hE.put hn undef) (hdc.set (ready_PL (by rw [hB.1]; simp))) hB.2 hs
end
end Go.KL
end

section
/- Walks: Index, waitsFor. -/
namespace Go.KL
open Go.Proofs
section
variable {P : Program} {n : Nat} {σ : Slots} {C D : World → Prop} {Q : Post} {ops : Array Oper} {dr : Nat → Bool}
theorem Hs.obj {g : Bg} {t : Tg} (hH : Hs C g.L.flatten) (ht : t ∈ g.ts) : ∀ w, C w → ∃ ca ta, w.heap[t.b]? = some (.cells ca ta (0, 0)) := fun w hw =>
  ⟨_, _, hH w hw (t.b, row 113 t.cells) (Bg.mem_ts ht (c := [(t.b, row 113 t.cells)]) (by simp) (by simp))⟩
/-- A part of a view. -/
theorem EV.take {v : Value} {s : Nat} {rows : List (List Value)} {pa : Option Addr} {m c : Nat} (h : EV C v s rows) (e : v = .slice pa m c) {k : Nat} (hk : k ≤ rows.length) : EV C (.slice pa k c) s (rows.take k) := by
  subst e
  have hl := h.len
  obtain ⟨pa', c', e, hc, hv⟩ := h.view
  injection e with e1 e2 e3
  subst e1 e3
  refine ⟨fun x hx => hl x (List.mem_of_mem_take hx), ?_⟩
  rw [List.length_take, Nat.min_eq_left hk]
  refine ⟨_, _, rfl, by omega, fun h0 => ?_⟩
  obtain ⟨b, o, e4, hx⟩ := hv (by omega)
  refine ⟨b, o, e4, fun i hi j hj => ?_⟩
  have := hx i (by omega) j hj
  simp only [rix, List.getD_eq_getElem?_getD] at this ⊢
  rw [List.getElem?_take_of_lt hi]
  exact this
end
/-- The first elements of a slice. -/
def tov : Value → Nat → Value
  | .slice p _ c, k => .slice p k c
  | v, _ => v
theorem EV.to {C : World → Prop} {v : Value} {s : Nat} {rows : List (List Value)} (h : EV C v s rows) {k : Nat} (hk : k ≤ rows.length) : EV C (tov v k) s (rows.take k) := by
  obtain ⟨pa, c, e, hc, hv⟩ := h.view
  have := h.take e hk
  rw [e]
  exact this
theorem y_toV {P : Program} {n : Nat} {σ : Slots} {C : World → Prop} {dst : Option Tmp} {ty : TypeId} {pos : String} {after : Array Edge} {guard : Option (Nat × Bool)} (T : Tab P) {x a2 : Operand} {t e : TypeId} {s hi : Nat} {z2 : Int} {v : Value} {rows : List (List Value)} (hx : ev σ x = some v) (hh : ev σ a2 = some (.int .i64 z2)) (ht : T.und t = some (.slice e)) (hs : T.size e = some s)
    (hV : EV C v s rows) (e2 : z2 = (hi : Int)) (h2 : hi ≤ rows.length) :
    Ylds P n σ C ⟨dst, .slice t x none (some a2) none, ty, pos, after, guard⟩ (tov v hi) := by
  obtain ⟨pa, c, e, hc, hv⟩ := hV.view
  subst e
  exact y_sliceTo T hx hh ht hs e2 (by omega)
theorem ev_nums {C : World → Prop} {v : Value} {l : List Nat} (h : EV C v 1 (nums l)) : EV C v 1 ((l.map fun k => Value.int .i64 (k : Nat)).map fun x => [x]) := by
  rw [List.map_map]
  exact h
theorem mk_waits {A : Bk} {k : Nat} (h : (A.tx k).st = 2) : A.waits k = A.owners (A.tx k).req ++ A.ahead (A.tx k).req (A.before k) := by
  unfold Bk.waits
  rw [if_neg (by simp [h])]
attribute [local irreducible] SC St Fin Sq Ylds Doos Sets Enters Spec CellIs CellsAre Then Ret Rnd Chn resOK ints bools recs arr
set_option maxRecDepth 10000 in
theorem ix_b {g : Bg} {W : World} {N : List Chunk} {t : Tg} {l : List Nat} {v : Value} (hB : g.OK) (hH : Hs (K W N) g.L.flatten) (hv : EV (K W N) v 1 (ptrs g l)) (hlh : ∀ k ∈ l, g.has k) (hll : l.length < 1000000) (ht : t ∈ g.ts) (htl : t.id ∈ l) (hth : g.has t.id) (htp : g.pb t.id = t.b) :
    Spec Tryz.prog 149 #[v, .pointer (some ⟨t.b, 0, none⟩)] (K W N) (X := { z : Nat // z ≤ l.length ∧ l.take z = l.takeWhile fun j => !decide (j = t.id) }) (fun z => .int .i64 (z.1 : Nat)) (fun _ => K W N) := by
  have hl2 : (ptrs g l).length = l.length := List.length_map _
  refine enter (args := [_, _]) Tryz.func149 rfl Tryz.ntmps149 rfl ?_
  refine c_seq ?_
  refine c_region ?_
  refine s_y (y_assign rfl) rfl rfl rfl ?_
  refine s_nil ?_
  refine f_then ?_
  refine c_seq ?_
  refine c_seq ?_
  refine c_region ?_
  refine s_y (y_move rfl) rfl rfl rfl ?_
  refine s_y (y_lenE Tryz.tab rfl (hv) rfl) rfl rfl rfl ?_
  refine s_y (y_move rfl) rfl rfl rfl ?_
  refine s_nil ?_
  refine f_then ?_
  refine c_block ?_
  refine c_loopP (α := Nat) (fun z => [(0, v), (1, .pointer (some ⟨t.b, 0, none⟩)), (7, .int .i64 (ptrs g l).length), (8, .int .i64 (z : Nat))]) (fun z => z ≤ l.length ∧ ∀ i, i < z → l[i]? ≠ some t.id) (fun _ => K W N) (fun z => l.length - z) 0
    ⟨rfl, rfl, rfl, rfl, trivial⟩ ⟨Nat.zero_le _, fun i h => absurd h (by omega)⟩ (fun w h => h) ?_
  rintro z ⟨hz, hno⟩
  by_cases c : z < l.length
  · obtain ⟨k, hk⟩ : ∃ k, l[z]? = some k := ⟨l[z], by simp [c]⟩
    have hkh := hlh k (List.mem_of_getElem? hk)
    obtain ⟨u, hum, _, hid, hpb, hux⟩ := hB.at hkh
    by_cases e : k = t.id
    · subst e
      have hcell := hv.cell (i := z) (x := .pointer (some ⟨t.b, 0, none⟩)) (by simp [hk, Bg.ptr, htp])
      refine c_seq ?_
      refine c_region ?_
      refine s_y (y_T (y_lss rfl rfl) (by omega)) rfl rfl rfl ?_
      refine s_nil ?_
      refine f_then ?_
      refine c_seq ?_
      refine c_condT rfl ?_
      refine c_skip ?_
      refine f_then ?_
      refine c_seq ?_
      refine c_block ?_
      refine c_seq ?_
      refine c_region ?_
      refine s_y (y_move rfl) rfl rfl rfl ?_
      refine s_y (y_assign rfl) rfl rfl rfl ?_
      refine s_nil ?_
      refine f_then ?_
      refine c_seq ?_
      refine c_region ?_
      refine s_y (y_move rfl) rfl rfl rfl ?_
      refine s_y (y_move rfl) rfl rfl rfl ?_
      refine s_y (y_move rfl) rfl rfl rfl ?_
      refine s_y (y_ixE Tryz.tab rfl rfl rfl rfl (hv) _ rfl (by omega)) rfl rfl rfl ?_
      refine s_y (y_load Tryz.tab rfl rfl hcell) rfl rfl rfl ?_
      refine s_y (y_eqlPS Tryz.tab rfl rfl rfl rfl) rfl rfl rfl ?_
      refine s_nil ?_
      refine f_then ?_
      refine c_condT rfl ?_
      refine c_seq ?_
      refine c_region ?_
      refine s_y (y_move rfl) rfl rfl rfl ?_
      refine s_y (y_assign rfl) rfl rfl rfl ?_
      refine s_nil ?_
      refine f_then ?_
      refine c_ret ?_
      refine f_blockR ?_
      refine f_thenR ?_
      refine f_rndR ?_
      refine f_blockR ?_
      refine f_thenR ?_
      exact f_ret ⟨z, by omega, (tw_take hno hk).symm⟩ (res1 rfl rfl) (fun w h => h)
    · have hcell := hv.cell (i := z) (x := .pointer (some ⟨u.b, 0, none⟩)) (by simp [hk, Bg.ptr, hpb])
      have hne : (⟨t.b, 0, none⟩ : Addr) ≠ ⟨u.b, 0, none⟩ := fun h => by
        simp only [Addr.mk.injEq, and_true] at h
        exact e (hB.pb_inj hkh hth (by rw [hpb, htp, h]))
      have ho1 := hH.obj ht
      have ho2 := hH.obj hum
      refine c_seq ?_
      refine c_region ?_
      refine s_y (y_T (y_lss rfl rfl) (by omega)) rfl rfl rfl ?_
      refine s_nil ?_
      refine f_then ?_
      refine c_seq ?_
      refine c_condT rfl ?_
      refine c_skip ?_
      refine f_then ?_
      refine c_seq ?_
      refine c_block ?_
      refine c_seq ?_
      refine c_region ?_
      refine s_y (y_move rfl) rfl rfl rfl ?_
      refine s_y (y_assign rfl) rfl rfl rfl ?_
      refine s_nil ?_
      refine f_then ?_
      refine c_seq ?_
      refine c_region ?_
      refine s_y (y_move rfl) rfl rfl rfl ?_
      refine s_y (y_move rfl) rfl rfl rfl ?_
      refine s_y (y_move rfl) rfl rfl rfl ?_
      refine s_y (y_ixE Tryz.tab rfl rfl rfl rfl (hv) _ rfl (by omega)) rfl rfl rfl ?_
      refine s_y (y_load Tryz.tab rfl rfl hcell) rfl rfl rfl ?_
      refine s_y (y_eqlPO Tryz.tab rfl rfl rfl rfl hne ho1 ho2) rfl rfl rfl ?_
      refine s_nil ?_
      refine f_then ?_
      refine c_condF rfl ?_
      refine c_skip ?_
      refine f_blockN ?_
      refine f_then ?_
      refine c_region ?_
      refine s_y (y_add rfl rfl (by omega)) rfl rfl rfl ?_
      refine s_y (y_move rfl) rfl rfl rfl ?_
      refine s_nil ?_
      exact f_roundP (z + 1) ⟨c, fun i hi h => by
        by_cases e2 : i = z
        · subst e2
          rw [hk] at h
          exact e (Option.some.inj h)
        · exact hno i (by omega) h⟩ (by omega) ⟨rfl, rfl, rfl, rfl, trivial⟩ (fun w h => h)
  · exfalso
    obtain ⟨i, hi⟩ := List.getElem?_of_mem htl
    exact hno i (by have := (List.getElem?_eq_some_iff.1 hi).1; omega) hi
/-- What is known of numbers and lists: they are small. -/
structure Few (g : Bg) : Prop where
  lim : Lim g
  rn : g.rn.length ≤ 64
  q : g.q.length ≤ 64
  w : ∀ k, g.has k → (g.bk.tx k).st = 2 → k ∈ g.q
abbrev nvs (l : List Nat) : List Value := l.map fun k => Value.int .i64 (k : Nat)
set_option maxRecDepth 10000 in
set_option maxHeartbeats 4000000 in
theorem waits_b {g : Bg} {W : World} {N : List Chunk} {k : Nat} {t : Tg} (hB : g.OK) (hL : Few g) (hH : Hs (K W N) g.L.flatten) (hk : g.has k) (ht : t ∈ g.ts) (hid : t.id = k) (hpb : g.pb k = t.b) (htx : g.bk.tx k = t.tx) :
    Spec Tryz.prog 140 #[.pointer (some ⟨g.b, 0, none⟩), .pointer (some ⟨t.b, 0, none⟩)] (K W N) (X := { x : Value × Chunk // BufP 3 x.1 x.2 (nvs (g.bk.waits k)) }) (fun x => x.1.1) (fun x => K W (x.1.2 :: N)) := by
  have hq := hL.q
  obtain ⟨f0, f1, f2, f3, f4, f5, fq, fl, fea, fer⟩ := hB.bf hH
  obtain ⟨t0, t1, t2, t3, t7, tl, to⟩ := hB.tf hH ht
  refine enter (args := [_, _]) Tryz.func140 rfl Tryz.ntmps140 rfl ?_
  clear f0 f1 f2 f3 f5 fl fea fer t2 t7 tl to t0
  by_cases c : t.st = 2
  · have hw := mk_waits (A := g.bk) (k := k) (by rw [htx]; exact c)
    have hkq := hL.w k hk (by rw [htx]; exact c)
    rw [htx] at hw
    change g.bk.waits k = g.bk.owners t.req ++ g.bk.ahead t.req (g.bk.before k) at hw
    have hl2 : (ptrs g g.q).length = g.q.length := List.length_map _
    refine c_seq ?_
    refine c_region ?_
    refine s_y (y_assign rfl) rfl rfl rfl ?_
    refine s_nil ?_
    refine f_then ?_
    refine c_seq ?_
    refine c_seq ?_
    refine c_region ?_
    refine s_y (y_move rfl) rfl rfl rfl ?_
    refine s_y (y_nilP rfl) rfl rfl rfl ?_
    refine s_y (y_fieldAddrB Tryz.tab 1 rfl rfl rfl rfl rfl) rfl rfl rfl ?_
    refine s_y (y_load Tryz.tab rfl rfl t1) rfl rfl rfl ?_
    refine s_y (y_F (y_neq rfl rfl) (by omega)) rfl rfl rfl ?_
    refine s_nil ?_
    refine f_then ?_
    refine c_condF rfl ?_
    refine c_skip ?_
    refine f_then ?_
    refine c_seq ?_
    refine c_plan [.c 0, .c 1, .c 2, .c 3, .c 4, .c 6, .c 7, .c 8, .c 9, .c 10, .c 11, .c 12, .c 13, .c 14, .c 15, .c 16, .c 17, .c 18, .c 19, .s 5, .s 20, .c 21, .s 22, .s 23, .c 24] [] ((K W N)) Tryz.mixed (by kernel_rfl) rfl K.cl ?_
    refine d_c rfl (Qui.ylds (y_move rfl)) rfl rfl rfl (fun _ h => h) K.cl ?_
    refine d_c rfl (Qui.ylds (y_move rfl)) rfl rfl rfl (fun _ h => h) K.cl ?_
    refine d_c rfl (Qui.ylds (y_nilP rfl)) rfl rfl rfl (fun _ h => h) K.cl ?_
    refine d_c rfl (Qui.ylds (y_fieldAddrB Tryz.tab 3 rfl rfl rfl rfl rfl)) rfl rfl rfl (fun _ h => h) K.cl ?_
    refine d_c rfl (Qui.ylds (y_loadA Tryz.tab rfl rfl rfl rfl t3)) rfl rfl rfl (fun _ h => h) K.cl ?_
    refine d_c rfl (Qui.ylds (y_move rfl)) rfl rfl rfl (fun _ h => h) K.cl ?_
    refine d_c rfl (Qui.ylds (y_move rfl)) rfl rfl rfl (fun _ h => h) K.cl ?_
    refine d_c rfl (Qui.ylds (y_nilP rfl)) rfl rfl rfl (fun _ h => h) K.cl ?_
    refine d_c rfl (Qui.ylds (y_fieldAddrB Tryz.tab 3 rfl rfl rfl rfl rfl)) rfl rfl rfl (fun _ h => h) K.cl ?_
    refine d_c rfl (Qui.ylds (y_loadA Tryz.tab rfl rfl rfl rfl t3)) rfl rfl rfl (fun _ h => h) K.cl ?_
    refine d_c rfl (Qui.ylds (y_move rfl)) rfl rfl rfl (fun _ h => h) K.cl ?_
    refine d_c rfl (Qui.ylds (y_nilP rfl)) rfl rfl rfl (fun _ h => h) K.cl ?_
    refine d_c rfl (Qui.ylds (y_fieldAddrB Tryz.tab 4 rfl rfl rfl rfl rfl)) rfl rfl rfl (fun _ h => h) K.cl ?_
    refine d_c rfl (Qui.ylds (y_load Tryz.tab rfl rfl f4)) rfl rfl rfl (fun _ h => h) K.cl ?_
    refine d_c rfl (Qui.ylds (y_move rfl)) rfl rfl rfl (fun _ h => h) K.cl ?_
    refine d_c rfl (Qui.ylds (y_nilP rfl)) rfl rfl rfl (fun _ h => h) K.cl ?_
    refine d_c rfl (Qui.ylds (y_fieldAddrB Tryz.tab 4 rfl rfl rfl rfl rfl)) rfl rfl rfl (fun _ h => h) K.cl ?_
    refine d_c rfl (Qui.ylds (y_load Tryz.tab rfl rfl f4)) rfl rfl rfl (fun _ h => h) K.cl ?_
    refine d_c rfl (Qui.ylds (y_move rfl)) rfl rfl rfl (fun _ h => h) K.cl ?_
    refine d_call rfl (en_f rfl Tryz.call117) (owners_b (l := t.req) hB hL.lim hH) rfl rfl rfl (fun _ => K.cl) (fun _ _ _ h => h.tail) (fun x => ?_)
    obtain ⟨⟨v1, c1⟩, hR1⟩ := x
    dsimp only at hR1 ⊢
    skip
    refine d_call rfl (en_f rfl Tryz.call149) (ix_b hB hH.cons fq.cons hB.qh (by omega) ht (by rw [hid]; exact hkq) (by rw [hid]; exact hk) (by rw [hid]; exact hpb)) rfl rfl rfl (fun _ => K.cl) (fun _ _ _ h => h.tail) (fun x => ?_)
    obtain ⟨z, hz, hzt⟩ := x
    dsimp only
    have hD := fun (w : World) (h : K W (c1 :: N) w) => h.tail
    have hto := fq.to (k := z) (by rw [List.length_map]; exact hz)
    refine d_c rfl (Qui.ylds (y_toV Tryz.tab rfl rfl rfl rfl fq rfl (by rw [List.length_map]; exact hz))) rfl rfl rfl (fun _ h => h.tail) K.cl ?_
    have hbef : List.take z (ptrs g g.q) = ptrs g (g.bk.before k) := by
      rw [← List.map_take, hzt, hid]
      rfl
    have hto2 : EV (K W N) (tov g.qv z) 1 (ptrs g (g.bk.before k)) := hbef ▸ hto
    have hbs : ∀ j ∈ g.bk.before k, j ∈ g.q := fun j hj => (List.takeWhile_sublist _).subset hj
    have hbl : (g.bk.before k).length ≤ g.q.length := (List.takeWhile_sublist _).length_le
    refine d_call rfl (en_f rfl Tryz.call118) (ahead_b (l := t.req) hB hH.cons hto2.cons (fun j hj => hB.qh j (hbs j hj)) (by omega)) rfl rfl rfl (fun _ => K.cl) (fun _ _ _ h => h.tail.tail) (fun x => ?_)
    obtain ⟨⟨v2, c2⟩, hR2⟩ := x
    dsimp only at hR2 ⊢
    have hol : (g.bk.owners t.req).length ≤ 64 := by
      have h1 := List.length_filter_le (fun k => (g.bk.tx k).locks.any fun x => cfl x t.req) (srt g.rn)
      have h2 : (srt g.rn).length = g.rn.length := List.length_mergeSort _
      have h3 := hL.rn
      have h4 : g.bk.owners t.req = (srt g.rn).filter (fun k => (g.bk.tx k).locks.any fun x => cfl x t.req) := rfl
      rw [h4]
      omega
    have hal : (g.bk.ahead t.req (g.bk.before k)).length ≤ 64 := by
      have h1 := List.length_filter_le (fun j => cfl (g.bk.tx j).req t.req) (g.bk.before k)
      have h4 : g.bk.ahead t.req (g.bk.before k) = (g.bk.before k).filter (fun j => cfl (g.bk.tx j).req t.req) := rfl
      rw [h4]
      omega
    have hP1 : BufP 3 v1 c1 (nvs (g.bk.owners t.req)) := by
      have h := hR1.p
      rw [nums_flat] at h
      exact h
    have hE2 := ev_nums (hR2.view (C := K W (c2 :: c1 :: N)) (Hs.at 0 rfl))
    refine d_s rfl (do_appendP (by_ := 8) Tryz.tab 1 rfl hP1 rfl hE2 ⟨rfl, rfl, rfl, rfl⟩ rfl (by simp) rfl (List.all_eq_true.2 fun x hx => by
      obtain ⟨y, _, rfl⟩ := List.mem_map.1 hx
      rfl) (by rw [List.length_map, List.length_map]; omega) (by omega)) rfl rfl rfl (fun _ => K.cl) (fun _ _ _ h => h.tail.tail) (fun x => ?_)
    obtain ⟨⟨v3, c3⟩, hP3⟩ := x
    dsimp only at hP3 ⊢
    have hD2 := fun (w : World) (h : K W (c2 :: c3 :: N) w) => h.tail.tail
    refine d_c rfl (Qui.ylds (y_assign rfl)) rfl rfl rfl hD2 K.cl ?_
    refine d_nil ?_
    refine f_then ?_
    refine c_ret ?_
    exact f_ret ⟨(v3, c3), by rw [hw, nvs, List.map_append]; exact hP3⟩ (res1 rfl rfl) (fun w h => h.tail)
  · have hw : g.bk.waits k = [] := by
      unfold Bk.waits
      rw [htx, if_pos (show t.tx.st ≠ 2 from c)]
    refine c_seq ?_
    refine c_region ?_
    refine s_y (y_assign rfl) rfl rfl rfl ?_
    refine s_nil ?_
    refine f_then ?_
    refine c_seq ?_
    refine c_seq ?_
    refine c_region ?_
    refine s_y (y_move rfl) rfl rfl rfl ?_
    refine s_y (y_nilP rfl) rfl rfl rfl ?_
    refine s_y (y_fieldAddrB Tryz.tab 1 rfl rfl rfl rfl rfl) rfl rfl rfl ?_
    refine s_y (y_load Tryz.tab rfl rfl t1) rfl rfl rfl ?_
    refine s_y (y_T (y_neq rfl rfl) (by omega)) rfl rfl rfl ?_
    refine s_nil ?_
    refine f_then ?_
    refine c_condT rfl ?_
    refine c_seq ?_
    refine c_region ?_
    refine s_y (y_assign rfl) rfl rfl rfl ?_
    refine s_nil ?_
    refine f_then ?_
    refine c_ret ?_
    refine f_thenR ?_
    exact f_ret ⟨(.slice none 0 0, []), ⟨.inl ⟨by rw [hw]; rfl, rfl, rfl⟩⟩⟩ (res1 rfl rfl) (fun w h => h.addNil)
end Go.KL
end
