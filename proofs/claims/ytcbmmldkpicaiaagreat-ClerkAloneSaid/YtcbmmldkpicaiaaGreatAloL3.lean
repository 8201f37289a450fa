/- The library of the proof, part 3: a program logic over the model, walks of functions, plain laws. No condition. -/
import Derived.Shelf.SlIterI.Nil
import Derived.Shelf.SortM.Plain
import Derived.Shelf.SortM.SortNone
import Derived.Laws.Cover3
import Derived.Test.YtcbmmldkpicaiaaGreatAloL2
section
/- Walks: Map's Set, Count. -/
namespace Go.KL
open Go.Proofs
theorem K.rot3 {W w : World} {N : List Chunk} {a b c : Chunk} (h : K W (a :: b :: c :: N) w) : K W (c :: a :: b :: N) w := by
  have h1 : K W ((a ++ b) :: c :: N) w := h.join
  exact h1.swap.weak [] (by simp)
theorem LOk.of {L : List (Nat × Nat)} (h : PosL L) (ht : ∀ x ∈ L, x.2 < 16) (hs : szL L ≤ 1099511627776) : LOk L := by
  have := len_le_sz h
  exact ⟨ht, by omega, by omega⟩
theorem takeP_tags {L : List (Nat × Nat)} {k : Nat} (h : ∀ x ∈ L, x.2 < 16) : ∀ x ∈ takeP k L, x.2 < 16 := fun x hx => by
  obtain ⟨y, hy, e⟩ := takeP_ok.2.2 x hx
  rw [e]; exact h y hy
theorem dropP_tags {L : List (Nat × Nat)} {k : Nat} (h : ∀ x ∈ L, x.2 < 16) : ∀ x ∈ dropP k L, x.2 < 16 := fun x hx => by
  obtain ⟨y, hy, e⟩ := dropP_ok.2.2 x hx
  rw [e]; exact h y hy
theorem catL_tags {A B : List (Nat × Nat)} (hA : ∀ x ∈ A, x.2 < 16) (hB : ∀ x ∈ B, x.2 < 16) : ∀ x ∈ catL A B, x.2 < 16 := by
  rcases list_snoc A with rfl | ⟨A', x, rfl⟩
  · exact hB
  cases B with
  | nil => rw [catL_nil]; exact hA
  | cons y B =>
    rw [catL_snoc]
    intro z hz
    split at hz
    · rcases List.mem_append.1 hz with hz | hz
      · exact hA z (by simp [hz])
      · rcases List.mem_cons.1 hz with rfl | hz
        · exact hB y (by simp)
        · exact hB z (by simp [hz])
    · rcases List.mem_append.1 hz with hz | hz
      · exact hA z hz
      · exact hB z hz
structure SetF (t : Tree) (lo hi tag : Nat) : Prop where
  a1 : (t.split lo).1.Bal
  a2 : (t.split lo).2.Bal
  p2 : PosL (t.split lo).2.toL
  k2 : LOk (t.split lo).2.toL
  b : ((t.split lo).2.split (hi - lo)).2.Bal
  k3 : LOk ((t.split lo).1.toL ++ (Tree.leaf (hi - lo) tag).toL)
  m : ((t.split lo).1.concat (.leaf (hi - lo) tag)).Bal
  k4 : LOk (((t.split lo).1.concat (.leaf (hi - lo) tag)).toL ++ ((t.split lo).2.split (hi - lo)).2.toL)
  ok : MOk (setT t lo hi tag)
  sz : (setT t lo hi tag).pcs = t.pcs
  l : (setT t lo hi tag).toL = catL (catL (takeP lo t.toL) (if hi - lo = 0 then [] else [(hi - lo, tag)])) (dropP (hi - lo) (dropP lo t.toL))
theorem setF {t : Tree} {lo hi tag : Nat} (hM : MOk t) (h1 : lo ≤ hi) (h2 : hi ≤ t.pcs) (h3 : tag < 16) : SetF t lo hi tag := by
  have hsz := hM.sz
  have hpL := Tree.pcs_toL t
  obtain ⟨s1, s2⟩ := Tree.split_toL t lo hM.pos
  obtain ⟨b1, b2⟩ := Tree.split_bal t lo hM.bal
  have p1 : PosL (t.split lo).1.toL := by rw [s1]; exact takeP_pos hM.pos
  have p2 : PosL (t.split lo).2.toL := by rw [s2]; exact dropP_pos hM.pos
  obtain ⟨s3, s4⟩ := Tree.split_toL (t.split lo).2 (hi - lo) p2
  obtain ⟨b3, b4⟩ := Tree.split_bal (t.split lo).2 (hi - lo) b2
  have p4 : PosL ((t.split lo).2.split (hi - lo)).2.toL := by rw [s4]; exact dropP_pos p2
  have t1 : ∀ x ∈ (t.split lo).1.toL, x.2 < 16 := by rw [s1]; exact takeP_tags hM.tags
  have t2 : ∀ x ∈ (t.split lo).2.toL, x.2 < 16 := by rw [s2]; exact dropP_tags hM.tags
  have t4 : ∀ x ∈ ((t.split lo).2.split (hi - lo)).2.toL, x.2 < 16 := by rw [s4]; exact dropP_tags t2
  have z1 : szL (t.split lo).1.toL = lo := by rw [s1]; exact szL_take (by omega)
  have z2 : szL (t.split lo).2.toL = t.pcs - lo := by rw [s2, szL_drop, hpL]
  have z4 : szL ((t.split lo).2.split (hi - lo)).2.toL = t.pcs - hi := by rw [s4, szL_drop, z2]; omega
  have hlf := Tree.leaf_toL (hi - lo) tag
  have pl : PosL (Tree.leaf (hi - lo) tag).toL := by
    rw [hlf]
    split
    · exact fun x hx => by simp at hx
    · exact PosL.cons.2 ⟨by dsimp only; omega, fun x hx => by simp at hx⟩
  have tl' : ∀ x ∈ (Tree.leaf (hi - lo) tag).toL, x.2 < 16 := by
    rw [hlf]
    split
    · exact fun x hx => by simp at hx
    · intro x hx
      rw [List.mem_singleton.1 hx]
      exact h3
  have zl : szL (Tree.leaf (hi - lo) tag).toL = hi - lo := by
    rw [hlf]
    split <;> simp only [szL] <;> omega
  have k3 : LOk ((t.split lo).1.toL ++ (Tree.leaf (hi - lo) tag).toL) := .of (PosL.app.2 ⟨p1, pl⟩) (fun x hx => (List.mem_append.1 hx).elim (t1 x) (tl' x)) (by rw [szL_app]; omega)
  have mL := Tree.concat_toL (t.split lo).1 (.leaf (hi - lo) tag)
  have pm : PosL ((t.split lo).1.concat (.leaf (hi - lo) tag)).toL := by rw [mL]; exact cat_pos p1 pl
  have tm : ∀ x ∈ ((t.split lo).1.concat (.leaf (hi - lo) tag)).toL, x.2 < 16 := by rw [mL]; exact catL_tags t1 tl'
  have zm : szL ((t.split lo).1.concat (.leaf (hi - lo) tag)).toL = hi := by rw [mL, szL_cat]; omega
  have m := Tree.concat_bal b1 (Tree.leaf_bal (hi - lo) tag)
  have k4 : LOk (((t.split lo).1.concat (.leaf (hi - lo) tag)).toL ++ ((t.split lo).2.split (hi - lo)).2.toL) := .of (PosL.app.2 ⟨pm, p4⟩) (fun x hx => (List.mem_append.1 hx).elim (tm x) (t4 x)) (by rw [szL_app]; omega)
  have fL : (setT t lo hi tag).toL = catL ((t.split lo).1.concat (.leaf (hi - lo) tag)).toL ((t.split lo).2.split (hi - lo)).2.toL := Tree.concat_toL _ _
  have fz : (setT t lo hi tag).pcs = t.pcs := by rw [Tree.pcs_toL, fL, szL_cat]; omega
  have hp0 : 0 < t.pcs := by
    cases h : t with
    | nil => exact absurd h hM.ne
    | node l n k r =>
      have := hM.pos
      rw [h, Tree.toL, PosL.app, PosL.cons] at this
      have := this.2.1
      simp only [Tree.pcs] at *
      omega
  refine ⟨b1, b2, p2, .of p2 t2 (by omega), b4, k3, m, k4, ⟨?_, Tree.concat_bal m b4, ?_, ?_, by omega⟩, fz, ?_⟩
  · intro h
    rw [h] at fz
    simp only [Tree.pcs] at fz
    omega
  · rw [fL]; exact cat_pos pm p4
  · rw [fL]; exact catL_tags tm t4
  · rw [fL, mL, s1, s4, s2, hlf]
attribute [local irreducible] SC St Fin Sq Ylds Doos Sets Enters Spec CellIs CellsAre Then Ret Rnd Chn resOK ints bools recs arr
set_option maxRecDepth 10000 in
set_option maxHeartbeats 4000000 in
theorem set_spec {W : World} {p : Chunk} {R : List Chunk} {v : Value} {t : Tree} {lo hi tag : Nat} (ht : Tr p v t) (hM : MOk t) (h1 : lo ≤ hi) (h2 : hi ≤ t.pcs) (h3 : tag < 16) : Spec Tryz.prog 65 #[.agg #[v], .int .i64 (lo : Nat), .int .i64 (hi : Nat), .int .i64 (tag : Nat)] (K W (p :: R)) (X := TX p (setT t lo hi tag))
    (fun x => if (setT t lo hi tag).runs ≤ 4096 then .tuple #[.agg #[x.1.2], .int .i64 0] else .tuple #[.agg #[.pointer none], .int .i64 5]) (fun x => K W (x.1.1 :: R)) := by
  have hF := setF hM h1 h2 h3
  have hsz := hM.sz
  obtain ⟨q, rfl⟩ := ht.neC hM.ne
  have hsub : (hi : Int) - (lo : Int) = ((hi - lo : Nat) : Int) := by omega
  refine enter (args := [_, _, _, _]) Tryz.func65 rfl Tryz.ntmps65 rfl ?_
  refine csr ?_
  refine sbx fun b4 => ?_
  refine sal fun b8 => ?_
  refine sa ?_
  refine snf ?_
  refine c_seq ?_
  refine csr ?_
  refine sy (y_loadA Tryz.tab rfl rfl rfl rfl (cells_row0 1 rfl rfl)) ?_
  refine sm ?_
  refine sm ?_
  refine St.cls (C' := K W (p :: [(b8, row 29 [.pointer none])] :: [(b4, row 29 [.pointer (some q)])] :: R)) ?_ (fun w h => K.rot3 h)
  refine sk Tryz.call89 (ranges_spec ht hM.ne h1 h2) fun _ => ?_
  refine sa ?_
  refine snf ?_
  refine csr ?_
  refine sm ?_
  refine sy (y_F (y_neq rfl rfl) (by omega)) ?_
  refine snf ?_
  refine c_condF rfl ?_
  refine c_skip ?_
  refine f_then ?_
  refine c_seq ?_
  refine csr ?_
  refine sm ?_
  refine sk Tryz.call45 isTag_spec fun _ => ?_
  rw [decide_eq_true (show 0 ≤ (tag : Int) ∧ (tag : Int) < 16 by omega)]
  refine sy (y_notT rfl) ?_
  refine snf ?_
  refine c_condF rfl ?_
  refine c_skip ?_
  refine f_then ?_
  refine csr ?_
  refine sf0 ?_
  refine slr 2 ?_
  refine sm ?_
  refine s_call (en_f rfl Tryz.call93) (split_spec t ht hM.bal hM.pos hM.lok (by omega)) rfl rfl rfl (fun x => ?_)
  obtain ⟨⟨p1, v1, v2⟩, hs1, ht1, ht2⟩ := x
  dsimp only at hs1 ht1 ht2 ⊢
  refine sm ?_
  refine sx ?_
  refine sx ?_
  refine sa ?_
  refine sa ?_
  refine snf ?_
  refine csr ?_
  refine sm ?_
  refine sm ?_
  refine sm ?_
  refine sy (y_sub rfl rfl (by omega)) ?_
  rw [hsub]
  refine s_call (en_f rfl Tryz.call93) (split_spec (t.split lo).2 ht2 hF.a2 hF.p2 hF.k2 (by omega)) rfl rfl rfl (fun x => ?_)
  obtain ⟨⟨p2, v3, v4⟩, hs2, ht3, ht4⟩ := x
  dsimp only at hs2 ht3 ht4 ⊢
  refine sm ?_
  refine sx ?_
  refine sx ?_
  refine sa ?_
  refine sa ?_
  refine snf ?_
  refine csr ?_
  refine sm ?_
  refine sm ?_
  refine sm ?_
  refine sy (y_sub rfl rfl (by omega)) ?_
  refine sm ?_
  rw [hsub]
  refine s_call (en_f rfl Tryz.call61) (leaf_spec (n := hi - lo) (t := tag) h3 (by omega)) rfl rfl rfl (fun x => ?_)
  obtain ⟨⟨p3, v5⟩, hs3, ht5⟩ := x
  dsimp only at hs3 ht5 ⊢
  refine sk Tryz.call95 (concat_spec (ht1.sub (hs2.trans hs3)) ht5 hF.a1 (Tree.leaf_bal _ _) hF.k3) fun x => ?_
  obtain ⟨⟨p4, v6⟩, hs4, ht6⟩ := x
  dsimp only at hs4 ht6 ⊢
  refine sm ?_
  refine sk Tryz.call95 (concat_spec ht6 (ht4.sub (hs3.trans hs4)) hF.m hF.b hF.k4) fun x => ?_
  obtain ⟨⟨p5, v7⟩, hs5, ht7⟩ := x
  dsimp only at hs5 ht7 ⊢
  have ht8 : Tr p5 v7 (setT t lo hi tag) := ht7
  refine sk Tryz.call94 (few_spec ht8 hF.ok.ne) fun _ => ?_
  obtain ⟨q7, rfl⟩ := ht8.ptr
  have hsall := (((hs1.trans hs2).trans hs3).trans hs4).trans hs5
  by_cases c : (setT t lo hi tag).runs ≤ 4096
  · rw [if_pos c]
    refine sx ?_
    refine sx ?_
    refine ss (set_box Tryz.tab 1 rfl rfl rfl rfl rfl rfl rfl) ?_
    refine sa ?_
    refine snf ?_
    refine c_ret ?_
    exact f_ret ⟨(p5, .pointer q7), hsall, ht8⟩ (by rw [if_pos c]; exact resA1 Tryz.tab rfl rfl rfl rfl rfl rfl (cells_row0 1 rfl rfl)) (fun w h => h.swap.tail.swap.tail)
  · rw [if_neg c]
    refine sx ?_
    refine sx ?_
    refine ss (set_box Tryz.tab 1 rfl rfl rfl rfl rfl rfl rfl) ?_
    refine sa ?_
    refine snf ?_
    refine c_ret ?_
    exact f_ret ⟨(p5, .pointer q7), hsall, ht8⟩ (by rw [if_neg c]; exact resA1 Tryz.tab rfl rfl rfl rfl rfl rfl (cells_row0 1 rfl rfl)) (fun w h => h.swap.tail.swap.tail)
set_option maxRecDepth 10000 in
set_option maxHeartbeats 4000000 in
theorem count_spec {W : World} {p : Chunk} {R : List Chunk} {v : Value} {t : Tree} {lo hi tag : Nat} (ht : Tr p v t) (hM : MOk t) (h1 : lo ≤ hi) (h2 : hi ≤ t.pcs) (h3 : tag < 16) : Spec Tryz.prog 121 #[.agg #[v], .int .i64 (lo : Nat), .int .i64 (hi : Nat), .int .i64 (tag : Nat)] (K W (p :: R))
    (fun _ : Unit => .tuple #[.int .i64 ((t.bef tag hi : Nat) - (t.bef tag lo : Nat) : Int), .int .i64 0]) (fun _ => K W (p :: R)) := by
  have hsz := hM.sz
  have hb1 := Tree.bef_le tag t hi
  have hb2 := Tree.bef_le tag t lo
  obtain ⟨q, rfl⟩ := ht.neC hM.ne
  refine enter (args := [_, _, _, _]) Tryz.func121 rfl Tryz.ntmps121 rfl ?_
  refine csr ?_
  refine sbx fun b4 => ?_
  refine sa ?_
  refine sa ?_
  refine snf ?_
  refine c_seq ?_
  refine csr ?_
  refine sy (y_loadA Tryz.tab rfl rfl rfl rfl (cells_row0 0 rfl rfl)) ?_
  refine sm ?_
  refine sm ?_
  refine St.cls (C' := K W (p :: [(b4, row 29 [.pointer (some q)])] :: R)) ?_ (fun w h => K.swap h)
  refine sk Tryz.call89 (ranges_spec ht hM.ne h1 h2) fun _ => ?_
  refine sa ?_
  refine snf ?_
  refine csr ?_
  refine sm ?_
  refine sy (y_F (y_neq rfl rfl) (by omega)) ?_
  refine snf ?_
  refine c_condF rfl ?_
  refine c_skip ?_
  refine f_then ?_
  refine c_seq ?_
  refine csr ?_
  refine sm ?_
  refine sk Tryz.call45 isTag_spec fun _ => ?_
  rw [decide_eq_true (show 0 ≤ (tag : Int) ∧ (tag : Int) < 16 by omega)]
  refine sy (y_notT rfl) ?_
  refine snf ?_
  refine c_condF rfl ?_
  refine c_skip ?_
  refine f_then ?_
  refine c_seq ?_
  refine c_plan [.c 0, .c 1, .c 2, .c 3, .c 4, .c 5, .c 6, .c 7, .c 8, .c 9, .c 10, .c 11, .c 12] [] ((K W (p :: [(b4, row 29 [.pointer (some q)])] :: R))) Tryz.mixed (by kernel_rfl) rfl K.cl ?_
  refine dy rfl (y_fieldAddr0 Tryz.tab rfl rfl rfl rfl rfl) (fun _ h => h) ?_
  refine dy rfl (y_load Tryz.tab rfl rfl (cell_row 1 rfl rfl)) (fun _ h => h) ?_
  refine dy rfl (y_move rfl) (fun _ h => h) ?_
  refine dy rfl (y_move rfl) (fun _ h => h) ?_
  refine d_c rfl (Qui.callD K.cl (en_f rfl Tryz.call134) ((before_q (k := hi) (by assumption) h3 hM.lok (by omega)))) rfl rfl rfl (fun _ h => h) K.cl ?_
  refine dy rfl (y_fieldAddr0 Tryz.tab rfl rfl rfl rfl rfl) (fun _ h => h) ?_
  refine dy rfl (y_load Tryz.tab rfl rfl (cell_row 1 rfl rfl)) (fun _ h => h) ?_
  refine dy rfl (y_move rfl) (fun _ h => h) ?_
  refine dy rfl (y_move rfl) (fun _ h => h) ?_
  refine d_c rfl (Qui.callD K.cl (en_f rfl Tryz.call134) ((before_q (k := lo) (by assumption) h3 hM.lok (by omega)))) rfl rfl rfl (fun _ h => h) K.cl ?_
  refine dy rfl (y_sub rfl rfl (by omega)) (fun _ h => h) ?_
  refine dy rfl (y_assign rfl) (fun _ h => h) ?_
  refine dy rfl (y_assign rfl) (fun _ h => h) ?_
  refine d_nil ?_
  refine f_then ?_
  refine c_ret ?_
  exact f_ret () (res2 rfl rfl rfl) (fun w h => h.swap.tail)
end Go.KL
end

section
/- Walks: visit. -/
namespace Go.KL
open Go.Proofs
abbrev rnv (r : Rn) : Value := .agg #[.int .i64 (r.1 : Nat), .int .i64 (r.2.1 : Nat), .int .i64 (r.2.2 : Nat)]
structure Vis (W : World) (p : Chunk) (l most : Nat) (Z : Type) (Bx : Z → List Chunk) (G : List Rn → Z → Prop) : Prop where
  pool : ∀ z w, K W (Bx z) w → PoolD W p w
  yield : ∀ (L : List Rn) (z : Z) (r : Rn), L.length < most → G L z → r.1 < r.2.1 → r.2.1 ≤ 1152921504606846976 → r.2.2 < 16 →
    YSpec Tryz.prog l #[rnv r] (K W (Bx z)) (X := { z' : Z // G (L ++ [r]) z' }) (fun _ => .bool true) (fun z' => K W (Bx z'.1))
attribute [local irreducible] SC St Fin Sq Ylds Doos Sets Enters Spec CellIs CellsAre Then Ret Rnd Chn resOK ints bools recs arr
set_option maxRecDepth 10000 in
set_option maxHeartbeats 8000000 in
theorem visit_spec {W : World} {p : Chunk} {l most lo hi : Nat} {Z : Type} {Bx : Z → List Chunk} {G : List Rn → Z → Prop} (hV : Vis W p l most Z Bx G) (hlo : lo ≤ 1152921504606846976) (hhi : hi ≤ 1152921504606846976) :
    ∀ (t : Tree) {v : Value} {o : Nat} {L : List Rn} {z : Z} (_ : Tr p v t) (_ : LOk t.toL) (_ : o + t.pcs ≤ 1152921504606846976) (_ : G L z) (_ : L.length + (t.clip lo hi o).length ≤ most),
    Spec Tryz.prog 106 #[v, .int .i64 (o : Nat), .int .i64 (lo : Nat), .int .i64 (hi : Nat), .func (.yield l) #[] #[]] (K W (Bx z)) (X := { z' : Z // G (L ++ t.clip lo hi o) z' }) (fun _ => .bool true) (fun z' => K W (Bx z'.1))
  | .nil, v, o, L, z, ht, _, _, hG, _ => by
    obtain rfl := ht.nilC
    refine enter (args := [_, _, _, _, _]) Tryz.func106 rfl Tryz.ntmps106 rfl ?_
    refine csr ?_
    refine sa ?_
    refine snf ?_
    refine c_seq ?_
    refine csr ?_
    refine sm ?_
    refine sy (y_eqlPN Tryz.tab rfl rfl) ?_
    refine sm ?_
    iterate 3 refine s_skip rfl rfl rfl ?_
    refine spT ?_
    refine sm ?_
    iterate 8 refine s_skip rfl rfl rfl ?_
    refine spT ?_
    refine snf ?_
    refine c_condT rfl ?_
    refine csr ?_
    refine sa ?_
    refine snf ?_
    refine c_ret ?_
    refine f_thenR ?_
    exact f_ret ⟨z, by rw [Tree.clip, List.append_nil]; exact hG⟩ (res1 rfl rfl) (fun w h => h)
  | .node lt n k rt, v, o, L, z, ht, hk, ho, hG, hlen => by
    obtain ⟨b, lv, rv, rfl, hbm, hl, hr⟩ := ht.nodeC
    have hkl : LOk lt.toL := hk.left
    have hkr : LOk rt.toL := (hk.eq (B := (lt.toL ++ [(n, k)]) ++ rt.toL) (by simp [Tree.toL])).right
    have hkt := (Tree.LOk.node hk).1
    have hps : (Tree.node lt n k rt).pcs = lt.pcs + rt.pcs + n := rfl
    have hFD := ndp (W := W) hbm
    have hF := hFD.cls (hV.pool z)
    refine enter (args := [_, _, _, _, _]) Tryz.func106 rfl Tryz.ntmps106 rfl ?_
    by_cases c : hi ≤ o ∨ o + (Tree.node lt n k rt).pcs ≤ lo
    · rw [Tree.clip, if_pos c, List.append_nil]
      obtain ⟨f0, f1, f2, f3, f4, f5, f6, f7⟩ := hF
      clear f4 f5 f7
      by_cases c1 : hi ≤ o
      · refine csr ?_
        refine sa ?_
        refine snf ?_
        refine c_seq ?_
        refine csr ?_
        refine sm ?_
        refine sy (y_eqlPN Tryz.tab rfl rfl) ?_
        refine sm ?_
        refine sm ?_
        refine sm ?_
        refine sy (y_T (y_geq rfl rfl) (by omega)) ?_
        refine spF ?_
        refine sm ?_
        iterate 8 refine s_skip rfl rfl rfl ?_
        refine spT ?_
        refine snf ?_
        refine c_condT rfl ?_
        refine csr ?_
        refine sa ?_
        refine snf ?_
        refine c_ret ?_
        refine f_thenR ?_
        exact f_ret ⟨z, hG⟩ (res1 rfl rfl) (fun w h => h)
      · refine csr ?_
        refine sa ?_
        refine snf ?_
        refine c_seq ?_
        refine csr ?_
        refine sm ?_
        refine sy (y_eqlPN Tryz.tab rfl rfl) ?_
        refine sm ?_
        refine sm ?_
        refine sm ?_
        refine sy (y_F (y_geq rfl rfl) (by omega)) ?_
        refine spF ?_
        refine sm ?_
        refine sm ?_
        refine sm ?_
        refine sn ?_
        refine sf 6 ?_
        refine sl f6 ?_
        refine sy (y_add rfl rfl (by omega)) ?_
        refine sm ?_
        refine sy (y_T (y_leq rfl rfl) (by omega)) ?_
        refine spF ?_
        refine snf ?_
        refine c_condT rfl ?_
        refine csr ?_
        refine sa ?_
        refine snf ?_
        refine c_ret ?_
        refine f_thenR ?_
        exact f_ret ⟨z, hG⟩ (res1 rfl rfl) (fun w h => h)
    · rw [Tree.clip, if_neg c] at hlen ⊢
      have ihl := fun (h : L.length + (lt.clip lo hi o).length ≤ most) => visit_spec hV hlo hhi lt (v := lv) (o := o) (L := L) (z := z) hl hkl (by omega) hG h
      have ihr := fun (L' : List Rn) (z' : Z) (hG' : G L' z') (h : L'.length + (rt.clip lo hi (o + lt.pcs + n)).length ≤ most) => visit_spec hV hlo hhi rt (v := rv) (o := o + lt.pcs + n) (L := L') (z := z') hr hkr (by omega) hG' h
      obtain ⟨f0, f1, f2, f3, f4, f5, f6, f7⟩ := hF
      clear f4 f5 f7
      refine csr ?_
      refine sa ?_
      refine snf ?_
      refine c_seq ?_
      refine csr ?_
      refine sm ?_
      refine sy (y_eqlPN Tryz.tab rfl rfl) ?_
      refine sm ?_
      refine sm ?_
      refine sm ?_
      refine sy (y_F (y_geq rfl rfl) (by omega)) ?_
      refine spF ?_
      refine sm ?_
      refine sm ?_
      refine sm ?_
      refine sn ?_
      refine sf 6 ?_
      refine sl f6 ?_
      refine sy (y_add rfl rfl (by omega)) ?_
      refine sm ?_
      refine sy (y_F (y_leq rfl rfl) (by omega)) ?_
      refine spF ?_
      refine snf ?_
      refine c_condF rfl ?_
      refine c_skip ?_
      refine f_then ?_
      refine csr ?_
      refine sm ?_
      refine sm ?_
      refine sn ?_
      refine sf0 ?_
      refine sl f0 ?_
      refine sk Tryz.call73 (pieces_p hl _ K.drew (hV.pool z)) fun _ => ?_
      rw [List.length_append, List.length_append] at hlen
      refine sy (y_add rfl rfl (by omega)) ?_
      refine sa ?_
      refine snf ?_
      refine c_seq ?_
      refine csr ?_
      refine sm ?_
      refine sn ?_
      refine sf0 ?_
      refine sl f0 ?_
      refine sm ?_
      refine sm ?_
      refine sm ?_
      refine sm ?_
      refine s_call (en_f rfl Tryz.call106) (ihl (by omega)) rfl rfl rfl (fun x => ?_)
      obtain ⟨z1, hG1⟩ := x
      dsimp only
      clear ihl f0 f1 f2 f3 f6
      have hF1 := hFD.cls (hV.pool z1)
      obtain ⟨f0, f1, f2, f3, f4, f5, f6, f7⟩ := hF1
      clear f4 f5 f6 f7 f0
      have em : max ((o : Int) + (lt.pcs : Int)) (lo : Int) = ((max (o + lt.pcs) lo : Nat) : Int) := by omega
      have en : min ((o : Int) + (lt.pcs : Int) + (n : Int)) (hi : Int) = ((min (o + lt.pcs + n) hi : Nat) : Int) := by omega
      have eo : (o : Int) + (lt.pcs : Int) + (n : Int) = ((o + lt.pcs + n : Nat) : Int) := by omega
      by_cases c2 : max (o + lt.pcs) lo < min (o + lt.pcs + n) hi
      · rw [if_pos c2] at hlen ⊢
        simp only [List.length_cons, List.length_nil] at hlen
        have hy := hV.yield (L ++ lt.clip lo hi o) z1 (max (o + lt.pcs) lo, min (o + lt.pcs + n) hi, k) (by rw [List.length_append]; omega) hG1 c2 (by dsimp only; omega) hkt
        refine sy (y_notT rfl) ?_
        refine snf ?_
        refine c_condF rfl ?_
        refine c_skip ?_
        refine f_then ?_
        refine c_seq ?_
        refine c_quiet Tryz.mixed (by kernel_rfl) K.drew ?_
        refine q_y (y_move rfl) rfl rfl rfl ?_
        refine q_y (y_move rfl) rfl rfl rfl ?_
        refine q_y (y_max rfl rfl) rfl rfl rfl ?_
        refine q_y (y_move rfl) rfl rfl rfl ?_
        refine q_y (y_move rfl) rfl rfl rfl ?_
        refine q_y (y_nilP rfl) rfl rfl rfl ?_
        refine q_y (y_fieldAddrB Tryz.tab 2 rfl rfl rfl rfl rfl) rfl rfl rfl ?_
        refine q_y (y_load Tryz.tab rfl rfl f2) rfl rfl rfl ?_
        refine q_y (y_add rfl rfl (by omega)) rfl rfl rfl ?_
        refine q_y (y_move rfl) rfl rfl rfl ?_
        refine q_y (y_min rfl rfl) rfl rfl rfl ?_
        refine q_y (y_assign rfl) rfl rfl rfl ?_
        refine q_y (y_assign rfl) rfl rfl rfl ?_
        refine q_nil ?_
        refine f_then ?_
        refine c_seq ?_
        refine csr ?_
        refine sm ?_
        refine sm ?_
        refine sy (y_T (y_lss rfl rfl) (by omega)) ?_
        refine sm ?_
        refine sm ?_
        refine sm ?_
        refine sm ?_
        refine sm ?_
        refine sn ?_
        refine sf 3 ?_
        refine sl f3 ?_
        refine sy (y_build Tryz.tab rfl rfl rfl rfl rfl) ?_
        rw [em, en]
        skip
        refine s_yield (en_y rfl rfl) hy rfl rfl rfl (fun x => ?_)
        obtain ⟨z2, hG2⟩ := x
        dsimp only
        clear f1 f2 f3
        have hF2 := hFD.cls (hV.pool z2)
        obtain ⟨f0, f1, f2, f3, f4, f5, f6, f7⟩ := hF2
        obtain ⟨g0, g1, g2, g3, g4, g5, g6, g7⟩ := hFD
        clear f4 f5 f6 f7 f0 g0 g3 g4 g5 g6 g7
        have hD := hV.pool z2
        refine sy (y_notT rfl) ?_
        refine spT ?_
        refine snf ?_
        refine c_condF rfl ?_
        refine c_skip ?_
        refine f_then ?_
        refine c_seq ?_
        refine c_plan [.c 0, .c 1, .c 2, .c 3, .c 4, .c 5, .c 6, .c 7, .c 8, .c 9, .c 10, .c 11, .c 12, .s 13, .c 14] [] ((PoolD W p)) Tryz.mixed (by kernel_rfl) rfl K.cl ?_
        refine dy rfl (y_move rfl) hD ?_
        refine dy rfl (y_nilP rfl) hD ?_
        refine dy rfl (y_fieldAddrB Tryz.tab 1 rfl rfl rfl rfl rfl) hD ?_
        refine dy rfl (y_load Tryz.tab rfl rfl g1) hD ?_
        refine dy rfl (y_move rfl) hD ?_
        refine dy rfl (y_move rfl) hD ?_
        refine dy rfl (y_nilP rfl) hD ?_
        refine dy rfl (y_fieldAddrB Tryz.tab 2 rfl rfl rfl rfl rfl) hD ?_
        refine dy rfl (y_load Tryz.tab rfl rfl g2) hD ?_
        refine dy rfl (y_add rfl rfl (by omega)) hD ?_
        refine dy rfl (y_move rfl) hD ?_
        refine dy rfl (y_move rfl) hD ?_
        refine dy rfl (y_move rfl) hD ?_
        rw [eo]
        refine d_call rfl (en_f rfl Tryz.call106) (ihr _ z2 hG2 (by rw [List.length_append, List.length_append]; simp only [List.length_cons, List.length_nil]; omega)) rfl rfl rfl (fun _ => K.cl) (fun _ x w h => hV.pool x.1 w h) (fun x => ?_)
        obtain ⟨z3, hG3⟩ := x
        dsimp only
        have hD1 := hV.pool z3
        refine dy rfl (y_assign rfl) hD1 ?_
        refine d_nil ?_
        refine f_then ?_
        refine c_ret ?_
        exact f_ret ⟨z3, by rw [List.append_assoc, List.append_assoc] at hG3; exact hG3⟩ (res1 rfl rfl) (fun w h => h)
      · rw [if_neg c2] at hlen ⊢
        simp only [List.length_nil] at hlen
        rw [List.nil_append]
        obtain ⟨g0, g1, g2, g3, g4, g5, g6, g7⟩ := hFD
        clear g0 g3 g4 g5 g6 g7
        have hD := hV.pool z1
        refine sy (y_notT rfl) ?_
        refine snf ?_
        refine c_condF rfl ?_
        refine c_skip ?_
        refine f_then ?_
        refine c_seq ?_
        refine c_quiet Tryz.mixed (by kernel_rfl) K.drew ?_
        refine q_y (y_move rfl) rfl rfl rfl ?_
        refine q_y (y_move rfl) rfl rfl rfl ?_
        refine q_y (y_max rfl rfl) rfl rfl rfl ?_
        refine q_y (y_move rfl) rfl rfl rfl ?_
        refine q_y (y_move rfl) rfl rfl rfl ?_
        refine q_y (y_nilP rfl) rfl rfl rfl ?_
        refine q_y (y_fieldAddrB Tryz.tab 2 rfl rfl rfl rfl rfl) rfl rfl rfl ?_
        refine q_y (y_load Tryz.tab rfl rfl f2) rfl rfl rfl ?_
        refine q_y (y_add rfl rfl (by omega)) rfl rfl rfl ?_
        refine q_y (y_move rfl) rfl rfl rfl ?_
        refine q_y (y_min rfl rfl) rfl rfl rfl ?_
        refine q_y (y_assign rfl) rfl rfl rfl ?_
        refine q_y (y_assign rfl) rfl rfl rfl ?_
        refine q_nil ?_
        refine f_then ?_
        refine c_seq ?_
        refine csr ?_
        refine sm ?_
        refine sm ?_
        refine sy (y_F (y_lss rfl rfl) (by omega)) ?_
        refine sm ?_
        iterate 10 refine s_skip rfl rfl rfl ?_
        refine spF ?_
        refine snf ?_
        refine c_condF rfl ?_
        refine c_skip ?_
        refine f_then ?_
        refine c_seq ?_
        refine c_plan [.c 0, .c 1, .c 2, .c 3, .c 4, .c 5, .c 6, .c 7, .c 8, .c 9, .c 10, .c 11, .c 12, .s 13, .c 14] [] ((PoolD W p)) Tryz.mixed (by kernel_rfl) rfl K.cl ?_
        refine dy rfl (y_move rfl) hD ?_
        refine dy rfl (y_nilP rfl) hD ?_
        refine dy rfl (y_fieldAddrB Tryz.tab 1 rfl rfl rfl rfl rfl) hD ?_
        refine dy rfl (y_load Tryz.tab rfl rfl g1) hD ?_
        refine dy rfl (y_move rfl) hD ?_
        refine dy rfl (y_move rfl) hD ?_
        refine dy rfl (y_nilP rfl) hD ?_
        refine dy rfl (y_fieldAddrB Tryz.tab 2 rfl rfl rfl rfl rfl) hD ?_
        refine dy rfl (y_load Tryz.tab rfl rfl g2) hD ?_
        refine dy rfl (y_add rfl rfl (by omega)) hD ?_
        refine dy rfl (y_move rfl) hD ?_
        refine dy rfl (y_move rfl) hD ?_
        refine dy rfl (y_move rfl) hD ?_
        rw [eo]
        refine d_call rfl (en_f rfl Tryz.call106) (ihr _ z1 hG1 (by rw [List.length_append]; omega)) rfl rfl rfl (fun _ => K.cl) (fun _ x w h => hV.pool x.1 w h) (fun x => ?_)
        obtain ⟨z3, hG3⟩ := x
        dsimp only
        have hD1 := hV.pool z3
        refine dy rfl (y_assign rfl) hD1 ?_
        refine d_nil ?_
        refine f_then ?_
        refine c_ret ?_
        exact f_ret ⟨z3, by rw [List.append_assoc] at hG3; exact hG3⟩ (res1 rfl rfl) (fun w h => h)
end Go.KL
end

section
/- Walks: within, its closure, Runs. -/
namespace Go.KL
open Go.Proofs
def rvals (L : List Rn) : List Value := L.flatMap fun r => [.int .i64 (r.1 : Nat), .int .i64 (r.2.1 : Nat), .int .i64 (r.2.2 : Nat)]
theorem rvals_snoc (L : List Rn) (r : Rn) : rvals (L ++ [r]) = rvals L ++ [.int .i64 (r.1 : Nat), .int .i64 (r.2.1 : Nat), .int .i64 (r.2.2 : Nat)] := by simp [rvals]
attribute [local irreducible] SC St Fin Sq Ylds Doos Sets Enters Spec CellIs CellsAre Then Ret Rnd Chn resOK ints bools recs arr
set_option maxRecDepth 10000 in
theorem within_spec {W : World} {N : List Chunk} {q : Option Addr} {lo hi : Nat} : Spec Tryz.prog 90 #[.pointer q, .int .i64 (lo : Nat), .int .i64 (hi : Nat)] (K W N) (X := Nat × Nat × Nat) (fun x => .func (.func 105) #[] #[.pointer (some ⟨x.1, 0, none⟩), .pointer (some ⟨x.2.1, 0, none⟩), .pointer (some ⟨x.2.2, 0, none⟩)])
    (fun x => K W ([(x.2.2, row 3 [.int .i64 (hi : Nat)])] :: [(x.2.1, row 3 [.int .i64 (lo : Nat)])] :: [(x.1, row 27 [.pointer q])] :: N)) := by
  refine enter (args := [_, _, _]) Tryz.func90 rfl Tryz.ntmps90 rfl ?_
  refine csr ?_
  refine sbx fun b3 => ?_
  refine sbx fun b4 => ?_
  refine sbx fun b5 => ?_
  refine sa ?_
  refine snf ?_
  refine csr ?_
  refine sy (y_makeFunc rfl rfl) ?_
  refine sa ?_
  refine snf ?_
  refine c_ret ?_
  exact f_ret (b3, b4, b5) (res1 rfl rfl) (fun w h => h)
set_option maxRecDepth 10000 in
theorem within1_spec {W : World} {p : Chunk} {l most lo hi : Nat} {Z : Type} {Bx : Z → List Chunk} {G : List Rn → Z → Prop} (hV : Vis W p l most Z Bx G) (hlo : lo ≤ 1152921504606846976) (hhi : hi ≤ 1152921504606846976)
    {t : Tree} {v : Value} {z : Z} {b3 b4 b5 : Nat} (ht : Tr p v t) (hk : LOk t.toL) (hG : G [] z) (hlen : (t.clip lo hi 0).length ≤ most)
    (h3 : CellIs (K W (Bx z)) ⟨b3, 0, none⟩ v) (h4 : CellIs (K W (Bx z)) ⟨b4, 0, none⟩ (.int .i64 (lo : Nat))) (h5 : CellIs (K W (Bx z)) ⟨b5, 0, none⟩ (.int .i64 (hi : Nat))) :
    Spec Tryz.prog 105 #[.func (.yield l) #[] #[], .pointer (some ⟨b3, 0, none⟩), .pointer (some ⟨b4, 0, none⟩), .pointer (some ⟨b5, 0, none⟩)] (K W (Bx z)) (X := { z' : Z // G (t.clip lo hi 0) z' }) (fun _ => .tuple #[]) (fun z' => K W (Bx z'.1)) := by
  have hpb : t.pcs ≤ 1152921504606846976 := by rw [Tree.pcs_toL]; exact hk.sz
  have hv := visit_spec hV hlo hhi t (v := v) (o := 0) (L := []) (z := z) ht hk (by omega) hG (by simpa using hlen)
  obtain ⟨q, rfl⟩ := ht.ptr
  refine enter (args := [_, _, _, _]) Tryz.func105 rfl Tryz.ntmps105 rfl ?_
  refine c_region ?_
  refine sl h3 ?_
  refine sl h4 ?_
  refine sl h5 ?_
  refine sm ?_
  refine sk Tryz.call106 hv fun x => ?_
  refine s_nil ?_
  exact f_end ⟨x.1, x.2⟩ (res0 rfl) (fun w h => h)
set_option maxRecDepth 10000 in
set_option maxHeartbeats 8000000 in
theorem runs_spec {W : World} {p : Chunk} {R : List Chunk} {v : Value} {t : Tree} {lo hi most : Nat} (ht : Tr p v t) (hM : MOk t) (h1 : lo ≤ hi) (h2 : hi ≤ t.pcs) (h3 : t.runs ≤ most) (h4 : t.runs ≤ 4096) : Spec Tryz.prog 60 #[.agg #[v], .int .i64 (lo : Nat), .int .i64 (hi : Nat), .int .i64 (most : Nat)] (K W (p :: R))
    (X := { x : Value × Chunk // Buf 26 3 x.1 x.2 (t.clip lo hi 0).length (rvals (t.clip lo hi 0)) }) (fun x => .tuple #[x.1.1, .int .i64 0]) (fun x => K W (x.1.2 :: p :: R)) := by
  have hsz := hM.sz
  have hcl := Tree.clip_len (lo := lo) (hi := hi) t 0
  obtain ⟨q, rfl⟩ := ht.neC hM.ne
  refine enter (args := [_, _, _, _]) Tryz.func60 rfl Tryz.ntmps60 rfl ?_
  refine csr ?_
  refine sbx fun b4 => ?_
  refine sbx fun b7 => ?_
  refine sa ?_
  refine sa ?_
  refine snf ?_
  refine c_seq ?_
  refine csr ?_
  refine sy (y_loadA Tryz.tab rfl rfl rfl rfl (cells_row0 1 rfl rfl)) ?_
  refine sm ?_
  refine sm ?_
  refine St.cls (C' := K W (p :: [(b7, row 3 [.int .i64 (most : Nat)])] :: [(b4, row 29 [.pointer (some q)])] :: R)) ?_ (fun w h => K.rot3 h)
  refine sk Tryz.call89 (ranges_spec ht hM.ne h1 h2) fun _ => ?_
  refine sa ?_
  refine snf ?_
  refine csr ?_
  refine sm ?_
  refine sy (y_F (y_neq rfl rfl) (by omega)) ?_
  refine snf ?_
  refine c_condF rfl ?_
  refine c_skip ?_
  refine f_then ?_
  refine csr ?_
  refine sal fun b11 => ?_
  refine snf ?_
  refine c_seq ?_
  refine csr ?_
  refine sf0 ?_
  refine slr 3 ?_
  refine sm ?_
  refine sm ?_
  refine sk Tryz.call90 within_spec fun x => ?_
  obtain ⟨c3, c4, c5⟩ := x
  dsimp only
  refine snf ?_
  refine c_block ?_
  refine SC.cls (C' := K W ([(c5, row 3 [.int .i64 (hi : Nat)])] :: [(c4, row 3 [.int .i64 (lo : Nat)])] :: [(c3, row 27 [.pointer (some q)])] :: [(b11, row 24 [.slice none 0 0])] :: [] :: p :: [(b7, row 3 [.int .i64 (most : Nat)])] :: [(b4, row 29 [.pointer (some q)])] :: R)) ?_ (fun w h => h.weak [] (by simp [Value.cells]))
  refine c_rangeF (X := { x : Value × Chunk // Buf 26 3 x.1 x.2 (t.clip lo hi 0).length (rvals (t.clip lo hi 0)) }) (fun _ => .tuple #[]) (fun _ => none) (fun x => [(c5, row 3 [.int .i64 (hi : Nat)])] :: [(c4, row 3 [.int .i64 (lo : Nat)])] :: [(c3, row 27 [.pointer (some q)])] :: [(b11, row 24 [x.1.1])] :: x.1.2 :: p :: [(b7, row 3 [.int .i64 (most : Nat)])] :: [(b4, row 29 [.pointer (some q)])] :: R) (by rw [r_inB, r_then, r_ret]) rfl Tryz.call105 (fun k l D hps has hbd hE => ?_) (fun x D hj => ?_) (fun x D cc hj => ?_)
  · have hV : Vis W p l t.runs (Value × Chunk) (fun z => [(l, k.rdy)] :: [(D, dfO)] :: [(c5, row 3 [.int .i64 (hi : Nat)])] :: [(c4, row 3 [.int .i64 (lo : Nat)])] :: [(c3, row 27 [.pointer (some q)])] :: [(b11, row 24 [z.1])] :: z.2 :: p :: [(b7, row 3 [.int .i64 (most : Nat)])] :: [(b4, row 29 [.pointer (some q)])] :: R) (fun L z => Buf 26 3 z.1 z.2 L.length (rvals L)) := by
      refine ⟨fun z w hw => ⟨_, hw.front 7⟩, fun L z r hL hG hr1 hr2 hr3 => ?_⟩
      obtain ⟨u, c⟩ := z
      dsimp only at hG
      refine yspec 0 hE hps rfl rfl rfl ?_
      rw [has, hbd]
      refine c_region ?_
      refine sal fun b12 => ?_
      refine ss (set_box Tryz.tab 0 rfl rfl rfl rfl rfl rfl rfl) ?_
      refine s_nil ?_
      refine f_beg 1 rfl ?_
      refine c_block ?_
      refine c_seq ?_
      refine csr ?_
      refine slr 6 ?_
      refine sy (y_lenBuf Tryz.tab rfl (by assumption) rfl) ?_
      refine slr 9 ?_
      refine sy (y_F (y_geq rfl rfl) (by omega)) ?_
      refine snf ?_
      refine c_condF rfl ?_
      refine c_skip ?_
      refine f_then ?_
      refine c_region ?_
      refine slr 6 ?_
      refine sy (y_loadA Tryz.tab rfl rfl rfl rfl (cells_row0 0 rfl rfl)) ?_
      refine s_do (do_buildSliceS Tryz.tab ⟨rfl, rfl, rfl, rfl⟩ rfl rfl rfl rfl) rfl rfl rfl (fun b32 => ?_)
      refine s_do (do_appendB (k := 1) (by_ := 24) Tryz.tab 8 rfl hG rfl ⟨rfl, rfl, rfl, rfl⟩ rfl (by simp) rfl (by omega) (cells_row0 0 rfl rfl) rfl (by simp [allCells, cellsL, Value.oneCell']) (by unfold maxLen; omega) (by omega)) rfl rfl rfl (fun x => ?_)
      obtain ⟨⟨u', c'⟩, hu⟩ := x
      dsimp only at hu ⊢
      have ho := hu.one
      refine ss (set_box1 Tryz.tab 7 rfl rfl ho rfl rfl) ?_
      refine s_nil ?_
      refine f_blockN ?_
      exact f_rpN 2 ⟨(u', c'), by rw [rvals_snoc, List.length_append]; exact hu⟩ rfl rfl (fun w h => h.tail.tail)
    exact (within1_spec hV (by omega) (by omega) ht hM.lok (z := (.slice none 0 0, [])) .nil hcl (cell_row 4 rfl rfl) (cell_row 3 rfl rfl) (cell_row 2 rfl rfl)).conv (fun z => ⟨z.1, z.2⟩) (fun _ => rfl) (fun _ _ h => h)
  · obtain ⟨⟨u, c⟩, hu⟩ := x
    dsimp only at hu ⊢
    refine f_blockN ?_
    refine f_then ?_
    refine csr ?_
    refine slr 4 ?_
    refine sa ?_
    refine sa ?_
    refine snf ?_
    refine c_ret ?_
    exact f_retM (v := fun x : { x : Value × Chunk // Buf 26 3 x.1 x.2 (t.clip lo hi 0).length (rvals (t.clip lo hi 0)) } => .tuple #[x.1.1, .int .i64 0]) (C' := fun x => K W (x.1.2 :: p :: R)) ⟨(u, c), hu⟩ [D] (res2 rfl rfl rfl) rfl (fun w h => (h.tail.tail.tail.tail.dropAt 2).dropAt 2) rfl
  · cases hj
end Go.KL
end

section
/- Maps as functions from pieces to tags. -/
namespace Go.KL
open Go.Proofs
def MV (p : Chunk) (v : Value) (n : Nat) (f : Nat → Nat) : Prop := ∃ t, Tr p v t ∧ MOk t ∧ Can t.toL ∧ t.pcs = n ∧ tagL t.toL = f
theorem MV.sub {p q : Chunk} {v : Value} {n : Nat} {f : Nat → Nat} (h : MV p v n f) (hS : Sub p q) : MV q v n f := by
  obtain ⟨t, h1, h2⟩ := h
  exact ⟨t, h1.sub hS, h2⟩
theorem MV.ptr {p : Chunk} {v : Value} {n : Nat} {f : Nat → Nat} (h : MV p v n f) : ∃ a, v = .pointer (some a) := by
  obtain ⟨t, h1, h2, _⟩ := h
  exact h1.neC h2.ne
theorem MV.pos {p : Chunk} {v : Value} {n : Nat} {f : Nat → Nat} (h : MV p v n f) : 0 < n ∧ n ≤ 1099511627776 := by
  obtain ⟨t, h1, h2, h3, rfl, _⟩ := h
  refine ⟨?_, h2.sz⟩
  cases t with
  | nil => exact absurd rfl h2.ne
  | node l n k r =>
    have := h2.pos
    rw [Tree.toL, PosL.app, PosL.cons] at this
    have := this.2.1
    simp only [Tree.pcs] at *
    omega
theorem MV.tag {p : Chunk} {v : Value} {n : Nat} {f : Nat → Nat} (h : MV p v n f) (i : Nat) : f i < 16 := by
  obtain ⟨t, h1, h2, h3, _, rfl⟩ := h
  have key : ∀ {L : List (Nat × Nat)} {i : Nat}, (∀ x ∈ L, x.2 < 16) → tagL L i < 16 := by
    intro L
    induction L with
    | nil => intro i _; simp [tagL]
    | cons x L ih =>
      intro i h
      rw [tagL]
      split
      · exact h x List.mem_cons_self
      · exact ih fun y hy => h y (List.mem_cons_of_mem _ hy)
  exact key h2.tags
theorem MV.out {p : Chunk} {v : Value} {n : Nat} {f : Nat → Nat} (h : MV p v n f) {i : Nat} (hi : n ≤ i) : f i = 0 := by
  obtain ⟨t, h1, h2, h3, rfl, rfl⟩ := h
  exact tagL_out (by rw [← Tree.pcs_toL]; exact hi)
theorem setT_tag {t : Tree} {lo hi tag : Nat} (hF : SetF t lo hi tag) (h1 : lo ≤ hi) (h2 : hi ≤ t.pcs) : tagL (setT t lo hi tag).toL = setf (tagL t.toL) lo hi tag := by
  rw [Tree.pcs_toL] at h2
  funext i
  rw [hF.l, tagL_cat, tagL_cat, szL_cat, szL_take (by omega), tagL_drop, tagL_drop, setf]
  have e : szL (if hi - lo = 0 then [] else [(hi - lo, tag)]) = hi - lo := by split <;> simp only [szL] <;> omega
  rw [e]
  by_cases c1 : i < lo
  · rw [if_pos (show i < lo + (hi - lo) by omega), if_pos c1, if_neg (show ¬ (lo ≤ i ∧ i < hi) by omega), tagL_take c1]
  · by_cases c2 : i < hi
    · rw [if_pos (show i < lo + (hi - lo) by omega), if_neg c1, if_pos (show lo ≤ i ∧ i < hi by omega), if_neg (show ¬ hi - lo = 0 by omega)]
      show (if i - lo < hi - lo then tag else _) = tag
      rw [if_pos (by omega)]
    · rw [if_neg (show ¬ i < lo + (hi - lo) by omega), if_neg (show ¬ (lo ≤ i ∧ i < hi) by omega)]
      congr 1
      omega
theorem setT_can {t : Tree} {lo hi tag : Nat} (hF : SetF t lo hi tag) (hc : Can t.toL) : Can (setT t lo hi tag).toL := by
  rw [hF.l]
  refine Can.cat (Can.cat hc.take ?_) hc.drop.drop
  split
  · trivial
  · exact ⟨by dsimp only; omega, by simp, trivial⟩
section
variable {W : World} {p : Chunk} {R : List Chunk} {v : Value} {n : Nat} {f : Nat → Nat} {lo hi tag : Nat}
def MX (p : Chunk) (n : Nat) (f : Nat → Nat) := { x : Chunk × Value // Sub p x.1 ∧ MV x.1 x.2 n f }
theorem msize_spec (h : MV p v n f) : Spec Tryz.prog 36 #[.agg #[v]] (K W (p :: R)) (fun _ : Unit => .int .i64 (n : Nat)) (fun _ => K W (p :: R)) := by
  obtain ⟨t, h1, h2, h3, rfl, rfl⟩ := h
  exact size_spec h1
theorem mlen_spec (h : MV p v n f) : Spec Tryz.prog 37 #[.agg #[v]] (K W (p :: R)) (fun _ : Unit => .int .i64 (nbd f n : Nat)) (fun _ => K W (p :: R)) := by
  obtain ⟨t, h1, h2, h3, rfl, rfl⟩ := h
  rw [← Tree.runs_rns h3]
  exact len_spec h1
theorem mset_spec (h : MV p v n f) (h1 : lo ≤ hi) (h2 : hi ≤ n) (h3 : tag < 16) (h4 : nbd (setf f lo hi tag) n ≤ 4096) : Spec Tryz.prog 65 #[.agg #[v], .int .i64 (lo : Nat), .int .i64 (hi : Nat), .int .i64 (tag : Nat)] (K W (p :: R)) (X := MX p n (setf f lo hi tag)) (fun x => .tuple #[.agg #[x.1.2], .int .i64 0]) (fun x => K W (x.1.1 :: R)) := by
  obtain ⟨t, ht, hM, hc, rfl, rfl⟩ := h
  have hF := setF hM h1 h2 h3
  have e := setT_tag hF h1 h2
  have hc' := setT_can hF hc
  have hr : (setT t lo hi tag).runs ≤ 4096 := by rw [Tree.runs_rns hc', e, hF.sz]; exact h4
  exact (set_spec ht hM h1 h2 h3).map (Y := MX p t.pcs (setf (tagL t.toL) lo hi tag)) (fun x => ⟨x.1, x.2.1, _, x.2.2, hF.ok, hc', hF.sz, e⟩) (fun x => by rw [if_pos hr]) (fun _ _ h => h)
theorem mcount_spec (h : MV p v n f) (h1 : lo ≤ hi) (h2 : hi ≤ n) (h3 : tag < 16) : Spec Tryz.prog 121 #[.agg #[v], .int .i64 (lo : Nat), .int .i64 (hi : Nat), .int .i64 (tag : Nat)] (K W (p :: R))
    (fun _ : Unit => .tuple #[.int .i64 ((cntf f tag hi : Nat) - (cntf f tag lo : Nat) : Int), .int .i64 0]) (fun _ => K W (p :: R)) := by
  obtain ⟨t, ht, hM, hc, rfl, rfl⟩ := h
  rw [← Tree.bef_cntf hc h2, ← Tree.bef_cntf hc (Nat.le_trans h1 h2)]
  exact count_spec ht hM h1 h2 h3
theorem mruns_spec {most : Nat} (h : MV p v n f) (h1 : lo ≤ hi) (h2 : hi ≤ n) (h3 : nbd f n ≤ most) (h4 : nbd f n ≤ 4096) : Spec Tryz.prog 60 #[.agg #[v], .int .i64 (lo : Nat), .int .i64 (hi : Nat), .int .i64 (most : Nat)] (K W (p :: R))
    (X := { x : Value × Chunk // Buf 26 3 x.1 x.2 (rns f lo hi).length (rvals (rns f lo hi)) }) (fun x => .tuple #[x.1.1, .int .i64 0]) (fun x => K W (x.1.2 :: p :: R)) := by
  obtain ⟨t, ht, hM, hc, rfl, rfl⟩ := h
  rw [← Tree.runs_rns hc] at h3 h4
  rw [← Tree.clip_rns hc h1 h2]
  exact runs_spec ht hM h1 h2 h3 h4
theorem mnew_spec (h1 : 1 ≤ n) (h2 : n ≤ 1099511627776) : Spec Tryz.prog 25 #[.int .i64 (n : Nat)] (K W (p :: R)) (X := MX p n (fun _ => 0)) (fun x => .tuple #[.agg #[x.1.2], .int .i64 0]) (fun x => K W (x.1.1 :: R)) := by
  have hl : (Tree.leaf n 0).toL = [(n, 0)] := by rw [Tree.leaf_toL, if_neg (by omega)]
  have hp : (Tree.leaf n 0).pcs = n := by rw [Tree.pcs_toL, hl]; simp [szL]
  refine (new_spec h1 h2).map (Y := MX p n (fun _ => 0)) (fun x => ⟨x.1, x.2.1, _, x.2.2, ⟨?_, Tree.leaf_bal n 0, ?_, ?_, by omega⟩, ?_, hp, ?_⟩) (fun x => rfl) (fun _ _ h => h)
  · intro e
    rw [e] at hp
    simp only [Tree.pcs] at hp
    omega
  · rw [hl]; exact PosL.cons.2 ⟨by dsimp only; omega, fun x hx => by simp at hx⟩
  · rw [hl]; intro x hx; rw [List.mem_singleton.1 hx]; exact Nat.succ_pos 15
  · rw [hl]; exact ⟨by dsimp only; omega, by simp, trivial⟩
  · rw [hl]; funext i; simp [tagL]
end
end Go.KL
end

section
/- Walks: conflict, its closure, ContainsFunc. -/
namespace Go.KL
open Go.Proofs
attribute [local irreducible] SC St Fin Sq Ylds Doos Sets Enters Spec CellIs CellsAre Then Ret Rnd Chn resOK ints bools recs arr
set_option maxRecDepth 10000 in
theorem cf_spec' {W : World} {Ls : List Chunk} {a1 a2 a3 q1 q2 q3 : Nat} {a4 q4 : Bool} : Spec Tryz.prog 133 #[.agg #[.int .i64 (a1 : Nat), .int .i64 (a2 : Nat), .int .i64 (a3 : Nat), .bool a4], .agg #[.int .i64 (q1 : Nat), .int .i64 (q2 : Nat), .int .i64 (q3 : Nat), .bool q4]] (K W Ls)
    (fun _ : Unit => .bool (decide (a1 ≠ q1) && ((a4 || q4) && decide (max a2 q2 < min a3 q3)))) (fun _ => K W Ls) := by
  refine enter (args := [_, _]) Tryz.func133 rfl Tryz.ntmps133 rfl ?_
  by_cases h1 : a1 = q1
  · simp only [h1, ne_eq, not_true_eq_false, decide_false, Bool.false_and]
    refine csr ?_
    refine sbx fun b2 => ?_
    refine sbx fun b3 => ?_
    refine sa ?_
    refine snf ?_
    refine csr ?_
    refine sf0 ?_
    refine slr 1 ?_
    refine sf0 ?_
    refine slr 0 ?_
    refine sy (y_F (y_neq rfl rfl) (by omega)) ?_
    refine sm ?_
    iterate 6 refine s_skip rfl rfl rfl ?_
    refine spF ?_
    refine sm ?_
    iterate 11 refine s_skip rfl rfl rfl ?_
    refine spF ?_
    refine sa ?_
    refine snf ?_
    refine c_ret ?_
    exact f_ret () (res1 rfl rfl) (fun w h => h.tail.tail)
  · simp only [h1, ne_eq, not_false_eq_true, decide_true, Bool.true_and]
    by_cases h2 : max a2 q2 < min a3 q3
    · simp only [h2, decide_true, Bool.and_true]
      cases a4
      · cases q4
        · refine csr ?_
          refine sbx fun b2 => ?_
          refine sbx fun b3 => ?_
          refine sa ?_
          refine snf ?_
          refine csr ?_
          refine sf0 ?_
          refine slr 1 ?_
          refine sf0 ?_
          refine slr 0 ?_
          refine sy (y_T (y_neq rfl rfl) (by omega)) ?_
          refine sm ?_
          refine sf 3 ?_
          refine slr 1 ?_
          refine sm ?_
          refine sf 3 ?_
          refine slr 0 ?_
          refine spF ?_
          refine spT ?_
          refine sm ?_
          iterate 11 refine s_skip rfl rfl rfl ?_
          refine spF ?_
          refine sa ?_
          refine snf ?_
          refine c_ret ?_
          exact f_ret () (res1 rfl rfl) (fun w h => h.tail.tail)
        · refine csr ?_
          refine sbx fun b2 => ?_
          refine sbx fun b3 => ?_
          refine sa ?_
          refine snf ?_
          refine csr ?_
          refine sf0 ?_
          refine slr 1 ?_
          refine sf0 ?_
          refine slr 0 ?_
          refine sy (y_T (y_neq rfl rfl) (by omega)) ?_
          refine sm ?_
          refine sf 3 ?_
          refine slr 1 ?_
          refine sm ?_
          refine sf 3 ?_
          refine slr 0 ?_
          refine spF ?_
          refine spT ?_
          refine sm ?_
          refine sf 1 ?_
          refine slr 1 ?_
          refine sf 1 ?_
          refine slr 0 ?_
          refine sy (y_max rfl rfl) ?_
          refine sf 2 ?_
          refine slr 1 ?_
          refine sf 2 ?_
          refine slr 0 ?_
          refine sy (y_min rfl rfl) ?_
          refine sy (y_T (y_lss rfl rfl) (by omega)) ?_
          refine spT ?_
          refine sa ?_
          refine snf ?_
          refine c_ret ?_
          exact f_ret () (res1 rfl rfl) (fun w h => h.tail.tail)
      · refine csr ?_
        refine sbx fun b2 => ?_
        refine sbx fun b3 => ?_
        refine sa ?_
        refine snf ?_
        refine csr ?_
        refine sf0 ?_
        refine slr 1 ?_
        refine sf0 ?_
        refine slr 0 ?_
        refine sy (y_T (y_neq rfl rfl) (by omega)) ?_
        refine sm ?_
        refine sf 3 ?_
        refine slr 1 ?_
        refine sm ?_
        iterate 2 refine s_skip rfl rfl rfl ?_
        refine spT ?_
        refine spT ?_
        refine sm ?_
        refine sf 1 ?_
        refine slr 1 ?_
        refine sf 1 ?_
        refine slr 0 ?_
        refine sy (y_max rfl rfl) ?_
        refine sf 2 ?_
        refine slr 1 ?_
        refine sf 2 ?_
        refine slr 0 ?_
        refine sy (y_min rfl rfl) ?_
        refine sy (y_T (y_lss rfl rfl) (by omega)) ?_
        refine spT ?_
        refine sa ?_
        refine snf ?_
        refine c_ret ?_
        exact f_ret () (res1 rfl rfl) (fun w h => h.tail.tail)
    · simp only [h2, decide_false, Bool.and_false]
      cases a4
      · cases q4
        · refine csr ?_
          refine sbx fun b2 => ?_
          refine sbx fun b3 => ?_
          refine sa ?_
          refine snf ?_
          refine csr ?_
          refine sf0 ?_
          refine slr 1 ?_
          refine sf0 ?_
          refine slr 0 ?_
          refine sy (y_T (y_neq rfl rfl) (by omega)) ?_
          refine sm ?_
          refine sf 3 ?_
          refine slr 1 ?_
          refine sm ?_
          refine sf 3 ?_
          refine slr 0 ?_
          refine spF ?_
          refine spT ?_
          refine sm ?_
          iterate 11 refine s_skip rfl rfl rfl ?_
          refine spF ?_
          refine sa ?_
          refine snf ?_
          refine c_ret ?_
          exact f_ret () (res1 rfl rfl) (fun w h => h.tail.tail)
        · refine csr ?_
          refine sbx fun b2 => ?_
          refine sbx fun b3 => ?_
          refine sa ?_
          refine snf ?_
          refine csr ?_
          refine sf0 ?_
          refine slr 1 ?_
          refine sf0 ?_
          refine slr 0 ?_
          refine sy (y_T (y_neq rfl rfl) (by omega)) ?_
          refine sm ?_
          refine sf 3 ?_
          refine slr 1 ?_
          refine sm ?_
          refine sf 3 ?_
          refine slr 0 ?_
          refine spF ?_
          refine spT ?_
          refine sm ?_
          refine sf 1 ?_
          refine slr 1 ?_
          refine sf 1 ?_
          refine slr 0 ?_
          refine sy (y_max rfl rfl) ?_
          refine sf 2 ?_
          refine slr 1 ?_
          refine sf 2 ?_
          refine slr 0 ?_
          refine sy (y_min rfl rfl) ?_
          refine sy (y_F (y_lss rfl rfl) (by omega)) ?_
          refine spT ?_
          refine sa ?_
          refine snf ?_
          refine c_ret ?_
          exact f_ret () (res1 rfl rfl) (fun w h => h.tail.tail)
      · refine csr ?_
        refine sbx fun b2 => ?_
        refine sbx fun b3 => ?_
        refine sa ?_
        refine snf ?_
        refine csr ?_
        refine sf0 ?_
        refine slr 1 ?_
        refine sf0 ?_
        refine slr 0 ?_
        refine sy (y_T (y_neq rfl rfl) (by omega)) ?_
        refine sm ?_
        refine sf 3 ?_
        refine slr 1 ?_
        refine sm ?_
        iterate 2 refine s_skip rfl rfl rfl ?_
        refine spT ?_
        refine spT ?_
        refine sm ?_
        refine sf 1 ?_
        refine slr 1 ?_
        refine sf 1 ?_
        refine slr 0 ?_
        refine sy (y_max rfl rfl) ?_
        refine sf 2 ?_
        refine slr 1 ?_
        refine sf 2 ?_
        refine slr 0 ?_
        refine sy (y_min rfl rfl) ?_
        refine sy (y_F (y_lss rfl rfl) (by omega)) ?_
        refine spT ?_
        refine sa ?_
        refine snf ?_
        refine c_ret ?_
        exact f_ret () (res1 rfl rfl) (fun w h => h.tail.tail)
theorem cf_spec {W : World} {Ls : List Chunk} {a b : Lk} : Spec Tryz.prog 133 #[lkv a, lkv b] (K W Ls) (fun _ : Unit => .bool (cfl a b)) (fun _ => K W Ls) := cf_spec'
set_option maxRecDepth 10000 in
theorem cfc_spec {W : World} {Ls : List Chunk} {a l : Lk} {b : Nat} (hb : CellsAre (K W Ls) ⟨b, 0, none⟩ (lkc l)) : Spec Tryz.prog 132 #[lkv a, .pointer (some ⟨b, 0, none⟩)] (K W Ls) (fun _ : Unit => .bool (cfl a l)) (fun _ => K W Ls) := by
  refine enter (args := [_, _]) Tryz.func132 rfl Tryz.ntmps132 rfl ?_
  refine csr ?_
  refine sbx fun b2 => ?_
  refine sa ?_
  refine snf ?_
  refine csr ?_
  refine sy (y_loadA Tryz.tab rfl rfl rfl rfl (cells_row0 0 rfl rfl)) ?_
  refine sy (y_loadA Tryz.tab rfl rfl rfl rfl hb.cons) ?_
  refine sk Tryz.call133 (cf_spec (a := a) (b := l)) fun _ => ?_
  refine sa ?_
  refine snf ?_
  refine c_ret ?_
  exact f_ret () (res1 rfl rfl) (fun w h => h.tail)
set_option maxRecDepth 10000 in
theorem index_spec {W : World} {Ls : List Chunk} {v : Value} {L : List Lk} {l : Lk} {b : Nat} (hv : EV (K W Ls) v 4 (lks L)) (hb : CellsAre (K W Ls) ⟨b, 0, none⟩ (lkc l)) (hl : L.length ≤ 1000000) :
    Spec Tryz.prog 143 #[v, .func (.func 132) #[] #[.pointer (some ⟨b, 0, none⟩)]] (K W Ls) (X := { z : Int // (0 ≤ z ↔ (L.any fun x => cfl x l) = true) }) (fun z => .int .i64 z.1) (fun _ => K W Ls) := by
  refine enter (args := [_, _]) Tryz.func143 rfl Tryz.ntmps143 rfl ?_
  refine csr ?_
  refine sa ?_
  refine snf ?_
  refine c_seq ?_
  refine csr ?_
  refine sm ?_
  refine sy (y_lenE Tryz.tab rfl (hv) rfl) ?_
  refine sm ?_
  refine snf ?_
  refine c_block ?_
  refine c_loopP (α := Nat) (fun z => [(0, v), (1, .func (.func 132) #[] #[.pointer (some ⟨b, 0, none⟩)]), (7, .int .i64 (lks L).length), (8, .int .i64 (z : Nat))]) (fun z => z ≤ L.length ∧ ∀ i x, i < z → L[i]? = some x → cfl x l = false) (fun _ => K W Ls) (fun z => L.length - z) 0
    ⟨rfl, rfl, rfl, rfl, trivial⟩ ⟨Nat.zero_le _, fun i x h => absurd h (by omega)⟩ (fun w h => h) ?_
  rintro z ⟨hz, hno⟩
  have hlen : (lks L).length = L.length := List.length_map _
  by_cases c : z < L.length
  · obtain ⟨x, hx⟩ : ∃ x, L[z]? = some x := ⟨L[z], by simp [c]⟩
    have hc := hv.row (lks_get hx)
    refine csr ?_
    refine sy (y_T (y_lss rfl rfl) (by omega)) ?_
    refine snf ?_
    refine c_seq ?_
    refine c_condT rfl ?_
    refine c_skip ?_
    refine f_then ?_
    refine c_seq ?_
    refine c_block ?_
    refine csr ?_
    refine sm ?_
    refine sa ?_
    refine snf ?_
    refine csr ?_
    refine sm ?_
    refine sm ?_
    refine sm ?_
    refine sy (y_ixE Tryz.tab rfl rfl rfl rfl (hv) _ rfl (by omega)) ?_
    refine sy (y_loadA Tryz.tab rfl rfl rfl rfl hc) ?_
    refine s_call (en_v rfl rfl Tryz.call132) (cfc_spec (a := x) hb) rfl rfl rfl (fun _ => ?_)
    cases hcf : cfl x l with
    | true =>
      refine snf ?_
      refine c_condT rfl ?_
      refine csr ?_
      refine sm ?_
      refine sa ?_
      refine snf ?_
      refine c_ret ?_
      refine f_blockR ?_
      refine f_thenR ?_
      refine f_rndR ?_
      refine f_blockR ?_
      refine f_thenR ?_
      exact f_ret ⟨(z : Int), ⟨fun _ => List.any_eq_true.2 ⟨x, List.mem_of_getElem? hx, hcf⟩, fun _ => by omega⟩⟩ (res1 rfl rfl) (fun w h => h)
    | false =>
      refine snf ?_
      refine c_condF rfl ?_
      refine c_skip ?_
      refine f_blockN ?_
      refine f_then ?_
      refine c_region ?_
      refine sy (y_add rfl rfl (by omega)) ?_
      refine sm ?_
      refine s_nil ?_
      exact f_roundP (z + 1) ⟨c, fun i y hi hy => by
        by_cases e : i = z
        · subst e
          rw [hx] at hy
          rw [← Option.some.inj hy]; exact hcf
        · exact hno i y (by omega) hy⟩ (by omega) ⟨rfl, rfl, rfl, rfl, trivial⟩ (fun w h => h)
  · obtain rfl : z = L.length := by omega
    refine csr ?_
    refine sy (y_F (y_lss rfl rfl) (by omega)) ?_
    refine snf ?_
    refine c_seq ?_
    refine c_condF rfl ?_
    refine c_exit ?_
    refine f_thenE ?_
    refine f_rndE ?_
    refine f_blockE ?_
    refine f_then ?_
    refine csr ?_
    refine sa ?_
    refine snf ?_
    refine c_ret ?_
    refine f_ret ⟨-1, ⟨fun h => absurd h (by omega), fun h => ?_⟩⟩ (res1 rfl rfl) (fun w h => h)
    obtain ⟨x, hx, hcf⟩ := List.any_eq_true.1 h
    obtain ⟨i, hi⟩ := List.getElem?_of_mem hx
    have := hno i x (List.getElem?_eq_some_iff.1 hi).1 hi
    rw [this] at hcf
    cases hcf
set_option maxRecDepth 10000 in
theorem contains_spec {W : World} {Ls : List Chunk} {v : Value} {L : List Lk} {l : Lk} {b : Nat} (hv : EV (K W Ls) v 4 (lks L)) (hb : CellsAre (K W Ls) ⟨b, 0, none⟩ (lkc l)) (hl : L.length ≤ 1000000) :
    Spec Tryz.prog 131 #[v, .func (.func 132) #[] #[.pointer (some ⟨b, 0, none⟩)]] (K W Ls) (fun _ : Unit => .bool (L.any fun x => cfl x l)) (fun _ => K W Ls) := by
  refine enter (args := [_, _]) Tryz.func131 rfl Tryz.ntmps131 rfl ?_
  refine csr ?_
  refine sa ?_
  refine snf ?_
  refine csr ?_
  refine sm ?_
  refine sm ?_
  refine sk Tryz.call143 (index_spec hv hb hl) fun x => ?_
  obtain ⟨z, hz⟩ := x
  dsimp only
  cases h : L.any fun x => cfl x l with
  | true =>
    have := hz.2 h
    refine sy (y_T (y_geq rfl rfl) (by assumption)) ?_
    refine sa ?_
    refine snf ?_
    refine c_ret ?_
    exact f_ret () (res1 rfl rfl) (fun w h => h)
  | false =>
    have : ¬ 0 ≤ z := fun c => by rw [hz.1 c] at h; cases h
    refine sy (y_F (y_geq rfl rfl) (by assumption)) ?_
    refine sa ?_
    refine snf ?_
    refine c_ret ?_
    exact f_ret () (res1 rfl rfl) (fun w h => h)
end Go.KL
end

section
/- The library's contracts at this program: numbers of functions and types (printed by a tool of the kit). -/
namespace Go.Proofs
open Go.Shelf
def Tryz.keysA_ren : Go.Shelf.Ren := ⟨fun | 7 => 126 | 10 => 139 | n => n, fun | 23 => 93 | 26 => 3 | 3 => 105 | 28 => 189 | 0 => 0 | 27 => 188 | 33 => 91 | 4 => 4 | n => n, fun | n => n⟩
theorem Tryz.keysA : Go.Proofs.SlLaysZI.n7 Tryz.prog Tryz.keysA_ren := {
  mixed := by kernel_rfl
  f7 := ⟨Tryz.f126.name, by decide, Tryz.func126.trans (congrArg some (by kernel_rfl))⟩
  f10 := ⟨Tryz.f139.name, by decide, Tryz.func139.trans (congrArg some (by kernel_rfl))⟩
  t0 := Tryz.underlying0
  a0 := Tryz.isAgg0
  z0 := Tryz.sizeOf0
  v0 := Tryz.zeroValue0
  t4 := Tryz.underlying4
  a4 := Tryz.isAgg4
  z4 := Tryz.sizeOf4
  v4 := Tryz.zeroValue4
  t23 := Tryz.underlying93
  a23 := Tryz.isAgg93
  z23 := Tryz.sizeOf93
  v23 := Tryz.zeroValue93
  t26 := Tryz.underlying3
  a26 := Tryz.isAgg3
  z26 := Tryz.sizeOf3
  v26 := Tryz.zeroValue3
  t27 := Tryz.underlying188
  a27 := Tryz.isAgg188
  z27 := Tryz.sizeOf188
  v27 := Tryz.zeroValue188
  t28 := Tryz.underlying189
  a28 := Tryz.isAgg189
  z28 := Tryz.sizeOf189
  v28 := Tryz.zeroValue189
  t33 := Tryz.underlying91
  a33 := Tryz.isAgg91
  z33 := Tryz.sizeOf91
  v33 := Tryz.zeroValue91 }
def Tryz.sortedA_ren : Go.Shelf.Ren := ⟨fun | 6 => 125 | 8 => 137 | 9 => 138 | 11 => 146 | 13 => 148 | 12 => 147 | 23 => 160 | 24 => 161 | 14 => 151 | 15 => 152 | 16 => 153 | 17 => 154 | 18 => 155 | 19 => 156 | 20 => 157 | 21 => 158 | 22 => 159 | 25 => 163 | 26 => 164 | 27 => 165 | 28 => 166 | 29 => 167 | 30 => 136 | 31 => 168 | n => n, fun | 26 => 3 | 28 => 189 | 24 => 179 | 0 => 0 | 3 => 3 | 37 => 205 | 48 => 216 | 50 => 218 | 4 => 4 | 40 => 209 | 39 => 208 | 45 => 213 | 5 => 5 | 9 => 9 | 51 => 219 | 55 => 223 | 57 => 225 | 58 => 130 | 33 => 91 | n => n, fun | n => n⟩
theorem Tryz.sortedA : Go.Proofs.SlLaysZI.n6 Tryz.prog Tryz.sortedA_ren := {
  mixed := by kernel_rfl
  f6 := ⟨Tryz.f125.name, by decide, Tryz.func125.trans (congrArg some (by kernel_rfl))⟩
  f8 := ⟨Tryz.f137.name, by decide, Tryz.func137.trans (congrArg some (by kernel_rfl))⟩
  f11 := ⟨Tryz.f146.name, by decide, Tryz.func146.trans (congrArg some (by kernel_rfl))⟩
  t0 := Tryz.underlying0
  a0 := Tryz.isAgg0
  z0 := Tryz.sizeOf0
  v0 := Tryz.zeroValue0
  t24 := Tryz.underlying179
  a24 := Tryz.isAgg179
  z24 := Tryz.sizeOf179
  v24 := Tryz.zeroValue179
  t26 := Tryz.underlying3
  a26 := Tryz.isAgg3
  z26 := Tryz.sizeOf3
  v26 := Tryz.zeroValue3
  t28 := Tryz.underlying189
  a28 := Tryz.isAgg189
  z28 := Tryz.sizeOf189
  v28 := Tryz.zeroValue189
  i26 := by kernel_rfl }
def Tryz.sortA_ren : Go.Shelf.Ren := ⟨fun | 5 => 138 | 8 => 148 | 7 => 147 | 19 => 160 | 20 => 161 | 10 => 151 | 11 => 152 | 12 => 153 | 13 => 154 | 14 => 155 | 15 => 156 | 16 => 157 | 17 => 158 | 18 => 159 | 30 => 163 | 31 => 164 | 32 => 165 | 33 => 166 | 34 => 167 | 35 => 136 | 40 => 168 | n => n, fun | 23 => 179 | 25 => 3 | 3 => 3 | 32 => 205 | 22 => 179 | 0 => 0 | 44 => 216 | 46 => 218 | 4 => 4 | 36 => 209 | 35 => 208 | 41 => 213 | 5 => 5 | 9 => 9 | 53 => 219 | 57 => 223 | 63 => 225 | 64 => 130 | n => n, fun | n => n⟩
theorem Tryz.sortA : Go.Proofs.SlLaysM.n5 Tryz.prog Tryz.sortA_ren := {
  mixed := by kernel_rfl
  f5 := ⟨Tryz.f138.name, by decide, Tryz.func138.trans (congrArg some (by kernel_rfl))⟩
  f7 := ⟨Tryz.f147.name, by decide, Tryz.func147.trans (congrArg some (by kernel_rfl))⟩
  f8 := Tryz.func148.trans (congrArg some (by kernel_rfl))
  f10 := ⟨Tryz.f151.name, by decide, Tryz.func151.trans (congrArg some (by kernel_rfl))⟩
  f11 := ⟨Tryz.f152.name, by decide, Tryz.func152.trans (congrArg some (by kernel_rfl))⟩
  f12 := ⟨Tryz.f153.name, by decide, Tryz.func153.trans (congrArg some (by kernel_rfl))⟩
  f13 := ⟨Tryz.f154.name, by decide, Tryz.func154.trans (congrArg some (by kernel_rfl))⟩
  f14 := ⟨Tryz.f155.name, by decide, Tryz.func155.trans (congrArg some (by kernel_rfl))⟩
  f15 := ⟨Tryz.f156.name, by decide, Tryz.func156.trans (congrArg some (by kernel_rfl))⟩
  f16 := ⟨Tryz.f157.name, by decide, Tryz.func157.trans (congrArg some (by kernel_rfl))⟩
  f17 := ⟨Tryz.f158.name, by decide, Tryz.func158.trans (congrArg some (by kernel_rfl))⟩
  f18 := ⟨Tryz.f159.name, by decide, Tryz.func159.trans (congrArg some (by kernel_rfl))⟩
  f19 := Tryz.func160.trans (congrArg some (by kernel_rfl))
  f20 := Tryz.func161.trans (congrArg some (by kernel_rfl))
  f30 := ⟨Tryz.f163.name, by decide, Tryz.func163.trans (congrArg some (by kernel_rfl))⟩
  f31 := Tryz.func164.trans (congrArg some (by kernel_rfl))
  f32 := Tryz.func165.trans (congrArg some (by kernel_rfl))
  f33 := ⟨Tryz.f166.name, by decide, Tryz.func166.trans (congrArg some (by kernel_rfl))⟩
  f34 := ⟨Tryz.f167.name, by decide, Tryz.func167.trans (congrArg some (by kernel_rfl))⟩
  f35 := ⟨Tryz.f136.name, by decide, Tryz.func136.trans (congrArg some (by kernel_rfl))⟩
  f40 := ⟨Tryz.f168.name, by decide, Tryz.func168.trans (congrArg some (by kernel_rfl))⟩
  t0 := Tryz.underlying0
  a0 := Tryz.isAgg0
  z0 := Tryz.sizeOf0
  v0 := Tryz.zeroValue0
  t3 := Tryz.underlying3
  a3 := Tryz.isAgg3
  z3 := Tryz.sizeOf3
  v3 := Tryz.zeroValue3
  t4 := Tryz.underlying4
  a4 := Tryz.isAgg4
  z4 := Tryz.sizeOf4
  v4 := Tryz.zeroValue4
  t5 := Tryz.underlying5
  a5 := Tryz.isAgg5
  z5 := Tryz.sizeOf5
  v5 := Tryz.zeroValue5
  t9 := Tryz.underlying9
  a9 := Tryz.isAgg9
  z9 := Tryz.sizeOf9
  v9 := Tryz.zeroValue9
  t22 := Tryz.underlying179
  a22 := Tryz.isAgg179
  z22 := Tryz.sizeOf179
  v22 := Tryz.zeroValue179
  t23 := Tryz.underlying179
  a23 := Tryz.isAgg179
  z23 := Tryz.sizeOf179
  v23 := Tryz.zeroValue179
  t25 := Tryz.underlying3
  a25 := Tryz.isAgg3
  z25 := Tryz.sizeOf3
  v25 := Tryz.zeroValue3
  t32 := Tryz.underlying205
  a32 := Tryz.isAgg205
  z32 := Tryz.sizeOf205
  v32 := Tryz.zeroValue205
  t35 := Tryz.underlying208
  a35 := Tryz.isAgg208
  z35 := Tryz.sizeOf208
  v35 := Tryz.zeroValue208
  t36 := Tryz.underlying209
  a36 := Tryz.isAgg209
  z36 := Tryz.sizeOf209
  v36 := Tryz.zeroValue209
  t41 := Tryz.underlying213
  a41 := Tryz.isAgg213
  z41 := Tryz.sizeOf213
  v41 := Tryz.zeroValue213
  t44 := Tryz.underlying216
  a44 := Tryz.isAgg216
  z44 := Tryz.sizeOf216
  v44 := Tryz.zeroValue216
  t46 := Tryz.underlying218
  a46 := Tryz.isAgg218
  z46 := Tryz.sizeOf218
  v46 := Tryz.zeroValue218
  t53 := Tryz.underlying219
  a53 := Tryz.isAgg219
  z53 := Tryz.sizeOf219
  v53 := Tryz.zeroValue219
  t57 := Tryz.underlying223
  a57 := Tryz.isAgg223
  z57 := Tryz.sizeOf223
  v57 := Tryz.zeroValue223
  t63 := Tryz.underlying225
  a63 := Tryz.isAgg225
  z63 := Tryz.sizeOf225
  v63 := Tryz.zeroValue225
  t64 := Tryz.underlying130
  a64 := Tryz.isAgg130
  z64 := Tryz.sizeOf130
  v64 := Tryz.zeroValue130 }
end Go.Proofs
end

section
/- Contracts: the keys of a map, sorted. -/
namespace Go.KL
open Go.Proofs Go.RowKit Go.Maps Go.Sort Go.Shelf
theorem Below.ext {w w' : World} (h : Below w.heap.size w w') : Ext w w' := ⟨h.os, h.tape, h.output, h.size, h.block⟩
theorem sortsA (m : Nat) : AnyZI.SortsIn Tryz.prog Tryz.sortedA_ren Fence.wide m :=
  ⟨fun blk off cap ss W hH hblk hsz => callsIn_wide.2 (AnyM.slices_Sort_int Tryz.sortA blk off cap ss W hH hblk hsz),
   fun p cap W => callsIn_wide.2 (AnyM.slices_Sort_int_none Tryz.sortA p cap W)⟩
def leI (x y : Int) : Bool := decide (x ≤ y)
def skeys (es : List Ent) : List Int := (es.map (·.1)).mergeSort leI
def ivals (l : List Int) : List Value := l.map fun z => .int .i64 z
theorem K.newRow {W w w' : World} {Ls : List Chunk} (h : K W Ls w) {v : Value} {n : Nat} {xs : List Value} (hr : w'.ownsRow w.heap.size 3 1 v n xs) (hn : v = .slice none 0 0 ↔ n = 0) (he : Ext w w') :
    ∃ c : Chunk, Buf 3 1 v c n xs ∧ K W (c :: Ls) w' := by
  obtain ⟨hl, hr⟩ := hr
  by_cases h0 : n = 0
  · subst h0
    have : xs = [] := List.eq_nil_of_length_eq_zero (by simpa using hl)
    subst this
    exact ⟨[], ⟨.inl ⟨rfl, rfl, hn.2 rfl, rfl⟩⟩, (h.ext he).addNil⟩
  · rcases hr with ⟨_, h1⟩ | ⟨g, cap, cur, rfl, hb, hg, h1, h2, h3, h4⟩
    · exact absurd h1 h0
    · have e1 : cur = ([] ++ xs ++ cur.toList.drop n).toArray := by
        apply Array.ext'
        simp only [List.nil_append]
        rw [← h4, Nat.mul_one, List.take_append_drop]
      refine ⟨och 3 ⟨g, cap, [], cur.toList.drop n⟩ xs, ⟨.inr ⟨⟨g, cap, [], cur.toList.drop n⟩, rfl, rfl, ⟨h1, h2, by simpa using hl, ?_⟩, rfl⟩⟩, ?_⟩
      · simp at h3 ⊢
        omega
      · have hk : K w [och 3 ⟨g, cap, [], cur.toList.drop n⟩ xs] w' := by
          refine ⟨he.os, he.tape, he.output, he.size, he.block, ?_, by simp [och]⟩
          intro e hm
          simp only [och, List.flatten_cons, List.flatten_nil, List.append_nil, List.mem_singleton] at hm
          subst hm
          refine ⟨hb, ?_⟩
          show _ = some (Obj.cells ([] ++ xs ++ List.drop n cur.toList).toArray 3 (0, 0))
          rw [← e1]
          exact hg
        exact h.compose hk
theorem keys_spec {W : World} {Ls : List Chunk} {m : Option Nat} : Spec Tryz.prog 126 #[.map m] (K W Ls) (fun B : Nat => .func (.func 139) #[] #[.pointer (some ⟨B, 0, none⟩)]) (fun B => K W ([(B, row 93 [.map m])] :: Ls)) := by
  refine enter (args := [_]) Tryz.func126 rfl Tryz.ntmps126 rfl ?_
  refine csr ?_
  refine sbx fun b1 => ?_
  refine sa ?_
  refine snf ?_
  refine csr ?_
  refine sy (y_makeFunc rfl rfl) ?_
  refine sa ?_
  refine snf ?_
  refine c_ret ?_
  exact f_ret b1 (res1 rfl rfl) (fun w h => h)
set_option maxHeartbeats 1000000 in
theorem sorted_spec {W : World} {Ls : List Chunk} {i B b c : Nat} {es : List Ent} {R : Chunk} (hB : Ls.getD i [] = (B, row 93 [.map (some b)]) :: R) (hb : Hs (K W Ls) [(b, mobj es c)]) (hm : MOK es c) :
    Spec Tryz.prog 125 #[.func (.func 139) #[] #[.pointer (some ⟨B, 0, none⟩)]] (K W Ls) (X := { x : Value × Chunk // Buf 3 1 x.1 x.2 es.length (ivals (skeys es)) }) (fun x => x.1.1) (fun x => K W (x.1.2 :: Ls)) := by
  intro w hw
  have h1 := hw.at hB
  have h2 := hb w hw _ (List.mem_singleton.2 rfl)
  obtain ⟨D, ho, hp, hs⟩ := ownsMap_of hm Tryz.underlying3 h2
  have hcell : w.cell? ⟨B, 0, none⟩ = some (.map (some b)) := by simp [World.cell?, h1, row]
  have hlen := hm.len
  have hseq : SeqGives Fence.wide 3 Tryz.prog 139 #[.pointer (some ⟨B, 0, none⟩)] encZ (fun ss => ss.Perm (intKeys D)) (Maps.size D) w :=
    AnyZI.keys_gives (ρ := Tryz.keysA_ren) { Tryz.keysA with } Fence.wide _ trivial rfl (by omega) B b es.length D w (heap_lt h1) hcell ho
  have cS := AnyZI.sorted_in Tryz.sortedA Fence.wide 6 trivial trivial trivial trivial rfl (by omega) (sortsA _) (enters_of Tryz.func138 (by kernel_rfl) rfl) 139 #[.pointer (some ⟨B, 0, none⟩)] trivial (enters_of Tryz.func139 (by kernel_rfl) rfl) _ _ (by rw [hs]; simp [maxLen]; omega) (by rw [hs]; omega) _ hseq
  change CallsIn _ _ Tryz.prog 125 _ _ _ at cS
  refine (callsIn_wide.1 cS).mono ?_
  rintro e w' ⟨v, ss, rfl, hS, hrow, hnil, hbel⟩
  have hp2 : ss.Perm (es.map (·.1)) := hS.trans hp
  have e1 : ss.mergeSort (fun x y => decide (x ≤ y)) = skeys es := mergeSort_of_perm_i hp2
  have e2 : ss.length = es.length := by rw [hp2.length_eq]; simp
  rw [e1, e2] at hrow
  obtain ⟨o, h3, h4⟩ := K.newRow hw hrow (by rw [hnil, ← e2]; exact List.length_eq_zero_iff.symm) (Below.ext hbel)
  exact ⟨⟨(v, o), h3⟩, rfl, h4⟩
end Go.KL
end

section
/- Maps that are there. No program in sight. -/
namespace Go.KL
section
variable {P : Program} {n : Nat} {σ : Slots} {C : World → Prop} {dst : Option Tmp} {ty : TypeId} {pos : String} {after : Array Edge} {guard : Option (Nat × Bool)}
theorem y_lookupH (T : Tab P) {x k : Operand} {t kt e : TypeId} {b c : Nat} {es : List Ent} {q : Int} {z : Value} (hx : ev σ x = some (.map (some b))) (hk : ev σ k = some (.int .i64 q)) (ht : T.und t = some (.map kt e)) (hkt : T.und kt = some (.int .i64))
    (hz : ∀ w, (zeroValue e).run P w = .ok z w) (hb : Hs C [(b, mobj es c)]) : Ylds P n σ C ⟨dst, .lookup t x k false, ty, pos, after, guard⟩ (mget q z es) := by
  intro a w hE hw
  have := run_lookupM (ok := false) (k := q) w (T.und_ok ht) (T.und_ok hkt) (hz w) (hb w hw _ (List.mem_singleton.2 rfl))
  simp [execOp, ev_eval hE hx, ev_eval hE hk, this]
theorem y_lookupE (T : Tab P) {x k : Operand} {t kt e : TypeId} {b c : Nat} {es : List Ent} {q : Int} {z v : Value} (hx : ev σ x = some (.map (some b))) (hk : ev σ k = some (.int .i64 q)) (ht : T.und t = some (.map kt e)) (hkt : T.und kt = some (.int .i64))
    (hz : ∀ w, (zeroValue e).run P w = .ok z w) (hb : Hs C [(b, mobj es c)]) (hv : mget q z es = v) : Ylds P n σ C ⟨dst, .lookup t x k false, ty, pos, after, guard⟩ v := hv ▸ y_lookupH T hx hk ht hkt hz hb
theorem y_lenMH (T : Tab P) {x : Operand} {t kt e : TypeId} {b c : Nat} {es : List Ent} (hx : ev σ x = some (.map (some b))) (ht : T.und t = some (.map kt e)) (hb : Hs C [(b, mobj es c)]) :
    Ylds P n σ C ⟨dst, .call ⟨.builtin .len, #[x], #[t]⟩, ty, pos, after, guard⟩ (.int .i64 (es.length : Nat)) := fun a w hE hw => by
  have hb' := hb w hw _ (List.mem_singleton.2 rfl)
  have h1 : (getObj b).run P w = .ok (mobj es c) w := MapKept.run_getObj_map hb'
  simp [execOp, resolve, invoke, ev_eval hE hx, builtin, Builtin.len_, run_und T ht, h1, mobj, goInt]
theorem y_neqM0 (T : Tab P) {x : Operand} {t kt e : TypeId} {m : Option Nat} {t' : TypeId} (hx : ev σ x = some (.map m)) (ht : T.und t = some (.map kt e)) :
    Ylds P n σ C ⟨dst, .binOp .neq t x (.const (.map none)) t', ty, pos, after, guard⟩ (.bool m.isSome) := by
  intro a w hE _
  have h := run_equal_map_nil w t kt e m (T.und_ok ht)
  have h2 : (binOp .neq t (.map m) (.map none)).run P w = .ok (.bool m.isSome) w := by
    simp only [binOp, Sem.run_bind, h, Result.andThen]
    cases m <;> rfl
  have h3 : eqGuard .neq t x (.const (.map none)) (.map m) (.map none) = pure () := by cases m <;> rfl
  have h4 : a.eval (.const (.map none)) = .map none := rfl
  simp only [execOp, ev_eval hE hx, h4, h3, Sem.run_bind, Sem.run_pure, Result.andThen, h2]
end
end Go.KL
end

section
/- A book in memory. No program in sight. -/
namespace Go.KL
structure Tg where
  id : Nat
  b : Nat
  st : Nat
  locks : List Lk
  req : Lk
  os : List Ov
  lv : Value
  lc : Chunk
  ov : Value
  oc : Chunk
def Tg.tx (t : Tg) : Tx := ⟨t.st, t.locks, t.req, ops t.os⟩
abbrev Tg.cells (t : Tg) : List Value := [.int .i64 (t.id : Nat), .int .i64 (t.st : Nat), t.lv, .int .i64 (t.req.tx : Nat), .int .i64 (t.req.lo : Nat), .int .i64 (t.req.hi : Nat), .bool t.req.wr, t.ov]
abbrev Tg.chunks (t : Tg) : List Chunk := [[(t.b, row 113 t.cells)], t.lc, t.oc]
abbrev Tg.ptr (t : Tg) : Value := .pointer (some ⟨t.b, 0, none⟩)
structure Tg.OK (p : Chunk) (t : Tg) : Prop where
  l : BufR 111 4 t.lv t.lc (lks t.locks)
  o : BufR 60 6 t.ov t.oc (opl t.os)
  r : OpsV p t.os
theorem Tg.OK.sub {p q : Chunk} {t : Tg} (h : t.OK p) (hS : Sub p q) : t.OK q := ⟨h.l, h.o, h.r.sub hS⟩
abbrev Lg := Nat × Value × List Ov
structure Bg where
  p : Chunk
  b : Nat
  ba : Nat
  br : Nat
  cv : Value
  wv : Value
  qv : Value
  lv : Value
  ca : Nat
  cr : Nat
  size : Nat
  C : Nat → Nat
  W : Nat → Nat
  rn : List Nat
  q : List Nat
  qc : Chunk
  lc : Chunk
  ls : List Lg
  ea : List Ent
  er : List Ent
  ts : List Tg
namespace Bg
variable (g : Bg)
def bk : Bk := ⟨g.size, g.C, g.W, g.ts.map Tg.tx, g.rn, g.q, g.ls.map fun x => (x.1, ops x.2.2)⟩
def pb (k : Nat) : Nat := (g.ts[k - 1]?).elim 0 (·.b)
abbrev ptr (k : Nat) : Value := .pointer (some ⟨g.pb k, 0, none⟩)
abbrev cells : List Value := [g.cv, g.wv, .map (some g.ba), .map (some g.br), g.qv, g.lv]
abbrev fixed : List Chunk := [g.p, [(g.b, row 96 g.cells)], [(g.ba, mobj g.ea g.ca)], [(g.br, mobj g.er g.cr)], g.qc, g.lc]
abbrev L : List Chunk := g.fixed ++ g.ts.flatMap Tg.chunks
abbrev has (k : Nat) : Prop := 1 ≤ k ∧ k ≤ g.ts.length
structure OK : Prop where
  mC : MV g.p g.cv g.size g.C
  mW : MV g.p g.wv g.size g.W
  id : ∀ (i : Nat) (t : Tg), g.ts[i]? = some t → t.id = i + 1
  ok : ∀ t ∈ g.ts, t.OK g.p
  nd : (g.ts.map (·.b)).Nodup
  eaM : MOK g.ea g.ca
  eaG : ∀ k : Nat, g.has k → mget (k : Int) (.pointer none) g.ea = g.ptr k
  eaH : ∀ z : Int, mhas z g.ea = decide (1 ≤ z ∧ z ≤ g.ts.length)
  eaL : g.ea.length = g.ts.length
  erM : MOK g.er g.cr
  erE : g.er.map (fun e => (e.1, e.2.1)) = g.rn.map (fun k : Nat => ((k : Int), g.ptr k))
  rnh : ∀ k ∈ g.rn, g.has k
  qB : BufR 105 1 g.qv g.qc (g.q.map fun k => [g.ptr k])
  qh : ∀ k ∈ g.q, g.has k
  lB : BufR 58 2 g.lv g.lc (g.ls.map fun x => [.int .i64 (x.1 : Nat), x.2.1])
  lO : ∀ x ∈ g.ls, PE g.p x.2.1 6 (opl x.2.2) ∧ OpsV g.p x.2.2
end Bg
theorem mget_out {k : Int} {z : Value} : ∀ {es : List Ent}, mhas k es = false → mget k z es = z
  | [], _ => rfl
  | e :: r, h => by
    simp only [mhas] at h
    simp only [mget]
    by_cases c : k = e.1
    · simp [c] at h
    · simp only [if_neg c] at h ⊢
      exact mget_out h
theorem mget_mem {k : Int} {z v : Value} : ∀ {es : List Ent}, (es.map (·.1)).Nodup → (∃ c, (k, v, c) ∈ es) → mget k z es = v
  | [], _, h => by obtain ⟨c, h⟩ := h; simp at h
  | e :: r, hn, h => by
    simp only [mget]
    obtain ⟨c, h⟩ := h
    simp only [List.map_cons, List.nodup_cons] at hn
    rcases List.mem_cons.1 h with h | h
    · rw [← h]; simp
    · have hne : k ≠ e.1 := fun e' => hn.1 (by rw [← e']; exact List.mem_map.2 ⟨_, h, rfl⟩)
      rw [if_neg hne]
      exact mget_mem hn.2 ⟨c, h⟩
section
variable {g : Bg}
theorem Bg.OK.at (h : g.OK) {k : Nat} (hk : g.has k) : ∃ t, t ∈ g.ts ∧ g.ts[k - 1]? = some t ∧ t.id = k ∧ g.pb k = t.b ∧ g.bk.tx k = t.tx := by
  have hlt : k - 1 < g.ts.length := by omega
  refine ⟨g.ts[k - 1], List.getElem_mem _, by simp [hlt], ?_, by simp [Bg.pb, hlt], ?_⟩
  · have := h.id (k - 1) g.ts[k - 1] (by simp [hlt])
    omega
  · simp [Bk.tx, Bg.bk, List.getD_eq_getElem?_getD, hlt]
theorem Bg.OK.pb_inj (h : g.OK) {j k : Nat} (hj : g.has j) (hk : g.has k) (e : g.pb j = g.pb k) : j = k := by
  obtain ⟨t, _, ht, hi, hp, _⟩ := h.at hj
  obtain ⟨u, _, hu, hi', hp', _⟩ := h.at hk
  rw [hp, hp'] at e
  have h1 : (g.ts.map (·.b))[j - 1]? = some t.b := by simp [ht]
  have h2 : (g.ts.map (·.b))[k - 1]? = some t.b := by simp [hu, e]
  have hlt : j - 1 < (g.ts.map (·.b)).length := by simp; omega
  have := (List.getElem?_inj hlt h.nd).1 (h1.trans h2.symm)
  omega
theorem Bg.OK.rn_nd (h : g.OK) : g.rn.Nodup := by
  have h1 := h.erM.keys
  have h2 : g.er.map (·.1) = g.rn.map (fun k : Nat => (k : Int)) := by
    have := congrArg (List.map Prod.fst) h.erE
    simpa [List.map_map, Function.comp_def] using this
  rw [h2] at h1
  exact (List.pairwise_map.1 h1).imp fun hne e => hne (by rw [e])
theorem Bg.OK.er_keys (h : g.OK) : g.er.map (·.1) = g.rn.map (fun k : Nat => (k : Int)) := by
  have := congrArg (List.map Prod.fst) h.erE
  simpa [List.map_map, Function.comp_def] using this
theorem Bg.OK.er_len (h : g.OK) : g.er.length = g.rn.length := by
  have := congrArg List.length h.er_keys
  simpa using this
theorem Bg.OK.er_get (h : g.OK) {k : Nat} (hk : k ∈ g.rn) : mget (k : Int) (.pointer none) g.er = g.ptr k := by
  refine mget_mem h.erM.keys ?_
  have : ((k : Int), g.ptr k) ∈ g.er.map (fun e => (e.1, e.2.1)) := by
    rw [h.erE]
    exact List.mem_map.2 ⟨k, hk, rfl⟩
  obtain ⟨e, he, e2⟩ := List.mem_map.1 this
  simp only [Prod.mk.injEq] at e2
  exact ⟨e.2.2, by rw [← e2.1, ← e2.2]; exact he⟩
theorem skeys_srt (h : g.OK) : skeys g.er = (srt g.rn).map (fun k : Nat => (k : Int)) := by
  unfold skeys srt
  rw [h.er_keys, ← List.map_mergeSort]
  intro a _ b _
  simp [leI]
def BIn (w : World) (g : Bg) : Prop := ∀ e ∈ g.L.flatten, w.heap[e.1]? = some e.2
theorem K.bin {W w : World} {N : List Chunk} (h : K W (g.L ++ N) w) : BIn w g := fun e he => (h.own e (by simp only [List.flatten_append, List.mem_append] at he ⊢; exact .inl he)).2
theorem BIn.hs {w : World} {N : List Chunk} (h : BIn w g) : Hs (K w N) g.L.flatten := Hs.base h
structure TF (C : World → Prop) (t : Tg) : Prop where
  c0 : CellIs C ⟨t.b, 0, none⟩ (.int .i64 (t.id : Nat))
  c1 : CellIs C ⟨t.b, 1, none⟩ (.int .i64 (t.st : Nat))
  c2 : CellIs C ⟨t.b, 2, none⟩ t.lv
  c3 : CellsAre C ⟨t.b, 3, none⟩ (lkc t.req)
  c7 : CellIs C ⟨t.b, 7, none⟩ t.ov
  l : EV C t.lv 4 (lks t.locks)
  o : EV C t.ov 6 (opl t.os)
structure BF (C : World → Prop) (g : Bg) : Prop where
  c0 : CellIs C ⟨g.b, 0, none⟩ g.cv
  c1 : CellIs C ⟨g.b, 1, none⟩ g.wv
  c2 : CellIs C ⟨g.b, 2, none⟩ (.map (some g.ba))
  c3 : CellIs C ⟨g.b, 3, none⟩ (.map (some g.br))
  c4 : CellIs C ⟨g.b, 4, none⟩ g.qv
  c5 : CellIs C ⟨g.b, 5, none⟩ g.lv
  q : EV C g.qv 1 (g.q.map fun k => [g.ptr k])
  l : EV C g.lv 2 (g.ls.map fun x => [.int .i64 (x.1 : Nat), x.2.1])
  ea : Hs C [(g.ba, mobj g.ea g.ca)]
  er : Hs C [(g.br, mobj g.er g.cr)]
theorem Bg.mem_fix {c : Chunk} {e : Nat × Obj} (hc : c ∈ g.fixed) (he : e ∈ c) : e ∈ g.L.flatten := by
  rw [List.flatten_append]
  exact List.mem_append_left _ (List.mem_flatten.2 ⟨c, hc, he⟩)
theorem Bg.mem_ts {t : Tg} {c : Chunk} {e : Nat × Obj} (ht : t ∈ g.ts) (hc : c ∈ t.chunks) (he : e ∈ c) : e ∈ g.L.flatten := by
  rw [List.flatten_append]
  exact List.mem_append_right _ (List.mem_flatten.2 ⟨c, List.mem_flatMap.2 ⟨t, ht, hc⟩, he⟩)
variable {C : World → Prop}
theorem Bg.OK.tf (h : g.OK) (hC : Hs C g.L.flatten) {t : Tg} (ht : t ∈ g.ts) : TF C t := by
  have hb : (t.b, row 113 t.cells) ∈ g.L.flatten := Bg.mem_ts ht (c := [(t.b, row 113 t.cells)]) (by simp) (by simp)
  exact ⟨hC.cell hb rfl, hC.cell hb rfl, hC.cell hb rfl, hC.cellsAre hb (fun j hj => by
      have : j < 4 := hj
      rcases (show j = 0 ∨ j = 1 ∨ j = 2 ∨ j = 3 by omega) with rfl | rfl | rfl | rfl <;> rfl), hC.cell hb rfl,
    (h.ok t ht).l.view (hC.sub fun e he => Bg.mem_ts ht (c := t.lc) (by simp) he), (h.ok t ht).o.view (hC.sub fun e he => Bg.mem_ts ht (c := t.oc) (by simp) he)⟩
theorem Bg.OK.bf (h : g.OK) (hC : Hs C g.L.flatten) : BF C g := by
  have hb : (g.b, row 96 g.cells) ∈ g.L.flatten := Bg.mem_fix (c := [(g.b, row 96 g.cells)]) (by simp) (by simp)
  exact ⟨hC.cell hb rfl, hC.cell hb rfl, hC.cell hb rfl, hC.cell hb rfl, hC.cell hb rfl, hC.cell hb rfl,
    h.qB.view (hC.sub fun e he => Bg.mem_fix (c := g.qc) (by simp) he), h.lB.view (hC.sub fun e he => Bg.mem_fix (c := g.lc) (by simp) he),
    hC.sub fun e he => Bg.mem_fix (c := [(g.ba, mobj g.ea g.ca)]) (by simp) he, hC.sub fun e he => Bg.mem_fix (c := [(g.br, mobj g.er g.cr)]) (by simp) he⟩
theorem Bg.OK.pool (hC : Hs C g.L.flatten) : Hs C g.p := hC.sub fun e he => Bg.mem_fix (c := g.p) (by simp) he
end
end Go.KL
end

section
/- Walks: usable, progress. -/
namespace Go.KL
open Go.Proofs
abbrev ptrs (g : Bg) (l : List Nat) : List (List Value) := l.map fun k => [g.ptr k]
abbrev nums (l : List Nat) : List (List Value) := l.map fun k => [Value.int .i64 (k : Nat)]
theorem ptrs_len (g : Bg) (l : List Nat) : lens 1 (ptrs g l) := lens.map fun _ => rfl
theorem nums_len (l : List Nat) : lens 1 (nums l) := lens.map fun _ => rfl
theorem nums_flat (l : List Nat) : (nums l).flatten = l.map fun k => Value.int .i64 (k : Nat) := by
  induction l with
  | nil => rfl
  | cons a l ih => simp [nums] at ih ⊢; exact ih
attribute [local irreducible] SC St Fin Sq Ylds Doos Sets Enters Spec CellIs CellsAre Then Ret Rnd Chn resOK ints bools recs arr
set_option maxRecDepth 10000 in
theorem usable_spec {g : Bg} {C : World → Prop} (hF : BF C g) : Spec Tryz.prog 52 #[.pointer (some ⟨g.b, 0, none⟩)] C (fun _ : Unit => .bool true) (fun _ => C) := by
  obtain ⟨f0, f1, f2, f3, f4, f5, f6, f7, f8, f9⟩ := hF
  refine enter (args := [_]) Tryz.func52 rfl Tryz.ntmps52 rfl ?_
  refine csr ?_
  refine sa ?_
  refine snf ?_
  refine csr ?_
  refine sm ?_
  refine sy (y_neqPN Tryz.tab rfl rfl) ?_
  refine sm ?_
  refine sm ?_
  refine sn ?_
  refine sf 2 ?_
  refine sl f2 ?_
  refine sy (y_neqM0 Tryz.tab rfl rfl) ?_
  refine spT ?_
  refine sa ?_
  refine snf ?_
  refine c_ret ?_
  exact f_ret () (res1 rfl rfl) (fun w h => h)
set_option maxRecDepth 10000 in
theorem progress_b {g : Bg} {w : World} {N : List Chunk} (hB : g.OK) (hH : Hs (K w N) g.L.flatten) : Spec Tryz.prog 110 #[.pointer (some ⟨g.b, 0, none⟩)] (K w N)
    (X := { x : Value × Chunk // BufR 105 1 x.1 x.2 (ptrs g (srt g.rn)) }) (fun x => x.1.1) (fun x => K w (x.1.2 :: N)) := by
  obtain ⟨f0, f1, f2, f3, f4, f5, f6, f7, f8, f9⟩ := hB.bf hH
  have hlen : (srt g.rn).length = g.er.length := by rw [hB.er_len]; exact List.length_mergeSort _
  have hml := hB.erM.len
  refine enter (args := [_]) Tryz.func110 rfl Tryz.ntmps110 rfl ?_
  refine csr ?_
  refine sa ?_
  refine snf ?_
  refine csr ?_
  refine sa ?_
  refine snf ?_
  refine c_seq ?_
  refine csr ?_
  refine sm ?_
  refine sn ?_
  refine sf 3 ?_
  refine sl f3 ?_
  refine sk Tryz.call126 keys_spec fun B => ?_
  refine sk Tryz.call125 (sorted_spec (i := 0) rfl f9.cons hB.erM) fun x => ?_
  obtain ⟨⟨v, c⟩, hv⟩ := x
  dsimp only at hv ⊢
  have hR : BufR 3 1 v c (nums (srt g.rn)) := ⟨nums_len _, by
    rw [nums_flat, List.length_map, hlen]
    rw [skeys_srt hB] at hv
    simpa [ivals, List.map_map, Function.comp_def] using hv⟩
  have hE := hR.view (C := K w (c :: [(B, row 93 [.map (some g.br)])] :: N)) (Hs.at 0 rfl)
  refine sy (y_lenE Tryz.tab rfl (hE) rfl) ?_
  refine sm ?_
  refine snf ?_
  refine c_block ?_
  have hl2 : (nums (srt g.rn)).length = (srt g.rn).length := List.length_map _
  refine c_loopP (α := Nat × Value × Chunk) (fun z => [(0, .pointer (some ⟨g.b, 0, none⟩)), (3, z.2.1), (11, v), (12, .int .i64 (nums (srt g.rn)).length), (13, .int .i64 (z.1 : Nat))]) (fun z => z.1 ≤ (srt g.rn).length ∧ BufR 105 1 z.2.1 z.2.2 (ptrs g ((srt g.rn).take z.1))) (fun z => K w (z.2.2 :: c :: [(B, row 93 [.map (some g.br)])] :: N)) (fun z => (srt g.rn).length - z.1) (0, .slice none 0 0, [])
    ⟨rfl, rfl, rfl, rfl, rfl, trivial⟩ ⟨Nat.zero_le _, .nil⟩ (fun w h => h.addNil) ?_
  rintro ⟨i, u, d⟩ ⟨hi, hu⟩
  dsimp only at hi hu ⊢
  by_cases c1 : i < (srt g.rn).length
  · obtain ⟨k, hk⟩ : ∃ k, (srt g.rn)[i]? = some k := ⟨(srt g.rn)[i], by simp [c1]⟩
    have hkm : k ∈ g.rn := mem_srt.1 (List.mem_of_getElem? hk)
    have hcell := hE.cell (i := i) (x := .int .i64 (k : Nat)) (by simp [hk])
    have hget := hB.er_get hkm
    refine csr ?_
    refine sy (y_T (y_lss rfl rfl) (by omega)) ?_
    refine snf ?_
    refine c_seq ?_
    refine c_condT rfl ?_
    refine c_skip ?_
    refine f_then ?_
    refine c_seq ?_
    refine c_block ?_
    refine csr ?_
    refine sy (y_ixE Tryz.tab rfl rfl rfl rfl (hE.cons) _ rfl (by omega)) ?_
    refine sl hcell.cons ?_
    refine sa ?_
    refine snf ?_
    refine c_region ?_
    refine sm ?_
    refine sm ?_
    refine sn ?_
    refine sf 3 ?_
    refine sl f3.cons.cons.cons ?_
    refine sm ?_
    refine sy (y_lookupE Tryz.tab rfl rfl rfl rfl (fun _ => rfl) (f9.cons.cons.cons) (by assumption)) ?_
    refine s_do (do_buildSlice1 Tryz.tab ⟨rfl, rfl, rfl, rfl⟩ rfl rfl rfl rfl) rfl rfl rfl (fun b24 => ?_)
    refine s_do (do_appendR (by_ := 8) Tryz.tab 1 rfl hu rfl ⟨rfl, rfl, rfl, rfl⟩ rfl (by simp) rfl (cells_row0 0 rfl rfl) rfl rfl (by simp; omega) (by omega)) rfl rfl rfl (fun x => ?_)
    obtain ⟨⟨u', d'⟩, hu'⟩ := x
    dsimp only at hu' ⊢
    refine sa ?_
    refine s_nil ?_
    refine f_blockN ?_
    refine f_then ?_
    refine c_region ?_
    refine sy (y_add rfl rfl (by omega)) ?_
    refine sm ?_
    refine s_nil ?_
    exact f_roundP (i + 1, u', d') ⟨c1, by
      rw [List.take_add_one, hk]
      simpa [ptrs] using hu'⟩ (by dsimp only; omega) ⟨rfl, rfl, rfl, rfl, rfl, trivial⟩ (fun w h => h.tail)
  · obtain rfl : i = (srt g.rn).length := by omega
    rw [List.take_length] at hu
    refine csr ?_
    refine sy (y_F (y_lss rfl rfl) (by omega)) ?_
    refine snf ?_
    refine c_seq ?_
    refine c_condF rfl ?_
    refine c_exit ?_
    refine f_thenE ?_
    refine f_rndE ?_
    refine f_blockE ?_
    refine f_then ?_
    refine csr ?_
    refine sm ?_
    refine sa ?_
    refine snf ?_
    refine c_ret ?_
    exact f_ret ⟨(u, d), hu⟩ (res1 rfl rfl) (fun w h => (h.dropAt 1).dropAt 1)
theorem filter_snoc {α : Type} {p : α → Bool} {l : List α} {i : Nat} {x : α} (h : l[i]? = some x) : (l.take (i + 1)).filter p = (l.take i).filter p ++ (if p x then [x] else []) := by
  rw [List.take_add_one, h, Option.toList_some, List.filter_append]
  congr 1
  simp only [List.filter_cons, List.filter_nil]
structure Lim (g : Bg) : Prop where
  lk : ∀ t ∈ g.ts, t.locks.length ≤ 1000000
  rn : g.rn.length < 1000000
  q : g.q.length < 1000000
set_option maxRecDepth 10000 in
theorem owners_b {g : Bg} {W : World} {N : List Chunk} {l : Lk} (hB : g.OK) (hL : Lim g) (hH : Hs (K W N) g.L.flatten) : Spec Tryz.prog 117 #[.pointer (some ⟨g.b, 0, none⟩), lkv l] (K W N)
    (X := { x : Value × Chunk // BufR 3 1 x.1 x.2 (nums (g.bk.owners l)) }) (fun x => x.1.1) (fun x => K W (x.1.2 :: N)) := by
  refine enter (args := [_, _]) Tryz.func117 rfl Tryz.ntmps117 rfl ?_
  refine csr ?_
  refine sbx fun b3 => ?_
  refine sa ?_
  refine snf ?_
  refine csr ?_
  refine sa ?_
  refine snf ?_
  refine c_seq ?_
  refine csr ?_
  refine sm ?_
  refine sk Tryz.call110 (progress_b hB hH.cons) fun x => ?_
  obtain ⟨⟨v, c⟩, hR⟩ := x
  dsimp only at hR ⊢
  have hE := hR.view (C := K W (c :: [(b3, row 111 (lkc l))] :: N)) (Hs.at 0 rfl)
  refine sy (y_lenE Tryz.tab rfl (hE) rfl) ?_
  refine sm ?_
  refine snf ?_
  refine c_block ?_
  have hl2 : (ptrs g (srt g.rn)).length = (srt g.rn).length := List.length_map _
  have hrl : (srt g.rn).length = g.rn.length := List.length_mergeSort _
  have hrb := hL.rn
  refine c_loopP (α := Nat × Value × Chunk) (fun z => [(0, .pointer (some ⟨g.b, 0, none⟩)), (3, .pointer (some ⟨b3, 0, none⟩)), (5, z.2.1), (9, v), (10, .int .i64 (ptrs g (srt g.rn)).length), (11, .int .i64 (z.1 : Nat))])
    (fun z => z.1 ≤ (srt g.rn).length ∧ BufR 3 1 z.2.1 z.2.2 (nums (((srt g.rn).take z.1).filter fun k => (g.bk.tx k).locks.any fun x => cfl x l))) (fun z => K W (z.2.2 :: c :: [(b3, row 111 (lkc l))] :: N)) (fun z => (srt g.rn).length - z.1) (0, .slice none 0 0, [])
    ⟨rfl, rfl, rfl, rfl, rfl, rfl, trivial⟩ ⟨Nat.zero_le _, .nil⟩ (fun w h => h.addNil) ?_
  rintro ⟨i, u, d⟩ ⟨hi, hu⟩
  dsimp only at hi hu ⊢
  by_cases c1 : i < (srt g.rn).length
  · obtain ⟨k, hk⟩ : ∃ k, (srt g.rn)[i]? = some k := ⟨(srt g.rn)[i], by simp [c1]⟩
    have hkm : k ∈ g.rn := mem_srt.1 (List.mem_of_getElem? hk)
    obtain ⟨t, htm, _, hid, hpb, htx⟩ := hB.at (hB.rnh k hkm)
    have hcell := hE.cell (i := i) (x := .pointer (some ⟨t.b, 0, none⟩)) (by simp [hk, Bg.ptr, hpb])
    obtain ⟨t0, t1, t2, t3, t7, tl, to⟩ := hB.tf hH htm
    have hfl : ∀ n, (((srt g.rn).take i).filter n).length < 1000000 := fun n => by
      have h1 := List.length_filter_le n ((srt g.rn).take i)
      have h2 := List.length_take_le i (srt g.rn)
      omega
    have hfs := filter_snoc (p := fun k => (g.bk.tx k).locks.any fun x => cfl x l) hk
    rw [htx] at hfs
    clear to t3 t7 t1
    refine csr ?_
    refine sy (y_T (y_lss rfl rfl) (by omega)) ?_
    refine snf ?_
    refine c_seq ?_
    refine c_condT rfl ?_
    refine c_skip ?_
    refine f_then ?_
    refine c_seq ?_
    refine c_block ?_
    refine csr ?_
    refine sy (y_ixE Tryz.tab rfl rfl rfl rfl (hE.cons) _ rfl (by omega)) ?_
    refine sl hcell.cons ?_
    refine sa ?_
    refine snf ?_
    refine csr ?_
    refine sm ?_
    refine sn ?_
    refine sf 2 ?_
    refine sl t2.cons.cons.cons ?_
    refine sy (y_makeFunc rfl rfl) ?_
    refine sk Tryz.call131 (contains_spec (L := t.locks) (l := l) tl.cons.cons.cons (cells_row0 2 rfl rfl) (hL.lk t htm)) fun _ => ?_
    cases hc : t.locks.any fun x => cfl x l with
    | true =>
      rw [show (Tg.tx t).locks = t.locks from rfl, hc, if_pos rfl] at hfs
      refine snf ?_
      refine c_condT rfl ?_
      refine c_region ?_
      refine sm ?_
      refine sm ?_
      refine sn ?_
      refine sf0 ?_
      refine sl t0.cons.cons.cons ?_
      refine s_do (do_buildSlice1 Tryz.tab ⟨rfl, rfl, rfl, rfl⟩ rfl rfl rfl rfl) rfl rfl rfl (fun b26 => ?_)
      rw [hid]
      refine s_do (do_appendR (by_ := 8) Tryz.tab 1 rfl hu rfl ⟨rfl, rfl, rfl, rfl⟩ rfl (by simp) rfl (cells_row0 0 rfl rfl) rfl rfl (by rw [List.length_map]; exact hfl _) (by omega)) rfl rfl rfl (fun x => ?_)
      obtain ⟨⟨u', d'⟩, hu'⟩ := x
      dsimp only at hu' ⊢
      refine sa ?_
      refine s_nil ?_
      refine f_blockN ?_
      refine f_then ?_
      refine c_region ?_
      refine sy (y_add rfl rfl (by omega)) ?_
      refine sm ?_
      refine s_nil ?_
      exact f_roundP (i + 1, u', d') ⟨c1, by
        rw [hfs]
        simpa [nums] using hu'⟩ (by dsimp only; omega) ⟨rfl, rfl, rfl, rfl, rfl, rfl, trivial⟩ (fun w h => h.tail)
    | false =>
      rw [show (Tg.tx t).locks = t.locks from rfl, hc, if_neg (by decide), List.append_nil] at hfs
      refine snf ?_
      refine c_condF rfl ?_
      refine c_skip ?_
      refine f_blockN ?_
      refine f_then ?_
      refine c_region ?_
      refine sy (y_add rfl rfl (by omega)) ?_
      refine sm ?_
      refine s_nil ?_
      exact f_roundP (i + 1, u, d) ⟨c1, by rw [hfs]; exact hu⟩ (by dsimp only; omega) ⟨rfl, rfl, rfl, rfl, rfl, rfl, trivial⟩ (fun w h => h)
  · obtain rfl : i = (srt g.rn).length := by omega
    rw [List.take_length] at hu
    refine csr ?_
    refine sy (y_F (y_lss rfl rfl) (by omega)) ?_
    refine snf ?_
    refine c_seq ?_
    refine c_condF rfl ?_
    refine c_exit ?_
    refine f_thenE ?_
    refine f_rndE ?_
    refine f_blockE ?_
    refine f_then ?_
    refine csr ?_
    refine sm ?_
    refine sa ?_
    refine snf ?_
    refine c_ret ?_
    exact f_ret ⟨(u, d), hu⟩ (res1 rfl rfl) (fun w h => (h.dropAt 1).dropAt 1)
end Go.KL
end

section
/- Walks: ahead, free. -/
namespace Go.KL
open Go.Proofs
attribute [local irreducible] SC St Fin Sq Ylds Doos Sets Enters Spec CellIs CellsAre Then Ret Rnd Chn resOK ints bools recs arr
set_option maxRecDepth 10000 in
set_option maxHeartbeats 4000000 in
theorem ahead_b {g : Bg} {W : World} {N : List Chunk} {l : Lk} {fr : List Nat} {fv bv : Value} (hB : g.OK) (hH : Hs (K W N) g.L.flatten) (hf : EV (K W N) fv 1 (ptrs g fr)) (hfh : ∀ k ∈ fr, g.has k) (hfl : fr.length < 1000000) : Spec Tryz.prog 118 #[bv, lkv l, fv] (K W N)
    (X := { x : Value × Chunk // BufR 3 1 x.1 x.2 (nums (g.bk.ahead l fr)) }) (fun x => x.1.1) (fun x => K W (x.1.2 :: N)) := by
  refine enter (args := [_, _, _]) Tryz.func118 rfl Tryz.ntmps118 rfl ?_
  refine csr ?_
  refine sbx fun b4 => ?_
  refine sa ?_
  refine snf ?_
  refine csr ?_
  refine sa ?_
  refine snf ?_
  refine c_seq ?_
  refine csr ?_
  refine sm ?_
  refine sy (y_lenE Tryz.tab rfl (hf.cons) rfl) ?_
  refine sm ?_
  refine snf ?_
  refine c_block ?_
  have hl2 : (ptrs g fr).length = fr.length := List.length_map _
  refine c_loopP (α := Nat × Value × Chunk) (fun z => [(4, .pointer (some ⟨b4, 0, none⟩)), (7, z.2.1), (10, fv), (11, .int .i64 (ptrs g fr).length), (12, .int .i64 (z.1 : Nat))])
    (fun z => z.1 ≤ fr.length ∧ BufR 3 1 z.2.1 z.2.2 (nums ((fr.take z.1).filter fun k => cfl (g.bk.tx k).req l))) (fun z => K W (z.2.2 :: [(b4, row 111 (lkc l))] :: N)) (fun z => fr.length - z.1) (0, .slice none 0 0, [])
    ⟨rfl, rfl, rfl, rfl, rfl, trivial⟩ ⟨Nat.zero_le _, .nil⟩ (fun w h => h.addNil) ?_
  rintro ⟨i, u, d⟩ ⟨hi, hu⟩
  dsimp only at hi hu ⊢
  by_cases c1 : i < fr.length
  · obtain ⟨k, hk⟩ : ∃ k, fr[i]? = some k := ⟨fr[i], by simp [c1]⟩
    have hkm : k ∈ fr := List.mem_of_getElem? hk
    obtain ⟨t, htm, _, hid, hpb, htx⟩ := hB.at (hfh k hkm)
    have hcell := hf.cell (i := i) (x := .pointer (some ⟨t.b, 0, none⟩)) (by simp [hk, Bg.ptr, hpb])
    obtain ⟨t0, t1, t2, t3, t7, tl, to⟩ := hB.tf hH htm
    have hfl : ∀ n, ((fr.take i).filter n).length < 1000000 := fun n => by
      have h1 := List.length_filter_le n (fr.take i)
      have h2 := List.length_take_le i fr
      omega
    have hfs := filter_snoc (p := fun k => cfl (g.bk.tx k).req l) hk
    rw [htx] at hfs
    clear to t7 t1 tl
    refine csr ?_
    refine sy (y_T (y_lss rfl rfl) (by omega)) ?_
    refine snf ?_
    refine c_seq ?_
    refine c_condT rfl ?_
    refine c_skip ?_
    refine f_then ?_
    refine c_seq ?_
    refine c_block ?_
    refine csr ?_
    refine sy (y_ixE Tryz.tab rfl rfl rfl rfl (hf.cons.cons) _ rfl (by omega)) ?_
    refine sl hcell.cons.cons ?_
    refine sa ?_
    refine snf ?_
    refine c_seq ?_
    refine c_plan [.c 0, .c 1, .c 2, .c 3, .c 4, .c 5] [] ((K W (d :: [(b4, row 111 (lkc l))] :: N))) Tryz.mixed (by kernel_rfl) rfl K.cl ?_
    refine dy rfl (y_move rfl) (fun _ h => h) ?_
    refine dy rfl (y_nilP rfl) (fun _ h => h) ?_
    refine dy rfl (y_fieldAddrB Tryz.tab 3 rfl rfl rfl rfl rfl) (fun _ h => h) ?_
    refine dy rfl (y_loadA Tryz.tab rfl rfl rfl rfl t3.cons.cons) (fun _ h => h) ?_
    refine dy rfl (y_loadA Tryz.tab rfl rfl rfl rfl (cells_row0 1 rfl rfl)) (fun _ h => h) ?_
    refine d_c rfl ((Qui.any (en_f rfl Tryz.call133) (fun _ _ => cf_spec))) rfl rfl rfl (fun _ h => h) K.cl ?_
    refine d_nil ?_
    refine f_then ?_
    cases hc : cfl t.req l with
    | true =>
      rw [show (Tg.tx t).req = t.req from rfl, hc, if_pos rfl] at hfs
      refine c_condT rfl ?_
      refine c_region ?_
      refine sm ?_
      refine sm ?_
      refine sn ?_
      refine sf0 ?_
      refine sl t0.cons.cons ?_
      refine s_do (do_buildSlice1 Tryz.tab ⟨rfl, rfl, rfl, rfl⟩ rfl rfl rfl rfl) rfl rfl rfl (fun b27 => ?_)
      rw [hid]
      refine s_do (do_appendR (by_ := 8) Tryz.tab 1 rfl hu rfl ⟨rfl, rfl, rfl, rfl⟩ rfl (by simp) rfl (cells_row0 0 rfl rfl) rfl rfl (by rw [List.length_map]; exact hfl _) (by omega)) rfl rfl rfl (fun x => ?_)
      obtain ⟨⟨u', d'⟩, hu'⟩ := x
      dsimp only at hu' ⊢
      refine sa ?_
      refine s_nil ?_
      refine f_blockN ?_
      refine f_then ?_
      refine c_region ?_
      refine sy (y_add rfl rfl (by omega)) ?_
      refine sm ?_
      refine s_nil ?_
      exact f_roundP (i + 1, u', d') ⟨c1, by
        rw [hfs]
        simpa [nums] using hu'⟩ (by dsimp only; omega) ⟨rfl, rfl, rfl, rfl, rfl, trivial⟩ (fun w h => h.tail)
    | false =>
      rw [show (Tg.tx t).req = t.req from rfl, hc, if_neg (by decide), List.append_nil] at hfs
      refine c_condF rfl ?_
      refine c_skip ?_
      refine f_blockN ?_
      refine f_then ?_
      refine c_region ?_
      refine sy (y_add rfl rfl (by omega)) ?_
      refine sm ?_
      refine s_nil ?_
      exact f_roundP (i + 1, u, d) ⟨c1, by rw [hfs]; exact hu⟩ (by dsimp only; omega) ⟨rfl, rfl, rfl, rfl, rfl, trivial⟩ (fun w h => h)
  · obtain rfl : i = fr.length := by omega
    rw [List.take_length] at hu
    refine csr ?_
    refine sy (y_F (y_lss rfl rfl) (by omega)) ?_
    refine snf ?_
    refine c_seq ?_
    refine c_condF rfl ?_
    refine c_exit ?_
    refine f_thenE ?_
    refine f_rndE ?_
    refine f_blockE ?_
    refine f_then ?_
    refine csr ?_
    refine sm ?_
    refine sa ?_
    refine snf ?_
    refine c_ret ?_
    exact f_ret ⟨(u, d), hu⟩ (res1 rfl rfl) (fun w h => h.dropAt 1)
set_option maxRecDepth 10000 in
set_option maxHeartbeats 4000000 in
theorem free_b {g : Bg} {W : World} {N : List Chunk} {l : Lk} {fr : List Nat} {fv : Value} (hB : g.OK) (hL : Lim g) (hH : Hs (K W N) g.L.flatten) (hf : EV (K W N) fv 1 (ptrs g fr)) (hfh : ∀ k ∈ fr, g.has k) (hfl : fr.length < 1000000) : Spec Tryz.prog 98 #[.pointer (some ⟨g.b, 0, none⟩), lkv l, fv] (K W N)
    (fun _ : Unit => .bool (g.bk.free l fr)) (fun _ => K W N) := by
  refine enter (args := [_, _, _]) Tryz.func98 rfl Tryz.ntmps98 rfl ?_
  refine csr ?_
  refine sbx fun b4 => ?_
  refine sa ?_
  refine snf ?_
  refine csr ?_
  refine sm ?_
  refine sy (y_loadA Tryz.tab rfl rfl rfl rfl (cells_row0 0 rfl rfl)) ?_
  refine sk Tryz.call117 (owners_b (l := l) hB hL hH.cons) fun x => ?_
  obtain ⟨⟨v, c⟩, hR⟩ := x
  dsimp only at hR ⊢
  have hl2 : (nums (g.bk.owners l)).length = (g.bk.owners l).length := List.length_map _
  unfold Bk.free
  cases ho : (g.bk.owners l).isEmpty with
  | true =>
    have h0 : (g.bk.owners l).length = 0 := by rw [List.isEmpty_iff] at ho; rw [ho]; rfl
    refine sy (y_lenR' Tryz.tab rfl hR rfl) ?_
    refine sy (y_T (y_eql rfl rfl) (by omega)) ?_
    refine sm ?_
    refine sm ?_
    refine sy (y_loadA Tryz.tab rfl rfl rfl rfl (cells_row0 1 rfl rfl)) ?_
    refine sm ?_
    refine sk Tryz.call118 (ahead_b (l := l) hB hH.cons.cons hf.cons.cons hfh hfl) fun x => ?_
    obtain ⟨⟨v2, c2⟩, hR2⟩ := x
    dsimp only at hR2 ⊢
    have hl3 : (nums (g.bk.ahead l fr)).length = (g.bk.ahead l fr).length := List.length_map _
    cases ha : (g.bk.ahead l fr).isEmpty with
    | true =>
      have h1 : (g.bk.ahead l fr).length = 0 := by rw [List.isEmpty_iff] at ha; rw [ha]; rfl
      refine sy (y_lenR' Tryz.tab rfl hR2 rfl) ?_
      refine sy (y_T (y_eql rfl rfl) (by omega)) ?_
      refine spT ?_
      refine sa ?_
      refine snf ?_
      refine c_ret ?_
      exact f_ret () (res1 rfl rfl) (fun w h => h.tail.tail.tail)
    | false =>
      have h1 : ¬ (g.bk.ahead l fr).length = 0 := fun e => by rw [List.isEmpty_iff.2 (List.eq_nil_of_length_eq_zero e)] at ha; cases ha
      refine sy (y_lenR' Tryz.tab rfl hR2 rfl) ?_
      refine sy (y_F (y_eql rfl rfl) (by omega)) ?_
      refine spT ?_
      refine sa ?_
      refine snf ?_
      refine c_ret ?_
      exact f_ret () (res1 rfl rfl) (fun w h => h.tail.tail.tail)
  | false =>
    have h0 : ¬ (g.bk.owners l).length = 0 := fun e => by rw [List.isEmpty_iff.2 (List.eq_nil_of_length_eq_zero e)] at ho; cases ho
    refine sy (y_lenR' Tryz.tab rfl hR rfl) ?_
    refine sy (y_F (y_eql rfl rfl) (by omega)) ?_
    refine sm ?_
    iterate 6 refine s_skip rfl rfl rfl ?_
    refine spF ?_
    refine sa ?_
    refine snf ?_
    refine c_ret ?_
    exact f_ret () (res1 rfl rfl) (fun w h => h.tail.tail)
end Go.KL
end

section
/- Who waits for whom: searching; plain. No program in sight. -/
namespace Go.KL
theorem tw_take {q : List Nat} {k : Nat} : ∀ {i : Nat}, (∀ j, j < i → q[j]? ≠ some k) → q[i]? = some k → q.takeWhile (fun j => !decide (j = k)) = q.take i := by
  induction q with
  | nil => intro i _ h; simp at h
  | cons a q ih =>
    intro i h1 h2
    cases i with
    | zero =>
      simp at h2
      simp [h2]
    | succ i =>
      have ha : a ≠ k := fun e => h1 0 (by omega) (by simp [e])
      rw [List.takeWhile_cons, if_pos (by simp [ha]), List.take_succ_cons, ih (i := i) (fun j hj => by simpa using h1 (j + 1) (by omega)) (by simpa using h2)]
namespace Bk
variable {A : Bk}
theorem R.mem {k j : Nat} (h : A.R k j) : ∃ i, j ∈ A.waits i := by
  cases h with
  | one h => exact ⟨_, h⟩
  | more _ h => exact ⟨_, h⟩
theorem waits_sub {k j : Nat} (h : j ∈ A.waits k) : j ∈ A.rn ∨ j ∈ A.q := by
  unfold waits at h
  split at h
  · simp at h
  · rcases List.mem_append.1 h with h | h
    · exact .inl (mem_srt.1 (List.mem_filter.1 h).1)
    · exact .inr ((List.takeWhile_sublist _).subset (List.mem_filter.1 h).1)
theorem R.sub {k j : Nat} (h : A.R k j) : j ∈ A.rn ∨ j ∈ A.q := by
  obtain ⟨i, h⟩ := h.mem
  exact waits_sub h
theorem waits_len (k : Nat) : (A.waits k).length ≤ A.rn.length + A.q.length := by
  unfold waits
  split
  · simp
  · rw [List.length_append]
    have h1 := List.length_filter_le (fun j => (A.tx j).locks.any fun x => cfl x (A.tx k).req) (srt A.rn)
    have h2 := List.length_filter_le (fun j => cfl (A.tx j).req (A.tx k).req) (A.before k)
    have h3 := (List.takeWhile_sublist (fun j => !decide (j = k)) (l := A.q)).length_le
    have h4 : (srt A.rn).length = A.rn.length := List.length_mergeSort _
    unfold owners ahead before at *
    omega
structure Srch (A : Bk) (k : Nat) (S l : List Nat) : Prop where
  nd : S.Nodup
  hs : ∀ x ∈ S, A.R k x
  hl : ∀ x ∈ l, A.R k x
  o : ∀ x ∈ A.waits k, x ∈ S ∨ x ∈ l
  c : ∀ s ∈ S, ∀ x ∈ A.waits s, x ∈ S ∨ x ∈ l
theorem Srch.begin (k : Nat) : Srch A k [] (A.waits k) := ⟨List.nodup_nil, fun x h => by simp at h, fun x h => .one h, fun x h => .inr h, fun s h => by simp at h⟩
theorem Srch.skip {k a : Nat} {S l : List Nat} (h : Srch A k S (a :: l)) (ha : a ∈ S) : Srch A k S l :=
  ⟨h.nd, h.hs, fun x hx => h.hl x (by simp [hx]), fun x hx => by
    rcases h.o x hx with h1 | h1
    · exact .inl h1
    · rcases List.mem_cons.1 h1 with rfl | h1
      · exact .inl ha
      · exact .inr h1, fun s hs x hx => by
    rcases h.c s hs x hx with h1 | h1
    · exact .inl h1
    · rcases List.mem_cons.1 h1 with rfl | h1
      · exact .inl ha
      · exact .inr h1⟩
theorem Srch.step {k a : Nat} {S l : List Nat} (h : Srch A k S (a :: l)) (ha : a ∉ S) : Srch A k (S ++ [a]) (l ++ A.waits a) := by
  have hra := h.hl a (by simp)
  refine ⟨List.nodup_append.2 ⟨h.nd, by simp, fun x hx y hy => ?_⟩, fun x hx => ?_, fun x hx => ?_, fun x hx => ?_, fun s hs x hx => ?_⟩
  · rw [List.mem_singleton.1 hy]
    rintro rfl
    exact ha hx
  · rcases List.mem_append.1 hx with hx | hx
    · exact h.hs x hx
    · rw [List.mem_singleton.1 hx]; exact hra
  · rcases List.mem_append.1 hx with hx | hx
    · exact h.hl x (by simp [hx])
    · exact .more hra hx
  · rcases h.o x hx with h1 | h1
    · exact .inl (by simp [h1])
    · rcases List.mem_cons.1 h1 with rfl | h1
      · exact .inl (by simp)
      · exact .inr (by simp [h1])
  · rcases List.mem_append.1 hs with hs | hs
    · rcases h.c s hs x hx with h1 | h1
      · exact .inl (by simp [h1])
      · rcases List.mem_cons.1 h1 with rfl | h1
        · exact .inl (by simp)
        · exact .inr (by simp [h1])
    · rw [List.mem_singleton.1 hs] at hx
      exact .inr (by simp [hx])
theorem Srch.all {k : Nat} {S : List Nat} (h : Srch A k S []) {j : Nat} (hj : A.R k j) : j ∈ S := by
  induction hj with
  | one g => exact (h.o _ g).elim id fun h => by simp at h
  | more _ g ih => exact (h.c _ ih _ g).elim id fun h => by simp at h
theorem Srch.iff {k : Nat} {S : List Nat} (h : Srch A k S []) {j : Nat} : j ∈ S ↔ A.R k j := ⟨h.hs j, h.all⟩
theorem nodup_le : ∀ {S L : List Nat}, S.Nodup → (∀ x ∈ S, x ∈ L) → S.length ≤ L.length
  | [], L, _, _ => Nat.zero_le _
  | a :: S, L, hn, h => by
    obtain ⟨h1, h2⟩ := List.nodup_cons.1 hn
    have ha := h a (by simp)
    have := nodup_le (S := S) (L := L.erase a) h2 fun x hx => (List.mem_erase_of_ne (fun e => h1 (by rw [← e]; exact hx))).2 (h x (by simp [hx]))
    rw [List.length_erase_of_mem ha] at this
    have := List.length_pos_of_mem ha
    simp only [List.length_cons]
    omega
theorem Srch.len {k : Nat} {S l : List Nat} (h : Srch A k S l) : S.length ≤ A.rn.length + A.q.length := by
  rw [← List.length_append]
  exact nodup_le h.nd fun x hx => List.mem_append.2 (h.hs x hx).sub
end Bk
end Go.KL
end

section
/- Rows of numbers that shrink at the front and grow at the end. No program in sight. -/
namespace Go.KL
structure BufP (e : TypeId) (v : Value) (c : Chunk) (xs : List Value) : Prop where
  ok : (xs = [] ∧ v = .slice none 0 0 ∧ c = []) ∨ ∃ o : Own, v = osl o xs.length ∧ c = och e o xs ∧ owf 1 o xs.length xs
def shv : Value → Value
  | .slice p l c => .slice (if c = 1 then p else p.map (·.add (1 * 1))) (l - 1) (c - 1)
  | v => v
section
variable {P : Program} {W w : World} {Ls : List Chunk} {n : Nat} {σ : Slots} {C D : World → Prop} {dst : Option Tmp} {ty : TypeId} {pos : String} {after : Array Edge} {guard : Option (Nat × Bool)} {e : TypeId} {v : Value} {c : Chunk} {xs : List Value}
theorem BufR.p {rows : List (List Value)} (h : BufR e 1 v c rows) : BufP e v c rows.flatten := by
  have hl := flat_len h.len
  rw [Nat.mul_one] at hl
  rcases h.buf.ok with ⟨h1, h2, h3, h4⟩ | ⟨o, h1, h2, h3, _⟩
  · exact ⟨.inl ⟨h2, h3, h4⟩⟩
  · exact ⟨.inr ⟨o, by rw [hl]; exact h1, h2, by rw [hl]; exact h3⟩⟩
theorem BufP.view (h : BufP e v c xs) (hc : Hs C c) : EV C v 1 (xs.map fun x => [x]) := by
  refine ⟨lens.map fun _ => rfl, ?_⟩
  rw [List.length_map]
  rcases h.ok with ⟨rfl, rfl, rfl⟩ | ⟨o, rfl, rfl, ho⟩
  · exact SlV.empty
  · refine ⟨_, _, rfl, ho.le, fun _ => ⟨o.b, o.pre.length, rfl, fun i hi j hj => ?_⟩⟩
    obtain rfl : j = 0 := by omega
    refine hc.cell (e := e) List.mem_cons_self ?_
    rw [show o.pre.length + i * 1 + 0 = o.pre.length + i by omega, och_get (by omega)]
    simp [rix, List.getD_eq_getElem?_getD, hi]
theorem y_lenP (T : Tab P) {x : Operand} {t : TypeId} (hx : ev σ x = some v) (hB : BufP e v c xs) (ht : T.und t = some (.slice e)) :
    Ylds P n σ C ⟨dst, .call ⟨.builtin .len, #[x], #[t]⟩, ty, pos, after, guard⟩ (.int .i64 xs.length) := by
  rcases hB.ok with ⟨rfl, rfl, rfl⟩ | ⟨o, rfl, rfl, ho⟩
  · exact y_len T hx ht
  · exact y_len T hx ht
theorem y_shiftP (T : Tab P) {x a1 : Operand} {t : TypeId} {y : Value} (hx : ev σ x = some v) (hl : ev σ a1 = some (.int .i64 1)) (hB : BufP e v c (y :: xs)) (ht : T.und t = some (.slice e)) (hs : T.size e = some 1) :
    Ylds P n σ C ⟨dst, .slice t x (some a1) none none, ty, pos, after, guard⟩ (shv v) := by
  rcases hB.ok with ⟨h, _⟩ | ⟨o, rfl, rfl, ho⟩
  · cases h
  · exact y_sliceFrom T hx hl ht hs (lo := 1) rfl (by simp) ho.le
theorem BufP.shift {y : Value} (hB : BufP e v c (y :: xs)) : BufP e (shv v) c xs := by
  rcases hB.ok with ⟨h, _⟩ | ⟨o, rfl, rfl, ho⟩
  · cases h
  · have h1 : owf 1 o (xs.length + 1) (y :: xs) := ho
    refine ⟨.inr ⟨o.shift y, ?_, och_shift e h1, owf_shift h1⟩⟩
    have := osl_shift o xs.length y
    simpa [shv] using this
theorem y_append_nn (T : Tab P) {x y : Operand} {t e : TypeId} {s by_ c2 : Nat} {z : List Value} {pa : Option Addr} (hx : ev σ x = some (.slice none 0 0)) (hy : ev σ y = some (.slice pa 0 c2)) (hT : TabE T t e s by_ z) :
    Ylds P n σ C ⟨dst, .call ⟨.builtin .append, #[x, y], #[t, t]⟩, ty, pos, after, guard⟩ (.slice none 0 0) := by
  intro a w hE hw
  obtain ⟨inf, zv, i1, i2, i3, i4, i5⟩ := hT.info
  have hf := run_firstCells_zero (P := P) (s := s) (c := c2) (pa := pa) w
  have hres : ∀ r, (execOp a.eval ⟨dst, .call ⟨.builtin .append, #[x, y], #[t, t]⟩, ty, pos, after, guard⟩).run P w = r ↔ ((Builtin.append_ #[t, t] ty #[.slice none 0 0, .slice pa 0 c2]).run P w).andThen (fun v w' => .ok (.value v) w') = r := by
    intro r
    simp [execOp, resolve, invoke, builtin, ev_eval hE hx, ev_eval hE hy]
  rw [hres]
  simp [Builtin.append_, run_und T hT.und, sizeOf, typeInfo, i1, i2, Builtin.lenOf, hf]
theorem set_same {i : Nat} {c : Chunk} (hl : i < Ls.length) (hi : Ls.getD i [] = c) : Ls.set i c = Ls := by
  apply List.ext_getElem?
  intro k
  rw [List.getElem?_set]
  split
  · rename_i h; subst h
    rw [← hi, List.getD_eq_getElem?_getD, List.getElem?_eq_getElem hl]
    simp
  · rfl
theorem do_appendP (T : Tab P) (i : Nat) {x y : Operand} {t : TypeId} {by_ : Nat} {z : List Value} {u : Value} {ys : List Value} (hx : ev σ x = some v) (hB : BufP e v c xs) (hy : ev σ y = some u) (hV : EV (K W Ls) u 1 (ys.map fun x => [x]))
    (hT : TabE T t e 1 by_ z) (hzs : z.length = 1) (hl : i < Ls.length) (hi : Ls.getD i [] = c) (h1 : ys.all Value.oneCell' = true) (hmax : xs.length + ys.length < 1000000) (hby : by_ ≤ 1000) :
    Doos P n σ (K W Ls) ⟨dst, .call ⟨.builtin .append, #[x, y], #[t, t]⟩, ty, pos, after, guard⟩ (X := { u : Value × Chunk // BufP e u.1 u.2 (xs ++ ys) }) (fun u => u.1.1) (fun u => K W (Ls.set i u.1.2)) := by
  have h2 : (xs.length + ys.length) * by_ ≤ 1000000 * 1000 := Nat.mul_le_mul (by omega) hby
  have hV' := hV.view
  obtain ⟨pa, k, rfl, hk, hc⟩ := hV.view
  rw [List.length_map] at hy hk hc hV'
  by_cases h0 : ys.length = 0
  · have hys : ys = [] := List.eq_nil_of_length_eq_zero h0
    subst hys
    rcases hB.ok with ⟨rfl, rfl, rfl⟩ | ⟨o, rfl, rfl, ho⟩
    · intro a w hE hw
      refine ⟨⟨(.slice none 0 0, []), ⟨.inl ⟨rfl, rfl, rfl⟩⟩⟩, w, ?_, ?_⟩
      · exact y_append_nn (C := K W Ls) T hx hy hT a w hE hw
      · show K W (Ls.set i []) w
        rw [set_same hl hi]; exact hw
    · intro a w hE hw
      obtain ⟨o', w', hr, hk'⟩ := do_append0 (W := W) (Ls := Ls) (n := n) (dst := dst) (ty := ty) (pos := pos) (after := after) (guard := guard) T i hx hy hT hi ho a w hE hw
      refine ⟨⟨(osl o'.1 xs.length, och e o'.1 (xs ++ [])), ⟨.inr ⟨o'.1, by simp, rfl, by simpa using o'.2.1⟩⟩⟩, w', hr, hk'⟩
  · obtain ⟨b, o2, rfl, _⟩ := hc (by omega)
    have hn : CellsAre (K W Ls) ⟨b, o2, none⟩ ys := by
      intro w hw j hj
      have h3 := hV'.cell (i := j) (j := 0) (by omega) (by omega) w hw
      rw [addr_add]
      simp only [vblk, voff, Nat.mul_one, Nat.add_zero] at h3
      rw [h3]
      simp [rix, List.getD_eq_getElem?_getD, hj]
    rcases hB.ok with ⟨rfl, rfl, rfl⟩ | ⟨o, rfl, rfl, ho⟩
    · intro a w hE hw
      obtain ⟨o', w', hr, hk'⟩ := do_append_nil (W := W) (Ls := Ls) (n := n) (dst := dst) (ty := ty) (pos := pos) (after := after) (guard := guard) T hx hy hT hzs hn (by omega) (by omega) (by unfold maxLen; simp at hmax; omega) (by simp at h2; omega) a w hE hw
      refine ⟨⟨(osl o'.1 ys.length, och e o'.1 ys), ⟨.inr ⟨o'.1, by simp, by simp, by simpa using o'.2.1⟩⟩⟩, w', hr, K.putNil hl hi hk'⟩
    · intro a w hE hw
      obtain ⟨o', w', hr, hk'⟩ := do_append (W := W) (Ls := Ls) (n := n) (dst := dst) (ty := ty) (pos := pos) (after := after) (guard := guard) T i hx hy hT hzs hi ho hn (by omega) (List.all_eq_true.1 h1) (by unfold maxLen; omega) (by omega) a w hE hw
      refine ⟨⟨(osl o'.1 (xs.length + ys.length), och e o'.1 (xs ++ ys)), ⟨.inr ⟨o'.1, by simp, rfl, by simpa using o'.2.1⟩⟩⟩, w', hr, hk'⟩
end
section
variable {P : Program} {n : Nat} {σ : Slots} {C D : World → Prop} {Q : Post} {ops : Array Oper} {dr : Nat → Bool}
theorem d_sskip {i : Nat} {o : Oper} {plan : List PS} {d : Nat} (hi : ops[i]? = some o) (hg : gd ops σ o = some false) (hd : o.dst = some d) (hn : Nat.blt d n = true) (hD : dr i = true → ∀ w, C w → D w)
    (k : Sd P n ops dr D Q plan ((d, undef) :: σ) C) : Sd P n ops dr D Q (.s i :: plan) σ C := by
  intro listed a hE hdc hB hs
  simp only [planB, Bool.and_eq_true, beq_iff_eq] at hB
  refine one_ready hi hB.1 (.inr ⟨gd_wanted hE hg, hD, ?_⟩)
  rw [hd]
  exact k _ _ (hE.put hn undef) (hdc.set (ready_PL (by rw [hB.1]; simp))) hB.2 hs
end
end Go.KL
end

section
/- Walks: Index, waitsFor. -/
namespace Go.KL
open Go.Proofs
section
variable {P : Program} {n : Nat} {σ : Slots} {C D : World → Prop} {Q : Post} {ops : Array Oper} {dr : Nat → Bool}
theorem Hs.obj {g : Bg} {t : Tg} (hH : Hs C g.L.flatten) (ht : t ∈ g.ts) : ∀ w, C w → ∃ ca ta, w.heap[t.b]? = some (.cells ca ta (0, 0)) := fun w hw =>
  ⟨_, _, hH w hw (t.b, row 113 t.cells) (Bg.mem_ts ht (c := [(t.b, row 113 t.cells)]) (by simp) (by simp))⟩
theorem EV.take {v : Value} {s : Nat} {rows : List (List Value)} {pa : Option Addr} {m c : Nat} (h : EV C v s rows) (e : v = .slice pa m c) {k : Nat} (hk : k ≤ rows.length) : EV C (.slice pa k c) s (rows.take k) := by
  subst e
  have hl := h.len
  obtain ⟨pa', c', e, hc, hv⟩ := h.view
  injection e with e1 e2 e3
  subst e1 e3
  refine ⟨fun x hx => hl x (List.mem_of_mem_take hx), ?_⟩
  rw [List.length_take, Nat.min_eq_left hk]
  refine ⟨_, _, rfl, by omega, fun h0 => ?_⟩
  obtain ⟨b, o, e4, hx⟩ := hv (by omega)
  refine ⟨b, o, e4, fun i hi j hj => ?_⟩
  have := hx i (by omega) j hj
  simp only [rix, List.getD_eq_getElem?_getD] at this ⊢
  rw [List.getElem?_take_of_lt hi]
  exact this
end
def tov : Value → Nat → Value
  | .slice p _ c, k => .slice p k c
  | v, _ => v
theorem EV.to {C : World → Prop} {v : Value} {s : Nat} {rows : List (List Value)} (h : EV C v s rows) {k : Nat} (hk : k ≤ rows.length) : EV C (tov v k) s (rows.take k) := by
  obtain ⟨pa, c, e, hc, hv⟩ := h.view
  have := h.take e hk
  rw [e]
  exact this
theorem y_toV {P : Program} {n : Nat} {σ : Slots} {C : World → Prop} {dst : Option Tmp} {ty : TypeId} {pos : String} {after : Array Edge} {guard : Option (Nat × Bool)} (T : Tab P) {x a2 : Operand} {t e : TypeId} {s hi : Nat} {z2 : Int} {v : Value} {rows : List (List Value)} (hx : ev σ x = some v) (hh : ev σ a2 = some (.int .i64 z2)) (ht : T.und t = some (.slice e)) (hs : T.size e = some s)
    (hV : EV C v s rows) (e2 : z2 = (hi : Int)) (h2 : hi ≤ rows.length) :
    Ylds P n σ C ⟨dst, .slice t x none (some a2) none, ty, pos, after, guard⟩ (tov v hi) := by
  obtain ⟨pa, c, e, hc, hv⟩ := hV.view
  subst e
  exact y_sliceTo T hx hh ht hs e2 (by omega)
theorem ev_nums {C : World → Prop} {v : Value} {l : List Nat} (h : EV C v 1 (nums l)) : EV C v 1 ((l.map fun k => Value.int .i64 (k : Nat)).map fun x => [x]) := by
  rw [List.map_map]
  exact h
theorem mk_waits {A : Bk} {k : Nat} (h : (A.tx k).st = 2) : A.waits k = A.owners (A.tx k).req ++ A.ahead (A.tx k).req (A.before k) := by
  unfold Bk.waits
  rw [if_neg (by simp [h])]
attribute [local irreducible] SC St Fin Sq Ylds Doos Sets Enters Spec CellIs CellsAre Then Ret Rnd Chn resOK ints bools recs arr
set_option maxRecDepth 10000 in
theorem ix_b {g : Bg} {W : World} {N : List Chunk} {t : Tg} {l : List Nat} {v : Value} (hB : g.OK) (hH : Hs (K W N) g.L.flatten) (hv : EV (K W N) v 1 (ptrs g l)) (hlh : ∀ k ∈ l, g.has k) (hll : l.length < 1000000) (ht : t ∈ g.ts) (htl : t.id ∈ l) (hth : g.has t.id) (htp : g.pb t.id = t.b) :
    Spec Tryz.prog 149 #[v, .pointer (some ⟨t.b, 0, none⟩)] (K W N) (X := { z : Nat // z ≤ l.length ∧ l.take z = l.takeWhile fun j => !decide (j = t.id) }) (fun z => .int .i64 (z.1 : Nat)) (fun _ => K W N) := by
  have hl2 : (ptrs g l).length = l.length := List.length_map _
  refine enter (args := [_, _]) Tryz.func149 rfl Tryz.ntmps149 rfl ?_
  refine csr ?_
  refine sa ?_
  refine snf ?_
  refine c_seq ?_
  refine csr ?_
  refine sm ?_
  refine sy (y_lenE Tryz.tab rfl (hv) rfl) ?_
  refine sm ?_
  refine snf ?_
  refine c_block ?_
  refine c_loopP (α := Nat) (fun z => [(0, v), (1, .pointer (some ⟨t.b, 0, none⟩)), (7, .int .i64 (ptrs g l).length), (8, .int .i64 (z : Nat))]) (fun z => z ≤ l.length ∧ ∀ i, i < z → l[i]? ≠ some t.id) (fun _ => K W N) (fun z => l.length - z) 0
    ⟨rfl, rfl, rfl, rfl, trivial⟩ ⟨Nat.zero_le _, fun i h => absurd h (by omega)⟩ (fun w h => h) ?_
  rintro z ⟨hz, hno⟩
  by_cases c : z < l.length
  · obtain ⟨k, hk⟩ : ∃ k, l[z]? = some k := ⟨l[z], by simp [c]⟩
    have hkh := hlh k (List.mem_of_getElem? hk)
    obtain ⟨u, hum, _, hid, hpb, hux⟩ := hB.at hkh
    by_cases e : k = t.id
    · subst e
      have hcell := hv.cell (i := z) (x := .pointer (some ⟨t.b, 0, none⟩)) (by simp [hk, Bg.ptr, htp])
      refine csr ?_
      refine sy (y_T (y_lss rfl rfl) (by omega)) ?_
      refine snf ?_
      refine c_seq ?_
      refine c_condT rfl ?_
      refine c_skip ?_
      refine f_then ?_
      refine c_seq ?_
      refine c_block ?_
      refine csr ?_
      refine sm ?_
      refine sa ?_
      refine snf ?_
      refine csr ?_
      refine sm ?_
      refine sm ?_
      refine sm ?_
      refine sy (y_ixE Tryz.tab rfl rfl rfl rfl (hv) _ rfl (by omega)) ?_
      refine sl hcell ?_
      refine sy (y_eqlPS Tryz.tab rfl rfl rfl rfl) ?_
      refine snf ?_
      refine c_condT rfl ?_
      refine csr ?_
      refine sm ?_
      refine sa ?_
      refine snf ?_
      refine c_ret ?_
      refine f_blockR ?_
      refine f_thenR ?_
      refine f_rndR ?_
      refine f_blockR ?_
      refine f_thenR ?_
      exact f_ret ⟨z, by omega, (tw_take hno hk).symm⟩ (res1 rfl rfl) (fun w h => h)
    · have hcell := hv.cell (i := z) (x := .pointer (some ⟨u.b, 0, none⟩)) (by simp [hk, Bg.ptr, hpb])
      have hne : (⟨t.b, 0, none⟩ : Addr) ≠ ⟨u.b, 0, none⟩ := fun h => by
        simp only [Addr.mk.injEq, and_true] at h
        exact e (hB.pb_inj hkh hth (by rw [hpb, htp, h]))
      have ho1 := hH.obj ht
      have ho2 := hH.obj hum
      refine csr ?_
      refine sy (y_T (y_lss rfl rfl) (by omega)) ?_
      refine snf ?_
      refine c_seq ?_
      refine c_condT rfl ?_
      refine c_skip ?_
      refine f_then ?_
      refine c_seq ?_
      refine c_block ?_
      refine csr ?_
      refine sm ?_
      refine sa ?_
      refine snf ?_
      refine csr ?_
      refine sm ?_
      refine sm ?_
      refine sm ?_
      refine sy (y_ixE Tryz.tab rfl rfl rfl rfl (hv) _ rfl (by omega)) ?_
      refine sl hcell ?_
      refine sy (y_eqlPO Tryz.tab rfl rfl rfl rfl hne ho1 ho2) ?_
      refine snf ?_
      refine c_condF rfl ?_
      refine c_skip ?_
      refine f_blockN ?_
      refine f_then ?_
      refine c_region ?_
      refine sy (y_add rfl rfl (by omega)) ?_
      refine sm ?_
      refine s_nil ?_
      exact f_roundP (z + 1) ⟨c, fun i hi h => by
        by_cases e2 : i = z
        · subst e2
          rw [hk] at h
          exact e (Option.some.inj h)
        · exact hno i (by omega) h⟩ (by omega) ⟨rfl, rfl, rfl, rfl, trivial⟩ (fun w h => h)
  · exfalso
    obtain ⟨i, hi⟩ := List.getElem?_of_mem htl
    exact hno i (by have := (List.getElem?_eq_some_iff.1 hi).1; omega) hi
structure Few (g : Bg) : Prop where
  lim : Lim g
  rn : g.rn.length ≤ 64
  q : g.q.length ≤ 64
  w : ∀ k, g.has k → (g.bk.tx k).st = 2 → k ∈ g.q
abbrev nvs (l : List Nat) : List Value := l.map fun k => Value.int .i64 (k : Nat)
set_option maxRecDepth 10000 in
set_option maxHeartbeats 4000000 in
theorem waits_b {g : Bg} {W : World} {N : List Chunk} {k : Nat} {t : Tg} (hB : g.OK) (hL : Few g) (hH : Hs (K W N) g.L.flatten) (hk : g.has k) (ht : t ∈ g.ts) (hid : t.id = k) (hpb : g.pb k = t.b) (htx : g.bk.tx k = t.tx) :
    Spec Tryz.prog 140 #[.pointer (some ⟨g.b, 0, none⟩), .pointer (some ⟨t.b, 0, none⟩)] (K W N) (X := { x : Value × Chunk // BufP 3 x.1 x.2 (nvs (g.bk.waits k)) }) (fun x => x.1.1) (fun x => K W (x.1.2 :: N)) := by
  have hq := hL.q
  obtain ⟨f0, f1, f2, f3, f4, f5, fq, fl, fea, fer⟩ := hB.bf hH
  obtain ⟨t0, t1, t2, t3, t7, tl, to⟩ := hB.tf hH ht
  refine enter (args := [_, _]) Tryz.func140 rfl Tryz.ntmps140 rfl ?_
  clear f0 f1 f2 f3 f5 fl fea fer t2 t7 tl to t0
  by_cases c : t.st = 2
  · have hw := mk_waits (A := g.bk) (k := k) (by rw [htx]; exact c)
    have hkq := hL.w k hk (by rw [htx]; exact c)
    rw [htx] at hw
    change g.bk.waits k = g.bk.owners t.req ++ g.bk.ahead t.req (g.bk.before k) at hw
    have hl2 : (ptrs g g.q).length = g.q.length := List.length_map _
    refine csr ?_
    refine sa ?_
    refine snf ?_
    refine c_seq ?_
    refine csr ?_
    refine sm ?_
    refine sn ?_
    refine sf 1 ?_
    refine sl t1 ?_
    refine sy (y_F (y_neq rfl rfl) (by omega)) ?_
    refine snf ?_
    refine c_condF rfl ?_
    refine c_skip ?_
    refine f_then ?_
    refine c_seq ?_
    refine c_plan [.c 0, .c 1, .c 2, .c 3, .c 4, .c 6, .c 7, .c 8, .c 9, .c 10, .c 11, .c 12, .c 13, .c 14, .c 15, .c 16, .c 17, .c 18, .c 19, .s 5, .s 20, .c 21, .s 22, .s 23, .c 24] [] ((K W N)) Tryz.mixed (by kernel_rfl) rfl K.cl ?_
    refine dy rfl (y_move rfl) (fun _ h => h) ?_
    refine dy rfl (y_move rfl) (fun _ h => h) ?_
    refine dy rfl (y_nilP rfl) (fun _ h => h) ?_
    refine dy rfl (y_fieldAddrB Tryz.tab 3 rfl rfl rfl rfl rfl) (fun _ h => h) ?_
    refine dy rfl (y_loadA Tryz.tab rfl rfl rfl rfl t3) (fun _ h => h) ?_
    refine dy rfl (y_move rfl) (fun _ h => h) ?_
    refine dy rfl (y_move rfl) (fun _ h => h) ?_
    refine dy rfl (y_nilP rfl) (fun _ h => h) ?_
    refine dy rfl (y_fieldAddrB Tryz.tab 3 rfl rfl rfl rfl rfl) (fun _ h => h) ?_
    refine dy rfl (y_loadA Tryz.tab rfl rfl rfl rfl t3) (fun _ h => h) ?_
    refine dy rfl (y_move rfl) (fun _ h => h) ?_
    refine dy rfl (y_nilP rfl) (fun _ h => h) ?_
    refine dy rfl (y_fieldAddrB Tryz.tab 4 rfl rfl rfl rfl rfl) (fun _ h => h) ?_
    refine dy rfl (y_load Tryz.tab rfl rfl f4) (fun _ h => h) ?_
    refine dy rfl (y_move rfl) (fun _ h => h) ?_
    refine dy rfl (y_nilP rfl) (fun _ h => h) ?_
    refine dy rfl (y_fieldAddrB Tryz.tab 4 rfl rfl rfl rfl rfl) (fun _ h => h) ?_
    refine dy rfl (y_load Tryz.tab rfl rfl f4) (fun _ h => h) ?_
    refine dy rfl (y_move rfl) (fun _ h => h) ?_
    refine d_call rfl (en_f rfl Tryz.call117) (owners_b (l := t.req) hB hL.lim hH) rfl rfl rfl (fun _ => K.cl) (fun _ _ _ h => h.tail) (fun x => ?_)
    obtain ⟨⟨v1, c1⟩, hR1⟩ := x
    dsimp only at hR1 ⊢
    skip
    refine d_call rfl (en_f rfl Tryz.call149) (ix_b hB hH.cons fq.cons hB.qh (by omega) ht (by rw [hid]; exact hkq) (by rw [hid]; exact hk) (by rw [hid]; exact hpb)) rfl rfl rfl (fun _ => K.cl) (fun _ _ _ h => h.tail) (fun x => ?_)
    obtain ⟨z, hz, hzt⟩ := x
    dsimp only
    have hD := fun (w : World) (h : K W (c1 :: N) w) => h.tail
    have hto := fq.to (k := z) (by rw [List.length_map]; exact hz)
    refine dy rfl (y_toV Tryz.tab rfl rfl rfl rfl fq rfl (by rw [List.length_map]; exact hz)) (fun _ h => h.tail) ?_
    have hbef : List.take z (ptrs g g.q) = ptrs g (g.bk.before k) := by
      rw [← List.map_take, hzt, hid]
      rfl
    have hto2 : EV (K W N) (tov g.qv z) 1 (ptrs g (g.bk.before k)) := hbef ▸ hto
    have hbs : ∀ j ∈ g.bk.before k, j ∈ g.q := fun j hj => (List.takeWhile_sublist _).subset hj
    have hbl : (g.bk.before k).length ≤ g.q.length := (List.takeWhile_sublist _).length_le
    refine d_call rfl (en_f rfl Tryz.call118) (ahead_b (l := t.req) hB hH.cons hto2.cons (fun j hj => hB.qh j (hbs j hj)) (by omega)) rfl rfl rfl (fun _ => K.cl) (fun _ _ _ h => h.tail.tail) (fun x => ?_)
    obtain ⟨⟨v2, c2⟩, hR2⟩ := x
    dsimp only at hR2 ⊢
    have hol : (g.bk.owners t.req).length ≤ 64 := by
      have h1 := List.length_filter_le (fun k => (g.bk.tx k).locks.any fun x => cfl x t.req) (srt g.rn)
      have h2 : (srt g.rn).length = g.rn.length := List.length_mergeSort _
      have h3 := hL.rn
      have h4 : g.bk.owners t.req = (srt g.rn).filter (fun k => (g.bk.tx k).locks.any fun x => cfl x t.req) := rfl
      rw [h4]
      omega
    have hal : (g.bk.ahead t.req (g.bk.before k)).length ≤ 64 := by
      have h1 := List.length_filter_le (fun j => cfl (g.bk.tx j).req t.req) (g.bk.before k)
      have h4 : g.bk.ahead t.req (g.bk.before k) = (g.bk.before k).filter (fun j => cfl (g.bk.tx j).req t.req) := rfl
      rw [h4]
      omega
    have hP1 : BufP 3 v1 c1 (nvs (g.bk.owners t.req)) := by
      have h := hR1.p
      rw [nums_flat] at h
      exact h
    have hE2 := ev_nums (hR2.view (C := K W (c2 :: c1 :: N)) (Hs.at 0 rfl))
    refine d_s rfl (do_appendP (by_ := 8) Tryz.tab 1 rfl hP1 rfl hE2 ⟨rfl, rfl, rfl, rfl⟩ rfl (by simp) rfl (List.all_eq_true.2 fun x hx => by
      obtain ⟨y, _, rfl⟩ := List.mem_map.1 hx
      rfl) (by rw [List.length_map, List.length_map]; omega) (by omega)) rfl rfl rfl (fun _ => K.cl) (fun _ _ _ h => h.tail.tail) (fun x => ?_)
    obtain ⟨⟨v3, c3⟩, hP3⟩ := x
    dsimp only at hP3 ⊢
    have hD2 := fun (w : World) (h : K W (c2 :: c3 :: N) w) => h.tail.tail
    refine dy rfl (y_assign rfl) hD2 ?_
    refine d_nil ?_
    refine f_then ?_
    refine c_ret ?_
    exact f_ret ⟨(v3, c3), by rw [hw, nvs, List.map_append]; exact hP3⟩ (res1 rfl rfl) (fun w h => h.tail)
  · have hw : g.bk.waits k = [] := by
      unfold Bk.waits
      rw [htx, if_pos (show t.tx.st ≠ 2 from c)]
    refine csr ?_
    refine sa ?_
    refine snf ?_
    refine c_seq ?_
    refine csr ?_
    refine sm ?_
    refine sn ?_
    refine sf 1 ?_
    refine sl t1 ?_
    refine sy (y_T (y_neq rfl rfl) (by omega)) ?_
    refine snf ?_
    refine c_condT rfl ?_
    refine csr ?_
    refine sa ?_
    refine snf ?_
    refine c_ret ?_
    refine f_thenR ?_
    exact f_ret ⟨(.slice none 0 0, []), ⟨.inl ⟨by rw [hw]; rfl, rfl, rfl⟩⟩⟩ (res1 rfl rfl) (fun w h => h.addNil)
end Go.KL
end

section
/- Walks: reached, victim. -/
namespace Go.KL
open Go.Proofs
structure RM (A : Bk) (k : Nat) (es : List Ent) (c : Nat) : Prop where
  ok : MOK es c
  val : ∀ e ∈ es, e.2.1 = .bool true
  key : ∀ z : Int, mhas z es = true ↔ ∃ j : Nat, z = (j : Int) ∧ A.R k j
theorem mget_bool {z : Int} : ∀ {es : List Ent}, (∀ e ∈ es, e.2.1 = .bool true) → mget z (.bool false) es = .bool (mhas z es)
  | [], _ => rfl
  | e :: r, h => by
    simp only [mget, mhas]
    split
    · exact h e (by simp)
    · exact mget_bool fun x hx => h x (by simp [hx])
theorem mhas_nat {S : List Nat} {es : List Ent} (h : es.map (·.1) = S.map (fun j : Nat => (j : Int))) (a : Nat) : mhas (a : Int) es = decide (a ∈ S) := by
  rw [Bool.eq_iff_iff, mhas_mem, h, decide_eq_true_iff, List.mem_map]
  constructor
  · rintro ⟨j, hj, e⟩
    rw [← (Int.ofNat_inj.1 e : j = a)]; exact hj
  · exact fun h => ⟨a, h, rfl⟩
theorem Bg.OK.rhas {g : Bg} (hB : g.OK) {k j : Nat} (h : g.bk.R k j) : g.has j := by
  rcases h.sub with h | h
  · exact hB.rnh j h
  · exact hB.qh j h
attribute [local irreducible] SC St Fin Sq Ylds Doos Sets Enters Spec CellIs CellsAre Then Ret Rnd Chn resOK ints bools recs arr
set_option maxRecDepth 10000 in
set_option maxHeartbeats 4000000 in
theorem reached_b {g : Bg} {W : World} {N : List Chunk} {k : Nat} {t : Tg} (hB : g.OK) (hL : Few g) (hH : Hs (K W N) g.L.flatten) (hk : g.has k) (ht : t ∈ g.ts) (hid : t.id = k) (hpb : g.pb k = t.b) (htx : g.bk.tx k = t.tx) :
    Spec Tryz.prog 127 #[.pointer (some ⟨g.b, 0, none⟩), .pointer (some ⟨t.b, 0, none⟩)] (K W N) (X := { x : Nat × List Ent × Nat // RM g.bk k x.2.1 x.2.2 }) (fun x => .map (some x.1.1)) (fun x => K W ([(x.1.1, mobj x.1.2.1 x.1.2.2)] :: N)) := by
  have hq := hL.q
  have hrn := hL.rn
  obtain ⟨f0, f1, f2, f3, f4, f5, fq, fl, fea, fer⟩ := hB.bf hH
  clear f0 f1 f3 f4 f5 fq fl fer
  refine enter (args := [_, _]) Tryz.func127 rfl Tryz.ntmps127 rfl ?_
  refine csr ?_
  refine sa ?_
  refine snf ?_
  refine csr ?_
  refine s_do do_makeMap rfl rfl rfl (fun B => ?_)
  refine sa ?_
  refine snf ?_
  refine csr ?_
  refine sm ?_
  refine sm ?_
  refine sk Tryz.call140 (waits_b hB hL hH.cons hk ht hid hpb htx) fun x => ?_
  obtain ⟨⟨u0, d0⟩, hP0⟩ := x
  dsimp only at hP0 ⊢
  refine sa ?_
  refine snf ?_
  refine c_seq ?_
  refine c_block ?_
  refine c_loopP (α := List Nat × List Nat × List Ent × Nat × Value × Chunk) (fun z => [(0, .pointer (some ⟨g.b, 0, none⟩)), (5, .map (some B)), (6, z.2.2.2.2.1)])
    (fun z => Bk.Srch g.bk k z.1 z.2.1 ∧ BufP 3 z.2.2.2.2.1 z.2.2.2.2.2 (nvs z.2.1) ∧ MOK z.2.2.1 z.2.2.2.1 ∧ (∀ e ∈ z.2.2.1, e.2.1 = .bool true) ∧ z.2.2.1.map (·.1) = z.1.map (fun j : Nat => (j : Int)) ∧ z.2.1.length ≤ 128 * (z.1.length + 1))
    (fun z => K W ([(B, mobj z.2.2.1 z.2.2.2.1)] :: z.2.2.2.2.2 :: N)) (fun z => (129 - z.1.length) * 1000 + z.2.1.length) ([], g.bk.waits k, [], 0, u0, d0)
    ⟨rfl, rfl, rfl, trivial⟩ ⟨.begin k, hP0, .empty, fun e he => by simp at he, rfl, by have := Bk.waits_len (A := g.bk) k; simp only [Bg.bk] at *; simp; omega⟩ (fun w h => h.swap) ?_
  rintro ⟨S, l, es, c, u, d⟩ ⟨hS, hP, hM, hv, hkey, hlen⟩
  dsimp only at hS hP hM hv hkey hlen ⊢
  have hSl : S.length ≤ 128 := by have := hS.len; simp only [Bg.bk] at this; omega
  cases l with
  | nil =>
    have hlp := hP
    refine c_seq ?_
    refine csr ?_
    refine sm ?_
    refine sy (y_lenP Tryz.tab rfl hP rfl) ?_
    refine sy (y_gtr rfl rfl) ?_
    refine snf ?_
    refine c_condF rfl ?_
    refine c_exit ?_
    refine f_thenE ?_
    refine f_rndE ?_
    refine f_blockE ?_
    refine f_then ?_
    refine csr ?_
    refine sm ?_
    refine sa ?_
    refine snf ?_
    refine c_ret ?_
    exact f_ret ⟨(B, es, c), hM, hv, fun z => by
      rw [mhas_mem, hkey, List.mem_map]
      constructor
      · rintro ⟨j, hj, e⟩; exact ⟨j, e.symm, hS.iff.1 hj⟩
      · rintro ⟨j, e, hj⟩; exact ⟨j, hS.iff.2 hj, e.symm⟩⟩ (res1 rfl rfl) (fun w h => h.dropAt 1)
  | cons a l =>
    have hE := hP.view (C := K W ([(B, mobj es c)] :: d :: N)) (Hs.at 1 rfl)
    have hP' : BufP 3 u d (.int .i64 (a : Nat) :: nvs l) := hP
    have hcell := hE.cell (i := 0) (x := .int .i64 (a : Nat)) rfl
    have hra : g.bk.R k a := hS.hl a (by simp)
    have hah := hB.rhas hra
    obtain ⟨t2, ht2, _, hid2, hpb2, htx2⟩ := hB.at hah
    have hgo : (0 : Int) < ((nvs (a :: l)).length : Nat) := by simp
    have hgo2 : 0 < ((nvs (a :: l)).map fun x => [x]).length := by simp
    have hhas := mhas_nat hkey a
    refine c_seq ?_
    refine csr ?_
    refine sm ?_
    refine sy (y_lenE Tryz.tab rfl (hE) rfl) ?_
    refine sy (y_T (y_gtr rfl rfl) (by omega)) ?_
    refine snf ?_
    refine c_condT rfl ?_
    refine c_skip ?_
    refine f_then ?_
    refine c_block ?_
    refine csr ?_
    refine sm ?_
    refine sy (y_ixE Tryz.tab rfl rfl rfl rfl (hE) _ rfl (by omega)) ?_
    refine sl hcell ?_
    refine sa ?_
    refine snf ?_
    refine csr ?_
    refine sm ?_
    refine sy (y_shiftP Tryz.tab rfl rfl hP' rfl rfl) ?_
    have hPs := hP'.shift
    refine sa ?_
    refine snf ?_
    refine csr ?_
    refine sm ?_
    refine sm ?_
    by_cases ca : a ∈ S
    · rw [decide_eq_true ca] at hhas
      have hget : mget (a : Int) (.bool false) es = .bool true := by rw [mget_bool hv, hhas]
      refine sy (y_lookupE Tryz.tab rfl rfl rfl rfl (fun _ => rfl) (Hs.at 0 rfl) hget) ?_
      refine sy (y_notT rfl) ?_
      refine snf ?_
      refine c_condF rfl ?_
      refine c_skip ?_
      refine f_blockN ?_
      exact f_roundP (S, l, es, c, shv u, d) ⟨hS.skip ca, hPs, hM, hv, hkey, by dsimp only; simp at hlen; omega⟩ (by simp) ⟨rfl, rfl, rfl, trivial⟩ (fun w h => h)
    · rw [decide_eq_false ca] at hhas
      have hget : mget (a : Int) (.bool false) es = .bool false := by rw [mget_bool hv, hhas]
      have hget2 : mget (a : Int) (.pointer none) g.ea = .pointer (some ⟨t2.b, 0, none⟩) := by rw [hB.eaG a hah, Bg.ptr, hpb2]
      have hal : a ≤ 1000000 := by have h1 := hB.eaL; have h2 := hB.eaM.len; have h3 := hah.2; omega
      have hesl : es.length = S.length := by have := congrArg List.length hkey; simpa using this
      have hS2 := hS.step ca
      have hSl2 : S.length + 1 ≤ 128 := by have := hS2.len; simp only [Bg.bk] at this; simp at this; omega
      have hwl : (g.bk.waits a).length ≤ 128 := Nat.le_trans (Bk.waits_len a) (show g.rn.length + g.q.length ≤ 128 by omega)
      refine sy (y_lookupE Tryz.tab rfl rfl rfl rfl (fun _ => rfl) (Hs.at 0 rfl) hget) ?_
      refine sy (y_notF rfl) ?_
      refine snf ?_
      refine c_condT rfl ?_
      refine csr ?_
      refine sm ?_
      refine sm ?_
      refine ss (set_map Tryz.tab 0 rfl rfl rfl rfl rfl rfl) ?_
      refine snf ?_
      refine c_region ?_
      refine sm ?_
      refine sm ?_
      refine sm ?_
      refine sn ?_
      refine sf 2 ?_
      refine sl f2.cons.cons ?_
      refine sm ?_
      refine sy (y_lookupE Tryz.tab rfl rfl rfl rfl (fun _ => rfl) (fea.cons.cons) (by assumption)) ?_
      refine sk Tryz.call140 (waits_b hB hL hH.cons.cons hah ht2 hid2 hpb2 htx2) fun x => ?_
      obtain ⟨⟨u2, d2⟩, hP2⟩ := x
      dsimp only at hP2 ⊢
      have hE2 := hP2.view (C := K W (d2 :: [(B, mobj (mset (a : Int) (.bool true) c es) (mclk (a : Int) c es))] :: d :: N)) (Hs.at 0 rfl)
      refine s_do (do_appendP (by_ := 8) Tryz.tab 2 rfl hPs rfl hE2 ⟨rfl, rfl, rfl, rfl⟩ rfl (by simp) rfl (List.all_eq_true.2 fun x hx => by
        obtain ⟨y, _, rfl⟩ := List.mem_map.1 hx
        rfl) (by rw [List.length_map, List.length_map]; simp at hlen; omega) (by omega)) rfl rfl rfl (fun x => ?_)
      obtain ⟨⟨u3, d3⟩, hP3⟩ := x
      dsimp only at hP3 ⊢
      refine sa ?_
      refine s_nil ?_
      refine f_blockN ?_
      refine f_roundP (S ++ [a], l ++ g.bk.waits a, mset (a : Int) (.bool true) c es, mclk (a : Int) c es, u3, d3) ⟨hS2, by rw [nvs, List.map_append]; exact hP3, hM.set _ _ (by omega) (by omega), fun e he => ?_, ?_, ?_⟩ ?_ ⟨rfl, rfl, rfl, trivial⟩ (fun w h => h.tail)
      · rw [mset_new hhas] at he
        rcases List.mem_append.1 he with he | he
        · exact hv e he
        · rw [List.mem_singleton.1 he]
      · dsimp only
        rw [mset_new hhas, List.map_append, hkey, List.map_append]
        rfl
      · simp at hlen ⊢
        omega
      · simp
        omega
def leftN (es : List Ent) (seen : Array Nat) : Nat := es.countP fun e => decide (e.2.2 ∉ seen)
theorem leftN_lt {es : List Ent} {seen : Array Nat} {e : Ent} (h1 : e ∈ es) (h2 : e.2.2 ∉ seen) : leftN es (seen.push e.2.2) < leftN es seen := by
  unfold leftN
  induction es with
  | nil => simp at h1
  | cons a r ih =>
    have mono : ∀ r : List Ent, r.countP (fun x => decide (x.2.2 ∉ seen.push e.2.2)) ≤ r.countP (fun x => decide (x.2.2 ∉ seen)) := fun r => by
      refine List.countP_mono_left fun x _ h => ?_
      simp at h ⊢
      exact h.1
    rw [List.countP_cons, List.countP_cons]
    rcases List.mem_cons.1 h1 with rfl | h1
    · have h3 := mono r
      rw [if_neg (by simp), if_pos (by simp [h2])]
      omega
    · have := ih h1
      have h3 : (if decide (a.2.2 ∉ seen.push e.2.2) = true then 1 else 0) ≤ (if decide (a.2.2 ∉ seen) = true then 1 else 0) := by
        by_cases c : a.2.2 ∈ seen
        · simp [c]
        · split <;> simp [c]
      omega
set_option maxRecDepth 10000 in
set_option maxHeartbeats 4000000 in
theorem victim_b {g : Bg} {W : World} {N : List Chunk} {k : Nat} {t : Tg} (hB : g.OK) (hL : Few g) (hH : Hs (K W N) g.L.flatten) (hk : g.has k) (ht : t ∈ g.ts) (hid : t.id = k) (hpb : g.pb k = t.b) (htx : g.bk.tx k = t.tx) :
    Spec Tryz.prog 111 #[.pointer (some ⟨g.b, 0, none⟩), .pointer (some ⟨t.b, 0, none⟩)] (K W N) (X := { v : Nat // g.bk.IsVic k v }) (fun v => .int .i64 (v.1 : Nat)) (fun _ => K W N) := by
  obtain ⟨f0, f1, f2, f3, f4, f5, fq, fl, fea, fer⟩ := hB.bf hH
  obtain ⟨t0, t1, t2, t3, t7, tl, to⟩ := hB.tf hH ht
  clear f0 f1 f3 f4 f5 fq fl fer t1 t2 t3 t7 tl to
  refine enter (args := [_, _]) Tryz.func111 rfl Tryz.ntmps111 rfl ?_
  refine csr ?_
  refine sa ?_
  refine snf ?_
  refine csr ?_
  refine sa ?_
  refine snf ?_
  refine c_seq ?_
  refine csr ?_
  refine sm ?_
  refine sm ?_
  refine sk Tryz.call127 (reached_b hB hL hH hk ht hid hpb htx) fun x => ?_
  obtain ⟨⟨B, es, c⟩, hR⟩ := x
  dsimp only at hR ⊢
  refine s_do (do_range Tryz.tab 0 rfl rfl rfl) rfl rfl rfl (fun r => ?_)
  refine snf ?_
  refine c_block ?_
  refine c_loopP (α := Array Nat × Nat) (fun z => [(0, .pointer (some ⟨g.b, 0, none⟩)), (1, .pointer (some ⟨t.b, 0, none⟩)), (5, .int .i64 (z.2 : Nat)), (10, .pointer (some ⟨r, 0, none⟩))])
    (fun z => (z.2 = 0 ∨ g.bk.dead k z.2) ∧ ∀ e ∈ es, e.2.2 ∈ z.1 → ∀ j : Nat, e.1 = (j : Int) → g.bk.dead k j → j ≤ z.2) (fun z => K W ([(r, mit B c z.1)] :: [(B, mobj es c)] :: N)) (fun z => leftN es z.1) (#[], 0)
    ⟨rfl, rfl, rfl, rfl, trivial⟩ ⟨.inl rfl, fun e _ h => by simp at h⟩ (fun w h => h) ?_
  rintro ⟨seen, v⟩ ⟨h1, h2⟩
  dsimp only at h1 h2 ⊢
  refine csr ?_
  refine s_do (do_next 0 1 rfl rfl rfl hR.ok.old) rfl rfl rfl (fun x => ?_)
  obtain ⟨_ | e, hx⟩ := x
  · dsimp only [nextV, nextLs]
    refine sx ?_
    refine snf ?_
    refine c_seq ?_
    refine c_condF rfl ?_
    refine c_exit ?_
    refine f_thenE ?_
    refine f_rndE ?_
    refine f_blockE ?_
    refine f_then ?_
    refine csr ?_
    refine sm ?_
    refine sa ?_
    refine snf ?_
    refine c_ret ?_
    refine f_ret ⟨v, ?_⟩ (res1 rfl rfl) (fun w h => h.tail.tail)
    have hall : ∀ j, g.bk.dead k j → j ≤ v := fun j hj => by
      have h3 := (hR.key (j : Int)).2 ⟨j, rfl, hj.1⟩
      rw [mhas_mem] at h3
      obtain ⟨e, he, e2⟩ := List.mem_map.1 h3
      exact h2 e he (hx e he) j e2 hj
    by_cases c0 : v = 0
    · refine .inl ⟨c0, fun j hj => ?_⟩
      have h4 := hall j hj
      have h5 := hB.rhas hj.1
      omega
    · exact .inr ⟨c0, h1.elim (fun h => absurd h c0) id, hall⟩
  · obtain ⟨hx1, hx2⟩ := hx
    dsimp only [nextV, nextLs]
    have hmem : mhas e.1 es = true := mhas_mem.2 (List.mem_map.2 ⟨e, hx1, rfl⟩)
    obtain ⟨a, ea, hra⟩ := (hR.key e.1).1 hmem
    have hah := hB.rhas hra
    obtain ⟨t2, ht2, _, hid2, hpb2, htx2⟩ := hB.at hah
    have hget2 : mget (a : Int) (.pointer none) g.ea = .pointer (some ⟨t2.b, 0, none⟩) := by rw [hB.eaG a hah, Bg.ptr, hpb2]
    refine St.cls (C' := K W ([(r, mit B c (seen.push e.2.2))] :: [(B, mobj es c)] :: N)) ?_ (fun w h => h)
    have hm := leftN_lt hx1 hx2
    refine sx ?_
    refine snf ?_
    refine c_seq ?_
    refine c_condT rfl ?_
    refine c_skip ?_
    refine f_then ?_
    refine c_block ?_
    refine csr ?_
    refine sy (y_entry 0 1 (e := e) rfl rfl rfl hx1 hR.ok.born) ?_
    rw [ea]
    have hcase : ∀ v' : Nat, (v' = 0 ∨ g.bk.dead k v') → v ≤ v' → (g.bk.dead k a → a ≤ v') → ∀ e' ∈ es, e'.2.2 ∈ seen.push e.2.2 → ∀ j : Nat, e'.1 = (j : Int) → g.bk.dead k j → j ≤ v' := fun v' _ hv' ha e' he' hs j hj hd => by
      rcases Array.mem_push.1 hs with hs | hs
      · exact Nat.le_trans (h2 e' he' hs j hj hd) hv'
      · have : e'.1 = e.1 := by
          have h3 := List.pairwise_map.1 hR.ok.born
          obtain ⟨i1, q1⟩ := List.getElem?_of_mem he'
          obtain ⟨i2, q2⟩ := List.getElem?_of_mem hx1
          have q3 : (es.map (·.2.2))[i1]? = some e'.2.2 := by simp [q1]
          have q4 : (es.map (·.2.2))[i2]? = some e.2.2 := by simp [q2]
          have hlt : i1 < (es.map (·.2.2)).length := by have := (List.getElem?_eq_some_iff.1 q1).1; simpa using this
          have q5 := (List.getElem?_inj (j := i2) hlt hR.ok.born).1 (q3.trans (by rw [q4, hs]))
          rw [q5, q2] at q1
          rw [Option.some.inj q1]
        rw [hj, ea] at this
        have : j = a := Int.ofNat_inj.1 this
        rw [this] at hd ⊢
        exact ha hd
    by_cases cv : v < a
    · refine sx ?_
      refine sa ?_
      refine snf ?_
      refine c_seq ?_
      refine c_plan [.c 0, .c 1, .c 2, .c 3, .c 4, .c 5, .c 6, .c 7, .c 8, .c 9, .c 10, .c 12, .c 13, .c 14, .c 15, .s 11, .s 16, .c 17] [] (K W ([(r, mit B c (seen.push e.2.2))] :: [(B, mobj es c)] :: N)) Tryz.mixed (by kernel_rfl) rfl K.cl ?_
      refine dy rfl (y_move rfl) (fun _ h => h) ?_
      refine dy rfl (y_move rfl) (fun _ h => h) ?_
      refine dy rfl (y_T (y_gtr rfl rfl) (by omega)) (fun _ h => h) ?_
      refine dy rfl (y_move rfl) (fun _ h => h) ?_
      refine dy rfl (y_move rfl) (fun _ h => h) ?_
      refine dy rfl (y_move rfl) (fun _ h => h) ?_
      refine dy rfl (y_nilP rfl) (fun _ h => h) ?_
      refine dy rfl (y_fieldAddrB Tryz.tab 2 rfl rfl rfl rfl rfl) (fun _ h => h) ?_
      refine dy rfl (y_load Tryz.tab rfl rfl f2.cons.cons) (fun _ h => h) ?_
      refine dy rfl (y_move rfl) (fun _ h => h) ?_
      refine dy rfl (y_lookupE Tryz.tab rfl rfl rfl rfl (fun _ => rfl) (fea.cons.cons) (by assumption)) (fun _ h => h) ?_
      refine dy rfl (y_move rfl) (fun _ h => h) ?_
      refine dy rfl (y_nilP rfl) (fun _ h => h) ?_
      refine dy rfl (y_fieldAddr0 Tryz.tab rfl rfl rfl rfl rfl) (fun _ h => h) ?_
      refine dy rfl (y_load Tryz.tab rfl rfl t0.cons.cons) (fun _ h => h) ?_
      refine d_call rfl (en_f rfl Tryz.call127) (reached_b hB hL hH.cons.cons hah ht2 hid2 hpb2 htx2) rfl rfl rfl (fun _ => K.cl) (fun _ _ _ h => h.tail) (fun x => ?_)
      obtain ⟨⟨B2, es2, c2⟩, hR2⟩ := x
      dsimp only at hR2 ⊢
      have hD := fun (w : World) (h : K W ([(B2, mobj es2 c2)] :: [(r, mit B c (seen.push e.2.2))] :: [(B, mobj es c)] :: N) w) => h.tail
      have hmh : mhas (t.id : Int) es2 = true ↔ g.bk.R a k := by
        rw [hR2.key, hid]
        constructor
        · rintro ⟨j, ej, hj⟩
          rw [(Int.ofNat_inj.1 ej : k = j)]; exact hj
        · exact fun h => ⟨k, rfl, h⟩
      by_cases hd : g.bk.R a k
      · have hget3 : mget (t.id : Int) (.bool false) es2 = .bool true := by rw [mget_bool hR2.val, hmh.2 hd]
        refine d_sy rfl (y_lookupE Tryz.tab rfl rfl rfl rfl (fun _ => rfl) (Hs.at 0 rfl) hget3) rfl rfl rfl K.cl (fun _ => hD) ?_
        refine dy rfl (y_pickT rfl rfl) hD ?_
        refine d_nil ?_
        refine f_then ?_
        refine c_condT rfl ?_
        refine c_region ?_
        refine sm ?_
        refine sa ?_
        refine s_nil ?_
        refine f_blockN ?_
        exact f_roundP (seen.push e.2.2, a) ⟨.inr ⟨hra, hd⟩, hcase a (.inr ⟨hra, hd⟩) (by omega) (fun _ => Nat.le_refl _)⟩ hm ⟨rfl, rfl, rfl, rfl, trivial⟩ (fun w h => h.tail)
      · have hf : mhas (t.id : Int) es2 = false := by
          cases h : mhas (t.id : Int) es2 with
          | false => rfl
          | true => exact absurd (hmh.1 h) hd
        have hget3 : mget (t.id : Int) (.bool false) es2 = .bool false := by rw [mget_bool hR2.val, hf]
        refine d_sy rfl (y_lookupE Tryz.tab rfl rfl rfl rfl (fun _ => rfl) (Hs.at 0 rfl) hget3) rfl rfl rfl K.cl (fun _ => hD) ?_
        refine dy rfl (y_pickT rfl rfl) hD ?_
        refine d_nil ?_
        refine f_then ?_
        refine c_condF rfl ?_
        refine c_skip ?_
        refine f_blockN ?_
        exact f_roundP (seen.push e.2.2, v) ⟨h1, hcase v h1 (Nat.le_refl _) (fun h => absurd h.2 hd)⟩ hm ⟨rfl, rfl, rfl, rfl, trivial⟩ (fun w h => h.tail)
    · refine sx ?_
      refine sa ?_
      refine snf ?_
      refine c_seq ?_
      refine c_plan [.c 0, .c 1, .c 2, .c 3, .c 4, .c 5, .c 6, .c 7, .c 8, .c 9, .c 10, .c 12, .c 13, .c 14, .c 15, .s 11, .s 16, .c 17] [] (K W ([(r, mit B c (seen.push e.2.2))] :: [(B, mobj es c)] :: N)) Tryz.mixed (by kernel_rfl) rfl K.cl ?_
      refine dy rfl (y_move rfl) (fun _ h => h) ?_
      refine dy rfl (y_move rfl) (fun _ h => h) ?_
      refine dy rfl (y_F (y_gtr rfl rfl) (by omega)) (fun _ h => h) ?_
      refine dy rfl (y_move rfl) (fun _ h => h) ?_
      refine d_skip rfl rfl rfl rfl (fun _ h => h) K.cl ?_
      refine d_skip rfl rfl rfl rfl (fun _ h => h) K.cl ?_
      refine d_skip rfl rfl rfl rfl (fun _ h => h) K.cl ?_
      refine d_skip rfl rfl rfl rfl (fun _ h => h) K.cl ?_
      refine d_skip rfl rfl rfl rfl (fun _ h => h) K.cl ?_
      refine d_skip rfl rfl rfl rfl (fun _ h => h) K.cl ?_
      refine d_skip rfl rfl rfl rfl (fun _ h => h) K.cl ?_
      refine d_skip rfl rfl rfl rfl (fun _ h => h) K.cl ?_
      refine d_skip rfl rfl rfl rfl (fun _ h => h) K.cl ?_
      refine d_skip rfl rfl rfl rfl (fun _ h => h) K.cl ?_
      refine d_skip rfl rfl rfl rfl (fun _ h => h) K.cl ?_
      refine d_sskip rfl rfl rfl rfl (fun _ _ h => h) ?_
      refine d_sskip rfl rfl rfl rfl (fun _ _ h => h) ?_
      refine dy rfl (y_pickF rfl rfl) (fun _ h => h) ?_
      refine d_nil ?_
      refine f_then ?_
      refine c_condF rfl ?_
      refine c_skip ?_
      refine f_blockN ?_
      exact f_roundP (seen.push e.2.2, v) ⟨h1, hcase v h1 (Nat.le_refl _) (fun _ => by omega)⟩ hm ⟨rfl, rfl, rfl, rfl, trivial⟩ (fun w h => h)
end Go.KL
end

section
/- Sorting places by a key, the greatest first, equal ones as they stood: orders, blocks, swaps, rotations; plain. No program in sight. -/
namespace Go.KL
def ltR (R : Nat → Nat) (x y : Nat) : Prop := R y < R x ∨ R x = R y ∧ x < y
instance (R : Nat → Nat) (x y : Nat) : Decidable (ltR R x y) := by unfold ltR; infer_instance
theorem ltR_trans {R : Nat → Nat} {x y z : Nat} (h1 : ltR R x y) (h2 : ltR R y z) : ltR R x z := by
  unfold ltR at *
  omega
theorem ltR_irr {R : Nat → Nat} {x : Nat} : ¬ ltR R x x := by
  unfold ltR
  omega
def Srt (R : Nat → Nat) (f : Nat → Nat) (s e : Nat) : Prop := ∀ i j, s ≤ i → i < j → j < e → ltR R (f i) (f j)
structure SOut (R : Nat → Nat) (f g : Nat → Nat) (a b : Nat) : Prop where
  srt : Srt R g a b
  from' : ∀ i, a ≤ i → i < b → ∃ k, a ≤ k ∧ k < b ∧ g i = f k
  same : ∀ i, i < a ∨ b ≤ i → g i = f i
structure Mrg (R : Nat → Nat) (f : Nat → Nat) (a m b : Nat) : Prop where
  left : Srt R f a m
  right : Srt R f m b
  ix : ∀ i j, a ≤ i → i < m → m ≤ j → j < b → f i < f j
theorem Mrg.key {R : Nat → Nat} {f : Nat → Nat} {a m b i j : Nat} (h : Mrg R f a m b) (h1 : a ≤ i) (h2 : i < m) (h3 : m ≤ j) (h4 : j < b) : ltR R (f j) (f i) ↔ R (f i) < R (f j) := by
  have := h.ix i j h1 h2 h3 h4
  unfold ltR
  omega
theorem Mrg.ord {R : Nat → Nat} {f : Nat → Nat} {a m b i j : Nat} (h : Mrg R f a m b) (h1 : a ≤ i) (h2 : i < m) (h3 : m ≤ j) (h4 : j < b) : ¬ ltR R (f j) (f i) ↔ ltR R (f i) (f j) := by
  have := h.ix i j h1 h2 h3 h4
  unfold ltR
  omega
def insF (f : Nat → Nat) (a i t : Nat) : Nat := if a ≤ t ∧ t < i then f (t + 1) else if t = i then f a else f t
theorem insF_zero {f : Nat → Nat} {a : Nat} : insF f a a = f := by
  funext t
  unfold insF
  rw [if_neg (by omega)]
  split
  · rename_i h; rw [h]
  · rfl
theorem insF_next {f : Nat → Nat} {a i : Nat} (h : a ≤ i) : upd (upd (insF f a i) i (insF f a i (i + 1))) (i + 1) (insF f a i i) = insF f a (i + 1) := by
  have e1 : insF f a i (i + 1) = f (i + 1) := by
    unfold insF
    rw [if_neg (by omega), if_neg (by omega)]
  have e2 : insF f a i i = f a := by
    unfold insF
    rw [if_neg (by omega), if_pos rfl]
  rw [e1, e2]
  funext t
  unfold upd insF
  (repeat' split) <;> first | rfl | (exfalso; omega) | (congr 1; omega)
def insB (f : Nat → Nat) (m i t : Nat) : Nat := if t = i then f m else if i < t ∧ t ≤ m then f (t - 1) else f t
theorem insB_zero {f : Nat → Nat} {m : Nat} : insB f m m = f := by
  funext t
  unfold insB
  split
  · rename_i h; rw [h]
  · rw [if_neg (by omega)]
theorem insB_next {f : Nat → Nat} {m i : Nat} (h0 : 0 < i) (h : i ≤ m) : upd (upd (insB f m i) i (insB f m i (i - 1))) (i - 1) (insB f m i i) = insB f m (i - 1) := by
  have e1 : insB f m i (i - 1) = f (i - 1) := by
    unfold insB
    rw [if_neg (by omega), if_neg (by omega)]
  have e2 : insB f m i i = f m := by
    unfold insB
    rw [if_pos rfl]
  rw [e1, e2]
  funext t
  unfold upd insB
  (repeat' split) <;> first | rfl | (exfalso; omega) | (congr 1; omega)
def swpF (f : Nat → Nat) (a b n t : Nat) : Nat := if a ≤ t ∧ t < a + n then f (t - a + b) else if b ≤ t ∧ t < b + n then f (t - b + a) else f t
theorem swpF_zero {f : Nat → Nat} {a b : Nat} : swpF f a b 0 = f := by
  funext t
  unfold swpF
  rw [if_neg (by omega), if_neg (by omega)]
theorem swpF_next {f : Nat → Nat} {a b i : Nat} (h : a + i < b) : upd (upd (swpF f a b i) (a + i) (swpF f a b i (b + i))) (b + i) (swpF f a b i (a + i)) = swpF f a b (i + 1) := by
  have e1 : swpF f a b i (b + i) = f (b + i) := by
    unfold swpF
    rw [if_neg (by omega), if_neg (by omega)]
  have e2 : swpF f a b i (a + i) = f (a + i) := by
    unfold swpF
    rw [if_neg (by omega), if_neg (by omega)]
  rw [e1, e2]
  funext t
  unfold upd swpF
  (repeat' split) <;> first | rfl | (exfalso; omega) | (congr 1; omega)
def rotF (f : Nat → Nat) (s m e t : Nat) : Nat := if s ≤ t ∧ t < s + (e - m) then f (t + (m - s)) else if s + (e - m) ≤ t ∧ t < e then f (t - (e - m)) else f t
theorem rotF_swp {f : Nat → Nat} {m i : Nat} (h : i ≤ m) : swpF f (m - i) m i = rotF f (m - i) m (m + i) := by
  funext t
  unfold rotF swpF
  (repeat' split) <;> first | rfl | (exfalso; omega) | (congr 1; omega)
theorem rotF_left {f : Nat → Nat} {m i j : Nat} (h : i ≤ m) (hij : j < i) : rotF (swpF f (m - i) m j) (m - (i - j)) m (m + j) = rotF f (m - i) m (m + j) := by
  funext t
  unfold rotF swpF
  (repeat' split) <;> first | rfl | (exfalso; omega) | (congr 1; omega)
theorem rotF_right {f : Nat → Nat} {m i j : Nat} (h : i ≤ m) (hij : i < j) : rotF (swpF f (m - i) (m + j - i) i) (m - i) m (m + (j - i)) = rotF f (m - i) m (m + j) := by
  funext t
  unfold rotF swpF
  (repeat' split) <;> first | rfl | (exfalso; omega) | (congr 1; omega)
end Go.KL
end

section
/- Merging and inserting by a key; plain. No program in sight. -/
namespace Go.KL
variable {R : Nat → Nat} {f g h : Nat → Nat} {a m b i j : Nat}
theorem SOut.refl (hs : Srt R f a b) : SOut R f f a b := ⟨hs, fun i h1 h2 => ⟨i, h1, h2, rfl⟩, fun _ _ => rfl⟩
theorem SOut.trans {a' b' : Nat} (h1 : SOut R f g a' b') (h2 : SOut R g h a b) (ha : a ≤ a') (hb : b' ≤ b) : SOut R f h a b := by
  refine ⟨h2.srt, fun i hi1 hi2 => ?_, fun i hi => ?_⟩
  · obtain ⟨k, k1, k2, k3⟩ := h2.from' i hi1 hi2
    by_cases hk : a' ≤ k ∧ k < b'
    · obtain ⟨l, l1, l2, l3⟩ := h1.from' k hk.1 hk.2
      exact ⟨l, by omega, by omega, by rw [k3, l3]⟩
    · exact ⟨k, k1, k2, by rw [k3, h1.same k (by omega)]⟩
  · rw [h2.same i hi, h1.same i (by omega)]
theorem mrg_right (hM : Mrg R f a m (m + 1)) (h1 : a ≤ i) (h2 : i ≤ m) (hlo : ∀ k, a ≤ k → k < i → ¬ ltR R (f m) (f k)) (hhi : ∀ k, i ≤ k → k < m → ltR R (f m) (f k)) : SOut R f (insB f m i) a (m + 1) := by
  have hlo' : ∀ k, a ≤ k → k < i → ltR R (f k) (f m) := fun k k1 k2 => (hM.ord k1 (by omega) (Nat.le_refl m) (by omega)).1 (hlo k k1 k2)
  refine ⟨fun s t hs hst ht => ?_, fun t t1 t2 => ?_, fun t ht => ?_⟩
  · have e : ∀ k, insB f m i k = if k = i then f m else if i < k ∧ k ≤ m then f (k - 1) else f k := fun _ => rfl
    rw [e, e]
    by_cases c1 : s = i
    · rw [if_pos c1, if_neg (by omega), if_pos (by omega)]
      exact hhi (t - 1) (by omega) (by omega)
    · rw [if_neg c1]
      by_cases c2 : i < s ∧ s ≤ m
      · rw [if_pos c2, if_neg (by omega), if_pos (by omega)]
        exact hM.left (s - 1) (t - 1) (by omega) (by omega) (by omega)
      · rw [if_neg c2]
        by_cases c3 : t = i
        · rw [if_pos c3]
          exact hlo' s hs (by omega)
        · rw [if_neg c3]
          by_cases c4 : i < t ∧ t ≤ m
          · rw [if_pos c4]
            by_cases c5 : s = t - 1
            · omega
            · exact hM.left s (t - 1) hs (by omega) (by omega)
          · rw [if_neg c4]
            exact hM.left s t hs hst (by omega)
  · unfold insB
    split
    · exact ⟨m, by omega, by omega, rfl⟩
    · split
      · exact ⟨t - 1, by omega, by omega, rfl⟩
      · exact ⟨t, t1, t2, rfl⟩
  · unfold insB
    rw [if_neg (by omega), if_neg (by omega)]
theorem mrg_left (hM : Mrg R f a (a + 1) b) (h1 : a + 1 ≤ i) (h2 : i ≤ b) (hlo : ∀ k, a + 1 ≤ k → k < i → ltR R (f k) (f a)) (hhi : ∀ k, i ≤ k → k < b → ¬ ltR R (f k) (f a)) : SOut R f (insF f a (i - 1)) a b := by
  have hhi' : ∀ k, i ≤ k → k < b → ltR R (f a) (f k) := fun k k1 k2 => (hM.ord (Nat.le_refl a) (by omega) (by omega) k2).1 (hhi k k1 k2)
  refine ⟨fun s t hs hst ht => ?_, fun t t1 t2 => ?_, fun t ht => ?_⟩
  · have e : ∀ k, insF f a (i - 1) k = if a ≤ k ∧ k < i - 1 then f (k + 1) else if k = i - 1 then f a else f k := fun _ => rfl
    rw [e, e]
    by_cases c1 : a ≤ s ∧ s < i - 1
    · rw [if_pos c1]
      by_cases c2 : a ≤ t ∧ t < i - 1
      · rw [if_pos c2]
        exact hM.right (s + 1) (t + 1) (by omega) (by omega) (by omega)
      · rw [if_neg c2]
        by_cases c3 : t = i - 1
        · rw [if_pos c3]
          exact hlo (s + 1) (by omega) (by omega)
        · rw [if_neg c3]
          exact hM.right (s + 1) t (by omega) (by omega) ht
    · rw [if_neg c1]
      by_cases c2 : s = i - 1
      · rw [if_pos c2, if_neg (by omega), if_neg (by omega)]
        exact hhi' t (by omega) ht
      · rw [if_neg c2, if_neg (by omega), if_neg (by omega)]
        exact hM.right s t (by omega) hst ht
  · unfold insF
    split
    · exact ⟨t + 1, by omega, by omega, rfl⟩
    · split
      · exact ⟨a, by omega, by omega, rfl⟩
      · exact ⟨t, t1, t2, rfl⟩
  · unfold insF
    rw [if_neg (by omega), if_neg (by omega)]
structure Cut2 (R : Nat → Nat) (f : Nat → Nat) (a m b s mid e : Nat) : Prop where
  as' : a ≤ s
  sm : s ≤ m
  me : m ≤ e
  eb : e ≤ b
  sum : e + s = mid + m
  low : ∀ i j, a ≤ i → i < s → e ≤ j → j < b → ltR R (f i) (f j)
  high : ∀ i j, s ≤ i → i < m → m ≤ j → j < e → ltR R (f j) (f i)
theorem rot_at {s e t : Nat} : rotF f s m e t = if s ≤ t ∧ t < s + (e - m) then f (t + (m - s)) else if s + (e - m) ≤ t ∧ t < e then f (t - (e - m)) else f t := rfl
theorem Cut2.at {s mid e : Nat} (hC : Cut2 R f a m b s mid e) (t : Nat) : (t < s → rotF f s m e t = f t) ∧ (s ≤ t → t < mid → rotF f s m e t = f (t + (m - s)) ∧ m ≤ t + (m - s) ∧ t + (m - s) < e) ∧ (mid ≤ t → t < e → rotF f s m e t = f (t - (e - m)) ∧ s ≤ t - (e - m) ∧ t - (e - m) < m) ∧ (e ≤ t → rotF f s m e t = f t) := by
  have h1 := hC.sm
  have h2 := hC.me
  have h3 := hC.sum
  refine ⟨fun h => ?_, fun h4 h5 => ⟨?_, by omega, by omega⟩, fun h4 h5 => ⟨?_, by omega, by omega⟩, fun h => ?_⟩
  · rw [rot_at, if_neg (by omega), if_neg (by omega)]
  · rw [rot_at, if_pos (by omega)]
  · rw [rot_at, if_neg (by omega), if_pos (by omega)]
  · rw [rot_at, if_neg (by omega), if_neg (by omega)]
theorem mrg_cut {s mid e : Nat} (hM : Mrg R f a m b) (hC : Cut2 R f a m b s mid e) :
    Mrg R (rotF f s m e) a s mid ∧ Mrg R (rotF f s m e) mid e b ∧ ∀ i j, a ≤ i → i < mid → mid ≤ j → j < b → ltR R (rotF f s m e i) (rotF f s m e j) := by
  have q1 := hC.as'
  have q2 := hC.sm
  have q3 := hC.me
  have q4 := hC.eb
  have q5 := hC.sum
  refine ⟨⟨fun i j h1 h2 h3 => ?_, fun i j h1 h2 h3 => ?_, fun i j h1 h2 h3 h4 => ?_⟩, ⟨fun i j h1 h2 h3 => ?_, fun i j h1 h2 h3 => ?_, fun i j h1 h2 h3 h4 => ?_⟩, fun i j h1 h2 h3 h4 => ?_⟩
  · rw [(hC.at i).1 (by omega), (hC.at j).1 (by omega)]
    exact hM.left i j h1 h2 (by omega)
  · obtain ⟨e1, e2, e3⟩ := (hC.at i).2.1 h1 (by omega)
    obtain ⟨f1, f2, f3⟩ := (hC.at j).2.1 (by omega) h3
    rw [e1, f1]
    exact hM.right _ _ e2 (by omega) (by omega)
  · obtain ⟨f1, f2, f3⟩ := (hC.at j).2.1 h3 h4
    rw [(hC.at i).1 (by omega), f1]
    exact hM.ix _ _ h1 (by omega) f2 (by omega)
  · obtain ⟨e1, e2, e3⟩ := (hC.at i).2.2.1 h1 (by omega)
    obtain ⟨f1, f2, f3⟩ := (hC.at j).2.2.1 (by omega) h3
    rw [e1, f1]
    exact hM.left _ _ (by omega) (by omega) f3
  · rw [(hC.at i).2.2.2 h1, (hC.at j).2.2.2 (by omega)]
    exact hM.right _ _ (by omega) h2 h3
  · obtain ⟨e1, e2, e3⟩ := (hC.at i).2.2.1 h1 (by omega)
    rw [e1, (hC.at j).2.2.2 h3]
    exact hM.ix _ _ (by omega) e3 (by omega) h4
  · by_cases c1 : i < s
    · rw [(hC.at i).1 c1]
      by_cases c2 : j < e
      · obtain ⟨f1, f2, f3⟩ := (hC.at j).2.2.1 h3 c2
        rw [f1]
        exact hM.left _ _ h1 (by omega) f3
      · rw [(hC.at j).2.2.2 (by omega)]
        exact hC.low _ _ h1 c1 (by omega) h4
    · obtain ⟨e1, e2, e3⟩ := (hC.at i).2.1 (by omega) h2
      rw [e1]
      by_cases c2 : j < e
      · obtain ⟨f1, f2, f3⟩ := (hC.at j).2.2.1 h3 c2
        rw [f1]
        exact hC.high _ _ f2 f3 e2 e3
      · rw [(hC.at j).2.2.2 (by omega)]
        exact hM.right _ _ e2 (by omega) h4
theorem mrg_join {s mid e : Nat} {g1 g2 : Nat → Nat} (hM : Mrg R f a m b) (hC : Cut2 R f a m b s mid e) (ham : a ≤ mid) (hmb : mid ≤ b) (h1 : SOut R (rotF f s m e) g1 a mid) (h2 : SOut R g1 g2 mid b) : SOut R f g2 a b := by
  have hx := (mrg_cut hM hC).2.2
  have q1 := hC.as'
  have q2 := hC.sm
  have q3 := hC.me
  have q4 := hC.eb
  have q5 := hC.sum
  have hlo : ∀ i, a ≤ i → i < mid → ∃ k, a ≤ k ∧ k < mid ∧ g2 i = rotF f s m e k := fun i i1 i2 => by
    rw [h2.same i (.inl i2)]
    exact h1.from' i i1 i2
  have hhi : ∀ i, mid ≤ i → i < b → ∃ k, mid ≤ k ∧ k < b ∧ g2 i = rotF f s m e k := fun i i1 i2 => by
    obtain ⟨k, k1, k2, k3⟩ := h2.from' i i1 i2
    exact ⟨k, k1, k2, by rw [k3, h1.same k (.inr k1)]⟩
  refine ⟨fun i j i1 i2 i3 => ?_, fun i i1 i2 => ?_, fun i hi => ?_⟩
  · by_cases c1 : j < mid
    · rw [h2.same i (.inl (by omega)), h2.same j (.inl c1)]
      exact h1.srt i j i1 i2 c1
    · by_cases c2 : i < mid
      · obtain ⟨k, k1, k2, k3⟩ := hlo i i1 c2
        obtain ⟨l, l1, l2, l3⟩ := hhi j (by omega) i3
        rw [k3, l3]
        exact hx k l k1 k2 l1 l2
      · exact h2.srt i j (by omega) i2 i3
  · have key : ∃ k, a ≤ k ∧ k < b ∧ g2 i = rotF f s m e k := by
      by_cases c : i < mid
      · obtain ⟨k, k1, k2, k3⟩ := hlo i i1 c
        exact ⟨k, k1, by omega, k3⟩
      · obtain ⟨k, k1, k2, k3⟩ := hhi i (by omega) i2
        exact ⟨k, by omega, k2, k3⟩
    obtain ⟨k, k1, k2, k3⟩ := key
    rw [k3, rot_at]
    split
    · exact ⟨k + (m - s), by omega, by omega, rfl⟩
    · split
      · exact ⟨k - (e - m), by omega, by omega, rfl⟩
      · exact ⟨k, k1, k2, rfl⟩
  · rw [h2.same i (by omega), h1.same i (by omega), rot_at, if_neg (by omega), if_neg (by omega)]
theorem cut_found {s mid s0 r0 : Nat} (hM : Mrg R f a m b) (ha : a ≤ s0) (hs : s0 ≤ s) (hr : s ≤ r0) (hrm : r0 ≤ m) (hb : mid + m ≤ b + s) (hm : m ≤ mid + m - s) (hsn : s ≤ mid + m) (h0 : s0 = a ∨ mid + m = b + s0) (h1 : r0 = m ∨ r0 = mid) (hlo : s0 < s → ltR R (f (s - 1)) (f (mid + m - s))) (hhi : s < r0 → ltR R (f (mid + m - 1 - s)) (f s)) : Cut2 R f a m b s mid (mid + m - s) := by
  refine ⟨by omega, by omega, hm, by omega, by omega, fun i j i1 i2 j1 j2 => ?_, fun i j i1 i2 j1 j2 => ?_⟩
  · have h3 : s0 < s := by omega
    have h4 := hlo h3
    have h5 : ltR R (f i) (f (mid + m - s)) := by
      by_cases c : i = s - 1
      · rw [c]; exact h4
      · exact ltR_trans (hM.left i (s - 1) i1 (by omega) (by omega)) h4
    by_cases c : j = mid + m - s
    · rw [c]; exact h5
    · exact ltR_trans h5 (hM.right _ j hm (by omega) j2)
  · have h3 : s < r0 := by omega
    have h4 := hhi h3
    have h5 : ltR R (f j) (f s) := by
      by_cases c : j = mid + m - 1 - s
      · rw [c]; exact h4
      · exact ltR_trans (hM.right j _ j1 (by omega) (by omega)) h4
    by_cases c : i = s
    · rw [c]; exact h5
    · exact ltR_trans h5 (hM.left s i (by omega) (by omega) i2)
end Go.KL
end

section
/- Blocks that are in order, and their merging two by two; plain. No program in sight. -/
namespace Go.KL
variable {R : Nat → Nat} {f g : Nat → Nat} {a m b n s e : Nat}
structure Blk (R : Nat → Nat) (g : Nat → Nat) (s e : Nat) : Prop where
  rng : ∀ i, s ≤ i → i < e → s ≤ g i ∧ g i < e
  srt : Srt R g s e
theorem Blk.keep (h : Blk R f s e) (hO : SOut R f g a b) (hd : e ≤ a ∨ b ≤ s) : Blk R g s e := by
  refine ⟨fun i h1 h2 => ?_, fun i j h1 h2 h3 => ?_⟩
  · rw [hO.same i (by omega)]
    exact h.rng i h1 h2
  · rw [hO.same i (by omega), hO.same j (by omega)]
    exact h.srt i j h1 h2 h3
theorem Blk.mrg (h1 : Blk R f a m) (h2 : Blk R f m b) : Mrg R f a m b := ⟨h1.srt, h2.srt, fun i j i1 i2 j1 j2 => by
  have := h1.rng i i1 i2
  have := h2.rng j j1 j2
  omega⟩
theorem Blk.join (h1 : Blk R f a m) (h2 : Blk R f m b) (ham : a ≤ m) (hmb : m ≤ b) (hO : SOut R f g a b) : Blk R g a b := by
  refine ⟨fun i i1 i2 => ?_, hO.srt⟩
  obtain ⟨k, k1, k2, k3⟩ := hO.from' i i1 i2
  rw [k3]
  by_cases c : k < m
  · have := h1.rng k k1 c
    omega
  · have := h2.rng k (by omega) k2
    omega
theorem Blk.ids (hid : ∀ i, a ≤ i → i < b → f i = i) (hO : SOut R f g a b) : Blk R g a b := by
  refine ⟨fun i i1 i2 => ?_, hO.srt⟩
  obtain ⟨k, k1, k2, k3⟩ := hO.from' i i1 i2
  rw [k3, hid k k1 k2]
  exact ⟨k1, k2⟩
theorem Blk.empty (h : e ≤ s) : Blk R g s e := ⟨fun i h1 h2 => by omega, fun i j h1 h2 h3 => by omega⟩
def BS (R g : Nat → Nat) (bs n : Nat) : Prop := ∀ s, s % bs = 0 → s < n → Blk R g s (min (s + bs) n)
def Ph1 (R g : Nat → Nat) (a : Nat) : Prop := a % 20 = 0 ∧ (∀ s, s % 20 = 0 → s + 20 ≤ a → Blk R g s (s + 20)) ∧ ∀ i, a ≤ i → g i = i
theorem Ph1.next (h : Ph1 R f a) (hO : SOut R f g a (a + 20)) : Ph1 R g (a + 20) := by
  obtain ⟨h1, h2, h3⟩ := h
  refine ⟨by omega, fun s s1 s2 => ?_, fun i hi => ?_⟩
  · by_cases c : s = a
    · subst c
      exact Blk.ids (fun i i1 _ => h3 i i1) hO
    · exact (h2 s s1 (by omega)).keep hO (by omega)
  · rw [hO.same i (by omega)]
    exact h3 i (by omega)
theorem Ph1.done (h : Ph1 R f a) (han : a ≤ n) (hn : n < a + 20) (hO : SOut R f g a n) : BS R g 20 n := by
  obtain ⟨h1, h2, h3⟩ := h
  intro s s1 s2
  by_cases c : s = a
  · subst c
    rw [show min (s + 20) n = n by omega]
    exact Blk.ids (fun i i1 _ => h3 i i1) hO
  · rw [show min (s + 20) n = s + 20 by omega]
    exact (h2 s s1 (by omega)).keep hO (by omega)
def Ph2 (R g : Nat → Nat) (bs n a : Nat) : Prop := a % (2 * bs) = 0 ∧ (∀ s, s % (2 * bs) = 0 → s + 2 * bs ≤ a → Blk R g s (s + 2 * bs)) ∧ ∀ s, s % bs = 0 → a ≤ s → s < n → Blk R g s (min (s + bs) n)
theorem Ph2.start {bs : Nat} (h : BS R g bs n) (hb : bs = 20 ∨ bs = 40) : Ph2 R g bs n 0 := by
  refine ⟨Nat.zero_mod _, fun s s1 s2 => ?_, fun s s1 _ s3 => h s s1 s3⟩
  rcases hb with rfl | rfl <;> omega
theorem Ph2.two {bs : Nat} (h : Ph2 R f bs n a) (hb : bs = 20 ∨ bs = 40) (hab : a + bs < n) : Blk R f a (a + bs) ∧ Blk R f (a + bs) (min (a + 2 * bs) n) := by
  obtain ⟨h1, h2, h3⟩ := h
  have k1 := h3 a (by rcases hb with rfl | rfl <;> omega) (Nat.le_refl _) (by omega)
  have k2 := h3 (a + bs) (by rcases hb with rfl | rfl <;> omega) (by omega) hab
  rw [show min (a + bs) n = a + bs by omega] at k1
  rw [show a + bs + bs = a + 2 * bs by omega] at k2
  exact ⟨k1, k2⟩
theorem Ph2.next {bs : Nat} (h : Ph2 R f bs n a) (hb : bs = 20 ∨ bs = 40) (hab : a + 2 * bs ≤ n) (hO : SOut R f g a (a + 2 * bs)) : Ph2 R g bs n (a + 2 * bs) := by
  have hp : 0 < bs := by omega
  obtain ⟨k1, k2⟩ := h.two hb (by omega)
  rw [show min (a + 2 * bs) n = a + 2 * bs by omega] at k2
  obtain ⟨h1, h2, h3⟩ := h
  refine ⟨by rcases hb with rfl | rfl <;> omega, fun s s1 s2 => ?_, fun s s1 s2 s3 => ?_⟩
  · by_cases c : s = a
    · subst c
      exact k1.join k2 (by omega) (by omega) hO
    · exact (h2 s s1 (by rcases hb with rfl | rfl <;> omega)).keep hO (by rcases hb with rfl | rfl <;> omega)
  · exact (h3 s s1 (by omega) s3).keep hO (by omega)
theorem Ph2.last {bs : Nat} (h : Ph2 R f bs n a) (hb : bs = 20 ∨ bs = 40) (han : a + bs < n) (hn : n < a + 2 * bs) (hO : SOut R f g a n) : BS R g (2 * bs) n := by
  obtain ⟨k1, k2⟩ := h.two hb han
  rw [show min (a + 2 * bs) n = n by omega] at k2
  obtain ⟨h1, h2, h3⟩ := h
  intro s s1 s2
  by_cases c : s = a
  · subst c
    rw [show min (s + 2 * bs) n = n by omega]
    exact k1.join k2 (by omega) (by omega) hO
  · rw [show min (s + 2 * bs) n = s + 2 * bs by rcases hb with rfl | rfl <;> omega]
    exact (h2 s s1 (by rcases hb with rfl | rfl <;> omega)).keep hO (by rcases hb with rfl | rfl <;> omega)
theorem Ph2.over {bs : Nat} (h : Ph2 R g bs n a) (hb : bs = 20 ∨ bs = 40) (ha : a ≤ n) (han : n ≤ a + bs) : BS R g (2 * bs) n := by
  obtain ⟨h1, h2, h3⟩ := h
  intro s s1 s2
  by_cases c : s = a
  · subst c
    have k := h3 s (by rcases hb with rfl | rfl <;> omega) (Nat.le_refl _) s2
    rw [show min (s + bs) n = n by omega] at k
    rw [show min (s + 2 * bs) n = n by omega]
    exact k
  · rw [show min (s + 2 * bs) n = s + 2 * bs by rcases hb with rfl | rfl <;> omega]
    exact h2 s s1 (by rcases hb with rfl | rfl <;> omega)
theorem BS.whole {bs : Nat} (h : BS R g bs n) (hb : n ≤ bs) : Blk R g 0 n := by
  by_cases c : n = 0
  · exact Blk.empty (by omega)
  · have k := h 0 (Nat.zero_mod _) (by omega)
    rwa [show min (0 + bs) n = n by omega] at k
end Go.KL
end

section
/- Rows of locks by their places; cmp.Compare; the closure that holds sorts by. -/
namespace Go.KL
open Go.Proofs
def lrow (bo : Nat) (Lf : Nat → Lk) (n : Nat) (rest : List Value) (f : Nat → Nat) : Chunk := [(bo, recs 111 4 n (fun i j => (lkc (Lf (f i))).getD j undef) rest)]
section
variable {P : Program} {W : World} {Ls : List Chunk} {n : Nat} {σ : Slots} {dst : Option Tmp} {ty : TypeId} {pos : String} {after : Array Edge} {guard : Option (Nat × Bool)} {Lf : Nat → Lk} {rest : List Value} {f : Nat → Nat} {bo m : Nat}
theorem cells_lrow (i : Nat) {k : Nat} (hi : Ls.getD i [] = lrow bo Lf m rest f) (hk : k < m) : CellsAre (K W Ls) ⟨bo, k * 4, none⟩ (lkc (Lf (f k))) := cells_recs (W := W) (c := []) i hi hk
theorem set_lrow (T : Tab P) (i : Nat) {x y : Operand} {t : TypeId} {k : Nat} (z : Nat) (hx : ev σ x = some (.pointer (some ⟨bo, k * 4, none⟩))) (hy : ev σ y = some (.agg (lkc (Lf z)).toArray))
    (hs : T.size t = some 4) (hi : Ls.getD i [] = lrow bo Lf m rest f) (hk : k < m) :
    Sets P n σ (K W Ls) ⟨dst, .store t x y, ty, pos, after, guard⟩ (K W (Ls.set i (lrow bo Lf m rest (upd f k z)))) := by
  have h := set_recsA (W := W) (n := n) (dst := dst) (ty := ty) (pos := pos) (after := after) (guard := guard) T i hx hy rfl hs rfl hi hk
  have e : lrow bo Lf m rest (upd f k z) = [(bo, recs 111 4 m (updR (fun i j => (lkc (Lf (f i))).getD j undef) k (lkc (Lf z))) rest)] := by
    unfold lrow
    rw [recs_congr fun a _ j _ => ?_]
    unfold updR upd
    split <;> rfl
  rw [e]
  exact h
end
def cmp3 (x y : Nat) : Int := if x < y then -1 else if y < x then 1 else 0
theorem cmp3_neg {x y : Nat} : cmp3 x y < 0 ↔ x < y := by
  unfold cmp3
  split
  · omega
  · split <;> omega
def CmpL (Lf : Nat → Lk) (n : Nat) (R : Nat → Nat) : Prop := ∀ (x y : Nat), x < n → y < n → ∀ {W : World} {Ls : List Chunk}, Spec Tryz.prog 123 #[.agg (lkc (Lf x)).toArray, .agg (lkc (Lf y)).toArray] (K W Ls) (fun _ : Unit => .int .i64 (cmp3 (R y) (R x))) (fun _ => K W Ls)
attribute [local irreducible] SC St Fin Sq Ylds Doos Sets Enters Spec CellIs CellsAre Then Ret Rnd Chn resOK ints bools recs arr
set_option maxRecDepth 10000 in
theorem isNaN_spec {C : World → Prop} {x : Nat} : Spec Tryz.prog 136 #[.int .i64 (x : Int)] C (fun _ : Unit => .bool false) (fun _ => C) := by
  refine enter (args := [_]) Tryz.func136 rfl Tryz.ntmps136 rfl ?_
  refine csr ?_
  refine sa ?_
  refine snf ?_
  refine csr ?_
  refine sm ?_
  refine sm ?_
  refine sy (y_F (y_neq rfl rfl) (by omega)) ?_
  refine sa ?_
  refine snf ?_
  refine c_ret ?_
  exact f_ret () (res1 rfl rfl) (fun w h => h)
set_option maxRecDepth 10000 in
theorem compare_spec {C : World → Prop} {x y : Nat} : Spec Tryz.prog 124 #[.int .i64 (x : Int), .int .i64 (y : Int)] C (fun _ : Unit => .int .i64 (cmp3 x y)) (fun _ => C) := by
  refine enter (args := [_, _]) Tryz.func124 rfl Tryz.ntmps124 rfl ?_
  refine csr ?_
  refine sa ?_
  refine snf ?_
  refine csr ?_
  refine sm ?_
  refine sk Tryz.call136 isNaN_spec fun _ => ?_
  refine sa ?_
  refine snf ?_
  refine csr ?_
  refine sm ?_
  refine sk Tryz.call136 isNaN_spec fun _ => ?_
  unfold cmp3
  by_cases h1 : x < y
  · rw [if_pos h1]
    refine sa ?_
    refine snf ?_
    refine c_seq ?_
    refine csr ?_
    refine sm ?_
    refine snf ?_
    refine c_condF rfl ?_
    refine c_skip ?_
    refine f_then ?_
    refine c_seq ?_
    refine csr ?_
    refine sm ?_
    refine snf ?_
    refine c_condF rfl ?_
    refine c_skip ?_
    refine f_then ?_
    refine c_seq ?_
    refine csr ?_
    refine sm ?_
    refine sm ?_
    refine sy (y_T (y_lss rfl rfl) (by omega)) ?_
    refine snf ?_
    refine c_condT rfl ?_
    refine csr ?_
    refine sa ?_
    refine snf ?_
    refine c_ret ?_
    refine f_thenR ?_
    exact f_ret () (res1 rfl rfl) (fun w h => h)
  · rw [if_neg h1]
    by_cases h2 : y < x
    · rw [if_pos h2]
      refine sa ?_
      refine snf ?_
      refine c_seq ?_
      refine csr ?_
      refine sm ?_
      refine snf ?_
      refine c_condF rfl ?_
      refine c_skip ?_
      refine f_then ?_
      refine c_seq ?_
      refine csr ?_
      refine sm ?_
      refine snf ?_
      refine c_condF rfl ?_
      refine c_skip ?_
      refine f_then ?_
      refine c_seq ?_
      refine csr ?_
      refine sm ?_
      refine sm ?_
      refine sy (y_F (y_lss rfl rfl) (by omega)) ?_
      refine snf ?_
      refine c_condF rfl ?_
      refine c_skip ?_
      refine f_then ?_
      refine c_seq ?_
      refine csr ?_
      refine sm ?_
      refine sm ?_
      refine sy (y_T (y_gtr rfl rfl) (by omega)) ?_
      refine snf ?_
      refine c_condT rfl ?_
      refine csr ?_
      refine sa ?_
      refine snf ?_
      refine c_ret ?_
      refine f_thenR ?_
      exact f_ret () (res1 rfl rfl) (fun w h => h)
    · rw [if_neg h2]
      refine sa ?_
      refine snf ?_
      refine c_seq ?_
      refine csr ?_
      refine sm ?_
      refine snf ?_
      refine c_condF rfl ?_
      refine c_skip ?_
      refine f_then ?_
      refine c_seq ?_
      refine csr ?_
      refine sm ?_
      refine snf ?_
      refine c_condF rfl ?_
      refine c_skip ?_
      refine f_then ?_
      refine c_seq ?_
      refine csr ?_
      refine sm ?_
      refine sm ?_
      refine sy (y_F (y_lss rfl rfl) (by omega)) ?_
      refine snf ?_
      refine c_condF rfl ?_
      refine c_skip ?_
      refine f_then ?_
      refine c_seq ?_
      refine csr ?_
      refine sm ?_
      refine sm ?_
      refine sy (y_F (y_gtr rfl rfl) (by omega)) ?_
      refine snf ?_
      refine c_condF rfl ?_
      refine c_skip ?_
      refine f_then ?_
      refine csr ?_
      refine sa ?_
      refine snf ?_
      refine c_ret ?_
      exact f_ret () (res1 rfl rfl) (fun w h => h)
theorem cmp3_sub {M x y : Nat} (hx : x ≤ M) (hy : y ≤ M) : cmp3 (M - y) (M - x) = cmp3 x y := by
  unfold cmp3
  by_cases h1 : x < y
  · rw [if_pos h1, if_pos (by omega)]
  · rw [if_neg h1, if_neg (show ¬ M - y < M - x by omega)]
    by_cases h2 : y < x
    · rw [if_pos h2, if_pos (by omega)]
    · rw [if_neg h2, if_neg (by omega)]
set_option maxRecDepth 10000 in
theorem less_spec {Lf : Nat → Lk} {n M : Nat} (hM : ∀ x, x < n → (Lf x).lo ≤ M) : CmpL Lf n (fun x => M - (Lf x).lo) := by
  intro x y hx hy W Ls
  rw [cmp3_sub (hM x hx) (hM y hy)]
  refine enter (args := [_, _]) Tryz.func123 rfl Tryz.ntmps123 rfl ?_
  refine csr ?_
  refine sbx fun b2 => ?_
  refine sbx fun b3 => ?_
  refine sa ?_
  refine snf ?_
  refine csr ?_
  refine sf 1 ?_
  refine slr 1 ?_
  refine sf 1 ?_
  refine slr 0 ?_
  refine sk Tryz.call124 compare_spec fun _ => ?_
  refine sa ?_
  refine snf ?_
  refine c_ret ?_
  exact f_ret () (res1 rfl rfl) (fun w h => h.tail.tail)
end Go.KL
end

section
/- Walks: swapRange, rotate. -/
namespace Go.KL
open Go.Proofs
attribute [local irreducible] SC St Fin Sq Ylds Doos Sets Enters Spec CellIs CellsAre Then Ret Rnd Chn resOK ints bools recs arr
set_option maxRecDepth 10000 in
set_option maxHeartbeats 4000000 in
theorem swapRange_spec {W : World} {N : List Chunk} {Lf : Nat → Lk} {rest : List Value} {cp : Nat} {bo m a b k : Nat} {f : Nat → Nat} {cv : Value} (h1 : a + k ≤ b) (h2 : b + k ≤ m) (hm : m ≤ 4096) : Spec Tryz.prog 162 #[.slice (some ⟨bo, 0, none⟩) m cp, .int .i64 (a : Int), .int .i64 (b : Int), .int .i64 (k : Int), cv] (K W (lrow bo Lf m rest (f) :: N)) (fun _ : Unit => .tuple #[]) (fun _ => K W (lrow bo Lf m rest (swpF f a b k) :: N)) := by
  refine enter (args := [_, _, _, _, _]) Tryz.func162 rfl Tryz.ntmps162 rfl ?_
  refine csr ?_
  refine sa ?_
  refine snf ?_
  refine c_block ?_
  refine c_loopP (α := Nat) (fun z => [(0, .slice (some ⟨bo, 0, none⟩) m cp), (1, .int .i64 (a : Int)), (2, .int .i64 (b : Int)), (3, .int .i64 (k : Int)), (10, .int .i64 (z : Int))]) (fun z => z ≤ k) (fun z => K W (lrow bo Lf m rest (swpF f a b z) :: N)) (fun z => k - z) 0
    ⟨rfl, rfl, rfl, rfl, rfl, trivial⟩ (Nat.zero_le _) (fun w h => by rw [swpF_zero]; exact h) ?_
  intro i hi
  by_cases hlt : i < k
  · have ea : (a : Int) + (i : Int) = ((a + i : Nat) : Int) := by omega
    have eb : (b : Int) + (i : Int) = ((b + i : Nat) : Int) := by omega
    have hnx := swpF_next (f := f) (a := a) (b := b) (i := i) (by omega)
    refine c_seq ?_
    refine csr ?_
    refine sm ?_
    refine sm ?_
    refine sy (y_T (y_lss rfl rfl) (by omega)) ?_
    refine snf ?_
    refine c_condT rfl ?_
    refine c_skip ?_
    refine f_then ?_
    refine c_seq ?_
    refine c_block ?_
    refine c_planMs [4, 5, 6, 7] [.c 0, .c 1, .c 2, .c 3, .c 8, .c 9, .c 10, .c 11, .c 12, .c 13, .c 14, .c 15, .c 16, .c 17, .c 18, .c 19, .c 20, .s 21, .s 22, .s 23] [4, 5, 6, 7, 21, 22, 23] (K W (lrow bo Lf m rest (swpF f a b i) :: N)) Tryz.mixed (by kernel_rfl) rfl K.cl ?_
    refine m_cons rfl (Qui.ylds (y_move rfl)) rfl rfl rfl K.cl ?_
    refine m_cons rfl (Qui.ylds (y_move rfl)) rfl rfl rfl K.cl ?_
    refine m_cons rfl (Qui.ylds (y_move rfl)) rfl rfl rfl K.cl ?_
    refine m_cons rfl (Qui.ylds (y_add rfl rfl (by omega))) rfl rfl rfl K.cl ?_
    refine m_nil ?_
    refine dy rfl (y_move rfl) (fun _ h => h) ?_
    refine dy rfl (y_move rfl) (fun _ h => h) ?_
    refine dy rfl (y_move rfl) (fun _ h => h) ?_
    refine dy rfl (y_add rfl rfl (by omega)) (fun _ h => h) ?_
    refine dy rfl (y_move rfl) (fun _ h => h) ?_
    refine dy rfl (y_move rfl) (fun _ h => h) ?_
    refine dy rfl (y_move rfl) (fun _ h => h) ?_
    refine dy rfl (y_add rfl rfl (by omega)) (fun _ h => h) ?_
    refine dy rfl (y_indexAddr0 (s := 4) Tryz.tab rfl rfl rfl rfl _ rfl (by omega)) (fun _ h => h) ?_
    refine dy rfl (y_loadA Tryz.tab rfl rfl rfl rfl (cells_lrow 0 rfl (by omega))) (fun _ h => h) ?_
    refine dy rfl (y_move rfl) (fun _ h => h) ?_
    refine dy rfl (y_move rfl) (fun _ h => h) ?_
    refine dy rfl (y_move rfl) (fun _ h => h) ?_
    refine dy rfl (y_add rfl rfl (by omega)) (fun _ h => h) ?_
    refine dy rfl (y_indexAddr0 (s := 4) Tryz.tab rfl rfl rfl rfl _ rfl (by omega)) (fun _ h => h) ?_
    refine dy rfl (y_loadA Tryz.tab rfl rfl rfl rfl (cells_lrow 0 rfl (by omega))) (fun _ h => h) ?_
    refine dy rfl (y_indexAddr0 (s := 4) Tryz.tab rfl rfl rfl rfl _ rfl (by omega)) (fun _ h => h) ?_
    refine d_set rfl (set_lrow Tryz.tab 0 _ rfl rfl rfl rfl (by omega)) rfl rfl K.cl (fun h => by cases h) ?_
    refine d_sy rfl (y_indexAddr0 (s := 4) Tryz.tab rfl rfl rfl rfl _ rfl (by omega)) rfl rfl rfl K.cl (fun h => by cases h) ?_
    refine d_set rfl (set_lrow Tryz.tab 0 _ rfl rfl rfl rfl (by omega)) rfl rfl K.cl (fun h => by cases h) ?_
    refine d_nil ?_
    refine f_blockN ?_
    refine f_then ?_
    refine c_region ?_
    refine sm ?_
    refine sy (y_add rfl rfl (by omega)) ?_
    refine sa ?_
    refine s_nil ?_
    exact f_roundP (i + 1) hlt (by omega) ⟨rfl, rfl, rfl, rfl, rfl, trivial⟩ (fun w h => by rw [← hnx]; exact h)
  · obtain rfl : i = k := by omega
    refine c_seq ?_
    refine csr ?_
    refine sm ?_
    refine sm ?_
    refine sy (y_F (y_lss rfl rfl) (by omega)) ?_
    refine snf ?_
    refine c_condF rfl ?_
    refine c_exit ?_
    refine f_thenE ?_
    refine f_rndE ?_
    refine f_blockE ?_
    exact f_end () (res0 rfl) (fun w h => h)
set_option maxRecDepth 10000 in
set_option maxHeartbeats 4000000 in
theorem rotate_spec {W : World} {N : List Chunk} {Lf : Nat → Lk} {rest : List Value} {cp : Nat} {bo n a m b : Nat} {f : Nat → Nat} {cv : Value} (h1 : a < m) (h2 : m < b) (h3 : b ≤ n) (hn : n ≤ 4096) : Spec Tryz.prog 150 #[.slice (some ⟨bo, 0, none⟩) n cp, .int .i64 (a : Int), .int .i64 (m : Int), .int .i64 (b : Int), cv] (K W (lrow bo Lf n rest (f) :: N)) (fun _ : Unit => .tuple #[]) (fun _ => K W (lrow bo Lf n rest (rotF f a m b) :: N)) := by
  refine enter (args := [_, _, _, _, _]) Tryz.func150 rfl Tryz.ntmps150 rfl ?_
  have e1 : (m : Int) - (a : Int) = ((m - a : Nat) : Int) := by omega
  have e2 : (b : Int) - (m : Int) = ((b - m : Nat) : Int) := by omega
  refine csr ?_
  refine sm ?_
  refine sm ?_
  refine sy (y_sub rfl rfl (by omega)) ?_
  refine sa ?_
  refine snf ?_
  refine csr ?_
  refine sm ?_
  refine sm ?_
  refine sy (y_sub rfl rfl (by omega)) ?_
  refine sa ?_
  refine snf ?_
  refine c_seq ?_
  refine c_block ?_
  rw [e1, e2]
  refine c_loopP (α := Nat × Nat × (Nat → Nat)) (fun z => [(0, .slice (some ⟨bo, 0, none⟩) n cp), (2, .int .i64 (m : Int)), (4, cv), (10, .int .i64 (z.1 : Int)), (11, .int .i64 (z.2.1 : Int))]) (fun z => 0 < z.1 ∧ 0 < z.2.1 ∧ z.1 ≤ m ∧ m + z.2.1 ≤ n ∧ rotF z.2.2 (m - z.1) m (m + z.2.1) = rotF f a m b) (fun z => K W (lrow bo Lf n rest (z.2.2) :: N)) (fun z => z.1 + z.2.1) (m - a, b - m, f)
    ⟨rfl, rfl, rfl, rfl, rfl, trivial⟩ ⟨by dsimp only; omega, by dsimp only; omega, by dsimp only; omega, by dsimp only; omega, by dsimp only; rw [show m - (m - a) = a by omega, show m + (b - m) = b by omega]⟩ (fun w h => h) ?_
  rintro ⟨i, j, g⟩ ⟨hi, hj, him, hjn, hg⟩
  dsimp only at hi hj him hjn hg ⊢
  have e3 : (m : Int) - (i : Int) = ((m - i : Nat) : Int) := by omega
  have e4 : (m : Int) + (j : Int) = ((m + j : Nat) : Int) := by omega
  by_cases hij : i = j
  · subst hij
    rw [← rotF_swp him] at hg
    rw [← hg]
    refine c_seq ?_
    refine csr ?_
    refine sm ?_
    refine sm ?_
    refine sy (y_F (y_neq rfl rfl) (by omega)) ?_
    refine snf ?_
    refine c_condF rfl ?_
    refine c_exit ?_
    refine f_thenE ?_
    refine f_rndE ?_
    refine f_blockE ?_
    refine f_then ?_
    refine c_region ?_
    refine sm ?_
    refine sm ?_
    refine sm ?_
    refine sy (y_sub rfl rfl (by omega)) ?_
    refine sm ?_
    refine sm ?_
    refine sm ?_
    rw [e3]
    refine s_call (en_f rfl Tryz.call162) (swapRange_spec (a := m - i) (b := m) (k := i) (by omega) (by omega) hn) rfl rfl rfl (fun _ => ?_)
    refine s_nil ?_
    exact f_end () (res0 rfl) (fun w h => h)
  by_cases hlt : j < i
  · rw [← rotF_left him hlt] at hg
    refine c_seq ?_
    refine csr ?_
    refine sm ?_
    refine sm ?_
    refine sy (y_T (y_neq rfl rfl) (by omega)) ?_
    refine snf ?_
    refine c_condT rfl ?_
    refine c_skip ?_
    refine f_then ?_
    refine c_block ?_
    refine csr ?_
    refine sm ?_
    refine sm ?_
    refine sy (y_T (y_gtr rfl rfl) (by omega)) ?_
    refine snf ?_
    refine c_condT rfl ?_
    refine csr ?_
    refine sm ?_
    refine sm ?_
    refine sm ?_
    refine sy (y_sub rfl rfl (by omega)) ?_
    refine sm ?_
    refine sm ?_
    refine sm ?_
    rw [e3]
    refine s_call (en_f rfl Tryz.call162) (swapRange_spec (a := m - i) (b := m) (k := j) (by omega) (by omega) hn) rfl rfl rfl (fun _ => ?_)
    refine snf ?_
    refine c_region ?_
    refine sm ?_
    refine sm ?_
    refine sy (y_sub rfl rfl (by omega)) ?_
    refine sa ?_
    refine s_nil ?_
    refine f_blockN ?_
    exact f_roundP (i - j, j, swpF g (m - i) m j) ⟨by dsimp only; omega, hj, by dsimp only; omega, hjn, hg⟩ (by dsimp only; omega) ⟨rfl, rfl, rfl, congrArg (fun z => some (Value.int .i64 z)) (by dsimp only; omega), rfl, trivial⟩ (fun w h => h)
  · have e5 : ((m + j : Nat) : Int) - (i : Int) = ((m + j - i : Nat) : Int) := by omega
    rw [← rotF_right him (by omega)] at hg
    refine c_seq ?_
    refine csr ?_
    refine sm ?_
    refine sm ?_
    refine sy (y_T (y_neq rfl rfl) (by omega)) ?_
    refine snf ?_
    refine c_condT rfl ?_
    refine c_skip ?_
    refine f_then ?_
    refine c_block ?_
    refine csr ?_
    refine sm ?_
    refine sm ?_
    refine sy (y_F (y_gtr rfl rfl) (by omega)) ?_
    refine snf ?_
    refine c_condF rfl ?_
    refine csr ?_
    refine sm ?_
    refine sm ?_
    refine sm ?_
    refine sy (y_sub rfl rfl (by omega)) ?_
    refine sm ?_
    refine sm ?_
    refine sy (y_add rfl rfl (by omega)) ?_
    refine sm ?_
    refine sy (y_sub rfl rfl (by omega)) ?_
    refine sm ?_
    refine sm ?_
    rw [e3, e4, e5]
    refine s_call (en_f rfl Tryz.call162) (swapRange_spec (a := m - i) (b := m + j - i) (k := i) (by omega) (by omega) hn) rfl rfl rfl (fun _ => ?_)
    refine snf ?_
    refine c_region ?_
    refine sm ?_
    refine sm ?_
    refine sy (y_sub rfl rfl (by omega)) ?_
    refine sa ?_
    refine s_nil ?_
    refine f_blockN ?_
    exact f_roundP (i, j - i, swpF g (m - i) (m + j - i) i) ⟨hi, by dsimp only; omega, him, by dsimp only; omega, hg⟩ (by dsimp only; omega) ⟨rfl, rfl, rfl, rfl, congrArg (fun z => some (Value.int .i64 z)) (by dsimp only; omega), trivial⟩ (fun w h => h)
end Go.KL
end

section
/- Walks: insertionSort. -/
namespace Go.KL
open Go.Proofs
theorem SOut.bd {R : Nat → Nat} {f g : Nat → Nat} {a b n : Nat} (h : SOut R f g a b) (hf : ∀ k, k < n → f k < n) (hb : b ≤ n) : ∀ k, k < n → g k < n := by
  intro k hk
  by_cases c : a ≤ k ∧ k < b
  · obtain ⟨l, l1, l2, l3⟩ := h.from' k c.1 c.2
    rw [l3]
    exact hf l (by omega)
  · rw [h.same k (by omega)]
    exact hf k hk
theorem SOut.one {R : Nat → Nat} {f g : Nat → Nat} {a b : Nat} (h : SOut R f g a (a + 1)) (hb : b ≤ a) : SOut R f g a b := by
  refine ⟨fun i j h1 h2 h3 => by omega, fun i h1 h2 => by omega, fun i _ => ?_⟩
  by_cases c : i = a
  · obtain ⟨k, k1, k2, k3⟩ := h.from' i (by omega) (by omega)
    rw [k3, show k = i by omega]
  · exact h.same i (by omega)
theorem ins_mrg {R : Nat → Nat} {f g : Nat → Nat} {a b i : Nat} (hasc : ∀ p q, a ≤ p → p < q → q < b → f p < f q) (h : SOut R f g a i) (hai : a ≤ i) (hib : i < b) : Mrg R g a i (i + 1) := by
  refine ⟨h.srt, fun p q h1 h2 h3 => by omega, fun p q h1 h2 h3 h4 => ?_⟩
  obtain rfl : q = i := by omega
  obtain ⟨k, k1, k2, k3⟩ := h.from' p h1 h2
  rw [k3, h.same q (.inr (Nat.le_refl _))]
  exact hasc k q k1 k2 hib
theorem ins_out {R : Nat → Nat} {f g : Nat → Nat} {a i j : Nat} (hM : Mrg R g a i (i + 1)) (h : SOut R f g a i) (haj : a ≤ j) (hji : j ≤ i) (hhi : ∀ k, j ≤ k → k < i → ltR R (g i) (g k)) (hst : a < j → ¬ ltR R (g i) (g (j - 1))) : SOut R f (insB g i j) a (i + 1) := by
  have hlo : ∀ k, a ≤ k → k < j → ¬ ltR R (g i) (g k) := by
    intro k k1 k2 hc
    have h1 := hst (by omega)
    have h2 := (hM.ord (i := j - 1) (j := i) (by omega) (by omega) (Nat.le_refl i) (by omega)).1 h1
    by_cases c : k = j - 1
    · subst c
      exact h1 hc
    · have h3 := ltR_trans (hM.left k (j - 1) k1 (by omega) (by omega)) h2
      exact ltR_irr (ltR_trans hc h3)
  exact h.trans (mrg_right hM haj hji hlo hhi) (Nat.le_refl _) (by omega)
theorem insB_at {f : Nat → Nat} {m i : Nat} : insB f m i i = f m := by
  unfold insB
  rw [if_pos rfl]
theorem insB_bef {f : Nat → Nat} {m i : Nat} (h : 0 < i) : insB f m i (i - 1) = f (i - 1) := by
  unfold insB
  rw [if_neg (by omega), if_neg (by omega)]
attribute [local irreducible] SC St Fin Sq Ylds Doos Sets Enters Spec CellIs CellsAre Then Ret Rnd Chn resOK ints bools recs arr
set_option maxRecDepth 10000 in
set_option maxHeartbeats 8000000 in
theorem insertion_spec {W : World} {N : List Chunk} {Lf : Nat → Lk} {rest : List Value} {cp : Nat} {bo n a b : Nat} {R f : Nat → Nat} (hcmp : CmpL Lf n R) (hab : a ≤ b) (hbn : b ≤ n) (hn : n ≤ 4096) (hf : ∀ k, k < n → f k < n) (hasc : ∀ p q, a ≤ p → p < q → q < b → f p < f q) : Spec Tryz.prog 144 #[.slice (some ⟨bo, 0, none⟩) n cp, .int .i64 (a : Int), .int .i64 (b : Int), .func (.func 123) #[] #[]] (K W (lrow bo Lf n rest (f) :: N)) (X := { g : Nat → Nat // SOut R f g a b }) (fun _ => .tuple #[]) (fun g => K W (lrow bo Lf n rest (g.1) :: N)) := by
  refine enter (args := [_, _, _, _]) Tryz.func144 rfl Tryz.ntmps144 rfl ?_
  refine csr ?_
  refine sm ?_
  refine sy (y_add rfl rfl (by omega)) ?_
  refine sa ?_
  refine snf ?_
  refine c_block ?_
  refine c_loopP (α := Nat × (Nat → Nat)) (fun z => [(0, .slice (some ⟨bo, 0, none⟩) n cp), (1, .int .i64 (a : Int)), (2, .int .i64 (b : Int)), (3, .func (.func 123) #[] #[]), (8, .int .i64 (z.1 : Int))]) (fun z => a + 1 ≤ z.1 ∧ (z.1 ≤ b ∨ z.1 = a + 1) ∧ SOut R f z.2 a z.1) (fun z => K W (lrow bo Lf n rest (z.2) :: N)) (fun z => b + 1 - z.1) (a + 1, f)
    ⟨rfl, rfl, rfl, rfl, rfl, trivial⟩ ⟨Nat.le_refl _, .inr rfl, SOut.refl (fun i j h1 h2 h3 => by dsimp only at h3; omega)⟩ (fun w h => h) ?_
  rintro ⟨i, g⟩ ⟨hi1, hi2, hO⟩
  dsimp only at hi1 hi2 hO ⊢
  by_cases hib : i < b
  · have hM := ins_mrg hasc hO (by omega) hib
    have hgb := hO.bd hf (by omega)
    refine c_seq ?_
    refine csr ?_
    refine sm ?_
    refine sm ?_
    refine sy (y_T (y_lss rfl rfl) (by omega)) ?_
    refine snf ?_
    refine c_condT rfl ?_
    refine c_skip ?_
    refine f_then ?_
    refine c_seq ?_
    refine c_block ?_
    refine csr ?_
    refine sm ?_
    refine sa ?_
    refine snf ?_
    refine c_block ?_
    refine c_loopP (α := Nat) (fun z => [(0, .slice (some ⟨bo, 0, none⟩) n cp), (1, .int .i64 (a : Int)), (2, .int .i64 (b : Int)), (3, .func (.func 123) #[] #[]), (8, .int .i64 (i : Int)), (9, .int .i64 (z : Int))]) (fun z => a ≤ z ∧ z ≤ i ∧ ∀ k, z ≤ k → k < i → ltR R (g i) (g k)) (fun z => K W (lrow bo Lf n rest (insB g i z) :: N)) (fun z => z) i
      ⟨rfl, rfl, rfl, rfl, rfl, rfl, trivial⟩ ⟨by omega, Nat.le_refl _, fun k h1 h2 => by omega⟩ (fun w h => by rw [insB_zero]; exact h) ?_
    rintro j ⟨hj1, hj2, hj3⟩
    have ej : insB g i j j = g i := insB_at
    have hgi := hgb i (by omega)
    refine c_seq ?_
    refine c_seq ?_
    refine c_then_cut (α := Unit) (fun _ => [(0, .slice (some ⟨bo, 0, none⟩) n cp), (1, .int .i64 (a : Int)), (2, .int .i64 (b : Int)), (3, .func (.func 123) #[] #[]), (8, .int .i64 (i : Int)), (9, .int .i64 (j : Int)), (34, .bool (decide (a < j ∧ R (g (j - 1)) < R (g i))))]) (fun _ => True) (fun _ => K W (lrow bo Lf n rest (insB g i j) :: N)) ?_ ?_
    · clear hM hO hj3
      by_cases haj : a < j
      · have ejb : insB g i j (j - 1) = g (j - 1) := insB_bef (by omega)
        have ej1 : (j : Int) - 1 = ((j - 1 : Nat) : Int) := by omega
        have hgj := hgb (j - 1) (by omega)
        refine c_plan [.c 0, .c 1, .c 2, .c 3, .c 4, .c 5, .c 6, .c 7, .c 8, .c 9, .c 10, .c 11, .c 12, .c 13, .s 14, .c 15, .c 16] [] ((K W (lrow bo Lf n rest (insB g i j) :: N))) Tryz.mixed (by kernel_rfl) rfl K.cl ?_
        refine dy rfl (y_move rfl) (fun _ h => h) ?_
        refine dy rfl (y_move rfl) (fun _ h => h) ?_
        refine dy rfl (y_T (y_gtr rfl rfl) (by omega)) (fun _ h => h) ?_
        refine dy rfl (y_move rfl) (fun _ h => h) ?_
        refine dy rfl (y_move rfl) (fun _ h => h) ?_
        refine dy rfl (y_move rfl) (fun _ h => h) ?_
        refine dy rfl (y_move rfl) (fun _ h => h) ?_
        refine dy rfl (y_indexAddr0 (s := 4) Tryz.tab rfl rfl rfl rfl _ rfl (by omega)) (fun _ h => h) ?_
        refine dy rfl (y_loadA Tryz.tab rfl rfl rfl rfl (cells_lrow 0 rfl (by omega))) (fun _ h => h) ?_
        refine dy rfl (y_move rfl) (fun _ h => h) ?_
        refine dy rfl (y_move rfl) (fun _ h => h) ?_
        refine dy rfl (y_sub rfl rfl (by omega)) (fun _ h => h) ?_
        refine dy rfl (y_indexAddr0 (s := 4) Tryz.tab rfl rfl rfl rfl _ (Int.toNat_of_nonneg (by omega)).symm (by omega)) (fun _ h => h) ?_
        refine dy rfl (y_loadA Tryz.tab rfl rfl rfl rfl (cells_lrow 0 rfl (by omega))) (fun _ h => h) ?_
        rw [show ((j : Int) - 1).toNat = j - 1 by omega, ejb, ej]
        refine d_call rfl (en_v rfl rfl Tryz.call123) (hcmp (g i) (g (j - 1)) hgi hgj) rfl rfl rfl (fun _ => K.cl) (fun _ _ _ h => h) (fun _ => ?_)
        by_cases hR : R (g (j - 1)) < R (g i)
        · rw [decide_eq_true ⟨haj, hR⟩]
          have hz := cmp3_neg.2 hR
          generalize cmp3 (R (g (j - 1))) (R (g i)) = z at hz ⊢
          clear hR
          refine dy rfl (y_T (y_lss rfl rfl) (by assumption)) (fun _ h => h) ?_
          refine dy rfl (y_pickT rfl rfl) (fun _ h => h) ?_
          refine d_nil ?_
          exact f_cutP () trivial ⟨rfl, rfl, rfl, rfl, rfl, rfl, rfl, trivial⟩ (fun w h => h)
        · rw [decide_eq_false (fun h => hR h.2)]
          have hz := mt cmp3_neg.1 hR
          generalize cmp3 (R (g (j - 1))) (R (g i)) = z at hz ⊢
          clear hR
          refine dy rfl (y_F (y_lss rfl rfl) (by assumption)) (fun _ h => h) ?_
          refine dy rfl (y_pickT rfl rfl) (fun _ h => h) ?_
          refine d_nil ?_
          exact f_cutP () trivial ⟨rfl, rfl, rfl, rfl, rfl, rfl, rfl, trivial⟩ (fun w h => h)
      · rw [decide_eq_false (fun h => haj h.1)]
        refine c_plan [.c 0, .c 1, .c 2, .c 3, .c 4, .c 5, .c 6, .c 7, .c 8, .c 9, .c 10, .c 11, .c 12, .c 13, .s 14, .c 15, .c 16] [] ((K W (lrow bo Lf n rest (insB g i j) :: N))) Tryz.mixed (by kernel_rfl) rfl K.cl ?_
        refine dy rfl (y_move rfl) (fun _ h => h) ?_
        refine dy rfl (y_move rfl) (fun _ h => h) ?_
        refine dy rfl (y_F (y_gtr rfl rfl) (by omega)) (fun _ h => h) ?_
        refine dy rfl (y_move rfl) (fun _ h => h) ?_
        refine d_skip rfl rfl rfl rfl (fun _ h => h) K.cl ?_
        refine d_skip rfl rfl rfl rfl (fun _ h => h) K.cl ?_
        refine d_skip rfl rfl rfl rfl (fun _ h => h) K.cl ?_
        refine d_skip rfl rfl rfl rfl (fun _ h => h) K.cl ?_
        refine d_skip rfl rfl rfl rfl (fun _ h => h) K.cl ?_
        refine d_skip rfl rfl rfl rfl (fun _ h => h) K.cl ?_
        refine d_skip rfl rfl rfl rfl (fun _ h => h) K.cl ?_
        refine d_skip rfl rfl rfl rfl (fun _ h => h) K.cl ?_
        refine d_skip rfl rfl rfl rfl (fun _ h => h) K.cl ?_
        refine d_skip rfl rfl rfl rfl (fun _ h => h) K.cl ?_
        refine d_sskip rfl rfl rfl rfl (fun _ _ h => h) ?_
        refine d_skip rfl rfl rfl rfl (fun _ h => h) K.cl ?_
        refine dy rfl (y_pickF rfl rfl) (fun _ h => h) ?_
        refine d_nil ?_
        exact f_cutP () trivial ⟨rfl, rfl, rfl, rfl, rfl, rfl, rfl, trivial⟩ (fun w h => h)
    rintro _ _
    by_cases hgo : a < j ∧ R (g (j - 1)) < R (g i)
    · rw [decide_eq_true hgo]
      have ejb : insB g i j (j - 1) = g (j - 1) := insB_bef (by omega)
      have hnx := insB_next (f := g) (m := i) (i := j) (by omega) hj2
      have hlt := (hM.key (i := j - 1) (j := i) (by omega) (by omega) (Nat.le_refl i) (by omega)).2 hgo.2
      obtain ⟨haj, _⟩ := hgo
      have ej1 : (j : Int) - 1 = ((j - 1 : Nat) : Int) := by omega
      refine c_condT rfl ?_
      refine c_skip ?_
      refine f_then ?_
      refine c_seq ?_
      refine c_block ?_
      refine c_planMs [2, 3, 4] [.c 0, .c 1, .c 5, .c 6, .c 7, .c 8, .c 9, .c 10, .c 11, .c 12, .c 13, .c 14, .s 15, .s 16, .s 17] [2, 3, 4, 15, 16, 17] (K W (lrow bo Lf n rest (insB g i j) :: N)) Tryz.mixed (by kernel_rfl) rfl K.cl ?_
      refine m_cons rfl (Qui.ylds (y_move rfl)) rfl rfl rfl K.cl ?_
      refine m_cons rfl (Qui.ylds (y_move rfl)) rfl rfl rfl K.cl ?_
      refine m_cons rfl (Qui.ylds (y_sub rfl rfl (by omega))) rfl rfl rfl K.cl ?_
      refine m_nil ?_
      refine dy rfl (y_move rfl) (fun _ h => h) ?_
      refine dy rfl (y_move rfl) (fun _ h => h) ?_
      refine dy rfl (y_move rfl) (fun _ h => h) ?_
      refine dy rfl (y_move rfl) (fun _ h => h) ?_
      refine dy rfl (y_sub rfl rfl (by omega)) (fun _ h => h) ?_
      refine dy rfl (y_indexAddr0 (s := 4) Tryz.tab rfl rfl rfl rfl _ (Int.toNat_of_nonneg (by omega)).symm (by omega)) (fun _ h => h) ?_
      refine dy rfl (y_loadA Tryz.tab rfl rfl rfl rfl (cells_lrow 0 rfl (by omega))) (fun _ h => h) ?_
      refine dy rfl (y_move rfl) (fun _ h => h) ?_
      refine dy rfl (y_move rfl) (fun _ h => h) ?_
      refine dy rfl (y_indexAddr0 (s := 4) Tryz.tab rfl rfl rfl rfl _ rfl (by omega)) (fun _ h => h) ?_
      refine dy rfl (y_loadA Tryz.tab rfl rfl rfl rfl (cells_lrow 0 rfl (by omega))) (fun _ h => h) ?_
      refine dy rfl (y_indexAddr0 (s := 4) Tryz.tab rfl rfl rfl rfl _ rfl (by omega)) (fun _ h => h) ?_
      refine d_set rfl (set_lrow Tryz.tab 0 _ rfl rfl rfl rfl (by omega)) rfl rfl K.cl (fun h => by cases h) ?_
      refine d_sy rfl (y_indexAddr0 (s := 4) Tryz.tab rfl rfl rfl rfl _ (Int.toNat_of_nonneg (by omega)).symm (by omega)) rfl rfl rfl K.cl (fun h => by cases h) ?_
      refine d_set rfl (set_lrow Tryz.tab 0 _ rfl rfl rfl rfl (by omega)) rfl rfl K.cl (fun h => by cases h) ?_
      refine d_nil ?_
      refine f_blockN ?_
      refine f_then ?_
      refine c_region ?_
      refine sm ?_
      refine sy (y_sub rfl rfl (by omega)) ?_
      refine sa ?_
      refine s_nil ?_
      exact f_roundP (j - 1) ⟨by omega, by omega, fun k k1 k2 => by
        by_cases c : k = j - 1
        · rw [c]; exact hlt
        · exact hj3 k (by omega) k2⟩ (by omega) ⟨rfl, rfl, rfl, rfl, rfl, congrArg (fun z => some (Value.int .i64 z)) (by omega), trivial⟩ (fun w h => by
          rw [← hnx]
          rw [show ((j : Int) - 1).toNat = j - 1 by omega] at h
          exact h)
    · rw [decide_eq_false hgo]
      have hO2 := ins_out hM hO hj1 hj2 hj3 (fun h h2 => hgo ⟨h, (hM.key (i := j - 1) (j := i) (by omega) (by omega) (Nat.le_refl i) (by omega)).1 h2⟩)
      clear hM hO hj3 hgo hasc
      refine c_condF rfl ?_
      refine c_exit ?_
      refine f_thenE ?_
      refine f_rndE ?_
      refine f_blockE ?_
      refine f_blockN ?_
      refine f_then ?_
      refine c_region ?_
      refine sm ?_
      refine sy (y_add rfl rfl (by omega)) ?_
      refine sa ?_
      refine s_nil ?_
      exact f_roundP (i + 1, insB g i j) ⟨by dsimp only; omega, .inl hib, hO2⟩ (by dsimp only; omega) ⟨rfl, rfl, rfl, rfl, rfl, trivial⟩ (fun w h => h)
  · have hO2 : SOut R f g a b := by
      by_cases c : i = b
      · rw [← c]; exact hO
      · obtain rfl : i = a + 1 := by omega
        exact hO.one (by omega)
    clear hO hasc
    refine c_seq ?_
    refine csr ?_
    refine sm ?_
    refine sm ?_
    refine sy (y_F (y_lss rfl rfl) (by omega)) ?_
    refine snf ?_
    refine c_condF rfl ?_
    refine c_exit ?_
    refine f_thenE ?_
    refine f_rndE ?_
    refine f_blockE ?_
    exact f_end ⟨g, hO2⟩ (res0 rfl) (fun w h => h)
end Go.KL
end

section
/- Walks: symMerge, where a part has one element. -/
namespace Go.KL
open Go.Proofs
attribute [local irreducible] SC St Fin Sq Ylds Doos Sets Enters Spec CellIs CellsAre Then Ret Rnd Chn resOK ints bools recs arr
set_option maxRecDepth 10000 in
set_option maxHeartbeats 8000000 in
theorem sym1_spec {W : World} {N : List Chunk} {Lf : Nat → Lk} {rest : List Value} {cp : Nat} {bo n a b : Nat} {R f : Nat → Nat} (hcmp : CmpL Lf n R) (hab : a + 1 < b) (hbn : b ≤ n) (hn : n ≤ 4096) (hf : ∀ k, k < n → f k < n) (hM : Mrg R f a (a + 1) b) : Spec Tryz.prog 145 #[.slice (some ⟨bo, 0, none⟩) n cp, .int .i64 (a : Int), .int .i64 ((a + 1 : Nat) : Int), .int .i64 (b : Int), .func (.func 123) #[] #[]] (K W (lrow bo Lf n rest (f) :: N)) (X := { g : Nat → Nat // SOut R f g a b }) (fun _ => .tuple #[]) (fun g => K W (lrow bo Lf n rest (g.1) :: N)) := by
  refine enter (args := [_, _, _, _, _]) Tryz.func145 rfl Tryz.ntmps145 rfl ?_
  refine c_seq ?_
  refine csr ?_
  refine sm ?_
  refine sm ?_
  refine sy (y_sub rfl rfl (by omega)) ?_
  refine sy (y_T (y_eql rfl rfl) (by omega)) ?_
  refine snf ?_
  refine c_condT rfl ?_
  refine csr ?_
  refine sm ?_
  refine sa ?_
  refine snf ?_
  refine csr ?_
  refine sm ?_
  refine sa ?_
  refine snf ?_
  refine c_seq ?_
  refine c_block ?_
  refine c_loopP (α := Nat × Nat) (fun z => [(0, .slice (some ⟨bo, 0, none⟩) n cp), (1, .int .i64 (a : Int)), (4, .func (.func 123) #[] #[]), (10, .int .i64 (z.1 : Int)), (11, .int .i64 (z.2 : Int))]) (fun z => a + 1 ≤ z.1 ∧ z.1 ≤ z.2 ∧ z.2 ≤ b ∧ (∀ k, a + 1 ≤ k → k < z.1 → ltR R (f k) (f a)) ∧ ∀ k, z.2 ≤ k → k < b → ¬ ltR R (f k) (f a)) (fun _ => K W (lrow bo Lf n rest (f) :: N)) (fun z => z.2 - z.1) (a + 1, b)
    ⟨rfl, rfl, rfl, rfl, rfl, trivial⟩ ⟨Nat.le_refl _, by dsimp only; omega, Nat.le_refl _, fun k h1 h2 => by dsimp only at h2; omega, fun k h1 h2 => by dsimp only at h1; omega⟩ (fun w h => h) ?_
  rintro ⟨i, j⟩ ⟨hi, hij, hj, hlo, hhi⟩
  dsimp only at hi hij hj hlo hhi ⊢
  by_cases hlt : i < j
  · obtain ⟨c, hc⟩ : ∃ c, c = (i + j) / 2 := ⟨_, rfl⟩
    have hc1 : i ≤ c ∧ c < j := by omega
    have hkey := hM.key (i := a) (j := c) (Nat.le_refl a) (by omega) (by omega) (by omega)
    have hfc := hf c (by omega)
    have hfa := hf a (by omega)
    refine c_seq ?_
    refine csr ?_
    refine sm ?_
    refine sm ?_
    refine sy (y_T (y_lss rfl rfl) (by omega)) ?_
    refine snf ?_
    refine c_condT rfl ?_
    refine c_skip ?_
    refine f_then ?_
    refine c_block ?_
    refine csr ?_
    refine sm ?_
    refine sm ?_
    refine sy (y_add rfl rfl (by omega)) ?_
    refine sy (y_to64 Tryz.tab rfl rfl rfl (by omega)) ?_
    refine sy (y_shrU (d := 2) rfl rfl (by decide) rfl) ?_
    refine sy (y_toI Tryz.tab rfl rfl rfl (by omega)) ?_
    refine sa ?_
    refine snf ?_
    refine c_seq ?_
    refine c_quiet Tryz.mixed (by kernel_rfl) K.drew ?_
    refine q_y (y_move rfl) rfl rfl rfl ?_
    refine q_y (y_move rfl) rfl rfl rfl ?_
    refine q_y (y_move rfl) rfl rfl rfl ?_
    refine q_y (y_indexAddr0 (s := 4) Tryz.tab rfl rfl rfl rfl _ (Int.toNat_of_nonneg (by omega)).symm (by omega)) rfl rfl rfl ?_
    refine q_y (y_loadA Tryz.tab rfl rfl rfl rfl (cells_lrow 0 rfl (by omega))) rfl rfl rfl ?_
    refine q_y (y_move rfl) rfl rfl rfl ?_
    refine q_y (y_move rfl) rfl rfl rfl ?_
    refine q_y (y_indexAddr0 (s := 4) Tryz.tab rfl rfl rfl rfl _ rfl (by omega)) rfl rfl rfl ?_
    refine q_y (y_loadA Tryz.tab rfl rfl rfl rfl (cells_lrow 0 rfl (by omega))) rfl rfl rfl ?_
    rw [show (((i : Int) + (j : Int)) / 2).toNat = c by omega]
    refine q_call (en_v rfl rfl Tryz.call123) (hcmp (f c) (f a) hfc hfa) rfl rfl rfl ?_
    by_cases hR : R (f a) < R (f c)
    · have hz := cmp3_neg.2 hR
      have hl := hkey.2 hR
      generalize cmp3 (R (f a)) (R (f c)) = z at hz ⊢
      clear hR hkey
      refine q_y (y_T (y_lss rfl rfl) (by assumption)) rfl rfl rfl ?_
      refine q_nil ?_
      refine f_then ?_
      refine c_condT rfl ?_
      refine c_region ?_
      refine sm ?_
      refine sy (y_add rfl rfl (by omega)) ?_
      refine sa ?_
      refine s_nil ?_
      refine f_blockN ?_
      exact f_roundP (c + 1, j) ⟨by dsimp only; omega, by dsimp only; omega, hj, fun k h1 h2 => by
        by_cases hk : k = c
        · rw [hk]; exact hl
        · exact ltR_trans (hM.right k c h1 (by dsimp only at h2; omega) (by omega)) hl, hhi⟩ (by dsimp only; omega) ⟨rfl, rfl, rfl, congrArg (fun z => some (Value.int .i64 z)) (by dsimp only; omega), rfl, trivial⟩ (fun w h => h)
    · have hz := mt cmp3_neg.1 hR
      have hl : ¬ ltR R (f c) (f a) := fun h => hR (hkey.1 h)
      generalize cmp3 (R (f a)) (R (f c)) = z at hz ⊢
      clear hR hkey
      refine q_y (y_F (y_lss rfl rfl) (by assumption)) rfl rfl rfl ?_
      refine q_nil ?_
      refine f_then ?_
      refine c_condF rfl ?_
      refine c_region ?_
      refine sm ?_
      refine sa ?_
      refine s_nil ?_
      refine f_blockN ?_
      exact f_roundP (i, c) ⟨hi, by dsimp only; omega, by dsimp only; omega, hlo, fun k h1 h2 => by
        by_cases hk : k = c
        · rw [hk]; exact hl
        · exact fun h => hl (ltR_trans (hM.right c k (by omega) (by dsimp only at h1; omega) h2) h)⟩ (by dsimp only; omega) ⟨rfl, rfl, rfl, rfl, congrArg (fun z => some (Value.int .i64 z)) (by dsimp only; omega), trivial⟩ (fun w h => h)
  · obtain rfl : i = j := by omega
    have hO := mrg_left hM hi hj hlo hhi
    clear hlo hhi hM hf
    refine c_seq ?_
    refine csr ?_
    refine sm ?_
    refine sm ?_
    refine sy (y_F (y_lss rfl rfl) (by omega)) ?_
    refine snf ?_
    refine c_condF rfl ?_
    refine c_exit ?_
    refine f_thenE ?_
    refine f_rndE ?_
    refine f_blockE ?_
    refine f_then ?_
    refine c_seq ?_
    refine csr ?_
    refine sm ?_
    refine sa ?_
    refine snf ?_
    refine c_block ?_
    refine c_loopP (α := Nat) (fun z => [(0, .slice (some ⟨bo, 0, none⟩) n cp), (10, .int .i64 (i : Int)), (13, .int .i64 (z : Int))]) (fun z => a ≤ z ∧ z ≤ i - 1) (fun z => K W (lrow bo Lf n rest (insF f a z) :: N)) (fun z => i - z) a
      ⟨rfl, rfl, rfl, trivial⟩ ⟨Nat.le_refl _, by omega⟩ (fun w h => by rw [insF_zero]; exact h) ?_
    rintro k ⟨hk1, hk2⟩
    by_cases hki : k < i - 1
    · have hnx := insF_next (f := f) hk1
      clear hO
      refine c_seq ?_
      refine csr ?_
      refine sm ?_
      refine sm ?_
      refine sy (y_sub rfl rfl (by omega)) ?_
      refine sy (y_T (y_lss rfl rfl) (by omega)) ?_
      refine snf ?_
      refine c_condT rfl ?_
      refine c_skip ?_
      refine f_then ?_
      refine c_seq ?_
      refine c_block ?_
      refine c_planMs [2, 3, 4] [.c 0, .c 1, .c 5, .c 6, .c 7, .c 8, .c 9, .c 10, .c 11, .c 12, .c 13, .c 14, .s 15, .s 16, .s 17] [2, 3, 4, 15, 16, 17] (K W (lrow bo Lf n rest (insF f a k) :: N)) Tryz.mixed (by kernel_rfl) rfl K.cl ?_
      refine m_cons rfl (Qui.ylds (y_move rfl)) rfl rfl rfl K.cl ?_
      refine m_cons rfl (Qui.ylds (y_move rfl)) rfl rfl rfl K.cl ?_
      refine m_cons rfl (Qui.ylds (y_add rfl rfl (by omega))) rfl rfl rfl K.cl ?_
      refine m_nil ?_
      refine dy rfl (y_move rfl) (fun _ h => h) ?_
      refine dy rfl (y_move rfl) (fun _ h => h) ?_
      refine dy rfl (y_move rfl) (fun _ h => h) ?_
      refine dy rfl (y_move rfl) (fun _ h => h) ?_
      refine dy rfl (y_add rfl rfl (by omega)) (fun _ h => h) ?_
      refine dy rfl (y_indexAddr0 (s := 4) Tryz.tab rfl rfl rfl rfl _ (Int.toNat_of_nonneg (by omega)).symm (by omega)) (fun _ h => h) ?_
      refine dy rfl (y_loadA Tryz.tab rfl rfl rfl rfl (cells_lrow 0 rfl (by omega))) (fun _ h => h) ?_
      refine dy rfl (y_move rfl) (fun _ h => h) ?_
      refine dy rfl (y_move rfl) (fun _ h => h) ?_
      refine dy rfl (y_indexAddr0 (s := 4) Tryz.tab rfl rfl rfl rfl _ rfl (by omega)) (fun _ h => h) ?_
      refine dy rfl (y_loadA Tryz.tab rfl rfl rfl rfl (cells_lrow 0 rfl (by omega))) (fun _ h => h) ?_
      refine dy rfl (y_indexAddr0 (s := 4) Tryz.tab rfl rfl rfl rfl _ rfl (by omega)) (fun _ h => h) ?_
      refine d_set rfl (set_lrow Tryz.tab 0 _ rfl rfl rfl rfl (by omega)) rfl rfl K.cl (fun h => by cases h) ?_
      refine d_sy rfl (y_indexAddr0 (s := 4) Tryz.tab rfl rfl rfl rfl _ (Int.toNat_of_nonneg (by omega)).symm (by omega)) rfl rfl rfl K.cl (fun h => by cases h) ?_
      refine d_set rfl (set_lrow Tryz.tab 0 _ rfl rfl rfl rfl (by omega)) rfl rfl K.cl (fun h => by cases h) ?_
      refine d_nil ?_
      refine f_blockN ?_
      refine f_then ?_
      refine c_region ?_
      refine sm ?_
      refine sy (y_add rfl rfl (by omega)) ?_
      refine sa ?_
      refine s_nil ?_
      exact f_roundP (k + 1) ⟨by omega, by omega⟩ (by omega) ⟨rfl, rfl, rfl, trivial⟩ (fun w h => by
        rw [← hnx]
        exact h)
    · obtain rfl : k = i - 1 := by omega
      refine c_seq ?_
      refine csr ?_
      refine sm ?_
      refine sm ?_
      refine sy (y_sub rfl rfl (by omega)) ?_
      refine sy (y_F (y_lss rfl rfl) (by omega)) ?_
      refine snf ?_
      refine c_condF rfl ?_
      refine c_exit ?_
      refine f_thenE ?_
      refine f_rndE ?_
      refine f_blockE ?_
      refine f_then ?_
      refine c_ret ?_
      refine f_thenR ?_
      exact f_ret ⟨_, hO⟩ (res0 rfl) (fun w h => h)
set_option maxRecDepth 10000 in
set_option maxHeartbeats 8000000 in
theorem sym2_spec {W : World} {N : List Chunk} {Lf : Nat → Lk} {rest : List Value} {cp : Nat} {bo n a m : Nat} {R f : Nat → Nat} (hcmp : CmpL Lf n R) (hab : a + 1 < m) (hbn : m + 1 ≤ n) (hn : n ≤ 4096) (hf : ∀ k, k < n → f k < n) (hM : Mrg R f a m (m + 1)) : Spec Tryz.prog 145 #[.slice (some ⟨bo, 0, none⟩) n cp, .int .i64 (a : Int), .int .i64 (m : Int), .int .i64 ((m + 1 : Nat) : Int), .func (.func 123) #[] #[]] (K W (lrow bo Lf n rest (f) :: N)) (X := { g : Nat → Nat // SOut R f g a (m + 1) }) (fun _ => .tuple #[]) (fun g => K W (lrow bo Lf n rest (g.1) :: N)) := by
  refine enter (args := [_, _, _, _, _]) Tryz.func145 rfl Tryz.ntmps145 rfl ?_
  refine c_seq ?_
  refine csr ?_
  refine sm ?_
  refine sm ?_
  refine sy (y_sub rfl rfl (by omega)) ?_
  refine sy (y_F (y_eql rfl rfl) (by omega)) ?_
  refine snf ?_
  refine c_condF rfl ?_
  refine c_skip ?_
  refine f_then ?_
  refine c_seq ?_
  refine csr ?_
  refine sm ?_
  refine sm ?_
  refine sy (y_sub rfl rfl (by omega)) ?_
  refine sy (y_T (y_eql rfl rfl) (by omega)) ?_
  refine snf ?_
  refine c_condT rfl ?_
  refine csr ?_
  refine sm ?_
  refine sa ?_
  refine snf ?_
  refine csr ?_
  refine sm ?_
  refine sa ?_
  refine snf ?_
  refine c_seq ?_
  refine c_block ?_
  refine c_loopP (α := Nat × Nat) (fun z => [(0, .slice (some ⟨bo, 0, none⟩) n cp), (2, .int .i64 (m : Int)), (4, .func (.func 123) #[] #[]), (14, .int .i64 (z.1 : Int)), (15, .int .i64 (z.2 : Int))]) (fun z => a ≤ z.1 ∧ z.1 ≤ z.2 ∧ z.2 ≤ m ∧ (∀ k, a ≤ k → k < z.1 → ¬ ltR R (f m) (f k)) ∧ ∀ k, z.2 ≤ k → k < m → ltR R (f m) (f k)) (fun _ => K W (lrow bo Lf n rest (f) :: N)) (fun z => z.2 - z.1) (a, m)
    ⟨rfl, rfl, rfl, rfl, rfl, trivial⟩ ⟨Nat.le_refl _, by dsimp only; omega, Nat.le_refl _, fun k h1 h2 => by dsimp only at h2; omega, fun k h1 h2 => by dsimp only at h1; omega⟩ (fun w h => h) ?_
  rintro ⟨i, j⟩ ⟨hi, hij, hj, hlo, hhi⟩
  dsimp only at hi hij hj hlo hhi ⊢
  by_cases hlt : i < j
  · obtain ⟨c, hc⟩ : ∃ c, c = (i + j) / 2 := ⟨_, rfl⟩
    have hc1 : i ≤ c ∧ c < j := by omega
    have hkey := hM.key (i := c) (j := m) (by omega) (by omega) (Nat.le_refl m) (by omega)
    have hfc := hf c (by omega)
    have hfa := hf m (by omega)
    refine c_seq ?_
    refine csr ?_
    refine sm ?_
    refine sm ?_
    refine sy (y_T (y_lss rfl rfl) (by omega)) ?_
    refine snf ?_
    refine c_condT rfl ?_
    refine c_skip ?_
    refine f_then ?_
    refine c_block ?_
    refine csr ?_
    refine sm ?_
    refine sm ?_
    refine sy (y_add rfl rfl (by omega)) ?_
    refine sy (y_to64 Tryz.tab rfl rfl rfl (by omega)) ?_
    refine sy (y_shrU (d := 2) rfl rfl (by decide) rfl) ?_
    refine sy (y_toI Tryz.tab rfl rfl rfl (by omega)) ?_
    refine sa ?_
    refine snf ?_
    refine c_seq ?_
    refine c_quiet Tryz.mixed (by kernel_rfl) K.drew ?_
    refine q_y (y_move rfl) rfl rfl rfl ?_
    refine q_y (y_move rfl) rfl rfl rfl ?_
    refine q_y (y_move rfl) rfl rfl rfl ?_
    refine q_y (y_indexAddr0 (s := 4) Tryz.tab rfl rfl rfl rfl _ rfl (by omega)) rfl rfl rfl ?_
    refine q_y (y_loadA Tryz.tab rfl rfl rfl rfl (cells_lrow 0 rfl (by omega))) rfl rfl rfl ?_
    refine q_y (y_move rfl) rfl rfl rfl ?_
    refine q_y (y_move rfl) rfl rfl rfl ?_
    refine q_y (y_indexAddr0 (s := 4) Tryz.tab rfl rfl rfl rfl _ (Int.toNat_of_nonneg (by omega)).symm (by omega)) rfl rfl rfl ?_
    refine q_y (y_loadA Tryz.tab rfl rfl rfl rfl (cells_lrow 0 rfl (by omega))) rfl rfl rfl ?_
    rw [show (((i : Int) + (j : Int)) / 2).toNat = c by omega]
    refine q_call (en_v rfl rfl Tryz.call123) (hcmp (f m) (f c) hfa hfc) rfl rfl rfl ?_
    by_cases hR : R (f c) < R (f m)
    · have hz := cmp3_neg.2 hR
      have hl := hkey.2 hR
      generalize cmp3 (R (f c)) (R (f m)) = z at hz ⊢
      clear hR hkey
      refine q_y (y_T (y_lss rfl rfl) (by assumption)) rfl rfl rfl ?_
      refine q_y (y_notT rfl) rfl rfl rfl ?_
      refine q_nil ?_
      refine f_then ?_
      refine c_condF rfl ?_
      refine c_region ?_
      refine sm ?_
      refine sa ?_
      refine s_nil ?_
      refine f_blockN ?_
      exact f_roundP (i, c) ⟨hi, by dsimp only; omega, by dsimp only; omega, hlo, fun k h1 h2 => by
        by_cases hk : k = c
        · rw [hk]; exact hl
        · exact ltR_trans hl (hM.left c k (by omega) (by dsimp only at h1; omega) h2)⟩ (by dsimp only; omega) ⟨rfl, rfl, rfl, rfl, congrArg (fun z => some (Value.int .i64 z)) (by dsimp only; omega), trivial⟩ (fun w h => h)
    · have hz := mt cmp3_neg.1 hR
      have hl : ¬ ltR R (f m) (f c) := fun h => hR (hkey.1 h)
      generalize cmp3 (R (f c)) (R (f m)) = z at hz ⊢
      clear hR hkey
      refine q_y (y_F (y_lss rfl rfl) (by assumption)) rfl rfl rfl ?_
      refine q_y (y_notF rfl) rfl rfl rfl ?_
      refine q_nil ?_
      refine f_then ?_
      refine c_condT rfl ?_
      refine c_region ?_
      refine sm ?_
      refine sy (y_add rfl rfl (by omega)) ?_
      refine sa ?_
      refine s_nil ?_
      refine f_blockN ?_
      exact f_roundP (c + 1, j) ⟨by dsimp only; omega, by dsimp only; omega, hj, fun k h1 h2 => by
        by_cases hk : k = c
        · rw [hk]; exact hl
        · exact fun h => hl (ltR_trans h (hM.left k c h1 (by dsimp only at h2; omega) (by omega))), hhi⟩ (by dsimp only; omega) ⟨rfl, rfl, rfl, congrArg (fun z => some (Value.int .i64 z)) (by dsimp only; omega), rfl, trivial⟩ (fun w h => h)
  · obtain rfl : i = j := by omega
    have hO := mrg_right hM hi hj hlo hhi
    clear hlo hhi hM hf
    refine c_seq ?_
    refine csr ?_
    refine sm ?_
    refine sm ?_
    refine sy (y_F (y_lss rfl rfl) (by omega)) ?_
    refine snf ?_
    refine c_condF rfl ?_
    refine c_exit ?_
    refine f_thenE ?_
    refine f_rndE ?_
    refine f_blockE ?_
    refine f_then ?_
    refine c_seq ?_
    refine csr ?_
    refine sm ?_
    refine sa ?_
    refine snf ?_
    refine c_block ?_
    refine c_loopP (α := Nat) (fun z => [(0, .slice (some ⟨bo, 0, none⟩) n cp), (14, .int .i64 (i : Int)), (17, .int .i64 (z : Int))]) (fun z => i ≤ z ∧ z ≤ m) (fun z => K W (lrow bo Lf n rest (insB f m z) :: N)) (fun z => z) m
      ⟨rfl, rfl, rfl, trivial⟩ ⟨hj, Nat.le_refl _⟩ (fun w h => by rw [insB_zero]; exact h) ?_
    rintro k ⟨hk1, hk2⟩
    by_cases hki : i < k
    · have hnx := insB_next (f := f) (m := m) (i := k) (by omega) hk2
      clear hO
      refine c_seq ?_
      refine csr ?_
      refine sm ?_
      refine sm ?_
      refine sy (y_T (y_gtr rfl rfl) (by omega)) ?_
      refine snf ?_
      refine c_condT rfl ?_
      refine c_skip ?_
      refine f_then ?_
      refine c_seq ?_
      refine c_block ?_
      refine c_planMs [2, 3, 4] [.c 0, .c 1, .c 5, .c 6, .c 7, .c 8, .c 9, .c 10, .c 11, .c 12, .c 13, .c 14, .s 15, .s 16, .s 17] [2, 3, 4, 15, 16, 17] (K W (lrow bo Lf n rest (insB f m k) :: N)) Tryz.mixed (by kernel_rfl) rfl K.cl ?_
      refine m_cons rfl (Qui.ylds (y_move rfl)) rfl rfl rfl K.cl ?_
      refine m_cons rfl (Qui.ylds (y_move rfl)) rfl rfl rfl K.cl ?_
      refine m_cons rfl (Qui.ylds (y_sub rfl rfl (by omega))) rfl rfl rfl K.cl ?_
      refine m_nil ?_
      refine dy rfl (y_move rfl) (fun _ h => h) ?_
      refine dy rfl (y_move rfl) (fun _ h => h) ?_
      refine dy rfl (y_move rfl) (fun _ h => h) ?_
      refine dy rfl (y_move rfl) (fun _ h => h) ?_
      refine dy rfl (y_sub rfl rfl (by omega)) (fun _ h => h) ?_
      refine dy rfl (y_indexAddr0 (s := 4) Tryz.tab rfl rfl rfl rfl _ (Int.toNat_of_nonneg (by omega)).symm (by omega)) (fun _ h => h) ?_
      refine dy rfl (y_loadA Tryz.tab rfl rfl rfl rfl (cells_lrow 0 rfl (by omega))) (fun _ h => h) ?_
      refine dy rfl (y_move rfl) (fun _ h => h) ?_
      refine dy rfl (y_move rfl) (fun _ h => h) ?_
      refine dy rfl (y_indexAddr0 (s := 4) Tryz.tab rfl rfl rfl rfl _ rfl (by omega)) (fun _ h => h) ?_
      refine dy rfl (y_loadA Tryz.tab rfl rfl rfl rfl (cells_lrow 0 rfl (by omega))) (fun _ h => h) ?_
      refine dy rfl (y_indexAddr0 (s := 4) Tryz.tab rfl rfl rfl rfl _ rfl (by omega)) (fun _ h => h) ?_
      refine d_set rfl (set_lrow Tryz.tab 0 _ rfl rfl rfl rfl (by omega)) rfl rfl K.cl (fun h => by cases h) ?_
      refine d_sy rfl (y_indexAddr0 (s := 4) Tryz.tab rfl rfl rfl rfl _ (Int.toNat_of_nonneg (by omega)).symm (by omega)) rfl rfl rfl K.cl (fun h => by cases h) ?_
      refine d_set rfl (set_lrow Tryz.tab 0 _ rfl rfl rfl rfl (by omega)) rfl rfl K.cl (fun h => by cases h) ?_
      refine d_nil ?_
      refine f_blockN ?_
      refine f_then ?_
      refine c_region ?_
      refine sm ?_
      refine sy (y_sub rfl rfl (by omega)) ?_
      refine sa ?_
      refine s_nil ?_
      exact f_roundP (k - 1) ⟨by omega, by omega⟩ (by omega) ⟨rfl, rfl, congrArg (fun z => some (Value.int .i64 z)) (by omega), trivial⟩ (fun w h => by
        rw [← hnx]
        rw [show ((k : Int) - 1).toNat = k - 1 by omega] at h
        exact h)
    · obtain rfl : k = i := by omega
      refine c_seq ?_
      refine csr ?_
      refine sm ?_
      refine sm ?_
      refine sy (y_F (y_gtr rfl rfl) (by omega)) ?_
      refine snf ?_
      refine c_condF rfl ?_
      refine c_exit ?_
      refine f_thenE ?_
      refine f_rndE ?_
      refine f_blockE ?_
      refine f_then ?_
      refine c_ret ?_
      refine f_thenR ?_
      exact f_ret ⟨_, hO⟩ (res0 rfl) (fun w h => h)
end Go.KL
end

section
/- Walks: symMerge. -/
namespace Go.KL
open Go.Proofs
theorem rotF_triv {f : Nat → Nat} {s m e : Nat} (h : s = m ∨ m = e) (h1 : s ≤ m) (h2 : m ≤ e) : rotF f s m e = f := by
  funext t
  unfold rotF
  (repeat' split) <;> first | rfl | (exfalso; omega) | (congr 1; omega)
theorem Mrg.congr {R : Nat → Nat} {f g : Nat → Nat} {a m b : Nat} (h : Mrg R f a m b) (hg : ∀ i, a ≤ i → i < b → g i = f i) (h1 : a ≤ m) (h2 : m ≤ b) : Mrg R g a m b := by
  refine ⟨fun i j i1 i2 i3 => ?_, fun i j i1 i2 i3 => ?_, fun i j i1 i2 i3 i4 => ?_⟩
  · rw [hg i (by omega) (by omega), hg j (by omega) (by omega)]
    exact h.left i j i1 i2 i3
  · rw [hg i (by omega) (by omega), hg j (by omega) (by omega)]
    exact h.right i j i1 i2 i3
  · rw [hg i (by omega) (by omega), hg j (by omega) (by omega)]
    exact h.ix i j i1 i2 i3 i4
theorem Mrg.side {R : Nat → Nat} {f : Nat → Nat} {a m b : Nat} (h : Mrg R f a m b) (hm : m = a ∨ m = b) : Srt R f a b := by
  rcases hm with rfl | rfl
  · exact h.right
  · exact h.left
theorem rot_bd {f : Nat → Nat} {s m e n : Nat} (hf : ∀ k, k < n → f k < n) (h1 : s ≤ m) (h2 : m ≤ e) (h3 : e ≤ n) : ∀ k, k < n → rotF f s m e k < n := by
  intro k hk
  unfold rotF
  split
  · exact hf _ (by omega)
  · split
    · exact hf _ (by omega)
    · exact hf _ hk
attribute [local irreducible] SC St Fin Sq Ylds Doos Sets Enters Spec CellIs CellsAre Then Ret Rnd Chn resOK ints bools recs arr
set_option maxRecDepth 10000 in
set_option maxHeartbeats 16000000 in
theorem symMerge_spec {W : World} {N : List Chunk} {Lf : Nat → Lk} {rest : List Value} {cp : Nat} {bo n : Nat} {R : Nat → Nat} (hcmp : CmpL Lf n R) (hn : n ≤ 4096) : ∀ (d : Nat) {a m b : Nat} {f : Nat → Nat} (_ : b - a ≤ d) (_ : a < m) (_ : m < b) (_ : b ≤ n) (_ : ∀ k, k < n → f k < n) (_ : Mrg R f a m b), Spec Tryz.prog 145 #[.slice (some ⟨bo, 0, none⟩) n cp, .int .i64 (a : Int), .int .i64 (m : Int), .int .i64 (b : Int), .func (.func 123) #[] #[]] (K W (lrow bo Lf n rest (f) :: N)) (X := { g : Nat → Nat // SOut R f g a b }) (fun _ => .tuple #[]) (fun g => K W (lrow bo Lf n rest (g.1) :: N)) := by
  intro d
  induction d with
  | zero =>
    intro a m b f h1 h2 h3
    omega
  | succ d ih =>
    intro a m b f hd ham hmb hbn hf hM
    by_cases c1 : m = a + 1
    · subst c1
      exact sym1_spec hcmp hmb hbn hn hf hM
    by_cases c2 : b = m + 1
    · subst c2
      exact sym2_spec hcmp (by omega) hbn hn hf hM
    obtain ⟨mid, hmid⟩ : ∃ mid, mid = (a + b) / 2 := ⟨_, rfl⟩
    have hmi : ((a : Int) + (b : Int)) / 2 = (mid : Int) := by omega
    have hm1 : a < mid ∧ mid < b := by omega
    have hm2 : 2 * mid ≤ a + b ∧ a + b ≤ 2 * mid + 1 := by omega
    clear hmid
    refine enter (args := [_, _, _, _, _]) Tryz.func145 rfl Tryz.ntmps145 rfl ?_
    refine c_seq ?_
    refine csr ?_
    refine sm ?_
    refine sm ?_
    refine sy (y_sub rfl rfl (by omega)) ?_
    refine sy (y_F (y_eql rfl rfl) (by omega)) ?_
    refine snf ?_
    refine c_condF rfl ?_
    refine c_skip ?_
    refine f_then ?_
    refine c_seq ?_
    refine csr ?_
    refine sm ?_
    refine sm ?_
    refine sy (y_sub rfl rfl (by omega)) ?_
    refine sy (y_F (y_eql rfl rfl) (by omega)) ?_
    refine snf ?_
    refine c_condF rfl ?_
    refine c_skip ?_
    refine f_then ?_
    refine csr ?_
    refine sm ?_
    refine sm ?_
    refine sy (y_add rfl rfl (by omega)) ?_
    refine sy (y_to64 Tryz.tab rfl rfl rfl (by omega)) ?_
    refine sy (y_shrU (d := 2) rfl rfl (by decide) rfl) ?_
    refine sy (y_toI Tryz.tab rfl rfl rfl (by omega)) ?_
    refine sa ?_
    refine snf ?_
    refine csr ?_
    refine sm ?_
    refine sm ?_
    refine sy (y_add rfl rfl (by omega)) ?_
    refine sa ?_
    refine snf ?_
    refine csr ?_
    refine sa ?_
    refine sa ?_
    refine snf ?_
    refine c_seq ?_
    refine csr ?_
    refine sm ?_
    refine sm ?_
    refine sy (y_gtr rfl rfl) ?_
    refine snf ?_
    rw [hmi]
    refine c_then_cut (α := Nat × Nat) (fun z => [(0, .slice (some ⟨bo, 0, none⟩) n cp), (1, .int .i64 (a : Int)), (2, .int .i64 (m : Int)), (3, .int .i64 (b : Int)), (4, .func (.func 123) #[] #[]), (18, .int .i64 (mid : Int)), (19, .int .i64 ((mid + m : Nat) : Int)), (20, .int .i64 (z.1 : Int)), (21, .int .i64 (z.2 : Int))]) (fun z => a ≤ z.1 ∧ z.1 ≤ z.2 ∧ z.2 ≤ m ∧ z.2 ≤ mid ∧ mid + m ≤ b + z.1 ∧ (z.1 = a ∨ mid + m = b + z.1) ∧ (z.2 = m ∨ z.2 = mid)) (fun _ => K W (lrow bo Lf n rest (f) :: N)) ?_ ?_
    · by_cases hmm : mid < m
      · rw [decide_eq_true (by omega)]
        refine c_condT rfl ?_
        refine csr ?_
        refine sm ?_
        refine sm ?_
        refine sy (y_sub rfl rfl (by omega)) ?_
        refine sa ?_
        refine snf ?_
        refine c_region ?_
        refine sm ?_
        refine sa ?_
        refine s_nil ?_
        exact f_cutP (mid + m - b, mid) ⟨by dsimp only; omega, by dsimp only; omega, by dsimp only; omega, Nat.le_refl _, by dsimp only; omega, .inr (by dsimp only; omega), .inr rfl⟩ ⟨rfl, rfl, rfl, rfl, rfl, rfl, rfl, congrArg (fun z => some (Value.int .i64 z)) (by dsimp only; omega), rfl, trivial⟩ (fun w h => h)
      · rw [decide_eq_false (by omega)]
        refine c_condF rfl ?_
        refine csr ?_
        refine sm ?_
        refine sa ?_
        refine snf ?_
        refine c_region ?_
        refine sm ?_
        refine sa ?_
        refine s_nil ?_
        exact f_cutP (a, m) ⟨Nat.le_refl _, by dsimp only; omega, Nat.le_refl _, by dsimp only; omega, by dsimp only; omega, .inl rfl, .inl rfl⟩ ⟨rfl, rfl, rfl, rfl, rfl, rfl, rfl, rfl, rfl, trivial⟩ (fun w h => h)
    rintro ⟨s0, r0⟩ ⟨j1, j2, j3, j4, j5, j6, j7⟩
    dsimp only at j1 j2 j3 j4 j5 j6 j7 ⊢
    refine csr ?_
    refine sm ?_
    refine sy (y_sub rfl rfl (by omega)) ?_
    refine sa ?_
    refine snf ?_
    refine c_seq ?_
    refine c_block ?_
    refine c_loopP (α := Nat × Nat) (fun z => [(0, .slice (some ⟨bo, 0, none⟩) n cp), (1, .int .i64 (a : Int)), (2, .int .i64 (m : Int)), (3, .int .i64 (b : Int)), (4, .func (.func 123) #[] #[]), (18, .int .i64 (mid : Int)), (19, .int .i64 ((mid + m : Nat) : Int)), (20, .int .i64 (z.1 : Int)), (21, .int .i64 (z.2 : Int)), (22, .int .i64 (((mid + m : Nat) : Int) - 1))]) (fun z => s0 ≤ z.1 ∧ z.1 ≤ z.2 ∧ z.2 ≤ r0 ∧ (s0 < z.1 → ltR R (f (z.1 - 1)) (f (mid + m - z.1))) ∧ (z.2 < r0 → ltR R (f (mid + m - 1 - z.2)) (f z.2))) (fun _ => K W (lrow bo Lf n rest (f) :: N)) (fun z => z.2 - z.1) (s0, r0)
      ⟨rfl, rfl, rfl, rfl, rfl, rfl, rfl, rfl, rfl, rfl, trivial⟩ ⟨Nat.le_refl _, j2, Nat.le_refl _, fun h => absurd h (Nat.lt_irrefl _), fun h => absurd h (Nat.lt_irrefl _)⟩ (fun w h => h) ?_
    rintro ⟨s, r⟩ ⟨k1, k2, k3, k4, k5⟩
    dsimp only at k1 k2 k3 k4 k5 ⊢
    by_cases hsr : s < r
    · obtain ⟨c, hc⟩ : ∃ c, c = (s + r) / 2 := ⟨_, rfl⟩
      have hc1 : s ≤ c ∧ c < r := by omega
      have hkey := hM.key (i := c) (j := mid + m - 1 - c) (by omega) (by omega) (by omega) (by omega)
      have hord := hM.ord (i := c) (j := mid + m - 1 - c) (by omega) (by omega) (by omega) (by omega)
      have hfc := hf c (by omega)
      have hfp := hf (mid + m - 1 - c) (by omega)
      have k4' : ∀ _ : Unit, (s0 < s → ltR R (f (s - 1)) (f (mid + m - s))) := fun _ => k4
      have k5' : ∀ _ : Unit, (r < r0 → ltR R (f (mid + m - 1 - r)) (f r)) := fun _ => k5
      clear ih k4 k5 j6 j7
      have e1 : (((s : Int) + (r : Int)) / 2).toNat = c := by omega
      have e2 : (((mid + m : Nat) : Int) - 1 - ((s : Int) + (r : Int)) / 2).toNat = mid + m - 1 - c := by omega
      refine c_seq ?_
      refine csr ?_
      refine sm ?_
      refine sm ?_
      refine sy (y_T (y_lss rfl rfl) (by omega)) ?_
      refine snf ?_
      refine c_condT rfl ?_
      refine c_skip ?_
      refine f_then ?_
      refine c_block ?_
      refine csr ?_
      refine sm ?_
      refine sm ?_
      refine sy (y_add rfl rfl (by omega)) ?_
      refine sy (y_to64 Tryz.tab rfl rfl rfl (by omega)) ?_
      refine sy (y_shrU (d := 2) rfl rfl (by decide) rfl) ?_
      refine sy (y_toI Tryz.tab rfl rfl rfl (by omega)) ?_
      refine sa ?_
      refine snf ?_
      refine c_seq ?_
      refine c_quiet Tryz.mixed (by kernel_rfl) K.drew ?_
      refine q_y (y_move rfl) rfl rfl rfl ?_
      refine q_y (y_move rfl) rfl rfl rfl ?_
      refine q_y (y_move rfl) rfl rfl rfl ?_
      refine q_y (y_move rfl) rfl rfl rfl ?_
      refine q_y (y_sub rfl rfl (by omega)) rfl rfl rfl ?_
      refine q_y (y_indexAddr0 (s := 4) Tryz.tab rfl rfl rfl rfl _ (Int.toNat_of_nonneg (by omega)).symm (by omega)) rfl rfl rfl ?_
      refine q_y (y_loadA Tryz.tab rfl rfl rfl rfl (cells_lrow 0 rfl (by omega))) rfl rfl rfl ?_
      refine q_y (y_move rfl) rfl rfl rfl ?_
      refine q_y (y_move rfl) rfl rfl rfl ?_
      refine q_y (y_indexAddr0 (s := 4) Tryz.tab rfl rfl rfl rfl _ (Int.toNat_of_nonneg (by omega)).symm (by omega)) rfl rfl rfl ?_
      refine q_y (y_loadA Tryz.tab rfl rfl rfl rfl (cells_lrow 0 rfl (by omega))) rfl rfl rfl ?_
      rw [e1, e2]
      refine q_call (en_v rfl rfl Tryz.call123) (hcmp (f (mid + m - 1 - c)) (f c) hfp hfc) rfl rfl rfl ?_
      by_cases hR : R (f c) < R (f (mid + m - 1 - c))
      · have hz := cmp3_neg.2 hR
        have hl := hkey.2 hR
        generalize cmp3 (R (f c)) (R (f (mid + m - 1 - c))) = z at hz ⊢
        clear hR hkey
        refine q_y (y_T (y_lss rfl rfl) (by assumption)) rfl rfl rfl ?_
        refine q_y (y_notT rfl) rfl rfl rfl ?_
        refine q_nil ?_
        refine f_then ?_
        refine c_condF rfl ?_
        refine c_region ?_
        refine sm ?_
        refine sa ?_
        refine s_nil ?_
        refine f_blockN ?_
        exact f_roundP (s, c) ⟨k1, by dsimp only; omega, by dsimp only; omega, k4' (), fun _ => hl⟩ (by dsimp only; omega) ⟨rfl, rfl, rfl, rfl, rfl, rfl, rfl, rfl, congrArg (fun z => some (Value.int .i64 z)) (by dsimp only; omega), rfl, trivial⟩ (fun w h => h)
      · have hz := mt cmp3_neg.1 hR
        have hl := hord.1 (fun h => hR (hkey.1 h))
        generalize cmp3 (R (f c)) (R (f (mid + m - 1 - c))) = z at hz ⊢
        clear hR hkey
        refine q_y (y_F (y_lss rfl rfl) (by assumption)) rfl rfl rfl ?_
        refine q_y (y_notF rfl) rfl rfl rfl ?_
        refine q_nil ?_
        refine f_then ?_
        refine c_condT rfl ?_
        refine c_region ?_
        refine sm ?_
        refine sy (y_add rfl rfl (by omega)) ?_
        refine sa ?_
        refine s_nil ?_
        refine f_blockN ?_
        exact f_roundP (c + 1, r) ⟨by dsimp only; omega, by dsimp only; omega, k3, fun _ => by
          rw [Nat.add_sub_cancel, show mid + m - (c + 1) = mid + m - 1 - c by omega]
          exact hl, k5' ()⟩ (by dsimp only; omega) ⟨rfl, rfl, rfl, rfl, rfl, rfl, rfl, congrArg (fun z => some (Value.int .i64 z)) (by dsimp only; omega), rfl, rfl, trivial⟩ (fun w h => h)
    · obtain rfl : s = r := by omega
      have hC := cut_found (mid := mid) hM j1 k1 k3 j3 (by omega) (by omega) (by omega) j6 j7 k4 k5
      obtain ⟨e, he⟩ : ∃ e, e = mid + m - s := ⟨_, rfl⟩
      rw [← he] at hC
      have he1 : ((mid + m : Nat) : Int) - (s : Int) = (e : Int) := by omega
      clear k4 k5 j6 j7 hcmp
      refine c_seq ?_
      refine csr ?_
      refine sm ?_
      refine sm ?_
      refine sy (y_F (y_lss rfl rfl) (by omega)) ?_
      refine snf ?_
      refine c_condF rfl ?_
      refine c_exit ?_
      refine f_thenE ?_
      refine f_rndE ?_
      refine f_blockE ?_
      refine f_then ?_
      refine csr ?_
      refine sm ?_
      refine sm ?_
      refine sy (y_sub rfl rfl (by omega)) ?_
      refine sa ?_
      refine snf ?_
      rw [he1]
      have hc := mrg_cut hM hC
      obtain ⟨q1, q2, q3, q4, q5⟩ : a ≤ s ∧ s ≤ m ∧ m ≤ e ∧ e ≤ b ∧ e + s = mid + m := ⟨hC.as', hC.sm, hC.me, hC.eb, hC.sum⟩
      have hg0 := rot_bd hf q2 q3 (show e ≤ n by omega)
      obtain ⟨g0, hg⟩ : ∃ g0, g0 = rotF f s m e := ⟨_, rfl⟩
      refine c_seq ?_
      refine c_then_cut (α := Unit) (fun _ => [(0, .slice (some ⟨bo, 0, none⟩) n cp), (1, .int .i64 (a : Int)), (2, .int .i64 (m : Int)), (3, .int .i64 (b : Int)), (4, .func (.func 123) #[] #[]), (18, .int .i64 (mid : Int)), (20, .int .i64 (s : Int)), (24, .int .i64 (e : Int))]) (fun _ => True) (fun _ => K W (lrow bo Lf n rest (g0) :: N)) ?_ ?_
      · by_cases r1 : s < m
        · by_cases r2 : m < e
          · clear hc hC hM ih hf hg0
            refine csr ?_
            refine sm ?_
            refine sm ?_
            refine sy (y_T (y_lss rfl rfl) (by omega)) ?_
            refine sm ?_
            refine sm ?_
            refine sm ?_
            refine sy (y_T (y_lss rfl rfl) (by omega)) ?_
            refine spT ?_
            refine snf ?_
            refine c_condT rfl ?_
            refine c_region ?_
            refine sm ?_
            refine sm ?_
            refine sm ?_
            refine sm ?_
            refine sm ?_
            refine s_call (en_f rfl Tryz.call150) (rotate_spec (a := s) (m := m) (b := e) r1 r2 (by omega) hn) rfl rfl rfl (fun _ => ?_)
            refine s_nil ?_
            exact f_cutP () trivial ⟨rfl, rfl, rfl, rfl, rfl, rfl, rfl, rfl, trivial⟩ (fun w h => by rw [hg]; exact h)
          · have ht := rotF_triv (f := f) (s := s) (m := m) (e := e) (.inr (by omega)) q2 q3
            clear hc hC hM ih hf hg0
            refine csr ?_
            refine sm ?_
            refine sm ?_
            refine sy (y_T (y_lss rfl rfl) (by omega)) ?_
            refine sm ?_
            refine sm ?_
            refine sm ?_
            refine sy (y_F (y_lss rfl rfl) (by omega)) ?_
            refine spT ?_
            refine snf ?_
            refine c_condF rfl ?_
            refine c_skip ?_
            exact f_cutP () trivial ⟨rfl, rfl, rfl, rfl, rfl, rfl, rfl, rfl, trivial⟩ (fun w h => by rw [hg, ht]; exact h)
        · have ht := rotF_triv (f := f) (s := s) (m := m) (e := e) (.inl (by omega)) q2 q3
          clear hc hC hM ih hf hg0
          refine csr ?_
          refine sm ?_
          refine sm ?_
          refine sy (y_F (y_lss rfl rfl) (by omega)) ?_
          refine sm ?_
          iterate 3 refine s_skip rfl rfl rfl ?_
          refine spF ?_
          refine snf ?_
          refine c_condF rfl ?_
          refine c_skip ?_
          exact f_cutP () trivial ⟨rfl, rfl, rfl, rfl, rfl, rfl, rfl, rfl, trivial⟩ (fun w h => by rw [hg, ht]; exact h)
      rintro _ _
      rw [← hg] at hc hg0
      obtain ⟨hL, hRt, _⟩ := hc
      refine c_seq ?_
      refine c_then_cut (α := Nat → Nat) (fun _ => [(0, .slice (some ⟨bo, 0, none⟩) n cp), (1, .int .i64 (a : Int)), (2, .int .i64 (m : Int)), (3, .int .i64 (b : Int)), (4, .func (.func 123) #[] #[]), (18, .int .i64 (mid : Int)), (20, .int .i64 (s : Int)), (24, .int .i64 (e : Int))]) (fun g => SOut R g0 g a mid) (fun g => K W (lrow bo Lf n rest (g) :: N)) ?_ ?_
      · by_cases r1 : a < s
        · by_cases r2 : s < mid
          · have ihL := ih (a := a) (m := s) (b := mid) (f := g0) (by omega) r1 r2 (by omega) hg0 hL
            clear hL hRt hC hM ih hf hg0
            refine csr ?_
            refine sm ?_
            refine sm ?_
            refine sy (y_T (y_lss rfl rfl) (by omega)) ?_
            refine sm ?_
            refine sm ?_
            refine sm ?_
            refine sy (y_T (y_lss rfl rfl) (by omega)) ?_
            refine spT ?_
            refine snf ?_
            refine c_condT rfl ?_
            refine c_region ?_
            refine sm ?_
            refine sm ?_
            refine sm ?_
            refine sm ?_
            refine sm ?_
            refine sk Tryz.call145 ihL fun g => ?_
            refine s_nil ?_
            exact f_cutP g.1 g.2 ⟨rfl, rfl, rfl, rfl, rfl, rfl, rfl, rfl, trivial⟩ (fun w h => h)
          · have hs := SOut.refl (hL.side (.inr (by omega)))
            clear hL hRt hC hM ih hf hg0
            refine csr ?_
            refine sm ?_
            refine sm ?_
            refine sy (y_T (y_lss rfl rfl) (by omega)) ?_
            refine sm ?_
            refine sm ?_
            refine sm ?_
            refine sy (y_F (y_lss rfl rfl) (by omega)) ?_
            refine spT ?_
            refine snf ?_
            refine c_condF rfl ?_
            refine c_skip ?_
            exact f_cutP g0 hs ⟨rfl, rfl, rfl, rfl, rfl, rfl, rfl, rfl, trivial⟩ (fun w h => h)
        · have hs := SOut.refl (hL.side (.inl (by omega)))
          clear hL hRt hC hM ih hf hg0
          refine csr ?_
          refine sm ?_
          refine sm ?_
          refine sy (y_F (y_lss rfl rfl) (by omega)) ?_
          refine sm ?_
          iterate 3 refine s_skip rfl rfl rfl ?_
          refine spF ?_
          refine snf ?_
          refine c_condF rfl ?_
          refine c_skip ?_
          exact f_cutP g0 hs ⟨rfl, rfl, rfl, rfl, rfl, rfl, rfl, rfl, trivial⟩ (fun w h => h)
      rintro g1 hO1
      have hR1 : Mrg R g1 mid e b := hRt.congr (fun i i1 _ => hO1.same i (.inr i1)) (by omega) q4
      have hj : ∀ g2, SOut R g1 g2 mid b → SOut R f g2 a b := fun g2 h2 => mrg_join hM hC (by omega) (by omega) (by rw [← hg]; exact hO1) h2
      have hg1 := hO1.bd hg0 (show mid ≤ n by omega)
      clear hRt hL hM hC hf hg0 hO1
      by_cases r1 : mid < e
      · by_cases r2 : e < b
        · have ihR := ih (a := mid) (m := e) (b := b) (f := g1) (by omega) r1 r2 hbn hg1 hR1
          clear ih hR1 hg1
          refine csr ?_
          refine sm ?_
          refine sm ?_
          refine sy (y_T (y_lss rfl rfl) (by omega)) ?_
          refine sm ?_
          refine sm ?_
          refine sm ?_
          refine sy (y_T (y_lss rfl rfl) (by omega)) ?_
          refine spT ?_
          refine snf ?_
          refine c_condT rfl ?_
          refine c_region ?_
          refine sm ?_
          refine sm ?_
          refine sm ?_
          refine sm ?_
          refine sm ?_
          refine sk Tryz.call145 ihR fun g => ?_
          have hgo := hj g.1 g.2
          clear hj
          refine s_nil ?_
          exact f_end ⟨g.1, hgo⟩ (res0 rfl) (fun w h => h)
        · have hgo := hj g1 (SOut.refl (hR1.side (.inr (by omega))))
          clear ih hR1 hg1 hj
          refine csr ?_
          refine sm ?_
          refine sm ?_
          refine sy (y_T (y_lss rfl rfl) (by omega)) ?_
          refine sm ?_
          refine sm ?_
          refine sm ?_
          refine sy (y_F (y_lss rfl rfl) (by omega)) ?_
          refine spT ?_
          refine snf ?_
          refine c_condF rfl ?_
          refine c_skip ?_
          exact f_end ⟨g1, hgo⟩ (res0 rfl) (fun w h => h)
      · have hgo := hj g1 (SOut.refl (hR1.side (.inl (by omega))))
        clear ih hR1 hg1 hj
        refine csr ?_
        refine sm ?_
        refine sm ?_
        refine sy (y_F (y_lss rfl rfl) (by omega)) ?_
        refine sm ?_
        iterate 3 refine s_skip rfl rfl rfl ?_
        refine spF ?_
        refine snf ?_
        refine c_condF rfl ?_
        refine c_skip ?_
        exact f_end ⟨g1, hgo⟩ (res0 rfl) (fun w h => h)
end Go.KL
end

section
/- Blocks of any size that are in order, and their merging two by two; plain. No program in sight. -/
namespace Go.KL
variable {R : Nat → Nat} {f g : Nat → Nat} {a n bs : Nat}
def BSg (R g : Nat → Nat) (bs n : Nat) : Prop := ∀ j, j * bs < n → Blk R g (j * bs) (min (j * bs + bs) n)
def Phg (R g : Nat → Nat) (bs n a : Nat) : Prop := ∃ J, a = J * (2 * bs) ∧ (∀ i, i < J → Blk R g (i * (2 * bs)) (i * (2 * bs) + 2 * bs)) ∧ ∀ j, 2 * J ≤ j → j * bs < n → Blk R g (j * bs) (min (j * bs + bs) n)
theorem BS.gen (h : BS R g 20 n) : BSg R g 20 n := fun j hj => h (j * 20) (by omega) hj
theorem Phg.start (h : BSg R g bs n) : Phg R g bs n 0 := ⟨0, by simp, fun i h => by omega, fun j _ hj => h j hj⟩
theorem mul_two (J bs : Nat) : 2 * J * bs = J * (2 * bs) := by rw [Nat.mul_comm 2 J, Nat.mul_assoc]
theorem mul_two1 (J bs : Nat) : (2 * J + 1) * bs = J * (2 * bs) + bs := by rw [Nat.add_mul, mul_two, Nat.one_mul]
theorem mul_lt_step {i J c : Nat} (h : i < J) : i * c + c ≤ J * c := by
  have := Nat.mul_le_mul_right c (show i + 1 ≤ J from h)
  rw [Nat.add_mul, Nat.one_mul] at this
  exact this
theorem Phg.two (h : Phg R f bs n a) (hab : a + bs < n) : Blk R f a (a + bs) ∧ Blk R f (a + bs) (min (a + 2 * bs) n) := by
  obtain ⟨J, rfl, h1, h2⟩ := h
  have e1 := h2 (2 * J) (Nat.le_refl _) (by rw [mul_two]; omega)
  have e2 := h2 (2 * J + 1) (by omega) (by rw [mul_two1]; omega)
  rw [mul_two, Nat.min_eq_left (by omega)] at e1
  rw [mul_two1, show J * (2 * bs) + bs + bs = J * (2 * bs) + 2 * bs by omega] at e2
  exact ⟨e1, e2⟩
theorem Phg.next (h : Phg R f bs n a) (hb : 0 < bs) (hab : a + 2 * bs ≤ n) (hO : SOut R f g a (a + 2 * bs)) : Phg R g bs n (a + 2 * bs) := by
  have ht := h.two (by omega)
  obtain ⟨J, rfl, h1, h2⟩ := h
  rw [Nat.min_eq_left (by omega)] at ht
  refine ⟨J + 1, by rw [Nat.add_mul, Nat.one_mul], fun i hi => ?_, fun j hj hn => ?_⟩
  · by_cases c : i = J
    · subst c
      exact ht.1.join ht.2 (by omega) (by omega) hO
    · have := mul_lt_step (c := 2 * bs) (show i < J by omega)
      exact (h1 i (by omega)).keep hO (.inl this)
  · have h3 := Nat.mul_le_mul_right bs hj
    rw [mul_two, Nat.add_mul, Nat.one_mul] at h3
    exact (h2 j (by omega) hn).keep hO (.inr h3)
theorem Phg.last (h : Phg R f bs n a) (han : a + bs < n) (hn : n < a + 2 * bs) (hO : SOut R f g a n) : BSg R g (2 * bs) n := by
  have ht := h.two han
  obtain ⟨J, rfl, h1, h2⟩ := h
  rw [Nat.min_eq_right (by omega)] at ht
  intro j hj
  rcases Nat.lt_trichotomy j J with c | c | c
  · have := mul_lt_step (c := 2 * bs) c
    rw [Nat.min_eq_left (by omega)]
    exact (h1 j c).keep hO (.inl this)
  · subst c
    rw [Nat.min_eq_right (by omega)]
    exact ht.1.join ht.2 (by omega) (by omega) hO
  · have := mul_lt_step (c := 2 * bs) c
    omega
theorem Phg.over (h : Phg R g bs n a) (ha : a ≤ n) (han : n ≤ a + bs) : BSg R g (2 * bs) n := by
  obtain ⟨J, rfl, h1, h2⟩ := h
  intro j hj
  rcases Nat.lt_trichotomy j J with c | c | c
  · have := mul_lt_step (c := 2 * bs) c
    rw [Nat.min_eq_left (by omega)]
    exact h1 j c
  · subst c
    have e1 := h2 (2 * j) (Nat.le_refl _) (by rw [mul_two]; omega)
    rw [mul_two, Nat.min_eq_right (by omega)] at e1
    rw [Nat.min_eq_right (by omega)]
    exact e1
  · have := mul_lt_step (c := 2 * bs) c
    omega
theorem BSg.whole (h : BSg R g bs n) (hb : n ≤ bs) : Blk R g 0 n := by
  by_cases c : n = 0
  · subst c
    exact Blk.empty (Nat.le_refl _)
  · have := h 0 (by omega)
    rw [Nat.zero_mul, Nat.zero_add, Nat.min_eq_right hb] at this
    exact this
end Go.KL
end

section
/- Walks: stable, SortStableFunc. -/
namespace Go.KL
open Go.Proofs
attribute [local irreducible] SC St Fin Sq Ylds Doos Sets Enters Spec CellIs CellsAre Then Ret Rnd Chn resOK ints bools recs arr
set_option maxRecDepth 10000 in
set_option maxHeartbeats 8000000 in
theorem stable_spec {W : World} {N : List Chunk} {Lf : Nat → Lk} {rest : List Value} {cp : Nat} {bo n : Nat} {R : Nat → Nat} (hcmp : CmpL Lf n R) (hn : n ≤ 4096) : Spec Tryz.prog 135 #[.slice (some ⟨bo, 0, none⟩) n cp, .int .i64 (n : Int), .func (.func 123) #[] #[]] (K W (lrow bo Lf n rest (fun i => i) :: N)) (X := { g : Nat → Nat // Blk R g 0 n }) (fun _ => .tuple #[]) (fun g => K W (lrow bo Lf n rest (g.1) :: N)) := by
  refine enter (args := [_, _, _]) Tryz.func135 rfl Tryz.ntmps135 rfl ?_
  refine csr ?_
  refine sa ?_
  refine snf ?_
  refine csr ?_
  refine sm ?_
  refine sa ?_
  refine sa ?_
  refine snf ?_
  refine c_seq ?_
  refine c_block ?_
  refine c_loopP (α := Nat × (Nat → Nat)) (fun z => [(0, .slice (some ⟨bo, 0, none⟩) n cp), (1, .int .i64 (n : Int)), (2, .func (.func 123) #[] #[]), (6, .int .i64 20), (7, .int .i64 (z.1 : Int)), (8, .int .i64 ((z.1 + 20 : Nat) : Int))]) (fun z => z.1 ≤ n ∧ Ph1 R z.2 z.1 ∧ ∀ k, k < n → z.2 k < n) (fun z => K W (lrow bo Lf n rest (z.2) :: N)) (fun z => n - z.1) (0, fun i => i)
    ⟨rfl, rfl, rfl, rfl, rfl, rfl, trivial⟩ ⟨Nat.zero_le _, ⟨rfl, fun s s1 s2 => by dsimp only at s2; omega, fun _ _ => rfl⟩, fun k hk => hk⟩ (fun w h => h) ?_
  rintro ⟨a, g⟩ ⟨ha, hP, hg⟩
  dsimp only at ha hP hg ⊢
  have hasc : ∀ b, ∀ p q, a ≤ p → p < q → q < b → g p < g q := fun b p q h1 h2 h3 => by
    rw [hP.2.2 p h1, hP.2.2 q (by omega)]
    exact h2
  by_cases hb : a + 20 ≤ n
  · have hI := insertion_spec (W := W) (N := N) (rest := rest) (cp := cp) (bo := bo) (a := a) (b := a + 20) hcmp (by omega) hb (by omega) hg (hasc _)
    have hnx : ∀ h, SOut R g h a (a + 20) → Ph1 R h (a + 20) ∧ ∀ k, k < n → h k < n := fun h hO => ⟨hP.next hO, hO.bd hg hb⟩
    clear hP hg hasc hcmp
    refine c_seq ?_
    refine csr ?_
    refine sm ?_
    refine sm ?_
    refine sy (y_T (y_leq rfl rfl) (by omega)) ?_
    refine snf ?_
    refine c_condT rfl ?_
    refine c_skip ?_
    refine f_then ?_
    refine c_block ?_
    refine csr ?_
    refine sm ?_
    refine sm ?_
    refine sm ?_
    refine sm ?_
    refine sk Tryz.call144 hI fun h => ?_
    have hh := hnx h.1 h.2
    clear hnx hI
    refine snf ?_
    refine csr ?_
    refine sm ?_
    refine sa ?_
    refine snf ?_
    refine c_region ?_
    refine sm ?_
    refine sm ?_
    refine sy (y_add rfl rfl (by omega)) ?_
    refine sa ?_
    refine s_nil ?_
    refine f_blockN ?_
    exact f_roundP (a + 20, h.1) ⟨hb, hh.1, hh.2⟩ (by dsimp only; omega) ⟨rfl, rfl, rfl, rfl, rfl, rfl, trivial⟩ (fun w h => h)
  · have hI := insertion_spec (W := W) (N := N) (rest := rest) (cp := cp) (bo := bo) (a := a) (b := n) hcmp ha (Nat.le_refl n) (by omega) hg (hasc _)
    have hnx : ∀ h, SOut R g h a n → BSg R h 20 n ∧ ∀ k, k < n → h k < n := fun h hO => ⟨(hP.done ha (by omega) hO).gen, hO.bd hg (Nat.le_refl n)⟩
    clear hP hg hasc
    refine c_seq ?_
    refine csr ?_
    refine sm ?_
    refine sm ?_
    refine sy (y_F (y_leq rfl rfl) (by omega)) ?_
    refine snf ?_
    refine c_condF rfl ?_
    refine c_exit ?_
    refine f_thenE ?_
    refine f_rndE ?_
    refine f_blockE ?_
    refine f_then ?_
    refine csr ?_
    refine sm ?_
    refine sm ?_
    refine sm ?_
    refine sm ?_
    refine sk Tryz.call144 hI fun h => ?_
    obtain ⟨h, hO⟩ := h
    obtain ⟨hB, hh⟩ := hnx h hO
    dsimp only
    clear hnx hI hO hb ha
    refine snf ?_
    refine c_block ?_
    refine c_loopP (α := Nat × (Nat → Nat)) (fun z => [(0, .slice (some ⟨bo, 0, none⟩) n cp), (1, .int .i64 (n : Int)), (2, .func (.func 123) #[] #[]), (6, .int .i64 (z.1 : Int))]) (fun z => (20 ≤ z.1 ∧ z.1 ≤ 2 * n + 20) ∧ BSg R z.2 z.1 n ∧ ∀ k, k < n → z.2 k < n) (fun z => K W (lrow bo Lf n rest (z.2) :: N)) (fun z => 2 * n + 21 - z.1) (20, h)
      ⟨rfl, rfl, rfl, rfl, trivial⟩ ⟨⟨Nat.le_refl _, by dsimp only; omega⟩, hB, hh⟩ (fun w h => h) ?_
    clear hB hh
    rintro ⟨bs, h⟩ ⟨hbs, hB, hh⟩
    dsimp only at hbs hB hh ⊢
    by_cases hlt : bs < n
    · have hb2 : 20 ≤ bs := hbs.1
      have hS := Phg.start hB
      clear hB hbs
      refine c_seq ?_
      refine csr ?_
      refine sm ?_
      refine sm ?_
      refine sy (y_T (y_lss rfl rfl) (by omega)) ?_
      refine snf ?_
      refine c_condT rfl ?_
      refine c_skip ?_
      refine f_then ?_
      refine c_block ?_
      refine csr ?_
      refine sm ?_
      refine sy (y_mul rfl rfl (by omega)) ?_
      refine sa ?_
      refine sa ?_
      refine snf ?_
      refine c_seq ?_
      refine c_block ?_
      refine c_loopP (α := Nat × (Nat → Nat)) (fun z => [(0, .slice (some ⟨bo, 0, none⟩) n cp), (1, .int .i64 (n : Int)), (2, .func (.func 123) #[] #[]), (6, .int .i64 (bs : Int)), (7, .int .i64 (z.1 : Int)), (8, .int .i64 ((z.1 + 2 * bs : Nat) : Int))]) (fun z => z.1 ≤ n ∧ Phg R z.2 bs n z.1 ∧ ∀ k, k < n → z.2 k < n) (fun z => K W (lrow bo Lf n rest (z.2) :: N)) (fun z => n - z.1) (0, h)
        ⟨rfl, rfl, rfl, rfl, rfl, congrArg (fun z => some (Value.int .i64 z)) (by dsimp only; omega), trivial⟩ ⟨Nat.zero_le _, hS, hh⟩ (fun w h => h) ?_
      clear hS hh
      rintro ⟨a, h⟩ ⟨ha, hS, hh⟩
      dsimp only at ha hS hh ⊢
      have eab : (a : Int) + (bs : Int) = ((a + bs : Nat) : Int) := by omega
      by_cases hb : a + 2 * bs ≤ n
      · have hM := (hS.two (by omega))
        rw [show min (a + 2 * bs) n = a + 2 * bs by omega] at hM
        have hI := symMerge_spec (W := W) (N := N) (rest := rest) (cp := cp) (bo := bo) hcmp (by omega) (2 * bs) (a := a) (m := a + bs) (b := a + 2 * bs) (f := h) (by omega) (by omega) (by omega) hb hh (hM.1.mrg hM.2)
        have hnx : ∀ h2, SOut R h h2 a (a + 2 * bs) → Phg R h2 bs n (a + 2 * bs) ∧ ∀ k, k < n → h2 k < n := fun h2 hO => ⟨hS.next (by omega) hb hO, hO.bd hh hb⟩
        clear hM hS hh hcmp
        refine c_seq ?_
        refine csr ?_
        refine sm ?_
        refine sm ?_
        refine sy (y_T (y_leq rfl rfl) (by omega)) ?_
        refine snf ?_
        refine c_condT rfl ?_
        refine c_skip ?_
        refine f_then ?_
        refine c_block ?_
        refine csr ?_
        refine sm ?_
        refine sm ?_
        refine sm ?_
        refine sm ?_
        refine sy (y_add rfl rfl (by omega)) ?_
        refine sm ?_
        refine sm ?_
        rw [eab]
        refine sk Tryz.call145 hI fun h2 => ?_
        have hh := hnx h2.1 h2.2
        clear hnx hI
        refine snf ?_
        refine csr ?_
        refine sm ?_
        refine sa ?_
        refine snf ?_
        refine c_region ?_
        refine sm ?_
        refine sm ?_
        refine sy (y_mul rfl rfl (by omega)) ?_
        refine sy (y_add rfl rfl (by omega)) ?_
        refine sa ?_
        refine s_nil ?_
        refine f_blockN ?_
        exact f_roundP (a + 2 * bs, h2.1) ⟨hb, hh.1, hh.2⟩ (by dsimp only; omega) ⟨rfl, rfl, rfl, rfl, rfl, congrArg (fun z => some (Value.int .i64 z)) (by dsimp only; omega), trivial⟩ (fun w h => h)
      · by_cases hm : a + bs < n
        · have hM := (hS.two hm)
          rw [show min (a + 2 * bs) n = n by omega] at hM
          have hI := symMerge_spec (W := W) (N := N) (rest := rest) (cp := cp) (bo := bo) hcmp (by omega) (2 * bs) (a := a) (m := a + bs) (b := n) (f := h) (by omega) (by omega) (by omega) (Nat.le_refl n) hh (hM.1.mrg hM.2)
          have hnx : ∀ h2, SOut R h h2 a n → BSg R h2 (2 * bs) n ∧ ∀ k, k < n → h2 k < n := fun h2 hO => ⟨hS.last hm (by omega) hO, hO.bd hh (Nat.le_refl n)⟩
          clear hM hS hh hcmp
          refine c_seq ?_
          refine csr ?_
          refine sm ?_
          refine sm ?_
          refine sy (y_F (y_leq rfl rfl) (by omega)) ?_
          refine snf ?_
          refine c_condF rfl ?_
          refine c_exit ?_
          refine f_thenE ?_
          refine f_rndE ?_
          refine f_blockE ?_
          refine f_then ?_
          refine c_seq ?_
          refine csr ?_
          refine sm ?_
          refine sm ?_
          refine sy (y_add rfl rfl (by omega)) ?_
          refine sa ?_
          refine snf ?_
          refine csr ?_
          refine sm ?_
          refine sm ?_
          refine sy (y_T (y_lss rfl rfl) (by omega)) ?_
          refine snf ?_
          refine c_condT rfl ?_
          refine c_region ?_
          refine sm ?_
          refine sm ?_
          refine sm ?_
          refine sm ?_
          refine sm ?_
          rw [eab]
          skip
          refine sk Tryz.call145 hI fun h2 => ?_
          have hh := hnx h2.1 h2.2
          clear hnx hI
          refine snf ?_
          refine c_region ?_
          refine sm ?_
          refine sy (y_mul rfl rfl (by omega)) ?_
          refine sa ?_
          refine s_nil ?_
          refine f_blockN ?_
          exact f_roundP (2 * bs, h2.1) ⟨⟨by dsimp only; omega, by dsimp only; omega⟩, hh.1, hh.2⟩ (by dsimp only; omega) ⟨rfl, rfl, rfl, congrArg (fun z => some (Value.int .i64 z)) (by dsimp only; omega), trivial⟩ (fun w h => h)
        · have hh2 := hS.over ha (by omega)
          clear hS hcmp
          refine c_seq ?_
          refine csr ?_
          refine sm ?_
          refine sm ?_
          refine sy (y_F (y_leq rfl rfl) (by omega)) ?_
          refine snf ?_
          refine c_condF rfl ?_
          refine c_exit ?_
          refine f_thenE ?_
          refine f_rndE ?_
          refine f_blockE ?_
          refine f_then ?_
          refine c_seq ?_
          refine csr ?_
          refine sm ?_
          refine sm ?_
          refine sy (y_add rfl rfl (by omega)) ?_
          refine sa ?_
          refine snf ?_
          refine csr ?_
          refine sm ?_
          refine sm ?_
          refine sy (y_F (y_lss rfl rfl) (by omega)) ?_
          refine snf ?_
          refine c_condF rfl ?_
          refine c_skip ?_
          refine f_then ?_
          refine c_region ?_
          refine sm ?_
          refine sy (y_mul rfl rfl (by omega)) ?_
          refine sa ?_
          refine s_nil ?_
          refine f_blockN ?_
          exact f_roundP (2 * bs, h) ⟨⟨by dsimp only; omega, by dsimp only; omega⟩, hh2, hh⟩ (by dsimp only; omega) ⟨rfl, rfl, rfl, congrArg (fun z => some (Value.int .i64 z)) (by dsimp only; omega), trivial⟩ (fun w h => h)
    · have hW := hB.whole (by omega)
      clear hB hh hcmp
      refine c_seq ?_
      refine csr ?_
      refine sm ?_
      refine sm ?_
      refine sy (y_F (y_lss rfl rfl) (by omega)) ?_
      refine snf ?_
      refine c_condF rfl ?_
      refine c_exit ?_
      refine f_thenE ?_
      refine f_rndE ?_
      refine f_blockE ?_
      exact f_end ⟨h, hW⟩ (res0 rfl) (fun w h => h)
set_option maxRecDepth 10000 in
theorem sortStable_spec {W : World} {N : List Chunk} {Lf : Nat → Lk} {rest : List Value} {cp : Nat} {bo n : Nat} {R : Nat → Nat} (hcmp : CmpL Lf n R) (hn : n ≤ 4096) : Spec Tryz.prog 122 #[.slice (some ⟨bo, 0, none⟩) n cp, .func (.func 123) #[] #[]] (K W (lrow bo Lf n rest (fun i => i) :: N)) (X := { g : Nat → Nat // Blk R g 0 n }) (fun _ => .tuple #[]) (fun g => K W (lrow bo Lf n rest (g.1) :: N)) := by
  have hI := stable_spec (W := W) (N := N) (rest := rest) (cp := cp) (bo := bo) hcmp hn
  clear hcmp
  refine enter (args := [_, _]) Tryz.func122 rfl Tryz.ntmps122 rfl ?_
  refine c_region ?_
  refine sm ?_
  refine sm ?_
  refine sy (y_len Tryz.tab rfl rfl) ?_
  refine sm ?_
  refine sk Tryz.call135 hI fun g => ?_
  refine s_nil ?_
  exact f_end g (res0 rfl) (fun w h => h)
end Go.KL
end

section
/- Walks: Clone, the sort of no locks. -/
namespace Go.KL
open Go.Proofs
section
variable {P : Program} {W w : World} {Ls : List Chunk} {n : Nat} {σ : Slots} {C D : World → Prop} {dst : Option Tmp} {ty : TypeId} {pos : String} {after : Array Edge} {guard : Option (Nat × Bool)}
theorem y_eqlSN (T : Tab P) {x : Operand} {t e t' : TypeId} {pa : Option Addr} {l c : Nat} (hx : ev σ x = some (.slice pa l c)) (ht : T.und t = some (.slice e)) :
    Ylds P n σ C ⟨dst, .binOp .eql t x (.const (.slice none 0 0)) t', ty, pos, after, guard⟩ (.bool pa.isNone) := by
  intro a w hE _
  have h := run_equal_slice_nil w t e pa l c (T.und_ok ht)
  have h2 : (binOp .eql t (.slice pa l c) (.slice none 0 0)).run P w = .ok (.bool pa.isNone) w := by
    simp only [binOp, Sem.run_bind, h, Result.andThen]
    rfl
  have h3 : eqGuard .eql t x (.const (.slice none 0 0)) (.slice pa l c) (.slice none 0 0) = pure () := by cases pa <;> rfl
  have h4 : a.eval (.const (.slice none 0 0)) = .slice none 0 0 := rfl
  simp only [execOp, ev_eval hE hx, h4, h3, Sem.run_bind, Sem.run_pure, Result.andThen, h2]
abbrev rixz (rows : List (List Value)) : Nat → Nat → Value := fun i j => ((rows[i]?).bind (·[j]?)).getD (.bool false)
theorem rixz_eq {s : Nat} {rows : List (List Value)} (h : lens s rows) {i j : Nat} (hi : i < rows.length) (hj : j < s) : rix rows i j = rixz rows i j := by
  obtain ⟨x, hx⟩ : ∃ x, rows[i]? = some x := ⟨rows[i], by simp [hi]⟩
  have h5 : x.length = s := h x (List.mem_of_getElem? hx)
  have hj' : j < x.length := by omega
  simp [rix, rixz, List.getD_eq_getElem?_getD, hx, List.getElem?_eq_getElem hj']
theorem vw_rows {s : Nat} {rows : List (List Value)} (h : lens s rows) : vw s rows.length (rixz rows) = rows.flatten := by
  apply List.ext_getElem?
  intro i
  have hl := flat_len h
  by_cases c : i < rows.length * s
  · have hs : 0 < s := by
      rcases Nat.eq_zero_or_pos s with e | e
      · subst e; omega
      · exact e
    have h1 : i / s < rows.length := (Nat.div_lt_iff_lt_mul hs).2 c
    have h2 := Nat.mod_lt i hs
    obtain ⟨x, hx⟩ : ∃ x, rows[i / s]? = some x := ⟨rows[i / s], by simp [h1]⟩
    have h3 := flat_get h hx h2
    rw [Nat.div_add_mod'] at h3
    have h4 := vw_get (g := rixz rows) h1 h2
    rw [Nat.div_add_mod'] at h4
    have h5 : x.length = s := h x (List.mem_of_getElem? hx)
    have hj' : i % s < x.length := by omega
    rw [h3, h4]
    simp [rixz, hx, List.getElem?_eq_getElem hj']
  · rw [List.getElem?_eq_none (by rw [vw_len]; omega), List.getElem?_eq_none (by omega)]
theorem BufR.ofGrown {e : TypeId} {s : Nat} {rows : List (List Value)} (h : lens s rows) (o : Grown s rows.length 0 (vw s rows.length (rixz rows))) : BufR e s (osl o.1 rows.length) (och e o.1 (vw s rows.length (rixz rows))) rows := by
  have e1 := vw_rows h
  refine ⟨h, ⟨.inr ⟨o.1, rfl, by rw [← e1], by rw [← e1]; exact o.2.1, List.eq_nil_of_length_eq_zero (Nat.le_zero.1 o.2.2)⟩⟩⟩
end
def ones (rows : List (List Value)) : Prop := ∀ x ∈ rows, ∀ y ∈ x, y.oneCell' = true
theorem ones.at {rows : List (List Value)} (h : ones rows) (i j : Nat) : (rixz rows i j).oneCell' = true := by
  simp only [rixz]
  cases h1 : rows[i]? with
  | none => rfl
  | some x =>
    simp only [Option.bind_some]
    cases h2 : x[j]? with
    | none => rfl
    | some y => exact h x (List.mem_of_getElem? h1) y (List.mem_of_getElem? h2)
theorem lks_ones (L : List Lk) : ones (lks L) := fun x hx y hy => by
  obtain ⟨l, _, rfl⟩ := List.mem_map.1 hx
  simp only [lkc, List.mem_cons, List.not_mem_nil, or_false] at hy
  rcases hy with rfl | rfl | rfl | rfl <;> rfl
theorem rnl_ones (L : List Rn) : ones (rnl L) := fun x hx y hy => by
  obtain ⟨l, _, rfl⟩ := List.mem_map.1 hx
  simp only [rnc, List.mem_cons, List.not_mem_nil, or_false] at hy
  rcases hy with rfl | rfl | rfl <;> rfl
attribute [local irreducible] SC St Fin Sq Ylds Doos Sets Enters Spec CellIs CellsAre Then Ret Rnd Chn resOK ints bools recs arr
section
variable {W : World} {N : List Chunk} {v : Value} {rows : List (List Value)}
set_option maxRecDepth 10000 in
theorem cloneL (hv : EV (K W N) v 4 rows) (h1 : ones rows) (hl : rows.length < 1000000) : Spec Tryz.prog 63 #[v] (K W N) (X := { x : Value × Chunk // BufR 111 4 x.1 x.2 rows }) (fun x => x.1.1) (fun x => K W (x.1.2 :: N)) := by
  have hV := hv.view.congr fun i hi j hj => rixz_eq hv.len hi hj
  obtain ⟨pa, c, rfl, hc, hp⟩ := hv.view
  refine enter (args := [_]) Tryz.func63 rfl Tryz.ntmps63 rfl ?_
  cases pa with
  | none =>
    have h0 : rows = [] := by
      refine List.eq_nil_of_length_eq_zero ?_
      rcases Nat.eq_zero_or_pos rows.length with e | e
      · exact e
      · obtain ⟨b, o, e2, _⟩ := hp e
        cases e2
    refine csr ?_
    refine sa ?_
    refine snf ?_
    refine c_seq ?_
    refine csr ?_
    refine sm ?_
    refine sy (y_eqlSN Tryz.tab rfl rfl) ?_
    refine snf ?_
    refine c_condT rfl ?_
    refine csr ?_
    refine sa ?_
    refine snf ?_
    refine c_ret ?_
    refine f_thenR ?_
    exact f_ret ⟨(.slice none 0 0, []), by rw [h0]; exact .nil⟩ (res1 rfl rfl) (fun w h => h.addNil)
  | some p =>
    refine csr ?_
    refine sa ?_
    refine snf ?_
    refine c_seq ?_
    refine csr ?_
    refine sm ?_
    refine sy (y_eqlSN Tryz.tab rfl rfl) ?_
    refine snf ?_
    refine c_condF rfl ?_
    refine c_skip ?_
    refine f_then ?_
    refine csr ?_
    refine s_do (do_buildSliceS Tryz.tab ⟨rfl, rfl, rfl, rfl⟩ rfl rfl rfl rfl) rfl rfl rfl (fun b5 => ?_)
    refine sm ?_
    refine s_do (do_appendE (by_ := 32) (b := b5) (e := 111) Tryz.tab 0 rfl rfl (hV.cls fun _ h => h.tail) ⟨rfl, rfl, rfl, rfl⟩ rfl rfl h1.at (by unfold maxLen; omega) (by omega)) rfl rfl rfl (fun x => ?_)
    refine sa ?_
    refine snf ?_
    refine c_ret ?_
    exact f_ret ⟨(osl x.1 rows.length, och 111 x.1 (vw 4 rows.length (rixz rows))), BufR.ofGrown hv.len x⟩ (res1 rfl rfl) (fun w h => h)
set_option maxRecDepth 10000 in
theorem cloneR (hv : EV (K W N) v 3 rows) (h1 : ones rows) (hl : rows.length < 1000000) : Spec Tryz.prog 59 #[v] (K W N) (X := { x : Value × Chunk // BufR 26 3 x.1 x.2 rows }) (fun x => x.1.1) (fun x => K W (x.1.2 :: N)) := by
  have hV := hv.view.congr fun i hi j hj => rixz_eq hv.len hi hj
  obtain ⟨pa, c, rfl, hc, hp⟩ := hv.view
  refine enter (args := [_]) Tryz.func59 rfl Tryz.ntmps59 rfl ?_
  cases pa with
  | none =>
    have h0 : rows = [] := by
      refine List.eq_nil_of_length_eq_zero ?_
      rcases Nat.eq_zero_or_pos rows.length with e | e
      · exact e
      · obtain ⟨b, o, e2, _⟩ := hp e
        cases e2
    refine csr ?_
    refine sa ?_
    refine snf ?_
    refine c_seq ?_
    refine csr ?_
    refine sm ?_
    refine sy (y_eqlSN Tryz.tab rfl rfl) ?_
    refine snf ?_
    refine c_condT rfl ?_
    refine csr ?_
    refine sa ?_
    refine snf ?_
    refine c_ret ?_
    refine f_thenR ?_
    exact f_ret ⟨(.slice none 0 0, []), by rw [h0]; exact .nil⟩ (res1 rfl rfl) (fun w h => h.addNil)
  | some p =>
    refine csr ?_
    refine sa ?_
    refine snf ?_
    refine c_seq ?_
    refine csr ?_
    refine sm ?_
    refine sy (y_eqlSN Tryz.tab rfl rfl) ?_
    refine snf ?_
    refine c_condF rfl ?_
    refine c_skip ?_
    refine f_then ?_
    refine csr ?_
    refine s_do (do_buildSliceS Tryz.tab ⟨rfl, rfl, rfl, rfl⟩ rfl rfl rfl rfl) rfl rfl rfl (fun b5 => ?_)
    refine sm ?_
    refine s_do (do_appendE (by_ := 24) (b := b5) (e := 26) Tryz.tab 0 rfl rfl (hV.cls fun _ h => h.tail) ⟨rfl, rfl, rfl, rfl⟩ rfl rfl h1.at (by unfold maxLen; omega) (by omega)) rfl rfl rfl (fun x => ?_)
    refine sa ?_
    refine snf ?_
    refine c_ret ?_
    exact f_ret ⟨(osl x.1 rows.length, och 26 x.1 (vw 3 rows.length (rixz rows))), BufR.ofGrown hv.len x⟩ (res1 rfl rfl) (fun w h => h)
end
section
variable {C : World → Prop} {pa : Option Addr} {c : Nat} {fv : Value}
set_option maxRecDepth 10000 in
theorem ins0 : Spec Tryz.prog 144 #[.slice pa 0 c, .int .i64 0, .int .i64 0, fv] C (fun _ : Unit => .tuple #[]) (fun _ => C) := by
  refine enter (args := [_, _, _, _]) Tryz.func144 rfl Tryz.ntmps144 rfl ?_
  refine csr ?_
  refine sm ?_
  refine sy (y_add rfl rfl (by omega)) ?_
  refine sa ?_
  refine snf ?_
  refine c_block ?_
  refine c_loopP (α := Unit) (fun _ => [(2, .int .i64 0), (8, .int .i64 1)]) (fun _ => True) (fun _ => C) (fun _ => 0) () ⟨rfl, rfl, trivial⟩ trivial (fun w h => h) ?_
  rintro _ _
  refine c_seq ?_
  refine csr ?_
  refine sm ?_
  refine sm ?_
  refine sy (y_F (y_lss rfl rfl) (by omega)) ?_
  refine snf ?_
  refine c_condF rfl ?_
  refine c_exit ?_
  refine f_thenE ?_
  refine f_rndE ?_
  refine f_blockE ?_
  exact f_end () (res0 rfl) (fun w h => h)
set_option maxRecDepth 10000 in
theorem stable0 : Spec Tryz.prog 135 #[.slice pa 0 c, .int .i64 0, fv] C (fun _ : Unit => .tuple #[]) (fun _ => C) := by
  refine enter (args := [_, _, _]) Tryz.func135 rfl Tryz.ntmps135 rfl ?_
  refine csr ?_
  refine sa ?_
  refine snf ?_
  refine csr ?_
  refine sm ?_
  refine sa ?_
  refine sa ?_
  refine snf ?_
  refine c_seq ?_
  refine c_block ?_
  refine c_loopP (α := Unit) (fun _ => [(0, .slice pa 0 c), (1, .int .i64 0), (2, fv), (6, .int .i64 20), (7, .int .i64 0), (8, .int .i64 20)]) (fun _ => True) (fun _ => C) (fun _ => 0) () ⟨rfl, rfl, rfl, rfl, rfl, rfl, trivial⟩ trivial (fun w h => h) ?_
  rintro _ _
  refine c_seq ?_
  refine csr ?_
  refine sm ?_
  refine sm ?_
  refine sy (y_F (y_leq rfl rfl) (by omega)) ?_
  refine snf ?_
  refine c_condF rfl ?_
  refine c_exit ?_
  refine f_thenE ?_
  refine f_rndE ?_
  refine f_blockE ?_
  refine f_then ?_
  refine csr ?_
  refine sm ?_
  refine sm ?_
  refine sm ?_
  refine sm ?_
  refine sk Tryz.call144 ins0 fun _ => ?_
  refine snf ?_
  refine c_block ?_
  refine c_loopP (α := Unit) (fun _ => [(1, .int .i64 0), (6, .int .i64 20)]) (fun _ => True) (fun _ => C) (fun _ => 0) () ⟨rfl, rfl, trivial⟩ trivial (fun w h => h) ?_
  rintro _ _
  refine c_seq ?_
  refine csr ?_
  refine sm ?_
  refine sm ?_
  refine sy (y_F (y_lss rfl rfl) (by omega)) ?_
  refine snf ?_
  refine c_condF rfl ?_
  refine c_exit ?_
  refine f_thenE ?_
  refine f_rndE ?_
  refine f_blockE ?_
  exact f_end () (res0 rfl) (fun w h => h)
set_option maxRecDepth 10000 in
theorem sort0 : Spec Tryz.prog 122 #[.slice pa 0 c, fv] C (fun _ : Unit => .tuple #[]) (fun _ => C) := by
  refine enter (args := [_, _]) Tryz.func122 rfl Tryz.ntmps122 rfl ?_
  refine c_region ?_
  refine sm ?_
  refine sm ?_
  refine sy (y_len Tryz.tab rfl rfl) ?_
  refine sm ?_
  refine sk Tryz.call135 stable0 fun _ => ?_
  refine s_nil ?_
  exact f_end () (res0 rfl) (fun w h => h)
end
end Go.KL
end
