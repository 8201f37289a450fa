/- The library of the proof, part 6: a program logic over the model, walks of functions, plain laws. No condition. -/
import Derived.Test.YtcbmmldkpicaiaaGreatL5
section
/- Walks: free, grant of the document's book. -/
namespace Go.KL
open Go.Proofs
attribute [local irreducible] SC St Fin Sq Ylds Doos Sets Enters Spec CellIs CellsAre Then Ret Rnd Chn resOK ints bools recs arr
section
variable {W : World} {N : List Chunk} {g : Rg}
set_option maxRecDepth 10000 in
set_option maxHeartbeats 4000000 in
theorem free_spec (hV : RV (K W N) g) {x : Lk} {n : Nat} (hq : n ≤ g.Q.length) (hc : g.rb.count < 100000) : Spec Tryz.prog 102 #[g.val, lkv x, .int .i64 (n : Nat)] (K W N) (X := Chunk) (fun _ => .bool (g.rb.free x n)) (fun c => K W (c :: N)) := by
  have hcc : g.rb.locks.length + g.Q.length < 100000 := hc
  have hlq : (lks g.Q).length = g.Q.length := List.length_map _
  refine enter (args := [_, _, _]) Tryz.func102 rfl Tryz.ntmps102 rfl ?_
  refine csr ?_
  refine sbx fun b3 => ?_
  refine sbx fun b4 => ?_
  refine sa ?_
  refine snf ?_
  refine c_seq ?_
  have hL := Locks_spec ((hV.cons (c := [(b3, row 42 g.cells)])).cons (c := [(b4, row 111 (lkc x))])) (by omega)
  have hD := fun (w : World) (h : K W ([(b4, row 111 (lkc x))] :: [(b3, row 42 g.cells)] :: N) w) => h
  have hqn : n ≤ g.q.c := by
    obtain ⟨pa, c', e, hc', _⟩ := hV.q.view
    injection e with e1 e2 e3
    omega
  have hqt := hV.q.upto (k := n) (by omega)
  refine c_plan [.c 0, .c 2, .c 3, .c 4, .c 5, .s 1, .s 6, .s 7] [] (K W ([(b4, row 111 (lkc x))] :: [(b3, row 42 g.cells)] :: N)) Tryz.mixed (by kernel_rfl) rfl K.cl ?_
  refine dy rfl (y_loadA Tryz.tab rfl rfl rfl rfl (cells_row0 1 rfl rfl)) hD ?_
  refine dy rfl (y_fieldAddrB Tryz.tab 3 rfl rfl rfl rfl rfl) hD ?_
  refine dy rfl (y_load Tryz.tab rfl rfl (cell_row 1 rfl rfl)) hD ?_
  refine dy rfl (y_move rfl) hD ?_
  refine dy rfl (y_sliceTo Tryz.tab rfl rfl rfl rfl rfl (by omega)) hD ?_
  refine d_call rfl (en_f rfl Tryz.call75) hL rfl rfl rfl (fun _ => K.cl) (fun _ _ _ h => h.tail) (fun y => ?_)
  obtain ⟨⟨v, c⟩, hB⟩ := y
  dsimp only at hB ⊢
  refine d_s rfl (do_appendRV (by_ := 32) Tryz.tab 0 rfl hB rfl hqt.cons.cons.cons ⟨rfl, rfl, rfl, rfl⟩ rfl (by omega) (Nat.lt_of_sub_eq_succ rfl) rfl (fun r hr => lks_all _ r (List.mem_of_mem_take hr)) (by rw [List.length_take, List.length_map]; omega) (by omega)) rfl rfl rfl (fun _ => K.cl) (fun _ _ _ h => h.tail) (fun y => ?_)
  obtain ⟨⟨v, c⟩, hB⟩ := y
  obtain ⟨al, hal⟩ : ∃ al, al = g.rb.locks ++ g.Q.take n := ⟨_, rfl⟩
  have hB : BufR 111 4 v c (lks al) := hB.of (by rw [hal]; simp [lks, List.map_take])
  have hall : al.length < 200000 := by rw [hal, List.length_append, List.length_take]; omega
  have hfr : g.rb.free x n = al.all fun y => !cfr x y := by rw [hal]; rfl
  have hla : (lks al).length = al.length := List.length_map _
  dsimp only
  clear hD hL
  have hD := fun (w : World) (h : K W (c :: [(b4, row 111 (lkc x))] :: [(b3, row 42 g.cells)] :: N) w) => h.tail
  refine d_sy rfl (y_assign rfl) rfl rfl rfl K.cl (fun _ => hD) ?_
  refine d_nil ?_
  refine f_then ?_
  refine c_seq ?_
  refine csr ?_
  refine sa ?_
  refine snf ?_
  refine c_block ?_
  have hE : EV (K W (c :: [(b4, row 111 (lkc x))] :: [(b3, row 42 g.cells)] :: N)) v 4 (lks al) := hB.view (Hs.at 0 rfl)
  rw [hfr]
  clear hfr hB hcc hlq hqt hqn
  refine c_loopP (α := Nat) (fun z => [(4, .pointer (some ⟨b4, 0, none⟩)), (7, v), (8, .int .i64 (z : Nat))]) (fun z => z ≤ al.length ∧ ∀ y ∈ al.take z, cfr x y = false) (fun _ => K W (c :: [(b4, row 111 (lkc x))] :: [(b3, row 42 g.cells)] :: N)) (fun z => al.length - z) 0 ⟨rfl, rfl, rfl, trivial⟩ ⟨Nat.zero_le _, fun y hy => by simp at hy⟩ (fun w h => h) ?_
  rintro z ⟨hz, hno⟩
  by_cases c1 : z < al.length
  · obtain ⟨y, hy⟩ : ∃ y, al[z]? = some y := ⟨al[z], List.getElem?_eq_getElem c1⟩
    have hrow := hE.row (lks_get hy)
    have hD := fun (w : World) (h : K W (c :: [(b4, row 111 (lkc x))] :: [(b3, row 42 g.cells)] :: N) w) => h
    refine c_seq ?_
    refine csr ?_
    refine sm ?_
    refine sm ?_
    refine sy (y_lenE Tryz.tab rfl (hE) rfl) ?_
    refine sy (y_T (y_lss rfl rfl) (by omega)) ?_
    refine snf ?_
    refine c_condT rfl ?_
    refine c_skip ?_
    refine f_then ?_
    refine c_seq ?_
    refine c_block ?_
    refine c_seq ?_
    refine c_plan [.c 0, .c 1, .c 2, .c 3, .c 4, .s 5] [] ((K W (c :: [(b4, row 111 (lkc x))] :: [(b3, row 42 g.cells)] :: N))) Tryz.mixed (by kernel_rfl) rfl K.cl ?_
    refine dy rfl (y_loadA Tryz.tab rfl rfl rfl rfl (cells_row0 1 rfl rfl)) hD ?_
    refine dy rfl (y_move rfl) hD ?_
    refine dy rfl (y_move rfl) hD ?_
    refine dy rfl (y_ixE Tryz.tab rfl rfl rfl rfl (hE) _ rfl (by omega)) hD ?_
    refine dy rfl (y_loadA Tryz.tab rfl rfl rfl rfl hrow) hD ?_
    refine d_call rfl (en_f rfl Tryz.call76) (Conflict_spec (a := x) (b := y)) rfl rfl rfl (fun _ => K.cl) (fun _ _ _ h => h) (fun _ => ?_)
    cases hcf : cfr x y with
    | false =>
      refine d_nil ?_
      refine f_then ?_
      refine c_condF rfl ?_
      refine c_skip ?_
      refine f_blockN ?_
      refine f_then ?_
      refine c_region ?_
      refine sm ?_
      refine sy (y_add rfl rfl (by omega)) ?_
      refine sa ?_
      refine s_nil ?_
      exact f_roundP (z + 1) ⟨c1, fun u hu => by
        rw [List.take_add_one, hy] at hu
        rcases List.mem_append.1 hu with hu | hu
        · exact hno u hu
        · have : u = y := by simpa using hu
          rw [this]; exact hcf⟩ (by omega) ⟨rfl, rfl, rfl, trivial⟩ (fun w h => h)
    | true =>
      rw [show (al.all fun y => !cfr x y) = false from List.all_eq_false.2 ⟨y, List.mem_of_getElem? hy, by rw [hcf]; decide⟩]
      refine d_nil ?_
      refine f_then ?_
      refine c_condT rfl ?_
      refine csr ?_
      refine sa ?_
      refine snf ?_
      refine c_ret ?_
      refine f_blockR ?_
      refine f_thenR ?_
      refine f_rndR ?_
      refine f_blockR ?_
      refine f_thenR ?_
      exact f_ret c (res1 rfl rfl) (fun w h => (h.dropAt 1).dropAt 1)
  · obtain rfl : z = al.length := by omega
    rw [List.take_length] at hno
    rw [show (al.all fun y => !cfr x y) = true from List.all_eq_true.2 fun y hy => by rw [hno y hy]; rfl]
    refine c_seq ?_
    refine csr ?_
    refine sm ?_
    refine sm ?_
    refine sy (y_lenE Tryz.tab rfl (hE) rfl) ?_
    refine sy (y_F (y_lss rfl rfl) (by omega)) ?_
    refine snf ?_
    refine c_condF rfl ?_
    refine c_exit ?_
    refine f_thenE ?_
    refine f_rndE ?_
    refine f_blockE ?_
    refine f_then ?_
    refine csr ?_
    refine sa ?_
    refine snf ?_
    refine c_ret ?_
    exact f_ret c (res1 rfl rfl) (fun w h => (h.dropAt 1).dropAt 1)
end
end Go.KL
end

section
/- Walks: grant of the document's book. -/
namespace Go.KL
open Go.Proofs
section
variable {P : Program} {W : World} {n : Nat} {σ : Slots} {Q : Post} {Y : Type}
theorem c_planJL (j dj : Nat) (u : Y → Value) (plan q : List PS) (last : List Nat) (D : World → Prop) (C : Option Y → World → Prop) {id : Nat} {l : List Oper} (hm : P.follows .mixedOrders = true) (hsB : (Region.noSelect l.toArray && planJ l.toArray (drOf last) j plan q (Array.replicate l.toArray.size false)) = true) (hl : planLen (plan ++ q) + 1 = l.toArray.size)
    (hC : Cl (C none)) (h : SJ P n l.toArray (drOf last) D Q j dj u plan q σ C) : SC P n Q (.region id l.toArray true) σ (C none) := by
  obtain ⟨hs, hB⟩ := Bool.and_eq_true_iff.1 hsB
  intro a w hE hw
  refine wpIn_region_any hm ?_
  have h1 := h.s0 _ a hE (fun j hj => by simp [Array.getElem?_replicate] at hj; split at hj <;> simp at hj) hB (Region.noSelect_spec hs)
  rw [hl] at h1
  exact wpAny_of_AnyC _ _ _ _ h1 _ (hC _ _ hw (Ext.drew w))
end
theorem K.perm {W w : World} {A B : List Chunk} (h : K W A w) (p : ∀ x : Chunk, ∀ (_ : DecidableEq Chunk), A.count x = B.count x) : K W B w := h.weak [] (by
  haveI : DecidableEq Chunk := fun a b => Classical.propDecidable (a = b)
  simpa using (List.perm_iff_count.2 fun x => p x _ : A.Perm B).flatten)
theorem K.fr1 {W w : World} {N G : List Chunk} {d a b c e f : Chunk} (h : K W (d :: a :: b :: c :: e :: f :: (N ++ G)) w) : K W ((d :: N) ++ (a :: b :: c :: e :: f :: G)) w := K.perm h fun x _ => by
  simp only [List.count_append, List.count_cons]
  omega
theorem K.fr2 {W w : World} {N G : List Chunk} {d u a b c e f : Chunk} (h : K W (u :: ((d :: N) ++ (a :: b :: c :: e :: f :: G))) w) : K W (u :: d :: a :: b :: c :: e :: f :: (N ++ G)) w := K.perm h fun x _ => by
  simp only [List.count_append, List.count_cons]
  omega
attribute [local irreducible] SC St Fin Sq Ylds Doos Sets Enters Spec CellIs CellsAre Then Ret Rnd Chn resOK ints bools recs arr
section
variable {W : World} {N G : List Chunk} {g : Rg}
set_option maxRecDepth 10000 in
set_option maxHeartbeats 4000000 in
theorem grant_spec (hV : RV (K W N) g) {x : Lk} {t : Dt} (hk : 1 ≤ x.tx ∧ x.tx ≤ g.ts.length) (ht : g.ts[x.tx - 1]? = some t) (hl : t.locks.length < 100000) : Spec Tryz.prog 103 #[g.val, lkv x] (K W (N ++ G))
    (X := { y : Rg × List Chunk // RV (K W (y.2 ++ N)) y.1 ∧ y.1.rb = g.rb.grant x }) (fun y => y.1.1.val) (fun y => K W (y.1.2 ++ (N ++ G))) := by
  have hdl : (dtl g.ts).length = g.ts.length := List.length_map _
  have hll : (lks t.locks).length = t.locks.length := List.length_map _
  have hn := hV.n
  have htm := List.mem_of_getElem? ht
  obtain ⟨jx, hjx⟩ : ∃ jx, jx = x.tx - 1 := ⟨_, rfl⟩
  have htj := ht
  rw [← hjx] at htj
  refine enter (args := [_, _]) Tryz.func103 rfl Tryz.ntmps103 rfl ?_
  refine csr ?_
  refine sbx fun b2 => ?_
  refine sbx fun b3 => ?_
  refine sal fun b4 => ?_
  refine snf ?_
  refine csr ?_
  refine sf 2 ?_
  refine slr 2 ?_
  refine sf0 ?_
  refine slr 1 ?_
  refine sy (y_sub rfl rfl (by omega)) ?_
  have hE : EV (K W ([(b4, row 42 [.int .i64 0, .slice none 0 0, .slice none 0 0, .slice none 0 0, .slice none 0 0])] :: [(b3, row 111 (lkc x))] :: [(b2, row 42 g.cells)] :: (N ++ G))) g.tv 3 (dtl g.ts) := (hV.t.cls fun _ h => K.pre h).cons.cons.cons
  have hrow := hE.row (i := jx) (x := t.cells) (by simp [htj])
  refine sy (y_ixE Tryz.tab rfl rfl rfl rfl (hE) jx (by omega) (by omega)) ?_
  refine sy (y_loadA Tryz.tab rfl rfl rfl rfl hrow) ?_
  refine sal fun b5 => ?_
  refine ss (set_box Tryz.tab 0 rfl rfl rfl rfl rfl rfl rfl) ?_
  refine snf ?_
  refine csr ?_
  refine sf0 ?_
  refine ss (set_rowB Tryz.tab 0 rfl rfl rfl rfl rfl rfl) ?_
  refine snf ?_
  refine c_seq ?_
  obtain ⟨N0, hN0⟩ : ∃ N0, N0 = [(b5, row 85 [.int .i64 1, t.lv, t.ov])] :: [(b4, row 42 [.int .i64 0, .slice none 0 0, .slice none 0 0, .slice none 0 0, .slice none 0 0])] :: [(b3, row 111 (lkc x))] :: [(b2, row 42 g.cells)] :: (N ++ G) := ⟨_, rfl⟩
  obtain ⟨F, hF⟩ : ∃ F : Option Nat → List Chunk, F = flo (fun b => [(b, row 111 (lkc x))]) := ⟨_, rfl⟩
  have hD : ∀ (A : List Chunk) (y : Option Nat) (w : World), K W (A ++ (F y ++ N0)) w → K W N0 w := fun A y w h => K.bck (K.bck h)
  have hEy : ∀ (A : List Chunk) (y : Option Nat), EV (K W (A ++ (F y ++ N0))) t.lv 4 (lks t.locks) := fun A y => (hV.tx t htm).l.cls fun w h => by
    have h2 := hD A y w h
    rw [hN0] at h2
    exact K.pre h2.tail.tail.tail.tail
  have hc5 : CellsAre (K W N0) ⟨b5, 0, none⟩ [.int .i64 1, t.lv, t.ov] := by rw [hN0]; exact cells_row0 0 rfl rfl
  have hc3 : CellsAre (K W N0) ⟨b3, 0, none⟩ (lkc x) := by rw [hN0]; exact cells_row0 2 rfl rfl
  have hal : ∀ (A : List Chunk) {σ : Slots} {o : Oper}, Doos Tryz.prog 27 σ (K W (A ++ N0)) o (fun b => Value.slice (some ⟨b, 0, none⟩) 1 1) (fun b => K W ([(b, row 111 (lkc x))] :: (A ++ N0))) → Outs Tryz.prog 27 σ (K W (A ++ (F none ++ N0))) o (fun b => Value.slice (some ⟨b, 0, none⟩) 1 1) (fun b => K W (A ++ (F (some b) ++ N0))) := fun A σ o h => by
    rw [hF]
    exact h.outs.conv fun b w hk => K.bckN (A := [[(b, row 111 (lkc x))]]) (B := A) hk
  refine SC.cls (C' := K W ([] ++ (F none ++ N0))) ?_ (fun w h => by rw [hF, hN0]; exact h)
  refine c_planJL (Y := Nat) 5 19 (fun b => .slice (some ⟨b, 0, none⟩) 1 1) [.c 1, .c 2, .c 4, .s 0, .s 3] [.s 6, .s 7, .s 8] [8] (K W N0) (fun y => K W ([] ++ (F y ++ N0))) Tryz.mixed (by kernel_rfl) rfl K.cl ?_
  refine j_c rfl (Qui.ylds (y_fieldAddrB Tryz.tab 1 rfl rfl rfl rfl rfl)) rfl (fun _ => rfl) rfl rfl rfl rfl rfl (hD _) (fun _ => K.cl) ?_
  refine j_c rfl (Qui.ylds (y_load Tryz.tab rfl rfl (CellsAre.nth 1 hc5 rfl))) rfl (fun _ => rfl) rfl rfl rfl rfl rfl (hD _) (fun _ => K.cl) ?_
  refine j_c rfl (Qui.ylds (y_loadA Tryz.tab rfl rfl rfl rfl hc3)) rfl (fun _ => rfl) rfl rfl rfl rfl rfl (hD _) (fun _ => K.cl) ?_
  refine j_s (C' := fun b y => K W ([(b, row 111 [])] :: [] ++ (F y ++ N0))) rfl rfl (fun y => (do_buildSliceS (vs := []) (len := 0) (ps := []) Tryz.tab ⟨rfl, rfl, rfl, rfl⟩ rfl rfl rfl rfl).outs) (hal [] (do_buildSliceS (vs := [lkv x]) (len := 1) (ps := [_]) Tryz.tab ⟨rfl, rfl, rfl, rfl⟩ rfl rfl rfl rfl)) rfl (fun _ => rfl) rfl rfl rfl rfl rfl rfl rfl (fun _ => K.cl) (fun _ _ => K.cl) (hD _) (fun b y => hD [_] y) (fun b => ?_)
  refine j_s (X := { u : Value × Chunk // BufR 111 4 u.1 u.2 ([] ++ lks t.locks) }) (v := fun u => u.1.1) (C' := fun x y => K W ([x.1.2] ++ (F y ++ N0))) rfl rfl (fun y => (do_appendRV (by_ := 32) Tryz.tab 0 rfl .lit rfl (hEy [_] y) ⟨rfl, rfl, rfl, rfl⟩ rfl (by omega) (Nat.lt_of_sub_eq_succ rfl) rfl (lks_all _) (by simp only [List.length_nil]; omega) (by omega)).outs) (hal [_] (do_buildSliceS (vs := [lkv x]) (len := 1) (ps := [_]) Tryz.tab ⟨rfl, rfl, rfl, rfl⟩ rfl rfl rfl rfl)) rfl (fun _ => rfl) rfl rfl rfl rfl rfl rfl rfl (fun _ => K.cl) (fun _ _ => K.cl) (hD [_]) (fun x y => hD [_] y) (fun u => ?_)
  obtain ⟨⟨u, d⟩, hu⟩ := u
  have hu : BufR 111 4 u d (lks t.locks) := hu
  refine j_j rfl (hal [_] (do_buildSliceS (vs := [lkv x]) (len := 1) (ps := [_]) Tryz.tab ⟨rfl, rfl, rfl, rfl⟩ rfl rfl rfl rfl)) rfl rfl rfl (fun _ => K.cl) (hD [_]) (fun b19 => ?_)
  refine Sd.cls (C' := K W (d :: [(b19, row 111 (lkc x))] :: [(b5, row 85 [.int .i64 1, t.lv, t.ov])] :: [(b4, row 42 [.int .i64 0, .slice none 0 0, .slice none 0 0, .slice none 0 0, .slice none 0 0])] :: [(b3, row 111 (lkc x))] :: [(b2, row 42 g.cells)] :: (N ++ G))) ?_ (fun w h => by
    rw [hF, hN0] at h
    exact h)
  refine d_s rfl (do_appendR (by_ := 32) (news := lkc x) Tryz.tab 0 rfl hu rfl ⟨rfl, rfl, rfl, rfl⟩ rfl (by simp) rfl (cells_row0 1 rfl rfl) rfl rfl (by omega) (by omega)) rfl rfl rfl (fun _ => K.cl) (fun _ _ w h => by rw [hN0]; exact h.tail.tail) (fun y => ?_)
  obtain ⟨⟨u2, d2⟩, hu2⟩ := y
  have hu2 : BufR 111 4 u2 d2 (lks (t.locks ++ [x])) := hu2.of (by simp)
  dsimp only
  obtain ⟨pv, kv, rfl, _, _⟩ := (hu2.view (C := K W (d2 :: [])) (Hs.at 0 rfl)).view
  refine d_sy rfl (y_fieldAddrB Tryz.tab 1 rfl rfl rfl rfl rfl) rfl rfl rfl K.cl (fun _ w h => by rw [hN0]; exact h.tail.tail) ?_
  refine d_set rfl (set_rowB Tryz.tab 2 rfl rfl rfl rfl rfl rfl) rfl rfl K.cl (fun h => by cases h) ?_
  refine d_nil ?_
  obtain ⟨t2, ht2⟩ : ∃ t2 : Dt, t2 = ⟨1, t.locks ++ [x], t.os, ⟨pv, kv⟩, t.o⟩ := ⟨_, rfl⟩
  clear hal hEy hD hc5 hc3
  have h2V : DtV (K W (d2 :: N)) t2 := by
    rw [ht2]
    exact ⟨hu2.view (Hs.at 0 rfl), (hV.tx t htm).o.cons, fun o ho => ((hV.tx t htm).r o ho).cons⟩
  have hput := put_spec (W := W) (N := d2 :: N) (G := [(b19, row 111 (lkc x))] :: [(b5, row 85 [.int .i64 1, .slice pv (lks (t.locks ++ [x])).length kv, t.ov])] :: [(b4, row 42 [.int .i64 0, .slice none 0 0, .slice none 0 0, .slice none 0 0, .slice none 0 0])] :: [(b3, row 111 (lkc x))] :: [(b2, row 42 g.cells)] :: G) (hV.cons (c := d2)) (k := x.tx) hk h2V
  have hrb : (g.setT (g.ts.set (x.tx - 1) t2) ⟨none, 0⟩).rb = g.rb.grant x := by
    rw [ht2]
    simp [Rg.rb, Rg.setT, RB.grant, RB.put, RB.tx, ht, Dt.rt]
  rw [ht2] at hput
  refine f_then ?_
  refine csr ?_
  refine sy (y_loadA Tryz.tab rfl rfl rfl rfl (cells_row0 5 rfl rfl)) ?_
  refine sf0 ?_
  refine slr 4 ?_
  refine sy (y_loadA Tryz.tab rfl rfl rfl rfl (cells_row0 2 rfl rfl)) ?_
  refine St.cls (C' := K W ((d2 :: N) ++ ([(b19, row 111 (lkc x))] :: [(b5, row 85 [.int .i64 1, .slice pv (lks (t.locks ++ [x])).length kv, t.ov])] :: [(b4, row 42 [.int .i64 0, .slice none 0 0, .slice none 0 0, .slice none 0 0, .slice none 0 0])] :: [(b3, row 111 (lkc x))] :: [(b2, row 42 g.cells)] :: G))) ?_ (fun w h => K.fr1 h)
  refine sk Tryz.call104 hput fun y => ?_
  obtain ⟨⟨wh, c⟩, hRV⟩ := y
  dsimp only at hRV ⊢
  refine St.cls (C' := K W (c :: d2 :: [(b19, row 111 (lkc x))] :: [(b5, row 85 [.int .i64 1, .slice pv (lks (t.locks ++ [x])).length kv, t.ov])] :: [(b4, row 42 [.int .i64 0, .slice none 0 0, .slice none 0 0, .slice none 0 0, .slice none 0 0])] :: [(b3, row 111 (lkc x))] :: [(b2, row 42 g.cells)] :: (N ++ G))) ?_ (fun w h => K.fr2 h)
  refine ss (set_box Tryz.tab 4 rfl rfl rfl rfl rfl rfl rfl) ?_
  refine snf ?_
  refine c_ret ?_
  refine f_ret ⟨(_, [c, d2]), hRV, ?_⟩ (resA Tryz.tab rfl rfl rfl rfl rfl (cells_row0 4 rfl rfl)) (fun w h => ((((h.dropAt 2).dropAt 2).dropAt 2).dropAt 2).dropAt 2)
  rw [← hrb, ht2]
  rfl
end
end Go.KL
end

section
/- Walks: end of the document's book. -/
namespace Go.KL
open Go.Proofs
def RB.EndOK (k : Nat) : List Lk → RB → Prop
  | [], _ => True
  | x :: l, b => x.tx = k ∧ EndOK k l b ∨ x.tx ≠ k ∧ b.count < 100000 ∧ b.has x.tx ∧ (b.tx x.tx).locks.length < 100000 ∧ b.Q.length < 100000 ∧ (b.free x b.Q.length = true ∧ EndOK k l (b.grant x) ∨ b.free x b.Q.length = false ∧ EndOK k l ⟨b.size, b.C, b.T, b.Q ++ [x], b.D⟩)
def Rg.setQ (g : Rg) (Q : List Lk) (q : Wh) : Rg := ⟨g.size, g.C, g.m, g.ts, g.t, Q, q, g.ds, g.d⟩
theorem RV.setQ {C D : World → Prop} {g : Rg} {Q : List Lk} {u : Wh} (h : RV C g) (hD : ∀ w, D w → C w) (hv : EV D (.slice u.p (lks Q).length u.c) 4 (lks Q)) : RV D (g.setQ Q u) := ⟨h.m.cls hD, h.t.cls hD, fun t ht => (h.tx t ht).cls hD, hv, h.d.cls hD, fun x hx => ⟨(h.dx x hx).1.cls hD, fun o ho => ((h.dx x hx).2 o ho).cls hD⟩, h.n⟩
theorem K.mv3 {W w : World} {N G : List Chunk} {a b c : Chunk} (h : K W (a :: b :: c :: (N ++ G)) w) : K W (N ++ (a :: b :: c :: G)) w := K.perm h fun x _ => by
  simp only [List.count_append, List.count_cons]
  omega
theorem K.mv3' {W w : World} {T N G : List Chunk} {a b c : Chunk} (h : K W (T ++ (N ++ (a :: b :: c :: G))) w) : K W (a :: b :: c :: ((T ++ N) ++ G)) w := K.perm h fun x _ => by
  simp only [List.count_append, List.count_cons]
  omega
theorem K.mv4 {W w : World} {N G : List Chunk} {d a b c : Chunk} (h : K W (d :: (N ++ (a :: b :: c :: G))) w) : K W (a :: b :: c :: ((d :: N) ++ G)) w := K.perm h fun x _ => by
  simp only [List.count_append, List.count_cons]
  omega
theorem K.mv5 {W w : World} {N : List Chunk} {d e a b c : Chunk} (h : K W (d :: e :: a :: b :: c :: N) w) : K W (a :: b :: c :: (d :: N)) w := (K.perm (B := e :: a :: b :: c :: (d :: N)) h fun x _ => by
  simp only [List.count_cons]
  omega).tail
attribute [local irreducible] SC St Fin Sq Ylds Doos Sets Enters Spec CellIs CellsAre Then Ret Rnd Chn resOK ints bools recs arr
section
variable {W : World} {N G : List Chunk} {g : Rg}
set_option maxRecDepth 10000 in
set_option maxHeartbeats 8000000 in
theorem end_spec (hV : RV (K W N) g) {k s : Nat} {t : Dt} (hk : 1 ≤ k ∧ k ≤ g.ts.length) (ht : g.ts[k - 1]? = some t) (hq : g.Q.length < 100000) (hE0 : RB.EndOK k g.Q ⟨g.size, g.C, (g.rb.put k ⟨s, t.locks, ops t.os⟩).T, [], g.rb.D⟩) : Spec Tryz.prog 87 #[g.val, .int .i64 (k : Nat), .int .i64 (s : Nat)] (K W (N ++ G))
    (X := { y : Rg × List Chunk // RV (K W (y.2 ++ N)) y.1 ∧ y.1.rb = g.rb.end_ k s }) (fun y => y.1.1.val) (fun y => K W (y.1.2 ++ (N ++ G))) := by
  have hdl : (dtl g.ts).length = g.ts.length := List.length_map _
  have hlq : (lks g.Q).length = g.Q.length := List.length_map _
  have hn := hV.n
  have htm := List.mem_of_getElem? ht
  obtain ⟨jx, hjx⟩ : ∃ jx, jx = k - 1 := ⟨_, rfl⟩
  have htj := ht
  rw [← hjx] at htj
  have hVG : RV (K W (N ++ G)) g := hV.cls fun _ h => K.pre h
  refine enter (args := [_, _, _]) Tryz.func87 rfl Tryz.ntmps87 rfl ?_
  refine csr ?_
  refine sbx fun b3 => ?_
  refine sal fun b6 => ?_
  refine snf ?_
  refine csr ?_
  refine sf 2 ?_
  refine slr 1 ?_
  refine sm ?_
  refine sy (y_sub rfl rfl (by omega)) ?_
  have hE : EV (K W ([(b6, row 42 [.int .i64 0, .slice none 0 0, .slice none 0 0, .slice none 0 0, .slice none 0 0])] :: [(b3, row 42 g.cells)] :: (N ++ G))) g.tv 3 (dtl g.ts) := hVG.t.cons.cons
  have hrow := hE.row (i := jx) (x := t.cells) (by simp [htj])
  refine sy (y_ixE Tryz.tab rfl rfl rfl rfl (hE) jx (by omega) (by omega)) ?_
  refine sy (y_loadA Tryz.tab rfl rfl rfl rfl hrow) ?_
  refine sal fun b7 => ?_
  refine ss (set_box Tryz.tab 0 rfl rfl rfl rfl rfl rfl rfl) ?_
  refine snf ?_
  refine csr ?_
  refine sm ?_
  refine sf0 ?_
  refine ss (set_rowB Tryz.tab 0 rfl rfl rfl rfl rfl rfl) ?_
  refine snf ?_
  refine csr ?_
  refine sy (y_loadA Tryz.tab rfl rfl rfl rfl (cells_row0 2 rfl rfl)) ?_
  refine sm ?_
  refine sy (y_loadA Tryz.tab rfl rfl rfl rfl (cells_row0 0 rfl rfl)) ?_
  obtain ⟨t1, ht1⟩ : ∃ t1 : Dt, t1 = ⟨s, t.locks, t.os, t.l, t.o⟩ := ⟨_, rfl⟩
  have hV1 : DtV (K W N) t1 := by
    rw [ht1]
    exact ⟨(hV.tx t htm).l, (hV.tx t htm).o, (hV.tx t htm).r⟩
  have hput := put_spec (W := W) (N := N) (G := [(b7, row 85 [.int .i64 (s : Nat), t.lv, t.ov])] :: [(b6, row 42 [.int .i64 0, .slice none 0 0, .slice none 0 0, .slice none 0 0, .slice none 0 0])] :: [(b3, row 42 g.cells)] :: G) hV hk hV1
  rw [ht1] at hput
  refine St.cls (C' := K W (N ++ ([(b7, row 85 [.int .i64 (s : Nat), t.lv, t.ov])] :: [(b6, row 42 [.int .i64 0, .slice none 0 0, .slice none 0 0, .slice none 0 0, .slice none 0 0])] :: [(b3, row 42 g.cells)] :: G))) ?_ (fun w h => K.mv3 h)
  refine sk Tryz.call104 hput fun y => ?_
  obtain ⟨⟨wh, c⟩, hRV⟩ := y
  dsimp only at hRV ⊢
  refine St.cls (C' := K W ([(b7, row 85 [.int .i64 (s : Nat), t.lv, t.ov])] :: [(b6, row 42 [.int .i64 0, .slice none 0 0, .slice none 0 0, .slice none 0 0, .slice none 0 0])] :: [(b3, row 42 g.cells)] :: ((c :: N) ++ G))) ?_ (fun w h => K.mv4 h)
  refine ss (set_box Tryz.tab 2 rfl rfl rfl rfl rfl rfl rfl) ?_
  refine snf ?_
  refine csr ?_
  refine sf 3 ?_
  refine slr 2 ?_
  refine sa ?_
  refine snf ?_
  refine csr ?_
  refine sf 3 ?_
  refine ss (set_rowB Tryz.tab 2 rfl rfl rfl rfl rfl rfl) ?_
  refine snf ?_
  refine c_seq ?_
  refine csr ?_
  refine sa ?_
  refine snf ?_
  refine c_block ?_
  have hRV := hRV.setQ (fun _ h => h) (Q := []) (u := ⟨none, 0⟩) EV.empty
  obtain ⟨g1, hg1⟩ : ∃ g1, g1 = (g.setT (g.ts.set (k - 1) ⟨s, t.locks, t.os, t.l, t.o⟩) wh).setQ [] ⟨none, 0⟩ := ⟨_, rfl⟩
  have hrb1 : g1.rb = ⟨g.size, g.C, (g.rb.put k ⟨s, t.locks, ops t.os⟩).T, [], g.rb.D⟩ := by
    rw [hg1]
    simp [Rg.rb, Rg.setT, Rg.setQ, RB.put, Dt.rt]
  have hend : RB.endl k g.Q g1.rb = g.rb.end_ k s := by
    rw [hrb1, RB.end_, rb_tx ht]
    rfl
  rw [← hg1] at hRV
  rw [← hrb1] at hE0
  refine SC.cls (C' := K W ([(b7, row 85 [.int .i64 (s : Nat), t.lv, t.ov])] :: [(b6, row 42 [.int .i64 0, .slice none 0 0, .slice none 0 0, .slice none 0 0, .slice none 0 0])] :: [(b3, row 42 g1.cells)] :: (([] ++ (c :: N)) ++ G))) ?_ (fun w h => by rw [hg1]; exact h)
  refine c_loopP (α := Nat × Rg × List Chunk) (fun z => [(1, .int .i64 (k : Nat)), (3, .pointer (some ⟨b3, 0, none⟩)), (6, .pointer (some ⟨b6, 0, none⟩)), (8, g.qv), (9, .int .i64 (z.1 : Nat))])
    (fun z => z.1 ≤ g.Q.length ∧ RV (K W (z.2.2 ++ (c :: N))) z.2.1 ∧ RB.endl k (g.Q.drop z.1) z.2.1.rb = g.rb.end_ k s ∧ RB.EndOK k (g.Q.drop z.1) z.2.1.rb)
    (fun z => K W ([(b7, row 85 [.int .i64 (s : Nat), t.lv, t.ov])] :: [(b6, row 42 [.int .i64 0, .slice none 0 0, .slice none 0 0, .slice none 0 0, .slice none 0 0])] :: [(b3, row 42 (z.2.1).cells)] :: ((z.2.2 ++ (c :: N)) ++ G))) (fun z => g.Q.length - z.1) (0, g1, []) ⟨rfl, rfl, rfl, rfl, rfl, trivial⟩ ⟨Nat.zero_le _, hRV, hend, hE0⟩ (fun w h => h) ?_
  clear hrb1 hend hE0 hRV hg1 hput hV1 ht1 hE hrow
  rintro ⟨i, h, T⟩ ⟨hi, hR, hen, hok⟩
  dsimp only at hi hR hen hok ⊢
  have hQ : EV (K W ([(b7, row 85 [.int .i64 (s : Nat), t.lv, t.ov])] :: [(b6, row 42 [.int .i64 0, .slice none 0 0, .slice none 0 0, .slice none 0 0, .slice none 0 0])] :: [(b3, row 42 h.cells)] :: ((T ++ (c :: N)) ++ G))) g.qv 4 (lks g.Q) := hV.q.cls fun w h => (K.bck (K.pre h.tail.tail.tail)).tail
  have hRc : RV (K W ([(b7, row 85 [.int .i64 (s : Nat), t.lv, t.ov])] :: [(b6, row 42 [.int .i64 0, .slice none 0 0, .slice none 0 0, .slice none 0 0, .slice none 0 0])] :: [(b3, row 42 h.cells)] :: ((T ++ (c :: N)) ++ G))) h := hR.cls fun w h => K.pre h.tail.tail.tail
  by_cases c1 : i < g.Q.length
  · obtain ⟨x, hx⟩ : ∃ x, g.Q[i]? = some x := ⟨g.Q[i], List.getElem?_eq_getElem c1⟩
    have hrow := hQ.row (lks_get hx)
    rw [drop_get' hx] at hen hok
    rcases hok with ⟨hxk, hok⟩ | ⟨hxk, k1, k2, k3, k4, hok⟩
    · rw [RB.endl, if_pos hxk] at hen
      refine c_seq ?_
      refine csr ?_
      refine sm ?_
      refine sm ?_
      refine sy (y_lenE Tryz.tab rfl (hQ) rfl) ?_
      refine sy (y_T (y_lss rfl rfl) (by omega)) ?_
      refine snf ?_
      refine c_condT rfl ?_
      refine c_skip ?_
      refine f_then ?_
      refine c_seq ?_
      refine c_block ?_
      refine c_seq ?_
      refine csr ?_
      refine sm ?_
      refine sm ?_
      refine sy (y_ixE Tryz.tab rfl rfl rfl rfl (hQ) _ rfl (by omega)) ?_
      refine sf0 ?_
      refine sl (CellsAre.at0 (hrow) rfl) ?_
      refine sm ?_
      refine sy (y_T (y_eql rfl rfl) (by omega)) ?_
      refine snf ?_
      refine c_condT rfl ?_
      refine c_exit ?_
      refine f_thenE ?_
      refine f_blockE ?_
      refine f_then ?_
      refine c_region ?_
      refine sm ?_
      refine sy (y_add rfl rfl (by omega)) ?_
      refine sa ?_
      refine s_nil ?_
      exact f_roundP (i + 1, h, T) ⟨c1, hR, hen, hok⟩ (by dsimp only; omega) ⟨rfl, rfl, rfl, rfl, rfl, trivial⟩ (fun w h => h)
    · rw [RB.endl, if_neg hxk] at hen
      have hlh : (lks h.Q).length = h.Q.length := List.length_map _
      have k5 : h.Q.length < 100000 := k4
      have hfr := free_spec hRc (x := x) (n := (lks h.Q).length) (Nat.le_of_eq hlh) k1
      have hD := fun (w : World) (h : K W ([(b7, row 85 [.int .i64 (s : Nat), t.lv, t.ov])] :: [(b6, row 42 [.int .i64 0, .slice none 0 0, .slice none 0 0, .slice none 0 0, .slice none 0 0])] :: [(b3, row 42 h.cells)] :: ((T ++ (c :: N)) ++ G)) w) => h
      refine c_seq ?_
      refine csr ?_
      refine sm ?_
      refine sm ?_
      refine sy (y_lenE Tryz.tab rfl (hQ) rfl) ?_
      refine sy (y_T (y_lss rfl rfl) (by omega)) ?_
      refine snf ?_
      refine c_condT rfl ?_
      refine c_skip ?_
      refine f_then ?_
      refine c_seq ?_
      refine c_block ?_
      refine c_seq ?_
      refine csr ?_
      refine sm ?_
      refine sm ?_
      refine sy (y_ixE Tryz.tab rfl rfl rfl rfl (hQ) _ rfl (by omega)) ?_
      refine sf0 ?_
      refine sl (CellsAre.at0 (hrow) rfl) ?_
      refine sm ?_
      refine sy (y_F (y_eql rfl rfl) (by omega)) ?_
      refine snf ?_
      refine c_condF rfl ?_
      refine c_skip ?_
      refine f_then ?_
      refine c_seq ?_
      refine c_plan [.c 0, .c 1, .c 2, .c 3, .c 4, .c 5, .c 6, .c 7, .s 8] [] ((K W ([(b7, row 85 [.int .i64 (s : Nat), t.lv, t.ov])] :: [(b6, row 42 [.int .i64 0, .slice none 0 0, .slice none 0 0, .slice none 0 0, .slice none 0 0])] :: [(b3, row 42 h.cells)] :: ((T ++ (c :: N)) ++ G)))) Tryz.mixed (by kernel_rfl) rfl K.cl ?_
      refine dy rfl (y_loadA Tryz.tab rfl rfl rfl rfl (cells_row0 2 rfl rfl)) hD ?_
      refine dy rfl (y_move rfl) hD ?_
      refine dy rfl (y_move rfl) hD ?_
      refine dy rfl (y_ixE Tryz.tab rfl rfl rfl rfl (hQ) _ rfl (by omega)) hD ?_
      refine dy rfl (y_loadA Tryz.tab rfl rfl rfl rfl hrow) hD ?_
      refine dy rfl (y_fieldAddrB Tryz.tab 3 rfl rfl rfl rfl rfl) hD ?_
      refine dy rfl (y_load Tryz.tab rfl rfl (cell_row 2 rfl rfl)) hD ?_
      refine dy rfl (y_len Tryz.tab rfl rfl) hD ?_
      refine d_call rfl (en_f rfl Tryz.call102) hfr rfl rfl rfl (fun _ => K.cl) (fun _ _ _ h => h.tail) (fun _ => ?_)
      refine Sd.cls (C' := K W ([(b7, row 85 [.int .i64 (s : Nat), t.lv, t.ov])] :: [(b6, row 42 [.int .i64 0, .slice none 0 0, .slice none 0 0, .slice none 0 0, .slice none 0 0])] :: [(b3, row 42 h.cells)] :: ((T ++ (c :: N)) ++ G))) ?_ (fun w h => h.tail)
      rcases hok with ⟨hf, hok⟩ | ⟨hf, hok⟩
      · rw [if_pos hf] at hen
        have hf : h.rb.free x (lks h.Q).length = true := by rw [hlh]; exact hf
        rw [hf]
        have hxt : 1 ≤ x.tx ∧ x.tx ≤ h.ts.length := rb_has.1 k2
        obtain ⟨u, hu⟩ : ∃ u, h.ts[x.tx - 1]? = some u := ⟨h.ts[x.tx - 1]'(by omega), List.getElem?_eq_getElem (by omega)⟩
        have hgr := grant_spec (W := W) (N := T ++ (c :: N)) (G := [(b7, row 85 [.int .i64 (s : Nat), t.lv, t.ov])] :: [(b6, row 42 [.int .i64 0, .slice none 0 0, .slice none 0 0, .slice none 0 0, .slice none 0 0])] :: [(b3, row 42 h.cells)] :: G) hR hxt hu (by rw [rb_tx hu] at k3; exact k3)
        refine d_nil ?_
        refine f_then ?_
        refine c_condT rfl ?_
        refine c_plan [.c 0, .c 1, .c 2, .c 3, .c 4, .s 5, .s 6] [6] (K W ([(b7, row 85 [.int .i64 (s : Nat), t.lv, t.ov])] :: [(b6, row 42 [.int .i64 0, .slice none 0 0, .slice none 0 0, .slice none 0 0, .slice none 0 0])] :: [(b3, row 42 h.cells)] :: ((T ++ (c :: N)) ++ G))) Tryz.mixed (by kernel_rfl) rfl K.cl ?_
        refine dy rfl (y_loadA Tryz.tab rfl rfl rfl rfl (cells_row0 2 rfl rfl)) hD ?_
        refine dy rfl (y_move rfl) hD ?_
        refine dy rfl (y_move rfl) hD ?_
        refine dy rfl (y_ixE Tryz.tab rfl rfl rfl rfl (hQ) _ rfl (by omega)) hD ?_
        refine dy rfl (y_loadA Tryz.tab rfl rfl rfl rfl hrow) hD ?_
        refine Sd.cls (C' := K W ((T ++ (c :: N)) ++ ([(b7, row 85 [.int .i64 (s : Nat), t.lv, t.ov])] :: [(b6, row 42 [.int .i64 0, .slice none 0 0, .slice none 0 0, .slice none 0 0, .slice none 0 0])] :: [(b3, row 42 h.cells)] :: G))) ?_ (fun w h => K.mv3 h)
        refine d_call rfl (en_f rfl Tryz.call103) hgr rfl rfl rfl (fun _ => K.cl) (fun _ _ _ h => K.mv3' (T := []) (K.bck h)) (fun y => ?_)
        obtain ⟨⟨h2, T2⟩, hR2, hb2⟩ := y
        dsimp only at hR2 hb2 ⊢
        refine Sd.cls (C' := K W ([(b7, row 85 [.int .i64 (s : Nat), t.lv, t.ov])] :: [(b6, row 42 [.int .i64 0, .slice none 0 0, .slice none 0 0, .slice none 0 0, .slice none 0 0])] :: [(b3, row 42 h.cells)] :: (((T2 ++ T) ++ (c :: N)) ++ G))) ?_ (fun w h => by
          have := K.mv3' h
          rw [← List.append_assoc T2] at this
          exact this)
        refine d_set rfl (set_aggB Tryz.tab 2 rfl rfl rfl rfl rfl rfl rfl) rfl rfl K.cl (fun h => by cases h) ?_
        refine d_nil ?_
        refine f_blockN ?_
        refine f_then ?_
        refine c_region ?_
        refine sm ?_
        refine sy (y_add rfl rfl (by omega)) ?_
        refine sa ?_
        refine s_nil ?_
        exact f_roundP (i + 1, h2, T2 ++ T) ⟨c1, by rw [List.append_assoc]; exact hR2, by rw [hb2]; exact hen, by rw [hb2]; exact hok⟩ (by dsimp only; omega) ⟨rfl, rfl, rfl, rfl, rfl, trivial⟩ (fun w h => h)
      · rw [if_neg (by rw [hf]; decide)] at hen
        have hf : h.rb.free x (lks h.Q).length = false := by rw [hlh]; exact hf
        rw [hf]
        refine d_nil ?_
        refine f_then ?_
        refine c_condF rfl ?_
        obtain ⟨N0, hN0⟩ : ∃ N0, N0 = [(b7, row 85 [.int .i64 (s : Nat), t.lv, t.ov])] :: [(b6, row 42 [.int .i64 0, .slice none 0 0, .slice none 0 0, .slice none 0 0, .slice none 0 0])] :: [(b3, row 42 h.cells)] :: ((T ++ (c :: N)) ++ G) := ⟨_, rfl⟩
        obtain ⟨F, hF⟩ : ∃ F : Option Nat → List Chunk, F = flo (fun b => [(b, row 111 (lkc x))]) := ⟨_, rfl⟩
        clear hD
        have hD : ∀ (A : List Chunk) (y : Option Nat) (w : World), K W (A ++ (F y ++ N0)) w → K W N0 w := fun A y w h => K.bck (K.bck h)
        have hEy : ∀ (A : List Chunk) (y : Option Nat), EV (K W (A ++ (F y ++ N0))) h.qv 4 (lks h.Q) := fun A y => hRc.q.cls fun w h => by
          have h2 := hD A y w h
          rw [hN0] at h2
          exact h2
        have hQ0 : EV (K W N0) g.qv 4 (lks g.Q) := by rw [hN0]; exact hQ
        have hrow0 := hQ0.row (lks_get hx)
        have hc3 : CellsAre (K W N0) ⟨b3, 0, none⟩ h.cells := by rw [hN0]; exact cells_row0 2 rfl rfl
        have hal : ∀ (A : List Chunk) {σ : Slots} {o : Oper}, Doos Tryz.prog 65 σ (K W (A ++ N0)) o (fun b => Value.slice (some ⟨b, 0, none⟩) 1 1) (fun b => K W ([(b, row 111 (lkc x))] :: (A ++ N0))) → Outs Tryz.prog 65 σ (K W (A ++ (F none ++ N0))) o (fun b => Value.slice (some ⟨b, 0, none⟩) 1 1) (fun b => K W (A ++ (F (some b) ++ N0))) := fun A σ o h => by
          rw [hF]
          exact h.outs.conv fun b w hk => K.bckN (A := [[(b, row 111 (lkc x))]]) (B := A) hk
        refine SC.cls (C' := K W ([] ++ (F none ++ N0))) ?_ (fun w h => by rw [hF, hN0]; exact h)
        refine c_planJL (Y := Nat) 8 61 (fun b => .slice (some ⟨b, 0, none⟩) 1 1) [.c 1, .c 2, .c 4, .c 5, .c 6, .c 7, .s 0, .s 3] [.s 9, .s 10, .s 11] [11] (K W N0) (fun y => K W ([] ++ (F y ++ N0))) Tryz.mixed (by kernel_rfl) rfl K.cl ?_
        refine j_c rfl (Qui.ylds (y_fieldAddrB Tryz.tab 3 rfl rfl rfl rfl rfl)) rfl (fun _ => rfl) rfl rfl rfl rfl rfl (hD _) (fun _ => K.cl) ?_
        refine j_c rfl (Qui.ylds (y_load Tryz.tab rfl rfl (CellsAre.nth 3 hc3 rfl))) rfl (fun _ => rfl) rfl rfl rfl rfl rfl (hD _) (fun _ => K.cl) ?_
        refine j_c rfl (Qui.ylds (y_move rfl)) rfl (fun _ => rfl) rfl rfl rfl rfl rfl (hD _) (fun _ => K.cl) ?_
        refine j_c rfl (Qui.ylds (y_move rfl)) rfl (fun _ => rfl) rfl rfl rfl rfl rfl (hD _) (fun _ => K.cl) ?_
        refine j_c rfl (Qui.ylds (y_ixE Tryz.tab rfl rfl rfl rfl hQ0 _ rfl (by omega))) rfl (fun _ => rfl) rfl rfl rfl rfl rfl (hD _) (fun _ => K.cl) ?_
        refine j_c rfl (Qui.ylds (y_loadA Tryz.tab rfl rfl rfl rfl hrow0)) rfl (fun _ => rfl) rfl rfl rfl rfl rfl (hD _) (fun _ => K.cl) ?_
        refine j_s (C' := fun b y => K W ([(b, row 111 [])] :: [] ++ (F y ++ N0))) rfl rfl (fun y => (do_buildSliceS (vs := []) (len := 0) (ps := []) Tryz.tab ⟨rfl, rfl, rfl, rfl⟩ rfl rfl rfl rfl).outs) (hal [] (do_buildSliceS (vs := [lkv x]) (len := 1) (ps := [_]) Tryz.tab ⟨rfl, rfl, rfl, rfl⟩ rfl rfl rfl rfl)) rfl (fun _ => rfl) rfl rfl rfl rfl rfl rfl rfl (fun _ => K.cl) (fun _ _ => K.cl) (hD _) (fun b y => hD [_] y) (fun b => ?_)
        refine j_s (X := { u : Value × Chunk // BufR 111 4 u.1 u.2 ([] ++ lks h.Q) }) (v := fun u => u.1.1) (C' := fun x y => K W ([x.1.2] ++ (F y ++ N0))) rfl rfl (fun y => (do_appendRV (by_ := 32) Tryz.tab 0 rfl .lit rfl (hEy [_] y) ⟨rfl, rfl, rfl, rfl⟩ rfl (by omega) (Nat.lt_of_sub_eq_succ rfl) rfl (lks_all _) (by simp only [List.length_nil]; omega) (by omega)).outs) (hal [_] (do_buildSliceS (vs := [lkv x]) (len := 1) (ps := [_]) Tryz.tab ⟨rfl, rfl, rfl, rfl⟩ rfl rfl rfl rfl)) rfl (fun _ => rfl) rfl rfl rfl rfl rfl rfl rfl (fun _ => K.cl) (fun _ _ => K.cl) (hD [_]) (fun x y => hD [_] y) (fun u => ?_)
        obtain ⟨⟨u, d⟩, hu⟩ := u
        have hu : BufR 111 4 u d (lks h.Q) := hu
        refine j_j rfl (hal [_] (do_buildSliceS (vs := [lkv x]) (len := 1) (ps := [_]) Tryz.tab ⟨rfl, rfl, rfl, rfl⟩ rfl rfl rfl rfl)) rfl rfl rfl (fun _ => K.cl) (hD [_]) (fun b61 => ?_)
        refine Sd.cls (C' := K W (d :: [(b61, row 111 (lkc x))] :: [(b7, row 85 [.int .i64 (s : Nat), t.lv, t.ov])] :: [(b6, row 42 [.int .i64 0, .slice none 0 0, .slice none 0 0, .slice none 0 0, .slice none 0 0])] :: [(b3, row 42 h.cells)] :: ((T ++ (c :: N)) ++ G))) ?_ (fun w h => by
          rw [hF, hN0] at h
          exact h)
        refine d_s rfl (do_appendR (by_ := 32) (news := lkc x) Tryz.tab 0 rfl hu rfl ⟨rfl, rfl, rfl, rfl⟩ rfl (by simp) rfl (cells_row0 1 rfl rfl) rfl rfl (by omega) (by omega)) rfl rfl rfl (fun _ => K.cl) (fun _ _ w h => by rw [hN0]; exact h.tail.tail) (fun y => ?_)
        obtain ⟨⟨u2, d2⟩, hu2⟩ := y
        have hu2 : BufR 111 4 u2 d2 (lks (h.Q ++ [x])) := hu2.of (by simp)
        dsimp only
        obtain ⟨pv, kv, rfl, _, _⟩ := (hu2.view (C := K W (d2 :: [])) (Hs.at 0 rfl)).view
        refine d_sy rfl (y_fieldAddrB Tryz.tab 3 rfl rfl rfl rfl rfl) rfl rfl rfl K.cl (fun _ w h => by rw [hN0]; exact h.tail.tail) ?_
        refine d_set rfl (set_rowB Tryz.tab 4 rfl rfl rfl rfl rfl rfl) rfl rfl K.cl (fun h => by cases h) ?_
        refine d_nil ?_
        have hRq : RV (K W ((d2 :: T) ++ (c :: N))) (h.setQ (h.Q ++ [x]) ⟨pv, kv⟩) := hR.setQ (fun w h => h.tail) (hu2.view (Hs.at 0 rfl))
        clear hal hEy hD hc3 hQ0 hrow0
        refine f_blockN ?_
        refine f_then ?_
        refine c_region ?_
        refine sm ?_
        refine sy (y_add rfl rfl (by omega)) ?_
        refine sa ?_
        refine s_nil ?_
        exact f_roundP (i + 1, h.setQ (h.Q ++ [x]) ⟨pv, kv⟩, d2 :: T) ⟨c1, hRq, hen, hok⟩ (by dsimp only; omega) ⟨rfl, rfl, rfl, rfl, rfl, trivial⟩ (fun w h => K.mv5 h)
  · obtain rfl : i = g.Q.length := by omega
    rw [List.drop_length] at hen
    refine c_seq ?_
    refine csr ?_
    refine sm ?_
    refine sm ?_
    refine sy (y_lenE Tryz.tab rfl (hQ) rfl) ?_
    refine sy (y_F (y_lss rfl rfl) (by omega)) ?_
    refine snf ?_
    refine c_condF rfl ?_
    refine c_exit ?_
    refine f_thenE ?_
    refine f_rndE ?_
    refine f_blockE ?_
    refine f_then ?_
    refine csr ?_
    refine sy (y_loadA Tryz.tab rfl rfl rfl rfl (cells_row0 2 rfl rfl)) ?_
    refine ss (set_box Tryz.tab 1 rfl rfl rfl rfl rfl rfl rfl) ?_
    refine snf ?_
    refine c_ret ?_
    exact f_ret ⟨(h, T ++ [c]), by rw [List.append_assoc]; exact hR, hen⟩ (resA Tryz.tab rfl rfl rfl rfl rfl (cells_row0 1 rfl rfl)) (fun w h => by
      have := h.tail.tail.tail
      rw [List.append_assoc]
      rw [List.append_assoc] at this
      exact this)
end
end Go.KL
end

section
/- The document's book and the program's stay the same: Begin, Abort, Commit; plain. No program in sight. -/
namespace Go.KL
namespace Sm
variable {A : Bk} {b : RB} {m : Nat}
abbrev qs (b : RB) (Q : List Lk) : RB := ⟨b.size, b.C, b.T, Q, b.D⟩
theorem free_qs {b : RB} {Q : List Lk} {x : Lk} : (qs b (b.Q ++ Q)).free x b.Q.length = b.free x b.Q.length := by
  unfold RB.free
  rw [List.take_left, List.take_length]
  rfl
theorem endl_gr {k : Nat} : ∀ (L : List Lk) (l : List Nat) (A : Bk) (b : RB) (st : List Nat), (A.wq (st ++ l)).Inv m → Sm (A.wq (st ++ l)) (qs b (b.Q ++ l.map fun j => (A.tx j).req)) →
    b.Q = (st.map fun j => (A.tx j).req) → (L.filter fun x => !decide (x.tx = k)) = (l.map fun j => (A.tx j).req) →
    Sm ((Bk.gr A l st).1.wq (Bk.gr A l st).2) (RB.endl k L b) ∧ RB.EndOK k L b
  | [], l, A, b, st, hI, hS, hQ, hL => by
    have : l = [] := by
      cases l with
      | nil => rfl
      | cons a l => simp at hL
    subst this
    rw [List.append_nil, List.map_nil, List.append_nil] at hS
    exact ⟨hS, trivial⟩
  | x :: L, l, A, b, st, hI, hS, hQ, hL => by
    by_cases c : x.tx = k
    · rw [List.filter_cons, if_neg (by simp [c])] at hL
      obtain ⟨h1, h2⟩ := endl_gr L l A b st hI hS hQ hL
      rw [RB.endl, if_pos c]
      exact ⟨h1, .inl ⟨c, h2⟩⟩
    · rw [List.filter_cons, if_pos (by simp [c])] at hL
      obtain ⟨j, l', rfl, hx, hL⟩ : ∃ j l', l = j :: l' ∧ x = (A.tx j).req ∧ (L.filter fun x => !decide (x.tx = k)) = (l'.map fun j => (A.tx j).req) := by
        cases l with
        | nil => simp at hL
        | cons j l' =>
          rw [List.map_cons] at hL
          exact ⟨j, l', rfl, (List.cons.inj hL).1, (List.cons.inj hL).2⟩
      have hjq : j ∈ (A.wq (st ++ j :: l')).q := List.mem_append_right _ (List.mem_cons_self ..)
      obtain ⟨hj1, hj2, _⟩ := hI.rq j hjq
      have hj1 : (A.tx j).req.tx = j := hj1
      have hj2 : (A.tx j).req.lo < (A.tx j).req.hi := hj2
      have hh : (A.wq (st ++ j :: l')).has j := hI.qhas hjq
      have hr : j ∈ A.rn := hI.qrn hjq
      have hb : b.has j := hS.has.2 hh
      have hxj : x.tx = j := by rw [hx]; exact hj1
      have hlen : b.Q.length = st.length := by rw [hQ, List.length_map]
      have hfr : b.free x b.Q.length = A.free (A.tx j).req st := by
        have := hS.free hI (x := x) (by rw [hx]; exact hj2) b.Q.length
        rw [free_qs] at this
        rw [this, hlen, hx]
        show A.free (A.tx j).req ((st ++ j :: l').take st.length) = _
        rw [List.take_left]
      have hnd := (nodup_mid (l := l') (k := j) (st := st) hI.qnd).1
      have hcn : b.count < 100000 := by
        have h1 := hS.count hI
        have h2 := hI.cnt
        unfold RB.count at h1 ⊢
        have h3 : (qs b (b.Q ++ (j :: l').map fun j => (A.tx j).req)).locks = b.locks := rfl
        have h4 : b.Q.length ≤ (qs b (b.Q ++ (j :: l').map fun j => (A.tx j).req)).Q.length := by
          show _ ≤ (b.Q ++ _).length
          rw [List.length_append]
          omega
        rw [h3] at h1
        omega
      have hrun := hS.run j hr
      have hrun1 : (b.tx j).locks = (A.tx j).locks := hrun.1
      have hrun2 : (b.tx j).ops = (A.tx j).ops := hrun.2
      have hll : (b.tx x.tx).locks.length < 100000 := by
        rw [hxj, hrun1]
        have h2 := hI.cnt
        unfold Bk.count at h2
        have h3 : (A.tx j).locks.length ≤ (A.rn.map fun k => (A.tx k).locks.length).sum := sum_mem (f := fun k => (A.tx k).locks.length) hr
        have h4 : ((A.wq (st ++ j :: l')).rn.map fun k => ((A.wq (st ++ j :: l')).tx k).locks.length).sum = (A.rn.map fun k => (A.tx k).locks.length).sum := rfl
        rw [h4] at h2
        omega
      have hqn : b.Q.length < 100000 := by
        unfold RB.count at hcn
        omega
      rw [RB.endl, if_neg c]
      cases hf : A.free (A.tx j).req st with
      | true =>
        rw [hf] at hfr
        rw [if_pos hfr]
        have e : Bk.gr A (j :: l') st = Bk.gr (A.grant j) l' st := by rw [Bk.gr, if_pos hf]
        rw [e]
        have hI2 := Bk.grant_inv hI hf
        have hreq : ∀ i ∈ st ++ l', ((A.grant j).tx i).req = (A.tx i).req := fun i hi => by
          have hne : i ≠ j := fun e => hnd (e ▸ hi)
          have hin : i ∈ (A.wq (st ++ j :: l')).q := Bk.mem_mid.2 (.inr hi)
          have hhi : (A.wq (st ++ j :: l')).has i := hI.qhas hin
          rw [Bk.grant_tx (A := A) hh hhi, if_neg hne]
        have hm1 : (st.map fun i => ((A.grant j).tx i).req) = (st.map fun i => (A.tx i).req) := List.map_congr_left fun i hi => hreq i (List.mem_append_left _ hi)
        have hm2 : (l'.map fun i => ((A.grant j).tx i).req) = (l'.map fun i => (A.tx i).req) := List.map_congr_left fun i hi => hreq i (List.mem_append_right _ hi)
        have hup := hS.upd hI (k := j) (t := ⟨1, (A.tx j).locks ++ [(A.tx j).req], Lk.zero, (A.tx j).ops⟩) (u := ⟨1, (b.tx j).locks ++ [x], (b.tx j).ops⟩) (q := st ++ l') (W := A.W) (Q := b.Q ++ l'.map fun i => ((A.grant j).tx i).req) hh rfl (fun _ => ⟨by rw [hrun1, hx], hrun2⟩) (by
          rw [hm2, hQ, ← List.map_append]
          refine List.map_congr_left fun i hi => ?_
          rw [if_neg (show i ≠ j from fun e => hnd (e ▸ hi))]
          rfl) (fun i hi => hI.qhas (Bk.mem_mid.2 (.inr hi)))
        have hbg : b.grant x = b.put j ⟨1, (b.tx j).locks ++ [x], (b.tx j).ops⟩ := by rw [RB.grant, hxj]
        obtain ⟨h1, h2⟩ := endl_gr L l' (A.grant j) (b.grant x) st hI2 (by
          rw [hbg]
          exact hup) (by
          rw [hm1]
          exact hQ) (by rw [hm2]; exact hL)
        exact ⟨h1, .inr ⟨c, hcn, by rw [hxj]; exact hb, hll, hqn, .inl ⟨hfr, h2⟩⟩⟩
      | false =>
        rw [hf] at hfr
        rw [if_neg (by rw [hfr]; decide)]
        have e : Bk.gr A (j :: l') st = Bk.gr A l' (st ++ [j]) := by rw [Bk.gr, if_neg (by rw [hf]; decide)]
        rw [e]
        have ea : st ++ j :: l' = (st ++ [j]) ++ l' := by simp
        obtain ⟨h1, h2⟩ := endl_gr L l' A (qs b (b.Q ++ [x])) (st ++ [j]) (by rw [← ea]; exact hI) (by
          rw [← ea]
          have ex : qs (qs b (b.Q ++ [x])) ((qs b (b.Q ++ [x])).Q ++ l'.map fun j => (A.tx j).req) = qs b (b.Q ++ (j :: l').map fun j => (A.tx j).req) := by
            simp [qs, hx]
          rw [ex]
          exact hS) (by
          show b.Q ++ [x] = _
          rw [hQ, List.map_append, hx]
          rfl) hL
        exact ⟨h1, .inr ⟨c, hcn, by rw [hxj]; exact hb, hll, hqn, .inr ⟨hfr, h2⟩⟩⟩
theorem ended (h : Sm A b) {k s : Nat} {r : Lk} {C W : Nat → Nat} {lg : List (Nat × List Oa)} {u : RT} (hk : A.has k) (hs : u.st = s) (hI : A.Inv m) (hE : (A.ended k s r C W lg).Inv m) :
    Sm (A.ended k s r C W lg).fin (RB.endl k b.Q ⟨b.size, C, (b.put k u).T, [], lg⟩) ∧ RB.EndOK k b.Q ⟨b.size, C, (b.put k u).T, [], lg⟩ := by
  have hkb := h.has.2 hk
  have hb : ∀ {j}, A.has j → (⟨b.size, C, (b.put k u).T, [], lg⟩ : RB).tx j = if j = k then u else b.tx j := fun hj => RB.tx_put hkb (h.has.2 hj)
  refine endl_gr b.Q (A.ended k s r C W lg).q (A.ended k s r C W lg) ⟨b.size, C, (b.put k u).T, [], lg⟩ [] hE ?_ rfl ?_
  · refine ⟨h.size, rfl, ?_, fun j hj => ?_, fun j hj => ?_, ?_, rfl⟩
    · show (b.T.set _ _).length = (A.ts.set _ _).length
      rw [List.length_set, List.length_set, h.len]
    · have hj' : A.has j := Bk.ended_has.1 hj
      show ((⟨b.size, C, (b.put k u).T, [], lg⟩ : RB).tx j).st = ((A.ended k s r C W lg).tx j).st
      rw [hb hj', Bk.ended_tx hk hj']
      split
      · exact hs
      · exact h.st j hj'
    · obtain ⟨hj1, hne⟩ := Bk.mem_ne.1 (show j ∈ A.rn.filter fun j => !decide (j = k) from hj)
      have hj' := hI.has hj1
      show ((⟨b.size, C, (b.put k u).T, [], lg⟩ : RB).tx j).locks = ((A.ended k s r C W lg).tx j).locks ∧ ((⟨b.size, C, (b.put k u).T, [], lg⟩ : RB).tx j).ops = ((A.ended k s r C W lg).tx j).ops
      rw [hb hj', Bk.ended_tx hk hj', if_neg hne, if_neg hne]
      exact h.run j hj1
    · show [] ++ _ = _
      rfl
  · show (b.Q.filter fun x => !decide (x.tx = k)) = ((A.q.filter fun j => !decide (j = k)).map fun j => ((A.ended k s r C W lg).tx j).req)
    rw [h.Q, Bk.reqs, List.filter_map]
    have e1 : (A.q.filter ((fun x : Lk => !decide (x.tx = k)) ∘ fun j => (A.tx j).req)) = (A.q.filter fun j => !decide (j = k)) := List.filter_congr fun j hj => by
      show (!decide ((A.tx j).req.tx = k)) = _
      rw [(hI.rq j hj).1]
    rw [e1]
    refine List.map_congr_left fun j hj => ?_
    obtain ⟨hj1, hne⟩ := Bk.mem_ne.1 hj
    rw [Bk.ended_tx hk (hI.qhas hj1), if_neg hne]
theorem abort (h : Sm A b) {k : Nat} (hk : A.has k) (hI : A.Inv m) : Sm (A.abort k) (b.end_ k 4) ∧ RB.EndOK k b.Q ⟨b.size, b.C, (b.put k ⟨4, (b.tx k).locks, (b.tx k).ops⟩).T, [], b.D⟩ := by
  rw [Bk.abort_eq hk]
  have := h.ended (C := A.C) (W := KL.un A.W (A.tx k).ops) (lg := A.log) (r := Lk.zero) (s := 4) (u := ⟨4, (b.tx k).locks, (b.tx k).ops⟩) hk rfl hI (hI.ab hk)
  rw [← h.C, ← h.D] at this ⊢
  exact this
theorem commit (h : Sm A b) {k : Nat} (hr : k ∈ A.rn) (hI : A.Inv m) : Sm (A.commit k) (b.commit k) ∧ RB.EndOK k b.Q ⟨b.size, ap b.C (b.tx k).ops, (b.put k ⟨3, (b.tx k).locks, (b.tx k).ops⟩).T, [], b.D ++ [(k, (b.tx k).ops)]⟩ := by
  have hk := hI.has hr
  rw [Bk.commit_eq hk]
  have := h.ended (C := ap A.C (A.tx k).ops) (W := A.W) (lg := A.log ++ [(k, (A.tx k).ops)]) (r := (A.tx k).req) (s := 3) (u := ⟨3, (b.tx k).locks, (b.tx k).ops⟩) hk rfl hI (hI.cm hk hr)
  rw [← h.C, ← h.D, ← (h.run k hr).2] at this ⊢
  exact this
theorem begin (h : Sm A b) (hI : A.Inv m) : Sm A.begin b.begin := by
  have hl := h.len
  have htb : ∀ {j}, A.has j → b.begin.tx j = b.tx j := fun {j} hj => by
    unfold Bk.has at hj
    unfold RB.tx RB.begin
    rw [List.getD_eq_getElem?_getD, List.getD_eq_getElem?_getD, List.getElem?_append_left (by omega)]
  have hnb : b.begin.tx (A.ts.length + 1) = ⟨1, [], []⟩ := by
    unfold RB.tx RB.begin
    rw [List.getD_eq_getElem?_getD, List.getElem?_append_right (by omega), show A.ts.length + 1 - 1 - b.T.length = 0 from by omega]
    rfl
  refine ⟨h.size, h.C, by simp [RB.begin, Bk.begin, hl], fun j hj => ?_, fun j hj => ?_, ?_, h.D⟩
  · rcases Bk.begin_has.1 hj with c | rfl
    · rw [htb c, Bk.begin_tx c]; exact h.st j c
    · rw [hnb, Bk.begin_new]; rfl
  · rcases List.mem_append.1 (show j ∈ A.rn ++ [A.ts.length + 1] from hj) with c | c
    · have := hI.has c
      rw [htb this, Bk.begin_tx this]
      exact h.run j c
    · rw [List.mem_singleton.1 c, hnb, Bk.begin_new]
      exact ⟨rfl, rfl⟩
  · show b.Q = A.q.map fun j => (A.begin.tx j).req
    rw [h.Q, Bk.reqs]
    exact List.map_congr_left fun j hj => by rw [Bk.begin_tx (hI.qhas hj)]
end Sm
end Go.KL
end

section
/- Walks: Abort of the document's book. -/
namespace Go.KL
open Go.Proofs
theorem K.mv2 {W w : World} {N G : List Chunk} {a b : Chunk} (h : K W (a :: b :: (N ++ G)) w) : K W (N ++ (a :: b :: G)) w := K.perm h fun x _ => by
  simp only [List.count_append, List.count_cons]
  omega
theorem K.mv2' {W w : World} {T N G : List Chunk} {a b : Chunk} (h : K W (T ++ (N ++ (a :: b :: G))) w) : K W (a :: b :: (T ++ (N ++ G))) w := K.perm h fun x _ => by
  simp only [List.count_append, List.count_cons]
  omega
def RB.Ab (b : RB) (k : Int) (b' : RB) (e : Nat) : Prop := (b.ref k false ≠ 0 ∧ b' = b ∧ e = b.ref k false) ∨ (b.ref k false = 0 ∧ e = 0 ∧ ∃ j : Nat, k = j ∧ b' = b.end_ j 4)
attribute [local irreducible] SC St Fin Sq Ylds Doos Sets Enters Spec CellIs CellsAre Then Ret Rnd Chn resOK ints bools recs arr
section
variable {W : World} {N G : List Chunk} {g : Rg}
set_option maxRecDepth 10000 in
set_option maxHeartbeats 4000000 in
theorem RAbort_spec (hV : RV (K W N) g) {k : Int} (h5 : g.rb.stI k < 5) (hq : g.Q.length < 100000) (hE0 : ∀ (j : Nat) (t : Dt), k = j → g.rb.ref k false = 0 → g.ts[j - 1]? = some t → RB.EndOK j g.Q ⟨g.size, g.C, (g.rb.put j ⟨4, t.locks, ops t.os⟩).T, [], g.rb.D⟩) : Spec Tryz.prog 50 #[g.val, .int .i64 k] (K W (N ++ G))
    (X := { y : Rg × List Chunk × Nat // RV (K W (y.2.1 ++ N)) y.1 ∧ g.rb.Ab k y.1.rb y.2.2 }) (fun y => .tuple #[y.1.1.val, .int .i64 (y.1.2.2 : Nat)]) (fun y => K W (y.1.2.1 ++ (N ++ G))) := by
  have hVG : RV (K W (N ++ G)) g := hV.cls fun _ h => K.pre h
  refine enter (args := [_, _]) Tryz.func50 rfl Tryz.ntmps50 rfl ?_
  refine csr ?_
  refine sbx fun b2 => ?_
  refine sal fun b4 => ?_
  refine sa ?_
  refine snf ?_
  refine csr ?_
  refine sy (y_loadA Tryz.tab rfl rfl rfl rfl (cells_row0 1 rfl rfl)) ?_
  refine sm ?_
  refine sk Tryz.call83 (refused_spec hVG.cons.cons h5) fun _ => ?_
  obtain ⟨e, he⟩ : ∃ e, g.rb.ref k false = e := ⟨_, rfl⟩
  rw [he]
  by_cases c : e = 0
  · subst c
    have hst : 1 ≤ k ∧ k ≤ g.ts.length := by
      refine Classical.byContradiction fun hc => ?_
      have h0 : g.rb.stI k = 0 := by rw [RB.stI, if_neg (by simp only [Rg.rb, List.length_map]; exact hc)]
      rw [RB.ref, if_pos h0] at he
      cases he
    obtain ⟨j, rfl⟩ : ∃ j : Nat, k = j := ⟨k.toNat, by omega⟩
    obtain ⟨t, ht⟩ : ∃ t, g.ts[j - 1]? = some t := ⟨g.ts[j - 1]'(by omega), List.getElem?_eq_getElem (by omega)⟩
    have hen := end_spec (W := W) (G := [(b4, row 42 [.int .i64 0, .slice none 0 0, .slice none 0 0, .slice none 0 0, .slice none 0 0])] :: [(b2, row 42 g.cells)] :: G) (s := 4) hV (by omega) ht hq (hE0 j t rfl he ht)
    refine sa ?_
    refine snf ?_
    refine c_seq ?_
    refine csr ?_
    refine sm ?_
    refine sy (y_F (y_neq rfl rfl) (by omega)) ?_
    refine snf ?_
    refine c_condF rfl ?_
    refine c_skip ?_
    refine f_then ?_
    refine csr ?_
    refine sy (y_loadA Tryz.tab rfl rfl rfl rfl (cells_row0 1 rfl rfl)) ?_
    refine sm ?_
    refine St.cls (C' := K W (N ++ ([(b4, row 42 [.int .i64 0, .slice none 0 0, .slice none 0 0, .slice none 0 0, .slice none 0 0])] :: [(b2, row 42 g.cells)] :: G))) ?_ (fun w h => K.mv2 h)
    refine sk Tryz.call87 hen fun y => ?_
    obtain ⟨⟨g2, T⟩, hR2, hb2⟩ := y
    dsimp only at hR2 hb2 ⊢
    refine St.cls (C' := K W ([(b4, row 42 [.int .i64 0, .slice none 0 0, .slice none 0 0, .slice none 0 0, .slice none 0 0])] :: [(b2, row 42 g.cells)] :: (T ++ (N ++ G)))) ?_ (fun w h => K.mv2' h)
    refine ss (set_box Tryz.tab 0 rfl rfl rfl rfl rfl rfl rfl) ?_
    refine sa ?_
    refine snf ?_
    refine c_ret ?_
    exact f_ret ⟨(g2, T, 0), hR2, .inr ⟨he, rfl, j, rfl, hb2⟩⟩ (resA1 Tryz.tab rfl rfl rfl rfl rfl rfl (cells_row0 0 rfl rfl)) (fun w h => h.tail.tail)
  · refine sa ?_
    refine snf ?_
    refine c_seq ?_
    refine csr ?_
    refine sm ?_
    refine sy (y_T (y_neq rfl rfl) (by omega)) ?_
    refine snf ?_
    refine c_condT rfl ?_
    refine csr ?_
    refine sy (y_loadA Tryz.tab rfl rfl rfl rfl (cells_row0 1 rfl rfl)) ?_
    refine sm ?_
    refine ss (set_box Tryz.tab 0 rfl rfl rfl rfl rfl rfl rfl) ?_
    refine sa ?_
    refine snf ?_
    refine c_ret ?_
    refine f_thenR ?_
    exact f_ret ⟨(g, [], e), hV, .inl ⟨by rw [he]; exact c, rfl, he.symm⟩⟩ (resA1 Tryz.tab rfl rfl rfl rfl rfl rfl (cells_row0 0 rfl rfl)) (fun w h => h.tail.tail)
end
end Go.KL
end

section
/- Walks: Commit of the document's book. -/
namespace Go.KL
open Go.Proofs
def Rg.setM (g : Rg) (C : Nat → Nat) (m : Wh) : Rg := ⟨g.size, C, m, g.ts, g.t, g.Q, g.q, g.ds, g.d⟩
def Rg.setD (g : Rg) (ds : List Lg) (d : Wh) : Rg := ⟨g.size, g.C, g.m, g.ts, g.t, g.Q, g.q, ds, d⟩
theorem RV.setM {C D : World → Prop} {g : Rg} {f : Nat → Nat} {u : Wh} (h : RV C g) (hD : ∀ w, D w → C w) (hm : RMp D (.slice u.p (rnl (rns f 0 g.size)).length u.c) g.size f) : RV D (g.setM f u) := ⟨hm, h.t.cls hD, fun t ht => (h.tx t ht).cls hD, h.q.cls hD, h.d.cls hD, fun x hx => ⟨(h.dx x hx).1.cls hD, fun o ho => ((h.dx x hx).2 o ho).cls hD⟩, h.n⟩
theorem RV.setD {C D : World → Prop} {g : Rg} {ds : List Lg} {u : Wh} (h : RV C g) (hD : ∀ w, D w → C w) (hv : EV D (.slice u.p (lgr ds).length u.c) 2 (lgr ds)) (hx : ∀ x ∈ ds, EV D x.2.1 6 (opl x.2.2) ∧ ∀ o ∈ x.2.2, EV D o.2 3 (rnl o.1.runs)) : RV D (g.setD ds u) := ⟨h.m.cls hD, h.t.cls hD, fun t ht => (h.tx t ht).cls hD, h.q.cls hD, hv, hx, h.n⟩
theorem lgr_one {C : World → Prop} {ds : List Lg} (h : ∀ x ∈ ds, EV C x.2.1 6 (opl x.2.2) ∧ ∀ o ∈ x.2.2, EV C o.2 3 (rnl o.1.runs)) : ∀ r ∈ lgr ds, r.all Value.oneCell' = true := fun r hr => by
  obtain ⟨x, hx, rfl⟩ := List.mem_map.1 hr
  obtain ⟨pa, c, e, _, _⟩ := (h x hx).1.view
  rw [e]
  rfl
theorem K.mv6 {W w : World} {T N G : List Chunk} {d e a b : Chunk} (h : K W (d :: e :: a :: b :: (T ++ (N ++ G))) w) : K W ((d :: (T ++ N)) ++ (a :: b :: G)) w := (K.perm (B := e :: ((d :: (T ++ N)) ++ (a :: b :: G))) h fun x _ => by
  simp only [List.count_append, List.count_cons]
  omega).tail
def RB.Cm (b : RB) (k : Int) (b' : RB) (n e : Nat) : Prop := (b.ref k true ≠ 0 ∧ b' = b ∧ n = 0 ∧ e = b.ref k true) ∨ (b.ref k true = 0 ∧ e = 0 ∧ n = b.D.length + 1 ∧ ∃ j : Nat, k = j ∧ b' = b.commit j)
attribute [local irreducible] SC St Fin Sq Ylds Doos Sets Enters Spec CellIs CellsAre Then Ret Rnd Chn resOK ints bools recs arr
section
variable {W : World} {N G : List Chunk} {g : Rg}
set_option maxRecDepth 10000 in
set_option maxHeartbeats 8000000 in
theorem RCommit_spec (hV : RV (K W N) g) {k : Int} (h5 : g.rb.stI k < 5) (hq : g.Q.length < 100000) (hds : g.ds.length < 100000)
    (hT : ∀ (j : Nat) (t : Dt), k = j → g.rb.ref k true = 0 → g.ts[j - 1]? = some t → Rep g.size g.C (ops t.os) ∧ (∀ i, nbd (ap g.C ((ops t.os).take i)) g.size ≤ 4096) ∧ t.os.length < 100000 ∧ RB.EndOK j g.Q ⟨g.size, ap g.C (ops t.os), (g.rb.put j ⟨3, t.locks, ops t.os⟩).T, [], g.rb.D ++ [(j, ops t.os)]⟩) : Spec Tryz.prog 49 #[g.val, .int .i64 k] (K W (N ++ G))
    (X := { y : Rg × List Chunk × Nat × Nat // RV (K W (y.2.1 ++ N)) y.1 ∧ g.rb.Cm k y.1.rb y.2.2.1 y.2.2.2 }) (fun y => .tuple #[y.1.1.val, .int .i64 (y.1.2.2.1 : Nat), .int .i64 (y.1.2.2.2 : Nat)]) (fun y => K W (y.1.2.1 ++ (N ++ G))) := by
  have hVG : RV (K W (N ++ G)) g := hV.cls fun _ h => K.pre h
  have hdl : (dtl g.ts).length = g.ts.length := List.length_map _
  have hgl : (lgr g.ds).length = g.ds.length := List.length_map _
  have hn := hV.n
  refine enter (args := [_, _]) Tryz.func49 rfl Tryz.ntmps49 rfl ?_
  refine csr ?_
  refine sbx fun b2 => ?_
  refine sal fun b4 => ?_
  refine sa ?_
  refine sa ?_
  refine snf ?_
  refine csr ?_
  refine sy (y_loadA Tryz.tab rfl rfl rfl rfl (cells_row0 1 rfl rfl)) ?_
  refine sm ?_
  refine sk Tryz.call83 (refused_spec hVG.cons.cons h5) fun _ => ?_
  obtain ⟨e, he⟩ : ∃ e, g.rb.ref k true = e := ⟨_, rfl⟩
  rw [he]
  by_cases c : e = 0
  · subst c
    have hst : 1 ≤ k ∧ k ≤ g.ts.length := by
      refine Classical.byContradiction fun hc => ?_
      have h0 : g.rb.stI k = 0 := by rw [RB.stI, if_neg (by simp only [Rg.rb, List.length_map]; exact hc)]
      rw [RB.ref, if_pos h0] at he
      cases he
    obtain ⟨j, rfl⟩ : ∃ j : Nat, k = j := ⟨k.toNat, by omega⟩
    obtain ⟨jx, hjx⟩ : ∃ jx, jx = j - 1 := ⟨_, rfl⟩
    obtain ⟨t, ht⟩ : ∃ t, g.ts[j - 1]? = some t := ⟨g.ts[j - 1]'(by omega), List.getElem?_eq_getElem (by omega)⟩
    have htj := ht
    rw [← hjx] at htj
    have htm := List.mem_of_getElem? ht
    obtain ⟨t1, t2, t3, t4⟩ := hT j t rfl he ht
    have hvw := View_spec (W := W) (G := [(b4, row 42 [.int .i64 0, .slice none 0 0, .slice none 0 0, .slice none 0 0, .slice none 0 0])] :: [(b2, row 42 g.cells)] :: G) hV (k := j) (by omega) ht t1 t2 (by omega)
    refine sa ?_
    refine snf ?_
    refine c_seq ?_
    refine csr ?_
    refine sm ?_
    refine sy (y_F (y_neq rfl rfl) (by omega)) ?_
    refine snf ?_
    refine c_condF rfl ?_
    refine c_skip ?_
    refine f_then ?_
    refine csr ?_
    refine sy (y_loadA Tryz.tab rfl rfl rfl rfl (cells_row0 1 rfl rfl)) ?_
    refine sm ?_
    refine St.cls (C' := K W (N ++ ([(b4, row 42 [.int .i64 0, .slice none 0 0, .slice none 0 0, .slice none 0 0, .slice none 0 0])] :: [(b2, row 42 g.cells)] :: G))) ?_ (fun w h => K.mv2 h)
    refine sk Tryz.call85 hvw fun y => ?_
    obtain ⟨⟨vm, T⟩, hRm⟩ := y
    dsimp only at hRm ⊢
    obtain ⟨pm, km, rfl, _, _⟩ := hRm.v.view
    have hR1 : RV (K W (T ++ N)) (g.setM (ap g.C (ops t.os)) ⟨pm, km⟩) := hV.setM (fun w h => K.bck h) hRm
    refine St.cls (C' := K W ([(b4, row 42 [.int .i64 0, .slice none 0 0, .slice none 0 0, .slice none 0 0, .slice none 0 0])] :: [(b2, row 42 g.cells)] :: (T ++ (N ++ G)))) ?_ (fun w h => K.mv2' h)
    refine sf0 ?_
    refine ss (set_aggB Tryz.tab 1 rfl rfl rfl rfl rfl rfl rfl) ?_
    refine snf ?_
    refine c_seq ?_
    obtain ⟨N0, hN0⟩ : ∃ N0, N0 = [(b4, row 42 [.int .i64 0, .slice none 0 0, .slice none 0 0, .slice none 0 0, .slice none 0 0])] :: [(b2, row 42 [.int .i64 (g.size : Nat), .slice pm (rnl (rns (ap g.C (ops t.os)) 0 g.size)).length km, g.tv, g.qv, g.dv])] :: (T ++ (N ++ G)) := ⟨_, rfl⟩
    have hVc : RV (K W N0) g := by rw [hN0]; exact hV.cls fun w h => K.pre (K.bck h.tail.tail)
    obtain ⟨F, hF⟩ : ∃ F : Option Nat → List Chunk, F = flo (fun b => [(b, row 58 [.int .i64 (j : Nat), t.ov])]) := ⟨_, rfl⟩
    have hD : ∀ (A : List Chunk) (y : Option Nat) (w : World), K W (A ++ (F y ++ N0)) w → K W N0 w := fun A y w h => K.bck (K.bck h)
    have hEy : ∀ (A : List Chunk) (y : Option Nat), EV (K W (A ++ (F y ++ N0))) g.dv 2 (lgr g.ds) := fun A y => hVc.d.cls (hD A y)
    have hE0 := hVc.t
    have hrow0 := hE0.row (i := jx) (x := t.cells) (by simp [htj])
    have hc2 : CellsAre (K W N0) ⟨b2, 0, none⟩ [.int .i64 (g.size : Nat), .slice pm (rnl (rns (ap g.C (ops t.os)) 0 g.size)).length km, g.tv, g.qv, g.dv] := by rw [hN0]; exact cells_row0 1 rfl rfl
    have hone := lgr_one hVc.dx
    have hal : ∀ (A : List Chunk) {σ : Slots} {o : Oper}, Doos Tryz.prog 41 σ (K W (A ++ N0)) o (fun b => Value.slice (some ⟨b, 0, none⟩) 1 1) (fun b => K W ([(b, row 58 [.int .i64 (j : Nat), t.ov])] :: (A ++ N0))) → Outs Tryz.prog 41 σ (K W (A ++ (F none ++ N0))) o (fun b => Value.slice (some ⟨b, 0, none⟩) 1 1) (fun b => K W (A ++ (F (some b) ++ N0))) := fun A σ o h => by
      rw [hF]
      exact h.outs.conv fun b w hk => K.bckN (A := [[(b, row 58 [.int .i64 (j : Nat), t.ov])]]) (B := A) hk
    refine SC.cls (C' := K W ([] ++ (F none ++ N0))) ?_ (fun w h => by rw [hF, hN0]; exact h)
    refine c_planJL (Y := Nat) 13 32 (fun b => .slice (some ⟨b, 0, none⟩) 1 1) [.c 1, .c 2, .c 4, .c 5, .c 6, .c 7, .c 8, .c 9, .c 10, .c 11, .c 12, .s 0, .s 3] [.s 14, .s 15, .s 16] [16] (K W N0) (fun y => K W ([] ++ (F y ++ N0))) Tryz.mixed (by kernel_rfl) rfl K.cl ?_
    refine j_c rfl (Qui.ylds (y_fieldAddrB Tryz.tab 4 rfl rfl rfl rfl rfl)) rfl (fun _ => rfl) rfl rfl rfl rfl rfl (hD _) (fun _ => K.cl) ?_
    refine j_c rfl (Qui.ylds (y_load Tryz.tab rfl rfl (CellsAre.nth 4 hc2 rfl))) rfl (fun _ => rfl) rfl rfl rfl rfl rfl (hD _) (fun _ => K.cl) ?_
    refine j_c rfl (Qui.ylds (y_move rfl)) rfl (fun _ => rfl) rfl rfl rfl rfl rfl (hD _) (fun _ => K.cl) ?_
    refine j_c rfl (Qui.ylds (y_fieldAddrB Tryz.tab 2 rfl rfl rfl rfl rfl)) rfl (fun _ => rfl) rfl rfl rfl rfl rfl (hD _) (fun _ => K.cl) ?_
    refine j_c rfl (Qui.ylds (y_load Tryz.tab rfl rfl (CellsAre.nth 2 hc2 rfl))) rfl (fun _ => rfl) rfl rfl rfl rfl rfl (hD _) (fun _ => K.cl) ?_
    refine j_c rfl (Qui.ylds (y_move rfl)) rfl (fun _ => rfl) rfl rfl rfl rfl rfl (hD _) (fun _ => K.cl) ?_
    refine j_c rfl (Qui.ylds (y_sub rfl rfl (by omega))) rfl (fun _ => rfl) rfl rfl rfl rfl rfl (hD _) (fun _ => K.cl) ?_
    refine j_c rfl (Qui.ylds (y_ixE Tryz.tab rfl rfl rfl rfl hE0 jx (by omega) (by omega))) rfl (fun _ => rfl) rfl rfl rfl rfl rfl (hD _) (fun _ => K.cl) ?_
    refine j_c rfl (Qui.ylds (y_fieldAddr Tryz.tab 2 rfl rfl rfl rfl rfl)) rfl (fun _ => rfl) rfl rfl rfl rfl rfl (hD _) (fun _ => K.cl) ?_
    refine j_c rfl (Qui.ylds (y_load Tryz.tab rfl rfl (CellsAre.nth 2 hrow0 rfl))) rfl (fun _ => rfl) rfl rfl rfl rfl rfl (hD _) (fun _ => K.cl) ?_
    refine j_c rfl (Qui.ylds (y_build Tryz.tab rfl rfl rfl rfl rfl)) rfl (fun _ => rfl) rfl rfl rfl rfl rfl (hD _) (fun _ => K.cl) ?_
    refine j_s (C' := fun b y => K W ([(b, row 58 [])] :: [] ++ (F y ++ N0))) rfl rfl (fun y => (do_buildSliceS (vs := []) (len := 0) (ps := []) Tryz.tab ⟨rfl, rfl, rfl, rfl⟩ rfl rfl rfl rfl).outs) (hal [] (do_buildSliceS (vs := [.agg #[.int .i64 (j : Nat), t.ov]]) (len := 1) (ps := [_]) Tryz.tab ⟨rfl, rfl, rfl, rfl⟩ rfl rfl rfl rfl)) rfl (fun _ => rfl) rfl rfl rfl rfl rfl rfl rfl (fun _ => K.cl) (fun _ _ => K.cl) (hD _) (fun b y => hD [_] y) (fun b => ?_)
    refine j_s (X := { u : Value × Chunk // BufR 58 2 u.1 u.2 ([] ++ lgr g.ds) }) (v := fun u => u.1.1) (C' := fun x y => K W ([x.1.2] ++ (F y ++ N0))) rfl rfl (fun y => (do_appendRV (by_ := 32) Tryz.tab 0 rfl .lit rfl (hEy [_] y) ⟨rfl, rfl, rfl, rfl⟩ rfl (by omega) (Nat.lt_of_sub_eq_succ rfl) rfl hone (by simp only [List.length_nil]; omega) (by omega)).outs) (hal [_] (do_buildSliceS (vs := [.agg #[.int .i64 (j : Nat), t.ov]]) (len := 1) (ps := [_]) Tryz.tab ⟨rfl, rfl, rfl, rfl⟩ rfl rfl rfl rfl)) rfl (fun _ => rfl) rfl rfl rfl rfl rfl rfl rfl (fun _ => K.cl) (fun _ _ => K.cl) (hD [_]) (fun x y => hD [_] y) (fun u => ?_)
    obtain ⟨⟨u, d⟩, hu⟩ := u
    have hu : BufR 58 2 u d (lgr g.ds) := hu
    refine j_j rfl (hal [_] (do_buildSliceS (vs := [.agg #[.int .i64 (j : Nat), t.ov]]) (len := 1) (ps := [_]) Tryz.tab ⟨rfl, rfl, rfl, rfl⟩ rfl rfl rfl rfl)) rfl rfl rfl (fun _ => K.cl) (hD [_]) (fun b32 => ?_)
    refine Sd.cls (C' := K W (d :: [(b32, row 58 [.int .i64 (j : Nat), t.ov])] :: [(b4, row 42 [.int .i64 0, .slice none 0 0, .slice none 0 0, .slice none 0 0, .slice none 0 0])] :: [(b2, row 42 [.int .i64 (g.size : Nat), .slice pm (rnl (rns (ap g.C (ops t.os)) 0 g.size)).length km, g.tv, g.qv, g.dv])] :: (T ++ (N ++ G)))) ?_ (fun w h => by
      rw [hF, hN0] at h
      exact h)
    refine d_s rfl (do_appendR (by_ := 32) (news := [.int .i64 (j : Nat), t.ov]) Tryz.tab 0 rfl hu rfl ⟨rfl, rfl, rfl, rfl⟩ rfl (by simp) rfl (cells_row0 1 rfl rfl) rfl rfl (by omega) (by omega)) rfl rfl rfl (fun _ => K.cl) (fun _ _ w h => by rw [hN0]; exact h.tail.tail) (fun y => ?_)
    obtain ⟨⟨u2, d2⟩, hu2⟩ := y
    have hu2 : BufR 58 2 u2 d2 (lgr (g.ds ++ [(j, t.ov, t.os)])) := hu2.of (by simp [lgr])
    dsimp only
    obtain ⟨pv, kv, rfl, _, _⟩ := (hu2.view (C := K W (d2 :: [])) (Hs.at 0 rfl)).view
    refine d_sy rfl (y_fieldAddrB Tryz.tab 4 rfl rfl rfl rfl rfl) rfl rfl rfl K.cl (fun _ w h => by rw [hN0]; exact h.tail.tail) ?_
    refine d_set rfl (set_rowB Tryz.tab 3 rfl rfl rfl rfl rfl rfl) rfl rfl K.cl (fun h => by cases h) ?_
    refine d_nil ?_
    refine f_then ?_
    refine c_seq ?_
    obtain ⟨g2, hg2⟩ : ∃ g2, g2 = (g.setM (ap g.C (ops t.os)) ⟨pm, km⟩).setD (g.ds ++ [(j, t.ov, t.os)]) ⟨pv, kv⟩ := ⟨_, rfl⟩
    have hR2 : RV (K W (d2 :: (T ++ N))) g2 := by
      rw [hg2]
      refine hR1.setD (fun w h => h.tail) (hu2.view (Hs.at 0 rfl)) (fun x hx => ?_)
      rcases List.mem_append.1 hx with hx | hx
      · exact ⟨(hV.dx x hx).1.cls fun w h => K.bck h.tail, fun o ho => ((hV.dx x hx).2 o ho).cls fun w h => K.bck h.tail⟩
      · rw [List.mem_singleton.1 hx]
        exact ⟨(hV.tx t htm).o.cls fun w h => K.bck h.tail, fun o ho => ((hV.tx t htm).r o ho).cls fun w h => K.bck h.tail⟩
    have hen := end_spec (W := W) (N := d2 :: (T ++ N)) (G := [(b4, row 42 [.int .i64 0, .slice none 0 0, .slice none 0 0, .slice none 0 0, .slice none 0 0])] :: [(b2, row 42 g2.cells)] :: G) (k := j) (s := 3) (t := t) hR2 (by rw [hg2]; exact ⟨by omega, by show j ≤ g.ts.length; omega⟩) (by rw [hg2]; exact ht) (by rw [hg2]; exact hq) (by
      rw [hg2]
      simpa [Rg.rb, Rg.setM, Rg.setD, RB.put] using t4)
    have hcm : g2.rb.end_ j 3 = g.rb.commit j := by
      rw [hg2, RB.commit, RB.view, rb_tx ht]
      simp [Rg.rb, Rg.setM, Rg.setD]
    have hl2 : (lgr g2.ds).length = g.rb.D.length + 1 := by rw [hg2]; simp [Rg.setM, Rg.setD, Rg.rb, lgr]
    refine SC.cls (C' := K W ((d2 :: (T ++ N)) ++ ([(b4, row 42 [.int .i64 0, .slice none 0 0, .slice none 0 0, .slice none 0 0, .slice none 0 0])] :: [(b2, row 42 g2.cells)] :: G))) ?_ (fun w h => by rw [hg2]; exact K.mv6 h)
    clear hD hal hEy hE0 hrow0 hc2 hone hVc
    have hD := fun (w : World) (h : K W ((d2 :: (T ++ N)) ++ ([(b4, row 42 [.int .i64 0, .slice none 0 0, .slice none 0 0, .slice none 0 0, .slice none 0 0])] :: [(b2, row 42 g2.cells)] :: G)) w) => K.pre (A := [[(b2, row 42 g2.cells)]]) (B := G) (K.bck h).tail
    refine c_plan [.c 0, .c 1, .c 3, .c 4, .c 5, .s 2, .s 6, .s 7, .s 8] [] (K W [[(b2, row 42 g2.cells)]]) Tryz.mixed (by kernel_rfl) rfl K.cl ?_
    refine dy rfl (y_loadA Tryz.tab rfl rfl rfl rfl (cells_row0 0 rfl rfl)) hD ?_
    refine dy rfl (y_move rfl) hD ?_
    refine dy rfl (y_fieldAddrB Tryz.tab 4 rfl rfl rfl rfl rfl) hD ?_
    refine dy rfl (y_load Tryz.tab rfl rfl (cell_row 0 rfl rfl)) hD ?_
    refine dy rfl (y_len Tryz.tab rfl rfl) hD ?_
    refine d_call rfl (en_f rfl Tryz.call87) hen rfl rfl rfl (fun _ => K.cl) (fun _ _ w h => hD w (K.bck h)) (fun y => ?_)
    obtain ⟨⟨g3, T2⟩, hR3, hb3⟩ := y
    dsimp only at hR3 hb3 ⊢
    refine Sd.cls (C' := K W ([(b4, row 42 [.int .i64 0, .slice none 0 0, .slice none 0 0, .slice none 0 0, .slice none 0 0])] :: [(b2, row 42 g2.cells)] :: (T2 ++ ((d2 :: (T ++ N)) ++ G)))) ?_ (fun w h => K.mv2' h)
    have hD3 := fun (A : Chunk) (w : World) (h : K W (A :: [(b2, row 42 g2.cells)] :: (T2 ++ ((d2 :: (T ++ N)) ++ G))) w) => K.pre (A := [[(b2, row 42 g2.cells)]]) (B := T2 ++ ((d2 :: (T ++ N)) ++ G)) h.tail
    refine d_set rfl (set_aggB Tryz.tab 0 rfl rfl rfl rfl rfl rfl rfl) rfl rfl K.cl (fun _ => hD3 _) ?_
    refine d_sy rfl (y_assign rfl) rfl rfl rfl K.cl (fun _ => hD3 _) ?_
    refine d_sy rfl (y_assign rfl) rfl rfl rfl K.cl (fun _ => hD3 _) ?_
    refine d_nil ?_
    rw [hl2]
    refine f_then ?_
    refine c_ret ?_
    exact f_ret ⟨(g3, T2 ++ (d2 :: T), g.rb.D.length + 1, 0), by rw [List.append_assoc]; exact hR3, .inr ⟨he, rfl, rfl, j, rfl, hb3.trans hcm⟩⟩ (resA12 Tryz.tab rfl rfl rfl rfl rfl rfl rfl (cells_row0 0 rfl rfl)) (fun w h => K.perm h.tail.tail fun x _ => by
      simp only [List.count_append, List.count_cons]
      omega)
  · refine sa ?_
    refine snf ?_
    refine c_seq ?_
    refine csr ?_
    refine sm ?_
    refine sy (y_T (y_neq rfl rfl) (by omega)) ?_
    refine snf ?_
    refine c_condT rfl ?_
    refine csr ?_
    refine sy (y_loadA Tryz.tab rfl rfl rfl rfl (cells_row0 1 rfl rfl)) ?_
    refine sm ?_
    refine ss (set_box Tryz.tab 0 rfl rfl rfl rfl rfl rfl rfl) ?_
    refine sa ?_
    refine sa ?_
    refine snf ?_
    refine c_ret ?_
    refine f_thenR ?_
    exact f_ret ⟨(g, [], 0, e), hV, .inl ⟨by rw [he]; exact c, rfl, rfl, he.symm⟩⟩ (resA12 Tryz.tab rfl rfl rfl rfl rfl rfl rfl (cells_row0 0 rfl rfl)) (fun w h => h.tail.tail)
end
end Go.KL
end

section
/- Walks: Room of the document's book. -/
namespace Go.KL
open Go.Proofs
theorem mvs_snoc (l : List Oa) (o : Oa) : mvs (l ++ [o]) = mvs l + if o.mv then 1 else 0 := by
  rw [mvs_app, mvs_cons, mvs_nil, Nat.add_zero]
def rmv (ts : List Dt) : Nat := ((ts.filter fun t => t.rt.inP).map fun t => mvs (ops t.os)).sum
theorem rmv_snoc (ts : List Dt) (t : Dt) : rmv (ts ++ [t]) = rmv ts + if t.rt.inP then mvs (ops t.os) else 0 := by
  unfold rmv
  rw [List.filter_append, List.map_append, List.sum_append, List.filter_cons]
  split <;> simp
attribute [local irreducible] SC St Fin Sq Ylds Doos Sets Enters Spec CellIs CellsAre Then Ret Rnd Chn resOK ints bools recs arr
section
variable {W : World} {N : List Chunk} {g : Rg}
set_option maxRecDepth 10000 in
set_option maxHeartbeats 8000000 in
theorem RRoom_spec (hV : RV (K W N) g) (hl : ∀ t ∈ g.ts, t.rt.inP = true → t.os.length < 100000) (hmm : rmv g.ts < 1000000) : Spec Tryz.prog 18 #[g.val] (K W N) (fun _ : Unit => .int .i64 (g.rb.room : Nat)) (fun _ => K W N) := by
  have hdl : (dtl g.ts).length = g.ts.length := List.length_map _
  have hn := hV.n
  have hrl : (rnl (rns g.C 0 g.size)).length = nbd g.C g.size := by rw [List.length_map, rns_len]
  have hnb := hV.m.nb
  refine enter (args := [_]) Tryz.func18 rfl Tryz.ntmps18 rfl ?_
  refine csr ?_
  refine sbx fun b1 => ?_
  refine sa ?_
  refine snf ?_
  refine csr ?_
  refine sf0 ?_
  refine sf 1 ?_
  refine slr 0 ?_
  refine sy (y_len Tryz.tab rfl rfl) ?_
  refine sy (y_sub rfl rfl (by omega)) ?_
  refine sa ?_
  refine snf ?_
  refine c_seq ?_
  refine csr ?_
  refine sa ?_
  refine snf ?_
  refine c_block ?_
  obtain ⟨A, hA⟩ : ∃ A : Nat, A = (rnl (rns g.C 0 g.size)).length := ⟨_, rfl⟩
  have hE : EV (K W ([(b1, row 42 g.cells)] :: N)) g.tv 3 (dtl g.ts) := hV.t.cons
  have hroom : g.rb.room = (4096 - A - 2 * rmv g.ts) / 2 := by
    rw [RB.room, hA, hrl, RB.moves, rmv, Rg.rb]
    simp [List.filter_map, Function.comp_def]
  rw [hroom]
  refine c_loopP (α := Nat) (fun z => [(1, .pointer (some ⟨b1, 0, none⟩)), (3, .int .i64 (4096 - (A : Int) - 2 * (rmv (g.ts.take z) : Nat))), (4, .int .i64 (z : Nat))]) (fun z => z ≤ g.ts.length) (fun _ => K W ([(b1, row 42 g.cells)] :: N)) (fun z => g.ts.length - z) 0 ⟨rfl, by
    show some (Value.int .i64 (4096 - ((rnl (rns g.C 0 g.size)).length : Int))) = some (Value.int .i64 (4096 - (A : Int) - 2 * ((0 : Nat) : Int)))
    rw [← hA]
    congr 2
    omega, rfl, trivial⟩ (Nat.zero_le _) (fun w h => h) ?_
  rintro z hz
  have hle : rmv (g.ts.take z) ≤ rmv g.ts := by
    conv => rhs; rw [← List.take_append_drop z g.ts]
    unfold rmv
    rw [List.filter_append, List.map_append, List.sum_append]
    omega
  by_cases c : z < g.ts.length
  · obtain ⟨t, ht⟩ : ∃ t, g.ts[z]? = some t := ⟨g.ts[z], List.getElem?_eq_getElem c⟩
    have htm := List.mem_of_getElem? ht
    have hlt := hl t htm
    have hol : (opl t.os).length = t.os.length := List.length_map _
    have hrow := hE.row (i := z) (x := t.cells) (by simp [ht])
    have hO : EV (K W ([(b1, row 42 g.cells)] :: N)) t.ov 6 (opl t.os) := (hV.tx t htm).o.cons
    have htk : rmv (g.ts.take (z + 1)) = rmv (g.ts.take z) + if t.rt.inP then mvs (ops t.os) else 0 := by
      rw [List.take_add_one, ht]
      exact rmv_snoc _ _
    obtain ⟨R, hR⟩ : ∃ R, R = rmv (g.ts.take z) := ⟨_, rfl⟩
    rw [← hR] at hle htk ⊢
    refine c_seq ?_
    refine csr ?_
    refine sm ?_
    refine sf 2 ?_
    refine slr 0 ?_
    refine sy (y_lenE Tryz.tab rfl (hE) rfl) ?_
    refine sy (y_T (y_lss rfl rfl) (by omega)) ?_
    refine snf ?_
    refine c_condT rfl ?_
    refine c_skip ?_
    refine f_then ?_
    refine c_seq ?_
    refine c_block ?_
    refine csr ?_
    refine sa ?_
    refine snf ?_
    refine c_block ?_
    refine c_loopP (α := Nat) (fun y => [(1, .pointer (some ⟨b1, 0, none⟩)), (3, .int .i64 (4096 - (A : Int) - 2 * ((R + mvs ((ops t.os).take y) : Nat) : Int))), (4, .int .i64 (z : Nat)), (5, .int .i64 (y : Nat))]) (fun y => y ≤ t.os.length ∧ (t.rt.inP = false → y = 0)) (fun _ => K W ([(b1, row 42 g.cells)] :: N)) (fun y => t.os.length - y) 0 ⟨rfl, rfl, rfl, rfl, trivial⟩ ⟨Nat.zero_le _, fun _ => rfl⟩ (fun w h => h) ?_
    rintro y ⟨hy, hy0⟩
    have hmy : mvs ((ops t.os).take y) ≤ y := Nat.le_trans (mvs_le _) (by rw [List.length_take]; omega)
    refine c_seq ?_
    refine csr ?_
    refine sf 2 ?_
    refine slr 0 ?_
    refine sm ?_
    refine sy (y_ixE Tryz.tab rfl rfl rfl rfl (hE) _ rfl (by omega)) ?_
    refine sy (y_loadA Tryz.tab rfl rfl rfl rfl hrow) ?_
    refine sk Tryz.call54 (In_spec (t := t)) fun _ => ?_
    cases hp : t.rt.inP with
    | false =>
      obtain rfl := hy0 hp
      rw [hp, if_neg (by decide), Nat.add_zero] at htk
      refine sm ?_
      iterate 9 refine s_skip rfl rfl rfl ?_
      refine spF ?_
      refine snf ?_
      refine c_condF rfl ?_
      refine c_exit ?_
      refine f_thenE ?_
      refine f_rndE ?_
      refine f_blockE ?_
      refine f_blockN ?_
      refine f_then ?_
      refine c_region ?_
      refine sm ?_
      refine sy (y_add rfl rfl (by omega)) ?_
      refine sa ?_
      refine s_nil ?_
      exact f_roundP (z + 1) c (by omega) ⟨rfl, by rw [htk]; rfl, rfl, trivial⟩ (fun w h => h)
    | true =>
      have hlt := hlt hp
      rw [hp, if_pos rfl] at htk
      by_cases cy : y < t.os.length
      · obtain ⟨o, ho⟩ : ∃ o, t.os[y]? = some o := ⟨t.os[y], List.getElem?_eq_getElem cy⟩
        have hro := hO.row (opl_get2 ho)
        have hmt : mvs ((ops t.os).take (y + 1)) = mvs ((ops t.os).take y) + if o.1.mv then 1 else 0 := by
          rw [List.take_add_one, show (ops t.os)[y]? = some o.1 by simp [ho]]
          exact mvs_snoc _ _
        obtain ⟨Y, hY⟩ : ∃ Y, Y = mvs ((ops t.os).take y) := ⟨_, rfl⟩
        rw [← hY] at hmy hmt ⊢
        refine sm ?_
        refine sm ?_
        refine sf 2 ?_
        refine slr 0 ?_
        refine sm ?_
        refine sy (y_ixE Tryz.tab rfl rfl rfl rfl (hE) _ rfl (by omega)) ?_
        refine sy (y_fieldAddr Tryz.tab 2 rfl rfl rfl rfl rfl) ?_
        refine sl (CellsAre.nth 2 (hrow) rfl) ?_
        refine sy (y_lenE Tryz.tab rfl (hO) rfl) ?_
        refine sy (y_T (y_lss rfl rfl) (by omega)) ?_
        refine spT ?_
        refine snf ?_
        refine c_condT rfl ?_
        refine c_skip ?_
        refine f_then ?_
        refine c_seq ?_
        refine c_block ?_
        refine csr ?_
        refine sf 2 ?_
        refine slr 0 ?_
        refine sm ?_
        refine sy (y_ixE Tryz.tab rfl rfl rfl rfl (hE) _ rfl (by omega)) ?_
        refine sy (y_fieldAddr Tryz.tab 2 rfl rfl rfl rfl rfl) ?_
        refine sl (CellsAre.nth 2 (hrow) rfl) ?_
        refine sm ?_
        refine sy (y_ixE Tryz.tab rfl rfl rfl rfl (hO) _ rfl (by omega)) ?_
        refine sf0 ?_
        refine sl (CellsAre.at0 (hro) rfl) ?_
        refine snf ?_
        cases hm : o.1.mv with
        | false =>
          rw [hm, if_neg (by decide), Nat.add_zero] at hmt
          refine c_condF rfl ?_
          refine c_skip ?_
          refine f_blockN ?_
          refine f_then ?_
          refine c_region ?_
          refine sm ?_
          refine sy (y_add rfl rfl (by omega)) ?_
          refine sa ?_
          refine s_nil ?_
          exact f_roundP (y + 1) ⟨cy, fun h => by cases h⟩ (by omega) ⟨rfl, by rw [hmt]; rfl, rfl, rfl, trivial⟩ (fun w h => h)
        | true =>
          rw [hm, if_pos rfl] at hmt
          refine c_condT rfl ?_
          refine c_region ?_
          refine sm ?_
          refine sy (y_sub rfl rfl (by omega)) ?_
          refine sa ?_
          refine s_nil ?_
          refine f_blockN ?_
          refine f_then ?_
          refine c_region ?_
          refine sm ?_
          refine sy (y_add rfl rfl (by omega)) ?_
          refine sa ?_
          refine s_nil ?_
          refine f_roundP (y + 1) ⟨cy, fun h => by cases h⟩ (by omega) ⟨rfl, ?_, rfl, rfl, trivial⟩ (fun w h => h)
          rw [hmt]
          show some (Value.int .i64 (4096 - (A : Int) - 2 * ((R + Y : Nat) : Int) - 2)) = _
          congr 2
          omega
      · obtain rfl : y = t.os.length := by omega
        rw [List.take_of_length_le (by rw [List.length_map]; omega)]
        refine sm ?_
        refine sm ?_
        refine sf 2 ?_
        refine slr 0 ?_
        refine sm ?_
        refine sy (y_ixE Tryz.tab rfl rfl rfl rfl (hE) _ rfl (by omega)) ?_
        refine sy (y_fieldAddr Tryz.tab 2 rfl rfl rfl rfl rfl) ?_
        refine sl (CellsAre.nth 2 (hrow) rfl) ?_
        refine sy (y_lenE Tryz.tab rfl (hO) rfl) ?_
        refine sy (y_F (y_lss rfl rfl) (by omega)) ?_
        refine spT ?_
        refine snf ?_
        refine c_condF rfl ?_
        refine c_exit ?_
        refine f_thenE ?_
        refine f_rndE ?_
        refine f_blockE ?_
        refine f_blockN ?_
        refine f_then ?_
        refine c_region ?_
        refine sm ?_
        refine sy (y_add rfl rfl (by omega)) ?_
        refine sa ?_
        refine s_nil ?_
        exact f_roundP (z + 1) c (by omega) ⟨rfl, by rw [htk]; rfl, rfl, trivial⟩ (fun w h => h)
  · obtain rfl : z = g.ts.length := by omega
    rw [List.take_length]
    refine c_seq ?_
    refine csr ?_
    refine sm ?_
    refine sf 2 ?_
    refine slr 0 ?_
    refine sy (y_lenE Tryz.tab rfl (hE) rfl) ?_
    refine sy (y_F (y_lss rfl rfl) (by omega)) ?_
    refine snf ?_
    refine c_condF rfl ?_
    refine c_exit ?_
    refine f_thenE ?_
    refine f_rndE ?_
    refine f_blockE ?_
    refine f_then ?_
    refine csr ?_
    refine sm ?_
    refine sy (y_max rfl rfl) ?_
    refine sy (y_quo rfl rfl (by omega)) ?_
    refine sa ?_
    refine snf ?_
    refine c_ret ?_
    have hx : max (0 : Int) (4096 - (A : Int) - 2 * ((rmv g.ts : Nat) : Int)) = ((4096 - A - 2 * rmv g.ts : Nat) : Int) := by omega
    refine f_ret () (res1 rfl ?_) (fun w h => h.tail)
    show some (Value.int .i64 (max (0 : Int) (4096 - (A : Int) - 2 * ((rmv g.ts : Nat) : Int)) / 2)) = _
    rw [hx]
    rfl
end
end Go.KL
end

section
/- Walks: whether two books are in the same state. -/
namespace Go.KL
open Go.Proofs
namespace Sm
variable {A : Bk} {b : RB} {m : Nat}
theorem stI (h : Sm A b) (k : Int) : b.stI k = A.stI k := by
  unfold RB.stI Bk.stI
  rw [h.len]
  split
  · rename_i c
    exact h.st _ ⟨by omega, by omega⟩
  · rfl
theorem heldI (h : Sm A b) (hI : A.Inv m) (k : Nat) : b.held k = A.lkI k := by
  rw [h.held hI]
  unfold Bk.lkI
  rw [Int.toNat_natCast]
  by_cases c : k ∈ A.rn
  · have hh := hI.has c
    unfold Bk.has at hh
    rw [if_pos c, if_pos (by omega)]
  · rw [if_neg c]
    split
    · rename_i d
      exact (hI.off k ⟨by omega, by omega⟩ c).1.symm
    · rfl
theorem rmv (h : Sm A b) (hI : A.Inv m) {g : Rg} (hg : g.rb = b) : KL.rmv g.ts = A.moves := by
  rw [← h.moves hI, ← hg]
  unfold KL.rmv RB.moves Rg.rb
  simp [List.filter_map, Function.comp_def]
end Sm
theorem Bk.Inv.lkl {A : Bk} {m : Nat} (hI : A.Inv m) (k : Int) : (A.lkI k).length ≤ 1024 := by
  unfold Bk.lkI
  split
  · rename_i c
    by_cases d : k.toNat ∈ A.rn
    · have h2 := hI.cnt
      unfold Bk.count at h2
      have h3 : (A.tx k.toNat).locks.length ≤ (A.rn.map fun k => (A.tx k).locks.length).sum := sum_mem (f := fun k => (A.tx k).locks.length) d
      omega
    · rw [(hI.off _ ⟨by omega, by omega⟩ d).1]
      simp
  · simp
theorem Bk.Inv.mvl {A : Bk} {m : Nat} (hI : A.Inv m) : A.moves ≤ 2048 := by
  have := hI.rm
  omega
theorem Sm.osl {A : Bk} {r : Rg} {m : Nat} (h : Sm A r.rb) (hI : A.Inv m) (hm : m < 100000) : ∀ t ∈ r.ts, t.rt.inP = true → t.os.length < 100000 := fun t ht hp => by
  obtain ⟨i, hi, hit⟩ := List.mem_iff_getElem.1 ht
  have hk : r.rb.has (i + 1) := ⟨by omega, by simp [Rg.rb]; omega⟩
  have htx : r.rb.tx (i + 1) = t.rt := rb_tx (by rw [Nat.add_sub_cancel, List.getElem?_eq_getElem hi, hit])
  have hA := h.has.1 hk
  have hr : i + 1 ∈ A.rn := (h.inP hI hA).1 (by rw [htx]; exact hp)
  have h3 := hI.ol _ hA
  have h4 := (h.run _ hr).2
  rw [htx] at h4
  have h5 : (ops t.os).length = t.os.length := List.length_map _
  have h6 : ops t.os = (A.tx (i + 1)).ops := h4
  rw [← h6] at h3
  omega
attribute [local irreducible] SC St Fin Sq Ylds Doos Sets Enters Spec CellIs CellsAre Then Ret Rnd Chn resOK ints bools recs arr
section
variable {W : World} {M : List Chunk} {g : Bg} {r : Rg}
set_option maxRecDepth 10000 in
set_option maxHeartbeats 8000000 in
theorem same_spec {m : Nat} (hB : g.OK) (hO : g.bk.Ok m) (hm : m < 100000) (hV : RV (K W M) r) (hS : Sm g.bk r.rb) : Spec Tryz.prog 19 #[.pointer (some ⟨g.b, 0, none⟩), r.val] (K W (g.L ++ M)) (fun _ : Unit => .bool true) (fun _ => K W (g.L ++ M)) := by
  have hI := hO.inv
  have hG := hI.good hm
  have hT := hS.osl hI hm
  have hdl : (dtl r.ts).length = r.ts.length := List.length_map _
  have hn := hV.n
  refine enter (args := [_, _]) Tryz.func19 rfl Tryz.ntmps19 rfl ?_
  refine csr ?_
  refine sbx fun b3 => ?_
  refine sa ?_
  refine snf ?_
  refine c_seq ?_
  refine csr ?_
  refine sa ?_
  refine snf ?_
  refine c_block ?_
  obtain ⟨M1, hM1⟩ : ∃ M1, M1 = [(b3, row 42 r.cells)] :: M := ⟨_, rfl⟩
  refine SC.cls (C' := K W (g.L ++ M1)) ?_ (fun w h => by rw [hM1]; exact K.bckN (A := [[(b3, row 42 r.cells)]]) (B := g.L) h)
  have hV1 : RV (K W M1) r := by rw [hM1]; exact hV.cons
  have hVg : RV (K W (g.L ++ M1)) r := hV1.cls fun w h => K.bck h
  have hc3 : CellsAre (K W (g.L ++ M1)) ⟨b3, 0, none⟩ r.cells := (show CellsAre (K W M1) ⟨b3, 0, none⟩ r.cells from by rw [hM1]; exact cells_row0 0 rfl rfl).cls fun w h => K.bck h
  have hMN : ∀ w, K W (g.L ++ M1) w → K W (g.L ++ M) w := fun w h => by rw [hM1] at h; exact K.dropMid h
  refine c_loopP (α := Nat) (fun z => [(0, .pointer (some ⟨g.b, 0, none⟩)), (3, .pointer (some ⟨b3, 0, none⟩)), (5, .int .i64 (z : Nat))]) (fun z => z ≤ r.ts.length + 2) (fun _ => K W (g.L ++ M1)) (fun z => r.ts.length + 2 - z) 0 ⟨rfl, rfl, rfl, trivial⟩ (by omega) (fun w h => h) ?_
  rintro z hz
  by_cases c : z ≤ r.ts.length + 1
  · refine c_seq ?_
    refine csr ?_
    refine sm ?_
    refine sf 2 ?_
    refine sl (CellsAre.nth 2 (hc3) rfl) ?_
    refine sy (y_len Tryz.tab rfl rfl) ?_
    refine sy (y_add rfl rfl (by omega)) ?_
    refine sy (y_T (y_leq rfl rfl) (by omega)) ?_
    refine snf ?_
    refine c_condT rfl ?_
    refine c_skip ?_
    refine f_then ?_
    refine c_seq ?_
    refine c_block ?_
    refine c_seq ?_
    obtain ⟨s, hs⟩ : ∃ s, g.bk.stI (z : Nat) = s := ⟨_, rfl⟩
    have hs2 : r.rb.stI (z : Nat) = s := by rw [hS.stI]; exact hs
    have hst := State_b (W := W) (N := M1) (tx := (z : Nat)) hB
    have hrst := RState_spec hVg (k := (z : Nat))
    rw [hs] at hst
    rw [hs2] at hrst
    have hne : ¬ ((s : Int) ≠ (s : Int)) := fun h => h rfl
    have hD := fun (w : World) (h : K W (g.L ++ M1) w) => h
    refine c_plan [.c 0, .c 1, .c 3, .c 4, .s 2, .s 5, .c 6, .c 7, .c 8, .c 9, .c 11, .c 12, .s 10, .s 13, .s 14, .c 15, .c 16] [] ((K W (g.L ++ M1))) Tryz.mixed (by kernel_rfl) rfl K.cl ?_
    refine dy rfl (y_move rfl) hD ?_
    refine dy rfl (y_move rfl) hD ?_
    refine dy rfl (y_loadA Tryz.tab rfl rfl rfl rfl hc3) hD ?_
    refine dy rfl (y_move rfl) hD ?_
    refine d_call rfl (en_f rfl Tryz.call38) hst rfl rfl rfl (fun _ => K.cl) (fun _ _ _ h => h) (fun _ => ?_)
    skip
    refine d_call rfl (en_f rfl Tryz.call55) hrst rfl rfl rfl (fun _ => K.cl) (fun _ _ _ h => h) (fun _ => ?_)
    refine dy rfl (y_F (y_neq rfl rfl) (by assumption)) hD ?_
    refine dy rfl (y_move rfl) hD ?_
    refine dy rfl (y_move rfl) hD ?_
    refine dy rfl (y_move rfl) hD ?_
    refine dy rfl (y_loadA Tryz.tab rfl rfl rfl rfl hc3) hD ?_
    refine dy rfl (y_move rfl) hD ?_
    refine d_call rfl (en_f rfl Tryz.call29) (Held_b (W := W) (N := M1) (tx := (z : Nat)) hB hG) rfl rfl rfl (fun _ => K.cl) (fun _ _ _ h => h.tail) (fun x => ?_)
    obtain ⟨⟨hv, ch⟩, hHv⟩ := x
    dsimp only at hHv ⊢
    have hVc : RV (K W (ch :: (g.L ++ M1))) r := hVg.cons
    have hc3c : CellsAre (K W (ch :: (g.L ++ M1))) ⟨b3, 0, none⟩ r.cells := hc3.cons
    clear hD
    have hD := fun (w : World) (h : K W (ch :: (g.L ++ M1)) w) => h.tail
    skip
    refine d_call rfl (en_f rfl Tryz.call57) (RHeld_spec hVc (k := z)) rfl rfl rfl (fun _ => K.cl) (fun _ _ _ h => h.tail) (fun x => ?_)
    obtain ⟨rv, hRv⟩ := x
    dsimp only at hRv ⊢
    rw [hS.heldI hI] at hRv
    have hsl := SameLocks_spec (W := W) (N := ch :: (g.L ++ M1)) (hHv.view (Hs.at 0 rfl)) hRv (by have := hI.lkl (z : Nat); omega)
    rw [decide_eq_true rfl] at hsl
    refine d_call rfl (en_f rfl Tryz.call56) hsl rfl rfl rfl (fun _ => K.cl) (fun _ _ _ h => h.tail) (fun _ => ?_)
    refine dy rfl (y_notT rfl) hD ?_
    refine dy rfl (y_pickF rfl rfl) hD ?_
    refine d_nil ?_
    refine f_then ?_
    refine c_condF rfl ?_
    refine c_skip ?_
    refine f_blockN ?_
    refine f_then ?_
    refine c_region ?_
    refine sm ?_
    refine sy (y_add rfl rfl (by omega)) ?_
    refine sa ?_
    refine s_nil ?_
    exact f_roundP (z + 1) (by omega) (by omega) ⟨rfl, rfl, rfl, trivial⟩ (fun w h => h.tail)
  · obtain rfl : z = r.ts.length + 2 := by omega
    refine c_seq ?_
    refine csr ?_
    refine sm ?_
    refine sf 2 ?_
    refine sl (CellsAre.nth 2 (hc3) rfl) ?_
    refine sy (y_len Tryz.tab rfl rfl) ?_
    refine sy (y_add rfl rfl (by omega)) ?_
    refine sy (y_F (y_leq rfl rfl) (by omega)) ?_
    refine snf ?_
    refine c_condF rfl ?_
    refine c_exit ?_
    refine f_thenE ?_
    refine f_rndE ?_
    refine f_blockE ?_
    refine f_then ?_
    refine c_seq ?_
    have hrm := room_b (W := W) (N := M1) hB (fun t ht => by
      have h1 : (Tg.tx t).ops.length < 100000 := hG.ol (Tg.tx t) (List.mem_map.2 ⟨t, ht, rfl⟩)
      have h2 : (Tg.tx t).ops.length = t.os.length := List.length_map _
      omega) hI.rm
    have hmv := hI.mvl
    have hrs : ∀ {L : List Chunk}, (∀ w, K W L w → K W (g.L ++ M1) w) → Spec Tryz.prog 18 #[r.val] (K W L) (fun _ : Unit => .int .i64 (g.bk.room : Nat)) (fun _ => K W L) := fun h => by
      have := RRoom_spec (hVg.cls h) hT (by rw [hS.rmv hI rfl]; omega)
      rw [hS.room hI] at this
      exact this
    obtain ⟨R, hR⟩ : ∃ R, R = g.bk.room := ⟨_, rfl⟩
    rw [← hR] at hrm hrs
    have hRR : (R : Int) = (R : Int) := rfl
    have hD := fun (w : World) (h : K W (g.L ++ M1) w) => h
    refine c_plan [.c 0, .c 2, .c 3, .s 1, .s 4, .c 5, .c 6, .c 8, .s 7, .s 9, .c 10, .c 11, .c 12, .c 13, .c 15, .c 16, .s 14, .s 17, .c 18, .c 19] [] ((K W (g.L ++ M1))) Tryz.mixed (by kernel_rfl) rfl K.cl ?_
    refine dy rfl (y_move rfl) hD ?_
    refine dy rfl (y_fieldAddrB Tryz.tab 3 rfl rfl rfl rfl rfl) hD ?_
    refine dy rfl (y_load Tryz.tab rfl rfl (CellsAre.nth 3 (hc3) rfl)) hD ?_
    refine d_call rfl (en_f rfl Tryz.call39) (Queue_b (W := W) (N := M1) hB hG) rfl rfl rfl (fun _ => K.cl) (fun _ _ _ h => h.tail) (fun x => ?_)
    obtain ⟨⟨qv, cq⟩, hQv⟩ := x
    dsimp only at hQv ⊢
    have hVq : RV (K W (cq :: (g.L ++ M1))) r := hVg.cons
    have hc3q : CellsAre (K W (cq :: (g.L ++ M1))) ⟨b3, 0, none⟩ r.cells := hc3.cons
    clear hD
    have hD := fun (w : World) (h : K W (cq :: (g.L ++ M1)) w) => h.tail
    have hQ2 : EV (K W (cq :: (g.L ++ M1))) r.qv 4 (lks g.bk.reqs) := by
      have := hVq.q
      rw [show g.bk.reqs = r.Q from hS.Q.symm]
      exact this
    have hsl := SameLocks_spec (W := W) (N := cq :: (g.L ++ M1)) (hQv.view (Hs.at 0 rfl)) hQ2 (by have := hI.ql; simp only [Bk.reqs, List.length_map]; omega)
    rw [decide_eq_true rfl] at hsl
    skip
    refine d_call rfl (en_f rfl Tryz.call56) hsl rfl rfl rfl (fun _ => K.cl) (fun _ _ _ h => h.tail) (fun _ => ?_)
    refine Sd.cls (C' := K W (g.L ++ M1)) ?_ (fun w h => h.tail)
    clear hD
    have hD := fun (w : World) (h : K W (g.L ++ M1) w) => h
    refine dy rfl (y_move rfl) hD ?_
    refine dy rfl (y_move rfl) hD ?_
    refine dy rfl (y_loadA Tryz.tab rfl rfl rfl rfl hc3) hD ?_
    refine d_call rfl (en_f rfl Tryz.call17) hrm rfl rfl rfl (fun _ => K.cl) (fun _ _ _ h => h) (fun _ => ?_)
    have hcm : CellsAre (K W (g.L ++ M1)) ⟨b3, 0, none⟩ [.int .i64 (r.size : Nat), r.mv] := (show CellsAre (K W M1) ⟨b3, 0, none⟩ [.int .i64 (r.size : Nat), r.mv] from by rw [hM1]; exact map_cells 0 rfl).cls fun w h => K.bck h
    skip
    refine d_call rfl (en_f rfl Tryz.call18) (hrs fun _ h => h) rfl rfl rfl (fun _ => K.cl) (fun _ _ _ h => h) (fun _ => ?_)
    refine dy rfl (y_T (y_eql rfl rfl) (by assumption)) hD ?_
    refine dy rfl (y_pickT rfl rfl) hD ?_
    refine dy rfl (y_move rfl) hD ?_
    refine dy rfl (y_move rfl) hD ?_
    refine dy rfl (y_fieldAddr0 Tryz.tab rfl rfl rfl rfl rfl) hD ?_
    refine dy rfl (y_loadA Tryz.tab rfl rfl rfl rfl hcm) hD ?_
    refine d_call rfl (en_f rfl Tryz.call35) (Now_b (W := W) (N := M1) hB) rfl rfl rfl (fun _ => K.cl) (fun _ _ _ h => h) (fun _ => ?_)
    skip
    refine d_call rfl (en_f rfl Tryz.call24) (runsNow (W := W) (N := M1) hB (n := r.size) (f := r.C) hS.size.symm hS.C.symm hV1.m) rfl rfl rfl (fun _ => K.cl) (fun _ _ _ h => h) (fun _ => ?_)
    refine dy rfl (y_pickT rfl rfl) hD ?_
    refine dy rfl (y_assign rfl) hD ?_
    refine d_nil ?_
    refine f_then ?_
    refine c_ret ?_
    exact f_ret () (res1 rfl rfl) hMN
end
end Go.KL
end

section
/- Some transaction can always go on; how many calls there are; plain. No program in sight. -/
namespace Go.KL
open Relation
open Classical in
theorem cyc {E : Nat → Nat → Prop} : ∀ (n : Nat) (l : List Nat), l.length ≤ n → l ≠ [] → (∀ x ∈ l, ∃ y ∈ l, E x y) → ∃ x ∈ l, TransGen E x x
  | 0, l, h, h0, _ => absurd (List.eq_nil_of_length_eq_zero (by omega)) h0
  | n + 1, l, h, h0, hE => by
    obtain ⟨x, hx⟩ : ∃ x, x ∈ l := by
      cases l with
      | nil => exact absurd rfl h0
      | cons x l => exact ⟨x, List.mem_cons_self ..⟩
    by_cases c : TransGen E x x
    · exact ⟨x, hx, c⟩
    · have hS : ∀ y, y ∈ l.filter (fun y => decide (TransGen E x y)) ↔ y ∈ l ∧ TransGen E x y := fun y => by simp
      obtain ⟨y, hy, hxy⟩ := hE x hx
      have hlt : (l.filter fun y => decide (TransGen E x y)).length < l.length := by
        have h1 := List.length_filter_le (fun y => decide (TransGen E x y)) l
        by_cases e : (l.filter fun y => decide (TransGen E x y)).length = l.length
        · have := List.length_filter_eq_length_iff.1 e x hx
          exact absurd (of_decide_eq_true this) c
        · omega
      obtain ⟨z, hz, hzz⟩ := cyc (E := E) n (l.filter fun y => decide (TransGen E x y)) (by omega) (fun e => by
        have := (hS y).2 ⟨hy, .single hxy⟩
        rw [e] at this
        simp at this) (fun z hz => by
        obtain ⟨hz1, hz2⟩ := (hS z).1 hz
        obtain ⟨u, hu, hzu⟩ := hE z hz1
        exact ⟨u, (hS u).2 ⟨hu, .tail hz2 hzu⟩, hzu⟩)
      exact ⟨z, ((hS z).1 hz).1, hzz⟩
namespace Bk
variable {A : Bk} {b : Nat}
theorem Ok.active (h : A.Ok b) (hr : A.rn ≠ []) : ∃ k, A.has k ∧ (A.tx k).st = 1 := by
  refine Classical.byContradiction fun hn => ?_
  have h2 : ∀ k ∈ A.rn, ∃ j ∈ A.rn, A.E k j := fun k hk => by
    have hs : (A.tx k).st = 2 := by
      rcases ((h.inv.rn k).1 hk).2 with c | c
      · exact absurd ⟨k, h.inv.has hk, c⟩ hn
      · exact c
    have hq : k ∈ A.q := (h.inv.q k).2 ⟨h.inv.has hk, hs⟩
    have hb := BlkF.mem h.blk hq
    rw [List.nil_append] at hb
    have : ∃ j, A.E k j := by
      refine Classical.byContradiction fun hne => ?_
      have : A.free (A.tx k).req (A.q.takeWhile (fun j => !decide (j = k))) = true := free_iff.2 ⟨fun m hm y hy => ?_, fun m hm => ?_⟩
      · rw [hb] at this
        cases this
      · cases c : cfl y (A.tx k).req with
        | false => rfl
        | true => exact absurd ⟨m, E_iff.2 ⟨hs, .inl ⟨hm, y, hy, c⟩⟩⟩ hne
      · cases c : cfl (A.tx m).req (A.tx k).req with
        | false => rfl
        | true => exact absurd ⟨m, E_iff.2 ⟨hs, .inr ⟨hm, c⟩⟩⟩ hne
    obtain ⟨j, hj⟩ := this
    exact ⟨j, E_rn h.inv hj, hj⟩
  obtain ⟨x, hx, hc⟩ := cyc A.rn.length A.rn (Nat.le_refl _) hr h2
  exact h.ac x (h.inv.has hx) hc
theorem commit_same {k : Nat} (hk : A.has k) : (A.commit k).size = A.size ∧ (A.commit k).C = ap A.C (A.tx k).ops ∧ (A.commit k).log = A.log ++ [(k, (A.tx k).ops)] ∧ (A.commit k).ts.length = A.ts.length := by
  rw [commit_eq hk]
  obtain ⟨h1, h2, _, h4, h5⟩ := fin_same (A := A.ended k 3 (A.tx k).req (ap A.C (A.tx k).ops) A.W (A.log ++ [(k, (A.tx k).ops)]))
  exact ⟨h1, h2, h4, h5.trans (by simp [ended])⟩
theorem Ok.grow {B : Bk} {f : Nat → Int} (h : A.Ok b) (hc : A.Cl f B) : B.size = A.size ∧ A.ts.length ≤ B.ts.length ∧ B.ts.length ≤ A.ts.length + 1 ∧ B.log.length ≤ A.log.length + 1 := by
  rcases hc with ⟨_, ⟨_, rfl⟩ | ⟨_, rfl⟩⟩ | ⟨_, e, rs, hp⟩ | ⟨_, e, rs, hp⟩ | ⟨_, n, e, hp⟩ | ⟨_, e, hp⟩
  · exact ⟨rfl, by omega, by omega, by omega⟩
  · exact ⟨rfl, by simp [Bk.begin], by simp [Bk.begin], by show A.log.length ≤ _; omega⟩
  · obtain ⟨_, h1, _, h3, h4⟩ := h.perf hp
    exact ⟨h1, by omega, by omega, by rw [h3]; omega⟩
  · obtain ⟨_, h1, _, h3, h4⟩ := h.perf hp
    exact ⟨h1, by omega, by omega, by rw [h3]; omega⟩
  · rcases hp with ⟨_, rfl, _⟩ | ⟨k, _, hk, ⟨_, rfl, _⟩ | ⟨_, rfl, _⟩ | ⟨_, rfl, _⟩ | ⟨_, _, _, rfl, _⟩⟩
    · exact ⟨rfl, by omega, by omega, by omega⟩
    · exact ⟨rfl, by omega, by omega, by omega⟩
    · exact ⟨rfl, by omega, by omega, by omega⟩
    · exact ⟨rfl, by omega, by omega, by omega⟩
    · obtain ⟨h1, _, h3, h4⟩ := commit_same hk
      exact ⟨h1, by omega, by omega, by rw [h3, List.length_append]; simp⟩
  · rcases hp with ⟨_, rfl, _⟩ | ⟨k, _, hk, ⟨_, rfl, _⟩ | ⟨_, rfl, _⟩ | ⟨_, _, rfl, _⟩⟩
    · exact ⟨rfl, by omega, by omega, by omega⟩
    · exact ⟨rfl, by omega, by omega, by omega⟩
    · exact ⟨rfl, by omega, by omega, by omega⟩
    · obtain ⟨h1, _, h3, h4⟩ := abort_same hk
      exact ⟨h1, by omega, by omega, by rw [h3]; omega⟩
structure Turn (A : Bk) (b n t x : Nat) : Prop where
  ok : A.Ok b
  len : A.ts.length = n
  lg : A.log.length + A.rn.length ≤ 300
  le : A.rn.length + t ≤ n ∨ A.rn = []
  go : A.rn = [] ∨ A.rn.length + t + 1 ≤ n ∨ ∃ k, x ≤ k ∧ A.has k ∧ (A.tx k).st = 1
theorem Turn.start {n t : Nat} (ok : A.Ok b) (len : A.ts.length = n) (lg : A.log.length + A.rn.length ≤ 300) (le : A.rn.length + t ≤ n ∨ A.rn = []) : Turn A b n t 1 := by
  refine ⟨ok, len, lg, le, ?_⟩
  by_cases c : A.rn = []
  · exact .inl c
  · obtain ⟨k, hk, hs⟩ := ok.active c
    exact .inr (.inr ⟨k, hk.1, hk, hs⟩)
theorem Turn.skip {n t x : Nat} (h : Turn A b n t x) (hs : (A.tx x).st ≠ 1) : Turn A b n t (x + 1) := by
  refine ⟨h.ok, h.len, h.lg, h.le, ?_⟩
  rcases h.go with c | c | ⟨k, h1, h2, h3⟩
  · exact .inl c
  · exact .inr (.inl c)
  · refine .inr (.inr ⟨k, ?_, h2, h3⟩)
    rcases Nat.lt_or_ge x k with c | c
    · exact c
    · have : k = x := by omega
      rw [this] at h3
      exact absurd h3 hs
theorem Turn.fin {n t x : Nat} {B : Bk} (h : Turn A b n t x) (hx : A.has x) (hs : (A.tx x).st = 1) (hok : B.Ok b) (hlen : B.ts.length = A.ts.length) (hrn : B.rn = A.rn.filter fun j => !decide (j = x)) (hlg : B.log.length ≤ A.log.length + 1) : Turn B b n t (x + 1) := by
  have hr := h.ok.inv.run hx hs
  have h1 := filter_lt hr
  have h2 := h.lg
  have h3 : A.rn.length + t ≤ n := by
    rcases h.le with c | c
    · exact c
    · rw [c] at hr; simp at hr
  refine ⟨hok, hlen.trans h.len, by rw [hrn]; omega, .inl (by rw [hrn]; omega), .inr (.inl (by rw [hrn]; omega))⟩
theorem Turn.next {n t : Nat} (h : Turn A b n t (n + 1)) : A.rn.length + (t + 1) ≤ n ∨ A.rn = [] := by
  rcases h.go with c | c | ⟨k, h1, h2, _⟩
  · exact .inr c
  · exact .inl (by omega)
  · have := h2.2
    rw [h.len] at this
    omega
theorem Ok.none (h : A.Ok b) (hr : A.rn = []) : A.q = [] ∧ ∀ k, A.has k → ((A.tx k).st = 3 ∨ (A.tx k).st = 4) ∧ (A.tx k).locks = [] := by
  refine ⟨?_, fun k hk => ?_⟩
  · cases e : A.q with
    | nil => rfl
    | cons k l =>
      have : k ∈ A.q := by rw [e]; exact List.mem_cons_self ..
      have := h.inv.qrn this
      rw [hr] at this
      simp at this
  · have hn : k ∉ A.rn := by rw [hr]; simp
    refine ⟨?_, (h.inv.off k hk hn).1⟩
    have h1 := h.inv.st k hk
    have h2 : ¬ ((A.tx k).st = 1 ∨ (A.tx k).st = 2) := fun c => hn ((h.inv.rn k).2 ⟨hk, c⟩)
    omega
end Bk
end Go.KL
end

section
/- Walks: a call on both books: Begin, Commit, Abort. -/
namespace Go.KL
open Go.Proofs
theorem Bk.Ok.r5 {A : Bk} {b : RB} {m : Nat} (h : A.Ok m) (hS : Sm A b) (k : Int) : b.stI k < 5 := by
  rw [hS.stI]
  unfold Bk.stI
  split
  · rename_i c
    rcases h.inv.st k.toNat ⟨by omega, by omega⟩ with h | h | h | h <;> omega
  · omega
theorem Sm.refI {A : Bk} {b : RB} {m : Nat} (hS : Sm A b) (h : A.Inv m) (k : Int) (w : Bool) :
    (¬ (1 ≤ k ∧ k ≤ A.ts.length) ∧ b.ref k w = 80) ∨ ∃ j : Nat, k = j ∧ A.has j ∧ (((A.tx j).st = 4 ∧ b.ref k w = 81) ∨ ((A.tx j).st = 3 ∧ b.ref k w = 82) ∨ ((A.tx j).st = 2 ∧ b.ref k w = if w = true then 83 else 0) ∨ ((A.tx j).st = 1 ∧ b.ref k w = 0)) := by
  have e : b.ref k w = if A.stI k = 0 then 80 else if A.stI k = 4 then 81 else if A.stI k = 3 then 82 else if A.stI k = 2 ∧ w = true then 83 else 0 := by
    rw [RB.ref, hS.stI]
  by_cases c : 1 ≤ k ∧ k ≤ A.ts.length
  · refine .inr ⟨k.toNat, by omega, ⟨by omega, by omega⟩, ?_⟩
    have e2 : A.stI k = (A.tx k.toNat).st := by rw [Bk.stI, if_pos c]
    rw [e, e2]
    rcases h.st k.toNat ⟨by omega, by omega⟩ with h | h | h | h
    · rw [h]; simp
    · rw [h]; cases w <;> simp
    · rw [h]; simp
    · rw [h]; simp
  · refine .inl ⟨c, ?_⟩
    have e2 : A.stI k = 0 := by rw [Bk.stI, if_neg c]
    rw [e, if_pos e2]
theorem K.d1 {W w : World} {L M G : List Chunk} {a b c : Chunk} (h : K W (a :: b :: c :: (L ++ (M ++ G))) w) : K W (L ++ (M ++ (a :: b :: c :: G))) w := K.perm h fun x _ => by
  simp only [List.count_append, List.count_cons]
  omega
theorem K.d2 {W w : World} {L M G : List Chunk} {a b c : Chunk} (h : K W (L ++ (M ++ (a :: b :: c :: G))) w) : K W (a :: b :: c :: (L ++ (M ++ G))) w := K.perm h fun x _ => by
  simp only [List.count_append, List.count_cons]
  omega
theorem K.d3 {W w : World} {L M G : List Chunk} {a b c : Chunk} (h : K W (a :: b :: c :: (L ++ (M ++ G))) w) : K W (M ++ (a :: b :: c :: (L ++ G))) w := K.perm h fun x _ => by
  simp only [List.count_append, List.count_cons]
  omega
theorem K.d4 {W w : World} {T L M G : List Chunk} {a b c : Chunk} (h : K W (T ++ (M ++ (a :: b :: c :: (L ++ G)))) w) : K W (a :: b :: c :: (L ++ (T ++ (M ++ G)))) w := K.perm h fun x _ => by
  simp only [List.count_append, List.count_cons]
  omega
theorem Sm.cm {A B : Bk} {b b' : RB} {m n e n' e' : Nat} {k : Int} (hS : Sm A b) (hI : A.Inv m) (hc : A.Cmt k B n e) (hd : b.Cm k b' n' e') : Sm B b' ∧ n' = n ∧ e' = e := by
  rcases hS.refI hI k true with ⟨h1, h2⟩ | ⟨j, rfl, hj, h⟩
  · rcases hc with ⟨_, rfl, rfl, rfl⟩ | ⟨i, rfl, hi, _⟩
    · rcases hd with ⟨_, rfl, rfl, rfl⟩ | ⟨d, _⟩
      · exact ⟨hS, rfl, h2⟩
      · omega
    · unfold Bk.has at hi
      omega
  · rcases hc with ⟨hn, _⟩ | ⟨i, hi, _, hc⟩
    · unfold Bk.has at hj
      omega
    · obtain rfl : j = i := by omega
      rcases hd with ⟨d, rfl, rfl, rfl⟩ | ⟨d, rfl, rfl, i, hi', rfl⟩
      · rcases hc with ⟨s, rfl, rfl, rfl⟩ | ⟨s, rfl, rfl, rfl⟩ | ⟨s, rfl, rfl, rfl⟩ | ⟨s2, s3, s4, _⟩
        · exact ⟨hS, rfl, by rcases h with ⟨t, h⟩ | ⟨t, h⟩ | ⟨t, h⟩ | ⟨t, h⟩ <;> omega⟩
        · exact ⟨hS, rfl, by rcases h with ⟨t, h⟩ | ⟨t, h⟩ | ⟨t, h⟩ | ⟨t, h⟩ <;> omega⟩
        · exact ⟨hS, rfl, by rcases h with ⟨t, h⟩ | ⟨t, h⟩ | ⟨t, h⟩ | ⟨t, h⟩ <;> first | omega | (rw [if_pos rfl] at h; omega)⟩
        · rcases h with ⟨t, h⟩ | ⟨t, h⟩ | ⟨t, h⟩ | ⟨t, h⟩ <;> omega
      · obtain rfl : j = i := by omega
        have hst : (A.tx j).st = 1 := by
          rcases h with ⟨t, h⟩ | ⟨t, h⟩ | ⟨t, h⟩ | ⟨t, h⟩
          · omega
          · omega
          · rw [if_pos rfl] at h; omega
          · exact t
        rcases hc with ⟨s, _⟩ | ⟨s, _⟩ | ⟨s, _⟩ | ⟨_, _, _, rfl, rfl, rfl⟩
        · omega
        · omega
        · omega
        · have hr := hI.run hj hst
          obtain ⟨_, _, c3, _⟩ := Bk.commit_same hj
          refine ⟨(hS.commit hr hI).1, ?_, rfl⟩
          rw [c3, List.length_append, hS.D]
          rfl
theorem Sm.ab {A B : Bk} {b b' : RB} {m e e' : Nat} {k : Int} (hS : Sm A b) (hI : A.Inv m) (hc : A.Abt k B e) (hd : b.Ab k b' e') : Sm B b' ∧ e' = e := by
  rcases hS.refI hI k false with ⟨h1, h2⟩ | ⟨j, rfl, hj, h⟩
  · rcases hc with ⟨_, rfl, rfl⟩ | ⟨i, rfl, hi, _⟩
    · rcases hd with ⟨_, rfl, rfl⟩ | ⟨d, _⟩
      · exact ⟨hS, h2⟩
      · omega
    · unfold Bk.has at hi
      omega
  · rcases hc with ⟨hn, _⟩ | ⟨i, hi, _, hc⟩
    · unfold Bk.has at hj
      omega
    · obtain rfl : j = i := by omega
      rcases hd with ⟨d, rfl, rfl⟩ | ⟨d, rfl, i, hi', rfl⟩
      · rcases hc with ⟨s, rfl, rfl⟩ | ⟨s, rfl, rfl⟩ | ⟨s2, s3, _⟩
        · exact ⟨hS, by rcases h with ⟨t, h⟩ | ⟨t, h⟩ | ⟨t, h⟩ | ⟨t, h⟩ <;> omega⟩
        · exact ⟨hS, by rcases h with ⟨t, h⟩ | ⟨t, h⟩ | ⟨t, h⟩ | ⟨t, h⟩ <;> omega⟩
        · rcases h with ⟨t, h⟩ | ⟨t, h⟩ | ⟨t, h⟩ | ⟨t, h⟩
          · omega
          · omega
          · rw [if_neg (by decide)] at h; omega
          · omega
      · obtain rfl : j = i := by omega
        rcases hc with ⟨s, _⟩ | ⟨s, _⟩ | ⟨_, _, rfl, rfl⟩
        · rcases h with ⟨t, h⟩ | ⟨t, h⟩ | ⟨t, h⟩ | ⟨t, h⟩ <;> omega
        · rcases h with ⟨t, h⟩ | ⟨t, h⟩ | ⟨t, h⟩ | ⟨t, h⟩ <;> omega
        · exact ⟨(hS.abort hj hI).1, rfl⟩
theorem Sm.endC {A : Bk} {r : Rg} {m : Nat} {k : Int} {j : Nat} {t : Dt} (hS : Sm A r.rb) (hI : A.Inv m) (hm : m < 100000) (hk : k = j) (h0 : r.rb.ref k true = 0) (ht : r.ts[j - 1]? = some t) :
    Rep r.size r.C (ops t.os) ∧ (∀ i, nbd (ap r.C ((ops t.os).take i)) r.size ≤ 4096) ∧ t.os.length < 100000 ∧ RB.EndOK j r.Q ⟨r.size, ap r.C (ops t.os), (r.rb.put j ⟨3, t.locks, ops t.os⟩).T, [], r.rb.D ++ [(j, ops t.os)]⟩ := by
  rcases hS.refI hI k true with ⟨h1, h2⟩ | ⟨i, hi, hj, h⟩
  · omega
  obtain rfl : j = i := by omega
  have hst : (A.tx j).st = 1 := by
    rcases h with ⟨t, h⟩ | ⟨t, h⟩ | ⟨t, h⟩ | ⟨t, h⟩
    · omega
    · omega
    · rw [if_pos rfl] at h; omega
    · exact t
  have hr := hI.run hj hst
  have htx := rb_tx ht
  have hrun := hS.run j hr
  rw [htx] at hrun
  have e1 : ops t.os = (A.tx j).ops := hrun.2
  have ez : r.size = A.size := hS.size
  have ec : r.C = A.C := hS.C
  have hE := (hS.commit hr hI).2
  rw [htx] at hE
  refine ⟨by rw [e1, ez, ec]; exact hI.rep j hr, fun i => by rw [e1, ez, ec]; exact (hI.apOK hj).nb i, ?_, hE⟩
  have h3 := hI.ol j hj
  have h4 : (ops t.os).length = t.os.length := List.length_map _
  rw [← e1] at h3
  omega
theorem Sm.endA {A : Bk} {r : Rg} {m : Nat} {k : Int} {j : Nat} {t : Dt} (hS : Sm A r.rb) (hI : A.Inv m) (hk : k = j) (h0 : r.rb.ref k false = 0) (ht : r.ts[j - 1]? = some t) : RB.EndOK j r.Q ⟨r.size, r.C, (r.rb.put j ⟨4, t.locks, ops t.os⟩).T, [], r.rb.D⟩ := by
  rcases hS.refI hI k false with ⟨h1, h2⟩ | ⟨i, hi, hj, h⟩
  · omega
  obtain rfl : j = i := by omega
  have hE := (hS.abort hj hI).2
  rw [rb_tx ht] at hE
  exact hE
theorem Sm.ql {A : Bk} {r : Rg} {m : Nat} (hS : Sm A r.rb) (hI : A.Inv m) : r.Q.length ≤ 64 := by
  have h : r.Q = A.reqs := hS.Q
  have := hI.ql
  rw [h, Bk.reqs, List.length_map]
  exact this
structure DoR (W : World) (M : List Chunk) (g : Bg) (f : Nat → Int) (x : Bg × Rg × List Chunk) : Prop where
  ok : x.1.OK
  b : x.1.b = g.b
  cl : g.bk.Cl f x.1.bk
  rv : RV (K W (x.2.2 ++ M)) x.2.1
  sm : Sm x.1.bk x.2.1.rb
abbrev clv (f : Nat → Int) : Value := .agg #[.int .u8 (f 0), .int .i64 (f 1), .int .i64 (f 2), .int .i64 (f 3), .int .i64 (f 4), .int .i64 (f 5)]
attribute [local irreducible] SC St Fin Sq Ylds Doos Sets Enters Spec CellIs CellsAre Then Ret Rnd Chn resOK ints bools recs arr
section
variable {W : World} {M G : List Chunk} {g : Bg} {r : Rg} {f : Nat → Int} {m : Nat}
set_option maxRecDepth 10000 in
set_option maxHeartbeats 8000000 in
theorem do_begin (hB : g.OK) (hO : g.bk.Ok m) (hV : RV (K W M) r) (hS : Sm g.bk r.rb) (htl : g.ts.length + 1 < 1000000) (hf : 0 ≤ f 0 ∧ f 0 < 256) (h0 : f 0 % 6 = 0) :
    Spec Tryz.prog 16 #[.pointer (some ⟨g.b, 0, none⟩), r.val, clv f] (K W (g.L ++ (M ++ G))) (X := { x : Bg × Rg × List Chunk // DoR W M g f x }) (fun x => .tuple #[x.1.2.1.val, .bool true]) (fun x => K W (x.1.1.L ++ (x.1.2.2 ++ (M ++ G)))) := by
  have hrl : r.ts.length = g.ts.length := by
    have := hS.len
    simpa [Rg.rb, Bg.bk] using this
  refine enter (args := [_, _, _]) Tryz.func16 rfl Tryz.ntmps16 rfl ?_
  refine csr ?_
  refine sbx fun b4 => ?_
  refine sbx fun b5 => ?_
  refine sal fun b6 => ?_
  refine sa ?_
  refine snf ?_
  refine c_seq ?_
  refine csr ?_
  refine sf0 ?_
  refine slr 1 ?_
  refine sy (y_remK rfl rfl (by omega)) ?_
  refine snf ?_
  refine c_block ?_
  refine csr ?_
  refine sy (y_T (y_eql rfl rfl) (by assumption)) ?_
  refine sa ?_
  refine snf ?_
  refine c_condT rfl ?_
  refine csr ?_
  refine sm ?_
  refine St.cls (C' := K W (g.L ++ (M ++ ([(b6, row 42 [.int .i64 0, .slice none 0 0, .slice none 0 0, .slice none 0 0, .slice none 0 0])] :: [(b5, row 46 [.int .u8 (f 0), .int .i64 (f 1), .int .i64 (f 2), .int .i64 (f 3), .int .i64 (f 4), .int .i64 (f 5)])] :: [(b4, row 42 r.cells)] :: G)))) ?_ (fun w h => K.d1 h)
  refine s_call (en_f rfl Tryz.call26) (Begin_b (N := M ++ ([(b6, row 42 [.int .i64 0, .slice none 0 0, .slice none 0 0, .slice none 0 0, .slice none 0 0])] :: [(b5, row 46 [.int .u8 (f 0), .int .i64 (f 1), .int .i64 (f 2), .int .i64 (f 3), .int .i64 (f 4), .int .i64 (f 5)])] :: [(b4, row 42 r.cells)] :: G)) hB (by omega)) rfl rfl rfl (fun x => ?_)
  obtain ⟨⟨g', n, e⟩, hB', hb', hc⟩ := x
  dsimp only at hB' hb' hc ⊢
  refine St.cls (C' := K W ([(b6, row 42 [.int .i64 0, .slice none 0 0, .slice none 0 0, .slice none 0 0, .slice none 0 0])] :: [(b5, row 46 [.int .u8 (f 0), .int .i64 (f 1), .int .i64 (f 2), .int .i64 (f 3), .int .i64 (f 4), .int .i64 (f 5)])] :: [(b4, row 42 r.cells)] :: (g'.L ++ (M ++ G)))) ?_ (fun w h => K.d2 h)
  have hbg := RBegin_spec (W := W) (N := M) (G := [(b6, row 42 [.int .i64 0, .slice none 0 0, .slice none 0 0, .slice none 0 0, .slice none 0 0])] :: [(b5, row 46 [.int .u8 (f 0), .int .i64 (f 1), .int .i64 (f 2), .int .i64 (f 3), .int .i64 (f 4), .int .i64 (f 5)])] :: [(b4, row 42 r.cells)] :: (g'.L ++ G)) hV (by omega)
  refine sm ?_
  refine sx ?_
  refine sx ?_
  refine sa ?_
  refine sa ?_
  refine snf ?_
  refine csr ?_
  refine sy (y_loadA Tryz.tab rfl rfl rfl rfl (cells_row0 2 rfl rfl)) ?_
  refine St.cls (C' := K W (M ++ ([(b6, row 42 [.int .i64 0, .slice none 0 0, .slice none 0 0, .slice none 0 0, .slice none 0 0])] :: [(b5, row 46 [.int .u8 (f 0), .int .i64 (f 1), .int .i64 (f 2), .int .i64 (f 3), .int .i64 (f 4), .int .i64 (f 5)])] :: [(b4, row 42 r.cells)] :: (g'.L ++ G)))) ?_ (fun w h => K.d3 h)
  refine sk Tryz.call47 hbg fun x => ?_
  obtain ⟨⟨r', T, n', e'⟩, hV', hc'⟩ := x
  dsimp only at hV' hc' ⊢
  refine St.cls (C' := K W ([(b6, row 42 [.int .i64 0, .slice none 0 0, .slice none 0 0, .slice none 0 0, .slice none 0 0])] :: [(b5, row 46 [.int .u8 (f 0), .int .i64 (f 1), .int .i64 (f 2), .int .i64 (f 3), .int .i64 (f 4), .int .i64 (f 5)])] :: [(b4, row 42 r.cells)] :: (g'.L ++ (T ++ (M ++ G))))) ?_ (fun w h => K.d4 h)
  have hI := hO.inv
  have hpr := hS.progress hI
  have hbl : g.bk.rn.length = g.rn.length := rfl
  obtain ⟨hSm, hcl, rfl, rfl⟩ : Sm g'.bk r'.rb ∧ g.bk.Cl f g'.bk ∧ n' = n ∧ e' = e := by
    rcases hc with ⟨h1, h2, h3⟩ | ⟨h1, h2, h3⟩
    · rcases hc' with ⟨k1, k2, rfl, rfl⟩ | ⟨k1, _⟩
      · refine ⟨by rw [h2, k2]; exact hS, .inl ⟨h0, .inl ⟨h1, h2⟩⟩, (Prod.mk.inj h3).1.symm, (Prod.mk.inj h3).2.symm⟩
      · omega
    · rcases hc' with ⟨k1, _⟩ | ⟨k1, k2, rfl, rfl⟩
      · omega
      · refine ⟨by rw [h2, k2]; exact hS.begin hI, .inl ⟨h0, .inr ⟨h1, h2⟩⟩, ?_, (Prod.mk.inj h3).2.symm⟩
        rw [(Prod.mk.inj h3).1, ← hrl]
        simp [Rg.rb]
  clear hc hc' hpr
  have hnn : (n' : Int) = (n' : Int) := rfl
  have hee : (e' : Int) = (e' : Int) := rfl
  refine sm ?_
  refine sx ?_
  refine sx ?_
  refine sx ?_
  refine sal fun b10 => ?_
  refine ss (set_box Tryz.tab 0 rfl rfl rfl rfl rfl rfl rfl) ?_
  refine sa ?_
  refine sa ?_
  refine snf ?_
  refine csr ?_
  refine sy (y_loadA Tryz.tab rfl rfl rfl rfl (cells_row0 0 rfl rfl)) ?_
  refine sm ?_
  refine sm ?_
  refine sy (y_T (y_eql rfl rfl) (by assumption)) ?_
  refine sm ?_
  refine sm ?_
  refine sm ?_
  refine sy (y_T (y_eql rfl rfl) (by assumption)) ?_
  refine spT ?_
  refine ss (set_box Tryz.tab 1 rfl rfl rfl rfl rfl rfl rfl) ?_
  refine sa ?_
  refine snf ?_
  refine c_ret ?_
  refine f_blockR ?_
  refine f_thenR ?_
  exact f_ret ⟨(g', r', T), hB', hb', hcl, hV', hSm⟩ (resA1 Tryz.tab rfl rfl rfl rfl rfl rfl (cells_row0 1 rfl rfl)) (fun w h => ((h.dropAt 0).dropAt 0 |>.dropAt 0).dropAt 0)
set_option maxRecDepth 10000 in
set_option maxHeartbeats 8000000 in
theorem do_commit (hB : g.OK) (hO : g.bk.Ok m) (hm : m < 100000) (hV : RV (K W M) r) (hS : Sm g.bk r.rb) (hll : g.ls.length < 100000) (hf : 0 ≤ f 0 ∧ f 0 < 256) (h0 : f 0 % 6 = 4) :
    Spec Tryz.prog 16 #[.pointer (some ⟨g.b, 0, none⟩), r.val, clv f] (K W (g.L ++ (M ++ G))) (X := { x : Bg × Rg × List Chunk // DoR W M g f x }) (fun x => .tuple #[x.1.2.1.val, .bool true]) (fun x => K W (x.1.1.L ++ (x.1.2.2 ++ (M ++ G)))) := by
  have hI := hO.inv
  have hrl : r.ds.length = g.ls.length := by
    have := congrArg List.length hS.D
    simpa [Rg.rb, Bg.bk] using this
  refine enter (args := [_, _, _]) Tryz.func16 rfl Tryz.ntmps16 rfl ?_
  refine csr ?_
  refine sbx fun b4 => ?_
  refine sbx fun b5 => ?_
  refine sal fun b6 => ?_
  refine sa ?_
  refine snf ?_
  refine c_seq ?_
  refine csr ?_
  refine sf0 ?_
  refine slr 1 ?_
  refine sy (y_remK rfl rfl (by omega)) ?_
  refine snf ?_
  refine c_block ?_
  refine csr ?_
  refine sy (y_F (y_eql rfl rfl) (by omega)) ?_
  refine sa ?_
  refine snf ?_
  refine c_condF rfl ?_
  refine csr ?_
  refine sy (y_F (y_eql rfl rfl) (by omega)) ?_
  refine sa ?_
  refine snf ?_
  refine c_condF rfl ?_
  refine csr ?_
  refine sy (y_T (y_eql rfl rfl) (by assumption)) ?_
  refine sa ?_
  refine snf ?_
  refine c_condT rfl ?_
  refine csr ?_
  refine sm ?_
  refine sf 1 ?_
  refine slr 1 ?_
  refine St.cls (C' := K W (g.L ++ (M ++ ([(b6, row 42 [.int .i64 0, .slice none 0 0, .slice none 0 0, .slice none 0 0, .slice none 0 0])] :: [(b5, row 46 [.int .u8 (f 0), .int .i64 (f 1), .int .i64 (f 2), .int .i64 (f 3), .int .i64 (f 4), .int .i64 (f 5)])] :: [(b4, row 42 r.cells)] :: G)))) ?_ (fun w h => K.d1 h)
  have hc5 : CellsAre (K W (g.L ++ (M ++ ([(b6, row 42 [.int .i64 0, .slice none 0 0, .slice none 0 0, .slice none 0 0, .slice none 0 0])] :: [(b5, row 46 [.int .u8 (f 0), .int .i64 (f 1), .int .i64 (f 2), .int .i64 (f 3), .int .i64 (f 4), .int .i64 (f 5)])] :: [(b4, row 42 r.cells)] :: G)))) ⟨b5, 0, none⟩ (clv f).cells.toList := (cells_row0 (W := W) (Ls := [(b6, row 42 [.int .i64 0, .slice none 0 0, .slice none 0 0, .slice none 0 0, .slice none 0 0])] :: [(b5, row 46 [.int .u8 (f 0), .int .i64 (f 1), .int .i64 (f 2), .int .i64 (f 3), .int .i64 (f 4), .int .i64 (f 5)])] :: [(b4, row 42 r.cells)] :: G) 1 rfl rfl).cls fun w h => K.bck (K.bck h)
  skip
  refine s_call (en_f rfl Tryz.call30) (Commit_b (N := M ++ ([(b6, row 42 [.int .i64 0, .slice none 0 0, .slice none 0 0, .slice none 0 0, .slice none 0 0])] :: [(b5, row 46 [.int .u8 (f 0), .int .i64 (f 1), .int .i64 (f 2), .int .i64 (f 3), .int .i64 (f 4), .int .i64 (f 5)])] :: [(b4, row 42 r.cells)] :: G)) (tx := f 1) hB (hI.good hm) (fun k _ hk _ _ => hI.apOK hk) (by omega)) rfl rfl rfl (fun x => ?_)
  obtain ⟨⟨g', n, e⟩, hB', hp', hA⟩ := x
  dsimp only at hB' hp' hA ⊢
  clear hc5
  refine St.cls (C' := K W ([(b6, row 42 [.int .i64 0, .slice none 0 0, .slice none 0 0, .slice none 0 0, .slice none 0 0])] :: [(b5, row 46 [.int .u8 (f 0), .int .i64 (f 1), .int .i64 (f 2), .int .i64 (f 3), .int .i64 (f 4), .int .i64 (f 5)])] :: [(b4, row 42 r.cells)] :: (g'.L ++ (M ++ G)))) ?_ (fun w h => K.d2 h)
  have hbg := RCommit_spec (W := W) (N := M) (G := [(b6, row 42 [.int .i64 0, .slice none 0 0, .slice none 0 0, .slice none 0 0, .slice none 0 0])] :: [(b5, row 46 [.int .u8 (f 0), .int .i64 (f 1), .int .i64 (f 2), .int .i64 (f 3), .int .i64 (f 4), .int .i64 (f 5)])] :: [(b4, row 42 r.cells)] :: (g'.L ++ G)) hV (k := f 1) (hO.r5 hS _) (by have := hS.ql hI; omega) (by omega) (fun j t hk hz ht => hS.endC hI hm hk hz ht)
  refine sm ?_
  refine sx ?_
  refine sx ?_
  refine sa ?_
  refine sa ?_
  refine snf ?_
  refine csr ?_
  refine sy (y_loadA Tryz.tab rfl rfl rfl rfl (cells_row0 2 rfl rfl)) ?_
  refine sf 1 ?_
  refine slr 1 ?_
  refine St.cls (C' := K W (M ++ ([(b6, row 42 [.int .i64 0, .slice none 0 0, .slice none 0 0, .slice none 0 0, .slice none 0 0])] :: [(b5, row 46 [.int .u8 (f 0), .int .i64 (f 1), .int .i64 (f 2), .int .i64 (f 3), .int .i64 (f 4), .int .i64 (f 5)])] :: [(b4, row 42 r.cells)] :: (g'.L ++ G)))) ?_ (fun w h => K.d3 h)
  refine sk Tryz.call49 hbg fun x => ?_
  obtain ⟨⟨r', T, n', e'⟩, hV', hc'⟩ := x
  dsimp only at hV' hc' ⊢
  refine St.cls (C' := K W ([(b6, row 42 [.int .i64 0, .slice none 0 0, .slice none 0 0, .slice none 0 0, .slice none 0 0])] :: [(b5, row 46 [.int .u8 (f 0), .int .i64 (f 1), .int .i64 (f 2), .int .i64 (f 3), .int .i64 (f 4), .int .i64 (f 5)])] :: [(b4, row 42 r.cells)] :: (g'.L ++ (T ++ (M ++ G))))) ?_ (fun w h => K.d4 h)
  obtain ⟨hSm, rfl, rfl⟩ := hS.cm hI hp' hc'
  have hnn : (n' : Int) = (n' : Int) := rfl
  have hee : (e' : Int) = (e' : Int) := rfl
  refine sm ?_
  refine sx ?_
  refine sx ?_
  refine sx ?_
  refine sal fun b18 => ?_
  refine ss (set_box Tryz.tab 0 rfl rfl rfl rfl rfl rfl rfl) ?_
  refine sa ?_
  refine sa ?_
  refine snf ?_
  refine csr ?_
  refine sy (y_loadA Tryz.tab rfl rfl rfl rfl (cells_row0 0 rfl rfl)) ?_
  refine sm ?_
  refine sm ?_
  refine sy (y_T (y_eql rfl rfl) (by assumption)) ?_
  refine sm ?_
  refine sm ?_
  refine sm ?_
  refine sy (y_T (y_eql rfl rfl) (by assumption)) ?_
  refine spT ?_
  refine ss (set_box Tryz.tab 1 rfl rfl rfl rfl rfl rfl rfl) ?_
  refine sa ?_
  refine snf ?_
  refine c_ret ?_
  refine f_blockR ?_
  refine f_thenR ?_
  exact f_ret ⟨(g', r', T), hB', hA.b, .inr (.inr (.inr (.inl ⟨h0, _, _, hp'⟩))), hV', hSm⟩ (resA1 Tryz.tab rfl rfl rfl rfl rfl rfl (cells_row0 1 rfl rfl)) (fun w h => ((h.dropAt 0).dropAt 0 |>.dropAt 0).dropAt 0)
set_option maxRecDepth 10000 in
set_option maxHeartbeats 8000000 in
theorem do_abort (hB : g.OK) (hO : g.bk.Ok m) (hm : m < 100000) (hV : RV (K W M) r) (hS : Sm g.bk r.rb) (hf : 0 ≤ f 0 ∧ f 0 < 256) (h0 : f 0 % 6 = 5) :
    Spec Tryz.prog 16 #[.pointer (some ⟨g.b, 0, none⟩), r.val, clv f] (K W (g.L ++ (M ++ G))) (X := { x : Bg × Rg × List Chunk // DoR W M g f x }) (fun x => .tuple #[x.1.2.1.val, .bool true]) (fun x => K W (x.1.1.L ++ (x.1.2.2 ++ (M ++ G)))) := by
  have hI := hO.inv
  refine enter (args := [_, _, _]) Tryz.func16 rfl Tryz.ntmps16 rfl ?_
  refine csr ?_
  refine sbx fun b4 => ?_
  refine sbx fun b5 => ?_
  refine sal fun b6 => ?_
  refine sa ?_
  refine snf ?_
  refine c_seq ?_
  refine csr ?_
  refine sf0 ?_
  refine slr 1 ?_
  refine sy (y_remK rfl rfl (by omega)) ?_
  refine snf ?_
  refine c_block ?_
  refine csr ?_
  refine sy (y_F (y_eql rfl rfl) (by omega)) ?_
  refine sa ?_
  refine snf ?_
  refine c_condF rfl ?_
  refine csr ?_
  refine sy (y_F (y_eql rfl rfl) (by omega)) ?_
  refine sa ?_
  refine snf ?_
  refine c_condF rfl ?_
  refine csr ?_
  refine sy (y_F (y_eql rfl rfl) (by omega)) ?_
  refine sa ?_
  refine snf ?_
  refine c_condF rfl ?_
  refine csr ?_
  refine sy (y_T (y_eql rfl rfl) (by assumption)) ?_
  refine sa ?_
  refine snf ?_
  refine c_condT rfl ?_
  refine csr ?_
  refine sm ?_
  refine sf 1 ?_
  refine slr 1 ?_
  refine St.cls (C' := K W (g.L ++ (M ++ ([(b6, row 42 [.int .i64 0, .slice none 0 0, .slice none 0 0, .slice none 0 0, .slice none 0 0])] :: [(b5, row 46 [.int .u8 (f 0), .int .i64 (f 1), .int .i64 (f 2), .int .i64 (f 3), .int .i64 (f 4), .int .i64 (f 5)])] :: [(b4, row 42 r.cells)] :: G)))) ?_ (fun w h => K.d1 h)
  have hc5 : CellsAre (K W (g.L ++ (M ++ ([(b6, row 42 [.int .i64 0, .slice none 0 0, .slice none 0 0, .slice none 0 0, .slice none 0 0])] :: [(b5, row 46 [.int .u8 (f 0), .int .i64 (f 1), .int .i64 (f 2), .int .i64 (f 3), .int .i64 (f 4), .int .i64 (f 5)])] :: [(b4, row 42 r.cells)] :: G)))) ⟨b5, 0, none⟩ (clv f).cells.toList := (cells_row0 (W := W) (Ls := [(b6, row 42 [.int .i64 0, .slice none 0 0, .slice none 0 0, .slice none 0 0, .slice none 0 0])] :: [(b5, row 46 [.int .u8 (f 0), .int .i64 (f 1), .int .i64 (f 2), .int .i64 (f 3), .int .i64 (f 4), .int .i64 (f 5)])] :: [(b4, row 42 r.cells)] :: G) 1 rfl rfl).cls fun w h => K.bck (K.bck h)
  skip
  refine sk Tryz.call31 (Abort_b (N := M ++ ([(b6, row 42 [.int .i64 0, .slice none 0 0, .slice none 0 0, .slice none 0 0, .slice none 0 0])] :: [(b5, row 46 [.int .u8 (f 0), .int .i64 (f 1), .int .i64 (f 2), .int .i64 (f 3), .int .i64 (f 4), .int .i64 (f 5)])] :: [(b4, row 42 r.cells)] :: G)) (tx := f 1) hB (hI.good hm)) fun x => ?_
  obtain ⟨⟨g', e⟩, hB', hp', hA⟩ := x
  dsimp only at hB' hp' hA ⊢
  clear hc5
  refine St.cls (C' := K W ([(b6, row 42 [.int .i64 0, .slice none 0 0, .slice none 0 0, .slice none 0 0, .slice none 0 0])] :: [(b5, row 46 [.int .u8 (f 0), .int .i64 (f 1), .int .i64 (f 2), .int .i64 (f 3), .int .i64 (f 4), .int .i64 (f 5)])] :: [(b4, row 42 r.cells)] :: (g'.L ++ (M ++ G)))) ?_ (fun w h => K.d2 h)
  have hbg := RAbort_spec (W := W) (N := M) (G := [(b6, row 42 [.int .i64 0, .slice none 0 0, .slice none 0 0, .slice none 0 0, .slice none 0 0])] :: [(b5, row 46 [.int .u8 (f 0), .int .i64 (f 1), .int .i64 (f 2), .int .i64 (f 3), .int .i64 (f 4), .int .i64 (f 5)])] :: [(b4, row 42 r.cells)] :: (g'.L ++ G)) hV (k := f 1) (hO.r5 hS _) (by have := hS.ql hI; omega) (fun j t hk hz ht => hS.endA hI hk hz ht)
  refine sa ?_
  refine snf ?_
  refine csr ?_
  refine sy (y_loadA Tryz.tab rfl rfl rfl rfl (cells_row0 2 rfl rfl)) ?_
  refine sf 1 ?_
  refine slr 1 ?_
  refine St.cls (C' := K W (M ++ ([(b6, row 42 [.int .i64 0, .slice none 0 0, .slice none 0 0, .slice none 0 0, .slice none 0 0])] :: [(b5, row 46 [.int .u8 (f 0), .int .i64 (f 1), .int .i64 (f 2), .int .i64 (f 3), .int .i64 (f 4), .int .i64 (f 5)])] :: [(b4, row 42 r.cells)] :: (g'.L ++ G)))) ?_ (fun w h => K.d3 h)
  refine sk Tryz.call50 hbg fun x => ?_
  obtain ⟨⟨r', T, e'⟩, hV', hc'⟩ := x
  dsimp only at hV' hc' ⊢
  refine St.cls (C' := K W ([(b6, row 42 [.int .i64 0, .slice none 0 0, .slice none 0 0, .slice none 0 0, .slice none 0 0])] :: [(b5, row 46 [.int .u8 (f 0), .int .i64 (f 1), .int .i64 (f 2), .int .i64 (f 3), .int .i64 (f 4), .int .i64 (f 5)])] :: [(b4, row 42 r.cells)] :: (g'.L ++ (T ++ (M ++ G))))) ?_ (fun w h => K.d4 h)
  obtain ⟨hSm, rfl⟩ := hS.ab hI hp' hc'
  have hee : (e' : Int) = (e' : Int) := rfl
  refine sm ?_
  refine sx ?_
  refine sx ?_
  refine sal fun b22 => ?_
  refine ss (set_box Tryz.tab 0 rfl rfl rfl rfl rfl rfl rfl) ?_
  refine sa ?_
  refine snf ?_
  refine csr ?_
  refine sy (y_loadA Tryz.tab rfl rfl rfl rfl (cells_row0 0 rfl rfl)) ?_
  refine sm ?_
  refine sm ?_
  refine sy (y_T (y_eql rfl rfl) (by assumption)) ?_
  refine ss (set_box Tryz.tab 1 rfl rfl rfl rfl rfl rfl rfl) ?_
  refine sa ?_
  refine snf ?_
  refine c_ret ?_
  refine f_blockR ?_
  refine f_thenR ?_
  exact f_ret ⟨(g', r', T), hB', hA.b, .inr (.inr (.inr (.inr ⟨h0, _, hp'⟩))), hV', hSm⟩ (resA1 Tryz.tab rfl rfl rfl rfl rfl rfl (cells_row0 1 rfl rfl)) (fun w h => ((h.dropAt 0).dropAt 0 |>.dropAt 0).dropAt 0)
end
end Go.KL
end
