/- The library of the proof, part 6: a program logic over the model, walks of functions, plain laws. No condition. -/
import Derived.Test.YtcbmmldkpicaiaaGreatRooL5
set_option maxRecDepth 10000
set_option maxHeartbeats 16000000
section
/- Walks: Room of the document's book. -/
namespace Go.KL
open Go.Proofs Go.Proofs.Tryz
theorem mvs_snoc (l : List Oa) (o : Oa) : mvs (l ++ [o]) = mvs l + if o.mv then 1 else 0 := by
  rw [mvs_app, mvs_cons, mvs_nil, Nat.add_zero]
def rmv (ts : List Dt) : Nat := ((ts.filter fun t => t.rt.inP).map fun t => mvs (ops t.os)).sum
theorem rmv_snoc (ts : List Dt) (t : Dt) : rmv (ts ++ [t]) = rmv ts + if t.rt.inP then mvs (ops t.os) else 0 := by
  unfold rmv;rw [List.filter_append, List.map_append, List.sum_append, List.filter_cons];split <;> simp
attribute [local irreducible] SC St Fin Sq Ylds Doos Sets Enters Spec CellIs CellsAre Then Ret Rnd Chn resOK ints bools recs arr
section
variable {W : World} {N : List Chunk} {g : Rg}
theorem RRoom_spec (hV : RV (K W N) g) (hl : ∀ t ∈ g.ts, t.rt.inP = true → t.os.length < 100000) (hmm : rmv g.ts < 1000000) : Spec prog 18 #[g.val] (K W N) (fun _ : Unit => .int .i64 (g.rb.room : Nat)) (fun _ => K W N) := by
  have hdl : (dtl g.ts).length = g.ts.length := List.length_map _;have hn := hV.n;have hrl : (rnl (rns g.C 0 g.size)).length = nbd g.C g.size := by rw [List.length_map, rns_len]
  have hnb := hV.m.nb;refine enter (args := [_]) func18 rfl ntmps18 rfl ?_;refine csr (sbx fun b1 => ?_);refine sa ?_;refine snf (csr (sf0 ?_));refine sf 1 ?_;refine slr 0 ?_;refine sy (y_len tab rfl rfl) ?_;refine sy (y_sub rfl rfl (by omega)) ?_;refine sa ?_;refine snf (c_seq (csr (sa ?_)));refine snf (c_block ?_);obtain ⟨A, hA⟩ : ∃ A : Nat, A = (rnl (rns g.C 0 g.size)).length := ⟨_, rfl⟩;have hE : EV (K W ([(b1, row 42 g.cells)] :: N)) g.tv 3 (dtl g.ts) := hV.t.cons;have hroom : g.rb.room = (4096 - A - 2 * rmv g.ts) / 2 := by
    rw [RB.room, hA, hrl, RB.moves, rmv, Rg.rb];simp [List.filter_map, Function.comp_def]
  rw [hroom];refine c_loopP (α := Nat) (fun z => [(1, .pointer (some ⟨b1, 0, none⟩)), (3, .int .i64 (4096 - (A : Int) - 2 * (rmv (g.ts.take z) : Nat))), (4, .int .i64 (z : Nat))]) (fun z => z ≤ g.ts.length) (fun _ => K W ([(b1, row 42 g.cells)] :: N)) (fun z => g.ts.length - z) 0 ⟨rfl, by
    show some (Value.int .i64 (4096 - ((rnl (rns g.C 0 g.size)).length : Int))) = some (Value.int .i64 (4096 - (A : Int) - 2 * ((0 : Nat) : Int)));rw [← hA];congr 2;omega, rfl, trivial⟩ (Nat.zero_le _) (fun w h => h) ?_
  rintro z hz;have hle : rmv (g.ts.take z) ≤ rmv g.ts := by
    conv => rhs; rw [← List.take_append_drop z g.ts]
    unfold rmv;rw [List.filter_append, List.map_append, List.sum_append];omega
  by_cases c : z < g.ts.length
  · obtain ⟨t, ht⟩ : ∃ t, g.ts[z]? = some t := ⟨g.ts[z], List.getElem?_eq_getElem c⟩;have htm := List.mem_of_getElem? ht;have hlt := hl t htm;have hol : (opl t.os).length = t.os.length := List.length_map _;have hrow := hE.row (i := z) (x := t.cells) (by simp [ht]);have hO : EV (K W ([(b1, row 42 g.cells)] :: N)) t.ov 6 (opl t.os) := (hV.tx t htm).o.cons;have htk : rmv (g.ts.take (z + 1)) = rmv (g.ts.take z) + if t.rt.inP then mvs (ops t.os) else 0 := by
      rw [List.take_add_one, ht];exact rmv_snoc _ _
    obtain ⟨R, hR⟩ : ∃ R, R = rmv (g.ts.take z) := ⟨_, rfl⟩;rw [← hR] at hle htk ⊢;refine c_seq (csr (sm ?_));refine sf 2 ?_;refine slr 0 ?_;refine sy (y_lenE tab rfl (hE) rfl) ?_;refine sy (y_T (y_lss rfl rfl) (by omega)) ?_;refine snf (c_condT rfl (c_skip (f_then (c_seq (c_block (csr (sa ?_)))))));refine snf (c_block (c_loopP (α := Nat) (fun y => [(1, .pointer (some ⟨b1, 0, none⟩)), (3, .int .i64 (4096 - (A : Int) - 2 * ((R + mvs ((ops t.os).take y) : Nat) : Int))), (4, .int .i64 (z : Nat)), (5, .int .i64 (y : Nat))]) (fun y => y ≤ t.os.length ∧ (t.rt.inP = false → y = 0)) (fun _ => K W ([(b1, row 42 g.cells)] :: N)) (fun y => t.os.length - y) 0 ⟨rfl, rfl, rfl, rfl, trivial⟩ ⟨Nat.zero_le _, fun _ => rfl⟩ (fun w h => h) ?_));rintro y ⟨hy, hy0⟩;have hmy : mvs ((ops t.os).take y) ≤ y := Nat.le_trans (mvs_le _) (by rw [List.length_take]; omega);refine c_seq (csr (sf 2 ?_));refine slr 0 ?_;refine sm ?_;refine sy (y_ixE tab rfl rfl rfl rfl (hE) _ rfl (by omega)) ?_;refine sy (y_loadA tab rfl rfl rfl rfl hrow) ?_;refine sk call54 (In_spec (t := t)) fun _ => ?_;cases hp : t.rt.inP with
    | false =>
      obtain rfl := hy0 hp;rw [hp, if_neg (by decide), Nat.add_zero] at htk;refine sm ?_
      iterate 9 refine s_skip rfl rfl rfl ?_
      refine spF ?_;refine snf (c_condF rfl (c_exit (f_thenE (f_rndE (f_blockE (f_blockN (f_then (c_region (sm ?_)))))))));refine sy (y_add rfl rfl (by omega)) ?_;refine sa ?_;refine s_nil ?_;exact f_roundP (z + 1) c (by omega) ⟨rfl, by rw [htk]; rfl, rfl, trivial⟩ (fun w h => h)
    | true =>
      have hlt := hlt hp;rw [hp, if_pos rfl] at htk;by_cases cy : y < t.os.length
      · obtain ⟨o, ho⟩ : ∃ o, t.os[y]? = some o := ⟨t.os[y], List.getElem?_eq_getElem cy⟩;have hro := hO.row (opl_get2 ho);have hmt : mvs ((ops t.os).take (y + 1)) = mvs ((ops t.os).take y) + if o.1.mv then 1 else 0 := by
          rw [List.take_add_one, show (ops t.os)[y]? = some o.1 by simp [ho]];exact mvs_snoc _ _
        obtain ⟨Y, hY⟩ : ∃ Y, Y = mvs ((ops t.os).take y) := ⟨_, rfl⟩;rw [← hY] at hmy hmt ⊢;refine sm ?_;refine sm ?_;refine sf 2 ?_;refine slr 0 ?_;refine sm ?_;refine sy (y_ixE tab rfl rfl rfl rfl (hE) _ rfl (by omega)) ?_;refine sy (y_fieldAddr tab 2 rfl rfl rfl rfl rfl) ?_;refine sl (CellsAre.nth 2 (hrow) rfl) ?_;refine sy (y_lenE tab rfl (hO) rfl) ?_;refine sy (y_T (y_lss rfl rfl) (by omega)) ?_;refine spT ?_;refine snf (c_condT rfl (c_skip (f_then (c_seq (c_block (csr (sf 2 ?_)))))));refine slr 0 ?_;refine sm ?_;refine sy (y_ixE tab rfl rfl rfl rfl (hE) _ rfl (by omega)) ?_;refine sy (y_fieldAddr tab 2 rfl rfl rfl rfl rfl) ?_;refine sl (CellsAre.nth 2 (hrow) rfl) ?_;refine sm ?_;refine sy (y_ixE tab rfl rfl rfl rfl (hO) _ rfl (by omega)) ?_;refine sf0 ?_;refine sl (CellsAre.at0 (hro) rfl) ?_;refine snf ?_;cases hm : o.1.mv with
        | false =>
          rw [hm, if_neg (by decide), Nat.add_zero] at hmt;refine c_condF rfl (c_skip (f_blockN (f_then (c_region (sm ?_)))));refine sy (y_add rfl rfl (by omega)) ?_;refine sa ?_;refine s_nil ?_;exact f_roundP (y + 1) ⟨cy, fun h => by cases h⟩ (by omega) ⟨rfl, by rw [hmt]; rfl, rfl, rfl, trivial⟩ (fun w h => h)
        | true =>
          rw [hm, if_pos rfl] at hmt;refine c_condT rfl (c_region (sm ?_));refine sy (y_sub rfl rfl (by omega)) ?_;refine sa ?_;refine s_nil (f_blockN (f_then (c_region (sm ?_))));refine sy (y_add rfl rfl (by omega)) ?_;refine sa ?_;refine s_nil (f_roundP (y + 1) ⟨cy, fun h => by cases h⟩ (by omega) ⟨rfl, ?_, rfl, rfl, trivial⟩ (fun w h => h));rw [hmt];show some (Value.int .i64 (4096 - (A : Int) - 2 * ((R + Y : Nat) : Int) - 2)) = _;congr 2;omega
      · obtain rfl : y = t.os.length := by omega
        rw [List.take_of_length_le (by rw [List.length_map]; omega)];refine sm ?_;refine sm ?_;refine sf 2 ?_;refine slr 0 ?_;refine sm ?_;refine sy (y_ixE tab rfl rfl rfl rfl (hE) _ rfl (by omega)) ?_;refine sy (y_fieldAddr tab 2 rfl rfl rfl rfl rfl) ?_;refine sl (CellsAre.nth 2 (hrow) rfl) ?_;refine sy (y_lenE tab rfl (hO) rfl) ?_;refine sy (y_F (y_lss rfl rfl) (by omega)) ?_;refine spT ?_;refine snf (c_condF rfl (c_exit (f_thenE (f_rndE (f_blockE (f_blockN (f_then (c_region (sm ?_)))))))));refine sy (y_add rfl rfl (by omega)) ?_;refine sa ?_;refine s_nil ?_;exact f_roundP (z + 1) c (by omega) ⟨rfl, by rw [htk]; rfl, rfl, trivial⟩ (fun w h => h)
  · obtain rfl : z = g.ts.length := by omega
    rw [List.take_length];refine c_seq (csr (sm ?_));refine sf 2 ?_;refine slr 0 ?_;refine sy (y_lenE tab rfl (hE) rfl) ?_;refine sy (y_F (y_lss rfl rfl) (by omega)) ?_;refine snf (c_condF rfl (c_exit (f_thenE (f_rndE (f_blockE (f_then (csr (sm ?_))))))));refine sy (y_max rfl rfl) ?_;refine sy (y_quo rfl rfl (by omega)) ?_;refine sa ?_;refine snf (c_ret ?_);have hx : max (0 : Int) (4096 - (A : Int) - 2 * ((rmv g.ts : Nat) : Int)) = ((4096 - A - 2 * rmv g.ts : Nat) : Int) := by omega
    refine f_ret () (res1 rfl ?_) (fun w h => h.tail);show some (Value.int .i64 (max (0 : Int) (4096 - (A : Int) - 2 * ((rmv g.ts : Nat) : Int)) / 2)) = _;rw [hx];rfl
end
end Go.KL
end

section
/- Walks: whether two books are in the same state. -/
namespace Go.KL
open Go.Proofs Go.Proofs.Tryz
namespace Sm
variable {A : Bk} {b : RB} {m : Nat}
theorem stI (h : Sm A b) (k : Int) : b.stI k = A.stI k := by
  unfold RB.stI Bk.stI;rw [h.len];split
  · rename_i c;exact h.st _ ⟨by omega, by omega⟩
  · rfl
theorem heldI (h : Sm A b) (hI : A.Inv m) (k : Nat) : b.held k = A.lkI k := by
  rw [h.held hI];unfold Bk.lkI;rw [Int.toNat_natCast];by_cases c : k ∈ A.rn
  · have hh := hI.has c;unfold Bk.has at hh;rw [if_pos c, if_pos (by omega)]
  · rw [if_neg c];split
    · rename_i d;exact (hI.off k ⟨by omega, by omega⟩ c).1.symm
    · rfl
theorem rmv (h : Sm A b) (hI : A.Inv m) {g : Rg} (hg : g.rb = b) : KL.rmv g.ts = A.moves := by
  rw [← h.moves hI, ← hg];unfold KL.rmv RB.moves Rg.rb;simp [List.filter_map, Function.comp_def]
end Sm
theorem Bk.Inv.lkl {A : Bk} {m : Nat} (hI : A.Inv m) (k : Int) : (A.lkI k).length ≤ 1024 := by
  unfold Bk.lkI;split
  · rename_i c;by_cases d : k.toNat ∈ A.rn
    · have h2 := hI.cnt;unfold Bk.count at h2;have h3 : (A.tx k.toNat).locks.length ≤ (A.rn.map fun k => (A.tx k).locks.length).sum := sum_mem (f := fun k => (A.tx k).locks.length) d;omega
    · rw [(hI.off _ ⟨by omega, by omega⟩ d).1];simp
  · simp
theorem Bk.Inv.mvl {A : Bk} {m : Nat} (hI : A.Inv m) : A.moves ≤ 2048 := by
  have := hI.rm;omega
theorem Sm.osl {A : Bk} {r : Rg} {m : Nat} (h : Sm A r.rb) (hI : A.Inv m) (hm : m < 100000) : ∀ t ∈ r.ts, t.rt.inP = true → t.os.length < 100000 := fun t ht hp => by
  obtain ⟨i, hi, hit⟩ := List.mem_iff_getElem.1 ht;have hk : r.rb.has (i + 1) := ⟨by omega, by simp [Rg.rb]; omega⟩;have htx : r.rb.tx (i + 1) = t.rt := rb_tx (by rw [Nat.add_sub_cancel, List.getElem?_eq_getElem hi, hit]);have hA := h.has.1 hk;have hr : i + 1 ∈ A.rn := (h.inP hI hA).1 (by rw [htx]; exact hp);have h3 := hI.ol _ hA;have h4 := (h.run _ hr).2;rw [htx] at h4;have h5 : (ops t.os).length = t.os.length := List.length_map _;have h6 : ops t.os = (A.tx (i + 1)).ops := h4;rw [← h6] at h3;omega
attribute [local irreducible] SC St Fin Sq Ylds Doos Sets Enters Spec CellIs CellsAre Then Ret Rnd Chn resOK ints bools recs arr
section
variable {W : World} {M : List Chunk} {g : Bg} {r : Rg}
theorem same_spec {m : Nat} (hB : g.OK) (hO : g.bk.Ok m) (hm : m < 100000) (hV : RV (K W M) r) (hS : Sm g.bk r.rb) : Spec prog 19 #[.pointer (some ⟨g.b, 0, none⟩), r.val] (K W (g.L ++ M)) (fun _ : Unit => .bool true) (fun _ => K W (g.L ++ M)) := by
  have hI := hO.inv;have hG := hI.good hm;have hT := hS.osl hI hm;have hdl : (dtl r.ts).length = r.ts.length := List.length_map _;have hn := hV.n;refine enter (args := [_, _]) func19 rfl ntmps19 rfl ?_;refine csr (sbx fun b3 => ?_);refine sa ?_;refine snf (c_seq (csr (sa ?_)));refine snf (c_block ?_);obtain ⟨M1, hM1⟩ : ∃ M1, M1 = [(b3, row 42 r.cells)] :: M := ⟨_, rfl⟩;refine SC.cls (C' := K W (g.L ++ M1)) ?_ (fun w h => by rw [hM1]; exact K.bckN (A := [[(b3, row 42 r.cells)]]) (B := g.L) h);have hV1 : RV (K W M1) r := by rw [hM1]; exact hV.cons
  have hVg : RV (K W (g.L ++ M1)) r := hV1.cls fun w h => K.bck h;have hc3 : CellsAre (K W (g.L ++ M1)) ⟨b3, 0, none⟩ r.cells := (show CellsAre (K W M1) ⟨b3, 0, none⟩ r.cells from by rw [hM1]; exact cells_row0 0 rfl rfl).cls fun w h => K.bck h;have hMN : ∀ w, K W (g.L ++ M1) w → K W (g.L ++ M) w := fun w h => by rw [hM1] at h; exact K.dropMid h
  refine c_loopP (α := Nat) (fun z => [(0, .pointer (some ⟨g.b, 0, none⟩)), (3, .pointer (some ⟨b3, 0, none⟩)), (5, .int .i64 (z : Nat))]) (fun z => z ≤ r.ts.length + 2) (fun _ => K W (g.L ++ M1)) (fun z => r.ts.length + 2 - z) 0 ⟨rfl, rfl, rfl, trivial⟩ (by omega) (fun w h => h) ?_;rintro z hz;by_cases c : z ≤ r.ts.length + 1
  · refine c_seq (csr (sm ?_));refine sf 2 ?_;refine sl (CellsAre.nth 2 (hc3) rfl) ?_;refine sy (y_len tab rfl rfl) ?_;refine sy (y_add rfl rfl (by omega)) ?_;refine sy (y_T (y_leq rfl rfl) (by omega)) ?_;refine snf (c_condT rfl (c_skip (f_then (c_seq (c_block (c_seq ?_))))));obtain ⟨s, hs⟩ : ∃ s, g.bk.stI (z : Nat) = s := ⟨_, rfl⟩;have hs2 : r.rb.stI (z : Nat) = s := by rw [hS.stI]; exact hs
    have hst := State_b (W := W) (N := M1) (tx := (z : Nat)) hB;have hrst := RState_spec hVg (k := (z : Nat));rw [hs] at hst;rw [hs2] at hrst;have hne : ¬ ((s : Int) ≠ (s : Int)) := fun h => h rfl;have hD := fun (w : World) (h : K W (g.L ++ M1) w) => h;refine c_plan [.c 0, .c 1, .c 3, .c 4, .s 2, .s 5, .c 6, .c 7, .c 8, .c 9, .c 11, .c 12, .s 10, .s 13, .s 14, .c 15, .c 16] [] ((K W (g.L ++ M1))) mixed (by kernel_rfl) rfl K.cl ?_;refine dy rfl (y_move rfl) hD ?_;refine dy rfl (y_move rfl) hD ?_;refine dy rfl (y_loadA tab rfl rfl rfl rfl hc3) hD ?_;refine dy rfl (y_move rfl) hD ?_;refine d_call rfl (en_f rfl call38) hst rfl rfl rfl (fun _ => K.cl) (fun _ _ _ h => h) (fun _ => ?_);skip;refine d_call rfl (en_f rfl call55) hrst rfl rfl rfl (fun _ => K.cl) (fun _ _ _ h => h) (fun _ => ?_);refine dy rfl (y_F (y_neq rfl rfl) (by assumption)) hD ?_;refine dy rfl (y_move rfl) hD ?_;refine dy rfl (y_move rfl) hD ?_;refine dy rfl (y_move rfl) hD ?_;refine dy rfl (y_loadA tab rfl rfl rfl rfl hc3) hD ?_;refine dy rfl (y_move rfl) hD ?_;refine d_call rfl (en_f rfl call29) (Held_b (W := W) (N := M1) (tx := (z : Nat)) hB hG) rfl rfl rfl (fun _ => K.cl) (fun _ _ _ h => h.tail) (fun x => ?_);obtain ⟨⟨hv, ch⟩, hHv⟩ := x;dsimp only at hHv ⊢;have hVc : RV (K W (ch :: (g.L ++ M1))) r := hVg.cons;have hc3c : CellsAre (K W (ch :: (g.L ++ M1))) ⟨b3, 0, none⟩ r.cells := hc3.cons;clear hD;have hD := fun (w : World) (h : K W (ch :: (g.L ++ M1)) w) => h.tail;skip;refine d_call rfl (en_f rfl call57) (RHeld_spec hVc (k := z)) rfl rfl rfl (fun _ => K.cl) (fun _ _ _ h => h.tail) (fun x => ?_);obtain ⟨rv, hRv⟩ := x;dsimp only at hRv ⊢;rw [hS.heldI hI] at hRv;have hsl := SameLocks_spec (W := W) (N := ch :: (g.L ++ M1)) (hHv.view (Hs.at 0 rfl)) hRv (by have := hI.lkl (z : Nat); omega);rw [decide_eq_true rfl] at hsl;refine d_call rfl (en_f rfl call56) hsl rfl rfl rfl (fun _ => K.cl) (fun _ _ _ h => h.tail) (fun _ => ?_);refine dy rfl (y_notT rfl) hD ?_;refine dy rfl (y_pickF rfl rfl) hD ?_;refine d_nil (f_then (c_condF rfl (c_skip (f_blockN (f_then (c_region (sm ?_)))))));refine sy (y_add rfl rfl (by omega)) ?_;refine sa ?_;refine s_nil ?_;exact f_roundP (z + 1) (by omega) (by omega) ⟨rfl, rfl, rfl, trivial⟩ (fun w h => h.tail)
  · obtain rfl : z = r.ts.length + 2 := by omega
    refine c_seq (csr (sm ?_));refine sf 2 ?_;refine sl (CellsAre.nth 2 (hc3) rfl) ?_;refine sy (y_len tab rfl rfl) ?_;refine sy (y_add rfl rfl (by omega)) ?_;refine sy (y_F (y_leq rfl rfl) (by omega)) ?_;refine snf (c_condF rfl (c_exit (f_thenE (f_rndE (f_blockE (f_then (c_seq ?_)))))));have hrm := room_b (W := W) (N := M1) hB (fun t ht => by
      have h1 : (Tg.tx t).ops.length < 100000 := hG.ol (Tg.tx t) (List.mem_map.2 ⟨t, ht, rfl⟩);have h2 : (Tg.tx t).ops.length = t.os.length := List.length_map _;omega) hI.rm
    have hmv := hI.mvl;have hrs : ∀ {L : List Chunk}, (∀ w, K W L w → K W (g.L ++ M1) w) → Spec prog 18 #[r.val] (K W L) (fun _ : Unit => .int .i64 (g.bk.room : Nat)) (fun _ => K W L) := fun h => by
      have := RRoom_spec (hVg.cls h) hT (by rw [hS.rmv hI rfl]; omega);rw [hS.room hI] at this;exact this
    obtain ⟨R, hR⟩ : ∃ R, R = g.bk.room := ⟨_, rfl⟩;rw [← hR] at hrm hrs;have hRR : (R : Int) = (R : Int) := rfl;have hD := fun (w : World) (h : K W (g.L ++ M1) w) => h;refine c_plan [.c 0, .c 2, .c 3, .s 1, .s 4, .c 5, .c 6, .c 8, .s 7, .s 9, .c 10, .c 11, .c 12, .c 13, .c 15, .c 16, .s 14, .s 17, .c 18, .c 19] [] ((K W (g.L ++ M1))) mixed (by kernel_rfl) rfl K.cl ?_;refine dy rfl (y_move rfl) hD ?_;refine dy rfl (y_fieldAddrB tab 3 rfl rfl rfl rfl rfl) hD ?_;refine dy rfl (y_load tab rfl rfl (CellsAre.nth 3 (hc3) rfl)) hD ?_;refine d_call rfl (en_f rfl call39) (Queue_b (W := W) (N := M1) hB hG) rfl rfl rfl (fun _ => K.cl) (fun _ _ _ h => h.tail) (fun x => ?_);obtain ⟨⟨qv, cq⟩, hQv⟩ := x;dsimp only at hQv ⊢;have hVq : RV (K W (cq :: (g.L ++ M1))) r := hVg.cons;have hc3q : CellsAre (K W (cq :: (g.L ++ M1))) ⟨b3, 0, none⟩ r.cells := hc3.cons;clear hD;have hD := fun (w : World) (h : K W (cq :: (g.L ++ M1)) w) => h.tail;have hQ2 : EV (K W (cq :: (g.L ++ M1))) r.qv 4 (lks g.bk.reqs) := by
      have := hVq.q;rw [show g.bk.reqs = r.Q from hS.Q.symm];exact this
    have hsl := SameLocks_spec (W := W) (N := cq :: (g.L ++ M1)) (hQv.view (Hs.at 0 rfl)) hQ2 (by have := hI.ql; simp only [Bk.reqs, List.length_map]; omega);rw [decide_eq_true rfl] at hsl;skip;refine d_call rfl (en_f rfl call56) hsl rfl rfl rfl (fun _ => K.cl) (fun _ _ _ h => h.tail) (fun _ => ?_);refine Sd.cls (C' := K W (g.L ++ M1)) ?_ (fun w h => h.tail);clear hD;have hD := fun (w : World) (h : K W (g.L ++ M1) w) => h;refine dy rfl (y_move rfl) hD ?_;refine dy rfl (y_move rfl) hD ?_;refine dy rfl (y_loadA tab rfl rfl rfl rfl hc3) hD ?_;refine d_call rfl (en_f rfl call17) hrm rfl rfl rfl (fun _ => K.cl) (fun _ _ _ h => h) (fun _ => ?_);have hcm : CellsAre (K W (g.L ++ M1)) ⟨b3, 0, none⟩ [.int .i64 (r.size : Nat), r.mv] := (show CellsAre (K W M1) ⟨b3, 0, none⟩ [.int .i64 (r.size : Nat), r.mv] from by rw [hM1]; exact map_cells 0 rfl).cls fun w h => K.bck h;skip;refine d_call rfl (en_f rfl call18) (hrs fun _ h => h) rfl rfl rfl (fun _ => K.cl) (fun _ _ _ h => h) (fun _ => ?_);refine dy rfl (y_T (y_eql rfl rfl) (by assumption)) hD ?_;refine dy rfl (y_pickT rfl rfl) hD ?_;refine dy rfl (y_move rfl) hD ?_;refine dy rfl (y_move rfl) hD ?_;refine dy rfl (y_fieldAddr0 tab rfl rfl rfl rfl rfl) hD ?_;refine dy rfl (y_loadA tab rfl rfl rfl rfl hcm) hD ?_;refine d_call rfl (en_f rfl call35) (Now_b (W := W) (N := M1) hB) rfl rfl rfl (fun _ => K.cl) (fun _ _ _ h => h) (fun _ => ?_);skip;refine d_call rfl (en_f rfl call24) (runsNow (W := W) (N := M1) hB (n := r.size) (f := r.C) hS.size.symm hS.C.symm hV1.m) rfl rfl rfl (fun _ => K.cl) (fun _ _ _ h => h) (fun _ => ?_);refine dy rfl (y_pickT rfl rfl) hD ?_;refine dy rfl (y_assign rfl) hD ?_;refine d_nil (f_then (c_ret ?_));exact f_ret () (res1 rfl rfl) hMN
end
end Go.KL
end

section
/- Some transaction can always go on; how many calls there are; plain. No program in sight. -/
namespace Go.KL
open Relation
open Classical in
theorem cyc {E : Nat → Nat → Prop} : ∀ (n : Nat) (l : List Nat), l.length ≤ n → l ≠ [] → (∀ x ∈ l, ∃ y ∈ l, E x y) → ∃ x ∈ l, TransGen E x x
  | 0, l, h, h0, _ => absurd (List.eq_nil_of_length_eq_zero (by omega)) h0
  | n + 1, l, h, h0, hE => by
    obtain ⟨x, hx⟩ : ∃ x, x ∈ l := by
      cases l with
      | nil => exact absurd rfl h0
      | cons x l => exact ⟨x, List.mem_cons_self ..⟩
    by_cases c : TransGen E x x
    · exact ⟨x, hx, c⟩
    · have hS : ∀ y, y ∈ l.filter (fun y => decide (TransGen E x y)) ↔ y ∈ l ∧ TransGen E x y := fun y => by simp
      obtain ⟨y, hy, hxy⟩ := hE x hx;have hlt : (l.filter fun y => decide (TransGen E x y)).length < l.length := by
        have h1 := List.length_filter_le (fun y => decide (TransGen E x y)) l;by_cases e : (l.filter fun y => decide (TransGen E x y)).length = l.length
        · have := List.length_filter_eq_length_iff.1 e x hx;exact absurd (of_decide_eq_true this) c
        · omega
      obtain ⟨z, hz, hzz⟩ := cyc (E := E) n (l.filter fun y => decide (TransGen E x y)) (by omega) (fun e => by
        have := (hS y).2 ⟨hy, .single hxy⟩;rw [e] at this;simp at this) (fun z hz => by
        obtain ⟨hz1, hz2⟩ := (hS z).1 hz;obtain ⟨u, hu, hzu⟩ := hE z hz1;exact ⟨u, (hS u).2 ⟨hu, .tail hz2 hzu⟩, hzu⟩)
      exact ⟨z, ((hS z).1 hz).1, hzz⟩
namespace Bk
variable {A : Bk} {b : Nat}
theorem Ok.active (h : A.Ok b) (hr : A.rn ≠ []) : ∃ k, A.has k ∧ (A.tx k).st = 1 := by
  refine Classical.byContradiction fun hn => ?_;have h2 : ∀ k ∈ A.rn, ∃ j ∈ A.rn, A.E k j := fun k hk => by
    have hs : (A.tx k).st = 2 := by
      rcases ((h.inv.rn k).1 hk).2 with c | c
      · exact absurd ⟨k, h.inv.has hk, c⟩ hn
      · exact c
    have hq : k ∈ A.q := (h.inv.q k).2 ⟨h.inv.has hk, hs⟩;have hb := BlkF.mem h.blk hq;rw [List.nil_append] at hb;have : ∃ j, A.E k j := by
      refine Classical.byContradiction fun hne => ?_;have : A.free (A.tx k).req (A.q.takeWhile (fun j => !decide (j = k))) = true := free_iff.2 ⟨fun m hm y hy => ?_, fun m hm => ?_⟩
      · rw [hb] at this;cases this
      · cases c : cfl y (A.tx k).req with
        | false => rfl
        | true => exact absurd ⟨m, E_iff.2 ⟨hs, .inl ⟨hm, y, hy, c⟩⟩⟩ hne
      · cases c : cfl (A.tx m).req (A.tx k).req with
        | false => rfl
        | true => exact absurd ⟨m, E_iff.2 ⟨hs, .inr ⟨hm, c⟩⟩⟩ hne
    obtain ⟨j, hj⟩ := this;exact ⟨j, E_rn h.inv hj, hj⟩
  obtain ⟨x, hx, hc⟩ := cyc A.rn.length A.rn (Nat.le_refl _) hr h2;exact h.ac x (h.inv.has hx) hc
theorem commit_same {k : Nat} (hk : A.has k) : (A.commit k).size = A.size ∧ (A.commit k).C = ap A.C (A.tx k).ops ∧ (A.commit k).log = A.log ++ [(k, (A.tx k).ops)] ∧ (A.commit k).ts.length = A.ts.length := by
  rw [commit_eq hk];obtain ⟨h1, h2, _, h4, h5⟩ := fin_same (A := A.ended k 3 (A.tx k).req (ap A.C (A.tx k).ops) A.W (A.log ++ [(k, (A.tx k).ops)]));exact ⟨h1, h2, h4, h5.trans (by simp [ended])⟩
theorem Ok.grow {B : Bk} {f : Nat → Int} (h : A.Ok b) (hc : A.Cl f B) : B.size = A.size ∧ A.ts.length ≤ B.ts.length ∧ B.ts.length ≤ A.ts.length + 1 ∧ B.log.length ≤ A.log.length + 1 := by
  rcases hc with ⟨_, ⟨_, rfl⟩ | ⟨_, rfl⟩⟩ | ⟨_, e, rs, hp⟩ | ⟨_, e, rs, hp⟩ | ⟨_, n, e, hp⟩ | ⟨_, e, hp⟩
  · exact ⟨rfl, by omega, by omega, by omega⟩
  · exact ⟨rfl, by simp [Bk.begin], by simp [Bk.begin], by show A.log.length ≤ _; omega⟩
  · obtain ⟨_, h1, _, h3, h4⟩ := h.perf hp;exact ⟨h1, by omega, by omega, by rw [h3]; omega⟩
  · obtain ⟨_, h1, _, h3, h4⟩ := h.perf hp;exact ⟨h1, by omega, by omega, by rw [h3]; omega⟩
  · rcases hp with ⟨_, rfl, _⟩ | ⟨k, _, hk, ⟨_, rfl, _⟩ | ⟨_, rfl, _⟩ | ⟨_, rfl, _⟩ | ⟨_, _, _, rfl, _⟩⟩
    · exact ⟨rfl, by omega, by omega, by omega⟩
    · exact ⟨rfl, by omega, by omega, by omega⟩
    · exact ⟨rfl, by omega, by omega, by omega⟩
    · exact ⟨rfl, by omega, by omega, by omega⟩
    · obtain ⟨h1, _, h3, h4⟩ := commit_same hk;exact ⟨h1, by omega, by omega, by rw [h3, List.length_append]; simp⟩
  · rcases hp with ⟨_, rfl, _⟩ | ⟨k, _, hk, ⟨_, rfl, _⟩ | ⟨_, rfl, _⟩ | ⟨_, _, rfl, _⟩⟩
    · exact ⟨rfl, by omega, by omega, by omega⟩
    · exact ⟨rfl, by omega, by omega, by omega⟩
    · exact ⟨rfl, by omega, by omega, by omega⟩
    · obtain ⟨h1, _, h3, h4⟩ := abort_same hk;exact ⟨h1, by omega, by omega, by rw [h3]; omega⟩
structure Turn (A : Bk) (b n t x : Nat) : Prop where
  ok : A.Ok b
  len : A.ts.length = n
  lg : A.log.length + A.rn.length ≤ 300
  le : A.rn.length + t ≤ n ∨ A.rn = []
  go : A.rn = [] ∨ A.rn.length + t + 1 ≤ n ∨ ∃ k, x ≤ k ∧ A.has k ∧ (A.tx k).st = 1
theorem Turn.start {n t : Nat} (ok : A.Ok b) (len : A.ts.length = n) (lg : A.log.length + A.rn.length ≤ 300) (le : A.rn.length + t ≤ n ∨ A.rn = []) : Turn A b n t 1 := by
  refine ⟨ok, len, lg, le, ?_⟩;by_cases c : A.rn = []
  · exact .inl c
  · obtain ⟨k, hk, hs⟩ := ok.active c;exact .inr (.inr ⟨k, hk.1, hk, hs⟩)
theorem Turn.skip {n t x : Nat} (h : Turn A b n t x) (hs : (A.tx x).st ≠ 1) : Turn A b n t (x + 1) := by
  refine ⟨h.ok, h.len, h.lg, h.le, ?_⟩;rcases h.go with c | c | ⟨k, h1, h2, h3⟩
  · exact .inl c
  · exact .inr (.inl c)
  · refine .inr (.inr ⟨k, ?_, h2, h3⟩);rcases Nat.lt_or_ge x k with c | c
    · exact c
    · have : k = x := by omega
      rw [this] at h3;exact absurd h3 hs
theorem Turn.fin {n t x : Nat} {B : Bk} (h : Turn A b n t x) (hx : A.has x) (hs : (A.tx x).st = 1) (hok : B.Ok b) (hlen : B.ts.length = A.ts.length) (hrn : B.rn = A.rn.filter fun j => !decide (j = x)) (hlg : B.log.length ≤ A.log.length + 1) : Turn B b n t (x + 1) := by
  have hr := h.ok.inv.run hx hs;have h1 := filter_lt hr;have h2 := h.lg;have h3 : A.rn.length + t ≤ n := by
    rcases h.le with c | c
    · exact c
    · rw [c] at hr; simp at hr
  refine ⟨hok, hlen.trans h.len, by rw [hrn]; omega, .inl (by rw [hrn]; omega), .inr (.inl (by rw [hrn]; omega))⟩
theorem Turn.next {n t : Nat} (h : Turn A b n t (n + 1)) : A.rn.length + (t + 1) ≤ n ∨ A.rn = [] := by
  rcases h.go with c | c | ⟨k, h1, h2, _⟩
  · exact .inr c
  · exact .inl (by omega)
  · have := h2.2;rw [h.len] at this;omega
theorem Ok.none (h : A.Ok b) (hr : A.rn = []) : A.q = [] ∧ ∀ k, A.has k → ((A.tx k).st = 3 ∨ (A.tx k).st = 4) ∧ (A.tx k).locks = [] := by
  refine ⟨?_, fun k hk => ?_⟩
  · cases e : A.q with
    | nil => rfl
    | cons k l =>
      have : k ∈ A.q := by rw [e]; exact List.mem_cons_self ..
      have := h.inv.qrn this;rw [hr] at this;simp at this
  · have hn : k ∉ A.rn := by rw [hr]; simp
    refine ⟨?_, (h.inv.off k hk hn).1⟩;have h1 := h.inv.st k hk;have h2 : ¬ ((A.tx k).st = 1 ∨ (A.tx k).st = 2) := fun c => hn ((h.inv.rn k).2 ⟨hk, c⟩);omega
end Bk
end Go.KL
end

section
/- Walks: a call on both books: Begin, Commit, Abort. -/
namespace Go.KL
open Go.Proofs Go.Proofs.Tryz
theorem Bk.Ok.r5 {A : Bk} {b : RB} {m : Nat} (h : A.Ok m) (hS : Sm A b) (k : Int) : b.stI k < 5 := by
  rw [hS.stI];unfold Bk.stI;split
  · rename_i c;rcases h.inv.st k.toNat ⟨by omega, by omega⟩ with h | h | h | h <;> omega
  · omega
theorem Sm.refI {A : Bk} {b : RB} {m : Nat} (hS : Sm A b) (h : A.Inv m) (k : Int) (w : Bool) :
    (¬ (1 ≤ k ∧ k ≤ A.ts.length) ∧ b.ref k w = 80) ∨ ∃ j : Nat, k = j ∧ A.has j ∧ (((A.tx j).st = 4 ∧ b.ref k w = 81) ∨ ((A.tx j).st = 3 ∧ b.ref k w = 82) ∨ ((A.tx j).st = 2 ∧ b.ref k w = if w = true then 83 else 0) ∨ ((A.tx j).st = 1 ∧ b.ref k w = 0)) := by
  have e : b.ref k w = if A.stI k = 0 then 80 else if A.stI k = 4 then 81 else if A.stI k = 3 then 82 else if A.stI k = 2 ∧ w = true then 83 else 0 := by
    rw [RB.ref, hS.stI]
  by_cases c : 1 ≤ k ∧ k ≤ A.ts.length
  · refine .inr ⟨k.toNat, by omega, ⟨by omega, by omega⟩, ?_⟩;have e2 : A.stI k = (A.tx k.toNat).st := by rw [Bk.stI, if_pos c]
    rw [e, e2];rcases h.st k.toNat ⟨by omega, by omega⟩ with h | h | h | h
    · rw [h]; simp
    · rw [h]; cases w <;> simp
    · rw [h]; simp
    · rw [h]; simp
  · refine .inl ⟨c, ?_⟩;have e2 : A.stI k = 0 := by rw [Bk.stI, if_neg c]
    rw [e, if_pos e2]
theorem K.d1 {W w : World} {L M G : List Chunk} {a b c : Chunk} (h : K W (a :: b :: c :: (L ++ (M ++ G))) w) : K W (L ++ (M ++ (a :: b :: c :: G))) w := K.perm h fun x _ => by
  simp only [List.count_append, List.count_cons];omega
theorem K.d2 {W w : World} {L M G : List Chunk} {a b c : Chunk} (h : K W (L ++ (M ++ (a :: b :: c :: G))) w) : K W (a :: b :: c :: (L ++ (M ++ G))) w := K.perm h fun x _ => by
  simp only [List.count_append, List.count_cons];omega
theorem K.d3 {W w : World} {L M G : List Chunk} {a b c : Chunk} (h : K W (a :: b :: c :: (L ++ (M ++ G))) w) : K W (M ++ (a :: b :: c :: (L ++ G))) w := K.perm h fun x _ => by
  simp only [List.count_append, List.count_cons];omega
theorem K.d4 {W w : World} {T L M G : List Chunk} {a b c : Chunk} (h : K W (T ++ (M ++ (a :: b :: c :: (L ++ G)))) w) : K W (a :: b :: c :: (L ++ (T ++ (M ++ G)))) w := K.perm h fun x _ => by
  simp only [List.count_append, List.count_cons];omega
theorem Sm.cm {A B : Bk} {b b' : RB} {m n e n' e' : Nat} {k : Int} (hS : Sm A b) (hI : A.Inv m) (hc : A.Cmt k B n e) (hd : b.Cm k b' n' e') : Sm B b' ∧ n' = n ∧ e' = e := by
  rcases hS.refI hI k true with ⟨h1, h2⟩ | ⟨j, rfl, hj, h⟩
  · rcases hc with ⟨_, rfl, rfl, rfl⟩ | ⟨i, rfl, hi, _⟩
    · rcases hd with ⟨_, rfl, rfl, rfl⟩ | ⟨d, _⟩
      · exact ⟨hS, rfl, h2⟩
      · omega
    · unfold Bk.has at hi;omega
  · rcases hc with ⟨hn, _⟩ | ⟨i, hi, _, hc⟩
    · unfold Bk.has at hj;omega
    · obtain rfl : j = i := by omega
      rcases hd with ⟨d, rfl, rfl, rfl⟩ | ⟨d, rfl, rfl, i, hi', rfl⟩
      · rcases hc with ⟨s, rfl, rfl, rfl⟩ | ⟨s, rfl, rfl, rfl⟩ | ⟨s, rfl, rfl, rfl⟩ | ⟨s2, s3, s4, _⟩
        · exact ⟨hS, rfl, by rcases h with ⟨t, h⟩ | ⟨t, h⟩ | ⟨t, h⟩ | ⟨t, h⟩ <;> omega⟩
        · exact ⟨hS, rfl, by rcases h with ⟨t, h⟩ | ⟨t, h⟩ | ⟨t, h⟩ | ⟨t, h⟩ <;> omega⟩
        · exact ⟨hS, rfl, by rcases h with ⟨t, h⟩ | ⟨t, h⟩ | ⟨t, h⟩ | ⟨t, h⟩ <;> first | omega | (rw [if_pos rfl] at h; omega)⟩
        · rcases h with ⟨t, h⟩ | ⟨t, h⟩ | ⟨t, h⟩ | ⟨t, h⟩ <;> omega
      · obtain rfl : j = i := by omega
        have hst : (A.tx j).st = 1 := by
          rcases h with ⟨t, h⟩ | ⟨t, h⟩ | ⟨t, h⟩ | ⟨t, h⟩
          · omega
          · omega
          · rw [if_pos rfl] at h; omega
          · exact t
        rcases hc with ⟨s, _⟩ | ⟨s, _⟩ | ⟨s, _⟩ | ⟨_, _, _, rfl, rfl, rfl⟩
        · omega
        · omega
        · omega
        · have hr := hI.run hj hst;obtain ⟨_, _, c3, _⟩ := Bk.commit_same hj;refine ⟨(hS.commit hr hI).1, ?_, rfl⟩;rw [c3, List.length_append, hS.D];rfl
theorem Sm.ab {A B : Bk} {b b' : RB} {m e e' : Nat} {k : Int} (hS : Sm A b) (hI : A.Inv m) (hc : A.Abt k B e) (hd : b.Ab k b' e') : Sm B b' ∧ e' = e := by
  rcases hS.refI hI k false with ⟨h1, h2⟩ | ⟨j, rfl, hj, h⟩
  · rcases hc with ⟨_, rfl, rfl⟩ | ⟨i, rfl, hi, _⟩
    · rcases hd with ⟨_, rfl, rfl⟩ | ⟨d, _⟩
      · exact ⟨hS, h2⟩
      · omega
    · unfold Bk.has at hi;omega
  · rcases hc with ⟨hn, _⟩ | ⟨i, hi, _, hc⟩
    · unfold Bk.has at hj;omega
    · obtain rfl : j = i := by omega
      rcases hd with ⟨d, rfl, rfl⟩ | ⟨d, rfl, i, hi', rfl⟩
      · rcases hc with ⟨s, rfl, rfl⟩ | ⟨s, rfl, rfl⟩ | ⟨s2, s3, _⟩
        · exact ⟨hS, by rcases h with ⟨t, h⟩ | ⟨t, h⟩ | ⟨t, h⟩ | ⟨t, h⟩ <;> omega⟩
        · exact ⟨hS, by rcases h with ⟨t, h⟩ | ⟨t, h⟩ | ⟨t, h⟩ | ⟨t, h⟩ <;> omega⟩
        · rcases h with ⟨t, h⟩ | ⟨t, h⟩ | ⟨t, h⟩ | ⟨t, h⟩
          · omega
          · omega
          · rw [if_neg (by decide)] at h; omega
          · omega
      · obtain rfl : j = i := by omega
        rcases hc with ⟨s, _⟩ | ⟨s, _⟩ | ⟨_, _, rfl, rfl⟩
        · rcases h with ⟨t, h⟩ | ⟨t, h⟩ | ⟨t, h⟩ | ⟨t, h⟩ <;> omega
        · rcases h with ⟨t, h⟩ | ⟨t, h⟩ | ⟨t, h⟩ | ⟨t, h⟩ <;> omega
        · exact ⟨(hS.abort hj hI).1, rfl⟩
theorem Sm.endC {A : Bk} {r : Rg} {m : Nat} {k : Int} {j : Nat} {t : Dt} (hS : Sm A r.rb) (hI : A.Inv m) (hm : m < 100000) (hk : k = j) (h0 : r.rb.ref k true = 0) (ht : r.ts[j - 1]? = some t) :
    Rep r.size r.C (ops t.os) ∧ (∀ i, nbd (ap r.C ((ops t.os).take i)) r.size ≤ 4096) ∧ t.os.length < 100000 ∧ RB.EndOK j r.Q ⟨r.size, ap r.C (ops t.os), (r.rb.put j ⟨3, t.locks, ops t.os⟩).T, [], r.rb.D ++ [(j, ops t.os)]⟩ := by
  rcases hS.refI hI k true with ⟨h1, h2⟩ | ⟨i, hi, hj, h⟩
  · omega
  obtain rfl : j = i := by omega
  have hst : (A.tx j).st = 1 := by
    rcases h with ⟨t, h⟩ | ⟨t, h⟩ | ⟨t, h⟩ | ⟨t, h⟩
    · omega
    · omega
    · rw [if_pos rfl] at h; omega
    · exact t
  have hr := hI.run hj hst;have htx := rb_tx ht;have hrun := hS.run j hr;rw [htx] at hrun;have e1 : ops t.os = (A.tx j).ops := hrun.2;have ez : r.size = A.size := hS.size;have ec : r.C = A.C := hS.C;have hE := (hS.commit hr hI).2;rw [htx] at hE;refine ⟨by rw [e1, ez, ec]; exact hI.rep j hr, fun i => by rw [e1, ez, ec]; exact (hI.apOK hj).nb i, ?_, hE⟩;have h3 := hI.ol j hj;have h4 : (ops t.os).length = t.os.length := List.length_map _;rw [← e1] at h3;omega
theorem Sm.endA {A : Bk} {r : Rg} {m : Nat} {k : Int} {j : Nat} {t : Dt} (hS : Sm A r.rb) (hI : A.Inv m) (hk : k = j) (h0 : r.rb.ref k false = 0) (ht : r.ts[j - 1]? = some t) : RB.EndOK j r.Q ⟨r.size, r.C, (r.rb.put j ⟨4, t.locks, ops t.os⟩).T, [], r.rb.D⟩ := by
  rcases hS.refI hI k false with ⟨h1, h2⟩ | ⟨i, hi, hj, h⟩
  · omega
  obtain rfl : j = i := by omega
  have hE := (hS.abort hj hI).2;rw [rb_tx ht] at hE;exact hE
theorem Sm.ql {A : Bk} {r : Rg} {m : Nat} (hS : Sm A r.rb) (hI : A.Inv m) : r.Q.length ≤ 64 := by
  have h : r.Q = A.reqs := hS.Q;have := hI.ql;rw [h, Bk.reqs, List.length_map];exact this
structure DoR (W : World) (M : List Chunk) (g : Bg) (f : Nat → Int) (x : Bg × Rg × List Chunk) : Prop where
  ok : x.1.OK
  b : x.1.b = g.b
  cl : g.bk.Cl f x.1.bk
  rv : RV (K W (x.2.2 ++ M)) x.2.1
  sm : Sm x.1.bk x.2.1.rb
abbrev clv (f : Nat → Int) : Value := .agg #[.int .u8 (f 0), .int .i64 (f 1), .int .i64 (f 2), .int .i64 (f 3), .int .i64 (f 4), .int .i64 (f 5)]
attribute [local irreducible] SC St Fin Sq Ylds Doos Sets Enters Spec CellIs CellsAre Then Ret Rnd Chn resOK ints bools recs arr
section
variable {W : World} {M G : List Chunk} {g : Bg} {r : Rg} {f : Nat → Int} {m : Nat}
theorem do_begin (hB : g.OK) (hO : g.bk.Ok m) (hV : RV (K W M) r) (hS : Sm g.bk r.rb) (htl : g.ts.length + 1 < 1000000) (hf : 0 ≤ f 0 ∧ f 0 < 256) (h0 : f 0 % 6 = 0) :
    Spec prog 16 #[.pointer (some ⟨g.b, 0, none⟩), r.val, clv f] (K W (g.L ++ (M ++ G))) (X := { x : Bg × Rg × List Chunk // DoR W M g f x }) (fun x => .tuple #[x.1.2.1.val, .bool true]) (fun x => K W (x.1.1.L ++ (x.1.2.2 ++ (M ++ G)))) := by
  have hrl : r.ts.length = g.ts.length := by
    have := hS.len;simpa [Rg.rb, Bg.bk] using this
  refine enter (args := [_, _, _]) func16 rfl ntmps16 rfl ?_;refine csr (sbx fun b4 => ?_);refine sbx fun b5 => ?_;refine sal fun b6 => ?_;refine sa ?_;refine snf (c_seq (csr (sf0 ?_)));refine slr 1 ?_;refine sy (y_remK rfl rfl (by omega)) ?_;refine snf (c_block (csr (sy (y_T (y_eql rfl rfl) (by assumption)) ?_)));refine sa ?_;refine snf (c_condT rfl (csr (sm ?_)));refine St.cls (C' := K W (g.L ++ (M ++ ([(b6, row 42 z42)] :: [(b5, row 46 [.int .u8 (f 0), .int .i64 (f 1), .int .i64 (f 2), .int .i64 (f 3), .int .i64 (f 4), .int .i64 (f 5)])] :: [(b4, row 42 r.cells)] :: G)))) ?_ (fun w h => K.d1 h);refine s_call (en_f rfl call26) (Begin_b (N := M ++ ([(b6, row 42 z42)] :: [(b5, row 46 [.int .u8 (f 0), .int .i64 (f 1), .int .i64 (f 2), .int .i64 (f 3), .int .i64 (f 4), .int .i64 (f 5)])] :: [(b4, row 42 r.cells)] :: G)) hB (by omega)) rfl rfl rfl (fun x => ?_);obtain ⟨⟨g', n, e⟩, hB', hb', hc⟩ := x;dsimp only at hB' hb' hc ⊢;refine St.cls (C' := K W ([(b6, row 42 z42)] :: [(b5, row 46 [.int .u8 (f 0), .int .i64 (f 1), .int .i64 (f 2), .int .i64 (f 3), .int .i64 (f 4), .int .i64 (f 5)])] :: [(b4, row 42 r.cells)] :: (g'.L ++ (M ++ G)))) ?_ (fun w h => K.d2 h);have hbg := RBegin_spec (W := W) (N := M) (G := [(b6, row 42 z42)] :: [(b5, row 46 [.int .u8 (f 0), .int .i64 (f 1), .int .i64 (f 2), .int .i64 (f 3), .int .i64 (f 4), .int .i64 (f 5)])] :: [(b4, row 42 r.cells)] :: (g'.L ++ G)) hV (by omega);refine sm ?_;refine sx ?_;refine sx ?_;refine sa ?_;refine sa ?_;refine snf (csr (sy (y_loadA tab rfl rfl rfl rfl (cells_row0 2 rfl rfl)) ?_));refine St.cls (C' := K W (M ++ ([(b6, row 42 z42)] :: [(b5, row 46 [.int .u8 (f 0), .int .i64 (f 1), .int .i64 (f 2), .int .i64 (f 3), .int .i64 (f 4), .int .i64 (f 5)])] :: [(b4, row 42 r.cells)] :: (g'.L ++ G)))) ?_ (fun w h => K.d3 h);refine sk call47 hbg fun x => ?_;obtain ⟨⟨r', T, n', e'⟩, hV', hc'⟩ := x;dsimp only at hV' hc' ⊢;refine St.cls (C' := K W ([(b6, row 42 z42)] :: [(b5, row 46 [.int .u8 (f 0), .int .i64 (f 1), .int .i64 (f 2), .int .i64 (f 3), .int .i64 (f 4), .int .i64 (f 5)])] :: [(b4, row 42 r.cells)] :: (g'.L ++ (T ++ (M ++ G))))) ?_ (fun w h => K.d4 h);have hI := hO.inv;have hpr := hS.progress hI;have hbl : g.bk.rn.length = g.rn.length := rfl;obtain ⟨hSm, hcl, rfl, rfl⟩ : Sm g'.bk r'.rb ∧ g.bk.Cl f g'.bk ∧ n' = n ∧ e' = e := by
    rcases hc with ⟨h1, h2, h3⟩ | ⟨h1, h2, h3⟩
    · rcases hc' with ⟨k1, k2, rfl, rfl⟩ | ⟨k1, _⟩
      · refine ⟨by rw [h2, k2]; exact hS, .inl ⟨h0, .inl ⟨h1, h2⟩⟩, (Prod.mk.inj h3).1.symm, (Prod.mk.inj h3).2.symm⟩
      · omega
    · rcases hc' with ⟨k1, _⟩ | ⟨k1, k2, rfl, rfl⟩
      · omega
      · refine ⟨by rw [h2, k2]; exact hS.begin hI, .inl ⟨h0, .inr ⟨h1, h2⟩⟩, ?_, (Prod.mk.inj h3).2.symm⟩;rw [(Prod.mk.inj h3).1, ← hrl];simp [Rg.rb]
  clear hc hc' hpr;have hnn : (n' : Int) = (n' : Int) := rfl;have hee : (e' : Int) = (e' : Int) := rfl;refine sm ?_;refine sx ?_;refine sx ?_;refine sx ?_;refine sal fun b10 => ?_;refine ss (set_box tab 0 rfl rfl rfl rfl rfl rfl rfl) ?_;refine sa ?_;refine sa ?_;refine snf (csr (sy (y_loadA tab rfl rfl rfl rfl (cells_row0 0 rfl rfl)) ?_));refine sm ?_;refine sm ?_;refine sy (y_T (y_eql rfl rfl) (by assumption)) ?_;refine sm ?_;refine sm ?_;refine sm ?_;refine sy (y_T (y_eql rfl rfl) (by assumption)) ?_;refine spT ?_;refine ss (set_box tab 1 rfl rfl rfl rfl rfl rfl rfl) ?_;refine sa ?_;refine snf (c_ret (f_blockR (f_thenR ?_)));exact f_ret ⟨(g', r', T), hB', hb', hcl, hV', hSm⟩ (resA1 tab rfl rfl rfl rfl rfl rfl (cells_row0 1 rfl rfl)) (fun w h => ((h.dropAt 0).dropAt 0 |>.dropAt 0).dropAt 0)
theorem do_commit (hB : g.OK) (hO : g.bk.Ok m) (hm : m < 100000) (hV : RV (K W M) r) (hS : Sm g.bk r.rb) (hll : g.ls.length < 100000) (hf : 0 ≤ f 0 ∧ f 0 < 256) (h0 : f 0 % 6 = 4) :
    Spec prog 16 #[.pointer (some ⟨g.b, 0, none⟩), r.val, clv f] (K W (g.L ++ (M ++ G))) (X := { x : Bg × Rg × List Chunk // DoR W M g f x }) (fun x => .tuple #[x.1.2.1.val, .bool true]) (fun x => K W (x.1.1.L ++ (x.1.2.2 ++ (M ++ G)))) := by
  have hI := hO.inv;have hrl : r.ds.length = g.ls.length := by
    have := congrArg List.length hS.D;simpa [Rg.rb, Bg.bk] using this
  refine enter (args := [_, _, _]) func16 rfl ntmps16 rfl ?_;refine csr (sbx fun b4 => ?_);refine sbx fun b5 => ?_;refine sal fun b6 => ?_;refine sa ?_;refine snf (c_seq (csr (sf0 ?_)));refine slr 1 ?_;refine sy (y_remK rfl rfl (by omega)) ?_;refine snf (c_block (csr (sy (y_F (y_eql rfl rfl) (by omega)) ?_)));refine sa ?_;refine snf (c_condF rfl (csr (sy (y_F (y_eql rfl rfl) (by omega)) ?_)));refine sa ?_;refine snf (c_condF rfl (csr (sy (y_T (y_eql rfl rfl) (by assumption)) ?_)));refine sa ?_;refine snf (c_condT rfl (csr (sm ?_)));refine sf 1 ?_;refine slr 1 ?_;refine St.cls (C' := K W (g.L ++ (M ++ ([(b6, row 42 z42)] :: [(b5, row 46 [.int .u8 (f 0), .int .i64 (f 1), .int .i64 (f 2), .int .i64 (f 3), .int .i64 (f 4), .int .i64 (f 5)])] :: [(b4, row 42 r.cells)] :: G)))) ?_ (fun w h => K.d1 h);have hc5 : CellsAre (K W (g.L ++ (M ++ ([(b6, row 42 z42)] :: [(b5, row 46 [.int .u8 (f 0), .int .i64 (f 1), .int .i64 (f 2), .int .i64 (f 3), .int .i64 (f 4), .int .i64 (f 5)])] :: [(b4, row 42 r.cells)] :: G)))) ⟨b5, 0, none⟩ (clv f).cells.toList := (cells_row0 (W := W) (Ls := [(b6, row 42 z42)] :: [(b5, row 46 [.int .u8 (f 0), .int .i64 (f 1), .int .i64 (f 2), .int .i64 (f 3), .int .i64 (f 4), .int .i64 (f 5)])] :: [(b4, row 42 r.cells)] :: G) 1 rfl rfl).cls fun w h => K.bck (K.bck h);skip;refine s_call (en_f rfl call30) (Commit_b (N := M ++ ([(b6, row 42 z42)] :: [(b5, row 46 [.int .u8 (f 0), .int .i64 (f 1), .int .i64 (f 2), .int .i64 (f 3), .int .i64 (f 4), .int .i64 (f 5)])] :: [(b4, row 42 r.cells)] :: G)) (tx := f 1) hB (hI.good hm) (fun k _ hk _ _ => hI.apOK hk) (by omega)) rfl rfl rfl (fun x => ?_);obtain ⟨⟨g', n, e⟩, hB', hp', hA⟩ := x;dsimp only at hB' hp' hA ⊢;clear hc5;refine St.cls (C' := K W ([(b6, row 42 z42)] :: [(b5, row 46 [.int .u8 (f 0), .int .i64 (f 1), .int .i64 (f 2), .int .i64 (f 3), .int .i64 (f 4), .int .i64 (f 5)])] :: [(b4, row 42 r.cells)] :: (g'.L ++ (M ++ G)))) ?_ (fun w h => K.d2 h);have hbg := RCommit_spec (W := W) (N := M) (G := [(b6, row 42 z42)] :: [(b5, row 46 [.int .u8 (f 0), .int .i64 (f 1), .int .i64 (f 2), .int .i64 (f 3), .int .i64 (f 4), .int .i64 (f 5)])] :: [(b4, row 42 r.cells)] :: (g'.L ++ G)) hV (k := f 1) (hO.r5 hS _) (by have := hS.ql hI; omega) (by omega) (fun j t hk hz ht => hS.endC hI hm hk hz ht);refine sm ?_;refine sx ?_;refine sx ?_;refine sa ?_;refine sa ?_;refine snf (csr (sy (y_loadA tab rfl rfl rfl rfl (cells_row0 2 rfl rfl)) ?_));refine sf 1 ?_;refine slr 1 ?_;refine St.cls (C' := K W (M ++ ([(b6, row 42 z42)] :: [(b5, row 46 [.int .u8 (f 0), .int .i64 (f 1), .int .i64 (f 2), .int .i64 (f 3), .int .i64 (f 4), .int .i64 (f 5)])] :: [(b4, row 42 r.cells)] :: (g'.L ++ G)))) ?_ (fun w h => K.d3 h);refine sk call49 hbg fun x => ?_;obtain ⟨⟨r', T, n', e'⟩, hV', hc'⟩ := x;dsimp only at hV' hc' ⊢;refine St.cls (C' := K W ([(b6, row 42 z42)] :: [(b5, row 46 [.int .u8 (f 0), .int .i64 (f 1), .int .i64 (f 2), .int .i64 (f 3), .int .i64 (f 4), .int .i64 (f 5)])] :: [(b4, row 42 r.cells)] :: (g'.L ++ (T ++ (M ++ G))))) ?_ (fun w h => K.d4 h);obtain ⟨hSm, rfl, rfl⟩ := hS.cm hI hp' hc';have hnn : (n' : Int) = (n' : Int) := rfl;have hee : (e' : Int) = (e' : Int) := rfl;refine sm ?_;refine sx ?_;refine sx ?_;refine sx ?_;refine sal fun b18 => ?_;refine ss (set_box tab 0 rfl rfl rfl rfl rfl rfl rfl) ?_;refine sa ?_;refine sa ?_;refine snf (csr (sy (y_loadA tab rfl rfl rfl rfl (cells_row0 0 rfl rfl)) ?_));refine sm ?_;refine sm ?_;refine sy (y_T (y_eql rfl rfl) (by assumption)) ?_;refine sm ?_;refine sm ?_;refine sm ?_;refine sy (y_T (y_eql rfl rfl) (by assumption)) ?_;refine spT ?_;refine ss (set_box tab 1 rfl rfl rfl rfl rfl rfl rfl) ?_;refine sa ?_;refine snf (c_ret (f_blockR (f_thenR ?_)));exact f_ret ⟨(g', r', T), hB', hA.b, .inr (.inr (.inr (.inl ⟨h0, _, _, hp'⟩))), hV', hSm⟩ (resA1 tab rfl rfl rfl rfl rfl rfl (cells_row0 1 rfl rfl)) (fun w h => ((h.dropAt 0).dropAt 0 |>.dropAt 0).dropAt 0)
theorem do_abort (hB : g.OK) (hO : g.bk.Ok m) (hm : m < 100000) (hV : RV (K W M) r) (hS : Sm g.bk r.rb) (hf : 0 ≤ f 0 ∧ f 0 < 256) (h0 : f 0 % 6 = 5) :
    Spec prog 16 #[.pointer (some ⟨g.b, 0, none⟩), r.val, clv f] (K W (g.L ++ (M ++ G))) (X := { x : Bg × Rg × List Chunk // DoR W M g f x }) (fun x => .tuple #[x.1.2.1.val, .bool true]) (fun x => K W (x.1.1.L ++ (x.1.2.2 ++ (M ++ G)))) := by
  have hI := hO.inv;refine enter (args := [_, _, _]) func16 rfl ntmps16 rfl ?_;refine csr (sbx fun b4 => ?_);refine sbx fun b5 => ?_;refine sal fun b6 => ?_;refine sa ?_;refine snf (c_seq (csr (sf0 ?_)));refine slr 1 ?_;refine sy (y_remK rfl rfl (by omega)) ?_;refine snf (c_block (csr (sy (y_F (y_eql rfl rfl) (by omega)) ?_)));refine sa ?_;refine snf (c_condF rfl (csr (sy (y_F (y_eql rfl rfl) (by omega)) ?_)));refine sa ?_;refine snf (c_condF rfl (csr (sy (y_F (y_eql rfl rfl) (by omega)) ?_)));refine sa ?_;refine snf (c_condF rfl (csr (sy (y_T (y_eql rfl rfl) (by assumption)) ?_)));refine sa ?_;refine snf (c_condT rfl (csr (sm ?_)));refine sf 1 ?_;refine slr 1 ?_;refine St.cls (C' := K W (g.L ++ (M ++ ([(b6, row 42 z42)] :: [(b5, row 46 [.int .u8 (f 0), .int .i64 (f 1), .int .i64 (f 2), .int .i64 (f 3), .int .i64 (f 4), .int .i64 (f 5)])] :: [(b4, row 42 r.cells)] :: G)))) ?_ (fun w h => K.d1 h);have hc5 : CellsAre (K W (g.L ++ (M ++ ([(b6, row 42 z42)] :: [(b5, row 46 [.int .u8 (f 0), .int .i64 (f 1), .int .i64 (f 2), .int .i64 (f 3), .int .i64 (f 4), .int .i64 (f 5)])] :: [(b4, row 42 r.cells)] :: G)))) ⟨b5, 0, none⟩ (clv f).cells.toList := (cells_row0 (W := W) (Ls := [(b6, row 42 z42)] :: [(b5, row 46 [.int .u8 (f 0), .int .i64 (f 1), .int .i64 (f 2), .int .i64 (f 3), .int .i64 (f 4), .int .i64 (f 5)])] :: [(b4, row 42 r.cells)] :: G) 1 rfl rfl).cls fun w h => K.bck (K.bck h);skip;refine sk call31 (Abort_b (N := M ++ ([(b6, row 42 z42)] :: [(b5, row 46 [.int .u8 (f 0), .int .i64 (f 1), .int .i64 (f 2), .int .i64 (f 3), .int .i64 (f 4), .int .i64 (f 5)])] :: [(b4, row 42 r.cells)] :: G)) (tx := f 1) hB (hI.good hm)) fun x => ?_;obtain ⟨⟨g', e⟩, hB', hp', hA⟩ := x;dsimp only at hB' hp' hA ⊢;clear hc5;refine St.cls (C' := K W ([(b6, row 42 z42)] :: [(b5, row 46 [.int .u8 (f 0), .int .i64 (f 1), .int .i64 (f 2), .int .i64 (f 3), .int .i64 (f 4), .int .i64 (f 5)])] :: [(b4, row 42 r.cells)] :: (g'.L ++ (M ++ G)))) ?_ (fun w h => K.d2 h);have hbg := RAbort_spec (W := W) (N := M) (G := [(b6, row 42 z42)] :: [(b5, row 46 [.int .u8 (f 0), .int .i64 (f 1), .int .i64 (f 2), .int .i64 (f 3), .int .i64 (f 4), .int .i64 (f 5)])] :: [(b4, row 42 r.cells)] :: (g'.L ++ G)) hV (k := f 1) (hO.r5 hS _) (by have := hS.ql hI; omega) (fun j t hk hz ht => hS.endA hI hk hz ht);refine sa ?_;refine snf (csr (sy (y_loadA tab rfl rfl rfl rfl (cells_row0 2 rfl rfl)) ?_));refine sf 1 ?_;refine slr 1 ?_;refine St.cls (C' := K W (M ++ ([(b6, row 42 z42)] :: [(b5, row 46 [.int .u8 (f 0), .int .i64 (f 1), .int .i64 (f 2), .int .i64 (f 3), .int .i64 (f 4), .int .i64 (f 5)])] :: [(b4, row 42 r.cells)] :: (g'.L ++ G)))) ?_ (fun w h => K.d3 h);refine sk call50 hbg fun x => ?_;obtain ⟨⟨r', T, e'⟩, hV', hc'⟩ := x;dsimp only at hV' hc' ⊢;refine St.cls (C' := K W ([(b6, row 42 z42)] :: [(b5, row 46 [.int .u8 (f 0), .int .i64 (f 1), .int .i64 (f 2), .int .i64 (f 3), .int .i64 (f 4), .int .i64 (f 5)])] :: [(b4, row 42 r.cells)] :: (g'.L ++ (T ++ (M ++ G))))) ?_ (fun w h => K.d4 h);obtain ⟨hSm, rfl⟩ := hS.ab hI hp' hc';have hee : (e' : Int) = (e' : Int) := rfl;refine sm ?_;refine sx ?_;refine sx ?_;refine sal fun b22 => ?_;refine ss (set_box tab 0 rfl rfl rfl rfl rfl rfl rfl) ?_;refine sa ?_;refine snf (csr (sy (y_loadA tab rfl rfl rfl rfl (cells_row0 0 rfl rfl)) ?_));refine sm ?_;refine sm ?_;refine sy (y_T (y_eql rfl rfl) (by assumption)) ?_;refine ss (set_box tab 1 rfl rfl rfl rfl rfl rfl rfl) ?_;refine sa ?_;refine snf (c_ret (f_blockR (f_thenR ?_)));exact f_ret ⟨(g', r', T), hB', hA.b, .inr (.inr (.inr (.inr ⟨h0, _, hp'⟩))), hV', hSm⟩ (resA1 tab rfl rfl rfl rfl rfl rfl (cells_row0 1 rfl rfl)) (fun w h => ((h.dropAt 0).dropAt 0 |>.dropAt 0).dropAt 0)
end
end Go.KL
end

section
/- The law: ClerkFull. -/
namespace Go.KL
open Go.Proofs Go.Proofs.Tryz
section
variable {P : Program} {n : Nat} {σ : Slots} {C : World → Prop} {dst ty pos after guard}
end
def Rg.fresh (n : Nat) (f : Nat → Nat) (m : Wh) : Rg := ⟨n, f, m, [], ⟨none, 0⟩, [], ⟨none, 0⟩, [], ⟨none, 0⟩⟩
theorem RV.fresh {C : World → Prop} {n : Nat} {f : Nat → Nat} {m : Wh} (h : RMp C (.slice m.p (rnl (rns f 0 n)).length m.c) n f) : RV C (Rg.fresh n f m) := ⟨h, EV.empty, (fun t ht => by cases ht), EV.empty, EV.empty, (fun x hx => by cases hx), by simp [Rg.fresh]⟩
theorem Sm.fresh {n : Nat} {f : Nat → Nat} {m : Wh} : Sm (Bk.fresh n f) (Rg.fresh n f m).rb := ⟨rfl, rfl, rfl, (fun k hk => by unfold Bk.has at hk; simp [Bk.fresh] at hk; omega), (fun k hk => by cases hk), rfl, rfl⟩
theorem K.e0 {W w : World} {L N : List Chunk} {a c d e : Chunk} (h : K W (a :: c :: d :: (L ++ (e :: N))) w) : K W (a :: (L ++ ([c] ++ (d :: e :: N)))) w := K.perm h fun x _ => by
  simp only [List.count_append, List.count_cons, List.count_nil];omega
theorem K.e1 {W w : World} {L M G : List Chunk} {a : Chunk} (h : K W (a :: (L ++ (M ++ G))) w) : K W (L ++ (M ++ (a :: G))) w := K.perm h fun x _ => by
  simp only [List.count_append, List.count_cons];omega
theorem K.e2 {W w : World} {T L M G : List Chunk} {a : Chunk} (h : K W (L ++ (T ++ (M ++ (a :: G)))) w) : K W (a :: (L ++ ((T ++ M) ++ G))) w := K.perm h fun x _ => by
  simp only [List.count_append, List.count_cons];omega
theorem K.e3 {W w : World} {L M G : List Chunk} {a : Chunk} (h : K W (a :: (L ++ (M ++ G))) w) : K W (a :: G) w := K.bck (M := M) (K.bck (M := L) (K.perm (B := L ++ (M ++ (a :: G))) h fun x _ => by
  simp only [List.count_append, List.count_cons];omega))
structure Both (W : World) (M : List Chunk) (b m : Nat) (g : Bg) (r : Rg) : Prop where
  ok : g.OK
  b : g.b = b
  i : g.bk.Ok m
  rv : RV (K W M) r
  sm : Sm g.bk r.rb
  ts : g.ts.length ≤ m
  ls : g.ls.length ≤ m
theorem Both.next {W : World} {M : List Chunk} {b m : Nat} {g : Bg} {r : Rg} {f : Nat → Int} {x : Bg × Rg × List Chunk} (h : Both W M b m g r) (hx : DoR W M g f x) : Both W (x.2.2 ++ M) b (m + 1) x.1 x.2.1 := by
  obtain ⟨q1, _, q3, q4⟩ := h.i.grow hx.cl;have h1 := h.ts;have h2 := h.ls;have e1 : x.1.bk.ts.length = x.1.ts.length := by simp [Bg.bk]
  have e2 : g.bk.ts.length = g.ts.length := by simp [Bg.bk]
  have e3 : x.1.bk.log.length = x.1.ls.length := by simp [Bg.bk]
  have e4 : g.bk.log.length = g.ls.length := by simp [Bg.bk]
  exact ⟨hx.ok, hx.b.trans h.b, h.i.cl hx.cl, hx.rv, hx.sm, by omega, by omega⟩
theorem Both.mono {W : World} {M : List Chunk} {b m m' : Nat} {g : Bg} {r : Rg} (h : Both W M b m g r) (hm : m ≤ m') : Both W M b m' g r := ⟨h.ok, h.b, h.i.mono hm, h.rv, h.sm, Nat.le_trans h.ts hm, Nat.le_trans h.ls hm⟩
attribute [local irreducible] SC St Fin Sq Ylds Doos Sets Enters Spec CellIs CellsAre Then Ret Rnd Chn resOK ints bools recs arr
end Go.KL
end

section
/- The document's book and the program's stay the same: obtaining, done; plain. No program in sight. -/
namespace Go.KL
namespace Bk
theorem IsVic.uniq {A : Bk} {k v w : Nat} (h : A.IsVic k v) (g : A.IsVic k w) : v = w := by
  rcases h with ⟨rfl, h⟩ | ⟨h0, h1, h2⟩
  · rcases g with ⟨rfl, _⟩ | ⟨g0, g1, g2⟩
    · rfl
    · exact absurd g1 (h w)
  · rcases g with ⟨rfl, g⟩ | ⟨g0, g1, g2⟩
    · exact absurd h1 (g v)
    · exact Nat.le_antisymm (g2 v h1) (h2 w g1)
end Bk
namespace Sm
variable {A : Bk} {b : RB} {m : Nat}
theorem grant (h : Sm A b) (hI : A.Inv m) {k lo hi : Nat} {wr : Bool} (hk : A.has k) (hs : (A.tx k).st = 1) : Sm (A.setT k { A.tx k with locks := (A.tx k).locks ++ [⟨k, lo, hi, wr⟩] }) (b.grant ⟨k, lo, hi, wr⟩) := by
  have hr := hI.run hk hs;have hrun := h.run k hr;have := h.upd hI (k := k) (t := { A.tx k with locks := (A.tx k).locks ++ [⟨k, lo, hi, wr⟩] }) (u := ⟨1, (b.tx k).locks ++ [⟨k, lo, hi, wr⟩], (b.tx k).ops⟩) (q := A.q) (W := A.W) (Q := b.Q) hk hs.symm (fun _ => ⟨by rw [hrun.1], hrun.2⟩) (by
    rw [h.Q, Bk.reqs];refine List.map_congr_left fun j hj => ?_;have hne : j ≠ k := fun e => hI.noq hs (e ▸ hj);rw [if_neg hne]) (fun j hj => hI.qhas hj)
  exact this
theorem wait (h : Sm A b) (hI : A.Inv m) {k : Nat} {l : Lk} (hk : A.has k) (hs : (A.tx k).st = 1) : Sm (A.wait k l) (b.wait k l) := by
  have hr := hI.run hk hs;have hrun := h.run k hr;have := h.upd hI (k := k) (t := ⟨2, (A.tx k).locks, l, (A.tx k).ops⟩) (u := ⟨2, (b.tx k).locks, (b.tx k).ops⟩) (q := A.q ++ [k]) (W := A.W) (Q := b.Q ++ [l]) hk rfl (fun _ => hrun) (by
    rw [h.Q, Bk.reqs, List.map_append, List.map_cons, List.map_nil, if_pos rfl];congr 1;refine List.map_congr_left fun j hj => ?_;have hne : j ≠ k := fun e => hI.noq hs (e ▸ hj);rw [if_neg hne]) (fun j hj => by
    rcases List.mem_append.1 hj with hj | hj
    · exact hI.qhas hj
    · rw [List.mem_singleton.1 hj]; exact hk)
  exact this
theorem done (h : Sm A b) (hI : A.Inv m) {k : Nat} {o : Oa} {W : Nat → Nat} (hk : A.has k) (hs : (A.tx k).st = 1) : Sm (({ A with W := W } : Bk).done k o) (b.done k o) := by
  have hr := hI.run hk hs;have hrun := h.run k hr;have := h.upd hI (k := k) (t := { A.tx k with ops := (A.tx k).ops ++ [o] }) (u := ⟨(b.tx k).st, (b.tx k).locks, (b.tx k).ops ++ [o]⟩) (q := A.q) (W := W) (Q := b.Q) hk (h.st k hk) (fun _ => ⟨hrun.1, by rw [hrun.2]⟩) (by
    rw [h.Q, Bk.reqs];refine List.map_congr_left fun j hj => ?_;have hne : j ≠ k := fun e => hI.noq hs (e ▸ hj);rw [if_neg hne]) (fun j hj => hI.qhas hj)
  exact this
end Sm
end Go.KL
end

section
/- Walks: Holds, waits of the document's book. -/
namespace Go.KL
open Go.Proofs Go.Proofs.Tryz
def Rg.hv (g : Rg) (k : Nat) : Value := if 1 ≤ k ∧ (g.rb.tx k).inP = true then ((g.ts[k - 1]?).elim (.slice none 0 0) Dt.lv) else .slice none 0 0
theorem hv_in {g : Rg} {k : Nat} {t : Dt} (hk : 1 ≤ k) (ht : g.ts[k - 1]? = some t) : g.hv k = if t.rt.inP = true then t.lv else .slice none 0 0 := by
  unfold Rg.hv;rw [rb_tx ht, ht];by_cases c : t.rt.inP = true
  · rw [if_pos ⟨hk, c⟩, if_pos c];rfl
  · rw [if_neg fun h => c h.2, if_neg c]
theorem hv_out {g : Rg} {k : Nat} (hk : ¬ (1 ≤ k ∧ k ≤ g.ts.length)) : g.hv k = .slice none 0 0 := by
  unfold Rg.hv;split
  · rw [List.getElem?_eq_none (by omega)];rfl
  · rfl
theorem hv_ev {C : World → Prop} {g : Rg} (hV : RV C g) (k : Nat) : EV C (g.hv k) 4 (lks (g.rb.held k)) := by
  by_cases c : 1 ≤ k ∧ k ≤ g.ts.length
  · obtain ⟨t, ht⟩ : ∃ t, g.ts[k - 1]? = some t := ⟨g.ts[k - 1], List.getElem?_eq_getElem (by omega)⟩;rw [hv_in c.1 ht];by_cases hp : t.rt.inP = true
    · rw [if_pos hp, RB.held, if_pos ⟨rb_has.2 c, by rw [rb_tx ht]; exact hp⟩, rb_tx ht];exact (hV.tx t (List.mem_of_getElem? ht)).l
    · rw [if_neg hp, RB.held, if_neg (by rw [rb_tx ht]; exact fun h => hp h.2)];exact EV.empty
  · rw [hv_out c, RB.held, if_neg (fun h => c (rb_has.1 h.1))];exact EV.empty
attribute [local irreducible] SC St Fin Sq Ylds Doos Sets Enters Spec CellIs CellsAre Then Ret Rnd Chn resOK ints bools recs arr
section
variable {W : World} {N : List Chunk} {g : Rg}
theorem Hv_spec (hV : RV (K W N) g) {k : Nat} : Spec prog 57 #[g.val, .int .i64 (k : Nat)] (K W N) (fun _ : Unit => g.hv k) (fun _ => K W N) := by
  have hl : (dtl g.ts).length = g.ts.length := List.length_map _;have hn := hV.n;refine enter (args := [_, _]) func57 rfl ntmps57 rfl ?_;by_cases c : 1 ≤ k ∧ k ≤ g.ts.length
  · obtain ⟨t, ht⟩ : ∃ t, g.ts[k - 1]? = some t := ⟨g.ts[k - 1], List.getElem?_eq_getElem (by omega)⟩;obtain ⟨jx, hjx⟩ : ∃ jx, jx = k - 1 := ⟨_, rfl⟩;rw [hv_in c.1 ht];refine csr (sbx fun b2 => ?_);refine sa ?_;refine snf (c_seq (csr (sy (y_loadA tab rfl rfl rfl rfl (cells_row0 0 rfl rfl)) ?_)));refine sm ?_;refine sk call88 (Is_spec hV.cons) fun _ => ?_;rw [decide_eq_true (show 1 ≤ (k : Int) ∧ (k : Int) ≤ g.ts.length from by omega)];have hE : EV (K W ([(b2, row 42 g.cells)] :: N)) g.tv 3 (dtl g.ts) := hV.t.cons;have hrow := hE.row (i := jx) (x := t.cells) (by simp [hjx, ht]);refine sy (y_notT rfl) ?_;refine sm ?_;refine sf 2 ?_;refine slr 0 ?_;refine sm ?_;refine sy (y_sub rfl rfl (by omega)) ?_;refine sy (y_ixE tab rfl rfl rfl rfl (hE) jx (by omega) (by omega)) ?_;refine sy (y_loadA tab rfl rfl rfl rfl hrow) ?_;refine sk call54 (In_spec (t := t)) fun _ => ?_;cases hp : t.rt.inP with
    | false =>
      rw [if_neg (by decide)];refine sy (y_notF rfl) ?_;refine spF ?_;refine snf (c_condT rfl (csr (sa ?_)));refine snf (c_ret (f_thenR ?_));exact f_ret () (res1 rfl rfl) (fun w h => h.tail)
    | true =>
      rw [if_pos rfl];refine sy (y_notT rfl) ?_;refine spF ?_;refine snf (c_condF rfl (c_skip (f_then (csr (sf 2 ?_)))));refine slr 0 ?_;refine sm ?_;refine sy (y_sub rfl rfl (by omega)) ?_;refine sy (y_ixE tab rfl rfl rfl rfl (hE) jx (by omega) (by omega)) ?_;refine sy (y_fieldAddr tab 1 rfl rfl rfl rfl rfl) ?_;refine sl (CellsAre.nth 1 (hrow) rfl) ?_;refine sa ?_;refine snf (c_ret ?_);exact f_ret () (res1 rfl rfl) (fun w h => h.tail)
  · rw [hv_out c];refine csr (sbx fun b2 => ?_);refine sa ?_;refine snf (c_seq (csr (sy (y_loadA tab rfl rfl rfl rfl (cells_row0 0 rfl rfl)) ?_)));refine sm ?_;refine sk call88 (Is_spec hV.cons) fun _ => ?_;rw [decide_eq_false (show ¬ (1 ≤ (k : Int) ∧ (k : Int) ≤ g.ts.length) from by omega)];refine sy (y_notF rfl) ?_;refine sm ?_
    iterate 8 refine s_skip rfl rfl rfl ?_
    refine spT ?_;refine snf (c_condT rfl (csr (sa ?_)));refine snf (c_ret (f_thenR ?_));exact f_ret () (res1 rfl rfl) (fun w h => h.tail)
abbrev cvr (x : Lk) (i : Nat) (wr : Bool) : Prop := (x.wr = true ∨ wr = false) ∧ x.lo ≤ i ∧ i < x.hi
theorem Holds_spec {t : Dt} (hV : DtV (K W N) t) {lo hi : Nat} {wr : Bool} (hl : t.locks.length < 100000) : Spec prog 101 #[.agg #[.int .i64 (t.st : Nat), t.lv, t.ov], .int .i64 (lo : Nat), .int .i64 (hi : Nat), .bool wr] (K W N) (fun _ : Unit => .bool (decide (Hold t.locks lo hi wr))) (fun _ => K W N) := by
  have hll : (lks t.locks).length = t.locks.length := List.length_map _;obtain ⟨R, hR⟩ : ∃ R, R = decide (Hold t.locks lo hi wr) := ⟨_, rfl⟩;rw [← hR];refine enter (args := [_, _, _, _]) func101 rfl ntmps101 rfl ?_;refine csr (sbx fun b4 => ?_);refine sa ?_;refine snf (c_seq (c_block (c_loopP (α := Nat) (fun z => [(1, .int .i64 (z : Nat)), (2, .int .i64 (hi : Nat)), (3, .bool wr), (4, .pointer (some ⟨b4, 0, none⟩))]) (fun z => lo ≤ z ∧ Hold t.locks lo z wr) (fun _ => K W ([(b4, row 85 t.cells)] :: N)) (fun z => hi - z) lo ⟨rfl, rfl, rfl, rfl, trivial⟩ ⟨Nat.le_refl _, fun i h1 h2 => by omega⟩ (fun w h => h) ?_)));rintro z ⟨hz, hh⟩;by_cases c : z < hi
  · refine c_seq (csr (sm ?_));refine sm ?_;refine sy (y_T (y_lss rfl rfl) (by omega)) ?_;refine snf (c_condT rfl (c_skip (f_then (c_block (csr (sm ?_))))));refine sa ?_;refine snf (c_seq (csr (sa ?_)));refine snf (c_block (c_loopP (α := Nat × Nat) (fun y => [(1, .int .i64 (z : Nat)), (2, .int .i64 (hi : Nat)), (3, .bool wr), (4, .pointer (some ⟨b4, 0, none⟩)), (9, .int .i64 (y.2 : Nat)), (10, .int .i64 (y.1 : Nat))]) (fun y => y.1 ≤ t.locks.length ∧ z ≤ y.2 ∧ Hold t.locks lo y.2 wr ∧ (y.2 = z → ∀ x ∈ t.locks.take y.1, ¬ cvr x z wr)) (fun _ => K W ([(b4, row 85 t.cells)] :: N)) (fun y => t.locks.length - y.1) (0, z) ⟨rfl, rfl, rfl, rfl, rfl, rfl, trivial⟩ ⟨Nat.zero_le _, Nat.le_refl _, hh, fun _ x hx => by simp at hx⟩ (fun w h => h) ?_));rintro ⟨k, to⟩ ⟨hk, hzt, hht, hno⟩;dsimp only at hk hzt hht hno ⊢;have hE : EV (K W ([(b4, row 85 t.cells)] :: N)) t.lv 4 (lks t.locks) := hV.l.cons;by_cases ck : k < t.locks.length
    · obtain ⟨x, hx⟩ : ∃ x, t.locks[k]? = some x := ⟨t.locks[k], List.getElem?_eq_getElem ck⟩;have hrow := hE.row (lks_get hx);have hxm := List.mem_of_getElem? hx;have htk : t.locks.take (k + 1) = t.locks.take k ++ [x] := by rw [List.take_add_one, hx]; rfl
      have hyes : cvr x z wr → Hold t.locks lo (max to x.hi) wr := fun h i h1 h2 => by
        by_cases ci : i < to
        · exact hht i h1 ci
        · exact ⟨x, hxm, h.1, by omega, by omega⟩
      have hne : ¬ cvr x z wr → to = z → ∀ y ∈ t.locks.take (k + 1), ¬ cvr y z wr := fun h h1 y hy => by
        rw [htk] at hy;rcases List.mem_append.1 hy with hy | hy
        · exact hno h1 y hy
        · rw [List.mem_singleton.1 hy];exact h
      clear hno hxm htk;have hmx : max (to : Int) (x.hi : Int) = ((max to x.hi : Nat) : Int) := by omega
      refine c_seq (csr (sm ?_));refine sf 1 ?_;refine slr 0 ?_;refine sy (y_lenE tab rfl (hE) rfl) ?_;refine sy (y_T (y_lss rfl rfl) (by omega)) ?_;refine snf (c_condT rfl (c_skip (f_then (c_seq (c_block (csr (sf 1 ?_)))))));refine slr 0 ?_;refine sm ?_;refine sy (y_ixE tab rfl rfl rfl rfl (hE) _ rfl (by omega)) ?_;refine sy (y_loadA tab rfl rfl rfl rfl hrow) ?_;refine sal fun b11 => ?_;refine ss (set_box tab 0 rfl rfl rfl rfl rfl rfl rfl) ?_;refine snf (csr (sf 1 ?_));refine slr 0 ?_;refine sm ?_;refine sy (y_leq rfl rfl) ?_;refine sm ?_;by_cases c1 : (x.lo : Int) ≤ (z : Int)
      · rw [show ∀ i : Decidable ((x.lo : Int) ≤ (z : Int)), @decide _ i = true from fun i => @decide_eq_true _ i c1];refine sm ?_;refine sf 2 ?_;refine slr 0 ?_;refine sy (y_lss rfl rfl) ?_;refine spT ?_;refine sm ?_;by_cases c2 : (z : Int) < (x.hi : Int)
        · rw [show ∀ i : Decidable ((z : Int) < (x.hi : Int)), @decide _ i = true from fun i => @decide_eq_true _ i c2];refine sf 3 ?_;refine slr 0 ?_;refine sm ?_;cases hxw : x.wr with
          | true =>
            iterate 2 refine s_skip rfl rfl rfl ?_
            refine spT ?_;refine spT ?_;refine snf (c_condT rfl (c_region (sm ?_)));refine sf 2 ?_;refine slr 0 ?_;refine sy (y_max rfl rfl) ?_;refine sa ?_;refine s_nil (f_blockN (f_then (c_region (sm ?_))));refine sy (y_add rfl rfl (by omega)) ?_;refine sa ?_;refine s_nil (f_roundP (k + 1, max to x.hi) ⟨ck, by dsimp only; omega, hyes ⟨.inl hxw, by omega, by omega⟩, fun h => by dsimp only at h; omega⟩ (by dsimp only; omega) ⟨rfl, rfl, rfl, rfl, ?_, rfl, trivial⟩ (fun w h => h.tail));show some (Value.int .i64 (max (to : Int) (x.hi : Int))) = _;rw [hmx]
          | false =>
            cases wr with
            | true =>
              refine sm ?_;refine sy (y_notT rfl) ?_;refine spF ?_;refine spT ?_;refine snf (c_condF rfl (c_skip (f_blockN (f_then (c_region (sm ?_))))));refine sy (y_add rfl rfl (by omega)) ?_;refine sa ?_;refine s_nil ?_;exact f_roundP (k + 1, to) ⟨ck, hzt, hht, hne fun h => by rcases h.1 with h | h <;> simp [hxw] at h⟩ (by dsimp only; omega) ⟨rfl, rfl, rfl, rfl, rfl, rfl, trivial⟩ (fun w h => h.tail)
            | false =>
              refine sm ?_;refine sy (y_notF rfl) ?_;refine spF ?_;refine spT ?_;refine snf (c_condT rfl (c_region (sm ?_)));refine sf 2 ?_;refine slr 0 ?_;refine sy (y_max rfl rfl) ?_;refine sa ?_;refine s_nil (f_blockN (f_then (c_region (sm ?_))));refine sy (y_add rfl rfl (by omega)) ?_;refine sa ?_;refine s_nil (f_roundP (k + 1, max to x.hi) ⟨ck, by dsimp only; omega, hyes ⟨.inr rfl, by omega, by omega⟩, fun h => by dsimp only at h; omega⟩ (by dsimp only; omega) ⟨rfl, rfl, rfl, rfl, ?_, rfl, trivial⟩ (fun w h => h.tail));show some (Value.int .i64 (max (to : Int) (x.hi : Int))) = _;rw [hmx]
        · rw [show ∀ i : Decidable ((z : Int) < (x.hi : Int)), @decide _ i = false from fun i => @decide_eq_false _ i c2]
          iterate 6 refine s_skip rfl rfl rfl ?_
          refine spF ?_;refine snf (c_condF rfl (c_skip (f_blockN (f_then (c_region (sm ?_))))));refine sy (y_add rfl rfl (by omega)) ?_;refine sa ?_;refine s_nil ?_;exact f_roundP (k + 1, to) ⟨ck, hzt, hht, hne fun h => by have := h.2.2; omega⟩ (by dsimp only; omega) ⟨rfl, rfl, rfl, rfl, rfl, rfl, trivial⟩ (fun w h => h.tail)
      · rw [show ∀ i : Decidable ((x.lo : Int) ≤ (z : Int)), @decide _ i = false from fun i => @decide_eq_false _ i c1]
        iterate 4 refine s_skip rfl rfl rfl ?_
        refine spF ?_;refine sm ?_
        iterate 6 refine s_skip rfl rfl rfl ?_
        refine spF ?_;refine snf (c_condF rfl (c_skip (f_blockN (f_then (c_region (sm ?_))))));refine sy (y_add rfl rfl (by omega)) ?_;refine sa ?_;refine s_nil ?_;exact f_roundP (k + 1, to) ⟨ck, hzt, hht, hne fun h => by have := h.2.1; omega⟩ (by dsimp only; omega) ⟨rfl, rfl, rfl, rfl, rfl, rfl, trivial⟩ (fun w h => h.tail)
    · obtain rfl : k = t.locks.length := by omega
      rw [List.take_length] at hno;by_cases ct : to = z
      · have hf : R = false := by
          rw [hR];refine decide_eq_false fun h => ?_;obtain ⟨x, h1, h2⟩ := h z hz c;exact hno ct x h1 h2
        rw [hf];refine c_seq (csr (sm ?_));refine sf 1 ?_;refine slr 0 ?_;refine sy (y_lenE tab rfl (hE) rfl) ?_;refine sy (y_F (y_lss rfl rfl) (by omega)) ?_;refine snf (c_condF rfl (c_exit (f_thenE (f_rndE (f_blockE (f_then (c_seq (csr (sm ?_)))))))));refine sm ?_;refine sy (y_T (y_eql rfl rfl) (by omega)) ?_;refine snf (c_condT rfl (csr (sa ?_)));refine snf (c_ret (f_thenR (f_blockR (f_rndR (f_blockR (f_thenR ?_))))));exact f_ret () (res1 rfl rfl) (fun w h => h.tail)
      · refine c_seq (csr (sm ?_));refine sf 1 ?_;refine slr 0 ?_;refine sy (y_lenE tab rfl (hE) rfl) ?_;refine sy (y_F (y_lss rfl rfl) (by omega)) ?_;refine snf (c_condF rfl (c_exit (f_thenE (f_rndE (f_blockE (f_then (c_seq (csr (sm ?_)))))))));refine sm ?_;refine sy (y_F (y_eql rfl rfl) (by omega)) ?_;refine snf (c_condF rfl (c_skip (f_then (c_region (sm ?_)))));refine sa ?_;refine s_nil (f_blockN ?_);exact f_roundP to ⟨by omega, hht⟩ (by omega) ⟨rfl, rfl, rfl, rfl, trivial⟩ (fun w h => h)
  · have hf : R = true := by
      rw [hR];exact decide_eq_true fun i h1 h2 => hh i h1 (by omega)
    rw [hf];refine c_seq (csr (sm ?_));refine sm ?_;refine sy (y_F (y_lss rfl rfl) (by omega)) ?_;refine snf (c_condF rfl (c_exit (f_thenE (f_rndE (f_blockE (f_then (csr (sa ?_))))))));refine snf (c_ret ?_);exact f_ret () (res1 rfl rfl) (fun w h => h.tail)
end
end Go.KL
end

section
/- Walks: waits of the document's book. -/
namespace Go.KL
open Go.Proofs Go.Proofs.Tryz
attribute [local irreducible] SC St Fin Sq Ylds Doos Sets Enters Spec CellIs CellsAre Then Ret Rnd Chn resOK ints bools recs arr
section
variable {W : World} {N : List Chunk} {g : Rg}
theorem waits_spec (hV : RV (K W N) g) {t u : Nat} (hq : g.Q.length < 100000) (hh : (g.rb.held u).length < 100000) : Spec prog 120 #[g.val, .int .i64 (t : Nat), .int .i64 (u : Nat)] (K W N) (fun _ : Unit => .bool (decide (g.rb.waits t u))) (fun _ => K W N) := by
  have hlq : (lks g.Q).length = g.Q.length := List.length_map _;obtain ⟨R, hR⟩ : ∃ R, R = decide (g.rb.waits t u) := ⟨_, rfl⟩;rw [← hR];refine enter (args := [_, _, _]) func120 rfl ntmps120 rfl ?_;refine csr (sbx fun b3 => ?_);refine sa ?_;refine snf (c_seq (csr (sa ?_)));refine snf (c_block (c_loopP (α := Nat) (fun z => [(1, .int .i64 (t : Nat)), (2, .int .i64 (u : Nat)), (3, .pointer (some ⟨b3, 0, none⟩)), (7, .int .i64 (z : Nat))]) (fun z => z ≤ g.Q.length ∧ ∀ i x, i < z → g.Q[i]? = some x → x.tx = t → ∀ y ∈ g.rb.held u ++ g.Q.take i, y.tx = u → cfr x y = false) (fun _ => K W ([(b3, row 42 g.cells)] :: N)) (fun z => g.Q.length - z) 0 ⟨rfl, rfl, rfl, rfl, trivial⟩ ⟨Nat.zero_le _, fun i x h => by omega⟩ (fun w h => h) ?_));rintro z ⟨hz, hno⟩;have hV3 : RV (K W ([(b3, row 42 g.cells)] :: N)) g := hV.cons;have hQ := hV3.q;by_cases c : z < g.Q.length
  · obtain ⟨x, hx⟩ : ∃ x, g.Q[z]? = some x := ⟨g.Q[z], List.getElem?_eq_getElem c⟩;have hrow := hQ.row (lks_get hx);have hstep : (x.tx = t → ∀ y ∈ g.rb.held u ++ g.Q.take z, y.tx = u → cfr x y = false) → ∀ i y, i < z + 1 → g.Q[i]? = some y → y.tx = t → ∀ v ∈ g.rb.held u ++ g.Q.take i, v.tx = u → cfr y v = false := fun h i y hi hy => by
      by_cases e : i = z
      · subst e;rw [hx] at hy;obtain rfl := Option.some.inj hy;exact h
      · exact hno i y (by omega) hy
    by_cases cx : x.tx = t
    · have cxi : (x.tx : Int) = (t : Int) := by omega
      have hnx : ¬ ((x.tx : Int) ≠ (t : Int)) := fun h => h cxi;refine c_seq (csr (sm ?_));refine sf 3 ?_;refine slr 0 ?_;refine sy (y_lenE tab rfl (hQ) rfl) ?_;refine sy (y_T (y_lss rfl rfl) (by omega)) ?_;refine snf (c_condT rfl (c_skip (f_then (c_seq (c_block (c_seq (csr (sf 3 ?_))))))));refine slr 0 ?_;refine sm ?_;refine sy (y_ixE tab rfl rfl rfl rfl (hQ) _ rfl (by omega)) ?_;refine sf0 ?_;refine sl (CellsAre.at0 (hrow) rfl) ?_;refine sm ?_;refine sy (y_F (y_neq rfl rfl) (by assumption)) ?_;refine snf (c_condF rfl (c_skip (f_then (csr (sf 3 ?_)))));refine slr 0 ?_;refine sm ?_;refine sy (y_ixE tab rfl rfl rfl rfl (hQ) _ rfl (by omega)) ?_;refine sy (y_loadA tab rfl rfl rfl rfl hrow) ?_;refine sal fun b8 => ?_;refine ss (set_box tab 0 rfl rfl rfl rfl rfl rfl rfl) ?_;refine snf (c_seq ?_);obtain ⟨N0, hN0⟩ : ∃ N0, N0 = [(b8, row 111 (lkc x))] :: [(b3, row 42 g.cells)] :: N := ⟨_, rfl⟩;have hV0 : RV (K W N0) g := by rw [hN0]; exact hV3.cons
      obtain ⟨F, hF⟩ : ∃ F : Option Nat → List Chunk, F = flo (fun b => [(b, row 111 [])]) := ⟨_, rfl⟩;have hD : ∀ (A : List Chunk) (y : Option Nat) (w : World), K W (A ++ (F y ++ N0)) w → K W N0 w := fun A y w h => K.bck (K.bck h);have hVy : ∀ y, RV (K W ([] ++ (F y ++ N0))) g := fun y => hV0.cls (hD [] y);have hc3 : CellsAre (K W N0) ⟨b3, 0, none⟩ g.cells := by rw [hN0]; exact cells_row0 1 rfl rfl
      have hqt := hV0.q.upto (k := z) (by omega);have hal : ∀ (A : List Chunk) {σ : Slots} {o : Oper}, Doos prog 62 σ (K W (A ++ N0)) o (fun b => Value.slice (some ⟨b, 0, none⟩) 0 0) (fun b => K W ([(b, row 111 [])] :: (A ++ N0))) → Outs prog 62 σ (K W (A ++ (F none ++ N0))) o (fun b => Value.slice (some ⟨b, 0, none⟩) 0 0) (fun b => K W (A ++ (F (some b) ++ N0))) := fun A σ o h => by
        rw [hF];exact h.outs.conv fun b w hk => K.bckN (A := [[(b, row 111 [])]]) (B := A) hk
      have hqn : z ≤ g.q.c := by
        obtain ⟨pa, c', e, hc', _⟩ := hV.q.view;injection e with e1 e2 e3;omega
      refine SC.cls (C' := K W ([] ++ (F none ++ N0))) ?_ (fun w h => by rw [hF, hN0]; exact h);refine c_planJ (Y := Nat) 0 31 (fun b => .slice (some ⟨b, 0, none⟩) 0 0) [.c 1, .c 2, .c 5, .c 6, .c 7, .c 8, .s 3] [.s 4, .s 9, .s 10] (K W N0) (fun y => K W ([] ++ (F y ++ N0))) mixed (by kernel_rfl) rfl K.cl ?_;refine j_c rfl (Qui.ylds (y_loadA tab rfl rfl rfl rfl hc3)) rfl (fun _ => rfl) rfl rfl rfl rfl rfl (hD _) (fun _ => K.cl) ?_;refine j_c rfl (Qui.ylds (y_move rfl)) rfl (fun _ => rfl) rfl rfl rfl rfl rfl (hD _) (fun _ => K.cl) ?_;refine j_c rfl (Qui.ylds (y_fieldAddrB tab 3 rfl rfl rfl rfl rfl)) rfl (fun _ => rfl) rfl rfl rfl rfl rfl (hD _) (fun _ => K.cl) ?_;refine j_c rfl (Qui.ylds (y_load tab rfl rfl (CellsAre.nth 3 hc3 rfl))) rfl (fun _ => rfl) rfl rfl rfl rfl rfl (hD _) (fun _ => K.cl) ?_;refine j_c rfl (Qui.ylds (y_move rfl)) rfl (fun _ => rfl) rfl rfl rfl rfl rfl (hD _) (fun _ => K.cl) ?_;refine j_c rfl (Qui.ylds (y_sliceTo tab rfl rfl rfl rfl rfl (by omega))) rfl (fun _ => rfl) rfl rfl rfl rfl rfl (hD _) (fun _ => K.cl) ?_;refine j_s (X := Unit) (v := fun _ => g.hv u) (C' := fun _ y => K W ([] ++ (F y ++ N0))) rfl rfl (fun y => Outs.call (en_f rfl call57) (Hv_spec (hVy y))) (hal [] (do_buildSliceS (vs := []) (len := 0) (ps := []) tab ⟨rfl, rfl, rfl, rfl⟩ rfl rfl rfl rfl)) rfl (fun _ => rfl) rfl rfl rfl rfl rfl rfl rfl (fun _ => K.cl) (fun _ _ => K.cl) (hD _) (fun _ y => hD _ y) (fun _ => ?_);refine j_j rfl (hal [] (do_buildSliceS (vs := []) (len := 0) (ps := []) tab ⟨rfl, rfl, rfl, rfl⟩ rfl rfl rfl rfl)) rfl rfl rfl (fun _ => K.cl) (hD _) (fun b31 => ?_);refine Sd.cls (C' := K W ([(b31, row 111 [])] :: N0)) ?_ (fun w h => by rw [hF] at h; exact h);have hle : (lks (g.rb.held u)).length = (g.rb.held u).length := List.length_map _;refine d_s rfl (do_appendRV (by_ := 32) tab 0 rfl .lit rfl (hv_ev (hV0.cls fun _ h => h.tail) u) ⟨rfl, rfl, rfl, rfl⟩ rfl (by omega) (Nat.lt_of_sub_eq_succ rfl) rfl (lks_all _) (by simp only [List.length_nil]; omega) (by omega)) rfl rfl rfl (fun _ => K.cl) (fun _ _ _ h => h.tail) (fun y => ?_);obtain ⟨⟨v, cc⟩, hB⟩ := y;have hB : BufR 111 4 v cc (lks (g.rb.held u)) := hB;dsimp only;refine d_s rfl (do_appendRV (by_ := 32) tab 0 rfl hB rfl (hqt.cls fun _ h => h.tail) ⟨rfl, rfl, rfl, rfl⟩ rfl (by omega) (Nat.lt_of_sub_eq_succ rfl) rfl (fun r hr => lks_all _ r (List.mem_of_mem_take hr)) (by rw [List.length_take, List.length_map, List.length_map]; omega) (by omega)) rfl rfl rfl (fun _ => K.cl) (fun _ _ _ h => h.tail) (fun y => ?_);obtain ⟨⟨v, cc⟩, hB⟩ := y;obtain ⟨al, hal2⟩ : ∃ al, al = g.rb.held u ++ g.Q.take z := ⟨_, rfl⟩;have hB : BufR 111 4 v cc (lks al) := hB.of (by rw [hal2]; simp [lks, List.map_take]);have hall : al.length < 200000 := by rw [hal2, List.length_append, List.length_take]; omega
      dsimp only;refine d_sy rfl (y_assign rfl) rfl rfl rfl K.cl (fun _ _ h => h.tail) ?_;refine d_nil (Fin.cls (C' := K W (cc :: [(b8, row 111 (lkc x))] :: [(b3, row 42 g.cells)] :: N)) ?_ (fun w h => by rw [hN0] at h; exact h));have hE : EV (K W (cc :: [(b8, row 111 (lkc x))] :: [(b3, row 42 g.cells)] :: N)) v 4 (lks al) := hB.view (Hs.at 0 rfl);have hla : (lks al).length = al.length := List.length_map _;rw [← hal2] at hstep;have hyes : ∀ y ∈ al, y.tx = u → cfr x y = true → R = true := fun y hy hyu hc => by
        rw [hR];exact decide_eq_true ⟨z, x, hx, cx, y, by rw [hal2] at hy; exact hy, hyu, hc⟩
      clear hD hVy hal hqt hc3 hB hal2 hle;refine f_then (csr (sa ?_));refine snf (c_block (c_loopP (α := Nat) (fun k => [(1, .int .i64 (t : Nat)), (2, .int .i64 (u : Nat)), (3, .pointer (some ⟨b3, 0, none⟩)), (7, .int .i64 (z : Nat)), (8, .pointer (some ⟨b8, 0, none⟩)), (9, v), (10, .int .i64 (k : Nat))]) (fun k => k ≤ al.length ∧ ∀ y ∈ al.take k, y.tx = u → cfr x y = false) (fun _ => K W (cc :: [(b8, row 111 (lkc x))] :: [(b3, row 42 g.cells)] :: N)) (fun k => al.length - k) 0 ⟨rfl, rfl, rfl, rfl, rfl, rfl, rfl, trivial⟩ ⟨Nat.zero_le _, fun y hy => by simp at hy⟩ (fun w h => h) ?_));rintro k ⟨hk, hnk⟩;by_cases ck : k < al.length
      · obtain ⟨y, hy⟩ : ∃ y, al[k]? = some y := ⟨al[k], List.getElem?_eq_getElem ck⟩;have hry := hE.row (lks_get hy);have hym := List.mem_of_getElem? hy;have htk : al.take (k + 1) = al.take k ++ [y] := by rw [List.take_add_one, hy]; rfl
        have hD := fun (w : World) (h : K W (cc :: [(b8, row 111 (lkc x))] :: [(b3, row 42 g.cells)] :: N) w) => h;have hc8 : CellsAre (K W (cc :: [(b8, row 111 (lkc x))] :: [(b3, row 42 g.cells)] :: N)) ⟨b8, 0, none⟩ (lkc x) := cells_row0 1 rfl rfl;by_cases cy : y.tx = u
        · have cyi : (y.tx : Int) = (u : Int) := by omega
          refine c_seq (csr (sm ?_));refine sm ?_;refine sy (y_lenE tab rfl (hE) rfl) ?_;refine sy (y_T (y_lss rfl rfl) (by omega)) ?_;refine snf (c_condT rfl (c_skip (f_then (c_seq (c_block (c_seq (c_plan [.c 0, .c 1, .c 2, .c 3, .c 4, .c 5, .c 6, .c 7, .c 8, .c 9, .c 10, .c 11, .c 12, .s 13, .c 14] [] ((K W (cc :: [(b8, row 111 (lkc x))] :: [(b3, row 42 g.cells)] :: N))) mixed (by kernel_rfl) rfl K.cl ?_)))))));refine dy rfl (y_move rfl) hD ?_;refine dy rfl (y_move rfl) hD ?_;refine dy rfl (y_ixE tab rfl rfl rfl rfl (hE) _ rfl (by omega)) hD ?_;refine dy rfl (y_fieldAddr0 tab rfl rfl rfl rfl rfl) hD ?_;refine dy rfl (y_load tab rfl rfl (CellsAre.at0 (hry) rfl)) hD ?_;refine dy rfl (y_move rfl) hD ?_;refine dy rfl (y_T (y_eql rfl rfl) (by assumption)) hD ?_;refine dy rfl (y_move rfl) hD ?_;refine dy rfl (y_loadA tab rfl rfl rfl rfl hc8) hD ?_;refine dy rfl (y_move rfl) hD ?_;refine dy rfl (y_move rfl) hD ?_;refine dy rfl (y_ixE tab rfl rfl rfl rfl (hE) _ rfl (by omega)) hD ?_;refine dy rfl (y_loadA tab rfl rfl rfl rfl hry) hD ?_;refine d_call rfl (en_f rfl call76) (Conflict_spec (a := x) (b := y)) rfl rfl rfl (fun _ => K.cl) (fun _ _ _ h => h) (fun _ => ?_);cases hcf : cfr x y with
          | false =>
            refine dy rfl (y_pickT rfl rfl) hD ?_;refine d_nil (f_then (c_condF rfl (c_skip (f_blockN (f_then (c_region (sm ?_)))))));refine sy (y_add rfl rfl (by omega)) ?_;refine sa ?_;refine s_nil (f_roundP (k + 1) ⟨ck, fun s hs hu => ?_⟩ (by omega) ⟨rfl, rfl, rfl, rfl, rfl, rfl, rfl, trivial⟩ (fun w h => h));rw [htk] at hs;rcases List.mem_append.1 hs with hs | hs
            · exact hnk s hs hu
            · rw [List.mem_singleton.1 hs]; exact hcf
          | true =>
            rw [hyes y hym cy hcf];refine dy rfl (y_pickT rfl rfl) hD ?_;refine d_nil (f_then (c_condT rfl (csr (sa ?_))));refine snf (c_ret (f_blockR (f_thenR (f_rndR (f_blockR (f_blockR (f_thenR (f_rndR (f_blockR (f_thenR ?_))))))))));exact f_ret () (res1 rfl rfl) (fun w h => h.tail.tail.tail)
        · have cyi : ¬ (y.tx : Int) = (u : Int) := by omega
          refine c_seq (csr (sm ?_));refine sm ?_;refine sy (y_lenE tab rfl (hE) rfl) ?_;refine sy (y_T (y_lss rfl rfl) (by omega)) ?_;refine snf (c_condT rfl (c_skip (f_then (c_seq (c_block (c_seq (c_plan [.c 0, .c 1, .c 2, .c 3, .c 4, .c 5, .c 6, .c 7, .c 8, .c 9, .c 10, .c 11, .c 12, .s 13, .c 14] [] ((K W (cc :: [(b8, row 111 (lkc x))] :: [(b3, row 42 g.cells)] :: N))) mixed (by kernel_rfl) rfl K.cl ?_)))))));refine dy rfl (y_move rfl) hD ?_;refine dy rfl (y_move rfl) hD ?_;refine dy rfl (y_ixE tab rfl rfl rfl rfl (hE) _ rfl (by omega)) hD ?_;refine dy rfl (y_fieldAddr0 tab rfl rfl rfl rfl rfl) hD ?_;refine dy rfl (y_load tab rfl rfl (CellsAre.at0 (hry) rfl)) hD ?_;refine dy rfl (y_move rfl) hD ?_;refine dy rfl (y_F (y_eql rfl rfl) (by assumption)) hD ?_;refine dy rfl (y_move rfl) hD ?_;refine d_skip rfl rfl rfl rfl hD K.cl ?_;refine d_skip rfl rfl rfl rfl hD K.cl ?_;refine d_skip rfl rfl rfl rfl hD K.cl ?_;refine d_skip rfl rfl rfl rfl hD K.cl ?_;refine d_skip rfl rfl rfl rfl hD K.cl ?_;refine d_sskip rfl rfl rfl rfl (fun _ _ h => h) ?_;refine dy rfl (y_pickF rfl rfl) hD ?_;refine d_nil (f_then (c_condF rfl (c_skip (f_blockN (f_then (c_region (sm ?_)))))));refine sy (y_add rfl rfl (by omega)) ?_;refine sa ?_;refine s_nil (f_roundP (k + 1) ⟨ck, fun s hs hu => ?_⟩ (by omega) ⟨rfl, rfl, rfl, rfl, rfl, rfl, rfl, trivial⟩ (fun w h => h));rw [htk] at hs;rcases List.mem_append.1 hs with hs | hs
          · exact hnk s hs hu
          · rw [List.mem_singleton.1 hs] at hu; exact absurd hu cy
      · obtain rfl : k = al.length := by omega
        rw [List.take_length] at hnk;refine c_seq (csr (sm ?_));refine sm ?_;refine sy (y_lenE tab rfl (hE) rfl) ?_;refine sy (y_F (y_lss rfl rfl) (by omega)) ?_;refine snf (c_condF rfl (c_exit (f_thenE (f_rndE (f_blockE (f_blockN (f_then (c_region (sm ?_)))))))));refine sy (y_add rfl rfl (by omega)) ?_;refine sa ?_;refine s_nil ?_;exact f_roundP (z + 1) ⟨c, hstep fun _ => hnk⟩ (by omega) ⟨rfl, rfl, rfl, rfl, trivial⟩ (fun w h => h.tail.tail)
    · have cxi : (x.tx : Int) ≠ (t : Int) := by omega
      refine c_seq (csr (sm ?_));refine sf 3 ?_;refine slr 0 ?_;refine sy (y_lenE tab rfl (hQ) rfl) ?_;refine sy (y_T (y_lss rfl rfl) (by omega)) ?_;refine snf (c_condT rfl (c_skip (f_then (c_seq (c_block (c_seq (csr (sf 3 ?_))))))));refine slr 0 ?_;refine sm ?_;refine sy (y_ixE tab rfl rfl rfl rfl (hQ) _ rfl (by omega)) ?_;refine sf0 ?_;refine sl (CellsAre.at0 (hrow) rfl) ?_;refine sm ?_;refine sy (y_T (y_neq rfl rfl) (by assumption)) ?_;refine snf (c_condT rfl (c_exit (f_thenE (f_blockE (f_then (c_region (sm ?_)))))));refine sy (y_add rfl rfl (by omega)) ?_;refine sa ?_;refine s_nil ?_;exact f_roundP (z + 1) ⟨c, hstep fun h => absurd h cx⟩ (by omega) ⟨rfl, rfl, rfl, rfl, trivial⟩ (fun w h => h)
  · obtain rfl : z = g.Q.length := by omega
    have hf : R = false := by
      rw [hR];refine decide_eq_false ?_;rintro ⟨i, x, hx, hxt, y, hy, hyu, hc⟩;have hi : i < g.Q.length := by
        rcases Nat.lt_or_ge i g.Q.length with h | h
        · exact h
        · have : g.Q[i]? = some x := hx;rw [List.getElem?_eq_none h] at this;cases this
      rw [hno i x hi hx hxt y hy hyu] at hc;cases hc
    rw [hf];refine c_seq (csr (sm ?_));refine sf 3 ?_;refine slr 0 ?_;refine sy (y_lenE tab rfl (hQ) rfl) ?_;refine sy (y_F (y_lss rfl rfl) (by omega)) ?_;refine snf (c_condF rfl (c_exit (f_thenE (f_rndE (f_blockE (f_then (csr (sa ?_))))))));refine snf (c_ret ?_);exact f_ret () (res1 rfl rfl) (fun w h => h.tail)
end
end Go.KL
end

section
/- Walks: reach, Deadlock of the document's book. -/
namespace Go.KL
open Go.Proofs Go.Proofs.Tryz Relation
theorem BufR.lit1 {e : TypeId} {b : Nat} {v : Value} : BufR e 1 (.slice (some ⟨b, 0, none⟩) 1 1) [(b, row e [v])] [[v]] := ⟨fun r hr => by rw [List.mem_singleton.1 hr]; rfl, ⟨.inr ⟨⟨b, 1, [], []⟩, rfl, rfl, ⟨Nat.le_refl _, (by simp; decide), by simp, by simp⟩, rfl⟩⟩⟩
structure RcS (b : RB) (t : Nat) (F : List Nat) (O : Nat → Bool) : Prop where
  hd : F[0]? = some t
  nd : F.tail.Nodup
  tl : ∀ v, v ∈ F.tail ↔ (b.has v ∧ O v = true)
  rc : ∀ v, b.has v → O v = true → TransGen b.E t v
namespace RcS
variable {b : RB} {t : Nat} {F : List Nat} {O : Nat → Bool}
theorem start : RcS b t [t] (fun _ => false) := ⟨rfl, List.nodup_nil, fun v => by simp, fun v _ h => by cases h⟩
theorem ne (h : RcS b t F O) : ∃ G, F = t :: G := by
  have := h.hd;cases F with
  | nil => cases this
  | cons a G => exact ⟨G, by rw [show a = t from Option.some.inj this]⟩
theorem len (h : RcS b t F O) : F.length ≤ b.T.length + 1 := by
  obtain ⟨G, rfl⟩ := h.ne;have h1 := nodup_len (l := G) (m := (List.range b.T.length).map (· + 1)) h.nd fun x hx => by
    have := ((h.tl x).1 hx).1;unfold RB.has at this;exact List.mem_map.2 ⟨x - 1, List.mem_range.2 (by omega), by omega⟩
  rw [List.length_map, List.length_range] at h1;rw [List.length_cons];omega
theorem from_ (h : RcS b t F O) {i w : Nat} (hi : F[i]? = some w) : w = t ∨ TransGen b.E t w := by
  obtain ⟨G, rfl⟩ := h.ne;rcases List.mem_cons.1 (List.mem_of_getElem? hi) with e | e
  · exact .inl e
  · obtain ⟨h1, h2⟩ := (h.tl w).1 e;exact .inr (h.rc w h1 h2)
theorem mem (h : RcS b t F O) {v : Nat} (hv : b.has v) (ho : O v = true) : ∃ i : Nat, F[i]? = some v := by
  have := (h.tl v).2 ⟨hv, ho⟩;obtain ⟨G, rfl⟩ := h.ne;obtain ⟨i, hi, e⟩ := List.mem_iff_getElem.1 (List.mem_cons_of_mem t this);exact ⟨i, by show (t :: (t :: G).tail)[i]? = _; rw [List.getElem?_eq_getElem hi, e]⟩
theorem add (h : RcS b t F O) {i w u : Nat} (hi : F[i]? = some w) (hE : b.E w u) (ho : O u = false) : RcS b t (F ++ [u]) (upd O u true) := by
  have hw := h.from_ hi;obtain ⟨G, rfl⟩ := h.ne;refine ⟨rfl, ?_, fun v => ?_, fun v hv hv2 => ?_⟩
  · show (G ++ [u]).Nodup;refine List.nodup_append.2 ⟨h.nd, by simp, fun a ha c hc => ?_⟩;rw [List.mem_singleton.1 hc];rintro rfl;rw [((h.tl a).1 ha).2] at ho;cases ho
  · show v ∈ G ++ [u] ↔ _;rw [List.mem_append, List.mem_singleton, show v ∈ G ↔ _ from h.tl v];by_cases e : v = u
    · rw [e, upd_same];exact ⟨fun _ => ⟨hE.1, rfl⟩, fun _ => .inr rfl⟩
    · rw [upd_ne _ _ e];simp [e]
  · by_cases e : v = u
    · rw [e];rcases hw with rfl | hw
      · exact .single hE
      · exact hw.tail hE
    · rw [upd_ne _ _ e] at hv2;exact h.rc v hv hv2
theorem done (h : RcS b t F O) (hd : ∀ (i w : Nat), F[i]? = some w → ∀ v, b.E w v → O v = true) {v : Nat} (hv : b.has v) : O v = true ↔ TransGen b.E t v := by
  refine ⟨h.rc v hv, fun c => ?_⟩;induction c with
  | single e => exact hd 0 t h.hd _ e
  | @tail w v c0 e ih =>
    have hw : b.has w := by
      cases c0 with
      | single e => exact e.1
      | tail _ e => exact e.1
    obtain ⟨i, hi⟩ := h.mem hw (ih hw);exact hd i w hi v e
end RcS
abbrev nrs (F : List Nat) : List (List Value) := F.map fun v => [.int .i64 (v : Nat)]
theorem nrs_get {F : List Nat} {i v : Nat} (h : F[i]? = some v) : (nrs F)[i]? = some [.int .i64 (v : Nat)] := by simp [h]
attribute [local irreducible] SC St Fin Sq Ylds Doos Sets Enters Spec CellIs CellsAre Then Ret Rnd Chn resOK ints bools recs arr
section
variable {W : World} {N : List Chunk} {g : Rg}
theorem reach_spec (hV : RV (K W N) g) {t : Nat} (hq : g.Q.length < 100000) (hh : ∀ u, (g.rb.held u).length < 100000) (hnn : g.ts.length < 100000) : Spec prog 100 #[g.val, .int .i64 (t : Nat)] (K W N) (X := { x : Nat × (Nat → Bool) // ∀ v, g.rb.has v → (x.2 v = true ↔ TransGen g.rb.E t v) }) (fun x => .slice (some ⟨x.1.1, 0, none⟩) (g.ts.length + 1) (g.ts.length + 1)) (fun x => K W ([(x.1.1, bools 4 (g.ts.length + 1) x.1.2 [])] :: N)) := by
  have hdl : (dtl g.ts).length = g.ts.length := List.length_map _;have hTl : g.rb.T.length = g.ts.length := List.length_map _;refine enter (args := [_, _]) func100 rfl ntmps100 rfl ?_;refine csr (sbx fun b2 => ?_);refine sa ?_;refine snf (csr (sf 2 ?_));refine slr 0 ?_;refine sy (y_len tab rfl rfl) ?_;refine sy (y_add rfl rfl (by omega)) ?_;refine s_do (make_bools (by_ := 1) (m := g.ts.length + 1) tab rfl rfl rfl rfl rfl (by omega) (by omega)) rfl rfl rfl (fun b13 => ?_);refine sa ?_;refine snf (csr (sm ?_));refine s_do (do_buildSlice1 tab ⟨rfl, rfl, rfl, rfl⟩ rfl rfl rfl rfl) rfl rfl rfl (fun b15 => ?_);refine sa ?_;refine snf (c_seq (csr (sa ?_)));refine snf (c_block ?_);obtain ⟨n, hn⟩ : ∃ n, n = g.ts.length := ⟨_, rfl⟩;rw [← hn] at hdl hTl hnn ⊢;refine SC.cls (C' := K W ([(b15, row 3 [.int .i64 (t : Nat)])] :: [(b13, bools 4 (n + 1) (fun _ => false) [])] :: [(b2, row 42 g.cells)] :: N)) ?_ (fun w h => h);refine c_loopP (α := Nat × List Nat × (Nat → Bool) × Value × Chunk) (fun z => [(2, .pointer (some ⟨b2, 0, none⟩)), (5, .slice (some ⟨b13, 0, none⟩) (n + 1) (n + 1)), (6, z.2.2.2.1), (7, .int .i64 (z.1 : Nat))])
    (fun z => z.1 ≤ z.2.1.length ∧ RcS g.rb t z.2.1 z.2.2.1 ∧ BufR 3 1 z.2.2.2.1 z.2.2.2.2 (nrs z.2.1) ∧ ∀ i w, i < z.1 → z.2.1[i]? = some w → ∀ v, g.rb.E w v → z.2.2.1 v = true) (fun z => K W (z.2.2.2.2 :: [(b13, bools 4 (n + 1) z.2.2.1 [])] :: [(b2, row 42 g.cells)] :: N)) (fun z => n + 1 - z.1) (0, [t], (fun _ => false), .slice (some ⟨b15, 0, none⟩) 1 1, [(b15, row 3 [.int .i64 (t : Nat)])])
    ⟨rfl, rfl, rfl, rfl, trivial⟩ ⟨Nat.zero_le _, .start, .lit1, fun i w h => by omega⟩ (fun w h => h) ?_
  rintro ⟨i, F, O, fv, fc⟩ ⟨hi, hS, hB, hdn⟩;dsimp only at hi hS hB hdn ⊢;have hFl := hS.len;rw [hTl] at hFl;have hnl : (nrs F).length = F.length := List.length_map _;by_cases c : i < F.length
  · obtain ⟨w0, hw0⟩ : ∃ w0, F[i]? = some w0 := ⟨F[i], List.getElem?_eq_getElem c⟩;have hEF : EV (K W (fc :: [(b13, bools 4 (n + 1) O [])] :: [(b2, row 42 g.cells)] :: N)) fv 1 (nrs F) := hB.view (Hs.at 0 rfl);refine c_seq (csr (sm ?_));refine sm ?_;refine sy (y_lenE tab rfl (hEF) rfl) ?_;refine sy (y_T (y_lss rfl rfl) (by omega)) ?_;refine snf (c_condT rfl (c_skip (f_then (c_seq (c_block (csr (sa ?_)))))));refine snf (c_block ?_);refine c_loopP (α := Nat × List Nat × (Nat → Bool) × Value × Chunk) (fun z => [(2, .pointer (some ⟨b2, 0, none⟩)), (5, .slice (some ⟨b13, 0, none⟩) (n + 1) (n + 1)), (6, z.2.2.2.1), (7, .int .i64 (i : Nat)), (8, .int .i64 (z.1 : Nat))])
      (fun z => (1 ≤ z.1 ∧ z.1 ≤ n + 1) ∧ i < z.2.1.length ∧ z.2.1[i]? = some w0 ∧ RcS g.rb t z.2.1 z.2.2.1 ∧ BufR 3 1 z.2.2.2.1 z.2.2.2.2 (nrs z.2.1) ∧ (∀ j w, j < i → z.2.1[j]? = some w → ∀ v, g.rb.E w v → z.2.2.1 v = true) ∧ ∀ v, v < z.1 → g.rb.E w0 v → z.2.2.1 v = true) (fun z => K W (z.2.2.2.2 :: [(b13, bools 4 (n + 1) z.2.2.1 [])] :: [(b2, row 42 g.cells)] :: N)) (fun z => n + 1 - z.1) (1, F, O, fv, fc)
      ⟨rfl, rfl, rfl, rfl, rfl, trivial⟩ ⟨by omega, c, hw0, hS, hB, hdn, fun v hv hE => by have := hE.1; unfold RB.has at this; omega⟩ (fun w h => h) ?_
    clear hS hB hdn hFl hnl hEF c hw0;rintro ⟨u, F, O, fv, fc⟩ ⟨⟨hu1, hu2⟩, c, hw0, hS, hB, hdn, hun⟩;dsimp only at hu1 hu2 c hw0 hS hB hdn hun ⊢;have hnl : (nrs F).length = F.length := List.length_map _;have hFl := hS.len;rw [hTl] at hFl;have hEF : EV (K W (fc :: [(b13, bools 4 (n + 1) O [])] :: [(b2, row 42 g.cells)] :: N)) fv 1 (nrs F) := hB.view (Hs.at 0 rfl);have hrow := hEF.row (nrs_get hw0);have hVc : RV (K W (fc :: [(b13, bools 4 (n + 1) O [])] :: [(b2, row 42 g.cells)] :: N)) g := hV.cons.cons.cons;by_cases cu : u ≤ n
    · have hhas : g.rb.has u := ⟨hu1, by rw [hTl]; exact cu⟩;have hD := fun (w : World) (h : K W (fc :: [(b13, bools 4 (n + 1) O [])] :: [(b2, row 42 g.cells)] :: N) w) => h;have hc13 := cell_bools (W := W) (Ls := fc :: [(b13, bools 4 (n + 1) O [])] :: [(b2, row 42 g.cells)] :: N) (b := b13) (k := u) (n := n + 1) (e := 4) (g := O) (rest := []) (c := []) 1 rfl (by omega);cases ho : O u with
      | true =>
        rw [ho] at hc13;have hun' : ∀ v, v < u + 1 → g.rb.E w0 v → O v = true := fun v hv hE => by
          by_cases e : v = u
          · rw [e]; exact ho
          · exact hun v (by omega) hE
        refine c_seq (csr (sm ?_));refine sf 2 ?_;refine slr 2 ?_;refine sy (y_len tab rfl rfl) ?_;refine sy (y_T (y_leq rfl rfl) (by omega)) ?_;refine snf (c_condT rfl (c_skip (f_then (c_seq (c_block (c_seq (c_plan [.c 0, .c 1, .c 2, .c 3, .c 4, .c 5, .c 6, .c 7, .c 8, .c 9, .c 10, .c 11, .s 12, .c 13] [] ((K W (fc :: [(b13, bools 4 (n + 1) O [])] :: [(b2, row 42 g.cells)] :: N))) mixed (by kernel_rfl) rfl K.cl ?_)))))));refine dy rfl (y_move rfl) hD ?_;refine dy rfl (y_move rfl) hD ?_;refine dy rfl (y_indexAddr1 tab rfl rfl rfl rfl _ rfl (by omega)) hD ?_;refine dy rfl (y_load tab rfl rfl hc13) hD ?_;refine dy rfl (y_notT rfl) hD ?_;refine dy rfl (y_move rfl) hD ?_;refine d_skip rfl rfl rfl rfl hD K.cl ?_;refine d_skip rfl rfl rfl rfl hD K.cl ?_;refine d_skip rfl rfl rfl rfl hD K.cl ?_;refine d_skip rfl rfl rfl rfl hD K.cl ?_;refine d_skip rfl rfl rfl rfl hD K.cl ?_;refine d_skip rfl rfl rfl rfl hD K.cl ?_;refine d_sskip rfl rfl rfl rfl (fun _ _ h => h) ?_;refine dy rfl (y_pickF rfl rfl) hD ?_;refine d_nil (f_then (c_condF rfl (c_skip (f_blockN (f_then (c_region (sm ?_)))))));refine sy (y_add rfl rfl (by omega)) ?_;refine sa ?_;refine s_nil ?_;exact f_roundP (u + 1, F, O, fv, fc) ⟨by dsimp only; omega, c, hw0, hS, hB, hdn, hun'⟩ (by dsimp only; omega) ⟨rfl, rfl, rfl, rfl, rfl, trivial⟩ (fun w h => h)
      | false =>
        rw [ho] at hc13;refine c_seq (csr (sm ?_));refine sf 2 ?_;refine slr 2 ?_;refine sy (y_len tab rfl rfl) ?_;refine sy (y_T (y_leq rfl rfl) (by omega)) ?_;refine snf (c_condT rfl (c_skip (f_then (c_seq (c_block (c_seq (c_plan [.c 0, .c 1, .c 2, .c 3, .c 4, .c 5, .c 6, .c 7, .c 8, .c 9, .c 10, .c 11, .s 12, .c 13] [] ((K W (fc :: [(b13, bools 4 (n + 1) O [])] :: [(b2, row 42 g.cells)] :: N))) mixed (by kernel_rfl) rfl K.cl ?_)))))));refine dy rfl (y_move rfl) hD ?_;refine dy rfl (y_move rfl) hD ?_;refine dy rfl (y_indexAddr1 tab rfl rfl rfl rfl _ rfl (by omega)) hD ?_;refine dy rfl (y_load tab rfl rfl hc13) hD ?_;refine dy rfl (y_notF rfl) hD ?_;refine dy rfl (y_move rfl) hD ?_;refine dy rfl (y_loadA tab rfl rfl rfl rfl (cells_row0 2 rfl rfl)) hD ?_;refine dy rfl (y_move rfl) hD ?_;refine dy rfl (y_move rfl) hD ?_;refine dy rfl (y_ixE tab rfl rfl rfl rfl (hEF) _ rfl (by omega)) hD ?_;refine dy rfl (y_load tab rfl rfl (CellsAre.at0 (hrow) rfl)) hD ?_;refine dy rfl (y_move rfl) hD ?_;refine d_call rfl (en_f rfl call120) (waits_spec hVc hq (hh u)) rfl rfl rfl (fun _ => K.cl) (fun _ _ _ h => h) (fun _ => ?_);by_cases hw : g.rb.waits w0 u
        · rw [decide_eq_true hw];have hE : g.rb.E w0 u := ⟨hhas, hw⟩;have hS2 := hS.add hw0 hE ho;have hl2 := hS2.len;rw [hTl, List.length_append] at hl2;have hup : ∀ v, O v = true → upd O u true v = true := fun v h => by
            unfold upd;split
            · rfl
            · exact h
          refine dy rfl (y_pickT rfl rfl) hD ?_;refine d_nil (f_then (c_condT rfl (csr (sm ?_))));refine sm ?_;refine sy (y_indexAddr1 tab rfl rfl rfl rfl _ rfl (by omega)) ?_;refine ss (set_bools tab 1 rfl rfl rfl rfl (by omega)) ?_;refine snf (c_region (sm ?_));refine sm ?_;refine s_do (do_buildSlice1 tab ⟨rfl, rfl, rfl, rfl⟩ rfl rfl rfl rfl) rfl rfl rfl (fun b48 => ?_);refine s_do (do_appendR (by_ := 8) (news := [.int .i64 (u : Nat)]) tab 1 rfl hB rfl ⟨rfl, rfl, rfl, rfl⟩ rfl (by simp) rfl (cells_row0 0 rfl rfl) rfl rfl (by omega) (by omega)) rfl rfl rfl (fun x => ?_);obtain ⟨⟨v, c2⟩, hB2⟩ := x;have hB2 : BufR 3 1 v c2 (nrs (F ++ [u])) := hB2.of (by simp);dsimp only;refine sa ?_;refine s_nil (f_blockN (f_then (c_region (sm ?_))));refine sy (y_add rfl rfl (by omega)) ?_;refine sa ?_;refine s_nil ?_;refine f_roundP (u + 1, F ++ [u], upd O u true, v, c2) ⟨by dsimp only; omega, by dsimp only; rw [List.length_append]; omega, by dsimp only; rw [List.getElem?_append_left c]; exact hw0, hS2, hB2, fun j w hj hw v hE => ?_, fun v hv hE => ?_⟩ (by dsimp only; omega) ⟨rfl, rfl, rfl, rfl, rfl, trivial⟩ (fun w h => h.tail)
          · dsimp only at hw;rw [List.getElem?_append_left (by omega)] at hw;exact hup v (hdn j w hj hw v hE)
          · by_cases e : v = u
            · rw [e]; exact upd_same _ _ _
            · exact hup v (hun v (by dsimp only at hv; omega) hE)
        · rw [decide_eq_false hw];refine dy rfl (y_pickT rfl rfl) hD ?_;refine d_nil (f_then (c_condF rfl (c_skip (f_blockN (f_then (c_region (sm ?_)))))));refine sy (y_add rfl rfl (by omega)) ?_;refine sa ?_;refine s_nil (f_roundP (u + 1, F, O, fv, fc) ⟨by dsimp only; omega, c, hw0, hS, hB, hdn, fun v hv hE => ?_⟩ (by dsimp only; omega) ⟨rfl, rfl, rfl, rfl, rfl, trivial⟩ (fun w h => h));by_cases e : v = u
          · rw [e] at hE; exact absurd hE.2 hw
          · exact hun v (by dsimp only at hv; omega) hE
    · obtain rfl : u = n + 1 := by omega
      refine c_seq (csr (sm ?_));refine sf 2 ?_;refine slr 2 ?_;refine sy (y_len tab rfl rfl) ?_;refine sy (y_F (y_leq rfl rfl) (by omega)) ?_;refine snf (c_condF rfl (c_exit (f_thenE (f_rndE (f_blockE (f_blockN (f_then (c_region (sm ?_)))))))));refine sy (y_add rfl rfl (by omega)) ?_;refine sa ?_;refine s_nil (f_roundP (i + 1, F, O, fv, fc) ⟨c, hS, hB, fun j w hj hw v hE => ?_⟩ (by dsimp only; omega) ⟨rfl, rfl, rfl, rfl, trivial⟩ (fun w h => h));by_cases e : j = i
      · rw [e, hw0] at hw;obtain rfl := Option.some.inj hw;have := hE.1;unfold RB.has at this;exact hun v (by omega) hE
      · exact hdn j w (by dsimp only at hj; omega) hw v hE
  · obtain rfl : i = F.length := by omega
    have hEF : EV (K W (fc :: [(b13, bools 4 (n + 1) O [])] :: [(b2, row 42 g.cells)] :: N)) fv 1 (nrs F) := hB.view (Hs.at 0 rfl);have hfin : ∀ v, g.rb.has v → (O v = true ↔ TransGen g.rb.E t v) := fun v hv => hS.done (fun i w hw v hE => hdn i w (by
      rcases Nat.lt_or_ge i F.length with h | h
      · exact h
      · rw [List.getElem?_eq_none h] at hw; cases hw) hw v hE) hv
    refine c_seq (csr (sm ?_));refine sm ?_;refine sy (y_lenE tab rfl (hEF) rfl) ?_;refine sy (y_F (y_lss rfl rfl) (by omega)) ?_;refine snf (c_condF rfl (c_exit (f_thenE (f_rndE (f_blockE (f_then (csr (sm ?_))))))));refine sa ?_;refine snf (c_ret ?_);exact f_ret ⟨(b13, O), hfin⟩ (res1 rfl rfl) (fun w h => h.tail.dropAt 1)
theorem Deadlock_spec (hV : RV (K W N) g) {t : Nat} (ht : g.rb.has t) (hq : g.Q.length < 100000) (hh : ∀ u, (g.rb.held u).length < 100000) (hnn : g.ts.length < 100000) : Spec prog 77 #[g.val, .int .i64 (t : Nat)] (K W N) (X := { v : Nat // g.rb.IsVic t v }) (fun v => .int .i64 (v.1 : Nat)) (fun _ => K W N) := by
  have hdl : (dtl g.ts).length = g.ts.length := List.length_map _;have hTl : g.rb.T.length = g.ts.length := List.length_map _;have ht2 := ht;unfold RB.has at ht2;rw [hTl] at ht2;refine enter (args := [_, _]) func77 rfl ntmps77 rfl ?_;refine csr (sbx fun b2 => ?_);refine sa ?_;refine snf (csr (sy (y_loadA tab rfl rfl rfl rfl (cells_row0 0 rfl rfl)) ?_));refine sm ?_;refine sk call100 (reach_spec hV.cons hq hh hnn) fun x => ?_;obtain ⟨⟨bm, O⟩, hO⟩ := x;dsimp only at hO ⊢;refine sa ?_;refine snf (csr (sa ?_));refine snf (c_seq (csr (sa ?_)));refine snf (c_block ?_);refine c_loopP (α := Nat × Nat) (fun z => [(1, .int .i64 (t : Nat)), (2, .pointer (some ⟨b2, 0, none⟩)), (5, .slice (some ⟨bm, 0, none⟩) (g.ts.length + 1) (g.ts.length + 1)), (6, .int .i64 (z.2 : Nat)), (7, .int .i64 (z.1 : Nat))])
    (fun z => (1 ≤ z.1 ∧ z.1 ≤ g.ts.length + 1) ∧ ((z.2 = 0 ∧ ∀ j, j < z.1 → ¬ g.rb.dead t j) ∨ (z.2 ≠ 0 ∧ g.rb.dead t z.2 ∧ ∀ j, j < z.1 → g.rb.dead t j → j ≤ z.2))) (fun _ => K W ([(bm, bools 4 (g.ts.length + 1) O [])] :: [(b2, row 42 g.cells)] :: N)) (fun z => g.ts.length + 1 - z.1) (1, 0)
    ⟨rfl, rfl, rfl, rfl, rfl, trivial⟩ ⟨by omega, .inl ⟨rfl, fun j hj hd => by
      obtain ⟨_, hd⟩ := hd;obtain ⟨h1, _⟩ : 1 ≤ j ∧ j ≤ g.rb.T.length := by
        rename_i h;cases h with
        | single e => exact e.1
        | tail _ e => exact e.1
      omega⟩⟩ (fun w h => h) ?_
  rintro ⟨u, wv⟩ ⟨⟨hu1, hu2⟩, hw⟩;dsimp only at hu1 hu2 hw ⊢;have hVc : RV (K W ([(bm, bools 4 (g.ts.length + 1) O [])] :: [(b2, row 42 g.cells)] :: N)) g := hV.cons.cons;by_cases cu : u ≤ g.ts.length
  · have hhas : g.rb.has u := ⟨hu1, by rw [hTl]; exact cu⟩;have hcm := cell_bools (W := W) (Ls := [(bm, bools 4 (g.ts.length + 1) O [])] :: [(b2, row 42 g.cells)] :: N) (b := bm) (k := u) (n := g.ts.length + 1) (e := 4) (g := O) (rest := []) (c := []) 0 rfl (by omega);have hno : ¬ g.rb.dead t u → (wv = 0 ∧ ∀ j, j < u + 1 → ¬ g.rb.dead t j) ∨ (wv ≠ 0 ∧ g.rb.dead t wv ∧ ∀ j, j < u + 1 → g.rb.dead t j → j ≤ wv) := fun h => by
      rcases hw with ⟨h1, h2⟩ | ⟨h1, h2, h3⟩
      · refine .inl ⟨h1, fun j hj => ?_⟩;by_cases e : j = u
        · rw [e]; exact h
        · exact h2 j (by omega)
      · refine .inr ⟨h1, h2, fun j hj hd => ?_⟩;by_cases e : j = u
        · rw [e] at hd; exact absurd hd h
        · exact h3 j (by omega) hd
    have hyes : g.rb.dead t u → (u = 0 ∧ ∀ j, j < u + 1 → ¬ g.rb.dead t j) ∨ (u ≠ 0 ∧ g.rb.dead t u ∧ ∀ j, j < u + 1 → g.rb.dead t j → j ≤ u) := fun h => .inr ⟨by omega, h, fun j hj _ => by omega⟩;cases ho : O u with
    | false =>
      rw [ho] at hcm;have hd : ¬ g.rb.dead t u := fun h => by
        rw [(hO u hhas).2 h.1] at ho;cases ho
      refine c_seq (csr (sm ?_));refine sf 2 ?_;refine slr 1 ?_;refine sy (y_len tab rfl rfl) ?_;refine sy (y_T (y_leq rfl rfl) (by omega)) ?_;refine snf (c_condT rfl (c_skip (f_then (c_seq (c_block (csr (sm ?_)))))));refine sm ?_;refine sy (y_indexAddr1 tab rfl rfl rfl rfl _ rfl (by omega)) ?_;refine sl hcm ?_;refine sm ?_
      iterate 6 refine s_skip rfl rfl rfl ?_
      refine spF ?_;refine snf (c_condF rfl (c_skip (f_blockN (f_then (c_region (sm ?_))))));refine sy (y_add rfl rfl (by omega)) ?_;refine sa ?_;refine s_nil ?_;exact f_roundP (u + 1, wv) ⟨by dsimp only; omega, hno hd⟩ (by dsimp only; omega) ⟨rfl, rfl, rfl, rfl, rfl, trivial⟩ (fun w h => h)
    | true =>
      rw [ho] at hcm;refine c_seq (csr (sm ?_));refine sf 2 ?_;refine slr 1 ?_;refine sy (y_len tab rfl rfl) ?_;refine sy (y_T (y_leq rfl rfl) (by omega)) ?_;refine snf (c_condT rfl (c_skip (f_then (c_seq (c_block (csr (sm ?_)))))));refine sm ?_;refine sy (y_indexAddr1 tab rfl rfl rfl rfl _ rfl (by omega)) ?_;refine sl hcm ?_;refine sm ?_;refine sy (y_loadA tab rfl rfl rfl rfl (cells_row0 1 rfl rfl)) ?_;refine sm ?_;refine sk call100 (reach_spec hVc hq hh hnn) fun x => ?_;obtain ⟨⟨b2m, O2⟩, hO2⟩ := x;dsimp only at hO2 ⊢;have hct := cell_bools (W := W) (Ls := [(b2m, bools 4 (g.ts.length + 1) O2 [])] :: [(bm, bools 4 (g.ts.length + 1) O [])] :: [(b2, row 42 g.cells)] :: N) (b := b2m) (k := t) (n := g.ts.length + 1) (e := 4) (g := O2) (rest := []) (c := []) 0 rfl (by omega);cases ho2 : O2 t with
      | false =>
        rw [ho2] at hct;have hd : ¬ g.rb.dead t u := fun h => by
          rw [(hO2 t ht).2 h.2] at ho2;cases ho2
        refine sm ?_;refine sy (y_indexAddr1 tab rfl rfl rfl rfl _ rfl (by omega)) ?_;refine sl hct ?_;refine spT ?_;refine snf (c_condF rfl (c_skip (f_blockN (f_then (c_region (sm ?_))))));refine sy (y_add rfl rfl (by omega)) ?_;refine sa ?_;refine s_nil ?_;exact f_roundP (u + 1, wv) ⟨by dsimp only; omega, hno hd⟩ (by dsimp only; omega) ⟨rfl, rfl, rfl, rfl, rfl, trivial⟩ (fun w h => h.tail)
      | true =>
        rw [ho2] at hct;have hd : g.rb.dead t u := ⟨(hO u hhas).1 ho, (hO2 t ht).1 ho2⟩;refine sm ?_;refine sy (y_indexAddr1 tab rfl rfl rfl rfl _ rfl (by omega)) ?_;refine sl hct ?_;refine spT ?_;refine snf (c_condT rfl (c_region (sm ?_)));refine sa ?_;refine s_nil (f_blockN (f_then (c_region (sm ?_))));refine sy (y_add rfl rfl (by omega)) ?_;refine sa ?_;refine s_nil ?_;exact f_roundP (u + 1, u) ⟨by dsimp only; omega, hyes hd⟩ (by dsimp only; omega) ⟨rfl, rfl, rfl, rfl, rfl, trivial⟩ (fun w h => h.tail)
  · obtain rfl : u = g.ts.length + 1 := by omega
    have hdl2 : ∀ j, g.rb.dead t j → j < g.ts.length + 1 := fun j hd => by
      obtain ⟨h, _⟩ := hd;have : g.rb.has j := by
        cases h with
        | single e => exact e.1
        | tail _ e => exact e.1
      unfold RB.has at this;omega
    have hfin : g.rb.IsVic t wv := by
      rcases hw with ⟨h1, h2⟩ | ⟨h1, h2, h3⟩
      · exact .inl ⟨h1, fun j hd => h2 j (hdl2 j hd) hd⟩
      · exact .inr ⟨h1, h2, fun j hd => h3 j (hdl2 j hd) hd⟩
    refine c_seq (csr (sm ?_));refine sf 2 ?_;refine slr 1 ?_;refine sy (y_len tab rfl rfl) ?_;refine sy (y_F (y_leq rfl rfl) (by omega)) ?_;refine snf (c_condF rfl (c_exit (f_thenE (f_rndE (f_blockE (f_then (csr (sm ?_))))))));refine sa ?_;refine snf (c_ret ?_);exact f_ret ⟨wv, hfin⟩ (res1 rfl rfl) (fun w h => h.tail.tail)
end
end Go.KL
end

section
/- Walks: obtain of the document's book. -/
namespace Go.KL
open Go.Proofs Go.Proofs.Tryz
namespace Bk
variable {A B : Bk} {k lo hi e : Nat} {wr : Bool}
theorem Obt.inv (ho : A.Obt k lo hi wr B e) : (Hold (A.tx k).locks lo hi wr ∧ B = A ∧ e = 0) ∨ (¬ Hold (A.tx k).locks lo hi wr ∧ 1024 ≤ A.count ∧ B = A ∧ e = 5) ∨ (¬ Hold (A.tx k).locks lo hi wr ∧ A.count < 1024 ∧ A.free ⟨k, lo, hi, wr⟩ A.q = true ∧ B = A.setT k { A.tx k with locks := (A.tx k).locks ++ [⟨k, lo, hi, wr⟩] } ∧ e = 0) ∨
    (¬ Hold (A.tx k).locks lo hi wr ∧ A.count < 1024 ∧ A.free ⟨k, lo, hi, wr⟩ A.q = false ∧ Res k (A.wait k ⟨k, lo, hi, wr⟩) B e) := by
  cases ho with
  | has h => exact .inl ⟨h, rfl, rfl⟩
  | full h hc => exact .inr (.inl ⟨h, hc, rfl, rfl⟩)
  | got h hc hf => exact .inr (.inr (.inl ⟨h, hc, hf, rfl, rfl⟩))
  | res h hc hf hr => exact .inr (.inr (.inr ⟨h, hc, hf, hr⟩))
theorem Res.of1 (hr : Res k A B e) (h : (A.tx k).st = 1) : B = A ∧ e = 0 := by
  cases hr with
  | free _ => exact ⟨rfl, rfl⟩
  | gone g => omega
  | wait g _ => omega
  | next g _ _ _ => omega
theorem Res.of4 (hr : Res k A B e) (h : (A.tx k).st = 4) : B = A ∧ e = 84 := by
  cases hr with
  | free _ => omega
  | gone g => exact ⟨rfl, rfl⟩
  | wait g _ => omega
  | next g _ _ _ => omega
theorem Res.of2 (hr : Res k A B e) (h : (A.tx k).st = 2) {v : Nat} (hv : A.IsVic k v) : (v = 0 ∧ B = A ∧ e = 83) ∨ (v ≠ 0 ∧ Res k (A.abort v) B e) := by
  cases hr with
  | free _ => omega
  | gone g => omega
  | wait g h0 => exact .inl ⟨hv.uniq h0, rfl, rfl⟩
  | next g h0 h1 h2 =>
    rw [hv.uniq h0];exact .inr ⟨h1, h2⟩
end Bk
theorem K.m4 {W w : World} {N G : List Chunk} {a b c d : Chunk} (h : K W (a :: b :: c :: d :: (N ++ G)) w) : K W (N ++ (a :: b :: c :: d :: G)) w := K.perm h fun x _ => by
  simp only [List.count_append, List.count_cons];omega
theorem K.m4' {W w : World} {N G : List Chunk} {e a b c d : Chunk} (h : K W (e :: (N ++ (a :: b :: c :: d :: G))) w) : K W (a :: b :: c :: d :: ((e :: N) ++ G)) w := K.perm h fun x _ => by
  simp only [List.count_append, List.count_cons];omega
theorem K.m5 {W w : World} {N G : List Chunk} {u v e f a b c : Chunk} (h : K W (u :: v :: f :: a :: b :: c :: ((e :: N) ++ G)) w) : K W (a :: b :: c :: (([u, e] ++ N) ++ G)) w := (K.perm (B := v :: f :: (a :: b :: c :: (([u, e] ++ N) ++ G))) h fun x _ => by
  simp only [List.count_append, List.count_cons, List.count_nil];omega).tail.tail
theorem Rg.rbst {A : Bk} {g : Rg} {k : Nat} (h : Sm A g.rb) (hk : A.has k) : g.rb.stI (k : Nat) = (A.tx k).st := by
  rw [h.stI];unfold Bk.has at hk;rw [Bk.stI, if_pos (by omega), Int.toNat_natCast]
theorem Sm.dt {A : Bk} {g : Rg} {k : Nat} (h : Sm A g.rb) (hr : k ∈ A.rn) (hk : A.has k) : ∃ t, g.ts[k - 1]? = some t ∧ t.locks = (A.tx k).locks ∧ ops t.os = (A.tx k).ops ∧ 1 ≤ k ∧ k ≤ g.ts.length ∧ g.rb.tx k = t.rt := by
  obtain ⟨h1, h2⟩ := rb_has.1 (h.has.2 hk);refine ⟨g.ts[k - 1]'(by omega), List.getElem?_eq_getElem (by omega), ?_, ?_, h1, h2, rb_tx (List.getElem?_eq_getElem (by omega))⟩
  · have := (h.run k hr).1;rw [rb_tx (t := g.ts[k - 1]'(by omega)) (List.getElem?_eq_getElem (by omega))] at this;exact this
  · have := (h.run k hr).2;rw [rb_tx (t := g.ts[k - 1]'(by omega)) (List.getElem?_eq_getElem (by omega))] at this;exact this
theorem Bk.Inv.lk1 {A : Bk} {m : Nat} (hI : A.Inv m) {k : Nat} (hk : A.has k) : (A.tx k).locks.length ≤ 1024 := by
  have := hI.lkl (k : Nat);unfold Bk.has at hk;rw [Bk.lkI, if_pos (by omega), Int.toNat_natCast] at this;exact this
attribute [local irreducible] SC St Fin Sq Ylds Doos Sets Enters Spec CellIs CellsAre Then Ret Rnd Chn resOK ints bools recs arr
section
variable {W : World} {N G : List Chunk} {g : Rg}
theorem RObtain_spec {A B : Bk} {m e : Nat} {x : Lk} (hV : RV (K W N) g) (hS : Sm A g.rb) (hO : A.Ok m) (hts : A.ts.length < 100000) (hk : A.has x.tx) (hs : (A.tx x.tx).st = 1) (h2 : x.hi ≤ A.size) (ho : A.Obt x.tx x.lo x.hi x.wr B e) :
    Spec prog 84 #[g.val, lkv x] (K W (N ++ G)) (X := { y : Rg × List Chunk // RV (K W (y.2 ++ N)) y.1 ∧ Sm B y.1.rb }) (fun y => .tuple #[y.1.1.val, .int .i64 (e : Nat)]) (fun y => K W (y.1.2 ++ (N ++ G))) := by
  have hI := hO.inv;have hr := hI.run hk hs;obtain ⟨t, ht, htl, hto, hk1, hk2, htx⟩ := hS.dt hr hk;have htm := List.mem_of_getElem? ht;have hdl : (dtl g.ts).length = g.ts.length := List.length_map _;have hlq : (lks g.Q).length = g.Q.length := List.length_map _;have hll : t.locks.length ≤ 1024 := by rw [htl]; exact hI.lk1 hk
  have hcc := hS.count hI;have hc1 := hI.cnt;have hql := hS.ql hI;have hgl : g.ts.length = A.ts.length := by
    have := hS.len;simpa [Rg.rb] using this
  unfold RB.count at hcc;have hcc : g.rb.locks.length + g.Q.length = A.count := hcc;obtain ⟨jx, hjx⟩ : ∃ jx, jx = x.tx - 1 := ⟨_, rfl⟩;have htj := ht;rw [← hjx] at htj;obtain ⟨R, hR⟩ : ∃ R, R = decide (Hold t.locks x.lo x.hi x.wr) := ⟨_, rfl⟩;have hHs := fun (N : List Chunk) (hV : DtV (K W N) t) => Holds_spec hV (lo := x.lo) (hi := x.hi) (wr := x.wr) (by omega);rw [← hR] at hHs;rw [htl] at hR;refine enter (args := [_, _]) func84 rfl ntmps84 rfl ?_;refine csr (sbx fun b2 => ?_);refine sbx fun b3 => ?_;refine sal fun b4 => ?_;refine sa ?_;refine snf (c_seq (c_seq (SC.cls (C' := K W ([(b4, row 42 z42)] :: [(b3, row 111 (lkc x))] :: [(b2, row 42 g.cells)] :: (N ++ G))) ?_ (fun w h => h))));have hVc : RV (K W ([(b4, row 42 z42)] :: [(b3, row 111 (lkc x))] :: [(b2, row 42 g.cells)] :: (N ++ G))) g := hV.cls fun w h => K.pre h.tail.tail.tail;have hE := hVc.t;have hrow := hE.row (i := jx) (x := t.cells) (by simp [htj]);have hD := fun (w : World) (h : K W ([(b4, row 42 z42)] :: [(b3, row 111 (lkc x))] :: [(b2, row 42 g.cells)] :: (N ++ G)) w) => h;refine c_plan [.c 0, .c 1, .c 2, .c 3, .c 4, .c 5, .c 6, .c 7, .c 8, .c 9, .c 10, .c 11, .c 12, .s 13] [] ((K W ([(b4, row 42 z42)] :: [(b3, row 111 (lkc x))] :: [(b2, row 42 g.cells)] :: (N ++ G)))) mixed (by kernel_rfl) rfl K.cl ?_;refine dy rfl (y_fieldAddrB tab 2 rfl rfl rfl rfl rfl) hD ?_;refine dy rfl (y_load tab rfl rfl (cell_row 2 rfl rfl)) hD ?_;refine dy rfl (y_fieldAddr0 tab rfl rfl rfl rfl rfl) hD ?_;refine dy rfl (y_load tab rfl rfl (cell_row 1 rfl rfl)) hD ?_;refine dy rfl (y_sub rfl rfl (by omega)) hD ?_;refine dy rfl (y_ixE tab rfl rfl rfl rfl (hE) jx (by omega) (by omega)) hD ?_;refine dy rfl (y_loadA tab rfl rfl rfl rfl hrow) hD ?_;refine dy rfl (y_fieldAddrB tab 1 rfl rfl rfl rfl rfl) hD ?_;refine dy rfl (y_load tab rfl rfl (cell_row 1 rfl rfl)) hD ?_;refine dy rfl (y_fieldAddrB tab 2 rfl rfl rfl rfl rfl) hD ?_;refine dy rfl (y_load tab rfl rfl (cell_row 1 rfl rfl)) hD ?_;refine dy rfl (y_fieldAddrB tab 3 rfl rfl rfl rfl rfl) hD ?_;refine dy rfl (y_load tab rfl rfl (cell_row 1 rfl rfl)) hD ?_;refine d_call rfl (en_f rfl call101) (hHs _ (hVc.tx t htm)) rfl rfl rfl (fun _ => K.cl) (fun _ _ _ h => h) (fun _ => ?_);cases R with
  | true =>
    have hh := of_decide_eq_true hR.symm;rcases ho.inv with ⟨_, rfl, rfl⟩ | ⟨h, _⟩ | ⟨h, _⟩ | ⟨h, _⟩
    · refine d_nil (f_then (c_condT rfl (csr (sy (y_loadA tab rfl rfl rfl rfl (cells_row0 2 rfl rfl)) ?_))));refine ss (set_box tab 0 rfl rfl rfl rfl rfl rfl rfl) ?_;refine sa ?_;refine snf (c_ret (f_thenR ?_));exact f_ret ⟨(g, []), hV, hS⟩ (resA1 tab rfl rfl rfl rfl rfl rfl (cells_row0 0 rfl rfl)) (fun w h => h.tail.tail.tail)
    · exact absurd hh h
    · exact absurd hh h
    · exact absurd hh h
  | false =>
    have hh := of_decide_eq_false hR.symm;have ho := ho.inv.resolve_left fun h => hh h.1;have hlh := Hold.ne hh;refine d_nil (f_then (c_condF rfl (c_skip (f_then (c_seq (c_seq (c_plan [.c 0, .c 3, .c 4, .c 5, .s 1, .c 2, .c 6, .c 7] [] ((K W ([(b4, row 42 z42)] :: [(b3, row 111 (lkc x))] :: [(b2, row 42 g.cells)] :: (N ++ G)))) mixed (by kernel_rfl) rfl K.cl ?_)))))));refine dy rfl (y_loadA tab rfl rfl rfl rfl (cells_row0 2 rfl rfl)) hD ?_;refine dy rfl (y_fieldAddrB tab 3 rfl rfl rfl rfl rfl) hD ?_;refine dy rfl (y_load tab rfl rfl (cell_row 2 rfl rfl)) hD ?_;refine dy rfl (y_len tab rfl rfl) hD ?_;refine d_call rfl (en_f rfl call75) (Locks_spec hVc (by omega)) rfl rfl rfl (fun _ => K.cl) (fun _ _ _ h => h.tail) (fun y => ?_);obtain ⟨⟨lv, cl⟩, hB⟩ := y;have hEL := hB.view (C := K W (cl :: [(b4, row 42 z42)] :: [(b3, row 111 (lkc x))] :: [(b2, row 42 g.cells)] :: (N ++ G))) (Hs.at 0 rfl);have hlL : (lks g.rb.locks).length = g.rb.locks.length := List.length_map _;have hc2c : CellsAre (K W (cl :: [(b4, row 42 z42)] :: [(b3, row 111 (lkc x))] :: [(b2, row 42 g.cells)] :: (N ++ G))) ⟨b2, 0, none⟩ g.cells := cells_row0 3 rfl rfl;dsimp only at hEL ⊢;clear hD;have hD := fun (w : World) (h : K W (cl :: [(b4, row 42 z42)] :: [(b3, row 111 (lkc x))] :: [(b2, row 42 g.cells)] :: (N ++ G)) w) => h.tail;by_cases c1 : 1024 ≤ A.count
    · rcases ho with ⟨_, _, rfl, rfl⟩ | ⟨_, h, _⟩ | ⟨_, h, _⟩
      · refine dy rfl (y_lenR' tab rfl hB rfl) hD ?_;refine dy rfl (y_add rfl rfl (by omega)) hD ?_;refine dy rfl (y_T (y_geq rfl rfl) (by omega)) hD ?_;refine d_nil (f_then (c_condT rfl (csr (sy (y_loadA tab rfl rfl rfl rfl hc2c) ?_))));refine ss (set_box tab 1 rfl rfl rfl rfl rfl rfl rfl) ?_;refine sa ?_;refine snf (c_ret (f_thenR ?_));exact f_ret ⟨(g, []), hV, hS⟩ (resA1 tab rfl rfl rfl rfl rfl rfl (cells_row0 1 rfl rfl)) (fun w h => h.tail.tail.tail.tail)
      · omega
      · omega
    refine dy rfl (y_lenR' tab rfl hB rfl) hD ?_;refine dy rfl (y_add rfl rfl (by omega)) hD ?_;refine dy rfl (y_F (y_geq rfl rfl) (by omega)) hD ?_;refine d_nil (f_then (c_condF rfl (c_skip (f_then (c_seq (csr (sy (y_loadA tab rfl rfl rfl rfl hc2c) ?_)))))));refine sy (y_loadA tab rfl rfl rfl rfl (cells_row0 2 rfl rfl)) ?_;refine sf 3 ?_;refine sl (CellsAre.nth 3 (hc2c) rfl) ?_;refine sy (y_len tab rfl rfl) ?_;clear hEL hB hc2c hD;refine St.cls (C' := K W ([(b4, row 42 z42)] :: [(b3, row 111 (lkc x))] :: [(b2, row 42 g.cells)] :: (N ++ G))) ?_ (fun w h => h.tail);have hfr := free_spec hVc (x := x) (n := (lks g.Q).length) (Nat.le_of_eq hlq) (by unfold RB.count; show g.rb.locks.length + g.Q.length < 100000; omega);have hfe : g.rb.free x (lks g.Q).length = A.free ⟨x.tx, x.lo, x.hi, x.wr⟩ A.q := by
      have h1 := hS.free hI hlh (lks g.Q).length;have h3 : g.Q = A.q.map fun k => (A.tx k).req := hS.Q;rw [List.take_of_length_le (by rw [hlq, h3, List.length_map]; exact Nat.le_refl _)] at h1;exact h1
    rw [hfe] at hfr;skip;refine sk call102 hfr fun cf => ?_;refine St.cls (C' := K W ([(b4, row 42 z42)] :: [(b3, row 111 (lkc x))] :: [(b2, row 42 g.cells)] :: (N ++ G))) ?_ (fun w h => h.tail);rcases ho with ⟨_, h, _⟩ | ⟨_, _, hf, rfl, rfl⟩ | ⟨_, hcl, hf, hres⟩
    · omega
    · rw [hf];have hgr := grant_spec (W := W) (N := N) (G := [(b4, row 42 z42)] :: [(b3, row 111 (lkc x))] :: [(b2, row 42 g.cells)] :: G) (x := x) hV ⟨hk1, hk2⟩ ht (by omega);refine snf (c_condT rfl (csr (sy (y_loadA tab rfl rfl rfl rfl (cells_row0 2 rfl rfl)) ?_)));refine sy (y_loadA tab rfl rfl rfl rfl (cells_row0 1 rfl rfl)) ?_;refine St.cls (C' := K W (N ++ ([(b4, row 42 z42)] :: [(b3, row 111 (lkc x))] :: [(b2, row 42 g.cells)] :: G))) ?_ (fun w h => K.mv3 h);refine sk call103 hgr fun y => ?_;obtain ⟨⟨h, T⟩, hRh, hbh⟩ := y;dsimp only at hRh hbh ⊢;refine St.cls (C' := K W ([(b4, row 42 z42)] :: [(b3, row 111 (lkc x))] :: [(b2, row 42 g.cells)] :: ((T ++ N) ++ G))) ?_ (fun w h => K.mv3' h);refine ss (set_box tab 0 rfl rfl rfl rfl rfl rfl rfl) ?_;refine sa ?_;refine snf (c_ret (f_thenR ?_));exact f_ret ⟨(h, T), hRh, by rw [hbh]; exact hS.grant hI hk hs⟩ (resA1 tab rfl rfl rfl rfl rfl rfl (cells_row0 0 rfl rfl)) (fun w h => by
        have := h.tail.tail.tail;rw [List.append_assoc] at this;exact this)
    · rw [hf];refine snf (c_condF rfl (c_skip (f_then (csr (sf 2 ?_)))));refine slr 2 ?_;refine sf0 ?_;refine slr 1 ?_;refine sy (y_sub rfl rfl (by omega)) ?_;refine sy (y_ixE tab rfl rfl rfl rfl (hE) jx (by omega) (by omega)) ?_;refine sy (y_loadA tab rfl rfl rfl rfl hrow) ?_;refine sal fun b6 => ?_;refine ss (set_box tab 0 rfl rfl rfl rfl rfl rfl rfl) ?_;refine snf (csr (sf0 ?_));refine ss (set_rowB tab 0 rfl rfl rfl rfl rfl rfl) ?_;refine snf (csr (sy (y_loadA tab rfl rfl rfl rfl (cells_row0 3 rfl rfl)) ?_));refine sf0 ?_;refine slr 2 ?_;refine sy (y_loadA tab rfl rfl rfl rfl (cells_row0 0 rfl rfl)) ?_;have h2V : DtV (K W N) ⟨2, t.locks, t.os, t.l, t.o⟩ := ⟨(hV.tx t htm).l, (hV.tx t htm).o, (hV.tx t htm).r⟩;have hput := put_spec (W := W) (N := N) (G := [(b6, row 85 [.int .i64 2, t.lv, t.ov])] :: [(b4, row 42 z42)] :: [(b3, row 111 (lkc x))] :: [(b2, row 42 g.cells)] :: G) hV (k := x.tx) ⟨hk1, hk2⟩ h2V;refine St.cls (C' := K W (N ++ ([(b6, row 85 [.int .i64 2, t.lv, t.ov])] :: [(b4, row 42 z42)] :: [(b3, row 111 (lkc x))] :: [(b2, row 42 g.cells)] :: G))) ?_ (fun w h => K.m4 h);refine sk call104 hput fun y => ?_;obtain ⟨⟨wh, c⟩, hRp⟩ := y;dsimp only at hRp ⊢;obtain ⟨g1, hg1⟩ : ∃ g1, g1 = g.setT (g.ts.set (x.tx - 1) ⟨2, t.locks, t.os, t.l, t.o⟩) wh := ⟨_, rfl⟩;have hQ1 : g1.Q = g.Q := by rw [hg1]; rfl
      have hrb1 : (g1.setQ (g.Q ++ [x]) ⟨none, 0⟩).rb = g.rb.wait x.tx x := by
        rw [hg1];simp [Rg.rb, Rg.setT, Rg.setQ, RB.wait, RB.put, RB.tx, ht, Dt.rt]
      rw [← hg1] at hRp ⊢;refine St.cls (C' := K W ([(b6, row 85 [.int .i64 2, t.lv, t.ov])] :: [(b4, row 42 z42)] :: [(b3, row 111 (lkc x))] :: [(b2, row 42 g.cells)] :: ((c :: N) ++ G))) ?_ (fun w h => K.m4' h);refine ss (set_box tab 3 rfl rfl rfl rfl rfl rfl rfl) ?_;refine snf (c_seq ?_);obtain ⟨N0, hN0⟩ : ∃ N0, N0 = [(b6, row 85 [.int .i64 2, t.lv, t.ov])] :: [(b4, row 42 z42)] :: [(b3, row 111 (lkc x))] :: [(b2, row 42 g1.cells)] :: ((c :: N) ++ G) := ⟨_, rfl⟩;obtain ⟨F, hF⟩ : ∃ F : Option Nat → List Chunk, F = flo (fun b => [(b, row 111 (lkc x))]) := ⟨_, rfl⟩;have hD : ∀ (A : List Chunk) (y : Option Nat) (w : World), K W (A ++ (F y ++ N0)) w → K W N0 w := fun A y w h => K.bck (K.bck h);have hV0 : RV (K W N0) g1 := by rw [hN0]; exact hRp.cls fun w h => K.pre h.tail.tail.tail.tail
      have hEy : ∀ (A : List Chunk) (y : Option Nat), EV (K W (A ++ (F y ++ N0))) g1.qv 4 (lks g.Q) := fun A y => by
        rw [← hQ1];exact hV0.q.cls (hD A y)
      have hc2 : CellsAre (K W N0) ⟨b2, 0, none⟩ g1.cells := by rw [hN0]; exact cells_row0 3 rfl rfl
      have hc3 : CellsAre (K W N0) ⟨b3, 0, none⟩ (lkc x) := by rw [hN0]; exact cells_row0 2 rfl rfl
      have hal : ∀ (A : List Chunk) {σ : Slots} {o : Oper}, Doos prog 83 σ (K W (A ++ N0)) o (fun b => Value.slice (some ⟨b, 0, none⟩) 1 1) (fun b => K W ([(b, row 111 (lkc x))] :: (A ++ N0))) → Outs prog 83 σ (K W (A ++ (F none ++ N0))) o (fun b => Value.slice (some ⟨b, 0, none⟩) 1 1) (fun b => K W (A ++ (F (some b) ++ N0))) := fun A σ o h => by
        rw [hF];exact h.outs.conv fun b w hk => K.bckN (A := [[(b, row 111 (lkc x))]]) (B := A) hk
      refine SC.cls (C' := K W ([] ++ (F none ++ N0))) ?_ (fun w h => by rw [hF, hN0]; exact h);refine c_planJL (Y := Nat) 5 59 (fun b => .slice (some ⟨b, 0, none⟩) 1 1) [.c 1, .c 2, .c 4, .s 0, .s 3] [.s 6, .s 7, .s 8] [8] (K W N0) (fun y => K W ([] ++ (F y ++ N0))) mixed (by kernel_rfl) rfl K.cl ?_;refine j_c rfl (Qui.ylds (y_fieldAddrB tab 3 rfl rfl rfl rfl rfl)) rfl (fun _ => rfl) rfl rfl rfl rfl rfl (hD _) (fun _ => K.cl) ?_;refine j_c rfl (Qui.ylds (y_load tab rfl rfl (CellsAre.nth 3 hc2 rfl))) rfl (fun _ => rfl) rfl rfl rfl rfl rfl (hD _) (fun _ => K.cl) ?_;refine j_c rfl (Qui.ylds (y_loadA tab rfl rfl rfl rfl hc3)) rfl (fun _ => rfl) rfl rfl rfl rfl rfl (hD _) (fun _ => K.cl) ?_;refine j_s (C' := fun b y => K W ([(b, row 111 [])] :: [] ++ (F y ++ N0))) rfl rfl (fun y => (do_buildSliceS (vs := []) (len := 0) (ps := []) tab ⟨rfl, rfl, rfl, rfl⟩ rfl rfl rfl rfl).outs) (hal [] (do_buildSliceS (vs := [lkv x]) (len := 1) (ps := [_]) tab ⟨rfl, rfl, rfl, rfl⟩ rfl rfl rfl rfl)) rfl (fun _ => rfl) rfl rfl rfl rfl rfl rfl rfl (fun _ => K.cl) (fun _ _ => K.cl) (hD _) (fun b y => hD [_] y) (fun b => ?_);refine j_s (X := { u : Value × Chunk // BufR 111 4 u.1 u.2 ([] ++ lks g.Q) }) (v := fun u => u.1.1) (C' := fun x y => K W ([x.1.2] ++ (F y ++ N0))) rfl rfl (fun y => (do_appendRV (by_ := 32) tab 0 rfl .lit rfl (hEy [_] y) ⟨rfl, rfl, rfl, rfl⟩ rfl (by omega) (Nat.lt_of_sub_eq_succ rfl) rfl (lks_all _) (by simp only [List.length_nil]; omega) (by omega)).outs) (hal [_] (do_buildSliceS (vs := [lkv x]) (len := 1) (ps := [_]) tab ⟨rfl, rfl, rfl, rfl⟩ rfl rfl rfl rfl)) rfl (fun _ => rfl) rfl rfl rfl rfl rfl rfl rfl (fun _ => K.cl) (fun _ _ => K.cl) (hD [_]) (fun x y => hD [_] y) (fun u => ?_);obtain ⟨⟨u, d⟩, hu⟩ := u;have hu : BufR 111 4 u d (lks g.Q) := hu;refine j_j rfl (hal [_] (do_buildSliceS (vs := [lkv x]) (len := 1) (ps := [_]) tab ⟨rfl, rfl, rfl, rfl⟩ rfl rfl rfl rfl)) rfl rfl rfl (fun _ => K.cl) (hD [_]) (fun b59 => ?_);refine Sd.cls (C' := K W (d :: [(b59, row 111 (lkc x))] :: [(b6, row 85 [.int .i64 2, t.lv, t.ov])] :: [(b4, row 42 z42)] :: [(b3, row 111 (lkc x))] :: [(b2, row 42 g1.cells)] :: ((c :: N) ++ G))) ?_ (fun w h => by
        rw [hF, hN0] at h;exact h)
      refine d_s rfl (do_appendR (by_ := 32) (news := lkc x) tab 0 rfl hu rfl ⟨rfl, rfl, rfl, rfl⟩ rfl (by simp) rfl (cells_row0 1 rfl rfl) rfl rfl (by omega) (by omega)) rfl rfl rfl (fun _ => K.cl) (fun _ _ w h => by rw [hN0]; exact h.tail.tail) (fun y => ?_);obtain ⟨⟨u2, d2⟩, hu2⟩ := y;have hu2 : BufR 111 4 u2 d2 (lks (g.Q ++ [x])) := hu2.of (by simp);dsimp only;obtain ⟨pv, kv, rfl, _, _⟩ := (hu2.view (C := K W (d2 :: [])) (Hs.at 0 rfl)).view;refine d_sy rfl (y_fieldAddrB tab 3 rfl rfl rfl rfl rfl) rfl rfl rfl K.cl (fun _ w h => by rw [hN0]; exact h.tail.tail) ?_;refine d_set rfl (set_rowB tab 5 rfl rfl rfl rfl rfl rfl) rfl rfl K.cl (fun h => by cases h) ?_;refine d_nil ?_;have hRw : RV (K W ([d2, c] ++ N)) (g1.setQ (g.Q ++ [x]) ⟨pv, kv⟩) := hRp.setQ (fun w h => h.tail) (hu2.view (Hs.at 0 rfl));have hSw : Sm (A.wait x.tx x) (g1.setQ (g.Q ++ [x]) ⟨pv, kv⟩).rb := by
        have := hS.wait hI (l := x) hk hs;rw [← hrb1] at this;exact this
      have hrs : Bk.Rs A m x.tx x (A.wait x.tx x) := hO.rs hk hs hlh h2 hcl hf;have hst0 : ((A.wait x.tx x).tx x.tx).st ≠ 4 := by
        rw [Bk.wait_tx hk hk, if_pos rfl];show (2 : Nat) ≠ 4;omega
      clear hal hEy hD hc2 hc3 hu hput hrb1;refine f_then (c_seq (c_block ?_));obtain ⟨h0, hh0⟩ : ∃ h0, h0 = g1.setQ (g.Q ++ [x]) ⟨pv, kv⟩ := ⟨_, rfl⟩;rw [← hh0] at hRw hSw;refine SC.cls (C' := K W ([(b4, row 42 z42)] :: [(b3, row 111 (lkc x))] :: [(b2, row 42 h0.cells)] :: (([d2, c] ++ N) ++ G))) ?_ (fun w h => by rw [hh0]; exact K.m5 h);refine c_loopP (α := Bk × Rg × List Chunk) (fun z => [(2, .pointer (some ⟨b2, 0, none⟩)), (3, .pointer (some ⟨b3, 0, none⟩)), (4, .pointer (some ⟨b4, 0, none⟩)), (5, .int .i64 0)])
        (fun z => RV (K W (z.2.2 ++ N)) z.2.1 ∧ Bk.Rs A m x.tx x z.1 ∧ Sm z.1 z.2.1.rb ∧ Bk.Res x.tx z.1 B e ∧ (z.1.tx x.tx).st ≠ 4)
        (fun z => K W ([(b4, row 42 z42)] :: [(b3, row 111 (lkc x))] :: [(b2, row 42 (z.2.1).cells)] :: ((z.2.2 ++ N) ++ G))) (fun z => z.1.rn.length + z.1.q.length) (A.wait x.tx x, h0, [d2, c]) ⟨rfl, rfl, rfl, rfl, trivial⟩ ⟨hRw, hrs, hSw, hres, hst0⟩ (fun w h => h) ?_
      clear hRw hrs hSw hres hst0 hh0 hRp hVc hE hrow hHs hfr hfe hh;rintro ⟨A1, h, T⟩ ⟨hRh, hRs, hSh, hRes, hs4⟩;dsimp only at hRh hRs hSh hRes hs4 ⊢;have hI1 := hRs.inv;have hk1 := hRs.hk;have hVh : RV (K W ([(b4, row 42 z42)] :: [(b3, row 111 (lkc x))] :: [(b2, row 42 h.cells)] :: ((T ++ N) ++ G))) h := hRh.cls fun w h => K.pre h.tail.tail.tail;have hrst := RState_spec hVh (k := (x.tx : Nat));rw [Rg.rbst hSh hk1] at hrst;obtain ⟨s, hse⟩ : ∃ s, s = (A1.tx x.tx).st := ⟨_, rfl⟩;rw [← hse] at hrst;refine c_seq (csr (sy (y_loadA tab rfl rfl rfl rfl (cells_row0 2 rfl rfl)) ?_));refine sf0 ?_;refine slr 1 ?_;refine sk call55 hrst fun _ => ?_;by_cases c2 : s = 2
      · subst c2;have hdk := Deadlock_spec hVh (t := x.tx) (hSh.has.2 hk1) (by have := hSh.ql hI1; omega) (fun u => by rw [hSh.heldI hI1]; have := hI1.lkl (u : Nat); omega) (by
          have h1 := hSh.len;have h2 := hRs.sm.2.2.2;have h3 : h.rb.T.length = h.ts.length := List.length_map _;omega)
        refine sy (y_T (y_eql rfl rfl) (by omega)) ?_;refine snf (c_condT rfl (c_skip (f_then (c_block (csr (sy (y_loadA tab rfl rfl rfl rfl (cells_row0 2 rfl rfl)) ?_))))));refine sf0 ?_;refine slr 1 ?_;refine sk call77 hdk fun v => ?_;obtain ⟨v, hv⟩ := v;have hvA := hSh.isVic hI1 hk1 hv;dsimp only;rcases hRes.of2 hse.symm hvA with ⟨rfl, rfl, rfl⟩ | ⟨hv0, hres⟩
        · refine sa ?_;refine snf (c_seq (csr (sm ?_)));refine sy (y_T (y_eql rfl rfl) (by omega)) ?_;refine snf (c_condT rfl (csr (sy (y_loadA tab rfl rfl rfl rfl (cells_row0 2 rfl rfl)) ?_)));refine ss (set_box tab 0 rfl rfl rfl rfl rfl rfl rfl) ?_;refine sa ?_;refine snf (c_ret (f_thenR (f_blockR (f_rndR (f_blockR (f_thenR ?_))))));exact f_ret ⟨(h, T), hRh, hSh⟩ (resA1 tab rfl rfl rfl rfl rfl rfl (cells_row0 0 rfl rfl)) (fun w h => by
            have := h.tail.tail.tail;rw [List.append_assoc] at this;exact this)
        · have hvh := hvA.has hI1 hv0;have hvi : (v : Int) ≠ 0 := by omega
          obtain ⟨hSa, hEn⟩ := hSh.abort hvh hI1;obtain ⟨v1, v2⟩ := rb_has.1 (hSh.has.2 hvh);obtain ⟨tv, htv⟩ : ∃ tv, h.ts[v - 1]? = some tv := ⟨h.ts[v - 1]'(by omega), List.getElem?_eq_getElem (by omega)⟩;rw [rb_tx htv] at hEn;have hend := end_spec (W := W) (N := T ++ N) (G := [(b4, row 42 z42)] :: [(b3, row 111 (lkc x))] :: [(b2, row 42 h.cells)] :: G) (k := v) (s := 4) hRh ⟨v1, v2⟩ htv (by have := hSh.ql hI1; omega) hEn;refine sa ?_;refine snf (c_seq (csr (sm ?_)));refine sy (y_F (y_eql rfl rfl) (by assumption)) ?_;refine snf (c_condF rfl (c_skip (f_then (csr (sy (y_loadA tab rfl rfl rfl rfl (cells_row0 2 rfl rfl)) ?_)))));refine sm ?_;refine St.cls (C' := K W ((T ++ N) ++ ([(b4, row 42 z42)] :: [(b3, row 111 (lkc x))] :: [(b2, row 42 h.cells)] :: G))) ?_ (fun w h => K.mv3 h);refine sk call87 hend fun y => ?_;obtain ⟨⟨h2, T2⟩, hR2, hb2⟩ := y;dsimp only at hR2 hb2 ⊢;rw [← List.append_assoc] at hR2;refine St.cls (C' := K W ([(b4, row 42 z42)] :: [(b3, row 111 (lkc x))] :: [(b2, row 42 h.cells)] :: (((T2 ++ T) ++ N) ++ G))) ?_ (fun w h => by
            have := K.mv3' h;rw [← List.append_assoc T2] at this;exact this)
          rw [← hb2] at hSa;by_cases cv : v = x.tx
          · have cvi : (v : Int) = (x.tx : Nat) := by omega
            rw [cv] at hres hSa;obtain ⟨rfl, rfl⟩ := hres.of4 (by rw [Bk.abort_me hI1 hk1]);refine ss (set_box tab 2 rfl rfl rfl rfl rfl rfl rfl) ?_;refine snf (csr (sm ?_));refine sf0 ?_;refine slr 1 ?_;refine sy (y_T (y_eql rfl rfl) (by assumption)) ?_;refine snf (c_condT rfl (csr (sy (y_loadA tab rfl rfl rfl rfl (cells_row0 2 rfl rfl)) ?_)));refine ss (set_box tab 0 rfl rfl rfl rfl rfl rfl rfl) ?_;refine sa ?_;refine snf (c_ret (f_blockR (f_rndR (f_blockR (f_thenR ?_)))));exact f_ret ⟨(h2, T2 ++ T), hR2, hSa⟩ (resA1 tab rfl rfl rfl rfl rfl rfl (cells_row0 0 rfl rfl)) (fun w h => by
              have := h.tail.tail.tail;rw [List.append_assoc] at this;exact this)
          · have cvi : ¬ (v : Int) = (x.tx : Nat) := by omega
            have hs4' : ((A1.abort v).tx x.tx).st ≠ 4 := by
              rcases Bk.abort_tx hI1 hvh hk1 (fun h => cv h.symm) with ⟨h, _⟩ | ⟨_, _, h⟩
              · rw [h]; exact hs4
              · rw [h]; show (1 : Nat) ≠ 4; omega
            have hless : (A1.abort v).rn.length + (A1.abort v).q.length < A1.rn.length + A1.q.length := by
              refine Bk.abort_less ?_;rcases hvA with ⟨h, _⟩ | ⟨_, ⟨h, _⟩, _⟩
              · exact absurd h hv0
              · exact Bk.R.sub h
            refine ss (set_box tab 2 rfl rfl rfl rfl rfl rfl rfl) ?_;refine snf (csr (sm ?_));refine sf0 ?_;refine slr 1 ?_;refine sy (y_F (y_eql rfl rfl) (by assumption)) ?_;refine snf (c_condF rfl (c_skip (f_blockN ?_)));exact f_roundP (A1.abort v, h2, T2 ++ T) ⟨hR2, hRs.abort hse.symm hvh, hSa, hres, hs4'⟩ hless ⟨rfl, rfl, rfl, rfl, trivial⟩ (fun w h => h)
      · have c2i : ¬ (s : Int) = 2 := by omega
        have hs1 : (A1.tx x.tx).st = 1 := by
          rcases hI1.st x.tx hk1 with h | h | h | h
          · exact h
          · omega
          · rcases hRs.me with g | g | g <;> omega
          · omega
        obtain ⟨rfl, rfl⟩ := hRes.of1 hs1;refine sy (y_F (y_eql rfl rfl) (by assumption)) ?_;refine snf (c_condF rfl (c_exit (f_thenE (f_rndE (f_blockE (f_then (csr (sy (y_loadA tab rfl rfl rfl rfl (cells_row0 2 rfl rfl)) ?_))))))));refine ss (set_box tab 0 rfl rfl rfl rfl rfl rfl rfl) ?_;refine sa ?_;refine snf (c_ret ?_);exact f_ret ⟨(h, T), hRh, hSh⟩ (resA1 tab rfl rfl rfl rfl rfl rfl (cells_row0 0 rfl rfl)) (fun w h => by
          have := h.tail.tail.tail;rw [List.append_assoc] at this;exact this)
end
end Go.KL
end

section
/- Walks: done, Look of the document's book. -/
namespace Go.KL
open Go.Proofs Go.Proofs.Tryz
theorem opl_one {C : World → Prop} {os : List Ov} (h : ∀ o ∈ os, EV C o.2 3 (rnl o.1.runs)) : ∀ r ∈ opl os, r.all Value.oneCell' = true := fun r hr => by
  obtain ⟨x, hx, rfl⟩ := List.mem_map.1 hr;obtain ⟨pa, c, e, _, _⟩ := (h x hx).view;rw [e];rfl
theorem K.n2 {W w : World} {M G : List Chunk} {a b : Chunk} (h : K W (a :: b :: (M ++ G)) w) : K W (M ++ (a :: b :: G)) w := K.perm h fun x _ => by
  simp only [List.count_append, List.count_cons];omega
theorem K.n2' {W w : World} {T M G : List Chunk} {a b : Chunk} (h : K W (T ++ (M ++ (a :: b :: G))) w) : K W (a :: b :: ((T ++ M) ++ G)) w := K.perm h fun x _ => by
  simp only [List.count_append, List.count_cons];omega
theorem Sm.vw {A : Bk} {g : Rg} {m k : Nat} {t : Dt} (hS : Sm A g.rb) (hI : A.Inv m) (hm : m < 100000) (hr : k ∈ A.rn) (ht : g.ts[k - 1]? = some t) :
    Rep g.size g.C (ops t.os) ∧ (∀ i, nbd (ap g.C ((ops t.os).take i)) g.size ≤ 4096) ∧ t.os.length < 100000 ∧ ops t.os = (A.tx k).ops := by
  have hk := hI.has hr;have htx := rb_tx ht;have hrun := hS.run k hr;rw [htx] at hrun;have e1 : ops t.os = (A.tx k).ops := hrun.2;have ez : g.size = A.size := hS.size;have ec : g.C = A.C := hS.C;refine ⟨by rw [e1, ez, ec]; exact hI.rep k hr, fun i => by rw [e1, ez, ec]; exact (hI.apOK hk).nb i, ?_, e1⟩;have h3 := hI.ol k hk;have h4 : (ops t.os).length = t.os.length := List.length_map _;rw [← e1] at h3;omega
theorem Sm.seen {A : Bk} {g : Rg} {m k lo hi : Nat} {wr : Bool} {t : Dt} (hS : Sm A g.rb) (hI : A.Inv m) (hm : m < 100000) (hr : k ∈ A.rn) (ht : g.ts[k - 1]? = some t) (hh : Hold (A.tx k).locks lo hi wr) (hlo : lo ≤ hi) :
    rns (ap g.C (ops t.os)) lo hi = rns A.W lo hi := by
  obtain ⟨_, _, _, e1⟩ := hS.vw hI hm hr ht;have ec : g.C = A.C := hS.C;rw [e1, ec];exact rns_congr hlo fun i h1 h2 => (hI.view' hr hh h1 h2).symm
attribute [local irreducible] SC St Fin Sq Ylds Doos Sets Enters Spec CellIs CellsAre Then Ret Rnd Chn resOK ints bools recs arr
section
variable {W : World} {N G : List Chunk} {g : Rg}
theorem done_spec (hV : RV (K W N) g) {k : Nat} {t : Dt} {o : Ov} (hk : 1 ≤ k ∧ k ≤ g.ts.length) (ht : g.ts[k - 1]? = some t) (ho : EV (K W N) o.2 3 (rnl o.1.runs)) (hl : t.os.length < 100000) :
    Spec prog 86 #[g.val, .int .i64 (k : Nat), .agg #[.bool o.1.mv, .int .i64 (o.1.lo : Nat), .int .i64 (o.1.hi : Nat), .int .i64 (o.1.fr : Nat), .int .i64 (o.1.to : Nat), o.2]] (K W (N ++ G))
    (X := { y : Rg × List Chunk // RV (K W (y.2 ++ N)) y.1 ∧ y.1.rb = g.rb.done k o.1 }) (fun y => y.1.1.val) (fun y => K W (y.1.2 ++ (N ++ G))) := by
  have hdl : (dtl g.ts).length = g.ts.length := List.length_map _;have hll : (opl t.os).length = t.os.length := List.length_map _;have hn := hV.n;have htm := List.mem_of_getElem? ht;obtain ⟨jx, hjx⟩ : ∃ jx, jx = k - 1 := ⟨_, rfl⟩;have htj := ht;rw [← hjx] at htj;obtain ⟨po, ko, hov, _, _⟩ := ho.view;obtain ⟨o, ov⟩ := o;dsimp only at hov ho ⊢;subst hov;refine enter (args := [_, _, _]) func86 rfl ntmps86 rfl ?_;refine csr (sbx fun b3 => ?_);refine sbx fun b5 => ?_;refine sal fun b6 => ?_;refine snf (csr (sf 2 ?_));refine slr 2 ?_;refine sm ?_;refine sy (y_sub rfl rfl (by omega)) ?_;refine St.cls (C' := K W ([(b6, row 42 z42)] :: [(b5, row 60 (opc o (.slice po (rnl o.runs).length ko)))] :: [(b3, row 42 g.cells)] :: (N ++ G))) ?_ (fun w h => h);have hE : EV (K W ([(b6, row 42 z42)] :: [(b5, row 60 (opc o (.slice po (rnl o.runs).length ko)))] :: [(b3, row 42 g.cells)] :: (N ++ G))) g.tv 3 (dtl g.ts) := (hV.t.cls fun _ h => K.pre h).cons.cons.cons;have hrow := hE.row (i := jx) (x := t.cells) (by simp [htj]);refine sy (y_ixE tab rfl rfl rfl rfl (hE) jx (by omega) (by omega)) ?_;refine sy (y_loadA tab rfl rfl rfl rfl hrow) ?_;refine sal fun b7 => ?_;refine ss (set_box tab 0 rfl rfl rfl rfl rfl rfl rfl) ?_;refine snf (c_seq ?_);obtain ⟨N0, hN0⟩ : ∃ N0, N0 = [(b7, row 85 [.int .i64 (t.st : Nat), t.lv, t.ov])] :: [(b6, row 42 z42)] :: [(b5, row 60 (opc o (.slice po (rnl o.runs).length ko)))] :: [(b3, row 42 g.cells)] :: (N ++ G) := ⟨_, rfl⟩;obtain ⟨F, hF⟩ : ∃ F : Option Nat → List Chunk, F = flo (fun b => [(b, row 60 (opc o (.slice po (rnl o.runs).length ko)))]) := ⟨_, rfl⟩;have hD : ∀ (A : List Chunk) (y : Option Nat) (w : World), K W (A ++ (F y ++ N0)) w → K W N0 w := fun A y w h => K.bck (K.bck h);have hV0 : DtV (K W N0) t := (hV.tx t htm).cls fun w h => by rw [hN0] at h; exact K.pre h.tail.tail.tail.tail
  have hone := opl_one hV0.r;have hEy : ∀ (A : List Chunk) (y : Option Nat), EV (K W (A ++ (F y ++ N0))) t.ov 6 (opl t.os) := fun A y => hV0.o.cls (hD A y);have hc7 : CellsAre (K W N0) ⟨b7, 0, none⟩ t.cells := by rw [hN0]; exact cells_row0 0 rfl rfl
  have hc5 : CellsAre (K W N0) ⟨b5, 0, none⟩ (opc o (.slice po (rnl o.runs).length ko)) := by rw [hN0]; exact cells_row0 2 rfl rfl
  have hal : ∀ (A : List Chunk) {σ : Slots} {oo : Oper}, Doos prog 26 σ (K W (A ++ N0)) oo (fun b => Value.slice (some ⟨b, 0, none⟩) 1 1) (fun b => K W ([(b, row 60 (opc o (.slice po (rnl o.runs).length ko)))] :: (A ++ N0))) → Outs prog 26 σ (K W (A ++ (F none ++ N0))) oo (fun b => Value.slice (some ⟨b, 0, none⟩) 1 1) (fun b => K W (A ++ (F (some b) ++ N0))) := fun A σ oo h => by
    rw [hF];exact h.outs.conv fun b w hk => K.bckN (A := [[(b, row 60 (opc o (.slice po (rnl o.runs).length ko)))]]) (B := A) hk
  refine SC.cls (C' := K W ([] ++ (F none ++ N0))) ?_ (fun w h => by rw [hF, hN0]; exact h);refine c_planJL (Y := Nat) 5 19 (fun b => .slice (some ⟨b, 0, none⟩) 1 1) [.c 1, .c 2, .c 4, .s 0, .s 3] [.s 6, .s 7, .s 8] [8] (K W N0) (fun y => K W ([] ++ (F y ++ N0))) mixed (by kernel_rfl) rfl K.cl ?_;refine j_c rfl (Qui.ylds (y_fieldAddrB tab 2 rfl rfl rfl rfl rfl)) rfl (fun _ => rfl) rfl rfl rfl rfl rfl (hD _) (fun _ => K.cl) ?_;refine j_c rfl (Qui.ylds (y_load tab rfl rfl (CellsAre.nth 2 hc7 rfl))) rfl (fun _ => rfl) rfl rfl rfl rfl rfl (hD _) (fun _ => K.cl) ?_;refine j_c rfl (Qui.ylds (y_loadA tab rfl rfl rfl rfl hc5)) rfl (fun _ => rfl) rfl rfl rfl rfl rfl (hD _) (fun _ => K.cl) ?_;refine j_s (C' := fun b y => K W ([(b, row 60 [])] :: [] ++ (F y ++ N0))) rfl rfl (fun y => (do_buildSliceS (vs := []) (len := 0) (ps := []) tab ⟨rfl, rfl, rfl, rfl⟩ rfl rfl rfl rfl).outs) (hal [] (do_buildSliceS (vs := [.agg (opc o (.slice po (rnl o.runs).length ko)).toArray]) (len := 1) (ps := [_]) tab ⟨rfl, rfl, rfl, rfl⟩ rfl rfl rfl rfl)) rfl (fun _ => rfl) rfl rfl rfl rfl rfl rfl rfl (fun _ => K.cl) (fun _ _ => K.cl) (hD _) (fun b y => hD [_] y) (fun b => ?_);refine j_s (X := { u : Value × Chunk // BufR 60 6 u.1 u.2 ([] ++ opl t.os) }) (v := fun u => u.1.1) (C' := fun x y => K W ([x.1.2] ++ (F y ++ N0))) rfl rfl (fun y => (do_appendRV (by_ := 64) tab 0 rfl .lit rfl (hEy [_] y) ⟨rfl, rfl, rfl, rfl⟩ rfl (by omega) (Nat.lt_of_sub_eq_succ rfl) rfl hone (by simp only [List.length_nil]; omega) (by omega)).outs) (hal [_] (do_buildSliceS (vs := [.agg (opc o (.slice po (rnl o.runs).length ko)).toArray]) (len := 1) (ps := [_]) tab ⟨rfl, rfl, rfl, rfl⟩ rfl rfl rfl rfl)) rfl (fun _ => rfl) rfl rfl rfl rfl rfl rfl rfl (fun _ => K.cl) (fun _ _ => K.cl) (hD [_]) (fun x y => hD [_] y) (fun u => ?_);obtain ⟨⟨u, d⟩, hu⟩ := u;have hu : BufR 60 6 u d (opl t.os) := hu;refine j_j rfl (hal [_] (do_buildSliceS (vs := [.agg (opc o (.slice po (rnl o.runs).length ko)).toArray]) (len := 1) (ps := [_]) tab ⟨rfl, rfl, rfl, rfl⟩ rfl rfl rfl rfl)) rfl rfl rfl (fun _ => K.cl) (hD [_]) (fun b19 => ?_);refine Sd.cls (C' := K W (d :: [(b19, row 60 (opc o (.slice po (rnl o.runs).length ko)))] :: [(b7, row 85 [.int .i64 (t.st : Nat), t.lv, t.ov])] :: [(b6, row 42 z42)] :: [(b5, row 60 (opc o (.slice po (rnl o.runs).length ko)))] :: [(b3, row 42 g.cells)] :: (N ++ G))) ?_ (fun w h => by
    rw [hF, hN0] at h;exact h)
  refine d_s rfl (do_appendR (by_ := 64) (news := opc o (.slice po (rnl o.runs).length ko)) tab 0 rfl hu rfl ⟨rfl, rfl, rfl, rfl⟩ rfl (by simp) rfl (cells_row0 1 rfl rfl) rfl rfl (by omega) (by omega)) rfl rfl rfl (fun _ => K.cl) (fun _ _ w h => by rw [hN0]; exact h.tail.tail) (fun y => ?_);obtain ⟨⟨u2, d2⟩, hu2⟩ := y;have hu2 : BufR 60 6 u2 d2 (opl (t.os ++ [(o, Value.slice po (rnl o.runs).length ko)])) := hu2.of (by simp);dsimp only;obtain ⟨pv, kv, rfl, _, _⟩ := (hu2.view (C := K W (d2 :: [])) (Hs.at 0 rfl)).view;refine d_sy rfl (y_fieldAddrB tab 2 rfl rfl rfl rfl rfl) rfl rfl rfl K.cl (fun _ w h => by rw [hN0]; exact h.tail.tail) ?_;refine d_set rfl (set_rowB tab 2 rfl rfl rfl rfl rfl rfl) rfl rfl K.cl (fun h => by cases h) ?_;refine d_nil ?_;obtain ⟨t2, ht2⟩ : ∃ t2 : Dt, t2 = ⟨t.st, t.locks, t.os ++ [(o, Value.slice po (rnl o.runs).length ko)], t.l, ⟨pv, kv⟩⟩ := ⟨_, rfl⟩;clear hal hEy hD hc7 hc5;have h2V : DtV (K W (d2 :: N)) t2 := by
    rw [ht2];refine ⟨(hV.tx t htm).l.cons, hu2.view (Hs.at 0 rfl), fun y hy => ?_⟩;rcases List.mem_append.1 hy with hy | hy
    · exact ((hV.tx t htm).r y hy).cons
    · rw [List.mem_singleton.1 hy];exact ho.cons
  have hput := put_spec (W := W) (N := d2 :: N) (G := [(b19, row 60 (opc o (.slice po (rnl o.runs).length ko)))] :: [(b7, row 85 [.int .i64 (t.st : Nat), t.lv, .slice pv (opl (t.os ++ [(o, Value.slice po (rnl o.runs).length ko)])).length kv])] :: [(b6, row 42 z42)] :: [(b5, row 60 (opc o (.slice po (rnl o.runs).length ko)))] :: [(b3, row 42 g.cells)] :: G) (hV.cons (c := d2)) (k := k) hk h2V;have hrb : (g.setT (g.ts.set (k - 1) t2) ⟨none, 0⟩).rb = g.rb.done k o := by
    rw [ht2];simp [Rg.rb, Rg.setT, RB.done, RB.put, RB.tx, ht, Dt.rt]
  rw [ht2] at hput;refine f_then (csr (sy (y_loadA tab rfl rfl rfl rfl (cells_row0 5 rfl rfl)) ?_));refine sm ?_;refine sy (y_loadA tab rfl rfl rfl rfl (cells_row0 2 rfl rfl)) ?_;refine St.cls (C' := K W ((d2 :: N) ++ ([(b19, row 60 (opc o (.slice po (rnl o.runs).length ko)))] :: [(b7, row 85 [.int .i64 (t.st : Nat), t.lv, .slice pv (opl (t.os ++ [(o, Value.slice po (rnl o.runs).length ko)])).length kv])] :: [(b6, row 42 z42)] :: [(b5, row 60 (opc o (.slice po (rnl o.runs).length ko)))] :: [(b3, row 42 g.cells)] :: G))) ?_ (fun w h => K.fr1 h);refine sk call104 hput fun y => ?_;obtain ⟨⟨wh, c⟩, hRV⟩ := y;dsimp only at hRV ⊢;refine St.cls (C' := K W (c :: d2 :: [(b19, row 60 (opc o (.slice po (rnl o.runs).length ko)))] :: [(b7, row 85 [.int .i64 (t.st : Nat), t.lv, .slice pv (opl (t.os ++ [(o, Value.slice po (rnl o.runs).length ko)])).length kv])] :: [(b6, row 42 z42)] :: [(b5, row 60 (opc o (.slice po (rnl o.runs).length ko)))] :: [(b3, row 42 g.cells)] :: (N ++ G))) ?_ (fun w h => K.fr2 h);refine ss (set_box tab 4 rfl rfl rfl rfl rfl rfl rfl) ?_;refine snf (c_ret (f_ret ⟨(_, [c, d2]), hRV, ?_⟩ (resA tab rfl rfl rfl rfl rfl (cells_row0 4 rfl rfl)) (fun w h => ((((h.dropAt 2).dropAt 2).dropAt 2).dropAt 2).dropAt 2)));rw [← hrb, ht2];rfl
end
end Go.KL
end

section
/- Walks: Look and Move of the document's book. -/
namespace Go.KL
open Go.Proofs Go.Proofs.Tryz
theorem Bk.Perf.rest {A B : Bk} {tx lo hi fr to : Int} {mv : Bool} {e k : Nat} {rs : List Rn} (hp : A.Perf tx mv lo hi fr to B e rs) (hk : tx = k) (hh : A.has k) (hs : (A.tx k).st = 1) :
    ((lo < 0 ∨ hi < lo ∨ (A.size : Int) < hi) ∧ B = A ∧ e = 3 ∧ rs = []) ∨ ((0 ≤ lo ∧ lo ≤ hi ∧ hi ≤ (A.size : Int)) ∧ (fr < 0 ∨ 16 ≤ fr ∨ to < 0 ∨ 16 ≤ to) ∧ B = A ∧ e = 2 ∧ rs = []) ∨
    ∃ l m a b : Nat, lo = l ∧ hi = m ∧ fr = a ∧ to = b ∧ l ≤ m ∧ m ≤ A.size ∧ a < 16 ∧ b < 16 ∧ ((A.Obt k l m mv B e ∧ e ≠ 0 ∧ rs = []) ∨ (mv = false ∧ ∃ D, A.Obt k l m mv D 0 ∧ B = D.done k ⟨mv, l, m, a, b, rns D.W l m⟩ ∧ e = 0 ∧ rs = rns D.W l m) ∨ (mv = true ∧ ∃ D, A.Obt k l m mv D 0 ∧ D.Mvd k ⟨mv, l, m, a, b, []⟩ B e ∧ rs = [])) := by
  cases hp with
  | none h => unfold Bk.has at hh; omega
  | @aborted i hk' _ h =>
    obtain rfl : k = i := by omega
    omega
  | @committed i hk' _ h =>
    obtain rfl : k = i := by omega
    omega
  | @waiting i hk' _ h =>
    obtain rfl : k = i := by omega
    omega
  | range _ _ _ hr => exact .inl ⟨hr, rfl, rfl, rfl⟩
  | arg _ _ _ hr ha => exact .inr (.inl ⟨hr, ha, rfl, rfl, rfl⟩)
  | @no i _ _ _ _ _ _ hk' _ _ hl hm hf ht hr ha ho he =>
    obtain rfl : k = i := by omega
    exact .inr (.inr ⟨_, _, _, _, hl, hm, hf, ht, hr.1, hr.2, ha.1, ha.2, .inl ⟨ho, he, rfl⟩⟩)
  | @look i _ _ _ _ _ hk' _ _ hl hm hf ht hr ha ho hmv =>
    obtain rfl : k = i := by omega
    exact .inr (.inr ⟨_, _, _, _, hl, hm, hf, ht, hr.1, hr.2, ha.1, ha.2, .inr (.inl ⟨hmv, _, ho, rfl, rfl, rfl⟩)⟩)
  | @move i _ _ _ _ _ _ _ hk' _ _ hl hm hf ht hr ha ho hmv hd =>
    obtain rfl : k = i := by omega
    exact .inr (.inr ⟨_, _, _, _, hl, hm, hf, ht, hr.1, hr.2, ha.1, ha.2, .inr (.inr ⟨hmv, _, ho, hd, rfl⟩)⟩)
theorem Sm.pf {A B : Bk} {b : RB} {tx lo hi fr to : Int} {mv : Bool} {e m : Nat} {rs : List Rn} (hS : Sm A b) (hI : A.Inv m) (hp : A.Perf tx mv lo hi fr to B e rs) :
    (b.ref tx true ≠ 0 ∧ b.ref tx true = e ∧ B = A ∧ rs = []) ∨ (b.ref tx true = 0 ∧ ∃ k : Nat, tx = k ∧ A.has k ∧ (A.tx k).st = 1) := by
  rcases hS.refI hI tx true with ⟨h1, h2⟩ | ⟨j, rfl, hj, h⟩
  · refine .inl ⟨by omega, ?_⟩;cases hp with
    | none _ => exact ⟨h2, rfl, rfl⟩
    | aborted hk hh _ => unfold Bk.has at hh; omega
    | committed hk hh _ => unfold Bk.has at hh; omega
    | waiting hk hh _ => unfold Bk.has at hh; omega
    | range hk hh _ _ => unfold Bk.has at hh; omega
    | arg hk hh _ _ _ => unfold Bk.has at hh; omega
    | no hk hh => unfold Bk.has at hh; omega
    | look hk hh => unfold Bk.has at hh; omega
    | move hk hh => unfold Bk.has at hh; omega
  · by_cases c : (A.tx j).st = 1
    · refine .inr ⟨?_, j, rfl, hj, c⟩;rcases h with ⟨t, h⟩ | ⟨t, h⟩ | ⟨t, h⟩ | ⟨t, h⟩ <;> omega
    · have hr : b.ref j true ≠ 0 := by
        rcases h with ⟨t, h⟩ | ⟨t, h⟩ | ⟨t, h⟩ | ⟨t, h⟩
        · omega
        · omega
        · rw [h, if_pos rfl]; decide
        · exact absurd t c
      refine .inl ⟨hr, ?_⟩;cases hp with
      | none h => unfold Bk.has at hj; omega
      | @aborted i hk hh hs =>
        obtain rfl : j = i := by omega
        exact ⟨by rcases h with ⟨t, h⟩ | ⟨t, h⟩ | ⟨t, h⟩ | ⟨t, h⟩ <;> omega, rfl, rfl⟩
      | @committed i hk hh hs =>
        obtain rfl : j = i := by omega
        exact ⟨by rcases h with ⟨t, h⟩ | ⟨t, h⟩ | ⟨t, h⟩ | ⟨t, h⟩ <;> omega, rfl, rfl⟩
      | @waiting i hk hh hs =>
        obtain rfl : j = i := by omega
        refine ⟨?_, rfl, rfl⟩;rcases h with ⟨t, h⟩ | ⟨t, h⟩ | ⟨t, h⟩ | ⟨t, h⟩
        · omega
        · omega
        · rw [h, if_pos rfl]
        · omega
      | @range i hk _ hs _ =>
        obtain rfl : j = i := by omega
        exact absurd hs c
      | @arg i hk _ hs _ _ =>
        obtain rfl : j = i := by omega
        exact absurd hs c
      | @no i _ _ _ _ _ _ hk _ hs =>
        obtain rfl : j = i := by omega
        exact absurd hs c
      | @look i _ _ _ _ _ hk _ hs =>
        obtain rfl : j = i := by omega
        exact absurd hs c
      | @move i _ _ _ _ _ _ _ hk _ hs =>
        obtain rfl : j = i := by omega
        exact absurd hs c
theorem K.n3 {W w : World} {M G : List Chunk} {c a b : Chunk} (h : K W (c :: a :: b :: (M ++ G)) w) : K W (a :: b :: ((c :: M) ++ G)) w := K.perm h fun x _ => by
  simp only [List.count_append, List.count_cons];omega
attribute [local irreducible] SC St Fin Sq Ylds Doos Sets Enters Spec CellIs CellsAre Then Ret Rnd Chn resOK ints bools recs arr
section
variable {W : World} {N G : List Chunk} {g : Rg}
theorem RLook_spec {A B : Bk} {tx lo hi : Int} {m e : Nat} {rs : List Rn} (hV : RV (K W N) g) (hS : Sm A g.rb) (hO : A.Ok m) (hm : m < 100000) (hts : A.ts.length < 100000) (hp : A.Perf tx false lo hi 0 0 B e rs) :
    Spec prog 51 #[g.val, .int .i64 tx, .int .i64 lo, .int .i64 hi] (K W (N ++ G)) (X := { y : Rg × List Chunk × Value // RV (K W (y.2.1 ++ N)) y.1 ∧ Sm B y.1.rb ∧ EV (K W (y.2.1 ++ N)) y.2.2 3 (rnl rs) }) (fun y => .tuple #[y.1.1.val, y.1.2.2, .int .i64 (e : Nat)]) (fun y => K W (y.1.2.1 ++ (N ++ G))) := by
  have hI := hO.inv;have hVG : RV (K W (N ++ G)) g := hV.cls fun _ h => K.pre h;have hsz : g.size = A.size := hS.size;refine enter (args := [_, _, _, _]) func51 rfl ntmps51 rfl ?_;refine csr (sbx fun b4 => ?_);refine sal fun b8 => ?_;refine sa ?_;refine sa ?_;refine snf (csr (sy (y_loadA tab rfl rfl rfl rfl (cells_row0 1 rfl rfl)) ?_));refine sm ?_;refine sk call83 (refused_spec hVG.cons.cons (hO.r5 hS tx)) fun _ => ?_;obtain ⟨r, hr⟩ : ∃ r, g.rb.ref tx true = r := ⟨_, rfl⟩;have hpf := hS.pf hI hp;rw [hr] at hpf ⊢;rcases hpf with ⟨h1, rfl, rfl, rfl⟩ | ⟨rfl, k, hk, hh, hs⟩
  · have h1i : (r : Int) ≠ 0 := by omega
    refine sa ?_;refine snf (c_seq (csr (sm ?_)));refine sy (y_T (y_neq rfl rfl) (by assumption)) ?_;refine snf (c_condT rfl (csr (sy (y_loadA tab rfl rfl rfl rfl (cells_row0 1 rfl rfl)) ?_)));refine sm ?_;refine ss (set_box tab 0 rfl rfl rfl rfl rfl rfl rfl) ?_;refine sa ?_;refine sa ?_;refine snf (c_ret (f_thenR ?_));exact f_ret ⟨(g, [], .slice none 0 0), hV, hS, EV.empty⟩ (resA12 tab rfl rfl rfl rfl rfl rfl rfl (cells_row0 0 rfl rfl)) (fun w h => h.tail.tail)
  rcases hp.rest hk hh hs with ⟨hr2, rfl, rfl, rfl⟩ | ⟨_, hr2, _⟩ | ⟨l, n, a, b, rfl, rfl, ha, hb, hln, hnz, ha2, hb2, hrest⟩
  · by_cases c1 : 0 ≤ lo
    · by_cases c2 : lo ≤ hi
      · have c3 : ¬ hi ≤ (g.size : Int) := by omega
        refine sa ?_;refine snf (c_seq (csr (sm ?_)));refine sy (y_F (y_neq rfl rfl) (by omega)) ?_;refine snf (c_condF rfl (c_skip (f_then (c_seq (csr (sm ?_))))));refine sy (y_T (y_leq rfl rfl) (by assumption)) ?_;refine sm ?_;refine sm ?_;refine sm ?_;refine sy (y_T (y_leq rfl rfl) (by assumption)) ?_;refine spT ?_;refine sm ?_;refine sm ?_;refine sf0 ?_;refine sf0 ?_;refine slr 1 ?_;refine sy (y_F (y_leq rfl rfl) (by assumption)) ?_;refine spT ?_;refine sy (y_notF rfl) ?_;refine snf (c_condT rfl (csr (sy (y_loadA tab rfl rfl rfl rfl (cells_row0 1 rfl rfl)) ?_)));refine ss (set_box tab 0 rfl rfl rfl rfl rfl rfl rfl) ?_;refine sa ?_;refine sa ?_;refine snf (c_ret (f_thenR ?_));exact f_ret ⟨(g, [], .slice none 0 0), hV, hS, EV.empty⟩ (resA12 tab rfl rfl rfl rfl rfl rfl rfl (cells_row0 0 rfl rfl)) (fun w h => h.tail.tail)
      · refine sa ?_;refine snf (c_seq (csr (sm ?_)));refine sy (y_F (y_neq rfl rfl) (by omega)) ?_;refine snf (c_condF rfl (c_skip (f_then (c_seq (csr (sm ?_))))));refine sy (y_T (y_leq rfl rfl) (by assumption)) ?_;refine sm ?_;refine sm ?_;refine sm ?_;refine sy (y_F (y_leq rfl rfl) (by assumption)) ?_;refine spT ?_;refine sm ?_
        iterate 5 refine s_skip rfl rfl rfl ?_
        refine spF ?_;refine sy (y_notF rfl) ?_;refine snf (c_condT rfl (csr (sy (y_loadA tab rfl rfl rfl rfl (cells_row0 1 rfl rfl)) ?_)));refine ss (set_box tab 0 rfl rfl rfl rfl rfl rfl rfl) ?_;refine sa ?_;refine sa ?_;refine snf (c_ret (f_thenR ?_));exact f_ret ⟨(g, [], .slice none 0 0), hV, hS, EV.empty⟩ (resA12 tab rfl rfl rfl rfl rfl rfl rfl (cells_row0 0 rfl rfl)) (fun w h => h.tail.tail)
    · refine sa ?_;refine snf (c_seq (csr (sm ?_)));refine sy (y_F (y_neq rfl rfl) (by omega)) ?_;refine snf (c_condF rfl (c_skip (f_then (c_seq (csr (sm ?_))))));refine sy (y_F (y_leq rfl rfl) (by assumption)) ?_;refine sm ?_
      iterate 3 refine s_skip rfl rfl rfl ?_
      refine spF ?_;refine sm ?_
      iterate 5 refine s_skip rfl rfl rfl ?_
      refine spF ?_;refine sy (y_notF rfl) ?_;refine snf (c_condT rfl (csr (sy (y_loadA tab rfl rfl rfl rfl (cells_row0 1 rfl rfl)) ?_)));refine ss (set_box tab 0 rfl rfl rfl rfl rfl rfl rfl) ?_;refine sa ?_;refine sa ?_;refine snf (c_ret (f_thenR ?_));exact f_ret ⟨(g, [], .slice none 0 0), hV, hS, EV.empty⟩ (resA12 tab rfl rfl rfl rfl rfl rfl rfl (cells_row0 0 rfl rfl)) (fun w h => h.tail.tail)
  · omega
  obtain rfl : a = 0 := by omega
  obtain rfl : b = 0 := by omega
  obtain ⟨D, e', ho, hd⟩ : ∃ D e', A.Obt k l n false D e' ∧ ((e' ≠ 0 ∧ B = D ∧ e = e' ∧ rs = []) ∨ (e' = 0 ∧ B = D.done k ⟨false, l, n, 0, 0, rns D.W l n⟩ ∧ e = 0 ∧ rs = rns D.W l n)) := by
    rcases hrest with ⟨ho, he, hrs⟩ | ⟨_, D, ho, hB, he, hrs⟩ | ⟨h, _⟩
    · exact ⟨B, e, ho, .inl ⟨he, rfl, rfl, hrs⟩⟩
    · exact ⟨D, 0, ho, .inr ⟨rfl, hB, he, hrs⟩⟩
    · cases h
  clear hrest hp;have hob := RObtain_spec (W := W) (N := N) (G := [(b8, row 42 z42)] :: [(b4, row 42 g.cells)] :: G) (x := ⟨k, l, n, false⟩) hV hS hO hts hh hs hnz ho;have g1 : (0 : Int) ≤ (l : Int) := by omega
  have g2 : (l : Int) ≤ (n : Int) := by omega
  have g3 : (n : Int) ≤ (g.size : Int) := by omega
  subst hk;refine sa ?_;refine snf (c_seq (csr (sm ?_)));refine sy (y_F (y_neq rfl rfl) (by omega)) ?_;refine snf (c_condF rfl (c_skip (f_then (c_seq (csr (sm ?_))))));refine sy (y_T (y_leq rfl rfl) (by assumption)) ?_;refine sm ?_;refine sm ?_;refine sm ?_;refine sy (y_T (y_leq rfl rfl) (by assumption)) ?_;refine spT ?_;refine sm ?_;refine sm ?_;refine sf0 ?_;refine sf0 ?_;refine slr 1 ?_;refine sy (y_T (y_leq rfl rfl) (by assumption)) ?_;refine spT ?_;refine sy (y_notT rfl) ?_;refine snf (c_condF rfl (c_skip (f_then (csr (sy (y_loadA tab rfl rfl rfl rfl (cells_row0 1 rfl rfl)) ?_)))));refine sm ?_;refine sm ?_;refine sm ?_;refine sy (y_build tab rfl rfl rfl rfl rfl) ?_;refine St.cls (C' := K W (N ++ ([(b8, row 42 z42)] :: [(b4, row 42 g.cells)] :: G))) ?_ (fun w h => K.n2 h);refine sk call84 hob fun y => ?_;obtain ⟨⟨h, T⟩, hRh, hSh⟩ := y;dsimp only at hRh hSh ⊢;refine St.cls (C' := K W ([(b8, row 42 z42)] :: [(b4, row 42 g.cells)] :: ((T ++ N) ++ G))) ?_ (fun w h => K.n2' h);have hgot := hO.obt hh hs hnz ho;rcases hd with ⟨he, rfl, rfl, rfl⟩ | ⟨rfl, rfl, rfl, rfl⟩
  · have hei : (e : Int) ≠ 0 := by omega
    refine sm ?_;refine sx ?_;refine sx ?_;refine ss (set_box tab 1 rfl rfl rfl rfl rfl rfl rfl) ?_;refine sa ?_;refine snf (c_seq (csr (sm ?_)));refine sy (y_T (y_neq rfl rfl) (by assumption)) ?_;refine snf (c_condT rfl (csr (sy (y_loadA tab rfl rfl rfl rfl (cells_row0 1 rfl rfl)) ?_)));refine sm ?_;refine ss (set_box tab 0 rfl rfl rfl rfl rfl rfl rfl) ?_;refine sa ?_;refine sa ?_;refine snf (c_ret (f_thenR ?_));exact f_ret ⟨(h, T, .slice none 0 0), hRh, hSh, EV.empty⟩ (resA12 tab rfl rfl rfl rfl rfl rfl rfl (cells_row0 0 rfl rfl)) (fun w h => by
      have := h.tail.tail;rw [List.append_assoc] at this;exact this)
  · obtain ⟨gs, gh, _⟩ := hgot.z rfl;have gI := hgot.ok.inv;have gr := gI.run hgot.hk gs;obtain ⟨t, ht, _, _, k1, k2, _⟩ := hSh.dt gr hgot.hk;obtain ⟨v1, v2, v3, v4⟩ := hSh.vw gI hm gr ht;have hseen := hSh.seen gI hm gr ht gh hln;have hvw := View_spec (W := W) (N := T ++ N) (G := [(b8, row 42 z42)] :: [(b4, row 42 h.cells)] :: G) hRh (k := k) ⟨k1, k2⟩ ht v1 v2 (by omega);refine sm ?_;refine sx ?_;refine sx ?_;refine ss (set_box tab 1 rfl rfl rfl rfl rfl rfl rfl) ?_;refine sa ?_;refine snf (c_seq (csr (sm ?_)));refine sy (y_F (y_neq rfl rfl) (by omega)) ?_;refine snf (c_condF rfl (c_skip (f_then (csr (sy (y_loadA tab rfl rfl rfl rfl (cells_row0 1 rfl rfl)) ?_)))));refine sm ?_;refine St.cls (C' := K W ((T ++ N) ++ ([(b8, row 42 z42)] :: [(b4, row 42 h.cells)] :: G))) ?_ (fun w h => K.n2 h);refine sk call85 hvw fun y => ?_;obtain ⟨⟨lm, T2⟩, hRm⟩ := y;dsimp only at hRm ⊢;refine St.cls (C' := K W ([(b8, row 42 z42)] :: [(b4, row 42 h.cells)] :: ((T2 ++ (T ++ N)) ++ G))) ?_ (fun w h => K.n2' h);have hrq := rruns_spec (hRm.cls (D := K W ([(b8, row 42 z42)] :: [(b4, row 42 h.cells)] :: ((T2 ++ (T ++ N)) ++ G))) fun w h => K.pre h.tail.tail) hln (by have : h.size = D.size := hSh.size; have := hgot.sm.1; omega);rw [hseen] at hrq;refine sm ?_;refine sm ?_;refine sk call78 hrq fun y => ?_;obtain ⟨⟨v, c⟩, hBv⟩ := y;dsimp only at hBv ⊢;refine St.cls (C' := K W ([(b8, row 42 z42)] :: [(b4, row 42 h.cells)] :: ((c :: (T2 ++ (T ++ N))) ++ G))) ?_ (fun w h => K.n3 h);have hEv : EV (K W (c :: (T2 ++ (T ++ N)))) v 3 (rnl (rns D.W l n)) := hBv.view (Hs.at 0 rfl);obtain ⟨pv, kv, rfl, _, _⟩ := hEv.view;have hdn := done_spec (W := W) (N := c :: (T2 ++ (T ++ N))) (G := [(b8, row 42 z42)] :: [(b4, row 42 h.cells)] :: G) (k := k) (t := t) (o := (⟨false, l, n, 0, 0, rns D.W l n⟩, .slice pv (rnl (rns D.W l n)).length kv)) (hRh.cls fun w h => K.bck h.tail) ⟨k1, k2⟩ ht hEv v3;have hSd := hSh.done gI (k := k) (o := ⟨false, l, n, 0, 0, rns D.W l n⟩) (W := D.W) hgot.hk gs;refine sm ?_;refine sx ?_;refine sx ?_;refine sa ?_;refine sa ?_;refine snf (csr (sy (y_loadA tab rfl rfl rfl rfl (cells_row0 1 rfl rfl)) ?_));refine sm ?_;refine sm ?_;refine sm ?_;refine sm ?_;refine sy (y_build tab rfl rfl rfl rfl rfl) ?_;refine St.cls (C' := K W ((c :: (T2 ++ (T ++ N))) ++ ([(b8, row 42 z42)] :: [(b4, row 42 h.cells)] :: G))) ?_ (fun w h => K.n2 h);refine sk call86 hdn fun y => ?_;obtain ⟨⟨h2, T3⟩, hR2, hb2⟩ := y;dsimp only at hR2 hb2 ⊢;refine St.cls (C' := K W ([(b8, row 42 z42)] :: [(b4, row 42 h.cells)] :: ((T3 ++ (c :: (T2 ++ (T ++ N)))) ++ G))) ?_ (fun w h => K.n2' h);rw [← hb2] at hSd;have hEv2 : EV (K W (T3 ++ (c :: (T2 ++ (T ++ N))))) (.slice pv (rnl (rns D.W l n)).length kv) 3 (rnl (rns D.W l n)) := hEv.cls fun w h => K.bck h;have eM : T3 ++ (c :: (T2 ++ (T ++ N))) = (T3 ++ (c :: (T2 ++ T))) ++ N := by simp
    rw [eM] at hR2 hEv2 ⊢;refine sm ?_;refine ss (set_box tab 0 rfl rfl rfl rfl rfl rfl rfl) ?_;refine sa ?_;refine sa ?_;refine snf (c_ret ?_);exact f_ret ⟨(h2, T3 ++ (c :: (T2 ++ T)), .slice pv (rnl (rns D.W l n)).length kv), hR2, hSd, hEv2⟩ (resA12 tab rfl rfl rfl rfl rfl rfl rfl (cells_row0 0 rfl rfl)) (fun w h => by
      have := h.tail.tail;rw [List.append_assoc] at this;exact this)
theorem RMove_spec {A B : Bk} {tx lo hi fr to : Int} {m e : Nat} {rs : List Rn} (hV : RV (K W N) g) (hS : Sm A g.rb) (hO : A.Ok m) (hm : m < 100000) (hts : A.ts.length < 100000) (hp : A.Perf tx true lo hi fr to B e rs) :
    Spec prog 48 #[g.val, .int .i64 tx, .int .i64 lo, .int .i64 hi, .int .i64 fr, .int .i64 to] (K W (N ++ G)) (X := { y : Rg × List Chunk // RV (K W (y.2 ++ N)) y.1 ∧ Sm B y.1.rb }) (fun y => .tuple #[y.1.1.val, .int .i64 (e : Nat)]) (fun y => K W (y.1.2 ++ (N ++ G))) := by
  have hI := hO.inv;have hVG : RV (K W (N ++ G)) g := hV.cls fun _ h => K.pre h;have hsz : g.size = A.size := hS.size;refine enter (args := [_, _, _, _, _, _]) func48 rfl ntmps48 rfl ?_;refine csr (sbx fun b6 => ?_);refine sal fun b12 => ?_;refine sa ?_;refine snf (csr (sy (y_loadA tab rfl rfl rfl rfl (cells_row0 1 rfl rfl)) ?_));refine sm ?_;refine sk call83 (refused_spec hVG.cons.cons (hO.r5 hS tx)) fun _ => ?_;obtain ⟨r, hr⟩ : ∃ r, g.rb.ref tx true = r := ⟨_, rfl⟩;have hpf := hS.pf hI hp;rw [hr] at hpf ⊢;rcases hpf with ⟨h1, rfl, rfl, rfl⟩ | ⟨rfl, k, hk, hh, hs⟩
  · have h1i : (r : Int) ≠ 0 := by omega
    refine sa ?_;refine snf (c_seq (csr (sm ?_)));refine sy (y_T (y_neq rfl rfl) (by assumption)) ?_;refine snf (c_condT rfl (csr (sy (y_loadA tab rfl rfl rfl rfl (cells_row0 1 rfl rfl)) ?_)));refine sm ?_;refine ss (set_box tab 0 rfl rfl rfl rfl rfl rfl rfl) ?_;refine sa ?_;refine snf (c_ret (f_thenR ?_));exact f_ret ⟨(g, []), hV, hS⟩ (resA1 tab rfl rfl rfl rfl rfl rfl (cells_row0 0 rfl rfl)) (fun w h => h.tail.tail)
  rcases hp.rest hk hh hs with ⟨hr2, rfl, rfl, rfl⟩ | ⟨⟨g1, g2, g3⟩, hr2, rfl, rfl, rfl⟩ | ⟨l, n, a, b, rfl, rfl, rfl, rfl, hln, hnz, ha2, hb2, hrest⟩
  · by_cases c1 : 0 ≤ lo
    · by_cases c2 : lo ≤ hi
      · have c3 : ¬ hi ≤ (g.size : Int) := by omega
        refine sa ?_;refine snf (c_seq (csr (sm ?_)));refine sy (y_F (y_neq rfl rfl) (by omega)) ?_;refine snf (c_condF rfl (c_skip (f_then (c_seq (csr (sm ?_))))));refine sy (y_T (y_leq rfl rfl) (by assumption)) ?_;refine sm ?_;refine sm ?_;refine sm ?_;refine sy (y_T (y_leq rfl rfl) (by assumption)) ?_;refine spT ?_;refine sm ?_;refine sm ?_;refine sf0 ?_;refine sf0 ?_;refine slr 1 ?_;refine sy (y_F (y_leq rfl rfl) (by assumption)) ?_;refine spT ?_;refine sy (y_notF rfl) ?_;refine snf (c_condT rfl (csr (sy (y_loadA tab rfl rfl rfl rfl (cells_row0 1 rfl rfl)) ?_)));refine ss (set_box tab 0 rfl rfl rfl rfl rfl rfl rfl) ?_;refine sa ?_;refine snf (c_ret (f_thenR ?_));exact f_ret ⟨(g, []), hV, hS⟩ (resA1 tab rfl rfl rfl rfl rfl rfl (cells_row0 0 rfl rfl)) (fun w h => h.tail.tail)
      · refine sa ?_;refine snf (c_seq (csr (sm ?_)));refine sy (y_F (y_neq rfl rfl) (by omega)) ?_;refine snf (c_condF rfl (c_skip (f_then (c_seq (csr (sm ?_))))));refine sy (y_T (y_leq rfl rfl) (by assumption)) ?_;refine sm ?_;refine sm ?_;refine sm ?_;refine sy (y_F (y_leq rfl rfl) (by assumption)) ?_;refine spT ?_;refine sm ?_
        iterate 5 refine s_skip rfl rfl rfl ?_
        refine spF ?_;refine sy (y_notF rfl) ?_;refine snf (c_condT rfl (csr (sy (y_loadA tab rfl rfl rfl rfl (cells_row0 1 rfl rfl)) ?_)));refine ss (set_box tab 0 rfl rfl rfl rfl rfl rfl rfl) ?_;refine sa ?_;refine snf (c_ret (f_thenR ?_));exact f_ret ⟨(g, []), hV, hS⟩ (resA1 tab rfl rfl rfl rfl rfl rfl (cells_row0 0 rfl rfl)) (fun w h => h.tail.tail)
    · refine sa ?_;refine snf (c_seq (csr (sm ?_)));refine sy (y_F (y_neq rfl rfl) (by omega)) ?_;refine snf (c_condF rfl (c_skip (f_then (c_seq (csr (sm ?_))))));refine sy (y_F (y_leq rfl rfl) (by assumption)) ?_;refine sm ?_
      iterate 3 refine s_skip rfl rfl rfl ?_
      refine spF ?_;refine sm ?_
      iterate 5 refine s_skip rfl rfl rfl ?_
      refine spF ?_;refine sy (y_notF rfl) ?_;refine snf (c_condT rfl (csr (sy (y_loadA tab rfl rfl rfl rfl (cells_row0 1 rfl rfl)) ?_)));refine ss (set_box tab 0 rfl rfl rfl rfl rfl rfl rfl) ?_;refine sa ?_;refine snf (c_ret (f_thenR ?_));exact f_ret ⟨(g, []), hV, hS⟩ (resA1 tab rfl rfl rfl rfl rfl rfl (cells_row0 0 rfl rfl)) (fun w h => h.tail.tail)
  · rw [← hsz] at g3;refine sa ?_;refine snf (c_seq (csr (sm ?_)));refine sy (y_F (y_neq rfl rfl) (by omega)) ?_;refine snf (c_condF rfl (c_skip (f_then (c_seq (csr (sm ?_))))));refine sy (y_T (y_leq rfl rfl) (by assumption)) ?_;refine sm ?_;refine sm ?_;refine sm ?_;refine sy (y_T (y_leq rfl rfl) (by assumption)) ?_;refine spT ?_;refine sm ?_;refine sm ?_;refine sf0 ?_;refine sf0 ?_;refine slr 1 ?_;refine sy (y_T (y_leq rfl rfl) (by assumption)) ?_;refine spT ?_;refine sy (y_notT rfl) ?_;refine snf (c_condF rfl (c_skip (f_then (c_seq (csr (sm ?_))))));refine sk call71 rtag_spec fun _ => ?_;by_cases c1 : 0 ≤ fr ∧ fr < 16
    · rw [decide_eq_true c1];refine sy (y_notT rfl) ?_;refine sm ?_;refine sm ?_;refine sk call71 rtag_spec fun _ => ?_;rw [decide_eq_false (show ¬ (0 ≤ to ∧ to < 16) from by omega)];refine sy (y_notF rfl) ?_;refine spF ?_;refine snf (c_condT rfl (csr (sy (y_loadA tab rfl rfl rfl rfl (cells_row0 1 rfl rfl)) ?_)));refine ss (set_box tab 0 rfl rfl rfl rfl rfl rfl rfl) ?_;refine sa ?_;refine snf (c_ret (f_thenR ?_));exact f_ret ⟨(g, []), hV, hS⟩ (resA1 tab rfl rfl rfl rfl rfl rfl (cells_row0 0 rfl rfl)) (fun w h => h.tail.tail)
    · rw [decide_eq_false c1];refine sy (y_notF rfl) ?_;refine sm ?_
      iterate 3 refine s_skip rfl rfl rfl ?_
      refine spT ?_;refine snf (c_condT rfl (csr (sy (y_loadA tab rfl rfl rfl rfl (cells_row0 1 rfl rfl)) ?_)));refine ss (set_box tab 0 rfl rfl rfl rfl rfl rfl rfl) ?_;refine sa ?_;refine snf (c_ret (f_thenR ?_));exact f_ret ⟨(g, []), hV, hS⟩ (resA1 tab rfl rfl rfl rfl rfl rfl (cells_row0 0 rfl rfl)) (fun w h => h.tail.tail)
  obtain ⟨D, e', ho, hd⟩ : ∃ D e', A.Obt k l n true D e' ∧ ((e' ≠ 0 ∧ B = D ∧ e = e') ∨ (e' = 0 ∧ D.Mvd k ⟨true, l, n, a, b, []⟩ B e)) := by
    rcases hrest with ⟨ho, he, hrs⟩ | ⟨h, _⟩ | ⟨_, D, ho, hd, hrs⟩
    · exact ⟨B, e, ho, .inl ⟨he, rfl, rfl⟩⟩
    · cases h
    · exact ⟨D, 0, ho, .inr ⟨rfl, hd⟩⟩
  clear hrest hp;have hob := RObtain_spec (W := W) (N := N) (G := [(b12, row 42 z42)] :: [(b6, row 42 g.cells)] :: G) (x := ⟨k, l, n, true⟩) hV hS hO hts hh hs hnz ho;have g1 : (0 : Int) ≤ (l : Int) := by omega
  have g2 : (l : Int) ≤ (n : Int) := by omega
  have g3 : (n : Int) ≤ (g.size : Int) := by omega
  subst hk;refine sa ?_;refine snf (c_seq (csr (sm ?_)));refine sy (y_F (y_neq rfl rfl) (by omega)) ?_;refine snf (c_condF rfl (c_skip (f_then (c_seq (csr (sm ?_))))));refine sy (y_T (y_leq rfl rfl) (by assumption)) ?_;refine sm ?_;refine sm ?_;refine sm ?_;refine sy (y_T (y_leq rfl rfl) (by assumption)) ?_;refine spT ?_;refine sm ?_;refine sm ?_;refine sf0 ?_;refine sf0 ?_;refine slr 1 ?_;refine sy (y_T (y_leq rfl rfl) (by assumption)) ?_;refine spT ?_;refine sy (y_notT rfl) ?_;refine snf (c_condF rfl (c_skip (f_then (c_seq (csr (sm ?_))))));refine s_call (en_f rfl call71) (rtagT ⟨by omega, by omega⟩) rfl rfl rfl (fun _ => ?_);refine sy (y_notT rfl) ?_;refine sm ?_;refine sm ?_;refine s_call (en_f rfl call71) (rtagT ⟨by omega, by omega⟩) rfl rfl rfl (fun _ => ?_);refine sy (y_notT rfl) ?_;refine spF ?_;refine snf (c_condF rfl (c_skip (f_then (csr (sy (y_loadA tab rfl rfl rfl rfl (cells_row0 1 rfl rfl)) ?_)))));refine sm ?_;refine sm ?_;refine sm ?_;refine sy (y_build tab rfl rfl rfl rfl rfl) ?_;refine St.cls (C' := K W (N ++ ([(b12, row 42 z42)] :: [(b6, row 42 g.cells)] :: G))) ?_ (fun w h => K.n2 h);refine sk call84 hob fun y => ?_;obtain ⟨⟨h, T⟩, hRh, hSh⟩ := y;dsimp only at hRh hSh ⊢;refine St.cls (C' := K W ([(b12, row 42 z42)] :: [(b6, row 42 g.cells)] :: ((T ++ N) ++ G))) ?_ (fun w h => K.n2' h);have hgot := hO.obt hh hs hnz ho;rcases hd with ⟨he, rfl, rfl⟩ | ⟨rfl, hmv⟩
  · have hei : (e : Int) ≠ 0 := by omega
    refine sm ?_;refine sx ?_;refine sx ?_;refine ss (set_box tab 1 rfl rfl rfl rfl rfl rfl rfl) ?_;refine sa ?_;refine snf (c_seq (csr (sm ?_)));refine sy (y_T (y_neq rfl rfl) (by assumption)) ?_;refine snf (c_condT rfl (csr (sy (y_loadA tab rfl rfl rfl rfl (cells_row0 1 rfl rfl)) ?_)));refine sm ?_;refine ss (set_box tab 0 rfl rfl rfl rfl rfl rfl rfl) ?_;refine sa ?_;refine snf (c_ret (f_thenR ?_));exact f_ret ⟨(h, T), hRh, hSh⟩ (resA1 tab rfl rfl rfl rfl rfl rfl (cells_row0 0 rfl rfl)) (fun w h => by
      have := h.tail.tail;rw [List.append_assoc] at this;exact this)
  · obtain ⟨gs, gh, _⟩ := hgot.z rfl;have gI := hgot.ok.inv;have gr := gI.run hgot.hk gs;obtain ⟨t, ht, _, _, k1, k2, _⟩ := hSh.dt gr hgot.hk;obtain ⟨v1, v2, v3, v4⟩ := hSh.vw gI hm gr ht;have hseen := hSh.seen gI hm gr ht gh hln;have hvw := View_spec (W := W) (N := T ++ N) (G := [(b12, row 42 z42)] :: [(b6, row 42 h.cells)] :: G) hRh (k := k) ⟨k1, k2⟩ ht v1 v2 (by omega);refine sm ?_;refine sx ?_;refine sx ?_;refine ss (set_box tab 1 rfl rfl rfl rfl rfl rfl rfl) ?_;refine sa ?_;refine snf (c_seq (csr (sm ?_)));refine sy (y_F (y_neq rfl rfl) (by omega)) ?_;refine snf (c_condF rfl (c_skip (f_then (csr (sy (y_loadA tab rfl rfl rfl rfl (cells_row0 1 rfl rfl)) ?_)))));refine sm ?_;refine St.cls (C' := K W ((T ++ N) ++ ([(b12, row 42 z42)] :: [(b6, row 42 h.cells)] :: G))) ?_ (fun w h => K.n2 h);refine sk call85 hvw fun y => ?_;obtain ⟨⟨lm, T2⟩, hRm⟩ := y;dsimp only at hRm ⊢;refine St.cls (C' := K W ([(b12, row 42 z42)] :: [(b6, row 42 h.cells)] :: ((T2 ++ (T ++ N)) ++ G))) ?_ (fun w h => K.n2' h);have hrq := rcount_spec (hRm.cls (D := K W ([(b12, row 42 z42)] :: [(b6, row 42 h.cells)] :: ((T2 ++ (T ++ N)) ++ G))) fun w h => K.pre h.tail.tail) hln (by have : h.size = D.size := hSh.size; have := hgot.sm.1; omega) ha2;rw [hseen] at hrq;obtain ⟨cn, hcn⟩ : ∃ cn, cn = cntR a (rns D.W l n) := ⟨_, rfl⟩;have hall : (cn : Int) = (n : Int) - (l : Int) ↔ D.allT l n a := by rw [hcn]; exact cntR_all hln
    rw [← hcn] at hrq;have hzz := hI.sz.2;have hRh2 : RV (K W (T2 ++ (T ++ N))) h := hRh.cls fun w h => K.bck h;have eM : T2 ++ (T ++ N) = (T2 ++ T) ++ N := by simp
    refine sm ?_;refine sm ?_;refine sm ?_;refine sk call79 hrq fun _ => ?_;rcases hmv with ⟨hna, rfl, rfl⟩ | ⟨hya, hro, rfl, rfl⟩ | ⟨hya, hro, rfl, rfl⟩
    · have hnn : (cn : Int) ≠ (n : Int) - (l : Int) := fun h => hna (hall.1 h);rw [eM] at hRh2 ⊢;refine sm ?_;refine sx ?_;refine sx ?_;refine sa ?_;refine sa ?_;refine snf (c_seq (csr (sm ?_)));refine sm ?_;refine sm ?_;refine sy (y_sub rfl rfl (by omega)) ?_;refine sy (y_T (y_neq rfl rfl) (by assumption)) ?_;refine snf (c_condT rfl (csr (sy (y_loadA tab rfl rfl rfl rfl (cells_row0 1 rfl rfl)) ?_)));refine ss (set_box tab 0 rfl rfl rfl rfl rfl rfl rfl) ?_;refine sa ?_;refine snf (c_ret (f_thenR ?_));exact f_ret ⟨(h, T2 ++ T), hRh2, hSh⟩ (resA1 tab rfl rfl rfl rfl rfl rfl (cells_row0 0 rfl rfl)) (fun w h => by
        have := h.tail.tail;rw [List.append_assoc] at this;exact this)
    · have hnn : ¬ (cn : Int) ≠ (n : Int) - (l : Int) := fun h => h (hall.2 hya);have hrm := RRoom_spec (hRh2.cls (D := K W ([(b12, row 42 z42)] :: [(b6, row 42 h.cells)] :: ((T2 ++ (T ++ N)) ++ G))) fun w h => K.pre h.tail.tail) (hSh.osl gI hm) (by rw [hSh.rmv gI rfl]; have := gI.mvl; omega);rw [hSh.room gI, hro] at hrm;refine sm ?_;refine sx ?_;refine sx ?_;refine sa ?_;refine sa ?_;refine snf (c_seq (csr (sm ?_)));refine sm ?_;refine sm ?_;refine sy (y_sub rfl rfl (by omega)) ?_;refine sy (y_F (y_neq rfl rfl) (by assumption)) ?_;refine snf (c_condF rfl (c_skip (f_then (c_seq (csr (sy (y_loadA tab rfl rfl rfl rfl (cells_row0 1 rfl rfl)) ?_))))));refine sk call18 hrm fun _ => ?_;rw [eM] at hRh2 ⊢;refine sy (y_T (y_eql rfl rfl) (by omega)) ?_;refine snf (c_condT rfl (csr (sy (y_loadA tab rfl rfl rfl rfl (cells_row0 1 rfl rfl)) ?_)));refine ss (set_box tab 0 rfl rfl rfl rfl rfl rfl rfl) ?_;refine sa ?_;refine snf (c_ret (f_thenR ?_));exact f_ret ⟨(h, T2 ++ T), hRh2, hSh⟩ (resA1 tab rfl rfl rfl rfl rfl rfl (cells_row0 0 rfl rfl)) (fun w h => by
        have := h.tail.tail;rw [List.append_assoc] at this;exact this)
    · have hnn : ¬ (cn : Int) ≠ (n : Int) - (l : Int) := fun h => h (hall.2 hya);obtain ⟨rm, hrmm⟩ : ∃ rm, rm = D.room := ⟨_, rfl⟩;have hri : ¬ (rm : Int) = 0 := by omega
      have hrm := RRoom_spec (hRh2.cls (D := K W ([(b12, row 42 z42)] :: [(b6, row 42 h.cells)] :: ((T2 ++ (T ++ N)) ++ G))) fun w h => K.pre h.tail.tail) (hSh.osl gI hm) (by rw [hSh.rmv gI rfl]; have := gI.mvl; omega);rw [hSh.room gI, ← hrmm] at hrm;have hdn := done_spec (W := W) (N := T2 ++ (T ++ N)) (G := [(b12, row 42 z42)] :: [(b6, row 42 h.cells)] :: G) (k := k) (t := t) (o := (⟨true, l, n, a, b, []⟩, .slice none 0 0)) hRh2 ⟨k1, k2⟩ ht EV.empty v3;have hSd := hSh.done gI (k := k) (o := ⟨true, l, n, a, b, []⟩) (W := setf D.W l n b) hgot.hk gs;refine sm ?_;refine sx ?_;refine sx ?_;refine sa ?_;refine sa ?_;refine snf (c_seq (csr (sm ?_)));refine sm ?_;refine sm ?_;refine sy (y_sub rfl rfl (by omega)) ?_;refine sy (y_F (y_neq rfl rfl) (by assumption)) ?_;refine snf (c_condF rfl (c_skip (f_then (c_seq (csr (sy (y_loadA tab rfl rfl rfl rfl (cells_row0 1 rfl rfl)) ?_))))));refine sk call18 hrm fun _ => ?_;refine sy (y_F (y_eql rfl rfl) (by assumption)) ?_;refine snf (c_condF rfl (c_skip (f_then (csr (sy (y_loadA tab rfl rfl rfl rfl (cells_row0 1 rfl rfl)) ?_)))));refine sm ?_;refine sm ?_;refine sm ?_;refine sm ?_;refine sm ?_;refine sy (y_build tab rfl rfl rfl rfl rfl) ?_;refine St.cls (C' := K W ((T2 ++ (T ++ N)) ++ ([(b12, row 42 z42)] :: [(b6, row 42 h.cells)] :: G))) ?_ (fun w h => K.n2 h);refine sk call86 hdn fun y => ?_;obtain ⟨⟨h2, T3⟩, hR2, hb2⟩ := y;dsimp only at hR2 hb2 ⊢;refine St.cls (C' := K W ([(b12, row 42 z42)] :: [(b6, row 42 h.cells)] :: ((T3 ++ (T2 ++ (T ++ N))) ++ G))) ?_ (fun w h => K.n2' h);rw [← hb2] at hSd;have eM : T3 ++ (T2 ++ (T ++ N)) = (T3 ++ (T2 ++ T)) ++ N := by simp
      rw [eM] at hR2 ⊢;refine ss (set_box tab 0 rfl rfl rfl rfl rfl rfl rfl) ?_;refine sa ?_;refine snf (c_ret ?_);exact f_ret ⟨(h2, T3 ++ (T2 ++ T)), hR2, hSd⟩ (resA1 tab rfl rfl rfl rfl rfl rfl (cells_row0 0 rfl rfl)) (fun w h => by
        have := h.tail.tail;rw [List.append_assoc] at this;exact this)
end
end Go.KL
end

section
/- Walks: a call on both books: Move, Look; any call. -/
namespace Go.KL
open Go.Proofs Go.Proofs.Tryz
theorem K.d5 {W w : World} {L M G : List Chunk} {a b c d : Chunk} (h : K W (d :: (L ++ (M ++ (a :: b :: c :: G)))) w) : K W (d :: a :: b :: c :: (L ++ (M ++ G))) w := K.perm h fun x _ => by
  simp only [List.count_append, List.count_cons];omega
theorem K.d6 {W w : World} {L M G : List Chunk} {a b c d : Chunk} (h : K W (d :: a :: b :: c :: (L ++ (M ++ G))) w) : K W (M ++ (d :: a :: b :: c :: (L ++ G))) w := K.perm h fun x _ => by
  simp only [List.count_append, List.count_cons];omega
theorem K.d7 {W w : World} {T L M G : List Chunk} {a b c d : Chunk} (h : K W (T ++ (M ++ (d :: a :: b :: c :: (L ++ G)))) w) : K W (d :: a :: b :: c :: (L ++ (T ++ (M ++ G)))) w := K.perm h fun x _ => by
  simp only [List.count_append, List.count_cons];omega
theorem Rns.len {f : Nat → Nat} : ∀ {R : List Rn} {lo hi : Nat}, Rns f lo hi R → R.length ≤ hi - lo
  | [], _, _, _ => Nat.zero_le _
  | x :: R, lo, hi, h => by
    obtain ⟨e1, e2, e3, _, h5⟩ := h;have h6 := h5.len;have h7 := h5.le;rw [List.length_cons];omega
theorem Bk.Perf.runs {A B : Bk} {tx lo hi fr to : Int} {mv : Bool} {e : Nat} {rs : List Rn} (hp : A.Perf tx mv lo hi fr to B e rs) (ht : ∀ i, B.W i < 16) : rs.length ≤ A.size ∧ ∀ x ∈ rs, x.2.2 < 16 := by
  cases hp with
  | @look k l n a b D _ _ _ _ _ _ _ hr _ _ _ =>
    have h := rns_ok (f := D.W) hr.1;refine ⟨by have := h.len; omega, fun x hx => (rns_tags h ht x hx).2.1⟩
  | _ => exact ⟨Nat.zero_le _, fun x hx => by cases hx⟩
attribute [local irreducible] SC St Fin Sq Ylds Doos Sets Enters Spec CellIs CellsAre Then Ret Rnd Chn resOK ints bools recs arr
section
variable {W : World} {M G : List Chunk} {g : Bg} {r : Rg} {f : Nat → Int} {m : Nat}
theorem do_move (hB : g.OK) (hO : g.bk.Ok m) (hm : m < 100000) (hV : RV (K W M) r) (hS : Sm g.bk r.rb) (htl : g.ts.length < 100000) (hf : 0 ≤ f 0 ∧ f 0 < 256) (h0 : f 0 % 6 = 3) :
    Spec prog 16 #[.pointer (some ⟨g.b, 0, none⟩), r.val, clv f] (K W (g.L ++ (M ++ G))) (X := { x : Bg × Rg × List Chunk // DoR W M g f x }) (fun x => .tuple #[x.1.2.1.val, .bool true]) (fun x => K W (x.1.1.L ++ (x.1.2.2 ++ (M ++ G)))) := by
  have hbt : g.bk.ts.length = g.ts.length := by simp [Bg.bk]
  refine enter (args := [_, _, _]) func16 rfl ntmps16 rfl ?_;refine csr (sbx fun b4 => ?_);refine sbx fun b5 => ?_;refine sal fun b6 => ?_;refine sa ?_;refine snf (c_seq (csr (sf0 ?_)));refine slr 1 ?_;refine sy (y_remK rfl rfl (by omega)) ?_;refine snf (c_block (csr (sy (y_F (y_eql rfl rfl) (by omega)) ?_)));refine sa ?_;refine snf (c_condF rfl (csr (sy (y_T (y_eql rfl rfl) (by assumption)) ?_)));refine sa ?_;refine snf (c_condT rfl (csr (sm ?_)));refine sf 1 ?_;refine slr 1 ?_;refine sf 2 ?_;refine slr 1 ?_;refine sf 3 ?_;refine slr 1 ?_;refine sf 4 ?_;refine slr 1 ?_;refine sf 5 ?_;refine slr 1 ?_;refine St.cls (C' := K W (g.L ++ (M ++ ([(b6, row 42 z42)] :: [(b5, row 46 [.int .u8 (f 0), .int .i64 (f 1), .int .i64 (f 2), .int .i64 (f 3), .int .i64 (f 4), .int .i64 (f 5)])] :: [(b4, row 42 r.cells)] :: G)))) ?_ (fun w h => K.d1 h);have hc5 : CellsAre (K W (g.L ++ (M ++ ([(b6, row 42 z42)] :: [(b5, row 46 [.int .u8 (f 0), .int .i64 (f 1), .int .i64 (f 2), .int .i64 (f 3), .int .i64 (f 4), .int .i64 (f 5)])] :: [(b4, row 42 r.cells)] :: G)))) ⟨b5, 0, none⟩ (clv f).cells.toList := (cells_row0 (W := W) (Ls := [(b6, row 42 z42)] :: [(b5, row 46 [.int .u8 (f 0), .int .i64 (f 1), .int .i64 (f 2), .int .i64 (f 3), .int .i64 (f 4), .int .i64 (f 5)])] :: [(b4, row 42 r.cells)] :: G) 1 rfl rfl).cls fun w h => K.bck (K.bck h);skip;refine sk call27 (Move_b (N := M ++ ([(b6, row 42 z42)] :: [(b5, row 46 [.int .u8 (f 0), .int .i64 (f 1), .int .i64 (f 2), .int .i64 (f 3), .int .i64 (f 4), .int .i64 (f 5)])] :: [(b4, row 42 r.cells)] :: G)) (tx := f 1) (lo := f 2) (hi := f 3) (fr := f 4) (to := f 5) hB (hO.pre hm)) fun x => ?_;obtain ⟨⟨g', e, rs, v, c⟩, hB', hp', hA, _⟩ := x;dsimp only at hB' hp' hA ⊢;clear hc5;refine St.cls (C' := K W ([(b6, row 42 z42)] :: [(b5, row 46 [.int .u8 (f 0), .int .i64 (f 1), .int .i64 (f 2), .int .i64 (f 3), .int .i64 (f 4), .int .i64 (f 5)])] :: [(b4, row 42 r.cells)] :: (g'.L ++ (M ++ G)))) ?_ (fun w h => K.d2 h.tail);have hbg := RMove_spec (W := W) (N := M) (G := [(b6, row 42 z42)] :: [(b5, row 46 [.int .u8 (f 0), .int .i64 (f 1), .int .i64 (f 2), .int .i64 (f 3), .int .i64 (f 4), .int .i64 (f 5)])] :: [(b4, row 42 r.cells)] :: (g'.L ++ G)) hV hS hO hm (by omega) hp';refine sa ?_;refine snf (csr (sy (y_loadA tab rfl rfl rfl rfl (cells_row0 2 rfl rfl)) ?_));refine sf 1 ?_;refine slr 1 ?_;refine sf 2 ?_;refine slr 1 ?_;refine sf 3 ?_;refine slr 1 ?_;refine sf 4 ?_;refine slr 1 ?_;refine sf 5 ?_;refine slr 1 ?_;refine St.cls (C' := K W (M ++ ([(b6, row 42 z42)] :: [(b5, row 46 [.int .u8 (f 0), .int .i64 (f 1), .int .i64 (f 2), .int .i64 (f 3), .int .i64 (f 4), .int .i64 (f 5)])] :: [(b4, row 42 r.cells)] :: (g'.L ++ G)))) ?_ (fun w h => K.d3 h);refine sk call48 hbg fun x => ?_;obtain ⟨⟨r', T⟩, hV', hSm⟩ := x;dsimp only at hV' hSm ⊢;refine St.cls (C' := K W ([(b6, row 42 z42)] :: [(b5, row 46 [.int .u8 (f 0), .int .i64 (f 1), .int .i64 (f 2), .int .i64 (f 3), .int .i64 (f 4), .int .i64 (f 5)])] :: [(b4, row 42 r.cells)] :: (g'.L ++ (T ++ (M ++ G))))) ?_ (fun w h => K.d4 h);have hee : (e : Int) = (e : Int) := rfl;refine sm ?_;refine sx ?_;refine sx ?_;refine sal fun b14 => ?_;refine ss (set_box tab 0 rfl rfl rfl rfl rfl rfl rfl) ?_;refine sa ?_;refine snf (csr (sy (y_loadA tab rfl rfl rfl rfl (cells_row0 0 rfl rfl)) ?_));refine sm ?_;refine sm ?_;refine sy (y_T (y_eql rfl rfl) (by assumption)) ?_;refine ss (set_box tab 1 rfl rfl rfl rfl rfl rfl rfl) ?_;refine sa ?_;refine snf (c_ret (f_blockR (f_thenR ?_)));exact f_ret ⟨(g', r', T), hB', hA.b, .inr (.inr (.inl ⟨h0, _, _, hp'⟩)), hV', hSm⟩ (resA1 tab rfl rfl rfl rfl rfl rfl (cells_row0 1 rfl rfl)) (fun w h => ((h.dropAt 0).dropAt 0 |>.dropAt 0).dropAt 0)
theorem do_look (hB : g.OK) (hO : g.bk.Ok m) (hm : m < 100000) (hV : RV (K W M) r) (hS : Sm g.bk r.rb) (htl : g.ts.length < 100000) (hsz : g.size < 100000) (hf : 0 ≤ f 0 ∧ f 0 < 256) (h0 : f 0 % 6 = 1 ∨ f 0 % 6 = 2) :
    Spec prog 16 #[.pointer (some ⟨g.b, 0, none⟩), r.val, clv f] (K W (g.L ++ (M ++ G))) (X := { x : Bg × Rg × List Chunk // DoR W M g f x }) (fun x => .tuple #[x.1.2.1.val, .bool true]) (fun x => K W (x.1.1.L ++ (x.1.2.2 ++ (M ++ G)))) := by
  have hbt : g.bk.ts.length = g.ts.length := by simp [Bg.bk]
  have h00 : ¬ f 0 % 6 = 0 := by omega
  have h03 : ¬ f 0 % 6 = 3 := by omega
  have h04 : ¬ f 0 % 6 = 4 := by omega
  have h05 : ¬ f 0 % 6 = 5 := by omega
  refine enter (args := [_, _, _]) func16 rfl ntmps16 rfl ?_;refine csr (sbx fun b4 => ?_);refine sbx fun b5 => ?_;refine sal fun b6 => ?_;refine sa ?_;refine snf (c_seq (csr (sf0 ?_)));refine slr 1 ?_;refine sy (y_remK rfl rfl (by omega)) ?_;refine snf (c_block (csr (sy (y_F (y_eql rfl rfl) (by assumption)) ?_)));refine sa ?_;refine snf (c_condF rfl (csr (sy (y_F (y_eql rfl rfl) (by assumption)) ?_)));refine sa ?_;refine snf (c_condF rfl (csr (sy (y_F (y_eql rfl rfl) (by assumption)) ?_)));refine sa ?_;refine snf (c_condF rfl (csr (sy (y_F (y_eql rfl rfl) (by assumption)) ?_)));refine sa ?_;refine snf (c_condF rfl (c_skip (f_blockN (f_then (csr (sm ?_))))));refine sf 1 ?_;refine slr 1 ?_;refine sf 2 ?_;refine slr 1 ?_;refine sf 3 ?_;refine slr 1 ?_;refine St.cls (C' := K W (g.L ++ (M ++ ([(b6, row 42 z42)] :: [(b5, row 46 [.int .u8 (f 0), .int .i64 (f 1), .int .i64 (f 2), .int .i64 (f 3), .int .i64 (f 4), .int .i64 (f 5)])] :: [(b4, row 42 r.cells)] :: G)))) ?_ (fun w h => K.d1 h);have hc5 : CellsAre (K W (g.L ++ (M ++ ([(b6, row 42 z42)] :: [(b5, row 46 [.int .u8 (f 0), .int .i64 (f 1), .int .i64 (f 2), .int .i64 (f 3), .int .i64 (f 4), .int .i64 (f 5)])] :: [(b4, row 42 r.cells)] :: G)))) ⟨b5, 0, none⟩ (clv f).cells.toList := (cells_row0 (W := W) (Ls := [(b6, row 42 z42)] :: [(b5, row 46 [.int .u8 (f 0), .int .i64 (f 1), .int .i64 (f 2), .int .i64 (f 3), .int .i64 (f 4), .int .i64 (f 5)])] :: [(b4, row 42 r.cells)] :: G) 1 rfl rfl).cls fun w h => K.bck (K.bck h);skip;refine sk call28 (Look_b (N := M ++ ([(b6, row 42 z42)] :: [(b5, row 46 [.int .u8 (f 0), .int .i64 (f 1), .int .i64 (f 2), .int .i64 (f 3), .int .i64 (f 4), .int .i64 (f 5)])] :: [(b4, row 42 r.cells)] :: G)) (tx := f 1) (lo := f 2) (hi := f 3) hB (hO.pre hm)) fun x => ?_;obtain ⟨⟨g', e, rs, v, c⟩, hB', hp', hA, hBv⟩ := x;dsimp only at hB' hp' hA hBv ⊢;clear hc5;obtain ⟨hrl, hrt⟩ := hp'.runs (fun i => hB'.mW.tag i);have hrl : rs.length ≤ g.size := hrl;refine St.cls (C' := K W (c :: [(b6, row 42 z42)] :: [(b5, row 46 [.int .u8 (f 0), .int .i64 (f 1), .int .i64 (f 2), .int .i64 (f 3), .int .i64 (f 4), .int .i64 (f 5)])] :: [(b4, row 42 r.cells)] :: (g'.L ++ (M ++ G)))) ?_ (fun w h => K.d5 h);have hbg := RLook_spec (W := W) (N := M) (G := c :: [(b6, row 42 z42)] :: [(b5, row 46 [.int .u8 (f 0), .int .i64 (f 1), .int .i64 (f 2), .int .i64 (f 3), .int .i64 (f 4), .int .i64 (f 5)])] :: [(b4, row 42 r.cells)] :: (g'.L ++ G)) hV hS hO hm (by omega) hp';refine sm ?_;refine sx ?_;refine sx ?_;refine sa ?_;refine sa ?_;refine snf (csr (sy (y_loadA tab rfl rfl rfl rfl (cells_row0 3 rfl rfl)) ?_));refine sf 1 ?_;refine slr 2 ?_;refine sf 2 ?_;refine slr 2 ?_;refine sf 3 ?_;refine slr 2 ?_;refine St.cls (C' := K W (M ++ (c :: [(b6, row 42 z42)] :: [(b5, row 46 [.int .u8 (f 0), .int .i64 (f 1), .int .i64 (f 2), .int .i64 (f 3), .int .i64 (f 4), .int .i64 (f 5)])] :: [(b4, row 42 r.cells)] :: (g'.L ++ G)))) ?_ (fun w h => K.d6 h);refine sk call51 hbg fun x => ?_;obtain ⟨⟨r', T, v'⟩, hV', hSm, hEv⟩ := x;dsimp only at hV' hSm hEv ⊢;refine St.cls (C' := K W (c :: [(b6, row 42 z42)] :: [(b5, row 46 [.int .u8 (f 0), .int .i64 (f 1), .int .i64 (f 2), .int .i64 (f 3), .int .i64 (f 4), .int .i64 (f 5)])] :: [(b4, row 42 r.cells)] :: (g'.L ++ (T ++ (M ++ G))))) ?_ (fun w h => K.d7 h);have hee : (e : Int) = (e : Int) := rfl;have hal := fun (C : Chunk) => alike_spec (W := W) (N := c :: [(b6, row 42 z42)] :: [(b5, row 46 [.int .u8 (f 0), .int .i64 (f 1), .int .i64 (f 2), .int .i64 (f 3), .int .i64 (f 4), .int .i64 (f 5)])] :: C :: (g'.L ++ (T ++ (M ++ G)))) (hBv.view (Hs.at 0 rfl)) (hEv.cls fun w h => K.pre2 (K.bck h.tail.tail.tail.tail)) (by omega);rw [decide_eq_true rfl] at hal;refine sm ?_;refine sx ?_;refine sx ?_;refine sx ?_;refine ss (set_box tab 3 rfl rfl rfl rfl rfl rfl rfl) ?_;refine sa ?_;refine sa ?_;refine snf (csr (sm ?_));refine sm ?_;refine sk call34 (hal _) fun _ => ?_;clear hal;refine sm ?_;refine sm ?_;refine sm ?_;refine sy (y_T (y_eql rfl rfl) (by assumption)) ?_;refine spT ?_;refine sa ?_;refine snf (c_seq (csr (sa ?_)));refine snf (c_block ?_);obtain ⟨B4', hB4⟩ : ∃ B4' : Chunk, B4' = [(b4, row 42 r'.cells)] := ⟨_, rfl⟩;refine SC.cls (C' := K W (c :: [(b6, row 42 z42)] :: [(b5, row 46 [.int .u8 (f 0), .int .i64 (f 1), .int .i64 (f 2), .int .i64 (f 3), .int .i64 (f 4), .int .i64 (f 5)])] :: [(b4, row 42 r'.cells)] :: (g'.L ++ (T ++ (M ++ G))))) ?_ (fun w h => h);refine c_loopP (α := Nat × Chunk × List Rn) (fun z => [(4, .pointer (some ⟨b4, 0, none⟩)), (6, .pointer (some ⟨b6, 0, none⟩)), (24, v), (28, .bool true), (29, .int .i64 (z.1 : Nat))])
    (fun z => z.1 ≤ rs.length ∧ z.2.2.length = rs.length ∧ BufR 26 3 v z.2.1 (rnl z.2.2) ∧ ∀ j, z.1 ≤ j → z.2.2[j]? = rs[j]?)
    (fun z => K W (z.2.1 :: [(b6, row 42 z42)] :: [(b5, row 46 [.int .u8 (f 0), .int .i64 (f 1), .int .i64 (f 2), .int .i64 (f 3), .int .i64 (f 4), .int .i64 (f 5)])] :: [(b4, row 42 r'.cells)] :: (g'.L ++ (T ++ (M ++ G))))) (fun z => rs.length - z.1) (0, c, rs) ⟨rfl, rfl, rfl, rfl, rfl, trivial⟩ ⟨Nat.zero_le _, rfl, hBv, fun _ _ => rfl⟩ (fun w h => h) ?_
  clear hBv hB4;rintro ⟨i, c, R⟩ ⟨hi, hRl, hBR, hRe⟩;dsimp only at hi hRl hBR hRe ⊢;have hlr : (rnl R).length = R.length := List.length_map _;have hER : EV (K W (c :: [(b6, row 42 z42)] :: [(b5, row 46 [.int .u8 (f 0), .int .i64 (f 1), .int .i64 (f 2), .int .i64 (f 3), .int .i64 (f 4), .int .i64 (f 5)])] :: [(b4, row 42 r'.cells)] :: (g'.L ++ (T ++ (M ++ G))))) v 3 (rnl R) := hBR.view (Hs.at 0 rfl);by_cases ci : i < rs.length
  · obtain ⟨x, hx⟩ : ∃ x, R[i]? = some x := ⟨R[i]'(by omega), List.getElem?_eq_getElem (by omega)⟩;have hxm : x ∈ rs := List.mem_of_getElem? (by rw [← hRe i (Nat.le_refl _)]; exact hx);have hxt := hrt x hxm;have hrow := hER.row (rnl_get hx);obtain ⟨o, l, hv, hc, hlt, hput⟩ := hBR.put (rnl_get hx) (show 2 < 3 by decide);have hup : BufR 26 3 v [(o.b, row 26 (l.set (i * 3 + 2) (.int .i64 ((x.2.2 : Int) + 1))))] (rnl (R.set i (x.1, x.2.1, x.2.2 + 1))) := (hput (.int .i64 ((x.2.2 : Int) + 1))).of (by
      rw [rnl, rnl, List.map_set];rfl)
    rw [hlr] at hv;subst hv hc;refine c_seq (csr (sm ?_));refine sm ?_;refine sy (y_lenE tab rfl (hER) rfl) ?_;refine sy (y_T (y_lss rfl rfl) (by omega)) ?_;refine snf (c_condT rfl (c_skip (f_then (c_seq (c_block (c_region (sm ?_)))))));refine sm ?_;refine sy (y_ixE tab rfl rfl rfl rfl (hER) _ rfl (by omega)) ?_;refine sy (y_fieldAddr tab 2 rfl rfl rfl rfl rfl) ?_;refine sl (CellsAre.nth 2 (hrow) rfl) ?_;refine sy (y_add rfl rfl (by omega)) ?_;refine sy (y_ixE tab rfl rfl rfl rfl (hER) _ rfl (by omega)) ?_;refine sy (y_fieldAddr tab 2 rfl rfl rfl rfl rfl) ?_;refine ss (set_row tab 0 rfl rfl rfl rfl rfl (show 0 + i * 3 + 2 < l.length by omega)) ?_;refine St.cls (C' := K W ([(o.b, row 26 (l.set (i * 3 + 2) (.int .i64 ((x.2.2 : Int) + 1))))] :: [(b6, row 42 z42)] :: [(b5, row 46 [.int .u8 (f 0), .int .i64 (f 1), .int .i64 (f 2), .int .i64 (f 3), .int .i64 (f 4), .int .i64 (f 5)])] :: [(b4, row 42 r'.cells)] :: (g'.L ++ (T ++ (M ++ G))))) ?_ (fun w h => by rw [show i * 3 + 2 = 0 + i * 3 + 2 from by omega]; exact h);refine s_nil (f_blockN (f_then (c_region (sm ?_))));refine sy (y_add rfl rfl (by omega)) ?_;refine sa ?_;refine s_nil (f_roundP (i + 1, _, R.set i (x.1, x.2.1, x.2.2 + 1)) ⟨ci, by dsimp only; rw [List.length_set]; exact hRl, hup, fun j hj => ?_⟩ (by dsimp only; omega) ⟨rfl, rfl, rfl, rfl, rfl, trivial⟩ (fun w h => h));dsimp only at hj ⊢;rw [List.getElem?_set_ne (by omega)];exact hRe j (by omega)
  · obtain rfl : i = rs.length := by omega
    refine c_seq (csr (sm ?_));refine sm ?_;refine sy (y_lenE tab rfl (hER) rfl) ?_;refine sy (y_F (y_lss rfl rfl) (by omega)) ?_;refine snf (c_condF rfl (c_exit (f_thenE (f_rndE (f_blockE (f_then (csr (sy (y_loadA tab rfl rfl rfl rfl (cells_row0 3 rfl rfl)) ?_))))))));refine sm ?_;refine ss (set_box tab 1 rfl rfl rfl rfl rfl rfl rfl) ?_;refine sa ?_;refine snf (c_ret ?_);exact f_ret ⟨(g', r', T), hB', hA.b, .inr (.inl ⟨h0, _, _, hp'⟩), hV', hSm⟩ (resA1 tab rfl rfl rfl rfl rfl rfl (cells_row0 1 rfl rfl)) (fun w h => ((h.dropAt 0).dropAt 0 |>.dropAt 0).dropAt 0)
theorem do_spec (hB : g.OK) (hO : g.bk.Ok m) (hm : m < 100000) (hV : RV (K W M) r) (hS : Sm g.bk r.rb) (htl : g.ts.length < 90000) (hll : g.ls.length < 100000) (hsz : g.size < 100000) (hf : 0 ≤ f 0 ∧ f 0 < 256) :
    Spec prog 16 #[.pointer (some ⟨g.b, 0, none⟩), r.val, clv f] (K W (g.L ++ (M ++ G))) (X := { x : Bg × Rg × List Chunk // DoR W M g f x }) (fun x => .tuple #[x.1.2.1.val, .bool true]) (fun x => K W (x.1.1.L ++ (x.1.2.2 ++ (M ++ G)))) := by
  rcases (show f 0 % 6 = 0 ∨ (f 0 % 6 = 1 ∨ f 0 % 6 = 2) ∨ f 0 % 6 = 3 ∨ f 0 % 6 = 4 ∨ f 0 % 6 = 5 by omega) with h | h | h | h | h
  · exact do_begin hB hO hV hS (by omega) hf h
  · exact do_look hB hO hm hV hS (by omega) hsz hf h
  · exact do_move hB hO hm hV hS (by omega) hf h
  · exact do_commit hB hO hm hV hS hll hf h
  · exact do_abort hB hO hm hV hS hf h
end
end Go.KL
end

section
/- The map of ClerkRoom: three pieces to a run; plain. No program in sight. -/
namespace Go.KL
def rmf (c i : Nat) : Nat := if i < 3 * c then i / 3 % 2 else 0
def rml (c : Nat) : List Rn := (List.range c).map fun i => (3 * i, 3 * i + 3, i % 2)
theorem rml_snoc (c : Nat) : rml (c + 1) = rml c ++ [(3 * c, 3 * c + 3, c % 2)] := by
  rw [rml, List.range_succ, List.map_append];rfl
theorem rml_len (c : Nat) : (rml c).length = c := by simp [rml]
theorem rml_rns {c : Nat} : ∀ (k j : Nat), j + k = c → Rns (rmf c) (3 * j) (3 * c) ((List.range' j k).map fun i => (3 * i, 3 * i + 3, i % 2))
  | 0, j, h => by
    show 3 * j = 3 * c;omega
  | k + 1, j, h => by
    rw [List.range'_succ, List.map_cons];refine ⟨rfl, by show 3 * j < 3 * j + 3; omega, fun i h1 h2 => ?_, fun y hy => ?_, ?_⟩
    · have h1 : 3 * j ≤ i := h1;have h2 : i < 3 * j + 3 := h2;show rmf c i = j % 2;rw [rmf, if_pos (by omega)];omega
    · cases k with
      | zero => simp at hy
      | succ k =>
        rw [List.range'_succ, List.map_cons, List.head?_cons] at hy;obtain rfl : (3 * (j + 1), 3 * (j + 1) + 3, (j + 1) % 2) = y := by simpa using hy
        show (j + 1) % 2 ≠ j % 2;omega
    · have := rml_rns (c := c) k (j + 1) (by omega);rw [show 3 * (j + 1) = 3 * j + 3 by omega] at this;exact this
theorem rml_eq (c : Nat) : rml c = rns (rmf c) 0 (3 * c) := by
  have := (rml_rns (c := c) c 0 (by omega)).eq;rw [← List.range_eq_range'] at this;exact this
theorem rmf_ok {c : Nat} (h1 : 1 ≤ c) (h2 : c ≤ 4096) : RunsOK (3 * c) (rmf c) := by
  refine ⟨by omega, ?_, fun i => ?_, fun i hi => ?_⟩
  · rw [← rns_len, ← rml_eq, rml_len];exact h2
  · unfold rmf;split <;> omega
  · rw [rmf, if_neg (by omega)]
end Go.KL
end
