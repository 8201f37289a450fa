/- ClerkLocks: for every input the law returns true, and its arguments read as they did. No condition. -/
import Derived.Test.YtcbmmldkpicaiaaGreatRows
import Derived.JoinedOf
import Derived.Handed
import Derived.Test.YtcbmmldkpicaiaaGreatLocL7
section
/- The law: ClerkLocks. -/
namespace Go.KL
open Go.Proofs
theorem Bk.P1_len {wr : Bool} {i : Nat} : (Bk.P1 wr i).ts.length = 2 := rfl
attribute [local irreducible] SC St Fin Sq Ylds Doos Sets Enters Spec CellIs CellsAre Then Ret Rnd Chn resOK ints bools recs arr
set_option maxRecDepth 10000 in
set_option maxHeartbeats 16000000 in
theorem locks_spec {W : World} {N : List Chunk} {z : Int} {wr cm : Bool} (hz : 0 ≤ z ∧ z < 65536) : Spec Tryz.prog 5 #[.int .u16 z, .bool wr, .bool cm] (K W N) (fun _ : Unit => .bool true) (fun _ => K W N) := by
  obtain ⟨cnt, hcnt⟩ : ∃ c : Nat, (c : Int) = 1000 + z % 30 := ⟨(1000 + z % 30).toNat, by omega⟩
  have hc1 : cnt < 1030 := by omega
  refine enter (args := [_, _, _]) Tryz.func5 rfl Tryz.ntmps5 rfl ?_
  refine c_seq ?_
  refine c_region ?_
  refine s_y (y_assign rfl) rfl rfl rfl ?_
  refine s_nil ?_
  refine f_then ?_
  refine c_seq ?_
  refine c_region ?_
  refine St.cls (C' := K W ([] :: N)) ?_ (fun w h => h.addNil)
  refine s_call (en_f rfl Tryz.call25) (mnew_spec (n := 3000) (R := N) (by decide) (by decide)) rfl rfl rfl (fun x => ?_)
  obtain ⟨⟨p, v⟩, hS, hM⟩ := x
  dsimp only at hS hM ⊢
  obtain ⟨a, rfl⟩ := hM.ptr
  refine s_y (y_move rfl) rfl rfl rfl ?_
  refine s_y (y_extract rfl rfl) rfl rfl rfl ?_
  refine s_y (y_extract rfl rfl) rfl rfl rfl ?_
  refine s_do (do_alloc Tryz.tab rfl) rfl rfl rfl (fun b7 => ?_)
  refine s_set (set_box Tryz.tab 0 rfl rfl rfl rfl rfl rfl rfl) rfl rfl ?_
  refine s_y (y_assign rfl) rfl rfl rfl ?_
  refine s_nil ?_
  refine f_then ?_
  refine c_seq ?_
  refine c_region ?_
  refine s_y (y_loadA Tryz.tab rfl rfl rfl rfl (cells_row0 0 rfl rfl)) rfl rfl rfl ?_
  refine St.cls (C' := K W (p :: [(b7, row 29 [.pointer (some a)])] :: N)) ?_ (fun w h => K.front 1 h)
  refine s_call (en_f rfl Tryz.call15) (New_b (N := [(b7, row 29 [.pointer (some a)])] :: N) hM) rfl rfl rfl (fun x => ?_)
  obtain ⟨g0, hB0, hb0, _⟩ := x
  dsimp only
  have hr0 : g0.rn = [] := congrArg Bk.rn hb0
  have ht0 : g0.ts.length = 0 := by
    have := congrArg (fun A : Bk => A.ts.length) hb0
    simpa [Bg.bk, Bk.fresh] using this
  refine s_y (y_move rfl) rfl rfl rfl ?_
  refine s_y (y_extract rfl rfl) rfl rfl rfl ?_
  refine s_y (y_extract rfl rfl) rfl rfl rfl ?_
  refine s_y (y_assign rfl) rfl rfl rfl ?_
  refine s_y (y_assign rfl) rfl rfl rfl ?_
  refine s_nil ?_
  refine f_then ?_
  refine c_seq ?_
  refine c_region ?_
  refine s_y (y_move rfl) rfl rfl rfl ?_
  refine s_call (en_f rfl Tryz.call26) (Begin_b (N := [(b7, row 29 [.pointer (some a)])] :: N) hB0 (by omega)) rfl rfl rfl (fun x => ?_)
  obtain ⟨⟨g1, n1, e1⟩, hB1, hbb1, hc1⟩ := x
  dsimp only at hB1 hbb1 hc1 ⊢
  rcases hc1 with ⟨h, _⟩ | ⟨_, hb1, he1⟩
  · rw [hr0] at h
    exact absurd h (by decide)
  obtain ⟨rfl, rfl⟩ := Prod.mk.inj he1
  rw [hb0] at hb1
  have ht1 : g1.ts.length = 1 := by
    have := congrArg (fun A : Bk => A.ts.length) hb1
    simpa [Bg.bk, Bk.fresh, Bk.begin] using this
  have hr1 : g1.rn.length = 1 := congrArg (fun A : Bk => A.rn.length) hb1
  have hB1b := Begin_b (W := W) (N := [(b7, row 29 [.pointer (some a)])] :: N) hB1 (by omega)
  rw [hbb1] at hB1b
  rw [ht0]
  refine s_y (y_move rfl) rfl rfl rfl ?_
  refine s_y (y_extract rfl rfl) rfl rfl rfl ?_
  refine s_y (y_extract rfl rfl) rfl rfl rfl ?_
  refine s_y (y_assign rfl) rfl rfl rfl ?_
  refine s_y (y_assign rfl) rfl rfl rfl ?_
  refine s_nil ?_
  refine f_then ?_
  refine c_seq ?_
  refine c_region ?_
  refine s_y (y_move rfl) rfl rfl rfl ?_
  refine s_call (en_f rfl Tryz.call26) hB1b rfl rfl rfl (fun x => ?_)
  obtain ⟨⟨g2, n2, e2⟩, hB2, hbb2, hc2⟩ := x
  dsimp only at hB2 hbb2 hc2 ⊢
  rcases hc2 with ⟨h, _⟩ | ⟨_, hb2, he2⟩
  · omega
  obtain ⟨rfl, rfl⟩ := Prod.mk.inj he2
  rw [hb1] at hb2
  change g2.bk = Bk.P1 wr 0 at hb2
  rw [ht1]
  refine s_y (y_move rfl) rfl rfl rfl ?_
  refine s_y (y_extract rfl rfl) rfl rfl rfl ?_
  refine s_y (y_extract rfl rfl) rfl rfl rfl ?_
  refine s_y (y_assign rfl) rfl rfl rfl ?_
  refine s_y (y_assign rfl) rfl rfl rfl ?_
  refine s_nil ?_
  refine f_then ?_
  refine c_seq ?_
  refine c_seq ?_
  refine c_region ?_
  refine s_y (y_move rfl) rfl rfl rfl ?_
  refine s_y (y_F (y_neq rfl rfl) (by omega)) rfl rfl rfl ?_
  refine s_y (y_move rfl) rfl rfl rfl ?_
  refine s_y (y_move rfl) rfl rfl rfl ?_
  refine s_y (y_F (y_neq rfl rfl) (by omega)) rfl rfl rfl ?_
  refine s_y (y_pickF rfl rfl) rfl rfl rfl ?_
  refine s_y (y_move rfl) rfl rfl rfl ?_
  refine s_y (y_move rfl) rfl rfl rfl ?_
  refine s_y (y_F (y_neq rfl rfl) (by omega)) rfl rfl rfl ?_
  refine s_y (y_pickF rfl rfl) rfl rfl rfl ?_
  refine s_y (y_move rfl) rfl rfl rfl ?_
  refine s_y (y_move rfl) rfl rfl rfl ?_
  refine s_y (y_F (y_neq rfl rfl) (by omega)) rfl rfl rfl ?_
  refine s_y (y_pickF rfl rfl) rfl rfl rfl ?_
  refine s_nil ?_
  refine f_then ?_
  refine c_condF rfl ?_
  refine c_skip ?_
  refine f_then ?_
  refine c_seq ?_
  refine c_region ?_
  refine s_y (y_move rfl) rfl rfl rfl ?_
  refine s_y (y_remK rfl rfl (by omega)) rfl rfl rfl ?_
  refine s_y (y_toI Tryz.tab rfl rfl rfl (by omega)) rfl rfl rfl ?_
  refine s_y (y_add rfl rfl (by omega)) rfl rfl rfl ?_
  refine s_y (y_assign rfl) rfl rfl rfl ?_
  refine s_nil ?_
  refine f_then ?_
  refine c_seq ?_
  refine c_seq ?_
  refine c_region ?_
  refine s_y (y_assign rfl) rfl rfl rfl ?_
  refine s_nil ?_
  refine f_then ?_
  refine c_block ?_
  rw [← hcnt]
  refine c_loopP (α := Nat × Bg) (fun y => [(1, .bool wr), (2, .bool cm), (9, .pointer (some ⟨g0.b, 0, none⟩)), (11, .int .i64 1), (13, .int .i64 2), (15, .int .i64 (cnt : Int)), (16, .int .i64 (y.1 : Int))])
    (fun y => y.1 ≤ cnt ∧ y.2.OK ∧ y.2.b = g0.b ∧ y.2.bk = Bk.P1 wr y.1) (fun y => K W (y.2.L ++ ([(b7, row 29 [.pointer (some a)])] :: N))) (fun y => cnt - y.1) (0, g2) ⟨rfl, rfl, rfl, rfl, rfl, rfl, rfl, trivial⟩ ⟨Nat.zero_le _, hB2, hbb2, hb2⟩ (fun w h => h) ?_
  clear hB2 hbb2 hb2 hB1 hbb1 hb1 hB1b hB0 hb0
  rintro ⟨i, g⟩ ⟨hi, hB, hbb, hb⟩
  dsimp only at hi hB hbb hb ⊢
  by_cases c : i < cnt
  · cases wr with
    | true =>
      have hM := Move_b (W := W) (N := [(b7, row 29 [.pointer (some a)])] :: N) (tx := 1) (lo := (2 * i : Nat)) (hi := (2 * i + 1 : Nat)) (fr := (0 : Nat)) (to := (0 : Nat)) hB (by rw [hb]; exact Bk.P1_pre)
      rw [hbb] at hM
      rw [show ((2 * i : Nat) : Int) = 2 * (i : Int) by omega, show ((2 * i + 1 : Nat) : Int) = 2 * (i : Int) + 1 by omega] at hM
      refine c_seq ?_
      refine c_seq ?_
      refine c_region ?_
      refine s_y (y_move rfl) rfl rfl rfl ?_
      refine s_y (y_move rfl) rfl rfl rfl ?_
      refine s_y (y_T (y_lss rfl rfl) (by omega)) rfl rfl rfl ?_
      refine s_nil ?_
      refine f_then ?_
      refine c_condT rfl ?_
      refine c_skip ?_
      refine f_then ?_
      refine c_seq ?_
      refine c_block ?_
      refine c_seq ?_
      refine c_region ?_
      refine s_y (y_assign rfl) rfl rfl rfl ?_
      refine s_nil ?_
      refine f_then ?_
      refine c_seq ?_
      refine c_seq ?_
      refine c_region ?_
      refine s_y (y_move rfl) rfl rfl rfl ?_
      refine s_nil ?_
      refine f_then ?_
      refine c_condT rfl ?_
      refine c_region ?_
      refine s_y (y_move rfl) rfl rfl rfl ?_
      refine s_y (y_move rfl) rfl rfl rfl ?_
      refine s_y (y_move rfl) rfl rfl rfl ?_
      refine s_y (y_mul rfl rfl (by omega)) rfl rfl rfl ?_
      refine s_y (y_move rfl) rfl rfl rfl ?_
      refine s_y (y_mul rfl rfl (by omega)) rfl rfl rfl ?_
      refine s_y (y_add rfl rfl (by omega)) rfl rfl rfl ?_
      refine s_call (en_f rfl Tryz.call27) hM rfl rfl rfl (fun x => ?_)
      obtain ⟨⟨g', e, rs, v, c'⟩, hB', hp', hA', _⟩ := x
      dsimp only at hB' hp' hA' ⊢
      rw [hb] at hp'
      obtain ⟨he, hb'⟩ := Bk.P1_step hp' (by omega)
      by_cases c2 : i < 1024
      · rw [if_pos c2] at he
        subst he
        refine s_y (y_assign rfl) rfl rfl rfl ?_
        refine s_nil ?_
        refine f_then ?_
        refine c_seq ?_
        refine c_region ?_
        refine s_y (y_move rfl) rfl rfl rfl ?_
        refine s_y (y_T (y_lss rfl rfl) (by omega)) rfl rfl rfl ?_
        refine s_y (y_move rfl) rfl rfl rfl ?_
        refine s_y (y_move rfl) rfl rfl rfl ?_
        refine s_y (y_F (y_neq rfl rfl) (by omega)) rfl rfl rfl ?_
        refine s_y (y_pickT rfl rfl) rfl rfl rfl ?_
        refine s_y (y_move rfl) rfl rfl rfl ?_
        refine s_y (y_move rfl) rfl rfl rfl ?_
        refine s_y (y_F (y_geq rfl rfl) (by omega)) rfl rfl rfl ?_
        refine s_y (y_move rfl) rfl rfl rfl ?_
        iterate 2 refine s_skip rfl rfl rfl ?_
        refine s_y (y_pickF rfl rfl) rfl rfl rfl ?_
        refine s_y (y_pickF rfl rfl) rfl rfl rfl ?_
        refine s_nil ?_
        refine f_then ?_
        refine c_condF rfl ?_
        refine c_skip ?_
        refine f_blockN ?_
        refine f_then ?_
        refine c_region ?_
        refine s_y (y_move rfl) rfl rfl rfl ?_
        refine s_y (y_add rfl rfl (by omega)) rfl rfl rfl ?_
        refine s_y (y_assign rfl) rfl rfl rfl ?_
        refine s_nil ?_
        exact f_roundP (i + 1, g') ⟨c, hB', hA'.b.trans hbb, hb'⟩ (by dsimp only; omega) ⟨rfl, rfl, rfl, rfl, rfl, rfl, rfl, trivial⟩ (fun w h => h.tail)
      · rw [if_neg c2] at he
        subst he
        refine s_y (y_assign rfl) rfl rfl rfl ?_
        refine s_nil ?_
        refine f_then ?_
        refine c_seq ?_
        refine c_region ?_
        refine s_y (y_move rfl) rfl rfl rfl ?_
        refine s_y (y_F (y_lss rfl rfl) (by omega)) rfl rfl rfl ?_
        refine s_y (y_move rfl) rfl rfl rfl ?_
        iterate 2 refine s_skip rfl rfl rfl ?_
        refine s_y (y_pickF rfl rfl) rfl rfl rfl ?_
        refine s_y (y_move rfl) rfl rfl rfl ?_
        refine s_y (y_move rfl) rfl rfl rfl ?_
        refine s_y (y_T (y_geq rfl rfl) (by omega)) rfl rfl rfl ?_
        refine s_y (y_move rfl) rfl rfl rfl ?_
        refine s_y (y_move rfl) rfl rfl rfl ?_
        refine s_y (y_F (y_neq rfl rfl) (by omega)) rfl rfl rfl ?_
        refine s_y (y_pickT rfl rfl) rfl rfl rfl ?_
        refine s_y (y_pickF rfl rfl) rfl rfl rfl ?_
        refine s_nil ?_
        refine f_then ?_
        refine c_condF rfl ?_
        refine c_skip ?_
        refine f_blockN ?_
        refine f_then ?_
        refine c_region ?_
        refine s_y (y_move rfl) rfl rfl rfl ?_
        refine s_y (y_add rfl rfl (by omega)) rfl rfl rfl ?_
        refine s_y (y_assign rfl) rfl rfl rfl ?_
        refine s_nil ?_
        exact f_roundP (i + 1, g') ⟨c, hB', hA'.b.trans hbb, hb'⟩ (by dsimp only; omega) ⟨rfl, rfl, rfl, rfl, rfl, rfl, rfl, trivial⟩ (fun w h => h.tail)
    | false =>
      have hM := Look_b (W := W) (N := [(b7, row 29 [.pointer (some a)])] :: N) (tx := 1) (lo := (2 * i : Nat)) (hi := (2 * i + 1 : Nat)) hB (by rw [hb]; exact Bk.P1_pre)
      rw [hbb] at hM
      rw [show ((2 * i : Nat) : Int) = 2 * (i : Int) by omega, show ((2 * i + 1 : Nat) : Int) = 2 * (i : Int) + 1 by omega] at hM
      refine c_seq ?_
      refine c_seq ?_
      refine c_region ?_
      refine s_y (y_move rfl) rfl rfl rfl ?_
      refine s_y (y_move rfl) rfl rfl rfl ?_
      refine s_y (y_T (y_lss rfl rfl) (by omega)) rfl rfl rfl ?_
      refine s_nil ?_
      refine f_then ?_
      refine c_condT rfl ?_
      refine c_skip ?_
      refine f_then ?_
      refine c_seq ?_
      refine c_block ?_
      refine c_seq ?_
      refine c_region ?_
      refine s_y (y_assign rfl) rfl rfl rfl ?_
      refine s_nil ?_
      refine f_then ?_
      refine c_seq ?_
      refine c_seq ?_
      refine c_region ?_
      refine s_y (y_move rfl) rfl rfl rfl ?_
      refine s_nil ?_
      refine f_then ?_
      refine c_condF rfl ?_
      refine c_region ?_
      refine s_y (y_move rfl) rfl rfl rfl ?_
      refine s_y (y_move rfl) rfl rfl rfl ?_
      refine s_y (y_move rfl) rfl rfl rfl ?_
      refine s_y (y_mul rfl rfl (by omega)) rfl rfl rfl ?_
      refine s_y (y_move rfl) rfl rfl rfl ?_
      refine s_y (y_mul rfl rfl (by omega)) rfl rfl rfl ?_
      refine s_y (y_add rfl rfl (by omega)) rfl rfl rfl ?_
      refine s_call (en_f rfl Tryz.call28) hM rfl rfl rfl (fun x => ?_)
      obtain ⟨⟨g', e, rs, v, c'⟩, hB', hp', hA', _⟩ := x
      dsimp only at hB' hp' hA' ⊢
      rw [hb] at hp'
      obtain ⟨he, hb'⟩ := Bk.P1_step hp' (by omega)
      by_cases c2 : i < 1024
      · rw [if_pos c2] at he
        subst he
        refine s_y (y_move rfl) rfl rfl rfl ?_
        refine s_y (y_extract rfl rfl) rfl rfl rfl ?_
        refine s_y (y_extract rfl rfl) rfl rfl rfl ?_
        refine s_y (y_assign rfl) rfl rfl rfl ?_
        refine s_nil ?_
        refine f_then ?_
        refine c_seq ?_
        refine c_region ?_
        refine s_y (y_move rfl) rfl rfl rfl ?_
        refine s_y (y_T (y_lss rfl rfl) (by omega)) rfl rfl rfl ?_
        refine s_y (y_move rfl) rfl rfl rfl ?_
        refine s_y (y_move rfl) rfl rfl rfl ?_
        refine s_y (y_F (y_neq rfl rfl) (by omega)) rfl rfl rfl ?_
        refine s_y (y_pickT rfl rfl) rfl rfl rfl ?_
        refine s_y (y_move rfl) rfl rfl rfl ?_
        refine s_y (y_move rfl) rfl rfl rfl ?_
        refine s_y (y_F (y_geq rfl rfl) (by omega)) rfl rfl rfl ?_
        refine s_y (y_move rfl) rfl rfl rfl ?_
        iterate 2 refine s_skip rfl rfl rfl ?_
        refine s_y (y_pickF rfl rfl) rfl rfl rfl ?_
        refine s_y (y_pickF rfl rfl) rfl rfl rfl ?_
        refine s_nil ?_
        refine f_then ?_
        refine c_condF rfl ?_
        refine c_skip ?_
        refine f_blockN ?_
        refine f_then ?_
        refine c_region ?_
        refine s_y (y_move rfl) rfl rfl rfl ?_
        refine s_y (y_add rfl rfl (by omega)) rfl rfl rfl ?_
        refine s_y (y_assign rfl) rfl rfl rfl ?_
        refine s_nil ?_
        exact f_roundP (i + 1, g') ⟨c, hB', hA'.b.trans hbb, hb'⟩ (by dsimp only; omega) ⟨rfl, rfl, rfl, rfl, rfl, rfl, rfl, trivial⟩ (fun w h => h.tail)
      · rw [if_neg c2] at he
        subst he
        refine s_y (y_move rfl) rfl rfl rfl ?_
        refine s_y (y_extract rfl rfl) rfl rfl rfl ?_
        refine s_y (y_extract rfl rfl) rfl rfl rfl ?_
        refine s_y (y_assign rfl) rfl rfl rfl ?_
        refine s_nil ?_
        refine f_then ?_
        refine c_seq ?_
        refine c_region ?_
        refine s_y (y_move rfl) rfl rfl rfl ?_
        refine s_y (y_F (y_lss rfl rfl) (by omega)) rfl rfl rfl ?_
        refine s_y (y_move rfl) rfl rfl rfl ?_
        iterate 2 refine s_skip rfl rfl rfl ?_
        refine s_y (y_pickF rfl rfl) rfl rfl rfl ?_
        refine s_y (y_move rfl) rfl rfl rfl ?_
        refine s_y (y_move rfl) rfl rfl rfl ?_
        refine s_y (y_T (y_geq rfl rfl) (by omega)) rfl rfl rfl ?_
        refine s_y (y_move rfl) rfl rfl rfl ?_
        refine s_y (y_move rfl) rfl rfl rfl ?_
        refine s_y (y_F (y_neq rfl rfl) (by omega)) rfl rfl rfl ?_
        refine s_y (y_pickT rfl rfl) rfl rfl rfl ?_
        refine s_y (y_pickF rfl rfl) rfl rfl rfl ?_
        refine s_nil ?_
        refine f_then ?_
        refine c_condF rfl ?_
        refine c_skip ?_
        refine f_blockN ?_
        refine f_then ?_
        refine c_region ?_
        refine s_y (y_move rfl) rfl rfl rfl ?_
        refine s_y (y_add rfl rfl (by omega)) rfl rfl rfl ?_
        refine s_y (y_assign rfl) rfl rfl rfl ?_
        refine s_nil ?_
        exact f_roundP (i + 1, g') ⟨c, hB', hA'.b.trans hbb, hb'⟩ (by dsimp only; omega) ⟨rfl, rfl, rfl, rfl, rfl, rfl, rfl, trivial⟩ (fun w h => h.tail)
  · obtain rfl : i = cnt := by omega
    have hL := Look_b (W := W) (N := [(b7, row 29 [.pointer (some a)])] :: N) (tx := 2) (lo := 2999) (hi := 3000) hB (by rw [hb]; exact Bk.P2_pre)
    rw [hbb] at hL
    refine c_seq ?_
    refine c_seq ?_
    refine c_region ?_
    refine s_y (y_move rfl) rfl rfl rfl ?_
    refine s_y (y_move rfl) rfl rfl rfl ?_
    refine s_y (y_F (y_lss rfl rfl) (by omega)) rfl rfl rfl ?_
    refine s_nil ?_
    refine f_then ?_
    refine c_condF rfl ?_
    refine c_exit ?_
    refine f_thenE ?_
    refine f_rndE ?_
    refine f_blockE ?_
    refine f_then ?_
    refine c_seq ?_
    refine c_region ?_
    refine s_y (y_move rfl) rfl rfl rfl ?_
    refine s_y (y_move rfl) rfl rfl rfl ?_
    refine s_call (en_f rfl Tryz.call28) hL rfl rfl rfl (fun x => ?_)
    obtain ⟨⟨g3, e, rs, v, c3⟩, hB3, hp3, hA3, _⟩ := x
    dsimp only at hB3 hp3 hA3 ⊢
    rw [hb] at hp3
    obtain ⟨he, hb3⟩ := Bk.P2_step hp3
    have hbb3 := hA3.b.trans hbb
    have hg3 : g3.bk.Good := by rw [hb3]; exact (Bk.T2.u.big (Nat.min_le_right ..) (Nat.min_le_right ..)).good
    refine St.cls (C' := K W (g3.L ++ ([(b7, row 29 [.pointer (some a)])] :: N))) ?_ (fun w h => h.tail)
    have hH := Held_b (W := W) (N := [(b7, row 29 [.pointer (some a)])] :: N) (tx := 1) hB3 hg3
    rw [hbb3] at hH
    have hlk : g3.bk.lkI 1 = Bk.LB wr (min i 1024) := by rw [hb3]; rfl
    rw [hlk] at hH
    have hll : (lks (Bk.LB wr (min i 1024))).length = min i 1024 := by rw [List.length_map, Bk.LB_len]
    have hap : ApOK g3.size g3.C (g3.bk.tx 1).ops := by
      have h1 : g3.size = 3000 := congrArg Bk.size hb3
      have h2 : g3.C = Bk.z0 := congrArg Bk.C hb3
      rw [h1, h2, hb3]
      exact Bk.Q1_ap (Nat.min_le_right ..)
    have hls : g3.ls.length = 0 := by
      have := congrArg (fun A : Bk => A.log.length) hb3
      simpa [Bg.bk] using this
    by_cases c2 : i < 1024
    · rw [if_pos c2] at he
      subst he
      refine s_y (y_move rfl) rfl rfl rfl ?_
      refine s_y (y_extract rfl rfl) rfl rfl rfl ?_
      refine s_y (y_extract rfl rfl) rfl rfl rfl ?_
      refine s_y (y_assign rfl) rfl rfl rfl ?_
      refine s_y (y_assign rfl) rfl rfl rfl ?_
      refine s_nil ?_
      refine f_then ?_
      refine c_seq ?_
      refine c_seq ?_
      refine c_region ?_
      refine s_y (y_move rfl) rfl rfl rfl ?_
      refine s_y (y_F (y_eql rfl rfl) (by omega)) rfl rfl rfl ?_
      refine s_y (y_move rfl) rfl rfl rfl ?_
      refine s_y (y_F (y_geq rfl rfl) (by omega)) rfl rfl rfl ?_
      refine s_y (y_neqBB Tryz.tab rfl rfl rfl) rfl rfl rfl ?_
      refine s_y (y_move rfl) rfl rfl rfl ?_
      refine s_y (y_move rfl) rfl rfl rfl ?_
      refine s_y (y_F (y_neq rfl rfl) (by omega)) rfl rfl rfl ?_
      refine s_y (y_move rfl) rfl rfl rfl ?_
      iterate 2 refine s_skip rfl rfl rfl ?_
      refine s_y (y_pickF rfl rfl) rfl rfl rfl ?_
      refine s_y (y_pickF rfl rfl) rfl rfl rfl ?_
      refine s_y (y_move rfl) rfl rfl rfl ?_
      refine s_y (y_move rfl) rfl rfl rfl ?_
      refine s_y (y_move rfl) rfl rfl rfl ?_
      refine s_call (en_f rfl Tryz.call29) hH rfl rfl rfl (fun x => ?_)
      obtain ⟨⟨lv, lc⟩, hlB⟩ := x
      dsimp only at hlB ⊢
      refine s_y (y_lenR' Tryz.tab rfl hlB rfl) rfl rfl rfl ?_
      rw [hll]
      refine s_y (y_move rfl) rfl rfl rfl ?_
      refine s_y (y_min rfl rfl) rfl rfl rfl ?_
      refine s_y (y_F (y_neq rfl rfl) (by omega)) rfl rfl rfl ?_
      refine s_y (y_pickF rfl rfl) rfl rfl rfl ?_
      refine s_nil ?_
      refine f_then ?_
      refine c_condF rfl ?_
      refine c_skip ?_
      refine f_then ?_
      refine c_seq ?_
      refine c_seq ?_
      refine c_region ?_
      refine s_y (y_move rfl) rfl rfl rfl ?_
      refine s_nil ?_
      refine f_then ?_
      refine SC.cls (C' := K W (g3.L ++ ([(b7, row 29 [.pointer (some a)])] :: N))) ?_ (fun w h => h.tail)
      cases cm with
      | true =>
        have hC := Commit_b (W := W) (N := [(b7, row 29 [.pointer (some a)])] :: N) (tx := 1) hB3 hg3 (fun k hk _ _ _ => by obtain rfl : k = 1 := by omega
                                                                                                                            exact hap) (by rw [hls]; decide)
        rw [hbb3] at hC
        refine c_condT rfl ?_
        refine c_region ?_
        refine s_y (y_move rfl) rfl rfl rfl ?_
        refine s_y (y_move rfl) rfl rfl rfl ?_
        refine s_call (en_f rfl Tryz.call30) hC rfl rfl rfl (fun x => ?_)
        obtain ⟨⟨g4, n4, e4⟩, hB4, hc4, hA4⟩ := x
        dsimp only at hB4 hc4 hA4 ⊢
        rw [hb3] at hc4
        obtain ⟨rfl, hb4⟩ := Bk.Q1_cmt hc4
        have hL4 := Look_b (W := W) (N := [(b7, row 29 [.pointer (some a)])] :: N) (tx := 2) (lo := 0) (hi := 3000) hB4 (by rw [hb4]; exact Bk.Q3_pre (.inl rfl) Bk.T2.u)
        rw [hA4.b, hbb3] at hL4
        refine s_y (y_move rfl) rfl rfl rfl ?_
        refine s_y (y_extract rfl rfl) rfl rfl rfl ?_
        refine s_y (y_extract rfl rfl) rfl rfl rfl ?_
        refine s_y (y_assign rfl) rfl rfl rfl ?_
        refine s_nil ?_
        refine f_then ?_
        refine c_seq ?_
        refine c_region ?_
        refine s_y (y_move rfl) rfl rfl rfl ?_
        refine s_y (y_move rfl) rfl rfl rfl ?_
        refine s_call (en_f rfl Tryz.call28) hL4 rfl rfl rfl (fun x => ?_)
        obtain ⟨⟨g5, e5, rs5, v5, c5⟩, hB5, hp5, hA5, _⟩ := x
        dsimp only at hB5 hp5 hA5 ⊢
        rw [hb4] at hp5
        obtain rfl := Bk.Q3_step Bk.T2.u hp5
        refine s_y (y_move rfl) rfl rfl rfl ?_
        refine s_y (y_extract rfl rfl) rfl rfl rfl ?_
        refine s_y (y_extract rfl rfl) rfl rfl rfl ?_
        refine s_y (y_assign rfl) rfl rfl rfl ?_
        refine s_nil ?_
        refine f_then ?_
        refine c_seq ?_
        refine c_region ?_
        refine s_y (y_move rfl) rfl rfl rfl ?_
        refine s_y (y_T (y_eql rfl rfl) (by omega)) rfl rfl rfl ?_
        refine s_y (y_move rfl) rfl rfl rfl ?_
        refine s_y (y_move rfl) rfl rfl rfl ?_
        refine s_y (y_T (y_eql rfl rfl) (by omega)) rfl rfl rfl ?_
        refine s_y (y_pickT rfl rfl) rfl rfl rfl ?_
        refine s_y (y_move rfl) rfl rfl rfl ?_
        refine s_call (en_f rfl Tryz.call13) awake_spec rfl rfl rfl (fun _ => ?_)
        refine s_y (y_pickT rfl rfl) rfl rfl rfl ?_
        refine s_y (y_assign rfl) rfl rfl rfl ?_
        refine s_nil ?_
        refine f_then ?_
        refine c_ret ?_
        exact f_ret () (res1 rfl rfl) (fun w h => (K.bck h.tail).tail)
      | false =>
        have hC := Abort_b (W := W) (N := [(b7, row 29 [.pointer (some a)])] :: N) (tx := 1) hB3 hg3
        rw [hbb3] at hC
        refine c_condF rfl ?_
        refine c_region ?_
        refine s_y (y_move rfl) rfl rfl rfl ?_
        refine s_y (y_move rfl) rfl rfl rfl ?_
        refine s_call (en_f rfl Tryz.call31) hC rfl rfl rfl (fun x => ?_)
        obtain ⟨⟨g4, e4⟩, hB4, hc4, hA4⟩ := x
        dsimp only at hB4 hc4 hA4 ⊢
        rw [hb3] at hc4
        obtain ⟨rfl, hb4⟩ := Bk.Q1_abt hc4
        have hL4 := Look_b (W := W) (N := [(b7, row 29 [.pointer (some a)])] :: N) (tx := 2) (lo := 0) (hi := 3000) hB4 (by rw [hb4]; exact Bk.Q3_pre (.inr rfl) Bk.T2.u)
        rw [hA4.b, hbb3] at hL4
        refine s_y (y_assign rfl) rfl rfl rfl ?_
        refine s_nil ?_
        refine f_then ?_
        refine c_seq ?_
        refine c_region ?_
        refine s_y (y_move rfl) rfl rfl rfl ?_
        refine s_y (y_move rfl) rfl rfl rfl ?_
        refine s_call (en_f rfl Tryz.call28) hL4 rfl rfl rfl (fun x => ?_)
        obtain ⟨⟨g5, e5, rs5, v5, c5⟩, hB5, hp5, hA5, _⟩ := x
        dsimp only at hB5 hp5 hA5 ⊢
        rw [hb4] at hp5
        obtain rfl := Bk.Q3_step Bk.T2.u hp5
        refine s_y (y_move rfl) rfl rfl rfl ?_
        refine s_y (y_extract rfl rfl) rfl rfl rfl ?_
        refine s_y (y_extract rfl rfl) rfl rfl rfl ?_
        refine s_y (y_assign rfl) rfl rfl rfl ?_
        refine s_nil ?_
        refine f_then ?_
        refine c_seq ?_
        refine c_region ?_
        refine s_y (y_move rfl) rfl rfl rfl ?_
        refine s_y (y_T (y_eql rfl rfl) (by omega)) rfl rfl rfl ?_
        refine s_y (y_move rfl) rfl rfl rfl ?_
        refine s_y (y_move rfl) rfl rfl rfl ?_
        refine s_y (y_T (y_eql rfl rfl) (by omega)) rfl rfl rfl ?_
        refine s_y (y_pickT rfl rfl) rfl rfl rfl ?_
        refine s_y (y_move rfl) rfl rfl rfl ?_
        refine s_call (en_f rfl Tryz.call13) awake_spec rfl rfl rfl (fun _ => ?_)
        refine s_y (y_pickT rfl rfl) rfl rfl rfl ?_
        refine s_y (y_assign rfl) rfl rfl rfl ?_
        refine s_nil ?_
        refine f_then ?_
        refine c_ret ?_
        exact f_ret () (res1 rfl rfl) (fun w h => (K.bck h.tail).tail)
    · rw [if_neg c2] at he
      subst he
      refine s_y (y_move rfl) rfl rfl rfl ?_
      refine s_y (y_extract rfl rfl) rfl rfl rfl ?_
      refine s_y (y_extract rfl rfl) rfl rfl rfl ?_
      refine s_y (y_assign rfl) rfl rfl rfl ?_
      refine s_y (y_assign rfl) rfl rfl rfl ?_
      refine s_nil ?_
      refine f_then ?_
      refine c_seq ?_
      refine c_seq ?_
      refine c_region ?_
      refine s_y (y_move rfl) rfl rfl rfl ?_
      refine s_y (y_T (y_eql rfl rfl) (by omega)) rfl rfl rfl ?_
      refine s_y (y_move rfl) rfl rfl rfl ?_
      refine s_y (y_T (y_geq rfl rfl) (by omega)) rfl rfl rfl ?_
      refine s_y (y_neqBB Tryz.tab rfl rfl rfl) rfl rfl rfl ?_
      refine s_y (y_move rfl) rfl rfl rfl ?_
      refine s_y (y_move rfl) rfl rfl rfl ?_
      refine s_y (y_T (y_neq rfl rfl) (by omega)) rfl rfl rfl ?_
      refine s_y (y_move rfl) rfl rfl rfl ?_
      refine s_y (y_move rfl) rfl rfl rfl ?_
      refine s_y (y_F (y_neq rfl rfl) (by omega)) rfl rfl rfl ?_
      refine s_y (y_pickT rfl rfl) rfl rfl rfl ?_
      refine s_y (y_pickF rfl rfl) rfl rfl rfl ?_
      refine s_y (y_move rfl) rfl rfl rfl ?_
      refine s_y (y_move rfl) rfl rfl rfl ?_
      refine s_y (y_move rfl) rfl rfl rfl ?_
      refine s_call (en_f rfl Tryz.call29) hH rfl rfl rfl (fun x => ?_)
      obtain ⟨⟨lv, lc⟩, hlB⟩ := x
      dsimp only at hlB ⊢
      refine s_y (y_lenR' Tryz.tab rfl hlB rfl) rfl rfl rfl ?_
      rw [hll]
      refine s_y (y_move rfl) rfl rfl rfl ?_
      refine s_y (y_min rfl rfl) rfl rfl rfl ?_
      refine s_y (y_F (y_neq rfl rfl) (by omega)) rfl rfl rfl ?_
      refine s_y (y_pickF rfl rfl) rfl rfl rfl ?_
      refine s_nil ?_
      refine f_then ?_
      refine c_condF rfl ?_
      refine c_skip ?_
      refine f_then ?_
      refine c_seq ?_
      refine c_seq ?_
      refine c_region ?_
      refine s_y (y_move rfl) rfl rfl rfl ?_
      refine s_nil ?_
      refine f_then ?_
      refine SC.cls (C' := K W (g3.L ++ ([(b7, row 29 [.pointer (some a)])] :: N))) ?_ (fun w h => h.tail)
      cases cm with
      | true =>
        have hC := Commit_b (W := W) (N := [(b7, row 29 [.pointer (some a)])] :: N) (tx := 1) hB3 hg3 (fun k hk _ _ _ => by obtain rfl : k = 1 := by omega
                                                                                                                            exact hap) (by rw [hls]; decide)
        rw [hbb3] at hC
        refine c_condT rfl ?_
        refine c_region ?_
        refine s_y (y_move rfl) rfl rfl rfl ?_
        refine s_y (y_move rfl) rfl rfl rfl ?_
        refine s_call (en_f rfl Tryz.call30) hC rfl rfl rfl (fun x => ?_)
        obtain ⟨⟨g4, n4, e4⟩, hB4, hc4, hA4⟩ := x
        dsimp only at hB4 hc4 hA4 ⊢
        rw [hb3] at hc4
        obtain ⟨rfl, hb4⟩ := Bk.Q1_cmt hc4
        have hL4 := Look_b (W := W) (N := [(b7, row 29 [.pointer (some a)])] :: N) (tx := 2) (lo := 0) (hi := 3000) hB4 (by rw [hb4]; exact Bk.Q3_pre (.inl rfl) Bk.T2.u)
        rw [hA4.b, hbb3] at hL4
        refine s_y (y_move rfl) rfl rfl rfl ?_
        refine s_y (y_extract rfl rfl) rfl rfl rfl ?_
        refine s_y (y_extract rfl rfl) rfl rfl rfl ?_
        refine s_y (y_assign rfl) rfl rfl rfl ?_
        refine s_nil ?_
        refine f_then ?_
        refine c_seq ?_
        refine c_region ?_
        refine s_y (y_move rfl) rfl rfl rfl ?_
        refine s_y (y_move rfl) rfl rfl rfl ?_
        refine s_call (en_f rfl Tryz.call28) hL4 rfl rfl rfl (fun x => ?_)
        obtain ⟨⟨g5, e5, rs5, v5, c5⟩, hB5, hp5, hA5, _⟩ := x
        dsimp only at hB5 hp5 hA5 ⊢
        rw [hb4] at hp5
        obtain rfl := Bk.Q3_step Bk.T2.u hp5
        refine s_y (y_move rfl) rfl rfl rfl ?_
        refine s_y (y_extract rfl rfl) rfl rfl rfl ?_
        refine s_y (y_extract rfl rfl) rfl rfl rfl ?_
        refine s_y (y_assign rfl) rfl rfl rfl ?_
        refine s_nil ?_
        refine f_then ?_
        refine c_seq ?_
        refine c_region ?_
        refine s_y (y_move rfl) rfl rfl rfl ?_
        refine s_y (y_T (y_eql rfl rfl) (by omega)) rfl rfl rfl ?_
        refine s_y (y_move rfl) rfl rfl rfl ?_
        refine s_y (y_move rfl) rfl rfl rfl ?_
        refine s_y (y_T (y_eql rfl rfl) (by omega)) rfl rfl rfl ?_
        refine s_y (y_pickT rfl rfl) rfl rfl rfl ?_
        refine s_y (y_move rfl) rfl rfl rfl ?_
        refine s_call (en_f rfl Tryz.call13) awake_spec rfl rfl rfl (fun _ => ?_)
        refine s_y (y_pickT rfl rfl) rfl rfl rfl ?_
        refine s_y (y_assign rfl) rfl rfl rfl ?_
        refine s_nil ?_
        refine f_then ?_
        refine c_ret ?_
        exact f_ret () (res1 rfl rfl) (fun w h => (K.bck h.tail).tail)
      | false =>
        have hC := Abort_b (W := W) (N := [(b7, row 29 [.pointer (some a)])] :: N) (tx := 1) hB3 hg3
        rw [hbb3] at hC
        refine c_condF rfl ?_
        refine c_region ?_
        refine s_y (y_move rfl) rfl rfl rfl ?_
        refine s_y (y_move rfl) rfl rfl rfl ?_
        refine s_call (en_f rfl Tryz.call31) hC rfl rfl rfl (fun x => ?_)
        obtain ⟨⟨g4, e4⟩, hB4, hc4, hA4⟩ := x
        dsimp only at hB4 hc4 hA4 ⊢
        rw [hb3] at hc4
        obtain ⟨rfl, hb4⟩ := Bk.Q1_abt hc4
        have hL4 := Look_b (W := W) (N := [(b7, row 29 [.pointer (some a)])] :: N) (tx := 2) (lo := 0) (hi := 3000) hB4 (by rw [hb4]; exact Bk.Q3_pre (.inr rfl) Bk.T2.u)
        rw [hA4.b, hbb3] at hL4
        refine s_y (y_assign rfl) rfl rfl rfl ?_
        refine s_nil ?_
        refine f_then ?_
        refine c_seq ?_
        refine c_region ?_
        refine s_y (y_move rfl) rfl rfl rfl ?_
        refine s_y (y_move rfl) rfl rfl rfl ?_
        refine s_call (en_f rfl Tryz.call28) hL4 rfl rfl rfl (fun x => ?_)
        obtain ⟨⟨g5, e5, rs5, v5, c5⟩, hB5, hp5, hA5, _⟩ := x
        dsimp only at hB5 hp5 hA5 ⊢
        rw [hb4] at hp5
        obtain rfl := Bk.Q3_step Bk.T2.u hp5
        refine s_y (y_move rfl) rfl rfl rfl ?_
        refine s_y (y_extract rfl rfl) rfl rfl rfl ?_
        refine s_y (y_extract rfl rfl) rfl rfl rfl ?_
        refine s_y (y_assign rfl) rfl rfl rfl ?_
        refine s_nil ?_
        refine f_then ?_
        refine c_seq ?_
        refine c_region ?_
        refine s_y (y_move rfl) rfl rfl rfl ?_
        refine s_y (y_T (y_eql rfl rfl) (by omega)) rfl rfl rfl ?_
        refine s_y (y_move rfl) rfl rfl rfl ?_
        refine s_y (y_move rfl) rfl rfl rfl ?_
        refine s_y (y_T (y_eql rfl rfl) (by omega)) rfl rfl rfl ?_
        refine s_y (y_pickT rfl rfl) rfl rfl rfl ?_
        refine s_y (y_move rfl) rfl rfl rfl ?_
        refine s_call (en_f rfl Tryz.call13) awake_spec rfl rfl rfl (fun _ => ?_)
        refine s_y (y_pickT rfl rfl) rfl rfl rfl ?_
        refine s_y (y_assign rfl) rfl rfl rfl ?_
        refine s_nil ?_
        refine f_then ?_
        refine c_ret ?_
        exact f_ret () (res1 rfl rfl) (fun w h => (K.bck h.tail).tail)
/-- The law, walked. -/
theorem clerkLocks_walk (W : World) (z : Int) (wr cm : Bool) (hz : 0 ≤ z ∧ z < 65536) : Spec Tryz.prog 5 #[.int .u16 z, .bool wr, .bool cm] (K W []) (fun _ : Unit => .bool true) (fun _ => K W []) := locks_spec hz
end Go.KL
end

section
/- ClerkLocks: for every input the law returns true, and its arguments read as they did. No condition. -/
namespace Go.Proofs.YtcbmmldkpicaiaaGreat
open Go.ChangeShapes Go.WideShapes Go.RowKit Go.KL
set_option linter.unusedVariables false
theorem own : ownKnob Tryz.prog.godebug = none := by kernel_rfl
set_option maxRecDepth 100000 in
theorem clerkLocks_lifted (os : Os) (started : os.Started) (H : Type) (enc : TypeId × Value → H) :
    ReturnsInHanded {} Tryz.checked os 5 .any (Rows.clerkLocksSpec.pre6 enc Tryz.prog Tryz.f5 Rows.clerkLocksRow.domain false) (Rows.clerkLocksSpec.post enc Tryz.prog Tryz.f5 false true false false) := by
  refine returnsInHanded_of_change (C := Tryz.checked) own started (by kernel_rfl) Tryz.func5
    (ChangeSpec.witness6 (enc := enc) (C := Tryz.checked) false ⟨#[], #[.int .u16 0, .bool false, .bool false], []⟩ 8 (by kernel_rfl) (by kernel_rfl) (by kernel_rfl) (by kernel_rfl)) ?_
  intro W base args ds gs before hval hW hcnd _
  obtain ⟨p, q, hA, hV, rfl, hfz, hnd⟩ := id hW
  obtain ⟨rfl, rfl⟩ := trodVars_none hV
  obtain ⟨v0, vs0, d0, ds0, p0, q0, e0, rfl, rfl, h0, r0⟩ := trodAll_cons hA
  obtain ⟨v1, vs1, d1, ds1, p1, q1, rfl, rfl, rfl, h1, r1⟩ := trodAll_cons r0
  obtain ⟨v2, vs2, d2, ds2, p2, q2, rfl, rfl, rfl, h2, r2⟩ := trodAll_cons r1
  obtain ⟨rfl, rfl, rfl⟩ := trodAll_nil r2
  obtain rfl : args = #[v0, v1, v2] := by cases args; simp_all
  obtain ⟨k0, rfl, hk0⟩ := arg62 (hval 0 62 _ rfl rfl) h0
  obtain ⟨k1, rfl⟩ := arg4 (hval 1 4 _ rfl rfl) h1
  obtain ⟨k2, rfl⟩ := arg4 (hval 2 4 _ rfl rfl) h2
  refine ((clerkLocks_walk W k0 k1 k2 hk0) W (K.refl W)).mono ?_
  rintro e W' ⟨x, rfl, hk⟩
  exact ⟨_, rfl, law_post (t := 4) laidOut (by decide +kernel) rfl rfl u4 hW rfl hk.toExt⟩
theorem joined : joinedFacts Tryz.pinned.checked.prog 5 Tryz.f5 Rows.clerkLocksSpec Rows.clerkLocksRow = true := by
  show joinedFacts Tryz.prog 5 Tryz.f5 Rows.clerkLocksSpec Rows.clerkLocksRow = true
  unfold joinedFacts
  rw [Go.KL.may_enter, Go.KL.lifts_final, Go.KL.make_cut]
  kernel_rfl
/-- The statement. -/
theorem clerkLocks_holds : Rows.ClerkLocksSaid :=
  OpenClaim.holds_of_wide 5 Tryz.f5 rfl rfl rfl rfl rfl rfl rfl ⟨rfl, rfl, rfl, rfl, rfl⟩ rfl rfl rfl rfl rfl (by kernel_rfl) Tryz.func5 joined
    (of_decide_eq_true (by kernel_rfl)) (by unfold Func.isWrapper; first | (rw [if_pos (by decide +kernel)]; kernel_rfl) | (rw [if_neg (by decide +kernel)]; exact ⟨rfl, rfl⟩))
    (fun os started H enc _ => clerkLocks_lifted os started H enc)
end Go.Proofs.YtcbmmldkpicaiaaGreat
end
