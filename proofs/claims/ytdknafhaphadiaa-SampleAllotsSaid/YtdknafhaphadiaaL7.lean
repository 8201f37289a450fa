/- The library of the proof, part 7: a program logic over the model, walks of functions, plain laws. -/
import Derived.Test.YtdknafhaphadiaaL6
section
/- Walks: the reference's Add, Sub. -/
namespace Go.KL
open Go.Proofs
structure RowSt (g : Nat → Nat) where
  u : Nat
  q : Nat
  v : Value
  c : Chunk
  buf : Buf 3 1 v c u (dgs g u)
attribute [local irreducible] SC St Fin Sq Ylds Doos Sets Enters Spec CellIs CellsAre Then Ret Rnd Chn resOK ints bools recs arr
set_option maxRecDepth 10000 in
set_option maxHeartbeats 4000000 in
theorem radd_spec {W : World} {N : List Chunk} {a b : Value} {x y : Nat} [ha : NumV (K W N) a x] [hb : NumV (K W N) b y] (hx : KR.wl x ≤ 1000000) (hy : KR.wl y ≤ 1000000) : Spec Try.prog 54 #[a, b] (K W N) (X := NFr W (x + y)) (fun r => r.v) (fun r => K W (r.L :: N)) := by
  have hs : KR.wl (x + y) ≤ 1000001 := KR.wl_add hx hy
  refine enter (args := [_, _]) Try.func54 rfl Try.ntmps54 rfl ?_
  refine c_seq ?_
  refine c_region ?_
  refine s_y (y_assign rfl) rfl rfl rfl ?_
  refine s_nil ?_
  refine f_then ?_
  refine c_seq ?_
  refine c_region ?_
  refine s_y (y_assign rfl) rfl rfl rfl ?_
  refine s_nil ?_
  refine f_then ?_
  refine c_seq ?_
  refine c_region ?_
  refine s_y (y_assign rfl) rfl rfl rfl ?_
  refine s_nil ?_
  refine f_then ?_
  refine c_seq ?_
  refine c_seq ?_
  refine c_region ?_
  refine s_y (y_assign rfl) rfl rfl rfl ?_
  refine s_nil ?_
  refine f_then ?_
  refine c_block ?_
  refine SC.cls (C' := K W ([] :: N)) ?_ (fun w h => h.weak [] (by simp))
  refine c_loopP (α := RowSt (KR.dg (x + y))) (fun z => [(0, a), (1, b), (5, z.v), (6, .int .i64 (z.q : Int)), (7, .int .i64 (z.u : Int))]) (fun z => z.u ≤ KR.wl (x + y) ∧ z.q ≤ 1 ∧ (x + y) / KR.B ^ z.u = x / KR.B ^ z.u + y / KR.B ^ z.u + z.q) (fun z => K W (z.c :: N)) (fun z => KR.wl (x + y) - z.u) ⟨0, 0, .slice none 0 0, [], .nil⟩ ⟨rfl, rfl, rfl, rfl, rfl, trivial⟩ ⟨Nat.zero_le _, Nat.zero_le _, by simp⟩ (fun w h => h) ?_
  rintro ⟨i, q, v, c, hB⟩ ⟨hi, hq1, hq⟩
  dsimp only at hi hq1 hq ⊢
  have hm : decide (i < KR.wl (x + y)) = decide (i < KR.wl x ∨ i < KR.wl y ∨ 0 < q) := by
    refine decide_eq_decide.2 ?_
    rw [KR.lt_wl_iff, KR.lt_wl_iff, KR.lt_wl_iff, hq]
    generalize x / KR.B ^ i = X
    generalize y / KR.B ^ i = Y
    omega
  refine c_seq ?_
  refine c_seq ?_
  refine c_then_cut (α := Unit) (fun _ => [(0, a), (1, b), (5, v), (6, .int .i64 (q : Int)), (7, .int .i64 (i : Int)), (21, .bool (decide (i < KR.wl (x + y))))]) (fun _ => True) (fun _ => K W (c :: N)) ?_ ?_
  · rw [hm]
    clear hq
    by_cases h1 : i < KR.wl x
    · rw [decide_eq_true (.inl h1)]
      refine c_region ?_
      refine s_y (y_move rfl) rfl rfl rfl ?_
      refine s_y (y_move rfl) rfl rfl rfl ?_
      refine s_y (y_lenN Try.tab rfl rfl) rfl rfl rfl ?_
      refine s_y (y_T (y_lss rfl rfl) (by omega)) rfl rfl rfl ?_
      refine s_y (y_move rfl) rfl rfl rfl ?_
      iterate 4 refine s_skip rfl rfl rfl ?_
      refine s_y (y_pickT rfl rfl) rfl rfl rfl ?_
      refine s_y (y_move rfl) rfl rfl rfl ?_
      iterate 2 refine s_skip rfl rfl rfl ?_
      refine s_y (y_pickT rfl rfl) rfl rfl rfl ?_
      refine s_nil ?_
      exact f_cutP () trivial ⟨rfl, rfl, rfl, rfl, rfl, rfl, trivial⟩ (fun w h => h)
    by_cases h2 : i < KR.wl y
    · rw [decide_eq_true (.inr (.inl h2))]
      refine c_region ?_
      refine s_y (y_move rfl) rfl rfl rfl ?_
      refine s_y (y_move rfl) rfl rfl rfl ?_
      refine s_y (y_lenN Try.tab rfl rfl) rfl rfl rfl ?_
      refine s_y (y_F (y_lss rfl rfl) (by omega)) rfl rfl rfl ?_
      refine s_y (y_move rfl) rfl rfl rfl ?_
      refine s_y (y_move rfl) rfl rfl rfl ?_
      refine s_y (y_move rfl) rfl rfl rfl ?_
      refine s_y (y_lenN Try.tab rfl rfl) rfl rfl rfl ?_
      refine s_y (y_T (y_lss rfl rfl) (by omega)) rfl rfl rfl ?_
      refine s_y (y_pickF rfl rfl) rfl rfl rfl ?_
      refine s_y (y_move rfl) rfl rfl rfl ?_
      iterate 2 refine s_skip rfl rfl rfl ?_
      refine s_y (y_pickT rfl rfl) rfl rfl rfl ?_
      refine s_nil ?_
      exact f_cutP () trivial ⟨rfl, rfl, rfl, rfl, rfl, rfl, trivial⟩ (fun w h => h)
    by_cases h3 : 0 < q
    · rw [decide_eq_true (.inr (.inr h3))]
      refine c_region ?_
      refine s_y (y_move rfl) rfl rfl rfl ?_
      refine s_y (y_move rfl) rfl rfl rfl ?_
      refine s_y (y_lenN Try.tab rfl rfl) rfl rfl rfl ?_
      refine s_y (y_F (y_lss rfl rfl) (by omega)) rfl rfl rfl ?_
      refine s_y (y_move rfl) rfl rfl rfl ?_
      refine s_y (y_move rfl) rfl rfl rfl ?_
      refine s_y (y_move rfl) rfl rfl rfl ?_
      refine s_y (y_lenN Try.tab rfl rfl) rfl rfl rfl ?_
      refine s_y (y_F (y_lss rfl rfl) (by omega)) rfl rfl rfl ?_
      refine s_y (y_pickF rfl rfl) rfl rfl rfl ?_
      refine s_y (y_move rfl) rfl rfl rfl ?_
      refine s_y (y_move rfl) rfl rfl rfl ?_
      refine s_y (y_T (y_gtr rfl rfl) (by omega)) rfl rfl rfl ?_
      refine s_y (y_pickF rfl rfl) rfl rfl rfl ?_
      refine s_nil ?_
      exact f_cutP () trivial ⟨rfl, rfl, rfl, rfl, rfl, rfl, trivial⟩ (fun w h => h)
    · rw [decide_eq_false (by omega)]
      refine c_region ?_
      refine s_y (y_move rfl) rfl rfl rfl ?_
      refine s_y (y_move rfl) rfl rfl rfl ?_
      refine s_y (y_lenN Try.tab rfl rfl) rfl rfl rfl ?_
      refine s_y (y_F (y_lss rfl rfl) (by omega)) rfl rfl rfl ?_
      refine s_y (y_move rfl) rfl rfl rfl ?_
      refine s_y (y_move rfl) rfl rfl rfl ?_
      refine s_y (y_move rfl) rfl rfl rfl ?_
      refine s_y (y_lenN Try.tab rfl rfl) rfl rfl rfl ?_
      refine s_y (y_F (y_lss rfl rfl) (by omega)) rfl rfl rfl ?_
      refine s_y (y_pickF rfl rfl) rfl rfl rfl ?_
      refine s_y (y_move rfl) rfl rfl rfl ?_
      refine s_y (y_move rfl) rfl rfl rfl ?_
      refine s_y (y_F (y_gtr rfl rfl) (by omega)) rfl rfl rfl ?_
      refine s_y (y_pickF rfl rfl) rfl rfl rfl ?_
      refine s_nil ?_
      exact f_cutP () trivial ⟨rfl, rfl, rfl, rfl, rfl, rfl, trivial⟩ (fun w h => h)
  rintro _ _
  by_cases hlt : i < KR.wl (x + y)
  · rw [decide_eq_true hlt]
    have hst := KR.add_step hq
    have dx := KR.dg_lt' x i
    have dy := KR.dg_lt' y i
    clear hq hm
    refine c_condT rfl ?_
    refine c_skip ?_
    refine f_then ?_
    refine c_seq ?_
    refine c_block ?_
    refine c_seq ?_
    refine c_region ?_
    refine s_y (y_move rfl) rfl rfl rfl ?_
    refine s_y (y_move rfl) rfl rfl rfl ?_
    refine s_y (y_move rfl) rfl rfl rfl ?_
    refine s_call (en_f rfl Try.call93) (at_spec) rfl rfl rfl (fun _ => ?_)
    refine s_y (y_move rfl) rfl rfl rfl ?_
    refine s_y (y_move rfl) rfl rfl rfl ?_
    refine s_call (en_f rfl Try.call93) (at_spec) rfl rfl rfl (fun _ => ?_)
    refine s_y (y_add rfl rfl (by omega)) rfl rfl rfl ?_
    refine s_y (y_add rfl rfl (by omega)) rfl rfl rfl ?_
    refine s_y (y_assign rfl) rfl rfl rfl ?_
    refine s_nil ?_
    refine f_then ?_
    refine c_seq ?_
    refine c_region ?_
    refine s_y (y_move rfl) rfl rfl rfl ?_
    refine s_y (y_move rfl) rfl rfl rfl ?_
    refine s_y (y_rem rfl rfl (by omega)) rfl rfl rfl ?_
    refine s_do (do_buildSlice1 Try.tab ⟨rfl, rfl, rfl, rfl⟩ rfl rfl rfl rfl) rfl rfl rfl (fun b36 => ?_)
    refine s_do (do_appendB (by_ := 8) Try.tab 1 rfl hB rfl ⟨rfl, rfl, rfl, rfl⟩ rfl (by simp) rfl (by omega) (cells_row0 0 rfl rfl) rfl (by simp [Value.oneCell']) (by unfold maxLen; omega) (by omega)) rfl rfl rfl (fun r => ?_)
    refine s_y (y_assign rfl) rfl rfl rfl ?_
    refine s_nil ?_
    refine f_then ?_
    refine c_region ?_
    refine s_y (y_move rfl) rfl rfl rfl ?_
    refine s_y (y_quo rfl rfl (by omega)) rfl rfl rfl ?_
    refine s_y (y_assign rfl) rfl rfl rfl ?_
    refine s_nil ?_
    refine f_blockN ?_
    refine f_then ?_
    refine c_region ?_
    refine s_y (y_move rfl) rfl rfl rfl ?_
    refine s_y (y_add rfl rfl (by omega)) rfl rfl rfl ?_
    refine s_y (y_assign rfl) rfl rfl rfl ?_
    refine s_nil ?_
    exact f_roundP ⟨i + 1, (q + (KR.dg x i + KR.dg y i)) / 65536, r.1.1, r.1.2, by rw [dgs_succ, ← hst.1]; exact r.2⟩ ⟨by exact hlt, by dsimp only; omega, hst.2⟩ (by dsimp only; omega) ⟨rfl, rfl, rfl, rfl, rfl, trivial⟩ (fun w h => h.tail)
  · rw [decide_eq_false hlt]
    obtain rfl : i = KR.wl (x + y) := by omega
    clear hq hm
    refine c_condF rfl ?_
    refine c_exit ?_
    refine f_thenE ?_
    refine f_rndE ?_
    refine f_blockE ?_
    refine f_then ?_
    refine c_seq ?_
    refine c_region ?_
    refine s_y (y_move rfl) rfl rfl rfl ?_
    refine s_y (y_assign rfl) rfl rfl rfl ?_
    refine s_nil ?_
    refine f_then ?_
    refine c_ret ?_
    exact f_ret ⟨c, v, hB.numV 0 rfl⟩ (res1 rfl rfl) (fun w h => h)
theorem rsub_spec {W : World} {N : List Chunk} {a b : Value} {x y : Nat} [ha : NumV (K W N) a x] [hb : NumV (K W N) b y] (hx : KR.wl x ≤ 1000000) (hyx : y ≤ x) : Spec Try.prog 121 #[a, b] (K W N) (X := NFr W (x - y)) (fun r => r.v) (fun r => K W (r.L :: N)) := by
  have hs : KR.wl (x - y) ≤ KR.wl x := KR.wl_mono (Nat.sub_le x y)
  refine enter (args := [_, _]) Try.func121 rfl Try.ntmps121 rfl ?_
  refine c_seq ?_
  refine c_region ?_
  refine s_y (y_assign rfl) rfl rfl rfl ?_
  refine s_nil ?_
  refine f_then ?_
  refine c_seq ?_
  refine c_region ?_
  refine s_y (y_assign rfl) rfl rfl rfl ?_
  refine s_nil ?_
  refine f_then ?_
  refine c_seq ?_
  refine c_region ?_
  refine s_y (y_assign rfl) rfl rfl rfl ?_
  refine s_nil ?_
  refine f_then ?_
  refine c_seq ?_
  refine c_seq ?_
  refine c_region ?_
  refine s_y (y_assign rfl) rfl rfl rfl ?_
  refine s_nil ?_
  refine f_then ?_
  refine c_block ?_
  refine SC.cls (C' := K W ([] :: N)) ?_ (fun w h => h.weak [] (by simp))
  refine c_loopP (α := RowSt (KR.dg (x - y))) (fun z => [(0, a), (1, b), (5, z.v), (6, .int .i64 (z.q : Int)), (7, .int .i64 (z.u : Int))]) (fun z => z.u ≤ KR.wl x ∧ z.q ≤ 1 ∧ (x - y) / KR.B ^ z.u + y / KR.B ^ z.u + z.q = x / KR.B ^ z.u) (fun z => K W (z.c :: N)) (fun z => KR.wl x - z.u) ⟨0, 0, .slice none 0 0, [], .nil⟩ ⟨rfl, rfl, rfl, rfl, rfl, trivial⟩ ⟨Nat.zero_le _, Nat.zero_le _, by simp; omega⟩ (fun w h => h) ?_
  rintro ⟨i, q, v, c, hB⟩ ⟨hi, hq1, hq⟩
  dsimp only at hi hq1 hq ⊢
  by_cases hlt : i < KR.wl x
  · obtain ⟨s1, s2⟩ := KR.sub_step hq1 hq
    have dx := KR.dg_lt' x i
    have dy := KR.dg_lt' y i
    clear hq
    by_cases hd : KR.dg y i + q ≤ KR.dg x i
    · obtain ⟨s3, s4⟩ := s1 hd
      have e : ((KR.dg (x - y) i : Nat) : Int) = (KR.dg x i : Int) - (KR.dg y i : Int) - (q : Int) := by omega
      clear s1 s2
      refine c_seq ?_
      refine c_seq ?_
      refine c_region ?_
      refine s_y (y_move rfl) rfl rfl rfl ?_
      refine s_y (y_move rfl) rfl rfl rfl ?_
      refine s_y (y_lenN Try.tab rfl rfl) rfl rfl rfl ?_
      refine s_y (y_T (y_lss rfl rfl) (by omega)) rfl rfl rfl ?_
      refine s_nil ?_
      refine f_then ?_
      refine c_condT rfl ?_
      refine c_skip ?_
      refine f_then ?_
      refine c_seq ?_
      refine c_block ?_
      refine c_seq ?_
      refine c_quiet Try.mixed (by kernel_rfl) K.drew ?_
      refine q_y (y_move rfl) rfl rfl rfl ?_
      refine q_y (y_move rfl) rfl rfl rfl ?_
      refine q_y (y_ixN Try.tab rfl rfl rfl rfl _ rfl (by omega)) rfl rfl rfl ?_
      refine q_y (y_ldN Try.tab rfl rfl (by omega)) rfl rfl rfl ?_
      refine q_y (y_move rfl) rfl rfl rfl ?_
      refine q_y (y_move rfl) rfl rfl rfl ?_
      refine q_call (en_f rfl Try.call93) (at_spec) rfl rfl rfl ?_
      refine q_y (y_sub rfl rfl (by omega)) rfl rfl rfl ?_
      refine q_y (y_move rfl) rfl rfl rfl ?_
      refine q_y (y_sub rfl rfl (by omega)) rfl rfl rfl ?_
      refine q_y (y_assign rfl) rfl rfl rfl ?_
      refine q_nil ?_
      refine f_then ?_
      refine c_seq ?_
      refine c_region ?_
      refine s_y (y_assign rfl) rfl rfl rfl ?_
      refine s_nil ?_
      refine f_then ?_
      refine c_seq ?_
      refine c_seq ?_
      refine c_region ?_
      refine s_y (y_move rfl) rfl rfl rfl ?_
      refine s_y (y_F (y_lss rfl rfl) (by omega)) rfl rfl rfl ?_
      refine s_nil ?_
      refine f_then ?_
      refine c_condF rfl ?_
      refine c_skip ?_
      refine f_then ?_
      refine c_region ?_
      refine s_y (y_move rfl) rfl rfl rfl ?_
      refine s_y (y_move rfl) rfl rfl rfl ?_
      refine s_do (do_buildSlice1 Try.tab ⟨rfl, rfl, rfl, rfl⟩ rfl rfl rfl rfl) rfl rfl rfl (fun b31 => ?_)
      refine s_do (do_appendB (by_ := 8) Try.tab 1 rfl hB rfl ⟨rfl, rfl, rfl, rfl⟩ rfl (by simp) rfl (by omega) (cells_row0 0 rfl rfl) rfl (by simp [Value.oneCell']) (by unfold maxLen; omega) (by omega)) rfl rfl rfl (fun r => ?_)
      refine s_y (y_assign rfl) rfl rfl rfl ?_
      refine s_nil ?_
      refine f_blockN ?_
      refine f_then ?_
      refine c_region ?_
      refine s_y (y_move rfl) rfl rfl rfl ?_
      refine s_y (y_add rfl rfl (by omega)) rfl rfl rfl ?_
      refine s_y (y_assign rfl) rfl rfl rfl ?_
      refine s_nil ?_
      exact f_roundP ⟨i + 1, 0, r.1.1, r.1.2, by rw [dgs_succ, e]; exact r.2⟩ ⟨by exact hlt, by dsimp only; omega, s4⟩ (by dsimp only; omega) ⟨rfl, rfl, rfl, rfl, rfl, trivial⟩ (fun w h => h.tail)
    · obtain ⟨s3, s4⟩ := s2 (by omega)
      have e : ((KR.dg (x - y) i : Nat) : Int) = (KR.dg x i : Int) - (KR.dg y i : Int) - (q : Int) + 65536 := by omega
      clear s1 s2
      refine c_seq ?_
      refine c_seq ?_
      refine c_region ?_
      refine s_y (y_move rfl) rfl rfl rfl ?_
      refine s_y (y_move rfl) rfl rfl rfl ?_
      refine s_y (y_lenN Try.tab rfl rfl) rfl rfl rfl ?_
      refine s_y (y_T (y_lss rfl rfl) (by omega)) rfl rfl rfl ?_
      refine s_nil ?_
      refine f_then ?_
      refine c_condT rfl ?_
      refine c_skip ?_
      refine f_then ?_
      refine c_seq ?_
      refine c_block ?_
      refine c_seq ?_
      refine c_quiet Try.mixed (by kernel_rfl) K.drew ?_
      refine q_y (y_move rfl) rfl rfl rfl ?_
      refine q_y (y_move rfl) rfl rfl rfl ?_
      refine q_y (y_ixN Try.tab rfl rfl rfl rfl _ rfl (by omega)) rfl rfl rfl ?_
      refine q_y (y_ldN Try.tab rfl rfl (by omega)) rfl rfl rfl ?_
      refine q_y (y_move rfl) rfl rfl rfl ?_
      refine q_y (y_move rfl) rfl rfl rfl ?_
      refine q_call (en_f rfl Try.call93) (at_spec) rfl rfl rfl ?_
      refine q_y (y_sub rfl rfl (by omega)) rfl rfl rfl ?_
      refine q_y (y_move rfl) rfl rfl rfl ?_
      refine q_y (y_sub rfl rfl (by omega)) rfl rfl rfl ?_
      refine q_y (y_assign rfl) rfl rfl rfl ?_
      refine q_nil ?_
      refine f_then ?_
      refine c_seq ?_
      refine c_region ?_
      refine s_y (y_assign rfl) rfl rfl rfl ?_
      refine s_nil ?_
      refine f_then ?_
      refine c_seq ?_
      refine c_seq ?_
      refine c_region ?_
      refine s_y (y_move rfl) rfl rfl rfl ?_
      refine s_y (y_T (y_lss rfl rfl) (by omega)) rfl rfl rfl ?_
      refine s_nil ?_
      refine f_then ?_
      refine c_condT rfl ?_
      refine c_seq ?_
      refine c_region ?_
      refine s_y (y_move rfl) rfl rfl rfl ?_
      refine s_y (y_add rfl rfl (by omega)) rfl rfl rfl ?_
      refine s_y (y_assign rfl) rfl rfl rfl ?_
      refine s_nil ?_
      refine f_then ?_
      refine c_region ?_
      refine s_y (y_assign rfl) rfl rfl rfl ?_
      refine s_nil ?_
      refine f_then ?_
      refine c_region ?_
      refine s_y (y_move rfl) rfl rfl rfl ?_
      refine s_y (y_move rfl) rfl rfl rfl ?_
      refine s_do (do_buildSlice1 Try.tab ⟨rfl, rfl, rfl, rfl⟩ rfl rfl rfl rfl) rfl rfl rfl (fun b31 => ?_)
      refine s_do (do_appendB (by_ := 8) Try.tab 1 rfl hB rfl ⟨rfl, rfl, rfl, rfl⟩ rfl (by simp) rfl (by omega) (cells_row0 0 rfl rfl) rfl (by simp [Value.oneCell']) (by unfold maxLen; omega) (by omega)) rfl rfl rfl (fun r => ?_)
      refine s_y (y_assign rfl) rfl rfl rfl ?_
      refine s_nil ?_
      refine f_blockN ?_
      refine f_then ?_
      refine c_region ?_
      refine s_y (y_move rfl) rfl rfl rfl ?_
      refine s_y (y_add rfl rfl (by omega)) rfl rfl rfl ?_
      refine s_y (y_assign rfl) rfl rfl rfl ?_
      refine s_nil ?_
      exact f_roundP ⟨i + 1, 1, r.1.1, r.1.2, by rw [dgs_succ, e]; exact r.2⟩ ⟨by exact hlt, by dsimp only; omega, s4⟩ (by dsimp only; omega) ⟨rfl, rfl, rfl, rfl, rfl, trivial⟩ (fun w h => h.tail)
  · obtain rfl : i = KR.wl x := by omega
    clear hq
    haveI hr : RawI (K W (c :: N)) v (KR.wl x) (KR.dg (x - y)) := hB.rawI 0 rfl
    refine c_seq ?_
    refine c_seq ?_
    refine c_region ?_
    refine s_y (y_move rfl) rfl rfl rfl ?_
    refine s_y (y_move rfl) rfl rfl rfl ?_
    refine s_y (y_lenN Try.tab rfl rfl) rfl rfl rfl ?_
    refine s_y (y_F (y_lss rfl rfl) (by omega)) rfl rfl rfl ?_
    refine s_nil ?_
    refine f_then ?_
    refine c_condF rfl ?_
    refine c_exit ?_
    refine f_thenE ?_
    refine f_rndE ?_
    refine f_blockE ?_
    refine f_then ?_
    refine c_seq ?_
    refine c_region ?_
    refine s_y (y_move rfl) rfl rfl rfl ?_
    refine s_call (en_f rfl Try.call94) trim_spec rfl rfl rfl (fun r => ?_)
    refine s_y (y_assign rfl) rfl rfl rfl ?_
    refine s_nil ?_
    refine f_then ?_
    refine c_ret ?_
    exact f_ret ⟨c, r.val v, (r.num (hB.rawI 0 rfl) (KR.Dig.dg _ _)).of (KR.val_of_le hs)⟩ (res1 rfl rfl) (fun w h => h)
end Go.KL
end

section
/- Walks: the reference's Small, Shr by one, BitLen, Bit. -/
namespace Go.KL
open Go.Proofs
theorem raw_own {W : World} {Ls : List Chunk} {b m : Nat} {g : Nat → Nat} (i : Nat) (hi : Ls.getD i [] = [(b, ints 3 m (fun j => (g j : Int)) [])]) (hm : m ≤ maxLen) : RawI (K W Ls) (.slice (some ⟨b, 0, none⟩) m m) m g := RawI.ownT i hi (Nat.le_refl _) hm
attribute [local irreducible] SC St Fin Sq Ylds Doos Sets Enters Spec CellIs CellsAre Then Ret Rnd Chn resOK ints bools recs arr
set_option maxRecDepth 10000 in
set_option maxHeartbeats 4000000 in
theorem small_spec {W : World} {N : List Chunk} {a : Value} {x d : Nat} [ha : NumV (K W N) a x] (hx : KR.wl x ≤ 1000000) (hd : 0 < d) (hd2 : d ≤ 65536) : Spec Try.prog 95 #[a, .int .i64 (d : Int)] (K W N) (X := NFr W (x / d)) (fun r => .tuple #[r.v, .int .i64 ((x % d : Nat) : Int)]) (fun r => K W (r.L :: N)) := by
  refine enter (args := [_, _]) Try.func95 rfl Try.ntmps95 rfl ?_
  refine c_seq ?_
  refine c_region ?_
  refine s_y (y_assign rfl) rfl rfl rfl ?_
  refine s_y (y_assign rfl) rfl rfl rfl ?_
  refine s_nil ?_
  refine f_then ?_
  refine c_seq ?_
  refine c_region ?_
  refine s_y (y_move rfl) rfl rfl rfl ?_
  refine s_y (y_lenN Try.tab rfl rfl) rfl rfl rfl ?_
  refine s_do (make_ints (by_ := 8) Try.tab rfl rfl rfl rfl rfl rfl (by omega)) rfl rfl rfl (fun b11 => ?_)
  refine s_y (y_assign rfl) rfl rfl rfl ?_
  refine s_nil ?_
  refine f_then ?_
  refine c_seq ?_
  refine c_region ?_
  refine s_y (y_assign rfl) rfl rfl rfl ?_
  refine s_nil ?_
  refine f_then ?_
  refine c_seq ?_
  refine c_seq ?_
  refine c_region ?_
  refine s_y (y_move rfl) rfl rfl rfl ?_
  refine s_y (y_lenN Try.tab rfl rfl) rfl rfl rfl ?_
  refine s_y (y_sub rfl rfl (by omega)) rfl rfl rfl ?_
  refine s_y (y_assign rfl) rfl rfl rfl ?_
  refine s_nil ?_
  refine f_then ?_
  refine c_block ?_
  refine c_loopP (α := Nat × Nat × (Nat → Nat)) (fun z => [(0, a), (1, .int .i64 (d : Int)), (6, .slice (some ⟨b11, 0, none⟩) (KR.wl x) (KR.wl x)), (7, .int .i64 (z.2.1 : Int)), (8, .int .i64 ((z.1 : Int) - 1))])
    (fun z => z.1 ≤ KR.wl x ∧ z.2.1 = x / KR.B ^ z.1 % d ∧ ∀ j, z.1 ≤ j → j < KR.wl x → z.2.2 j = KR.dg (x / d) j) (fun z => K W ([(b11, ints 3 (KR.wl x) (fun j => (z.2.2 j : Int)) [])] :: N)) (fun z => z.1) (KR.wl x, 0, fun _ => 0)
    ⟨rfl, rfl, rfl, rfl, rfl, trivial⟩ ⟨Nat.le_refl _, by dsimp only; rw [KR.wl_le_iff.1 (Nat.le_refl _)]; exact (Nat.zero_mod d).symm, fun j h1 h2 => by omega⟩ (fun w h => h) ?_
  rintro ⟨k, r, g⟩ ⟨hk, hr, hg⟩
  dsimp only at hk hr hg ⊢
  rcases k with _ | k
  · have h1 : r = x % d := by rw [hr]; simp
    have hdig : KR.Dig g (KR.wl x) := fun i hi => by rw [hg i (Nat.zero_le _) hi]; exact KR.dg_lt _ _
    have hv : KR.val g (KR.wl x) = x / d := by
      rw [KR.val_congr fun i hi => hg i (Nat.zero_le _) hi]
      exact KR.val_of_le (KR.wl_mono (Nat.div_le_self _ _))
    subst h1
    clear hr
    haveI hraw : RawI (K W ([(b11, ints 3 (KR.wl x) (fun j => (g j : Int)) [])] :: N)) (.slice (some ⟨b11, 0, none⟩) (KR.wl x) (KR.wl x)) (KR.wl x) g := raw_own 0 rfl (by unfold maxLen; omega)
    refine c_seq ?_
    refine c_seq ?_
    refine c_region ?_
    refine s_y (y_move rfl) rfl rfl rfl ?_
    refine s_y (y_F (y_geq rfl rfl) (by omega)) rfl rfl rfl ?_
    refine s_nil ?_
    refine f_then ?_
    refine c_condF rfl ?_
    refine c_exit ?_
    refine f_thenE ?_
    refine f_rndE ?_
    refine f_blockE ?_
    refine f_then ?_
    refine c_seq ?_
    refine c_region ?_
    refine s_y (y_move rfl) rfl rfl rfl ?_
    refine s_call (en_f rfl Try.call94) trim_spec rfl rfl rfl (fun r9 => ?_)
    refine s_y (y_move rfl) rfl rfl rfl ?_
    refine s_y (y_assign rfl) rfl rfl rfl ?_
    refine s_y (y_assign rfl) rfl rfl rfl ?_
    refine s_nil ?_
    refine f_then ?_
    refine c_ret ?_
    exact f_ret ⟨_, r9.val _, (r9.num (raw_own 0 rfl (by unfold maxLen; omega)) hdig).of hv⟩ (res2 rfl rfl rfl) (fun w h => h)
  · rw [show ((k + 1 : Nat) : Int) - 1 = (k : Int) by omega]
    have hst := KR.small_step (x := x) (k := k) hd
    rw [← hr] at hst
    have dx := KR.dg_lt' x k
    have hrd : r < d := by rw [hr]; exact Nat.mod_lt _ hd
    clear hr
    obtain ⟨t, ht⟩ : ∃ t, t = r * 65536 + KR.dg x k := ⟨_, rfl⟩
    rw [← ht] at hst
    have hti : (r : Int) * 65536 + (KR.dg x k : Int) = (t : Int) := by omega
    have htd : t / d < 65536 := by rw [hst.1]; exact KR.dg_lt' _ _
    refine c_seq ?_
    refine c_seq ?_
    refine c_region ?_
    refine s_y (y_move rfl) rfl rfl rfl ?_
    refine s_y (y_T (y_geq rfl rfl) (by omega)) rfl rfl rfl ?_
    refine s_nil ?_
    refine f_then ?_
    refine c_condT rfl ?_
    refine c_skip ?_
    refine f_then ?_
    refine c_seq ?_
    refine c_block ?_
    refine c_seq ?_
    refine c_region ?_
    refine s_y (y_move rfl) rfl rfl rfl ?_
    refine s_y (y_mul rfl rfl (by omega)) rfl rfl rfl ?_
    refine s_y (y_move rfl) rfl rfl rfl ?_
    refine s_y (y_move rfl) rfl rfl rfl ?_
    refine s_y (y_ixN Try.tab rfl rfl rfl rfl _ rfl (by omega)) rfl rfl rfl ?_
    refine s_y (y_ldN Try.tab rfl rfl (by omega)) rfl rfl rfl ?_
    refine s_y (y_add rfl rfl (by omega)) rfl rfl rfl ?_
    refine s_y (y_assign rfl) rfl rfl rfl ?_
    refine s_nil ?_
    refine f_then ?_
    refine c_seq ?_
    refine c_region ?_
    refine s_y (y_move rfl) rfl rfl rfl ?_
    refine s_y (y_move rfl) rfl rfl rfl ?_
    refine s_y (y_move rfl) rfl rfl rfl ?_
    refine s_y (y_move rfl) rfl rfl rfl ?_
    refine s_y (y_quo rfl rfl (by omega)) rfl rfl rfl ?_
    refine s_y (y_indexAddr1 Try.tab rfl rfl rfl rfl _ rfl (by omega)) rfl rfl rfl ?_
    refine s_set (set_ints Try.tab 0 rfl rfl rfl rfl (by omega)) rfl rfl ?_
    refine s_nil ?_
    refine f_then ?_
    refine c_region ?_
    refine s_y (y_move rfl) rfl rfl rfl ?_
    refine s_y (y_move rfl) rfl rfl rfl ?_
    refine s_y (y_rem rfl rfl (by omega)) rfl rfl rfl ?_
    refine s_y (y_assign rfl) rfl rfl rfl ?_
    refine s_nil ?_
    refine f_blockN ?_
    refine f_then ?_
    refine c_region ?_
    refine s_y (y_move rfl) rfl rfl rfl ?_
    refine s_y (y_sub rfl rfl (by omega)) rfl rfl rfl ?_
    refine s_y (y_assign rfl) rfl rfl rfl ?_
    refine s_nil ?_
    rw [hti]
    skip
    refine f_roundP (k, t % d, upd g k (t / d)) ⟨by dsimp only; omega, hst.2, fun j h1 h2 => ?_⟩ (by dsimp only; omega) ⟨rfl, rfl, rfl, rfl, rfl, trivial⟩ (fun w h => by dsimp only; rw [← upd_nat]; exact h)
    dsimp only
    rw [upd_get]
    split
    · rename_i e
      subst e
      exact hst.1
    · exact hg j (by dsimp only at h1; omega) h2
end Go.KL
end

section
/- Walks: the reference's Shr by one, BitLen, Bit. -/
namespace Go.KL
open Go.Proofs
theorem power1 {C : World → Prop} : Spec Try.prog 122 #[.int .i64 1] C (fun _ : Unit => .int .i64 2) (fun _ => C) := power_spec (n := 1) (by omega)
/-- The bit length. -/
def bln (x : Nat) : Nat := if x = 0 then 0 else Nat.log2 x + 1
theorem bln_lt (x : Nat) : x < 2 ^ bln x := by
  unfold bln
  split
  · rename_i h; subst h; decide
  · rename_i h; exact (Nat.log2_lt h).1 (Nat.lt_succ_self _)
theorem bln_unique {x n : Nat} (h1 : x < 2 ^ n) (h2 : n = 0 ∨ 2 ^ (n - 1) ≤ x) : bln x = n := by
  unfold bln
  split
  · rename_i h
    subst h
    rcases h2 with h2 | h2
    · exact h2.symm
    · have : 0 < 2 ^ (n - 1) := Nat.pow_pos (by decide)
      omega
  · rename_i h
    have h3 : Nat.log2 x < n := (Nat.log2_lt h).2 h1
    rcases h2 with h2 | h2
    · omega
    · have h4 : n - 1 ≤ Nat.log2 x := (Nat.le_log2 h).2 h2
      omega
theorem at_q {D : World → Prop} {a : Value} {x i : Nat} [ha : NumV D a x] : ∀ C' : World → Prop, (∀ w, C' w → D w) → Spec Try.prog 93 #[a, .int .i64 (i : Int)] C' (fun _ : Unit => .int .i64 (KR.dg x i : Int)) (fun _ => C') := fun _ h => at_spec (ha := ha.cls h)
theorem at_q1 {D : World → Prop} {a : Value} {x i : Nat} [ha : NumV D a x] : ∀ C' : World → Prop, (∀ w, C' w → D w) → Spec Try.prog 93 #[a, .int .i64 ((i : Int) + 1)] C' (fun _ : Unit => .int .i64 (KR.dg x (i + 1) : Int)) (fun _ => C') := fun _ h => at_spec (i := i + 1) (ha := ha.cls h)
theorem rtop_eq {x : Nat} (hx : x ≠ 0) : KR.dg x (KR.wl x - 1) = x / 2 ^ (16 * (KR.wl x - 1)) := by
  have h0 : KR.wl x ≠ 0 := fun e => hx (KR.wl_eq_zero.1 e)
  unfold KR.dg
  rw [KR.B_two]
  refine Nat.mod_eq_of_lt ?_
  rw [Nat.div_lt_iff_lt_mul (Nat.pow_pos (by decide)), ← KR.B_two]
  have h1 := KR.lt_wl x
  rw [show KR.wl x = (KR.wl x - 1) + 1 by omega, KR.B_succ, Nat.mul_comm] at h1
  exact h1
theorem top_bln {x j : Nat} (hx : x ≠ 0) (h0 : KR.dg x (KR.wl x - 1) / 2 ^ j = 0) (h1 : j = 0 ∨ KR.dg x (KR.wl x - 1) / 2 ^ (j - 1) ≠ 0) : bln x = 16 * (KR.wl x - 1) + j := by
  have ht := KR.dg_top (x := x) (by have : KR.wl x ≠ 0 := fun e => hx (KR.wl_eq_zero.1 e); omega)
  rw [rtop_eq hx] at h0 h1 ht
  rw [Nat.div_div_eq_div_mul, ← Nat.pow_add] at h0 h1
  refine bln_unique ?_ (.inr ?_)
  · rcases (Nat.div_eq_zero_iff).1 h0 with h | h
    · exact absurd h (by have : 0 < 2 ^ (16 * (KR.wl x - 1) + j) := Nat.pow_pos (by decide); omega)
    · exact h
  · rcases h1 with h | h
    · subst h
      rw [Nat.add_zero] at h0
      exact absurd h0 ht
    · rcases Nat.lt_or_ge x (2 ^ (16 * (KR.wl x - 1) + j - 1)) with h2 | h2
      · rcases Nat.eq_zero_or_pos j with hj | hj
        · subst hj
          rw [Nat.add_zero] at h0
          exact absurd h0 ht
        · exfalso
          apply h
          rw [show 16 * (KR.wl x - 1) + (j - 1) = 16 * (KR.wl x - 1) + j - 1 by omega]
          exact Nat.div_eq_of_lt h2
      · exact h2
theorem bln_le (x : Nat) : bln x ≤ 16 * KR.wl x := by
  unfold bln
  split
  · omega
  · rename_i h
    have := (Nat.log2_lt h).2 (show x < 2 ^ (16 * KR.wl x) by rw [← KR.B_two]; exact KR.lt_wl x)
    omega
theorem power_q {D : World → Prop} {n : Nat} (hn : n ≤ 16) : ∀ C' : World → Prop, (∀ w, C' w → D w) → Spec Try.prog 122 #[.int .i64 (n : Int)] C' (fun _ : Unit => .int .i64 ((2 ^ n : Nat) : Int)) (fun _ => C') := fun _ _ => power_spec hn
attribute [local irreducible] SC St Fin Sq Ylds Doos Sets Enters Spec CellIs CellsAre Then Ret Rnd Chn resOK ints bools recs arr
set_option maxRecDepth 10000 in
set_option maxHeartbeats 4000000 in
theorem shr1_spec {W : World} {N : List Chunk} {a : Value} {x : Nat} [ha : NumV (K W N) a x] (hx : KR.wl x ≤ 1000000) : Spec Try.prog 127 #[a, .int .i64 1] (K W N) (X := NFr W (x / 2)) (fun r => r.v) (fun r => K W (r.L :: N)) := by
  have hs : KR.wl (x / 2) ≤ KR.wl x := KR.wl_mono (Nat.div_le_self x 2)
  refine enter (args := [_, _]) Try.func127 rfl Try.ntmps127 rfl ?_
  refine c_seq ?_
  refine c_region ?_
  refine s_y (y_assign rfl) rfl rfl rfl ?_
  refine s_nil ?_
  refine f_then ?_
  refine c_seq ?_
  refine c_region ?_
  refine s_y (y_assign rfl) rfl rfl rfl ?_
  refine s_nil ?_
  refine f_then ?_
  refine c_seq ?_
  refine c_region ?_
  refine s_y (y_move rfl) rfl rfl rfl ?_
  refine s_y (y_rem rfl rfl (by omega)) rfl rfl rfl ?_
  refine s_call (en_f rfl Try.call122) power1 rfl rfl rfl (fun _ => ?_)
  refine s_y (y_assign rfl) rfl rfl rfl ?_
  refine s_nil ?_
  refine f_then ?_
  refine c_seq ?_
  refine c_seq ?_
  refine c_region ?_
  refine s_y (y_move rfl) rfl rfl rfl ?_
  refine s_y (y_quo rfl rfl (by omega)) rfl rfl rfl ?_
  refine s_y (y_assign rfl) rfl rfl rfl ?_
  refine s_nil ?_
  refine f_then ?_
  refine c_block ?_
  refine SC.cls (C' := K W ([] :: N)) ?_ (fun w h => h.weak [] (by simp))
  refine c_loopP (α := RowSt (KR.dg (x / 2))) (fun z => [(0, a), (5, z.v), (6, .int .i64 2), (7, .int .i64 (z.u : Int))]) (fun z => z.u ≤ KR.wl x) (fun z => K W (z.c :: N)) (fun z => KR.wl x - z.u) ⟨0, 0, .slice none 0 0, [], .nil⟩ ⟨rfl, rfl, rfl, rfl, trivial⟩ (Nat.zero_le _) (fun w h => h) ?_
  rintro ⟨i, q, v, c, hB⟩ hi
  dsimp only at hi ⊢
  by_cases hlt : i < KR.wl x
  · have hst := KR.shr1_step x i
    have dx := KR.dg_lt' x i
    have dy := KR.dg_lt' x (i + 1)
    have e : (((KR.dg (x / 2) i : Nat)) : Int) = (KR.dg x i : Int) / 2 + (KR.dg x (i + 1) : Int) % 2 * (65536 / 2) := by omega
    refine c_seq ?_
    refine c_seq ?_
    refine c_region ?_
    refine s_y (y_move rfl) rfl rfl rfl ?_
    refine s_y (y_move rfl) rfl rfl rfl ?_
    refine s_y (y_lenN Try.tab rfl rfl) rfl rfl rfl ?_
    refine s_y (y_T (y_lss rfl rfl) (by omega)) rfl rfl rfl ?_
    refine s_nil ?_
    refine f_then ?_
    refine c_condT rfl ?_
    refine c_skip ?_
    refine f_then ?_
    refine c_seq ?_
    refine c_block ?_
    refine c_plan [.c 0, .c 1, .c 2, .c 3, .c 4, .c 5, .c 6, .c 7, .c 8, .c 9, .c 10, .c 11, .c 12, .c 13, .c 14, .c 15, .c 16, .s 17, .s 18, .c 19] [] ((K W N)) Try.mixed (by kernel_rfl) rfl K.cl ?_
    refine d_c rfl (Qui.ylds (y_move rfl)) rfl rfl rfl (fun _ h => h.tail) K.cl ?_
    refine d_c rfl (Qui.ylds (y_move rfl)) rfl rfl rfl (fun _ h => h.tail) K.cl ?_
    refine d_c rfl (Qui.ylds (y_move rfl)) rfl rfl rfl (fun _ h => h.tail) K.cl ?_
    refine d_c rfl (Qui.ylds (y_ixN Try.tab rfl rfl rfl rfl _ rfl (by omega))) rfl rfl rfl (fun _ h => h.tail) K.cl ?_
    refine d_c rfl (Qui.ylds (y_ldN Try.tab rfl rfl (by omega))) rfl rfl rfl (fun _ h => h.tail) K.cl ?_
    refine d_c rfl (Qui.ylds (y_move rfl)) rfl rfl rfl (fun _ h => h.tail) K.cl ?_
    refine d_c rfl (Qui.ylds (y_quo rfl rfl (by omega))) rfl rfl rfl (fun _ h => h.tail) K.cl ?_
    refine d_c rfl (Qui.ylds (y_move rfl)) rfl rfl rfl (fun _ h => h.tail) K.cl ?_
    refine d_c rfl (Qui.ylds (y_move rfl)) rfl rfl rfl (fun _ h => h.tail) K.cl ?_
    refine d_c rfl (Qui.ylds (y_add rfl rfl (by omega))) rfl rfl rfl (fun _ h => h.tail) K.cl ?_
    refine d_c rfl (Qui.callC K.cl (en_f rfl Try.call93) (at_q1)) rfl rfl rfl (fun _ h => h.tail) K.cl ?_
    refine d_c rfl (Qui.ylds (y_move rfl)) rfl rfl rfl (fun _ h => h.tail) K.cl ?_
    refine d_c rfl (Qui.ylds (y_rem rfl rfl (by omega))) rfl rfl rfl (fun _ h => h.tail) K.cl ?_
    refine d_c rfl (Qui.ylds (y_move rfl)) rfl rfl rfl (fun _ h => h.tail) K.cl ?_
    refine d_c rfl (Qui.ylds (y_quo rfl rfl (by omega))) rfl rfl rfl (fun _ h => h.tail) K.cl ?_
    refine d_c rfl (Qui.ylds (y_mul rfl rfl (by omega))) rfl rfl rfl (fun _ h => h.tail) K.cl ?_
    refine d_c rfl (Qui.ylds (y_add rfl rfl (by omega))) rfl rfl rfl (fun _ h => h.tail) K.cl ?_
    refine d_s rfl (do_buildSlice1 Try.tab ⟨rfl, rfl, rfl, rfl⟩ rfl rfl rfl rfl) rfl rfl rfl (fun _ => K.cl) (fun _ _ _ h => h.tail.tail) (fun b36 => ?_)
    refine d_s rfl (do_appendB (by_ := 8) Try.tab 1 rfl hB rfl ⟨rfl, rfl, rfl, rfl⟩ rfl (by simp) rfl (by omega) (cells_row0 0 rfl rfl) rfl (by simp [Value.oneCell']) (by unfold maxLen; omega) (by omega)) rfl rfl rfl (fun _ => K.cl) (fun _ _ _ h => h.tail.tail) (fun r => ?_)
    refine d_c rfl (Qui.ylds (y_assign rfl)) rfl rfl rfl (fun _ h => h.tail.tail) K.cl ?_
    refine d_nil ?_
    refine f_blockN ?_
    refine f_then ?_
    refine c_region ?_
    refine s_y (y_move rfl) rfl rfl rfl ?_
    refine s_y (y_add rfl rfl (by omega)) rfl rfl rfl ?_
    refine s_y (y_assign rfl) rfl rfl rfl ?_
    refine s_nil ?_
    exact f_roundP ⟨i + 1, 0, r.1.1, r.1.2, by rw [dgs_succ, e]; exact r.2⟩ hlt (by dsimp only; omega) ⟨rfl, rfl, rfl, rfl, trivial⟩ (fun w h => h.tail)
  · obtain rfl : i = KR.wl x := by omega
    haveI hr : RawI (K W (c :: N)) v (KR.wl x) (KR.dg (x / 2)) := hB.rawI 0 rfl
    refine c_seq ?_
    refine c_seq ?_
    refine c_region ?_
    refine s_y (y_move rfl) rfl rfl rfl ?_
    refine s_y (y_move rfl) rfl rfl rfl ?_
    refine s_y (y_lenN Try.tab rfl rfl) rfl rfl rfl ?_
    refine s_y (y_F (y_lss rfl rfl) (by omega)) rfl rfl rfl ?_
    refine s_nil ?_
    refine f_then ?_
    refine c_condF rfl ?_
    refine c_exit ?_
    refine f_thenE ?_
    refine f_rndE ?_
    refine f_blockE ?_
    refine f_then ?_
    refine c_seq ?_
    refine c_region ?_
    refine s_y (y_move rfl) rfl rfl rfl ?_
    refine s_call (en_f rfl Try.call94) trim_spec rfl rfl rfl (fun r => ?_)
    refine s_y (y_assign rfl) rfl rfl rfl ?_
    refine s_nil ?_
    refine f_then ?_
    refine c_ret ?_
    exact f_ret ⟨c, r.val v, (r.num (hB.rawI 0 rfl) (KR.Dig.dg _ _)).of (KR.val_of_le hs)⟩ (res1 rfl rfl) (fun w h => h)
set_option maxRecDepth 10000 in
set_option maxHeartbeats 4000000 in
theorem rbitLen_spec {C : World → Prop} {a : Value} {x : Nat} [ha : NumV C a x] (hx : KR.wl x ≤ 1000000) : Spec Try.prog 118 #[a] C (fun _ : Unit => .int .i64 ((bln x : Nat) : Int)) (fun _ => C) := by
  refine enter (args := [_]) Try.func118 rfl Try.ntmps118 rfl ?_
  by_cases h0 : x = 0
  · have h1 : KR.wl x = 0 := KR.wl_eq_zero.2 h0
    have h2 : bln x = 0 := if_pos h0
    rw [h2]
    refine c_seq ?_
    refine c_region ?_
    refine s_y (y_assign rfl) rfl rfl rfl ?_
    refine s_nil ?_
    refine f_then ?_
    refine c_seq ?_
    refine c_seq ?_
    refine c_region ?_
    refine s_y (y_move rfl) rfl rfl rfl ?_
    refine s_y (y_lenN Try.tab rfl rfl) rfl rfl rfl ?_
    refine s_y (y_T (y_eql rfl rfl) (by omega)) rfl rfl rfl ?_
    refine s_nil ?_
    refine f_then ?_
    refine c_condT rfl ?_
    refine c_seq ?_
    refine c_region ?_
    refine s_y (y_assign rfl) rfl rfl rfl ?_
    refine s_nil ?_
    refine f_then ?_
    refine c_ret ?_
    refine f_thenR ?_
    exact f_ret () (res1 rfl rfl) (fun w h => h)
  · have h1 : KR.wl x ≠ 0 := fun e => h0 (KR.wl_eq_zero.1 e)
    obtain ⟨m, hm⟩ : ∃ m, KR.wl x = m + 1 := ⟨KR.wl x - 1, by omega⟩
    have hT : KR.dg x (KR.wl x - 1) = KR.dg x m := by rw [hm]; rfl
    have dx := KR.dg_lt' x m
    refine c_seq ?_
    refine c_region ?_
    refine s_y (y_assign rfl) rfl rfl rfl ?_
    refine s_nil ?_
    refine f_then ?_
    refine c_seq ?_
    refine c_seq ?_
    refine c_region ?_
    refine s_y (y_move rfl) rfl rfl rfl ?_
    refine s_y (y_lenN Try.tab rfl rfl) rfl rfl rfl ?_
    refine s_y (y_F (y_eql rfl rfl) (by omega)) rfl rfl rfl ?_
    refine s_nil ?_
    refine f_then ?_
    refine c_condF rfl ?_
    refine c_skip ?_
    refine f_then ?_
    refine c_seq ?_
    refine c_region ?_
    refine s_y (y_move rfl) rfl rfl rfl ?_
    refine s_y (y_lenN Try.tab rfl rfl) rfl rfl rfl ?_
    refine s_y (y_sub rfl rfl (by omega)) rfl rfl rfl ?_
    refine s_y (y_mul rfl rfl (by omega)) rfl rfl rfl ?_
    refine s_y (y_assign rfl) rfl rfl rfl ?_
    refine s_nil ?_
    refine f_then ?_
    refine c_seq ?_
    refine c_seq ?_
    refine c_region ?_
    refine s_y (y_move rfl) rfl rfl rfl ?_
    refine s_y (y_move rfl) rfl rfl rfl ?_
    refine s_y (y_lenN Try.tab rfl rfl) rfl rfl rfl ?_
    refine s_y (y_sub rfl rfl (by omega)) rfl rfl rfl ?_
    refine s_y (y_ixN Try.tab rfl rfl rfl rfl _ (Int.toNat_of_nonneg (by omega)).symm (by omega)) rfl rfl rfl ?_
    refine s_y (y_ldN Try.tab rfl rfl (by omega)) rfl rfl rfl ?_
    refine s_y (y_assign rfl) rfl rfl rfl ?_
    refine s_nil ?_
    refine f_then ?_
    refine c_block ?_
    have e2 : ((KR.wl x : Int) - 1).toNat = m := by omega
    rw [e2, show (16 : Int) * ((KR.wl x : Int) - 1) = ((16 * m : Nat) : Int) by omega]
    refine c_loopP (α := Nat × Nat) (fun z => [(3, .int .i64 ((16 * m + z.1 : Nat) : Int)), (4, .int .i64 (z.2 : Int))]) (fun z => z.2 = KR.dg x m / 2 ^ z.1 ∧ (z.1 = 0 ∨ KR.dg x m / 2 ^ (z.1 - 1) ≠ 0) ∧ z.2 < 65536 ∧ z.1 + z.2 ≤ 70000) (fun _ => C) (fun z => z.2) (0, KR.dg x m) ⟨rfl, rfl, trivial⟩ ⟨by simp, .inl rfl, dx, by dsimp only; omega⟩ (fun w h => h) ?_
    rintro ⟨j, t⟩ ⟨ht, hj, htb, hjt⟩
    dsimp only at ht hj htb hjt ⊢
    by_cases ht0 : t = 0
    · have hb : bln x = 16 * m + j := by
        have := top_bln h0 (j := j) (by rw [hT, ← ht]; exact ht0) (by rw [hT]; exact hj)
        rw [this, hm]
        rfl
      clear hj ht hT
      rw [hb]
      refine c_seq ?_
      refine c_seq ?_
      refine c_region ?_
      refine s_y (y_move rfl) rfl rfl rfl ?_
      refine s_y (y_F (y_gtr rfl rfl) (by omega)) rfl rfl rfl ?_
      refine s_nil ?_
      refine f_then ?_
      refine c_condF rfl ?_
      refine c_exit ?_
      refine f_thenE ?_
      refine f_rndE ?_
      refine f_blockE ?_
      refine f_then ?_
      refine c_seq ?_
      refine c_region ?_
      refine s_y (y_move rfl) rfl rfl rfl ?_
      refine s_y (y_assign rfl) rfl rfl rfl ?_
      refine s_nil ?_
      refine f_then ?_
      refine c_ret ?_
      exact f_ret () (res1 rfl rfl) (fun w h => h)
    · have e3 : t / 2 = KR.dg x m / 2 ^ (j + 1) := by rw [ht, Nat.div_div_eq_div_mul, Nat.pow_succ]
      have e4 : KR.dg x m / 2 ^ j ≠ 0 := by rw [← ht]; exact ht0
      clear hj ht hT
      refine c_seq ?_
      refine c_seq ?_
      refine c_region ?_
      refine s_y (y_move rfl) rfl rfl rfl ?_
      refine s_y (y_T (y_gtr rfl rfl) (by omega)) rfl rfl rfl ?_
      refine s_nil ?_
      refine f_then ?_
      refine c_condT rfl ?_
      refine c_skip ?_
      refine f_then ?_
      refine c_seq ?_
      refine c_block ?_
      refine c_region ?_
      refine s_y (y_move rfl) rfl rfl rfl ?_
      refine s_y (y_add rfl rfl (by omega)) rfl rfl rfl ?_
      refine s_y (y_assign rfl) rfl rfl rfl ?_
      refine s_nil ?_
      refine f_blockN ?_
      refine f_then ?_
      refine c_region ?_
      refine s_y (y_move rfl) rfl rfl rfl ?_
      refine s_y (y_quo rfl rfl (by omega)) rfl rfl rfl ?_
      refine s_y (y_assign rfl) rfl rfl rfl ?_
      refine s_nil ?_
      exact f_roundP (j + 1, t / 2) ⟨e3, .inr e4, by dsimp only; omega, by dsimp only; omega⟩ (by dsimp only; omega) ⟨rfl, rfl, trivial⟩ (fun w h => h)
end Go.KL
end

section
/- Walks: the reference's Bit, Shl. -/
namespace Go.KL
open Go.Proofs
theorem power_m {D : World → Prop} {i : Nat} : ∀ C' : World → Prop, (∀ w, C' w → D w) → Spec Try.prog 122 #[.int .i64 ((i : Int) % 16)] C' (fun _ : Unit => .int .i64 ((2 ^ (i % 16) : Nat) : Int)) (fun _ => C') := fun _ _ => power_spec (n := i % 16) (by omega)
theorem power_e {D : World → Prop} {i p : Nat} (hp : 2 ^ (i % 16) = p) : ∀ C' : World → Prop, (∀ w, C' w → D w) → Spec Try.prog 122 #[.int .i64 ((i : Int) % 16)] C' (fun _ : Unit => .int .i64 (p : Int)) (fun _ => C') := fun _ _ => by
  subst hp
  exact power_spec (n := i % 16) (by omega)
theorem power_s {C : World → Prop} {i : Nat} : Spec Try.prog 122 #[.int .i64 ((i : Int) % 16)] C (fun _ : Unit => .int .i64 ((2 ^ (i % 16) : Nat) : Int)) (fun _ => C) := power_spec (n := i % 16) (by omega)
theorem divI_bd {a p m : Nat} (h : a ≤ m) : (0 : Int) ≤ (a : Int) / (p : Int) ∧ (a : Int) / (p : Int) ≤ (m : Int) := by
  rw [← Int.natCast_ediv]
  exact ⟨Int.natCast_nonneg _, Int.ofNat_le.2 (Nat.le_trans (Nat.div_le_self _ _) h)⟩
theorem dgI_le {x j : Nat} : ((KR.dg x j : Nat) : Int) ≤ 9223372036854775807 := by
  have := KR.dg_lt' x j
  omega
theorem divD {x j p : Nat} : (0 : Int) ≤ (KR.dg x j : Int) / (p : Int) ∧ (KR.dg x j : Int) / (p : Int) ≤ 9223372036854775807 ∧ (1 : Int) ≤ 2 := by
  have h := divI_bd (p := p) (show KR.dg x j ≤ 9223372036854775807 from Nat.le_trans (Nat.le_of_lt (KR.dg_lt' x j)) (by decide))
  exact ⟨h.1, h.2, by decide⟩
theorem two_pos (n : Nat) : 0 < 2 ^ n := Nat.pow_pos (by decide)
theorem two_le16 (i : Nat) : 2 ^ (i % 16) ≤ 32768 := Nat.pow_le_pow_right (by decide) (show i % 16 ≤ 15 by omega)
structure ShSt (g : Nat → Nat) (s : Nat) where
  u : Nat
  q : Nat
  v : Value
  c : Chunk
  buf : Buf 3 1 v c (s + u) (dgs g (s + u))
theorem prodI {a p : Nat} (ha : a < 65536) (hp : p ≤ 32768) : (0 : Int) ≤ (a : Int) * (p : Int) ∧ (a : Int) * (p : Int) ≤ 2147450880 := by
  have h := Nat.mul_le_mul (Nat.le_of_lt_succ ha) hp
  rw [← Int.natCast_mul]
  omega
theorem rdg_sh {x m s u : Nat} : KR.dg (x * m * KR.B ^ s) (s + u) = KR.dg (x * m) u := by
  rw [KR.dg_shl, if_neg (by omega), Nat.add_sub_cancel_left]
theorem sh_val {x n : Nat} : x * 2 ^ (n % 16) * KR.B ^ (n / 16) = x * 2 ^ n := by
  rw [KR.B_two, Nat.mul_assoc, ← Nat.pow_add, Nat.add_comm, Nat.div_add_mod]
theorem sh_wl {x n : Nat} : KR.wl (x * 2 ^ n) ≤ n / 16 + KR.wl x + 1 := by
  rw [KR.wl_le, ← sh_val, show n / 16 + KR.wl x + 1 = KR.wl x + 1 + n / 16 by omega, Nat.pow_add, KR.B_succ]
  refine Nat.mul_lt_mul_of_pos_right ?_ (KR.B_pos _)
  have h1 := KR.lt_wl x
  have h2 := two_le16 n
  have h3 : 2 ^ (n % 16) < KR.B := Nat.lt_of_le_of_lt h2 (by decide)
  exact Nat.lt_of_le_of_lt (Nat.mul_le_mul_right _ (Nat.le_of_lt h1)) (Nat.mul_lt_mul_of_pos_left h3 (KR.B_pos _))
attribute [local irreducible] SC St Fin Sq Ylds Doos Sets Enters Spec CellIs CellsAre Then Ret Rnd Chn resOK ints bools recs arr
set_option maxRecDepth 10000 in
set_option maxHeartbeats 4000000 in
theorem bit_spec {W : World} {N : List Chunk} {a : Value} {x i : Nat} [ha : NumV (K W N) a x] (hx : KR.wl x ≤ 1000000) : Spec Try.prog 120 #[a, .int .i64 (i : Int)] (K W N) (fun _ : Unit => .int .i64 ((x / 2 ^ i % 2 : Nat) : Int)) (fun _ => K W N) := by
  refine enter (args := [_, _]) Try.func120 rfl Try.ntmps120 rfl ?_
  by_cases h : i < 16 * KR.wl x
  · have hb := KR.bit_eq x i
    have hp := two_pos (i % 16)
    have hdiv : i / 16 < KR.wl x := by omega
    obtain ⟨p, hpe⟩ : ∃ p, 2 ^ (i % 16) = p := ⟨_, rfl⟩
    rw [← hb]
    rw [hpe] at hp ⊢
    have dx := KR.dg_lt' x (i / 16)
    have hq2 := divI_bd (p := p) (show KR.dg x (i / 16) ≤ 65535 by omega)
    clear hb
    refine c_seq ?_
    refine c_region ?_
    refine s_y (y_assign rfl) rfl rfl rfl ?_
    refine s_nil ?_
    refine f_then ?_
    refine c_seq ?_
    refine c_seq ?_
    refine c_region ?_
    refine s_y (y_move rfl) rfl rfl rfl ?_
    refine s_y (y_F (y_lss rfl rfl) (by omega)) rfl rfl rfl ?_
    refine s_y (y_move rfl) rfl rfl rfl ?_
    refine s_y (y_move rfl) rfl rfl rfl ?_
    refine s_y (y_move rfl) rfl rfl rfl ?_
    refine s_y (y_lenN Try.tab rfl rfl) rfl rfl rfl ?_
    refine s_y (y_mul rfl rfl (by omega)) rfl rfl rfl ?_
    refine s_y (y_F (y_geq rfl rfl) (by omega)) rfl rfl rfl ?_
    refine s_y (y_pickF rfl rfl) rfl rfl rfl ?_
    refine s_nil ?_
    refine f_then ?_
    refine c_condF rfl ?_
    refine c_skip ?_
    refine f_then ?_
    refine c_seq ?_
    refine c_plan [.c 0, .c 1, .c 2, .c 3, .c 4, .c 5, .c 6, .c 7, .c 8, .c 9, .c 10] [] ((K W N)) Try.mixed (by kernel_rfl) rfl K.cl ?_
    refine d_c rfl (Qui.ylds (y_move rfl)) rfl rfl rfl (fun _ h => h) K.cl ?_
    refine d_c rfl (Qui.ylds (y_move rfl)) rfl rfl rfl (fun _ h => h) K.cl ?_
    refine d_c rfl (Qui.ylds (y_quo rfl rfl (by omega))) rfl rfl rfl (fun _ h => h) K.cl ?_
    refine d_c rfl (Qui.ylds (y_ixN Try.tab rfl rfl rfl rfl _ rfl (by omega))) rfl rfl rfl (fun _ h => h) K.cl ?_
    refine d_c rfl (Qui.ylds (y_ldN Try.tab rfl rfl (by omega))) rfl rfl rfl (fun _ h => h) K.cl ?_
    refine d_c rfl (Qui.ylds (y_move rfl)) rfl rfl rfl (fun _ h => h) K.cl ?_
    refine d_c rfl (Qui.ylds (y_rem rfl rfl (by omega))) rfl rfl rfl (fun _ h => h) K.cl ?_
    refine d_c rfl (Qui.callC K.cl (en_f rfl Try.call122) (power_e hpe)) rfl rfl rfl (fun _ h => h) K.cl ?_
    refine d_c rfl (Qui.ylds (y_quo rfl rfl ⟨Int.natCast_nonneg _, dgI_le, by omega⟩)) rfl rfl rfl (fun _ h => h) K.cl ?_
    refine d_c rfl (Qui.ylds (y_rem rfl rfl divD)) rfl rfl rfl (fun _ h => h) K.cl ?_
    refine d_c rfl (Qui.ylds (y_assign rfl)) rfl rfl rfl (fun _ h => h) K.cl ?_
    refine d_nil ?_
    refine f_then ?_
    refine c_ret ?_
    exact f_ret () (res1 rfl rfl) (fun w h => h)
  · have h0 : x / 2 ^ i = 0 := by
      refine Nat.div_eq_of_lt (Nat.lt_of_lt_of_le (KR.lt_wl x) ?_)
      rw [KR.B_two]
      exact Nat.pow_le_pow_right (by decide) (by omega)
    rw [h0]
    refine c_seq ?_
    refine c_region ?_
    refine s_y (y_assign rfl) rfl rfl rfl ?_
    refine s_nil ?_
    refine f_then ?_
    refine c_seq ?_
    refine c_seq ?_
    refine c_region ?_
    refine s_y (y_move rfl) rfl rfl rfl ?_
    refine s_y (y_F (y_lss rfl rfl) (by omega)) rfl rfl rfl ?_
    refine s_y (y_move rfl) rfl rfl rfl ?_
    refine s_y (y_move rfl) rfl rfl rfl ?_
    refine s_y (y_move rfl) rfl rfl rfl ?_
    refine s_y (y_lenN Try.tab rfl rfl) rfl rfl rfl ?_
    refine s_y (y_mul rfl rfl (by omega)) rfl rfl rfl ?_
    refine s_y (y_T (y_geq rfl rfl) (by omega)) rfl rfl rfl ?_
    refine s_y (y_pickF rfl rfl) rfl rfl rfl ?_
    refine s_nil ?_
    refine f_then ?_
    refine c_condT rfl ?_
    refine c_seq ?_
    refine c_region ?_
    refine s_y (y_assign rfl) rfl rfl rfl ?_
    refine s_nil ?_
    refine f_then ?_
    refine c_ret ?_
    refine f_thenR ?_
    exact f_ret () (res1 rfl rfl) (fun w h => h)
set_option maxRecDepth 10000 in
set_option maxHeartbeats 4000000 in
theorem shl_spec {W : World} {N : List Chunk} {a : Value} {x n : Nat} [ha : NumV (K W N) a x] (hx : KR.wl x ≤ 1000000) (hn : n ≤ 1000000) : Spec Try.prog 119 #[a, .int .i64 (n : Int)] (K W N) (X := NFr W (x * 2 ^ n)) (fun r => r.v) (fun r => K W (r.L :: N)) := by
  refine enter (args := [_, _]) Try.func119 rfl Try.ntmps119 rfl ?_
  have hval := sh_val (x := x) (n := n)
  have hwl := sh_wl (x := x) (n := n)
  have hp := two_le16 n
  have hps := power_e (D := fun _ => True) (i := n) rfl
  obtain ⟨p, hpe⟩ : ∃ p, 2 ^ (n % 16) = p := ⟨_, rfl⟩
  obtain ⟨s, hse⟩ : ∃ s, n / 16 = s := ⟨_, rfl⟩
  have hsb : s ≤ 62500 := by omega
  have hdiv : (n : Int) / 16 = (s : Int) := by omega
  rw [hpe, hse] at hval
  rw [hse] at hwl
  rw [hpe] at hp hps
  refine c_seq ?_
  refine c_region ?_
  refine s_y (y_assign rfl) rfl rfl rfl ?_
  refine s_nil ?_
  refine f_then ?_
  refine c_seq ?_
  refine c_region ?_
  refine s_y (y_move rfl) rfl rfl rfl ?_
  refine s_y (y_quo rfl rfl (by omega)) rfl rfl rfl ?_
  rw [hdiv]
  refine s_do (make_ints (by_ := 8) Try.tab rfl rfl rfl rfl rfl rfl (by omega)) rfl rfl rfl (fun b11 => ?_)
  refine s_y (y_assign rfl) rfl rfl rfl ?_
  refine s_nil ?_
  refine f_then ?_
  refine c_seq ?_
  refine c_region ?_
  refine s_y (y_assign rfl) rfl rfl rfl ?_
  refine s_nil ?_
  refine f_then ?_
  refine c_seq ?_
  refine c_region ?_
  refine s_y (y_move rfl) rfl rfl rfl ?_
  refine s_y (y_rem rfl rfl (by omega)) rfl rfl rfl ?_
  refine s_call (en_f rfl Try.call122) (hps _ fun _ _ => trivial) rfl rfl rfl (fun _ => ?_)
  refine s_y (y_assign rfl) rfl rfl rfl ?_
  refine s_nil ?_
  refine f_then ?_
  refine c_seq ?_
  refine c_seq ?_
  refine c_region ?_
  refine s_y (y_assign rfl) rfl rfl rfl ?_
  refine s_nil ?_
  refine f_then ?_
  refine c_block ?_
  clear hps hdiv hpe hse
  refine c_loopP (α := ShSt (KR.dg (x * p * KR.B ^ s)) s) (fun z => [(0, a), (5, z.v), (6, .int .i64 (z.q : Int)), (7, .int .i64 (p : Int)), (8, .int .i64 (z.u : Int))]) (fun z => z.u ≤ KR.wl x ∧ z.q < 32768 ∧ x * p / KR.B ^ z.u = x / KR.B ^ z.u * p + z.q) (fun z => K W (z.c :: N)) (fun z => KR.wl x - z.u) ⟨0, 0, .slice (some ⟨b11, 0, none⟩) s s, [(b11, ints 3 s (fun _ => 0) [])], Buf.made (by unfold maxLen; omega) (fun i hi => by rw [KR.dg_shl, if_pos hi]; rfl)⟩ ⟨rfl, rfl, rfl, rfl, rfl, trivial⟩ ⟨Nat.zero_le _, by dsimp only; omega, by simp⟩ (fun w h => h) ?_
  rintro ⟨u, q, v, c, hB⟩ ⟨hu, hq1, hq⟩
  dsimp only at hu hq1 hq hB ⊢
  by_cases hlt : u < KR.wl x
  · have hst := KR.shl_step hq
    have dx := KR.dg_lt' x u
    have hpb := prodI dx hp
    obtain ⟨t, ht⟩ : ∃ t, t = q + KR.dg x u * p := ⟨_, rfl⟩
    have hti : (q : Int) + (KR.dg x u : Int) * (p : Int) = (t : Int) := by rw [ht]; simp
    rw [← ht] at hst
    clear hq hval hwl
    refine c_seq ?_
    refine c_seq ?_
    refine c_region ?_
    refine s_y (y_move rfl) rfl rfl rfl ?_
    refine s_y (y_move rfl) rfl rfl rfl ?_
    refine s_y (y_lenN Try.tab rfl rfl) rfl rfl rfl ?_
    refine s_y (y_T (y_lss rfl rfl) (by omega)) rfl rfl rfl ?_
    refine s_nil ?_
    refine f_then ?_
    refine c_condT rfl ?_
    refine c_skip ?_
    refine f_then ?_
    refine c_seq ?_
    refine c_block ?_
    refine c_seq ?_
    refine c_region ?_
    refine s_y (y_move rfl) rfl rfl rfl ?_
    refine s_y (y_move rfl) rfl rfl rfl ?_
    refine s_y (y_move rfl) rfl rfl rfl ?_
    refine s_y (y_ixN Try.tab rfl rfl rfl rfl _ rfl (by omega)) rfl rfl rfl ?_
    refine s_y (y_ldN Try.tab rfl rfl (by omega)) rfl rfl rfl ?_
    refine s_y (y_move rfl) rfl rfl rfl ?_
    refine s_y (y_mul rfl rfl (by omega)) rfl rfl rfl ?_
    refine s_y (y_add rfl rfl (by omega)) rfl rfl rfl ?_
    refine s_y (y_assign rfl) rfl rfl rfl ?_
    refine s_nil ?_
    refine f_then ?_
    refine c_seq ?_
    refine c_region ?_
    refine s_y (y_move rfl) rfl rfl rfl ?_
    refine s_y (y_move rfl) rfl rfl rfl ?_
    refine s_y (y_rem rfl rfl (by omega)) rfl rfl rfl ?_
    refine s_do (do_buildSlice1 Try.tab ⟨rfl, rfl, rfl, rfl⟩ rfl rfl rfl rfl) rfl rfl rfl (fun b32 => ?_)
    rw [hti]
    skip
    refine s_do (do_appendB (by_ := 8) Try.tab 1 rfl hB rfl ⟨rfl, rfl, rfl, rfl⟩ rfl (by simp) rfl (by omega) (cells_row0 0 rfl rfl) rfl (by simp [Value.oneCell']) (by unfold maxLen; omega) (by omega)) rfl rfl rfl (fun r => ?_)
    refine s_y (y_assign rfl) rfl rfl rfl ?_
    refine s_nil ?_
    refine f_then ?_
    refine c_region ?_
    refine s_y (y_move rfl) rfl rfl rfl ?_
    refine s_y (y_quo rfl rfl (by omega)) rfl rfl rfl ?_
    refine s_y (y_assign rfl) rfl rfl rfl ?_
    refine s_nil ?_
    refine f_blockN ?_
    refine f_then ?_
    refine c_region ?_
    refine s_y (y_move rfl) rfl rfl rfl ?_
    refine s_y (y_add rfl rfl (by omega)) rfl rfl rfl ?_
    refine s_y (y_assign rfl) rfl rfl rfl ?_
    refine s_nil ?_
    exact f_roundP ⟨u + 1, t / 65536, r.1.1, r.1.2, by rw [← Nat.add_assoc, dgs_succ, rdg_sh, ← hst.1]; exact r.2⟩ ⟨by exact hlt, by dsimp only; omega, hst.2⟩ (by dsimp only; omega) ⟨rfl, rfl, rfl, rfl, rfl, trivial⟩ (fun w h => h.tail)
  · obtain rfl : u = KR.wl x := by omega
    rw [KR.wl_le_iff.1 (Nat.le_refl _), Nat.zero_mul, Nat.zero_add] at hq
    have hd : KR.dg (x * p) (KR.wl x) = q := by
      unfold KR.dg
      rw [hq]
      exact Nat.mod_eq_of_lt (by have : KR.B = 65536 := rfl; omega)
    clear hq
    refine c_seq ?_
    refine c_seq ?_
    refine c_region ?_
    refine s_y (y_move rfl) rfl rfl rfl ?_
    refine s_y (y_move rfl) rfl rfl rfl ?_
    refine s_y (y_lenN Try.tab rfl rfl) rfl rfl rfl ?_
    refine s_y (y_F (y_lss rfl rfl) (by omega)) rfl rfl rfl ?_
    refine s_nil ?_
    refine f_then ?_
    refine c_condF rfl ?_
    refine c_exit ?_
    refine f_thenE ?_
    refine f_rndE ?_
    refine f_blockE ?_
    refine f_then ?_
    refine c_seq ?_
    refine c_region ?_
    refine s_y (y_move rfl) rfl rfl rfl ?_
    refine s_y (y_move rfl) rfl rfl rfl ?_
    refine s_do (do_buildSlice1 Try.tab ⟨rfl, rfl, rfl, rfl⟩ rfl rfl rfl rfl) rfl rfl rfl (fun b38 => ?_)
    refine s_do (do_appendB (by_ := 8) Try.tab 1 rfl hB rfl ⟨rfl, rfl, rfl, rfl⟩ rfl (by simp) rfl (by omega) (cells_row0 0 rfl rfl) rfl (by simp [Value.oneCell']) (by unfold maxLen; omega) (by omega)) rfl rfl rfl (fun r => ?_)
    have hB2 : Buf 3 1 r.1.1 r.1.2 (s + KR.wl x + 1) (dgs (KR.dg (x * p * KR.B ^ s)) (s + KR.wl x + 1)) := by
      rw [dgs_succ, rdg_sh, hd]
      exact r.2
    obtain ⟨⟨v2, c2⟩, hB3⟩ := r
    dsimp only at hB2 ⊢
    skip
    refine St.cls (C' := K W ([(b38, row 3 [.int .i64 (q : Int)])] :: c2 :: N)) ?_ (fun w h => h)
    haveI hr : RawI (K W ([(b38, row 3 [.int .i64 (q : Int)])] :: c2 :: N)) v2 (s + KR.wl x + 1) (KR.dg (x * p * KR.B ^ s)) := hB2.rawI 1 rfl
    refine s_call (en_f rfl Try.call94) trim_spec rfl rfl rfl (fun r9 => ?_)
    have hk : NumV (K W [c2]) (r9.val v2) (x * 2 ^ n) := (r9.num (hB2.rawI 0 rfl) (KR.Dig.dg _ _)).of (by rw [hval]; exact KR.val_of_le hwl)
    refine s_y (y_assign rfl) rfl rfl rfl ?_
    refine s_nil ?_
    refine f_then ?_
    refine c_ret ?_
    exact f_ret ⟨c2, _, hk⟩ (res1 rfl rfl) (fun w h => h.tail)
end Go.KL
end

section
/- Walks: the reference's Mul. -/
namespace Go.KL
open Go.Proofs
theorem prodD {x y i k : Nat} : (0 : Int) ≤ (KR.dg x i : Int) * (KR.dg y k : Int) ∧ (KR.dg x i : Int) * (KR.dg y k : Int) ≤ 4294836225 := by
  have h1 := KR.dg_lt' x i
  have h2 := KR.dg_lt' y k
  have h := Nat.mul_le_mul (Nat.le_of_lt_succ h1) (Nat.le_of_lt_succ h2)
  rw [← Int.natCast_mul]
  omega
theorem at_qm {D : World → Prop} {a : Value} {x i : Nat} [ha : NumV D a x] : ∀ C' : World → Prop, (∀ w, C' w → D w) → Spec Try.prog 93 #[a, .int .i64 (i : Int)] C' (fun _ : Unit => .int .i64 (KR.dg x i : Int)) (fun _ => C') := fun _ h => at_spec (ha := ha.cls h)
/-- Room for what is carried. -/
theorem carry_room {x y i k T V c : Nat} (hT : T = KR.wl x + KR.wl y) (hi : i < KR.wl x) (hc : 0 < c) (hv : V + c * (KR.B ^ i * KR.B ^ k) ≤ KR.val (KR.dg x) (i + 1) * y) : i + k < T := by
  rcases Nat.lt_or_ge (i + k) T with h | h
  · exact h
  · exfalso
    have h1 : KR.val (KR.dg x) (i + 1) < KR.B ^ (i + 1) := KR.val_lt (KR.Dig.dg x _)
    have h2 : KR.B ^ (i + 1) ≤ KR.B ^ KR.wl x := KR.B_le hi
    have h3 := KR.lt_wl y
    have h4 : KR.val (KR.dg x) (i + 1) * y ≤ KR.B ^ KR.wl x * y := Nat.mul_le_mul_right _ (by omega)
    have h5 : KR.B ^ KR.wl x * y < KR.B ^ KR.wl x * KR.B ^ KR.wl y := Nat.mul_lt_mul_of_pos_left h3 (KR.B_pos _)
    have h6 : KR.B ^ T ≤ KR.B ^ (i + k) := KR.B_le h
    rw [hT, Nat.pow_add, Nat.pow_add] at h6
    have h7 : 1 * (KR.B ^ i * KR.B ^ k) ≤ c * (KR.B ^ i * KR.B ^ k) := Nat.mul_le_mul_right _ hc
    omega
attribute [local irreducible] SC St Fin Sq Ylds Doos Sets Enters Spec CellIs CellsAre Then Ret Rnd Chn resOK ints bools recs arr
set_option maxRecDepth 10000 in
set_option maxHeartbeats 8000000 in
theorem rmul_spec {W : World} {N : List Chunk} {a b : Value} {x y : Nat} [ha : NumV (K W N) a x] [hb : NumV (K W N) b y] (hx : KR.wl x ≤ 1000000) (hy : KR.wl y ≤ 1000000) : Spec Try.prog 55 #[a, b] (K W N) (X := NFr W (x * y)) (fun r => r.v) (fun r => K W (r.L :: N)) := by
  refine enter (args := [_, _]) Try.func55 rfl Try.ntmps55 rfl ?_
  refine c_seq ?_
  refine c_region ?_
  refine s_y (y_assign rfl) rfl rfl rfl ?_
  refine s_nil ?_
  refine f_then ?_
  refine c_seq ?_
  refine c_region ?_
  refine s_y (y_move rfl) rfl rfl rfl ?_
  refine s_y (y_lenN Try.tab rfl rfl) rfl rfl rfl ?_
  refine s_y (y_move rfl) rfl rfl rfl ?_
  refine s_y (y_lenN Try.tab rfl rfl) rfl rfl rfl ?_
  refine s_y (y_add rfl rfl (by omega)) rfl rfl rfl ?_
  refine s_do (make_ints (by_ := 8) Try.tab rfl rfl rfl rfl rfl rfl (by omega)) rfl rfl rfl (fun b14 => ?_)
  refine s_y (y_assign rfl) rfl rfl rfl ?_
  refine s_nil ?_
  refine f_then ?_
  refine c_seq ?_
  refine c_seq ?_
  refine c_region ?_
  refine s_y (y_assign rfl) rfl rfl rfl ?_
  refine s_nil ?_
  refine f_then ?_
  refine c_block ?_
  obtain ⟨T, hT⟩ : ∃ T, T = KR.wl x + KR.wl y := ⟨_, rfl⟩
  rw [← hT]
  refine c_loopP (α := Nat × (Nat → Nat)) (fun z => [(0, a), (1, b), (5, .slice (some ⟨b14, 0, none⟩) T T), (6, .int .i64 (z.1 : Int))])
    (fun z => z.1 ≤ KR.wl x ∧ KR.Dig z.2 T ∧ KR.val z.2 T = KR.val (KR.dg x) z.1 * y) (fun z => K W ([(b14, ints 3 T (fun j => (z.2 j : Int)) [])] :: N)) (fun z => KR.wl x - z.1) (0, fun _ => 0)
    ⟨rfl, rfl, rfl, rfl, trivial⟩ ⟨Nat.zero_le _, fun _ _ => KR.B_pos 1, by dsimp only; rw [KR.val_zero fun _ _ => rfl]; simp [KR.val]⟩ (fun w h => h) ?_
  rintro ⟨i, g⟩ ⟨hi, hg, hv⟩
  dsimp only at hi hg hv ⊢
  by_cases hlt : i < KR.wl x
  · refine c_seq ?_
    refine c_seq ?_
    refine c_region ?_
    refine s_y (y_move rfl) rfl rfl rfl ?_
    refine s_y (y_move rfl) rfl rfl rfl ?_
    refine s_y (y_lenN Try.tab rfl rfl) rfl rfl rfl ?_
    refine s_y (y_T (y_lss rfl rfl) (by omega)) rfl rfl rfl ?_
    refine s_nil ?_
    refine f_then ?_
    refine c_condT rfl ?_
    refine c_skip ?_
    refine f_then ?_
    refine c_seq ?_
    refine c_block ?_
    refine c_seq ?_
    refine c_region ?_
    refine s_y (y_assign rfl) rfl rfl rfl ?_
    refine s_nil ?_
    refine f_then ?_
    refine c_seq ?_
    refine c_region ?_
    refine s_y (y_assign rfl) rfl rfl rfl ?_
    refine s_nil ?_
    refine f_then ?_
    refine c_block ?_
    refine c_loopP (α := Nat × Nat × (Nat → Nat)) (fun z => [(0, a), (1, b), (5, .slice (some ⟨b14, 0, none⟩) T T), (6, .int .i64 (i : Int)), (7, .int .i64 (z.2.1 : Int)), (8, .int .i64 (z.1 : Int))])
      (fun z => z.1 ≤ T - i ∧ z.2.1 < 65536 ∧ KR.Dig z.2.2 T ∧ KR.val z.2.2 T + z.2.1 * (KR.B ^ i * KR.B ^ z.1) = KR.val (KR.dg x) i * y + KR.dg x i * KR.B ^ i * KR.val (KR.dg y) z.1) (fun z => K W ([(b14, ints 3 T (fun j => (z.2.2 j : Int)) [])] :: N)) (fun z => T - i - z.1) (0, 0, g)
      ⟨rfl, rfl, rfl, rfl, rfl, rfl, trivial⟩ ⟨Nat.zero_le _, KR.B_pos 1, hg, by dsimp only; rw [hv]; simp [KR.val]⟩ (fun w h => h) ?_
    rintro ⟨k, c, h⟩ ⟨hk, hc, hh, hvv⟩
    dsimp only at hk hc hh hvv ⊢
    have hroom : (k < KR.wl y ∨ 0 < c) → i + k < T := by
      intro h0
      rcases h0 with h0 | h0
      · omega
      · refine carry_room (k := k) hT hlt h0 (V := KR.val h T) (Nat.le_trans (Nat.le_of_eq hvv) ?_)
        simp only [KR.val]
        rw [Nat.add_mul]
        refine Nat.add_le_add_left (Nat.mul_le_mul_left _ ?_) _
        rw [KR.val_dg]
        exact Nat.mod_le _ _
    refine c_seq ?_
    refine c_seq ?_
    refine c_then_cut (α := Unit) (fun _ => [(0, a), (1, b), (5, .slice (some ⟨b14, 0, none⟩) T T), (6, .int .i64 (i : Int)), (7, .int .i64 (c : Int)), (8, .int .i64 (k : Int)), (28, .bool (decide (k < KR.wl y ∨ 0 < c)))]) (fun _ => True) (fun _ => K W ([(b14, ints 3 T (fun j => (h j : Int)) [])] :: N)) ?_ ?_
    · clear hvv hroom
      by_cases h1 : k < KR.wl y
      · rw [decide_eq_true (.inl h1)]
        refine c_region ?_
        refine s_y (y_move rfl) rfl rfl rfl ?_
        refine s_y (y_move rfl) rfl rfl rfl ?_
        refine s_y (y_lenN Try.tab rfl rfl) rfl rfl rfl ?_
        refine s_y (y_T (y_lss rfl rfl) (by omega)) rfl rfl rfl ?_
        refine s_y (y_move rfl) rfl rfl rfl ?_
        iterate 2 refine s_skip rfl rfl rfl ?_
        refine s_y (y_pickT rfl rfl) rfl rfl rfl ?_
        refine s_nil ?_
        exact f_cutP () trivial ⟨rfl, rfl, rfl, rfl, rfl, rfl, rfl, trivial⟩ (fun w h => h)
      by_cases h3 : 0 < c
      · rw [decide_eq_true (.inr h3)]
        refine c_region ?_
        refine s_y (y_move rfl) rfl rfl rfl ?_
        refine s_y (y_move rfl) rfl rfl rfl ?_
        refine s_y (y_lenN Try.tab rfl rfl) rfl rfl rfl ?_
        refine s_y (y_F (y_lss rfl rfl) (by omega)) rfl rfl rfl ?_
        refine s_y (y_move rfl) rfl rfl rfl ?_
        refine s_y (y_move rfl) rfl rfl rfl ?_
        refine s_y (y_T (y_gtr rfl rfl) (by omega)) rfl rfl rfl ?_
        refine s_y (y_pickF rfl rfl) rfl rfl rfl ?_
        refine s_nil ?_
        exact f_cutP () trivial ⟨rfl, rfl, rfl, rfl, rfl, rfl, rfl, trivial⟩ (fun w h => h)
      · rw [decide_eq_false (by omega)]
        refine c_region ?_
        refine s_y (y_move rfl) rfl rfl rfl ?_
        refine s_y (y_move rfl) rfl rfl rfl ?_
        refine s_y (y_lenN Try.tab rfl rfl) rfl rfl rfl ?_
        refine s_y (y_F (y_lss rfl rfl) (by omega)) rfl rfl rfl ?_
        refine s_y (y_move rfl) rfl rfl rfl ?_
        refine s_y (y_move rfl) rfl rfl rfl ?_
        refine s_y (y_F (y_gtr rfl rfl) (by omega)) rfl rfl rfl ?_
        refine s_y (y_pickF rfl rfl) rfl rfl rfl ?_
        refine s_nil ?_
        exact f_cutP () trivial ⟨rfl, rfl, rfl, rfl, rfl, rfl, rfl, trivial⟩ (fun w h => h)
    rintro _ _
    by_cases hgo : k < KR.wl y ∨ 0 < c
    · rw [decide_eq_true hgo]
      have hpT := hroom hgo
      have dh : h (i + k) < 65536 := hh (i + k) hpT
      have hpd := prodD (x := x) (y := y) (i := i) (k := k)
      obtain ⟨t, ht⟩ : ∃ t, t = c + (h (i + k) + KR.dg x i * KR.dg y k) := ⟨_, rfl⟩
      have hti : (c : Int) + ((h (i + k) : Int) + (KR.dg x i : Int) * (KR.dg y k : Int)) = (t : Int) := by rw [ht]; simp
      have htb : t < 4294967296 := by omega
      have hset := KR.val_upd (g := h) (k := i + k) (x := t % 65536) hpT
      have hstep := KR.mp_step (k := k) (i := i) ht hset (Nat.pow_add KR.B i k) (by rw [Nat.pow_add])
      rw [hvv] at hstep
      have hik : (i : Int) + (k : Int) = ((i + k : Nat) : Int) := by omega
      clear hvv hset hroom hv
      refine c_condT rfl ?_
      refine c_skip ?_
      refine f_then ?_
      refine c_seq ?_
      refine c_block ?_
      refine c_seq ?_
      refine c_plan [.c 0, .c 1, .c 2, .c 3, .c 4, .c 5, .c 6, .c 7, .c 8, .c 9, .c 10, .c 11, .c 12, .c 13, .c 14, .c 15, .c 16, .c 17] [] ((K W ([(b14, ints 3 T (fun j => (h j : Int)) [])] :: N))) Try.mixed (by kernel_rfl) rfl K.cl ?_
      refine d_c rfl (Qui.ylds (y_move rfl)) rfl rfl rfl (fun _ h => h) K.cl ?_
      refine d_c rfl (Qui.ylds (y_move rfl)) rfl rfl rfl (fun _ h => h) K.cl ?_
      refine d_c rfl (Qui.ylds (y_move rfl)) rfl rfl rfl (fun _ h => h) K.cl ?_
      refine d_c rfl (Qui.ylds (y_move rfl)) rfl rfl rfl (fun _ h => h) K.cl ?_
      refine d_c rfl (Qui.ylds (y_add rfl rfl (by omega))) rfl rfl rfl (fun _ h => h) K.cl ?_
      refine d_c rfl (Qui.ylds (y_indexAddr1 Try.tab rfl rfl rfl rfl _ rfl (by omega))) rfl rfl rfl (fun _ h => h) K.cl ?_
      refine d_c rfl (Qui.ylds (y_load Try.tab rfl rfl (cell_ints 0 rfl (by omega)))) rfl rfl rfl (fun _ h => h) K.cl ?_
      refine d_c rfl (Qui.ylds (y_move rfl)) rfl rfl rfl (fun _ h => h) K.cl ?_
      refine d_c rfl (Qui.ylds (y_move rfl)) rfl rfl rfl (fun _ h => h) K.cl ?_
      refine d_c rfl (Qui.ylds (y_ixN Try.tab rfl rfl rfl rfl _ rfl (by omega))) rfl rfl rfl (fun _ h => h) K.cl ?_
      refine d_c rfl (Qui.ylds (y_ldN Try.tab rfl rfl (by omega))) rfl rfl rfl (fun _ h => h) K.cl ?_
      refine d_c rfl (Qui.ylds (y_move rfl)) rfl rfl rfl (fun _ h => h) K.cl ?_
      refine d_c rfl (Qui.ylds (y_move rfl)) rfl rfl rfl (fun _ h => h) K.cl ?_
      refine d_c rfl (Qui.callC K.cl (en_f rfl Try.call93) (at_qm)) rfl rfl rfl (fun _ h => h) K.cl ?_
      refine d_c rfl (Qui.ylds (y_mul rfl rfl (by omega))) rfl rfl rfl (fun _ h => h) K.cl ?_
      refine d_c rfl (Qui.ylds (y_add rfl rfl (by omega))) rfl rfl rfl (fun _ h => h) K.cl ?_
      refine d_c rfl (Qui.ylds (y_add rfl rfl (by omega))) rfl rfl rfl (fun _ h => h) K.cl ?_
      refine d_c rfl (Qui.ylds (y_assign rfl)) rfl rfl rfl (fun _ h => h) K.cl ?_
      refine d_nil ?_
      refine f_then ?_
      refine c_seq ?_
      refine c_region ?_
      refine s_y (y_move rfl) rfl rfl rfl ?_
      refine s_y (y_move rfl) rfl rfl rfl ?_
      refine s_y (y_move rfl) rfl rfl rfl ?_
      refine s_y (y_add rfl rfl (by omega)) rfl rfl rfl ?_
      refine s_y (y_move rfl) rfl rfl rfl ?_
      refine s_y (y_rem rfl rfl (by omega)) rfl rfl rfl ?_
      refine s_y (y_indexAddr1 Try.tab rfl rfl rfl rfl _ rfl (by omega)) rfl rfl rfl ?_
      refine s_set (set_ints Try.tab 0 rfl rfl rfl rfl (by omega)) rfl rfl ?_
      refine s_nil ?_
      refine f_then ?_
      refine c_region ?_
      refine s_y (y_move rfl) rfl rfl rfl ?_
      refine s_y (y_quo rfl rfl (by omega)) rfl rfl rfl ?_
      refine s_y (y_assign rfl) rfl rfl rfl ?_
      refine s_nil ?_
      refine f_blockN ?_
      refine f_then ?_
      refine c_region ?_
      refine s_y (y_move rfl) rfl rfl rfl ?_
      refine s_y (y_add rfl rfl (by omega)) rfl rfl rfl ?_
      refine s_y (y_assign rfl) rfl rfl rfl ?_
      refine s_nil ?_
      refine f_roundP (k + 1, t / 65536, upd h (i + k) (t % 65536)) ⟨by dsimp only; omega, by dsimp only; omega, hh.upd (show t % 65536 < KR.B from Nat.mod_lt _ (by decide)), ?_⟩ (by dsimp only; omega) ⟨rfl, rfl, rfl, rfl, congrArg (fun z => some (Value.int .i64 z)) (by rw [hti]; rfl), rfl, trivial⟩ (fun w q => by dsimp only; rw [hti] at q; rw [← upd_nat]; exact q)
      dsimp only [KR.val]
      rw [KR.B_succ, ← Nat.mul_assoc (KR.B ^ i), ← Nat.pow_add, Nat.mul_add, ← Nat.add_assoc]
      exact hstep
    · rw [decide_eq_false hgo]
      obtain rfl : c = 0 := by omega
      have hvy : KR.val (KR.dg y) k = y := KR.val_of_le (by omega)
      rw [hvy, Nat.zero_mul, Nat.add_zero] at hvv
      clear hroom
      refine c_condF rfl ?_
      refine c_exit ?_
      refine f_thenE ?_
      refine f_rndE ?_
      refine f_blockE ?_
      refine f_blockN ?_
      refine f_then ?_
      refine c_region ?_
      refine s_y (y_move rfl) rfl rfl rfl ?_
      refine s_y (y_add rfl rfl (by omega)) rfl rfl rfl ?_
      refine s_y (y_assign rfl) rfl rfl rfl ?_
      refine s_nil ?_
      refine f_roundP (i + 1, h) ⟨by dsimp only; omega, hh, ?_⟩ (by dsimp only; omega) ⟨rfl, rfl, rfl, rfl, trivial⟩ (fun w q => q)
      dsimp only [KR.val]
      rw [hvv, Nat.add_mul]
  · obtain rfl : i = KR.wl x := by omega
    rw [KR.val_wl] at hv
    haveI hraw : RawI (K W ([(b14, ints 3 T (fun j => (g j : Int)) [])] :: N)) (.slice (some ⟨b14, 0, none⟩) T T) T g := raw_own 0 rfl (by unfold maxLen; omega)
    refine c_seq ?_
    refine c_seq ?_
    refine c_region ?_
    refine s_y (y_move rfl) rfl rfl rfl ?_
    refine s_y (y_move rfl) rfl rfl rfl ?_
    refine s_y (y_lenN Try.tab rfl rfl) rfl rfl rfl ?_
    refine s_y (y_F (y_lss rfl rfl) (by omega)) rfl rfl rfl ?_
    refine s_nil ?_
    refine f_then ?_
    refine c_condF rfl ?_
    refine c_exit ?_
    refine f_thenE ?_
    refine f_rndE ?_
    refine f_blockE ?_
    refine f_then ?_
    refine c_seq ?_
    refine c_region ?_
    refine s_y (y_move rfl) rfl rfl rfl ?_
    refine s_call (en_f rfl Try.call94) trim_spec rfl rfl rfl (fun r9 => ?_)
    refine s_y (y_assign rfl) rfl rfl rfl ?_
    refine s_nil ?_
    refine f_then ?_
    refine c_ret ?_
    exact f_ret ⟨_, r9.val _, (r9.num (raw_own 0 rfl (by unfold maxLen; omega)) hg).of hv⟩ (res1 rfl rfl) (fun w h => h)
end Go.KL
end

section
/- Walks: the reference's DivMod. -/
namespace Go.KL
open Go.Proofs
theorem K.swp {W w : World} {N : List Chunk} {c1 c2 c3 : Chunk} (h : K W (c1 :: c2 :: c3 :: N) w) : K W (c2 :: c1 :: N) w := by
  have h2 : K W (c2 :: c1 :: c3 :: N) w := h.weak [] (by simpa using List.perm_append_comm_assoc _ _ _)
  refine h2.weak c3 ?_
  simp only [List.flatten_cons, List.append_assoc]
  exact (List.perm_append_comm.append_left c1).append_left c2
theorem shl1_spec {W : World} {N : List Chunk} {a : Value} {x : Nat} [ha : NumV (K W N) a x] (hx : KR.wl x ≤ 1000000) : Spec Try.prog 119 #[a, .int .i64 1] (K W N) (X := NFr W (x * 2)) (fun r => r.v) (fun r => K W (r.L :: N)) := shl_spec (n := 1) hx (by omega)
theorem of1_spec {W : World} {N : List Chunk} : Spec Try.prog 91 #[.int .i64 1] (K W N) (X := NFr W 1) (fun r => r.v) (fun r => K W (r.L :: N)) := of_spec (x := 1) (by omega)
theorem bln_cases (x : Nat) : x = 0 ∨ x / 2 ^ bln x = 0 := .inr (Nat.div_eq_of_lt (bln_lt x))
theorem NumV.chunk {W : World} {N : List Chunk} {c : Chunk} {v : Value} {z : Nat} (h : NumV (K W [c]) v z) : NumV (K W (c :: N)) v z := h.cls fun _ h => h.hd
attribute [local irreducible] SC St Fin Sq Ylds Doos Sets Enters Spec CellIs CellsAre Then Ret Rnd Chn resOK ints bools recs arr
set_option maxRecDepth 10000 in
set_option maxHeartbeats 8000000 in
theorem rdivMod_spec {W : World} {N : List Chunk} {a b : Value} {x y : Nat} [ha : NumV (K W N) a x] [hb : NumV (K W N) b y] (hx : KR.wl x ≤ 500000) (hy : KR.wl y ≤ 500000) (hy0 : 0 < y) : Spec Try.prog 82 #[a, b] (K W N) (X := NFr2 W (x / y) (x % y)) (fun r => .tuple #[r.v1, r.v2]) (fun r => K W (r.L :: N)) := by
  have hbl := bln_le x
  refine enter (args := [_, _]) Try.func82 rfl Try.ntmps82 rfl ?_
  refine c_seq ?_
  refine c_region ?_
  refine s_y (y_assign rfl) rfl rfl rfl ?_
  refine s_y (y_assign rfl) rfl rfl rfl ?_
  refine s_nil ?_
  refine f_then ?_
  refine c_seq ?_
  refine c_region ?_
  refine s_y (y_move rfl) rfl rfl rfl ?_
  refine s_y (y_lenN Try.tab rfl rfl) rfl rfl rfl ?_
  refine s_do (make_ints (by_ := 8) Try.tab rfl rfl rfl rfl rfl rfl (by omega)) rfl rfl rfl (fun b11 => ?_)
  refine s_y (y_assign rfl) rfl rfl rfl ?_
  refine s_nil ?_
  refine f_then ?_
  refine c_seq ?_
  refine c_region ?_
  refine s_y (y_assign rfl) rfl rfl rfl ?_
  refine s_nil ?_
  refine f_then ?_
  refine c_seq ?_
  refine c_seq ?_
  refine c_region ?_
  refine s_y (y_move rfl) rfl rfl rfl ?_
  refine s_call (en_f rfl Try.call118) (rbitLen_spec (x := x) (by omega)) rfl rfl rfl (fun _ => ?_)
  refine s_y (y_sub rfl rfl (by omega)) rfl rfl rfl ?_
  refine s_y (y_assign rfl) rfl rfl rfl ?_
  refine s_nil ?_
  refine f_then ?_
  refine c_block ?_
  refine SC.cls (C' := K W ([(b11, ints 3 (KR.wl x) (fun _ => 0) [])] :: [] :: N)) ?_ (fun w h => h.weak [] (by simp))
  refine c_loopP (α := Nat × (Nat → Nat) × Chunk × Value) (fun z => [(0, a), (1, b), (6, .slice (some ⟨b11, 0, none⟩) (KR.wl x) (KR.wl x)), (7, z.2.2.2), (8, .int .i64 ((z.1 : Int) - 1))])
    (fun z => z.1 ≤ bln x ∧ KR.Dig z.2.1 (KR.wl x) ∧ KR.val z.2.1 (KR.wl x) = x / 2 ^ z.1 / y * 2 ^ z.1 ∧ NumV (K W [z.2.2.1]) z.2.2.2 (x / 2 ^ z.1 % y)) (fun z => K W ([(b11, ints 3 (KR.wl x) (fun j => (z.2.1 j : Int)) [])] :: z.2.2.1 :: N)) (fun z => z.1) (bln x, fun _ => 0, [], .slice none 0 0)
    ⟨rfl, rfl, rfl, rfl, rfl, trivial⟩ ⟨Nat.le_refl _, fun _ _ => KR.B_pos 1, ?_, ?_⟩ (fun w h => h) ?_
  · dsimp only
    rw [KR.val_zero fun _ _ => rfl, Nat.div_eq_of_lt (bln_lt x), Nat.zero_div, Nat.zero_mul]
  · dsimp only
    rw [Nat.div_eq_of_lt (bln_lt x), Nat.zero_mod]
    exact NumV.nilI
  rintro ⟨k, g, L, v⟩ ⟨hk, hg, hv, hr⟩
  dsimp only at hk hg hv hr ⊢
  rcases k with _ | k
  · rw [Nat.pow_zero, Nat.div_one] at hr hv
    rw [Nat.mul_one] at hv
    haveI hraw : RawI (K W ([(b11, ints 3 (KR.wl x) (fun j => (g j : Int)) [])] :: L :: N)) (.slice (some ⟨b11, 0, none⟩) (KR.wl x) (KR.wl x)) (KR.wl x) g := raw_own 0 rfl (by unfold maxLen; omega)
    refine c_seq ?_
    refine c_seq ?_
    refine c_region ?_
    refine s_y (y_move rfl) rfl rfl rfl ?_
    refine s_y (y_F (y_geq rfl rfl) (by omega)) rfl rfl rfl ?_
    refine s_nil ?_
    refine f_then ?_
    refine c_condF rfl ?_
    refine c_exit ?_
    refine f_thenE ?_
    refine f_rndE ?_
    refine f_blockE ?_
    refine f_then ?_
    refine c_seq ?_
    refine c_region ?_
    refine s_y (y_move rfl) rfl rfl rfl ?_
    refine s_call (en_f rfl Try.call94) trim_spec rfl rfl rfl (fun r9 => ?_)
    refine s_y (y_move rfl) rfl rfl rfl ?_
    refine s_y (y_assign rfl) rfl rfl rfl ?_
    refine s_y (y_assign rfl) rfl rfl rfl ?_
    refine s_nil ?_
    refine f_then ?_
    refine c_ret ?_
    have h1 : NumV (K W [[(b11, ints 3 (KR.wl x) (fun j => (g j : Int)) [])] ++ L]) (r9.val (.slice (some ⟨b11, 0, none⟩) (KR.wl x) (KR.wl x))) (x / y) := ((r9.num (raw_own (Ls := [[(b11, ints 3 (KR.wl x) (fun j => (g j : Int)) [])]]) 0 rfl (by unfold maxLen; omega)) hg).of hv).cls fun _ h => h.unglue.hd
    have h2 : NumV (K W [[(b11, ints 3 (KR.wl x) (fun j => (g j : Int)) [])] ++ L]) v (x % y) := hr.cls fun _ h => h.unglue.tail
    exact f_ret ⟨_, _, _, h1, h2⟩ (res2 rfl rfl rfl) (fun w h => h.glue)
  · rw [show ((k + 1 : Nat) : Int) - 1 = (k : Int) by omega]
    have hrb : x / 2 ^ (k + 1) % y < y := Nat.mod_lt _ hy0
    have hst := KR.div_bit (x := x) (k := k) hy0 _ rfl
    have hbit : x / 2 ^ k % 2 < 2 := Nat.mod_lt _ (by decide)
    obtain ⟨t, ht⟩ : ∃ t, t = x / 2 ^ k % 2 := ⟨_, rfl⟩
    obtain ⟨r, hre⟩ : ∃ r, r = x / 2 ^ (k + 1) % y := ⟨_, rfl⟩
    rw [← ht, ← hre] at hst
    rw [← hre] at hrb hr
    rw [← ht] at hbit
    have hrw : KR.wl r ≤ 500000 := Nat.le_trans (KR.wl_mono (Nat.le_of_lt hrb)) hy
    have hrw2 : KR.wl (r * 2) ≤ 500001 := by
      have := KR.wl_add hrw hrw
      rwa [show r + r = r * 2 by omega] at this
    have hk16 : k / 16 < KR.wl x := by omega
    haveI hrI : NumV (K W (L :: N)) v r := hr.chunk
    refine c_seq ?_
    refine c_seq ?_
    refine c_region ?_
    refine s_y (y_move rfl) rfl rfl rfl ?_
    refine s_y (y_T (y_geq rfl rfl) (by omega)) rfl rfl rfl ?_
    refine s_nil ?_
    refine f_then ?_
    refine c_condT rfl ?_
    refine c_skip ?_
    refine f_then ?_
    refine c_seq ?_
    refine c_block ?_
    refine c_seq ?_
    refine c_region ?_
    refine s_y (y_move rfl) rfl rfl rfl ?_
    refine s_call (en_f rfl Try.call119) (shl1_spec (x := r) (by omega)) rfl rfl rfl (fun r1 => ?_)
    refine St.cls (C' := K W ([(b11, ints 3 (KR.wl x) (fun j => (g j : Int)) [])] :: r1.L :: N)) ?_ (fun w h => h.swp)
    clear hrI
    refine s_y (y_assign rfl) rfl rfl rfl ?_
    refine s_nil ?_
    refine f_then ?_
    refine c_seq ?_
    refine c_seq ?_
    refine c_region ?_
    refine s_y (y_move rfl) rfl rfl rfl ?_
    refine s_y (y_move rfl) rfl rfl rfl ?_
    refine s_call (en_f rfl Try.call120) (bit_spec (x := x) (i := k) (by omega)) rfl rfl rfl (fun _ => ?_)
    rw [← ht]
    refine s_y (y_eql rfl rfl) rfl rfl rfl ?_
    refine s_nil ?_
    refine f_then ?_
    refine c_then_cut (α := Chunk × Value) (fun z => [(0, a), (1, b), (6, .slice (some ⟨b11, 0, none⟩) (KR.wl x) (KR.wl x)), (7, z.2), (8, .int .i64 (k : Int))])
      (fun z => NumV (K W [z.1]) z.2 (r * 2 + t)) (fun z => K W ([(b11, ints 3 (KR.wl x) (fun j => (g j : Int)) [])] :: z.1 :: N)) ?_ ?_
    · by_cases ht1 : t = 1
      · subst ht1
        refine c_condT rfl ?_
        refine c_region ?_
        refine s_y (y_move rfl) rfl rfl rfl ?_
        refine s_call (en_f rfl Try.call91) of1_spec rfl rfl rfl (fun r2 => ?_)
        skip
        refine s_call (en_f rfl Try.call54) (radd_spec (by omega) (by have := KR.wl_int (x := 1) (by omega); omega)) rfl rfl rfl (fun r3 => ?_)
        refine s_y (y_assign rfl) rfl rfl rfl ?_
        refine s_nil ?_
        exact f_cutP (r3.L, r3.v) r3.ok ⟨rfl, rfl, rfl, rfl, rfl, trivial⟩ (fun w h => (K.dropAt 1 h).swp)
      · obtain rfl : t = 0 := by omega
        refine c_condF rfl ?_
        refine c_skip ?_
        exact f_cutP (r1.L, r1.v) r1.ok ⟨rfl, rfl, rfl, rfl, rfl, trivial⟩ (fun w h => h)
    clear r1 hr
    rintro ⟨L1, v1⟩ hr1
    dsimp only at hr1 ⊢
    have hrw3 : KR.wl (r * 2 + t) ≤ 500002 := by
      have := KR.wl_add hrw2 (show KR.wl t ≤ 500001 from by have := KR.wl_int (x := t) (by omega); omega)
      exact this
    obtain ⟨s, hs⟩ : ∃ s, s = r * 2 + t := ⟨_, rfl⟩
    rw [← hs] at hst hr1 hrw3
    clear ht hre hs hrb
    haveI hrI : NumV (K W (L1 :: N)) v1 s := hr1.chunk
    refine c_seq ?_
    refine c_region ?_
    refine s_y (y_move rfl) rfl rfl rfl ?_
    refine s_y (y_move rfl) rfl rfl rfl ?_
    refine s_call (en_f rfl Try.call90) (rcmp_spec (x := s) (y := y)) rfl rfl rfl (fun _ => ?_)
    by_cases hc : y ≤ s
    · obtain ⟨q1, q2⟩ := hst.1 hc
      have e1 : ¬ s < y := by omega
      rw [if_neg e1]
      obtain ⟨z, hz, hz0⟩ : ∃ z : Int, (if y < s then (1 : Int) else 0) = z ∧ 0 ≤ z := ⟨_, rfl, by split <;> omega⟩
      rw [hz]
      have hroom := KR.bit_room (s := k / 16) (r := k % 16) (z := x / 2 ^ (k + 1) / y) hg (by rw [hv, Nat.div_add_mod]) hk16 (Nat.mod_lt _ (by decide))
      obtain ⟨p, hpe⟩ : ∃ p, 2 ^ (k % 16) = p := ⟨_, rfl⟩
      rw [hpe] at hroom
      have hset := KR.val_upd (g := g) (k := k / 16) (x := g (k / 16) + p) hk16
      have hpw : p * KR.B ^ (k / 16) = 2 ^ k := by rw [← hpe, KR.B_two, ← Nat.pow_add, Nat.add_comm, Nat.div_add_mod]
      have hnv : KR.val (upd g (k / 16) (g (k / 16) + p)) (KR.wl x) = x / 2 ^ k / y * 2 ^ k := by
        rw [q2, ← hv, ← hpw]
        rw [Nat.add_mul] at hset
        have h3 : KR.val (upd g (k / 16) (g (k / 16) + p)) (KR.wl x) = KR.val (fun j => if j = k / 16 then g (k / 16) + p else g j) (KR.wl x) := rfl
        omega
      have hnd : KR.Dig (upd g (k / 16) (g (k / 16) + p)) (KR.wl x) := hg.upd hroom
      have hrI2 : NumV (K W (L1 :: N)) v1 s := hrI
      have hadd : (-9223372036854775808 : Int) ≤ (g (k / 16) : Int) + (p : Int) ∧ (g (k / 16) : Int) + (p : Int) ≤ 9223372036854775807 := by omega
      clear hset hpw hst hv
      refine s_y (y_T (y_geq rfl rfl) (by assumption)) rfl rfl rfl ?_
      refine s_nil ?_
      refine f_then ?_
      refine c_condT rfl ?_
      refine c_seq ?_
      refine c_region ?_
      refine s_y (y_move rfl) rfl rfl rfl ?_
      refine s_y (y_move rfl) rfl rfl rfl ?_
      refine s_call (en_f rfl Try.call121) (rsub_spec (x := s) (y := y) (by omega) hc) rfl rfl rfl (fun r5 => ?_)
      refine St.cls (C' := K W ([(b11, ints 3 (KR.wl x) (fun j => (g j : Int)) [])] :: r5.L :: N)) ?_ (fun w h => h.swp)
      have hr5 : NumV (K W [r5.L]) r5.v (x / 2 ^ k % y) := r5.ok.of q1.symm
      clear q1 q2 hrI hrI2 hr1
      refine s_y (y_assign rfl) rfl rfl rfl ?_
      refine s_nil ?_
      refine f_then ?_
      refine c_plan [.c 0, .c 1, .c 2, .c 3, .c 4, .c 5, .c 6, .c 7, .c 8, .c 9, .s 10] [10] ((K W ([(b11, ints 3 (KR.wl x) (fun j => (g j : Int)) [])] :: r5.L :: N))) Try.mixed (by kernel_rfl) rfl K.cl ?_
      refine d_c rfl (Qui.ylds (y_move rfl)) rfl rfl rfl (fun _ h => h) K.cl ?_
      refine d_c rfl (Qui.ylds (y_move rfl)) rfl rfl rfl (fun _ h => h) K.cl ?_
      refine d_c rfl (Qui.ylds (y_quo rfl rfl (by omega))) rfl rfl rfl (fun _ h => h) K.cl ?_
      refine d_c rfl (Qui.ylds (y_indexAddr1 Try.tab rfl rfl rfl rfl _ rfl (by omega))) rfl rfl rfl (fun _ h => h) K.cl ?_
      refine d_c rfl (Qui.ylds (y_load Try.tab rfl rfl (cell_ints 0 rfl (by omega)))) rfl rfl rfl (fun _ h => h) K.cl ?_
      refine d_c rfl (Qui.ylds (y_move rfl)) rfl rfl rfl (fun _ h => h) K.cl ?_
      refine d_c rfl (Qui.ylds (y_rem rfl rfl (by omega))) rfl rfl rfl (fun _ h => h) K.cl ?_
      refine d_c rfl (Qui.callC K.cl (en_f rfl Try.call122) (power_e hpe)) rfl rfl rfl (fun _ h => h) K.cl ?_
      refine d_c rfl (Qui.ylds (y_add rfl rfl (by omega))) rfl rfl rfl (fun _ h => h) K.cl ?_
      refine d_c rfl (Qui.ylds (y_indexAddr1 Try.tab rfl rfl rfl rfl _ rfl (by omega))) rfl rfl rfl (fun _ h => h) K.cl ?_
      refine d_set rfl (set_ints Try.tab 0 rfl rfl rfl rfl (by omega)) rfl rfl K.cl (fun h => by cases h) ?_
      refine d_nil ?_
      refine f_blockN ?_
      refine f_then ?_
      refine c_region ?_
      refine s_y (y_move rfl) rfl rfl rfl ?_
      refine s_y (y_sub rfl rfl (by omega)) rfl rfl rfl ?_
      refine s_y (y_assign rfl) rfl rfl rfl ?_
      refine s_nil ?_
      exact f_roundP (k, upd g (k / 16) (g (k / 16) + p), r5.L, r5.v) ⟨by dsimp only; omega, hnd, hnv, hr5⟩ (by dsimp only; omega) ⟨rfl, rfl, rfl, rfl, rfl, trivial⟩ (fun w h => by dsimp only; rw [← upd_nat]; exact h)
    · obtain ⟨q1, q2⟩ := hst.2 (by omega)
      have e1 : s < y := by omega
      rw [if_pos e1]
      rw [← q2] at hv
      rw [← q1] at hr1
      clear q1 q2 hst
      refine s_y (y_F (y_geq rfl rfl) (by omega)) rfl rfl rfl ?_
      refine s_nil ?_
      refine f_then ?_
      refine c_condF rfl ?_
      refine c_skip ?_
      refine f_blockN ?_
      refine f_then ?_
      refine c_region ?_
      refine s_y (y_move rfl) rfl rfl rfl ?_
      refine s_y (y_sub rfl rfl (by omega)) rfl rfl rfl ?_
      refine s_y (y_assign rfl) rfl rfl rfl ?_
      refine s_nil ?_
      exact f_roundP (k, g, L1, v1) ⟨by dsimp only; omega, hg, hv, hr1⟩ (by dsimp only; omega) ⟨rfl, rfl, rfl, rfl, rfl, trivial⟩ (fun w h => h)
end Go.KL
end

section
/- Walks: the reference's Gcd. -/
namespace Go.KL
open Go.Proofs
theorem par0 {x : Nat} : KR.dg x 0 % 2 = x % 2 := by
  rw [KR.dg_zero]
  have : KR.B = 65536 := rfl
  rw [this]
  omega
theorem gcd_halfL {x y : Nat} (hx : x % 2 = 0) (hg : Nat.gcd x y % 2 = 1) : Nat.gcd (x / 2) y = Nat.gcd x y := by
  obtain ⟨z, rfl⟩ : ∃ z, x = 2 * z := ⟨x / 2, by omega⟩
  have hy : y % 2 = 1 := by
    rcases Nat.mod_two_eq_zero_or_one y with h | h
    · have h1 : 2 ∣ Nat.gcd (2 * z) y := Nat.dvd_gcd ⟨z, rfl⟩ (Nat.dvd_of_mod_eq_zero h)
      have := Nat.mod_eq_zero_of_dvd h1
      omega
    · exact h
  have hc : Nat.Coprime 2 y := by
    unfold Nat.Coprime
    rw [Nat.gcd_rec, hy]
    rfl
  rw [Nat.mul_div_cancel_left z (by decide), hc.gcd_mul_left_cancel z]
theorem gcd_halfR {x y : Nat} (hx : y % 2 = 0) (hg : Nat.gcd x y % 2 = 1) : Nat.gcd x (y / 2) = Nat.gcd x y := by
  rw [Nat.gcd_comm x, Nat.gcd_comm x] at *
  exact gcd_halfL hx hg
theorem gcd_odd {x y : Nat} (h : ¬ (x % 2 = 0 ∧ y % 2 = 0)) : Nat.gcd x y % 2 = 1 := by
  rcases Nat.mod_two_eq_zero_or_one (Nat.gcd x y) with h1 | h1
  · exfalso
    have h2 : 2 ∣ Nat.gcd x y := Nat.dvd_of_mod_eq_zero h1
    exact h ⟨Nat.mod_eq_zero_of_dvd (Nat.dvd_trans h2 (Nat.gcd_dvd_left x y)), Nat.mod_eq_zero_of_dvd (Nat.dvd_trans h2 (Nat.gcd_dvd_right x y))⟩
  · exact h1
theorem gcd_subL {x y : Nat} (h : y ≤ x) : Nat.gcd (x - y) y = Nat.gcd x y := Nat.gcd_sub_self_left h
theorem gcd_subR {x y : Nat} (h : x ≤ y) : Nat.gcd x (y - x) = Nat.gcd x y := Nat.gcd_sub_self_right h
/-- Halves taken from both. -/
def Hlv (x y k x' y' : Nat) : Prop := x = 2 ^ k * x' ∧ y = 2 ^ k * y' ∧ 0 < x' ∧ 0 < y'
theorem Hlv.gcd {x y k x' y' : Nat} (h : Hlv x y k x' y') : Nat.gcd x' y' * 2 ^ k = Nat.gcd x y := by
  rw [h.1, h.2.1, Nat.gcd_mul_left, Nat.mul_comm]
theorem Hlv.k {x y k x' y' : Nat} (h : Hlv x y k x' y') : k < 16 * KR.wl x := by
  have h1 : 2 ^ k * 1 ≤ x := by
    rw [h.1]
    exact Nat.mul_le_mul_left _ h.2.2.1
  have h2 := KR.lt_wl x
  rw [KR.B_two] at h2
  exact (Nat.pow_lt_pow_iff_right (by decide)).1 (Nat.lt_of_le_of_lt (by omega) h2)
theorem Hlv.next {x y k x' y' : Nat} (h : Hlv x y k x' y') (hx : x' % 2 = 0) (hy : y' % 2 = 0) : Hlv x y (k + 1) (x' / 2) (y' / 2) := by
  obtain ⟨h1, h2, h3, h4⟩ := h
  have e1 : x' = 2 * (x' / 2) := by omega
  have e2 : y' = 2 * (y' / 2) := by omega
  refine ⟨?_, ?_, by omega, by omega⟩
  · rw [Nat.pow_succ, Nat.mul_assoc, ← e1]
    exact h1
  · rw [Nat.pow_succ, Nat.mul_assoc, ← e2]
    exact h2
theorem Hlv.le {x y k x' y' : Nat} (h : Hlv x y k x' y') : x' ≤ x ∧ y' ≤ y := by
  have hp := two_pos k
  have h1 : 1 * x' ≤ 2 ^ k * x' := Nat.mul_le_mul_right _ hp
  have h2 : 1 * y' ≤ 2 ^ k * y' := Nat.mul_le_mul_right _ hp
  rw [← h.1] at h1
  rw [← h.2.1] at h2
  omega
structure GcS where
  M : List Chunk
  va : Value
  vb : Value
  x : Nat
  y : Nat
attribute [local irreducible] SC St Fin Sq Ylds Doos Sets Enters Spec CellIs CellsAre Then Ret Rnd Chn resOK ints bools recs arr
set_option maxRecDepth 10000 in
set_option maxHeartbeats 16000000 in
theorem rgcd_spec {W : World} {N : List Chunk} {a b : Value} {x y : Nat} [ha : NumV (K W N) a x] [hb : NumV (K W N) b y] (hx : KR.wl x ≤ 50000) (hy : KR.wl y ≤ 50000) : Spec Try.prog 96 #[a, b] (K W N) (X := NRes W N (Nat.gcd x y)) (fun r => r.v) (fun r => K W (r.L :: N)) := by
  refine enter (args := [_, _]) Try.func96 rfl Try.ntmps96 rfl ?_
  by_cases hx0 : x = 0
  · have h1 : KR.wl x = 0 := KR.wl_eq_zero.2 hx0
    have hk : NumV (K W ([] ++ N)) b (Nat.gcd x y) := hb.of (by rw [hx0, Nat.gcd_zero_left])
    refine c_seq ?_
    refine c_region ?_
    refine s_y (y_assign rfl) rfl rfl rfl ?_
    refine s_nil ?_
    refine f_then ?_
    refine c_seq ?_
    refine c_seq ?_
    refine c_region ?_
    refine s_y (y_move rfl) rfl rfl rfl ?_
    refine s_y (y_lenN Try.tab rfl rfl) rfl rfl rfl ?_
    refine s_y (y_T (y_eql rfl rfl) (by omega)) rfl rfl rfl ?_
    refine s_nil ?_
    refine f_then ?_
    refine c_condT rfl ?_
    refine c_seq ?_
    refine c_region ?_
    refine s_y (y_move rfl) rfl rfl rfl ?_
    refine s_y (y_assign rfl) rfl rfl rfl ?_
    refine s_nil ?_
    refine f_then ?_
    refine c_ret ?_
    refine f_thenR ?_
    exact f_ret (NRes.of hk) (res1 rfl rfl) (fun w h => NRes.of_cls hk h)
  by_cases hy0 : y = 0
  · have h1 : KR.wl x ≠ 0 := fun e => hx0 (KR.wl_eq_zero.1 e)
    have h2 : KR.wl y = 0 := KR.wl_eq_zero.2 hy0
    have hk : NumV (K W ([] ++ N)) a (Nat.gcd x y) := ha.of (by rw [hy0, Nat.gcd_zero_right])
    refine c_seq ?_
    refine c_region ?_
    refine s_y (y_assign rfl) rfl rfl rfl ?_
    refine s_nil ?_
    refine f_then ?_
    refine c_seq ?_
    refine c_seq ?_
    refine c_region ?_
    refine s_y (y_move rfl) rfl rfl rfl ?_
    refine s_y (y_lenN Try.tab rfl rfl) rfl rfl rfl ?_
    refine s_y (y_F (y_eql rfl rfl) (by omega)) rfl rfl rfl ?_
    refine s_nil ?_
    refine f_then ?_
    refine c_condF rfl ?_
    refine c_skip ?_
    refine f_then ?_
    refine c_seq ?_
    refine c_seq ?_
    refine c_region ?_
    refine s_y (y_move rfl) rfl rfl rfl ?_
    refine s_y (y_lenN Try.tab rfl rfl) rfl rfl rfl ?_
    refine s_y (y_T (y_eql rfl rfl) (by omega)) rfl rfl rfl ?_
    refine s_nil ?_
    refine f_then ?_
    refine c_condT rfl ?_
    refine c_seq ?_
    refine c_region ?_
    refine s_y (y_move rfl) rfl rfl rfl ?_
    refine s_y (y_assign rfl) rfl rfl rfl ?_
    refine s_nil ?_
    refine f_then ?_
    refine c_ret ?_
    refine f_thenR ?_
    exact f_ret (NRes.of hk) (res1 rfl rfl) (fun w h => NRes.of_cls hk h)
  have h1 : KR.wl x ≠ 0 := fun e => hx0 (KR.wl_eq_zero.1 e)
  have h2 : KR.wl y ≠ 0 := fun e => hy0 (KR.wl_eq_zero.1 e)
  refine c_seq ?_
  refine c_region ?_
  refine s_y (y_assign rfl) rfl rfl rfl ?_
  refine s_nil ?_
  refine f_then ?_
  refine c_seq ?_
  refine c_seq ?_
  refine c_region ?_
  refine s_y (y_move rfl) rfl rfl rfl ?_
  refine s_y (y_lenN Try.tab rfl rfl) rfl rfl rfl ?_
  refine s_y (y_F (y_eql rfl rfl) (by omega)) rfl rfl rfl ?_
  refine s_nil ?_
  refine f_then ?_
  refine c_condF rfl ?_
  refine c_skip ?_
  refine f_then ?_
  refine c_seq ?_
  refine c_seq ?_
  refine c_region ?_
  refine s_y (y_move rfl) rfl rfl rfl ?_
  refine s_y (y_lenN Try.tab rfl rfl) rfl rfl rfl ?_
  refine s_y (y_F (y_eql rfl rfl) (by omega)) rfl rfl rfl ?_
  refine s_nil ?_
  refine f_then ?_
  refine c_condF rfl ?_
  refine c_skip ?_
  refine f_then ?_
  refine c_seq ?_
  refine c_region ?_
  refine s_y (y_assign rfl) rfl rfl rfl ?_
  refine s_nil ?_
  refine f_then ?_
  refine c_seq ?_
  refine c_block ?_
  clear h1 h2
  refine c_loopP (α := GcS × Nat) (fun z => [(0, z.1.va), (1, z.1.vb), (5, .int .i64 (z.2 : Int))]) (fun z => NumV (K W (z.1.M ++ N)) z.1.va z.1.x ∧ NumV (K W (z.1.M ++ N)) z.1.vb z.1.y ∧ Hlv x y z.2 z.1.x z.1.y) (fun z => K W (z.1.M ++ N)) (fun z => z.1.x) (⟨[], a, b, x, y⟩, 0) ⟨rfl, rfl, rfl, trivial⟩ ⟨ha, hb, by simp, by simp, by dsimp only; omega, by dsimp only; omega⟩ (fun w h => h) ?_
  clear ha hb
  rintro ⟨⟨M, va, vb, x', y'⟩, k⟩ ⟨ha, hb, hH⟩
  dsimp only at ha hb hH ⊢
  have hle := hH.le
  have hx1 : KR.wl x' ≤ 50000 := Nat.le_trans (KR.wl_mono hle.1) hx
  have hy1 : KR.wl y' ≤ 50000 := Nat.le_trans (KR.wl_mono hle.2) hy
  have hx2 : KR.wl x' ≠ 0 := fun e => by have := KR.wl_eq_zero.1 e; have := hH.2.2.1; omega
  have hy2 : KR.wl y' ≠ 0 := fun e => by have := KR.wl_eq_zero.1 e; have := hH.2.2.2; omega
  have px := par0 (x := x')
  have py := par0 (x := y')
  have dx := KR.dg_lt' x' 0
  have dy := KR.dg_lt' y' 0
  have hkb := hH.k
  refine c_seq ?_
  refine c_seq ?_
  refine c_then_cut (α := Unit) (fun _ => [(0, va), (1, vb), (5, .int .i64 (k : Int)), (25, .bool (decide (x' % 2 = 0 ∧ y' % 2 = 0)))]) (fun _ => True) (fun _ => K W (M ++ N)) ?_ ?_
  · by_cases q1 : x' % 2 = 0
    · by_cases q2 : y' % 2 = 0
      · rw [decide_eq_true ⟨q1, q2⟩]
        refine c_region ?_
        refine s_y (y_move rfl) rfl rfl rfl ?_
        refine s_y (y_ixN Try.tab rfl rfl rfl rfl 0 rfl (by omega)) rfl rfl rfl ?_
        refine s_y (y_ldN Try.tab rfl rfl (by omega)) rfl rfl rfl ?_
        refine s_y (y_rem rfl rfl (by omega)) rfl rfl rfl ?_
        refine s_y (y_T (y_eql rfl rfl) (by omega)) rfl rfl rfl ?_
        refine s_y (y_move rfl) rfl rfl rfl ?_
        refine s_y (y_move rfl) rfl rfl rfl ?_
        refine s_y (y_ixN Try.tab rfl rfl rfl rfl 0 rfl (by omega)) rfl rfl rfl ?_
        refine s_y (y_ldN Try.tab rfl rfl (by omega)) rfl rfl rfl ?_
        refine s_y (y_rem rfl rfl (by omega)) rfl rfl rfl ?_
        refine s_y (y_T (y_eql rfl rfl) (by omega)) rfl rfl rfl ?_
        refine s_y (y_pickT rfl rfl) rfl rfl rfl ?_
        refine s_nil ?_
        exact f_cutP () trivial ⟨rfl, rfl, rfl, rfl, trivial⟩ (fun w h => h)
      · rw [decide_eq_false (by omega)]
        refine c_region ?_
        refine s_y (y_move rfl) rfl rfl rfl ?_
        refine s_y (y_ixN Try.tab rfl rfl rfl rfl 0 rfl (by omega)) rfl rfl rfl ?_
        refine s_y (y_ldN Try.tab rfl rfl (by omega)) rfl rfl rfl ?_
        refine s_y (y_rem rfl rfl (by omega)) rfl rfl rfl ?_
        refine s_y (y_T (y_eql rfl rfl) (by omega)) rfl rfl rfl ?_
        refine s_y (y_move rfl) rfl rfl rfl ?_
        refine s_y (y_move rfl) rfl rfl rfl ?_
        refine s_y (y_ixN Try.tab rfl rfl rfl rfl 0 rfl (by omega)) rfl rfl rfl ?_
        refine s_y (y_ldN Try.tab rfl rfl (by omega)) rfl rfl rfl ?_
        refine s_y (y_rem rfl rfl (by omega)) rfl rfl rfl ?_
        refine s_y (y_F (y_eql rfl rfl) (by omega)) rfl rfl rfl ?_
        refine s_y (y_pickT rfl rfl) rfl rfl rfl ?_
        refine s_nil ?_
        exact f_cutP () trivial ⟨rfl, rfl, rfl, rfl, trivial⟩ (fun w h => h)
    · rw [decide_eq_false (by omega)]
      refine c_region ?_
      refine s_y (y_move rfl) rfl rfl rfl ?_
      refine s_y (y_ixN Try.tab rfl rfl rfl rfl 0 rfl (by omega)) rfl rfl rfl ?_
      refine s_y (y_ldN Try.tab rfl rfl (by omega)) rfl rfl rfl ?_
      refine s_y (y_rem rfl rfl (by omega)) rfl rfl rfl ?_
      refine s_y (y_F (y_eql rfl rfl) (by omega)) rfl rfl rfl ?_
      refine s_y (y_move rfl) rfl rfl rfl ?_
      iterate 5 refine s_skip rfl rfl rfl ?_
      refine s_y (y_pickF rfl rfl) rfl rfl rfl ?_
      refine s_nil ?_
      exact f_cutP () trivial ⟨rfl, rfl, rfl, rfl, trivial⟩ (fun w h => h)
  rintro _ _
  by_cases q : x' % 2 = 0 ∧ y' % 2 = 0
  · rw [decide_eq_true q]
    have hH2 := hH.next q.1 q.2
    have hxp := hH.2.2.1
    clear px py hx2 hy2 dx dy
    refine c_condT rfl ?_
    refine c_skip ?_
    refine f_then ?_
    refine c_block ?_
    refine c_seq ?_
    refine c_region ?_
    refine s_y (y_move rfl) rfl rfl rfl ?_
    refine s_call (en_f rfl Try.call127) (shr1_spec (x := x') (by omega)) rfl rfl rfl (fun r1 => ?_)
    refine s_y (y_assign rfl) rfl rfl rfl ?_
    refine s_nil ?_
    refine f_then ?_
    refine c_seq ?_
    refine c_region ?_
    refine s_y (y_move rfl) rfl rfl rfl ?_
    refine s_call (en_f rfl Try.call127) (shr1_spec (x := y') (by omega)) rfl rfl rfl (fun r2 => ?_)
    refine s_y (y_assign rfl) rfl rfl rfl ?_
    refine s_nil ?_
    refine f_then ?_
    refine c_region ?_
    refine s_y (y_move rfl) rfl rfl rfl ?_
    refine s_y (y_add rfl rfl (by omega)) rfl rfl rfl ?_
    refine s_y (y_assign rfl) rfl rfl rfl ?_
    refine s_nil ?_
    refine f_blockN ?_
    exact f_roundP (⟨r2.L :: r1.L :: M, r1.v, r2.v, x' / 2, y' / 2⟩, k + 1) ⟨(inferInstance : NumV (K W (r2.L :: r1.L :: (M ++ N))) r1.v (x' / 2)), (inferInstance : NumV (K W (r2.L :: r1.L :: (M ++ N))) r2.v (y' / 2)), hH2⟩ (by dsimp only; omega) ⟨rfl, rfl, rfl, trivial⟩ (fun w h => h)
  rw [decide_eq_false q]
  have hg := gcd_odd q
  have hgx := hH.gcd
  have hy3 := hH.2.2.2
  clear px py hx2 hy2 hH hle q dx dy
  refine c_condF rfl ?_
  refine c_exit ?_
  refine f_thenE ?_
  refine f_rndE ?_
  refine f_blockE ?_
  refine f_then ?_
  refine c_seq ?_
  refine c_block ?_
  obtain ⟨g, hge⟩ : ∃ g, g = Nat.gcd x' y' := ⟨_, rfl⟩
  rw [← hge] at hg hgx
  refine c_loopP (α := GcS) (fun z => [(0, z.va), (1, z.vb), (5, .int .i64 (k : Int))]) (fun z => NumV (K W (z.M ++ N)) z.va z.x ∧ NumV (K W (z.M ++ N)) z.vb z.y ∧ KR.wl z.x ≤ 50000 ∧ KR.wl z.y ≤ 50000 ∧ 0 < z.y ∧ Nat.gcd z.x z.y = g) (fun z => K W (z.M ++ N)) (fun z => z.x + z.y) ⟨M, va, vb, x', y'⟩ ⟨rfl, rfl, rfl, trivial⟩ ⟨ha, hb, hx1, hy1, hy3, hge.symm⟩ (fun w h => h) ?_
  clear ha hb hx1 hy1 hy3 hge
  rintro ⟨M, va, vb, x1, y1⟩ ⟨ha, hb, hx1, hy1, hy3, hge⟩
  dsimp only at ha hb hx1 hy1 hy3 hge ⊢
  by_cases hx3 : x1 = 0
  · have h0 : KR.wl x1 = 0 := KR.wl_eq_zero.2 hx3
    have e : y1 * 2 ^ k = Nat.gcd x y := by
      rw [← hgx, ← hge, hx3, Nat.gcd_zero_left]
    clear hgx hge hg
    refine c_seq ?_
    refine c_seq ?_
    refine c_region ?_
    refine s_y (y_move rfl) rfl rfl rfl ?_
    refine s_y (y_lenN Try.tab rfl rfl) rfl rfl rfl ?_
    refine s_y (y_F (y_gtr rfl rfl) (by omega)) rfl rfl rfl ?_
    refine s_nil ?_
    refine f_then ?_
    refine c_condF rfl ?_
    refine c_exit ?_
    refine f_thenE ?_
    refine f_rndE ?_
    refine f_blockE ?_
    refine f_then ?_
    refine c_seq ?_
    refine c_region ?_
    refine s_y (y_move rfl) rfl rfl rfl ?_
    refine s_y (y_move rfl) rfl rfl rfl ?_
    refine s_call (en_f rfl Try.call119) (shl_spec (x := y1) (n := k) (by omega) (by omega)) rfl rfl rfl (fun r1 => ?_)
    refine s_y (y_assign rfl) rfl rfl rfl ?_
    refine s_nil ?_
    refine f_then ?_
    refine c_ret ?_
    have hk : NumV (K W ((r1.L :: M) ++ N)) r1.v (Nat.gcd x y) := (inferInstance : NumV (K W (r1.L :: (M ++ N))) r1.v (y1 * 2 ^ k)).of e
    exact f_ret (NRes.of hk) (res1 rfl rfl) (fun w h => NRes.of_cls hk h)
  have h0 : KR.wl x1 ≠ 0 := fun e => hx3 (KR.wl_eq_zero.1 e)
  refine c_seq ?_
  refine c_seq ?_
  refine c_region ?_
  refine s_y (y_move rfl) rfl rfl rfl ?_
  refine s_y (y_lenN Try.tab rfl rfl) rfl rfl rfl ?_
  refine s_y (y_T (y_gtr rfl rfl) (by omega)) rfl rfl rfl ?_
  refine s_nil ?_
  refine f_then ?_
  refine c_condT rfl ?_
  refine c_skip ?_
  refine f_then ?_
  refine c_block ?_
  refine c_seq ?_
  refine c_block ?_
  refine c_loopP (α := List Chunk × Value × Nat) (fun z => [(0, z.2.1), (1, vb), (5, .int .i64 (k : Int))]) (fun z => NumV (K W (z.1 ++ N)) z.2.1 z.2.2 ∧ NumV (K W (z.1 ++ N)) vb y1 ∧ 0 < z.2.2 ∧ z.2.2 ≤ x1 ∧ Nat.gcd z.2.2 y1 = g) (fun z => K W (z.1 ++ N)) (fun z => z.2.2) (M, va, x1) ⟨rfl, rfl, rfl, trivial⟩ ⟨ha, hb, by dsimp only; omega, Nat.le_refl _, hge⟩ (fun w h => h) ?_
  clear ha hb hge
  rintro ⟨M, va, x2⟩ ⟨ha, hb, hx4, hx5, hge⟩
  dsimp only at ha hb hx4 hx5 hge ⊢
  have hx6 : KR.wl x2 ≤ 50000 := Nat.le_trans (KR.wl_mono hx5) hx1
  have hx7 : KR.wl x2 ≠ 0 := fun e => by have := KR.wl_eq_zero.1 e; omega
  have px := par0 (x := x2)
  have dx := KR.dg_lt' x2 0
  by_cases q1 : x2 % 2 = 0
  · have hg2 := gcd_halfL q1 (by rw [hge]; exact hg)
    rw [hge] at hg2
    clear hgx hge hg
    refine c_seq ?_
    refine c_seq ?_
    refine c_region ?_
    refine s_y (y_move rfl) rfl rfl rfl ?_
    refine s_y (y_ixN Try.tab rfl rfl rfl rfl 0 rfl (by omega)) rfl rfl rfl ?_
    refine s_y (y_ldN Try.tab rfl rfl (by omega)) rfl rfl rfl ?_
    refine s_y (y_rem rfl rfl (by omega)) rfl rfl rfl ?_
    refine s_y (y_T (y_eql rfl rfl) (by omega)) rfl rfl rfl ?_
    refine s_nil ?_
    refine f_then ?_
    refine c_condT rfl ?_
    refine c_skip ?_
    refine f_then ?_
    refine c_block ?_
    refine c_region ?_
    refine s_y (y_move rfl) rfl rfl rfl ?_
    refine s_call (en_f rfl Try.call127) (shr1_spec (x := x2) (by omega)) rfl rfl rfl (fun r1 => ?_)
    refine s_y (y_assign rfl) rfl rfl rfl ?_
    refine s_nil ?_
    refine f_blockN ?_
    exact f_roundP (r1.L :: M, r1.v, x2 / 2) ⟨(inferInstance : NumV (K W (r1.L :: (M ++ N))) r1.v (x2 / 2)), (inferInstance : NumV (K W (r1.L :: (M ++ N))) vb y1), by dsimp only; omega, by dsimp only; omega, hg2⟩ (by dsimp only; omega) ⟨rfl, rfl, rfl, trivial⟩ (fun w h => h)
  refine c_seq ?_
  refine c_seq ?_
  refine c_region ?_
  refine s_y (y_move rfl) rfl rfl rfl ?_
  refine s_y (y_ixN Try.tab rfl rfl rfl rfl 0 rfl (by omega)) rfl rfl rfl ?_
  refine s_y (y_ldN Try.tab rfl rfl (by omega)) rfl rfl rfl ?_
  refine s_y (y_rem rfl rfl (by omega)) rfl rfl rfl ?_
  refine s_y (y_F (y_eql rfl rfl) (by omega)) rfl rfl rfl ?_
  refine s_nil ?_
  refine f_then ?_
  refine c_condF rfl ?_
  refine c_exit ?_
  refine f_thenE ?_
  refine f_rndE ?_
  refine f_blockE ?_
  refine f_then ?_
  refine c_seq ?_
  refine c_block ?_
  clear px hx7 h0 hx3 dx
  refine c_loopP (α := List Chunk × Value × Nat) (fun z => [(0, va), (1, z.2.1), (5, .int .i64 (k : Int))]) (fun z => NumV (K W (z.1 ++ N)) va x2 ∧ NumV (K W (z.1 ++ N)) z.2.1 z.2.2 ∧ 0 < z.2.2 ∧ z.2.2 ≤ y1 ∧ Nat.gcd x2 z.2.2 = g) (fun z => K W (z.1 ++ N)) (fun z => z.2.2) (M, vb, y1) ⟨rfl, rfl, rfl, trivial⟩ ⟨ha, hb, hy3, Nat.le_refl _, hge⟩ (fun w h => h) ?_
  clear ha hb hge
  rintro ⟨M, vb, y2⟩ ⟨ha, hb, hy4, hy5, hge⟩
  dsimp only at ha hb hy4 hy5 hge ⊢
  have hy6 : KR.wl y2 ≤ 50000 := Nat.le_trans (KR.wl_mono hy5) hy1
  have hy7 : KR.wl y2 ≠ 0 := fun e => by have := KR.wl_eq_zero.1 e; omega
  have py := par0 (x := y2)
  have dy := KR.dg_lt' y2 0
  by_cases q2 : y2 % 2 = 0
  · have hg2 := gcd_halfR q2 (by rw [hge]; exact hg)
    rw [hge] at hg2
    clear hgx hge hg
    refine c_seq ?_
    refine c_seq ?_
    refine c_region ?_
    refine s_y (y_move rfl) rfl rfl rfl ?_
    refine s_y (y_ixN Try.tab rfl rfl rfl rfl 0 rfl (by omega)) rfl rfl rfl ?_
    refine s_y (y_ldN Try.tab rfl rfl (by omega)) rfl rfl rfl ?_
    refine s_y (y_rem rfl rfl (by omega)) rfl rfl rfl ?_
    refine s_y (y_T (y_eql rfl rfl) (by omega)) rfl rfl rfl ?_
    refine s_nil ?_
    refine f_then ?_
    refine c_condT rfl ?_
    refine c_skip ?_
    refine f_then ?_
    refine c_block ?_
    refine c_region ?_
    refine s_y (y_move rfl) rfl rfl rfl ?_
    refine s_call (en_f rfl Try.call127) (shr1_spec (x := y2) (by omega)) rfl rfl rfl (fun r1 => ?_)
    refine s_y (y_assign rfl) rfl rfl rfl ?_
    refine s_nil ?_
    refine f_blockN ?_
    exact f_roundP (r1.L :: M, r1.v, y2 / 2) ⟨(inferInstance : NumV (K W (r1.L :: (M ++ N))) va x2), (inferInstance : NumV (K W (r1.L :: (M ++ N))) r1.v (y2 / 2)), by dsimp only; omega, by dsimp only; omega, hg2⟩ (by dsimp only; omega) ⟨rfl, rfl, rfl, trivial⟩ (fun w h => h)
  refine c_seq ?_
  refine c_seq ?_
  refine c_region ?_
  refine s_y (y_move rfl) rfl rfl rfl ?_
  refine s_y (y_ixN Try.tab rfl rfl rfl rfl 0 rfl (by omega)) rfl rfl rfl ?_
  refine s_y (y_ldN Try.tab rfl rfl (by omega)) rfl rfl rfl ?_
  refine s_y (y_rem rfl rfl (by omega)) rfl rfl rfl ?_
  refine s_y (y_F (y_eql rfl rfl) (by omega)) rfl rfl rfl ?_
  refine s_nil ?_
  refine f_then ?_
  refine c_condF rfl ?_
  refine c_exit ?_
  refine f_thenE ?_
  refine f_rndE ?_
  refine f_blockE ?_
  refine f_then ?_
  refine c_seq ?_
  refine c_region ?_
  refine s_y (y_move rfl) rfl rfl rfl ?_
  refine s_y (y_move rfl) rfl rfl rfl ?_
  refine s_call (en_f rfl Try.call90) (rcmp_spec (x := x2) (y := y2)) rfl rfl rfl (fun _ => ?_)
  by_cases hc : y2 ≤ x2
  · have e1 : ¬ x2 < y2 := by omega
    rw [if_neg e1]
    obtain ⟨z, hz, hz0⟩ : ∃ z : Int, (if y2 < x2 then (1 : Int) else 0) = z ∧ 0 ≤ z := ⟨_, rfl, by split <;> omega⟩
    rw [hz]
    have hg2 := gcd_subL hc
    rw [hge] at hg2
    clear hgx hge hg
    refine s_y (y_T (y_geq rfl rfl) (by assumption)) rfl rfl rfl ?_
    refine s_nil ?_
    refine f_then ?_
    refine c_condT rfl ?_
    refine c_region ?_
    refine s_y (y_move rfl) rfl rfl rfl ?_
    refine s_y (y_move rfl) rfl rfl rfl ?_
    refine s_call (en_f rfl Try.call121) (rsub_spec (x := x2) (y := y2) (by omega) hc) rfl rfl rfl (fun r1 => ?_)
    refine s_y (y_assign rfl) rfl rfl rfl ?_
    refine s_nil ?_
    refine f_blockN ?_
    exact f_roundP ⟨r1.L :: M, r1.v, vb, x2 - y2, y2⟩ ⟨(inferInstance : NumV (K W (r1.L :: (M ++ N))) r1.v (x2 - y2)), (inferInstance : NumV (K W (r1.L :: (M ++ N))) vb y2), Nat.le_trans (KR.wl_mono (Nat.sub_le _ _)) hx6, hy6, hy4, hg2⟩ (by dsimp only; omega) ⟨rfl, rfl, rfl, trivial⟩ (fun w h => h)
  · have e1 : x2 < y2 := by omega
    rw [if_pos e1]
    have hg2 := gcd_subR (Nat.le_of_lt e1)
    rw [hge] at hg2
    clear hgx hge hg
    refine s_y (y_F (y_geq rfl rfl) (by omega)) rfl rfl rfl ?_
    refine s_nil ?_
    refine f_then ?_
    refine c_condF rfl ?_
    refine c_region ?_
    refine s_y (y_move rfl) rfl rfl rfl ?_
    refine s_y (y_move rfl) rfl rfl rfl ?_
    refine s_call (en_f rfl Try.call121) (rsub_spec (x := y2) (y := x2) (by omega) (Nat.le_of_lt e1)) rfl rfl rfl (fun r1 => ?_)
    refine s_y (y_assign rfl) rfl rfl rfl ?_
    refine s_nil ?_
    refine f_blockN ?_
    exact f_roundP ⟨r1.L :: M, va, r1.v, x2, y2 - x2⟩ ⟨(inferInstance : NumV (K W (r1.L :: (M ++ N))) va x2), (inferInstance : NumV (K W (r1.L :: (M ++ N))) r1.v (y2 - x2)), hx6, Nat.le_trans (KR.wl_mono (Nat.sub_le _ _)) hy6, by dsimp only; omega, hg2⟩ (by dsimp only; omega) ⟨rfl, rfl, rfl, trivial⟩ (fun w h => h)
end Go.KL
end

section
/- Walks: the reference's Binomial, Low. -/
namespace Go.KL
open Go.Proofs
theorem RawI.one {C : World → Prop} {v : Value} {n : Nat} {g : Nat → Nat} (h : RawI C v n g) : v.oneCell' = true := by
  obtain ⟨pa, c, rfl, _⟩ := h.ok
  rfl
section
variable {W : World} {Ls : List Chunk} {C : World → Prop} {σ : Slots} {k n m : Nat} {g h : Nat → Nat} {v u : Value} {x y : Operand} {dst : Option Tmp} {ty : TypeId} {pos : String} {after : Array Edge} {guard : Option (Nat × Bool)}
theorem y_build34 (hx : ev σ x = some v) (hy : ev σ y = some u) [hv : RawI C v n g] [hu : RawI C u m h] : Ylds Try.prog k σ C ⟨dst, .build 34 #[(0, x), (1, y)], ty, pos, after, guard⟩ (.agg #[v, u]) := by
  obtain ⟨pa, c, h1, _⟩ := hv.ok
  obtain ⟨pb, d, h2, _⟩ := hu.ok
  clear hv hu
  subst h1 h2
  exact y_build Try.tab (ps := [(0, x), (1, y)]) (pvs := [(0, .slice pa n c), (1, .slice pb m d)]) (by simp [partsV, hx, hy]) rfl rfl rfl rfl
theorem set_34 (i : Nat) {b : Nat} {e : TypeId} {l : List Value} (hx : ev σ x = some (.pointer (some ⟨b, 0, none⟩))) (hy : ev σ y = some (.agg #[v, u])) (hi : Ls.getD i [] = [(b, row e l)]) (hl : l.length = 2) [hv : RawI (K W Ls) v n g] [hu : RawI (K W Ls) u m h] :
    Sets Try.prog k σ (K W Ls) ⟨dst, .store 34 x y, ty, pos, after, guard⟩ (K W (Ls.set i [(b, row e [v, u])])) :=
  set_box Try.tab i (vs := [v, u]) hx hy (by simp [hv.one, hu.one]) rfl rfl hi hl
end
instance NumV.t0 {C : World → Prop} {v u : Value} {x : Nat} {h0 : 0 < #[v, u].size} [h : NumV C v x] : NumV C (#[v, u][0]'h0) x := h
instance NumV.t1 {C : World → Prop} {v u : Value} {x : Nat} {h0 : 1 < #[v, u].size} [h : NumV C u x] : NumV C (#[v, u][1]'h0) x := h
theorem rwl_bino {n i : Nat} (h : n ≤ 4096) : KR.wl (bino n i) ≤ 257 := by
  obtain ⟨f, hf⟩ : ∃ f, f = 257 := ⟨_, rfl⟩
  rw [← hf, KR.wl_le, KR.B_two]
  exact Nat.lt_of_le_of_lt (bino_le n i) (Nat.pow_lt_pow_right (by decide) (by omega))
attribute [local irreducible] SC St Fin Sq Ylds Doos Sets Enters Spec CellIs CellsAre Then Ret Rnd Chn resOK ints bools recs arr
set_option maxRecDepth 10000 in
set_option maxHeartbeats 8000000 in
theorem rbinom_spec {W : World} {N : List Chunk} {n k : Nat} (hn : n ≤ 4096) (hk : k < 9223372036854775808) :
    Spec Try.prog 56 #[.int .i64 (n : Int), .int .i64 (k : Int)] (K W N) (X := NFr W (bino n k)) (fun r => r.v) (fun r => K W (r.L :: N)) := by
  refine enter (args := [_, _]) Try.func56 rfl Try.ntmps56 rfl ?_
  by_cases hkn : n < k
  · have k1 : NumV (K W [[]]) (.slice none 0 0) (bino n k) := NumV.nilI.of (bino_out hkn).symm
    refine c_seq ?_
    refine c_region ?_
    refine s_y (y_assign rfl) rfl rfl rfl ?_
    refine s_nil ?_
    refine f_then ?_
    refine c_seq ?_
    refine c_seq ?_
    refine c_region ?_
    refine s_y (y_move rfl) rfl rfl rfl ?_
    refine s_y (y_move rfl) rfl rfl rfl ?_
    refine s_y (y_T (y_gtr rfl rfl) (by omega)) rfl rfl rfl ?_
    refine s_nil ?_
    refine f_then ?_
    refine c_condT rfl ?_
    refine c_seq ?_
    refine c_region ?_
    refine s_y (y_assign rfl) rfl rfl rfl ?_
    refine s_nil ?_
    refine f_then ?_
    refine c_ret ?_
    refine f_thenR ?_
    exact f_ret ⟨_, _, k1⟩ (res1 rfl rfl) (fun w h => h.weak [] (by simp))
  obtain ⟨m, hm⟩ : ∃ m, m = min k (n - k) := ⟨_, rfl⟩
  have hmI : min (k : Int) ((n : Int) - (k : Int)) = (m : Int) := by omega
  have hres : bino n m = bino n k := by
    rcases Nat.lt_or_ge k (n - k) with h | h
    · rw [show m = k by omega]
    · rw [show m = n - k by omega]
      exact bino_sym (by omega)
  refine c_seq ?_
  refine c_region ?_
  refine s_y (y_assign rfl) rfl rfl rfl ?_
  refine s_nil ?_
  refine f_then ?_
  refine c_seq ?_
  refine c_seq ?_
  refine c_region ?_
  refine s_y (y_move rfl) rfl rfl rfl ?_
  refine s_y (y_move rfl) rfl rfl rfl ?_
  refine s_y (y_F (y_gtr rfl rfl) (by omega)) rfl rfl rfl ?_
  refine s_nil ?_
  refine f_then ?_
  refine c_condF rfl ?_
  refine c_skip ?_
  refine f_then ?_
  refine c_seq ?_
  refine c_region ?_
  refine s_y (y_move rfl) rfl rfl rfl ?_
  refine s_y (y_move rfl) rfl rfl rfl ?_
  refine s_y (y_move rfl) rfl rfl rfl ?_
  refine s_y (y_sub rfl rfl (by omega)) rfl rfl rfl ?_
  refine s_y (y_min rfl rfl) rfl rfl rfl ?_
  refine s_y (y_assign rfl) rfl rfl rfl ?_
  refine s_nil ?_
  refine f_then ?_
  refine c_seq ?_
  refine c_region ?_
  rw [hmI]
  refine s_call (en_f rfl Try.call91) of1_spec rfl rfl rfl (fun r1 => ?_)
  refine s_y (y_assign rfl) rfl rfl rfl ?_
  refine s_nil ?_
  refine f_then ?_
  refine c_seq ?_
  refine c_seq ?_
  refine c_region ?_
  refine s_y (y_assign rfl) rfl rfl rfl ?_
  refine s_nil ?_
  refine f_then ?_
  refine c_block ?_
  refine c_loopP (α := Nat × Chunk × Value) (fun z => [(0, .int .i64 n), (1, .int .i64 m), (5, z.2.2), (6, .int .i64 z.1)])
    (fun z => z.1 ≤ m ∧ NumV (K W [z.2.1]) z.2.2 (bino n z.1)) (fun z => K W (z.2.1 :: N)) (fun z => m - z.1) (0, r1.L, r1.v)
    ⟨rfl, rfl, rfl, rfl, trivial⟩ ⟨Nat.zero_le _, r1.ok.of (by dsimp only; cases n <;> rfl)⟩ (fun w h => h) ?_
  rintro ⟨i, L, v⟩ ⟨hi, hv⟩
  dsimp only at hi hv ⊢
  by_cases him : i < m
  · have hni : ((n : Int) - (i : Int)) = ((n - i : Nat) : Int) := by omega
    have hbn : bino n i * (n - i) / (i + 1) = bino n (i + 1) := by rw [bino_next (by omega), Nat.mul_div_cancel _ (Nat.succ_pos i)]
    have hwb := rwl_bino (i := i) hn
    have hwn : KR.wl (n - i) ≤ 4 := KR.wl_int (by omega)
    have hwp : KR.wl (bino n i * (n - i)) ≤ 261 := KR.wl_mul hwb hwn
    haveI hvI : NumV (K W (L :: N)) v (bino n i) := hv.chunk
    refine c_seq ?_
    refine c_seq ?_
    refine c_region ?_
    refine s_y (y_move rfl) rfl rfl rfl ?_
    refine s_y (y_move rfl) rfl rfl rfl ?_
    refine s_y (y_T (y_lss rfl rfl) (by omega)) rfl rfl rfl ?_
    refine s_nil ?_
    refine f_then ?_
    refine c_condT rfl ?_
    refine c_skip ?_
    refine f_then ?_
    refine c_seq ?_
    refine c_block ?_
    refine c_region ?_
    refine s_y (y_move rfl) rfl rfl rfl ?_
    refine s_y (y_move rfl) rfl rfl rfl ?_
    refine s_y (y_move rfl) rfl rfl rfl ?_
    refine s_y (y_sub rfl rfl (by omega)) rfl rfl rfl ?_
    rw [hni]
    refine s_call (en_f rfl Try.call91) (of_spec (x := n - i) (by omega)) rfl rfl rfl (fun r2 => ?_)
    skip
    refine s_call (en_f rfl Try.call55) (rmul_spec (x := bino n i) (y := n - i) (by omega) (by omega)) rfl rfl rfl (fun r3 => ?_)
    refine s_y (y_move rfl) rfl rfl rfl ?_
    refine s_y (y_add rfl rfl (by omega)) rfl rfl rfl ?_
    rw [show (i : Int) + 1 = ((i + 1 : Nat) : Int) by omega]
    refine s_call (en_f rfl Try.call95) (small_spec (x := bino n i * (n - i)) (d := i + 1) (by omega) (by omega) (by omega)) rfl rfl rfl (fun r4 => ?_)
    refine s_y (y_move rfl) rfl rfl rfl ?_
    refine s_y (y_extract rfl rfl) rfl rfl rfl ?_
    refine s_y (y_extract rfl rfl) rfl rfl rfl ?_
    refine s_y (y_assign rfl) rfl rfl rfl ?_
    refine s_nil ?_
    refine f_blockN ?_
    refine f_then ?_
    refine c_region ?_
    refine s_y (y_move rfl) rfl rfl rfl ?_
    refine s_y (y_add rfl rfl (by omega)) rfl rfl rfl ?_
    refine s_y (y_assign rfl) rfl rfl rfl ?_
    refine s_nil ?_
    exact f_roundP (i + 1, r4.L, r4.v) ⟨him, r4.ok.of hbn⟩ (by dsimp only; omega) ⟨rfl, rfl, rfl, congrArg (fun z => some (Value.int .i64 z)) (by dsimp only; omega), trivial⟩ (fun w h => ((h.dropAt 1).dropAt 1).dropAt 1)
  · obtain rfl : i = m := by omega
    rw [hres] at hv
    refine c_seq ?_
    refine c_seq ?_
    refine c_region ?_
    refine s_y (y_move rfl) rfl rfl rfl ?_
    refine s_y (y_move rfl) rfl rfl rfl ?_
    refine s_y (y_F (y_lss rfl rfl) (by omega)) rfl rfl rfl ?_
    refine s_nil ?_
    refine f_then ?_
    refine c_condF rfl ?_
    refine c_exit ?_
    refine f_thenE ?_
    refine f_rndE ?_
    refine f_blockE ?_
    refine f_then ?_
    refine c_seq ?_
    refine c_region ?_
    refine s_y (y_move rfl) rfl rfl rfl ?_
    refine s_y (y_assign rfl) rfl rfl rfl ?_
    refine s_nil ?_
    refine f_then ?_
    refine c_ret ?_
    exact f_ret ⟨L, v, hv⟩ (res1 rfl rfl) (fun w h => h)
set_option maxRecDepth 10000 in
set_option maxHeartbeats 8000000 in
theorem low_spec {W : World} {N : List Chunk} {a b : Value} {p q : Nat} [ha : NumV (K W N) a p] [hb : NumV (K W N) b q] (hp : KR.wl p ≤ 50000) (hq : KR.wl q ≤ 50000) (hq0 : q ≠ 0) :
    Spec Try.prog 57 #[a, b] (K W N) (X := NFr2 W (lwN p q) (lwD p q)) (fun r => .agg #[r.v1, r.v2]) (fun r => K W (r.L :: N)) := by
  refine enter (args := [_, _]) Try.func57 rfl Try.ntmps57 rfl ?_
  by_cases hp0 : p = 0
  · have h1 : KR.wl p = 0 := KR.wl_eq_zero.2 hp0
    have e1 : lwN p q = 0 := by rw [lwN, hp0, Nat.zero_div]
    have e2 : lwD p q = 1 := by rw [lwD, hp0, Nat.gcd_zero_left, Nat.div_self (by omega)]
    refine c_seq ?_
    refine c_region ?_
    refine s_do (do_alloc Try.tab rfl) rfl rfl rfl (fun b4 => ?_)
    refine s_nil ?_
    refine f_then ?_
    refine c_seq ?_
    refine c_seq ?_
    refine c_region ?_
    refine s_y (y_move rfl) rfl rfl rfl ?_
    refine s_y (y_lenN Try.tab rfl rfl) rfl rfl rfl ?_
    refine s_y (y_T (y_eql rfl rfl) (by omega)) rfl rfl rfl ?_
    refine s_nil ?_
    refine f_then ?_
    refine c_condT rfl ?_
    refine c_seq ?_
    refine c_region ?_
    refine s_call (en_f rfl Try.call91) of1_spec rfl rfl rfl (fun r1 => ?_)
    refine s_y (y_build34 rfl rfl) rfl rfl rfl ?_
    refine s_set (set_34 1 rfl rfl rfl rfl) rfl rfl ?_
    refine s_nil ?_
    refine f_then ?_
    refine c_ret ?_
    refine f_thenR ?_
    have k1 : NumV (K W [r1.L]) (.slice none 0 0) (lwN p q) := NumV.nilI.of e1.symm
    exact f_ret ⟨_, _, _, k1, r1.ok.of e2.symm⟩ (resA Try.tab rfl rfl rfl rfl rfl (cells_row0 1 rfl rfl)) (fun w h => h.dropAt 1)
  · have h1 : KR.wl p ≠ 0 := fun e => hp0 (KR.wl_eq_zero.1 e)
    have hg0 : 0 < Nat.gcd p q := Nat.gcd_pos_of_pos_left _ (by omega)
    refine c_seq ?_
    refine c_region ?_
    refine s_do (do_alloc Try.tab rfl) rfl rfl rfl (fun b4 => ?_)
    refine s_nil ?_
    refine f_then ?_
    refine c_seq ?_
    refine c_seq ?_
    refine c_region ?_
    refine s_y (y_move rfl) rfl rfl rfl ?_
    refine s_y (y_lenN Try.tab rfl rfl) rfl rfl rfl ?_
    refine s_y (y_F (y_eql rfl rfl) (by omega)) rfl rfl rfl ?_
    refine s_nil ?_
    refine f_then ?_
    refine c_condF rfl ?_
    refine c_skip ?_
    refine f_then ?_
    refine c_seq ?_
    refine c_region ?_
    refine s_y (y_move rfl) rfl rfl rfl ?_
    refine s_y (y_move rfl) rfl rfl rfl ?_
    refine s_call (en_f rfl Try.call96) (rgcd_spec (x := p) (y := q) hp hq) rfl rfl rfl (fun r1 => ?_)
    refine s_y (y_assign rfl) rfl rfl rfl ?_
    refine s_nil ?_
    refine f_then ?_
    refine c_seq ?_
    refine c_region ?_
    refine s_y (y_move rfl) rfl rfl rfl ?_
    refine s_y (y_move rfl) rfl rfl rfl ?_
    refine s_call (en_f rfl Try.call82) (rdivMod_spec (x := p) (y := Nat.gcd p q) (by omega) (Nat.le_trans (KR.wl_mono (Nat.gcd_le_left _ (by omega))) (by omega)) hg0) rfl rfl rfl (fun r2 => ?_)
    refine s_y (y_move rfl) rfl rfl rfl ?_
    refine s_y (y_extract rfl rfl) rfl rfl rfl ?_
    refine s_y (y_extract rfl rfl) rfl rfl rfl ?_
    refine s_y (y_assign rfl) rfl rfl rfl ?_
    refine s_y (y_assign rfl) rfl rfl rfl ?_
    refine s_nil ?_
    refine f_then ?_
    refine c_seq ?_
    refine c_region ?_
    refine s_y (y_move rfl) rfl rfl rfl ?_
    refine s_y (y_move rfl) rfl rfl rfl ?_
    refine s_call (en_f rfl Try.call82) (rdivMod_spec (x := q) (y := Nat.gcd p q) (by omega) (Nat.le_trans (KR.wl_mono (Nat.gcd_le_left _ (by omega))) (by omega)) hg0) rfl rfl rfl (fun r3 => ?_)
    refine s_y (y_move rfl) rfl rfl rfl ?_
    refine s_y (y_extract rfl rfl) rfl rfl rfl ?_
    refine s_y (y_extract rfl rfl) rfl rfl rfl ?_
    refine s_y (y_assign rfl) rfl rfl rfl ?_
    refine s_y (y_assign rfl) rfl rfl rfl ?_
    refine s_nil ?_
    refine f_then ?_
    refine c_seq ?_
    refine c_region ?_
    refine s_y (y_move rfl) rfl rfl rfl ?_
    refine s_y (y_move rfl) rfl rfl rfl ?_
    refine s_y (y_build34 rfl rfl) rfl rfl rfl ?_
    refine s_set (set_34 3 rfl rfl rfl rfl) rfl rfl ?_
    refine s_nil ?_
    refine f_then ?_
    refine c_ret ?_
    have k1 : NumV (K W [r3.L ++ r2.L]) r2.v1 (lwN p q) := r2.ok1.cls fun _ h => h.unglue.tail
    have k2 : NumV (K W [r3.L ++ r2.L]) r3.v1 (lwD p q) := r3.ok1.cls fun _ h => h.unglue.hd
    exact f_ret ⟨_, _, _, k1, k2⟩ (resA Try.tab rfl rfl rfl rfl rfl (cells_row0 3 rfl rfl)) (fun w h => ((h.dropAt 3).dropAt 2).glue)
end Go.KL
end

section
/- Walks: the reference's Frac.Cmp, num, Risk. -/
namespace Go.KL
open Go.Proofs
instance RawI.set0 {W : World} {Ls : List Chunk} {v : Value} {n : Nat} {g : Nat → Nat} {c d : Chunk} [h : RawI (K W Ls) v n g] : RawI (K W ((c :: Ls).set 0 d)) v n g := (inferInstance : RawI (K W (d :: Ls)) v n g)
instance NumV.set0 {W : World} {Ls : List Chunk} {v : Value} {x : Nat} {c d : Chunk} [h : NumV (K W Ls) v x] : NumV (K W ((c :: Ls).set 0 d)) v x := (inferInstance : NumV (K W (d :: Ls)) v x)
attribute [local irreducible] SC St Fin Sq Ylds Doos Sets Enters Spec CellIs CellsAre Then Ret Rnd Chn resOK ints bools recs arr
set_option maxRecDepth 10000 in
set_option maxHeartbeats 8000000 in
theorem rfcmp_spec {W : World} {N : List Chunk} {a b c d : Value} {p q r s : Nat} [ha : NumV (K W N) a p] [hb : NumV (K W N) b q] [hc : NumV (K W N) c r] [hd : NumV (K W N) d s] (hp : KR.wl p ≤ 50000) (hq : KR.wl q ≤ 50000) (hr : KR.wl r ≤ 50000) (hs : KR.wl s ≤ 50000) :
    Spec Try.prog 67 #[.agg #[a, b], .agg #[c, d]] (K W N) (fun _ : Unit => .int .i64 (if p * s < r * q then -1 else if r * q < p * s then 1 else 0)) (fun _ => K W N) := by
  refine enter (args := [_, _]) Try.func67 rfl Try.ntmps67 rfl ?_
  refine c_seq ?_
  refine c_region ?_
  refine s_do (do_box rfl) rfl rfl rfl (fun b2 => ?_)
  refine s_do (do_box rfl) rfl rfl rfl (fun b3 => ?_)
  refine s_y (y_assign rfl) rfl rfl rfl ?_
  refine s_nil ?_
  refine f_then ?_
  refine c_seq ?_
  refine SC.cls (C' := K W ([(b3, row 34 [c, d])] :: [(b2, row 34 [a, b])] :: N)) ?_ (fun w h => h)
  have w1 := KR.wl_mul hp hs
  have w2 := KR.wl_mul hr hq
  refine c_plan [.c 0, .c 1, .c 2, .c 3, .c 5, .c 6, .c 7, .c 8, .s 4, .s 9, .s 10, .c 11] [] ((K W ([(b3, row 34 [c, d])] :: [(b2, row 34 [a, b])] :: N))) Try.mixed (by kernel_rfl) rfl K.cl ?_
  refine d_c rfl (Qui.ylds (y_fieldAddr0 Try.tab rfl rfl rfl rfl rfl)) rfl rfl rfl (fun _ h => h) K.cl ?_
  refine d_c rfl (Qui.ylds (y_load Try.tab rfl rfl (cell_row 1 rfl rfl))) rfl rfl rfl (fun _ h => h) K.cl ?_
  refine d_c rfl (Qui.ylds (y_fieldAddrB Try.tab 1 rfl rfl rfl rfl rfl)) rfl rfl rfl (fun _ h => h) K.cl ?_
  refine d_c rfl (Qui.ylds (y_load Try.tab rfl rfl (cell_row 0 rfl rfl))) rfl rfl rfl (fun _ h => h) K.cl ?_
  refine d_c rfl (Qui.ylds (y_fieldAddr0 Try.tab rfl rfl rfl rfl rfl)) rfl rfl rfl (fun _ h => h) K.cl ?_
  refine d_c rfl (Qui.ylds (y_load Try.tab rfl rfl (cell_row 0 rfl rfl))) rfl rfl rfl (fun _ h => h) K.cl ?_
  refine d_c rfl (Qui.ylds (y_fieldAddrB Try.tab 1 rfl rfl rfl rfl rfl)) rfl rfl rfl (fun _ h => h) K.cl ?_
  refine d_c rfl (Qui.ylds (y_load Try.tab rfl rfl (cell_row 1 rfl rfl))) rfl rfl rfl (fun _ h => h) K.cl ?_
  refine d_call rfl (en_f rfl Try.call55) (rmul_spec (x := p) (y := s) (by omega) (by omega)) rfl rfl rfl (fun _ => K.cl) (fun _ _ _ h => h.tail) (fun r1 => ?_)
  skip
  refine d_call rfl (en_f rfl Try.call55) (rmul_spec (x := r) (y := q) (by omega) (by omega)) rfl rfl rfl (fun _ => K.cl) (fun _ _ _ h => h.tail.tail) (fun r2 => ?_)
  skip
  refine d_call rfl (en_f rfl Try.call90) (rcmp_spec (x := p * s) (y := r * q)) rfl rfl rfl (fun _ => K.cl) (fun _ _ _ h => h.tail.tail) (fun _ => ?_)
  refine d_c rfl (Qui.ylds (y_assign rfl)) rfl rfl rfl (fun _ h => h.tail.tail) K.cl ?_
  refine d_nil ?_
  refine f_then ?_
  refine c_ret ?_
  exact f_ret () (res1 rfl rfl) (fun w h => h.tail.tail.tail.tail)
set_option maxRecDepth 10000 in
set_option maxHeartbeats 8000000 in
theorem num_spec {W : World} {N : List Chunk} {x : Nat} (hx : x < 9223372036854775808) : Spec Try.prog 74 #[.int .i64 (x : Int)] (K W N) (X := NFr W x) (fun r => r.v) (fun r => K W (r.L :: N)) := by
  refine enter (args := [_]) Try.func74 rfl Try.ntmps74 rfl ?_
  refine c_seq ?_
  refine c_region ?_
  refine s_y (y_assign rfl) rfl rfl rfl ?_
  refine s_nil ?_
  refine f_then ?_
  refine c_seq ?_
  refine c_region ?_
  refine s_y (y_move rfl) rfl rfl rfl ?_
  refine s_call (en_f rfl Try.call91) (of_spec hx) rfl rfl rfl (fun r1 => ?_)
  refine s_y (y_assign rfl) rfl rfl rfl ?_
  refine s_nil ?_
  refine f_then ?_
  refine c_ret ?_
  exact f_ret r1 (res1 rfl rfl) (fun w h => h)
theorem million_spec {W : World} {N : List Chunk} : Spec Try.prog 74 #[.int .i64 1000000] (K W N) (X := NFr W 1000000) (fun r => r.v) (fun r => K W (r.L :: N)) := num_spec (x := 1000000) (by omega)
set_option maxRecDepth 10000 in
set_option maxHeartbeats 8000000 in
theorem risk_spec {W : World} {N : List Chunk} {x : Nat} (hx : x < 9223372036854775808) : Spec Try.prog 68 #[.int .i64 (x : Int)] (K W N) (X := NFr2 W (lwN x 1000000) (lwD x 1000000)) (fun r => .agg #[r.v1, r.v2]) (fun r => K W (r.L :: N)) := by
  have w1 := KR.wl_int (x := x) (by omega)
  have w2 := KR.wl_int (x := 1000000) (by omega)
  refine enter (args := [_]) Try.func68 rfl Try.ntmps68 rfl ?_
  refine c_seq ?_
  refine c_region ?_
  refine s_do (do_alloc Try.tab rfl) rfl rfl rfl (fun b2 => ?_)
  refine s_nil ?_
  refine f_then ?_
  refine c_seq ?_
  refine c_region ?_
  refine s_y (y_move rfl) rfl rfl rfl ?_
  refine s_call (en_f rfl Try.call74) (num_spec hx) rfl rfl rfl (fun r1 => ?_)
  skip
  refine s_call (en_f rfl Try.call74) million_spec rfl rfl rfl (fun r2 => ?_)
  skip
  refine s_call (en_f rfl Try.call57) (low_spec (p := x) (q := 1000000) (by omega) (by omega) (by omega)) rfl rfl rfl (fun r3 => ?_)
  refine s_set (set_34 3 rfl rfl rfl rfl) rfl rfl ?_
  refine s_nil ?_
  refine f_then ?_
  refine c_ret ?_
  exact f_ret r3 (resA Try.tab rfl rfl rfl rfl rfl (cells_row0 3 rfl rfl)) (fun w h => ((h.dropAt 3).dropAt 2).dropAt 1)
end Go.KL
end
