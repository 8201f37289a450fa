/- FlowCloses: for every input the law returns true, and its arguments read as they did. No condition. -/
import Derived.Test.YtbeckcilglhkbaaRows
import Derived.JoinedOf
import Derived.Handed
import Derived.Test.YtbeckcilglhkbaaGbL4
section
/- The walk of FlowCloses. -/
namespace Go.KL
open Go.Proofs
theorem SlB.ownLe {W : World} {Ls : List Chunk} {b n N : Nat} {e : TypeId} {f : Nat → Bool} (i : Nat) {rest : List Value} {ch : Chunk} (hi : Ls.getD i [] = (b, bools e N f rest) :: ch) (hn : n ≤ N) : SlB (K W Ls) (.slice (some ⟨b, 0, none⟩) n n) n f :=
  ⟨_, n, rfl, Nat.le_refl _, fun _ => ⟨b, 0, rfl, fun k hk j hj => by
    obtain rfl : j = 0 := by omega
    have := cell_bools (W := W) (Ls := Ls) i hi (k := k) (by omega)
    rwa [show 0 + k * 1 + 0 = k by omega]⟩⟩
open Classical in
theorem rgoods_is {n m : Nat} {w : Nat → Int} {Q : Nat → Pr} {b : Bool} (h : decide (GoodsOK n w m Q) = b) (W : World) (Ls : List Chunk) (vw vq : Value) (hW : SlI (K W Ls) vw n w) (hQ : SlP (K W Ls) vq m Q) (hb : n ≤ 1000000000 ∧ m ≤ 1000000000) :
    Spec Try.prog 23 #[vw, vq] (K W Ls) (fun _ : Unit => .bool b) (fun _ => K W Ls) := by
  have := rgoods_spec W Ls n m vw vq w Q hW hQ hb
  rwa [h] at this
attribute [local irreducible] SC St Fin Sq Sw Ylds Doos Sets Enters Spec CellIs CellsAre Then Ret Rnd Chn resOK ints bools recs arr
open Classical in
set_option maxHeartbeats 8000000 in
theorem flowCloses_walk (W : World) (vw vq : Value) (n m : Nat) (w : Nat → Int) (Q : Nat → Pr) (hW : SlI (K W []) vw n w) (hQ : SlP (K W []) vq m Q) :
    Spec Try.prog 4 #[vw, vq] (K W []) (fun _ : Unit => .bool true) (fun _ => K W []) := by
  obtain ⟨pw, cw, rfl, hcw, hcW⟩ := hW.open1
  obtain ⟨pq, cq, rfl, hcq, hcQ⟩ := hQ.open
  refine enter (args := [_, _]) Try.func4 rfl Try.ntmps4 rfl ?_
  refine c_seq ?_
  refine c_region ?_
  refine s_y (y_assign rfl) rfl rfl rfl ?_
  refine s_nil ?_
  refine f_then ?_
  refine c_seq ?_
  refine c_chain 27 (decide (¬ ((n ≤ 11 ∨ n = 121) ∧ (m ≤ 60 ∨ m = 1025)))) ?_ ?_
  · refine c_region ?_
    refine s_y (y_move rfl) rfl rfl rfl ?_
    refine s_y (y_len Try.tab rfl rfl) rfl rfl rfl ?_
    refine s_y (y_gtr rfl rfl) rfl rfl rfl ?_
    refine s_y (y_move rfl) rfl rfl rfl ?_
    refine s_case 13 rfl (fun c0 => ?_) (fun c0 => ?_)
    · refine s_y (y_move rfl) rfl rfl rfl ?_
      refine s_y (y_len Try.tab rfl rfl) rfl rfl rfl ?_
      refine s_y (y_neq rfl rfl) rfl rfl rfl ?_
      refine s_y (y_pickT rfl rfl) rfl rfl rfl ?_
      refine s_y (y_move rfl) rfl rfl rfl ?_
      refine s_case 18 rfl (fun c1 => ?_) (fun c1 => ?_)
      · refine s_skip rfl rfl rfl ?_
        iterate 7 refine s_skip rfl rfl rfl ?_
        refine s_y (y_pickT rfl rfl) rfl rfl rfl ?_
        refine s_nil ?_
        exact f_chain rfl ((decide_eq_true (by omega)).symm) ⟨rfl, rfl, rfl, trivial⟩
      · refine s_y (y_move rfl) rfl rfl rfl ?_
        refine s_y (y_len Try.tab rfl rfl) rfl rfl rfl ?_
        refine s_y (y_gtr rfl rfl) rfl rfl rfl ?_
        refine s_y (y_move rfl) rfl rfl rfl ?_
        refine s_case 22 rfl (fun c2 => ?_) (fun c2 => ?_)
        · refine s_y (y_move rfl) rfl rfl rfl ?_
          refine s_y (y_len Try.tab rfl rfl) rfl rfl rfl ?_
          refine s_y (y_neq rfl rfl) rfl rfl rfl ?_
          refine s_y (y_pickT rfl rfl) rfl rfl rfl ?_
          refine s_y (y_pickF rfl rfl) rfl rfl rfl ?_
          refine s_nil ?_
          exact f_chain rfl (decide_eq_decide.2 (by omega)) ⟨rfl, rfl, rfl, trivial⟩
        · refine s_skip rfl rfl rfl ?_
          iterate 2 refine s_skip rfl rfl rfl ?_
          refine s_y (y_pickF rfl rfl) rfl rfl rfl ?_
          refine s_y (y_pickF rfl rfl) rfl rfl rfl ?_
          refine s_nil ?_
          exact f_chain rfl ((decide_eq_false (by omega)).symm) ⟨rfl, rfl, rfl, trivial⟩
    · refine s_skip rfl rfl rfl ?_
      iterate 2 refine s_skip rfl rfl rfl ?_
      refine s_y (y_pickF rfl rfl) rfl rfl rfl ?_
      refine s_y (y_move rfl) rfl rfl rfl ?_
      refine s_y (y_move rfl) rfl rfl rfl ?_
      refine s_y (y_len Try.tab rfl rfl) rfl rfl rfl ?_
      refine s_y (y_gtr rfl rfl) rfl rfl rfl ?_
      refine s_y (y_move rfl) rfl rfl rfl ?_
      refine s_case 22 rfl (fun c1 => ?_) (fun c1 => ?_)
      · refine s_y (y_move rfl) rfl rfl rfl ?_
        refine s_y (y_len Try.tab rfl rfl) rfl rfl rfl ?_
        refine s_y (y_neq rfl rfl) rfl rfl rfl ?_
        refine s_y (y_pickT rfl rfl) rfl rfl rfl ?_
        refine s_y (y_pickF rfl rfl) rfl rfl rfl ?_
        refine s_nil ?_
        exact f_chain rfl (decide_eq_decide.2 (by omega)) ⟨rfl, rfl, rfl, trivial⟩
      · refine s_skip rfl rfl rfl ?_
        iterate 2 refine s_skip rfl rfl rfl ?_
        refine s_y (y_pickF rfl rfl) rfl rfl rfl ?_
        refine s_y (y_pickF rfl rfl) rfl rfl rfl ?_
        refine s_nil ?_
        exact f_chain rfl ((decide_eq_false (by omega)).symm) ⟨rfl, rfl, rfl, trivial⟩
  refine c_condD rfl (fun _ => ?_) (fun hfew => ?_)
  · refine c_seq ?_
    refine c_region ?_
    refine s_call (en_f rfl Try.call16) (awake_spec W _) rfl rfl rfl (fun _ => ?_)
    refine s_y (y_assign rfl) rfl rfl rfl ?_
    refine s_nil ?_
    refine f_then ?_
    refine c_ret ?_
    refine f_thenR ?_
    exact f_ret () (res1 rfl rfl) (fun w h => h.any)
  have hfew := Decidable.of_not_not hfew
  refine c_skip ?_
  refine f_then ?_
  refine c_seq ?_
  refine c_region ?_
  refine s_do (do_buildSlice1 Try.tab ⟨rfl, rfl, rfl, rfl⟩ rfl rfl rfl rfl) rfl rfl rfl (fun b30 => ?_)
  refine s_y (y_move rfl) rfl rfl rfl ?_
  refine s_do (do_appendE (b := b30) (k := n) (by_ := 8) Try.tab 0 rfl rfl (hW.any _) ⟨rfl, rfl, rfl, rfl⟩ rfl rfl (fun i j => rfl) (by unfold maxLen; omega) (by omega)) rfl rfl rfl (fun o => ?_)
  obtain ⟨o, ho, hpre⟩ := o
  dsimp only
  refine s_do (do_buildSliceS Try.tab ⟨rfl, rfl, rfl, rfl⟩ rfl rfl rfl rfl) rfl rfl rfl (fun b33 => ?_)
  refine s_y (y_move rfl) rfl rfl rfl ?_
  refine s_do (do_appendE (b := b33) (k := m) (by_ := 16) Try.tab 0 rfl rfl (hQ.any _) ⟨rfl, rfl, rfl, rfl⟩ rfl rfl (fun i j => by unfold pg; split <;> rfl) (by unfold maxLen; omega) (by omega)) rfl rfl rfl (fun o2 => ?_)
  obtain ⟨o2, ho2, hpre2⟩ := o2
  dsimp only
  have hW2 : SlI (K W (och 69 o2 (vw 2 m (pg Q)) :: [och 3 o (vw 1 n (fun i _ => .int .i64 (w i)))])) (osl o n) n w := SlV.vw 1 rfl ho
  have hQ2 : SlP (K W (och 69 o2 (vw 2 m (pg Q)) :: [och 3 o (vw 1 n (fun i _ => .int .i64 (w i)))])) (osl o2 m) m Q := SlV.vw 0 rfl ho2
  by_cases hG : GoodsOK n w m Q
  rotate_left
  · refine s_call (en_f rfl Try.call22) (close_bad_spec W _ n m (osl o n) (osl o2 m) w Q hW2 hQ2 hG (by omega)) rfl rfl rfl (fun _ => ?_)
    refine s_y (y_move rfl) rfl rfl rfl ?_
    refine s_y (y_extract rfl rfl) rfl rfl rfl ?_
    refine s_y (y_extract rfl rfl) rfl rfl rfl ?_
    refine s_y (y_extract rfl rfl) rfl rfl rfl ?_
    refine s_y (y_assign rfl) rfl rfl rfl ?_
    refine s_y (y_assign rfl) rfl rfl rfl ?_
    refine s_y (y_assign rfl) rfl rfl rfl ?_
    refine s_nil ?_
    refine f_then ?_
    refine c_seq ?_
    refine c_seq ?_
    refine c_region ?_
    refine s_y (y_move rfl) rfl rfl rfl ?_
    refine s_y (y_move rfl) rfl rfl rfl ?_
    refine s_call (en_f rfl Try.call23) (rgoods_is (decide_eq_false hG) W _ (.slice pw n cw) (.slice pq m cq) (hW.any _) (hQ.any _) (by omega)) rfl rfl rfl (fun _ => ?_)
    refine s_y (y_notF rfl) rfl rfl rfl ?_
    refine s_nil ?_
    refine f_then ?_
    refine c_condT rfl ?_
    refine c_seq ?_
    refine c_region ?_
    refine s_y (y_move rfl) rfl rfl rfl ?_
    refine s_y (y_T (y_eql rfl rfl) (by omega)) rfl rfl rfl ?_
    refine s_y (y_move rfl) rfl rfl rfl ?_
    refine s_y (y_move rfl) rfl rfl rfl ?_
    refine s_y (y_T (y_eql rfl rfl) (by omega)) rfl rfl rfl ?_
    refine s_y (y_pickT rfl rfl) rfl rfl rfl ?_
    refine s_y (y_move rfl) rfl rfl rfl ?_
    refine s_y (y_move rfl) rfl rfl rfl ?_
    refine s_y (y_len Try.tab rfl rfl) rfl rfl rfl ?_
    refine s_y (y_T (y_eql rfl rfl) (by omega)) rfl rfl rfl ?_
    refine s_y (y_pickT rfl rfl) rfl rfl rfl ?_
    refine s_y (y_move rfl) rfl rfl rfl ?_
    refine s_call (en_f rfl Try.call16) (awake_spec W _) rfl rfl rfl (fun _ => ?_)
    refine s_y (y_pickT rfl rfl) rfl rfl rfl ?_
    refine s_y (y_assign rfl) rfl rfl rfl ?_
    refine s_nil ?_
    refine f_then ?_
    refine c_ret ?_
    refine f_thenR ?_
    exact f_ret () (res1 rfl rfl) (fun w h => h.any)
  have h_n := hG.hn
  refine s_call (en_f rfl Try.call22) (close_spec W _ n m (osl o n) (osl o2 m) w Q hW2 hQ2 hG) rfl rfl rfl (fun x => ?_)
  obtain ⟨⟨v, f, g, bg⟩, hO⟩ := x
  dsimp only at hO ⊢
  refine s_y (y_move rfl) rfl rfl rfl ?_
  refine s_y (y_extract rfl rfl) rfl rfl rfl ?_
  refine s_y (y_extract rfl rfl) rfl rfl rfl ?_
  refine s_y (y_extract rfl rfl) rfl rfl rfl ?_
  refine s_y (y_assign rfl) rfl rfl rfl ?_
  refine s_y (y_assign rfl) rfl rfl rfl ?_
  refine s_y (y_assign rfl) rfl rfl rfl ?_
  refine s_nil ?_
  refine f_then ?_
  refine c_seq ?_
  refine c_seq ?_
  refine c_region ?_
  refine s_y (y_move rfl) rfl rfl rfl ?_
  refine s_y (y_move rfl) rfl rfl rfl ?_
  refine s_call (en_f rfl Try.call23) (rgoods_is (decide_eq_true hG) W _ (.slice pw n cw) (.slice pq m cq) (hW.any _) (hQ.any _) (by omega)) rfl rfl rfl (fun _ => ?_)
  refine s_y (y_notT rfl) rfl rfl rfl ?_
  refine s_nil ?_
  refine f_then ?_
  refine c_condF rfl ?_
  refine c_skip ?_
  refine f_then ?_
  refine c_seq ?_
  refine c_region ?_
  refine s_y (y_move rfl) rfl rfl rfl ?_
  refine s_y (y_move rfl) rfl rfl rfl ?_
  refine s_call (en_f rfl Try.call24) (rclose_spec W _ n m (.slice pw n cw) (.slice pq m cq) w Q (hW.any _) (hQ.any _) hG (by omega)) rfl rfl rfl (fun x => ?_)
  obtain ⟨⟨v2, bc, g2⟩, hC⟩ := x
  dsimp only at hC ⊢
  obtain ⟨e1, e2⟩ := (hO.closeP hG).2.2.unique hC
  subst e1
  have hw1 : ∀ i, i < n → g i = true → g2 i = true := fun i hi h => by rw [← e2 i hi]; exact h
  have hw2 : ∀ i, i < n → g2 i = true → g i = true := fun i hi h => by rw [e2 i hi]; exact h
  refine s_y (y_move rfl) rfl rfl rfl ?_
  refine s_y (y_extract rfl rfl) rfl rfl rfl ?_
  refine s_y (y_extract rfl rfl) rfl rfl rfl ?_
  refine s_y (y_assign rfl) rfl rfl rfl ?_
  refine s_y (y_assign rfl) rfl rfl rfl ?_
  refine s_nil ?_
  refine f_then ?_
  refine c_seq ?_
  refine c_region ?_
  refine s_y (y_move rfl) rfl rfl rfl ?_
  refine s_y (y_T (y_eql rfl rfl) (by omega)) rfl rfl rfl ?_
  refine s_y (y_move rfl) rfl rfl rfl ?_
  refine s_y (y_move rfl) rfl rfl rfl ?_
  refine s_y (y_move rfl) rfl rfl rfl ?_
  refine s_y (y_T (y_eql rfl rfl) (by omega)) rfl rfl rfl ?_
  refine s_y (y_pickT rfl rfl) rfl rfl rfl ?_
  refine s_y (y_move rfl) rfl rfl rfl ?_
  refine s_y (y_move rfl) rfl rfl rfl ?_
  refine s_y (y_len Try.tab rfl rfl) rfl rfl rfl ?_
  refine s_y (y_move rfl) rfl rfl rfl ?_
  refine s_y (y_len Try.tab rfl rfl) rfl rfl rfl ?_
  refine s_y (y_T (y_eql rfl rfl) (by omega)) rfl rfl rfl ?_
  refine s_y (y_pickT rfl rfl) rfl rfl rfl ?_
  refine s_y (y_move rfl) rfl rfl rfl ?_
  refine s_y (y_move rfl) rfl rfl rfl ?_
  refine s_y (y_move rfl) rfl rfl rfl ?_
  refine s_call (en_f rfl Try.call25) (rwithin_yes hw1 W _ (.slice (some ⟨bg, 0, none⟩) n n) (.slice (some ⟨bc, 0, none⟩) n n) (SlB.ownLe 1 rfl (by omega)) (SlB.own 0 rfl) (Nat.le_refl _) (by omega)) rfl rfl rfl (fun _ => ?_)
  refine s_y (y_pickT rfl rfl) rfl rfl rfl ?_
  refine s_y (y_move rfl) rfl rfl rfl ?_
  refine s_y (y_move rfl) rfl rfl rfl ?_
  refine s_y (y_move rfl) rfl rfl rfl ?_
  refine s_call (en_f rfl Try.call25) (rwithin_yes hw2 W _ (.slice (some ⟨bc, 0, none⟩) n n) (.slice (some ⟨bg, 0, none⟩) n n) (SlB.own 0 rfl) (SlB.ownLe 1 rfl (by omega)) (Nat.le_refl _) (by omega)) rfl rfl rfl (fun _ => ?_)
  refine s_y (y_pickT rfl rfl) rfl rfl rfl ?_
  refine s_y (y_move rfl) rfl rfl rfl ?_
  refine s_call (en_f rfl Try.call16) (awake_spec W _) rfl rfl rfl (fun _ => ?_)
  refine s_y (y_pickT rfl rfl) rfl rfl rfl ?_
  refine s_y (y_assign rfl) rfl rfl rfl ?_
  refine s_nil ?_
  refine f_then ?_
  refine c_ret ?_
  exact f_ret () (res1 rfl rfl) (fun w h => h.any)
end Go.KL
end

section
/- FlowCloses: for every input the law returns true, and its arguments read as they did. No condition. -/
namespace Go.Proofs.Ytbeckcilglhkbaa
open Go.ChangeShapes Go.WideShapes Go.RowKit Go.KL
set_option linter.unusedVariables false
theorem own : ownKnob Try.prog.godebug = none := by kernel_rfl
set_option maxRecDepth 100000 in
theorem flowCloses_lifted (os : Os) (started : os.Started) (H : Type) (enc : TypeId × Value → H) :
    ReturnsInHanded {} Try.checked os 4 .any (Rows.flowClosesSpec.pre6 enc Try.prog Try.f4 Rows.flowClosesRow.domain false) (Rows.flowClosesSpec.post enc Try.prog Try.f4 false true false false) := by
  refine returnsInHanded_of_change (C := Try.checked) own started (by kernel_rfl) Try.func4
    (ChangeSpec.witness6 (enc := enc) (C := Try.checked) false ⟨#[], #[.slice none 0 0, .slice none 0 0], []⟩ 8 (by kernel_rfl) (by kernel_rfl) (by kernel_rfl) (by kernel_rfl)) ?_
  intro W base args ds gs before hval hW hcnd _
  obtain ⟨p, q, hA, hV, rfl, hfz, hnd⟩ := id hW
  obtain ⟨rfl, rfl⟩ := trodVars_none hV
  obtain ⟨v0, vs0, d0, ds0, p0, q0, e0, rfl, rfl, h0, r0⟩ := trodAll_cons hA
  obtain ⟨v1, vs1, d1, ds1, p1, q1, rfl, rfl, rfl, h1, r1⟩ := trodAll_cons r0
  obtain ⟨rfl, rfl, rfl⟩ := trodAll_nil r1
  obtain rfl : args = #[v0, v1] := by cases args; simp_all
  obtain ⟨m0, f0, hI0, hm0, hf0⟩ := arg26 (hval 0 26 _ rfl rfl) h0
  obtain ⟨m1, Q1, hQ1, hm1, hq1⟩ := arg39 (hval 1 39 _ rfl rfl) h1
  refine ((flowCloses_walk W _ _ m0 m1 f0 Q1 hI0 hQ1) W (K.refl W)).mono ?_
  rintro e W' ⟨x, rfl, hk⟩
  exact ⟨_, rfl, law_post (t := 4) laidOut (by decide +kernel) rfl rfl u4 hW rfl hk.toExt⟩
/-- The statement. -/
theorem flowCloses_holds : Rows.FlowClosesSaid :=
  OpenClaim.holds_of_wide 4 Try.f4 rfl rfl rfl rfl rfl rfl rfl ⟨rfl, rfl, rfl, rfl, rfl⟩ rfl rfl rfl rfl rfl (by kernel_rfl) Try.func4 (by kernel_rfl)
    (of_decide_eq_true (by kernel_rfl)) (by unfold Func.isWrapper; first | (rw [if_pos (by decide +kernel)]; kernel_rfl) | (rw [if_neg (by decide +kernel)]; exact ⟨rfl, rfl⟩))
    (fun os started H enc _ => flowCloses_lifted os started H enc)
end Go.Proofs.Ytbeckcilglhkbaa
end
