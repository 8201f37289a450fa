/- The library of the proof, part 4: a program logic over the model, walks of functions, plain laws. -/
import Derived.ChangeSame
import Derived.WideKeyArgs
import Derived.RowKit
import Derived.OpenShut
import Derived.Deep.OwnRows
import Derived.Test.YtbeckcilglhkbaaL3
section
/- Walks: ref.Close. -/
namespace Go.KL
open Go.Proofs
attribute [local irreducible] SC St Fin Sq Sw Ylds Doos Sets Enters Spec CellIs CellsAre Then Ret Rnd Chn resOK ints bools recs arr
theorem two_pow_le {n : Nat} (h : n ≤ 20) : 2 ^ n ≤ 1048576 := Nat.pow_le_pow_right (n := 2) (by omega) h
theorem testBit_dec (k i : Nat) : decide ((k / 2 ^ i : Nat) % (2 : Int) = 1) = k.testBit i := by
  rw [Nat.testBit_eq_decide_div_mod_eq]
  exact decide_eq_decide.2 (by omega)
open Classical in
set_option maxHeartbeats 8000000 in
theorem rclose_spec (W : World) (Ls : List Chunk) (n m : Nat) (vw_ vq : Value) (f : Nat → Int) (Q : Nat → Pr) (hW : SlI (K W Ls) vw_ n f) (hQ : SlP (K W Ls) vq m Q) (hG : GoodsOK n f m Q) (hn : n ≤ 20) :
    Spec Try.prog 24 #[vw_, vq] (K W Ls) (X := { x : Int × Nat × (Nat → Bool) // CloseP n m f Q x.1 x.2.2 })
      (fun x => .tuple #[.int .i64 x.1.1, .slice (some ⟨x.1.2.1, 0, none⟩) n n]) (fun x => K W ([(x.1.2.1, bools 4 n x.1.2.2 [])] :: Ls)) := by
  have hW' := hW
  obtain ⟨pw, cw, rfl, _, _⟩ := SlV.open1 hW'
  have h2n := two_pow_le hn
  refine enter (args := [_, _]) Try.func24 rfl Try.ntmps24 rfl ?_
  refine c_seq ?_
  refine c_region ?_
  refine s_y (y_assign rfl) rfl rfl rfl ?_
  refine s_y (y_assign rfl) rfl rfl rfl ?_
  refine s_nil ?_
  refine f_then ?_
  refine c_seq ?_
  refine c_region ?_
  refine s_y (y_assign rfl) rfl rfl rfl ?_
  refine s_nil ?_
  refine f_then ?_
  refine c_seq ?_
  refine c_region ?_
  refine s_y (y_move rfl) rfl rfl rfl ?_
  refine s_y (y_len Try.tab rfl rfl) rfl rfl rfl ?_
  refine s_do (make_bools (by_ := 1) Try.tab rfl rfl rfl rfl rfl rfl (by omega)) rfl rfl rfl (fun b18 => ?_)
  refine s_y (y_assign rfl) rfl rfl rfl ?_
  refine s_nil ?_
  refine f_then ?_
  refine c_seq ?_
  refine c_region ?_
  refine s_y (y_assign rfl) rfl rfl rfl ?_
  refine s_nil ?_
  refine f_then ?_
  refine c_seq ?_
  refine c_seq ?_
  refine c_region ?_
  refine s_y (y_assign rfl) rfl rfl rfl ?_
  refine s_nil ?_
  refine f_then ?_
  refine c_block ?_
  refine c_loopP (α := Nat) (fun z => [(0, .slice pw n cw), (1, vq), (6, .int .i64 0), (7, .slice (some ⟨b18, 0, none⟩) n n), (8, .int .i64 (2 ^ z : Nat)), (9, .int .i64 z)]) (fun z => z ≤ n)
    (fun _ => K W ([(b18, bools 4 n (fun _ => false) [])] :: Ls)) (fun z => n - z) 0 ⟨rfl, rfl, rfl, rfl, rfl, rfl, trivial⟩ (Nat.zero_le _) (fun w h => h) ?_
  rintro i hi
  have hpi : 2 ^ i ≤ 2 ^ n := Nat.pow_le_pow_right (n := 2) (by omega) hi
  have hpp := Nat.two_pow_pos i
  refine c_seq ?_
  refine c_seq ?_
  refine c_region ?_
  refine s_y (y_move rfl) rfl rfl rfl ?_
  refine s_y (y_move rfl) rfl rfl rfl ?_
  refine s_y (y_len Try.tab rfl rfl) rfl rfl rfl ?_
  refine s_y (y_lss rfl rfl) rfl rfl rfl ?_
  refine s_nil ?_
  refine f_then ?_
  refine c_condD rfl (fun hlt => ?_) (fun hge => ?_)
  · refine c_skip ?_
    refine f_then ?_
    refine c_seq ?_
    refine c_block ?_
    refine c_region ?_
    refine s_y (y_move rfl) rfl rfl rfl ?_
    refine s_y (y_mul rfl rfl (by omega)) rfl rfl rfl ?_
    refine s_y (y_assign rfl) rfl rfl rfl ?_
    refine s_nil ?_
    refine f_blockN ?_
    refine f_then ?_
    refine c_region ?_
    refine s_y (y_move rfl) rfl rfl rfl ?_
    refine s_y (y_add rfl rfl (by omega)) rfl rfl rfl ?_
    refine s_y (y_assign rfl) rfl rfl rfl ?_
    refine s_nil ?_
    refine f_roundP (i + 1) (by omega) (by omega) ⟨rfl, rfl, rfl, rfl, ?_, rfl, trivial⟩ (fun w h => h)
    refine congrArg (fun z => some (Value.int IntKind.i64 z)) ?_
    rw [Nat.pow_succ]; omega
  have him : i = n := by omega
  subst him
  clear hge hpi
  refine c_exit ?_
  refine f_thenE ?_
  refine f_rndE ?_
  refine f_blockE ?_
  refine f_then ?_
  refine c_seq ?_
  refine c_seq ?_
  refine c_region ?_
  refine s_y (y_assign rfl) rfl rfl rfl ?_
  refine s_nil ?_
  refine f_then ?_
  refine c_block ?_
  refine c_loopP (α := Int × Nat × (Nat → Bool) × Nat) (fun z => [(0, .slice pw i cw), (1, vq), (6, .int .i64 z.1), (7, .slice (some ⟨z.2.1, 0, none⟩) i i), (8, .int .i64 (2 ^ i : Nat)), (10, .int .i64 z.2.2.2)])
    (fun z => z.2.2.2 ≤ 2 ^ i ∧ CTry i m f Q z.1 z.2.2.1 z.2.2.2) (fun z => K W ([(z.2.1, bools 4 i z.2.2.1 [])] :: Ls)) (fun z => 2 ^ i - z.2.2.2) (0, b18, fun _ => false, 0)
    ⟨rfl, rfl, rfl, rfl, rfl, rfl, trivial⟩ ⟨Nat.zero_le _, CTry.begin⟩ (fun w h => h) ?_
  rintro ⟨best, bc, common, k⟩ ⟨hk, hC⟩
  dsimp only at hk hC ⊢
  refine c_seq ?_
  refine c_seq ?_
  refine c_region ?_
  refine s_y (y_move rfl) rfl rfl rfl ?_
  refine s_y (y_move rfl) rfl rfl rfl ?_
  refine s_y (y_lss rfl rfl) rfl rfl rfl ?_
  refine s_nil ?_
  refine f_then ?_
  refine c_condD rfl (fun hlt => ?_) (fun hge => ?_)
  rotate_left
  · refine c_exit ?_
    refine f_thenE ?_
    refine f_rndE ?_
    refine f_blockE ?_
    refine f_then ?_
    refine c_seq ?_
    refine c_region ?_
    refine s_y (y_move rfl) rfl rfl rfl ?_
    refine s_y (y_move rfl) rfl rfl rfl ?_
    refine s_y (y_assign rfl) rfl rfl rfl ?_
    refine s_y (y_assign rfl) rfl rfl rfl ?_
    refine s_nil ?_
    refine f_then ?_
    refine c_ret ?_
    have hke : k = 2 ^ i := by omega
    subst hke
    exact f_ret ⟨(best, bc, common), hC.closeP hG.hq⟩ (res2 rfl rfl rfl) (fun w h => h)
  refine c_skip ?_
  refine f_then ?_
  refine c_seq ?_
  refine c_block ?_
  refine c_seq ?_
  refine c_region ?_
  refine s_y (y_move rfl) rfl rfl rfl ?_
  refine s_y (y_len Try.tab rfl rfl) rfl rfl rfl ?_
  refine s_do (make_bools (by_ := 1) Try.tab rfl rfl rfl rfl rfl rfl (by omega)) rfl rfl rfl (fun b34 => ?_)
  refine s_y (y_assign rfl) rfl rfl rfl ?_
  refine s_nil ?_
  refine f_then ?_
  refine c_seq ?_
  refine c_seq ?_
  refine c_region ?_
  refine s_y (y_move rfl) rfl rfl rfl ?_
  refine s_y (y_assign rfl) rfl rfl rfl ?_
  refine s_y (y_assign rfl) rfl rfl rfl ?_
  refine s_nil ?_
  refine f_then ?_
  refine c_block ?_
  refine c_loopP (α := Nat) (fun z => [(0, .slice pw i cw), (1, vq), (6, .int .i64 best), (7, .slice (some ⟨bc, 0, none⟩) i i), (8, .int .i64 (2 ^ i : Nat)), (10, .int .i64 k), (11, .slice (some ⟨b34, 0, none⟩) i i), (12, .int .i64 z), (13, .int .i64 (k / 2 ^ z : Nat))])
    (fun z => z ≤ i) (fun z => K W ([(b34, bools 4 i (fun u => decide (u < z) && k.testBit u) [])] :: [(bc, bools 4 i common [])] :: Ls)) (fun z => i - z) 0
    ⟨rfl, rfl, rfl, rfl, rfl, rfl, rfl, rfl, ?_, trivial⟩ (Nat.zero_le _) (fun w h => ?_) ?_
  · rw [Nat.pow_zero, Nat.div_one]; rfl
  · rw [bools_congr' (g := fun _ => false) fun u _ => by simp]; exact h
  rintro z hz
  have hq1 : k / 2 ^ z ≤ k := Nat.div_le_self _ _
  have hq2 : (0 : Int) ≤ ((k / 2 ^ z : Nat) : Int) := Int.natCast_nonneg _
  refine c_seq ?_
  refine c_seq ?_
  refine c_region ?_
  refine s_y (y_move rfl) rfl rfl rfl ?_
  refine s_y (y_move rfl) rfl rfl rfl ?_
  refine s_y (y_len Try.tab rfl rfl) rfl rfl rfl ?_
  refine s_y (y_lss rfl rfl) rfl rfl rfl ?_
  refine s_nil ?_
  refine f_then ?_
  refine c_condD rfl (fun hlt2 => ?_) (fun hge2 => ?_)
  · refine c_skip ?_
    refine f_then ?_
    refine c_seq ?_
    refine c_block ?_
    refine c_seq ?_
    refine c_region ?_
    refine s_y (y_move rfl) rfl rfl rfl ?_
    refine s_y (y_move rfl) rfl rfl rfl ?_
    refine s_y (y_move rfl) rfl rfl rfl ?_
    refine s_y (y_rem rfl rfl (by omega)) rfl rfl rfl ?_
    refine s_y (y_eql rfl rfl) rfl rfl rfl ?_
    refine s_y (y_indexAddr1 Try.tab rfl rfl rfl rfl _ rfl (by omega)) rfl rfl rfl ?_
    refine s_set (set_bools Try.tab 0 rfl rfl rfl rfl (by omega)) rfl rfl ?_
    refine s_nil ?_
    refine f_then ?_
    refine c_region ?_
    refine s_y (y_move rfl) rfl rfl rfl ?_
    refine s_y (y_quo rfl rfl (by omega)) rfl rfl rfl ?_
    refine s_y (y_assign rfl) rfl rfl rfl ?_
    refine s_nil ?_
    refine f_blockN ?_
    refine f_then ?_
    refine c_region ?_
    refine s_y (y_move rfl) rfl rfl rfl ?_
    refine s_y (y_add rfl rfl (by omega)) rfl rfl rfl ?_
    refine s_y (y_assign rfl) rfl rfl rfl ?_
    refine s_nil ?_
    refine f_roundP (z + 1) (by omega) (by omega) ⟨rfl, rfl, rfl, rfl, rfl, rfl, rfl, rfl, ?_, trivial⟩ (fun w h => ?_)
    · refine congrArg (fun z => some (Value.int IntKind.i64 z)) ?_
      rw [Nat.pow_succ, ← Nat.div_div_eq_div_mul]; omega
    · rw [bools_congr' (g := upd (fun u => decide (u < z) && k.testBit u) z (decide ((k / 2 ^ z : Nat) % (2 : Int) = 1))) fun u _ => ?_]
      · exact h
      · rw [testBit_dec]
        simp only [upd]
        by_cases e : u = z
        · subst e; simp
        · have : (u < z + 1) = (u < z) := propext (by omega)
          simp [e, this]
  have hzn : z = i := by omega
  subst hzn
  clear hge2 hq1
  have hconv : ∀ w, K W ([(b34, bools 4 z (fun u => decide (u < z) && k.testBit u) [])] :: [(bc, bools 4 z common [])] :: Ls) w → K W ([(b34, bools 4 z (bts k) [])] :: [(bc, bools 4 z common [])] :: Ls) w := fun w h => by
    rw [bools_congr' (g := fun u => decide (u < z) && k.testBit u) fun u hu => by simp [hu]]; exact h
  refine SC.cls (C' := K W ([(b34, bools 4 z (bts k) [])] :: [(bc, bools 4 z common [])] :: Ls)) ?_ hconv
  have hcl := rclosed_spec W ([(b34, bools 4 z (bts k) [])] :: [(bc, bools 4 z common [])] :: Ls) m z vq (.slice (some ⟨b34, 0, none⟩) z z) Q (bts k) (hQ.cls fun w h => h.tail.tail) (SlB.own 0 rfl) (by have := hG.hm; omega) hG.hq
  have hwt := rweight_spec W ([(b34, bools 4 z (bts k) [])] :: [(bc, bools 4 z common [])] :: Ls) z (.slice pw z cw) (.slice (some ⟨b34, 0, none⟩) z z) f (bts k) (hW.cls fun w h => h.tail.tail) (SlB.own 0 rfl) (by omega) hG.hw
  by_cases hcp : ClosedP m Q (bts k)
  rotate_left
  · rw [decide_eq_false hcp] at hcl
    refine c_exit ?_
    refine f_thenE ?_
    refine f_rndE ?_
    refine f_blockE ?_
    refine f_then ?_
    refine c_seq ?_
    refine c_seq ?_
    refine c_region ?_
    refine s_y (y_move rfl) rfl rfl rfl ?_
    refine s_y (y_move rfl) rfl rfl rfl ?_
    refine s_call (en_f rfl Try.call26) hcl rfl rfl rfl (fun _ => ?_)
    refine s_y (y_notF rfl) rfl rfl rfl ?_
    refine s_nil ?_
    refine f_then ?_
    refine c_condT rfl ?_
    refine c_exit ?_
    refine f_thenE ?_
    refine f_blockE ?_
    refine f_then ?_
    refine c_region ?_
    refine s_y (y_move rfl) rfl rfl rfl ?_
    refine s_y (y_add rfl rfl (by omega)) rfl rfl rfl ?_
    refine s_y (y_assign rfl) rfl rfl rfl ?_
    refine s_nil ?_
    exact f_roundP (best, bc, common, k + 1) ⟨by dsimp only; omega, hC.skip fun h => absurd h hcp⟩ (by dsimp only; omega) ⟨rfl, rfl, rfl, rfl, rfl, rfl, trivial⟩ (fun w h => h.tail)
  rw [decide_eq_true hcp] at hcl
  refine c_exit ?_
  refine f_thenE ?_
  refine f_rndE ?_
  refine f_blockE ?_
  refine f_then ?_
  refine c_seq ?_
  refine c_seq ?_
  refine c_region ?_
  refine s_y (y_move rfl) rfl rfl rfl ?_
  refine s_y (y_move rfl) rfl rfl rfl ?_
  refine s_call (en_f rfl Try.call26) hcl rfl rfl rfl (fun _ => ?_)
  refine s_y (y_notT rfl) rfl rfl rfl ?_
  refine s_nil ?_
  refine f_then ?_
  refine c_condF rfl ?_
  refine c_skip ?_
  refine f_then ?_
  refine c_seq ?_
  refine c_region ?_
  refine s_y (y_move rfl) rfl rfl rfl ?_
  refine s_y (y_move rfl) rfl rfl rfl ?_
  refine s_call (en_f rfl Try.call27) hwt rfl rfl rfl (fun _ => ?_)
  refine s_y (y_assign rfl) rfl rfl rfl ?_
  refine s_nil ?_
  refine f_then ?_
  refine c_seq ?_
  refine c_region ?_
  refine s_y (y_move rfl) rfl rfl rfl ?_
  refine s_y (y_move rfl) rfl rfl rfl ?_
  refine s_y (y_gtr rfl rfl) rfl rfl rfl ?_
  refine s_nil ?_
  refine f_then ?_
  refine c_condD rfl (fun hgt => ?_) (fun hngt => ?_)
  · refine c_seq ?_
    refine c_region ?_
    refine s_y (y_move rfl) rfl rfl rfl ?_
    refine s_y (y_assign rfl) rfl rfl rfl ?_
    refine s_nil ?_
    refine f_then ?_
    refine c_region ?_
    refine s_y (y_move rfl) rfl rfl rfl ?_
    refine s_y (y_assign rfl) rfl rfl rfl ?_
    refine s_nil ?_
    refine f_blockN ?_
    refine f_then ?_
    refine c_region ?_
    refine s_y (y_move rfl) rfl rfl rfl ?_
    refine s_y (y_add rfl rfl (by omega)) rfl rfl rfl ?_
    refine s_y (y_assign rfl) rfl rfl rfl ?_
    refine s_nil ?_
    exact f_roundP (wgt z f (bts k), b34, bts k, k + 1) ⟨by dsimp only; omega, hC.more hcp hgt⟩ (by dsimp only; omega) ⟨rfl, rfl, rfl, rfl, rfl, rfl, trivial⟩ (fun w h => (h.front 1).tail)
  refine c_seq ?_
  refine c_region ?_
  refine s_y (y_move rfl) rfl rfl rfl ?_
  refine s_y (y_move rfl) rfl rfl rfl ?_
  refine s_y (y_eql rfl rfl) rfl rfl rfl ?_
  refine s_nil ?_
  refine f_then ?_
  refine c_condD rfl (fun heq => ?_) (fun hneq => ?_)
  rotate_left
  · refine c_skip ?_
    refine f_blockN ?_
    refine f_then ?_
    refine c_region ?_
    refine s_y (y_move rfl) rfl rfl rfl ?_
    refine s_y (y_add rfl rfl (by omega)) rfl rfl rfl ?_
    refine s_y (y_assign rfl) rfl rfl rfl ?_
    refine s_nil ?_
    exact f_roundP (best, bc, common, k + 1) ⟨by dsimp only; omega, hC.skip fun _ => by omega⟩ (by dsimp only; omega) ⟨rfl, rfl, rfl, rfl, rfl, rfl, trivial⟩ (fun w h => h.tail)
  refine c_seq ?_
  refine c_region ?_
  refine s_y (y_assign rfl) rfl rfl rfl ?_
  refine s_nil ?_
  refine f_then ?_
  refine c_block ?_
  refine c_loopP (α := Nat) (fun y => [(0, .slice pw z cw), (1, vq), (6, .int .i64 best), (7, .slice (some ⟨bc, 0, none⟩) z z), (8, .int .i64 (2 ^ z : Nat)), (10, .int .i64 k), (11, .slice (some ⟨b34, 0, none⟩) z z), (15, .int .i64 y)])
    (fun y => y ≤ z) (fun y => K W ([(b34, bools 4 z (bts k) [])] :: [(bc, bools 4 z (fun u => common u && (decide (y ≤ u) || k.testBit u)) [])] :: Ls)) (fun y => z - y) 0
    ⟨rfl, rfl, rfl, rfl, rfl, rfl, rfl, rfl, trivial⟩ (Nat.zero_le _) (fun w h => ?_) ?_
  · rw [bools_congr' (f := fun u => common u && (decide (0 ≤ u) || k.testBit u)) (g := common) fun u _ => by simp]; exact h
  rintro y hy
  refine c_seq ?_
  refine c_seq ?_
  refine c_region ?_
  refine s_y (y_move rfl) rfl rfl rfl ?_
  refine s_y (y_move rfl) rfl rfl rfl ?_
  refine s_y (y_len Try.tab rfl rfl) rfl rfl rfl ?_
  refine s_y (y_lss rfl rfl) rfl rfl rfl ?_
  refine s_nil ?_
  refine f_then ?_
  refine c_condD rfl (fun hlt3 => ?_) (fun hge3 => ?_)
  rotate_left
  · refine c_exit ?_
    refine f_thenE ?_
    refine f_rndE ?_
    refine f_blockE ?_
    refine f_blockN ?_
    refine f_then ?_
    refine c_region ?_
    refine s_y (y_move rfl) rfl rfl rfl ?_
    refine s_y (y_add rfl rfl (by omega)) rfl rfl rfl ?_
    refine s_y (y_assign rfl) rfl rfl rfl ?_
    refine s_nil ?_
    refine f_roundP (best, bc, fun u => common u && (decide (y ≤ u) || k.testBit u), k + 1) ⟨by dsimp only; omega, hC.same hcp heq fun u hu => ?_⟩ (by dsimp only; omega) ⟨rfl, rfl, rfl, rfl, rfl, rfl, trivial⟩ (fun w h => h.tail)
    have : ¬ y ≤ u := by omega
    simp [this]
  refine c_skip ?_
  refine f_then ?_
  refine c_seq ?_
  refine c_block ?_
  refine c_region ?_
  refine s_y (y_move rfl) rfl rfl rfl ?_
  refine s_y (y_move rfl) rfl rfl rfl ?_
  refine s_y (y_move rfl) rfl rfl rfl ?_
  refine s_y (y_move rfl) rfl rfl rfl ?_
  refine s_y (y_indexAddr1 Try.tab rfl rfl rfl rfl _ rfl (by omega)) rfl rfl rfl ?_
  refine s_y (y_load Try.tab rfl rfl (cell_bools 1 rfl (by omega))) rfl rfl rfl ?_
  refine s_y (y_move rfl) rfl rfl rfl ?_
  refine s_caseB 77 rfl (fun c0 => ?_) (fun c0 => ?_)
  refine s_y (y_move rfl) rfl rfl rfl ?_
  refine s_y (y_move rfl) rfl rfl rfl ?_
  refine s_y (y_indexAddr1 Try.tab rfl rfl rfl rfl _ rfl (by omega)) rfl rfl rfl ?_
  refine s_y (y_load Try.tab rfl rfl (cell_bools 0 rfl (by omega))) rfl rfl rfl ?_
  refine s_y (y_pickT rfl rfl) rfl rfl rfl ?_
  refine s_y (y_indexAddr1 Try.tab rfl rfl rfl rfl _ rfl (by omega)) rfl rfl rfl ?_
  refine s_set (set_bools Try.tab 1 rfl rfl rfl rfl (by omega)) rfl rfl ?_
  refine s_nil ?_
  refine f_blockN ?_
  refine f_then ?_
  refine c_region ?_
  refine s_y (y_move rfl) rfl rfl rfl ?_
  refine s_y (y_add rfl rfl (by omega)) rfl rfl rfl ?_
  refine s_y (y_assign rfl) rfl rfl rfl ?_
  refine s_nil ?_
  rotate_left
  iterate 4 refine s_skip rfl rfl rfl ?_
  refine s_y (y_pickF rfl rfl) rfl rfl rfl ?_
  refine s_y (y_indexAddr1 Try.tab rfl rfl rfl rfl _ rfl (by omega)) rfl rfl rfl ?_
  refine s_set (set_bools Try.tab 1 rfl rfl rfl rfl (by omega)) rfl rfl ?_
  refine s_nil ?_
  refine f_blockN ?_
  refine f_then ?_
  refine c_region ?_
  refine s_y (y_move rfl) rfl rfl rfl ?_
  refine s_y (y_add rfl rfl (by omega)) rfl rfl rfl ?_
  refine s_y (y_assign rfl) rfl rfl rfl ?_
  refine s_nil ?_
  rotate_left
  rotate_right 2
  · refine f_roundP (y + 1) (by omega) (by omega) ⟨rfl, rfl, rfl, rfl, rfl, rfl, rfl, rfl, trivial⟩ (fun w h => ?_)
    rw [bools_congr' (f := fun u => common u && (decide (y + 1 ≤ u) || k.testBit u)) (g := upd (fun u => common u && (decide (y ≤ u) || k.testBit u)) y (bts k y)) fun u _ => ?_]
    · exact h
    · simp only [upd]
      have hcy : common y = true := by simp at c0; exact c0
      by_cases e : u = y
      · have e3 : ¬ y + 1 ≤ y := by omega
        rw [e, hcy]; simp [e3]
      · have : (y + 1 ≤ u) = (y ≤ u) := propext (by omega)
        simp [e, this]
  · refine f_roundP (y + 1) (by omega) (by omega) ⟨rfl, rfl, rfl, rfl, rfl, rfl, rfl, rfl, trivial⟩ (fun w h => ?_)
    rw [bools_congr' (f := fun u => common u && (decide (y + 1 ≤ u) || k.testBit u)) (g := upd (fun u => common u && (decide (y ≤ u) || k.testBit u)) y false) fun u _ => ?_]
    · exact h
    · simp only [upd]
      have hcy : common y = false := by simp at c0; exact c0
      by_cases e : u = y
      · rw [e, hcy]; simp
      · have : (y + 1 ≤ u) = (y ≤ u) := propext (by omega)
        simp [e, this]
end Go.KL
end

section
/- The network of arcs that are added one by one; its views when it is whole. -/
namespace Go.KL
open Go.Proofs
section
variable (fr tt : Nat → Nat) (rm cs : Nat → Int)
def toL (k : Nat) : Nat := if k % 2 = 0 then tt (k / 2) else fr (k / 2)
def roomL (k : Nat) : Int := if k % 2 = 0 then rm (k / 2) else 0
def costL (k : Nat) : Int := if k % 2 = 0 then cs (k / 2) else - cs (k / 2)
def tlL (k : Nat) : Nat := toL fr tt (par2 k)
def outsA (i v : Nat) : List Nat := (List.range (2 * i)).filter fun k => decide (tlL fr tt k = v)
end
section
variable {fr tt : Nat → Nat} {rm cs : Nat → Int}
theorem toL_even (i : Nat) : toL fr tt (2 * i) = tt i := by unfold toL; rw [if_pos (by omega)]; congr 1; omega
theorem toL_odd (i : Nat) : toL fr tt (2 * i + 1) = fr i := by unfold toL; rw [if_neg (by omega)]; congr 1; omega
theorem roomL_even (i : Nat) : roomL rm (2 * i) = rm i := by unfold roomL; rw [if_pos (by omega)]; congr 1; omega
theorem roomL_odd (i : Nat) : roomL rm (2 * i + 1) = 0 := by unfold roomL; rw [if_neg (by omega)]
theorem costL_even (i : Nat) : costL cs (2 * i) = cs i := by unfold costL; rw [if_pos (by omega)]; congr 1; omega
theorem costL_odd (i : Nat) : costL cs (2 * i + 1) = - cs i := by unfold costL; rw [if_neg (by omega)]; congr 2; omega
theorem par2_even (i : Nat) : par2 (2 * i) = 2 * i + 1 := by unfold par2; rw [if_pos (by omega)]
theorem par2_odd (i : Nat) : par2 (2 * i + 1) = 2 * i := by unfold par2; rw [if_neg (by omega)]; omega
theorem tlL_even (i : Nat) : tlL fr tt (2 * i) = fr i := by unfold tlL; rw [par2_even, toL_odd]
theorem tlL_odd (i : Nat) : tlL fr tt (2 * i + 1) = tt i := by unfold tlL; rw [par2_odd, toL_even]
theorem half (k : Nat) : (∃ i, k = 2 * i) ∨ ∃ i, k = 2 * i + 1 := by
  rcases Nat.mod_two_eq_zero_or_one k with h | h
  · exact .inl ⟨k / 2, by omega⟩
  · exact .inr ⟨k / 2, by omega⟩
theorem outsA_zero (v : Nat) : outsA fr tt 0 v = [] := rfl
theorem outsA_succ (i : Nat) : upd (upd (outsA fr tt i) (fr i) (outsA fr tt i (fr i) ++ [2 * i])) (tt i) (upd (outsA fr tt i) (fr i) (outsA fr tt i (fr i) ++ [2 * i]) (tt i) ++ [2 * i + 1]) = outsA fr tt (i + 1) := by
  funext v
  have e : List.range (2 * (i + 1)) = List.range (2 * i) ++ [2 * i, 2 * i + 1] := by
    rw [show 2 * (i + 1) = 2 * i + 1 + 1 by omega, List.range_succ, List.range_succ, List.append_assoc]; rfl
  have e2 : outsA fr tt (i + 1) v = outsA fr tt i v ++ ([2 * i, 2 * i + 1].filter fun k => decide (tlL fr tt k = v)) := by
    unfold outsA; rw [e, List.filter_append]
  rw [e2]
  simp only [List.filter_cons, List.filter_nil, tlL_even, tlL_odd, upd]
  by_cases h1 : v = tt i
  · subst h1
    by_cases h2 : tt i = fr i
    · simp [h2]
    · have h3 : ¬ fr i = tt i := fun e => h2 e.symm
      simp [h2, h3]
  · by_cases h2 : v = fr i
    · subst h2
      have h3 : ¬ tt i = fr i := fun e => h1 e.symm
      simp [h1, h3]
    · have h3 : ¬ fr i = v := fun e => h2 e.symm
      have h4 : ¬ tt i = v := fun e => h1 e.symm
      simp [h1, h2, h3, h4]
theorem outsA_len (i v : Nat) : (outsA fr tt i v).length ≤ 2 * i := by
  unfold outsA
  exact Nat.le_trans (List.length_filter_le _ _) (by simp)
theorem pgL {n na : Nat} (hf : ∀ i, i < na → fr i < n ∧ tt i < n) : PG n (2 * na) (outsA fr tt na) (toL fr tt) (tlL fr tt) par2 (costL cs) := by
  refine ⟨fun k hk => ?_, fun v _ => outsA_len na v, fun k hk => ?_, par2_par2, par2_ne, fun k => rfl, fun v hv k => ?_, fun k => ?_⟩
  · rcases half k with ⟨i, rfl⟩ | ⟨i, rfl⟩
    · rw [toL_even]; exact (hf i (by omega)).2
    · rw [toL_odd]; exact (hf i (by omega)).1
  · rcases half k with ⟨i, rfl⟩ | ⟨i, rfl⟩
    · rw [par2_even]; omega
    · rw [par2_odd]; omega
  · unfold outsA; simp
  · rcases half k with ⟨i, rfl⟩ | ⟨i, rfl⟩
    · rw [par2_even, costL_odd, costL_even]
    · rw [par2_odd, costL_odd, costL_even]; omega
theorem put2_lg (i : Nat) : put2 (lg (toL fr tt) (roomL rm) (costL cs)) (2 * i) (fun j => match j with | 0 => .int .i64 (tt i : Nat) | 1 => .int .i64 (rm i) | _ => .int .i64 (cs i)) (fun j => match j with | 0 => .int .i64 (fr i : Nat) | 1 => .int .i64 0 | _ => .int .i64 (-cs i)) = lg (toL fr tt) (roomL rm) (costL cs) := by
  funext k j
  unfold put2
  split
  · rename_i h; subst h
    simp only [lg, lnk, toL_even, roomL_even, costL_even]
    match j with
    | 0 => rfl
    | 1 => rfl
    | j + 2 => rfl
  · split
    · rename_i h; subst h
      simp only [lg, lnk, toL_odd, roomL_odd, costL_odd]
      match j with
      | 0 => rfl
      | 1 => rfl
      | j + 2 => rfl
    · rfl
end
/-- The network behind i arcs. -/
def anet (fr tt : Nat → Nat) (rm cs : Nat → Int) (p bo n i : Nat) (hs : Value) (x : Option Own × (Nat → Option Own)) (F : List Chunk) : List Chunk :=
  bnet p bo n (2 * i) hs x.1 x.2 (lg (toL fr tt) (roomL rm) (costL cs)) (outsA fr tt i) F
structure anOK (fr tt : Nat → Nat) (rm cs : Nat → Int) (n i : Nat) (x : Option Own × (Nat → Option Own)) : Prop where
  links : owfO 3 x.1 (2 * i) (lvals (2 * i) (lg (toL fr tt) (roomL rm) (costL cs)))
  rows : rowsOK n x.2 (outsA fr tt i)
theorem anet_begin (fr tt : Nat → Nat) (rm cs : Nat → Int) (n : Nat) : anOK fr tt rm cs n 0 (none, fun _ => none) := by
  refine ⟨⟨by simp [lvals], rfl⟩, fun v _ => ⟨by simp [rvals, outsA], by simp [outsA]⟩⟩
theorem rowsC_none (fr tt : Nat → Nat) (n : Nat) : (rowsC n (fun _ => none) (outsA fr tt 0)).flatten = [] := by
  simp [rowsC, oc]
theorem anet_new (fr tt : Nat → Nat) (rm cs : Nat → Int) {W w : World} {p bo n : Nat} {hs : Value} {F : List Chunk} (h : K W ([(p, row 78 [nilS, .slice (some ⟨bo, 0, none⟩) n n, nilS, nilS, hs])] :: [(bo, arr 26 n (fun _ => nilS) [])] :: F) w) :
    K W (anet fr tt rm cs p bo n 0 hs (none, fun _ => none) F) w := by
  refine h.weak [] ?_
  have e : rowv (fun _ => none) (outsA fr tt 0) = fun _ => nilS := by funext v; rfl
  unfold anet bnet
  rw [List.append_nil]
  simp only [List.flatten_cons, List.flatten_append, rowsC_none, List.nil_append, e]
  exact List.Perm.refl _
theorem padd_spec (fr tt : Nat → Nat) (rm cs : Nat → Int) (W : World) (F : List Chunk) (p bo n i : Nat) (hs : Value) (x : Option Own × (Nat → Option Own)) (hx : anOK fr tt rm cs n i x)
    (hf : fr i < n) (ht : tt i < n) (hi : i ≤ 10000) (hc : -1000000000000 ≤ cs i ∧ cs i ≤ 1000000000000) :
    Spec Try.prog 41 #[.pointer (some ⟨p, 0, none⟩), .int .i64 (fr i : Nat), .int .i64 (tt i : Nat), .int .i64 (rm i), .int .i64 (cs i)] (K W (anet fr tt rm cs p bo n i hs x F)) (X := { y : Option Own × (Nat → Option Own) // anOK fr tt rm cs n (i + 1) y })
      (fun _ => .tuple #[]) (fun y => K W (anet fr tt rm cs p bo n (i + 1) hs y.1 F)) := by
  have h := add_spec W F p bo n (2 * i) (fr i) (tt i) (rm i) (cs i) hs x.1 x.2 (lg (toL fr tt) (roomL rm) (costL cs)) (outsA fr tt i) hx.links hx.rows hf ht (by omega) (fun v _ => outsA_len i v) hc
  rw [outsA_succ i] at h
  refine h.conv (fun y => ⟨y.1, ?_, y.2.2⟩) (fun _ => rfl) (fun y w h => ?_)
  · obtain ⟨y, hy1, hy2⟩ := y
    have e := put2_lg (fr := fr) (tt := tt) (rm := rm) (cs := cs) i
    show owfO 3 y.1 (2 * i + 2) (lvals (2 * i + 2) (lg (toL fr tt) (roomL rm) (costL cs)))
    exact e ▸ (show owfO 3 y.1 (2 * i + 2) (lvals (2 * i + 2) (put2 (lg (toL fr tt) (roomL rm) (costL cs)) (2 * i) _ _)) from hy1)
  · obtain ⟨y, hy1, hy2⟩ := y
    have e := put2_lg (fr := fr) (tt := tt) (rm := rm) (cs := cs) i
    show K W (bnet p bo n (2 * i + 2) hs y.1 y.2 (lg (toL fr tt) (roomL rm) (costL cs)) (outsA fr tt (i + 1)) F) w
    exact e ▸ (show K W (bnet p bo n (2 * i + 2) hs y.1 y.2 (put2 (lg (toL fr tt) (roomL rm) (costL cs)) (2 * i) _ _) (outsA fr tt (i + 1)) F) w from h)
theorem anet_tail {fr tt : Nat → Nat} {rm cs : Nat → Int} {W w : World} {p bo n i : Nat} {hs : Value} {x : Option Own × (Nat → Option Own)} {F : List Chunk} (h : K W (anet fr tt rm cs p bo n i hs x F) w) : K W F w := by
  refine h.weak (([(p, row 78 [ov x.1 (2 * i), .slice (some ⟨bo, 0, none⟩) n n, nilS, nilS, hs])] :: [(bo, arr 26 n (rowv x.2 (outsA fr tt i)) [])] :: oc 85 x.1 (lvals (2 * i) (lg (toL fr tt) (roomL rm) (costL cs))) :: rowsC n x.2 (outsA fr tt i)).flatten) ?_
  unfold anet bnet
  simp only [List.flatten_cons, List.flatten_append]
  rw [← List.append_assoc, ← List.append_assoc, ← List.append_assoc]
  exact List.perm_append_comm
/-- The links' chunk. -/
def linkCh (fr tt : Nat → Nat) (cs : Nat → Int) (m : Nat) (L : Option Own) (room : Nat → Int) : Chunk := match L with
  | none => []
  | some o => [(o.b, recs 85 3 m (lg (toL fr tt) room (costL cs)) o.rest)]
/-- The rest of the network, and what lies behind. -/
def restCh (fr tt : Nat → Nat) (bo n i : Nat) (R : Nat → Option Own) (F : List Chunk) : List Chunk := [(bo, arr 26 n (rowv R (outsA fr tt i)) [])] :: (rowsC n R (outsA fr tt i) ++ F)
theorem anet_linkC {fr tt : Nat → Nat} {rm cs : Nat → Int} {n i : Nat} {x : Option Own × (Nat → Option Own)} (h : anOK fr tt rm cs n i x) : LinkC (ov x.1 (2 * i)) (linkCh fr tt cs (2 * i) x.1) (2 * i) (toL fr tt) (costL cs) := by
  intro hm
  obtain ⟨L, R⟩ := x
  cases L with
  | none => have := h.links.2; omega
  | some o =>
    have hp : o.pre = [] := List.eq_nil_of_length_eq_zero (by have := h.links.2; omega)
    exact ⟨o.b, o.cap, o.rest, by simp [ov, osl, hp], rfl⟩
theorem anet_done {fr tt : Nat → Nat} {rm cs : Nat → Int} {W w : World} {p bo n i : Nat} {hs : Value} {x : Option Own × (Nat → Option Own)} {F : List Chunk} (hx : anOK fr tt rm cs n i x) {c : Chunk} (h : K W (anet fr tt rm cs p bo n i hs x (c :: F)) w) :
    K W ([(p, row 78 [ov x.1 (2 * i), .slice (some ⟨bo, 0, none⟩) n n, nilS, nilS, hs])] :: linkCh fr tt cs (2 * i) x.1 (roomL rm) :: c :: restCh fr tt bo n i x.2 F) w := by
  obtain ⟨L, R⟩ := x
  have e : oc 85 L (lvals (2 * i) (lg (toL fr tt) (roomL rm) (costL cs))) = linkCh fr tt cs (2 * i) L (roomL rm) := by
    cases L with
    | none => rfl
    | some o =>
      have hp : o.pre = [] := List.eq_nil_of_length_eq_zero (by have := hx.links.2; omega)
      simp only [oc, och, hp, List.nil_append, linkCh, lvals_recs]
  refine h.weak [] ?_
  unfold anet bnet restCh
  rw [List.append_nil]
  simp only [e, List.flatten_cons, List.flatten_append, List.singleton_append]
  refine List.Perm.cons _ ?_
  generalize linkCh fr tt cs (2 * i) L (roomL rm) = A
  generalize (rowsC n R (outsA fr tt i)).flatten = B
  generalize F.flatten = D
  -- (bo :: (A ++ (B ++ (c ++ D)))) ~ A ++ (c ++ (bo :: (B ++ D)))
  refine (List.perm_middle (l₁ := A)).symm.trans (List.Perm.append_left A ?_)
  refine (List.Perm.cons _ ?_).trans (List.perm_middle (l₁ := c)).symm
  rw [← List.append_assoc, ← List.append_assoc]
  exact List.Perm.append_right _ List.perm_append_comm
/-- What lies behind, out of the rest. -/
theorem restCh_out {fr tt : Nat → Nat} {W w : World} {bo n i : Nat} {R : Nat → Option Own} {c : Chunk} {F : List Chunk} (Pre : List Chunk) (h : K W (Pre ++ restCh fr tt bo n i R (c :: F)) w) : K W (c :: (Pre ++ restCh fr tt bo n i R F)) w := by
  refine h.weak [] ?_
  unfold restCh
  rw [List.append_nil]
  simp only [List.flatten_cons, List.flatten_append]
  generalize Pre.flatten = A
  generalize (rowsC n R (outsA fr tt i)).flatten = B
  generalize F.flatten = D
  generalize [(bo, arr 26 n (rowv R (outsA fr tt i)) [])] = E
  -- A ++ (E ++ (B ++ (c ++ D))) ~ c ++ (A ++ (E ++ (B ++ D)))
  have : ∀ (X : Chunk), (X ++ (c ++ D)).Perm (c ++ (X ++ D)) := fun X => by
    rw [← List.append_assoc, ← List.append_assoc]
    exact List.Perm.append_right _ List.perm_append_comm
  have e := this (A ++ (E ++ B))
  simpa only [List.append_assoc] using e
/-- The tail of the rest. -/
theorem restCh_tail {fr tt : Nat → Nat} {W w : World} {bo n i : Nat} {R : Nat → Option Own} {F : List Chunk} (h : K W (restCh fr tt bo n i R F) w) : K W F w := by
  refine h.weak (([(bo, arr 26 n (rowv R (outsA fr tt i)) [])] :: rowsC n R (outsA fr tt i)).flatten) ?_
  unfold restCh
  simp only [List.flatten_cons, List.flatten_append]
  rw [← List.append_assoc]
  exact List.perm_append_comm
theorem restCh_tailP {fr tt : Nat → Nat} {W w : World} {bo n i : Nat} {R : Nat → Option Own} {F : List Chunk} (Pre : List Chunk) (h : K W (Pre ++ restCh fr tt bo n i R F) w) : K W (Pre ++ F) w := by
  refine h.weak (([(bo, arr 26 n (rowv R (outsA fr tt i)) [])] :: rowsC n R (outsA fr tt i)).flatten) ?_
  unfold restCh
  simp only [List.flatten_cons, List.flatten_append, List.append_assoc]
  refine List.Perm.append_left _ ?_
  rw [← List.append_assoc]
  exact List.perm_append_comm
theorem anet_outV {fr tt : Nat → Nat} {rm cs : Nat → Int} {W : World} {bo n i : Nat} {x : Option Own × (Nat → Option Own)} {F Pre : List Chunk} (hx : anOK fr tt rm cs n i x) :
    OutV (K W (Pre ++ restCh fr tt bo n i x.2 F)) (.slice (some ⟨bo, 0, none⟩) n n) n (outsA fr tt i) := by
  have hC : ∀ w, K W (Pre ++ restCh fr tt bo n i x.2 F) w → K W ([] ++ ([(bo, arr 26 n (rowv x.2 (outsA fr tt i)) [])] :: (rowsC n x.2 (outsA fr tt i) ++ F))) w := fun w h => h.weak Pre.flatten (by simp only [restCh, List.flatten_append, List.nil_append]; exact List.perm_append_comm)
  refine ⟨bo, rfl, fun v hv => ⟨rowv x.2 (outsA fr tt i) v, ?_, ?_⟩⟩
  · exact (cell_arr (W := W) 0 rfl hv).cls hC
  · have h := hx.rows v hv
    unfold rowv
    cases hR : x.2 v with
    | none =>
      rw [hR] at h
      refine ⟨none, 0, by rw [h.2]; rfl, fun j hj => ?_⟩
      have := h.2
      omega
    | some o =>
      rw [hR] at h
      have hp : o.pre = [] := List.eq_nil_of_length_eq_zero (by have := h.2; omega)
      refine ⟨some ⟨o.b, 0, none⟩, o.cap, by simp [ov, osl, hp], fun j hj => ⟨o.b, rfl, fun k hk => ?_⟩⟩
      have hget : (([] : List Chunk) ++ ([(bo, arr 26 n (rowv x.2 (outsA fr tt i)) [])] :: (rowsC n x.2 (outsA fr tt i) ++ F))).getD (1 + v) [] = och 3 o (rvals (outsA fr tt i v)) := by
        have := rowsC_get (Pre := [[(bo, arr 26 n (rowv x.2 (outsA fr tt i)) [])]]) (F := F) (R := x.2) (outs := outsA fr tt i) hv
        rw [hR] at this
        exact this
      refine (cell_own (W := W) (1 + v) hget j (by simp [hp]) ?_).cls hC
      simp [rvals, hk]
end Go.KL
end

section
/- Plain lemmas: the rooms of the links give a flow on the arcs. No program in sight. -/
namespace Go.KL
theorem sm_pairs (na : Nat) (g : Nat → Int) : sm (2 * na) g = sm na (fun i => g (2 * i) + g (2 * i + 1)) := by
  induction na with
  | zero => rfl
  | succ na ih =>
    rw [show 2 * (na + 1) = 2 * na + 1 + 1 by omega]
    simp only [sm, ih]
    omega
section
variable {fr tt : Nat → Nat} {rm cs room : Nat → Int} {n na s t : Nat} {sent : Int}
theorem outflow_arcs (u : Nat) : outflow (2 * na) (tlL fr tt) room u = sm na (fun i => (if fr i = u then room (2 * i) else 0) + (if tt i = u then room (2 * i + 1) else 0)) := by
  unfold outflow
  rw [sm_pairs]
  apply sm_congr
  intro i _
  rw [tlL_even, tlL_odd]
/-- The flow on an arc: the room of the link that leads back. -/
def fOf (room : Nat → Int) (i : Nat) : Int := room (2 * i + 1)
theorem rooms_flow (hnn : ∀ k, k < 2 * na → 0 ≤ room k) (hpair : ∀ k, k < 2 * na → room k + room (par2 k) = roomL rm k + roomL rm (par2 k))
    (hbal : ∀ u, outflow (2 * na) (tlL fr tt) room u = outflow (2 * na) (tlL fr tt) (roomL rm) u - (if s = u then sent else 0) + (if t = u then sent else 0)) :
    (∀ i, i < na → 0 ≤ fOf room i ∧ fOf room i ≤ rm i ∧ room (2 * i) = rm i - fOf room i) ∧ ∀ u, more fr tt (fOf room) na u = (if s = u then sent else 0) - (if t = u then sent else 0) := by
  have h1 : ∀ i, i < na → 0 ≤ fOf room i ∧ fOf room i ≤ rm i ∧ room (2 * i) = rm i - fOf room i := fun i hi => by
    have q1 := hnn (2 * i) (by omega)
    have q2 := hnn (2 * i + 1) (by omega)
    have q3 := hpair (2 * i) (by omega)
    rw [par2_even, roomL_even, roomL_odd] at q3
    unfold fOf
    omega
  refine ⟨h1, fun u => ?_⟩
  have h2 := hbal u
  rw [outflow_arcs, outflow_arcs] at h2
  have h3 : sm na (fun i => (if fr i = u then room (2 * i) else 0) + (if tt i = u then room (2 * i + 1) else 0)) = sm na (fun i => (if fr i = u then roomL rm (2 * i) else 0) + (if tt i = u then roomL rm (2 * i + 1) else 0)) - more fr tt (fOf room) na u := by
    unfold more
    rw [← sm_sub]
    apply sm_congr
    intro i hi
    have q := (h1 i hi).2.2
    rw [roomL_even, roomL_odd, q]
    unfold fOf
    by_cases e1 : fr i = u <;> by_cases e2 : tt i = u <;> simp [e1, e2] <;> omega
  omega
theorem shut_of (hf : ∀ i, i < na → fr i < n ∧ tt i < n) (h1 : ∀ i, i < na → 0 ≤ fOf room i ∧ fOf room i ≤ rm i ∧ room (2 * i) = rm i - fOf room i) {S : Nat → Bool}
    (hS : ∀ v, S v = true → ∀ k, k ∈ outsA fr tt na v → 0 < room k → S (toL fr tt k) = true) : ShutR na fr tt rm (fOf room) S := by
  have hG := pgL (cs := fun _ => 0) hf
  intro i hi
  have hi1 := hf i hi
  refine ⟨fun q1 q2 => ?_, fun q1 q2 => ?_⟩
  · have := hS _ q1 (2 * i) ((hG.out_iff _ hi1.1 _).2 ⟨by omega, tlL_even i⟩) (by have := (h1 i hi).2.2; omega)
    rwa [toL_even] at this
  · have := hS _ q1 (2 * i + 1) ((hG.out_iff _ hi1.2 _).2 ⟨by omega, tlL_odd i⟩) q2
    rwa [toL_odd] at this
theorem cert_of {high : Nat → Int} (h1 : ∀ i, i < na → 0 ≤ fOf room i ∧ fOf room i ≤ rm i ∧ room (2 * i) = rm i - fOf room i)
    (hc : ∀ k, k < 2 * na → 0 < room k → 0 ≤ red (tlL fr tt) (toL fr tt) (costL cs) high k) : CertP na fr tt rm cs (fOf room) high := by
  intro i hi
  refine ⟨fun q => ?_, fun q => ?_⟩
  · have := hc (2 * i) (by omega) (by have := (h1 i hi).2.2; omega)
    unfold red at this
    rwa [tlL_even, toL_even, costL_even] at this
  · have := hc (2 * i + 1) (by omega) q
    unfold red at this
    rw [tlL_odd, toL_odd, costL_odd] at this
    omega
theorem reachP_of (hf : ∀ i, i < na → fr i < n ∧ tt i < n) (h1 : ∀ i, i < na → 0 ≤ fOf room i ∧ fOf room i ≤ rm i ∧ room (2 * i) = rm i - fOf room i) {g : Nat → Bool}
    (hR : Reached n s (outsA fr tt na) (toL fr tt) (fun k => 0 < room k) g) : ReachP n na s fr tt rm (fOf room) g := by
  have hG := pgL (cs := fun _ => 0) hf
  refine ⟨hR.start, hR.lt, shut_of hf h1 hR.closed, fun X hX hc u hu => hR.least X hX (fun v hv hXv k hk hr => ?_) u hu⟩
  obtain ⟨hk1, hk2⟩ := (hG.out_iff v hv k).1 hk
  rcases half k with ⟨i, rfl⟩ | ⟨i, rfl⟩
  · rw [tlL_even] at hk2
    rw [toL_even]
    have := h1 i (by omega)
    exact (hc i (by omega)).1 (hk2 ▸ hXv) (by omega)
  · rw [tlL_odd] at hk2
    rw [toL_odd]
    exact (hc i (by omega)).2 (hk2 ▸ hXv) hr
theorem fill_flw {most : Int} {cost : Nat → Int} (hA : Arcs1 n na s t fr tt) (h : Filled n (2 * na) (outsA fr tt na) (toL fr tt) (tlL fr tt) cost (fun _ => 0) s t most (roomL rm) room sent) :
    (∀ i, i < na → 0 ≤ fOf room i ∧ fOf room i ≤ rm i ∧ room (2 * i) = rm i - fOf room i) ∧ Flw n na s t fr tt rm 1 (fOf room) sent := by
  obtain ⟨h1, h2⟩ := rooms_flow h.fl.nonneg h.fl.pair h.fl.bal
  refine ⟨h1, fun i hi => by have := h1 i hi; omega, fun u _ e1 e2 => ?_, ?_⟩
  · rw [h2 u, if_neg (fun e => e1 e.symm), if_neg (fun e => e2 e.symm)]; rfl
  · rw [h2 s, if_pos rfl, if_neg (fun e => hA.ne e.symm)]; omega
/-- After fill and reach: the greatest flow, and what its rest reaches. -/
theorem fill_cut {most : Int} (hA : Arcs1 n na s t fr tt) (h : Filled n (2 * na) (outsA fr tt na) (toL fr tt) (tlL fr tt) (costL fun _ => 0) (fun _ => 0) s t most (roomL rm) room sent)
    {g : Nat → Bool} (hR : Reached n s (outsA fr tt na) (toL fr tt) (fun k => 0 < room k) g) (hb : cpc na fr tt rm (fun u => decide (u = s)) < most) :
    Flw n na s t fr tt rm 1 (fOf room) sent ∧ ReachP n na s fr tt rm (fOf room) g ∧ g t = false := by
  obtain ⟨h1, h2⟩ := fill_flw hA h
  have hft : ∀ i, i < na → fr i < n ∧ tt i < n := fun i hi => ⟨hA.frL i hi, hA.ttL i hi⟩
  have h3 := (h2.cut hA (S := fun u => decide (u = s)) (by simp) (by simp; exact fun e => hA.ne e.symm)).1
  obtain ⟨S, q1, q2⟩ := h.full (by omega)
  refine ⟨h2, reachP_of hft h1 hR, ?_⟩
  cases e : g t with
  | false => rfl
  | true =>
    have := hR.least (fun u => S u = true) q1.start (fun v _ hv k hk hr => q1.closed v hv k hk ⟨hr, by rcases half k with ⟨i, rfl⟩ | ⟨i, rfl⟩ <;> simp [costL_even, costL_odd]⟩) t e
    rw [q2] at this; cases this
end
end Go.KL
end

section
/- Walks: flow.Solve. -/
namespace Go.KL
open Go.Proofs
attribute [local irreducible] SC St Fin Sq Sw Ylds Doos Sets Enters Spec CellIs CellsAre Then Ret Rnd Chn resOK ints bools recs arr
attribute [local irreducible] rvals lvals rowv anet linkCh restCh
/-- What Solve returns for a valid network and a number that is not negative. -/
structure SolveP (n na : Nat) (A : Nat → Ac) (s t : Nat) (want v : Int) (f p : Nat → Int) : Prop where
  fl : FlOK n na A s t na f
  val : more (frN A) (ttN A) f na s = v
  lo : 0 ≤ v
  hi : v ≤ want
  cert : CertOK n na A f n p
  full : v < want → ∃ S : Nat → Bool, S s = true ∧ S t = false ∧ ShutR na (frN A) (ttN A) (capN A) f S
def onV (na : Nat) (f : Nat → Int) : List Value := (List.range na).map fun i => .int .i64 (f i)
theorem Cheap.solveP {n na s t : Nat} {A : Nat → Ac} {want v : Int} {room high : Nat → Int} (hN : NetOK n na A s t) (hn40 : n ≤ 40)
    (h : Cheap n (2 * na) s t 1048576 (outsA (frN A) (ttN A) na) (toL (frN A) (ttN A)) (tlL (frN A) (ttN A)) (costL (cstN A)) (roomL (capN A)) want room high v) : SolveP n na A s t want v (fOf room) high := by
  have hA1 := hN.arcs1
  have hft : ∀ i, i < na → frN A i < n ∧ ttN A i < n := fun i hi => ⟨hA1.frL i hi, hA1.ttL i hi⟩
  obtain ⟨h1, h2⟩ := rooms_flow h.ch.nonneg h.ch.pair h.ch.bal
  refine ⟨⟨rfl, fun i hi => ⟨(h1 i hi).1, (h1 i hi).2.1⟩, fun u _ e1 e2 => ?_⟩, ?_, h.ch.lo, h.hi, ⟨rfl, fun u hu => ?_, cert_of h1 h.ch.cert⟩, fun hlt => ?_⟩
  · rw [h2 u, if_neg (fun e => e1 e.symm), if_neg (fun e => e2 e.symm)]; rfl
  · rw [h2 s, if_pos rfl, if_neg (fun e => hA1.ne e.symm)]; omega
  · have := h.ch.h0 u hu
    have := h.ch.top
    have : n * 1048576 ≤ 40 * 1048576 := Nat.mul_le_mul_right _ hn40
    omega
  · obtain ⟨S, q1, q2, q3⟩ := h.full hlt
    exact ⟨S, q1, q3, shut_of hft h1 q2⟩
open Classical in
set_option maxHeartbeats 8000000 in
theorem solve_spec (W : World) (Ls : List Chunk) (n na s t : Nat) (want : Int) (va : Value) (A : Nat → Ac) (hA : SlA (K W Ls) va na A) (hN : NetOK n na A s t) (hn40 : n ≤ 40) (hw0 : 0 ≤ want ∧ want ≤ 9223372036854775807) :
    Spec Try.prog 17 #[.int .i64 n, va, .int .i64 s, .int .i64 t, .int .i64 want] (K W Ls)
      (X := { x : Int × (Nat → Int) × (Nat → Int) × Option Own × Nat // SolveP n na A s t want x.1 x.2.1 x.2.2.1 ∧ owfO 1 x.2.2.2.1 na (onV na x.2.1) })
      (fun x => .tuple #[.agg #[.int .i64 x.1.1, .int .i64 (cst (cstN A) x.1.2.1 na), ov x.1.2.2.2.1 na, .slice (some ⟨x.1.2.2.2.2, 0, none⟩) n n], .int .i64 0])
      (fun x => K W (oc 3 x.1.2.2.2.1 (onV na x.1.2.1) :: [(x.1.2.2.2.2, ints 3 n x.1.2.2.1 [])] :: Ls)) := by
  obtain ⟨pa, ca, rfl, _, hcells⟩ := hA.open
  have h_n := hN.hn; have h_na := hN.hna; have h_s := hN.hs; have h_t := hN.ht; have h_st := hN.ne
  refine enter (args := [_, _, _, _, _]) Try.func17 rfl Try.ntmps17 rfl ?_
  refine c_seq ?_
  refine c_region ?_
  refine s_do (do_alloc Try.tab rfl) rfl rfl rfl (fun b10 => ?_)
  refine s_y (y_assign rfl) rfl rfl rfl ?_
  refine s_nil ?_
  refine f_then ?_
  refine c_seq ?_
  refine c_seq ?_
  refine c_region ?_
  refine s_y (y_move rfl) rfl rfl rfl ?_
  refine s_y (y_move rfl) rfl rfl rfl ?_
  refine s_y (y_move rfl) rfl rfl rfl ?_
  refine s_y (y_move rfl) rfl rfl rfl ?_
  have hv := valid_spec W ([(b10, row 28 [.int .i64 0, .int .i64 0, nilS, nilS])] :: Ls) n s t (.slice pa na ca) na A (SlA.arcsV (hA.cls fun w h => h.tail)) (by omega)
  rw [decide_eq_true hN] at hv
  refine s_call (en_f rfl Try.call39) hv rfl rfl rfl (fun _ => ?_)
  refine s_y (y_notT rfl) rfl rfl rfl ?_
  refine s_nil ?_
  refine f_then ?_
  refine c_condF rfl ?_
  refine c_skip ?_
  refine f_then ?_
  refine c_seq ?_
  refine c_seq ?_
  refine c_region ?_
  refine s_y (y_move rfl) rfl rfl rfl ?_
  refine s_y (y_F (y_lss rfl rfl) (by omega)) rfl rfl rfl ?_
  refine s_nil ?_
  refine f_then ?_
  refine c_condF rfl ?_
  refine c_skip ?_
  refine f_then ?_
  refine c_seq ?_
  refine c_region ?_
  refine s_y (y_move rfl) rfl rfl rfl ?_
  refine s_call (en_f rfl Try.call40) (newNetwork_spec W ([(b10, row 28 [.int .i64 0, .int .i64 0, nilS, nilS])] :: Ls) n (by omega)) rfl rfl rfl (fun x => ?_)
  obtain ⟨p, bo, bh⟩ := x
  dsimp only
  refine s_y (y_assign rfl) rfl rfl rfl ?_
  refine s_nil ?_
  refine f_then ?_
  refine c_seq ?_
  refine c_seq ?_
  refine c_region ?_
  refine s_y (y_move rfl) rfl rfl rfl ?_
  refine s_y (y_len Try.tab rfl rfl) rfl rfl rfl ?_
  refine s_y (y_move rfl) rfl rfl rfl ?_
  refine s_nil ?_
  refine f_then ?_
  refine c_block ?_
  refine c_loopP (α := Nat × (Option Own × (Nat → Option Own))) (fun z => [(0, .int .i64 n), (1, .slice pa na ca), (2, .int .i64 s), (3, .int .i64 t), (4, .int .i64 want), (10, .pointer (some ⟨b10, 0, none⟩)), (12, .pointer (some ⟨p, 0, none⟩)), (31, .slice pa na ca), (32, .int .i64 na), (33, .int .i64 z.1)])
    (fun z => z.1 ≤ na ∧ anOK (frN A) (ttN A) (capN A) (cstN A) n z.1 z.2)
    (fun z => K W (anet (frN A) (ttN A) (capN A) (cstN A) p bo n z.1 (.slice (some ⟨bh, 0, none⟩) n n) z.2 ([(bh, ints 3 n (fun _ => 0) [])] :: [(b10, row 28 [.int .i64 0, .int .i64 0, nilS, nilS])] :: Ls))) (fun z => na - z.1) (0, (none, fun _ => none))
    ⟨rfl, rfl, rfl, rfl, rfl, rfl, rfl, rfl, rfl, rfl, trivial⟩ ⟨Nat.zero_le _, anet_begin _ _ _ _ n⟩ (fun w h => anet_new _ _ _ _ h) ?_
  rintro ⟨i, x⟩ ⟨hi, hx⟩
  dsimp only at hi hx ⊢
  refine c_seq ?_
  refine c_region ?_
  refine s_y (y_lss rfl rfl) rfl rfl rfl ?_
  refine s_nil ?_
  refine f_then ?_
  refine c_seq ?_
  refine c_condD rfl (fun hlt => ?_) (fun hge => ?_)
  · have hin : i < na := by omega
    obtain ⟨ba, oa, rfl, hca, hc0, hc1, hc2, hc3⟩ := hcells (by omega)
    have hcl : ∀ w, K W (anet (frN A) (ttN A) (capN A) (cstN A) p bo n i (.slice (some ⟨bh, 0, none⟩) n n) x ([(bh, ints 3 n (fun _ => 0) [])] :: [(b10, row 28 [.int .i64 0, .int .i64 0, nilS, nilS])] :: Ls)) w → K W Ls w := fun w h => (anet_tail h).tail.tail
    have hca' := fun i (hi : i < na) => (hca i hi).cls hcl
    have harc := hN.arc i hin
    unfold ArcOK at harc
    refine c_skip ?_
    refine f_then ?_
    refine c_seq ?_
    refine c_block ?_
    refine c_seq ?_
    refine c_region ?_
    refine s_y (y_indexAddr (s := 4) Try.tab rfl rfl rfl rfl _ rfl (by omega)) rfl rfl rfl ?_
    refine s_y (y_loadA Try.tab rfl rfl rfl rfl (hca' _ (by omega))) rfl rfl rfl ?_
    refine s_do (do_alloc Try.tab rfl) rfl rfl rfl (fun b14 => ?_)
    refine s_set (set_box Try.tab 0 rfl rfl rfl rfl rfl rfl rfl) rfl rfl ?_
    refine s_nil ?_
    refine f_then ?_
    refine c_region ?_
    refine s_y (y_move rfl) rfl rfl rfl ?_
    refine s_y (y_fieldAddr0 Try.tab rfl rfl rfl rfl rfl) rfl rfl rfl ?_
    refine s_y (y_load Try.tab rfl rfl (cell_row 0 rfl rfl)) rfl rfl rfl ?_
    refine s_y (y_fieldAddrB Try.tab 1 rfl rfl rfl rfl rfl) rfl rfl rfl ?_
    refine s_y (y_load Try.tab rfl rfl (cell_row 0 rfl rfl)) rfl rfl rfl ?_
    refine s_y (y_fieldAddrB Try.tab 2 rfl rfl rfl rfl rfl) rfl rfl rfl ?_
    refine s_y (y_load Try.tab rfl rfl (cell_row 0 rfl rfl)) rfl rfl rfl ?_
    refine s_y (y_fieldAddrB Try.tab 3 rfl rfl rfl rfl rfl) rfl rfl rfl ?_
    refine s_y (y_load Try.tab rfl rfl (cell_row 0 rfl rfl)) rfl rfl rfl ?_
    refine St.cls (C' := K W (anet (frN A) (ttN A) (capN A) (cstN A) p bo n i (.slice (some ⟨bh, 0, none⟩) n n) x ([(bh, ints 3 n (fun _ => 0) [])] :: [(b10, row 28 [.int .i64 0, .int .i64 0, nilS, nilS])] :: Ls))) ?_ (fun w h => h.tail)
    have hadd := padd_spec (frN A) (ttN A) (capN A) (cstN A) W ([(bh, ints 3 n (fun _ => 0) [])] :: [(b10, row 28 [.int .i64 0, .int .i64 0, nilS, nilS])] :: Ls) p bo n i (.slice (some ⟨bh, 0, none⟩) n n) x hx (by simp only [frN]; omega) (by simp only [ttN]; omega) (by omega) (by simp only [cstN]; omega)
    have e1 : ((frN A i : Nat) : Int) = (A i).1 := by simp only [frN]; omega
    have e2 : ((ttN A i : Nat) : Int) = (A i).2.1 := by simp only [ttN]; omega
    rw [e1, e2] at hadd
    refine s_call (en_f rfl Try.call41) hadd rfl rfl rfl (fun y => ?_)
    refine s_nil ?_
    refine f_blockN ?_
    refine f_then ?_
    refine c_region ?_
    refine s_y (y_add rfl rfl (by omega)) rfl rfl rfl ?_
    refine s_y (y_move rfl) rfl rfl rfl ?_
    refine s_nil ?_
    exact f_roundP (i + 1, y.1) ⟨hin, y.2⟩ (by dsimp only; omega) ⟨rfl, rfl, rfl, rfl, rfl, rfl, rfl, rfl, rfl, rfl, trivial⟩ (fun w h => h)
  have him : i = na := by omega
  subst him
  clear hge hv
  obtain ⟨L, R⟩ := x
  refine SC.cls (C' := K W ([(p, row 78 [ov L (2 * i), .slice (some ⟨bo, 0, none⟩) n n, nilS, nilS, .slice (some ⟨bh, 0, none⟩) n n])] :: linkCh (frN A) (ttN A) (cstN A) (2 * i) L (roomL (capN A)) :: [(bh, ints 3 n (fun _ => 0) [])] :: restCh (frN A) (ttN A) bo n i R ([(b10, row 28 [.int .i64 0, .int .i64 0, nilS, nilS])] :: Ls))) ?_ (fun w h => anet_done hx h)
  refine c_exit ?_
  refine f_thenE ?_
  refine f_rndE ?_
  refine f_blockE ?_
  refine f_then ?_
  refine c_seq ?_
  refine c_region ?_
  refine s_y (y_move rfl) rfl rfl rfl ?_
  refine s_y (y_move rfl) rfl rfl rfl ?_
  refine s_y (y_move rfl) rfl rfl rfl ?_
  refine s_y (y_move rfl) rfl rfl rfl ?_
  have hA1 := hN.arcs1
  have hcost : ∀ k, k < 2 * i → -((1048576 : Nat) : Int) ≤ costL (cstN A) k ∧ costL (cstN A) k ≤ (1048576 : Nat) := fun k hk => by
    rcases half k with ⟨j, rfl⟩ | ⟨j, rfl⟩
    · have := (hN.arc j (by omega)).2.2.2.2; rw [costL_even]; simp only [cstN]; omega
    · have := (hN.arc j (by omega)).2.2.2.2; rw [costL_odd]; simp only [cstN]; omega
  have hroom : ∀ k, k < 2 * i → 0 ≤ roomL (capN A) k ∧ roomL (capN A) k ≤ 1073741824 := fun k hk => by
    rcases half k with ⟨j, rfl⟩ | ⟨j, rfl⟩
    · have := (hN.arc j (by omega)).2.2.2.1; rw [roomL_even]; simp only [capN]; omega
    · rw [roomL_odd]; omega
  have hG := pgL (fr := frN A) (tt := ttN A) (cs := cstN A) (n := n) (na := i) (fun j hj => ⟨hA1.frL j hj, hA1.ttL j hj⟩)
  refine s_call (en_f rfl Try.call42) (cheapest_spec W (restCh (frN A) (ttN A) bo n i R ([(b10, row 28 [.int .i64 0, .int .i64 0, nilS, nilS])] :: Ls)) p n (2 * i) s t bh 1048576 (ov L (2 * i)) (.slice (some ⟨bo, 0, none⟩) n n) nilS nilS (linkCh (frN A) (ttN A) (cstN A) (2 * i) L) (outsA (frN A) (ttN A) i) (toL (frN A) (ttN A)) (tlL (frN A) (ttN A)) (costL (cstN A)) (roomL (capN A)) want
    (anet_outV (Pre := []) hx) (anet_linkC hx) hG hcost (fun k hk hr => by
      rcases half k with ⟨j, rfl⟩ | ⟨j, rfl⟩
      · have := (hN.arc j (by omega)).2.2.2.2; rw [costL_even]; simp only [cstN]; omega
      · rw [roomL_odd] at hr; omega) hA1.sL hA1.tL hn40 (by omega) (by omega) hw0.1 hw0.2 (fun k hk => (hroom k hk).1) (fun k hk => by have := hroom k hk; have := hroom (par2 k) (hG.par_lt k hk); omega)) rfl rfl rfl (fun x => ?_)
  obtain ⟨⟨v, room, high, a, b⟩, hch⟩ := x
  dsimp only at hch ⊢
  have hP := hch.solveP hN hn40
  refine St.cls (C' := K W ([(b10, row 28 [.int .i64 0, .int .i64 0, nilS, nilS])] :: [(p, row 78 [ov L (2 * i), .slice (some ⟨bo, 0, none⟩) n n, a, b, .slice (some ⟨bh, 0, none⟩) n n])] :: linkCh (frN A) (ttN A) (cstN A) (2 * i) L room :: [(bh, ints 3 n high [])] :: restCh (frN A) (ttN A) bo n i R Ls)) ?_
    (fun w h => restCh_out [[(p, row 78 [ov L (2 * i), .slice (some ⟨bo, 0, none⟩) n n, a, b, .slice (some ⟨bh, 0, none⟩) n n])], linkCh (frN A) (ttN A) (cstN A) (2 * i) L room, [(bh, ints 3 n high [])]] h)
  refine s_y (y_assign rfl) rfl rfl rfl ?_
  refine s_nil ?_
  refine f_then ?_
  refine c_seq ?_
  refine c_region ?_
  refine s_y (y_move rfl) rfl rfl rfl ?_
  refine s_y (y_move rfl) rfl rfl rfl ?_
  refine s_y (y_nilP rfl) rfl rfl rfl ?_
  refine s_y (y_fieldAddrB Try.tab 4 rfl rfl rfl rfl rfl) rfl rfl rfl ?_
  refine s_y (y_load Try.tab rfl rfl (cell_row 1 rfl rfl)) rfl rfl rfl ?_
  refine s_y (y_build Try.tab rfl rfl rfl rfl rfl) rfl rfl rfl ?_
  refine s_do (do_alloc Try.tab rfl) rfl rfl rfl (fun b16 => ?_)
  refine s_set (set_box Try.tab 0 rfl rfl rfl rfl rfl rfl rfl) rfl rfl ?_
  refine s_nil ?_
  refine f_then ?_
  refine c_seq ?_
  refine c_seq ?_
  refine c_region ?_
  refine s_y (y_move rfl) rfl rfl rfl ?_
  refine s_y (y_len Try.tab rfl rfl) rfl rfl rfl ?_
  refine s_y (y_move rfl) rfl rfl rfl ?_
  refine s_nil ?_
  refine f_then ?_
  refine c_block ?_
  refine c_loopP (α := Nat × Option Own) (fun z => [(10, .pointer (some ⟨b10, 0, none⟩)), (12, .pointer (some ⟨p, 0, none⟩)), (16, .pointer (some ⟨b16, 0, none⟩)), (59, .slice pa i ca), (60, .int .i64 i), (61, .int .i64 z.1)])
    (fun z => z.1 ≤ i ∧ owfO 1 z.2 z.1 (onV z.1 (fOf room)))
    (fun z => K W (oc 3 z.2 (onV z.1 (fOf room)) :: [(b16, row 28 [.int .i64 v, .int .i64 (cst (cstN A) (fOf room) z.1), ov z.2 z.1, .slice (some ⟨bh, 0, none⟩) n n])] :: [(b10, row 28 [.int .i64 0, .int .i64 0, nilS, nilS])] :: [(p, row 78 [ov L (2 * i), .slice (some ⟨bo, 0, none⟩) n n, a, b, .slice (some ⟨bh, 0, none⟩) n n])] :: linkCh (frN A) (ttN A) (cstN A) (2 * i) L room :: [(bh, ints 3 n high [])] :: restCh (frN A) (ttN A) bo n i R Ls))
    (fun z => i - z.1) (0, none) ⟨rfl, rfl, rfl, rfl, rfl, rfl, trivial⟩ ⟨Nat.zero_le _, rfl, rfl⟩ (fun w h => K.addNil h) ?_
  rintro ⟨k, o⟩ ⟨hk, ho⟩
  dsimp only at hk ho ⊢
  refine c_seq ?_
  refine c_region ?_
  refine s_y (y_lss rfl rfl) rfl rfl rfl ?_
  refine s_nil ?_
  refine f_then ?_
  refine c_seq ?_
  refine c_condD rfl (fun hlt => ?_) (fun hge => ?_)
  rotate_left
  · have hki : k = i := by omega
    subst hki
    refine c_exit ?_
    refine f_thenE ?_
    refine f_rndE ?_
    refine f_blockE ?_
    refine f_then ?_
    refine c_seq ?_
    refine c_region ?_
    refine s_y (y_loadA Try.tab rfl rfl rfl rfl (cells_row0 1 rfl rfl)) rfl rfl rfl ?_
    refine s_set (set_box Try.tab 2 rfl rfl (by have := ov_one o k; simp only [List.all_cons, List.all_nil, this]; rfl) rfl rfl rfl rfl) rfl rfl ?_
    refine s_y (y_assign rfl) rfl rfl rfl ?_
    refine s_nil ?_
    refine f_then ?_
    refine c_ret ?_
    exact f_ret ⟨(v, fOf room, high, o, bh), hP, ho⟩ (resA1 Try.tab rfl rfl rfl rfl rfl rfl (cells_row0 2 rfl rfl)) (fun w h => restCh_tailP [oc 3 o (onV k (fOf room)), [(bh, ints 3 n high [])]] ((((h.dropAt 1).dropAt 1).dropAt 1).dropAt 1))
  have hki : k < i := by omega
  obtain ⟨ba, oa, rfl, hca, hc0, hc1, hc2, hc3⟩ := hcells (by omega)
  obtain ⟨bl, c, rest, hvl, hLc⟩ := anet_linkC hx (by omega)
  dsimp only at hvl hLc
  rw [hvl, hLc]
  have hcl : ∀ w, K W (oc 3 o (onV k (fOf room)) :: [(b16, row 28 [.int .i64 v, .int .i64 (cst (cstN A) (fOf room) k), ov o k, .slice (some ⟨bh, 0, none⟩) n n])] :: [(b10, row 28 [.int .i64 0, .int .i64 0, nilS, nilS])] :: [(p, row 78 [.slice (some ⟨bl, 0, none⟩) (2 * i) c, .slice (some ⟨bo, 0, none⟩) n n, a, b, .slice (some ⟨bh, 0, none⟩) n n])] :: (fun room => [(bl, recs 85 3 (2 * i) (lg (toL (frN A) (ttN A)) room (costL (cstN A))) rest)]) room :: [(bh, ints 3 n high [])] :: restCh (frN A) (ttN A) bo n i R Ls) w → K W Ls w := fun w h => restCh_tail h.tail.tail.tail.tail.tail.tail
  have hca' := fun i (hi : i < _) => (hca i hi).cls hcl
  have harc := hN.arc k hki
  unfold ArcOK at harc
  refine c_skip ?_
  refine f_then ?_
  refine c_seq ?_
  refine c_block ?_
  refine c_seq ?_
  refine c_region ?_
  refine s_y (y_move rfl) rfl rfl rfl ?_
  refine s_y (y_indexAddr (s := 4) Try.tab rfl rfl rfl rfl _ rfl (by omega)) rfl rfl rfl ?_
  refine s_y (y_loadA Try.tab rfl rfl rfl rfl (hca' _ (by omega))) rfl rfl rfl ?_
  refine s_do (do_alloc Try.tab rfl) rfl rfl rfl (fun b18 => ?_)
  refine s_y (y_assign rfl) rfl rfl rfl ?_
  refine s_set (set_box Try.tab 0 rfl rfl rfl rfl rfl rfl rfl) rfl rfl ?_
  refine s_nil ?_
  refine f_then ?_
  refine c_seq ?_
  have hD : ∀ w, K W ([(b18, row 35 [.int .i64 (A k).1, .int .i64 (A k).2.1, .int .i64 (A k).2.2.1, .int .i64 (A k).2.2.2])] :: oc 3 o (onV k (fOf room)) :: [(b16, row 28 [.int .i64 v, .int .i64 (cst (cstN A) (fOf room) k), ov o k, .slice (some ⟨bh, 0, none⟩) n n])] :: [(b10, row 28 [.int .i64 0, .int .i64 0, nilS, nilS])] :: [(p, row 78 [.slice (some ⟨bl, 0, none⟩) (2 * i) c, .slice (some ⟨bo, 0, none⟩) n n, a, b, .slice (some ⟨bh, 0, none⟩) n n])] :: (fun room => [(bl, recs 85 3 (2 * i) (lg (toL (frN A) (ttN A)) room (costL (cstN A))) rest)]) room :: [(bh, ints 3 n high [])] :: restCh (frN A) (ttN A) bo n i R Ls) w →
      K W ([(b18, row 35 [.int .i64 (A k).1, .int .i64 (A k).2.1, .int .i64 (A k).2.2.1, .int .i64 (A k).2.2.2])] :: [(b16, row 28 [.int .i64 v, .int .i64 (cst (cstN A) (fOf room) k), ov o k, .slice (some ⟨bh, 0, none⟩) n n])] :: [(b10, row 28 [.int .i64 0, .int .i64 0, nilS, nilS])] :: [(p, row 78 [.slice (some ⟨bl, 0, none⟩) (2 * i) c, .slice (some ⟨bo, 0, none⟩) n n, a, b, .slice (some ⟨bh, 0, none⟩) n n])] :: (fun room => [(bl, recs 85 3 (2 * i) (lg (toL (frN A) (ttN A)) room (costL (cstN A))) rest)]) room :: [(bh, ints 3 n high [])] :: restCh (frN A) (ttN A) bo n i R Ls) w := fun w h => h.dropAt 1
  refine c_plan [.c 0, .c 1, .c 2, .c 3, .c 4, .s 5, .s 6, .c 7, .s 8] [8] ((K W ([(b18, row 35 [.int .i64 (A k).1, .int .i64 (A k).2.1, .int .i64 (A k).2.2.1, .int .i64 (A k).2.2.2])] :: [(b16, row 28 [.int .i64 v, .int .i64 (cst (cstN A) (fOf room) k), ov o k, .slice (some ⟨bh, 0, none⟩) n n])] :: [(b10, row 28 [.int .i64 0, .int .i64 0, nilS, nilS])] :: [(p, row 78 [.slice (some ⟨bl, 0, none⟩) (2 * i) c, .slice (some ⟨bo, 0, none⟩) n n, a, b, .slice (some ⟨bh, 0, none⟩) n n])] :: (fun room => [(bl, recs 85 3 (2 * i) (lg (toL (frN A) (ttN A)) room (costL (cstN A))) rest)]) room :: [(bh, ints 3 n high [])] :: restCh (frN A) (ttN A) bo n i R Ls))) Try.mixed (by kernel_rfl) rfl K.cl ?_
  refine d_c rfl (Qui.ylds (y_fieldAddrB Try.tab 2 rfl rfl rfl rfl rfl)) rfl rfl rfl hD K.cl ?_
  refine d_c rfl (Qui.ylds (y_load Try.tab rfl rfl (cell_row 1 rfl rfl))) rfl rfl rfl hD K.cl ?_
  refine d_c rfl (Qui.ylds (y_move rfl)) rfl rfl rfl hD K.cl ?_
  refine d_c rfl (Qui.ylds (y_move rfl)) rfl rfl rfl hD K.cl ?_
  refine d_c rfl (Qui.callC K.cl (en_f rfl Try.call43) (fun C' hC => used_spec C' p bl (2 * i) c k (room (2 * k + 1)) ((cell_row 3 rfl rfl).cls hC) ((cell_room (rest := rest) 4 rfl (by omega)).cls hC) (by omega) (by omega))) rfl rfl rfl hD K.cl ?_
  refine d_s rfl (do_buildSlice1 Try.tab ⟨rfl, rfl, rfl, rfl⟩ rfl rfl rfl rfl) rfl rfl rfl (fun _ => K.cl) (fun _ _ w h => hD w h.tail) (fun b71 => ?_)
  refine d_s rfl (do_appendO Try.tab 2 (s := 1) (by_ := 8) (k := 1) (news := [.int .i64 (room (2 * k + 1))]) (xs := onV k (fOf room)) (o := o) (m := k) rfl rfl ⟨rfl, rfl, rfl, rfl⟩ rfl rfl (by simp) ho (cells_row0 0 rfl rfl) rfl (by simp [Value.oneCell']) (by omega) (by unfold maxLen; omega) (by omega)) rfl rfl rfl (fun _ => K.cl) (fun _ _ _ h => h.tail.dropAt 1) (fun o2 => ?_)
  refine d_c rfl (Qui.ylds (y_fieldAddrB Try.tab 2 rfl rfl rfl rfl rfl)) rfl rfl rfl (fun _ h => h.tail.dropAt 1) K.cl ?_
  refine d_set rfl (set_rowB Try.tab 3 rfl rfl rfl rfl rfl rfl) rfl rfl K.cl (fun h => by cases h) ?_
  refine d_nil ?_
  refine f_then ?_
  refine SC.cls (C' := K W ([(b18, row 35 [.int .i64 (A k).1, .int .i64 (A k).2.1, .int .i64 (A k).2.2.1, .int .i64 (A k).2.2.2])] :: oc 3 (some o2.1) (onV k (fOf room) ++ [Value.int .i64 (room (2 * k + 1))]) :: [(b16, row 28 [.int .i64 v, .int .i64 (cst (cstN A) (fOf room) k), osl o2.1 (k + 1), .slice (some ⟨bh, 0, none⟩) n n])] :: [(b10, row 28 [.int .i64 0, .int .i64 0, nilS, nilS])] :: [(p, row 78 [.slice (some ⟨bl, 0, none⟩) (2 * i) c, .slice (some ⟨bo, 0, none⟩) n n, a, b, .slice (some ⟨bh, 0, none⟩) n n])] :: (fun room => [(bl, recs 85 3 (2 * i) (lg (toL (frN A) (ttN A)) room (costL (cstN A))) rest)]) room :: [(bh, ints 3 n high [])] :: restCh (frN A) (ttN A) bo n i R Ls)) ?_ (fun w h => h.tail)
  have hfk := hP.fl.bds hN k hki
  have hq1 := mul_bd (a := room (2 * k + 1)) (b := (A k).2.2.2) hfk.1 hfk.2
  have hq2 := cst_bd (c := cstN A) (f := fOf room) k (fun j hj => hP.fl.bds hN j (by omega))
  refine c_plan [.c 0, .c 1, .c 2, .c 3, .c 4, .c 5, .c 6, .c 7, .c 8, .c 9, .s 10] [10] ((K W ([(b18, row 35 [.int .i64 (A k).1, .int .i64 (A k).2.1, .int .i64 (A k).2.2.1, .int .i64 (A k).2.2.2])] :: oc 3 (some o2.1) (onV k (fOf room) ++ [Value.int .i64 (room (2 * k + 1))]) :: [(b16, row 28 [.int .i64 v, .int .i64 (cst (cstN A) (fOf room) k), osl o2.1 (k + 1), .slice (some ⟨bh, 0, none⟩) n n])] :: [(b10, row 28 [.int .i64 0, .int .i64 0, nilS, nilS])] :: [(p, row 78 [.slice (some ⟨bl, 0, none⟩) (2 * i) c, .slice (some ⟨bo, 0, none⟩) n n, a, b, .slice (some ⟨bh, 0, none⟩) n n])] :: (fun room => [(bl, recs 85 3 (2 * i) (lg (toL (frN A) (ttN A)) room (costL (cstN A))) rest)]) room :: [(bh, ints 3 n high [])] :: restCh (frN A) (ttN A) bo n i R Ls))) Try.mixed (by kernel_rfl) rfl K.cl ?_
  refine d_c rfl (Qui.ylds (y_fieldAddrB Try.tab 1 rfl rfl rfl rfl rfl)) rfl rfl rfl (fun _ h => h) K.cl ?_
  refine d_c rfl (Qui.ylds (y_load Try.tab rfl rfl (cell_row 2 rfl rfl))) rfl rfl rfl (fun _ h => h) K.cl ?_
  refine d_c rfl (Qui.ylds (y_move rfl)) rfl rfl rfl (fun _ h => h) K.cl ?_
  refine d_c rfl (Qui.ylds (y_move rfl)) rfl rfl rfl (fun _ h => h) K.cl ?_
  refine d_c rfl (Qui.callC K.cl (en_f rfl Try.call43) (fun C' hC => used_spec C' p bl (2 * i) c k (room (2 * k + 1)) ((cell_row 4 rfl rfl).cls hC) ((cell_room (rest := rest) 5 rfl (by omega)).cls hC) (by omega) (by omega))) rfl rfl rfl (fun _ h => h) K.cl ?_
  refine d_c rfl (Qui.ylds (y_fieldAddrB Try.tab 3 rfl rfl rfl rfl rfl)) rfl rfl rfl (fun _ h => h) K.cl ?_
  refine d_c rfl (Qui.ylds (y_load Try.tab rfl rfl (cell_row 0 rfl rfl))) rfl rfl rfl (fun _ h => h) K.cl ?_
  refine d_c rfl (Qui.ylds (y_mul rfl rfl (by omega))) rfl rfl rfl (fun _ h => h) K.cl ?_
  refine d_c rfl (Qui.ylds (y_add rfl rfl (by omega))) rfl rfl rfl (fun _ h => h) K.cl ?_
  refine d_c rfl (Qui.ylds (y_fieldAddrB Try.tab 1 rfl rfl rfl rfl rfl)) rfl rfl rfl (fun _ h => h) K.cl ?_
  refine d_set rfl (set_rowB Try.tab 2 rfl rfl rfl rfl rfl rfl) rfl rfl K.cl (fun h => by cases h) ?_
  refine d_nil ?_
  refine f_blockN ?_
  refine f_then ?_
  refine c_region ?_
  refine s_y (y_add rfl rfl (by omega)) rfl rfl rfl ?_
  refine s_y (y_move rfl) rfl rfl rfl ?_
  refine s_nil ?_
  have hon : onV (k + 1) (fOf room) = onV k (fOf room) ++ [.int .i64 (room (2 * k + 1))] := by unfold onV; rw [List.range_succ, List.map_append]; rfl
  refine f_roundP (k + 1, some o2.1) ⟨hki, by dsimp only; rw [hon]; exact o2.2⟩ (by dsimp only; omega) ⟨rfl, rfl, rfl, rfl, rfl, rfl, trivial⟩ (fun w h => ?_)
  dsimp only
  rw [hon]
  exact h.tail
end Go.KL
end

section
/- Walks: flow.Cut; flow.Solve's errors. -/
namespace Go.KL
open Go.Proofs
attribute [local irreducible] SC St Fin Sq Sw Ylds Doos Sets Enters Spec CellIs CellsAre Then Ret Rnd Chn resOK ints bools recs arr
attribute [local irreducible] rvals lvals rowv anet linkCh restCh
open Classical in
set_option maxHeartbeats 8000000 in
theorem solve_bad_spec (W : World) (Ls : List Chunk) (n s t want : Int) (na : Nat) (va : Value) (A : Nat → Ac) (hA : SlA (K W Ls) va na A) (hna : na ≤ 1000000000) (hN : ¬ NetOK n na A s t) :
    Spec Try.prog 17 #[.int .i64 n, va, .int .i64 s, .int .i64 t, .int .i64 want] (K W Ls) (fun _ : Unit => .tuple #[.agg #[.int .i64 0, .int .i64 0, nilS, nilS], .int .i64 40]) (fun _ => K W Ls) := by
  refine enter (args := [_, _, _, _, _]) Try.func17 rfl Try.ntmps17 rfl ?_
  refine c_seq ?_
  refine c_region ?_
  refine s_do (do_alloc Try.tab rfl) rfl rfl rfl (fun b10 => ?_)
  refine s_y (y_assign rfl) rfl rfl rfl ?_
  refine s_nil ?_
  refine f_then ?_
  refine c_seq ?_
  refine c_seq ?_
  refine c_region ?_
  refine s_y (y_move rfl) rfl rfl rfl ?_
  refine s_y (y_move rfl) rfl rfl rfl ?_
  refine s_y (y_move rfl) rfl rfl rfl ?_
  refine s_y (y_move rfl) rfl rfl rfl ?_
  have hv := valid_spec W ([(b10, row 28 [.int .i64 0, .int .i64 0, nilS, nilS])] :: Ls) n s t va na A (SlA.arcsV (hA.cls fun w h => h.tail)) hna
  rw [decide_eq_false hN] at hv
  refine s_call (en_f rfl Try.call39) hv rfl rfl rfl (fun _ => ?_)
  refine s_y (y_notF rfl) rfl rfl rfl ?_
  refine s_nil ?_
  refine f_then ?_
  refine c_condT rfl ?_
  refine c_seq ?_
  refine c_region ?_
  refine s_y (y_build Try.tab rfl rfl rfl rfl rfl) rfl rfl rfl ?_
  refine s_set (set_box Try.tab 0 rfl rfl rfl rfl rfl rfl rfl) rfl rfl ?_
  refine s_y (y_assign rfl) rfl rfl rfl ?_
  refine s_nil ?_
  refine f_then ?_
  refine c_ret ?_
  refine f_thenR ?_
  exact f_ret () (resA1 Try.tab rfl rfl rfl rfl rfl rfl (cells_row0 0 rfl rfl)) (fun w h => h.tail)
open Classical in
set_option maxHeartbeats 8000000 in
theorem solve_neg_spec (W : World) (Ls : List Chunk) (n s t want : Int) (na : Nat) (va : Value) (A : Nat → Ac) (hA : SlA (K W Ls) va na A) (hN : NetOK n na A s t) (hw : want < 0) :
    Spec Try.prog 17 #[.int .i64 n, va, .int .i64 s, .int .i64 t, .int .i64 want] (K W Ls) (fun _ : Unit => .tuple #[.agg #[.int .i64 0, .int .i64 0, nilS, nilS], .int .i64 2]) (fun _ => K W Ls) := by
  refine enter (args := [_, _, _, _, _]) Try.func17 rfl Try.ntmps17 rfl ?_
  refine c_seq ?_
  refine c_region ?_
  refine s_do (do_alloc Try.tab rfl) rfl rfl rfl (fun b10 => ?_)
  refine s_y (y_assign rfl) rfl rfl rfl ?_
  refine s_nil ?_
  refine f_then ?_
  refine c_seq ?_
  refine c_seq ?_
  refine c_region ?_
  refine s_y (y_move rfl) rfl rfl rfl ?_
  refine s_y (y_move rfl) rfl rfl rfl ?_
  refine s_y (y_move rfl) rfl rfl rfl ?_
  refine s_y (y_move rfl) rfl rfl rfl ?_
  have hv := valid_spec W ([(b10, row 28 [.int .i64 0, .int .i64 0, nilS, nilS])] :: Ls) n s t va na A (SlA.arcsV (hA.cls fun w h => h.tail)) (by have := hN.hna; omega)
  rw [decide_eq_true hN] at hv
  refine s_call (en_f rfl Try.call39) hv rfl rfl rfl (fun _ => ?_)
  refine s_y (y_notT rfl) rfl rfl rfl ?_
  refine s_nil ?_
  refine f_then ?_
  refine c_condF rfl ?_
  refine c_skip ?_
  refine f_then ?_
  refine c_seq ?_
  refine c_seq ?_
  refine c_region ?_
  refine s_y (y_move rfl) rfl rfl rfl ?_
  refine s_y (y_T (y_lss rfl rfl) (by assumption)) rfl rfl rfl ?_
  refine s_nil ?_
  refine f_then ?_
  refine c_condT rfl ?_
  refine c_seq ?_
  refine c_region ?_
  refine s_y (y_build Try.tab rfl rfl rfl rfl rfl) rfl rfl rfl ?_
  refine s_set (set_box Try.tab 0 rfl rfl rfl rfl rfl rfl rfl) rfl rfl ?_
  refine s_y (y_assign rfl) rfl rfl rfl ?_
  refine s_nil ?_
  refine f_then ?_
  refine c_ret ?_
  refine f_thenR ?_
  exact f_ret () (resA1 Try.tab rfl rfl rfl rfl rfl rfl (cells_row0 0 rfl rfl)) (fun w h => h.tail)
open Classical in
set_option maxHeartbeats 8000000 in
theorem cut_bad_spec (W : World) (Ls : List Chunk) (n s t : Int) (na : Nat) (va : Value) (A : Nat → Ac) (hA : SlA (K W Ls) va na A) (hna : na ≤ 1000000000) (hN : ¬ NetOK n na A s t) :
    Spec Try.prog 29 #[.int .i64 n, va, .int .i64 s, .int .i64 t] (K W Ls) (fun _ : Unit => .tuple #[.int .i64 0, nilS, .int .i64 40]) (fun _ => K W Ls) := by
  refine enter (args := [_, _, _, _]) Try.func29 rfl Try.ntmps29 rfl ?_
  refine c_seq ?_
  refine c_region ?_
  refine s_y (y_assign rfl) rfl rfl rfl ?_
  refine s_y (y_assign rfl) rfl rfl rfl ?_
  refine s_y (y_assign rfl) rfl rfl rfl ?_
  refine s_nil ?_
  refine f_then ?_
  refine c_seq ?_
  refine c_seq ?_
  refine c_region ?_
  refine s_y (y_move rfl) rfl rfl rfl ?_
  refine s_y (y_move rfl) rfl rfl rfl ?_
  refine s_y (y_move rfl) rfl rfl rfl ?_
  refine s_y (y_move rfl) rfl rfl rfl ?_
  have hv := valid_spec W Ls n s t va na A (SlA.arcsV hA) hna
  rw [decide_eq_false hN] at hv
  refine s_call (en_f rfl Try.call39) hv rfl rfl rfl (fun _ => ?_)
  refine s_y (y_notF rfl) rfl rfl rfl ?_
  refine s_nil ?_
  refine f_then ?_
  refine c_condT rfl ?_
  refine c_seq ?_
  refine c_region ?_
  refine s_y (y_assign rfl) rfl rfl rfl ?_
  refine s_y (y_assign rfl) rfl rfl rfl ?_
  refine s_y (y_assign rfl) rfl rfl rfl ?_
  refine s_nil ?_
  refine f_then ?_
  refine c_ret ?_
  refine f_thenR ?_
  exact f_ret () (res3 rfl rfl rfl rfl) (fun w h => h)
/-- What Cut returns. -/
structure CutP (n na : Nat) (A : Nat → Ac) (s t : Nat) (v : Int) (f : Nat → Int) (g : Nat → Bool) : Prop where
  fl : Flw n na s t (frN A) (ttN A) (capN A) 1 f v
  rch : ReachP n na s (frN A) (ttN A) (capN A) f g
  out : g t = false
open Classical in
set_option maxHeartbeats 8000000 in
theorem cut_spec (W : World) (Ls : List Chunk) (n na s t : Nat) (va : Value) (A : Nat → Ac) (hA : SlA (K W Ls) va na A) (hN : NetOK n na A s t) :
    Spec Try.prog 29 #[.int .i64 n, va, .int .i64 s, .int .i64 t] (K W Ls)
      (X := { x : Int × (Nat → Int) × (Nat → Bool) × Nat // CutP n na A s t x.1 x.2.1 x.2.2.1 })
      (fun x => .tuple #[.int .i64 x.1.1, .slice (some ⟨x.1.2.2.2, 0, none⟩) n n, .int .i64 0])
      (fun x => K W ([(x.1.2.2.2, bools 4 n x.1.2.2.1 [])] :: Ls)) := by
  obtain ⟨pa, ca, rfl, _, hcells⟩ := hA.open
  have h_n := hN.hn; have h_na := hN.hna; have h_s := hN.hs; have h_t := hN.ht; have h_st := hN.ne
  have hA1 := hN.arcs1
  refine enter (args := [_, _, _, _]) Try.func29 rfl Try.ntmps29 rfl ?_
  refine c_seq ?_
  refine c_region ?_
  refine s_y (y_assign rfl) rfl rfl rfl ?_
  refine s_y (y_assign rfl) rfl rfl rfl ?_
  refine s_y (y_assign rfl) rfl rfl rfl ?_
  refine s_nil ?_
  refine f_then ?_
  refine c_seq ?_
  refine c_seq ?_
  refine c_region ?_
  refine s_y (y_move rfl) rfl rfl rfl ?_
  refine s_y (y_move rfl) rfl rfl rfl ?_
  refine s_y (y_move rfl) rfl rfl rfl ?_
  refine s_y (y_move rfl) rfl rfl rfl ?_
  have hv := valid_spec W Ls n s t (.slice pa na ca) na A (SlA.arcsV hA) (by omega)
  rw [decide_eq_true hN] at hv
  refine s_call (en_f rfl Try.call39) hv rfl rfl rfl (fun _ => ?_)
  refine s_y (y_notT rfl) rfl rfl rfl ?_
  refine s_nil ?_
  refine f_then ?_
  refine c_condF rfl ?_
  refine c_skip ?_
  refine f_then ?_
  refine c_seq ?_
  refine c_region ?_
  refine s_y (y_move rfl) rfl rfl rfl ?_
  refine s_call (en_f rfl Try.call40) (newNetwork_spec W Ls n (by omega)) rfl rfl rfl (fun x => ?_)
  obtain ⟨p, bo, bh⟩ := x
  dsimp only
  refine s_y (y_assign rfl) rfl rfl rfl ?_
  refine s_nil ?_
  refine f_then ?_
  refine c_seq ?_
  refine c_seq ?_
  refine c_region ?_
  refine s_y (y_move rfl) rfl rfl rfl ?_
  refine s_y (y_len Try.tab rfl rfl) rfl rfl rfl ?_
  refine s_y (y_move rfl) rfl rfl rfl ?_
  refine s_nil ?_
  refine f_then ?_
  refine c_block ?_
  refine c_loopP (α := Nat × (Option Own × (Nat → Option Own))) (fun z => [(0, .int .i64 n), (1, .slice pa na ca), (2, .int .i64 s), (3, .int .i64 t), (11, .pointer (some ⟨p, 0, none⟩)), (23, .slice pa na ca), (24, .int .i64 na), (25, .int .i64 z.1)])
    (fun z => z.1 ≤ na ∧ anOK (frN A) (ttN A) (capN A) (fun _ => 0) n z.1 z.2)
    (fun z => K W (anet (frN A) (ttN A) (capN A) (fun _ => 0) p bo n z.1 (.slice (some ⟨bh, 0, none⟩) n n) z.2 ([(bh, ints 3 n (fun _ => 0) [])] :: Ls))) (fun z => na - z.1) (0, (none, fun _ => none))
    ⟨rfl, rfl, rfl, rfl, rfl, rfl, rfl, rfl, trivial⟩ ⟨Nat.zero_le _, anet_begin _ _ _ _ n⟩ (fun w h => anet_new _ _ _ _ h) ?_
  rintro ⟨i, x⟩ ⟨hi, hx⟩
  dsimp only at hi hx ⊢
  refine c_seq ?_
  refine c_region ?_
  refine s_y (y_lss rfl rfl) rfl rfl rfl ?_
  refine s_nil ?_
  refine f_then ?_
  refine c_seq ?_
  refine c_condD rfl (fun hlt => ?_) (fun hge => ?_)
  · have hin : i < na := by omega
    obtain ⟨ba, oa, rfl, hca, hc0, hc1, hc2, hc3⟩ := hcells (by omega)
    have hcl : ∀ w, K W (anet (frN A) (ttN A) (capN A) (fun _ => 0) p bo n i (.slice (some ⟨bh, 0, none⟩) n n) x ([(bh, ints 3 n (fun _ => 0) [])] :: Ls)) w → K W Ls w := fun w h => (anet_tail h).tail
    have hca' := fun i (hi : i < na) => (hca i hi).cls hcl
    have harc := hN.arc i hin
    unfold ArcOK at harc
    refine c_skip ?_
    refine f_then ?_
    refine c_seq ?_
    refine c_block ?_
    refine c_seq ?_
    refine c_region ?_
    refine s_y (y_indexAddr (s := 4) Try.tab rfl rfl rfl rfl _ rfl (by omega)) rfl rfl rfl ?_
    refine s_y (y_loadA Try.tab rfl rfl rfl rfl (hca' _ (by omega))) rfl rfl rfl ?_
    refine s_do (do_alloc Try.tab rfl) rfl rfl rfl (fun b13 => ?_)
    refine s_set (set_box Try.tab 0 rfl rfl rfl rfl rfl rfl rfl) rfl rfl ?_
    refine s_nil ?_
    refine f_then ?_
    refine c_region ?_
    refine s_y (y_move rfl) rfl rfl rfl ?_
    refine s_y (y_fieldAddr0 Try.tab rfl rfl rfl rfl rfl) rfl rfl rfl ?_
    refine s_y (y_load Try.tab rfl rfl (cell_row 0 rfl rfl)) rfl rfl rfl ?_
    refine s_y (y_fieldAddrB Try.tab 1 rfl rfl rfl rfl rfl) rfl rfl rfl ?_
    refine s_y (y_load Try.tab rfl rfl (cell_row 0 rfl rfl)) rfl rfl rfl ?_
    refine s_y (y_fieldAddrB Try.tab 2 rfl rfl rfl rfl rfl) rfl rfl rfl ?_
    refine s_y (y_load Try.tab rfl rfl (cell_row 0 rfl rfl)) rfl rfl rfl ?_
    refine St.cls (C' := K W (anet (frN A) (ttN A) (capN A) (fun _ => 0) p bo n i (.slice (some ⟨bh, 0, none⟩) n n) x ([(bh, ints 3 n (fun _ => 0) [])] :: Ls))) ?_ (fun w h => h.tail)
    have hadd := padd_spec (frN A) (ttN A) (capN A) (fun _ => 0) W ([(bh, ints 3 n (fun _ => 0) [])] :: Ls) p bo n i (.slice (some ⟨bh, 0, none⟩) n n) x hx (by simp only [frN]; omega) (by simp only [ttN]; omega) (by omega) (by omega)
    have e1 : ((frN A i : Nat) : Int) = (A i).1 := by simp only [frN]; omega
    have e2 : ((ttN A i : Nat) : Int) = (A i).2.1 := by simp only [ttN]; omega
    rw [e1, e2] at hadd
    refine s_call (en_f rfl Try.call41) hadd rfl rfl rfl (fun y => ?_)
    refine s_nil ?_
    refine f_blockN ?_
    refine f_then ?_
    refine c_region ?_
    refine s_y (y_add rfl rfl (by omega)) rfl rfl rfl ?_
    refine s_y (y_move rfl) rfl rfl rfl ?_
    refine s_nil ?_
    exact f_roundP (i + 1, y.1) ⟨hin, y.2⟩ (by dsimp only; omega) ⟨rfl, rfl, rfl, rfl, rfl, rfl, rfl, rfl, trivial⟩ (fun w h => h)
  have him : i = na := by omega
  subst him
  clear hge hv
  obtain ⟨L, R⟩ := x
  refine SC.cls (C' := K W ([(p, row 78 [ov L (2 * i), .slice (some ⟨bo, 0, none⟩) n n, nilS, nilS, .slice (some ⟨bh, 0, none⟩) n n])] :: linkCh (frN A) (ttN A) (fun _ => 0) (2 * i) L (roomL (capN A)) :: [(bh, ints 3 n (fun _ => 0) [])] :: restCh (frN A) (ttN A) bo n i R Ls)) ?_ (fun w h => anet_done hx h)
  refine c_exit ?_
  refine f_thenE ?_
  refine f_rndE ?_
  refine f_blockE ?_
  refine f_then ?_
  refine c_seq ?_
  refine c_region ?_
  refine s_y (y_move rfl) rfl rfl rfl ?_
  refine s_y (y_move rfl) rfl rfl rfl ?_
  refine s_y (y_move rfl) rfl rfl rfl ?_
  have hroom : ∀ k, k < 2 * i → 0 ≤ roomL (capN A) k ∧ roomL (capN A) k ≤ 1073741824 := fun k hk => by
    rcases half k with ⟨j, rfl⟩ | ⟨j, rfl⟩
    · have := (hN.arc j (by omega)).2.2.2.1; rw [roomL_even]; simp only [capN]; omega
    · rw [roomL_odd]; omega
  have hG := pgL (fr := frN A) (tt := ttN A) (cs := fun _ => 0) (n := n) (na := i) (fun j hj => ⟨hA1.frL j hj, hA1.ttL j hj⟩)
  refine s_call (en_f rfl Try.call47) (fill_spec W ([(bh, ints 3 n (fun _ => 0) [])] :: restCh (frN A) (ttN A) bo n i R Ls) p n (2 * i) s t (ov L (2 * i)) (.slice (some ⟨bo, 0, none⟩) n n) nilS nilS (.slice (some ⟨bh, 0, none⟩) n n) (linkCh (frN A) (ttN A) (fun _ => 0) (2 * i) L) (outsA (frN A) (ttN A) i) (toL (frN A) (ttN A)) (tlL (frN A) (ttN A)) (costL fun _ => 0) (fun _ => 0) (roomL (capN A)) 1125899906842624
    (anet_outV (Pre := [_]) hx) ⟨bh, rfl, fun v hv => cell_ints (g := fun _ => 0) 0 rfl hv⟩ (anet_linkC hx) hG ⟨fun k hk => by rcases half k with ⟨j, rfl⟩ | ⟨j, rfl⟩ <;> simp [costL_even, costL_odd], fun _ _ => by omega⟩ hA1.sL hA1.tL (by omega) (by omega) (by omega) (by omega) (fun k hk => (hroom k hk).1) (fun k hk => by have := hroom k hk; have := hroom (par2 k) (hG.par_lt k hk); omega)) rfl rfl rfl (fun x => ?_)
  obtain ⟨⟨v, room, a, b⟩, hfl⟩ := x
  dsimp only at hfl ⊢
  refine s_y (y_assign rfl) rfl rfl rfl ?_
  refine s_nil ?_
  refine f_then ?_
  refine c_seq ?_
  refine c_region ?_
  refine s_y (y_move rfl) rfl rfl rfl ?_
  refine s_y (y_move rfl) rfl rfl rfl ?_
  refine s_y (y_move rfl) rfl rfl rfl ?_
  refine s_call (en_f rfl Try.call48) (reach_spec W (linkCh (frN A) (ttN A) (fun _ => 0) (2 * i) L room :: [(bh, ints 3 n (fun _ => 0) [])] :: restCh (frN A) (ttN A) bo n i R Ls) p n (2 * i) s (ov L (2 * i)) (.slice (some ⟨bo, 0, none⟩) n n) a b (.slice (some ⟨bh, 0, none⟩) n n) (outsA (frN A) (ttN A) i) (toL (frN A) (ttN A)) room (costL fun _ => 0)
    (OutV.cls (C := K W ([_, _, _] ++ restCh (frN A) (ttN A) bo n i R Ls)) (anet_outV hx) fun w h => h) ((anet_linkC hx).linkV room |>.cls fun w h => h.tail) hG.gok hA1.sL (by omega) (by omega)) rfl rfl rfl (fun y => ?_)
  obtain ⟨⟨bg, g⟩, hR⟩ := y
  dsimp only at hR ⊢
  refine s_y (y_assign rfl) rfl rfl rfl ?_
  refine s_y (y_assign rfl) rfl rfl rfl ?_
  refine s_y (y_assign rfl) rfl rfl rfl ?_
  refine s_nil ?_
  refine f_then ?_
  refine c_ret ?_
  have hcut := fill_cut hA1 hfl hR (by
    have h1 := sm_bound i (fun j => if (decide (frN A j = s) && !decide (ttN A j = s)) then capN A j else 0) 1073741824 (fun j hj => by have := (hN.arc j hj).2.2.2.1; simp only [capN]; split <;> omega)
    exact Int.lt_of_le_of_lt (show cpc i _ _ _ _ ≤ _ from h1) (by omega))
  exact f_ret ⟨(v, fOf room, g, bg), hcut.1, hcut.2.1, hcut.2.2⟩ (res3 rfl rfl rfl rfl) (fun w h => restCh_tailP [[(bg, bools 4 n g [])]] (((h.dropAt 1).dropAt 1).dropAt 1))
end Go.KL
end

section
/- Walks: flow.Close. -/
namespace Go.KL
open Go.Proofs
attribute [local irreducible] SC St Fin Sq Sw Ylds Doos Sets Enters Spec CellIs CellsAre Then Ret Rnd Chn resOK ints bools recs arr
attribute [local irreducible] rvals lvals rowv anet linkCh restCh
section
variable (n : Nat) (w : Nat → Int) (Q : Nat → Pr)
def frC (j : Nat) : Nat := if j < n then (if 0 < w j then n else j) else (Q (j - n)).1.toNat
def ttC (j : Nat) : Nat := if j < n then (if 0 < w j then j else n + 1) else (Q (j - n)).2.toNat
def rmC (j : Nat) : Int := if j < n then (if 0 < w j then w j else - w j) else 1125899906842624
end
def gain (w : Nat → Int) (n : Nat) : Int := sm n fun i => if 0 < w i then w i else 0
theorem gain_bd {w : Nat → Int} : ∀ (n : Nat), (∀ i, i < n → -1073741824 ≤ w i ∧ w i ≤ 1073741824) → 0 ≤ gain w n ∧ gain w n ≤ n * 1073741824 := fun n h =>
  ⟨sm_nonneg n _ fun i _ => by split <;> omega, sm_bound n _ _ fun i hi => by have := h i hi; split <;> omega⟩
theorem gain_succ (w : Nat → Int) (i : Nat) : gain w (i + 1) = gain w i + (if 0 < w i then w i else 0) := rfl
theorem sm_split (n m : Nat) (f : Nat → Int) : sm (n + m) f = sm n f + sm m (fun i => f (n + i)) := by
  induction m with
  | zero => simp [sm]
  | succ m ih => rw [← Nat.add_assoc]; simp only [sm, ih]; omega
section
variable {n m : Nat} {w : Nat → Int} {Q : Nat → Pr}
theorem arcsC (hG : GoodsOK n w m Q) : Arcs1 (n + 2) (n + m) n (n + 1) (frC n w Q) (ttC n w Q) := by
  refine ⟨fun i hi => ?_, fun i hi => ?_, by omega, by omega, by omega⟩
  · unfold frC; split
    · split <;> omega
    · have := hG.hq (i - n) (by omega); omega
  · unfold ttC; split
    · split <;> omega
    · have := hG.hq (i - n) (by omega); omega
theorem cpcC (hG : GoodsOK n w m Q) : cpc (n + m) (frC n w Q) (ttC n w Q) (rmC n w) (fun u => decide (u = n)) = gain w n := by
  unfold cpc gain
  rw [sm_split]
  have h1 : sm m (fun i => if (decide (frC n w Q (n + i) = n) && !decide (ttC n w Q (n + i) = n)) then rmC n w (n + i) else 0) = 0 := sm_zero m _ fun i hi => by
    have := hG.hq i hi
    have e : frC n w Q (n + i) ≠ n := by unfold frC; rw [if_neg (by omega), Nat.add_sub_cancel_left]; omega
    simp [e]
  rw [h1, Int.add_zero]
  apply sm_congr
  intro i hi
  unfold frC ttC rmC
  simp only [hi, if_true]
  by_cases e : 0 < w i
  · have e2 : i ≠ n := by omega
    simp [e, e2]
  · have e2 : i ≠ n := by omega
    simp [e, e2]
end
/-- What Close returns. -/
structure ClosO (n m : Nat) (w : Nat → Int) (Q : Nat → Pr) (v : Int) (f : Nat → Int) (g : Nat → Bool) : Prop where
  fl : Flw (n + 2) (n + m) n (n + 1) (frC n w Q) (ttC n w Q) (rmC n w) 1 f (gain w n - v)
  rch : ReachP (n + 2) (n + m) n (frC n w Q) (ttC n w Q) (rmC n w) f g
  out : g (n + 1) = false
open Classical in
set_option maxHeartbeats 8000000 in
theorem close_spec (W : World) (Ls : List Chunk) (n m : Nat) (vw_ vq : Value) (w : Nat → Int) (Q : Nat → Pr) (hW : SlI (K W Ls) vw_ n w) (hQ : SlP (K W Ls) vq m Q) (hG : GoodsOK n w m Q) :
    Spec Try.prog 22 #[vw_, vq] (K W Ls)
      (X := { x : Int × (Nat → Int) × (Nat → Bool) × Nat // ClosO n m w Q x.1 x.2.1 x.2.2.1 })
      (fun x => .tuple #[.int .i64 x.1.1, .slice (some ⟨x.1.2.2.2, 0, none⟩) n n, .int .i64 0])
      (fun x => K W ([(x.1.2.2.2, bools 4 (n + 2) x.1.2.2.1 [])] :: Ls)) := by
  obtain ⟨pw, cw, rfl, _, hws⟩ := SlV.open1 hW
  obtain ⟨pq, cq, rfl, _, hqs⟩ := hQ.open
  have h_n := hG.hn; have h_m := hG.hm
  have hA1 := arcsC hG
  refine enter (args := [_, _]) Try.func22 rfl Try.ntmps22 rfl ?_
  refine c_seq ?_
  refine c_region ?_
  refine s_y (y_assign rfl) rfl rfl rfl ?_
  refine s_y (y_assign rfl) rfl rfl rfl ?_
  refine s_y (y_assign rfl) rfl rfl rfl ?_
  refine s_nil ?_
  refine f_then ?_
  refine c_seq ?_
  refine c_region ?_
  refine s_y (y_move rfl) rfl rfl rfl ?_
  refine s_y (y_len Try.tab rfl rfl) rfl rfl rfl ?_
  refine s_y (y_assign rfl) rfl rfl rfl ?_
  refine s_nil ?_
  refine f_then ?_
  refine c_seq ?_
  refine c_seq ?_
  refine c_region ?_
  refine s_y (y_move rfl) rfl rfl rfl ?_
  refine s_y (y_F (y_gtr rfl rfl) (by omega)) rfl rfl rfl ?_
  refine s_y (y_move rfl) rfl rfl rfl ?_
  refine s_y (y_move rfl) rfl rfl rfl ?_
  refine s_y (y_len Try.tab rfl rfl) rfl rfl rfl ?_
  refine s_y (y_F (y_gtr rfl rfl) (by omega)) rfl rfl rfl ?_
  refine s_y (y_pickF rfl rfl) rfl rfl rfl ?_
  refine s_nil ?_
  refine f_then ?_
  refine c_condF rfl ?_
  refine c_skip ?_
  refine f_then ?_
  refine c_seq ?_
  refine c_region ?_
  refine s_y (y_move rfl) rfl rfl rfl ?_
  refine s_y (y_move rfl) rfl rfl rfl ?_
  refine s_y (y_add rfl rfl (by omega)) rfl rfl rfl ?_
  refine s_y (y_assign rfl) rfl rfl rfl ?_
  refine s_y (y_assign rfl) rfl rfl rfl ?_
  refine s_nil ?_
  refine f_then ?_
  refine c_seq ?_
  refine c_region ?_
  refine s_y (y_move rfl) rfl rfl rfl ?_
  refine s_y (y_add rfl rfl (by omega)) rfl rfl rfl ?_
  have hnew := newNetwork_spec W Ls (n + 2) (by omega)
  have e0 : ((n + 2 : Nat) : Int) = (n : Int) + 2 := by omega
  rw [e0] at hnew
  refine s_call (en_f rfl Try.call40) hnew rfl rfl rfl (fun x => ?_)
  obtain ⟨p, bo, bh⟩ := x
  dsimp only
  refine s_y (y_assign rfl) rfl rfl rfl ?_
  refine s_nil ?_
  refine f_then ?_
  refine c_seq ?_
  refine c_region ?_
  refine s_y (y_assign rfl) rfl rfl rfl ?_
  refine s_nil ?_
  refine f_then ?_
  refine c_seq ?_
  refine c_seq ?_
  refine c_region ?_
  refine s_y (y_move rfl) rfl rfl rfl ?_
  refine s_y (y_len Try.tab rfl rfl) rfl rfl rfl ?_
  refine s_y (y_move rfl) rfl rfl rfl ?_
  refine s_nil ?_
  refine f_then ?_
  refine c_block ?_
  refine c_loopP (α := Nat × (Option Own × (Nat → Option Own))) (fun z => [(1, .slice pq m cq), (7, .int .i64 n), (8, .int .i64 n), (9, .int .i64 (n + 1)), (10, .pointer (some ⟨p, 0, none⟩)), (11, .int .i64 (gain w z.1)), (31, .slice pw n cw), (32, .int .i64 n), (33, .int .i64 z.1)])
    (fun z => z.1 ≤ n ∧ anOK (frC n w Q) (ttC n w Q) (rmC n w) (fun _ => 0) (n + 2) z.1 z.2)
    (fun z => K W (anet (frC n w Q) (ttC n w Q) (rmC n w) (fun _ => 0) p bo (n + 2) z.1 (.slice (some ⟨bh, 0, none⟩) (n + 2) (n + 2)) z.2 ([(bh, ints 3 (n + 2) (fun _ => 0) [])] :: Ls))) (fun z => n - z.1) (0, (none, fun _ => none))
    ⟨rfl, rfl, rfl, rfl, rfl, rfl, rfl, rfl, rfl, trivial⟩ ⟨Nat.zero_le _, anet_begin _ _ _ _ _⟩ (fun w h => anet_new _ _ _ _ h) ?_
  rintro ⟨i, x⟩ ⟨hi, hx⟩
  dsimp only at hi hx ⊢
  refine c_seq ?_
  refine c_region ?_
  refine s_y (y_lss rfl rfl) rfl rfl rfl ?_
  refine s_nil ?_
  refine f_then ?_
  refine c_seq ?_
  refine c_condD rfl (fun hlt => ?_) (fun hge => ?_)
  · have hin : i < n := by omega
    obtain ⟨bw, ow, rfl, hcw⟩ := hws (by omega)
    have hcl : ∀ w', K W (anet (frC n w Q) (ttC n w Q) (rmC n w) (fun _ => 0) p bo (n + 2) i (.slice (some ⟨bh, 0, none⟩) (n + 2) (n + 2)) x ([(bh, ints 3 (n + 2) (fun _ => 0) [])] :: Ls)) w' → K W Ls w' := fun w h => (anet_tail h).tail
    have hcw' := fun i (hi : i < n) => (hcw i hi).cls hcl
    have hwi := hG.hw i hin
    have hgb := gain_bd (w := w) i (fun j hj => hG.hw j (by omega))
    have hadd := padd_spec (frC n w Q) (ttC n w Q) (rmC n w) (fun _ => 0) W ([(bh, ints 3 (n + 2) (fun _ => 0) [])] :: Ls) p bo (n + 2) i (.slice (some ⟨bh, 0, none⟩) (n + 2) (n + 2)) x hx (hA1.frL i (by omega)) (hA1.ttL i (by omega)) (by omega) (by omega)
    refine c_skip ?_
    refine f_then ?_
    refine c_seq ?_
    refine c_block ?_
    refine c_seq ?_
    refine c_region ?_
    refine s_y (y_move rfl) rfl rfl rfl ?_
    refine s_y (y_indexAddr1o Try.tab rfl rfl rfl rfl _ rfl (by omega)) rfl rfl rfl ?_
    refine s_y (y_load Try.tab rfl rfl (hcw' _ (by omega))) rfl rfl rfl ?_
    refine s_y (y_assign rfl) rfl rfl rfl ?_
    refine s_y (y_assign rfl) rfl rfl rfl ?_
    refine s_nil ?_
    refine f_then ?_
    refine c_block ?_
    refine c_seq ?_
    refine c_region ?_
    refine s_y (y_move rfl) rfl rfl rfl ?_
    refine s_call (en_f rfl Try.call46) (within_spec _ _ _ _) rfl rfl rfl (fun _ => ?_)
    refine s_y (y_notD rfl) rfl rfl rfl ?_
    refine s_y (y_assign rfl) rfl rfl rfl ?_
    refine s_nil ?_
    refine f_then ?_
    refine c_condD rfl (fun h => absurd hwi h) (fun _ => ?_)
    refine c_seq ?_
    refine c_region ?_
    refine s_y (y_move rfl) rfl rfl rfl ?_
    refine s_y (y_gtr rfl rfl) rfl rfl rfl ?_
    refine s_y (y_assign rfl) rfl rfl rfl ?_
    refine s_nil ?_
    refine f_then ?_
    refine c_condD rfl (fun hp => ?_) (fun hnp => ?_)
    · have e1 : frC n w Q i = n := by unfold frC; rw [if_pos hin, if_pos hp]
      have e2 : ttC n w Q i = i := by unfold ttC; rw [if_pos hin, if_pos hp]
      have e3 : rmC n w i = w i := by unfold rmC; rw [if_pos hin, if_pos hp]
      rw [e1, e2, e3] at hadd
      refine c_seq ?_
      refine c_region ?_
      refine s_y (y_move rfl) rfl rfl rfl ?_
      refine s_y (y_move rfl) rfl rfl rfl ?_
      refine s_y (y_add rfl rfl (by omega)) rfl rfl rfl ?_
      refine s_y (y_assign rfl) rfl rfl rfl ?_
      refine s_nil ?_
      refine f_then ?_
      refine c_region ?_
      refine s_y (y_move rfl) rfl rfl rfl ?_
      refine s_y (y_move rfl) rfl rfl rfl ?_
      refine s_y (y_move rfl) rfl rfl rfl ?_
      refine s_y (y_move rfl) rfl rfl rfl ?_
      refine s_call (en_f rfl Try.call41) hadd rfl rfl rfl (fun y => ?_)
      refine s_nil ?_
      refine f_blockN ?_
      refine f_blockN ?_
      refine f_then ?_
      refine c_region ?_
      refine s_y (y_add rfl rfl (by omega)) rfl rfl rfl ?_
      refine s_y (y_move rfl) rfl rfl rfl ?_
      refine s_nil ?_
      refine f_roundP (i + 1, y.1) ⟨hin, y.2⟩ (by dsimp only; omega) ⟨rfl, rfl, rfl, rfl, rfl, ?_, rfl, rfl, rfl, trivial⟩ (fun w h => h)
      dsimp only
      rw [gain_succ, if_pos hp]; rfl
    · have e1 : frC n w Q i = i := by unfold frC; rw [if_pos hin, if_neg hnp]
      have e2 : ttC n w Q i = n + 1 := by unfold ttC; rw [if_pos hin, if_neg hnp]
      have e3 : rmC n w i = - w i := by unfold rmC; rw [if_pos hin, if_neg hnp]
      have e4 : ((n + 1 : Nat) : Int) = (n : Int) + 1 := by omega
      rw [e1, e2, e3, e4] at hadd
      refine c_region ?_
      refine s_y (y_move rfl) rfl rfl rfl ?_
      refine s_y (y_move rfl) rfl rfl rfl ?_
      refine s_y (y_move rfl) rfl rfl rfl ?_
      refine s_y (y_move rfl) rfl rfl rfl ?_
      refine s_y (y_neg rfl (by omega)) rfl rfl rfl ?_
      refine s_call (en_f rfl Try.call41) hadd rfl rfl rfl (fun y => ?_)
      refine s_nil ?_
      refine f_blockN ?_
      refine f_blockN ?_
      refine f_then ?_
      refine c_region ?_
      refine s_y (y_add rfl rfl (by omega)) rfl rfl rfl ?_
      refine s_y (y_move rfl) rfl rfl rfl ?_
      refine s_nil ?_
      refine f_roundP (i + 1, y.1) ⟨hin, y.2⟩ (by dsimp only; omega) ⟨rfl, rfl, rfl, rfl, rfl, ?_, rfl, rfl, rfl, trivial⟩ (fun w h => h)
      dsimp only
      rw [gain_succ, if_neg hnp, Int.add_zero]; rfl
  have him : i = n := by omega
  subst him
  clear hge hnew
  refine c_exit ?_
  refine f_thenE ?_
  refine f_rndE ?_
  refine f_blockE ?_
  refine f_then ?_
  refine c_seq ?_
  refine c_seq ?_
  refine c_region ?_
  refine s_y (y_move rfl) rfl rfl rfl ?_
  refine s_y (y_len Try.tab rfl rfl) rfl rfl rfl ?_
  refine s_y (y_move rfl) rfl rfl rfl ?_
  refine s_nil ?_
  refine f_then ?_
  refine c_block ?_
  refine c_loopP (α := Nat × (Option Own × (Nat → Option Own))) (fun z => [(7, .int .i64 i), (8, .int .i64 i), (9, .int .i64 (i + 1)), (10, .pointer (some ⟨p, 0, none⟩)), (11, .int .i64 (gain w i)), (60, .slice pq m cq), (61, .int .i64 m), (62, .int .i64 z.1)])
    (fun z => z.1 ≤ m ∧ anOK (frC i w Q) (ttC i w Q) (rmC i w) (fun _ => 0) (i + 2) (i + z.1) z.2)
    (fun z => K W (anet (frC i w Q) (ttC i w Q) (rmC i w) (fun _ => 0) p bo (i + 2) (i + z.1) (.slice (some ⟨bh, 0, none⟩) (i + 2) (i + 2)) z.2 ([(bh, ints 3 (i + 2) (fun _ => 0) [])] :: Ls))) (fun z => m - z.1) (0, x)
    ⟨rfl, rfl, rfl, rfl, rfl, rfl, rfl, rfl, trivial⟩ ⟨Nat.zero_le _, hx⟩ (fun w h => h) ?_
  rintro ⟨k, x⟩ ⟨hk, hx⟩
  dsimp only at hk hx ⊢
  refine c_seq ?_
  refine c_region ?_
  refine s_y (y_lss rfl rfl) rfl rfl rfl ?_
  refine s_nil ?_
  refine f_then ?_
  refine c_seq ?_
  refine c_condD rfl (fun hlt => ?_) (fun hge => ?_)
  · have hkn : k < m := by omega
    obtain ⟨bq, oq, rfl, hcq, hq0, hq1⟩ := hqs (by omega)
    have hcl : ∀ w', K W (anet (frC i w Q) (ttC i w Q) (rmC i w) (fun _ => 0) p bo (i + 2) (i + k) (.slice (some ⟨bh, 0, none⟩) (i + 2) (i + 2)) x ([(bh, ints 3 (i + 2) (fun _ => 0) [])] :: Ls)) w' → K W Ls w' := fun w h => (anet_tail h).tail
    have hcq' := fun i (hi : i < m) => (hcq i hi).cls hcl
    have hri := hG.hq k hkn
    have hadd := padd_spec (frC i w Q) (ttC i w Q) (rmC i w) (fun _ => 0) W ([(bh, ints 3 (i + 2) (fun _ => 0) [])] :: Ls) p bo (i + 2) (i + k) (.slice (some ⟨bh, 0, none⟩) (i + 2) (i + 2)) x hx (hA1.frL (i + k) (by omega)) (hA1.ttL (i + k) (by omega)) (by omega) (by omega)
    have e1 : ((frC i w Q (i + k) : Nat) : Int) = (Q k).1 := by unfold frC; rw [if_neg (by omega), Nat.add_sub_cancel_left]; omega
    have e2 : ((ttC i w Q (i + k) : Nat) : Int) = (Q k).2 := by unfold ttC; rw [if_neg (by omega), Nat.add_sub_cancel_left]; omega
    have e3 : rmC i w (i + k) = 1125899906842624 := by unfold rmC; rw [if_neg (by omega)]
    rw [e1, e2, e3] at hadd
    refine c_skip ?_
    refine f_then ?_
    refine c_seq ?_
    refine c_block ?_
    refine c_seq ?_
    refine c_region ?_
    refine s_y (y_indexAddr (s := 2) Try.tab rfl rfl rfl rfl _ rfl (by omega)) rfl rfl rfl ?_
    refine s_y (y_loadA Try.tab rfl rfl rfl rfl (hcq' _ (by omega))) rfl rfl rfl ?_
    refine s_do (do_alloc Try.tab rfl) rfl rfl rfl (fun b15 => ?_)
    refine s_set (set_box Try.tab 0 rfl rfl rfl rfl rfl rfl rfl) rfl rfl ?_
    refine s_nil ?_
    refine f_then ?_
    refine c_seq ?_
    refine c_chain 79 (decide (False)) ?_ ?_
    · refine c_region ?_
      refine s_y (y_indexArrB Try.tab rfl rfl rfl rfl 0 rfl (by omega)) rfl rfl rfl ?_
      refine s_y (y_load Try.tab rfl rfl (cell_row 0 rfl rfl)) rfl rfl rfl ?_
      refine s_y (y_move rfl) rfl rfl rfl ?_
      refine s_y (y_sub rfl rfl (by omega)) rfl rfl rfl ?_
      refine s_call (en_f rfl Try.call46) (within_spec _ _ _ _) rfl rfl rfl (fun _ => ?_)
      refine s_y (y_notD rfl) rfl rfl rfl ?_
      refine s_y (y_move rfl) rfl rfl rfl ?_
      refine s_case 72 rfl (fun c0 => ?_) (fun c0 => ?_)
      · refine s_skip rfl rfl rfl ?_
        iterate 5 refine s_skip rfl rfl rfl ?_
        refine s_y (y_pickT rfl rfl) rfl rfl rfl ?_
        refine s_nil ?_
        exact f_chain rfl ((decide_eq_true (by omega)).symm) ⟨rfl, rfl, rfl, rfl, rfl, rfl, rfl, rfl, rfl, rfl, rfl, rfl, trivial⟩
      · refine s_y (y_indexArrB Try.tab rfl rfl rfl rfl 1 rfl (by omega)) rfl rfl rfl ?_
        refine s_y (y_load Try.tab rfl rfl (cell_row 0 rfl rfl)) rfl rfl rfl ?_
        refine s_y (y_move rfl) rfl rfl rfl ?_
        refine s_y (y_sub rfl rfl (by omega)) rfl rfl rfl ?_
        refine s_call (en_f rfl Try.call46) (within_spec _ _ _ _) rfl rfl rfl (fun _ => ?_)
        refine s_y (y_notD rfl) rfl rfl rfl ?_
        refine s_y (y_pickF rfl rfl) rfl rfl rfl ?_
        refine s_nil ?_
        exact f_chain rfl ((by grind)) ⟨rfl, rfl, rfl, rfl, rfl, rfl, rfl, rfl, rfl, rfl, rfl, rfl, trivial⟩
    refine c_condD rfl (fun h => h.elim) (fun _ => ?_)
    refine c_skip ?_
    refine f_then ?_
    refine c_region ?_
    refine s_y (y_move rfl) rfl rfl rfl ?_
    refine s_y (y_indexArrB Try.tab rfl rfl rfl rfl 0 rfl (by omega)) rfl rfl rfl ?_
    refine s_y (y_load Try.tab rfl rfl (cell_row 0 rfl rfl)) rfl rfl rfl ?_
    refine s_y (y_indexArrB Try.tab rfl rfl rfl rfl 1 rfl (by omega)) rfl rfl rfl ?_
    refine s_y (y_load Try.tab rfl rfl (cell_row 0 rfl rfl)) rfl rfl rfl ?_
    refine St.cls (C' := K W (anet (frC i w Q) (ttC i w Q) (rmC i w) (fun _ => 0) p bo (i + 2) (i + k) (.slice (some ⟨bh, 0, none⟩) (i + 2) (i + 2)) x ([(bh, ints 3 (i + 2) (fun _ => 0) [])] :: Ls))) ?_ (fun w h => h.tail)
    refine s_call (en_f rfl Try.call41) hadd rfl rfl rfl (fun y => ?_)
    refine s_nil ?_
    refine f_blockN ?_
    refine f_then ?_
    refine c_region ?_
    refine s_y (y_add rfl rfl (by omega)) rfl rfl rfl ?_
    refine s_y (y_move rfl) rfl rfl rfl ?_
    refine s_nil ?_
    exact f_roundP (k + 1, y.1) ⟨hkn, y.2⟩ (by dsimp only; omega) ⟨rfl, rfl, rfl, rfl, rfl, rfl, rfl, rfl, trivial⟩ (fun w h => h)
  have hkm : k = m := by omega
  subst hkm
  clear hge
  obtain ⟨L, R⟩ := x
  refine SC.cls (C' := K W ([(p, row 78 [ov L (2 * (i + k)), .slice (some ⟨bo, 0, none⟩) (i + 2) (i + 2), nilS, nilS, .slice (some ⟨bh, 0, none⟩) (i + 2) (i + 2)])] :: linkCh (frC i w Q) (ttC i w Q) (fun _ => 0) (2 * (i + k)) L (roomL (rmC i w)) :: [(bh, ints 3 (i + 2) (fun _ => 0) [])] :: restCh (frC i w Q) (ttC i w Q) bo (i + 2) (i + k) R Ls)) ?_ (fun w h => anet_done hx h)
  refine c_exit ?_
  refine f_thenE ?_
  refine f_rndE ?_
  refine f_blockE ?_
  refine f_then ?_
  refine c_seq ?_
  refine c_region ?_
  refine s_y (y_move rfl) rfl rfl rfl ?_
  refine s_y (y_move rfl) rfl rfl rfl ?_
  refine s_y (y_move rfl) rfl rfl rfl ?_
  refine s_y (y_move rfl) rfl rfl rfl ?_
  have hrm : ∀ j, 0 ≤ rmC i w j ∧ (j < i + k → rmC i w j ≤ 1125899906842624) := fun j => by
    unfold rmC
    split
    · rename_i h
      have := hG.hw j h
      split <;> omega
    · omega
  have hroom : ∀ j, j < 2 * (i + k) → 0 ≤ roomL (rmC i w) j ∧ roomL (rmC i w) j ≤ 1125899906842624 := fun j hj => by
    rcases half j with ⟨j, rfl⟩ | ⟨j, rfl⟩
    · have := hrm j; rw [roomL_even]; omega
    · rw [roomL_odd]; omega
  have hG2 := pgL (fr := frC i w Q) (tt := ttC i w Q) (cs := fun _ => 0) (n := i + 2) (na := i + k) (fun j hj => ⟨hA1.frL j hj, hA1.ttL j hj⟩)
  have hfill := fill_spec W ([(bh, ints 3 (i + 2) (fun _ => 0) [])] :: restCh (frC i w Q) (ttC i w Q) bo (i + 2) (i + k) R Ls) p (i + 2) (2 * (i + k)) i (i + 1) (ov L (2 * (i + k))) (.slice (some ⟨bo, 0, none⟩) (i + 2) (i + 2)) nilS nilS (.slice (some ⟨bh, 0, none⟩) (i + 2) (i + 2)) (linkCh (frC i w Q) (ttC i w Q) (fun _ => 0) (2 * (i + k)) L) (outsA (frC i w Q) (ttC i w Q) (i + k)) (toL (frC i w Q) (ttC i w Q)) (tlL (frC i w Q) (ttC i w Q)) (costL fun _ => 0) (fun _ => 0) (roomL (rmC i w)) 1125899906842624
    (anet_outV (Pre := [_]) hx) ⟨bh, rfl, fun v hv => cell_ints (g := fun _ => 0) 0 rfl hv⟩ (anet_linkC hx) hG2 ⟨fun k hk => by rcases half k with ⟨j, rfl⟩ | ⟨j, rfl⟩ <;> simp [costL_even, costL_odd], fun _ _ => by omega⟩ hA1.sL hA1.tL (by omega) (by omega) (by omega) (by omega) (fun k hk => (hroom k hk).1) (fun k hk => by have := hroom k hk; have := hroom (par2 k) (hG2.par_lt k hk); omega)
  have e4 : ((i + 1 : Nat) : Int) = (i : Int) + 1 := by omega
  rw [e4] at hfill
  refine s_call (en_f rfl Try.call47) hfill rfl rfl rfl (fun x => ?_)
  obtain ⟨⟨v, room, a, b⟩, hfl⟩ := x
  dsimp only at hfl ⊢
  have hv0 := hfl.fl.lo
  have hv1 := hfl.hi
  have hgb := gain_bd (w := w) i hG.hw
  refine s_y (y_sub rfl rfl (by omega)) rfl rfl rfl ?_
  refine s_y (y_assign rfl) rfl rfl rfl ?_
  refine s_nil ?_
  refine f_then ?_
  refine c_seq ?_
  refine c_plan [.c 0, .c 1, .c 2, .c 4, .c 5, .s 3, .c 6, .c 7, .c 8, .c 9] [] ((K W ([(p, row 78 [ov L (2 * (i + k)), .slice (some ⟨bo, 0, none⟩) (i + 2) (i + 2), a, b, .slice (some ⟨bh, 0, none⟩) (i + 2) (i + 2)])] :: linkCh (frC i w Q) (ttC i w Q) (fun _ => 0) (2 * (i + k)) L room :: [(bh, ints 3 (i + 2) (fun _ => 0) [])] :: restCh (frC i w Q) (ttC i w Q) bo (i + 2) (i + k) R Ls))) Try.mixed (by kernel_rfl) rfl K.cl ?_
  refine d_c rfl (Qui.ylds (y_move rfl)) rfl rfl rfl (fun _ h => h) K.cl ?_
  refine d_c rfl (Qui.ylds (y_move rfl)) rfl rfl rfl (fun _ h => h) K.cl ?_
  refine d_c rfl (Qui.ylds (y_move rfl)) rfl rfl rfl (fun _ h => h) K.cl ?_
  refine d_c rfl (Qui.ylds (y_move rfl)) rfl rfl rfl (fun _ h => h) K.cl ?_
  refine d_c rfl (Qui.ylds (y_move rfl)) rfl rfl rfl (fun _ h => h) K.cl ?_
  refine d_call rfl (en_f rfl Try.call48) (reach_spec W (linkCh (frC i w Q) (ttC i w Q) (fun _ => 0) (2 * (i + k)) L room :: [(bh, ints 3 (i + 2) (fun _ => 0) [])] :: restCh (frC i w Q) (ttC i w Q) bo (i + 2) (i + k) R Ls) p (i + 2) (2 * (i + k)) i (ov L (2 * (i + k))) (.slice (some ⟨bo, 0, none⟩) (i + 2) (i + 2)) a b (.slice (some ⟨bh, 0, none⟩) (i + 2) (i + 2)) (outsA (frC i w Q) (ttC i w Q) (i + k)) (toL (frC i w Q) (ttC i w Q)) room (costL fun _ => 0)
    (OutV.cls (C := K W ([_, _, _] ++ restCh (frC i w Q) (ttC i w Q) bo (i + 2) (i + k) R Ls)) (anet_outV hx) fun w h => h) ((anet_linkC hx).linkV room |>.cls fun w h => h.tail) hG2.gok hA1.sL (by omega) (by omega)) rfl rfl rfl (fun _ => K.cl) (fun _ _ _ h => h.tail) (fun y => ?_)
  obtain ⟨⟨bg, g⟩, hR⟩ := y
  dsimp only at hR ⊢
  refine d_c rfl (Qui.ylds (y_slice3To Try.tab rfl rfl rfl rfl rfl rfl rfl (by omega) (by omega))) rfl rfl rfl (fun _ h => h.tail) K.cl ?_
  refine d_c rfl (Qui.ylds (y_assign rfl)) rfl rfl rfl (fun _ h => h.tail) K.cl ?_
  refine d_c rfl (Qui.ylds (y_assign rfl)) rfl rfl rfl (fun _ h => h.tail) K.cl ?_
  refine d_c rfl (Qui.ylds (y_assign rfl)) rfl rfl rfl (fun _ h => h.tail) K.cl ?_
  refine d_nil ?_
  refine f_then ?_
  refine c_ret ?_
  have hcut := fill_cut hA1 hfl hR (by rw [cpcC hG]; omega)
  have e5 : gain w i - (gain w i - v) = v := by omega
  exact f_ret ⟨(gain w i - v, fOf room, g, bg), by rw [← e5] at hcut; exact hcut.1, hcut.2.1, hcut.2.2⟩ (res3 rfl rfl rfl rfl) (fun w h => restCh_tailP [[(bg, bools 4 (i + 2) g [])]] (((h.dropAt 1).dropAt 1).dropAt 1))
end Go.KL
end

section
/- Walks: flow.Close's errors. -/
namespace Go.KL
open Go.Proofs
attribute [local irreducible] SC St Fin Sq Sw Ylds Doos Sets Enters Spec CellIs CellsAre Then Ret Rnd Chn resOK ints bools recs arr
attribute [local irreducible] rvals lvals rowv anet linkCh restCh
theorem frC_lt {n : Nat} {w : Nat → Int} {Q : Nat → Pr} {i : Nat} (hi : i < n) : frC n w Q i < n + 2 ∧ ttC n w Q i < n + 2 := by
  unfold frC ttC; rw [if_pos hi, if_pos hi]; split <;> omega
open Classical in
set_option maxHeartbeats 8000000 in
theorem close_bad_spec (W : World) (Ls : List Chunk) (n m : Nat) (vw_ vq : Value) (w : Nat → Int) (Q : Nat → Pr) (hW : SlI (K W Ls) vw_ n w) (hQ : SlP (K W Ls) vq m Q) (hG : ¬ GoodsOK n w m Q) (hb : n ≤ 1000000000 ∧ m ≤ 1000000000) :
    Spec Try.prog 22 #[vw_, vq] (K W Ls) (fun _ : Unit => .tuple #[.int .i64 0, nilS, .int .i64 2]) (fun _ => K W Ls) := by
  obtain ⟨pw, cw, rfl, _, hws⟩ := SlV.open1 hW
  obtain ⟨pq, cq, rfl, _, hqs⟩ := hQ.open
  refine enter (args := [_, _]) Try.func22 rfl Try.ntmps22 rfl ?_
  refine c_seq ?_
  refine c_region ?_
  refine s_y (y_assign rfl) rfl rfl rfl ?_
  refine s_y (y_assign rfl) rfl rfl rfl ?_
  refine s_y (y_assign rfl) rfl rfl rfl ?_
  refine s_nil ?_
  refine f_then ?_
  refine c_seq ?_
  refine c_region ?_
  refine s_y (y_move rfl) rfl rfl rfl ?_
  refine s_y (y_len Try.tab rfl rfl) rfl rfl rfl ?_
  refine s_y (y_assign rfl) rfl rfl rfl ?_
  refine s_nil ?_
  refine f_then ?_
  refine c_seq ?_
  refine c_chain 24 (decide (120 < n ∨ 1024 < m)) ?_ ?_
  · refine c_region ?_
    refine s_y (y_move rfl) rfl rfl rfl ?_
    refine s_y (y_gtr rfl rfl) rfl rfl rfl ?_
    refine s_y (y_move rfl) rfl rfl rfl ?_
    refine s_case 20 rfl (fun c0 => ?_) (fun c0 => ?_)
    · refine s_skip rfl rfl rfl ?_
      iterate 2 refine s_skip rfl rfl rfl ?_
      refine s_y (y_pickT rfl rfl) rfl rfl rfl ?_
      refine s_nil ?_
      exact f_chain rfl ((decide_eq_true (by omega)).symm) ⟨rfl, rfl, rfl, rfl, rfl, rfl, rfl, rfl, trivial⟩
    · refine s_y (y_move rfl) rfl rfl rfl ?_
      refine s_y (y_len Try.tab rfl rfl) rfl rfl rfl ?_
      refine s_y (y_gtr rfl rfl) rfl rfl rfl ?_
      refine s_y (y_pickF rfl rfl) rfl rfl rfl ?_
      refine s_nil ?_
      exact f_chain rfl (decide_eq_decide.2 (by omega)) ⟨rfl, rfl, rfl, rfl, rfl, rfl, rfl, rfl, trivial⟩
  refine c_condD rfl (fun hbig => ?_) (fun hsm => ?_)
  · refine c_seq ?_
    refine c_region ?_
    refine s_y (y_assign rfl) rfl rfl rfl ?_
    refine s_y (y_assign rfl) rfl rfl rfl ?_
    refine s_y (y_assign rfl) rfl rfl rfl ?_
    refine s_nil ?_
    refine f_then ?_
    refine c_ret ?_
    refine f_thenR ?_
    exact f_ret () (res3 rfl rfl rfl rfl) (fun w h => h)
  refine c_skip ?_
  refine f_then ?_
  refine c_seq ?_
  refine c_region ?_
  refine s_y (y_move rfl) rfl rfl rfl ?_
  refine s_y (y_move rfl) rfl rfl rfl ?_
  refine s_y (y_add rfl rfl (by omega)) rfl rfl rfl ?_
  refine s_y (y_assign rfl) rfl rfl rfl ?_
  refine s_y (y_assign rfl) rfl rfl rfl ?_
  refine s_nil ?_
  refine f_then ?_
  refine c_seq ?_
  refine c_region ?_
  refine s_y (y_move rfl) rfl rfl rfl ?_
  refine s_y (y_add rfl rfl (by omega)) rfl rfl rfl ?_
  have hnew := newNetwork_spec W Ls (n + 2) (by omega)
  have e0 : ((n + 2 : Nat) : Int) = (n : Int) + 2 := by omega
  rw [e0] at hnew
  refine s_call (en_f rfl Try.call40) hnew rfl rfl rfl (fun x => ?_)
  obtain ⟨p, bo, bh⟩ := x
  dsimp only
  refine s_y (y_assign rfl) rfl rfl rfl ?_
  refine s_nil ?_
  refine f_then ?_
  refine c_seq ?_
  refine c_region ?_
  refine s_y (y_assign rfl) rfl rfl rfl ?_
  refine s_nil ?_
  refine f_then ?_
  refine c_seq ?_
  refine c_seq ?_
  refine c_region ?_
  refine s_y (y_move rfl) rfl rfl rfl ?_
  refine s_y (y_len Try.tab rfl rfl) rfl rfl rfl ?_
  refine s_y (y_move rfl) rfl rfl rfl ?_
  refine s_nil ?_
  refine f_then ?_
  refine c_block ?_
  refine c_loopP (α := Nat × (Option Own × (Nat → Option Own))) (fun z => [(1, .slice pq m cq), (7, .int .i64 n), (8, .int .i64 n), (9, .int .i64 (n + 1)), (10, .pointer (some ⟨p, 0, none⟩)), (11, .int .i64 (gain w z.1)), (31, .slice pw n cw), (32, .int .i64 n), (33, .int .i64 z.1)])
    (fun z => z.1 ≤ n ∧ anOK (frC n w Q) (ttC n w Q) (rmC n w) (fun _ => 0) (n + 2) z.1 z.2 ∧ ∀ j, j < z.1 → -1073741824 ≤ w j ∧ w j ≤ 1073741824)
    (fun z => K W (anet (frC n w Q) (ttC n w Q) (rmC n w) (fun _ => 0) p bo (n + 2) z.1 (.slice (some ⟨bh, 0, none⟩) (n + 2) (n + 2)) z.2 ([(bh, ints 3 (n + 2) (fun _ => 0) [])] :: Ls))) (fun z => n - z.1) (0, (none, fun _ => none))
    ⟨rfl, rfl, rfl, rfl, rfl, rfl, rfl, rfl, rfl, trivial⟩ ⟨Nat.zero_le _, anet_begin _ _ _ _ _, fun j hj => absurd hj (Nat.not_lt_zero j)⟩ (fun w h => anet_new _ _ _ _ h) ?_
  rintro ⟨i, x⟩ ⟨hi, hx, hok⟩
  dsimp only at hi hx hok ⊢
  refine c_seq ?_
  refine c_region ?_
  refine s_y (y_lss rfl rfl) rfl rfl rfl ?_
  refine s_nil ?_
  refine f_then ?_
  refine c_seq ?_
  refine c_condD rfl (fun hlt => ?_) (fun hge => ?_)
  · have hin : i < n := by omega
    obtain ⟨bw, ow, rfl, hcw⟩ := hws (by omega)
    have hcl : ∀ w', K W (anet (frC n w Q) (ttC n w Q) (rmC n w) (fun _ => 0) p bo (n + 2) i (.slice (some ⟨bh, 0, none⟩) (n + 2) (n + 2)) x ([(bh, ints 3 (n + 2) (fun _ => 0) [])] :: Ls)) w' → K W Ls w' := fun w h => (anet_tail h).tail
    have hcw' := fun i (hi : i < n) => (hcw i hi).cls hcl
    have hgb := gain_bd (w := w) i hok
    have hadd := padd_spec (frC n w Q) (ttC n w Q) (rmC n w) (fun _ => 0) W ([(bh, ints 3 (n + 2) (fun _ => 0) [])] :: Ls) p bo (n + 2) i (.slice (some ⟨bh, 0, none⟩) (n + 2) (n + 2)) x hx (frC_lt hin).1 (frC_lt hin).2 (by omega) (by omega)
    refine c_skip ?_
    refine f_then ?_
    refine c_seq ?_
    refine c_block ?_
    refine c_seq ?_
    refine c_region ?_
    refine s_y (y_move rfl) rfl rfl rfl ?_
    refine s_y (y_indexAddr1o Try.tab rfl rfl rfl rfl _ rfl (by omega)) rfl rfl rfl ?_
    refine s_y (y_load Try.tab rfl rfl (hcw' _ (by omega))) rfl rfl rfl ?_
    refine s_y (y_assign rfl) rfl rfl rfl ?_
    refine s_y (y_assign rfl) rfl rfl rfl ?_
    refine s_nil ?_
    refine f_then ?_
    refine c_block ?_
    refine c_seq ?_
    refine c_region ?_
    refine s_y (y_move rfl) rfl rfl rfl ?_
    refine s_call (en_f rfl Try.call46) (within_spec _ _ _ _) rfl rfl rfl (fun _ => ?_)
    refine s_y (y_notD rfl) rfl rfl rfl ?_
    refine s_y (y_assign rfl) rfl rfl rfl ?_
    refine s_nil ?_
    refine f_then ?_
    refine c_condD rfl (fun hbad => ?_) (fun hgd => ?_)
    · refine c_seq ?_
      refine c_region ?_
      refine s_y (y_assign rfl) rfl rfl rfl ?_
      refine s_y (y_assign rfl) rfl rfl rfl ?_
      refine s_y (y_assign rfl) rfl rfl rfl ?_
      refine s_nil ?_
      refine f_then ?_
      refine c_ret ?_
      refine f_blockR ?_
      refine f_blockR ?_
      refine f_thenR ?_
      refine f_rndR ?_
      refine f_blockR ?_
      refine f_thenR ?_
      exact f_ret () (res3 rfl rfl rfl rfl) (fun w h => (anet_tail h).tail)
    have hwi : -1073741824 ≤ w i ∧ w i ≤ 1073741824 := by omega
    have hok2 : ∀ j, j < i + 1 → -1073741824 ≤ w j ∧ w j ≤ 1073741824 := fun j hj => by
      by_cases e : j = i
      · subst e; exact hwi
      · exact hok j (by omega)
    refine c_seq ?_
    refine c_region ?_
    refine s_y (y_move rfl) rfl rfl rfl ?_
    refine s_y (y_gtr rfl rfl) rfl rfl rfl ?_
    refine s_y (y_assign rfl) rfl rfl rfl ?_
    refine s_nil ?_
    refine f_then ?_
    refine c_condD rfl (fun hp => ?_) (fun hnp => ?_)
    · have e1 : frC n w Q i = n := by unfold frC; rw [if_pos hin, if_pos hp]
      have e2 : ttC n w Q i = i := by unfold ttC; rw [if_pos hin, if_pos hp]
      have e3 : rmC n w i = w i := by unfold rmC; rw [if_pos hin, if_pos hp]
      rw [e1, e2, e3] at hadd
      refine c_seq ?_
      refine c_region ?_
      refine s_y (y_move rfl) rfl rfl rfl ?_
      refine s_y (y_move rfl) rfl rfl rfl ?_
      refine s_y (y_add rfl rfl (by omega)) rfl rfl rfl ?_
      refine s_y (y_assign rfl) rfl rfl rfl ?_
      refine s_nil ?_
      refine f_then ?_
      refine c_region ?_
      refine s_y (y_move rfl) rfl rfl rfl ?_
      refine s_y (y_move rfl) rfl rfl rfl ?_
      refine s_y (y_move rfl) rfl rfl rfl ?_
      refine s_y (y_move rfl) rfl rfl rfl ?_
      refine s_call (en_f rfl Try.call41) hadd rfl rfl rfl (fun y => ?_)
      refine s_nil ?_
      refine f_blockN ?_
      refine f_blockN ?_
      refine f_then ?_
      refine c_region ?_
      refine s_y (y_add rfl rfl (by omega)) rfl rfl rfl ?_
      refine s_y (y_move rfl) rfl rfl rfl ?_
      refine s_nil ?_
      refine f_roundP (i + 1, y.1) ⟨hin, y.2, hok2⟩ (by dsimp only; omega) ⟨rfl, rfl, rfl, rfl, rfl, ?_, rfl, rfl, rfl, trivial⟩ (fun w h => h)
      dsimp only
      rw [gain_succ, if_pos hp]; rfl
    · have e1 : frC n w Q i = i := by unfold frC; rw [if_pos hin, if_neg hnp]
      have e2 : ttC n w Q i = n + 1 := by unfold ttC; rw [if_pos hin, if_neg hnp]
      have e3 : rmC n w i = - w i := by unfold rmC; rw [if_pos hin, if_neg hnp]
      have e4 : ((n + 1 : Nat) : Int) = (n : Int) + 1 := by omega
      rw [e1, e2, e3, e4] at hadd
      refine c_region ?_
      refine s_y (y_move rfl) rfl rfl rfl ?_
      refine s_y (y_move rfl) rfl rfl rfl ?_
      refine s_y (y_move rfl) rfl rfl rfl ?_
      refine s_y (y_move rfl) rfl rfl rfl ?_
      refine s_y (y_neg rfl (by omega)) rfl rfl rfl ?_
      refine s_call (en_f rfl Try.call41) hadd rfl rfl rfl (fun y => ?_)
      refine s_nil ?_
      refine f_blockN ?_
      refine f_blockN ?_
      refine f_then ?_
      refine c_region ?_
      refine s_y (y_add rfl rfl (by omega)) rfl rfl rfl ?_
      refine s_y (y_move rfl) rfl rfl rfl ?_
      refine s_nil ?_
      refine f_roundP (i + 1, y.1) ⟨hin, y.2, hok2⟩ (by dsimp only; omega) ⟨rfl, rfl, rfl, rfl, rfl, ?_, rfl, rfl, rfl, trivial⟩ (fun w h => h)
      dsimp only
      rw [gain_succ, if_neg hnp, Int.add_zero]; rfl
  have him : i = n := by omega
  subst him
  clear hge hnew
  refine c_exit ?_
  refine f_thenE ?_
  refine f_rndE ?_
  refine f_blockE ?_
  refine f_then ?_
  refine c_seq ?_
  refine c_seq ?_
  refine c_region ?_
  refine s_y (y_move rfl) rfl rfl rfl ?_
  refine s_y (y_len Try.tab rfl rfl) rfl rfl rfl ?_
  refine s_y (y_move rfl) rfl rfl rfl ?_
  refine s_nil ?_
  refine f_then ?_
  refine c_block ?_
  refine c_loopP (α := Nat × (Option Own × (Nat → Option Own))) (fun z => [(7, .int .i64 i), (8, .int .i64 i), (9, .int .i64 (i + 1)), (10, .pointer (some ⟨p, 0, none⟩)), (11, .int .i64 (gain w i)), (60, .slice pq m cq), (61, .int .i64 m), (62, .int .i64 z.1)])
    (fun z => z.1 ≤ m ∧ anOK (frC i w Q) (ttC i w Q) (rmC i w) (fun _ => 0) (i + 2) (i + z.1) z.2 ∧ ∀ j, j < z.1 → (0 ≤ (Q j).1 ∧ (Q j).1 < i) ∧ 0 ≤ (Q j).2 ∧ (Q j).2 < i)
    (fun z => K W (anet (frC i w Q) (ttC i w Q) (rmC i w) (fun _ => 0) p bo (i + 2) (i + z.1) (.slice (some ⟨bh, 0, none⟩) (i + 2) (i + 2)) z.2 ([(bh, ints 3 (i + 2) (fun _ => 0) [])] :: Ls))) (fun z => m - z.1) (0, x)
    ⟨rfl, rfl, rfl, rfl, rfl, rfl, rfl, rfl, trivial⟩ ⟨Nat.zero_le _, hx, fun j hj => absurd hj (Nat.not_lt_zero j)⟩ (fun w h => h) ?_
  rintro ⟨k, x⟩ ⟨hk, hx, hoq⟩
  dsimp only at hk hx hoq ⊢
  refine c_seq ?_
  refine c_region ?_
  refine s_y (y_lss rfl rfl) rfl rfl rfl ?_
  refine s_nil ?_
  refine f_then ?_
  refine c_seq ?_
  refine c_condD rfl (fun hlt => ?_) (fun hge => ?_)
  rotate_left
  · exact absurd ⟨by omega, by omega, hok, fun j hj => hoq j (by omega)⟩ hG
  have hkn : k < m := by omega
  obtain ⟨bq, oq, rfl, hcq, hq0, hq1⟩ := hqs (by omega)
  have hcl : ∀ w', K W (anet (frC i w Q) (ttC i w Q) (rmC i w) (fun _ => 0) p bo (i + 2) (i + k) (.slice (some ⟨bh, 0, none⟩) (i + 2) (i + 2)) x ([(bh, ints 3 (i + 2) (fun _ => 0) [])] :: Ls)) w' → K W Ls w' := fun w h => (anet_tail h).tail
  have hcq' := fun i (hi : i < m) => (hcq i hi).cls hcl
  refine c_skip ?_
  refine f_then ?_
  refine c_seq ?_
  refine c_block ?_
  refine c_seq ?_
  refine c_region ?_
  refine s_y (y_indexAddr (s := 2) Try.tab rfl rfl rfl rfl _ rfl (by omega)) rfl rfl rfl ?_
  refine s_y (y_loadA Try.tab rfl rfl rfl rfl (hcq' _ (by omega))) rfl rfl rfl ?_
  refine s_do (do_alloc Try.tab rfl) rfl rfl rfl (fun b15 => ?_)
  refine s_set (set_box Try.tab 0 rfl rfl rfl rfl rfl rfl rfl) rfl rfl ?_
  refine s_nil ?_
  refine f_then ?_
  refine c_seq ?_
  refine c_chain 79 (decide (¬ ((0 ≤ (Q k).1 ∧ (Q k).1 ≤ i - 1) ∧ 0 ≤ (Q k).2 ∧ (Q k).2 ≤ i - 1))) ?_ ?_
  · refine c_region ?_
    refine s_y (y_indexArrB Try.tab rfl rfl rfl rfl 0 rfl (by omega)) rfl rfl rfl ?_
    refine s_y (y_load Try.tab rfl rfl (cell_row 0 rfl rfl)) rfl rfl rfl ?_
    refine s_y (y_move rfl) rfl rfl rfl ?_
    refine s_y (y_sub rfl rfl (by omega)) rfl rfl rfl ?_
    refine s_call (en_f rfl Try.call46) (within_spec _ _ _ _) rfl rfl rfl (fun _ => ?_)
    refine s_y (y_notD rfl) rfl rfl rfl ?_
    refine s_y (y_move rfl) rfl rfl rfl ?_
    refine s_case 72 rfl (fun c0 => ?_) (fun c0 => ?_)
    · refine s_skip rfl rfl rfl ?_
      iterate 5 refine s_skip rfl rfl rfl ?_
      refine s_y (y_pickT rfl rfl) rfl rfl rfl ?_
      refine s_nil ?_
      exact f_chain rfl ((decide_eq_true (by omega)).symm) ⟨rfl, rfl, rfl, rfl, rfl, rfl, rfl, rfl, rfl, rfl, rfl, rfl, trivial⟩
    · refine s_y (y_indexArrB Try.tab rfl rfl rfl rfl 1 rfl (by omega)) rfl rfl rfl ?_
      refine s_y (y_load Try.tab rfl rfl (cell_row 0 rfl rfl)) rfl rfl rfl ?_
      refine s_y (y_move rfl) rfl rfl rfl ?_
      refine s_y (y_sub rfl rfl (by omega)) rfl rfl rfl ?_
      refine s_call (en_f rfl Try.call46) (within_spec _ _ _ _) rfl rfl rfl (fun _ => ?_)
      refine s_y (y_notD rfl) rfl rfl rfl ?_
      refine s_y (y_pickF rfl rfl) rfl rfl rfl ?_
      refine s_nil ?_
      exact f_chain rfl (decide_eq_decide.2 (by omega)) ⟨rfl, rfl, rfl, rfl, rfl, rfl, rfl, rfl, rfl, rfl, rfl, rfl, trivial⟩
  refine c_condD rfl (fun hbad => ?_) (fun hgd => ?_)
  · refine c_seq ?_
    refine c_region ?_
    refine s_y (y_assign rfl) rfl rfl rfl ?_
    refine s_y (y_assign rfl) rfl rfl rfl ?_
    refine s_y (y_assign rfl) rfl rfl rfl ?_
    refine s_nil ?_
    refine f_then ?_
    refine c_ret ?_
    refine f_thenR ?_
    refine f_blockR ?_
    refine f_thenR ?_
    refine f_rndR ?_
    refine f_blockR ?_
    refine f_thenR ?_
    exact f_ret () (res3 rfl rfl rfl rfl) (fun w h => (anet_tail h.tail).tail)
  have hri : (0 ≤ (Q k).1 ∧ (Q k).1 < i) ∧ 0 ≤ (Q k).2 ∧ (Q k).2 < i := by omega
  have hadd := padd_spec (frC i w Q) (ttC i w Q) (rmC i w) (fun _ => 0) W ([(bh, ints 3 (i + 2) (fun _ => 0) [])] :: Ls) p bo (i + 2) (i + k) (.slice (some ⟨bh, 0, none⟩) (i + 2) (i + 2)) x hx (by unfold frC; rw [if_neg (by omega), Nat.add_sub_cancel_left]; omega) (by unfold ttC; rw [if_neg (by omega), Nat.add_sub_cancel_left]; omega) (by omega) (by omega)
  have e1 : ((frC i w Q (i + k) : Nat) : Int) = (Q k).1 := by unfold frC; rw [if_neg (by omega), Nat.add_sub_cancel_left]; omega
  have e2 : ((ttC i w Q (i + k) : Nat) : Int) = (Q k).2 := by unfold ttC; rw [if_neg (by omega), Nat.add_sub_cancel_left]; omega
  have e3 : rmC i w (i + k) = 1125899906842624 := by unfold rmC; rw [if_neg (by omega)]
  rw [e1, e2, e3] at hadd
  refine c_skip ?_
  refine f_then ?_
  refine c_region ?_
  refine s_y (y_move rfl) rfl rfl rfl ?_
  refine s_y (y_indexArrB Try.tab rfl rfl rfl rfl 0 rfl (by omega)) rfl rfl rfl ?_
  refine s_y (y_load Try.tab rfl rfl (cell_row 0 rfl rfl)) rfl rfl rfl ?_
  refine s_y (y_indexArrB Try.tab rfl rfl rfl rfl 1 rfl (by omega)) rfl rfl rfl ?_
  refine s_y (y_load Try.tab rfl rfl (cell_row 0 rfl rfl)) rfl rfl rfl ?_
  refine St.cls (C' := K W (anet (frC i w Q) (ttC i w Q) (rmC i w) (fun _ => 0) p bo (i + 2) (i + k) (.slice (some ⟨bh, 0, none⟩) (i + 2) (i + 2)) x ([(bh, ints 3 (i + 2) (fun _ => 0) [])] :: Ls))) ?_ (fun w h => h.tail)
  refine s_call (en_f rfl Try.call41) hadd rfl rfl rfl (fun y => ?_)
  refine s_nil ?_
  refine f_blockN ?_
  refine f_then ?_
  refine c_region ?_
  refine s_y (y_add rfl rfl (by omega)) rfl rfl rfl ?_
  refine s_y (y_move rfl) rfl rfl rfl ?_
  refine s_nil ?_
  exact f_roundP (k + 1, y.1) ⟨hkn, y.2, fun j hj => by
    by_cases e : j = k
    · subst e; exact hri
    · exact hoq j (by omega)⟩ (by dsimp only; omega) ⟨rfl, rfl, rfl, rfl, rfl, rfl, rfl, rfl, trivial⟩ (fun w h => h)
end Go.KL
end

section
/- Walks: flow.Pair. -/
namespace Go.KL
open Go.Proofs
attribute [local irreducible] SC St Fin Sq Sw Ylds Doos Sets Enters Spec CellIs CellsAre Then Ret Rnd Chn resOK ints bools recs arr
attribute [local irreducible] rvals lvals rowv anet linkCh restCh
section
variable (l r m : Nat) (Q : Nat → Pr)
def frM (j : Nat) : Nat := if j < m then (Q j).1.toNat else if j < m + l then l + r else l + (j - m - l)
def ttM (j : Nat) : Nat := if j < m then l + (Q j).2.toNat else if j < m + l then j - m else l + r + 1
end
abbrev rmM : Nat → Int := fun _ => 1
/-- The mates, by the first z pairs. -/
def mts (f : Nat → Int) (Q : Nat → Pr) : Nat → Nat → Int
  | 0, _ => -1
  | z + 1, v => if 0 < f z ∧ (Q z).1.toNat = v then (Q z).2 else mts f Q z v
section
variable {l r m : Nat} {Q : Nat → Pr}
theorem arcsM (hG : PairsOK l r m Q) : Arcs1 (l + r + 2) (m + l + r) (l + r) (l + r + 1) (frM l r m Q) (ttM l r m Q) := by
  refine ⟨fun i hi => ?_, fun i hi => ?_, by omega, by omega, by omega⟩
  · unfold frM; split
    · have := hG.hq i (by omega); omega
    · split <;> omega
  · unfold ttM; split
    · have := hG.hq i (by omega); omega
    · split <;> omega
theorem cpcM_bd (S : Nat → Bool) (na : Nat) (fr tt : Nat → Nat) : cpc na fr tt rmM S ≤ na := by
  have := sm_bound na (fun i => if S (fr i) && !S (tt i) then rmM i else 0) 1 (fun i _ => by split <;> simp)
  unfold cpc
  omega
end
/-- What Pair returns. -/
structure PairO (l r m : Nat) (Q : Nat → Pr) (v : Int) (f : Nat → Int) (g : Nat → Bool) : Prop where
  fl : Flw (l + r + 2) (m + l + r) (l + r) (l + r + 1) (frM l r m Q) (ttM l r m Q) rmM 1 f v
  rch : ReachP (l + r + 2) (m + l + r) (l + r) (frM l r m Q) (ttM l r m Q) rmM f g
  out : g (l + r + 1) = false
open Classical in
set_option maxHeartbeats 8000000 in
theorem pair_spec (W : World) (Ls : List Chunk) (l r m : Nat) (vq : Value) (Q : Nat → Pr) (hQ : SlP (K W Ls) vq m Q) (hG : PairsOK l r m Q) :
    Spec Try.prog 31 #[.int .i64 l, .int .i64 r, vq] (K W Ls)
      (X := { x : Int × (Nat → Int) × (Nat → Bool) × Nat × Nat × Nat // PairO l r m Q x.1 x.2.1 x.2.2.1 })
      (fun x => .tuple #[.slice (some ⟨x.1.2.2.2.1, 0, none⟩) l l, .slice (some ⟨x.1.2.2.2.2.1, 0, none⟩) l l, .slice (some ⟨x.1.2.2.2.2.2, 0, none⟩) r r, .int .i64 0])
      (fun x => K W ([(x.1.2.2.2.1, ints 3 l (mts x.1.2.1 Q m) [])] :: [(x.1.2.2.2.2.1, bools 4 l (fun v => !x.1.2.2.1 v) [])] :: [(x.1.2.2.2.2.2, bools 4 r (fun v => x.1.2.2.1 (l + v)) [])] :: Ls)) := by
  obtain ⟨pq, cq, rfl, _, hqs⟩ := hQ.open
  have h_l := hG.hl; have h_r := hG.hr; have h_m := hG.hm
  have hA1 := arcsM hG
  refine enter (args := [_, _, _]) Try.func31 rfl Try.ntmps31 rfl ?_
  refine c_seq ?_
  refine c_region ?_
  refine s_y (y_assign rfl) rfl rfl rfl ?_
  refine s_y (y_assign rfl) rfl rfl rfl ?_
  refine s_y (y_assign rfl) rfl rfl rfl ?_
  refine s_y (y_assign rfl) rfl rfl rfl ?_
  refine s_nil ?_
  refine f_then ?_
  refine c_seq ?_
  refine c_chain 38 (decide (False)) ?_ ?_
  · refine c_region ?_
    refine s_y (y_move rfl) rfl rfl rfl ?_
    refine s_call (en_f rfl Try.call46) (within_spec _ _ _ _) rfl rfl rfl (fun _ => ?_)
    refine s_y (y_notD rfl) rfl rfl rfl ?_
    refine s_y (y_move rfl) rfl rfl rfl ?_
    refine s_case 29 rfl (fun c0 => ?_) (fun c0 => ?_)
    · refine s_skip rfl rfl rfl ?_
      iterate 2 refine s_skip rfl rfl rfl ?_
      refine s_y (y_pickT rfl rfl) rfl rfl rfl ?_
      refine s_y (y_move rfl) rfl rfl rfl ?_
      iterate 3 refine s_skip rfl rfl rfl ?_
      refine s_y (y_pickT rfl rfl) rfl rfl rfl ?_
      refine s_nil ?_
      exact f_chain rfl ((decide_eq_true (by omega)).symm) ⟨rfl, rfl, rfl, rfl, rfl, rfl, rfl, trivial⟩
    · refine s_y (y_move rfl) rfl rfl rfl ?_
      refine s_call (en_f rfl Try.call46) (within_spec _ _ _ _) rfl rfl rfl (fun _ => ?_)
      refine s_y (y_notD rfl) rfl rfl rfl ?_
      refine s_y (y_pickF rfl rfl) rfl rfl rfl ?_
      refine s_y (y_move rfl) rfl rfl rfl ?_
      refine s_case 34 rfl (fun c1 => ?_) (fun c1 => ?_)
      · refine s_skip rfl rfl rfl ?_
        iterate 2 refine s_skip rfl rfl rfl ?_
        refine s_y (y_pickT rfl rfl) rfl rfl rfl ?_
        refine s_nil ?_
        exact f_chain rfl ((decide_eq_true (by omega)).symm) ⟨rfl, rfl, rfl, rfl, rfl, rfl, rfl, trivial⟩
      · refine s_y (y_move rfl) rfl rfl rfl ?_
        refine s_y (y_len Try.tab rfl rfl) rfl rfl rfl ?_
        refine s_y (y_F (y_gtr rfl rfl) (by omega)) rfl rfl rfl ?_
        refine s_y (y_pickF rfl rfl) rfl rfl rfl ?_
        refine s_nil ?_
        exact f_chain rfl ((decide_eq_false (by simp [*])).symm) ⟨rfl, rfl, rfl, rfl, rfl, rfl, rfl, trivial⟩
  refine c_condD rfl (fun h => h.elim) (fun _ => ?_)
  refine c_skip ?_
  refine f_then ?_
  refine c_seq ?_
  refine c_region ?_
  refine s_y (y_move rfl) rfl rfl rfl ?_
  refine s_y (y_move rfl) rfl rfl rfl ?_
  refine s_y (y_add rfl rfl (by omega)) rfl rfl rfl ?_
  refine s_y (y_move rfl) rfl rfl rfl ?_
  refine s_y (y_move rfl) rfl rfl rfl ?_
  refine s_y (y_add rfl rfl (by omega)) rfl rfl rfl ?_
  refine s_y (y_add rfl rfl (by omega)) rfl rfl rfl ?_
  refine s_y (y_assign rfl) rfl rfl rfl ?_
  refine s_y (y_assign rfl) rfl rfl rfl ?_
  refine s_nil ?_
  refine f_then ?_
  refine c_seq ?_
  refine c_region ?_
  refine s_y (y_move rfl) rfl rfl rfl ?_
  refine s_y (y_move rfl) rfl rfl rfl ?_
  refine s_y (y_add rfl rfl (by omega)) rfl rfl rfl ?_
  refine s_y (y_add rfl rfl (by omega)) rfl rfl rfl ?_
  have hnew := newNetwork_spec W Ls (l + r + 2) (by omega)
  have e0 : ((l + r + 2 : Nat) : Int) = (l : Int) + r + 2 := by omega
  rw [e0] at hnew
  refine s_call (en_f rfl Try.call40) hnew rfl rfl rfl (fun x => ?_)
  obtain ⟨p, bo, bh⟩ := x
  dsimp only
  refine s_y (y_assign rfl) rfl rfl rfl ?_
  refine s_nil ?_
  refine f_then ?_
  refine c_seq ?_
  refine c_seq ?_
  refine c_region ?_
  refine s_y (y_move rfl) rfl rfl rfl ?_
  refine s_y (y_len Try.tab rfl rfl) rfl rfl rfl ?_
  refine s_y (y_move rfl) rfl rfl rfl ?_
  refine s_nil ?_
  refine f_then ?_
  refine c_block ?_
  refine c_loopP (α := Nat × (Option Own × (Nat → Option Own))) (fun z => [(0, .int .i64 l), (1, .int .i64 r), (2, .slice pq m cq), (10, .int .i64 (l + r)), (11, .int .i64 (l + r + 1)), (12, .pointer (some ⟨p, 0, none⟩)), (51, .slice pq m cq), (52, .int .i64 m), (53, .int .i64 z.1)])
    (fun z => z.1 ≤ m ∧ anOK (frM l r m Q) (ttM l r m Q) rmM (fun _ => 0) (l + r + 2) z.1 z.2)
    (fun z => K W (anet (frM l r m Q) (ttM l r m Q) rmM (fun _ => 0) p bo (l + r + 2) z.1 (.slice (some ⟨bh, 0, none⟩) (l + r + 2) (l + r + 2)) z.2 ([(bh, ints 3 (l + r + 2) (fun _ => 0) [])] :: Ls))) (fun z => m - z.1) (0, (none, fun _ => none))
    ⟨rfl, rfl, rfl, rfl, rfl, rfl, rfl, rfl, rfl, trivial⟩ ⟨Nat.zero_le _, anet_begin _ _ _ _ _⟩ (fun w h => anet_new _ _ _ _ h) ?_
  rintro ⟨k, x⟩ ⟨hk, hx⟩
  dsimp only at hk hx ⊢
  refine c_seq ?_
  refine c_region ?_
  refine s_y (y_lss rfl rfl) rfl rfl rfl ?_
  refine s_nil ?_
  refine f_then ?_
  refine c_seq ?_
  refine c_condD rfl (fun hlt => ?_) (fun hge => ?_)
  · have hkn : k < m := by omega
    obtain ⟨bq, oq, rfl, hcq, hq0, hq1⟩ := hqs (by omega)
    have hcl : ∀ w', K W (anet (frM l r m Q) (ttM l r m Q) rmM (fun _ => 0) p bo (l + r + 2) k (.slice (some ⟨bh, 0, none⟩) (l + r + 2) (l + r + 2)) x ([(bh, ints 3 (l + r + 2) (fun _ => 0) [])] :: Ls)) w' → K W Ls w' := fun w h => (anet_tail h).tail
    have hcq' := fun i (hi : i < m) => (hcq i hi).cls hcl
    have hri := hG.hq k hkn
    have hadd := padd_spec (frM l r m Q) (ttM l r m Q) rmM (fun _ => 0) W ([(bh, ints 3 (l + r + 2) (fun _ => 0) [])] :: Ls) p bo (l + r + 2) k (.slice (some ⟨bh, 0, none⟩) (l + r + 2) (l + r + 2)) x hx (hA1.frL k (by omega)) (hA1.ttL k (by omega)) (by omega) (by omega)
    have e1 : ((frM l r m Q k : Nat) : Int) = (Q k).1 := by unfold frM; rw [if_pos hkn]; omega
    have e2 : ((ttM l r m Q k : Nat) : Int) = (l : Int) + (Q k).2 := by unfold ttM; rw [if_pos hkn]; omega
    rw [e1, e2] at hadd
    refine c_skip ?_
    refine f_then ?_
    refine c_seq ?_
    refine c_block ?_
    refine c_seq ?_
    refine c_region ?_
    refine s_y (y_indexAddr (s := 2) Try.tab rfl rfl rfl rfl _ rfl (by omega)) rfl rfl rfl ?_
    refine s_y (y_loadA Try.tab rfl rfl rfl rfl (hcq' _ (by omega))) rfl rfl rfl ?_
    refine s_do (do_alloc Try.tab rfl) rfl rfl rfl (fun b14 => ?_)
    refine s_set (set_box Try.tab 0 rfl rfl rfl rfl rfl rfl rfl) rfl rfl ?_
    refine s_nil ?_
    refine f_then ?_
    refine c_seq ?_
    refine c_chain 70 (decide (False)) ?_ ?_
    · refine c_region ?_
      refine s_y (y_indexArrB Try.tab rfl rfl rfl rfl 0 rfl (by omega)) rfl rfl rfl ?_
      refine s_y (y_load Try.tab rfl rfl (cell_row 0 rfl rfl)) rfl rfl rfl ?_
      refine s_y (y_move rfl) rfl rfl rfl ?_
      refine s_y (y_sub rfl rfl (by omega)) rfl rfl rfl ?_
      refine s_call (en_f rfl Try.call46) (within_spec _ _ _ _) rfl rfl rfl (fun _ => ?_)
      refine s_y (y_notD rfl) rfl rfl rfl ?_
      refine s_y (y_move rfl) rfl rfl rfl ?_
      refine s_case 63 rfl (fun c0 => ?_) (fun c0 => ?_)
      · refine s_skip rfl rfl rfl ?_
        iterate 5 refine s_skip rfl rfl rfl ?_
        refine s_y (y_pickT rfl rfl) rfl rfl rfl ?_
        refine s_nil ?_
        exact f_chain rfl ((decide_eq_true (by omega)).symm) ⟨rfl, rfl, rfl, rfl, rfl, rfl, rfl, rfl, rfl, rfl, rfl, rfl, rfl, trivial⟩
      · refine s_y (y_indexArrB Try.tab rfl rfl rfl rfl 1 rfl (by omega)) rfl rfl rfl ?_
        refine s_y (y_load Try.tab rfl rfl (cell_row 0 rfl rfl)) rfl rfl rfl ?_
        refine s_y (y_move rfl) rfl rfl rfl ?_
        refine s_y (y_sub rfl rfl (by omega)) rfl rfl rfl ?_
        refine s_call (en_f rfl Try.call46) (within_spec _ _ _ _) rfl rfl rfl (fun _ => ?_)
        refine s_y (y_notD rfl) rfl rfl rfl ?_
        refine s_y (y_pickF rfl rfl) rfl rfl rfl ?_
        refine s_nil ?_
        exact f_chain rfl ((by grind)) ⟨rfl, rfl, rfl, rfl, rfl, rfl, rfl, rfl, rfl, rfl, rfl, rfl, rfl, trivial⟩
    refine c_condD rfl (fun h => h.elim) (fun _ => ?_)
    refine c_skip ?_
    refine f_then ?_
    refine c_region ?_
    refine s_y (y_move rfl) rfl rfl rfl ?_
    refine s_y (y_indexArrB Try.tab rfl rfl rfl rfl 0 rfl (by omega)) rfl rfl rfl ?_
    refine s_y (y_load Try.tab rfl rfl (cell_row 0 rfl rfl)) rfl rfl rfl ?_
    refine s_y (y_move rfl) rfl rfl rfl ?_
    refine s_y (y_indexArrB Try.tab rfl rfl rfl rfl 1 rfl (by omega)) rfl rfl rfl ?_
    refine s_y (y_load Try.tab rfl rfl (cell_row 0 rfl rfl)) rfl rfl rfl ?_
    refine s_y (y_add rfl rfl (by omega)) rfl rfl rfl ?_
    refine St.cls (C' := K W (anet (frM l r m Q) (ttM l r m Q) rmM (fun _ => 0) p bo (l + r + 2) k (.slice (some ⟨bh, 0, none⟩) (l + r + 2) (l + r + 2)) x ([(bh, ints 3 (l + r + 2) (fun _ => 0) [])] :: Ls))) ?_ (fun w h => h.tail)
    refine s_call (en_f rfl Try.call41) hadd rfl rfl rfl (fun y => ?_)
    refine s_nil ?_
    refine f_blockN ?_
    refine f_then ?_
    refine c_region ?_
    refine s_y (y_add rfl rfl (by omega)) rfl rfl rfl ?_
    refine s_y (y_move rfl) rfl rfl rfl ?_
    refine s_nil ?_
    exact f_roundP (k + 1, y.1) ⟨hkn, y.2⟩ (by dsimp only; omega) ⟨rfl, rfl, rfl, rfl, rfl, rfl, rfl, rfl, rfl, trivial⟩ (fun w h => h)
  have hkm : k = m := by omega
  subst hkm
  clear hge hnew hk
  refine c_exit ?_
  refine f_thenE ?_
  refine f_rndE ?_
  refine f_blockE ?_
  refine f_then ?_
  refine c_seq ?_
  refine c_seq ?_
  refine c_region ?_
  refine s_y (y_move rfl) rfl rfl rfl ?_
  refine s_y (y_move rfl) rfl rfl rfl ?_
  refine s_nil ?_
  refine f_then ?_
  refine c_block ?_
  refine c_loopP (α := Nat × (Option Own × (Nat → Option Own))) (fun z => [(0, .int .i64 l), (1, .int .i64 r), (2, .slice pq k cq), (10, .int .i64 (l + r)), (11, .int .i64 (l + r + 1)), (12, .pointer (some ⟨p, 0, none⟩)), (80, .int .i64 l), (81, .int .i64 z.1)])
    (fun z => z.1 ≤ l ∧ anOK (frM l r k Q) (ttM l r k Q) rmM (fun _ => 0) (l + r + 2) (k + z.1) z.2)
    (fun z => K W (anet (frM l r k Q) (ttM l r k Q) rmM (fun _ => 0) p bo (l + r + 2) (k + z.1) (.slice (some ⟨bh, 0, none⟩) (l + r + 2) (l + r + 2)) z.2 ([(bh, ints 3 (l + r + 2) (fun _ => 0) [])] :: Ls))) (fun z => l - z.1) (0, x)
    ⟨rfl, rfl, rfl, rfl, rfl, rfl, rfl, rfl, trivial⟩ ⟨Nat.zero_le _, hx⟩ (fun w h => h) ?_
  rintro ⟨i, x⟩ ⟨hi, hx⟩
  dsimp only at hi hx ⊢
  refine c_seq ?_
  refine c_region ?_
  refine s_y (y_lss rfl rfl) rfl rfl rfl ?_
  refine s_nil ?_
  refine f_then ?_
  refine c_seq ?_
  refine c_condD rfl (fun hlt => ?_) (fun hge => ?_)
  · have hadd := padd_spec (frM l r k Q) (ttM l r k Q) rmM (fun _ => 0) W ([(bh, ints 3 (l + r + 2) (fun _ => 0) [])] :: Ls) p bo (l + r + 2) (k + i) (.slice (some ⟨bh, 0, none⟩) (l + r + 2) (l + r + 2)) x hx (hA1.frL (k + i) (by omega)) (hA1.ttL (k + i) (by omega)) (by omega) (by omega)
    have e1 : ((frM l r k Q (k + i) : Nat) : Int) = (l : Int) + r := by unfold frM; rw [if_neg (by omega), if_pos (by omega)]; omega
    have e2 : ((ttM l r k Q (k + i) : Nat) : Int) = i := by unfold ttM; rw [if_neg (by omega), if_pos (by omega)]; omega
    rw [e1, e2] at hadd
    refine c_skip ?_
    refine f_then ?_
    refine c_seq ?_
    refine c_block ?_
    refine c_seq ?_
    refine c_region ?_
    refine s_y (y_move rfl) rfl rfl rfl ?_
    refine s_y (y_assign rfl) rfl rfl rfl ?_
    refine s_nil ?_
    refine f_then ?_
    refine c_region ?_
    refine s_y (y_move rfl) rfl rfl rfl ?_
    refine s_y (y_move rfl) rfl rfl rfl ?_
    refine s_y (y_move rfl) rfl rfl rfl ?_
    refine s_call (en_f rfl Try.call41) hadd rfl rfl rfl (fun y => ?_)
    refine s_nil ?_
    refine f_blockN ?_
    refine f_then ?_
    refine c_region ?_
    refine s_y (y_add rfl rfl (by omega)) rfl rfl rfl ?_
    refine s_y (y_move rfl) rfl rfl rfl ?_
    refine s_nil ?_
    exact f_roundP (i + 1, y.1) ⟨by dsimp only; omega, y.2⟩ (by dsimp only; omega) ⟨rfl, rfl, rfl, rfl, rfl, rfl, rfl, rfl, trivial⟩ (fun w h => h)
  have hil : i = l := by omega
  subst hil
  clear hge
  refine c_exit ?_
  refine f_thenE ?_
  refine f_rndE ?_
  refine f_blockE ?_
  refine f_then ?_
  refine c_seq ?_
  refine c_seq ?_
  refine c_region ?_
  refine s_y (y_move rfl) rfl rfl rfl ?_
  refine s_y (y_move rfl) rfl rfl rfl ?_
  refine s_nil ?_
  refine f_then ?_
  refine c_block ?_
  refine c_loopP (α := Nat × (Option Own × (Nat → Option Own))) (fun z => [(0, .int .i64 i), (1, .int .i64 r), (2, .slice pq k cq), (10, .int .i64 (i + r)), (11, .int .i64 (i + r + 1)), (12, .pointer (some ⟨p, 0, none⟩)), (89, .int .i64 r), (90, .int .i64 z.1)])
    (fun z => z.1 ≤ r ∧ anOK (frM i r k Q) (ttM i r k Q) rmM (fun _ => 0) (i + r + 2) (k + i + z.1) z.2)
    (fun z => K W (anet (frM i r k Q) (ttM i r k Q) rmM (fun _ => 0) p bo (i + r + 2) (k + i + z.1) (.slice (some ⟨bh, 0, none⟩) (i + r + 2) (i + r + 2)) z.2 ([(bh, ints 3 (i + r + 2) (fun _ => 0) [])] :: Ls))) (fun z => r - z.1) (0, x)
    ⟨rfl, rfl, rfl, rfl, rfl, rfl, rfl, rfl, trivial⟩ ⟨Nat.zero_le _, hx⟩ (fun w h => h) ?_
  rintro ⟨j, x⟩ ⟨hj, hx⟩
  dsimp only at hj hx ⊢
  refine c_seq ?_
  refine c_region ?_
  refine s_y (y_lss rfl rfl) rfl rfl rfl ?_
  refine s_nil ?_
  refine f_then ?_
  refine c_seq ?_
  refine c_condD rfl (fun hlt => ?_) (fun hge => ?_)
  · have hadd := padd_spec (frM i r k Q) (ttM i r k Q) rmM (fun _ => 0) W ([(bh, ints 3 (i + r + 2) (fun _ => 0) [])] :: Ls) p bo (i + r + 2) (k + i + j) (.slice (some ⟨bh, 0, none⟩) (i + r + 2) (i + r + 2)) x hx (hA1.frL (k + i + j) (by omega)) (hA1.ttL (k + i + j) (by omega)) (by omega) (by omega)
    have e1 : ((frM i r k Q (k + i + j) : Nat) : Int) = (i : Int) + j := by unfold frM; rw [if_neg (by omega), if_neg (by omega)]; omega
    have e2 : ((ttM i r k Q (k + i + j) : Nat) : Int) = (i : Int) + r + 1 := by unfold ttM; rw [if_neg (by omega), if_neg (by omega)]; omega
    rw [e1, e2] at hadd
    refine c_skip ?_
    refine f_then ?_
    refine c_seq ?_
    refine c_block ?_
    refine c_seq ?_
    refine c_region ?_
    refine s_y (y_move rfl) rfl rfl rfl ?_
    refine s_y (y_assign rfl) rfl rfl rfl ?_
    refine s_nil ?_
    refine f_then ?_
    refine c_region ?_
    refine s_y (y_move rfl) rfl rfl rfl ?_
    refine s_y (y_move rfl) rfl rfl rfl ?_
    refine s_y (y_move rfl) rfl rfl rfl ?_
    refine s_y (y_add rfl rfl (by omega)) rfl rfl rfl ?_
    refine s_y (y_move rfl) rfl rfl rfl ?_
    refine s_call (en_f rfl Try.call41) hadd rfl rfl rfl (fun y => ?_)
    refine s_nil ?_
    refine f_blockN ?_
    refine f_then ?_
    refine c_region ?_
    refine s_y (y_add rfl rfl (by omega)) rfl rfl rfl ?_
    refine s_y (y_move rfl) rfl rfl rfl ?_
    refine s_nil ?_
    exact f_roundP (j + 1, y.1) ⟨by dsimp only; omega, y.2⟩ (by dsimp only; omega) ⟨rfl, rfl, rfl, rfl, rfl, rfl, rfl, rfl, trivial⟩ (fun w h => h)
  have hjr : j = r := by omega
  subst hjr
  clear hge
  obtain ⟨L, R⟩ := x
  refine SC.cls (C' := K W ([(p, row 78 [ov L (2 * (k + i + j)), .slice (some ⟨bo, 0, none⟩) (i + j + 2) (i + j + 2), nilS, nilS, .slice (some ⟨bh, 0, none⟩) (i + j + 2) (i + j + 2)])] :: linkCh (frM i j k Q) (ttM i j k Q) (fun _ => 0) (2 * (k + i + j)) L (roomL rmM) :: [(bh, ints 3 (i + j + 2) (fun _ => 0) [])] :: restCh (frM i j k Q) (ttM i j k Q) bo (i + j + 2) (k + i + j) R Ls)) ?_ (fun w h => anet_done hx h)
  refine c_exit ?_
  refine f_thenE ?_
  refine f_rndE ?_
  refine f_blockE ?_
  refine f_then ?_
  refine c_seq ?_
  refine c_region ?_
  refine s_y (y_move rfl) rfl rfl rfl ?_
  refine s_y (y_move rfl) rfl rfl rfl ?_
  refine s_y (y_move rfl) rfl rfl rfl ?_
  have hroom : ∀ u, 0 ≤ roomL rmM u ∧ roomL rmM u ≤ 1 := fun u => by
    rcases half u with ⟨y, rfl⟩ | ⟨y, rfl⟩
    · rw [roomL_even]; simp
    · rw [roomL_odd]; omega
  have hG2 := pgL (fr := frM i j k Q) (tt := ttM i j k Q) (cs := fun _ => 0) (n := i + j + 2) (na := k + i + j) (fun y hy => ⟨hA1.frL y hy, hA1.ttL y hy⟩)
  have hfill := fill_spec W ([(bh, ints 3 (i + j + 2) (fun _ => 0) [])] :: restCh (frM i j k Q) (ttM i j k Q) bo (i + j + 2) (k + i + j) R Ls) p (i + j + 2) (2 * (k + i + j)) (i + j) (i + j + 1) (ov L (2 * (k + i + j))) (.slice (some ⟨bo, 0, none⟩) (i + j + 2) (i + j + 2)) nilS nilS (.slice (some ⟨bh, 0, none⟩) (i + j + 2) (i + j + 2)) (linkCh (frM i j k Q) (ttM i j k Q) (fun _ => 0) (2 * (k + i + j)) L) (outsA (frM i j k Q) (ttM i j k Q) (k + i + j)) (toL (frM i j k Q) (ttM i j k Q)) (tlL (frM i j k Q) (ttM i j k Q)) (costL fun _ => 0) (fun _ => 0) (roomL rmM) 1125899906842624
    (anet_outV (Pre := [_]) hx) ⟨bh, rfl, fun v hv => cell_ints (g := fun _ => 0) 0 rfl hv⟩ (anet_linkC hx) hG2 ⟨fun k hk => by rcases half k with ⟨j, rfl⟩ | ⟨j, rfl⟩ <;> simp [costL_even, costL_odd], fun _ _ => by omega⟩ hA1.sL hA1.tL (by omega) (by omega) (by omega) (by omega) (fun y _ => (hroom y).1) (fun y _ => by have := hroom y; have := hroom (par2 y); omega)
  have e3 : ((i + j : Nat) : Int) = (i : Int) + j := by omega
  have e4 : ((i + j + 1 : Nat) : Int) = (i : Int) + j + 1 := by omega
  rw [e3, e4] at hfill
  refine s_call (en_f rfl Try.call47) hfill rfl rfl rfl (fun x => ?_)
  obtain ⟨⟨v, room, a, b⟩, hfl⟩ := x
  dsimp only at hfl ⊢
  obtain ⟨hf1, hf2⟩ := fill_flw hA1 hfl
  refine s_nil ?_
  refine f_then ?_
  refine c_seq ?_
  refine c_region ?_
  refine s_y (y_move rfl) rfl rfl rfl ?_
  refine s_do (make_ints (by_ := 8) Try.tab rfl rfl rfl rfl rfl rfl (by omega)) rfl rfl rfl (fun b105 => ?_)
  refine s_y (y_assign rfl) rfl rfl rfl ?_
  refine s_nil ?_
  refine f_then ?_
  refine c_seq ?_
  refine c_seq ?_
  refine c_region ?_
  refine s_y (y_move rfl) rfl rfl rfl ?_
  refine s_y (y_len Try.tab rfl rfl) rfl rfl rfl ?_
  refine s_y (y_move rfl) rfl rfl rfl ?_
  refine s_nil ?_
  refine f_then ?_
  refine c_block ?_
  refine c_loopP (α := Nat) (fun z => [(0, .int .i64 i), (1, .int .i64 j), (2, .slice pq k cq), (10, .int .i64 (i + j)), (12, .pointer (some ⟨p, 0, none⟩)), (17, .slice (some ⟨b105, 0, none⟩) i i), (106, .slice (some ⟨b105, 0, none⟩) i i), (107, .int .i64 i), (108, .int .i64 z)]) (fun z => z ≤ i)
    (fun z => K W ([(b105, ints 3 i (fun u => if u < z then -1 else 0) [])] :: [(p, row 78 [ov L (2 * (k + i + j)), .slice (some ⟨bo, 0, none⟩) (i + j + 2) (i + j + 2), a, b, .slice (some ⟨bh, 0, none⟩) (i + j + 2) (i + j + 2)])] :: linkCh (frM i j k Q) (ttM i j k Q) (fun _ => 0) (2 * (k + i + j)) L room :: [(bh, ints 3 (i + j + 2) (fun _ => 0) [])] :: restCh (frM i j k Q) (ttM i j k Q) bo (i + j + 2) (k + i + j) R Ls)) (fun z => i - z) 0
    ⟨rfl, rfl, rfl, rfl, rfl, rfl, rfl, rfl, rfl, trivial⟩ (Nat.zero_le _) (fun w h => by rw [ints_congr' (f := fun u => if u < 0 then -1 else 0) (g := fun _ => 0) fun u _ => by simp]; exact h) ?_
  rintro z hz
  refine c_seq ?_
  refine c_region ?_
  refine s_y (y_lss rfl rfl) rfl rfl rfl ?_
  refine s_nil ?_
  refine f_then ?_
  refine c_seq ?_
  refine c_condD rfl (fun hlt => ?_) (fun hge => ?_)
  · refine c_skip ?_
    refine f_then ?_
    refine c_seq ?_
    refine c_block ?_
    refine c_seq ?_
    refine c_region ?_
    refine s_y (y_move rfl) rfl rfl rfl ?_
    refine s_y (y_assign rfl) rfl rfl rfl ?_
    refine s_nil ?_
    refine f_then ?_
    refine c_region ?_
    refine s_y (y_move rfl) rfl rfl rfl ?_
    refine s_y (y_move rfl) rfl rfl rfl ?_
    refine s_y (y_indexAddr1 Try.tab rfl rfl rfl rfl _ rfl (by omega)) rfl rfl rfl ?_
    refine s_set (set_ints Try.tab 0 rfl rfl rfl rfl (by omega)) rfl rfl ?_
    refine s_nil ?_
    refine f_blockN ?_
    refine f_then ?_
    refine c_region ?_
    refine s_y (y_add rfl rfl (by omega)) rfl rfl rfl ?_
    refine s_y (y_move rfl) rfl rfl rfl ?_
    refine s_nil ?_
    refine f_roundP (z + 1) (by omega) (by omega) ⟨rfl, rfl, rfl, rfl, rfl, rfl, rfl, rfl, rfl, trivial⟩ (fun w h => ?_)
    rw [ints_congr' (f := fun u => if u < z + 1 then -1 else 0) (g := upd (fun u => if u < z then -1 else 0) z (-1)) fun u _ => ?_]
    · exact h
    · simp only [upd]
      by_cases e : u = z
      · subst e; simp
      · have : (u < z + 1) = (u < z) := propext (by omega)
        simp [e, this]
  have hzi : z = i := by omega
  subst hzi
  clear hge
  refine c_exit ?_
  refine f_thenE ?_
  refine f_rndE ?_
  refine f_blockE ?_
  refine f_then ?_
  refine c_seq ?_
  refine c_seq ?_
  refine c_region ?_
  refine s_y (y_move rfl) rfl rfl rfl ?_
  refine s_y (y_len Try.tab rfl rfl) rfl rfl rfl ?_
  refine s_y (y_move rfl) rfl rfl rfl ?_
  refine s_nil ?_
  refine f_then ?_
  refine c_block ?_
  refine c_loopP (α := Nat) (fun y => [(0, .int .i64 z), (1, .int .i64 j), (10, .int .i64 (z + j)), (12, .pointer (some ⟨p, 0, none⟩)), (17, .slice (some ⟨b105, 0, none⟩) z z), (115, .slice pq k cq), (116, .int .i64 k), (117, .int .i64 y)]) (fun y => y ≤ k)
    (fun y => K W ([(b105, ints 3 z (mts (fOf room) Q y) [])] :: [(p, row 78 [ov L (2 * (k + z + j)), .slice (some ⟨bo, 0, none⟩) (z + j + 2) (z + j + 2), a, b, .slice (some ⟨bh, 0, none⟩) (z + j + 2) (z + j + 2)])] :: linkCh (frM z j k Q) (ttM z j k Q) (fun _ => 0) (2 * (k + z + j)) L room :: [(bh, ints 3 (z + j + 2) (fun _ => 0) [])] :: restCh (frM z j k Q) (ttM z j k Q) bo (z + j + 2) (k + z + j) R Ls)) (fun y => k - y) 0
    ⟨rfl, rfl, rfl, rfl, rfl, rfl, rfl, rfl, trivial⟩ (Nat.zero_le _) (fun w h => by rw [ints_congr' (f := mts (fOf room) Q 0) (g := fun u => if u < z then -1 else 0) fun u hu => by simp [mts, hu]]; exact h) ?_
  rintro y hy
  refine c_seq ?_
  refine c_region ?_
  refine s_y (y_lss rfl rfl) rfl rfl rfl ?_
  refine s_nil ?_
  refine f_then ?_
  refine c_seq ?_
  refine c_condD rfl (fun hlt => ?_) (fun hge => ?_)
  · have hyk : y < k := by omega
    obtain ⟨bq, oq, rfl, hcq, hq0, hq1⟩ := hqs (by omega)
    obtain ⟨bl, c, rest, hvl, hLc⟩ := anet_linkC hx (by omega)
    dsimp only at hvl hLc
    rw [hvl, hLc]
    have hri := hG.hq y hyk
    have hcl : ∀ w', K W ([(b105, ints 3 z (mts (fOf room) Q y) [])] :: [(p, row 78 [.slice (some ⟨bl, 0, none⟩) (2 * (k + z + j)) c, .slice (some ⟨bo, 0, none⟩) (z + j + 2) (z + j + 2), a, b, .slice (some ⟨bh, 0, none⟩) (z + j + 2) (z + j + 2)])] :: (fun room => [(bl, recs 85 3 (2 * (k + z + j)) (lg (toL (frM z j k Q) (ttM z j k Q)) room (costL fun _ => 0)) rest)]) room :: [(bh, ints 3 (z + j + 2) (fun _ => 0) [])] :: restCh (frM z j k Q) (ttM z j k Q) bo (z + j + 2) (k + z + j) R Ls) w' → K W Ls w' := fun w h => restCh_tail h.tail.tail.tail.tail
    have hcq' := fun i (hi : i < k) => (hcq i hi).cls hcl
    refine c_skip ?_
    refine f_then ?_
    refine c_seq ?_
    refine c_block ?_
    refine c_seq ?_
    refine c_region ?_
    refine s_y (y_move rfl) rfl rfl rfl ?_
    refine s_y (y_indexAddr (s := 2) Try.tab rfl rfl rfl rfl _ rfl (by omega)) rfl rfl rfl ?_
    refine s_y (y_loadA Try.tab rfl rfl rfl rfl (hcq' _ (by omega))) rfl rfl rfl ?_
    refine s_do (do_alloc Try.tab rfl) rfl rfl rfl (fun b20 => ?_)
    refine s_y (y_assign rfl) rfl rfl rfl ?_
    refine s_set (set_box Try.tab 0 rfl rfl rfl rfl rfl rfl rfl) rfl rfl ?_
    refine s_nil ?_
    refine f_then ?_
    refine c_seq ?_
    refine c_region ?_
    refine s_y (y_move rfl) rfl rfl rfl ?_
    refine s_y (y_move rfl) rfl rfl rfl ?_
    refine s_call (en_f rfl Try.call43) (used_spec _ p bl (2 * (k + z + j)) c y (room (2 * y + 1)) (cell_row 2 rfl rfl) (cell_room (rest := rest) 3 rfl (by omega)) (by omega) (by omega)) rfl rfl rfl (fun _ => ?_)
    refine s_y (y_gtr rfl rfl) rfl rfl rfl ?_
    refine s_nil ?_
    refine f_then ?_
    refine c_condD rfl (fun hpos => ?_) (fun hnp => ?_)
    · refine c_region ?_
      refine s_y (y_move rfl) rfl rfl rfl ?_
      refine s_y (y_indexArrB Try.tab rfl rfl rfl rfl 0 rfl (by omega)) rfl rfl rfl ?_
      refine s_y (y_load Try.tab rfl rfl (cell_row 0 rfl rfl)) rfl rfl rfl ?_
      refine s_y (y_indexArrB Try.tab rfl rfl rfl rfl 1 rfl (by omega)) rfl rfl rfl ?_
      refine s_y (y_load Try.tab rfl rfl (cell_row 0 rfl rfl)) rfl rfl rfl ?_
      refine s_y (y_indexAddr1 Try.tab rfl rfl rfl rfl _ (Int.toNat_of_nonneg (by omega)).symm (by omega)) rfl rfl rfl ?_
      refine s_set (set_ints Try.tab 1 rfl rfl rfl rfl (by omega)) rfl rfl ?_
      refine s_nil ?_
      refine f_blockN ?_
      refine f_then ?_
      refine c_region ?_
      refine s_y (y_add rfl rfl (by omega)) rfl rfl rfl ?_
      refine s_y (y_move rfl) rfl rfl rfl ?_
      refine s_nil ?_
      refine f_roundP (y + 1) (by omega) (by omega) ⟨rfl, rfl, rfl, rfl, rfl, rfl, rfl, rfl, trivial⟩ (fun w h => ?_)
      rw [ints_congr' (f := mts (fOf room) Q (y + 1)) (g := upd (mts (fOf room) Q y) (Q y).1.toNat (Q y).2) fun u _ => ?_]
      · exact h.tail
      · unfold mts fOf upd
        by_cases e : u = (Q y).1.toNat
        · rw [if_pos ⟨hpos, e.symm⟩, if_pos e]
        · rw [if_neg (fun h => e h.2.symm), if_neg e]
    · refine c_skip ?_
      refine f_blockN ?_
      refine f_then ?_
      refine c_region ?_
      refine s_y (y_add rfl rfl (by omega)) rfl rfl rfl ?_
      refine s_y (y_move rfl) rfl rfl rfl ?_
      refine s_nil ?_
      refine f_roundP (y + 1) (by omega) (by omega) ⟨rfl, rfl, rfl, rfl, rfl, rfl, rfl, rfl, trivial⟩ (fun w h => ?_)
      rw [ints_congr' (f := mts (fOf room) Q (y + 1)) (g := mts (fOf room) Q y) fun u _ => ?_]
      · exact h.tail
      · show (if 0 < fOf room y ∧ (Q y).1.toNat = u then (Q y).2 else mts (fOf room) Q y u) = _
        rw [if_neg (fun h => hnp h.1)]
  have hyk : y = k := by omega
  subst hyk
  clear hge
  refine c_exit ?_
  refine f_thenE ?_
  refine f_rndE ?_
  refine f_blockE ?_
  refine f_then ?_
  refine c_seq ?_
  refine c_region ?_
  refine s_y (y_move rfl) rfl rfl rfl ?_
  refine s_y (y_move rfl) rfl rfl rfl ?_
  refine St.cls (C' := K W ([(p, row 78 [ov L (2 * (y + z + j)), .slice (some ⟨bo, 0, none⟩) (z + j + 2) (z + j + 2), a, b, .slice (some ⟨bh, 0, none⟩) (z + j + 2) (z + j + 2)])] :: [(b105, ints 3 z (mts (fOf room) Q y) [])] :: linkCh (frM z j y Q) (ttM z j y Q) (fun _ => 0) (2 * (y + z + j)) L room :: [(bh, ints 3 (z + j + 2) (fun _ => 0) [])] :: restCh (frM z j y Q) (ttM z j y Q) bo (z + j + 2) (y + z + j) R Ls)) ?_ (fun w h => h.front 1)
  have hreach := reach_spec W ([(b105, ints 3 z (mts (fOf room) Q y) [])] :: linkCh (frM z j y Q) (ttM z j y Q) (fun _ => 0) (2 * (y + z + j)) L room :: [(bh, ints 3 (z + j + 2) (fun _ => 0) [])] :: restCh (frM z j y Q) (ttM z j y Q) bo (z + j + 2) (y + z + j) R Ls) p (z + j + 2) (2 * (y + z + j)) (z + j) (ov L (2 * (y + z + j))) (.slice (some ⟨bo, 0, none⟩) (z + j + 2) (z + j + 2)) a b (.slice (some ⟨bh, 0, none⟩) (z + j + 2) (z + j + 2)) (outsA (frM z j y Q) (ttM z j y Q) (y + z + j)) (toL (frM z j y Q) (ttM z j y Q)) room (costL fun _ => 0)
    (OutV.cls (C := K W ([_, _, _, _] ++ restCh (frM z j y Q) (ttM z j y Q) bo (z + j + 2) (y + z + j) R Ls)) (anet_outV hx) fun w h => h) ((anet_linkC hx).linkV room |>.cls fun w h => h.tail.tail) hG2.gok hA1.sL (by omega) (by omega)
  rw [e3] at hreach
  refine s_call (en_f rfl Try.call48) hreach rfl rfl rfl (fun y2 => ?_)
  obtain ⟨⟨bg, g⟩, hR⟩ := y2
  dsimp only at hR ⊢
  have hcut := fill_cut hA1 hfl hR (by have := cpcM_bd (fun u => decide (u = z + j)) (y + z + j) (frM z j y Q) (ttM z j y Q); omega)
  refine s_y (y_assign rfl) rfl rfl rfl ?_
  refine s_nil ?_
  refine f_then ?_
  refine c_seq_cut (α := Nat × Nat) (fun q => [(0, .int .i64 z), (1, .int .i64 j), (17, .slice (some ⟨b105, 0, none⟩) z z), (21, .slice (some ⟨bg, 0, none⟩) (z + j + 2) (z + j + 2)), (22, .slice (some ⟨q.1, 0, none⟩) z z), (23, .slice (some ⟨q.2, 0, none⟩) j j)])
    (fun q => K W ([(q.1, bools 4 z (fun _ => false) [])] :: [(q.2, bools 4 j (fun _ => false) [])] :: [(b105, ints 3 z (mts (fOf room) Q y) [])] :: [(bg, bools 4 (z + j + 2) g [])] :: Ls)) ?_ (fun q => ?_)
  · have hfin : ∀ w, K W ([(bg, bools 4 (z + j + 2) g [])] :: [(p, row 78 [ov L (2 * (y + z + j)), .slice (some ⟨bo, 0, none⟩) (z + j + 2) (z + j + 2), a, b, .slice (some ⟨bh, 0, none⟩) (z + j + 2) (z + j + 2)])] :: [(b105, ints 3 z (mts (fOf room) Q y) [])] :: linkCh (frM z j y Q) (ttM z j y Q) (fun _ => 0) (2 * (y + z + j)) L room :: [(bh, ints 3 (z + j + 2) (fun _ => 0) [])] :: restCh (frM z j y Q) (ttM z j y Q) bo (z + j + 2) (y + z + j) R Ls) w → K W ([(b105, ints 3 z (mts (fOf room) Q y) [])] :: [(bg, bools 4 (z + j + 2) g [])] :: Ls) w := fun w h => restCh_tailP [[(b105, ints 3 z (mts (fOf room) Q y) [])], [(bg, bools 4 (z + j + 2) g [])]] (((h.front 2).dropAt 2).dropAt 2 |>.dropAt 2)
    refine SC.cls (C' := K W ([(b105, ints 3 z (mts (fOf room) Q y) [])] :: [(bg, bools 4 (z + j + 2) g [])] :: Ls)) ?_ hfin
    refine c_free [] ((K W ([(b105, ints 3 z (mts (fOf room) Q y) [])] :: [(bg, bools 4 (z + j + 2) g [])] :: Ls))) Try.mixed (by kernel_rfl) K.cl ?_
    refine l_c 0 rfl (by kernel_rfl) (Qui.ylds (y_move rfl)) rfl rfl rfl (fun _ h => h) K.cl ?_
    refine l_c 2 rfl (by kernel_rfl) (Qui.ylds (y_move rfl)) rfl rfl rfl (fun _ h => h) K.cl ?_
    refine l_fork 1 3 rfl rfl (by kernel_rfl) rfl rfl rfl rfl rfl rfl (make_bools (by_ := 1) Try.tab rfl rfl rfl rfl rfl rfl (by omega)) (make_bools (by_ := 1) Try.tab rfl rfl rfl rfl rfl rfl (by omega)) (fun _ => K.cl) (fun _ => K.cl) (fun _ _ _ h => h.tail) (fun _ _ _ h => h.tail) (fun b137 => ?_) (fun b139 => ?_)
    refine l_c 4 rfl (by kernel_rfl) (Qui.ylds (y_assign rfl)) rfl rfl rfl (fun _ h => h.tail) K.cl ?_
    refine l_s 3 rfl (by kernel_rfl) (make_bools (by_ := 1) Try.tab rfl rfl rfl rfl rfl rfl (by omega)) rfl rfl rfl (fun _ => K.cl) (fun _ _ _ h => h.tail.tail) (fun b139 => ?_)
    refine l_c 5 rfl (by kernel_rfl) (Qui.ylds (y_assign rfl)) rfl rfl rfl (fun _ h => h.tail.tail) K.cl ?_
    refine l_nil (by kernel_rfl) ?_
    · exact f_cut (b137, b139) ⟨rfl, rfl, rfl, rfl, rfl, rfl, trivial⟩ (fun w h => h.front 1)
    · refine l_s 1 rfl (by kernel_rfl) (make_bools (by_ := 1) Try.tab rfl rfl rfl rfl rfl rfl (by omega)) rfl rfl rfl (fun _ => K.cl) (fun _ _ _ h => h.tail.tail) (fun b137 => ?_)
      refine l_c 4 rfl (by kernel_rfl) (Qui.ylds (y_assign rfl)) rfl rfl rfl (fun _ h => h.tail.tail) K.cl ?_
      refine l_c 5 rfl (by kernel_rfl) (Qui.ylds (y_assign rfl)) rfl rfl rfl (fun _ h => h.tail.tail) K.cl ?_
      refine l_nil (by kernel_rfl) ?_
      exact f_cut (b137, b139) ⟨rfl, rfl, rfl, rfl, rfl, rfl, trivial⟩ (fun w h => h)
  obtain ⟨ba, bb⟩ := q
  dsimp only
  refine c_seq ?_
  refine c_seq ?_
  refine c_region ?_
  refine s_y (y_move rfl) rfl rfl rfl ?_
  refine s_y (y_len Try.tab rfl rfl) rfl rfl rfl ?_
  refine s_y (y_move rfl) rfl rfl rfl ?_
  refine s_nil ?_
  refine f_then ?_
  refine c_block ?_
  refine c_loopP (α := Nat) (fun u => [(0, .int .i64 z), (1, .int .i64 j), (17, .slice (some ⟨b105, 0, none⟩) z z), (21, .slice (some ⟨bg, 0, none⟩) (z + j + 2) (z + j + 2)), (22, .slice (some ⟨ba, 0, none⟩) z z), (23, .slice (some ⟨bb, 0, none⟩) j j), (140, .slice (some ⟨ba, 0, none⟩) z z), (141, .int .i64 z), (142, .int .i64 u)]) (fun u => u ≤ z)
    (fun u => K W ([(ba, bools 4 z (fun v => decide (v < u) && !g v) [])] :: [(bb, bools 4 j (fun _ => false) [])] :: [(b105, ints 3 z (mts (fOf room) Q y) [])] :: [(bg, bools 4 (z + j + 2) g [])] :: Ls)) (fun u => z - u) 0
    ⟨rfl, rfl, rfl, rfl, rfl, rfl, rfl, rfl, rfl, trivial⟩ (Nat.zero_le _) (fun w h => by rw [bools_congr' (f := fun v => decide (v < 0) && !g v) (g := fun _ => false) fun u _ => by simp]; exact h) ?_
  rintro u hu
  refine c_seq ?_
  refine c_region ?_
  refine s_y (y_lss rfl rfl) rfl rfl rfl ?_
  refine s_nil ?_
  refine f_then ?_
  refine c_seq ?_
  refine c_condD rfl (fun hlt => ?_) (fun hge => ?_)
  · refine c_skip ?_
    refine f_then ?_
    refine c_seq ?_
    refine c_block ?_
    refine c_seq ?_
    refine c_region ?_
    refine s_y (y_move rfl) rfl rfl rfl ?_
    refine s_y (y_assign rfl) rfl rfl rfl ?_
    refine s_nil ?_
    refine f_then ?_
    refine c_region ?_
    refine s_y (y_move rfl) rfl rfl rfl ?_
    refine s_y (y_move rfl) rfl rfl rfl ?_
    refine s_y (y_move rfl) rfl rfl rfl ?_
    refine s_y (y_move rfl) rfl rfl rfl ?_
    refine s_y (y_indexAddr1 Try.tab rfl rfl rfl rfl _ rfl (by omega)) rfl rfl rfl ?_
    refine s_y (y_load Try.tab rfl rfl (cell_bools 3 rfl (by omega))) rfl rfl rfl ?_
    refine s_y (y_not rfl) rfl rfl rfl ?_
    refine s_y (y_indexAddr1 Try.tab rfl rfl rfl rfl _ rfl (by omega)) rfl rfl rfl ?_
    refine s_set (set_bools Try.tab 0 rfl rfl rfl rfl (by omega)) rfl rfl ?_
    refine s_nil ?_
    refine f_blockN ?_
    refine f_then ?_
    refine c_region ?_
    refine s_y (y_add rfl rfl (by omega)) rfl rfl rfl ?_
    refine s_y (y_move rfl) rfl rfl rfl ?_
    refine s_nil ?_
    refine f_roundP (u + 1) (by omega) (by omega) ⟨rfl, rfl, rfl, rfl, rfl, rfl, rfl, rfl, rfl, trivial⟩ (fun w h => ?_)
    rw [bools_congr' (f := fun v => decide (v < u + 1) && !g v) (g := upd (fun v => decide (v < u) && !g v) u (!g u)) fun v _ => ?_]
    · exact h
    · simp only [upd]
      by_cases e : v = u
      · subst e; simp
      · have : (v < u + 1) = (v < u) := propext (by omega)
        simp [e, this]
  have huz : u = z := by omega
  subst huz
  clear hge
  refine c_exit ?_
  refine f_thenE ?_
  refine f_rndE ?_
  refine f_blockE ?_
  refine f_then ?_
  refine c_seq ?_
  refine c_seq ?_
  refine c_region ?_
  refine s_y (y_move rfl) rfl rfl rfl ?_
  refine s_y (y_len Try.tab rfl rfl) rfl rfl rfl ?_
  refine s_y (y_move rfl) rfl rfl rfl ?_
  refine s_nil ?_
  refine f_then ?_
  refine c_block ?_
  refine c_loopP (α := Nat) (fun y2 => [(0, .int .i64 u), (17, .slice (some ⟨b105, 0, none⟩) u u), (21, .slice (some ⟨bg, 0, none⟩) (u + j + 2) (u + j + 2)), (22, .slice (some ⟨ba, 0, none⟩) u u), (23, .slice (some ⟨bb, 0, none⟩) j j), (154, .slice (some ⟨bb, 0, none⟩) j j), (155, .int .i64 j), (156, .int .i64 y2)]) (fun y2 => y2 ≤ j)
    (fun y2 => K W ([(ba, bools 4 u (fun v => !g v) [])] :: [(bb, bools 4 j (fun v => decide (v < y2) && g (u + v)) [])] :: [(b105, ints 3 u (mts (fOf room) Q y) [])] :: [(bg, bools 4 (u + j + 2) g [])] :: Ls)) (fun y2 => j - y2) 0
    ⟨rfl, rfl, rfl, rfl, rfl, rfl, rfl, rfl, trivial⟩ (Nat.zero_le _) (fun w h => by rw [bools_congr' (f := fun v => decide (v < 0) && g (u + v)) (g := fun _ => false) fun u _ => by simp, bools_congr' (f := fun v => !g v) (g := fun v => decide (v < u) && !g v) fun v hv => by simp [hv]]; exact h) ?_
  rintro y2 hy2
  refine c_seq ?_
  refine c_region ?_
  refine s_y (y_lss rfl rfl) rfl rfl rfl ?_
  refine s_nil ?_
  refine f_then ?_
  refine c_seq ?_
  refine c_condD rfl (fun hlt => ?_) (fun hge => ?_)
  · refine c_skip ?_
    refine f_then ?_
    refine c_seq ?_
    refine c_block ?_
    refine c_seq ?_
    refine c_region ?_
    refine s_y (y_move rfl) rfl rfl rfl ?_
    refine s_y (y_assign rfl) rfl rfl rfl ?_
    refine s_nil ?_
    refine f_then ?_
    refine c_region ?_
    refine s_y (y_move rfl) rfl rfl rfl ?_
    refine s_y (y_move rfl) rfl rfl rfl ?_
    refine s_y (y_move rfl) rfl rfl rfl ?_
    refine s_y (y_move rfl) rfl rfl rfl ?_
    refine s_y (y_move rfl) rfl rfl rfl ?_
    refine s_y (y_add rfl rfl (by omega)) rfl rfl rfl ?_
    refine s_y (y_indexAddr1 Try.tab rfl rfl rfl rfl _ rfl (by omega)) rfl rfl rfl ?_
    refine s_y (y_load Try.tab rfl rfl (cell_bools 3 rfl (by omega))) rfl rfl rfl ?_
    refine s_y (y_indexAddr1 Try.tab rfl rfl rfl rfl _ rfl (by omega)) rfl rfl rfl ?_
    refine s_set (set_bools Try.tab 1 rfl rfl rfl rfl (by omega)) rfl rfl ?_
    refine s_nil ?_
    refine f_blockN ?_
    refine f_then ?_
    refine c_region ?_
    refine s_y (y_add rfl rfl (by omega)) rfl rfl rfl ?_
    refine s_y (y_move rfl) rfl rfl rfl ?_
    refine s_nil ?_
    refine f_roundP (y2 + 1) (by omega) (by omega) ⟨rfl, rfl, rfl, rfl, rfl, rfl, rfl, rfl, trivial⟩ (fun w h => ?_)
    rw [bools_congr' (f := fun v => decide (v < y2 + 1) && g (u + v)) (g := upd (fun v => decide (v < y2) && g (u + v)) y2 (g (u + y2))) fun v _ => ?_]
    · exact h
    · simp only [upd]
      by_cases e : v = y2
      · subst e; simp
      · have : (v < y2 + 1) = (v < y2) := propext (by omega)
        simp [e, this]
  have hyj : y2 = j := by omega
  subst hyj
  clear hge
  refine c_exit ?_
  refine f_thenE ?_
  refine f_rndE ?_
  refine f_blockE ?_
  refine f_then ?_
  refine c_seq ?_
  refine c_region ?_
  refine s_y (y_move rfl) rfl rfl rfl ?_
  refine s_y (y_move rfl) rfl rfl rfl ?_
  refine s_y (y_move rfl) rfl rfl rfl ?_
  refine s_y (y_assign rfl) rfl rfl rfl ?_
  refine s_y (y_assign rfl) rfl rfl rfl ?_
  refine s_y (y_assign rfl) rfl rfl rfl ?_
  refine s_y (y_assign rfl) rfl rfl rfl ?_
  refine s_nil ?_
  refine f_then ?_
  refine c_ret ?_
  exact f_ret ⟨(v, fOf room, g, b105, ba, bb), hcut.1, hcut.2.1, hcut.2.2⟩ (res4 rfl rfl rfl rfl rfl) (fun w h => by
    rw [bools_congr' (f := fun v => decide (v < y2) && g (u + v)) (g := fun v => g (u + v)) fun v hv => by simp [hv]] at h
    exact ((h.front 2).dropAt 3))
end Go.KL
end

section
/- Walks: flow.Pair's errors. -/
namespace Go.KL
open Go.Proofs
attribute [local irreducible] SC St Fin Sq Sw Ylds Doos Sets Enters Spec CellIs CellsAre Then Ret Rnd Chn resOK ints bools recs arr
attribute [local irreducible] rvals lvals rowv anet linkCh restCh
open Classical in
set_option maxHeartbeats 8000000 in
theorem pair_bad_spec (W : World) (Ls : List Chunk) (l r : Int) (m : Nat) (vq : Value) (Q : Nat → Pr) (hQ : SlP (K W Ls) vq m Q) (hG : ¬ PairsOK l r m Q) (hb : m ≤ 1000000000) :
    Spec Try.prog 31 #[.int .i64 l, .int .i64 r, vq] (K W Ls) (fun _ : Unit => .tuple #[nilS, nilS, nilS, .int .i64 2]) (fun _ => K W Ls) := by
  obtain ⟨pq, cq, rfl, _, hqs⟩ := hQ.open
  refine enter (args := [_, _, _]) Try.func31 rfl Try.ntmps31 rfl ?_
  refine c_seq ?_
  refine c_region ?_
  refine s_y (y_assign rfl) rfl rfl rfl ?_
  refine s_y (y_assign rfl) rfl rfl rfl ?_
  refine s_y (y_assign rfl) rfl rfl rfl ?_
  refine s_y (y_assign rfl) rfl rfl rfl ?_
  refine s_nil ?_
  refine f_then ?_
  refine c_seq ?_
  refine c_chain 38 (decide (¬ ((0 ≤ l ∧ l ≤ 60) ∧ (0 ≤ r ∧ r ≤ 60) ∧ m ≤ 1024))) ?_ ?_
  · refine c_region ?_
    refine s_y (y_move rfl) rfl rfl rfl ?_
    refine s_call (en_f rfl Try.call46) (within_spec _ _ _ _) rfl rfl rfl (fun _ => ?_)
    refine s_y (y_notD rfl) rfl rfl rfl ?_
    refine s_y (y_move rfl) rfl rfl rfl ?_
    refine s_case 29 rfl (fun c0 => ?_) (fun c0 => ?_)
    · refine s_skip rfl rfl rfl ?_
      iterate 2 refine s_skip rfl rfl rfl ?_
      refine s_y (y_pickT rfl rfl) rfl rfl rfl ?_
      refine s_y (y_move rfl) rfl rfl rfl ?_
      iterate 3 refine s_skip rfl rfl rfl ?_
      refine s_y (y_pickT rfl rfl) rfl rfl rfl ?_
      refine s_nil ?_
      exact f_chain rfl ((decide_eq_true (by omega)).symm) ⟨rfl, rfl, rfl, rfl, rfl, rfl, rfl, trivial⟩
    · refine s_y (y_move rfl) rfl rfl rfl ?_
      refine s_call (en_f rfl Try.call46) (within_spec _ _ _ _) rfl rfl rfl (fun _ => ?_)
      refine s_y (y_notD rfl) rfl rfl rfl ?_
      refine s_y (y_pickF rfl rfl) rfl rfl rfl ?_
      refine s_y (y_move rfl) rfl rfl rfl ?_
      refine s_case 34 rfl (fun c1 => ?_) (fun c1 => ?_)
      · refine s_skip rfl rfl rfl ?_
        iterate 2 refine s_skip rfl rfl rfl ?_
        refine s_y (y_pickT rfl rfl) rfl rfl rfl ?_
        refine s_nil ?_
        exact f_chain rfl ((decide_eq_true (by omega)).symm) ⟨rfl, rfl, rfl, rfl, rfl, rfl, rfl, trivial⟩
      · refine s_y (y_move rfl) rfl rfl rfl ?_
        refine s_y (y_len Try.tab rfl rfl) rfl rfl rfl ?_
        refine s_y (y_gtr rfl rfl) rfl rfl rfl ?_
        refine s_y (y_pickF rfl rfl) rfl rfl rfl ?_
        refine s_nil ?_
        exact f_chain rfl (decide_eq_decide.2 (by omega)) ⟨rfl, rfl, rfl, rfl, rfl, rfl, rfl, trivial⟩
  refine c_condD rfl (fun hbig => ?_) (fun hsm => ?_)
  · refine c_seq ?_
    refine c_region ?_
    refine s_y (y_assign rfl) rfl rfl rfl ?_
    refine s_y (y_assign rfl) rfl rfl rfl ?_
    refine s_y (y_assign rfl) rfl rfl rfl ?_
    refine s_y (y_assign rfl) rfl rfl rfl ?_
    refine s_nil ?_
    refine f_then ?_
    refine c_ret ?_
    refine f_thenR ?_
    exact f_ret () (res4 rfl rfl rfl rfl rfl) (fun w h => h)
  obtain ⟨l, rfl⟩ : ∃ l' : Nat, l = l' := ⟨l.toNat, by omega⟩
  obtain ⟨r, rfl⟩ : ∃ r' : Nat, r = r' := ⟨r.toNat, by omega⟩
  refine c_skip ?_
  refine f_then ?_
  refine c_seq ?_
  refine c_region ?_
  refine s_y (y_move rfl) rfl rfl rfl ?_
  refine s_y (y_move rfl) rfl rfl rfl ?_
  refine s_y (y_add rfl rfl (by omega)) rfl rfl rfl ?_
  refine s_y (y_move rfl) rfl rfl rfl ?_
  refine s_y (y_move rfl) rfl rfl rfl ?_
  refine s_y (y_add rfl rfl (by omega)) rfl rfl rfl ?_
  refine s_y (y_add rfl rfl (by omega)) rfl rfl rfl ?_
  refine s_y (y_assign rfl) rfl rfl rfl ?_
  refine s_y (y_assign rfl) rfl rfl rfl ?_
  refine s_nil ?_
  refine f_then ?_
  refine c_seq ?_
  refine c_region ?_
  refine s_y (y_move rfl) rfl rfl rfl ?_
  refine s_y (y_move rfl) rfl rfl rfl ?_
  refine s_y (y_add rfl rfl (by omega)) rfl rfl rfl ?_
  refine s_y (y_add rfl rfl (by omega)) rfl rfl rfl ?_
  have hnew := newNetwork_spec W Ls (l + r + 2) (by omega)
  have e0 : ((l + r + 2 : Nat) : Int) = (l : Int) + r + 2 := by omega
  rw [e0] at hnew
  refine s_call (en_f rfl Try.call40) hnew rfl rfl rfl (fun x => ?_)
  obtain ⟨p, bo, bh⟩ := x
  dsimp only
  refine s_y (y_assign rfl) rfl rfl rfl ?_
  refine s_nil ?_
  refine f_then ?_
  refine c_seq ?_
  refine c_seq ?_
  refine c_region ?_
  refine s_y (y_move rfl) rfl rfl rfl ?_
  refine s_y (y_len Try.tab rfl rfl) rfl rfl rfl ?_
  refine s_y (y_move rfl) rfl rfl rfl ?_
  refine s_nil ?_
  refine f_then ?_
  refine c_block ?_
  refine c_loopP (α := Nat × (Option Own × (Nat → Option Own))) (fun z => [(0, .int .i64 l), (1, .int .i64 r), (2, .slice pq m cq), (10, .int .i64 (l + r)), (11, .int .i64 (l + r + 1)), (12, .pointer (some ⟨p, 0, none⟩)), (51, .slice pq m cq), (52, .int .i64 m), (53, .int .i64 z.1)])
    (fun z => z.1 ≤ m ∧ anOK (frM l r m Q) (ttM l r m Q) rmM (fun _ => 0) (l + r + 2) z.1 z.2 ∧ ∀ i, i < z.1 → (0 ≤ (Q i).1 ∧ (Q i).1 < l) ∧ 0 ≤ (Q i).2 ∧ (Q i).2 < r)
    (fun z => K W (anet (frM l r m Q) (ttM l r m Q) rmM (fun _ => 0) p bo (l + r + 2) z.1 (.slice (some ⟨bh, 0, none⟩) (l + r + 2) (l + r + 2)) z.2 ([(bh, ints 3 (l + r + 2) (fun _ => 0) [])] :: Ls))) (fun z => m - z.1) (0, (none, fun _ => none))
    ⟨rfl, rfl, rfl, rfl, rfl, rfl, rfl, rfl, rfl, trivial⟩ ⟨Nat.zero_le _, anet_begin _ _ _ _ _, fun j hj => absurd hj (Nat.not_lt_zero j)⟩ (fun w h => anet_new _ _ _ _ h) ?_
  rintro ⟨k, x⟩ ⟨hk, hx, hoq⟩
  dsimp only at hk hx hoq ⊢
  refine c_seq ?_
  refine c_region ?_
  refine s_y (y_lss rfl rfl) rfl rfl rfl ?_
  refine s_nil ?_
  refine f_then ?_
  refine c_seq ?_
  refine c_condD rfl (fun hlt => ?_) (fun hge => ?_)
  rotate_left
  · exact absurd ⟨by omega, by omega, by omega, fun j hj => hoq j (by omega)⟩ hG
  have hkn : k < m := by omega
  obtain ⟨bq, oq, rfl, hcq, hq0, hq1⟩ := hqs (by omega)
  have hcl : ∀ w', K W (anet (frM l r m Q) (ttM l r m Q) rmM (fun _ => 0) p bo (l + r + 2) k (.slice (some ⟨bh, 0, none⟩) (l + r + 2) (l + r + 2)) x ([(bh, ints 3 (l + r + 2) (fun _ => 0) [])] :: Ls)) w' → K W Ls w' := fun w h => (anet_tail h).tail
  have hcq' := fun i (hi : i < m) => (hcq i hi).cls hcl
  refine c_skip ?_
  refine f_then ?_
  refine c_seq ?_
  refine c_block ?_
  refine c_seq ?_
  refine c_region ?_
  refine s_y (y_indexAddr (s := 2) Try.tab rfl rfl rfl rfl _ rfl (by omega)) rfl rfl rfl ?_
  refine s_y (y_loadA Try.tab rfl rfl rfl rfl (hcq' _ (by omega))) rfl rfl rfl ?_
  refine s_do (do_alloc Try.tab rfl) rfl rfl rfl (fun b14 => ?_)
  refine s_set (set_box Try.tab 0 rfl rfl rfl rfl rfl rfl rfl) rfl rfl ?_
  refine s_nil ?_
  refine f_then ?_
  refine c_seq ?_
  refine c_chain 70 (decide (¬ ((0 ≤ (Q k).1 ∧ (Q k).1 ≤ l - 1) ∧ 0 ≤ (Q k).2 ∧ (Q k).2 ≤ r - 1))) ?_ ?_
  · refine c_region ?_
    refine s_y (y_indexArrB Try.tab rfl rfl rfl rfl 0 rfl (by omega)) rfl rfl rfl ?_
    refine s_y (y_load Try.tab rfl rfl (cell_row 0 rfl rfl)) rfl rfl rfl ?_
    refine s_y (y_move rfl) rfl rfl rfl ?_
    refine s_y (y_sub rfl rfl (by omega)) rfl rfl rfl ?_
    refine s_call (en_f rfl Try.call46) (within_spec _ _ _ _) rfl rfl rfl (fun _ => ?_)
    refine s_y (y_notD rfl) rfl rfl rfl ?_
    refine s_y (y_move rfl) rfl rfl rfl ?_
    refine s_case 63 rfl (fun c0 => ?_) (fun c0 => ?_)
    · refine s_skip rfl rfl rfl ?_
      iterate 5 refine s_skip rfl rfl rfl ?_
      refine s_y (y_pickT rfl rfl) rfl rfl rfl ?_
      refine s_nil ?_
      exact f_chain rfl ((decide_eq_true (by omega)).symm) ⟨rfl, rfl, rfl, rfl, rfl, rfl, rfl, rfl, rfl, rfl, rfl, rfl, rfl, trivial⟩
    · refine s_y (y_indexArrB Try.tab rfl rfl rfl rfl 1 rfl (by omega)) rfl rfl rfl ?_
      refine s_y (y_load Try.tab rfl rfl (cell_row 0 rfl rfl)) rfl rfl rfl ?_
      refine s_y (y_move rfl) rfl rfl rfl ?_
      refine s_y (y_sub rfl rfl (by omega)) rfl rfl rfl ?_
      refine s_call (en_f rfl Try.call46) (within_spec _ _ _ _) rfl rfl rfl (fun _ => ?_)
      refine s_y (y_notD rfl) rfl rfl rfl ?_
      refine s_y (y_pickF rfl rfl) rfl rfl rfl ?_
      refine s_nil ?_
      exact f_chain rfl (decide_eq_decide.2 (by omega)) ⟨rfl, rfl, rfl, rfl, rfl, rfl, rfl, rfl, rfl, rfl, rfl, rfl, rfl, trivial⟩
  refine c_condD rfl (fun hbad => ?_) (fun hgd => ?_)
  · refine c_seq ?_
    refine c_region ?_
    refine s_y (y_assign rfl) rfl rfl rfl ?_
    refine s_y (y_assign rfl) rfl rfl rfl ?_
    refine s_y (y_assign rfl) rfl rfl rfl ?_
    refine s_y (y_assign rfl) rfl rfl rfl ?_
    refine s_nil ?_
    refine f_then ?_
    refine c_ret ?_
    refine f_thenR ?_
    refine f_blockR ?_
    refine f_thenR ?_
    refine f_rndR ?_
    refine f_blockR ?_
    refine f_thenR ?_
    exact f_ret () (res4 rfl rfl rfl rfl rfl) (fun w h => (anet_tail h.tail).tail)
  have hri : (0 ≤ (Q k).1 ∧ (Q k).1 < l) ∧ 0 ≤ (Q k).2 ∧ (Q k).2 < r := by omega
  have e1 : ((frM l r m Q k : Nat) : Int) = (Q k).1 := by unfold frM; rw [if_pos hkn]; omega
  have e2 : ((ttM l r m Q k : Nat) : Int) = (l : Int) + (Q k).2 := by unfold ttM; rw [if_pos hkn]; omega
  have hadd := padd_spec (frM l r m Q) (ttM l r m Q) rmM (fun _ => 0) W ([(bh, ints 3 (l + r + 2) (fun _ => 0) [])] :: Ls) p bo (l + r + 2) k (.slice (some ⟨bh, 0, none⟩) (l + r + 2) (l + r + 2)) x hx (by omega) (by omega) (by omega) (by omega)
  rw [e1, e2] at hadd
  refine c_skip ?_
  refine f_then ?_
  refine c_region ?_
  refine s_y (y_move rfl) rfl rfl rfl ?_
  refine s_y (y_indexArrB Try.tab rfl rfl rfl rfl 0 rfl (by omega)) rfl rfl rfl ?_
  refine s_y (y_load Try.tab rfl rfl (cell_row 0 rfl rfl)) rfl rfl rfl ?_
  refine s_y (y_move rfl) rfl rfl rfl ?_
  refine s_y (y_indexArrB Try.tab rfl rfl rfl rfl 1 rfl (by omega)) rfl rfl rfl ?_
  refine s_y (y_load Try.tab rfl rfl (cell_row 0 rfl rfl)) rfl rfl rfl ?_
  refine s_y (y_add rfl rfl (by omega)) rfl rfl rfl ?_
  refine St.cls (C' := K W (anet (frM l r m Q) (ttM l r m Q) rmM (fun _ => 0) p bo (l + r + 2) k (.slice (some ⟨bh, 0, none⟩) (l + r + 2) (l + r + 2)) x ([(bh, ints 3 (l + r + 2) (fun _ => 0) [])] :: Ls))) ?_ (fun w h => h.tail)
  refine s_call (en_f rfl Try.call41) hadd rfl rfl rfl (fun y => ?_)
  refine s_nil ?_
  refine f_blockN ?_
  refine f_then ?_
  refine c_region ?_
  refine s_y (y_add rfl rfl (by omega)) rfl rfl rfl ?_
  refine s_y (y_move rfl) rfl rfl rfl ?_
  refine s_nil ?_
  exact f_roundP (k + 1, y.1) ⟨hkn, y.2, fun j hj => by
    by_cases e : j = k
    · subst e; exact hri
    · exact hoq j (by omega)⟩ (by dsimp only; omega) ⟨rfl, rfl, rfl, rfl, rfl, rfl, rfl, rfl, rfl, trivial⟩ (fun w h => h)
end Go.KL
end

section
/- Plain lemmas: what Solve, Cut and Close return is what the document says. No program in sight. -/
namespace Go.KL
section
variable {n na s t : Nat} {A : Nat → Ac}
theorem SolveP.flw {want v : Int} {f p : Nat → Int} (h : SolveP n na A s t want v f p) : Flw n na s t (frN A) (ttN A) (capN A) 1 f v := by
  have := h.fl.flw; rwa [h.val] at this
/-- Check accepts it. -/
theorem SolveP.chk {want v : Int} {f p : Nat → Int} (hN : NetOK n na A s t) (h : SolveP n na A s t want v f p) : chk n na A s t v (cst (cstN A) f na) na f n p = 0 := by
  unfold Go.KL.chk
  have e1 : FlOK (n : Int).toNat na A (s : Int).toNat (t : Int).toNat na f ∧ 0 ≤ more (frN A) (ttN A) f na (s : Int).toNat ∧ more (frN A) (ttN A) f na (s : Int).toNat = v := ⟨h.fl, by rw [show (s : Int).toNat = s from rfl, h.val]; exact h.lo, h.val⟩
  have e2 : cst (cstN A) f na = cst (cstN A) f na ∧ CertOK (n : Int).toNat na A f n p := ⟨rfl, h.cert⟩
  rw [if_neg (not_not_intro hN), if_neg (not_not_intro e1), if_neg (not_not_intro e2)]
/-- What Check accepts. -/
theorem chk_zero {n s t fv fc : Int} {m mp : Nat} {f p : Nat → Int} (h : chk n na A s t fv fc m f mp p = 0) : NetOK n na A s t ∧ (FlOK n.toNat na A s.toNat t.toNat m f ∧ 0 ≤ more (frN A) (ttN A) f na s.toNat ∧ more (frN A) (ttN A) f na s.toNat = fv) ∧ cst (cstN A) f na = fc ∧ CertOK n.toNat na A f mp p := by
  unfold chk at h
  split at h
  · cases h
  · rename_i h1
    split at h
    · cases h
    · rename_i h2
      split at h
      · cases h
      · rename_i h3
        exact ⟨Classical.not_not.1 h1, Classical.not_not.1 h2, Classical.not_not.1 h3⟩
theorem cert_least {f p : Nat → Int} {v : Int} (hN : NetOK n na A s t) (hf : Flw n na s t (frN A) (ttN A) (capN A) 1 f v) (hp : CertP na (frN A) (ttN A) (capN A) (cstN A) f p) {g : Nat → Int} (hg : Flw n na s t (frN A) (ttN A) (capN A) 1 g v) : cst (cstN A) f na ≤ cst (cstN A) g na := by
  have := hp.least hN.arcs1 hf (c := 1) (g := g) (by rw [Int.one_mul]; exact hg)
  rwa [Int.one_mul] at this
/-- A bound on every flow. -/
theorem flw_bd {f : Nat → Int} {v : Int} (hN : NetOK n na A s t) (hf : Flw n na s t (frN A) (ttN A) (capN A) 1 f v) : v ≤ 1099511627776 := by
  have hA := hN.arcs1
  have h1 := (hf.cut hA (S := fun u => decide (u = s)) (by simp) (by simp; exact fun e => hA.ne e.symm)).1
  have h2 := sm_bound na (fun j => if (decide (frN A j = s) && !decide (ttN A j = s)) then capN A j else 0) 1073741824 (fun j hj => by have := (hN.arc j hj).2.2.2.1; simp only [capN]; split <;> omega)
  have h3 : cpc na (frN A) (ttN A) (capN A) (fun u => decide (u = s)) ≤ na * 1073741824 := h2
  have := hN.hna
  omega
/-- Solve's value: what is wanted, or the greatest. -/
theorem SolveP.value {want v : Int} {f p : Nat → Int} (hN : NetOK n na A s t) (h : SolveP n na A s t want v f p) {g : Nat → Int} {x : Int} (hg : Flw n na s t (frN A) (ttN A) (capN A) 1 g x) (hx : x ≤ want) : x ≤ v := by
  rcases Int.lt_or_le v want with hlt | hge
  · obtain ⟨S, q1, q2, q3⟩ := h.full hlt
    exact h.flw.greatest hN.arcs1 q1 q2 q3 hg
  · omega
/-- Cut's value is the greatest. -/
theorem CutP.max {v : Int} {f : Nat → Int} {g : Nat → Bool} (hN : NetOK n na A s t) (h : CutP n na A s t v f g) {y : Nat → Int} {x : Int} (hy : Flw n na s t (frN A) (ttN A) (capN A) 1 y x) : x ≤ v :=
  h.fl.greatest hN.arcs1 h.rch.start h.out h.rch.shut hy
theorem CutP.cap {v : Int} {f : Nat → Int} {g : Nat → Bool} (hN : NetOK n na A s t) (h : CutP n na A s t v f g) : cpc na (frN A) (ttN A) (capN A) g = v := ((h.fl.shut hN.arcs1 h.rch.start h.out).2 h.rch.shut).symm
/-- The smallest cut of the least capacity. -/
theorem CutP.least {v : Int} {f : Nat → Int} {g : Nat → Bool} (hN : NetOK n na A s t) (h : CutP n na A s t v f g) {S : Nat → Bool} (hs : S s = true) (ht : S t = false) : v ≤ cpc na (frN A) (ttN A) (capN A) S ∧ (cpc na (frN A) (ttN A) (capN A) S = v → ∀ u, g u = true → S u = true) := by
  refine ⟨(h.fl.cut hN.arcs1 hs ht).1, fun e u hu => ?_⟩
  have := (h.fl.shut hN.arcs1 hs ht).1 e.symm
  exact h.rch.least (fun u => S u = true) hs (fun i hi => this i hi) u hu
/-- What the rest of a greatest flow reaches does not depend on the flow. -/
theorem reach_same {v : Int} {f f' : Nat → Int} {g g' : Nat → Bool} (hN : NetOK n na A s t) (h1 : Flw n na s t (frN A) (ttN A) (capN A) 1 f v) (r1 : ReachP n na s (frN A) (ttN A) (capN A) f g) (o1 : g t = false)
    (h2 : Flw n na s t (frN A) (ttN A) (capN A) 1 f' v) (r2 : ReachP n na s (frN A) (ttN A) (capN A) f' g') (o2 : g' t = false) : ∀ u, g u = g' u := by
  have hA := hN.arcs1
  have e1 := (h1.shut hA r1.start o1).2 r1.shut
  have e2 := (h2.shut hA r2.start o2).2 r2.shut
  have s1 := (h1.shut hA r2.start o2).1 (by omega)
  have s2 := (h2.shut hA r1.start o1).1 (by omega)
  intro u
  have q1 := r1.least (fun u => g' u = true) r2.start (fun i hi => s1 i hi) u
  have q2 := r2.least (fun u => g u = true) r1.start (fun i hi => s2 i hi) u
  cases e1 : g u <;> cases e2 : g' u <;> simp_all
end
/-! ### Closures -/
section
variable {n m : Nat} {w : Nat → Int} {Q : Nat → Pr}
theorem sm_nonneg_at (m : Nat) (f : Nat → Int) (h : ∀ i, i < m → 0 ≤ f i) (k : Nat) (hk : k < m) : f k ≤ sm m f := by
  induction m with
  | zero => omega
  | succ m ih =>
    have h1 := sm_nonneg m f fun i hi => h i (by omega)
    have h2 := h m (by omega)
    simp only [sm]
    by_cases e : k = m
    · subst e; omega
    · have := ih (fun i hi => h i (by omega)) (by omega); omega
/-- The capacity of a cut: the weights, and the needs that leave it. -/
theorem cpcC_set {S : Nat → Bool} (hs : S n = true) (ht : S (n + 1) = false) :
    cpc (n + m) (frC n w Q) (ttC n w Q) (rmC n w) S = gain w n - wgt n w S + sm m (fun i => if S (Q i).1.toNat && !S (Q i).2.toNat then 1125899906842624 else 0) := by
  unfold cpc
  rw [sm_split]
  have e1 : sm m (fun i => if S (frC n w Q (n + i)) && !S (ttC n w Q (n + i)) then rmC n w (n + i) else 0) = sm m (fun i => if S (Q i).1.toNat && !S (Q i).2.toNat then 1125899906842624 else 0) := sm_congr m _ _ fun i hi => by
    have hlt : ¬ n + i < n := by omega
    unfold frC ttC rmC
    simp only [hlt, if_false, Nat.add_sub_cancel_left]
  have e2 : sm n (fun i => if S (frC n w Q i) && !S (ttC n w Q i) then rmC n w i else 0) = gain w n - wgt n w S := by
    unfold gain wgt
    rw [← sm_sub]
    apply sm_congr
    intro i hi
    unfold frC ttC rmC
    simp only [hi, if_true]
    by_cases e : 0 < w i
    · simp only [e, if_true, hs, Bool.true_and]
      cases S i <;> simp
    · simp only [e, if_false, ht, Bool.not_false, Bool.and_true]
      cases S i <;> simp
  rw [e1, e2]
theorem closed_cut {S : Nat → Bool} (hs : S n = true) (ht : S (n + 1) = false) (hc : ClosedP m Q S) : cpc (n + m) (frC n w Q) (ttC n w Q) (rmC n w) S = gain w n - wgt n w S := by
  rw [cpcC_set hs ht, sm_zero m _ fun i hi => ?_, Int.add_zero]
  cases e : S (Q i).1.toNat with
  | false => simp
  | true => rw [hc i hi e]; simp
theorem ClosO.closeP (hG : GoodsOK n w m Q) {v : Int} {f : Nat → Int} {g : Nat → Bool} (h : ClosO n m w Q v f g) : ClosedP m Q g ∧ wgt n w g = v ∧ CloseP n m w Q v g := by
  have hA := arcsC hG
  have hgb := gain_bd (w := w) n hG.hw
  have hn := hG.hn
  have e1 := (h.fl.shut hA h.rch.start h.out).2 h.rch.shut
  have h0 := (h.fl.cut hA (S := fun u => decide (u = n)) (by simp) (by simp)).1
  rw [cpcC hG] at h0
  have e2 := cpcC_set (m := m) (w := w) (Q := Q) h.rch.start h.out
  have hcl : ClosedP m Q g := by
    intro i hi hq
    cases e : g (Q i).2.toNat with
    | true => rfl
    | false =>
      have := sm_nonneg_at m (fun i => if g (Q i).1.toNat && !g (Q i).2.toNat then (1125899906842624 : Int) else 0) (fun i _ => by split <;> omega) i hi
      simp only [hq, e, Bool.not_false, Bool.and_self, if_true] at this
      have hw := wgt_bd (S := g) n hG.hw
      have hg1 : wgt n w g ≤ gain w n := by
        unfold wgt gain
        apply sm_le
        intro j _
        split <;> split <;> omega
      omega
  have e3 := closed_cut (w := w) h.rch.start h.out hcl
  have hv : wgt n w g = v := by omega
  have ext : ∀ S : Nat → Bool, ∃ S' : Nat → Bool, S' n = true ∧ S' (n + 1) = false ∧ ∀ i, i < n → S' i = S i := fun S => ⟨fun u => if u = n then true else if u = n + 1 then false else S u, by simp, by simp, fun i hi => by
    have h1 : i ≠ n := by omega
    have h2 : i ≠ n + 1 := by omega
    simp only [h1, h2, if_false]⟩
  refine ⟨hcl, hv, ⟨g, hcl, hv⟩, fun S hS => ?_, fun i hi => ⟨fun hgi S hS hw => ?_, fun hall => hall g hcl hv⟩⟩
  · obtain ⟨S', q1, q2, q3⟩ := ext S
    have hS' := closedP_congr hG.hq (fun i hi => (q3 i hi).symm) hS
    have q4 := (h.fl.cut hA q1 q2).1
    rw [closed_cut q1 q2 hS', wgt_congr q3] at q4
    omega
  · obtain ⟨S', q1, q2, q3⟩ := ext S
    have hS' := closedP_congr hG.hq (fun i hi => (q3 i hi).symm) hS
    have q4 := (h.fl.shut hA q1 q2).1 (by rw [closed_cut q1 q2 hS', wgt_congr q3]; omega)
    rw [← q3 i hi]
    exact h.rch.least (fun u => S' u = true) q1 (fun j hj => q4 j hj) i hgi
end
end Go.KL
end

section
/- Walks: the laws' helpers. -/
namespace Go.KL
open Go.Proofs
def diaA : Nat → Ac
  | 0 => (0, 1, 2, 1)
  | 1 => (0, 2, 1, 4)
  | 2 => (1, 3, 1, 1)
  | 3 => (2, 3, 2, 1)
  | _ => (1, 2, 1, 1)
def i6 (z : Int) : Value := .int .i64 z
theorem dia_row : row 35 ([(0 : Int), 1, 2, 1, 0, 2, 1, 4, 1, 3, 1, 1, 2, 3, 2, 1, 1, 2, 1, 1].map i6) = recs 35 4 5 (ag diaA) [] := rfl
theorem dia_net : NetOK 4 5 diaA 0 3 := by
  refine ⟨by omega, by omega, by omega, by omega, by omega, fun i hi => ?_⟩
  match i, hi with
  | 0, _ => simp [ArcOK, diaA]
  | 1, _ => simp [ArcOK, diaA]
  | 2, _ => simp [ArcOK, diaA]
  | 3, _ => simp [ArcOK, diaA]
  | 4, _ => simp [ArcOK, diaA]
theorem dia_val {v : Int} {f p : Nat → Int} (h : SolveP 4 5 diaA 0 3 9 v f p) : v = 3 ∧ cst (cstN diaA) f 5 = 10 := by
  have b0 := h.fl.bd 0 (by omega)
  have b1 := h.fl.bd 1 (by omega)
  have b2 := h.fl.bd 2 (by omega)
  have b3 := h.fl.bd 3 (by omega)
  have b4 := h.fl.bd 4 (by omega)
  have m1 := h.fl.mid 1 (by omega) (by omega) (by omega)
  have m2 := h.fl.mid 2 (by omega) (by omega) (by omega)
  have m0 := h.val
  simp [more, sm, frN, ttN, capN, diaA] at b0 b1 b2 b3 b4 m1 m2 m0
  have hv : v = 3 := by
    obtain ⟨S, s0, s3, hS⟩ := h.full (by omega)
    have q0 := hS 0 (by omega)
    have q1 := hS 1 (by omega)
    have q2 := hS 2 (by omega)
    have q3 := hS 3 (by omega)
    have q4 := hS 4 (by omega)
    simp [frN, ttN, capN, diaA, s0, s3] at q0 q1 q2 q3 q4
    cases e1 : S 1 <;> cases e2 : S 2 <;> simp [e1, e2] at q0 q1 q2 q3 q4 <;> omega
  refine ⟨hv, ?_⟩
  simp [cst, sm, cstN, diaA]
  omega
def cwA : Nat → Int
  | 0 => 5
  | 1 => -3
  | _ => -4
def cqA : Nat → Pr := fun _ => (0, 1)
theorem clo_good : GoodsOK 3 cwA 1 cqA := by
  refine ⟨by omega, by omega, fun i hi => ?_, fun i hi => ?_⟩
  · match i, hi with
    | 0, _ => simp [cwA]
    | 1, _ => simp [cwA]
    | 2, _ => simp [cwA]
  · simp [cqA]
theorem clo_val {v : Int} {f : Nat → Int} {g : Nat → Bool} (h : ClosO 3 1 cwA cqA v f g) : v = 2 ∧ g 0 = true ∧ g 1 = true ∧ g 2 = false := by
  obtain ⟨h1, h2, h3⟩ := h.closeP clo_good
  have hm := h3.max (fun i => decide (i < 2)) (fun i hi => by simp [cqA])
  have hc := h1 0 (by omega)
  simp [cqA] at hc
  simp [wgt, sm, cwA] at hm h2
  cases e0 : g 0 <;> cases e1 : g 1 <;> cases e2 : g 2 <;> simp [e0, e1, e2] at h2 hc ⊢ <;> omega
theorem cw_row : row 3 [i6 5, i6 (-3), i6 (-4)] = ints 3 3 cwA [] := rfl
theorem cq_row : row 69 [i6 0, i6 1] = recs 69 2 1 (pg cqA) [] := rfl
attribute [local irreducible] SC St Fin Sq Sw Ylds Doos Sets Enters Spec CellIs CellsAre Then Ret Rnd Chn resOK ints bools recs arr
/-- Few nodes and arcs. -/
def fewP (n : Int) (na : Nat) : Prop := (n ≤ 40 ∨ 128 < n) ∧ (na ≤ 120 ∨ na = 1025)
instance (n : Int) (na : Nat) : Decidable (fewP n na) := inferInstanceAs (Decidable ((n ≤ 40 ∨ 128 < n) ∧ (na ≤ 120 ∨ na = 1025)))
set_option maxHeartbeats 4000000 in
theorem few_spec (W : World) (Ls : List Chunk) (n s t : Int) (pa : Option Addr) (na ca : Nat) :
    Spec Try.prog 15 #[.agg #[.int .i64 n, .slice pa na ca, .int .i64 s, .int .i64 t]] (K W Ls) (fun _ : Unit => .bool (decide (fewP n na))) (fun _ => K W Ls) := by
  refine enter (args := [_]) Try.func15 rfl Try.ntmps15 rfl ?_
  refine c_seq ?_
  refine c_region ?_
  refine s_do (do_box rfl) rfl rfl rfl (fun b1 => ?_)
  refine s_y (y_assign rfl) rfl rfl rfl ?_
  refine s_nil ?_
  refine f_then ?_
  refine c_seq ?_
  refine c_region ?_
  refine s_y (y_fieldAddr0 Try.tab rfl rfl rfl rfl rfl) rfl rfl rfl ?_
  refine s_y (y_load Try.tab rfl rfl (cell_row 0 rfl rfl)) rfl rfl rfl ?_
  refine s_y (y_leq rfl rfl) rfl rfl rfl ?_
  refine s_y (y_move rfl) rfl rfl rfl ?_
  refine s_case 6 rfl (fun c0 => ?_) (fun c0 => ?_)
  iterate 3 refine s_skip rfl rfl rfl ?_
  refine s_y (y_pickT rfl rfl) rfl rfl rfl ?_
  refine s_y (y_move rfl) rfl rfl rfl ?_
  refine s_y (y_fieldAddrB Try.tab 1 rfl rfl rfl rfl rfl) rfl rfl rfl ?_
  refine s_y (y_load Try.tab rfl rfl (cell_row 0 rfl rfl)) rfl rfl rfl ?_
  refine s_y (y_len Try.tab rfl rfl) rfl rfl rfl ?_
  refine s_y (y_leq rfl rfl) rfl rfl rfl ?_
  refine s_y (y_move rfl) rfl rfl rfl ?_
  refine s_case 16 rfl (fun c1 => ?_) (fun c1 => ?_)
  iterate 4 refine s_skip rfl rfl rfl ?_
  refine s_y (y_pickT rfl rfl) rfl rfl rfl ?_
  refine s_y (y_pickT rfl rfl) rfl rfl rfl ?_
  refine s_y (y_assign rfl) rfl rfl rfl ?_
  refine s_nil ?_
  refine f_then ?_
  refine c_ret ?_
  rotate_left
  refine s_y (y_fieldAddrB Try.tab 1 rfl rfl rfl rfl rfl) rfl rfl rfl ?_
  refine s_y (y_load Try.tab rfl rfl (cell_row 0 rfl rfl)) rfl rfl rfl ?_
  refine s_y (y_len Try.tab rfl rfl) rfl rfl rfl ?_
  refine s_y (y_eql rfl rfl) rfl rfl rfl ?_
  refine s_y (y_pickF rfl rfl) rfl rfl rfl ?_
  refine s_y (y_pickT rfl rfl) rfl rfl rfl ?_
  refine s_y (y_assign rfl) rfl rfl rfl ?_
  refine s_nil ?_
  refine f_then ?_
  refine c_ret ?_
  rotate_left
  refine s_y (y_fieldAddr0 Try.tab rfl rfl rfl rfl rfl) rfl rfl rfl ?_
  refine s_y (y_load Try.tab rfl rfl (cell_row 0 rfl rfl)) rfl rfl rfl ?_
  refine s_y (y_gtr rfl rfl) rfl rfl rfl ?_
  refine s_y (y_pickF rfl rfl) rfl rfl rfl ?_
  refine s_y (y_move rfl) rfl rfl rfl ?_
  refine s_case 11 rfl (fun c1 => ?_) (fun c1 => ?_)
  refine s_y (y_fieldAddrB Try.tab 1 rfl rfl rfl rfl rfl) rfl rfl rfl ?_
  refine s_y (y_load Try.tab rfl rfl (cell_row 0 rfl rfl)) rfl rfl rfl ?_
  refine s_y (y_len Try.tab rfl rfl) rfl rfl rfl ?_
  refine s_y (y_leq rfl rfl) rfl rfl rfl ?_
  refine s_y (y_move rfl) rfl rfl rfl ?_
  refine s_case 16 rfl (fun c2 => ?_) (fun c2 => ?_)
  iterate 4 refine s_skip rfl rfl rfl ?_
  refine s_y (y_pickT rfl rfl) rfl rfl rfl ?_
  refine s_y (y_pickT rfl rfl) rfl rfl rfl ?_
  refine s_y (y_assign rfl) rfl rfl rfl ?_
  refine s_nil ?_
  refine f_then ?_
  refine c_ret ?_
  rotate_left
  refine s_y (y_fieldAddrB Try.tab 1 rfl rfl rfl rfl rfl) rfl rfl rfl ?_
  refine s_y (y_load Try.tab rfl rfl (cell_row 0 rfl rfl)) rfl rfl rfl ?_
  refine s_y (y_len Try.tab rfl rfl) rfl rfl rfl ?_
  refine s_y (y_eql rfl rfl) rfl rfl rfl ?_
  refine s_y (y_pickF rfl rfl) rfl rfl rfl ?_
  refine s_y (y_pickT rfl rfl) rfl rfl rfl ?_
  refine s_y (y_assign rfl) rfl rfl rfl ?_
  refine s_nil ?_
  refine f_then ?_
  refine c_ret ?_
  rotate_left
  iterate 10 refine s_skip rfl rfl rfl ?_
  refine s_y (y_pickF rfl rfl) rfl rfl rfl ?_
  refine s_y (y_assign rfl) rfl rfl rfl ?_
  refine s_nil ?_
  refine f_then ?_
  refine c_ret ?_
  rotate_left
  rotate_right 5
  all_goals exact f_retE () (res1 rfl rfl) (congrArg Value.bool (by first | exact (decide_eq_true (by unfold fewP; omega)).symm | exact (decide_eq_false (by unfold fewP; omega)).symm | exact decide_eq_decide.2 (by unfold fewP; omega))) (fun w h => h.tail)
open Classical in
set_option maxHeartbeats 4000000 in
theorem nvalid_spec (W : World) (Ls : List Chunk) (n s t : Int) (va : Value) (na : Nat) (A : Nat → Ac) (hA : SlA (K W Ls) va na A) (hna : na ≤ 1000000000) :
    Spec Try.prog 18 #[.agg #[.int .i64 n, va, .int .i64 s, .int .i64 t]] (K W Ls) (fun _ : Unit => .bool (decide (NetOK n na A s t))) (fun _ => K W Ls) := by
  refine enter (args := [_]) Try.func18 rfl Try.ntmps18 rfl ?_
  have hv := fun b => rvalid_spec W ([(b, row 24 [.int .i64 n, va, .int .i64 s, .int .i64 t])] :: Ls) n s t va na A (SlA.arcsV (hA.cls fun w h => h.tail)) hna
  refine c_seq ?_
  refine c_region ?_
  refine s_do (do_box rfl) rfl rfl rfl (fun b1 => ?_)
  refine s_y (y_assign rfl) rfl rfl rfl ?_
  refine s_nil ?_
  refine f_then ?_
  refine c_seq ?_
  refine c_region ?_
  refine s_y (y_fieldAddr0 Try.tab rfl rfl rfl rfl rfl) rfl rfl rfl ?_
  refine s_y (y_load Try.tab rfl rfl (cell_row 0 rfl rfl)) rfl rfl rfl ?_
  refine s_y (y_fieldAddrB Try.tab 1 rfl rfl rfl rfl rfl) rfl rfl rfl ?_
  refine s_y (y_load Try.tab rfl rfl (cell_row 0 rfl rfl)) rfl rfl rfl ?_
  refine s_y (y_fieldAddrB Try.tab 2 rfl rfl rfl rfl rfl) rfl rfl rfl ?_
  refine s_y (y_load Try.tab rfl rfl (cell_row 0 rfl rfl)) rfl rfl rfl ?_
  refine s_y (y_fieldAddrB Try.tab 3 rfl rfl rfl rfl rfl) rfl rfl rfl ?_
  refine s_y (y_load Try.tab rfl rfl (cell_row 0 rfl rfl)) rfl rfl rfl ?_
  refine s_call (en_f rfl Try.call44) (hv _) rfl rfl rfl (fun _ => ?_)
  refine s_y (y_assign rfl) rfl rfl rfl ?_
  refine s_nil ?_
  refine f_then ?_
  refine c_ret ?_
  exact f_ret () (res1 rfl rfl) (fun w h => h.tail)
set_option maxHeartbeats 4000000 in
theorem empty1_spec (W : World) (Ls : List Chunk) (v c : Int) (p q : Option Addr) (m cm k ck : Nat) :
    Spec Try.prog 19 #[.agg #[.int .i64 v, .int .i64 c, .slice p m cm, .slice q k ck]] (K W Ls) (fun _ : Unit => .bool (decide (v = 0 ∧ c = 0 ∧ m = 0 ∧ k = 0))) (fun _ => K W Ls) := by
  refine enter (args := [_]) Try.func19 rfl Try.ntmps19 rfl ?_
  refine c_seq ?_
  refine c_region ?_
  refine s_do (do_box rfl) rfl rfl rfl (fun b1 => ?_)
  refine s_y (y_assign rfl) rfl rfl rfl ?_
  refine s_nil ?_
  refine f_then ?_
  refine c_seq ?_
  refine c_region ?_
  refine s_y (y_fieldAddr0 Try.tab rfl rfl rfl rfl rfl) rfl rfl rfl ?_
  refine s_y (y_load Try.tab rfl rfl (cell_row 0 rfl rfl)) rfl rfl rfl ?_
  refine s_y (y_eql rfl rfl) rfl rfl rfl ?_
  refine s_y (y_move rfl) rfl rfl rfl ?_
  refine s_case 6 rfl (fun c0 => ?_) (fun c0 => ?_)
  refine s_y (y_fieldAddrB Try.tab 1 rfl rfl rfl rfl rfl) rfl rfl rfl ?_
  refine s_y (y_load Try.tab rfl rfl (cell_row 0 rfl rfl)) rfl rfl rfl ?_
  refine s_y (y_eql rfl rfl) rfl rfl rfl ?_
  refine s_y (y_pickT rfl rfl) rfl rfl rfl ?_
  refine s_y (y_move rfl) rfl rfl rfl ?_
  refine s_case 11 rfl (fun c1 => ?_) (fun c1 => ?_)
  refine s_y (y_fieldAddrB Try.tab 2 rfl rfl rfl rfl rfl) rfl rfl rfl ?_
  refine s_y (y_load Try.tab rfl rfl (cell_row 0 rfl rfl)) rfl rfl rfl ?_
  refine s_y (y_len Try.tab rfl rfl) rfl rfl rfl ?_
  refine s_y (y_eql rfl rfl) rfl rfl rfl ?_
  refine s_y (y_pickT rfl rfl) rfl rfl rfl ?_
  refine s_y (y_move rfl) rfl rfl rfl ?_
  refine s_case 17 rfl (fun c2 => ?_) (fun c2 => ?_)
  refine s_y (y_fieldAddrB Try.tab 3 rfl rfl rfl rfl rfl) rfl rfl rfl ?_
  refine s_y (y_load Try.tab rfl rfl (cell_row 0 rfl rfl)) rfl rfl rfl ?_
  refine s_y (y_len Try.tab rfl rfl) rfl rfl rfl ?_
  refine s_y (y_eql rfl rfl) rfl rfl rfl ?_
  refine s_y (y_pickT rfl rfl) rfl rfl rfl ?_
  refine s_y (y_assign rfl) rfl rfl rfl ?_
  refine s_nil ?_
  refine f_then ?_
  refine c_ret ?_
  rotate_left
  iterate 4 refine s_skip rfl rfl rfl ?_
  refine s_y (y_pickF rfl rfl) rfl rfl rfl ?_
  refine s_y (y_assign rfl) rfl rfl rfl ?_
  refine s_nil ?_
  refine f_then ?_
  refine c_ret ?_
  rotate_left
  iterate 4 refine s_skip rfl rfl rfl ?_
  refine s_y (y_pickF rfl rfl) rfl rfl rfl ?_
  refine s_y (y_move rfl) rfl rfl rfl ?_
  iterate 4 refine s_skip rfl rfl rfl ?_
  refine s_y (y_pickF rfl rfl) rfl rfl rfl ?_
  refine s_y (y_assign rfl) rfl rfl rfl ?_
  refine s_nil ?_
  refine f_then ?_
  refine c_ret ?_
  rotate_left
  iterate 3 refine s_skip rfl rfl rfl ?_
  refine s_y (y_pickF rfl rfl) rfl rfl rfl ?_
  refine s_y (y_move rfl) rfl rfl rfl ?_
  iterate 4 refine s_skip rfl rfl rfl ?_
  refine s_y (y_pickF rfl rfl) rfl rfl rfl ?_
  refine s_y (y_move rfl) rfl rfl rfl ?_
  iterate 4 refine s_skip rfl rfl rfl ?_
  refine s_y (y_pickF rfl rfl) rfl rfl rfl ?_
  refine s_y (y_assign rfl) rfl rfl rfl ?_
  refine s_nil ?_
  refine f_then ?_
  refine c_ret ?_
  rotate_left
  rotate_right 4
  all_goals exact f_retE () (res1 rfl rfl) (congrArg Value.bool (by first | exact (decide_eq_true (by omega)).symm | exact (decide_eq_false (by omega)).symm | exact decide_eq_decide.2 (by omega))) (fun w h => h.tail)
set_option maxHeartbeats 4000000 in
theorem diamond_spec (W : World) (Ls : List Chunk) : Spec Try.prog 38 #[] (K W Ls) (fun b : Nat => .slice (some ⟨b, 0, none⟩) 5 5) (fun b => K W ([(b, recs 35 4 5 (ag diaA) [])] :: Ls)) := by
  refine enter (args := []) Try.func38 rfl Try.ntmps38 rfl ?_
  refine c_seq ?_
  refine c_region ?_
  refine s_y (y_assign rfl) rfl rfl rfl ?_
  refine s_nil ?_
  refine f_then ?_
  refine c_seq ?_
  refine c_region ?_
  refine s_y (y_build Try.tab rfl rfl rfl rfl rfl) rfl rfl rfl ?_
  refine s_y (y_build Try.tab rfl rfl rfl rfl rfl) rfl rfl rfl ?_
  refine s_y (y_build Try.tab rfl rfl rfl rfl rfl) rfl rfl rfl ?_
  refine s_y (y_build Try.tab rfl rfl rfl rfl rfl) rfl rfl rfl ?_
  refine s_y (y_build Try.tab rfl rfl rfl rfl rfl) rfl rfl rfl ?_
  refine s_do (do_buildSliceS Try.tab ⟨rfl, rfl, rfl, rfl⟩ rfl rfl rfl rfl) rfl rfl rfl (fun b6 => ?_)
  refine s_y (y_assign rfl) rfl rfl rfl ?_
  refine s_nil ?_
  refine f_then ?_
  refine c_ret ?_
  exact f_ret b6 (res1 rfl rfl) (fun w h => by rw [← dia_row]; exact h)
set_option maxHeartbeats 8000000 in
theorem awake_spec (W : World) (Ls : List Chunk) : Spec Try.prog 16 #[] (K W Ls) (fun _ : Unit => .bool true) (fun _ => K W Ls) := by
  refine enter (args := []) Try.func16 rfl Try.ntmps16 rfl ?_
  refine c_seq ?_
  refine c_region ?_
  refine s_y (y_assign rfl) rfl rfl rfl ?_
  refine s_nil ?_
  refine f_then ?_
  refine c_seq ?_
  refine c_region ?_
  refine s_call (en_f rfl Try.call38) (diamond_spec W Ls) rfl rfl rfl (fun bd => ?_)
  refine s_call (en_f rfl Try.call17) (solve_spec W ([(bd, recs 35 4 5 (ag diaA) [])] :: Ls) 4 5 0 3 9 (.slice (some ⟨bd, 0, none⟩) 5 5) diaA (SlV.own 0 rfl) dia_net (by omega) (by omega)) rfl rfl rfl (fun x => ?_)
  obtain ⟨⟨v, f, p, o, bh⟩, hP, ho⟩ := x
  dsimp only at hP ho ⊢
  obtain ⟨hv, hc⟩ := dia_val hP
  subst hv
  rw [hc]
  refine s_y (y_move rfl) rfl rfl rfl ?_
  refine s_y (y_extract rfl rfl) rfl rfl rfl ?_
  refine s_y (y_extract rfl rfl) rfl rfl rfl ?_
  refine s_do (do_alloc Try.tab rfl) rfl rfl rfl (fun b1 => ?_)
  refine s_set (set_box Try.tab 0 rfl rfl (by have := ov_one o 5; simp only [List.all_cons, List.all_nil, this]; rfl) rfl rfl rfl rfl) rfl rfl ?_
  refine St.cls (C' := K W ([(b1, row 28 [.int .i64 3, .int .i64 10, ov o 5, .slice (some ⟨bh, 0, none⟩) 4 4])] :: Ls)) ?_ (fun w h => ((h.dropAt 1).dropAt 1).dropAt 1)
  refine s_y (y_assign rfl) rfl rfl rfl ?_
  refine s_nil ?_
  refine f_then ?_
  refine c_seq ?_
  refine c_region ?_
  refine s_do (do_buildSlice1 Try.tab ⟨rfl, rfl, rfl, rfl⟩ rfl rfl rfl rfl) rfl rfl rfl (fun b12 => ?_)
  refine s_y (y_buildArr Try.tab rfl rfl rfl rfl rfl) rfl rfl rfl ?_
  refine s_do (do_buildSliceS Try.tab ⟨rfl, rfl, rfl, rfl⟩ rfl rfl rfl rfl) rfl rfl rfl (fun b14 => ?_)
  refine St.cls (C' := K W ([(b14, recs 69 2 1 (pg cqA) [])] :: [(b12, ints 3 3 cwA [])] :: [(b1, row 28 [.int .i64 3, .int .i64 10, ov o 5, .slice (some ⟨bh, 0, none⟩) 4 4])] :: Ls)) ?_ (fun w h => by rw [← cq_row, ← cw_row]; exact h)
  refine s_call (en_f rfl Try.call22) (close_spec W ([(b14, recs 69 2 1 (pg cqA) [])] :: [(b12, ints 3 3 cwA [])] :: [(b1, row 28 [.int .i64 3, .int .i64 10, ov o 5, .slice (some ⟨bh, 0, none⟩) 4 4])] :: Ls) 3 1 (.slice (some ⟨b12, 0, none⟩) 3 3) (.slice (some ⟨b14, 0, none⟩) 1 1) cwA cqA (SlI.own 1 rfl) (SlV.own 0 rfl) clo_good) rfl rfl rfl (fun y => ?_)
  obtain ⟨⟨v2, f2, g, bg⟩, hC⟩ := y
  dsimp only at hC ⊢
  obtain ⟨e2, g0, g1, g2⟩ := clo_val hC
  subst e2
  refine s_y (y_move rfl) rfl rfl rfl ?_
  refine s_y (y_extract rfl rfl) rfl rfl rfl ?_
  refine s_y (y_extract rfl rfl) rfl rfl rfl ?_
  refine s_y (y_extract rfl rfl) rfl rfl rfl ?_
  refine s_y (y_assign rfl) rfl rfl rfl ?_
  refine s_y (y_assign rfl) rfl rfl rfl ?_
  refine s_y (y_assign rfl) rfl rfl rfl ?_
  refine s_nil ?_
  refine f_then ?_
  refine c_seq ?_
  refine c_chain 60 (decide (False)) ?_ ?_
  · refine c_region ?_
    refine s_y (y_move rfl) rfl rfl rfl ?_
    refine s_y (y_F (y_neq rfl rfl) (by omega)) rfl rfl rfl ?_
    refine s_y (y_move rfl) rfl rfl rfl ?_
    refine s_y (y_fieldAddr0 Try.tab rfl rfl rfl rfl rfl) rfl rfl rfl ?_
    refine s_y (y_load Try.tab rfl rfl (cell_row 3 rfl rfl)) rfl rfl rfl ?_
    refine s_y (y_F (y_neq rfl rfl) (by omega)) rfl rfl rfl ?_
    refine s_y (y_pickF rfl rfl) rfl rfl rfl ?_
    refine s_y (y_move rfl) rfl rfl rfl ?_
    refine s_y (y_fieldAddrB Try.tab 1 rfl rfl rfl rfl rfl) rfl rfl rfl ?_
    refine s_y (y_load Try.tab rfl rfl (cell_row 3 rfl rfl)) rfl rfl rfl ?_
    refine s_y (y_F (y_neq rfl rfl) (by omega)) rfl rfl rfl ?_
    refine s_y (y_pickF rfl rfl) rfl rfl rfl ?_
    refine s_y (y_move rfl) rfl rfl rfl ?_
    refine s_y (y_move rfl) rfl rfl rfl ?_
    refine s_y (y_F (y_neq rfl rfl) (by omega)) rfl rfl rfl ?_
    refine s_y (y_pickF rfl rfl) rfl rfl rfl ?_
    refine s_y (y_move rfl) rfl rfl rfl ?_
    refine s_y (y_move rfl) rfl rfl rfl ?_
    refine s_y (y_F (y_neq rfl rfl) (by omega)) rfl rfl rfl ?_
    refine s_y (y_pickF rfl rfl) rfl rfl rfl ?_
    refine s_y (y_move rfl) rfl rfl rfl ?_
    refine s_y (y_move rfl) rfl rfl rfl ?_
    refine s_y (y_len Try.tab rfl rfl) rfl rfl rfl ?_
    refine s_y (y_F (y_neq rfl rfl) (by omega)) rfl rfl rfl ?_
    refine s_y (y_pickF rfl rfl) rfl rfl rfl ?_
    refine s_y (y_move rfl) rfl rfl rfl ?_
    refine s_y (y_move rfl) rfl rfl rfl ?_
    refine s_y (y_indexAddr1 Try.tab rfl rfl rfl rfl 0 rfl (by omega)) rfl rfl rfl ?_
    refine s_y (y_load Try.tab rfl rfl (cell_bools 0 rfl (by omega))) rfl rfl rfl ?_
    refine s_y (y_not rfl) rfl rfl rfl ?_
    refine s_y (y_pickF rfl rfl) rfl rfl rfl ?_
    refine s_y (y_move rfl) rfl rfl rfl ?_
    refine s_caseB 50 rfl (fun c0 => ?_) (fun c0 => ?_)
    · refine s_skip rfl rfl rfl ?_
      iterate 3 refine s_skip rfl rfl rfl ?_
      refine s_y (y_pickT rfl rfl) rfl rfl rfl ?_
      refine s_y (y_move rfl) rfl rfl rfl ?_
      iterate 3 refine s_skip rfl rfl rfl ?_
      refine s_y (y_pickT rfl rfl) rfl rfl rfl ?_
      refine s_nil ?_
      exact f_chain rfl ((by simp_all)) ⟨rfl, rfl, rfl, rfl, rfl, rfl, rfl, rfl, rfl, rfl, rfl, rfl, rfl, rfl, rfl, rfl, rfl, rfl, rfl, trivial⟩
    · refine s_y (y_move rfl) rfl rfl rfl ?_
      refine s_y (y_indexAddr1 Try.tab rfl rfl rfl rfl 1 rfl (by omega)) rfl rfl rfl ?_
      refine s_y (y_load Try.tab rfl rfl (cell_bools 0 rfl (by omega))) rfl rfl rfl ?_
      refine s_y (y_not rfl) rfl rfl rfl ?_
      refine s_y (y_pickF rfl rfl) rfl rfl rfl ?_
      refine s_y (y_move rfl) rfl rfl rfl ?_
      refine s_caseB 56 rfl (fun c1 => ?_) (fun c1 => ?_)
      · refine s_skip rfl rfl rfl ?_
        iterate 2 refine s_skip rfl rfl rfl ?_
        refine s_y (y_pickT rfl rfl) rfl rfl rfl ?_
        refine s_nil ?_
        exact f_chain rfl ((by simp_all)) ⟨rfl, rfl, rfl, rfl, rfl, rfl, rfl, rfl, rfl, rfl, rfl, rfl, rfl, rfl, rfl, rfl, rfl, rfl, rfl, trivial⟩
      · refine s_y (y_move rfl) rfl rfl rfl ?_
        refine s_y (y_indexAddr1 Try.tab rfl rfl rfl rfl _ (Int.toNat_of_nonneg (by omega)).symm (by omega)) rfl rfl rfl ?_
        refine s_y (y_load Try.tab rfl rfl (cell_bools 0 rfl (by omega))) rfl rfl rfl ?_
        refine s_y (y_pickF rfl rfl) rfl rfl rfl ?_
        refine s_nil ?_
        exact f_chain rfl ((by simp [*])) ⟨rfl, rfl, rfl, rfl, rfl, rfl, rfl, rfl, rfl, rfl, rfl, rfl, rfl, rfl, rfl, rfl, rfl, rfl, rfl, trivial⟩
  refine c_condD rfl (fun h => h.elim) (fun _ => ?_)
  refine c_skip ?_
  refine f_then ?_
  refine c_seq ?_
  refine c_region ?_
  refine s_y (y_assign rfl) rfl rfl rfl ?_
  refine s_nil ?_
  refine f_then ?_
  refine c_ret ?_
  exact f_ret () (res1 rfl rfl) (fun w h => (((h.dropAt 0).dropAt 0).dropAt 0).dropAt 0)
end Go.KL
end

section
/- From the reading of a law's arguments to views of slices; what a law that writes nothing old leaves behind. No program in sight. -/
namespace Go.KL
open Go.ChangeShapes Go.WideShapes Go.RowKit Go.WideElems
section
variable {H : Type} {enc : TypeId × Value → H} {P : Program}

theorem Ext.since {W w : World} (h : Ext W w) : W.Since W.heap.size w := ⟨h.os, h.tape, h.output, h.size, h.block⟩

theorem trodAll_ext {W w : World} (he : Ext W w) (hl : laidOutB P = true) {sp : Nat → Bool} : ∀ {ts : List TypeId} {vs : List Value} {ds : List (DataW H)} {ps : List MemPlace},
    (∀ t ∈ ts, P.readableRec t = true ∧ t < P.types.size) → DataW.TrodAll enc P W 0 (fun _ => true) true ts vs ds ps → (∀ p ∈ ps, p.block < W.heap.size) → (∀ p ∈ ps, sp p.block = true) →
    DataW.TrodAll enc P w 0 sp true ts vs ds ps
  | [], vs, ds, ps, _, h, _, _ => by
    obtain ⟨rfl, rfl, rfl⟩ := trodAll_nil h
    exact trodAll_mk0
  | t :: ts, vs, ds, ps, hr, h, hb, hsp => by
    obtain ⟨v, vs', d, ds', p, q, rfl, rfl, rfl, h1, h2⟩ := trodAll_cons h
    have hr1 := hr t (by simp)
    exact trodAll_cons_mk (Trod_stays hl hr1.1 hr1.2 h1 (fun x hx => he.since.sameAt (hb x (by simp [hx]))) (fun x hx => hsp x (by simp [hx])))
      (trodAll_ext he hl (fun t ht => hr t (by simp [ht])) h2 (fun x hx => hb x (by simp [hx])) (fun x hx => hsp x (by simp [hx])))

/-- What a law leaves behind that has written to nothing that was there: true, and its arguments read as they did. -/
theorem law_post {f : Func} {s : ChangeSpec} {W W' : World} {args : Array Value} {ds gs : List (DataW H)} {before : List MemPlace} {t : TypeId}
    (hl : laidOutB P = true) (hts : ∀ t ∈ f.params.toList, P.readableRec t = true ∧ t < P.types.size) (hv : s.vars = []) (hr : f.resultTypes = #[t]) (ht : P.underlying t = some .bool)
    (hW : DataW.Whole enc P f.params.toList s.vars false W args.toList ds gs before) (hfn : s.fn H (ds ++ gs) = { results := [.lit (.bool true)], args := ds }) (he : Ext W W') :
    s.post enc P f false true false false W args (.bool true) W' := by
  have hlt := hW.lt
  have hW' := hW
  obtain ⟨p, q, hA, hV, rfl, hz, hn⟩ := hW'
  rw [hv] at hV
  obtain ⟨rfl, rfl⟩ := trodVars_none hV
  refine ⟨ds, [], p ++ [], [], p, [], hW, ?_, ?_, ?_, ?_, ?_⟩
  · rw [hfn, hr]
    exact trodAll_cons_mk (shut_bool ht true) trodAll_mk0
  · rw [hfn]
    refine trodAll_ext he hl hts hA (fun x hx => hlt x (by simp [hx])) (fun x hx => ?_)
    simpa using hlt x (by simp [hx])
  · rw [hfn, hv]
    exact hV
  · exact he.since.frame _
  · intro h; cases h

section
variable {W : World} {sp : Nat → Bool} {held : Bool} {fuel : Nat} {cs : List Value} {x : DataW H × List MemPlace} {t e : TypeId} {s : Nat}

theorem cell_K {b o : Nat} {v : Value} (h : W.cell? ⟨b, o, none⟩ = some v) : CellIs (K W []) ⟨b, o, none⟩ v := by
  intro w hw
  have hb : b < W.heap.size := by
    rcases Nat.lt_or_ge b W.heap.size with hb | hb
    · exact hb
    · simp [World.cell?, Array.getElem?_eq_none hb] at h
  rw [hw.toExt.since.cell (a := ⟨b, o, none⟩) hb, h]

/-- A slice, opened: its cells by a function; each element reads. -/
theorem open_view (ht : P.underlying t = some (.slice e)) (hs : P.cellsOf e = s) (hpos : 0 < s) (h : DataW.trod enc P W 0 sp held fuel t cs = some x) :
    ∃ pa n c G, cs = [.slice pa n c] ∧ n ≤ 9223372036854775807 ∧ SlV (K W []) (.slice pa n c) n s G ∧ ∀ i, i < n → ∃ z m, DataW.trod enc P W 0 sp held m e ((List.range s).map (G i)) = some z := by
  rcases DataW.trod_slice ht h with ⟨rfl, _⟩ | ⟨a, len, cap, elems, rest, m, _, rfl, _, _, hlc, hcm, hlen, hel, _⟩
  · exact ⟨none, 0, 0, fun _ _ => undef, rfl, by omega, ⟨none, 0, rfl, by omega, fun h => by omega⟩, fun i hi => by omega⟩
  have hmax : cap ≤ 9223372036854775807 := by
    have : maxLen ≤ 9223372036854775807 := by decide
    omega
  by_cases h0 : len = 0
  · subst h0
    exact ⟨some a, 0, cap, fun _ _ => undef, rfl, by omega, ⟨some a, cap, rfl, by omega, fun h => by omega⟩, fun i hi => by omega⟩
  have hone : ∀ i, i < len → ∃ el z, (∀ j, j < s → W.cell? (a.add (i * s + j)) = el[j]?) ∧ el.length = s ∧ DataW.trod enc P W 0 sp held m e el = some z := by
    intro i hi
    have := hel i hi
    rw [hs] at this
    have hz : ∃ z, elems[i]? = some z := ⟨elems[i]'(by omega), by simp [List.getElem?_eq_getElem (show i < elems.length by omega)]⟩
    obtain ⟨z, hz⟩ := hz
    rw [hz, Option.bind_eq_some_iff] at this
    obtain ⟨el, h1, h2⟩ := this
    obtain ⟨_, h4, h5⟩ := World.cells?_some h1
    refine ⟨el, z, fun j hj => ?_, h4, h2⟩
    rw [← h5 j hj]
    obtain ⟨b, o, spot⟩ := a
    by_cases e1 : i * s = 0 <;> by_cases e2 : j = 0 <;> simp [Addr.add, e1, e2, Nat.add_assoc]
  obtain ⟨b, o, spot⟩ := a
  have hspot : spot = none := by
    obtain ⟨el, z, h1, h2, _⟩ := hone 0 (by omega)
    have := h1 0 hpos
    rw [List.getElem?_eq_getElem (by omega)] at this
    simpa [Addr.add] using World.cell?_spot this
  subst hspot
  have hG : ∀ i, i < len → ∃ z, DataW.trod enc P W 0 sp held m e ((List.range s).map fun j => (W.cell? ⟨b, o + (i * s + j), none⟩).getD undef) = some z ∧ ∀ j, j < s → W.cell? ⟨b, o + (i * s + j), none⟩ = some ((W.cell? ⟨b, o + (i * s + j), none⟩).getD undef) := by
    intro i hi
    obtain ⟨el, z, h1, h2, h3⟩ := hone i hi
    have h1 : ∀ j, j < s → W.cell? ⟨b, o + (i * s + j), none⟩ = el[j]? := fun j hj => by rw [← h1 j hj, add_plain]
    refine ⟨z, ?_, fun j hj => ?_⟩
    · have : ((List.range s).map fun j => (W.cell? ⟨b, o + (i * s + j), none⟩).getD undef) = el := by
        apply List.ext_getElem?
        intro j
        by_cases hj : j < s
        · rw [List.getElem?_map, List.getElem?_range hj]
          simp only [Option.map_some, h1 j hj]
          rw [List.getElem?_eq_getElem (by omega)]
          rfl
        · rw [List.getElem?_eq_none (by simp; omega), List.getElem?_eq_none (by omega)]
      rw [this]; exact h3
    · rw [h1 j hj, List.getElem?_eq_getElem (by omega)]; rfl
  refine ⟨some ⟨b, o, none⟩, len, cap, fun i j => (W.cell? ⟨b, o + (i * s + j), none⟩).getD undef, rfl, by omega, ⟨_, _, rfl, hlc, fun _ => ⟨b, o, rfl, fun i hi j hj => ?_⟩⟩, fun i hi => ?_⟩
  · rw [Nat.add_assoc]
    exact cell_K ((hG i hi).choose_spec.2 j hj)
  · obtain ⟨z, hz, _⟩ := hG i hi
    exact ⟨z, m, hz⟩

def vI : Value → Int
  | .int _ k => k
  | _ => 0
def vB : Value → Bool
  | .bool b => b
  | _ => false
def i64 (k : Int) : Prop := -9223372036854775808 ≤ k ∧ k ≤ 9223372036854775807

theorem trod_i64 {v : Value} (ht : P.underlying t = some (.int .i64)) (h : DataW.trod enc P W 0 sp held fuel t [v] = some x) : v = .int .i64 (vI v) ∧ i64 (vI v) := by
  obtain ⟨k, h1, _, h2⟩ := DataW.trod_int ht h
  injection h1 with h1
  subst h1
  exact ⟨rfl, bounds_i64 h2⟩
theorem trod_bo {v : Value} (ht : P.underlying t = some .bool) (h : DataW.trod enc P W 0 sp held fuel t [v] = some x) : v = .bool (vB v) := by
  obtain ⟨k, h1, _⟩ := DataW.trod_bool ht h
  injection h1 with h1
  subst h1
  rfl

theorem open_ints (ht : P.underlying t = some (.slice e)) (he : P.underlying e = some (.int .i64)) (hs : P.cellsOf e = 1) (h : DataW.trod enc P W 0 sp held fuel t cs = some x) :
    ∃ pa n c f, cs = [.slice pa n c] ∧ n ≤ 9223372036854775807 ∧ SlI (K W []) (.slice pa n c) n f ∧ ∀ i, i < n → i64 (f i) := by
  obtain ⟨pa, n, c, G, h1, h2, h3, h4⟩ := open_view ht hs (by omega) h
  have h5 : ∀ i, i < n → G i 0 = .int .i64 (vI (G i 0)) ∧ i64 (vI (G i 0)) := fun i hi => by
    obtain ⟨z, m, hz⟩ := h4 i hi
    exact trod_i64 he hz
  refine ⟨pa, n, c, fun i => vI (G i 0), h1, h2, h3.congr fun i hi j hj => ?_, fun i hi => (h5 i hi).2⟩
  have : j = 0 := by omega
  subst this
  exact (h5 i hi).1
theorem open_bools (ht : P.underlying t = some (.slice e)) (he : P.underlying e = some .bool) (hs : P.cellsOf e = 1) (h : DataW.trod enc P W 0 sp held fuel t cs = some x) :
    ∃ pa n c f, cs = [.slice pa n c] ∧ n ≤ 9223372036854775807 ∧ SlB (K W []) (.slice pa n c) n f := by
  obtain ⟨pa, n, c, G, h1, h2, h3, h4⟩ := open_view ht hs (by omega) h
  refine ⟨pa, n, c, fun i => vB (G i 0), h1, h2, h3.congr fun i hi j hj => ?_⟩
  have : j = 0 := by omega
  subst this
  obtain ⟨z, m, hz⟩ := h4 i hi
  exact trod_bo he hz
/-- Elements of s cells, each an integer. -/
theorem open_recs (ht : P.underlying t = some (.slice e)) (hs : P.cellsOf e = s) (hpos : 0 < s) (hel : ∀ (G : Nat → Value) m z, DataW.trod enc P W 0 sp held m e ((List.range s).map G) = some z → ∀ j, j < s → G j = .int .i64 (vI (G j)) ∧ i64 (vI (G j)))
    (h : DataW.trod enc P W 0 sp held fuel t cs = some x) :
    ∃ (pa : Option Addr) (n c : Nat) (f : Nat → Nat → Int), cs = [.slice pa n c] ∧ n ≤ 9223372036854775807 ∧ SlV (K W []) (.slice pa n c) n s (fun i j => .int .i64 (f i j)) ∧ ∀ i, i < n → ∀ j, j < s → i64 (f i j) := by
  obtain ⟨pa, n, c, G, h1, h2, h3, h4⟩ := open_view ht hs hpos h
  have h5 : ∀ i, i < n → ∀ j, j < s → G i j = .int .i64 (vI (G i j)) ∧ i64 (vI (G i j)) := fun i hi j hj => by
    obtain ⟨z, m, hz⟩ := h4 i hi
    exact hel _ _ _ hz j hj
  exact ⟨pa, n, c, fun i j => vI (G i j), h1, h2, h3.congr fun i hi j hj => (h5 i hi j hj).1, fun i hi j hj => (h5 i hi j hj).2⟩
/-- The value of an argument of a slice type. -/
theorem open_arg {r : Reach} {b0 : Nat} {v : Value} {d : DataW H} {ps : List MemPlace} (ht : P.underlying t = some (.slice e)) (hval : Value.okWide P W r b0 t v) (hd : DataW.Trod enc P W 0 sp held t v d ps) :
    ∃ pa n c m, v = .slice pa n c ∧ DataW.trod enc P W 0 sp held m t [.slice pa n c] = some (d, ps) := by
  obtain ⟨pa, n, c, rfl⟩ := okWide_slice ht hval
  obtain ⟨m, hm⟩ := hd
  exact ⟨pa, n, c, m, rfl, by simpa [Value.cells] using hm⟩
end
end
end Go.KL
end

section
/- The arguments of the seat's laws, opened. -/
namespace Go.KL
open Go.ChangeShapes Go.WideShapes Go.RowKit Go.WideElems
open Go.Proofs
theorem u3 : Try.prog.underlying 3 = some (.int .i64) := by kernel_rfl
theorem u4 : Try.prog.underlying 4 = some .bool := by kernel_rfl
theorem u22 : Try.prog.underlying 22 = some (.slice 35) := by kernel_rfl
theorem u26 : Try.prog.underlying 26 = some (.slice 3) := by kernel_rfl
theorem u36 : Try.prog.underlying 36 = some (.slice 4) := by kernel_rfl
theorem u39 : Try.prog.underlying 39 = some (.slice 69) := by kernel_rfl
theorem u69 : Try.prog.underlying 69 = some (.array 2 3) := by kernel_rfl
def fs35 : Array Field := #[⟨ "From", 3, 0, false, "", "", 0⟩, ⟨ "To", 3, 1, false, "", "", 8⟩, ⟨ "Cap", 3, 2, false, "", "", 16⟩, ⟨ "Cost", 3, 3, false, "", "", 24⟩]
theorem u35 : Try.prog.underlying 35 = some (.struct fs35) := by kernel_rfl
def fs24 : Array Field := #[⟨ "N", 3, 0, false, "", "", 0⟩, ⟨ "Arcs", 22, 1, false, "", "", 8⟩, ⟨ "S", 3, 2, false, "", "", 32⟩, ⟨ "T", 3, 3, false, "", "", 40⟩]
theorem u24 : Try.prog.underlying 24 = some (.struct fs24) := by kernel_rfl
def fs28 : Array Field := #[⟨ "Value", 3, 0, false, "", "", 0⟩, ⟨ "Cost", 3, 1, false, "", "", 8⟩, ⟨ "On", 26, 2, false, "", "", 16⟩, ⟨ "Potential", 26, 3, false, "", "", 40⟩]
theorem u28 : Try.prog.underlying 28 = some (.struct fs28) := by kernel_rfl
theorem z3 : Try.prog.cellsOf 3 = 1 := by kernel_rfl
theorem z4 : Try.prog.cellsOf 4 = 1 := by kernel_rfl
theorem z22 : Try.prog.cellsOf 22 = 1 := by kernel_rfl
theorem z26 : Try.prog.cellsOf 26 = 1 := by kernel_rfl
theorem z35 : Try.prog.cellsOf 35 = 4 := by kernel_rfl
theorem z69 : Try.prog.cellsOf 69 = 2 := by kernel_rfl
theorem z24 : Try.prog.cellsOf 24 = 4 := by kernel_rfl
theorem z28 : Try.prog.cellsOf 28 = 4 := by kernel_rfl
theorem laidOut : laidOutB Try.prog = true := by kernel_rfl
section
variable {H : Type} {enc : TypeId × Value → H} {W : World} {sp : Nat → Bool} {held : Bool} {fuel : Nat} {cs : List Value} {x : DataW H × List MemPlace}
theorem fld {t : TypeId} {fs : Array Field} (ht : Try.prog.underlying t = some (.struct fs)) (h : DataW.trod enc Try.prog W 0 sp held fuel t cs = some x) (i : Nat) {f : Field} (hf : fs[i]? = some f) (hc : Try.prog.cellsOf f.type = 1) {v : Value} (hv : (cs.drop f.offset).take 1 = [v]) :
    ∃ m z, DataW.trod enc Try.prog W 0 sp held m f.type [v] = some z := by
  obtain ⟨xs, n, _, _, _, h4, h5⟩ := DataW.trod_struct ht h
  have hi : i < fs.size := by
    rcases Nat.lt_or_ge i fs.size with hi | hi
    · exact hi
    · rw [Array.getElem?_eq_none hi] at hf; cases hf
  have h6 := h5 i f hf
  rw [hc, hv, List.getElem?_eq_getElem (by omega)] at h6
  exact ⟨n, _, h6⟩
theorem open_arcs (h : DataW.trod enc Try.prog W 0 sp held fuel 22 cs = some x) :
    ∃ (pa : Option Addr) (n c : Nat) (A : Nat → Ac), cs = [.slice pa n c] ∧ n ≤ 9223372036854775807 ∧ SlA (K W []) (.slice pa n c) n A ∧ ∀ i, i < n → i64 (A i).1 ∧ i64 (A i).2.1 ∧ i64 (A i).2.2.1 ∧ i64 (A i).2.2.2 := by
  obtain ⟨pa, n, c, f, h1, h2, h3, h4⟩ := open_recs (s := 4) u22 z35 (by omega) (fun G m z hz j hj => by
    have : ∀ (k : Nat) (f : Field), fs35[k]? = some f → Try.prog.underlying f.type = some (.int .i64) → Try.prog.cellsOf f.type = 1 → f.offset < 4 → G f.offset = .int .i64 (vI (G f.offset)) ∧ i64 (vI (G f.offset)) := by
      intro k f hf hu hc ho
      obtain ⟨m, z, h6⟩ := fld (v := G f.offset) u35 hz k hf hc (by
        match f.offset, ho with
        | 0, _ => rfl
        | 1, _ => rfl
        | 2, _ => rfl
        | 3, _ => rfl)
      exact trod_i64 hu h6
    match j, hj with
    | 0, _ => exact this 0 _ rfl u3 z3 (by decide)
    | 1, _ => exact this 1 _ rfl u3 z3 (by decide)
    | 2, _ => exact this 2 _ rfl u3 z3 (by decide)
    | 3, _ => exact this 3 _ rfl u3 z3 (by decide)) h
  refine ⟨pa, n, c, fun i => (f i 0, f i 1, f i 2, f i 3), h1, h2, h3.congr fun i hi j hj => ?_, fun i hi => ⟨h4 i hi 0 (by omega), h4 i hi 1 (by omega), h4 i hi 2 (by omega), h4 i hi 3 (by omega)⟩⟩
  match j, hj with
  | 0, _ => rfl
  | 1, _ => rfl
  | 2, _ => rfl
  | 3, _ => rfl
theorem open_pairs (h : DataW.trod enc Try.prog W 0 sp held fuel 39 cs = some x) :
    ∃ (pa : Option Addr) (n c : Nat) (Q : Nat → Pr), cs = [.slice pa n c] ∧ n ≤ 9223372036854775807 ∧ SlP (K W []) (.slice pa n c) n Q ∧ ∀ i, i < n → i64 (Q i).1 ∧ i64 (Q i).2 := by
  obtain ⟨pa, n, c, f, h1, h2, h3, h4⟩ := open_recs (s := 2) u39 z69 (by omega) (fun G m z hz j hj => by
    obtain ⟨xs, m', _, _, _, h5, h6⟩ := DataW.trod_array u69 hz
    have h7 := h6 j hj
    rw [z3, List.getElem?_eq_getElem (by omega), show ((List.map G (List.range 2)).drop (j * 1)).take 1 = [G j] by
      match j, hj with
      | 0, _ => rfl
      | 1, _ => rfl] at h7
    exact trod_i64 u3 h7) h
  refine ⟨pa, n, c, fun i => (f i 0, f i 1), h1, h2, h3.congr fun i hi j hj => ?_, fun i hi => ⟨h4 i hi 0 (by omega), h4 i hi 1 (by omega)⟩⟩
  match j, hj with
  | 0, _ => rfl
  | 1, _ => rfl

section
variable {r : Reach} {b0 : Nat} {v : Value} {d : DataW H} {ps : List MemPlace}
/-- An argument of the type int. -/
theorem arg3 (hval : Value.okWide Try.prog W r b0 3 v) (hd : DataW.Trod enc Try.prog W 0 sp held 3 v d ps) : ∃ n : Int, v = .int .i64 n ∧ i64 n := by
  obtain ⟨n, h1, _, _, h2⟩ := open_int u3 hval hd
  exact ⟨n, h1, bounds_i64 h2⟩
/-- Of the type []int. -/
theorem arg26 (hval : Value.okWide Try.prog W r b0 26 v) (hd : DataW.Trod enc Try.prog W 0 sp held 26 v d ps) : ∃ n f, SlI (K W []) v n f ∧ n ≤ 9223372036854775807 ∧ ∀ i, i < n → i64 (f i) := by
  obtain ⟨pa, n, c, m, rfl, h⟩ := open_arg u26 hval hd
  obtain ⟨pa', n', c', f, h1, h2, h3, h4⟩ := open_ints u26 u3 z3 h
  injection h1 with h1
  rw [h1]
  exact ⟨n', f, h3, h2, h4⟩
/-- Of the type []bool. -/
theorem arg36 (hval : Value.okWide Try.prog W r b0 36 v) (hd : DataW.Trod enc Try.prog W 0 sp held 36 v d ps) : ∃ n f, SlB (K W []) v n f ∧ n ≤ 9223372036854775807 := by
  obtain ⟨pa, n, c, m, rfl, h⟩ := open_arg u36 hval hd
  obtain ⟨pa', n', c', f, h1, h2, h3⟩ := open_bools u36 u4 z4 h
  injection h1 with h1
  rw [h1]
  exact ⟨n', f, h3, h2⟩
/-- Of the type [][2]int. -/
theorem arg39 (hval : Value.okWide Try.prog W r b0 39 v) (hd : DataW.Trod enc Try.prog W 0 sp held 39 v d ps) : ∃ n Q, SlP (K W []) v n Q ∧ n ≤ 9223372036854775807 ∧ ∀ i, i < n → i64 (Q i).1 ∧ i64 (Q i).2 := by
  obtain ⟨pa, n, c, m, rfl, h⟩ := open_arg u39 hval hd
  obtain ⟨pa', n', c', Q, h1, h2, h3, h4⟩ := open_pairs h
  injection h1 with h1
  rw [h1]
  exact ⟨n', Q, h3, h2, h4⟩
theorem four {cs : Array Value} (h : cs.size = 4) : ∃ a b c d, cs = #[a, b, c, d] := by
  obtain ⟨l⟩ := cs
  match l, h with
  | [a, b, c, d], _ => exact ⟨a, b, c, d, rfl⟩
/-- Of the type Net. -/
theorem arg24 (hval : Value.okWide Try.prog W r b0 24 v) (hd : DataW.Trod enc Try.prog W 0 sp held 24 v d ps) : ∃ (n s t : Int) (va : Value) (na : Nat) (A : Nat → Ac), v = .agg #[.int .i64 n, va, .int .i64 s, .int .i64 t] ∧
    SlA (K W []) va na A ∧ na ≤ 9223372036854775807 ∧ i64 n ∧ i64 s ∧ i64 t ∧ ∀ i, i < na → i64 (A i).1 ∧ i64 (A i).2.1 ∧ i64 (A i).2.2.1 ∧ i64 (A i).2.2.2 := by
  obtain ⟨cs, rfl, hcs⟩ := okWide_struct u24 hval
  rw [z24] at hcs
  obtain ⟨a, b, c, d, rfl⟩ := four hcs
  obtain ⟨fuel, h⟩ := hd
  have h : DataW.trod enc Try.prog W 0 sp held fuel 24 [a, b, c, d] = _ := h
  obtain ⟨m0, x0, h0⟩ := fld u24 h 0 rfl z3 (v := a) rfl
  obtain ⟨m1, x1, h1⟩ := fld u24 h 1 rfl z22 (v := b) rfl
  obtain ⟨m2, x2, h2⟩ := fld u24 h 2 rfl z3 (v := c) rfl
  obtain ⟨m3, x3, h3⟩ := fld u24 h 3 rfl z3 (v := d) rfl
  obtain ⟨pa, na, ca, A, e1, e2, e3, e4⟩ := open_arcs h1
  injection e1 with e1
  have g0 := trod_i64 u3 h0
  have g2 := trod_i64 u3 h2
  have g3 := trod_i64 u3 h3
  refine ⟨vI a, vI c, vI d, b, na, A, ?_, e1 ▸ e3, e2, g0.2, g2.2, g3.2, e4⟩
  rw [← g0.1, ← g2.1, ← g3.1]
/-- Of the type Flow. -/
theorem arg28 (hval : Value.okWide Try.prog W r b0 28 v) (hd : DataW.Trod enc Try.prog W 0 sp held 28 v d ps) : ∃ (V C : Int) (vo vp : Value) (no np : Nat) (F p : Nat → Int), v = .agg #[.int .i64 V, .int .i64 C, vo, vp] ∧
    SlI (K W []) vo no F ∧ SlI (K W []) vp np p ∧ no ≤ 9223372036854775807 ∧ np ≤ 9223372036854775807 ∧ i64 V ∧ i64 C ∧ (∀ i, i < no → i64 (F i)) ∧ ∀ i, i < np → i64 (p i) := by
  obtain ⟨cs, rfl, hcs⟩ := okWide_struct u28 hval
  rw [z28] at hcs
  obtain ⟨a, b, c, d, rfl⟩ := four hcs
  obtain ⟨fuel, h⟩ := hd
  have h : DataW.trod enc Try.prog W 0 sp held fuel 28 [a, b, c, d] = _ := h
  obtain ⟨m0, x0, h0⟩ := fld u28 h 0 rfl z3 (v := a) rfl
  obtain ⟨m1, x1, h1⟩ := fld u28 h 1 rfl z3 (v := b) rfl
  obtain ⟨m2, x2, h2⟩ := fld u28 h 2 rfl z26 (v := c) rfl
  obtain ⟨m3, x3, h3⟩ := fld u28 h 3 rfl z26 (v := d) rfl
  obtain ⟨pa, no, ca, F, e1, e2, e3, e4⟩ := open_ints u26 u3 z3 h2
  obtain ⟨pb, np, cb, p, f1, f2, f3, f4⟩ := open_ints u26 u3 z3 h3
  injection e1 with e1
  injection f1 with f1
  have g0 := trod_i64 u3 h0
  have g1 := trod_i64 u3 h1
  refine ⟨vI a, vI b, c, d, no, np, F, p, ?_, e1 ▸ e3, f1 ▸ f3, e2, f2, g0.2, g1.2, e4, f4⟩
  rw [← g0.1, ← g1.1]
end
end
end Go.KL
end

section
/- What all laws of the seat share. -/
namespace Go.KL
open Go.Proofs
theorem K.any {W w : World} {Ls : List Chunk} (h : K W Ls w) : K W [] w := h.weak Ls.flatten (by simp)
theorem SlV.any {W : World} {v : Value} {n s : Nat} {g : Nat → Nat → Value} (h : SlV (K W []) v n s g) (Ls : List Chunk) : SlV (K W Ls) v n s g := h.cls fun _ h => h.any
theorem ov_sl {o : Option Own} {m : Nat} {f : Nat → Int} (h : owfO 1 o m (onV m f)) : ∃ po co, ov o m = .slice po m co ∧ ∀ W : World, SlI (K W [oc 3 o (onV m f)]) (.slice po m co) m f := by
  cases o with
  | none =>
    obtain ⟨_, rfl⟩ := h
    exact ⟨none, 0, rfl, fun W => SlV.empty⟩
  | some o =>
    refine ⟨_, _, rfl, fun W => SlV.grown 0 rfl h.1 fun k hk j hj => ?_⟩
    have : j = 0 := by omega
    subst this
    simp [onV, hk]
/-- What Solve returns, its memory in short. -/
structure SolveR (n na : Nat) (A : Nat → Ac) (s t : Nat) (want : Int) where
  v : Int
  f : Nat → Int
  p : Nat → Int
  po : Option Addr
  co : Nat
  c1 : Chunk
  bh : Nat
  hP : SolveP n na A s t want v f p
  hF : ∀ W : World, SlI (K W [c1]) (.slice po na co) na f
theorem solve_spec2 (W : World) (Ls : List Chunk) (n na s t : Nat) (want : Int) (va : Value) (A : Nat → Ac) (hA : SlA (K W Ls) va na A) (hN : NetOK n na A s t) (hn40 : n ≤ 40) (hw0 : 0 ≤ want ∧ want ≤ 9223372036854775807) :
    Spec Try.prog 17 #[.int .i64 n, va, .int .i64 s, .int .i64 t, .int .i64 want] (K W Ls) (X := SolveR n na A s t want)
      (fun x => .tuple #[.agg #[.int .i64 x.v, .int .i64 (cst (cstN A) x.f na), .slice x.po na x.co, .slice (some ⟨x.bh, 0, none⟩) n n], .int .i64 0])
      (fun x => K W (x.c1 :: [(x.bh, ints 3 n x.p [])] :: Ls)) := by
  intro w hw
  refine (solve_spec W Ls n na s t want va A hA hN hn40 hw0 w hw).mono ?_
  rintro e w' ⟨⟨⟨v, f, p, o, bh⟩, hP, ho⟩, he, hk⟩
  dsimp only at hP ho he hk
  obtain ⟨po, co, e1, e2⟩ := ov_sl ho
  rw [e1] at he
  exact ⟨⟨v, f, p, po, co, _, bh, hP, e2⟩, he, hk⟩
theorem awakeQ (w : World) : Calls Try.prog 16 #[] w fun e w' => e = .returned (.bool true) ∧ Ext w w' := (awake_spec w [] w (K.refl w)).mono fun _ _ ⟨_, h1, h2⟩ => ⟨h1, h2.toExt⟩
theorem few_no {n : Int} {na : Nat} (h : ¬ fewP n na) (W : World) (Ls : List Chunk) (s t : Int) (pa : Option Addr) (ca : Nat) :
    Spec Try.prog 15 #[.agg #[.int .i64 n, .slice pa na ca, .int .i64 s, .int .i64 t]] (K W Ls) (fun _ : Unit => .bool false) (fun _ => K W Ls) := by
  have := few_spec W Ls n s t pa na ca
  rwa [decide_eq_false h] at this
theorem few_yes {n : Int} {na : Nat} (h : fewP n na) (W : World) (Ls : List Chunk) (s t : Int) (pa : Option Addr) (ca : Nat) :
    Spec Try.prog 15 #[.agg #[.int .i64 n, .slice pa na ca, .int .i64 s, .int .i64 t]] (K W Ls) (fun _ : Unit => .bool true) (fun _ => K W Ls) := by
  have := few_spec W Ls n s t pa na ca
  rwa [decide_eq_true h] at this
open Classical in
theorem nv_no {n s t : Int} {na : Nat} {A : Nat → Ac} (h : ¬ NetOK n na A s t) (W : World) (Ls : List Chunk) (va : Value) (hA : SlA (K W Ls) va na A) (hna : na ≤ 1000000000) :
    Spec Try.prog 18 #[.agg #[.int .i64 n, va, .int .i64 s, .int .i64 t]] (K W Ls) (fun _ : Unit => .bool false) (fun _ => K W Ls) := by
  have := nvalid_spec W Ls n s t va na A hA hna
  rwa [decide_eq_false h] at this
open Classical in
theorem nv_yes {n s t : Int} {na : Nat} {A : Nat → Ac} (h : NetOK n na A s t) (W : World) (Ls : List Chunk) (va : Value) (hA : SlA (K W Ls) va na A) (hna : na ≤ 1000000000) :
    Spec Try.prog 18 #[.agg #[.int .i64 n, va, .int .i64 s, .int .i64 t]] (K W Ls) (fun _ : Unit => .bool true) (fun _ => K W Ls) := by
  have := nvalid_spec W Ls n s t va na A hA hna
  rwa [decide_eq_true h] at this
open Classical in
theorem rwithin_yes {m m' : Nat} {p q : Nat → Bool} (h : ∀ i, i < m → p i = true → q i = true) (W : World) (Ls : List Chunk) (va vb : Value) (hA : SlB (K W Ls) va m p) (hB : SlB (K W Ls) vb m' q) (hm : m ≤ m') (hb : m ≤ 1000000000) :
    Spec Try.prog 25 #[va, vb] (K W Ls) (fun _ : Unit => .bool true) (fun _ => K W Ls) := by
  have := rwithin_spec W Ls m m' va vb p q hA hB hm hb
  rwa [decide_eq_true h] at this
/-- A call that adds nothing, from any class that is kept by what is new. -/
theorem Spec.qui {P : Program} {f : FuncId} {args : Array Value} {v : Value} {w : World} (h : Spec P f args (K w []) (fun _ : Unit => v) (fun _ => K w [])) : Calls P f args w fun e w' => e = .returned v ∧ Ext w w' := (h w (K.refl w)).mono fun _ _ ⟨_, h1, h2⟩ => ⟨h1, h2.toExt⟩
theorem SlV.nowQ {W w : World} {Ls : List Chunk} {v : Value} {n s : Nat} {g : Nat → Nat → Value} (hw : K W Ls w) (h : SlV (K W []) v n s g) : SlV (K w []) v n s g := h.cls fun _ h' => (K.cl _ _ hw h'.toExt).any
theorem SlV.now {W w : World} {Ls : List Chunk} {v : Value} {n s : Nat} {g : Nat → Nat → Value} (hw : K W Ls w) (h : SlV (K W Ls) v n s g) : SlV (K w []) v n s g := h.cls fun _ h' => K.cl _ _ hw h'.toExt
end Go.KL
end
