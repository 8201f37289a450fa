/- FlowClosures: for every input the law returns true, and its arguments read as they did. No condition. -/
import Derived.Test.YtbeckcilglhkbaaRows
import Derived.JoinedOf
import Derived.Handed
import Derived.Test.YtbeckcilglhkbaaGbL4
section
/- The walk of FlowClosures. -/
namespace Go.KL
open Go.Proofs
theorem SlB.ownLe {W : World} {Ls : List Chunk} {b n N : Nat} {e : TypeId} {f : Nat → Bool} (i : Nat) {rest : List Value} {ch : Chunk} (hi : Ls.getD i [] = (b, bools e N f rest) :: ch) (hn : n ≤ N) : SlB (K W Ls) (.slice (some ⟨b, 0, none⟩) n n) n f :=
  ⟨_, n, rfl, Nat.le_refl _, fun _ => ⟨b, 0, rfl, fun k hk j hj => by
    obtain rfl : j = 0 := by omega
    have := cell_bools (W := W) (Ls := Ls) i hi (k := k) (by omega)
    rwa [show 0 + k * 1 + 0 = k by omega]⟩⟩
theorem SlB.ownC {W : World} {Ls : List Chunk} {b n c : Nat} {e : TypeId} {f : Nat → Bool} (i : Nat) {rest : List Value} {ch : Chunk} (hi : Ls.getD i [] = (b, bools e n f rest) :: ch) (hn : n ≤ c) : SlB (K W Ls) (.slice (some ⟨b, 0, none⟩) n c) n f :=
  ⟨_, c, rfl, hn, fun _ => ⟨b, 0, rfl, fun k hk j hj => by
    obtain rfl : j = 0 := by omega
    have := cell_bools (W := W) (Ls := Ls) i hi (k := k) (by omega)
    rwa [show 0 + k * 1 + 0 = k by omega]⟩⟩
open Classical in
theorem rgoods_is {n m : Nat} {w : Nat → Int} {Q : Nat → Pr} {b : Bool} (h : decide (GoodsOK n w m Q) = b) (W : World) (Ls : List Chunk) (vw vq : Value) (hW : SlI (K W Ls) vw n w) (hQ : SlP (K W Ls) vq m Q) (hb : n ≤ 1000000000 ∧ m ≤ 1000000000) :
    Spec Try.prog 23 #[vw, vq] (K W Ls) (fun _ : Unit => .bool b) (fun _ => K W Ls) := by
  have := rgoods_spec W Ls n m vw vq w Q hW hQ hb
  rwa [h] at this
/-- Too many weights. -/
theorem rgoods_big {n m : Nat} (h : 120 < n) (W : World) (Ls : List Chunk) (pw pq : Option Addr) (cw cq : Nat) :
    Spec Try.prog 23 #[.slice pw n cw, .slice pq m cq] (K W Ls) (fun _ : Unit => .bool false) (fun _ => K W Ls) := by
  refine enter (args := [_, _]) Try.func23 rfl Try.ntmps23 rfl ?_
  refine c_seq ?_
  refine c_region ?_
  refine s_y (y_assign rfl) rfl rfl rfl ?_
  refine s_nil ?_
  refine f_then ?_
  refine c_seq ?_
  refine c_chain 14 (decide (120 < n ∨ 1024 < m)) ?_ ?_
  · refine c_region ?_
    refine s_y (y_move rfl) rfl rfl rfl ?_
    refine s_y (y_len Try.tab rfl rfl) rfl rfl rfl ?_
    refine s_y (y_T (y_gtr rfl rfl) (by omega)) rfl rfl rfl ?_
    refine s_y (y_move rfl) rfl rfl rfl ?_
    iterate 3 refine s_skip rfl rfl rfl ?_
    refine s_y (y_pickT rfl rfl) rfl rfl rfl ?_
    refine s_nil ?_
    exact f_chain rfl ((decide_eq_true (by omega)).symm) ⟨rfl, rfl, rfl, trivial⟩
  refine c_condD rfl (fun _ => ?_) (fun h2 => absurd (.inl h) h2)
  refine c_seq ?_
  refine c_region ?_
  refine s_y (y_assign rfl) rfl rfl rfl ?_
  refine s_nil ?_
  refine f_then ?_
  refine c_ret ?_
  refine f_thenR ?_
  exact f_ret () (res1 rfl rfl) (fun w h => h)
open Classical in
theorem rclosed_yes {m n : Nat} {Q : Nat → Pr} {S : Nat → Bool} (h : ClosedP m Q S) (W : World) (Ls : List Chunk) (vq vs : Value) (hQ : SlP (K W Ls) vq m Q) (hS : SlB (K W Ls) vs n S) (hb : m ≤ 1000000000)
    (hr : ∀ i, i < m → (0 ≤ (Q i).1 ∧ (Q i).1 < n) ∧ 0 ≤ (Q i).2 ∧ (Q i).2 < n) :
    Spec Try.prog 26 #[vq, vs] (K W Ls) (fun _ : Unit => .bool true) (fun _ => K W Ls) := by
  have := rclosed_spec W Ls m n vq vs Q S hQ hS hb hr
  rwa [decide_eq_true h] at this
theorem rweight_is {n : Nat} {f : Nat → Int} {S : Nat → Bool} {v : Int} (h : wgt n f S = v) (W : World) (Ls : List Chunk) (vw vs : Value) (hW : SlI (K W Ls) vw n f) (hS : SlB (K W Ls) vs n S) (hn : n ≤ 1000) (hb : ∀ i, i < n → -1073741824 ≤ f i ∧ f i ≤ 1073741824) :
    Spec Try.prog 27 #[vw, vs] (K W Ls) (fun _ : Unit => .int .i64 v) (fun _ => K W Ls) := by
  have := rweight_spec W Ls n vw vs f S hW hS hn hb
  rwa [h] at this
attribute [local irreducible] SC St Fin Sq Sw Ylds Doos Sets Enters Spec CellIs CellsAre Then Ret Rnd Chn resOK ints bools recs arr
open Classical in
set_option maxHeartbeats 8000000 in
theorem flowClosures_walk (W : World) (vw vq vs : Value) (n m k : Nat) (w : Nat → Int) (Q : Nat → Pr) (S : Nat → Bool) (hW : SlI (K W []) vw n w) (hQ : SlP (K W []) vq m Q) (hS : SlB (K W []) vs k S) :
    Spec Try.prog 6 #[vw, vq, vs] (K W []) (fun _ : Unit => .bool true) (fun _ => K W []) := by
  obtain ⟨pw, cw, rfl, hcw, hcW⟩ := hW.open1
  obtain ⟨pq, cq, rfl, hcq, hcQ⟩ := hQ.open
  obtain ⟨ps, cs, rfl, hcs, hcS⟩ := hS.open1
  refine enter (args := [_, _, _]) Try.func6 rfl Try.ntmps6 rfl ?_
  by_cases h300 : (300 : Int) < m
  · refine c_seq ?_
    refine c_region ?_
    refine s_y (y_assign rfl) rfl rfl rfl ?_
    refine s_nil ?_
    refine f_then ?_
    refine c_seq ?_
    refine c_seq ?_
    refine c_region ?_
    refine s_y (y_move rfl) rfl rfl rfl ?_
    refine s_y (y_len Try.tab rfl rfl) rfl rfl rfl ?_
    refine s_y (y_T (y_gtr rfl rfl) (by assumption)) rfl rfl rfl ?_
    refine s_y (y_move rfl) rfl rfl rfl ?_
    iterate 4 refine s_skip rfl rfl rfl ?_
    refine s_y (y_pickT rfl rfl) rfl rfl rfl ?_
    refine s_y (y_move rfl) rfl rfl rfl ?_
    iterate 5 refine s_skip rfl rfl rfl ?_
    refine s_y (y_pickT rfl rfl) rfl rfl rfl ?_
    refine s_nil ?_
    refine f_then ?_
    refine c_condT rfl ?_
    refine c_seq ?_
    refine c_region ?_
    refine s_call (en_f rfl Try.call16) (awake_spec W _) rfl rfl rfl (fun _ => ?_)
    refine s_y (y_assign rfl) rfl rfl rfl ?_
    refine s_nil ?_
    refine f_then ?_
    refine c_ret ?_
    refine f_thenR ?_
    exact f_ret () (res1 rfl rfl) (fun w h => h.any)
  by_cases hbig : 120 < n
  · refine c_seq ?_
    refine c_region ?_
    refine s_y (y_assign rfl) rfl rfl rfl ?_
    refine s_nil ?_
    refine f_then ?_
    refine c_seq ?_
    refine c_seq ?_
    refine c_region ?_
    refine s_y (y_move rfl) rfl rfl rfl ?_
    refine s_y (y_len Try.tab rfl rfl) rfl rfl rfl ?_
    refine s_y (y_F (y_gtr rfl rfl) (by assumption)) rfl rfl rfl ?_
    refine s_y (y_move rfl) rfl rfl rfl ?_
    refine s_y (y_move rfl) rfl rfl rfl ?_
    refine s_y (y_move rfl) rfl rfl rfl ?_
    refine s_call (en_f rfl Try.call23) (rgoods_big hbig W _ pw pq cw cq) rfl rfl rfl (fun _ => ?_)
    refine s_y (y_notF rfl) rfl rfl rfl ?_
    refine s_y (y_pickF rfl rfl) rfl rfl rfl ?_
    refine s_y (y_move rfl) rfl rfl rfl ?_
    iterate 5 refine s_skip rfl rfl rfl ?_
    refine s_y (y_pickT rfl rfl) rfl rfl rfl ?_
    refine s_nil ?_
    refine f_then ?_
    refine c_condT rfl ?_
    refine c_seq ?_
    refine c_region ?_
    refine s_call (en_f rfl Try.call16) (awake_spec W _) rfl rfl rfl (fun _ => ?_)
    refine s_y (y_assign rfl) rfl rfl rfl ?_
    refine s_nil ?_
    refine f_then ?_
    refine c_ret ?_
    refine f_thenR ?_
    exact f_ret () (res1 rfl rfl) (fun w h => h.any)
  by_cases hG : GoodsOK n w m Q
  rotate_left
  · refine c_seq ?_
    refine c_region ?_
    refine s_y (y_assign rfl) rfl rfl rfl ?_
    refine s_nil ?_
    refine f_then ?_
    refine c_seq ?_
    refine c_seq ?_
    refine c_region ?_
    refine s_y (y_move rfl) rfl rfl rfl ?_
    refine s_y (y_len Try.tab rfl rfl) rfl rfl rfl ?_
    refine s_y (y_F (y_gtr rfl rfl) (by assumption)) rfl rfl rfl ?_
    refine s_y (y_move rfl) rfl rfl rfl ?_
    refine s_y (y_move rfl) rfl rfl rfl ?_
    refine s_y (y_move rfl) rfl rfl rfl ?_
    refine s_call (en_f rfl Try.call23) (rgoods_is (decide_eq_false hG) W _ (.slice pw _ cw) (.slice pq m cq) (hW.any _) (hQ.any _) (by omega)) rfl rfl rfl (fun _ => ?_)
    refine s_y (y_notF rfl) rfl rfl rfl ?_
    refine s_y (y_pickF rfl rfl) rfl rfl rfl ?_
    refine s_y (y_move rfl) rfl rfl rfl ?_
    iterate 5 refine s_skip rfl rfl rfl ?_
    refine s_y (y_pickT rfl rfl) rfl rfl rfl ?_
    refine s_nil ?_
    refine f_then ?_
    refine c_condT rfl ?_
    refine c_seq ?_
    refine c_region ?_
    refine s_call (en_f rfl Try.call16) (awake_spec W _) rfl rfl rfl (fun _ => ?_)
    refine s_y (y_assign rfl) rfl rfl rfl ?_
    refine s_nil ?_
    refine f_then ?_
    refine c_ret ?_
    refine f_thenR ?_
    exact f_ret () (res1 rfl rfl) (fun w h => h.any)
  by_cases hkn : (k : Int) = n
  rotate_left
  · refine c_seq ?_
    refine c_region ?_
    refine s_y (y_assign rfl) rfl rfl rfl ?_
    refine s_nil ?_
    refine f_then ?_
    refine c_seq ?_
    refine c_seq ?_
    refine c_region ?_
    refine s_y (y_move rfl) rfl rfl rfl ?_
    refine s_y (y_len Try.tab rfl rfl) rfl rfl rfl ?_
    refine s_y (y_F (y_gtr rfl rfl) (by assumption)) rfl rfl rfl ?_
    refine s_y (y_move rfl) rfl rfl rfl ?_
    refine s_y (y_move rfl) rfl rfl rfl ?_
    refine s_y (y_move rfl) rfl rfl rfl ?_
    refine s_call (en_f rfl Try.call23) (rgoods_is (decide_eq_true hG) W _ (.slice pw _ cw) (.slice pq m cq) (hW.any _) (hQ.any _) (by omega)) rfl rfl rfl (fun _ => ?_)
    refine s_y (y_notT rfl) rfl rfl rfl ?_
    refine s_y (y_pickF rfl rfl) rfl rfl rfl ?_
    refine s_y (y_move rfl) rfl rfl rfl ?_
    refine s_y (y_move rfl) rfl rfl rfl ?_
    refine s_y (y_len Try.tab rfl rfl) rfl rfl rfl ?_
    refine s_y (y_move rfl) rfl rfl rfl ?_
    refine s_y (y_len Try.tab rfl rfl) rfl rfl rfl ?_
    refine s_y (y_T (y_neq rfl rfl) (by assumption)) rfl rfl rfl ?_
    refine s_y (y_pickF rfl rfl) rfl rfl rfl ?_
    refine s_nil ?_
    refine f_then ?_
    refine c_condT rfl ?_
    refine c_seq ?_
    refine c_region ?_
    refine s_call (en_f rfl Try.call16) (awake_spec W _) rfl rfl rfl (fun _ => ?_)
    refine s_y (y_assign rfl) rfl rfl rfl ?_
    refine s_nil ?_
    refine f_then ?_
    refine c_ret ?_
    refine f_thenR ?_
    exact f_ret () (res1 rfl rfl) (fun w h => h.any)
  obtain rfl : k = n := by omega
  have h_n := hG.hn; have h_m := hG.hm
  refine c_seq ?_
  refine c_region ?_
  refine s_y (y_assign rfl) rfl rfl rfl ?_
  refine s_nil ?_
  refine f_then ?_
  refine c_seq ?_
  refine c_seq ?_
  refine c_region ?_
  refine s_y (y_move rfl) rfl rfl rfl ?_
  refine s_y (y_len Try.tab rfl rfl) rfl rfl rfl ?_
  refine s_y (y_F (y_gtr rfl rfl) (by assumption)) rfl rfl rfl ?_
  refine s_y (y_move rfl) rfl rfl rfl ?_
  refine s_y (y_move rfl) rfl rfl rfl ?_
  refine s_y (y_move rfl) rfl rfl rfl ?_
  refine s_call (en_f rfl Try.call23) (rgoods_is (decide_eq_true hG) W _ (.slice pw _ cw) (.slice pq m cq) (hW.any _) (hQ.any _) (by omega)) rfl rfl rfl (fun _ => ?_)
  refine s_y (y_notT rfl) rfl rfl rfl ?_
  refine s_y (y_pickF rfl rfl) rfl rfl rfl ?_
  refine s_y (y_move rfl) rfl rfl rfl ?_
  refine s_y (y_move rfl) rfl rfl rfl ?_
  refine s_y (y_len Try.tab rfl rfl) rfl rfl rfl ?_
  refine s_y (y_move rfl) rfl rfl rfl ?_
  refine s_y (y_len Try.tab rfl rfl) rfl rfl rfl ?_
  refine s_y (y_F (y_neq rfl rfl) (by omega)) rfl rfl rfl ?_
  refine s_y (y_pickF rfl rfl) rfl rfl rfl ?_
  refine s_nil ?_
  refine f_then ?_
  refine c_condF rfl ?_
  refine c_skip ?_
  refine f_then ?_
  refine c_seq ?_
  refine c_region ?_
  refine s_y (y_move rfl) rfl rfl rfl ?_
  refine s_y (y_move rfl) rfl rfl rfl ?_
  refine s_call (en_f rfl Try.call22) (close_spec W _ k m (.slice pw k cw) (.slice pq m cq) w Q (hW.any _) (hQ.any _) hG) rfl rfl rfl (fun x => ?_)
  obtain ⟨⟨v, f, g, bg⟩, hO⟩ := x
  dsimp only at hO ⊢
  obtain ⟨hcl, hwg, hC⟩ := hO.closeP hG
  refine s_y (y_move rfl) rfl rfl rfl ?_
  refine s_y (y_extract rfl rfl) rfl rfl rfl ?_
  refine s_y (y_extract rfl rfl) rfl rfl rfl ?_
  refine s_y (y_extract rfl rfl) rfl rfl rfl ?_
  refine s_y (y_assign rfl) rfl rfl rfl ?_
  refine s_y (y_assign rfl) rfl rfl rfl ?_
  refine s_y (y_assign rfl) rfl rfl rfl ?_
  refine s_nil ?_
  refine f_then ?_
  refine c_seq ?_
  refine c_seq ?_
  refine c_region ?_
  refine s_y (y_move rfl) rfl rfl rfl ?_
  refine s_y (y_F (y_neq rfl rfl) (by omega)) rfl rfl rfl ?_
  refine s_y (y_move rfl) rfl rfl rfl ?_
  refine s_y (y_move rfl) rfl rfl rfl ?_
  refine s_y (y_len Try.tab rfl rfl) rfl rfl rfl ?_
  refine s_y (y_move rfl) rfl rfl rfl ?_
  refine s_y (y_len Try.tab rfl rfl) rfl rfl rfl ?_
  refine s_y (y_F (y_neq rfl rfl) (by omega)) rfl rfl rfl ?_
  refine s_y (y_pickF rfl rfl) rfl rfl rfl ?_
  refine s_y (y_move rfl) rfl rfl rfl ?_
  refine s_y (y_move rfl) rfl rfl rfl ?_
  refine s_y (y_move rfl) rfl rfl rfl ?_
  refine s_call (en_f rfl Try.call26) (rclosed_yes hcl W _ (.slice pq m cq) (.slice (some ⟨bg, 0, none⟩) k k) (hQ.any _) (SlB.ownLe 0 rfl (by omega)) (by omega) hG.hq) rfl rfl rfl (fun _ => ?_)
  refine s_y (y_notT rfl) rfl rfl rfl ?_
  refine s_y (y_pickF rfl rfl) rfl rfl rfl ?_
  refine s_y (y_move rfl) rfl rfl rfl ?_
  refine s_y (y_move rfl) rfl rfl rfl ?_
  refine s_y (y_move rfl) rfl rfl rfl ?_
  refine s_call (en_f rfl Try.call27) (rweight_is hwg W _ (.slice pw k cw) (.slice (some ⟨bg, 0, none⟩) k k) (hW.any _) (SlB.ownLe 0 rfl (by omega)) (by omega) hG.hw) rfl rfl rfl (fun _ => ?_)
  refine s_y (y_move rfl) rfl rfl rfl ?_
  refine s_y (y_F (y_neq rfl rfl) (by omega)) rfl rfl rfl ?_
  refine s_y (y_pickF rfl rfl) rfl rfl rfl ?_
  refine s_nil ?_
  refine f_then ?_
  refine c_condF rfl ?_
  refine c_skip ?_
  refine f_then ?_
  refine c_seq ?_
  refine c_region ?_
  refine s_y (y_move rfl) rfl rfl rfl ?_
  refine s_y (y_move rfl) rfl rfl rfl ?_
  refine s_call (en_f rfl Try.call28) (rshut_spec W _ m k (.slice pq m cq) (.slice ps k cs) Q S (hQ.any _) (hS.any _) (by omega) hG.hq) rfl rfl rfl (fun x => ?_)
  obtain ⟨⟨bo, co, rest, go⟩, hSh, hco⟩ := x
  dsimp only at hSh hco ⊢
  have hclo : ClosedP m Q go := hSh.closed
  have hle : wgt k w go ≤ v := hC.max go hclo
  by_cases hlt : wgt k w go < v
  · refine s_y (y_assign rfl) rfl rfl rfl ?_
    refine s_nil ?_
    refine f_then ?_
    refine c_seq ?_
    refine c_region ?_
    refine s_y (y_move rfl) rfl rfl rfl ?_
    refine s_y (y_move rfl) rfl rfl rfl ?_
    refine s_call (en_f rfl Try.call27) (rweight_spec W _ k (.slice pw k cw) (.slice (some ⟨bo, 0, none⟩) k co) w go (hW.any _) (SlB.ownC 0 rfl hco) (by omega) hG.hw) rfl rfl rfl (fun _ => ?_)
    refine s_y (y_assign rfl) rfl rfl rfl ?_
    refine s_nil ?_
    refine f_then ?_
    refine c_seq ?_
    refine c_region ?_
    refine s_y (y_move rfl) rfl rfl rfl ?_
    refine s_y (y_move rfl) rfl rfl rfl ?_
    refine s_y (y_T (y_leq rfl rfl) (by assumption)) rfl rfl rfl ?_
    refine s_y (y_move rfl) rfl rfl rfl ?_
    refine s_y (y_move rfl) rfl rfl rfl ?_
    refine s_y (y_move rfl) rfl rfl rfl ?_
    refine s_y (y_T (y_lss rfl rfl) (by assumption)) rfl rfl rfl ?_
    refine s_y (y_move rfl) rfl rfl rfl ?_
    iterate 3 refine s_skip rfl rfl rfl ?_
    refine s_y (y_pickT rfl rfl) rfl rfl rfl ?_
    refine s_y (y_pickT rfl rfl) rfl rfl rfl ?_
    refine s_y (y_move rfl) rfl rfl rfl ?_
    refine s_call (en_f rfl Try.call16) (awake_spec W _) rfl rfl rfl (fun _ => ?_)
    refine s_y (y_pickT rfl rfl) rfl rfl rfl ?_
    refine s_y (y_assign rfl) rfl rfl rfl ?_
    refine s_nil ?_
    refine f_then ?_
    refine c_ret ?_
    exact f_ret () (res1 rfl rfl) (fun w h => h.any)
  have hwi : ∀ i, i < k → g i = true → go i = true := fun i hi h => (hC.com i hi).1 h go hclo (by omega)
  refine s_y (y_assign rfl) rfl rfl rfl ?_
  refine s_nil ?_
  refine f_then ?_
  refine c_seq ?_
  refine c_region ?_
  refine s_y (y_move rfl) rfl rfl rfl ?_
  refine s_y (y_move rfl) rfl rfl rfl ?_
  refine s_call (en_f rfl Try.call27) (rweight_spec W _ k (.slice pw k cw) (.slice (some ⟨bo, 0, none⟩) k co) w go (hW.any _) (SlB.ownC 0 rfl hco) (by omega) hG.hw) rfl rfl rfl (fun _ => ?_)
  refine s_y (y_assign rfl) rfl rfl rfl ?_
  refine s_nil ?_
  refine f_then ?_
  refine c_seq ?_
  refine c_region ?_
  refine s_y (y_move rfl) rfl rfl rfl ?_
  refine s_y (y_move rfl) rfl rfl rfl ?_
  refine s_y (y_T (y_leq rfl rfl) (by assumption)) rfl rfl rfl ?_
  refine s_y (y_move rfl) rfl rfl rfl ?_
  refine s_y (y_move rfl) rfl rfl rfl ?_
  refine s_y (y_move rfl) rfl rfl rfl ?_
  refine s_y (y_F (y_lss rfl rfl) (by assumption)) rfl rfl rfl ?_
  refine s_y (y_move rfl) rfl rfl rfl ?_
  refine s_y (y_move rfl) rfl rfl rfl ?_
  refine s_y (y_move rfl) rfl rfl rfl ?_
  refine s_call (en_f rfl Try.call25) (rwithin_yes hwi W _ (.slice (some ⟨bg, 0, none⟩) k k) (.slice (some ⟨bo, 0, none⟩) k co) (SlB.ownLe 1 rfl (by omega)) (SlB.ownC 0 rfl hco) (Nat.le_refl _) (by omega)) rfl rfl rfl (fun _ => ?_)
  refine s_y (y_pickF rfl rfl) rfl rfl rfl ?_
  refine s_y (y_pickT rfl rfl) rfl rfl rfl ?_
  refine s_y (y_move rfl) rfl rfl rfl ?_
  refine s_call (en_f rfl Try.call16) (awake_spec W _) rfl rfl rfl (fun _ => ?_)
  refine s_y (y_pickT rfl rfl) rfl rfl rfl ?_
  refine s_y (y_assign rfl) rfl rfl rfl ?_
  refine s_nil ?_
  refine f_then ?_
  refine c_ret ?_
  exact f_ret () (res1 rfl rfl) (fun w h => h.any)
end Go.KL
end

section
/- FlowClosures: for every input the law returns true, and its arguments read as they did. No condition. -/
namespace Go.Proofs.Ytbeckcilglhkbaa
open Go.ChangeShapes Go.WideShapes Go.RowKit Go.KL
set_option linter.unusedVariables false
theorem own : ownKnob Try.prog.godebug = none := by kernel_rfl
set_option maxRecDepth 100000 in
theorem flowClosures_lifted (os : Os) (started : os.Started) (H : Type) (enc : TypeId × Value → H) :
    ReturnsInHanded {} Try.checked os 6 .any (Rows.flowClosuresSpec.pre6 enc Try.prog Try.f6 Rows.flowClosuresRow.domain false) (Rows.flowClosuresSpec.post enc Try.prog Try.f6 false true false false) := by
  refine returnsInHanded_of_change (C := Try.checked) own started (by kernel_rfl) Try.func6
    (ChangeSpec.witness6 (enc := enc) (C := Try.checked) false ⟨#[], #[.slice none 0 0, .slice none 0 0, .slice none 0 0], []⟩ 8 (by kernel_rfl) (by kernel_rfl) (by kernel_rfl) (by kernel_rfl)) ?_
  intro W base args ds gs before hval hW hcnd _
  obtain ⟨p, q, hA, hV, rfl, hfz, hnd⟩ := id hW
  obtain ⟨rfl, rfl⟩ := trodVars_none hV
  obtain ⟨v0, vs0, d0, ds0, p0, q0, e0, rfl, rfl, h0, r0⟩ := trodAll_cons hA
  obtain ⟨v1, vs1, d1, ds1, p1, q1, rfl, rfl, rfl, h1, r1⟩ := trodAll_cons r0
  obtain ⟨v2, vs2, d2, ds2, p2, q2, rfl, rfl, rfl, h2, r2⟩ := trodAll_cons r1
  obtain ⟨rfl, rfl, rfl⟩ := trodAll_nil r2
  obtain rfl : args = #[v0, v1, v2] := by cases args; simp_all
  obtain ⟨m0, f0, hI0, hm0, hf0⟩ := arg26 (hval 0 26 _ rfl rfl) h0
  obtain ⟨m1, Q1, hQ1, hm1, hq1⟩ := arg39 (hval 1 39 _ rfl rfl) h1
  obtain ⟨m2, f2, hI2, hm2⟩ := arg36 (hval 2 36 _ rfl rfl) h2
  refine ((flowClosures_walk W _ _ _ m0 m1 m2 f0 Q1 f2 hI0 hQ1 hI2) W (K.refl W)).mono ?_
  rintro e W' ⟨x, rfl, hk⟩
  exact ⟨_, rfl, law_post (t := 4) laidOut (by decide +kernel) rfl rfl u4 hW rfl hk.toExt⟩
/-- The statement. -/
theorem flowClosures_holds : Rows.FlowClosuresSaid :=
  OpenClaim.holds_of_wide 6 Try.f6 rfl rfl rfl rfl rfl rfl rfl ⟨rfl, rfl, rfl, rfl, rfl⟩ rfl rfl rfl rfl rfl (by kernel_rfl) Try.func6 (by kernel_rfl)
    (of_decide_eq_true (by kernel_rfl)) (by unfold Func.isWrapper; first | (rw [if_pos (by decide +kernel)]; kernel_rfl) | (rw [if_neg (by decide +kernel)]; exact ⟨rfl, rfl⟩))
    (fun os started H enc _ => flowClosures_lifted os started H enc)
end Go.Proofs.Ytbeckcilglhkbaa
end
