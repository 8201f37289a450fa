/- The library of the proof, part 3: a program logic over the model, walks of functions, plain laws. -/
import Derived.Test.YtbeckcilglhkbaaL2
section
/- Walks: valid. -/
namespace Go.KL
open Go.Proofs
attribute [local irreducible] SC St Fin Sq Sw Ylds Doos Sets Enters Spec CellIs CellsAre Then Ret Rnd resOK ints bools recs arr
/-- Arcs: from, to, cap, cost. -/
abbrev Ac := Int × Int × Int × Int
def ac4 (x : Ac) : List Value := [.int .i64 x.1, .int .i64 x.2.1, .int .i64 x.2.2.1, .int .i64 x.2.2.2]
def ArcsV (C : World → Prop) (v : Value) (na : Nat) (A : Nat → Ac) : Prop :=
  ∃ pa c, v = .slice pa na c ∧ ∀ i, i < na → ∃ b o, pa = some ⟨b, o, none⟩ ∧ CellsAre C ⟨b, o + i * 4, none⟩ (ac4 (A i))
theorem ArcsV.cls {C D : World → Prop} {v : Value} {na : Nat} {A : Nat → Ac} (h : ArcsV C v na A) (hC : ∀ w, D w → C w) : ArcsV D v na A := by
  obtain ⟨pa, c, h1, h2⟩ := h
  refine ⟨pa, c, h1, fun i hi => ?_⟩
  obtain ⟨b, o, h3, h4⟩ := h2 i hi
  exact ⟨b, o, h3, h4.cls hC⟩
def ArcOK (n : Int) (x : Ac) : Prop := (0 ≤ x.1 ∧ x.1 ≤ n - 1) ∧ (0 ≤ x.2.1 ∧ x.2.1 ≤ n - 1) ∧ x.1 ≠ x.2.1 ∧ (0 ≤ x.2.2.1 ∧ x.2.2.1 ≤ 1073741824) ∧ (0 ≤ x.2.2.2 ∧ x.2.2.2 ≤ 1048576)
structure NetOK (n : Int) (na : Nat) (A : Nat → Ac) (s t : Int) : Prop where
  hn : 2 ≤ n ∧ n ≤ 128
  hna : na ≤ 1024
  hs : 0 ≤ s ∧ s ≤ n - 1
  ht : 0 ≤ t ∧ t ≤ n - 1
  ne : s ≠ t
  arc : ∀ i, i < na → ArcOK n (A i)
open Classical in
set_option maxHeartbeats 4000000 in
theorem valid_spec (W : World) (Ls : List Chunk) (n s t : Int) (va : Value) (na : Nat) (A : Nat → Ac) (hA : ArcsV (K W Ls) va na A) (hna : na ≤ 1000000000) :
    Spec Try.prog 39 #[.int .i64 n, va, .int .i64 s, .int .i64 t] (K W Ls) (fun _ : Unit => .bool (decide (NetOK n na A s t))) (fun _ => K W Ls) := by
  obtain ⟨pa, ca, rfl, hcells⟩ := hA
  refine enter (args := [_, _, _, _]) Try.func39 rfl Try.ntmps39 rfl ?_
  refine c_seq ?_
  refine c_region ?_
  refine s_y (y_assign rfl) rfl rfl rfl ?_
  refine s_nil ?_
  refine f_then ?_
  refine c_seq ?_
  refine c_seq ?_
  refine c_region ?_
  refine s_y (y_move rfl) rfl rfl rfl ?_
  have hw_c1 := within_spec (K W Ls) n 2 128
  by_cases c1 : 2 ≤ n ∧ n ≤ 128
  rotate_left
  · rw [decide_eq_false c1] at hw_c1
    refine s_call (en_f rfl Try.call46) hw_c1 rfl rfl rfl (fun _ => ?_)
    refine s_y (y_not rfl) rfl rfl rfl ?_
    refine s_y (y_move rfl) rfl rfl rfl ?_
    refine s_skip rfl rfl rfl ?_
    refine s_skip rfl rfl rfl ?_
    refine s_skip rfl rfl rfl ?_
    refine s_y (y_pickT rfl rfl) rfl rfl rfl ?_
    refine s_y (y_move rfl) rfl rfl rfl ?_
    refine s_skip rfl rfl rfl ?_
    refine s_skip rfl rfl rfl ?_
    refine s_skip rfl rfl rfl ?_
    refine s_skip rfl rfl rfl ?_
    refine s_skip rfl rfl rfl ?_
    refine s_y (y_pickT rfl rfl) rfl rfl rfl ?_
    refine s_y (y_move rfl) rfl rfl rfl ?_
    refine s_skip rfl rfl rfl ?_
    refine s_skip rfl rfl rfl ?_
    refine s_skip rfl rfl rfl ?_
    refine s_skip rfl rfl rfl ?_
    refine s_skip rfl rfl rfl ?_
    refine s_y (y_pickT rfl rfl) rfl rfl rfl ?_
    refine s_y (y_move rfl) rfl rfl rfl ?_
    refine s_skip rfl rfl rfl ?_
    refine s_skip rfl rfl rfl ?_
    refine s_skip rfl rfl rfl ?_
    refine s_y (y_pickT rfl rfl) rfl rfl rfl ?_
    refine s_nil ?_
    refine f_then ?_
    refine c_condT rfl ?_
    refine c_seq ?_
    refine c_region ?_
    refine s_y (y_assign rfl) rfl rfl rfl ?_
    refine s_nil ?_
    refine f_then ?_
    refine c_ret ?_
    refine f_thenR ?_
    exact f_retE () (res1 rfl rfl) (by rw [decide_eq_false fun h => c1 h.hn]) (fun w h => h)
  rw [decide_eq_true c1] at hw_c1
  refine s_call (en_f rfl Try.call46) hw_c1 rfl rfl rfl (fun _ => ?_)
  by_cases c2 : na ≤ 1024
  rotate_left
  · have n_c2 : (1024 : Int) < (na : Int) := by omega
    refine s_y (y_not rfl) rfl rfl rfl ?_
    refine s_y (y_move rfl) rfl rfl rfl ?_
    refine s_y (y_move rfl) rfl rfl rfl ?_
    refine s_y (y_len Try.tab rfl rfl) rfl rfl rfl ?_
    refine s_y (y_T (y_gtr rfl rfl) (by assumption)) rfl rfl rfl ?_
    refine s_y (y_pickF rfl rfl) rfl rfl rfl ?_
    refine s_y (y_move rfl) rfl rfl rfl ?_
    refine s_skip rfl rfl rfl ?_
    refine s_skip rfl rfl rfl ?_
    refine s_skip rfl rfl rfl ?_
    refine s_skip rfl rfl rfl ?_
    refine s_skip rfl rfl rfl ?_
    refine s_y (y_pickT rfl rfl) rfl rfl rfl ?_
    refine s_y (y_move rfl) rfl rfl rfl ?_
    refine s_skip rfl rfl rfl ?_
    refine s_skip rfl rfl rfl ?_
    refine s_skip rfl rfl rfl ?_
    refine s_skip rfl rfl rfl ?_
    refine s_skip rfl rfl rfl ?_
    refine s_y (y_pickT rfl rfl) rfl rfl rfl ?_
    refine s_y (y_move rfl) rfl rfl rfl ?_
    refine s_skip rfl rfl rfl ?_
    refine s_skip rfl rfl rfl ?_
    refine s_skip rfl rfl rfl ?_
    refine s_y (y_pickT rfl rfl) rfl rfl rfl ?_
    refine s_nil ?_
    refine f_then ?_
    refine c_condT rfl ?_
    refine c_seq ?_
    refine c_region ?_
    refine s_y (y_assign rfl) rfl rfl rfl ?_
    refine s_nil ?_
    refine f_then ?_
    refine c_ret ?_
    refine f_thenR ?_
    exact f_retE () (res1 rfl rfl) (by rw [decide_eq_false fun h => c2 h.hna]) (fun w h => h)
  have n_c2 : ¬ (1024 : Int) < (na : Int) := by omega
  refine s_y (y_not rfl) rfl rfl rfl ?_
  refine s_y (y_move rfl) rfl rfl rfl ?_
  refine s_y (y_move rfl) rfl rfl rfl ?_
  refine s_y (y_len Try.tab rfl rfl) rfl rfl rfl ?_
  refine s_y (y_F (y_gtr rfl rfl) (by assumption)) rfl rfl rfl ?_
  refine s_y (y_pickF rfl rfl) rfl rfl rfl ?_
  refine s_y (y_move rfl) rfl rfl rfl ?_
  refine s_y (y_move rfl) rfl rfl rfl ?_
  refine s_y (y_move rfl) rfl rfl rfl ?_
  refine s_y (y_sub rfl rfl (by omega)) rfl rfl rfl ?_
  have hw_c3 := within_spec (K W Ls) s 0 (n - 1)
  by_cases c3 : 0 ≤ s ∧ s ≤ n - 1
  rotate_left
  · rw [decide_eq_false c3] at hw_c3
    refine s_call (en_f rfl Try.call46) hw_c3 rfl rfl rfl (fun _ => ?_)
    refine s_y (y_not rfl) rfl rfl rfl ?_
    refine s_y (y_pickF rfl rfl) rfl rfl rfl ?_
    refine s_y (y_move rfl) rfl rfl rfl ?_
    refine s_skip rfl rfl rfl ?_
    refine s_skip rfl rfl rfl ?_
    refine s_skip rfl rfl rfl ?_
    refine s_skip rfl rfl rfl ?_
    refine s_skip rfl rfl rfl ?_
    refine s_y (y_pickT rfl rfl) rfl rfl rfl ?_
    refine s_y (y_move rfl) rfl rfl rfl ?_
    refine s_skip rfl rfl rfl ?_
    refine s_skip rfl rfl rfl ?_
    refine s_skip rfl rfl rfl ?_
    refine s_y (y_pickT rfl rfl) rfl rfl rfl ?_
    refine s_nil ?_
    refine f_then ?_
    refine c_condT rfl ?_
    refine c_seq ?_
    refine c_region ?_
    refine s_y (y_assign rfl) rfl rfl rfl ?_
    refine s_nil ?_
    refine f_then ?_
    refine c_ret ?_
    refine f_thenR ?_
    exact f_retE () (res1 rfl rfl) (by rw [decide_eq_false fun h => c3 h.hs]) (fun w h => h)
  rw [decide_eq_true c3] at hw_c3
  refine s_call (en_f rfl Try.call46) hw_c3 rfl rfl rfl (fun _ => ?_)
  refine s_y (y_not rfl) rfl rfl rfl ?_
  refine s_y (y_pickF rfl rfl) rfl rfl rfl ?_
  refine s_y (y_move rfl) rfl rfl rfl ?_
  refine s_y (y_move rfl) rfl rfl rfl ?_
  refine s_y (y_move rfl) rfl rfl rfl ?_
  refine s_y (y_sub rfl rfl (by omega)) rfl rfl rfl ?_
  have hw_c4 := within_spec (K W Ls) t 0 (n - 1)
  by_cases c4 : 0 ≤ t ∧ t ≤ n - 1
  rotate_left
  · rw [decide_eq_false c4] at hw_c4
    refine s_call (en_f rfl Try.call46) hw_c4 rfl rfl rfl (fun _ => ?_)
    refine s_y (y_not rfl) rfl rfl rfl ?_
    refine s_y (y_pickF rfl rfl) rfl rfl rfl ?_
    refine s_y (y_move rfl) rfl rfl rfl ?_
    refine s_skip rfl rfl rfl ?_
    refine s_skip rfl rfl rfl ?_
    refine s_skip rfl rfl rfl ?_
    refine s_y (y_pickT rfl rfl) rfl rfl rfl ?_
    refine s_nil ?_
    refine f_then ?_
    refine c_condT rfl ?_
    refine c_seq ?_
    refine c_region ?_
    refine s_y (y_assign rfl) rfl rfl rfl ?_
    refine s_nil ?_
    refine f_then ?_
    refine c_ret ?_
    refine f_thenR ?_
    exact f_retE () (res1 rfl rfl) (by rw [decide_eq_false fun h => c4 h.ht]) (fun w h => h)
  rw [decide_eq_true c4] at hw_c4
  refine s_call (en_f rfl Try.call46) hw_c4 rfl rfl rfl (fun _ => ?_)
  by_cases c5 : s = t
  · refine s_y (y_not rfl) rfl rfl rfl ?_
    refine s_y (y_pickF rfl rfl) rfl rfl rfl ?_
    refine s_y (y_move rfl) rfl rfl rfl ?_
    refine s_y (y_move rfl) rfl rfl rfl ?_
    refine s_y (y_move rfl) rfl rfl rfl ?_
    refine s_y (y_T (y_eql rfl rfl) (by assumption)) rfl rfl rfl ?_
    refine s_y (y_pickF rfl rfl) rfl rfl rfl ?_
    refine s_nil ?_
    refine f_then ?_
    refine c_condT rfl ?_
    refine c_seq ?_
    refine c_region ?_
    refine s_y (y_assign rfl) rfl rfl rfl ?_
    refine s_nil ?_
    refine f_then ?_
    refine c_ret ?_
    refine f_thenR ?_
    exact f_retE () (res1 rfl rfl) (by rw [decide_eq_false fun h => h.ne c5]) (fun w h => h)
  refine s_y (y_not rfl) rfl rfl rfl ?_
  refine s_y (y_pickF rfl rfl) rfl rfl rfl ?_
  refine s_y (y_move rfl) rfl rfl rfl ?_
  refine s_y (y_move rfl) rfl rfl rfl ?_
  refine s_y (y_move rfl) rfl rfl rfl ?_
  refine s_y (y_F (y_eql rfl rfl) (by assumption)) rfl rfl rfl ?_
  refine s_y (y_pickF rfl rfl) rfl rfl rfl ?_
  refine s_nil ?_
  refine f_then ?_
  refine c_condF rfl ?_
  refine c_skip ?_
  refine f_then ?_
  refine c_seq ?_
  refine c_seq ?_
  refine c_region ?_
  refine s_y (y_move rfl) rfl rfl rfl ?_
  refine s_y (y_len Try.tab rfl rfl) rfl rfl rfl ?_
  refine s_y (y_move rfl) rfl rfl rfl ?_
  refine s_nil ?_
  refine f_then ?_
  refine c_block ?_
  refine c_loopP (α := Nat) (fun z => [(0, .int .i64 n), (38, .slice pa na ca), (39, .int .i64 na), (40, .int .i64 z)]) (fun z => z ≤ na ∧ ∀ i, i < z → ArcOK n (A i)) (fun _ => K W Ls) (fun z => na - z) 0
    ⟨rfl, rfl, rfl, rfl, trivial⟩ ⟨Nat.zero_le _, fun i hi => absurd hi (Nat.not_lt_zero i)⟩ (fun w h => h) ?_
  rintro i ⟨hi, hok⟩
  refine c_seq ?_
  refine c_region ?_
  refine s_y (y_lss rfl rfl) rfl rfl rfl ?_
  refine s_nil ?_
  refine f_then ?_
  refine c_seq ?_
  refine c_condD rfl (fun hlt => ?_) (fun hge => ?_)
  rotate_left
  · refine c_exit ?_
    refine f_thenE ?_
    refine f_rndE ?_
    refine f_blockE ?_
    refine f_then ?_
    refine c_seq ?_
    refine c_region ?_
    refine s_y (y_assign rfl) rfl rfl rfl ?_
    refine s_nil ?_
    refine f_then ?_
    refine c_ret ?_
    exact f_retE () (res1 rfl rfl) (by rw [decide_eq_true ⟨c1, c2, c3, c4, c5, fun j hj => hok j (by omega)⟩]) (fun w h => h)
  have hin : i < na := by omega
  obtain ⟨b, o, rfl, hc⟩ := hcells i hin
  have hex : ac4 (A i) = [.int .i64 (A i).1, .int .i64 (A i).2.1, .int .i64 (A i).2.2.1, .int .i64 (A i).2.2.2] := rfl
  rw [hex] at hc
  have hno : ¬ ArcOK n (A i) → ¬ NetOK n na A s t := fun h1 h2 => h1 (h2.arc i hin)
  have hni : ∀ x, A i = x → ArcOK n x → ∀ j, j < i + 1 → ArcOK n (A j) := fun x h1 h2 j hj => by
    by_cases e : j = i
    · rw [e, h1]; exact h2
    · exact hok j (by omega)
  generalize hx : A i = x at hc hno
  obtain ⟨xf, xt, xc, xw⟩ := x
  dsimp only at hc hno
  refine c_skip ?_
  refine f_then ?_
  refine c_seq ?_
  refine c_block ?_
  refine c_seq ?_
  refine c_region ?_
  refine s_y (y_indexAddr (s := 4) Try.tab rfl rfl rfl rfl _ rfl (by omega)) rfl rfl rfl ?_
  refine s_y (y_loadA Try.tab rfl rfl rfl rfl (by assumption)) rfl rfl rfl ?_
  refine s_do (do_alloc Try.tab rfl) rfl rfl rfl (fun b10 => ?_)
  refine s_set (set_box Try.tab 0 rfl rfl rfl rfl rfl rfl rfl) rfl rfl ?_
  refine s_nil ?_
  refine f_then ?_
  refine c_seq ?_
  refine c_region ?_
  refine s_y (y_fieldAddr0 Try.tab rfl rfl rfl rfl rfl) rfl rfl rfl ?_
  refine s_y (y_load Try.tab rfl rfl (cell_row 0 rfl rfl)) rfl rfl rfl ?_
  refine s_y (y_move rfl) rfl rfl rfl ?_
  refine s_y (y_sub rfl rfl (by omega)) rfl rfl rfl ?_
  have hw_d1 := within_spec (K W ([(b10, row 35 [.int .i64 xf, .int .i64 xt, .int .i64 xc, .int .i64 xw])] :: Ls)) xf 0 (n - 1)
  by_cases d1 : 0 ≤ xf ∧ xf ≤ n - 1
  rotate_left
  · rw [decide_eq_false d1] at hw_d1
    refine s_call (en_f rfl Try.call46) hw_d1 rfl rfl rfl (fun _ => ?_)
    refine s_y (y_not rfl) rfl rfl rfl ?_
    refine s_y (y_move rfl) rfl rfl rfl ?_
    refine s_skip rfl rfl rfl ?_
    refine s_skip rfl rfl rfl ?_
    refine s_skip rfl rfl rfl ?_
    refine s_skip rfl rfl rfl ?_
    refine s_skip rfl rfl rfl ?_
    refine s_skip rfl rfl rfl ?_
    refine s_y (y_pickT rfl rfl) rfl rfl rfl ?_
    refine s_y (y_move rfl) rfl rfl rfl ?_
    refine s_skip rfl rfl rfl ?_
    refine s_skip rfl rfl rfl ?_
    refine s_skip rfl rfl rfl ?_
    refine s_skip rfl rfl rfl ?_
    refine s_skip rfl rfl rfl ?_
    refine s_y (y_pickT rfl rfl) rfl rfl rfl ?_
    refine s_y (y_move rfl) rfl rfl rfl ?_
    refine s_skip rfl rfl rfl ?_
    refine s_skip rfl rfl rfl ?_
    refine s_skip rfl rfl rfl ?_
    refine s_skip rfl rfl rfl ?_
    refine s_y (y_pickT rfl rfl) rfl rfl rfl ?_
    refine s_y (y_move rfl) rfl rfl rfl ?_
    refine s_skip rfl rfl rfl ?_
    refine s_skip rfl rfl rfl ?_
    refine s_skip rfl rfl rfl ?_
    refine s_skip rfl rfl rfl ?_
    refine s_y (y_pickT rfl rfl) rfl rfl rfl ?_
    refine s_nil ?_
    refine f_then ?_
    refine c_condT rfl ?_
    refine c_seq ?_
    refine c_region ?_
    refine s_y (y_assign rfl) rfl rfl rfl ?_
    refine s_nil ?_
    refine f_then ?_
    refine c_ret ?_
    refine f_blockR ?_
    refine f_thenR ?_
    refine f_rndR ?_
    refine f_blockR ?_
    refine f_thenR ?_
    exact f_retE () (res1 rfl rfl) (by rw [decide_eq_false (hno fun h => d1 h.1)]) (fun w h => h.tail)
  rw [decide_eq_true d1] at hw_d1
  refine s_call (en_f rfl Try.call46) hw_d1 rfl rfl rfl (fun _ => ?_)
  refine s_y (y_not rfl) rfl rfl rfl ?_
  refine s_y (y_move rfl) rfl rfl rfl ?_
  refine s_y (y_fieldAddrB Try.tab 1 rfl rfl rfl rfl rfl) rfl rfl rfl ?_
  refine s_y (y_load Try.tab rfl rfl (cell_row 0 rfl rfl)) rfl rfl rfl ?_
  refine s_y (y_move rfl) rfl rfl rfl ?_
  refine s_y (y_sub rfl rfl (by omega)) rfl rfl rfl ?_
  have hw_d2 := within_spec (K W ([(b10, row 35 [.int .i64 xf, .int .i64 xt, .int .i64 xc, .int .i64 xw])] :: Ls)) xt 0 (n - 1)
  by_cases d2 : 0 ≤ xt ∧ xt ≤ n - 1
  rotate_left
  · rw [decide_eq_false d2] at hw_d2
    refine s_call (en_f rfl Try.call46) hw_d2 rfl rfl rfl (fun _ => ?_)
    refine s_y (y_not rfl) rfl rfl rfl ?_
    refine s_y (y_pickF rfl rfl) rfl rfl rfl ?_
    refine s_y (y_move rfl) rfl rfl rfl ?_
    refine s_skip rfl rfl rfl ?_
    refine s_skip rfl rfl rfl ?_
    refine s_skip rfl rfl rfl ?_
    refine s_skip rfl rfl rfl ?_
    refine s_skip rfl rfl rfl ?_
    refine s_y (y_pickT rfl rfl) rfl rfl rfl ?_
    refine s_y (y_move rfl) rfl rfl rfl ?_
    refine s_skip rfl rfl rfl ?_
    refine s_skip rfl rfl rfl ?_
    refine s_skip rfl rfl rfl ?_
    refine s_skip rfl rfl rfl ?_
    refine s_y (y_pickT rfl rfl) rfl rfl rfl ?_
    refine s_y (y_move rfl) rfl rfl rfl ?_
    refine s_skip rfl rfl rfl ?_
    refine s_skip rfl rfl rfl ?_
    refine s_skip rfl rfl rfl ?_
    refine s_skip rfl rfl rfl ?_
    refine s_y (y_pickT rfl rfl) rfl rfl rfl ?_
    refine s_nil ?_
    refine f_then ?_
    refine c_condT rfl ?_
    refine c_seq ?_
    refine c_region ?_
    refine s_y (y_assign rfl) rfl rfl rfl ?_
    refine s_nil ?_
    refine f_then ?_
    refine c_ret ?_
    refine f_blockR ?_
    refine f_thenR ?_
    refine f_rndR ?_
    refine f_blockR ?_
    refine f_thenR ?_
    exact f_retE () (res1 rfl rfl) (by rw [decide_eq_false (hno fun h => d2 h.2.1)]) (fun w h => h.tail)
  rw [decide_eq_true d2] at hw_d2
  refine s_call (en_f rfl Try.call46) hw_d2 rfl rfl rfl (fun _ => ?_)
  by_cases d3 : xf = xt
  · refine s_y (y_not rfl) rfl rfl rfl ?_
    refine s_y (y_pickF rfl rfl) rfl rfl rfl ?_
    refine s_y (y_move rfl) rfl rfl rfl ?_
    refine s_y (y_fieldAddr0 Try.tab rfl rfl rfl rfl rfl) rfl rfl rfl ?_
    refine s_y (y_load Try.tab rfl rfl (cell_row 0 rfl rfl)) rfl rfl rfl ?_
    refine s_y (y_fieldAddrB Try.tab 1 rfl rfl rfl rfl rfl) rfl rfl rfl ?_
    refine s_y (y_load Try.tab rfl rfl (cell_row 0 rfl rfl)) rfl rfl rfl ?_
    refine s_y (y_T (y_eql rfl rfl) (by assumption)) rfl rfl rfl ?_
    refine s_y (y_pickF rfl rfl) rfl rfl rfl ?_
    refine s_y (y_move rfl) rfl rfl rfl ?_
    refine s_skip rfl rfl rfl ?_
    refine s_skip rfl rfl rfl ?_
    refine s_skip rfl rfl rfl ?_
    refine s_skip rfl rfl rfl ?_
    refine s_y (y_pickT rfl rfl) rfl rfl rfl ?_
    refine s_y (y_move rfl) rfl rfl rfl ?_
    refine s_skip rfl rfl rfl ?_
    refine s_skip rfl rfl rfl ?_
    refine s_skip rfl rfl rfl ?_
    refine s_skip rfl rfl rfl ?_
    refine s_y (y_pickT rfl rfl) rfl rfl rfl ?_
    refine s_nil ?_
    refine f_then ?_
    refine c_condT rfl ?_
    refine c_seq ?_
    refine c_region ?_
    refine s_y (y_assign rfl) rfl rfl rfl ?_
    refine s_nil ?_
    refine f_then ?_
    refine c_ret ?_
    refine f_blockR ?_
    refine f_thenR ?_
    refine f_rndR ?_
    refine f_blockR ?_
    refine f_thenR ?_
    exact f_retE () (res1 rfl rfl) (by rw [decide_eq_false (hno fun h => h.2.2.1 d3)]) (fun w h => h.tail)
  refine s_y (y_not rfl) rfl rfl rfl ?_
  refine s_y (y_pickF rfl rfl) rfl rfl rfl ?_
  refine s_y (y_move rfl) rfl rfl rfl ?_
  refine s_y (y_fieldAddr0 Try.tab rfl rfl rfl rfl rfl) rfl rfl rfl ?_
  refine s_y (y_load Try.tab rfl rfl (cell_row 0 rfl rfl)) rfl rfl rfl ?_
  refine s_y (y_fieldAddrB Try.tab 1 rfl rfl rfl rfl rfl) rfl rfl rfl ?_
  refine s_y (y_load Try.tab rfl rfl (cell_row 0 rfl rfl)) rfl rfl rfl ?_
  refine s_y (y_F (y_eql rfl rfl) (by assumption)) rfl rfl rfl ?_
  refine s_y (y_pickF rfl rfl) rfl rfl rfl ?_
  refine s_y (y_move rfl) rfl rfl rfl ?_
  refine s_y (y_fieldAddrB Try.tab 2 rfl rfl rfl rfl rfl) rfl rfl rfl ?_
  refine s_y (y_load Try.tab rfl rfl (cell_row 0 rfl rfl)) rfl rfl rfl ?_
  have hw_d4 := within_spec (K W ([(b10, row 35 [.int .i64 xf, .int .i64 xt, .int .i64 xc, .int .i64 xw])] :: Ls)) xc 0 1073741824
  by_cases d4 : 0 ≤ xc ∧ xc ≤ 1073741824
  rotate_left
  · rw [decide_eq_false d4] at hw_d4
    refine s_call (en_f rfl Try.call46) hw_d4 rfl rfl rfl (fun _ => ?_)
    refine s_y (y_not rfl) rfl rfl rfl ?_
    refine s_y (y_pickF rfl rfl) rfl rfl rfl ?_
    refine s_y (y_move rfl) rfl rfl rfl ?_
    refine s_skip rfl rfl rfl ?_
    refine s_skip rfl rfl rfl ?_
    refine s_skip rfl rfl rfl ?_
    refine s_skip rfl rfl rfl ?_
    refine s_y (y_pickT rfl rfl) rfl rfl rfl ?_
    refine s_nil ?_
    refine f_then ?_
    refine c_condT rfl ?_
    refine c_seq ?_
    refine c_region ?_
    refine s_y (y_assign rfl) rfl rfl rfl ?_
    refine s_nil ?_
    refine f_then ?_
    refine c_ret ?_
    refine f_blockR ?_
    refine f_thenR ?_
    refine f_rndR ?_
    refine f_blockR ?_
    refine f_thenR ?_
    exact f_retE () (res1 rfl rfl) (by rw [decide_eq_false (hno fun h => d4 h.2.2.2.1)]) (fun w h => h.tail)
  rw [decide_eq_true d4] at hw_d4
  refine s_call (en_f rfl Try.call46) hw_d4 rfl rfl rfl (fun _ => ?_)
  refine s_y (y_not rfl) rfl rfl rfl ?_
  refine s_y (y_pickF rfl rfl) rfl rfl rfl ?_
  refine s_y (y_move rfl) rfl rfl rfl ?_
  refine s_y (y_fieldAddrB Try.tab 3 rfl rfl rfl rfl rfl) rfl rfl rfl ?_
  refine s_y (y_load Try.tab rfl rfl (cell_row 0 rfl rfl)) rfl rfl rfl ?_
  have hw_d5 := within_spec (K W ([(b10, row 35 [.int .i64 xf, .int .i64 xt, .int .i64 xc, .int .i64 xw])] :: Ls)) xw 0 1048576
  by_cases d5 : 0 ≤ xw ∧ xw ≤ 1048576
  rotate_left
  · rw [decide_eq_false d5] at hw_d5
    refine s_call (en_f rfl Try.call46) hw_d5 rfl rfl rfl (fun _ => ?_)
    refine s_y (y_not rfl) rfl rfl rfl ?_
    refine s_y (y_pickF rfl rfl) rfl rfl rfl ?_
    refine s_nil ?_
    refine f_then ?_
    refine c_condT rfl ?_
    refine c_seq ?_
    refine c_region ?_
    refine s_y (y_assign rfl) rfl rfl rfl ?_
    refine s_nil ?_
    refine f_then ?_
    refine c_ret ?_
    refine f_blockR ?_
    refine f_thenR ?_
    refine f_rndR ?_
    refine f_blockR ?_
    refine f_thenR ?_
    exact f_retE () (res1 rfl rfl) (by rw [decide_eq_false (hno fun h => d5 h.2.2.2.2)]) (fun w h => h.tail)
  rw [decide_eq_true d5] at hw_d5
  refine s_call (en_f rfl Try.call46) hw_d5 rfl rfl rfl (fun _ => ?_)
  refine s_y (y_not rfl) rfl rfl rfl ?_
  refine s_y (y_pickF rfl rfl) rfl rfl rfl ?_
  refine s_nil ?_
  refine f_then ?_
  refine c_condF rfl ?_
  refine c_skip ?_
  refine f_blockN ?_
  refine f_then ?_
  refine c_region ?_
  refine s_y (y_add rfl rfl (by omega)) rfl rfl rfl ?_
  refine s_y (y_move rfl) rfl rfl rfl ?_
  refine s_nil ?_
  exact f_roundP (i + 1) ⟨hin, hni _ hx ⟨d1, d2, d3, d4, d5⟩⟩ (by omega) ⟨rfl, rfl, rfl, rfl, trivial⟩ (fun w h => h.tail)
end Go.KL
end

section
/- Plain lemmas: flows on arcs, potentials, cuts. No program in sight. -/
namespace Go.KL
theorem sm_zero (n : Nat) (f : Nat → Int) (h : ∀ i, i < n → f i = 0) : sm n f = 0 := by
  induction n with
  | zero => rfl
  | succ n ih => simp only [sm, h n (by omega), ih fun i hi => h i (by omega)]; omega
theorem sm_sub (n : Nat) (f g : Nat → Int) : sm n (fun i => f i - g i) = sm n f - sm n g := by
  induction n with
  | zero => rfl
  | succ n ih => simp only [sm, ih]; omega
theorem sm_mul (n : Nat) (c : Int) (f : Nat → Int) : sm n (fun i => c * f i) = c * sm n f := by
  induction n with
  | zero => simp [sm]
  | succ n ih => simp only [sm, ih, Int.mul_add]
theorem sm_le (n : Nat) (f g : Nat → Int) (h : ∀ i, i < n → f i ≤ g i) : sm n f ≤ sm n g := by
  induction n with
  | zero => simp [sm]
  | succ n ih =>
    have h1 := ih fun i hi => h i (by omega)
    have h2 := h n (by omega)
    simp only [sm]; omega
theorem sm_nonneg (n : Nat) (f : Nat → Int) (h : ∀ i, i < n → 0 ≤ f i) : 0 ≤ sm n f := by
  have := sm_le n (fun _ => 0) f h
  rwa [sm_zero n _ (fun _ _ => rfl)] at this
theorem sm_bound (n : Nat) (f : Nat → Int) (c : Int) (h : ∀ i, i < n → f i ≤ c) : sm n f ≤ n * c := by
  induction n with
  | zero => simp [sm]
  | succ n ih =>
    have h1 := ih fun i hi => h i (by omega)
    have h2 := h n (by omega)
    have : ((n + 1 : Nat) : Int) * c = n * c + c := by rw [Int.natCast_succ, Int.add_mul, Int.one_mul]
    simp only [sm]; omega
/-- Where all are at least, and the sums agree, each agrees. -/
theorem sm_eq_le (n : Nat) (f g : Nat → Int) (h : ∀ i, i < n → f i ≤ g i) (he : sm n g ≤ sm n f) : ∀ i, i < n → f i = g i := by
  induction n with
  | zero => intro i hi; omega
  | succ n ih =>
    have h1 := sm_le n f g fun i hi => h i (by omega)
    have h2 := h n (by omega)
    simp only [sm] at he
    have h3 : f n = g n := by omega
    have h4 := ih (fun i hi => h i (by omega)) (by omega)
    intro i hi
    by_cases e : i = n
    · subst e; exact h3
    · exact h4 i (by omega)
theorem sm_at (n k : Nat) (p : Nat → Int) (x : Int) (hk : k < n) : sm n (fun u => p u * (if k = u then x else 0)) = p k * x := by
  have : (fun u => p u * (if k = u then x else 0)) = fun u => if u = k then p k * x else 0 := by
    funext u
    by_cases e : k = u
    · subst e; simp
    · have e' : ¬ u = k := fun h => e h.symm
      simp [e, e']
  rw [this, sm_one n k _ hk]

/-- What leaves a node minus what comes in, over the first na arcs. -/
def more (fr tt : Nat → Nat) (f : Nat → Int) (na u : Nat) : Int := sm na fun i => (if fr i = u then f i else 0) - (if tt i = u then f i else 0)
theorem more_succ (fr tt : Nat → Nat) (f : Nat → Int) (na u : Nat) : more fr tt f (na + 1) u = more fr tt f na u + ((if fr na = u then f na else 0) - (if tt na = u then f na else 0)) := rfl
def cst (c f : Nat → Int) (na : Nat) : Int := sm na fun i => f i * c i

section
variable {n na s t : Nat} {fr tt : Nat → Nat} {f : Nat → Int}
theorem sm_more (p : Nat → Int) (hf : ∀ i, i < na → fr i < n) (ht : ∀ i, i < na → tt i < n) : sm n (fun u => p u * more fr tt f na u) = sm na (fun i => f i * (p (fr i) - p (tt i))) := by
  induction na with
  | zero =>
    have : (fun u => p u * more fr tt f 0 u) = fun _ => 0 := by funext u; simp [more, sm]
    rw [this, sm_zero n _ (fun _ _ => rfl)]; rfl
  | succ na ih =>
    have e : (fun u => p u * more fr tt f (na + 1) u) = fun u => p u * more fr tt f na u + (p u * (if fr na = u then f na else 0) - p u * (if tt na = u then f na else 0)) := by
      funext u; rw [more_succ, Int.mul_add, Int.mul_sub]
    rw [e, sm_add, ih (fun i hi => hf i (by omega)) (fun i hi => ht i (by omega)), sm_sub, sm_at n _ p _ (hf na (by omega)), sm_at n _ p _ (ht na (by omega))]
    simp only [sm]
    rw [Int.mul_sub, Int.mul_comm (f na), Int.mul_comm (f na)]
/-- The sum of two nodes' terms. -/
theorem sm_two (s t : Nat) (q : Nat → Int) (hs : s < n) (ht : t < n) (hne : s ≠ t) (h0 : ∀ u, u < n → u ≠ s → u ≠ t → q u = 0) : sm n q = q s + q t := by
  have e : sm n q = sm n (fun u => (if u = s then q s else 0) + (if u = t then q t else 0)) := by
    apply sm_congr
    intro u hu
    by_cases e1 : u = s
    · subst e1; simp [hne]
    · by_cases e2 : u = t
      · subst e2; simp [e1]
      · simp [e1, e2, h0 u hu e1 e2]
  rw [e, sm_add, sm_one n s _ hs, sm_one n t _ ht]

/-- A flow: at most c times each capacity, of value v. -/
structure Flw (n na s t : Nat) (fr tt : Nat → Nat) (cap : Nat → Int) (c : Int) (f : Nat → Int) (v : Int) : Prop where
  bd : ∀ i, i < na → 0 ≤ f i ∧ f i ≤ c * cap i
  mid : ∀ u, u < n → u ≠ s → u ≠ t → more fr tt f na u = 0
  val : more fr tt f na s = v
structure Arcs1 (n na s t : Nat) (fr tt : Nat → Nat) : Prop where
  frL : ∀ i, i < na → fr i < n
  ttL : ∀ i, i < na → tt i < n
  sL : s < n
  tL : t < n
  ne : s ≠ t
variable {cap : Nat → Int} {c v : Int}
theorem Flw.at_t (hA : Arcs1 n na s t fr tt) (h : Flw n na s t fr tt cap c f v) : more fr tt f na t = - v := by
  have h1 := sm_more (f := f) (fun _ => 1) hA.frL hA.ttL
  have h2 : sm na (fun i => f i * ((1 : Int) - 1)) = 0 := sm_zero na _ fun i _ => by simp
  rw [h2, sm_two s t _ hA.sL hA.tL hA.ne (fun u hu h1 h2 => by rw [h.mid u hu h1 h2]; simp)] at h1
  have := h.val
  simp only [Int.one_mul] at h1
  omega
/-- Potentials telescope. -/
theorem Flw.tele (hA : Arcs1 n na s t fr tt) (h : Flw n na s t fr tt cap c f v) (p : Nat → Int) : sm na (fun i => f i * (p (fr i) - p (tt i))) = v * (p s - p t) := by
  rw [← sm_more p hA.frL hA.ttL, sm_two s t _ hA.sL hA.tL hA.ne (fun u hu h1 h2 => by rw [h.mid u hu h1 h2]; simp), h.val, h.at_t hA]
  rw [Int.mul_sub, Int.mul_comm (p s), Int.mul_comm (p t), Int.neg_mul]
  omega
/-- A potential that certifies a flow. -/
def CertP (na : Nat) (fr tt : Nat → Nat) (cap cost f p : Nat → Int) : Prop := ∀ i, i < na → (f i < cap i → 0 ≤ cost i + p (fr i) - p (tt i)) ∧ (0 < f i → cost i + p (fr i) - p (tt i) ≤ 0)
theorem CertP.least {cost p g : Nat → Int} (hA : Arcs1 n na s t fr tt) (hc : CertP na fr tt cap cost f p) (hf : Flw n na s t fr tt cap 1 f v) (hg : Flw n na s t fr tt cap c g (c * v)) : c * cst cost f na ≤ cst cost g na := by
  have h1 := hf.tele hA p
  have h2 := hg.tele hA p
  have h3 : c * sm na (fun i => f i * (cost i + p (fr i) - p (tt i))) ≤ sm na (fun i => g i * (cost i + p (fr i) - p (tt i))) := by
    rw [← sm_mul]
    apply sm_le
    intro i hi
    obtain ⟨q1, q2⟩ := hc i hi
    obtain ⟨b1, b2⟩ := hf.bd i hi
    obtain ⟨b3, b4⟩ := hg.bd i hi
    rw [Int.one_mul] at b2
    generalize cost i + p (fr i) - p (tt i) = d at q1 q2 ⊢
    rw [← Int.mul_assoc]
    rcases Int.lt_trichotomy d 0 with hd | hd | hd
    · have e : f i = cap i := by
        rcases Int.lt_or_le (f i) (cap i) with h | h
        · have := q1 h; omega
        · omega
      rw [e]
      exact Int.mul_le_mul_of_nonpos_right b4 (by omega)
    · subst hd; simp
    · have e : f i = 0 := by
        rcases Int.lt_or_le 0 (f i) with h | h
        · have := q2 h; omega
        · omega
      rw [e, Int.mul_zero, Int.zero_mul]
      exact Int.mul_nonneg b3 (by omega)
  have split : ∀ (h : Nat → Int), sm na (fun i => h i * (cost i + p (fr i) - p (tt i))) = cst cost h na + sm na (fun i => h i * (p (fr i) - p (tt i))) := by
    intro h
    unfold cst
    rw [← sm_add]
    apply sm_congr
    intro i _
    rw [← Int.mul_add]
    congr 1; omega
  rw [split, split, h1, h2, Int.mul_add, ← Int.mul_assoc] at h3
  omega

/-! ### Cuts -/
def ind (S : Nat → Bool) (u : Nat) : Int := if S u then 1 else 0
def cpc (na : Nat) (fr tt : Nat → Nat) (cap : Nat → Int) (S : Nat → Bool) : Int := sm na fun i => if S (fr i) && !S (tt i) then cap i else 0
theorem Flw.cut (hA : Arcs1 n na s t fr tt) (h : Flw n na s t fr tt cap 1 f v) {S : Nat → Bool} (hs : S s = true) (ht : S t = false) :
    v ≤ cpc na fr tt cap S ∧ (v = cpc na fr tt cap S ↔ ∀ i, i < na → (S (fr i) = true → S (tt i) = false → f i = cap i) ∧ (S (fr i) = false → S (tt i) = true → f i = 0)) := by
  have h1 := h.tele hA (ind S)
  have e1 : v * (ind S s - ind S t) = v := by simp [ind, hs, ht]
  rw [e1] at h1
  have hle : ∀ i, i < na → f i * (ind S (fr i) - ind S (tt i)) ≤ (if S (fr i) && !S (tt i) then cap i else 0) := by
    intro i hi
    obtain ⟨b1, b2⟩ := h.bd i hi
    rw [Int.one_mul] at b2
    unfold ind
    cases S (fr i) <;> cases S (tt i) <;> simp <;> omega
  refine ⟨by rw [← h1]; exact sm_le na _ _ hle, ?_, ?_⟩
  · intro e i hi
    have := sm_eq_le na _ _ hle (by show cpc na fr tt cap S ≤ _; omega) i hi
    unfold ind at this
    refine ⟨fun q1 q2 => ?_, fun q1 q2 => ?_⟩
    · simpa [q1, q2] using this
    · simp [q1, q2] at this; omega
  · intro hall
    rw [← h1]
    apply sm_congr
    intro i hi
    obtain ⟨q1, q2⟩ := hall i hi
    unfold ind
    cases e1 : S (fr i) <;> cases e2 : S (tt i) <;> simp
    · exact q2 e1 e2
    · exact q1 e1 e2
/-- A set that a flow's rest does not leave. -/
def ShutR (na : Nat) (fr tt : Nat → Nat) (cap f : Nat → Int) (S : Nat → Bool) : Prop := ∀ i, i < na → (S (fr i) = true → f i < cap i → S (tt i) = true) ∧ (S (tt i) = true → 0 < f i → S (fr i) = true)
theorem Flw.shut (hA : Arcs1 n na s t fr tt) (h : Flw n na s t fr tt cap 1 f v) {S : Nat → Bool} (hs : S s = true) (ht : S t = false) : v = cpc na fr tt cap S ↔ ShutR na fr tt cap f S := by
  rw [(h.cut hA hs ht).2]
  refine ⟨fun h1 i hi => ⟨fun q1 q2 => ?_, fun q1 q2 => ?_⟩, fun h1 i hi => ⟨fun q1 q2 => ?_, fun q1 q2 => ?_⟩⟩
  · cases e : S (tt i) with
    | true => rfl
    | false => have := (h1 i hi).1 q1 e; omega
  · cases e : S (fr i) with
    | true => rfl
    | false => have := (h1 i hi).2 e q1; omega
  · have b := h.bd i hi
    rcases Int.lt_or_le (f i) (cap i) with h2 | h2
    · have := (h1 i hi).1 q1 h2; rw [q2] at this; cases this
    · omega
  · have b := h.bd i hi
    rcases Int.lt_or_le 0 (f i) with h2 | h2
    · have := (h1 i hi).2 q2 h2; rw [q1] at this; cases this
    · omega
/-- No flow is greater. -/
theorem Flw.greatest (hA : Arcs1 n na s t fr tt) (h : Flw n na s t fr tt cap 1 f v) {S : Nat → Bool} (hs : S s = true) (ht : S t = false) (hS : ShutR na fr tt cap f S) {g : Nat → Int} {x : Int} (hg : Flw n na s t fr tt cap 1 g x) : x ≤ v := by
  rw [(h.shut hA hs ht).2 hS]
  exact (hg.cut hA hs ht).1
end
end Go.KL
end

section
/- Arcs and flows in memory, as views. -/
namespace Go.KL
open Go.Proofs
def ag (A : Nat → Ac) (i j : Nat) : Value := match j with
  | 0 => .int .i64 (A i).1
  | 1 => .int .i64 (A i).2.1
  | 2 => .int .i64 (A i).2.2.1
  | _ => .int .i64 (A i).2.2.2
abbrev SlA (C : World → Prop) (v : Value) (na : Nat) (A : Nat → Ac) : Prop := SlV C v na 4 (ag A)
abbrev frN (A : Nat → Ac) (i : Nat) : Nat := (A i).1.toNat
abbrev ttN (A : Nat → Ac) (i : Nat) : Nat := (A i).2.1.toNat
abbrev capN (A : Nat → Ac) (i : Nat) : Int := (A i).2.2.1
abbrev cstN (A : Nat → Ac) (i : Nat) : Int := (A i).2.2.2
section
variable {C : World → Prop} {v : Value} {na : Nat} {A : Nat → Ac}
theorem SlA.open (h : SlA C v na A) : ∃ pa c, v = .slice pa na c ∧ na ≤ c ∧ (0 < na → ∃ b o, pa = some ⟨b, o, none⟩ ∧
    (∀ i, i < na → CellsAre C ⟨b, o + i * 4, none⟩ [.int .i64 (A i).1, .int .i64 (A i).2.1, .int .i64 (A i).2.2.1, .int .i64 (A i).2.2.2]) ∧
    (∀ i, i < na → CellIs C ⟨b, o + i * 4, none⟩ (.int .i64 (A i).1)) ∧ (∀ i, i < na → CellIs C ⟨b, o + i * 4 + 1, none⟩ (.int .i64 (A i).2.1)) ∧
    (∀ i, i < na → CellIs C ⟨b, o + i * 4 + 2, none⟩ (.int .i64 (A i).2.2.1)) ∧ (∀ i, i < na → CellIs C ⟨b, o + i * 4 + 3, none⟩ (.int .i64 (A i).2.2.2))) := by
  obtain ⟨pa, c, h1, h0, h2⟩ := SlV.cells h
  refine ⟨pa, c, h1, h0, fun hn => ?_⟩
  obtain ⟨b, o, h3, h4, h5⟩ := h2 hn
  exact ⟨b, o, h3, h4, fun i hi => h5 0 (by omega) i hi, fun i hi => h5 1 (by omega) i hi, fun i hi => h5 2 (by omega) i hi, fun i hi => h5 3 (by omega) i hi⟩
theorem SlA.arcsV (h : SlA C v na A) : ArcsV C v na A := by
  obtain ⟨pa, c, h1, _, h2⟩ := h.open
  refine ⟨pa, c, h1, fun i hi => ?_⟩
  obtain ⟨b, o, h3, h4, _⟩ := h2 (by omega)
  exact ⟨b, o, h3, h4 i hi⟩
end
theorem more_upd (fr tt : Nat → Nat) (f : Nat → Int) (i : Nat) (hne : fr i ≠ tt i) : upd (upd (fun u => more fr tt f i u) (fr i) (more fr tt f i (fr i) + f i)) (tt i) (upd (fun u => more fr tt f i u) (fr i) (more fr tt f i (fr i) + f i) (tt i) - f i) = fun u => more fr tt f (i + 1) u := by
  funext u
  rw [upd_ne _ _ (fun e => hne e.symm), more_succ]
  simp only [upd]
  by_cases e1 : u = tt i
  · subst e1
    simp only [if_true, if_neg hne]; omega
  · by_cases e2 : u = fr i
    · subst e2
      have e3 : ¬ tt i = fr i := fun e => hne e.symm
      simp only [if_neg e1, if_neg e3, if_true]; omega
    · have e3 : ¬ fr i = u := fun e => e2 e.symm
      have e4 : ¬ tt i = u := fun e => e1 e.symm
      simp only [if_neg e1, if_neg e2, if_neg e3, if_neg e4]; omega
theorem more_bd (fr tt : Nat → Nat) (f : Nat → Int) (B : Int) (hB : 0 ≤ B) : ∀ (i : Nat), (∀ j, j < i → 0 ≤ f j ∧ f j ≤ B) → ∀ u, -(i * B) ≤ more fr tt f i u ∧ more fr tt f i u ≤ i * B := by
  intro i
  induction i with
  | zero => intro _ u; simp [more, sm]
  | succ i ih =>
    intro h u
    have h1 := ih (fun j hj => h j (by omega)) u
    have h2 := h i (by omega)
    have h3 : ((i + 1 : Nat) : Int) * B = i * B + B := by rw [Int.natCast_succ, Int.add_mul, Int.one_mul]
    rw [more_succ, h3]
    split <;> split <;> omega
/-- A list of numbers that is a flow, but for its value. -/
structure FlOK (n na : Nat) (A : Nat → Ac) (s t m : Nat) (f : Nat → Int) : Prop where
  len : m = na
  bd : ∀ i, i < na → 0 ≤ f i ∧ f i ≤ capN A i
  mid : ∀ u, u < n → u ≠ s → u ≠ t → more (frN A) (ttN A) f na u = 0
theorem NetOK.nats {n s t : Int} {na : Nat} {A : Nat → Ac} (h : NetOK n na A s t) : ∃ n' s' t' : Nat, n = n' ∧ s = s' ∧ t = t' := by
  have := h.hn; have := h.hs; have := h.ht
  exact ⟨n.toNat, s.toNat, t.toNat, by omega, by omega, by omega⟩
theorem NetOK.arcs1 {n na s t : Nat} {A : Nat → Ac} (h : NetOK n na A s t) : Arcs1 n na s t (frN A) (ttN A) := by
  have := h.hn; have := h.hs; have := h.ht; have := h.ne
  refine ⟨fun i hi => ?_, fun i hi => ?_, by omega, by omega, by omega⟩
  · have := (h.arc i hi).1; simp only [frN]; omega
  · have := (h.arc i hi).2.1; simp only [ttN]; omega
theorem ints_congr' {e : TypeId} {n : Nat} {f g : Nat → Int} {rest : List Value} (h : ∀ u, u < n → f u = g u) : ints e n f rest = ints e n g rest := by
  unfold ints arr
  congr 2
  apply List.map_congr_left
  intro u hu
  rw [h u (by simpa using hu)]
theorem bools_congr' {e : TypeId} {n : Nat} {f g : Nat → Bool} {rest : List Value} (h : ∀ u, u < n → f u = g u) : bools e n f rest = bools e n g rest := by
  unfold bools arr
  congr 2
  apply List.map_congr_left
  intro u hu
  rw [h u (by simpa using hu)]
/-- Pairs. -/
abbrev Pr := Int × Int
def pg (Q : Nat → Pr) (i j : Nat) : Value := match j with
  | 0 => .int .i64 (Q i).1
  | _ => .int .i64 (Q i).2
abbrev SlP (C : World → Prop) (v : Value) (m : Nat) (Q : Nat → Pr) : Prop := SlV C v m 2 (pg Q)
theorem SlP.open {C : World → Prop} {v : Value} {m : Nat} {Q : Nat → Pr} (h : SlP C v m Q) : ∃ pa c, v = .slice pa m c ∧ m ≤ c ∧ (0 < m → ∃ b o, pa = some ⟨b, o, none⟩ ∧
    (∀ i, i < m → CellsAre C ⟨b, o + i * 2, none⟩ [.int .i64 (Q i).1, .int .i64 (Q i).2]) ∧
    (∀ i, i < m → CellIs C ⟨b, o + i * 2, none⟩ (.int .i64 (Q i).1)) ∧ (∀ i, i < m → CellIs C ⟨b, o + i * 2 + 1, none⟩ (.int .i64 (Q i).2))) := by
  obtain ⟨pa, c, h1, h0, h2⟩ := SlV.cells h
  refine ⟨pa, c, h1, h0, fun hn => ?_⟩
  obtain ⟨b, o, h3, h4, h5⟩ := h2 hn
  exact ⟨b, o, h3, h4, fun i hi => h5 0 (by omega) i hi, fun i hi => h5 1 (by omega) i hi⟩
end Go.KL
end

section
/- Walks: ref.Valid. -/
namespace Go.KL
open Go.Proofs
attribute [local irreducible] SC St Fin Sq Sw Ylds Doos Sets Enters Spec CellIs CellsAre Then Ret Rnd Chn resOK ints bools recs arr
open Classical in
set_option maxHeartbeats 4000000 in
theorem rvalid_spec (W : World) (Ls : List Chunk) (n s t : Int) (va : Value) (na : Nat) (A : Nat → Ac) (hA : ArcsV (K W Ls) va na A) (hna : na ≤ 1000000000) :
    Spec Try.prog 44 #[.int .i64 n, va, .int .i64 s, .int .i64 t] (K W Ls) (fun _ : Unit => .bool (decide (NetOK n na A s t))) (fun _ => K W Ls) := by
  obtain ⟨pa, ca, rfl, hcells⟩ := hA
  refine enter (args := [_, _, _, _]) Try.func44 rfl Try.ntmps44 rfl ?_
  refine c_seq ?_
  refine c_region ?_
  refine s_y (y_assign rfl) rfl rfl rfl ?_
  refine s_nil ?_
  refine f_then ?_
  refine c_seq ?_
  refine c_chain 44 (decide (n < 2 ∨ 128 < n ∨ 1024 < na ∨ s < 0 ∨ n ≤ s ∨ t < 0 ∨ n ≤ t ∨ s = t)) ?_ ?_
  · refine c_region ?_
    refine s_y (y_move rfl) rfl rfl rfl ?_
    refine s_y (y_lss rfl rfl) rfl rfl rfl ?_
    refine s_y (y_move rfl) rfl rfl rfl ?_
    refine s_case 13 rfl (fun c0 => ?_) (fun c0 => ?_)
    · refine s_skip rfl rfl rfl ?_
      refine s_skip rfl rfl rfl ?_
      refine s_y (y_pickT rfl rfl) rfl rfl rfl ?_
      refine s_y (y_move rfl) rfl rfl rfl ?_
      iterate 3 refine s_skip rfl rfl rfl ?_
      refine s_y (y_pickT rfl rfl) rfl rfl rfl ?_
      refine s_y (y_move rfl) rfl rfl rfl ?_
      iterate 2 refine s_skip rfl rfl rfl ?_
      refine s_y (y_pickT rfl rfl) rfl rfl rfl ?_
      refine s_y (y_move rfl) rfl rfl rfl ?_
      iterate 3 refine s_skip rfl rfl rfl ?_
      refine s_y (y_pickT rfl rfl) rfl rfl rfl ?_
      refine s_y (y_move rfl) rfl rfl rfl ?_
      iterate 2 refine s_skip rfl rfl rfl ?_
      refine s_y (y_pickT rfl rfl) rfl rfl rfl ?_
      refine s_y (y_move rfl) rfl rfl rfl ?_
      iterate 3 refine s_skip rfl rfl rfl ?_
      refine s_y (y_pickT rfl rfl) rfl rfl rfl ?_
      refine s_y (y_move rfl) rfl rfl rfl ?_
      iterate 3 refine s_skip rfl rfl rfl ?_
      refine s_y (y_pickT rfl rfl) rfl rfl rfl ?_
      refine s_nil ?_
      exact f_chain rfl ((decide_eq_true (by omega)).symm) ⟨rfl, rfl, rfl, rfl, rfl, trivial⟩
    · refine s_y (y_move rfl) rfl rfl rfl ?_
      refine s_y (y_gtr rfl rfl) rfl rfl rfl ?_
      refine s_y (y_pickF rfl rfl) rfl rfl rfl ?_
      refine s_y (y_move rfl) rfl rfl rfl ?_
      refine s_case 17 rfl (fun c1 => ?_) (fun c1 => ?_)
      · refine s_skip rfl rfl rfl ?_
        iterate 2 refine s_skip rfl rfl rfl ?_
        refine s_y (y_pickT rfl rfl) rfl rfl rfl ?_
        refine s_y (y_move rfl) rfl rfl rfl ?_
        iterate 2 refine s_skip rfl rfl rfl ?_
        refine s_y (y_pickT rfl rfl) rfl rfl rfl ?_
        refine s_y (y_move rfl) rfl rfl rfl ?_
        iterate 3 refine s_skip rfl rfl rfl ?_
        refine s_y (y_pickT rfl rfl) rfl rfl rfl ?_
        refine s_y (y_move rfl) rfl rfl rfl ?_
        iterate 2 refine s_skip rfl rfl rfl ?_
        refine s_y (y_pickT rfl rfl) rfl rfl rfl ?_
        refine s_y (y_move rfl) rfl rfl rfl ?_
        iterate 3 refine s_skip rfl rfl rfl ?_
        refine s_y (y_pickT rfl rfl) rfl rfl rfl ?_
        refine s_y (y_move rfl) rfl rfl rfl ?_
        iterate 3 refine s_skip rfl rfl rfl ?_
        refine s_y (y_pickT rfl rfl) rfl rfl rfl ?_
        refine s_nil ?_
        exact f_chain rfl ((decide_eq_true (by omega)).symm) ⟨rfl, rfl, rfl, rfl, rfl, trivial⟩
      · refine s_y (y_move rfl) rfl rfl rfl ?_
        refine s_y (y_len Try.tab rfl rfl) rfl rfl rfl ?_
        refine s_y (y_gtr rfl rfl) rfl rfl rfl ?_
        refine s_y (y_pickF rfl rfl) rfl rfl rfl ?_
        refine s_y (y_move rfl) rfl rfl rfl ?_
        refine s_case 22 rfl (fun c2 => ?_) (fun c2 => ?_)
        · refine s_skip rfl rfl rfl ?_
          refine s_skip rfl rfl rfl ?_
          refine s_y (y_pickT rfl rfl) rfl rfl rfl ?_
          refine s_y (y_move rfl) rfl rfl rfl ?_
          iterate 3 refine s_skip rfl rfl rfl ?_
          refine s_y (y_pickT rfl rfl) rfl rfl rfl ?_
          refine s_y (y_move rfl) rfl rfl rfl ?_
          iterate 2 refine s_skip rfl rfl rfl ?_
          refine s_y (y_pickT rfl rfl) rfl rfl rfl ?_
          refine s_y (y_move rfl) rfl rfl rfl ?_
          iterate 3 refine s_skip rfl rfl rfl ?_
          refine s_y (y_pickT rfl rfl) rfl rfl rfl ?_
          refine s_y (y_move rfl) rfl rfl rfl ?_
          iterate 3 refine s_skip rfl rfl rfl ?_
          refine s_y (y_pickT rfl rfl) rfl rfl rfl ?_
          refine s_nil ?_
          exact f_chain rfl ((decide_eq_true (by omega)).symm) ⟨rfl, rfl, rfl, rfl, rfl, trivial⟩
        · refine s_y (y_move rfl) rfl rfl rfl ?_
          refine s_y (y_lss rfl rfl) rfl rfl rfl ?_
          refine s_y (y_pickF rfl rfl) rfl rfl rfl ?_
          refine s_y (y_move rfl) rfl rfl rfl ?_
          refine s_case 26 rfl (fun c3 => ?_) (fun c3 => ?_)
          · refine s_skip rfl rfl rfl ?_
            iterate 2 refine s_skip rfl rfl rfl ?_
            refine s_y (y_pickT rfl rfl) rfl rfl rfl ?_
            refine s_y (y_move rfl) rfl rfl rfl ?_
            iterate 2 refine s_skip rfl rfl rfl ?_
            refine s_y (y_pickT rfl rfl) rfl rfl rfl ?_
            refine s_y (y_move rfl) rfl rfl rfl ?_
            iterate 3 refine s_skip rfl rfl rfl ?_
            refine s_y (y_pickT rfl rfl) rfl rfl rfl ?_
            refine s_y (y_move rfl) rfl rfl rfl ?_
            iterate 3 refine s_skip rfl rfl rfl ?_
            refine s_y (y_pickT rfl rfl) rfl rfl rfl ?_
            refine s_nil ?_
            exact f_chain rfl ((decide_eq_true (by omega)).symm) ⟨rfl, rfl, rfl, rfl, rfl, trivial⟩
          · refine s_y (y_move rfl) rfl rfl rfl ?_
            refine s_y (y_move rfl) rfl rfl rfl ?_
            refine s_y (y_geq rfl rfl) rfl rfl rfl ?_
            refine s_y (y_pickF rfl rfl) rfl rfl rfl ?_
            refine s_y (y_move rfl) rfl rfl rfl ?_
            refine s_case 31 rfl (fun c4 => ?_) (fun c4 => ?_)
            · refine s_skip rfl rfl rfl ?_
              refine s_skip rfl rfl rfl ?_
              refine s_y (y_pickT rfl rfl) rfl rfl rfl ?_
              refine s_y (y_move rfl) rfl rfl rfl ?_
              iterate 3 refine s_skip rfl rfl rfl ?_
              refine s_y (y_pickT rfl rfl) rfl rfl rfl ?_
              refine s_y (y_move rfl) rfl rfl rfl ?_
              iterate 3 refine s_skip rfl rfl rfl ?_
              refine s_y (y_pickT rfl rfl) rfl rfl rfl ?_
              refine s_nil ?_
              exact f_chain rfl ((decide_eq_true (by omega)).symm) ⟨rfl, rfl, rfl, rfl, rfl, trivial⟩
            · refine s_y (y_move rfl) rfl rfl rfl ?_
              refine s_y (y_lss rfl rfl) rfl rfl rfl ?_
              refine s_y (y_pickF rfl rfl) rfl rfl rfl ?_
              refine s_y (y_move rfl) rfl rfl rfl ?_
              refine s_case 35 rfl (fun c5 => ?_) (fun c5 => ?_)
              · refine s_skip rfl rfl rfl ?_
                iterate 2 refine s_skip rfl rfl rfl ?_
                refine s_y (y_pickT rfl rfl) rfl rfl rfl ?_
                refine s_y (y_move rfl) rfl rfl rfl ?_
                iterate 3 refine s_skip rfl rfl rfl ?_
                refine s_y (y_pickT rfl rfl) rfl rfl rfl ?_
                refine s_nil ?_
                exact f_chain rfl ((decide_eq_true (by omega)).symm) ⟨rfl, rfl, rfl, rfl, rfl, trivial⟩
              · refine s_y (y_move rfl) rfl rfl rfl ?_
                refine s_y (y_move rfl) rfl rfl rfl ?_
                refine s_y (y_geq rfl rfl) rfl rfl rfl ?_
                refine s_y (y_pickF rfl rfl) rfl rfl rfl ?_
                refine s_y (y_move rfl) rfl rfl rfl ?_
                refine s_case 40 rfl (fun c6 => ?_) (fun c6 => ?_)
                · refine s_skip rfl rfl rfl ?_
                  iterate 2 refine s_skip rfl rfl rfl ?_
                  refine s_y (y_pickT rfl rfl) rfl rfl rfl ?_
                  refine s_nil ?_
                  exact f_chain rfl ((decide_eq_true (by omega)).symm) ⟨rfl, rfl, rfl, rfl, rfl, trivial⟩
                · refine s_y (y_move rfl) rfl rfl rfl ?_
                  refine s_y (y_move rfl) rfl rfl rfl ?_
                  refine s_y (y_eql rfl rfl) rfl rfl rfl ?_
                  refine s_y (y_pickF rfl rfl) rfl rfl rfl ?_
                  refine s_nil ?_
                  exact f_chain rfl (decide_eq_decide.2 (by omega)) ⟨rfl, rfl, rfl, rfl, rfl, trivial⟩
  refine c_condD rfl (fun hT => ?_) (fun hF => ?_)
  · refine c_seq ?_
    refine c_region ?_
    refine s_y (y_assign rfl) rfl rfl rfl ?_
    refine s_nil ?_
    refine f_then ?_
    refine c_ret ?_
    refine f_thenR ?_
    exact f_retE () (res1 rfl rfl) (by rw [decide_eq_false fun h => ?_]; obtain ⟨h1, h2, h3, h4, h5, _⟩ := h; omega) (fun w h => h)
  refine c_skip ?_
  refine f_then ?_
  refine c_seq ?_
  refine c_seq ?_
  refine c_region ?_
  refine s_y (y_assign rfl) rfl rfl rfl ?_
  refine s_nil ?_
  refine f_then ?_
  refine c_block ?_
  refine c_loopP (α := Nat) (fun z => [(0, .int .i64 n), (1, .slice pa na ca), (9, .int .i64 z)]) (fun z => z ≤ na ∧ ∀ i, i < z → ArcOK n (A i)) (fun _ => K W Ls) (fun z => na - z) 0
    ⟨rfl, rfl, rfl, trivial⟩ ⟨Nat.zero_le _, fun i hi => absurd hi (Nat.not_lt_zero i)⟩ (fun w h => h) ?_
  rintro i ⟨hi, hok⟩
  refine c_seq ?_
  refine c_seq ?_
  refine c_region ?_
  refine s_y (y_move rfl) rfl rfl rfl ?_
  refine s_y (y_move rfl) rfl rfl rfl ?_
  refine s_y (y_len Try.tab rfl rfl) rfl rfl rfl ?_
  refine s_y (y_lss rfl rfl) rfl rfl rfl ?_
  refine s_nil ?_
  refine f_then ?_
  refine c_condD rfl (fun hlt => ?_) (fun hge => ?_)
  rotate_left
  · refine c_exit ?_
    refine f_thenE ?_
    refine f_rndE ?_
    refine f_blockE ?_
    refine f_then ?_
    refine c_seq ?_
    refine c_region ?_
    refine s_y (y_assign rfl) rfl rfl rfl ?_
    refine s_nil ?_
    refine f_then ?_
    refine c_ret ?_
    exact f_retE () (res1 rfl rfl) (by rw [decide_eq_true ⟨by omega, by omega, by omega, by omega, by omega, fun j hj => hok j (by omega)⟩]) (fun w h => h)
  have hin : i < na := by omega
  obtain ⟨b, o, rfl, hc⟩ := hcells i hin
  have hex : ac4 (A i) = [.int .i64 (A i).1, .int .i64 (A i).2.1, .int .i64 (A i).2.2.1, .int .i64 (A i).2.2.2] := rfl
  rw [hex] at hc
  have hno : ¬ ArcOK n (A i) → ¬ NetOK n na A s t := fun h1 h2 => h1 (h2.arc i hin)
  have hni : ∀ x, A i = x → ArcOK n x → ∀ j, j < i + 1 → ArcOK n (A j) := fun x h1 h2 j hj => by
    by_cases e : j = i
    · rw [e, h1]; exact h2
    · exact hok j (by omega)
  generalize hx : A i = x at hc hno
  obtain ⟨xf, xt, xc, xw⟩ := x
  dsimp only at hc hno
  refine c_skip ?_
  refine f_then ?_
  refine c_seq ?_
  refine c_block ?_
  refine c_seq ?_
  refine c_region ?_
  refine s_y (y_move rfl) rfl rfl rfl ?_
  refine s_y (y_move rfl) rfl rfl rfl ?_
  refine s_y (y_indexAddr (s := 4) Try.tab rfl rfl rfl rfl _ rfl (by omega)) rfl rfl rfl ?_
  refine s_y (y_loadA Try.tab rfl rfl rfl rfl (by assumption)) rfl rfl rfl ?_
  refine s_do (do_alloc Try.tab rfl) rfl rfl rfl (fun b10 => ?_)
  refine s_set (set_box Try.tab 0 rfl rfl rfl rfl rfl rfl rfl) rfl rfl ?_
  refine s_nil ?_
  refine f_then ?_
  refine c_chain 101 (decide (xf < 0 ∨ n ≤ xf ∨ xt < 0 ∨ n ≤ xt ∨ xf = xt ∨ xc < 0 ∨ 1073741824 < xc ∨ xw < 0 ∨ 1048576 < xw)) ?_ ?_
  · refine c_region ?_
    refine s_y (y_fieldAddr0 Try.tab rfl rfl rfl rfl rfl) rfl rfl rfl ?_
    refine s_y (y_load Try.tab rfl rfl (cell_row 0 rfl rfl)) rfl rfl rfl ?_
    refine s_y (y_lss rfl rfl) rfl rfl rfl ?_
    refine s_y (y_move rfl) rfl rfl rfl ?_
    refine s_case 58 rfl (fun c0 => ?_) (fun c0 => ?_)
    · refine s_skip rfl rfl rfl ?_
      iterate 3 refine s_skip rfl rfl rfl ?_
      refine s_y (y_pickT rfl rfl) rfl rfl rfl ?_
      refine s_y (y_move rfl) rfl rfl rfl ?_
      iterate 3 refine s_skip rfl rfl rfl ?_
      refine s_y (y_pickT rfl rfl) rfl rfl rfl ?_
      refine s_y (y_move rfl) rfl rfl rfl ?_
      iterate 4 refine s_skip rfl rfl rfl ?_
      refine s_y (y_pickT rfl rfl) rfl rfl rfl ?_
      refine s_y (y_move rfl) rfl rfl rfl ?_
      iterate 5 refine s_skip rfl rfl rfl ?_
      refine s_y (y_pickT rfl rfl) rfl rfl rfl ?_
      refine s_y (y_move rfl) rfl rfl rfl ?_
      iterate 3 refine s_skip rfl rfl rfl ?_
      refine s_y (y_pickT rfl rfl) rfl rfl rfl ?_
      refine s_y (y_move rfl) rfl rfl rfl ?_
      iterate 3 refine s_skip rfl rfl rfl ?_
      refine s_y (y_pickT rfl rfl) rfl rfl rfl ?_
      refine s_y (y_move rfl) rfl rfl rfl ?_
      iterate 3 refine s_skip rfl rfl rfl ?_
      refine s_y (y_pickT rfl rfl) rfl rfl rfl ?_
      refine s_y (y_move rfl) rfl rfl rfl ?_
      iterate 3 refine s_skip rfl rfl rfl ?_
      refine s_y (y_pickT rfl rfl) rfl rfl rfl ?_
      refine s_nil ?_
      exact f_chain rfl ((decide_eq_true (by omega)).symm) ⟨rfl, rfl, rfl, rfl, rfl, rfl, rfl, rfl, rfl, rfl, rfl, rfl, trivial⟩
    · refine s_y (y_fieldAddr0 Try.tab rfl rfl rfl rfl rfl) rfl rfl rfl ?_
      refine s_y (y_load Try.tab rfl rfl (cell_row 0 rfl rfl)) rfl rfl rfl ?_
      refine s_y (y_move rfl) rfl rfl rfl ?_
      refine s_y (y_geq rfl rfl) rfl rfl rfl ?_
      refine s_y (y_pickF rfl rfl) rfl rfl rfl ?_
      refine s_y (y_move rfl) rfl rfl rfl ?_
      refine s_case 64 rfl (fun c1 => ?_) (fun c1 => ?_)
      · refine s_skip rfl rfl rfl ?_
        iterate 2 refine s_skip rfl rfl rfl ?_
        refine s_y (y_pickT rfl rfl) rfl rfl rfl ?_
        refine s_y (y_move rfl) rfl rfl rfl ?_
        iterate 4 refine s_skip rfl rfl rfl ?_
        refine s_y (y_pickT rfl rfl) rfl rfl rfl ?_
        refine s_y (y_move rfl) rfl rfl rfl ?_
        iterate 5 refine s_skip rfl rfl rfl ?_
        refine s_y (y_pickT rfl rfl) rfl rfl rfl ?_
        refine s_y (y_move rfl) rfl rfl rfl ?_
        iterate 3 refine s_skip rfl rfl rfl ?_
        refine s_y (y_pickT rfl rfl) rfl rfl rfl ?_
        refine s_y (y_move rfl) rfl rfl rfl ?_
        iterate 3 refine s_skip rfl rfl rfl ?_
        refine s_y (y_pickT rfl rfl) rfl rfl rfl ?_
        refine s_y (y_move rfl) rfl rfl rfl ?_
        iterate 3 refine s_skip rfl rfl rfl ?_
        refine s_y (y_pickT rfl rfl) rfl rfl rfl ?_
        refine s_y (y_move rfl) rfl rfl rfl ?_
        iterate 3 refine s_skip rfl rfl rfl ?_
        refine s_y (y_pickT rfl rfl) rfl rfl rfl ?_
        refine s_nil ?_
        exact f_chain rfl ((decide_eq_true (by omega)).symm) ⟨rfl, rfl, rfl, rfl, rfl, rfl, rfl, rfl, rfl, rfl, rfl, rfl, trivial⟩
      · refine s_y (y_fieldAddrB Try.tab 1 rfl rfl rfl rfl rfl) rfl rfl rfl ?_
        refine s_y (y_load Try.tab rfl rfl (cell_row 0 rfl rfl)) rfl rfl rfl ?_
        refine s_y (y_lss rfl rfl) rfl rfl rfl ?_
        refine s_y (y_pickF rfl rfl) rfl rfl rfl ?_
        refine s_y (y_move rfl) rfl rfl rfl ?_
        refine s_case 69 rfl (fun c2 => ?_) (fun c2 => ?_)
        · refine s_skip rfl rfl rfl ?_
          iterate 3 refine s_skip rfl rfl rfl ?_
          refine s_y (y_pickT rfl rfl) rfl rfl rfl ?_
          refine s_y (y_move rfl) rfl rfl rfl ?_
          iterate 5 refine s_skip rfl rfl rfl ?_
          refine s_y (y_pickT rfl rfl) rfl rfl rfl ?_
          refine s_y (y_move rfl) rfl rfl rfl ?_
          iterate 3 refine s_skip rfl rfl rfl ?_
          refine s_y (y_pickT rfl rfl) rfl rfl rfl ?_
          refine s_y (y_move rfl) rfl rfl rfl ?_
          iterate 3 refine s_skip rfl rfl rfl ?_
          refine s_y (y_pickT rfl rfl) rfl rfl rfl ?_
          refine s_y (y_move rfl) rfl rfl rfl ?_
          iterate 3 refine s_skip rfl rfl rfl ?_
          refine s_y (y_pickT rfl rfl) rfl rfl rfl ?_
          refine s_y (y_move rfl) rfl rfl rfl ?_
          iterate 3 refine s_skip rfl rfl rfl ?_
          refine s_y (y_pickT rfl rfl) rfl rfl rfl ?_
          refine s_nil ?_
          exact f_chain rfl ((decide_eq_true (by omega)).symm) ⟨rfl, rfl, rfl, rfl, rfl, rfl, rfl, rfl, rfl, rfl, rfl, rfl, trivial⟩
        · refine s_y (y_fieldAddrB Try.tab 1 rfl rfl rfl rfl rfl) rfl rfl rfl ?_
          refine s_y (y_load Try.tab rfl rfl (cell_row 0 rfl rfl)) rfl rfl rfl ?_
          refine s_y (y_move rfl) rfl rfl rfl ?_
          refine s_y (y_geq rfl rfl) rfl rfl rfl ?_
          refine s_y (y_pickF rfl rfl) rfl rfl rfl ?_
          refine s_y (y_move rfl) rfl rfl rfl ?_
          refine s_case 75 rfl (fun c3 => ?_) (fun c3 => ?_)
          · refine s_skip rfl rfl rfl ?_
            iterate 4 refine s_skip rfl rfl rfl ?_
            refine s_y (y_pickT rfl rfl) rfl rfl rfl ?_
            refine s_y (y_move rfl) rfl rfl rfl ?_
            iterate 3 refine s_skip rfl rfl rfl ?_
            refine s_y (y_pickT rfl rfl) rfl rfl rfl ?_
            refine s_y (y_move rfl) rfl rfl rfl ?_
            iterate 3 refine s_skip rfl rfl rfl ?_
            refine s_y (y_pickT rfl rfl) rfl rfl rfl ?_
            refine s_y (y_move rfl) rfl rfl rfl ?_
            iterate 3 refine s_skip rfl rfl rfl ?_
            refine s_y (y_pickT rfl rfl) rfl rfl rfl ?_
            refine s_y (y_move rfl) rfl rfl rfl ?_
            iterate 3 refine s_skip rfl rfl rfl ?_
            refine s_y (y_pickT rfl rfl) rfl rfl rfl ?_
            refine s_nil ?_
            exact f_chain rfl ((decide_eq_true (by omega)).symm) ⟨rfl, rfl, rfl, rfl, rfl, rfl, rfl, rfl, rfl, rfl, rfl, rfl, trivial⟩
          · refine s_y (y_fieldAddr0 Try.tab rfl rfl rfl rfl rfl) rfl rfl rfl ?_
            refine s_y (y_load Try.tab rfl rfl (cell_row 0 rfl rfl)) rfl rfl rfl ?_
            refine s_y (y_fieldAddrB Try.tab 1 rfl rfl rfl rfl rfl) rfl rfl rfl ?_
            refine s_y (y_load Try.tab rfl rfl (cell_row 0 rfl rfl)) rfl rfl rfl ?_
            refine s_y (y_eql rfl rfl) rfl rfl rfl ?_
            refine s_y (y_pickF rfl rfl) rfl rfl rfl ?_
            refine s_y (y_move rfl) rfl rfl rfl ?_
            refine s_case 82 rfl (fun c4 => ?_) (fun c4 => ?_)
            · refine s_skip rfl rfl rfl ?_
              iterate 2 refine s_skip rfl rfl rfl ?_
              refine s_y (y_pickT rfl rfl) rfl rfl rfl ?_
              refine s_y (y_move rfl) rfl rfl rfl ?_
              iterate 3 refine s_skip rfl rfl rfl ?_
              refine s_y (y_pickT rfl rfl) rfl rfl rfl ?_
              refine s_y (y_move rfl) rfl rfl rfl ?_
              iterate 3 refine s_skip rfl rfl rfl ?_
              refine s_y (y_pickT rfl rfl) rfl rfl rfl ?_
              refine s_y (y_move rfl) rfl rfl rfl ?_
              iterate 3 refine s_skip rfl rfl rfl ?_
              refine s_y (y_pickT rfl rfl) rfl rfl rfl ?_
              refine s_nil ?_
              exact f_chain rfl ((decide_eq_true (by omega)).symm) ⟨rfl, rfl, rfl, rfl, rfl, rfl, rfl, rfl, rfl, rfl, rfl, rfl, trivial⟩
            · refine s_y (y_fieldAddrB Try.tab 2 rfl rfl rfl rfl rfl) rfl rfl rfl ?_
              refine s_y (y_load Try.tab rfl rfl (cell_row 0 rfl rfl)) rfl rfl rfl ?_
              refine s_y (y_lss rfl rfl) rfl rfl rfl ?_
              refine s_y (y_pickF rfl rfl) rfl rfl rfl ?_
              refine s_y (y_move rfl) rfl rfl rfl ?_
              refine s_case 87 rfl (fun c5 => ?_) (fun c5 => ?_)
              · refine s_skip rfl rfl rfl ?_
                iterate 2 refine s_skip rfl rfl rfl ?_
                refine s_y (y_pickT rfl rfl) rfl rfl rfl ?_
                refine s_y (y_move rfl) rfl rfl rfl ?_
                iterate 3 refine s_skip rfl rfl rfl ?_
                refine s_y (y_pickT rfl rfl) rfl rfl rfl ?_
                refine s_y (y_move rfl) rfl rfl rfl ?_
                iterate 3 refine s_skip rfl rfl rfl ?_
                refine s_y (y_pickT rfl rfl) rfl rfl rfl ?_
                refine s_nil ?_
                exact f_chain rfl ((decide_eq_true (by omega)).symm) ⟨rfl, rfl, rfl, rfl, rfl, rfl, rfl, rfl, rfl, rfl, rfl, rfl, trivial⟩
              · refine s_y (y_fieldAddrB Try.tab 2 rfl rfl rfl rfl rfl) rfl rfl rfl ?_
                refine s_y (y_load Try.tab rfl rfl (cell_row 0 rfl rfl)) rfl rfl rfl ?_
                refine s_y (y_gtr rfl rfl) rfl rfl rfl ?_
                refine s_y (y_pickF rfl rfl) rfl rfl rfl ?_
                refine s_y (y_move rfl) rfl rfl rfl ?_
                refine s_case 92 rfl (fun c6 => ?_) (fun c6 => ?_)
                · refine s_skip rfl rfl rfl ?_
                  iterate 2 refine s_skip rfl rfl rfl ?_
                  refine s_y (y_pickT rfl rfl) rfl rfl rfl ?_
                  refine s_y (y_move rfl) rfl rfl rfl ?_
                  iterate 3 refine s_skip rfl rfl rfl ?_
                  refine s_y (y_pickT rfl rfl) rfl rfl rfl ?_
                  refine s_nil ?_
                  exact f_chain rfl ((decide_eq_true (by omega)).symm) ⟨rfl, rfl, rfl, rfl, rfl, rfl, rfl, rfl, rfl, rfl, rfl, rfl, trivial⟩
                · refine s_y (y_fieldAddrB Try.tab 3 rfl rfl rfl rfl rfl) rfl rfl rfl ?_
                  refine s_y (y_load Try.tab rfl rfl (cell_row 0 rfl rfl)) rfl rfl rfl ?_
                  refine s_y (y_lss rfl rfl) rfl rfl rfl ?_
                  refine s_y (y_pickF rfl rfl) rfl rfl rfl ?_
                  refine s_y (y_move rfl) rfl rfl rfl ?_
                  refine s_case 97 rfl (fun c7 => ?_) (fun c7 => ?_)
                  · refine s_skip rfl rfl rfl ?_
                    iterate 2 refine s_skip rfl rfl rfl ?_
                    refine s_y (y_pickT rfl rfl) rfl rfl rfl ?_
                    refine s_nil ?_
                    exact f_chain rfl ((decide_eq_true (by omega)).symm) ⟨rfl, rfl, rfl, rfl, rfl, rfl, rfl, rfl, rfl, rfl, rfl, rfl, trivial⟩
                  · refine s_y (y_fieldAddrB Try.tab 3 rfl rfl rfl rfl rfl) rfl rfl rfl ?_
                    refine s_y (y_load Try.tab rfl rfl (cell_row 0 rfl rfl)) rfl rfl rfl ?_
                    refine s_y (y_gtr rfl rfl) rfl rfl rfl ?_
                    refine s_y (y_pickF rfl rfl) rfl rfl rfl ?_
                    refine s_nil ?_
                    exact f_chain rfl (decide_eq_decide.2 (by omega)) ⟨rfl, rfl, rfl, rfl, rfl, rfl, rfl, rfl, rfl, rfl, rfl, rfl, trivial⟩
  refine c_condD rfl (fun hT2 => ?_) (fun hF2 => ?_)
  · refine c_seq ?_
    refine c_region ?_
    refine s_y (y_assign rfl) rfl rfl rfl ?_
    refine s_nil ?_
    refine f_then ?_
    refine c_ret ?_
    refine f_blockR ?_
    refine f_thenR ?_
    refine f_rndR ?_
    refine f_blockR ?_
    refine f_thenR ?_
    exact f_retE () (res1 rfl rfl) (by rw [decide_eq_false (hno fun h => ?_)]; simp only [ArcOK] at h; omega) (fun w h => h.tail)
  refine c_skip ?_
  refine f_blockN ?_
  refine f_then ?_
  refine c_region ?_
  refine s_y (y_move rfl) rfl rfl rfl ?_
  refine s_y (y_add rfl rfl (by omega)) rfl rfl rfl ?_
  refine s_y (y_assign rfl) rfl rfl rfl ?_
  refine s_nil ?_
  exact f_roundP (i + 1) ⟨hin, hni _ hx (by simp only [ArcOK]; omega)⟩ (by omega) ⟨rfl, rfl, rfl, trivial⟩ (fun w h => h.tail)
end Go.KL
end

section
/- Plain lemmas: the nodes that a flow's rest reaches, by rounds over the arcs. No program in sight. -/
namespace Go.KL
/-- The least set that holds s and that the rest does not leave. -/
structure ReachP (n na s : Nat) (fr tt : Nat → Nat) (cap f : Nat → Int) (g : Nat → Bool) : Prop where
  start : g s = true
  lt : ∀ u, g u = true → u < n
  shut : ShutR na fr tt cap f g
  least : ∀ X : Nat → Prop, X s → (∀ i, i < na → (X (fr i) → f i < cap i → X (tt i)) ∧ (X (tt i) → 0 < f i → X (fr i))) → ∀ u, g u = true → X u
theorem ReachP.unique {n na s : Nat} {fr tt : Nat → Nat} {cap f : Nat → Int} {g g' : Nat → Bool} (h : ReachP n na s fr tt cap f g) (h' : ReachP n na s fr tt cap f g') : ∀ u, g u = g' u := by
  intro u
  have h1 := h.least (fun u => g' u = true) h'.start (fun i hi => h'.shut i hi) u
  have h2 := h'.least (fun u => g u = true) h.start (fun i hi => h.shut i hi) u
  cases e1 : g u <;> cases e2 : g' u <;> simp_all
/-- What holds of every set on the way. -/
structure RSnd (n na s : Nat) (fr tt : Nat → Nat) (cap f : Nat → Int) (g : Nat → Bool) : Prop where
  start : g s = true
  lt : ∀ u, g u = true → u < n
  least : ∀ X : Nat → Prop, X s → (∀ i, i < na → (X (fr i) → f i < cap i → X (tt i)) ∧ (X (tt i) → 0 < f i → X (fr i))) → ∀ u, g u = true → X u
def Shut1 (fr tt : Nat → Nat) (cap f : Nat → Int) (g : Nat → Bool) (i : Nat) : Prop := (g (fr i) = true → f i < cap i → g (tt i) = true) ∧ (g (tt i) = true → 0 < f i → g (fr i) = true)
/-- In a round: nothing has turned so far and the first i arcs are shut, or there are more. -/
structure RRnd (n na s : Nat) (fr tt : Nat → Nat) (cap f : Nat → Int) (g0 g : Nat → Bool) (i : Nat) : Prop where
  snd : RSnd n na s fr tt cap f g
  alt : ((∀ u, g u = g0 u) ∧ ∀ j, j < i → Shut1 fr tt cap f g0 j) ∨ cnt n g0 < cnt n g
section
variable {n na s i : Nat} {fr tt : Nat → Nat} {cap f : Nat → Int} {g g0 : Nat → Bool}
theorem RSnd.begin (hs : s < n) : RSnd n na s fr tt cap f (upd (fun _ => false) s true) := by
  refine ⟨by simp, fun u hu => ?_, fun X hX _ u hu => ?_⟩ <;> by_cases e : u = s
  · omega
  · simp [upd, e] at hu
  · rw [e]; exact hX
  · simp [upd, e] at hu
theorem RSnd.add (h : RSnd n na s fr tt cap f g) (v : Nat) (hv : v < n) (hl : ∀ X : Nat → Prop, X s → (∀ i, i < na → (X (fr i) → f i < cap i → X (tt i)) ∧ (X (tt i) → 0 < f i → X (fr i))) → X v) : RSnd n na s fr tt cap f (upd g v true) := by
  refine ⟨?_, fun u hu => ?_, fun X hX hc u hu => ?_⟩
  · simp only [upd]; split
    · rfl
    · exact h.start
  · by_cases e : u = v
    · omega
    · exact h.lt u (by simpa [upd, e] using hu)
  · by_cases e : u = v
    · rw [e]; exact hl X hX hc
    · exact h.least X hX hc u (by simpa [upd, e] using hu)
theorem cnt_upd_le (g : Nat → Bool) (v : Nat) : cnt n g ≤ cnt n (upd g v true) := cnt_mono n _ _ fun u _ hu => by simp only [upd]; split <;> simp_all
theorem cnt_upd_lt (g : Nat → Bool) (v : Nat) (hv : v < n) (hg : g v = false) : cnt n g < cnt n (upd g v true) := cnt_lt n _ _ (fun u _ hu => by simp only [upd]; split <;> simp_all) v hv (by simp) hg
theorem upd_true_self (g : Nat → Bool) (v : Nat) (hg : g v = true) : upd g v true = g := by funext u; simp only [upd]; split <;> simp_all
/-- A node is marked. -/
theorem RRnd.mark (h : RRnd n na s fr tt cap f g0 g i) (v : Nat) (hv : v < n) (hl : ∀ X : Nat → Prop, X s → (∀ i, i < na → (X (fr i) → f i < cap i → X (tt i)) ∧ (X (tt i) → 0 < f i → X (fr i))) → X v) : RRnd n na s fr tt cap f g0 (upd g v true) i := by
  refine ⟨h.snd.add v hv hl, ?_⟩
  cases e : g v with
  | true => rw [upd_true_self g v e]; exact h.alt
  | false =>
    right
    have h1 := cnt_upd_lt (n := n) g v hv e
    rcases h.alt with ⟨h2, _⟩ | h2
    · rw [cnt_congr n g g0 fun u _ => h2 u] at h1; exact h1
    · omega
/-- An arc has been looked at. -/
theorem RRnd.next (h : RRnd n na s fr tt cap f g0 g i) (hsh : (∀ u, g u = g0 u) → Shut1 fr tt cap f g0 i) : RRnd n na s fr tt cap f g0 g (i + 1) := by
  refine ⟨h.snd, ?_⟩
  rcases h.alt with ⟨h1, h2⟩ | h1
  · refine .inl ⟨h1, fun j hj => ?_⟩
    by_cases e : j = i
    · subst e; exact hsh h1
    · exact h2 j (by omega)
  · exact .inr h1
/-- After a round. -/
theorem RRnd.done (h : RRnd n na s fr tt cap f g0 g na) {r : Nat} (h0 : ReachP n na s fr tt cap f g0 ∨ r < cnt n g0) : ReachP n na s fr tt cap f g ∨ r + 1 < cnt n g := by
  rcases h.alt with ⟨h1, h2⟩ | h1
  · left
    have e : g = g0 := funext h1
    subst e
    exact ⟨h.snd.start, h.snd.lt, fun i hi => h2 i hi, h.snd.least⟩
  · rcases h0 with h0 | h0
    · left
      refine ⟨h.snd.start, h.snd.lt, ?_, h.snd.least⟩
      have : ∀ u, g u = true → g0 u = true := fun u hu => h.snd.least (fun u => g0 u = true) h0.start (fun i hi => h0.shut i hi) u hu
      have h2 := cnt_mono n g g0 (fun u _ hu => this u hu)
      omega
    · right; omega
end
end Go.KL
end

section
/- Walks: ref.Value. -/
namespace Go.KL
open Go.Proofs
attribute [local irreducible] SC St Fin Sq Sw Ylds Doos Sets Enters Spec CellIs CellsAre Then Ret Rnd Chn resOK ints bools recs arr
open Classical in
set_option maxHeartbeats 4000000 in
theorem rvalue_spec (W : World) (Ls : List Chunk) (n s t : Nat) (va vf : Value) (na m : Nat) (A : Nat → Ac) (f : Nat → Int) (hA : SlA (K W Ls) va na A) (hF : SlI (K W Ls) vf m f) (hN : NetOK n na A s t) :
    Spec Try.prog 36 #[.int .i64 n, va, .int .i64 s, .int .i64 t, vf] (K W Ls) (fun _ : Unit => .tuple #[.int .i64 (if FlOK n na A s t m f then more (frN A) (ttN A) f na s else 0), .bool (decide (FlOK n na A s t m f ∧ 0 ≤ more (frN A) (ttN A) f na s))]) (fun _ => K W Ls) := by
  obtain ⟨pa, ca, rfl, _, hcells⟩ := hA.open
  obtain ⟨pf, cf, rfl, _, hfs⟩ := SlV.open1 hF
  have h_n := hN.hn; have h_na := hN.hna; have h_s := hN.hs; have h_t := hN.ht; have h_st := hN.ne
  refine enter (args := [_, _, _, _, _]) Try.func36 rfl Try.ntmps36 rfl ?_
  refine c_seq ?_
  refine c_region ?_
  refine s_y (y_assign rfl) rfl rfl rfl ?_
  refine s_y (y_assign rfl) rfl rfl rfl ?_
  refine s_nil ?_
  refine f_then ?_
  refine c_seq ?_
  refine c_seq ?_
  refine c_region ?_
  refine s_y (y_move rfl) rfl rfl rfl ?_
  refine s_y (y_len Try.tab rfl rfl) rfl rfl rfl ?_
  refine s_y (y_move rfl) rfl rfl rfl ?_
  refine s_y (y_len Try.tab rfl rfl) rfl rfl rfl ?_
  refine s_y (y_neq rfl rfl) rfl rfl rfl ?_
  refine s_nil ?_
  refine f_then ?_
  refine c_condD rfl (fun hm => ?_) (fun hm => ?_)
  · refine c_seq ?_
    refine c_region ?_
    refine s_y (y_assign rfl) rfl rfl rfl ?_
    refine s_y (y_assign rfl) rfl rfl rfl ?_
    refine s_nil ?_
    refine f_then ?_
    refine c_ret ?_
    refine f_thenR ?_
    have hno : ¬ FlOK n na A s t m f := fun h => hm (by rw [h.len])
    exact f_retE () (res2 rfl rfl rfl) (by rw [if_neg hno, decide_eq_false fun h => hno h.1]) (fun w h => h)
  have hm' : m = na := by omega
  subst hm'
  clear hm
  refine c_skip ?_
  refine f_then ?_
  refine c_seq ?_
  refine c_region ?_
  refine s_y (y_move rfl) rfl rfl rfl ?_
  refine s_do (make_ints (by_ := 8) Try.tab rfl rfl rfl rfl rfl rfl (by omega)) rfl rfl rfl (fun b21 => ?_)
  refine s_y (y_assign rfl) rfl rfl rfl ?_
  refine s_nil ?_
  refine f_then ?_
  refine c_seq ?_
  refine c_seq ?_
  refine c_region ?_
  refine s_y (y_assign rfl) rfl rfl rfl ?_
  refine s_nil ?_
  refine f_then ?_
  refine c_block ?_
  refine c_loopP (α := Nat) (fun z => [(0, .int .i64 n), (1, .slice pa m ca), (2, .int .i64 s), (3, .int .i64 t), (4, .slice pf m cf), (12, .slice (some ⟨b21, 0, none⟩) n n), (13, .int .i64 z)]) (fun z => z ≤ m ∧ ∀ i, i < z → 0 ≤ f i ∧ f i ≤ capN A i)
    (fun z => K W ([(b21, ints 3 n (fun u => more (frN A) (ttN A) f z u) [])] :: Ls)) (fun z => m - z) 0
    ⟨rfl, rfl, rfl, rfl, rfl, rfl, rfl, trivial⟩ ⟨Nat.zero_le _, fun i hi => absurd hi (Nat.not_lt_zero i)⟩ (fun w h => h) ?_
  rintro i ⟨hi, hok⟩
  refine c_seq ?_
  refine c_seq ?_
  refine c_region ?_
  refine s_y (y_move rfl) rfl rfl rfl ?_
  refine s_y (y_move rfl) rfl rfl rfl ?_
  refine s_y (y_len Try.tab rfl rfl) rfl rfl rfl ?_
  refine s_y (y_lss rfl rfl) rfl rfl rfl ?_
  refine s_nil ?_
  refine f_then ?_
  refine c_condD rfl (fun hlt => ?_) (fun hge => ?_)
  rotate_left
  · refine c_exit ?_
    refine f_thenE ?_
    refine f_rndE ?_
    refine f_blockE ?_
    refine f_then ?_
    refine c_seq ?_
    refine c_seq ?_
    refine c_region ?_
    refine s_y (y_assign rfl) rfl rfl rfl ?_
    refine s_nil ?_
    refine f_then ?_
    refine c_block ?_
    have hall : ∀ j, j < m → 0 ≤ f j ∧ f j ≤ capN A j := fun j hj => hok j (by omega)
    have him : i = m := by omega
    subst him
    refine c_loopP (α := Nat) (fun z => [(0, .int .i64 n), (2, .int .i64 s), (3, .int .i64 t), (12, .slice (some ⟨b21, 0, none⟩) n n), (14, .int .i64 z)]) (fun z => z ≤ n ∧ ∀ u, u < z → u ≠ s → u ≠ t → more (frN A) (ttN A) f i u = 0)
      (fun _ => K W ([(b21, ints 3 n (fun u => more (frN A) (ttN A) f i u) [])] :: Ls)) (fun z => n - z) 0
      ⟨rfl, rfl, rfl, rfl, rfl, trivial⟩ ⟨Nat.zero_le _, fun i hi => absurd hi (Nat.not_lt_zero i)⟩ (fun w h => h) ?_
    rintro v ⟨hv, hmid⟩
    refine c_seq ?_
    refine c_seq ?_
    refine c_region ?_
    refine s_y (y_move rfl) rfl rfl rfl ?_
    refine s_y (y_move rfl) rfl rfl rfl ?_
    refine s_y (y_lss rfl rfl) rfl rfl rfl ?_
    refine s_nil ?_
    refine f_then ?_
    refine c_condD rfl (fun hvlt => ?_) (fun hvge => ?_)
    · refine c_skip ?_
      refine f_then ?_
      refine c_seq ?_
      refine c_block ?_
      refine c_chain 92 (decide (v ≠ s ∧ v ≠ t ∧ more (frN A) (ttN A) f i v ≠ 0)) ?_ ?_
      · refine c_region ?_
        refine s_y (y_move rfl) rfl rfl rfl ?_
        refine s_y (y_move rfl) rfl rfl rfl ?_
        refine s_y (y_neq rfl rfl) rfl rfl rfl ?_
        refine s_y (y_move rfl) rfl rfl rfl ?_
        refine s_case 81 rfl (fun c0 => ?_) (fun c0 => ?_)
        · refine s_y (y_move rfl) rfl rfl rfl ?_
          refine s_y (y_move rfl) rfl rfl rfl ?_
          refine s_y (y_neq rfl rfl) rfl rfl rfl ?_
          refine s_y (y_pickT rfl rfl) rfl rfl rfl ?_
          refine s_y (y_move rfl) rfl rfl rfl ?_
          refine s_case 86 rfl (fun c1 => ?_) (fun c1 => ?_)
          · refine s_y (y_move rfl) rfl rfl rfl ?_
            refine s_y (y_move rfl) rfl rfl rfl ?_
            refine s_y (y_indexAddr1 Try.tab rfl rfl rfl rfl _ rfl (by omega)) rfl rfl rfl ?_
            refine s_y (y_load Try.tab rfl rfl (cell_ints 0 rfl (by omega))) rfl rfl rfl ?_
            refine s_y (y_neq rfl rfl) rfl rfl rfl ?_
            refine s_y (y_pickT rfl rfl) rfl rfl rfl ?_
            refine s_nil ?_
            exact f_chain rfl (decide_eq_decide.2 (by omega)) ⟨rfl, rfl, rfl, rfl, rfl, rfl, rfl, rfl, trivial⟩
          · refine s_skip rfl rfl rfl ?_
            iterate 4 refine s_skip rfl rfl rfl ?_
            refine s_y (y_pickF rfl rfl) rfl rfl rfl ?_
            refine s_nil ?_
            exact f_chain rfl ((decide_eq_false (by omega)).symm) ⟨rfl, rfl, rfl, rfl, rfl, rfl, rfl, rfl, trivial⟩
        · refine s_skip rfl rfl rfl ?_
          iterate 2 refine s_skip rfl rfl rfl ?_
          refine s_y (y_pickF rfl rfl) rfl rfl rfl ?_
          refine s_y (y_move rfl) rfl rfl rfl ?_
          iterate 5 refine s_skip rfl rfl rfl ?_
          refine s_y (y_pickF rfl rfl) rfl rfl rfl ?_
          refine s_nil ?_
          exact f_chain rfl ((decide_eq_false (by omega)).symm) ⟨rfl, rfl, rfl, rfl, rfl, rfl, rfl, rfl, trivial⟩
      refine c_condD rfl (fun hbad => ?_) (fun hgood => ?_)
      · refine c_seq ?_
        refine c_region ?_
        refine s_y (y_assign rfl) rfl rfl rfl ?_
        refine s_y (y_assign rfl) rfl rfl rfl ?_
        refine s_nil ?_
        refine f_then ?_
        refine c_ret ?_
        refine f_blockR ?_
        refine f_thenR ?_
        refine f_rndR ?_
        refine f_blockR ?_
        refine f_thenR ?_
        have hno : ¬ FlOK n i A s t i f := fun h => hbad.2.2 (h.mid v (by omega) hbad.1 hbad.2.1)
        exact f_retE () (res2 rfl rfl rfl) (by rw [if_neg hno, decide_eq_false fun h => hno h.1]) (fun w h => h.tail)
      refine c_skip ?_
      refine f_blockN ?_
      refine f_then ?_
      refine c_region ?_
      refine s_y (y_move rfl) rfl rfl rfl ?_
      refine s_y (y_add rfl rfl (by omega)) rfl rfl rfl ?_
      refine s_y (y_assign rfl) rfl rfl rfl ?_
      refine s_nil ?_
      exact f_roundP (v + 1) ⟨by omega, fun u hu h1 h2 => by
        by_cases e : u = v
        · subst e; exact Classical.byContradiction fun h3 => hgood ⟨h1, h2, h3⟩
        · exact hmid u (by omega) h1 h2⟩ (by omega) ⟨rfl, rfl, rfl, rfl, rfl, trivial⟩ (fun w h => h)
    · refine c_exit ?_
      refine f_thenE ?_
      refine f_rndE ?_
      refine f_blockE ?_
      refine f_then ?_
      refine c_seq ?_
      refine c_quiet Try.mixed (by kernel_rfl) K.drew ?_
      refine q_y (y_move rfl) rfl rfl rfl ?_
      refine q_y (y_move rfl) rfl rfl rfl ?_
      refine q_y (y_indexAddr1 Try.tab rfl rfl rfl rfl _ rfl (by omega)) rfl rfl rfl ?_
      refine q_y (y_load Try.tab rfl rfl (cell_ints 0 rfl (by omega))) rfl rfl rfl ?_
      refine q_y (y_move rfl) rfl rfl rfl ?_
      refine q_y (y_move rfl) rfl rfl rfl ?_
      refine q_y (y_indexAddr1 Try.tab rfl rfl rfl rfl _ rfl (by omega)) rfl rfl rfl ?_
      refine q_y (y_load Try.tab rfl rfl (cell_ints 0 rfl (by omega))) rfl rfl rfl ?_
      refine q_y (y_geq rfl rfl) rfl rfl rfl ?_
      refine q_y (y_assign rfl) rfl rfl rfl ?_
      refine q_y (y_assign rfl) rfl rfl rfl ?_
      refine q_nil ?_
      refine f_then ?_
      refine c_ret ?_
      have hyes : FlOK n i A s t i f := ⟨rfl, hall, fun u hu => hmid u (by omega)⟩
      exact f_retE () (res2 rfl rfl rfl) (by simp only [hyes, if_true, true_and]) (fun w h => h.tail)
  have hin : i < m := by omega
  obtain ⟨ba, oa, rfl, hca, hc0, hc1, hc2, hc3⟩ := hcells (by omega)
  obtain ⟨bf, of, rfl, hcf⟩ := hfs (by omega)
  have harc := hN.arc i hin
  unfold ArcOK at harc
  refine c_skip ?_
  refine f_then ?_
  refine c_seq ?_
  refine c_block ?_
  refine c_seq ?_
  refine c_chain 44 (decide (f i < 0 ∨ capN A i < f i)) ?_ ?_
  · refine c_quiet Try.mixed (by kernel_rfl) K.drew ?_
    refine q_y (y_move rfl) rfl rfl rfl ?_
    refine q_y (y_move rfl) rfl rfl rfl ?_
    refine q_y (y_indexAddr1o Try.tab rfl rfl rfl rfl _ rfl (by omega)) rfl rfl rfl ?_
    refine q_y (y_load Try.tab rfl rfl (hcf _ (by omega)).cons) rfl rfl rfl ?_
    refine q_y (y_lss rfl rfl) rfl rfl rfl ?_
    refine q_y (y_move rfl) rfl rfl rfl ?_
    refine q_case 33 rfl (fun c0 => ?_) (fun c0 => ?_)
    · refine q_skip rfl rfl rfl ?_
      iterate 9 refine q_skip rfl rfl rfl ?_
      refine q_y (y_pickT rfl rfl) rfl rfl rfl ?_
      refine q_nil ?_
      exact f_chain rfl ((decide_eq_true (by omega)).symm) ⟨rfl, rfl, rfl, rfl, rfl, rfl, rfl, rfl, rfl, rfl, rfl, trivial⟩
    · refine q_y (y_move rfl) rfl rfl rfl ?_
      refine q_y (y_move rfl) rfl rfl rfl ?_
      refine q_y (y_indexAddr1o Try.tab rfl rfl rfl rfl _ rfl (by omega)) rfl rfl rfl ?_
      refine q_y (y_load Try.tab rfl rfl (hcf _ (by omega)).cons) rfl rfl rfl ?_
      refine q_y (y_move rfl) rfl rfl rfl ?_
      refine q_y (y_move rfl) rfl rfl rfl ?_
      refine q_y (y_indexAddr (s := 4) Try.tab rfl rfl rfl rfl _ rfl (by omega)) rfl rfl rfl ?_
      refine q_y (y_fieldAddr Try.tab 2 rfl rfl rfl rfl rfl) rfl rfl rfl ?_
      refine q_y (y_load Try.tab rfl rfl (hc2 _ (by omega)).cons) rfl rfl rfl ?_
      refine q_y (y_gtr rfl rfl) rfl rfl rfl ?_
      refine q_y (y_pickF rfl rfl) rfl rfl rfl ?_
      refine q_nil ?_
      exact f_chain rfl (decide_eq_decide.2 (by simp [*])) ⟨rfl, rfl, rfl, rfl, rfl, rfl, rfl, rfl, rfl, rfl, rfl, trivial⟩
  refine c_condD rfl (fun hbad => ?_) (fun hgood => ?_)
  · refine c_seq ?_
    refine c_region ?_
    refine s_y (y_assign rfl) rfl rfl rfl ?_
    refine s_y (y_assign rfl) rfl rfl rfl ?_
    refine s_nil ?_
    refine f_then ?_
    refine c_ret ?_
    refine f_thenR ?_
    refine f_blockR ?_
    refine f_thenR ?_
    refine f_rndR ?_
    refine f_blockR ?_
    refine f_thenR ?_
    have hno : ¬ FlOK n m A s t m f := fun h => by have := h.bd i hin; omega
    exact f_retE () (res2 rfl rfl rfl) (by rw [if_neg hno, decide_eq_false fun h => hno h.1]) (fun w h => h.tail)
  have hfc : f i ≤ capN A i := by omega
  have hbd := more_bd (frN A) (ttN A) f 1073741824 (by omega) i (fun j hj => by have := hok j hj; have := (hN.arc j (by omega)).2.2.2.1; simp only [capN] at *; omega)
  have hb1 := hbd (A i).1.toNat
  have hne : frN A i ≠ ttN A i := by simp only [frN, ttN]; omega
  have hb2 : upd (fun u => more (frN A) (ttN A) f i u) (A i).1.toNat (more (frN A) (ttN A) f i (A i).1.toNat + f i) (A i).2.1.toNat = more (frN A) (ttN A) f i (A i).2.1.toNat := upd_ne _ _ (fun e => hne e.symm)
  have hb3 := hbd (A i).2.1.toNat
  rw [← hb2] at hb3
  simp only [capN] at hgood hfc
  refine c_skip ?_
  refine f_then ?_
  refine c_seq ?_
  refine c_tail 14 Try.mixed (by kernel_rfl) K.drew ?_
  refine w_y (y_move rfl) rfl rfl rfl ?_
  refine w_y (y_move rfl) rfl rfl rfl ?_
  refine w_y (y_move rfl) rfl rfl rfl ?_
  refine w_y (y_indexAddr (s := 4) Try.tab rfl rfl rfl rfl _ rfl (by omega)) rfl rfl rfl ?_
  refine w_y (y_fieldAddr0 Try.tab rfl rfl rfl rfl rfl) rfl rfl rfl ?_
  refine w_y (y_load Try.tab rfl rfl (hc0 _ (by omega)).cons) rfl rfl rfl ?_
  refine w_y (y_indexAddr1 Try.tab rfl rfl rfl rfl _ (Int.toNat_of_nonneg (by omega)).symm (by omega)) rfl rfl rfl ?_
  refine w_y (y_load Try.tab rfl rfl (cell_ints 0 rfl (by omega))) rfl rfl rfl ?_
  refine w_y (y_move rfl) rfl rfl rfl ?_
  refine w_y (y_move rfl) rfl rfl rfl ?_
  refine w_y (y_indexAddr1o Try.tab rfl rfl rfl rfl _ rfl (by omega)) rfl rfl rfl ?_
  refine w_y (y_load Try.tab rfl rfl (hcf _ (by omega)).cons) rfl rfl rfl ?_
  refine w_y (y_add rfl rfl (by omega)) rfl rfl rfl ?_
  refine w_y (y_indexAddr1 Try.tab rfl rfl rfl rfl _ (Int.toNat_of_nonneg (by omega)).symm (by omega)) rfl rfl rfl ?_
  refine w_nil ?_
  refine s_set (set_ints Try.tab 0 rfl rfl rfl rfl (by omega)) rfl rfl ?_
  refine s_nil ?_
  refine f_then ?_
  refine c_tail 14 Try.mixed (by kernel_rfl) K.drew ?_
  refine w_y (y_move rfl) rfl rfl rfl ?_
  refine w_y (y_move rfl) rfl rfl rfl ?_
  refine w_y (y_move rfl) rfl rfl rfl ?_
  refine w_y (y_indexAddr (s := 4) Try.tab rfl rfl rfl rfl _ rfl (by omega)) rfl rfl rfl ?_
  refine w_y (y_fieldAddr Try.tab 1 rfl rfl rfl rfl rfl) rfl rfl rfl ?_
  refine w_y (y_load Try.tab rfl rfl (hc1 _ (by omega)).cons) rfl rfl rfl ?_
  refine w_y (y_indexAddr1 Try.tab rfl rfl rfl rfl _ (Int.toNat_of_nonneg (by omega)).symm (by omega)) rfl rfl rfl ?_
  refine w_y (y_load Try.tab rfl rfl (cell_ints 0 rfl (by omega))) rfl rfl rfl ?_
  refine w_y (y_move rfl) rfl rfl rfl ?_
  refine w_y (y_move rfl) rfl rfl rfl ?_
  refine w_y (y_indexAddr1o Try.tab rfl rfl rfl rfl _ rfl (by omega)) rfl rfl rfl ?_
  refine w_y (y_load Try.tab rfl rfl (hcf _ (by omega)).cons) rfl rfl rfl ?_
  refine w_y (y_sub rfl rfl (by omega)) rfl rfl rfl ?_
  refine w_y (y_indexAddr1 Try.tab rfl rfl rfl rfl _ (Int.toNat_of_nonneg (by omega)).symm (by omega)) rfl rfl rfl ?_
  refine w_nil ?_
  refine s_set (set_ints Try.tab 0 rfl rfl rfl rfl (by omega)) rfl rfl ?_
  refine s_nil ?_
  refine f_blockN ?_
  refine f_then ?_
  refine c_region ?_
  refine s_y (y_move rfl) rfl rfl rfl ?_
  refine s_y (y_add rfl rfl (by omega)) rfl rfl rfl ?_
  refine s_y (y_assign rfl) rfl rfl rfl ?_
  refine s_nil ?_
  refine f_roundP (i + 1) ⟨hin, fun j hj => ?_⟩ (by omega) ⟨rfl, rfl, rfl, rfl, rfl, rfl, rfl, trivial⟩ (fun w h => ?_)
  · by_cases e : j = i
    · subst e; simp only [capN]; omega
    · exact hok j (by omega)
  · rw [← more_upd (frN A) (ttN A) f i hne]; exact h
end Go.KL
end

section
/- Walks: ref.Cost, ref.Certifies. -/
namespace Go.KL
open Go.Proofs
attribute [local irreducible] SC St Fin Sq Sw Ylds Doos Sets Enters Spec CellIs CellsAre Then Ret Rnd Chn resOK ints bools recs arr
theorem mul_bd {a b : Int} (h1 : 0 ≤ a ∧ a ≤ 1073741824) (h2 : 0 ≤ b ∧ b ≤ 1048576) : 0 ≤ a * b ∧ a * b ≤ 1125899906842624 := by
  refine ⟨Int.mul_nonneg h1.1 h2.1, ?_⟩
  have := Int.mul_le_mul h1.2 h2.2 h2.1 (by omega)
  omega
theorem cst_bd {c f : Nat → Int} : ∀ (na : Nat), (∀ i, i < na → (0 ≤ f i ∧ f i ≤ 1073741824) ∧ 0 ≤ c i ∧ c i ≤ 1048576) → 0 ≤ cst c f na ∧ cst c f na ≤ na * 1125899906842624 := by
  intro na
  induction na with
  | zero => intro _; simp [cst, sm]
  | succ na ih =>
    intro h
    have h1 := ih (fun i hi => h i (by omega))
    have h2 := mul_bd (h na (by omega)).1 (h na (by omega)).2
    have h3 : cst c f (na + 1) = cst c f na + f na * c na := rfl
    rw [h3]
    omega
set_option maxHeartbeats 4000000 in
theorem rcost_spec (W : World) (Ls : List Chunk) (va vf : Value) (na : Nat) (A : Nat → Ac) (f : Nat → Int) (hA : SlA (K W Ls) va na A) (hF : SlI (K W Ls) vf na f) (hna : na ≤ 1024) (hb : ∀ i, i < na → (0 ≤ f i ∧ f i ≤ 1073741824) ∧ 0 ≤ cstN A i ∧ cstN A i ≤ 1048576) :
    Spec Try.prog 37 #[va, vf] (K W Ls) (fun _ : Unit => .int .i64 (cst (cstN A) f na)) (fun _ => K W Ls) := by
  obtain ⟨pa, ca, rfl, _, hcells⟩ := hA.open
  obtain ⟨pf, cf, rfl, _, hfs⟩ := SlV.open1 hF
  refine enter (args := [_, _]) Try.func37 rfl Try.ntmps37 rfl ?_
  refine c_seq ?_
  refine c_region ?_
  refine s_y (y_assign rfl) rfl rfl rfl ?_
  refine s_nil ?_
  refine f_then ?_
  refine c_seq ?_
  refine c_region ?_
  refine s_y (y_assign rfl) rfl rfl rfl ?_
  refine s_nil ?_
  refine f_then ?_
  refine c_seq ?_
  refine c_seq ?_
  refine c_region ?_
  refine s_y (y_assign rfl) rfl rfl rfl ?_
  refine s_nil ?_
  refine f_then ?_
  refine c_block ?_
  refine c_loopP (α := Nat) (fun z => [(0, .slice pa na ca), (1, .slice pf na cf), (5, .int .i64 (cst (cstN A) f z)), (6, .int .i64 z)]) (fun z => z ≤ na)
    (fun _ => K W Ls) (fun z => na - z) 0 ⟨rfl, rfl, rfl, rfl, trivial⟩ (Nat.zero_le _) (fun w h => h) ?_
  rintro i hi
  refine c_seq ?_
  refine c_seq ?_
  refine c_region ?_
  refine s_y (y_move rfl) rfl rfl rfl ?_
  refine s_y (y_move rfl) rfl rfl rfl ?_
  refine s_y (y_len Try.tab rfl rfl) rfl rfl rfl ?_
  refine s_y (y_lss rfl rfl) rfl rfl rfl ?_
  refine s_nil ?_
  refine f_then ?_
  refine c_condD rfl (fun hlt => ?_) (fun hge => ?_)
  rotate_left
  · refine c_exit ?_
    refine f_thenE ?_
    refine f_rndE ?_
    refine f_blockE ?_
    refine f_then ?_
    refine c_seq ?_
    refine c_region ?_
    refine s_y (y_move rfl) rfl rfl rfl ?_
    refine s_y (y_assign rfl) rfl rfl rfl ?_
    refine s_nil ?_
    refine f_then ?_
    refine c_ret ?_
    have him : i = na := by omega
    subst him
    exact f_ret () (res1 rfl rfl) (fun w h => h)
  have hin : i < na := by omega
  obtain ⟨ba, oa, rfl, hca, hc0, hc1, hc2, hc3⟩ := hcells (by omega)
  obtain ⟨bf, of, rfl, hcf⟩ := hfs (by omega)
  have h1 := mul_bd (hb i hin).1 (hb i hin).2
  have h2 := cst_bd (c := cstN A) (f := f) i (fun j hj => hb j (by omega))
  simp only [cstN] at h1
  refine c_skip ?_
  refine f_then ?_
  refine c_seq ?_
  refine c_block ?_
  refine c_quiet Try.mixed (by kernel_rfl) K.drew ?_
  refine q_y (y_move rfl) rfl rfl rfl ?_
  refine q_y (y_move rfl) rfl rfl rfl ?_
  refine q_y (y_move rfl) rfl rfl rfl ?_
  refine q_y (y_indexAddr1o Try.tab rfl rfl rfl rfl _ rfl (by omega)) rfl rfl rfl ?_
  refine q_y (y_load Try.tab rfl rfl (hcf _ (by omega))) rfl rfl rfl ?_
  refine q_y (y_move rfl) rfl rfl rfl ?_
  refine q_y (y_move rfl) rfl rfl rfl ?_
  refine q_y (y_indexAddr (s := 4) Try.tab rfl rfl rfl rfl _ rfl (by omega)) rfl rfl rfl ?_
  refine q_y (y_fieldAddr Try.tab 3 rfl rfl rfl rfl rfl) rfl rfl rfl ?_
  refine q_y (y_load Try.tab rfl rfl (hc3 _ (by omega))) rfl rfl rfl ?_
  refine q_y (y_mul rfl rfl (by omega)) rfl rfl rfl ?_
  refine q_y (y_add rfl rfl (by omega)) rfl rfl rfl ?_
  refine q_y (y_assign rfl) rfl rfl rfl ?_
  refine q_nil ?_
  refine f_blockN ?_
  refine f_then ?_
  refine c_region ?_
  refine s_y (y_move rfl) rfl rfl rfl ?_
  refine s_y (y_add rfl rfl (by omega)) rfl rfl rfl ?_
  refine s_y (y_assign rfl) rfl rfl rfl ?_
  refine s_nil ?_
  exact f_roundP (i + 1) hin (by omega) ⟨rfl, rfl, rfl, rfl, trivial⟩ (fun w h => h)
/-- A certificate. -/
structure CertOK (n na : Nat) (A : Nat → Ac) (f : Nat → Int) (m : Nat) (p : Nat → Int) : Prop where
  len : m = n
  bd : ∀ v, v < n → -1099511627776 ≤ p v ∧ p v ≤ 1099511627776
  cert : CertP na (frN A) (ttN A) (capN A) (cstN A) f p
open Classical in
set_option maxHeartbeats 4000000 in
theorem rcert_spec (W : World) (Ls : List Chunk) (n s t : Nat) (va vf vp : Value) (na m : Nat) (A : Nat → Ac) (f p : Nat → Int) (hA : SlA (K W Ls) va na A) (hF : SlI (K W Ls) vf na f) (hP : SlI (K W Ls) vp m p) (hN : NetOK n na A s t) :
    Spec Try.prog 45 #[.int .i64 n, va, vf, vp] (K W Ls) (fun _ : Unit => .bool (decide (CertOK n na A f m p))) (fun _ => K W Ls) := by
  obtain ⟨pa, ca, rfl, _, hcells⟩ := hA.open
  obtain ⟨pf, cf, rfl, _, hfs⟩ := SlV.open1 hF
  obtain ⟨pp, cp, rfl, _, hps⟩ := SlV.open1 hP
  have h_n := hN.hn; have h_na := hN.hna
  refine enter (args := [_, _, _, _]) Try.func45 rfl Try.ntmps45 rfl ?_
  refine c_seq ?_
  refine c_region ?_
  refine s_y (y_assign rfl) rfl rfl rfl ?_
  refine s_nil ?_
  refine f_then ?_
  refine c_seq ?_
  refine c_seq ?_
  refine c_region ?_
  refine s_y (y_move rfl) rfl rfl rfl ?_
  refine s_y (y_len Try.tab rfl rfl) rfl rfl rfl ?_
  refine s_y (y_move rfl) rfl rfl rfl ?_
  refine s_y (y_neq rfl rfl) rfl rfl rfl ?_
  refine s_nil ?_
  refine f_then ?_
  refine c_condD rfl (fun hm => ?_) (fun hm => ?_)
  · refine c_seq ?_
    refine c_region ?_
    refine s_y (y_assign rfl) rfl rfl rfl ?_
    refine s_nil ?_
    refine f_then ?_
    refine c_ret ?_
    refine f_thenR ?_
    exact f_retE () (res1 rfl rfl) (by rw [decide_eq_false fun h => hm (by rw [h.len])]) (fun w h => h)
  have hm' : m = n := by omega
  subst hm'
  clear hm
  refine c_skip ?_
  refine f_then ?_
  refine c_seq ?_
  refine c_seq ?_
  refine c_region ?_
  refine s_y (y_assign rfl) rfl rfl rfl ?_
  refine s_nil ?_
  refine f_then ?_
  refine c_block ?_
  refine c_loopP (α := Nat) (fun z => [(0, .int .i64 m), (1, .slice pa na ca), (2, .slice pf na cf), (3, .slice pp m cp), (9, .int .i64 z)]) (fun z => z ≤ m ∧ ∀ v, v < z → -1099511627776 ≤ p v ∧ p v ≤ 1099511627776)
    (fun _ => K W Ls) (fun z => m - z) 0 ⟨rfl, rfl, rfl, rfl, rfl, trivial⟩ ⟨Nat.zero_le _, fun i hi => absurd hi (Nat.not_lt_zero i)⟩ (fun w h => h) ?_
  rintro i ⟨hi, hok⟩
  refine c_seq ?_
  refine c_seq ?_
  refine c_region ?_
  refine s_y (y_move rfl) rfl rfl rfl ?_
  refine s_y (y_move rfl) rfl rfl rfl ?_
  refine s_y (y_lss rfl rfl) rfl rfl rfl ?_
  refine s_nil ?_
  refine f_then ?_
  refine c_condD rfl (fun hlt => ?_) (fun hge => ?_)
  · obtain ⟨bp, op, rfl, hcp⟩ := hps (by omega)
    refine c_skip ?_
    refine f_then ?_
    refine c_seq ?_
    refine c_block ?_
    refine c_chain 32 (decide (p i < -1099511627776 ∨ 1099511627776 < p i)) ?_ ?_
    · refine c_region ?_
      refine s_y (y_move rfl) rfl rfl rfl ?_
      refine s_y (y_move rfl) rfl rfl rfl ?_
      refine s_y (y_indexAddr1o Try.tab rfl rfl rfl rfl _ rfl (by omega)) rfl rfl rfl ?_
      refine s_y (y_load Try.tab rfl rfl (hcp _ (by omega))) rfl rfl rfl ?_
      refine s_y (y_lss rfl rfl) rfl rfl rfl ?_
      refine s_y (y_move rfl) rfl rfl rfl ?_
      refine s_case 26 rfl (fun c0 => ?_) (fun c0 => ?_)
      · refine s_skip rfl rfl rfl ?_
        iterate 4 refine s_skip rfl rfl rfl ?_
        refine s_y (y_pickT rfl rfl) rfl rfl rfl ?_
        refine s_nil ?_
        exact f_chain rfl ((decide_eq_true (by omega)).symm) ⟨rfl, rfl, rfl, rfl, rfl, rfl, rfl, rfl, trivial⟩
      · refine s_y (y_move rfl) rfl rfl rfl ?_
        refine s_y (y_move rfl) rfl rfl rfl ?_
        refine s_y (y_indexAddr1o Try.tab rfl rfl rfl rfl _ rfl (by omega)) rfl rfl rfl ?_
        refine s_y (y_load Try.tab rfl rfl (hcp _ (by omega))) rfl rfl rfl ?_
        refine s_y (y_gtr rfl rfl) rfl rfl rfl ?_
        refine s_y (y_pickF rfl rfl) rfl rfl rfl ?_
        refine s_nil ?_
        exact f_chain rfl (decide_eq_decide.2 (by omega)) ⟨rfl, rfl, rfl, rfl, rfl, rfl, rfl, rfl, trivial⟩
    refine c_condD rfl (fun hbad => ?_) (fun hgood => ?_)
    · refine c_seq ?_
      refine c_region ?_
      refine s_y (y_assign rfl) rfl rfl rfl ?_
      refine s_nil ?_
      refine f_then ?_
      refine c_ret ?_
      refine f_blockR ?_
      refine f_thenR ?_
      refine f_rndR ?_
      refine f_blockR ?_
      refine f_thenR ?_
      exact f_retE () (res1 rfl rfl) (by rw [decide_eq_false fun h => ?_]; have := h.bd i (by omega); omega) (fun w h => h)
    refine c_skip ?_
    refine f_blockN ?_
    refine f_then ?_
    refine c_region ?_
    refine s_y (y_move rfl) rfl rfl rfl ?_
    refine s_y (y_add rfl rfl (by omega)) rfl rfl rfl ?_
    refine s_y (y_assign rfl) rfl rfl rfl ?_
    refine s_nil ?_
    exact f_roundP (i + 1) ⟨by omega, fun v hv => by
      by_cases e : v = i
      · subst e; omega
      · exact hok v (by omega)⟩ (by omega) ⟨rfl, rfl, rfl, rfl, rfl, trivial⟩ (fun w h => h)
  have hpb : ∀ v, v < m → -1099511627776 ≤ p v ∧ p v ≤ 1099511627776 := fun v hv => hok v (by omega)
  clear hok hge
  refine c_exit ?_
  refine f_thenE ?_
  refine f_rndE ?_
  refine f_blockE ?_
  refine f_then ?_
  refine c_seq ?_
  refine c_seq ?_
  refine c_region ?_
  refine s_y (y_assign rfl) rfl rfl rfl ?_
  refine s_nil ?_
  refine f_then ?_
  refine c_block ?_
  refine c_loopP (α := Nat) (fun z => [(0, .int .i64 m), (1, .slice pa na ca), (2, .slice pf na cf), (3, .slice pp m cp), (10, .int .i64 z)]) (fun z => z ≤ na ∧ CertP z (frN A) (ttN A) (capN A) (cstN A) f p)
    (fun _ => K W Ls) (fun z => na - z) 0 ⟨rfl, rfl, rfl, rfl, rfl, trivial⟩ ⟨Nat.zero_le _, fun i hi => absurd hi (Nat.not_lt_zero i)⟩ (fun w h => h) ?_
  rintro i ⟨hi, hok⟩
  refine c_seq ?_
  refine c_seq ?_
  refine c_region ?_
  refine s_y (y_move rfl) rfl rfl rfl ?_
  refine s_y (y_move rfl) rfl rfl rfl ?_
  refine s_y (y_len Try.tab rfl rfl) rfl rfl rfl ?_
  refine s_y (y_lss rfl rfl) rfl rfl rfl ?_
  refine s_nil ?_
  refine f_then ?_
  refine c_condD rfl (fun hlt => ?_) (fun hge => ?_)
  rotate_left
  · refine c_exit ?_
    refine f_thenE ?_
    refine f_rndE ?_
    refine f_blockE ?_
    refine f_then ?_
    refine c_seq ?_
    refine c_region ?_
    refine s_y (y_assign rfl) rfl rfl rfl ?_
    refine s_nil ?_
    refine f_then ?_
    refine c_ret ?_
    have him : i = na := by omega
    subst him
    exact f_retE () (res1 rfl rfl) (by rw [decide_eq_true ⟨rfl, hpb, hok⟩]) (fun w h => h)
  have hin : i < na := by omega
  obtain ⟨ba, oa, rfl, hca, hc0, hc1, hc2, hc3⟩ := hcells (by omega)
  obtain ⟨bf, of, rfl, hcf⟩ := hfs (by omega)
  obtain ⟨bp, op, rfl, hcp⟩ := hps (by omega)
  have harc := hN.arc i hin
  unfold ArcOK at harc
  have hp1 := hpb (A i).1.toNat (by omega)
  have hp2 := hpb (A i).2.1.toNat (by omega)
  refine c_skip ?_
  refine f_then ?_
  refine c_seq ?_
  refine c_block ?_
  refine c_seq ?_
  refine c_quiet Try.mixed (by kernel_rfl) K.drew ?_
  refine q_y (y_move rfl) rfl rfl rfl ?_
  refine q_y (y_move rfl) rfl rfl rfl ?_
  refine q_y (y_indexAddr (s := 4) Try.tab rfl rfl rfl rfl _ rfl (by omega)) rfl rfl rfl ?_
  refine q_y (y_fieldAddr Try.tab 3 rfl rfl rfl rfl rfl) rfl rfl rfl ?_
  refine q_y (y_load Try.tab rfl rfl (hc3 _ (by omega))) rfl rfl rfl ?_
  refine q_y (y_move rfl) rfl rfl rfl ?_
  refine q_y (y_move rfl) rfl rfl rfl ?_
  refine q_y (y_move rfl) rfl rfl rfl ?_
  refine q_y (y_indexAddr (s := 4) Try.tab rfl rfl rfl rfl _ rfl (by omega)) rfl rfl rfl ?_
  refine q_y (y_fieldAddr0 Try.tab rfl rfl rfl rfl rfl) rfl rfl rfl ?_
  refine q_y (y_load Try.tab rfl rfl (hc0 _ (by omega))) rfl rfl rfl ?_
  refine q_y (y_indexAddr1o Try.tab rfl rfl rfl rfl _ (Int.toNat_of_nonneg (by omega)).symm (by omega)) rfl rfl rfl ?_
  refine q_y (y_load Try.tab rfl rfl (hcp _ (by omega))) rfl rfl rfl ?_
  refine q_y (y_add rfl rfl (by omega)) rfl rfl rfl ?_
  refine q_y (y_move rfl) rfl rfl rfl ?_
  refine q_y (y_move rfl) rfl rfl rfl ?_
  refine q_y (y_move rfl) rfl rfl rfl ?_
  refine q_y (y_indexAddr (s := 4) Try.tab rfl rfl rfl rfl _ rfl (by omega)) rfl rfl rfl ?_
  refine q_y (y_fieldAddr Try.tab 1 rfl rfl rfl rfl rfl) rfl rfl rfl ?_
  refine q_y (y_load Try.tab rfl rfl (hc1 _ (by omega))) rfl rfl rfl ?_
  refine q_y (y_indexAddr1o Try.tab rfl rfl rfl rfl _ (Int.toNat_of_nonneg (by omega)).symm (by omega)) rfl rfl rfl ?_
  refine q_y (y_load Try.tab rfl rfl (hcp _ (by omega))) rfl rfl rfl ?_
  refine q_y (y_sub rfl rfl (by omega)) rfl rfl rfl ?_
  refine q_y (y_assign rfl) rfl rfl rfl ?_
  refine q_nil ?_
  refine f_then ?_
  refine c_chain 86 (decide (f i < capN A i ∧ cstN A i + p (frN A i) - p (ttN A i) < 0 ∨ 0 < f i ∧ 0 < cstN A i + p (frN A i) - p (ttN A i))) ?_ ?_
  · refine c_quiet Try.mixed (by kernel_rfl) K.drew ?_
    refine q_y (y_move rfl) rfl rfl rfl ?_
    refine q_y (y_move rfl) rfl rfl rfl ?_
    refine q_y (y_indexAddr1o Try.tab rfl rfl rfl rfl _ rfl (by omega)) rfl rfl rfl ?_
    refine q_y (y_load Try.tab rfl rfl (hcf _ (by omega))) rfl rfl rfl ?_
    refine q_y (y_move rfl) rfl rfl rfl ?_
    refine q_y (y_move rfl) rfl rfl rfl ?_
    refine q_y (y_indexAddr (s := 4) Try.tab rfl rfl rfl rfl _ rfl (by omega)) rfl rfl rfl ?_
    refine q_y (y_fieldAddr Try.tab 2 rfl rfl rfl rfl rfl) rfl rfl rfl ?_
    refine q_y (y_load Try.tab rfl rfl (hc2 _ (by omega))) rfl rfl rfl ?_
    refine q_y (y_lss rfl rfl) rfl rfl rfl ?_
    refine q_y (y_move rfl) rfl rfl rfl ?_
    refine q_case 72 rfl (fun c0 => ?_) (fun c0 => ?_)
    · refine q_y (y_move rfl) rfl rfl rfl ?_
      refine q_y (y_lss rfl rfl) rfl rfl rfl ?_
      refine q_y (y_pickT rfl rfl) rfl rfl rfl ?_
      refine q_y (y_move rfl) rfl rfl rfl ?_
      refine q_case 76 rfl (fun c1 => ?_) (fun c1 => ?_)
      · refine q_skip rfl rfl rfl ?_
        iterate 8 refine q_skip rfl rfl rfl ?_
        refine q_y (y_pickT rfl rfl) rfl rfl rfl ?_
        refine q_nil ?_
        exact f_chain rfl ((decide_eq_true (by simp [*])).symm) ⟨rfl, rfl, rfl, rfl, rfl, rfl, rfl, rfl, rfl, rfl, rfl, rfl, rfl, rfl, rfl, rfl, rfl, rfl, rfl, rfl, rfl, rfl, rfl, rfl, rfl, rfl, rfl, rfl, rfl, rfl, rfl, rfl, rfl, trivial⟩
      · refine q_y (y_move rfl) rfl rfl rfl ?_
        refine q_y (y_move rfl) rfl rfl rfl ?_
        refine q_y (y_indexAddr1o Try.tab rfl rfl rfl rfl _ rfl (by omega)) rfl rfl rfl ?_
        refine q_y (y_load Try.tab rfl rfl (hcf _ (by omega))) rfl rfl rfl ?_
        refine q_y (y_gtr rfl rfl) rfl rfl rfl ?_
        refine q_y (y_move rfl) rfl rfl rfl ?_
        refine q_case 82 rfl (fun c2 => ?_) (fun c2 => ?_)
        · refine q_y (y_move rfl) rfl rfl rfl ?_
          refine q_y (y_gtr rfl rfl) rfl rfl rfl ?_
          refine q_y (y_pickT rfl rfl) rfl rfl rfl ?_
          refine q_y (y_pickF rfl rfl) rfl rfl rfl ?_
          refine q_nil ?_
          exact f_chain rfl (decide_eq_decide.2 (by simp [*])) ⟨rfl, rfl, rfl, rfl, rfl, rfl, rfl, rfl, rfl, rfl, rfl, rfl, rfl, rfl, rfl, rfl, rfl, rfl, rfl, rfl, rfl, rfl, rfl, rfl, rfl, rfl, rfl, rfl, rfl, rfl, rfl, rfl, rfl, trivial⟩
        · refine q_skip rfl rfl rfl ?_
          refine q_skip rfl rfl rfl ?_
          refine q_y (y_pickF rfl rfl) rfl rfl rfl ?_
          refine q_y (y_pickF rfl rfl) rfl rfl rfl ?_
          refine q_nil ?_
          exact f_chain rfl ((decide_eq_false (by simp [*])).symm) ⟨rfl, rfl, rfl, rfl, rfl, rfl, rfl, rfl, rfl, rfl, rfl, rfl, rfl, rfl, rfl, rfl, rfl, rfl, rfl, rfl, rfl, rfl, rfl, rfl, rfl, rfl, rfl, rfl, rfl, rfl, rfl, rfl, rfl, trivial⟩
    · refine q_skip rfl rfl rfl ?_
      refine q_skip rfl rfl rfl ?_
      refine q_y (y_pickF rfl rfl) rfl rfl rfl ?_
      refine q_y (y_move rfl) rfl rfl rfl ?_
      refine q_y (y_move rfl) rfl rfl rfl ?_
      refine q_y (y_move rfl) rfl rfl rfl ?_
      refine q_y (y_indexAddr1o Try.tab rfl rfl rfl rfl _ rfl (by omega)) rfl rfl rfl ?_
      refine q_y (y_load Try.tab rfl rfl (hcf _ (by omega))) rfl rfl rfl ?_
      refine q_y (y_gtr rfl rfl) rfl rfl rfl ?_
      refine q_y (y_move rfl) rfl rfl rfl ?_
      refine q_case 82 rfl (fun c1 => ?_) (fun c1 => ?_)
      · refine q_y (y_move rfl) rfl rfl rfl ?_
        refine q_y (y_gtr rfl rfl) rfl rfl rfl ?_
        refine q_y (y_pickT rfl rfl) rfl rfl rfl ?_
        refine q_y (y_pickF rfl rfl) rfl rfl rfl ?_
        refine q_nil ?_
        exact f_chain rfl (decide_eq_decide.2 (by simp [*])) ⟨rfl, rfl, rfl, rfl, rfl, rfl, rfl, rfl, rfl, rfl, rfl, rfl, rfl, rfl, rfl, rfl, rfl, rfl, rfl, rfl, rfl, rfl, rfl, rfl, rfl, rfl, rfl, rfl, rfl, rfl, rfl, rfl, rfl, trivial⟩
      · refine q_skip rfl rfl rfl ?_
        refine q_skip rfl rfl rfl ?_
        refine q_y (y_pickF rfl rfl) rfl rfl rfl ?_
        refine q_y (y_pickF rfl rfl) rfl rfl rfl ?_
        refine q_nil ?_
        exact f_chain rfl ((decide_eq_false (by simp [*])).symm) ⟨rfl, rfl, rfl, rfl, rfl, rfl, rfl, rfl, rfl, rfl, rfl, rfl, rfl, rfl, rfl, rfl, rfl, rfl, rfl, rfl, rfl, rfl, rfl, rfl, rfl, rfl, rfl, rfl, rfl, rfl, rfl, rfl, rfl, trivial⟩
  refine c_condD rfl (fun hbad => ?_) (fun hgood => ?_)
  · refine c_seq ?_
    refine c_region ?_
    refine s_y (y_assign rfl) rfl rfl rfl ?_
    refine s_nil ?_
    refine f_then ?_
    refine c_ret ?_
    refine f_blockR ?_
    refine f_thenR ?_
    refine f_rndR ?_
    refine f_blockR ?_
    refine f_thenR ?_
    exact f_retE () (res1 rfl rfl) (by rw [decide_eq_false fun h => ?_]; have := h.cert i hin; omega) (fun w h => h)
  refine c_skip ?_
  refine f_blockN ?_
  refine f_then ?_
  refine c_region ?_
  refine s_y (y_move rfl) rfl rfl rfl ?_
  refine s_y (y_add rfl rfl (by omega)) rfl rfl rfl ?_
  refine s_y (y_assign rfl) rfl rfl rfl ?_
  refine s_nil ?_
  exact f_roundP (i + 1) ⟨hin, fun v hv => by
    by_cases e : v = i
    · subst e; omega
    · exact hok v (by omega)⟩ (by omega) ⟨rfl, rfl, rfl, rfl, rfl, trivial⟩ (fun w h => h)
end Go.KL
end

section
/- Walks: ref.Check. -/
namespace Go.KL
open Go.Proofs
attribute [local irreducible] SC St Fin Sq Sw Ylds Doos Sets Enters Spec CellIs CellsAre Then Ret Rnd Chn resOK ints bools recs arr
open Classical in
/-- What Check answers. -/
noncomputable def chk (n : Int) (na : Nat) (A : Nat → Ac) (s t fv fc : Int) (m : Nat) (f : Nat → Int) (mp : Nat) (p : Nat → Int) : Int :=
  if ¬ NetOK n na A s t then 40 else
  if ¬ (FlOK n.toNat na A s.toNat t.toNat m f ∧ 0 ≤ more (frN A) (ttN A) f na s.toNat ∧ more (frN A) (ttN A) f na s.toNat = fv) then 41 else
  if ¬ (cst (cstN A) f na = fc ∧ CertOK n.toNat na A f mp p) then 42 else 0
theorem FlOK.bds {n na s t m : Nat} {A : Nat → Ac} {f : Nat → Int} (hN : NetOK n na A s t) (h : FlOK n na A s t m f) : ∀ i, i < na → (0 ≤ f i ∧ f i ≤ 1073741824) ∧ 0 ≤ cstN A i ∧ cstN A i ≤ 1048576 := fun i hi => by
  have h1 := h.bd i hi
  have h2 := hN.arc i hi
  simp only [ArcOK, capN, cstN] at h1 h2 ⊢
  omega
open Classical in
set_option maxHeartbeats 4000000 in
theorem rcheck_spec (W : World) (Ls : List Chunk) (n s t fv fc : Int) (va vf vp : Value) (na m mp : Nat) (A : Nat → Ac) (f p : Nat → Int) (hA : SlA (K W Ls) va na A) (hF : SlI (K W Ls) vf m f) (hP : SlI (K W Ls) vp mp p) (hna : na ≤ 1000000000) :
    Spec Try.prog 20 #[.int .i64 n, va, .int .i64 s, .int .i64 t, .agg #[.int .i64 fv, .int .i64 fc, vf, vp]] (K W Ls) (fun _ : Unit => .int .i64 (chk n na A s t fv fc m f mp p)) (fun _ => K W Ls) := by
  refine enter (args := [_, _, _, _, _]) Try.func20 rfl Try.ntmps20 rfl ?_
  refine c_seq ?_
  refine c_region ?_
  refine s_do (do_box rfl) rfl rfl rfl (fun b9 => ?_)
  refine s_y (y_assign rfl) rfl rfl rfl ?_
  refine s_nil ?_
  refine f_then ?_
  refine c_seq ?_
  refine c_seq ?_
  refine c_region ?_
  refine s_y (y_move rfl) rfl rfl rfl ?_
  refine s_y (y_move rfl) rfl rfl rfl ?_
  refine s_y (y_move rfl) rfl rfl rfl ?_
  refine s_y (y_move rfl) rfl rfl rfl ?_
  have hv := rvalid_spec W ([(b9, row 28 [.int .i64 fv, .int .i64 fc, vf, vp])] :: Ls) n s t va na A (SlA.arcsV (hA.cls fun w h => h.tail)) hna
  by_cases hN : NetOK n na A s t
  rotate_left
  · rw [decide_eq_false hN] at hv
    refine s_call (en_f rfl Try.call44) hv rfl rfl rfl (fun _ => ?_)
    refine s_y (y_notF rfl) rfl rfl rfl ?_
    refine s_nil ?_
    refine f_then ?_
    refine c_condT rfl ?_
    refine c_seq ?_
    refine c_region ?_
    refine s_y (y_assign rfl) rfl rfl rfl ?_
    refine s_nil ?_
    refine f_then ?_
    refine c_ret ?_
    refine f_thenR ?_
    exact f_retE () (res1 rfl rfl) (by rw [chk, if_pos hN]) (fun w h => h.tail)
  rw [decide_eq_true hN] at hv
  refine s_call (en_f rfl Try.call44) hv rfl rfl rfl (fun _ => ?_)
  obtain ⟨n, s, t, rfl, rfl, rfl⟩ := hN.nats
  refine s_y (y_notT rfl) rfl rfl rfl ?_
  refine s_nil ?_
  refine f_then ?_
  refine c_condF rfl ?_
  refine c_skip ?_
  refine f_then ?_
  refine c_seq ?_
  refine c_region ?_
  refine s_y (y_move rfl) rfl rfl rfl ?_
  refine s_y (y_move rfl) rfl rfl rfl ?_
  refine s_y (y_move rfl) rfl rfl rfl ?_
  refine s_y (y_move rfl) rfl rfl rfl ?_
  refine s_y (y_fieldAddrB Try.tab 2 rfl rfl rfl rfl rfl) rfl rfl rfl ?_
  refine s_y (y_load Try.tab rfl rfl (cell_row 0 rfl rfl)) rfl rfl rfl ?_
  have hw := rvalue_spec W ([(b9, row 28 [.int .i64 fv, .int .i64 fc, vf, vp])] :: Ls) n s t va vf na m A f (hA.cls fun w h => h.tail) (hF.cls fun w h => h.tail) hN
  refine s_call (en_f rfl Try.call36) hw rfl rfl rfl (fun _ => ?_)
  have e2 : chk n na A s t fv fc m f mp p = if ¬ (FlOK n na A s t m f ∧ 0 ≤ more (frN A) (ttN A) f na s ∧ more (frN A) (ttN A) f na s = fv) then 41 else if ¬ (cst (cstN A) f na = fc ∧ CertOK n na A f mp p) then 42 else 0 := by
    unfold chk; rw [if_neg (not_not_intro hN)]; rfl
  rw [e2]
  refine s_y (y_move rfl) rfl rfl rfl ?_
  refine s_y (y_extract rfl rfl) rfl rfl rfl ?_
  refine s_y (y_extract rfl rfl) rfl rfl rfl ?_
  refine s_y (y_assign rfl) rfl rfl rfl ?_
  refine s_y (y_assign rfl) rfl rfl rfl ?_
  refine s_nil ?_
  refine f_then ?_
  refine c_seq ?_
  refine c_chain 36 (decide (¬ (FlOK n na A s t m f ∧ 0 ≤ more (frN A) (ttN A) f na s ∧ more (frN A) (ttN A) f na s = fv))) ?_ ?_
  · refine c_region ?_
    refine s_y (y_move rfl) rfl rfl rfl ?_
    refine s_y (y_notD rfl) rfl rfl rfl ?_
    refine s_y (y_move rfl) rfl rfl rfl ?_
    refine s_case 31 rfl (fun c0 => ?_) (fun c0 => ?_)
    · refine s_skip rfl rfl rfl ?_
      iterate 3 refine s_skip rfl rfl rfl ?_
      refine s_y (y_pickT rfl rfl) rfl rfl rfl ?_
      refine s_nil ?_
      exact f_chain rfl ((by grind)) ⟨rfl, rfl, rfl, rfl, rfl, rfl, rfl, rfl, rfl, rfl, rfl, rfl, rfl, rfl, rfl, rfl, rfl, rfl, rfl, rfl, rfl, rfl, rfl, rfl, rfl, trivial⟩
    · refine s_y (y_move rfl) rfl rfl rfl ?_
      refine s_y (y_fieldAddr0 Try.tab rfl rfl rfl rfl rfl) rfl rfl rfl ?_
      refine s_y (y_load Try.tab rfl rfl (cell_row 0 rfl rfl)) rfl rfl rfl ?_
      refine s_y (y_neq rfl rfl) rfl rfl rfl ?_
      refine s_y (y_pickF rfl rfl) rfl rfl rfl ?_
      refine s_nil ?_
      exact f_chain rfl ((by simp_all)) ⟨rfl, rfl, rfl, rfl, rfl, rfl, rfl, rfl, rfl, rfl, rfl, rfl, rfl, rfl, rfl, rfl, rfl, rfl, rfl, rfl, rfl, rfl, rfl, rfl, rfl, trivial⟩
  refine c_condD rfl (fun hbad => ?_) (fun hgood => ?_)
  · refine c_seq ?_
    refine c_region ?_
    refine s_y (y_assign rfl) rfl rfl rfl ?_
    refine s_nil ?_
    refine f_then ?_
    refine c_ret ?_
    refine f_thenR ?_
    exact f_retE () (res1 rfl rfl) (by rw [if_pos hbad]) (fun w h => h.tail)
  rw [if_neg hgood]
  obtain ⟨hF1, hF2, hF3⟩ := Classical.not_not.1 hgood
  obtain rfl := hF1.len
  have hcost := rcost_spec W ([(b9, row 28 [.int .i64 fv, .int .i64 fc, vf, vp])] :: Ls) va vf m A f (hA.cls fun w h => h.tail) (hF.cls fun w h => h.tail) hN.hna (hF1.bds hN)
  have hcert := rcert_spec W ([(b9, row 28 [.int .i64 fv, .int .i64 fc, vf, vp])] :: Ls) n s t va vf vp m mp A f p (hA.cls fun w h => h.tail) (hF.cls fun w h => h.tail) (hP.cls fun w h => h.tail) hN
  refine c_skip ?_
  refine f_then ?_
  refine c_seq ?_
  refine c_chain 53 (decide (¬ (cst (cstN A) f m = fc ∧ CertOK n m A f mp p))) ?_ ?_
  · refine c_quiet Try.mixed (by kernel_rfl) K.drew ?_
    refine q_y (y_move rfl) rfl rfl rfl ?_
    refine q_y (y_fieldAddrB Try.tab 2 rfl rfl rfl rfl rfl) rfl rfl rfl ?_
    refine q_y (y_load Try.tab rfl rfl (cell_row 0 rfl rfl)) rfl rfl rfl ?_
    refine q_call (en_f rfl Try.call37) (hcost) rfl rfl rfl ?_
    refine q_y (y_fieldAddrB Try.tab 1 rfl rfl rfl rfl rfl) rfl rfl rfl ?_
    refine q_y (y_load Try.tab rfl rfl (cell_row 0 rfl rfl)) rfl rfl rfl ?_
    refine q_y (y_neq rfl rfl) rfl rfl rfl ?_
    refine q_y (y_move rfl) rfl rfl rfl ?_
    refine q_case 44 rfl (fun c0 => ?_) (fun c0 => ?_)
    · refine q_skip rfl rfl rfl ?_
      iterate 7 refine q_skip rfl rfl rfl ?_
      refine q_y (y_pickT rfl rfl) rfl rfl rfl ?_
      refine q_nil ?_
      exact f_chain rfl ((decide_eq_true (by omega)).symm) ⟨rfl, rfl, rfl, rfl, rfl, rfl, rfl, rfl, rfl, rfl, rfl, rfl, rfl, rfl, rfl, rfl, rfl, rfl, rfl, rfl, rfl, rfl, rfl, rfl, rfl, rfl, trivial⟩
    · refine q_y (y_move rfl) rfl rfl rfl ?_
      refine q_y (y_move rfl) rfl rfl rfl ?_
      refine q_y (y_fieldAddrB Try.tab 2 rfl rfl rfl rfl rfl) rfl rfl rfl ?_
      refine q_y (y_load Try.tab rfl rfl (cell_row 0 rfl rfl)) rfl rfl rfl ?_
      refine q_y (y_fieldAddrB Try.tab 3 rfl rfl rfl rfl rfl) rfl rfl rfl ?_
      refine q_y (y_load Try.tab rfl rfl (cell_row 0 rfl rfl)) rfl rfl rfl ?_
      refine q_call (en_f rfl Try.call45) (hcert) rfl rfl rfl ?_
      refine q_y (y_notD rfl) rfl rfl rfl ?_
      refine q_y (y_pickF rfl rfl) rfl rfl rfl ?_
      refine q_nil ?_
      exact f_chain rfl ((by simp [*])) ⟨rfl, rfl, rfl, rfl, rfl, rfl, rfl, rfl, rfl, rfl, rfl, rfl, rfl, rfl, rfl, rfl, rfl, rfl, rfl, rfl, rfl, rfl, rfl, rfl, rfl, rfl, trivial⟩
  refine c_condD rfl (fun hbad2 => ?_) (fun hgood2 => ?_)
  · refine c_seq ?_
    refine c_region ?_
    refine s_y (y_assign rfl) rfl rfl rfl ?_
    refine s_nil ?_
    refine f_then ?_
    refine c_ret ?_
    refine f_thenR ?_
    exact f_retE () (res1 rfl rfl) (by rw [if_pos hbad2]) (fun w h => h.tail)
  refine c_skip ?_
  refine f_then ?_
  refine c_seq ?_
  refine c_region ?_
  refine s_y (y_assign rfl) rfl rfl rfl ?_
  refine s_nil ?_
  refine f_then ?_
  refine c_ret ?_
  exact f_retE () (res1 rfl rfl) (by rw [if_neg hgood2]) (fun w h => h.tail)
end Go.KL
end

section
/- Walks: flow.certifies, flow.Check. -/
namespace Go.KL
open Go.Proofs
attribute [local irreducible] SC St Fin Sq Sw Ylds Doos Sets Enters Spec CellIs CellsAre Then Ret Rnd Chn resOK ints bools recs arr
open Classical in
set_option maxHeartbeats 4000000 in
theorem certifies_spec (W : World) (Ls : List Chunk) (n s t : Nat) (va vf vp : Value) (fv fc : Int) (na m : Nat) (A : Nat → Ac) (f p : Nat → Int) (hA : SlA (K W Ls) va na A) (hF : SlI (K W Ls) vf na f) (hP : SlI (K W Ls) vp m p) (hN : NetOK n na A s t) :
    Spec Try.prog 49 #[.int .i64 n, va, .agg #[.int .i64 fv, .int .i64 fc, vf, vp]] (K W Ls) (fun _ : Unit => .bool (decide (CertOK n na A f m p))) (fun _ => K W Ls) := by
  obtain ⟨pa, ca, rfl, _, hcells⟩ := hA.open
  obtain ⟨pf, cf, rfl, _, hfs⟩ := SlV.open1 hF
  obtain ⟨pp, cp, rfl, _, hps⟩ := SlV.open1 hP
  have h_n := hN.hn; have h_na := hN.hna
  refine enter (args := [_, _, _]) Try.func49 rfl Try.ntmps49 rfl ?_
  refine c_seq ?_
  refine c_region ?_
  refine s_do (do_box rfl) rfl rfl rfl (fun b5 => ?_)
  refine s_y (y_assign rfl) rfl rfl rfl ?_
  refine s_nil ?_
  refine f_then ?_
  refine c_seq ?_
  refine c_seq ?_
  refine c_region ?_
  refine s_y (y_fieldAddrB Try.tab 3 rfl rfl rfl rfl rfl) rfl rfl rfl ?_
  refine s_y (y_load Try.tab rfl rfl (cell_row 0 rfl rfl)) rfl rfl rfl ?_
  refine s_y (y_len Try.tab rfl rfl) rfl rfl rfl ?_
  refine s_y (y_move rfl) rfl rfl rfl ?_
  refine s_y (y_neq rfl rfl) rfl rfl rfl ?_
  refine s_nil ?_
  refine f_then ?_
  refine c_condD rfl (fun hm => ?_) (fun hm => ?_)
  · refine c_seq ?_
    refine c_region ?_
    refine s_y (y_assign rfl) rfl rfl rfl ?_
    refine s_nil ?_
    refine f_then ?_
    refine c_ret ?_
    refine f_thenR ?_
    exact f_retE () (res1 rfl rfl) (by rw [decide_eq_false fun h => hm (by rw [h.len])]) (fun w h => h.tail)
  have hm' : m = n := by omega
  subst hm'
  clear hm
  refine c_skip ?_
  refine f_then ?_
  refine c_seq ?_
  refine c_seq ?_
  refine c_region ?_
  refine s_y (y_fieldAddrB Try.tab 3 rfl rfl rfl rfl rfl) rfl rfl rfl ?_
  refine s_y (y_load Try.tab rfl rfl (cell_row 0 rfl rfl)) rfl rfl rfl ?_
  refine s_y (y_len Try.tab rfl rfl) rfl rfl rfl ?_
  refine s_y (y_move rfl) rfl rfl rfl ?_
  refine s_nil ?_
  refine f_then ?_
  refine c_block ?_
  refine c_loopP (α := Nat) (fun z => [(0, .int .i64 m), (1, .slice pa na ca), (5, .pointer (some ⟨b5, 0, none⟩)), (18, .slice pp m cp), (19, .int .i64 m), (20, .int .i64 z)]) (fun z => z ≤ m ∧ ∀ v, v < z → -1099511627776 ≤ p v ∧ p v ≤ 1099511627776)
    (fun _ => K W ([(b5, row 28 [.int .i64 fv, .int .i64 fc, .slice pf na cf, .slice pp m cp])] :: Ls)) (fun z => m - z) 0 ⟨rfl, rfl, rfl, rfl, rfl, rfl, trivial⟩ ⟨Nat.zero_le _, fun i hi => absurd hi (Nat.not_lt_zero i)⟩ (fun w h => h) ?_
  rintro i ⟨hi, hok⟩
  refine c_seq ?_
  refine c_region ?_
  refine s_y (y_lss rfl rfl) rfl rfl rfl ?_
  refine s_nil ?_
  refine f_then ?_
  refine c_seq ?_
  refine c_condD rfl (fun hlt => ?_) (fun hge => ?_)
  · obtain ⟨bp, op, rfl, hcp⟩ := hps (by omega)
    refine c_skip ?_
    refine f_then ?_
    refine c_seq ?_
    refine c_block ?_
    refine c_seq ?_
    refine c_region ?_
    refine s_y (y_indexAddr1o Try.tab rfl rfl rfl rfl _ rfl (by omega)) rfl rfl rfl ?_
    refine s_y (y_load Try.tab rfl rfl (hcp _ (by omega)).cons) rfl rfl rfl ?_
    refine s_y (y_assign rfl) rfl rfl rfl ?_
    refine s_nil ?_
    refine f_then ?_
    refine c_seq ?_
    refine c_region ?_
    refine s_y (y_move rfl) rfl rfl rfl ?_
    refine s_call (en_f rfl Try.call46) (within_spec _ _ _ _) rfl rfl rfl (fun _ => ?_)
    refine s_y (y_notD rfl) rfl rfl rfl ?_
    refine s_nil ?_
    refine f_then ?_
    refine c_condD rfl (fun hbad => ?_) (fun hgood => ?_)
    · refine c_seq ?_
      refine c_region ?_
      refine s_y (y_assign rfl) rfl rfl rfl ?_
      refine s_nil ?_
      refine f_then ?_
      refine c_ret ?_
      refine f_blockR ?_
      refine f_thenR ?_
      refine f_rndR ?_
      refine f_blockR ?_
      refine f_thenR ?_
      exact f_retE () (res1 rfl rfl) (by rw [decide_eq_false fun h => ?_]; have := h.bd i (by omega); omega) (fun w h => h.tail)
    refine c_skip ?_
    refine f_blockN ?_
    refine f_then ?_
    refine c_region ?_
    refine s_y (y_add rfl rfl (by omega)) rfl rfl rfl ?_
    refine s_y (y_move rfl) rfl rfl rfl ?_
    refine s_nil ?_
    exact f_roundP (i + 1) ⟨by omega, fun v hv => by
      by_cases e : v = i
      · subst e; omega
      · exact hok v (by omega)⟩ (by omega) ⟨rfl, rfl, rfl, rfl, rfl, rfl, trivial⟩ (fun w h => h)
  have hpb : ∀ v, v < m → -1099511627776 ≤ p v ∧ p v ≤ 1099511627776 := fun v hv => hok v (by omega)
  clear hok hge
  refine c_exit ?_
  refine f_thenE ?_
  refine f_rndE ?_
  refine f_blockE ?_
  refine f_then ?_
  refine c_seq ?_
  refine c_seq ?_
  refine c_region ?_
  refine s_y (y_move rfl) rfl rfl rfl ?_
  refine s_y (y_len Try.tab rfl rfl) rfl rfl rfl ?_
  refine s_y (y_move rfl) rfl rfl rfl ?_
  refine s_nil ?_
  refine f_then ?_
  refine c_block ?_
  refine c_loopP (α := Nat) (fun z => [(5, .pointer (some ⟨b5, 0, none⟩)), (28, .slice pa na ca), (29, .int .i64 na), (30, .int .i64 z)]) (fun z => z ≤ na ∧ CertP z (frN A) (ttN A) (capN A) (cstN A) f p)
    (fun _ => K W ([(b5, row 28 [.int .i64 fv, .int .i64 fc, .slice pf na cf, .slice pp m cp])] :: Ls)) (fun z => na - z) 0 ⟨rfl, rfl, rfl, rfl, trivial⟩ ⟨Nat.zero_le _, fun i hi => absurd hi (Nat.not_lt_zero i)⟩ (fun w h => h) ?_
  rintro i ⟨hi, hok⟩
  refine c_seq ?_
  refine c_region ?_
  refine s_y (y_lss rfl rfl) rfl rfl rfl ?_
  refine s_nil ?_
  refine f_then ?_
  refine c_seq ?_
  refine c_condD rfl (fun hlt => ?_) (fun hge => ?_)
  rotate_left
  · refine c_exit ?_
    refine f_thenE ?_
    refine f_rndE ?_
    refine f_blockE ?_
    refine f_then ?_
    refine c_seq ?_
    refine c_region ?_
    refine s_y (y_assign rfl) rfl rfl rfl ?_
    refine s_nil ?_
    refine f_then ?_
    refine c_ret ?_
    have him : i = na := by omega
    subst him
    exact f_retE () (res1 rfl rfl) (by rw [decide_eq_true ⟨rfl, hpb, hok⟩]) (fun w h => h.tail)
  have hin : i < na := by omega
  obtain ⟨ba, oa, rfl, hca, hc0, hc1, hc2, hc3⟩ := hcells (by omega)
  obtain ⟨bf, of, rfl, hcf⟩ := hfs (by omega)
  obtain ⟨bp, op, rfl, hcp⟩ := hps (by omega)
  have harc := hN.arc i hin
  unfold ArcOK at harc
  have hp1 := hpb (A i).1.toNat (by omega)
  have hp2 := hpb (A i).2.1.toNat (by omega)
  refine c_skip ?_
  refine f_then ?_
  refine c_seq ?_
  refine c_block ?_
  refine c_seq ?_
  refine c_region ?_
  refine s_y (y_move rfl) rfl rfl rfl ?_
  refine s_y (y_indexAddr (s := 4) Try.tab rfl rfl rfl rfl _ rfl (by omega)) rfl rfl rfl ?_
  refine s_y (y_loadA Try.tab rfl rfl rfl rfl (hca _ (by omega)).cons) rfl rfl rfl ?_
  refine s_do (do_alloc Try.tab rfl) rfl rfl rfl (fun b10 => ?_)
  refine s_y (y_assign rfl) rfl rfl rfl ?_
  refine s_set (set_box Try.tab 0 rfl rfl rfl rfl rfl rfl rfl) rfl rfl ?_
  refine s_nil ?_
  refine f_then ?_
  refine c_seq ?_
  refine c_quiet Try.mixed (by kernel_rfl) K.drew ?_
  refine q_y (y_fieldAddrB Try.tab 3 rfl rfl rfl rfl rfl) rfl rfl rfl ?_
  refine q_y (y_load Try.tab rfl rfl (cell_row 0 rfl rfl)) rfl rfl rfl ?_
  refine q_y (y_fieldAddrB Try.tab 3 rfl rfl rfl rfl rfl) rfl rfl rfl ?_
  refine q_y (y_load Try.tab rfl rfl (cell_row 1 rfl rfl)) rfl rfl rfl ?_
  refine q_y (y_fieldAddr0 Try.tab rfl rfl rfl rfl rfl) rfl rfl rfl ?_
  refine q_y (y_load Try.tab rfl rfl (cell_row 0 rfl rfl)) rfl rfl rfl ?_
  refine q_y (y_indexAddr1o Try.tab rfl rfl rfl rfl _ (Int.toNat_of_nonneg (by omega)).symm (by omega)) rfl rfl rfl ?_
  refine q_y (y_load Try.tab rfl rfl (hcp _ (by omega)).cons.cons) rfl rfl rfl ?_
  refine q_y (y_add rfl rfl (by omega)) rfl rfl rfl ?_
  refine q_y (y_fieldAddrB Try.tab 3 rfl rfl rfl rfl rfl) rfl rfl rfl ?_
  refine q_y (y_load Try.tab rfl rfl (cell_row 1 rfl rfl)) rfl rfl rfl ?_
  refine q_y (y_fieldAddrB Try.tab 1 rfl rfl rfl rfl rfl) rfl rfl rfl ?_
  refine q_y (y_load Try.tab rfl rfl (cell_row 0 rfl rfl)) rfl rfl rfl ?_
  refine q_y (y_indexAddr1o Try.tab rfl rfl rfl rfl _ (Int.toNat_of_nonneg (by omega)).symm (by omega)) rfl rfl rfl ?_
  refine q_y (y_load Try.tab rfl rfl (hcp _ (by omega)).cons.cons) rfl rfl rfl ?_
  refine q_y (y_sub rfl rfl (by omega)) rfl rfl rfl ?_
  refine q_y (y_assign rfl) rfl rfl rfl ?_
  refine q_nil ?_
  refine f_then ?_
  refine c_chain 74 (decide (f i < capN A i ∧ cstN A i + p (frN A i) - p (ttN A i) < 0 ∨ 0 < f i ∧ 0 < cstN A i + p (frN A i) - p (ttN A i))) ?_ ?_
  · refine c_quiet Try.mixed (by kernel_rfl) K.drew ?_
    refine q_y (y_move rfl) rfl rfl rfl ?_
    refine q_y (y_lss rfl rfl) rfl rfl rfl ?_
    refine q_y (y_move rfl) rfl rfl rfl ?_
    refine q_case 53 rfl (fun c0 => ?_) (fun c0 => ?_)
    · refine q_y (y_fieldAddrB Try.tab 2 rfl rfl rfl rfl rfl) rfl rfl rfl ?_
      refine q_y (y_load Try.tab rfl rfl (cell_row 1 rfl rfl)) rfl rfl rfl ?_
      refine q_y (y_move rfl) rfl rfl rfl ?_
      refine q_y (y_indexAddr1o Try.tab rfl rfl rfl rfl _ rfl (by omega)) rfl rfl rfl ?_
      refine q_y (y_load Try.tab rfl rfl (hcf _ (by omega)).cons.cons) rfl rfl rfl ?_
      refine q_y (y_fieldAddrB Try.tab 2 rfl rfl rfl rfl rfl) rfl rfl rfl ?_
      refine q_y (y_load Try.tab rfl rfl (cell_row 0 rfl rfl)) rfl rfl rfl ?_
      refine q_y (y_lss rfl rfl) rfl rfl rfl ?_
      refine q_y (y_pickT rfl rfl) rfl rfl rfl ?_
      refine q_y (y_move rfl) rfl rfl rfl ?_
      refine q_case 63 rfl (fun c1 => ?_) (fun c1 => ?_)
      · refine q_skip rfl rfl rfl ?_
        iterate 9 refine q_skip rfl rfl rfl ?_
        refine q_y (y_pickT rfl rfl) rfl rfl rfl ?_
        refine q_nil ?_
        exact f_chain rfl ((decide_eq_true (by simp [*])).symm) ⟨rfl, rfl, rfl, rfl, rfl, rfl, rfl, rfl, rfl, rfl, rfl, rfl, rfl, rfl, rfl, rfl, rfl, rfl, rfl, rfl, rfl, rfl, rfl, rfl, rfl, rfl, rfl, trivial⟩
      · refine q_y (y_move rfl) rfl rfl rfl ?_
        refine q_y (y_F (y_gtr rfl rfl) (by omega)) rfl rfl rfl ?_
        refine q_y (y_move rfl) rfl rfl rfl ?_
        iterate 6 refine q_skip rfl rfl rfl ?_
        refine q_y (y_pickF rfl rfl) rfl rfl rfl ?_
        refine q_y (y_pickF rfl rfl) rfl rfl rfl ?_
        refine q_nil ?_
        exact f_chain rfl ((by grind)) ⟨rfl, rfl, rfl, rfl, rfl, rfl, rfl, rfl, rfl, rfl, rfl, rfl, rfl, rfl, rfl, rfl, rfl, rfl, rfl, rfl, rfl, rfl, rfl, rfl, rfl, rfl, rfl, trivial⟩
    · refine q_skip rfl rfl rfl ?_
      iterate 7 refine q_skip rfl rfl rfl ?_
      refine q_y (y_pickF rfl rfl) rfl rfl rfl ?_
      refine q_y (y_move rfl) rfl rfl rfl ?_
      refine q_y (y_move rfl) rfl rfl rfl ?_
      refine q_y (y_gtr rfl rfl) rfl rfl rfl ?_
      refine q_y (y_move rfl) rfl rfl rfl ?_
      refine q_case 66 rfl (fun c1 => ?_) (fun c1 => ?_)
      · refine q_y (y_fieldAddrB Try.tab 2 rfl rfl rfl rfl rfl) rfl rfl rfl ?_
        refine q_y (y_load Try.tab rfl rfl (cell_row 1 rfl rfl)) rfl rfl rfl ?_
        refine q_y (y_move rfl) rfl rfl rfl ?_
        refine q_y (y_indexAddr1o Try.tab rfl rfl rfl rfl _ rfl (by omega)) rfl rfl rfl ?_
        refine q_y (y_load Try.tab rfl rfl (hcf _ (by omega)).cons.cons) rfl rfl rfl ?_
        refine q_y (y_gtr rfl rfl) rfl rfl rfl ?_
        refine q_y (y_pickT rfl rfl) rfl rfl rfl ?_
        refine q_y (y_pickF rfl rfl) rfl rfl rfl ?_
        refine q_nil ?_
        exact f_chain rfl ((by grind)) ⟨rfl, rfl, rfl, rfl, rfl, rfl, rfl, rfl, rfl, rfl, rfl, rfl, rfl, rfl, rfl, rfl, rfl, rfl, rfl, rfl, rfl, rfl, rfl, rfl, rfl, rfl, rfl, trivial⟩
      · refine q_skip rfl rfl rfl ?_
        iterate 5 refine q_skip rfl rfl rfl ?_
        refine q_y (y_pickF rfl rfl) rfl rfl rfl ?_
        refine q_y (y_pickF rfl rfl) rfl rfl rfl ?_
        refine q_nil ?_
        exact f_chain rfl ((by simp_all)) ⟨rfl, rfl, rfl, rfl, rfl, rfl, rfl, rfl, rfl, rfl, rfl, rfl, rfl, rfl, rfl, rfl, rfl, rfl, rfl, rfl, rfl, rfl, rfl, rfl, rfl, rfl, rfl, trivial⟩
  refine c_condD rfl (fun hbad => ?_) (fun hgood => ?_)
  · refine c_seq ?_
    refine c_region ?_
    refine s_y (y_assign rfl) rfl rfl rfl ?_
    refine s_nil ?_
    refine f_then ?_
    refine c_ret ?_
    refine f_blockR ?_
    refine f_thenR ?_
    refine f_rndR ?_
    refine f_blockR ?_
    refine f_thenR ?_
    exact f_retE () (res1 rfl rfl) (by rw [decide_eq_false fun h => ?_]; have := h.cert i hin; omega) (fun w h => h.tail.tail)
  refine c_skip ?_
  refine f_blockN ?_
  refine f_then ?_
  refine c_region ?_
  refine s_y (y_add rfl rfl (by omega)) rfl rfl rfl ?_
  refine s_y (y_move rfl) rfl rfl rfl ?_
  refine s_nil ?_
  exact f_roundP (i + 1) ⟨hin, fun v hv => by
    by_cases e : v = i
    · subst e; omega
    · exact hok v (by omega)⟩ (by omega) ⟨rfl, rfl, rfl, rfl, trivial⟩ (fun w h => h.tail)
theorem nmore_upd (fr tt : Nat → Nat) (f : Nat → Int) (i : Nat) (hne : fr i ≠ tt i) : upd (upd (fun u => - more fr tt f i u) (fr i) (- more fr tt f i (fr i) - f i)) (tt i) (upd (fun u => - more fr tt f i u) (fr i) (- more fr tt f i (fr i) - f i) (tt i) + f i) = fun u => - more fr tt f (i + 1) u := by
  funext u
  rw [upd_ne _ _ (fun e => hne e.symm), more_succ]
  simp only [upd]
  by_cases e1 : u = tt i
  · subst e1
    simp only [if_true, if_neg hne]; omega
  · by_cases e2 : u = fr i
    · subst e2
      have e3 : ¬ tt i = fr i := fun e => hne e.symm
      simp only [if_neg e1, if_neg e3, if_true]; omega
    · have e3 : ¬ fr i = u := fun e => e2 e.symm
      have e4 : ¬ tt i = u := fun e => e1 e.symm
      simp only [if_neg e1, if_neg e2, if_neg e3, if_neg e4]; omega
theorem FlOK.flw {n na s t m : Nat} {A : Nat → Ac} {f : Nat → Int} (h : FlOK n na A s t m f) : Flw n na s t (frN A) (ttN A) (capN A) 1 f (more (frN A) (ttN A) f na s) :=
  ⟨fun i hi => by have := h.bd i hi; omega, h.mid, rfl⟩
open Classical in
set_option maxHeartbeats 4000000 in
theorem check_spec (W : World) (Ls : List Chunk) (n s t fv fc : Int) (va vf vp : Value) (na m mp : Nat) (A : Nat → Ac) (f p : Nat → Int) (hA : SlA (K W Ls) va na A) (hF : SlI (K W Ls) vf m f) (hP : SlI (K W Ls) vp mp p) (hna : na ≤ 1000000000) :
    Spec Try.prog 35 #[.int .i64 n, va, .int .i64 s, .int .i64 t, .agg #[.int .i64 fv, .int .i64 fc, vf, vp]] (K W Ls) (fun _ : Unit => .int .i64 (chk n na A s t fv fc m f mp p)) (fun _ => K W Ls) := by
  obtain ⟨pa, ca, rfl, _, hcells⟩ := hA.open
  obtain ⟨pf, cf, rfl, _, hfs⟩ := SlV.open1 hF
  refine enter (args := [_, _, _, _, _]) Try.func35 rfl Try.ntmps35 rfl ?_
  refine c_seq ?_
  refine c_region ?_
  refine s_do (do_box rfl) rfl rfl rfl (fun b9 => ?_)
  refine s_y (y_assign rfl) rfl rfl rfl ?_
  refine s_nil ?_
  refine f_then ?_
  refine c_seq ?_
  refine c_seq ?_
  refine c_region ?_
  refine s_y (y_move rfl) rfl rfl rfl ?_
  refine s_y (y_move rfl) rfl rfl rfl ?_
  refine s_y (y_move rfl) rfl rfl rfl ?_
  refine s_y (y_move rfl) rfl rfl rfl ?_
  have hv := valid_spec W ([(b9, row 28 [.int .i64 fv, .int .i64 fc, .slice pf m cf, vp])] :: Ls) n s t (.slice pa na ca) na A (SlA.arcsV (hA.cls fun w h => h.tail)) hna
  by_cases hN : NetOK n na A s t
  rotate_left
  · rw [decide_eq_false hN] at hv
    refine s_call (en_f rfl Try.call39) hv rfl rfl rfl (fun _ => ?_)
    refine s_y (y_notF rfl) rfl rfl rfl ?_
    refine s_nil ?_
    refine f_then ?_
    refine c_condT rfl ?_
    refine c_seq ?_
    refine c_region ?_
    refine s_y (y_assign rfl) rfl rfl rfl ?_
    refine s_nil ?_
    refine f_then ?_
    refine c_ret ?_
    refine f_thenR ?_
    exact f_retE () (res1 rfl rfl) (by rw [chk, if_pos hN]) (fun w h => h.tail)
  rw [decide_eq_true hN] at hv
  refine s_call (en_f rfl Try.call39) hv rfl rfl rfl (fun _ => ?_)
  obtain ⟨n, s, t, rfl, rfl, rfl⟩ := hN.nats
  have e2 : chk n na A s t fv fc m f mp p = if ¬ (FlOK n na A s t m f ∧ 0 ≤ more (frN A) (ttN A) f na s ∧ more (frN A) (ttN A) f na s = fv) then 41 else if ¬ (cst (cstN A) f na = fc ∧ CertOK n na A f mp p) then 42 else 0 := by
    unfold chk; rw [if_neg (not_not_intro hN)]; rfl
  rw [e2]
  clear e2 hv
  have h_n := hN.hn; have h_na := hN.hna; have h_s := hN.hs; have h_t := hN.ht; have h_st := hN.ne
  refine s_y (y_notT rfl) rfl rfl rfl ?_
  refine s_nil ?_
  refine f_then ?_
  refine c_condF rfl ?_
  refine c_skip ?_
  refine f_then ?_
  refine c_seq ?_
  refine c_seq ?_
  refine c_region ?_
  refine s_y (y_fieldAddrB Try.tab 2 rfl rfl rfl rfl rfl) rfl rfl rfl ?_
  refine s_y (y_load Try.tab rfl rfl (cell_row 0 rfl rfl)) rfl rfl rfl ?_
  refine s_y (y_len Try.tab rfl rfl) rfl rfl rfl ?_
  refine s_y (y_move rfl) rfl rfl rfl ?_
  refine s_y (y_len Try.tab rfl rfl) rfl rfl rfl ?_
  refine s_y (y_neq rfl rfl) rfl rfl rfl ?_
  refine s_nil ?_
  refine f_then ?_
  refine c_condD rfl (fun hm => ?_) (fun hm => ?_)
  · refine c_seq ?_
    refine c_region ?_
    refine s_y (y_assign rfl) rfl rfl rfl ?_
    refine s_nil ?_
    refine f_then ?_
    refine c_ret ?_
    refine f_thenR ?_
    exact f_retE () (res1 rfl rfl) (by rw [if_pos fun h => hm (by rw [h.1.len])]) (fun w h => h.tail)
  have hm' : m = na := by omega
  subst hm'
  clear hm
  refine c_skip ?_
  refine f_then ?_
  refine c_seq ?_
  refine c_region ?_
  refine s_y (y_move rfl) rfl rfl rfl ?_
  refine s_do (make_ints (by_ := 8) Try.tab rfl rfl rfl rfl rfl rfl (by omega)) rfl rfl rfl (fun b30 => ?_)
  refine s_y (y_assign rfl) rfl rfl rfl ?_
  refine s_nil ?_
  refine f_then ?_
  refine c_seq ?_
  refine c_region ?_
  refine s_y (y_assign rfl) rfl rfl rfl ?_
  refine s_nil ?_
  refine f_then ?_
  refine c_seq ?_
  refine c_seq ?_
  refine c_region ?_
  refine s_y (y_move rfl) rfl rfl rfl ?_
  refine s_y (y_len Try.tab rfl rfl) rfl rfl rfl ?_
  refine s_y (y_move rfl) rfl rfl rfl ?_
  refine s_nil ?_
  refine f_then ?_
  refine c_block ?_
  refine c_loopP (α := Nat) (fun z => [(0, .int .i64 n), (1, .slice pa m ca), (2, .int .i64 s), (3, .int .i64 t), (9, .pointer (some ⟨b9, 0, none⟩)), (11, .slice (some ⟨b30, 0, none⟩) n n), (12, .int .i64 (cst (cstN A) f z)), (31, .slice pa m ca), (32, .int .i64 m), (33, .int .i64 z)]) (fun z => z ≤ m ∧ ∀ i, i < z → 0 ≤ f i ∧ f i ≤ capN A i)
    (fun z => K W ([(b30, ints 3 n (fun u => - more (frN A) (ttN A) f z u) [])] :: [(b9, row 28 [.int .i64 fv, .int .i64 fc, .slice pf m cf, vp])] :: Ls)) (fun z => m - z) 0
    ⟨rfl, rfl, rfl, rfl, rfl, rfl, rfl, rfl, rfl, rfl, trivial⟩ ⟨Nat.zero_le _, fun i hi => absurd hi (Nat.not_lt_zero i)⟩ (fun w h => h) ?_
  rintro i ⟨hi, hok⟩
  refine c_seq ?_
  refine c_region ?_
  refine s_y (y_lss rfl rfl) rfl rfl rfl ?_
  refine s_nil ?_
  refine f_then ?_
  refine c_seq ?_
  refine c_condD rfl (fun hlt => ?_) (fun hge => ?_)
  · have hin : i < m := by omega
    obtain ⟨ba, oa, rfl, hca, hc0, hc1, hc2, hc3⟩ := hcells (by omega)
    obtain ⟨bf, of, rfl, hcf⟩ := hfs (by omega)
    have harc := hN.arc i hin
    unfold ArcOK at harc
    refine c_skip ?_
    refine f_then ?_
    refine c_seq ?_
    refine c_block ?_
    refine c_seq ?_
    refine c_region ?_
    refine s_y (y_move rfl) rfl rfl rfl ?_
    refine s_y (y_indexAddr (s := 4) Try.tab rfl rfl rfl rfl _ rfl (by omega)) rfl rfl rfl ?_
    refine s_y (y_loadA Try.tab rfl rfl rfl rfl (hca _ (by omega)).cons.cons) rfl rfl rfl ?_
    refine s_do (do_alloc Try.tab rfl) rfl rfl rfl (fun b14 => ?_)
    refine s_y (y_assign rfl) rfl rfl rfl ?_
    refine s_set (set_box Try.tab 0 rfl rfl rfl rfl rfl rfl rfl) rfl rfl ?_
    refine s_nil ?_
    refine f_then ?_
    refine c_seq ?_
    refine c_seq ?_
    refine c_quiet Try.mixed (by kernel_rfl) K.drew ?_
    refine q_y (y_fieldAddrB Try.tab 2 rfl rfl rfl rfl rfl) rfl rfl rfl ?_
    refine q_y (y_load Try.tab rfl rfl (cell_row 2 rfl rfl)) rfl rfl rfl ?_
    refine q_y (y_move rfl) rfl rfl rfl ?_
    refine q_y (y_indexAddr1o Try.tab rfl rfl rfl rfl _ rfl (by omega)) rfl rfl rfl ?_
    refine q_y (y_load Try.tab rfl rfl (hcf _ (by omega)).cons.cons.cons) rfl rfl rfl ?_
    refine q_y (y_fieldAddrB Try.tab 2 rfl rfl rfl rfl rfl) rfl rfl rfl ?_
    refine q_y (y_load Try.tab rfl rfl (cell_row 0 rfl rfl)) rfl rfl rfl ?_
    refine q_call (en_f rfl Try.call46) (within_spec _ _ _ _) rfl rfl rfl ?_
    refine q_y (y_notD rfl) rfl rfl rfl ?_
    refine q_nil ?_
    refine f_then ?_
    refine c_condD rfl (fun hbad => ?_) (fun hgood => ?_)
    · refine c_seq ?_
      refine c_region ?_
      refine s_y (y_assign rfl) rfl rfl rfl ?_
      refine s_nil ?_
      refine f_then ?_
      refine c_ret ?_
      refine f_thenR ?_
      refine f_blockR ?_
      refine f_thenR ?_
      refine f_rndR ?_
      refine f_blockR ?_
      refine f_thenR ?_
      have hno : ¬ FlOK n m A s t m f := fun h => by have := h.bd i hin; simp only [capN] at this; omega
      exact f_retE () (res1 rfl rfl) (by rw [if_pos fun h => hno h.1]) (fun w h => h.tail.tail.tail)
    have hfc : 0 ≤ f i ∧ f i ≤ (A i).2.2.1 := by omega
    have hbd := more_bd (frN A) (ttN A) f 1073741824 (by omega) i (fun j hj => by have := hok j hj; have := (hN.arc j (by omega)).2.2.2.1; simp only [capN] at *; omega)
    have hb1 := hbd (A i).1.toNat
    have hne : frN A i ≠ ttN A i := by simp only [frN, ttN]; omega
    have hb2 : upd (fun u => - more (frN A) (ttN A) f i u) (A i).1.toNat (- more (frN A) (ttN A) f i (A i).1.toNat - f i) (A i).2.1.toNat = - more (frN A) (ttN A) f i (A i).2.1.toNat := upd_ne _ _ (fun e => hne e.symm)
    have hb3 := hbd (A i).2.1.toNat
    have hb4 : -(i * 1073741824) ≤ upd (fun u => - more (frN A) (ttN A) f i u) (A i).1.toNat (- more (frN A) (ttN A) f i (A i).1.toNat - f i) (A i).2.1.toNat ∧ upd (fun u => - more (frN A) (ttN A) f i u) (A i).1.toNat (- more (frN A) (ttN A) f i (A i).1.toNat - f i) (A i).2.1.toNat ≤ i * 1073741824 := by rw [hb2]; omega
    have hq1 := mul_bd (a := f i) (b := (A i).2.2.2) (by omega) (by omega)
    have hq2 := cst_bd (c := cstN A) (f := f) i (fun j hj => by have := hok j hj; have := hN.arc j (by omega); simp only [capN, cstN, ArcOK] at *; omega)
    refine c_skip ?_
    refine f_then ?_
    refine c_seq ?_
    refine c_tail 12 Try.mixed (by kernel_rfl) K.drew ?_
    refine w_y (y_move rfl) rfl rfl rfl ?_
    refine w_y (y_fieldAddr0 Try.tab rfl rfl rfl rfl rfl) rfl rfl rfl ?_
    refine w_y (y_load Try.tab rfl rfl (cell_row 0 rfl rfl)) rfl rfl rfl ?_
    refine w_y (y_indexAddr1 Try.tab rfl rfl rfl rfl _ (Int.toNat_of_nonneg (by omega)).symm (by omega)) rfl rfl rfl ?_
    refine w_y (y_load Try.tab rfl rfl (cell_ints 1 rfl (by omega))) rfl rfl rfl ?_
    refine w_y (y_fieldAddrB Try.tab 2 rfl rfl rfl rfl rfl) rfl rfl rfl ?_
    refine w_y (y_load Try.tab rfl rfl (cell_row 2 rfl rfl)) rfl rfl rfl ?_
    refine w_y (y_move rfl) rfl rfl rfl ?_
    refine w_y (y_indexAddr1o Try.tab rfl rfl rfl rfl _ rfl (by omega)) rfl rfl rfl ?_
    refine w_y (y_load Try.tab rfl rfl (hcf _ (by omega)).cons.cons.cons) rfl rfl rfl ?_
    refine w_y (y_sub rfl rfl (by omega)) rfl rfl rfl ?_
    refine w_y (y_indexAddr1 Try.tab rfl rfl rfl rfl _ (Int.toNat_of_nonneg (by omega)).symm (by omega)) rfl rfl rfl ?_
    refine w_nil ?_
    refine s_set (set_ints Try.tab 1 rfl rfl rfl rfl (by omega)) rfl rfl ?_
    refine s_nil ?_
    refine f_then ?_
    refine c_seq ?_
    refine c_tail 12 Try.mixed (by kernel_rfl) K.drew ?_
    refine w_y (y_move rfl) rfl rfl rfl ?_
    refine w_y (y_fieldAddrB Try.tab 1 rfl rfl rfl rfl rfl) rfl rfl rfl ?_
    refine w_y (y_load Try.tab rfl rfl (cell_row 0 rfl rfl)) rfl rfl rfl ?_
    refine w_y (y_indexAddr1 Try.tab rfl rfl rfl rfl _ (Int.toNat_of_nonneg (by omega)).symm (by omega)) rfl rfl rfl ?_
    refine w_y (y_load Try.tab rfl rfl (cell_ints 1 rfl (by omega))) rfl rfl rfl ?_
    refine w_y (y_fieldAddrB Try.tab 2 rfl rfl rfl rfl rfl) rfl rfl rfl ?_
    refine w_y (y_load Try.tab rfl rfl (cell_row 2 rfl rfl)) rfl rfl rfl ?_
    refine w_y (y_move rfl) rfl rfl rfl ?_
    refine w_y (y_indexAddr1o Try.tab rfl rfl rfl rfl _ rfl (by omega)) rfl rfl rfl ?_
    refine w_y (y_load Try.tab rfl rfl (hcf _ (by omega)).cons.cons.cons) rfl rfl rfl ?_
    refine w_y (y_add rfl rfl (by omega)) rfl rfl rfl ?_
    refine w_y (y_indexAddr1 Try.tab rfl rfl rfl rfl _ (Int.toNat_of_nonneg (by omega)).symm (by omega)) rfl rfl rfl ?_
    refine w_nil ?_
    refine s_set (set_ints Try.tab 1 rfl rfl rfl rfl (by omega)) rfl rfl ?_
    refine s_nil ?_
    refine f_then ?_
    refine c_quiet Try.mixed (by kernel_rfl) K.drew ?_
    refine q_y (y_move rfl) rfl rfl rfl ?_
    refine q_y (y_fieldAddrB Try.tab 2 rfl rfl rfl rfl rfl) rfl rfl rfl ?_
    refine q_y (y_load Try.tab rfl rfl (cell_row 2 rfl rfl)) rfl rfl rfl ?_
    refine q_y (y_move rfl) rfl rfl rfl ?_
    refine q_y (y_indexAddr1o Try.tab rfl rfl rfl rfl _ rfl (by omega)) rfl rfl rfl ?_
    refine q_y (y_load Try.tab rfl rfl (hcf _ (by omega)).cons.cons.cons) rfl rfl rfl ?_
    refine q_y (y_fieldAddrB Try.tab 3 rfl rfl rfl rfl rfl) rfl rfl rfl ?_
    refine q_y (y_load Try.tab rfl rfl (cell_row 0 rfl rfl)) rfl rfl rfl ?_
    refine q_y (y_mul rfl rfl (by omega)) rfl rfl rfl ?_
    refine q_y (y_add rfl rfl (by omega)) rfl rfl rfl ?_
    refine q_y (y_assign rfl) rfl rfl rfl ?_
    refine q_nil ?_
    refine f_blockN ?_
    refine f_then ?_
    refine c_region ?_
    refine s_y (y_add rfl rfl (by omega)) rfl rfl rfl ?_
    refine s_y (y_move rfl) rfl rfl rfl ?_
    refine s_nil ?_
    refine f_roundP (i + 1) ⟨hin, fun j hj => ?_⟩ (by omega) ⟨rfl, rfl, rfl, rfl, rfl, rfl, rfl, rfl, rfl, rfl, trivial⟩ (fun w h => ?_)
    · by_cases e : j = i
      · subst e; exact hfc
      · exact hok j (by omega)
    · rw [← nmore_upd (frN A) (ttN A) f i hne]; exact h.tail
  have hall : ∀ j, j < m → 0 ≤ f j ∧ f j ≤ capN A j := fun j hj => hok j (by omega)
  have him : i = m := by omega
  subst him
  refine c_exit ?_
  refine f_thenE ?_
  refine f_rndE ?_
  refine f_blockE ?_
  refine f_then ?_
  refine c_seq ?_
  refine c_seq ?_
  refine c_region ?_
  refine s_y (y_move rfl) rfl rfl rfl ?_
  refine s_y (y_len Try.tab rfl rfl) rfl rfl rfl ?_
  refine s_y (y_move rfl) rfl rfl rfl ?_
  refine s_nil ?_
  refine f_then ?_
  refine c_block ?_
  refine c_loopP (α := Nat) (fun z => [(0, .int .i64 n), (1, .slice pa i ca), (2, .int .i64 s), (3, .int .i64 t), (9, .pointer (some ⟨b9, 0, none⟩)), (11, .slice (some ⟨b30, 0, none⟩) n n), (12, .int .i64 (cst (cstN A) f i)), (82, .slice (some ⟨b30, 0, none⟩) n n), (83, .int .i64 n), (84, .int .i64 z)]) (fun z => z ≤ n ∧ ∀ u, u < z → u ≠ s → u ≠ t → more (frN A) (ttN A) f i u = 0)
    (fun _ => K W ([(b30, ints 3 n (fun u => - more (frN A) (ttN A) f i u) [])] :: [(b9, row 28 [.int .i64 fv, .int .i64 fc, .slice pf i cf, vp])] :: Ls)) (fun z => n - z) 0
    ⟨rfl, rfl, rfl, rfl, rfl, rfl, rfl, rfl, rfl, rfl, trivial⟩ ⟨Nat.zero_le _, fun i hi => absurd hi (Nat.not_lt_zero i)⟩ (fun w h => h) ?_
  rintro v ⟨hv, hmid⟩
  refine c_seq ?_
  refine c_region ?_
  refine s_y (y_lss rfl rfl) rfl rfl rfl ?_
  refine s_nil ?_
  refine f_then ?_
  refine c_seq ?_
  refine c_condD rfl (fun hvlt => ?_) (fun hvge => ?_)
  · refine c_skip ?_
    refine f_then ?_
    refine c_seq ?_
    refine c_block ?_
    refine c_seq ?_
    refine c_region ?_
    refine s_y (y_move rfl) rfl rfl rfl ?_
    refine s_y (y_indexAddr1 Try.tab rfl rfl rfl rfl _ rfl (by omega)) rfl rfl rfl ?_
    refine s_y (y_load Try.tab rfl rfl (cell_ints 0 rfl (by omega))) rfl rfl rfl ?_
    refine s_y (y_assign rfl) rfl rfl rfl ?_
    refine s_y (y_assign rfl) rfl rfl rfl ?_
    refine s_nil ?_
    refine f_then ?_
    refine c_chain 100 (decide (v ≠ s ∧ v ≠ t ∧ more (frN A) (ttN A) f i v ≠ 0)) ?_ ?_
    · refine c_region ?_
      refine s_y (y_move rfl) rfl rfl rfl ?_
      refine s_y (y_move rfl) rfl rfl rfl ?_
      refine s_y (y_neq rfl rfl) rfl rfl rfl ?_
      refine s_y (y_move rfl) rfl rfl rfl ?_
      refine s_case 92 rfl (fun c0 => ?_) (fun c0 => ?_)
      · refine s_y (y_move rfl) rfl rfl rfl ?_
        refine s_y (y_move rfl) rfl rfl rfl ?_
        refine s_y (y_neq rfl rfl) rfl rfl rfl ?_
        refine s_y (y_pickT rfl rfl) rfl rfl rfl ?_
        refine s_y (y_move rfl) rfl rfl rfl ?_
        refine s_case 97 rfl (fun c1 => ?_) (fun c1 => ?_)
        · refine s_y (y_move rfl) rfl rfl rfl ?_
          refine s_y (y_neq rfl rfl) rfl rfl rfl ?_
          refine s_y (y_pickT rfl rfl) rfl rfl rfl ?_
          refine s_nil ?_
          exact f_chain rfl (decide_eq_decide.2 (by omega)) ⟨rfl, rfl, rfl, rfl, rfl, rfl, rfl, rfl, rfl, rfl, rfl, rfl, rfl, rfl, rfl, rfl, trivial⟩
        · refine s_skip rfl rfl rfl ?_
          refine s_skip rfl rfl rfl ?_
          refine s_y (y_pickF rfl rfl) rfl rfl rfl ?_
          refine s_nil ?_
          exact f_chain rfl ((decide_eq_false (by omega)).symm) ⟨rfl, rfl, rfl, rfl, rfl, rfl, rfl, rfl, rfl, rfl, rfl, rfl, rfl, rfl, rfl, rfl, trivial⟩
      · refine s_skip rfl rfl rfl ?_
        iterate 2 refine s_skip rfl rfl rfl ?_
        refine s_y (y_pickF rfl rfl) rfl rfl rfl ?_
        refine s_y (y_move rfl) rfl rfl rfl ?_
        iterate 2 refine s_skip rfl rfl rfl ?_
        refine s_y (y_pickF rfl rfl) rfl rfl rfl ?_
        refine s_nil ?_
        exact f_chain rfl ((decide_eq_false (by omega)).symm) ⟨rfl, rfl, rfl, rfl, rfl, rfl, rfl, rfl, rfl, rfl, rfl, rfl, rfl, rfl, rfl, rfl, trivial⟩
    refine c_condD rfl (fun hbad => ?_) (fun hgood => ?_)
    · refine c_seq ?_
      refine c_region ?_
      refine s_y (y_assign rfl) rfl rfl rfl ?_
      refine s_nil ?_
      refine f_then ?_
      refine c_ret ?_
      refine f_blockR ?_
      refine f_thenR ?_
      refine f_rndR ?_
      refine f_blockR ?_
      refine f_thenR ?_
      have hno : ¬ FlOK n i A s t i f := fun h => hbad.2.2 (h.mid v (by omega) hbad.1 hbad.2.1)
      exact f_retE () (res1 rfl rfl) (by rw [if_pos fun h => hno h.1]) (fun w h => h.tail.tail)
    refine c_skip ?_
    refine f_blockN ?_
    refine f_then ?_
    refine c_region ?_
    refine s_y (y_add rfl rfl (by omega)) rfl rfl rfl ?_
    refine s_y (y_move rfl) rfl rfl rfl ?_
    refine s_nil ?_
    exact f_roundP (v + 1) ⟨by omega, fun u hu h1 h2 => by
      by_cases e : u = v
      · subst e; exact Classical.byContradiction fun h3 => hgood ⟨h1, h2, h3⟩
      · exact hmid u (by omega) h1 h2⟩ (by omega) ⟨rfl, rfl, rfl, rfl, rfl, rfl, rfl, rfl, rfl, rfl, trivial⟩ (fun w h => h)
  have hF1 : FlOK n i A s t i f := ⟨rfl, hall, fun u hu => hmid u (by omega)⟩
  have hat := hF1.flw.at_t hN.arcs1
  refine c_exit ?_
  refine f_thenE ?_
  refine f_rndE ?_
  refine f_blockE ?_
  refine f_then ?_
  refine c_seq ?_
  refine c_chain 115 (decide (¬ (0 ≤ more (frN A) (ttN A) f i s ∧ more (frN A) (ttN A) f i s = fv))) ?_ ?_
  · refine c_quiet Try.mixed (by kernel_rfl) K.drew ?_
    refine q_y (y_move rfl) rfl rfl rfl ?_
    refine q_y (y_move rfl) rfl rfl rfl ?_
    refine q_y (y_indexAddr1 Try.tab rfl rfl rfl rfl _ rfl (by omega)) rfl rfl rfl ?_
    refine q_y (y_load Try.tab rfl rfl (cell_ints 0 rfl (by omega))) rfl rfl rfl ?_
    refine q_y (y_lss rfl rfl) rfl rfl rfl ?_
    refine q_y (y_move rfl) rfl rfl rfl ?_
    refine q_case 107 rfl (fun c0 => ?_) (fun c0 => ?_)
    · refine q_skip rfl rfl rfl ?_
      iterate 6 refine q_skip rfl rfl rfl ?_
      refine q_y (y_pickT rfl rfl) rfl rfl rfl ?_
      refine q_nil ?_
      exact f_chain rfl ((decide_eq_true (by omega)).symm) ⟨rfl, rfl, rfl, rfl, rfl, rfl, rfl, rfl, rfl, rfl, rfl, trivial⟩
    · refine q_y (y_move rfl) rfl rfl rfl ?_
      refine q_y (y_move rfl) rfl rfl rfl ?_
      refine q_y (y_indexAddr1 Try.tab rfl rfl rfl rfl _ rfl (by omega)) rfl rfl rfl ?_
      refine q_y (y_load Try.tab rfl rfl (cell_ints 0 rfl (by omega))) rfl rfl rfl ?_
      refine q_y (y_fieldAddr0 Try.tab rfl rfl rfl rfl rfl) rfl rfl rfl ?_
      refine q_y (y_load Try.tab rfl rfl (cell_row 1 rfl rfl)) rfl rfl rfl ?_
      refine q_y (y_neq rfl rfl) rfl rfl rfl ?_
      refine q_y (y_pickF rfl rfl) rfl rfl rfl ?_
      refine q_nil ?_
      exact f_chain rfl (decide_eq_decide.2 (by omega)) ⟨rfl, rfl, rfl, rfl, rfl, rfl, rfl, rfl, rfl, rfl, rfl, trivial⟩
  refine c_condD rfl (fun hbad => ?_) (fun hgood => ?_)
  · refine c_seq ?_
    refine c_region ?_
    refine s_y (y_assign rfl) rfl rfl rfl ?_
    refine s_nil ?_
    refine f_then ?_
    refine c_ret ?_
    refine f_thenR ?_
    exact f_retE () (res1 rfl rfl) (by rw [if_pos fun h => hbad h.2]) (fun w h => h.tail.tail)
  obtain ⟨hF2, hF3⟩ := Classical.not_not.1 hgood
  rw [if_neg (not_not_intro ⟨hF1, hF2, hF3⟩)]
  have hcert := certifies_spec W ([(b30, ints 3 n (fun u => - more (frN A) (ttN A) f i u) [])] :: [(b9, row 28 [.int .i64 fv, .int .i64 fc, .slice pf i cf, vp])] :: Ls) n s t (.slice pa i ca) (.slice pf i cf) vp fv fc i mp A f p (hA.cls fun w h => h.tail.tail) (hF.cls fun w h => h.tail.tail) (hP.cls fun w h => h.tail.tail) hN
  refine c_skip ?_
  refine f_then ?_
  refine c_seq ?_
  refine c_chain 126 (decide (¬ (cst (cstN A) f i = fc ∧ CertOK n i A f mp p))) ?_ ?_
  · refine c_region ?_
    refine s_y (y_move rfl) rfl rfl rfl ?_
    refine s_y (y_fieldAddrB Try.tab 1 rfl rfl rfl rfl rfl) rfl rfl rfl ?_
    refine s_y (y_load Try.tab rfl rfl (cell_row 1 rfl rfl)) rfl rfl rfl ?_
    refine s_y (y_neq rfl rfl) rfl rfl rfl ?_
    refine s_y (y_move rfl) rfl rfl rfl ?_
    refine s_case 120 rfl (fun c0 => ?_) (fun c0 => ?_)
    · refine s_skip rfl rfl rfl ?_
      iterate 4 refine s_skip rfl rfl rfl ?_
      refine s_y (y_pickT rfl rfl) rfl rfl rfl ?_
      refine s_nil ?_
      exact f_chain rfl ((decide_eq_true (by omega)).symm) ⟨rfl, rfl, rfl, rfl, rfl, rfl, rfl, rfl, rfl, rfl, rfl, rfl, trivial⟩
    · refine s_y (y_move rfl) rfl rfl rfl ?_
      refine s_y (y_move rfl) rfl rfl rfl ?_
      refine s_y (y_loadA Try.tab rfl rfl rfl rfl (cells_row0 1 rfl rfl)) rfl rfl rfl ?_
      refine s_call (en_f rfl Try.call49) (hcert) rfl rfl rfl (fun _ => ?_)
      refine s_y (y_notD rfl) rfl rfl rfl ?_
      refine s_y (y_pickF rfl rfl) rfl rfl rfl ?_
      refine s_nil ?_
      exact f_chain rfl ((by simp [*])) ⟨rfl, rfl, rfl, rfl, rfl, rfl, rfl, rfl, rfl, rfl, rfl, rfl, trivial⟩
  refine c_condD rfl (fun hbad2 => ?_) (fun hgood2 => ?_)
  · refine c_seq ?_
    refine c_region ?_
    refine s_y (y_assign rfl) rfl rfl rfl ?_
    refine s_nil ?_
    refine f_then ?_
    refine c_ret ?_
    refine f_thenR ?_
    exact f_retE () (res1 rfl rfl) (by rw [if_pos hbad2]) (fun w h => h.tail.tail)
  refine c_skip ?_
  refine f_then ?_
  refine c_seq ?_
  refine c_region ?_
  refine s_y (y_assign rfl) rfl rfl rfl ?_
  refine s_nil ?_
  refine f_then ?_
  refine c_ret ?_
  exact f_retE () (res1 rfl rfl) (by rw [if_neg hgood2]) (fun w h => h.tail.tail)
end Go.KL
end

section
/- Walks: ref.Reach. -/
namespace Go.KL
open Go.Proofs
attribute [local irreducible] SC St Fin Sq Sw Ylds Doos Sets Enters Spec CellIs CellsAre Then Ret Rnd Chn resOK ints bools recs arr
set_option maxHeartbeats 4000000 in
theorem rreach_spec (W : World) (Ls : List Chunk) (n s t : Nat) (va vf : Value) (na : Nat) (A : Nat → Ac) (f : Nat → Int) (hA : SlA (K W Ls) va na A) (hF : SlI (K W Ls) vf na f) (hN : NetOK n na A s t) :
    Spec Try.prog 21 #[.int .i64 n, va, vf, .int .i64 s] (K W Ls) (X := { x : Nat × (Nat → Bool) // ReachP n na s (frN A) (ttN A) (capN A) f x.2 }) (fun x => .slice (some ⟨x.1.1, 0, none⟩) n n) (fun x => K W ([(x.1.1, bools 4 n x.1.2 [])] :: Ls)) := by
  obtain ⟨pa, ca, rfl, _, hcells⟩ := hA.open
  obtain ⟨pf, cf, rfl, _, hfs⟩ := SlV.open1 hF
  have h_n := hN.hn; have h_na := hN.hna; have h_s := hN.hs
  refine enter (args := [_, _, _, _]) Try.func21 rfl Try.ntmps21 rfl ?_
  refine c_seq ?_
  refine c_region ?_
  refine s_y (y_assign rfl) rfl rfl rfl ?_
  refine s_nil ?_
  refine f_then ?_
  refine c_seq ?_
  refine c_region ?_
  refine s_y (y_move rfl) rfl rfl rfl ?_
  refine s_do (make_bools (by_ := 1) Try.tab rfl rfl rfl rfl rfl rfl (by omega)) rfl rfl rfl (fun b14 => ?_)
  refine s_y (y_assign rfl) rfl rfl rfl ?_
  refine s_nil ?_
  refine f_then ?_
  refine c_seq ?_
  refine c_region ?_
  refine s_y (y_move rfl) rfl rfl rfl ?_
  refine s_y (y_move rfl) rfl rfl rfl ?_
  refine s_y (y_indexAddr1 Try.tab rfl rfl rfl rfl _ rfl (by omega)) rfl rfl rfl ?_
  refine s_set (set_bools Try.tab 0 rfl rfl rfl rfl (by omega)) rfl rfl ?_
  refine s_nil ?_
  refine f_then ?_
  refine c_seq ?_
  refine c_seq ?_
  refine c_region ?_
  refine s_y (y_assign rfl) rfl rfl rfl ?_
  refine s_nil ?_
  refine f_then ?_
  refine c_block ?_
  refine c_loopP (α := (Nat → Bool) × Nat) (fun z => [(0, .int .i64 n), (1, .slice pa na ca), (2, .slice pf na cf), (9, .slice (some ⟨b14, 0, none⟩) n n), (10, .int .i64 z.2)])
    (fun z => z.2 ≤ n ∧ RSnd n na s (frN A) (ttN A) (capN A) f z.1 ∧ (ReachP n na s (frN A) (ttN A) (capN A) f z.1 ∨ z.2 < cnt n z.1))
    (fun z => K W ([(b14, bools 4 n z.1 [])] :: Ls)) (fun z => n - z.2) (upd (fun _ => false) s true, 0)
    ⟨rfl, rfl, rfl, rfl, rfl, trivial⟩ ⟨Nat.zero_le _, RSnd.begin (by omega), .inr (Nat.lt_of_le_of_lt (Nat.zero_le _) (cnt_upd_lt (n := n) (fun _ => false) s (by omega) rfl))⟩ (fun w h => h) ?_
  rintro ⟨g0, r⟩ ⟨hr, hsnd, halt⟩
  dsimp only at hr hsnd halt ⊢
  refine c_seq ?_
  refine c_seq ?_
  refine c_region ?_
  refine s_y (y_move rfl) rfl rfl rfl ?_
  refine s_y (y_move rfl) rfl rfl rfl ?_
  refine s_y (y_lss rfl rfl) rfl rfl rfl ?_
  refine s_nil ?_
  refine f_then ?_
  refine c_condD rfl (fun hlt => ?_) (fun hge => ?_)
  rotate_left
  · refine c_exit ?_
    refine f_thenE ?_
    refine f_rndE ?_
    refine f_blockE ?_
    refine f_then ?_
    refine c_seq ?_
    refine c_region ?_
    refine s_y (y_move rfl) rfl rfl rfl ?_
    refine s_y (y_assign rfl) rfl rfl rfl ?_
    refine s_nil ?_
    refine f_then ?_
    refine c_ret ?_
    have hend : ReachP n na s (frN A) (ttN A) (capN A) f g0 := by
      rcases halt with h | h
      · exact h
      · have := cnt_le n g0; omega
    exact f_ret ⟨(b14, g0), hend⟩ (res1 rfl rfl) (fun w h => h)
  refine c_skip ?_
  refine f_then ?_
  refine c_seq ?_
  refine c_block ?_
  refine c_seq ?_
  refine c_region ?_
  refine s_y (y_assign rfl) rfl rfl rfl ?_
  refine s_nil ?_
  refine f_then ?_
  refine c_block ?_
  refine c_loopP (α := (Nat → Bool) × Nat) (fun z => [(0, .int .i64 n), (1, .slice pa na ca), (2, .slice pf na cf), (9, .slice (some ⟨b14, 0, none⟩) n n), (10, .int .i64 r), (11, .int .i64 z.2)])
    (fun z => z.2 ≤ na ∧ RRnd n na s (frN A) (ttN A) (capN A) f g0 z.1 z.2)
    (fun z => K W ([(b14, bools 4 n z.1 [])] :: Ls)) (fun z => na - z.2) (g0, 0)
    ⟨rfl, rfl, rfl, rfl, rfl, rfl, trivial⟩ ⟨Nat.zero_le _, hsnd, .inl ⟨fun _ => rfl, fun j hj => absurd hj (Nat.not_lt_zero j)⟩⟩ (fun w h => h) ?_
  rintro ⟨g, i⟩ ⟨hi, hR⟩
  dsimp only at hi hR ⊢
  refine c_seq ?_
  refine c_seq ?_
  refine c_region ?_
  refine s_y (y_move rfl) rfl rfl rfl ?_
  refine s_y (y_move rfl) rfl rfl rfl ?_
  refine s_y (y_len Try.tab rfl rfl) rfl rfl rfl ?_
  refine s_y (y_lss rfl rfl) rfl rfl rfl ?_
  refine s_nil ?_
  refine f_then ?_
  refine c_condD rfl (fun hlt2 => ?_) (fun hge2 => ?_)
  rotate_left
  · refine c_exit ?_
    refine f_thenE ?_
    refine f_rndE ?_
    refine f_blockE ?_
    refine f_blockN ?_
    refine f_then ?_
    refine c_region ?_
    refine s_y (y_move rfl) rfl rfl rfl ?_
    refine s_y (y_add rfl rfl (by omega)) rfl rfl rfl ?_
    refine s_y (y_assign rfl) rfl rfl rfl ?_
    refine s_nil ?_
    have him : i = na := by omega
    subst him
    exact f_roundP (g, r + 1) ⟨by dsimp only; omega, hR.snd, hR.done halt⟩ (by dsimp only; omega) ⟨rfl, rfl, rfl, rfl, rfl, trivial⟩ (fun w h => h)
  have hin : i < na := by omega
  obtain ⟨ba, oa, rfl, hca, hc0, hc1, hc2, hc3⟩ := hcells (by omega)
  obtain ⟨bf, of, rfl, hcf⟩ := hfs (by omega)
  have harc := hN.arc i hin
  unfold ArcOK at harc
  have hfrn : frN A i < n := by simp only [frN]; omega
  have httn : ttN A i < n := by simp only [ttN]; omega
  refine c_skip ?_
  refine f_then ?_
  refine c_seq ?_
  refine c_block ?_
  refine c_seq ?_
  refine c_region ?_
  refine s_y (y_move rfl) rfl rfl rfl ?_
  refine s_y (y_move rfl) rfl rfl rfl ?_
  refine s_y (y_indexAddr (s := 4) Try.tab rfl rfl rfl rfl _ rfl (by omega)) rfl rfl rfl ?_
  refine s_y (y_loadA Try.tab rfl rfl rfl rfl (hca _ (by omega)).cons) rfl rfl rfl ?_
  refine s_do (do_alloc Try.tab rfl) rfl rfl rfl (fun b12 => ?_)
  refine s_set (set_box Try.tab 0 rfl rfl rfl rfl rfl rfl rfl) rfl rfl ?_
  refine s_nil ?_
  refine f_then ?_
  refine c_seq_cutP (α := Nat → Bool) (fun _ => [(0, .int .i64 n), (1, .slice (some ⟨ba, oa, none⟩) na ca), (2, .slice (some ⟨bf, of, none⟩) na cf), (9, .slice (some ⟨b14, 0, none⟩) n n), (10, .int .i64 r), (11, .int .i64 i), (12, .pointer (some ⟨b12, 0, none⟩))])
    (fun g1 => RRnd n na s (frN A) (ttN A) (capN A) f g0 g1 i ∧ (g1 (frN A i) = true → f i < capN A i → g1 (ttN A i) = true))
    (fun g1 => K W ([(b12, row 35 [.int .i64 (A i).1, .int .i64 (A i).2.1, .int .i64 (A i).2.2.1, .int .i64 (A i).2.2.2])] :: [(b14, bools 4 n g1 [])] :: Ls)) ?_ (fun g1 hg1 => ?_)
  · refine c_chain 46 (decide (g (frN A i) = true ∧ f i < capN A i)) ?_ ?_
    · refine c_quiet Try.mixed (by kernel_rfl) K.drew ?_
      refine q_y (y_move rfl) rfl rfl rfl ?_
      refine q_y (y_fieldAddr0 Try.tab rfl rfl rfl rfl rfl) rfl rfl rfl ?_
      refine q_y (y_load Try.tab rfl rfl (cell_row 0 rfl rfl)) rfl rfl rfl ?_
      refine q_y (y_indexAddr1 Try.tab rfl rfl rfl rfl _ (Int.toNat_of_nonneg (by omega)).symm (by omega)) rfl rfl rfl ?_
      refine q_y (y_load Try.tab rfl rfl (cell_bools 1 rfl (by omega))) rfl rfl rfl ?_
      refine q_y (y_move rfl) rfl rfl rfl ?_
      refine q_caseB 38 rfl (fun c0 => ?_) (fun c0 => ?_)
      · refine q_y (y_move rfl) rfl rfl rfl ?_
        refine q_y (y_move rfl) rfl rfl rfl ?_
        refine q_y (y_indexAddr1o Try.tab rfl rfl rfl rfl _ rfl (by omega)) rfl rfl rfl ?_
        refine q_y (y_load Try.tab rfl rfl (hcf _ (by omega)).cons.cons) rfl rfl rfl ?_
        refine q_y (y_fieldAddrB Try.tab 2 rfl rfl rfl rfl rfl) rfl rfl rfl ?_
        refine q_y (y_load Try.tab rfl rfl (cell_row 0 rfl rfl)) rfl rfl rfl ?_
        refine q_y (y_lss rfl rfl) rfl rfl rfl ?_
        refine q_y (y_pickT rfl rfl) rfl rfl rfl ?_
        refine q_nil ?_
        exact f_chain rfl (decide_eq_decide.2 (by simp [*])) ⟨rfl, rfl, rfl, rfl, rfl, rfl, rfl, rfl, rfl, rfl, rfl, rfl, rfl, rfl, rfl, trivial⟩
      · refine q_skip rfl rfl rfl ?_
        iterate 6 refine q_skip rfl rfl rfl ?_
        refine q_y (y_pickF rfl rfl) rfl rfl rfl ?_
        refine q_nil ?_
        exact f_chain rfl ((decide_eq_false (by simp [*])).symm) ⟨rfl, rfl, rfl, rfl, rfl, rfl, rfl, rfl, rfl, rfl, rfl, rfl, rfl, rfl, rfl, trivial⟩
    refine c_condD rfl (fun hyes => ?_) (fun hno => ?_)
    · refine c_region ?_
      refine s_y (y_move rfl) rfl rfl rfl ?_
      refine s_y (y_fieldAddrB Try.tab 1 rfl rfl rfl rfl rfl) rfl rfl rfl ?_
      refine s_y (y_load Try.tab rfl rfl (cell_row 0 rfl rfl)) rfl rfl rfl ?_
      refine s_y (y_indexAddr1 Try.tab rfl rfl rfl rfl _ (Int.toNat_of_nonneg (by omega)).symm (by omega)) rfl rfl rfl ?_
      refine s_set (set_bools Try.tab 1 rfl rfl rfl rfl (by omega)) rfl rfl ?_
      refine s_nil ?_
      refine f_cutP (upd g (ttN A i) true) ⟨hR.mark _ httn fun X hX hc => (hc i hin).1 (hR.snd.least X hX hc _ hyes.1) hyes.2, fun _ _ => by simp⟩ ⟨rfl, rfl, rfl, rfl, rfl, rfl, rfl, trivial⟩ (fun w h => h)
    · refine c_skip ?_
      exact f_cutP g ⟨hR, fun h1 h2 => absurd ⟨h1, h2⟩ hno⟩ ⟨rfl, rfl, rfl, rfl, rfl, rfl, rfl, trivial⟩ (fun w h => h)
  obtain ⟨hR1, hS1⟩ := hg1
  refine c_chain 62 (decide (g1 (ttN A i) = true ∧ 0 < f i)) ?_ ?_
  · refine c_region ?_
    refine s_y (y_move rfl) rfl rfl rfl ?_
    refine s_y (y_fieldAddrB Try.tab 1 rfl rfl rfl rfl rfl) rfl rfl rfl ?_
    refine s_y (y_load Try.tab rfl rfl (cell_row 0 rfl rfl)) rfl rfl rfl ?_
    refine s_y (y_indexAddr1 Try.tab rfl rfl rfl rfl _ (Int.toNat_of_nonneg (by omega)).symm (by omega)) rfl rfl rfl ?_
    refine s_y (y_load Try.tab rfl rfl (cell_bools 1 rfl (by omega))) rfl rfl rfl ?_
    refine s_y (y_move rfl) rfl rfl rfl ?_
    refine s_caseB 56 rfl (fun c0 => ?_) (fun c0 => ?_)
    · refine s_y (y_move rfl) rfl rfl rfl ?_
      refine s_y (y_move rfl) rfl rfl rfl ?_
      refine s_y (y_indexAddr1o Try.tab rfl rfl rfl rfl _ rfl (by omega)) rfl rfl rfl ?_
      refine s_y (y_load Try.tab rfl rfl (hcf _ (by omega)).cons.cons) rfl rfl rfl ?_
      refine s_y (y_gtr rfl rfl) rfl rfl rfl ?_
      refine s_y (y_pickT rfl rfl) rfl rfl rfl ?_
      refine s_nil ?_
      exact f_chain rfl (decide_eq_decide.2 (by simp [*])) ⟨rfl, rfl, rfl, rfl, rfl, rfl, rfl, trivial⟩
    · refine s_skip rfl rfl rfl ?_
      iterate 4 refine s_skip rfl rfl rfl ?_
      refine s_y (y_pickF rfl rfl) rfl rfl rfl ?_
      refine s_nil ?_
      exact f_chain rfl ((decide_eq_false (by simp [*])).symm) ⟨rfl, rfl, rfl, rfl, rfl, rfl, rfl, trivial⟩
  refine c_condD rfl (fun hyes => ?_) (fun hno => ?_)
  · refine c_region ?_
    refine s_y (y_move rfl) rfl rfl rfl ?_
    refine s_y (y_fieldAddr0 Try.tab rfl rfl rfl rfl rfl) rfl rfl rfl ?_
    refine s_y (y_load Try.tab rfl rfl (cell_row 0 rfl rfl)) rfl rfl rfl ?_
    refine s_y (y_indexAddr1 Try.tab rfl rfl rfl rfl _ (Int.toNat_of_nonneg (by omega)).symm (by omega)) rfl rfl rfl ?_
    refine s_set (set_bools Try.tab 1 rfl rfl rfl rfl (by omega)) rfl rfl ?_
    refine s_nil ?_
    refine f_blockN ?_
    refine f_then ?_
    refine c_region ?_
    refine s_y (y_move rfl) rfl rfl rfl ?_
    refine s_y (y_add rfl rfl (by omega)) rfl rfl rfl ?_
    refine s_y (y_assign rfl) rfl rfl rfl ?_
    refine s_nil ?_
    refine f_roundP (upd g1 (frN A i) true, i + 1) ⟨hin, (hR1.mark _ hfrn fun X hX hc => (hc i hin).2 (hR1.snd.least X hX hc _ hyes.1) hyes.2).next fun e => ?_⟩ (by dsimp only; omega) ⟨rfl, rfl, rfl, rfl, rfl, rfl, trivial⟩ (fun w h => h.tail)
    have e' : upd g1 (frN A i) true = g0 := funext e
    rw [← e']
    refine ⟨fun _ _ => ?_, fun _ _ => by simp⟩
    simp only [upd]; split
    · rfl
    · exact hyes.1
  · refine c_skip ?_
    refine f_blockN ?_
    refine f_then ?_
    refine c_region ?_
    refine s_y (y_move rfl) rfl rfl rfl ?_
    refine s_y (y_add rfl rfl (by omega)) rfl rfl rfl ?_
    refine s_y (y_assign rfl) rfl rfl rfl ?_
    refine s_nil ?_
    refine f_roundP (g1, i + 1) ⟨hin, hR1.next fun e => ?_⟩ (by dsimp only; omega) ⟨rfl, rfl, rfl, rfl, rfl, rfl, trivial⟩ (fun w h => h.tail)
    have e' : g1 = g0 := funext e
    rw [← e']
    exact ⟨hS1, fun h1 h2 => absurd ⟨h1, h2⟩ hno⟩
end Go.KL
end

section
/- Walks: ref.Capacity, Within, Closed, Weight, Goods, Pairs. -/
namespace Go.KL
open Go.Proofs
attribute [local irreducible] SC St Fin Sq Sw Ylds Doos Sets Enters Spec CellIs CellsAre Then Ret Rnd Chn resOK ints bools recs arr
theorem cpc_bd {fr tt : Nat → Nat} {cap : Nat → Int} {S : Nat → Bool} : ∀ (na : Nat), (∀ i, i < na → 0 ≤ cap i ∧ cap i ≤ 1073741824) → 0 ≤ cpc na fr tt cap S ∧ cpc na fr tt cap S ≤ na * 1073741824 := by
  intro na h
  refine ⟨sm_nonneg na _ fun i hi => ?_, sm_bound na _ _ fun i hi => ?_⟩ <;> have := h i hi <;> split <;> omega
theorem cpc_succ (na : Nat) (fr tt : Nat → Nat) (cap : Nat → Int) (S : Nat → Bool) : cpc (na + 1) fr tt cap S = cpc na fr tt cap S + (if S (fr na) && !S (tt na) then cap na else 0) := rfl
set_option maxHeartbeats 4000000 in
theorem rcap_spec (W : World) (Ls : List Chunk) (n s t : Nat) (va vs : Value) (na : Nat) (A : Nat → Ac) (S : Nat → Bool) (hA : SlA (K W Ls) va na A) (hS : SlB (K W Ls) vs n S) (hN : NetOK n na A s t) :
    Spec Try.prog 30 #[va, vs] (K W Ls) (fun _ : Unit => .int .i64 (cpc na (frN A) (ttN A) (capN A) S)) (fun _ => K W Ls) := by
  obtain ⟨pa, ca, rfl, _, hcells⟩ := hA.open
  obtain ⟨ps, cs, rfl, _, hss⟩ := SlV.open1 hS
  have h_n := hN.hn; have h_na := hN.hna
  refine enter (args := [_, _]) Try.func30 rfl Try.ntmps30 rfl ?_
  refine c_seq ?_
  refine c_region ?_
  refine s_y (y_assign rfl) rfl rfl rfl ?_
  refine s_nil ?_
  refine f_then ?_
  refine c_seq ?_
  refine c_region ?_
  refine s_y (y_assign rfl) rfl rfl rfl ?_
  refine s_nil ?_
  refine f_then ?_
  refine c_seq ?_
  refine c_seq ?_
  refine c_region ?_
  refine s_y (y_assign rfl) rfl rfl rfl ?_
  refine s_nil ?_
  refine f_then ?_
  refine c_block ?_
  refine c_loopP (α := Nat) (fun z => [(0, .slice pa na ca), (1, .slice ps n cs), (5, .int .i64 (cpc z (frN A) (ttN A) (capN A) S)), (6, .int .i64 z)]) (fun z => z ≤ na)
    (fun _ => K W Ls) (fun z => na - z) 0 ⟨rfl, rfl, rfl, rfl, trivial⟩ (Nat.zero_le _) (fun w h => h) ?_
  rintro i hi
  refine c_seq ?_
  refine c_seq ?_
  refine c_region ?_
  refine s_y (y_move rfl) rfl rfl rfl ?_
  refine s_y (y_move rfl) rfl rfl rfl ?_
  refine s_y (y_len Try.tab rfl rfl) rfl rfl rfl ?_
  refine s_y (y_lss rfl rfl) rfl rfl rfl ?_
  refine s_nil ?_
  refine f_then ?_
  refine c_condD rfl (fun hlt => ?_) (fun hge => ?_)
  rotate_left
  · refine c_exit ?_
    refine f_thenE ?_
    refine f_rndE ?_
    refine f_blockE ?_
    refine f_then ?_
    refine c_seq ?_
    refine c_region ?_
    refine s_y (y_move rfl) rfl rfl rfl ?_
    refine s_y (y_assign rfl) rfl rfl rfl ?_
    refine s_nil ?_
    refine f_then ?_
    refine c_ret ?_
    have him : i = na := by omega
    subst him
    exact f_ret () (res1 rfl rfl) (fun w h => h)
  have hin : i < na := by omega
  obtain ⟨ba, oa, rfl, hca, hc0, hc1, hc2, hc3⟩ := hcells (by omega)
  obtain ⟨bs, os, rfl, hcs⟩ := hss (by omega)
  have harc := hN.arc i hin
  unfold ArcOK at harc
  have h2 := cpc_bd (fr := frN A) (tt := ttN A) (cap := capN A) (S := S) i (fun j hj => by have := hN.arc j (by omega); simp only [ArcOK, capN] at *; omega)
  refine c_skip ?_
  refine f_then ?_
  refine c_seq ?_
  refine c_block ?_
  refine c_chain 31 (decide (S (frN A i) = true ∧ S (ttN A i) = false)) ?_ ?_
  · refine c_region ?_
    refine s_y (y_move rfl) rfl rfl rfl ?_
    refine s_y (y_move rfl) rfl rfl rfl ?_
    refine s_y (y_move rfl) rfl rfl rfl ?_
    refine s_y (y_indexAddr (s := 4) Try.tab rfl rfl rfl rfl _ rfl (by omega)) rfl rfl rfl ?_
    refine s_y (y_fieldAddr0 Try.tab rfl rfl rfl rfl rfl) rfl rfl rfl ?_
    refine s_y (y_load Try.tab rfl rfl (hc0 _ (by omega))) rfl rfl rfl ?_
    refine s_y (y_indexAddr1o Try.tab rfl rfl rfl rfl _ (Int.toNat_of_nonneg (by omega)).symm (by omega)) rfl rfl rfl ?_
    refine s_y (y_load Try.tab rfl rfl (hcs _ (by omega))) rfl rfl rfl ?_
    refine s_y (y_move rfl) rfl rfl rfl ?_
    refine s_caseB 21 rfl (fun c0 => ?_) (fun c0 => ?_)
    · refine s_y (y_move rfl) rfl rfl rfl ?_
      refine s_y (y_move rfl) rfl rfl rfl ?_
      refine s_y (y_move rfl) rfl rfl rfl ?_
      refine s_y (y_indexAddr (s := 4) Try.tab rfl rfl rfl rfl _ rfl (by omega)) rfl rfl rfl ?_
      refine s_y (y_fieldAddr Try.tab 1 rfl rfl rfl rfl rfl) rfl rfl rfl ?_
      refine s_y (y_load Try.tab rfl rfl (hc1 _ (by omega))) rfl rfl rfl ?_
      refine s_y (y_indexAddr1o Try.tab rfl rfl rfl rfl _ (Int.toNat_of_nonneg (by omega)).symm (by omega)) rfl rfl rfl ?_
      refine s_y (y_load Try.tab rfl rfl (hcs _ (by omega))) rfl rfl rfl ?_
      refine s_y (y_not rfl) rfl rfl rfl ?_
      refine s_y (y_pickT rfl rfl) rfl rfl rfl ?_
      refine s_nil ?_
      exact f_chain rfl ((by simp [*])) ⟨rfl, rfl, rfl, rfl, rfl, rfl, rfl, rfl, trivial⟩
    · refine s_skip rfl rfl rfl ?_
      iterate 8 refine s_skip rfl rfl rfl ?_
      refine s_y (y_pickF rfl rfl) rfl rfl rfl ?_
      refine s_nil ?_
      exact f_chain rfl ((decide_eq_false (by simp [*])).symm) ⟨rfl, rfl, rfl, rfl, rfl, rfl, rfl, rfl, trivial⟩
  refine c_condD rfl (fun hyes => ?_) (fun hno => ?_)
  · refine c_region ?_
    refine s_y (y_move rfl) rfl rfl rfl ?_
    refine s_y (y_move rfl) rfl rfl rfl ?_
    refine s_y (y_move rfl) rfl rfl rfl ?_
    refine s_y (y_indexAddr (s := 4) Try.tab rfl rfl rfl rfl _ rfl (by omega)) rfl rfl rfl ?_
    refine s_y (y_fieldAddr Try.tab 2 rfl rfl rfl rfl rfl) rfl rfl rfl ?_
    refine s_y (y_load Try.tab rfl rfl (hc2 _ (by omega))) rfl rfl rfl ?_
    refine s_y (y_add rfl rfl (by omega)) rfl rfl rfl ?_
    refine s_y (y_assign rfl) rfl rfl rfl ?_
    refine s_nil ?_
    refine f_blockN ?_
    refine f_then ?_
    refine c_region ?_
    refine s_y (y_move rfl) rfl rfl rfl ?_
    refine s_y (y_add rfl rfl (by omega)) rfl rfl rfl ?_
    refine s_y (y_assign rfl) rfl rfl rfl ?_
    refine s_nil ?_
    refine f_roundP (i + 1) hin (by omega) ⟨rfl, rfl, ?_, rfl, trivial⟩ (fun w h => h)
    rw [cpc_succ, hyes.1, hyes.2]; rfl
  · refine c_skip ?_
    refine f_blockN ?_
    refine f_then ?_
    refine c_region ?_
    refine s_y (y_move rfl) rfl rfl rfl ?_
    refine s_y (y_add rfl rfl (by omega)) rfl rfl rfl ?_
    refine s_y (y_assign rfl) rfl rfl rfl ?_
    refine s_nil ?_
    refine f_roundP (i + 1) hin (by omega) ⟨rfl, rfl, ?_, rfl, trivial⟩ (fun w h => h)
    have e : (S (frN A i) && !S (ttN A i)) = false := by cases e1 : S (frN A i) <;> cases e2 : S (ttN A i) <;> simp_all
    rw [cpc_succ, e, if_neg (by simp), Int.add_zero]; rfl
open Classical in
set_option maxHeartbeats 4000000 in
theorem rwithin_spec (W : World) (Ls : List Chunk) (m m' : Nat) (va vb : Value) (p q : Nat → Bool) (hA : SlB (K W Ls) va m p) (hB : SlB (K W Ls) vb m' q) (hm : m ≤ m') (hb : m ≤ 1000000000) :
    Spec Try.prog 25 #[va, vb] (K W Ls) (fun _ : Unit => .bool (decide (∀ i, i < m → p i = true → q i = true))) (fun _ => K W Ls) := by
  obtain ⟨pa, ca, rfl, _, has⟩ := SlV.open1 hA
  obtain ⟨pb, cb, rfl, _, hbs⟩ := SlV.open1 hB
  refine enter (args := [_, _]) Try.func25 rfl Try.ntmps25 rfl ?_
  refine c_seq ?_
  refine c_region ?_
  refine s_y (y_assign rfl) rfl rfl rfl ?_
  refine s_nil ?_
  refine f_then ?_
  refine c_seq ?_
  refine c_seq ?_
  refine c_region ?_
  refine s_y (y_assign rfl) rfl rfl rfl ?_
  refine s_nil ?_
  refine f_then ?_
  refine c_block ?_
  refine c_loopP (α := Nat) (fun z => [(0, .slice pa m ca), (1, .slice pb m' cb), (5, .int .i64 z)]) (fun z => z ≤ m ∧ ∀ i, i < z → p i = true → q i = true)
    (fun _ => K W Ls) (fun z => m - z) 0 ⟨rfl, rfl, rfl, trivial⟩ ⟨Nat.zero_le _, fun i hi => absurd hi (Nat.not_lt_zero i)⟩ (fun w h => h) ?_
  rintro i ⟨hi, hok⟩
  refine c_seq ?_
  refine c_seq ?_
  refine c_region ?_
  refine s_y (y_move rfl) rfl rfl rfl ?_
  refine s_y (y_move rfl) rfl rfl rfl ?_
  refine s_y (y_len Try.tab rfl rfl) rfl rfl rfl ?_
  refine s_y (y_lss rfl rfl) rfl rfl rfl ?_
  refine s_nil ?_
  refine f_then ?_
  refine c_condD rfl (fun hlt => ?_) (fun hge => ?_)
  rotate_left
  · refine c_exit ?_
    refine f_thenE ?_
    refine f_rndE ?_
    refine f_blockE ?_
    refine f_then ?_
    refine c_seq ?_
    refine c_region ?_
    refine s_y (y_assign rfl) rfl rfl rfl ?_
    refine s_nil ?_
    refine f_then ?_
    refine c_ret ?_
    exact f_retE () (res1 rfl rfl) (by rw [decide_eq_true fun j hj => hok j (by omega)]) (fun w h => h)
  have hin : i < m := by omega
  obtain ⟨ba, oa, rfl, hca⟩ := has (by omega)
  obtain ⟨bb, ob, rfl, hcb⟩ := hbs (by omega)
  refine c_skip ?_
  refine f_then ?_
  refine c_seq ?_
  refine c_block ?_
  refine c_chain 22 (decide (p i = true ∧ q i = false)) ?_ ?_
  · refine c_region ?_
    refine s_y (y_move rfl) rfl rfl rfl ?_
    refine s_y (y_move rfl) rfl rfl rfl ?_
    refine s_y (y_indexAddr1o Try.tab rfl rfl rfl rfl _ rfl (by omega)) rfl rfl rfl ?_
    refine s_y (y_load Try.tab rfl rfl (hca _ (by omega))) rfl rfl rfl ?_
    refine s_y (y_move rfl) rfl rfl rfl ?_
    refine s_caseB 16 rfl (fun c0 => ?_) (fun c0 => ?_)
    · refine s_y (y_move rfl) rfl rfl rfl ?_
      refine s_y (y_move rfl) rfl rfl rfl ?_
      refine s_y (y_indexAddr1o Try.tab rfl rfl rfl rfl _ rfl (by omega)) rfl rfl rfl ?_
      refine s_y (y_load Try.tab rfl rfl (hcb _ (by omega))) rfl rfl rfl ?_
      refine s_y (y_not rfl) rfl rfl rfl ?_
      refine s_y (y_pickT rfl rfl) rfl rfl rfl ?_
      refine s_nil ?_
      exact f_chain rfl ((by simp [*])) ⟨rfl, rfl, rfl, rfl, rfl, rfl, rfl, trivial⟩
    · refine s_skip rfl rfl rfl ?_
      iterate 4 refine s_skip rfl rfl rfl ?_
      refine s_y (y_pickF rfl rfl) rfl rfl rfl ?_
      refine s_nil ?_
      exact f_chain rfl ((decide_eq_false (by simp [*])).symm) ⟨rfl, rfl, rfl, rfl, rfl, rfl, rfl, trivial⟩
  refine c_condD rfl (fun hyes => ?_) (fun hno => ?_)
  · refine c_seq ?_
    refine c_region ?_
    refine s_y (y_assign rfl) rfl rfl rfl ?_
    refine s_nil ?_
    refine f_then ?_
    refine c_ret ?_
    refine f_blockR ?_
    refine f_thenR ?_
    refine f_rndR ?_
    refine f_blockR ?_
    refine f_thenR ?_
    exact f_retE () (res1 rfl rfl) (by rw [decide_eq_false fun h => ?_]; have := h i hin hyes.1; rw [hyes.2] at this; cases this) (fun w h => h)
  · refine c_skip ?_
    refine f_blockN ?_
    refine f_then ?_
    refine c_region ?_
    refine s_y (y_move rfl) rfl rfl rfl ?_
    refine s_y (y_add rfl rfl (by omega)) rfl rfl rfl ?_
    refine s_y (y_assign rfl) rfl rfl rfl ?_
    refine s_nil ?_
    exact f_roundP (i + 1) ⟨hin, fun j hj hp => by
      by_cases e : j = i
      · subst e; cases e2 : q j with
        | true => rfl
        | false => exact absurd ⟨hp, e2⟩ hno
      · exact hok j (by omega) hp⟩ (by omega) ⟨rfl, rfl, rfl, trivial⟩ (fun w h => h)
/-- Closed under needs. -/
def ClosedP (m : Nat) (Q : Nat → Pr) (S : Nat → Bool) : Prop := ∀ i, i < m → S (Q i).1.toNat = true → S (Q i).2.toNat = true
open Classical in
set_option maxHeartbeats 4000000 in
theorem rclosed_spec (W : World) (Ls : List Chunk) (m n : Nat) (vq vs : Value) (Q : Nat → Pr) (S : Nat → Bool) (hQ : SlP (K W Ls) vq m Q) (hS : SlB (K W Ls) vs n S) (hb : m ≤ 1000000000)
    (hr : ∀ i, i < m → (0 ≤ (Q i).1 ∧ (Q i).1 < n) ∧ 0 ≤ (Q i).2 ∧ (Q i).2 < n) :
    Spec Try.prog 26 #[vq, vs] (K W Ls) (fun _ : Unit => .bool (decide (ClosedP m Q S))) (fun _ => K W Ls) := by
  obtain ⟨pq, cq, rfl, _, hqs⟩ := hQ.open
  obtain ⟨ps, cs, rfl, _, hss⟩ := SlV.open1 hS
  refine enter (args := [_, _]) Try.func26 rfl Try.ntmps26 rfl ?_
  refine c_seq ?_
  refine c_region ?_
  refine s_y (y_assign rfl) rfl rfl rfl ?_
  refine s_nil ?_
  refine f_then ?_
  refine c_seq ?_
  refine c_seq ?_
  refine c_region ?_
  refine s_y (y_assign rfl) rfl rfl rfl ?_
  refine s_nil ?_
  refine f_then ?_
  refine c_block ?_
  refine c_loopP (α := Nat) (fun z => [(0, .slice pq m cq), (1, .slice ps n cs), (5, .int .i64 z)]) (fun z => z ≤ m ∧ ∀ i, i < z → S (Q i).1.toNat = true → S (Q i).2.toNat = true)
    (fun _ => K W Ls) (fun z => m - z) 0 ⟨rfl, rfl, rfl, trivial⟩ ⟨Nat.zero_le _, fun i hi => absurd hi (Nat.not_lt_zero i)⟩ (fun w h => h) ?_
  rintro i ⟨hi, hok⟩
  refine c_seq ?_
  refine c_seq ?_
  refine c_region ?_
  refine s_y (y_move rfl) rfl rfl rfl ?_
  refine s_y (y_move rfl) rfl rfl rfl ?_
  refine s_y (y_len Try.tab rfl rfl) rfl rfl rfl ?_
  refine s_y (y_lss rfl rfl) rfl rfl rfl ?_
  refine s_nil ?_
  refine f_then ?_
  refine c_condD rfl (fun hlt => ?_) (fun hge => ?_)
  rotate_left
  · refine c_exit ?_
    refine f_thenE ?_
    refine f_rndE ?_
    refine f_blockE ?_
    refine f_then ?_
    refine c_seq ?_
    refine c_region ?_
    refine s_y (y_assign rfl) rfl rfl rfl ?_
    refine s_nil ?_
    refine f_then ?_
    refine c_ret ?_
    exact f_retE () (res1 rfl rfl) (by rw [decide_eq_true (show ClosedP m Q S from fun j hj => hok j (by omega))]) (fun w h => h)
  have hin : i < m := by omega
  obtain ⟨bq, oq, rfl, hcq, hq0, hq1⟩ := hqs (by omega)
  have hri := hr i hin
  obtain ⟨bs, os, rfl, hcs⟩ := hss (by omega)
  refine c_skip ?_
  refine f_then ?_
  refine c_seq ?_
  refine c_block ?_
  refine c_chain 30 (decide (S (Q i).1.toNat = true ∧ S (Q i).2.toNat = false)) ?_ ?_
  · refine c_region ?_
    refine s_y (y_move rfl) rfl rfl rfl ?_
    refine s_y (y_move rfl) rfl rfl rfl ?_
    refine s_y (y_move rfl) rfl rfl rfl ?_
    refine s_y (y_indexAddr (s := 2) Try.tab rfl rfl rfl rfl _ rfl (by omega)) rfl rfl rfl ?_
    refine s_y (y_indexArr0 Try.tab rfl rfl rfl rfl rfl (by omega)) rfl rfl rfl ?_
    refine s_y (y_load Try.tab rfl rfl (hq0 _ (by omega))) rfl rfl rfl ?_
    refine s_y (y_indexAddr1o Try.tab rfl rfl rfl rfl _ (Int.toNat_of_nonneg (by omega)).symm (by omega)) rfl rfl rfl ?_
    refine s_y (y_load Try.tab rfl rfl (hcs _ (by omega))) rfl rfl rfl ?_
    refine s_y (y_move rfl) rfl rfl rfl ?_
    refine s_caseB 20 rfl (fun c0 => ?_) (fun c0 => ?_)
    · refine s_y (y_move rfl) rfl rfl rfl ?_
      refine s_y (y_move rfl) rfl rfl rfl ?_
      refine s_y (y_move rfl) rfl rfl rfl ?_
      refine s_y (y_indexAddr (s := 2) Try.tab rfl rfl rfl rfl _ rfl (by omega)) rfl rfl rfl ?_
      refine s_y (y_indexArr1 Try.tab rfl rfl rfl rfl 1 rfl (by omega)) rfl rfl rfl ?_
      refine s_y (y_load Try.tab rfl rfl (hq1 _ (by omega))) rfl rfl rfl ?_
      refine s_y (y_indexAddr1o Try.tab rfl rfl rfl rfl _ (Int.toNat_of_nonneg (by omega)).symm (by omega)) rfl rfl rfl ?_
      refine s_y (y_load Try.tab rfl rfl (hcs _ (by omega))) rfl rfl rfl ?_
      refine s_y (y_not rfl) rfl rfl rfl ?_
      refine s_y (y_pickT rfl rfl) rfl rfl rfl ?_
      refine s_nil ?_
      exact f_chain rfl ((by simp [*])) ⟨rfl, rfl, rfl, rfl, rfl, rfl, rfl, trivial⟩
    · refine s_skip rfl rfl rfl ?_
      iterate 8 refine s_skip rfl rfl rfl ?_
      refine s_y (y_pickF rfl rfl) rfl rfl rfl ?_
      refine s_nil ?_
      exact f_chain rfl ((decide_eq_false (by simp [*])).symm) ⟨rfl, rfl, rfl, rfl, rfl, rfl, rfl, trivial⟩
  refine c_condD rfl (fun hyes => ?_) (fun hno => ?_)
  · refine c_seq ?_
    refine c_region ?_
    refine s_y (y_assign rfl) rfl rfl rfl ?_
    refine s_nil ?_
    refine f_then ?_
    refine c_ret ?_
    refine f_blockR ?_
    refine f_thenR ?_
    refine f_rndR ?_
    refine f_blockR ?_
    refine f_thenR ?_
    exact f_retE () (res1 rfl rfl) (by rw [decide_eq_false fun h => ?_]; have := h i hin hyes.1; rw [hyes.2] at this; cases this) (fun w h => h)
  · refine c_skip ?_
    refine f_blockN ?_
    refine f_then ?_
    refine c_region ?_
    refine s_y (y_move rfl) rfl rfl rfl ?_
    refine s_y (y_add rfl rfl (by omega)) rfl rfl rfl ?_
    refine s_y (y_assign rfl) rfl rfl rfl ?_
    refine s_nil ?_
    exact f_roundP (i + 1) ⟨hin, fun j hj hp => by
      by_cases e : j = i
      · subst e; cases e2 : S (Q j).2.toNat with
        | true => rfl
        | false => exact absurd ⟨hp, e2⟩ hno
      · exact hok j (by omega) hp⟩ (by omega) ⟨rfl, rfl, rfl, trivial⟩ (fun w h => h)
/-- The weight of a set. -/
def wgt (n : Nat) (f : Nat → Int) (S : Nat → Bool) : Int := sm n fun i => if S i then f i else 0
theorem wgt_bd {f : Nat → Int} {S : Nat → Bool} : ∀ (n : Nat), (∀ i, i < n → -1073741824 ≤ f i ∧ f i ≤ 1073741824) → -(n * 1073741824) ≤ wgt n f S ∧ wgt n f S ≤ n * 1073741824 := by
  intro n
  induction n with
  | zero => intro _; simp [wgt, sm]
  | succ n ih =>
    intro h
    have h1 := ih fun i hi => h i (by omega)
    have h2 := h n (by omega)
    have h3 : wgt (n + 1) f S = wgt n f S + (if S n then f n else 0) := rfl
    rw [h3]
    split <;> omega
set_option maxHeartbeats 4000000 in
theorem rweight_spec (W : World) (Ls : List Chunk) (n : Nat) (vw vs : Value) (f : Nat → Int) (S : Nat → Bool) (hW : SlI (K W Ls) vw n f) (hS : SlB (K W Ls) vs n S) (hn : n ≤ 1000) (hb : ∀ i, i < n → -1073741824 ≤ f i ∧ f i ≤ 1073741824) :
    Spec Try.prog 27 #[vw, vs] (K W Ls) (fun _ : Unit => .int .i64 (wgt n f S)) (fun _ => K W Ls) := by
  obtain ⟨pw, cw, rfl, _, hws⟩ := SlV.open1 hW
  obtain ⟨ps, cs, rfl, _, hss⟩ := SlV.open1 hS
  refine enter (args := [_, _]) Try.func27 rfl Try.ntmps27 rfl ?_
  refine c_seq ?_
  refine c_region ?_
  refine s_y (y_assign rfl) rfl rfl rfl ?_
  refine s_nil ?_
  refine f_then ?_
  refine c_seq ?_
  refine c_region ?_
  refine s_y (y_assign rfl) rfl rfl rfl ?_
  refine s_nil ?_
  refine f_then ?_
  refine c_seq ?_
  refine c_seq ?_
  refine c_region ?_
  refine s_y (y_assign rfl) rfl rfl rfl ?_
  refine s_nil ?_
  refine f_then ?_
  refine c_block ?_
  refine c_loopP (α := Nat) (fun z => [(0, .slice pw n cw), (1, .slice ps n cs), (5, .int .i64 (wgt z f S)), (6, .int .i64 z)]) (fun z => z ≤ n)
    (fun _ => K W Ls) (fun z => n - z) 0 ⟨rfl, rfl, rfl, rfl, trivial⟩ (Nat.zero_le _) (fun w h => h) ?_
  rintro i hi
  refine c_seq ?_
  refine c_seq ?_
  refine c_region ?_
  refine s_y (y_move rfl) rfl rfl rfl ?_
  refine s_y (y_move rfl) rfl rfl rfl ?_
  refine s_y (y_len Try.tab rfl rfl) rfl rfl rfl ?_
  refine s_y (y_lss rfl rfl) rfl rfl rfl ?_
  refine s_nil ?_
  refine f_then ?_
  refine c_condD rfl (fun hlt => ?_) (fun hge => ?_)
  rotate_left
  · refine c_exit ?_
    refine f_thenE ?_
    refine f_rndE ?_
    refine f_blockE ?_
    refine f_then ?_
    refine c_seq ?_
    refine c_region ?_
    refine s_y (y_move rfl) rfl rfl rfl ?_
    refine s_y (y_assign rfl) rfl rfl rfl ?_
    refine s_nil ?_
    refine f_then ?_
    refine c_ret ?_
    have him : i = n := by omega
    subst him
    exact f_ret () (res1 rfl rfl) (fun w h => h)
  have hin : i < n := by omega
  obtain ⟨bw, ow, rfl, hcw⟩ := hws (by omega)
  obtain ⟨bs, os, rfl, hcs⟩ := hss (by omega)
  have h1 := hb i hin
  have h2 := wgt_bd (f := f) (S := S) i (fun j hj => hb j (by omega))
  have h3 : wgt (i + 1) f S = wgt i f S + (if S i then f i else 0) := rfl
  refine c_skip ?_
  refine f_then ?_
  refine c_seq ?_
  refine c_block ?_
  refine c_seq ?_
  refine c_region ?_
  refine s_y (y_move rfl) rfl rfl rfl ?_
  refine s_y (y_move rfl) rfl rfl rfl ?_
  refine s_y (y_indexAddr1o Try.tab rfl rfl rfl rfl _ rfl (by omega)) rfl rfl rfl ?_
  refine s_y (y_load Try.tab rfl rfl (hcs _ (by omega))) rfl rfl rfl ?_
  refine s_nil ?_
  refine f_then ?_
  refine c_cond rfl (fun hyes => ?_) (fun hno => ?_)
  · refine c_region ?_
    refine s_y (y_move rfl) rfl rfl rfl ?_
    refine s_y (y_move rfl) rfl rfl rfl ?_
    refine s_y (y_move rfl) rfl rfl rfl ?_
    refine s_y (y_indexAddr1o Try.tab rfl rfl rfl rfl _ rfl (by omega)) rfl rfl rfl ?_
    refine s_y (y_load Try.tab rfl rfl (hcw _ (by omega))) rfl rfl rfl ?_
    refine s_y (y_add rfl rfl (by omega)) rfl rfl rfl ?_
    refine s_y (y_assign rfl) rfl rfl rfl ?_
    refine s_nil ?_
    refine f_blockN ?_
    refine f_then ?_
    refine c_region ?_
    refine s_y (y_move rfl) rfl rfl rfl ?_
    refine s_y (y_add rfl rfl (by omega)) rfl rfl rfl ?_
    refine s_y (y_assign rfl) rfl rfl rfl ?_
    refine s_nil ?_
    refine f_roundP (i + 1) hin (by omega) ⟨rfl, rfl, ?_, rfl, trivial⟩ (fun w h => h)
    rw [h3, if_pos hyes]; rfl
  · refine c_skip ?_
    refine f_blockN ?_
    refine f_then ?_
    refine c_region ?_
    refine s_y (y_move rfl) rfl rfl rfl ?_
    refine s_y (y_add rfl rfl (by omega)) rfl rfl rfl ?_
    refine s_y (y_assign rfl) rfl rfl rfl ?_
    refine s_nil ?_
    refine f_roundP (i + 1) hin (by omega) ⟨rfl, rfl, ?_, rfl, trivial⟩ (fun w h => h)
    rw [h3, if_neg (by simp [hno]), Int.add_zero]; rfl
end Go.KL
end

section
/- Walks: ref.Goods, Pairs, Cover. -/
namespace Go.KL
open Go.Proofs
attribute [local irreducible] SC St Fin Sq Sw Ylds Doos Sets Enters Spec CellIs CellsAre Then Ret Rnd Chn resOK ints bools recs arr
structure GoodsOK (n : Nat) (w : Nat → Int) (m : Nat) (Q : Nat → Pr) : Prop where
  hn : n ≤ 120
  hm : m ≤ 1024
  hw : ∀ i, i < n → -1073741824 ≤ w i ∧ w i ≤ 1073741824
  hq : ∀ i, i < m → (0 ≤ (Q i).1 ∧ (Q i).1 < n) ∧ 0 ≤ (Q i).2 ∧ (Q i).2 < n
open Classical in
set_option maxHeartbeats 4000000 in
theorem rgoods_spec (W : World) (Ls : List Chunk) (n m : Nat) (vw vq : Value) (w : Nat → Int) (Q : Nat → Pr) (hW : SlI (K W Ls) vw n w) (hQ : SlP (K W Ls) vq m Q) (hb : n ≤ 1000000000 ∧ m ≤ 1000000000) :
    Spec Try.prog 23 #[vw, vq] (K W Ls) (fun _ : Unit => .bool (decide (GoodsOK n w m Q))) (fun _ => K W Ls) := by
  obtain ⟨pw, cw, rfl, _, hws⟩ := SlV.open1 hW
  obtain ⟨pq, cq, rfl, _, hqs⟩ := hQ.open
  refine enter (args := [_, _]) Try.func23 rfl Try.ntmps23 rfl ?_
  refine c_seq ?_
  refine c_region ?_
  refine s_y (y_assign rfl) rfl rfl rfl ?_
  refine s_nil ?_
  refine f_then ?_
  refine c_seq ?_
  refine c_chain 14 (decide (120 < n ∨ 1024 < m)) ?_ ?_
  · refine c_region ?_
    refine s_y (y_move rfl) rfl rfl rfl ?_
    refine s_y (y_len Try.tab rfl rfl) rfl rfl rfl ?_
    refine s_y (y_gtr rfl rfl) rfl rfl rfl ?_
    refine s_y (y_move rfl) rfl rfl rfl ?_
    refine s_case 10 rfl (fun c0 => ?_) (fun c0 => ?_)
    · refine s_skip rfl rfl rfl ?_
      iterate 2 refine s_skip rfl rfl rfl ?_
      refine s_y (y_pickT rfl rfl) rfl rfl rfl ?_
      refine s_nil ?_
      exact f_chain rfl ((decide_eq_true (by omega)).symm) ⟨rfl, rfl, rfl, trivial⟩
    · refine s_y (y_move rfl) rfl rfl rfl ?_
      refine s_y (y_len Try.tab rfl rfl) rfl rfl rfl ?_
      refine s_y (y_gtr rfl rfl) rfl rfl rfl ?_
      refine s_y (y_pickF rfl rfl) rfl rfl rfl ?_
      refine s_nil ?_
      exact f_chain rfl (decide_eq_decide.2 (by omega)) ⟨rfl, rfl, rfl, trivial⟩
  refine c_condD rfl (fun hbad => ?_) (fun hgood => ?_)
  · refine c_seq ?_
    refine c_region ?_
    refine s_y (y_assign rfl) rfl rfl rfl ?_
    refine s_nil ?_
    refine f_then ?_
    refine c_ret ?_
    refine f_thenR ?_
    exact f_retE () (res1 rfl rfl) (by rw [decide_eq_false fun h => ?_]; have := h.hn; have := h.hm; omega) (fun w h => h)
  refine c_skip ?_
  refine f_then ?_
  refine c_seq ?_
  refine c_seq ?_
  refine c_region ?_
  refine s_y (y_assign rfl) rfl rfl rfl ?_
  refine s_nil ?_
  refine f_then ?_
  refine c_block ?_
  refine c_loopP (α := Nat) (fun z => [(0, .slice pw n cw), (1, .slice pq m cq), (5, .int .i64 z)]) (fun z => z ≤ n ∧ ∀ i, i < z → -1073741824 ≤ w i ∧ w i ≤ 1073741824)
    (fun _ => K W Ls) (fun z => n - z) 0 ⟨rfl, rfl, rfl, trivial⟩ ⟨Nat.zero_le _, fun i hi => absurd hi (Nat.not_lt_zero i)⟩ (fun w h => h) ?_
  rintro i ⟨hi, hok⟩
  refine c_seq ?_
  refine c_seq ?_
  refine c_region ?_
  refine s_y (y_move rfl) rfl rfl rfl ?_
  refine s_y (y_move rfl) rfl rfl rfl ?_
  refine s_y (y_len Try.tab rfl rfl) rfl rfl rfl ?_
  refine s_y (y_lss rfl rfl) rfl rfl rfl ?_
  refine s_nil ?_
  refine f_then ?_
  refine c_condD rfl (fun hlt => ?_) (fun hge => ?_)
  · obtain ⟨bw, ow, rfl, hcw⟩ := hws (by omega)
    refine c_skip ?_
    refine f_then ?_
    refine c_seq ?_
    refine c_block ?_
    refine c_chain 32 (decide (w i < -1073741824 ∨ 1073741824 < w i)) ?_ ?_
    · refine c_region ?_
      refine s_y (y_move rfl) rfl rfl rfl ?_
      refine s_y (y_move rfl) rfl rfl rfl ?_
      refine s_y (y_indexAddr1o Try.tab rfl rfl rfl rfl _ rfl (by omega)) rfl rfl rfl ?_
      refine s_y (y_load Try.tab rfl rfl (hcw _ (by omega))) rfl rfl rfl ?_
      refine s_y (y_lss rfl rfl) rfl rfl rfl ?_
      refine s_y (y_move rfl) rfl rfl rfl ?_
      refine s_case 26 rfl (fun c0 => ?_) (fun c0 => ?_)
      · refine s_skip rfl rfl rfl ?_
        iterate 4 refine s_skip rfl rfl rfl ?_
        refine s_y (y_pickT rfl rfl) rfl rfl rfl ?_
        refine s_nil ?_
        exact f_chain rfl ((decide_eq_true (by omega)).symm) ⟨rfl, rfl, rfl, rfl, rfl, rfl, rfl, trivial⟩
      · refine s_y (y_move rfl) rfl rfl rfl ?_
        refine s_y (y_move rfl) rfl rfl rfl ?_
        refine s_y (y_indexAddr1o Try.tab rfl rfl rfl rfl _ rfl (by omega)) rfl rfl rfl ?_
        refine s_y (y_load Try.tab rfl rfl (hcw _ (by omega))) rfl rfl rfl ?_
        refine s_y (y_gtr rfl rfl) rfl rfl rfl ?_
        refine s_y (y_pickF rfl rfl) rfl rfl rfl ?_
        refine s_nil ?_
        exact f_chain rfl (decide_eq_decide.2 (by omega)) ⟨rfl, rfl, rfl, rfl, rfl, rfl, rfl, trivial⟩
    refine c_condD rfl (fun hbad => ?_) (fun hgood => ?_)
    · refine c_seq ?_
      refine c_region ?_
      refine s_y (y_assign rfl) rfl rfl rfl ?_
      refine s_nil ?_
      refine f_then ?_
      refine c_ret ?_
      refine f_blockR ?_
      refine f_thenR ?_
      refine f_rndR ?_
      refine f_blockR ?_
      refine f_thenR ?_
      exact f_retE () (res1 rfl rfl) (by rw [decide_eq_false fun h => ?_]; have := h.hw i (by omega); omega) (fun w h => h)
    refine c_skip ?_
    refine f_blockN ?_
    refine f_then ?_
    refine c_region ?_
    refine s_y (y_move rfl) rfl rfl rfl ?_
    refine s_y (y_add rfl rfl (by omega)) rfl rfl rfl ?_
    refine s_y (y_assign rfl) rfl rfl rfl ?_
    refine s_nil ?_
    exact f_roundP (i + 1) ⟨by omega, fun j hj => by
      by_cases e : j = i
      · subst e; omega
      · exact hok j (by omega)⟩ (by omega) ⟨rfl, rfl, rfl, trivial⟩ (fun w h => h)
  have hall : ∀ j, j < n → -1073741824 ≤ w j ∧ w j ≤ 1073741824 := fun j hj => hok j (by omega)
  clear hok hge
  refine c_exit ?_
  refine f_thenE ?_
  refine f_rndE ?_
  refine f_blockE ?_
  refine f_then ?_
  refine c_seq ?_
  refine c_seq ?_
  refine c_region ?_
  refine s_y (y_assign rfl) rfl rfl rfl ?_
  refine s_nil ?_
  refine f_then ?_
  refine c_block ?_
  refine c_loopP (α := Nat) (fun z => [(0, .slice pw n cw), (1, .slice pq m cq), (6, .int .i64 z)]) (fun z => z ≤ m ∧ ∀ i, i < z → (0 ≤ (Q i).1 ∧ (Q i).1 < n) ∧ 0 ≤ (Q i).2 ∧ (Q i).2 < n)
    (fun _ => K W Ls) (fun z => m - z) 0 ⟨rfl, rfl, rfl, trivial⟩ ⟨Nat.zero_le _, fun i hi => absurd hi (Nat.not_lt_zero i)⟩ (fun w h => h) ?_
  rintro i ⟨hi, hok⟩
  refine c_seq ?_
  refine c_seq ?_
  refine c_region ?_
  refine s_y (y_move rfl) rfl rfl rfl ?_
  refine s_y (y_move rfl) rfl rfl rfl ?_
  refine s_y (y_len Try.tab rfl rfl) rfl rfl rfl ?_
  refine s_y (y_lss rfl rfl) rfl rfl rfl ?_
  refine s_nil ?_
  refine f_then ?_
  refine c_condD rfl (fun hlt => ?_) (fun hge => ?_)
  rotate_left
  · refine c_exit ?_
    refine f_thenE ?_
    refine f_rndE ?_
    refine f_blockE ?_
    refine f_then ?_
    refine c_seq ?_
    refine c_region ?_
    refine s_y (y_assign rfl) rfl rfl rfl ?_
    refine s_nil ?_
    refine f_then ?_
    refine c_ret ?_
    exact f_retE () (res1 rfl rfl) (by rw [decide_eq_true ⟨by omega, by omega, hall, fun j hj => hok j (by omega)⟩]) (fun w h => h)
  have hin : i < m := by omega
  obtain ⟨bq, oq, rfl, hcq, hq0, hq1⟩ := hqs (by omega)
  refine c_skip ?_
  refine f_then ?_
  refine c_seq ?_
  refine c_block ?_
  refine c_chain 72 (decide ((Q i).1 < 0 ∨ n ≤ (Q i).1 ∨ (Q i).2 < 0 ∨ n ≤ (Q i).2)) ?_ ?_
  · refine c_region ?_
    refine s_y (y_move rfl) rfl rfl rfl ?_
    refine s_y (y_move rfl) rfl rfl rfl ?_
    refine s_y (y_indexAddr (s := 2) Try.tab rfl rfl rfl rfl _ rfl (by omega)) rfl rfl rfl ?_
    refine s_y (y_indexArr0 Try.tab rfl rfl rfl rfl rfl (by omega)) rfl rfl rfl ?_
    refine s_y (y_load Try.tab rfl rfl (hq0 _ (by omega))) rfl rfl rfl ?_
    refine s_y (y_lss rfl rfl) rfl rfl rfl ?_
    refine s_y (y_move rfl) rfl rfl rfl ?_
    refine s_case 45 rfl (fun c0 => ?_) (fun c0 => ?_)
    · refine s_skip rfl rfl rfl ?_
      iterate 7 refine s_skip rfl rfl rfl ?_
      refine s_y (y_pickT rfl rfl) rfl rfl rfl ?_
      refine s_y (y_move rfl) rfl rfl rfl ?_
      iterate 6 refine s_skip rfl rfl rfl ?_
      refine s_y (y_pickT rfl rfl) rfl rfl rfl ?_
      refine s_y (y_move rfl) rfl rfl rfl ?_
      iterate 8 refine s_skip rfl rfl rfl ?_
      refine s_y (y_pickT rfl rfl) rfl rfl rfl ?_
      refine s_nil ?_
      exact f_chain rfl ((decide_eq_true (by omega)).symm) ⟨rfl, rfl, rfl, rfl, rfl, rfl, rfl, trivial⟩
    · refine s_y (y_move rfl) rfl rfl rfl ?_
      refine s_y (y_move rfl) rfl rfl rfl ?_
      refine s_y (y_indexAddr (s := 2) Try.tab rfl rfl rfl rfl _ rfl (by omega)) rfl rfl rfl ?_
      refine s_y (y_indexArr0 Try.tab rfl rfl rfl rfl rfl (by omega)) rfl rfl rfl ?_
      refine s_y (y_load Try.tab rfl rfl (hq0 _ (by omega))) rfl rfl rfl ?_
      refine s_y (y_move rfl) rfl rfl rfl ?_
      refine s_y (y_len Try.tab rfl rfl) rfl rfl rfl ?_
      refine s_y (y_geq rfl rfl) rfl rfl rfl ?_
      refine s_y (y_pickF rfl rfl) rfl rfl rfl ?_
      refine s_y (y_move rfl) rfl rfl rfl ?_
      refine s_case 55 rfl (fun c1 => ?_) (fun c1 => ?_)
      · refine s_skip rfl rfl rfl ?_
        iterate 5 refine s_skip rfl rfl rfl ?_
        refine s_y (y_pickT rfl rfl) rfl rfl rfl ?_
        refine s_y (y_move rfl) rfl rfl rfl ?_
        iterate 8 refine s_skip rfl rfl rfl ?_
        refine s_y (y_pickT rfl rfl) rfl rfl rfl ?_
        refine s_nil ?_
        exact f_chain rfl ((decide_eq_true (by omega)).symm) ⟨rfl, rfl, rfl, rfl, rfl, rfl, rfl, trivial⟩
      · refine s_y (y_move rfl) rfl rfl rfl ?_
        refine s_y (y_move rfl) rfl rfl rfl ?_
        refine s_y (y_indexAddr (s := 2) Try.tab rfl rfl rfl rfl _ rfl (by omega)) rfl rfl rfl ?_
        refine s_y (y_indexArr1 Try.tab rfl rfl rfl rfl 1 rfl (by omega)) rfl rfl rfl ?_
        refine s_y (y_load Try.tab rfl rfl (hq1 _ (by omega))) rfl rfl rfl ?_
        refine s_y (y_lss rfl rfl) rfl rfl rfl ?_
        refine s_y (y_pickF rfl rfl) rfl rfl rfl ?_
        refine s_y (y_move rfl) rfl rfl rfl ?_
        refine s_case 63 rfl (fun c2 => ?_) (fun c2 => ?_)
        · refine s_skip rfl rfl rfl ?_
          iterate 7 refine s_skip rfl rfl rfl ?_
          refine s_y (y_pickT rfl rfl) rfl rfl rfl ?_
          refine s_nil ?_
          exact f_chain rfl ((decide_eq_true (by omega)).symm) ⟨rfl, rfl, rfl, rfl, rfl, rfl, rfl, trivial⟩
        · refine s_y (y_move rfl) rfl rfl rfl ?_
          refine s_y (y_move rfl) rfl rfl rfl ?_
          refine s_y (y_indexAddr (s := 2) Try.tab rfl rfl rfl rfl _ rfl (by omega)) rfl rfl rfl ?_
          refine s_y (y_indexArr1 Try.tab rfl rfl rfl rfl 1 rfl (by omega)) rfl rfl rfl ?_
          refine s_y (y_load Try.tab rfl rfl (hq1 _ (by omega))) rfl rfl rfl ?_
          refine s_y (y_move rfl) rfl rfl rfl ?_
          refine s_y (y_len Try.tab rfl rfl) rfl rfl rfl ?_
          refine s_y (y_geq rfl rfl) rfl rfl rfl ?_
          refine s_y (y_pickF rfl rfl) rfl rfl rfl ?_
          refine s_nil ?_
          exact f_chain rfl (decide_eq_decide.2 (by omega)) ⟨rfl, rfl, rfl, rfl, rfl, rfl, rfl, trivial⟩
  refine c_condD rfl (fun hbad => ?_) (fun hgood => ?_)
  · refine c_seq ?_
    refine c_region ?_
    refine s_y (y_assign rfl) rfl rfl rfl ?_
    refine s_nil ?_
    refine f_then ?_
    refine c_ret ?_
    refine f_blockR ?_
    refine f_thenR ?_
    refine f_rndR ?_
    refine f_blockR ?_
    refine f_thenR ?_
    exact f_retE () (res1 rfl rfl) (by rw [decide_eq_false fun h => ?_]; have := h.hq i hin; omega) (fun w h => h)
  refine c_skip ?_
  refine f_blockN ?_
  refine f_then ?_
  refine c_region ?_
  refine s_y (y_move rfl) rfl rfl rfl ?_
  refine s_y (y_add rfl rfl (by omega)) rfl rfl rfl ?_
  refine s_y (y_assign rfl) rfl rfl rfl ?_
  refine s_nil ?_
  exact f_roundP (i + 1) ⟨by omega, fun j hj => by
    by_cases e : j = i
    · subst e; omega
    · exact hok j (by omega)⟩ (by omega) ⟨rfl, rfl, rfl, trivial⟩ (fun w h => h)
structure PairsOK (l r : Int) (m : Nat) (Q : Nat → Pr) : Prop where
  hl : 0 ≤ l ∧ l ≤ 60
  hr : 0 ≤ r ∧ r ≤ 60
  hm : m ≤ 1024
  hq : ∀ i, i < m → (0 ≤ (Q i).1 ∧ (Q i).1 < l) ∧ 0 ≤ (Q i).2 ∧ (Q i).2 < r
open Classical in
set_option maxHeartbeats 4000000 in
theorem rpairs_spec (W : World) (Ls : List Chunk) (l r : Int) (m : Nat) (vq : Value) (Q : Nat → Pr) (hQ : SlP (K W Ls) vq m Q) (hb : m ≤ 1000000000) :
    Spec Try.prog 32 #[.int .i64 l, .int .i64 r, vq] (K W Ls) (fun _ : Unit => .bool (decide (PairsOK l r m Q))) (fun _ => K W Ls) := by
  obtain ⟨pq, cq, rfl, _, hqs⟩ := hQ.open
  refine enter (args := [_, _, _]) Try.func32 rfl Try.ntmps32 rfl ?_
  refine c_seq ?_
  refine c_region ?_
  refine s_y (y_assign rfl) rfl rfl rfl ?_
  refine s_nil ?_
  refine f_then ?_
  refine c_seq ?_
  refine c_chain 26 (decide (l < 0 ∨ 60 < l ∨ r < 0 ∨ 60 < r ∨ 1024 < m)) ?_ ?_
  · refine c_region ?_
    refine s_y (y_move rfl) rfl rfl rfl ?_
    refine s_y (y_lss rfl rfl) rfl rfl rfl ?_
    refine s_y (y_move rfl) rfl rfl rfl ?_
    refine s_case 10 rfl (fun c0 => ?_) (fun c0 => ?_)
    · refine s_skip rfl rfl rfl ?_
      refine s_skip rfl rfl rfl ?_
      refine s_y (y_pickT rfl rfl) rfl rfl rfl ?_
      refine s_y (y_move rfl) rfl rfl rfl ?_
      iterate 2 refine s_skip rfl rfl rfl ?_
      refine s_y (y_pickT rfl rfl) rfl rfl rfl ?_
      refine s_y (y_move rfl) rfl rfl rfl ?_
      iterate 2 refine s_skip rfl rfl rfl ?_
      refine s_y (y_pickT rfl rfl) rfl rfl rfl ?_
      refine s_y (y_move rfl) rfl rfl rfl ?_
      iterate 3 refine s_skip rfl rfl rfl ?_
      refine s_y (y_pickT rfl rfl) rfl rfl rfl ?_
      refine s_nil ?_
      exact f_chain rfl ((decide_eq_true (by omega)).symm) ⟨rfl, rfl, rfl, rfl, trivial⟩
    · refine s_y (y_move rfl) rfl rfl rfl ?_
      refine s_y (y_gtr rfl rfl) rfl rfl rfl ?_
      refine s_y (y_pickF rfl rfl) rfl rfl rfl ?_
      refine s_y (y_move rfl) rfl rfl rfl ?_
      refine s_case 14 rfl (fun c1 => ?_) (fun c1 => ?_)
      · refine s_skip rfl rfl rfl ?_
        refine s_skip rfl rfl rfl ?_
        refine s_y (y_pickT rfl rfl) rfl rfl rfl ?_
        refine s_y (y_move rfl) rfl rfl rfl ?_
        iterate 2 refine s_skip rfl rfl rfl ?_
        refine s_y (y_pickT rfl rfl) rfl rfl rfl ?_
        refine s_y (y_move rfl) rfl rfl rfl ?_
        iterate 3 refine s_skip rfl rfl rfl ?_
        refine s_y (y_pickT rfl rfl) rfl rfl rfl ?_
        refine s_nil ?_
        exact f_chain rfl ((decide_eq_true (by omega)).symm) ⟨rfl, rfl, rfl, rfl, trivial⟩
      · refine s_y (y_move rfl) rfl rfl rfl ?_
        refine s_y (y_lss rfl rfl) rfl rfl rfl ?_
        refine s_y (y_pickF rfl rfl) rfl rfl rfl ?_
        refine s_y (y_move rfl) rfl rfl rfl ?_
        refine s_case 18 rfl (fun c2 => ?_) (fun c2 => ?_)
        · refine s_skip rfl rfl rfl ?_
          refine s_skip rfl rfl rfl ?_
          refine s_y (y_pickT rfl rfl) rfl rfl rfl ?_
          refine s_y (y_move rfl) rfl rfl rfl ?_
          iterate 3 refine s_skip rfl rfl rfl ?_
          refine s_y (y_pickT rfl rfl) rfl rfl rfl ?_
          refine s_nil ?_
          exact f_chain rfl ((decide_eq_true (by omega)).symm) ⟨rfl, rfl, rfl, rfl, trivial⟩
        · refine s_y (y_move rfl) rfl rfl rfl ?_
          refine s_y (y_gtr rfl rfl) rfl rfl rfl ?_
          refine s_y (y_pickF rfl rfl) rfl rfl rfl ?_
          refine s_y (y_move rfl) rfl rfl rfl ?_
          refine s_case 22 rfl (fun c3 => ?_) (fun c3 => ?_)
          · refine s_skip rfl rfl rfl ?_
            iterate 2 refine s_skip rfl rfl rfl ?_
            refine s_y (y_pickT rfl rfl) rfl rfl rfl ?_
            refine s_nil ?_
            exact f_chain rfl ((decide_eq_true (by omega)).symm) ⟨rfl, rfl, rfl, rfl, trivial⟩
          · refine s_y (y_move rfl) rfl rfl rfl ?_
            refine s_y (y_len Try.tab rfl rfl) rfl rfl rfl ?_
            refine s_y (y_gtr rfl rfl) rfl rfl rfl ?_
            refine s_y (y_pickF rfl rfl) rfl rfl rfl ?_
            refine s_nil ?_
            exact f_chain rfl (decide_eq_decide.2 (by omega)) ⟨rfl, rfl, rfl, rfl, trivial⟩
  refine c_condD rfl (fun hbad => ?_) (fun hgood => ?_)
  · refine c_seq ?_
    refine c_region ?_
    refine s_y (y_assign rfl) rfl rfl rfl ?_
    refine s_nil ?_
    refine f_then ?_
    refine c_ret ?_
    refine f_thenR ?_
    exact f_retE () (res1 rfl rfl) (by rw [decide_eq_false fun h => ?_]; have := h.hl; have := h.hr; have := h.hm; omega) (fun w h => h)
  refine c_skip ?_
  refine f_then ?_
  refine c_seq ?_
  refine c_seq ?_
  refine c_region ?_
  refine s_y (y_assign rfl) rfl rfl rfl ?_
  refine s_nil ?_
  refine f_then ?_
  refine c_block ?_
  refine c_loopP (α := Nat) (fun z => [(0, .int .i64 l), (1, .int .i64 r), (2, .slice pq m cq), (7, .int .i64 z)]) (fun z => z ≤ m ∧ ∀ i, i < z → (0 ≤ (Q i).1 ∧ (Q i).1 < l) ∧ 0 ≤ (Q i).2 ∧ (Q i).2 < r)
    (fun _ => K W Ls) (fun z => m - z) 0 ⟨rfl, rfl, rfl, rfl, trivial⟩ ⟨Nat.zero_le _, fun i hi => absurd hi (Nat.not_lt_zero i)⟩ (fun w h => h) ?_
  rintro i ⟨hi, hok⟩
  refine c_seq ?_
  refine c_seq ?_
  refine c_region ?_
  refine s_y (y_move rfl) rfl rfl rfl ?_
  refine s_y (y_move rfl) rfl rfl rfl ?_
  refine s_y (y_len Try.tab rfl rfl) rfl rfl rfl ?_
  refine s_y (y_lss rfl rfl) rfl rfl rfl ?_
  refine s_nil ?_
  refine f_then ?_
  refine c_condD rfl (fun hlt => ?_) (fun hge => ?_)
  rotate_left
  · refine c_exit ?_
    refine f_thenE ?_
    refine f_rndE ?_
    refine f_blockE ?_
    refine f_then ?_
    refine c_seq ?_
    refine c_region ?_
    refine s_y (y_assign rfl) rfl rfl rfl ?_
    refine s_nil ?_
    refine f_then ?_
    refine c_ret ?_
    exact f_retE () (res1 rfl rfl) (by rw [decide_eq_true ⟨by omega, by omega, by omega, fun j hj => hok j (by omega)⟩]) (fun w h => h)
  have hin : i < m := by omega
  obtain ⟨bq, oq, rfl, hcq, hq0, hq1⟩ := hqs (by omega)
  refine c_skip ?_
  refine f_then ?_
  refine c_seq ?_
  refine c_block ?_
  refine c_chain 64 (decide ((Q i).1 < 0 ∨ l ≤ (Q i).1 ∨ (Q i).2 < 0 ∨ r ≤ (Q i).2)) ?_ ?_
  · refine c_region ?_
    refine s_y (y_move rfl) rfl rfl rfl ?_
    refine s_y (y_move rfl) rfl rfl rfl ?_
    refine s_y (y_indexAddr (s := 2) Try.tab rfl rfl rfl rfl _ rfl (by omega)) rfl rfl rfl ?_
    refine s_y (y_indexArr0 Try.tab rfl rfl rfl rfl rfl (by omega)) rfl rfl rfl ?_
    refine s_y (y_load Try.tab rfl rfl (hq0 _ (by omega))) rfl rfl rfl ?_
    refine s_y (y_lss rfl rfl) rfl rfl rfl ?_
    refine s_y (y_move rfl) rfl rfl rfl ?_
    refine s_case 39 rfl (fun c0 => ?_) (fun c0 => ?_)
    · refine s_skip rfl rfl rfl ?_
      iterate 6 refine s_skip rfl rfl rfl ?_
      refine s_y (y_pickT rfl rfl) rfl rfl rfl ?_
      refine s_y (y_move rfl) rfl rfl rfl ?_
      iterate 6 refine s_skip rfl rfl rfl ?_
      refine s_y (y_pickT rfl rfl) rfl rfl rfl ?_
      refine s_y (y_move rfl) rfl rfl rfl ?_
      iterate 7 refine s_skip rfl rfl rfl ?_
      refine s_y (y_pickT rfl rfl) rfl rfl rfl ?_
      refine s_nil ?_
      exact f_chain rfl ((decide_eq_true (by omega)).symm) ⟨rfl, rfl, rfl, rfl, rfl, rfl, rfl, rfl, trivial⟩
    · refine s_y (y_move rfl) rfl rfl rfl ?_
      refine s_y (y_move rfl) rfl rfl rfl ?_
      refine s_y (y_indexAddr (s := 2) Try.tab rfl rfl rfl rfl _ rfl (by omega)) rfl rfl rfl ?_
      refine s_y (y_indexArr0 Try.tab rfl rfl rfl rfl rfl (by omega)) rfl rfl rfl ?_
      refine s_y (y_load Try.tab rfl rfl (hq0 _ (by omega))) rfl rfl rfl ?_
      refine s_y (y_move rfl) rfl rfl rfl ?_
      refine s_y (y_geq rfl rfl) rfl rfl rfl ?_
      refine s_y (y_pickF rfl rfl) rfl rfl rfl ?_
      refine s_y (y_move rfl) rfl rfl rfl ?_
      refine s_case 48 rfl (fun c1 => ?_) (fun c1 => ?_)
      · refine s_skip rfl rfl rfl ?_
        iterate 5 refine s_skip rfl rfl rfl ?_
        refine s_y (y_pickT rfl rfl) rfl rfl rfl ?_
        refine s_y (y_move rfl) rfl rfl rfl ?_
        iterate 7 refine s_skip rfl rfl rfl ?_
        refine s_y (y_pickT rfl rfl) rfl rfl rfl ?_
        refine s_nil ?_
        exact f_chain rfl ((decide_eq_true (by omega)).symm) ⟨rfl, rfl, rfl, rfl, rfl, rfl, rfl, rfl, trivial⟩
      · refine s_y (y_move rfl) rfl rfl rfl ?_
        refine s_y (y_move rfl) rfl rfl rfl ?_
        refine s_y (y_indexAddr (s := 2) Try.tab rfl rfl rfl rfl _ rfl (by omega)) rfl rfl rfl ?_
        refine s_y (y_indexArr1 Try.tab rfl rfl rfl rfl 1 rfl (by omega)) rfl rfl rfl ?_
        refine s_y (y_load Try.tab rfl rfl (hq1 _ (by omega))) rfl rfl rfl ?_
        refine s_y (y_lss rfl rfl) rfl rfl rfl ?_
        refine s_y (y_pickF rfl rfl) rfl rfl rfl ?_
        refine s_y (y_move rfl) rfl rfl rfl ?_
        refine s_case 56 rfl (fun c2 => ?_) (fun c2 => ?_)
        · refine s_skip rfl rfl rfl ?_
          iterate 6 refine s_skip rfl rfl rfl ?_
          refine s_y (y_pickT rfl rfl) rfl rfl rfl ?_
          refine s_nil ?_
          exact f_chain rfl ((decide_eq_true (by omega)).symm) ⟨rfl, rfl, rfl, rfl, rfl, rfl, rfl, rfl, trivial⟩
        · refine s_y (y_move rfl) rfl rfl rfl ?_
          refine s_y (y_move rfl) rfl rfl rfl ?_
          refine s_y (y_indexAddr (s := 2) Try.tab rfl rfl rfl rfl _ rfl (by omega)) rfl rfl rfl ?_
          refine s_y (y_indexArr1 Try.tab rfl rfl rfl rfl 1 rfl (by omega)) rfl rfl rfl ?_
          refine s_y (y_load Try.tab rfl rfl (hq1 _ (by omega))) rfl rfl rfl ?_
          refine s_y (y_move rfl) rfl rfl rfl ?_
          refine s_y (y_geq rfl rfl) rfl rfl rfl ?_
          refine s_y (y_pickF rfl rfl) rfl rfl rfl ?_
          refine s_nil ?_
          exact f_chain rfl (decide_eq_decide.2 (by omega)) ⟨rfl, rfl, rfl, rfl, rfl, rfl, rfl, rfl, trivial⟩
  refine c_condD rfl (fun hbad => ?_) (fun hgood => ?_)
  · refine c_seq ?_
    refine c_region ?_
    refine s_y (y_assign rfl) rfl rfl rfl ?_
    refine s_nil ?_
    refine f_then ?_
    refine c_ret ?_
    refine f_blockR ?_
    refine f_thenR ?_
    refine f_rndR ?_
    refine f_blockR ?_
    refine f_thenR ?_
    exact f_retE () (res1 rfl rfl) (by rw [decide_eq_false fun h => ?_]; have := h.hq i hin; omega) (fun w h => h)
  refine c_skip ?_
  refine f_blockN ?_
  refine f_then ?_
  refine c_region ?_
  refine s_y (y_move rfl) rfl rfl rfl ?_
  refine s_y (y_add rfl rfl (by omega)) rfl rfl rfl ?_
  refine s_y (y_assign rfl) rfl rfl rfl ?_
  refine s_nil ?_
  exact f_roundP (i + 1) ⟨by omega, fun j hj => by
    by_cases e : j = i
    · subst e; omega
    · exact hok j (by omega)⟩ (by omega) ⟨rfl, rfl, rfl, rfl, trivial⟩ (fun w h => h)
/-- A vertex cover. -/
structure CoverOK (l r m : Nat) (Q : Nat → Pr) (ma mb : Nat) (a b : Nat → Bool) : Prop where
  la : ma = l
  lb : mb = r
  cov : ∀ i, i < m → a (Q i).1.toNat = true ∨ b (Q i).2.toNat = true
open Classical in
set_option maxHeartbeats 4000000 in
theorem rcover_spec (W : World) (Ls : List Chunk) (l r m ma mb : Nat) (vq va vb : Value) (Q : Nat → Pr) (a b : Nat → Bool) (hQ : SlP (K W Ls) vq m Q) (hA : SlB (K W Ls) va ma a) (hB : SlB (K W Ls) vb mb b) (hok : PairsOK l r m Q) (hbb : ma ≤ 9223372036854775807 ∧ mb ≤ 9223372036854775807) :
    Spec Try.prog 34 #[.int .i64 l, .int .i64 r, vq, va, vb] (K W Ls) (fun _ : Unit => .tuple #[.int .i64 (if CoverOK l r m Q ma mb a b then (cnt l a : Int) + (cnt r b : Int) else 0), .bool (decide (CoverOK l r m Q ma mb a b))]) (fun _ => K W Ls) := by
  obtain ⟨pq, cq, rfl, _, hqs⟩ := hQ.open
  obtain ⟨pa, ca, rfl, _, has⟩ := SlV.open1 hA
  obtain ⟨pb, cb, rfl, _, hbs⟩ := SlV.open1 hB
  have h_l := hok.hl; have h_r := hok.hr; have h_m := hok.hm
  refine enter (args := [_, _, _, _, _]) Try.func34 rfl Try.ntmps34 rfl ?_
  refine c_seq ?_
  refine c_region ?_
  refine s_y (y_assign rfl) rfl rfl rfl ?_
  refine s_y (y_assign rfl) rfl rfl rfl ?_
  refine s_nil ?_
  refine f_then ?_
  refine c_seq ?_
  refine c_chain 25 (decide (ma ≠ l ∨ mb ≠ r)) ?_ ?_
  · refine c_region ?_
    refine s_y (y_move rfl) rfl rfl rfl ?_
    refine s_y (y_len Try.tab rfl rfl) rfl rfl rfl ?_
    refine s_y (y_move rfl) rfl rfl rfl ?_
    refine s_y (y_neq rfl rfl) rfl rfl rfl ?_
    refine s_y (y_move rfl) rfl rfl rfl ?_
    refine s_case 20 rfl (fun c0 => ?_) (fun c0 => ?_)
    · refine s_skip rfl rfl rfl ?_
      iterate 3 refine s_skip rfl rfl rfl ?_
      refine s_y (y_pickT rfl rfl) rfl rfl rfl ?_
      refine s_nil ?_
      exact f_chain rfl ((decide_eq_true (by omega)).symm) ⟨rfl, rfl, rfl, rfl, rfl, rfl, rfl, trivial⟩
    · refine s_y (y_move rfl) rfl rfl rfl ?_
      refine s_y (y_len Try.tab rfl rfl) rfl rfl rfl ?_
      refine s_y (y_move rfl) rfl rfl rfl ?_
      refine s_y (y_neq rfl rfl) rfl rfl rfl ?_
      refine s_y (y_pickF rfl rfl) rfl rfl rfl ?_
      refine s_nil ?_
      exact f_chain rfl (decide_eq_decide.2 (by omega)) ⟨rfl, rfl, rfl, rfl, rfl, rfl, rfl, trivial⟩
  refine c_condD rfl (fun hbad => ?_) (fun hgood => ?_)
  · refine c_seq ?_
    refine c_region ?_
    refine s_y (y_assign rfl) rfl rfl rfl ?_
    refine s_y (y_assign rfl) rfl rfl rfl ?_
    refine s_nil ?_
    refine f_then ?_
    refine c_ret ?_
    refine f_thenR ?_
    have hno : ¬ CoverOK l r m Q ma mb a b := fun h => by have := h.la; have := h.lb; omega
    exact f_retE () (res2 rfl rfl rfl) (by rw [if_neg hno, decide_eq_false hno]) (fun w h => h)
  have e1 : ma = l := by omega
  have e2 : mb = r := by omega
  subst e1; subst e2
  refine c_skip ?_
  refine f_then ?_
  refine c_seq ?_
  refine c_seq ?_
  refine c_region ?_
  refine s_y (y_assign rfl) rfl rfl rfl ?_
  refine s_nil ?_
  refine f_then ?_
  refine c_block ?_
  refine c_loopP (α := Nat) (fun z => [(0, .int .i64 ma), (1, .int .i64 mb), (2, .slice pq m cq), (3, .slice pa ma ca), (4, .slice pb mb cb), (12, .int .i64 z)]) (fun z => z ≤ m ∧ ∀ i, i < z → a (Q i).1.toNat = true ∨ b (Q i).2.toNat = true)
    (fun _ => K W Ls) (fun z => m - z) 0 ⟨rfl, rfl, rfl, rfl, rfl, rfl, trivial⟩ ⟨Nat.zero_le _, fun i hi => absurd hi (Nat.not_lt_zero i)⟩ (fun w h => h) ?_
  rintro i ⟨hi, hcv⟩
  refine c_seq ?_
  refine c_seq ?_
  refine c_region ?_
  refine s_y (y_move rfl) rfl rfl rfl ?_
  refine s_y (y_move rfl) rfl rfl rfl ?_
  refine s_y (y_len Try.tab rfl rfl) rfl rfl rfl ?_
  refine s_y (y_lss rfl rfl) rfl rfl rfl ?_
  refine s_nil ?_
  refine f_then ?_
  refine c_condD rfl (fun hlt => ?_) (fun hge => ?_)
  · have hin : i < m := by omega
    obtain ⟨bq, oq, rfl, hcq, hq0, hq1⟩ := hqs (by omega)
    have hri := hok.hq i hin
    obtain ⟨ba, oa, rfl, hca⟩ := has (by omega)
    obtain ⟨bb, ob, rfl, hcb⟩ := hbs (by omega)
    refine c_skip ?_
    refine f_then ?_
    refine c_seq ?_
    refine c_block ?_
    refine c_chain 51 (decide (a (Q i).1.toNat = false ∧ b (Q i).2.toNat = false)) ?_ ?_
    · refine c_region ?_
      refine s_y (y_move rfl) rfl rfl rfl ?_
      refine s_y (y_move rfl) rfl rfl rfl ?_
      refine s_y (y_move rfl) rfl rfl rfl ?_
      refine s_y (y_indexAddr (s := 2) Try.tab rfl rfl rfl rfl _ rfl (by omega)) rfl rfl rfl ?_
      refine s_y (y_indexArr0 Try.tab rfl rfl rfl rfl rfl (by omega)) rfl rfl rfl ?_
      refine s_y (y_load Try.tab rfl rfl (hq0 _ (by omega))) rfl rfl rfl ?_
      refine s_y (y_indexAddr1o Try.tab rfl rfl rfl rfl _ (Int.toNat_of_nonneg (by omega)).symm (by omega)) rfl rfl rfl ?_
      refine s_y (y_load Try.tab rfl rfl (hca _ (by omega))) rfl rfl rfl ?_
      refine s_y (y_not rfl) rfl rfl rfl ?_
      refine s_y (y_move rfl) rfl rfl rfl ?_
      refine s_caseB 41 rfl (fun c0 => ?_) (fun c0 => ?_)
      · refine s_y (y_move rfl) rfl rfl rfl ?_
        refine s_y (y_move rfl) rfl rfl rfl ?_
        refine s_y (y_move rfl) rfl rfl rfl ?_
        refine s_y (y_indexAddr (s := 2) Try.tab rfl rfl rfl rfl _ rfl (by omega)) rfl rfl rfl ?_
        refine s_y (y_indexArr1 Try.tab rfl rfl rfl rfl 1 rfl (by omega)) rfl rfl rfl ?_
        refine s_y (y_load Try.tab rfl rfl (hq1 _ (by omega))) rfl rfl rfl ?_
        refine s_y (y_indexAddr1o Try.tab rfl rfl rfl rfl _ (Int.toNat_of_nonneg (by omega)).symm (by omega)) rfl rfl rfl ?_
        refine s_y (y_load Try.tab rfl rfl (hcb _ (by omega))) rfl rfl rfl ?_
        refine s_y (y_not rfl) rfl rfl rfl ?_
        refine s_y (y_pickT rfl rfl) rfl rfl rfl ?_
        refine s_nil ?_
        exact f_chain rfl ((by simp [*])) ⟨rfl, rfl, rfl, rfl, rfl, rfl, rfl, rfl, rfl, rfl, trivial⟩
      · refine s_skip rfl rfl rfl ?_
        iterate 8 refine s_skip rfl rfl rfl ?_
        refine s_y (y_pickF rfl rfl) rfl rfl rfl ?_
        refine s_nil ?_
        exact f_chain rfl ((by simp [*])) ⟨rfl, rfl, rfl, rfl, rfl, rfl, rfl, rfl, rfl, rfl, trivial⟩
    refine c_condD rfl (fun hbad => ?_) (fun hgood => ?_)
    · refine c_seq ?_
      refine c_region ?_
      refine s_y (y_assign rfl) rfl rfl rfl ?_
      refine s_y (y_assign rfl) rfl rfl rfl ?_
      refine s_nil ?_
      refine f_then ?_
      refine c_ret ?_
      refine f_blockR ?_
      refine f_thenR ?_
      refine f_rndR ?_
      refine f_blockR ?_
      refine f_thenR ?_
      have hno : ¬ CoverOK ma mb m Q ma mb a b := fun h => by have := h.cov i hin; simp [hbad.1, hbad.2] at this
      exact f_retE () (res2 rfl rfl rfl) (by rw [if_neg hno, decide_eq_false hno]) (fun w h => h)
    refine c_skip ?_
    refine f_blockN ?_
    refine f_then ?_
    refine c_region ?_
    refine s_y (y_move rfl) rfl rfl rfl ?_
    refine s_y (y_add rfl rfl (by omega)) rfl rfl rfl ?_
    refine s_y (y_assign rfl) rfl rfl rfl ?_
    refine s_nil ?_
    exact f_roundP (i + 1) ⟨by omega, fun j hj => by
      by_cases e : j = i
      · subst e
        cases e1 : a (Q j).1.toNat with
        | true => exact .inl rfl
        | false => cases e2 : b (Q j).2.toNat with
          | true => exact .inr rfl
          | false => exact absurd ⟨e1, e2⟩ hgood
      · exact hcv j (by omega)⟩ (by omega) ⟨rfl, rfl, rfl, rfl, rfl, rfl, trivial⟩ (fun w h => h)
  have hyes : CoverOK ma mb m Q ma mb a b := ⟨rfl, rfl, fun j hj => hcv j (by omega)⟩
  rw [if_pos hyes, decide_eq_true hyes]
  clear hcv hge
  refine c_exit ?_
  refine f_thenE ?_
  refine f_rndE ?_
  refine f_blockE ?_
  refine f_then ?_
  refine c_seq ?_
  refine c_region ?_
  refine s_y (y_assign rfl) rfl rfl rfl ?_
  refine s_nil ?_
  refine f_then ?_
  refine c_seq ?_
  refine c_seq ?_
  refine c_region ?_
  refine s_y (y_assign rfl) rfl rfl rfl ?_
  refine s_nil ?_
  refine f_then ?_
  refine c_block ?_
  refine c_loopP (α := Nat) (fun z => [(0, .int .i64 ma), (1, .int .i64 mb), (3, .slice pa ma ca), (4, .slice pb mb cb), (13, .int .i64 (cnt z a : Nat)), (14, .int .i64 z)]) (fun z => z ≤ ma)
    (fun _ => K W Ls) (fun z => ma - z) 0 ⟨rfl, rfl, rfl, rfl, rfl, rfl, trivial⟩ (Nat.zero_le _) (fun w h => h) ?_
  rintro i hi
  refine c_seq ?_
  refine c_seq ?_
  refine c_region ?_
  refine s_y (y_move rfl) rfl rfl rfl ?_
  refine s_y (y_move rfl) rfl rfl rfl ?_
  refine s_y (y_lss rfl rfl) rfl rfl rfl ?_
  refine s_nil ?_
  refine f_then ?_
  refine c_condD rfl (fun hlt => ?_) (fun hge => ?_)
  · obtain ⟨ba, oa, rfl, hca⟩ := has (by omega)
    have hc := cnt_le i a
    refine c_skip ?_
    refine f_then ?_
    refine c_seq ?_
    refine c_block ?_
    refine c_seq ?_
    refine c_region ?_
    refine s_y (y_move rfl) rfl rfl rfl ?_
    refine s_y (y_move rfl) rfl rfl rfl ?_
    refine s_y (y_indexAddr1o Try.tab rfl rfl rfl rfl _ rfl (by omega)) rfl rfl rfl ?_
    refine s_y (y_load Try.tab rfl rfl (hca _ (by omega))) rfl rfl rfl ?_
    refine s_nil ?_
    refine f_then ?_
    refine c_cond rfl (fun hyes => ?_) (fun hno => ?_)
    · refine c_region ?_
      refine s_y (y_move rfl) rfl rfl rfl ?_
      refine s_y (y_add rfl rfl (by omega)) rfl rfl rfl ?_
      refine s_y (y_assign rfl) rfl rfl rfl ?_
      refine s_nil ?_
      refine f_blockN ?_
      refine f_then ?_
      refine c_region ?_
      refine s_y (y_move rfl) rfl rfl rfl ?_
      refine s_y (y_add rfl rfl (by omega)) rfl rfl rfl ?_
      refine s_y (y_assign rfl) rfl rfl rfl ?_
      refine s_nil ?_
      refine f_roundP (i + 1) (by omega) (by omega) ⟨rfl, rfl, rfl, rfl, ?_, rfl, trivial⟩ (fun w h => h)
      simp only [cnt, hyes, if_true, Int.natCast_add, Int.natCast_one]; rfl
    · refine c_skip ?_
      refine f_blockN ?_
      refine f_then ?_
      refine c_region ?_
      refine s_y (y_move rfl) rfl rfl rfl ?_
      refine s_y (y_add rfl rfl (by omega)) rfl rfl rfl ?_
      refine s_y (y_assign rfl) rfl rfl rfl ?_
      refine s_nil ?_
      refine f_roundP (i + 1) (by omega) (by omega) ⟨rfl, rfl, rfl, rfl, ?_, rfl, trivial⟩ (fun w h => h)
      simp only [cnt, hno, Bool.false_eq_true, if_false, Nat.add_zero]; rfl
  have him : i = ma := by omega
  subst him
  refine c_exit ?_
  refine f_thenE ?_
  refine f_rndE ?_
  refine f_blockE ?_
  refine f_then ?_
  refine c_seq ?_
  refine c_seq ?_
  refine c_region ?_
  refine s_y (y_assign rfl) rfl rfl rfl ?_
  refine s_nil ?_
  refine f_then ?_
  refine c_block ?_
  refine c_loopP (α := Nat) (fun z => [(1, .int .i64 mb), (4, .slice pb mb cb), (13, .int .i64 ((cnt i a : Nat) + (cnt z b : Nat))), (15, .int .i64 z)]) (fun z => z ≤ mb)
    (fun _ => K W Ls) (fun z => mb - z) 0 ⟨rfl, rfl, ?_, rfl, trivial⟩ (Nat.zero_le _) (fun w h => h) ?_
  · simp only [cnt, Int.natCast_zero, Int.add_zero]; rfl
  rintro j hj
  refine c_seq ?_
  refine c_seq ?_
  refine c_region ?_
  refine s_y (y_move rfl) rfl rfl rfl ?_
  refine s_y (y_move rfl) rfl rfl rfl ?_
  refine s_y (y_lss rfl rfl) rfl rfl rfl ?_
  refine s_nil ?_
  refine f_then ?_
  refine c_condD rfl (fun hlt => ?_) (fun hge => ?_)
  · obtain ⟨bb, ob, rfl, hcb⟩ := hbs (by omega)
    have hc := cnt_le i a
    have hc2 := cnt_le j b
    refine c_skip ?_
    refine f_then ?_
    refine c_seq ?_
    refine c_block ?_
    refine c_seq ?_
    refine c_region ?_
    refine s_y (y_move rfl) rfl rfl rfl ?_
    refine s_y (y_move rfl) rfl rfl rfl ?_
    refine s_y (y_indexAddr1o Try.tab rfl rfl rfl rfl _ rfl (by omega)) rfl rfl rfl ?_
    refine s_y (y_load Try.tab rfl rfl (hcb _ (by omega))) rfl rfl rfl ?_
    refine s_nil ?_
    refine f_then ?_
    refine c_cond rfl (fun hyes => ?_) (fun hno => ?_)
    · refine c_region ?_
      refine s_y (y_move rfl) rfl rfl rfl ?_
      refine s_y (y_add rfl rfl (by omega)) rfl rfl rfl ?_
      refine s_y (y_assign rfl) rfl rfl rfl ?_
      refine s_nil ?_
      refine f_blockN ?_
      refine f_then ?_
      refine c_region ?_
      refine s_y (y_move rfl) rfl rfl rfl ?_
      refine s_y (y_add rfl rfl (by omega)) rfl rfl rfl ?_
      refine s_y (y_assign rfl) rfl rfl rfl ?_
      refine s_nil ?_
      refine f_roundP (j + 1) (by omega) (by omega) ⟨rfl, rfl, ?_, rfl, trivial⟩ (fun w h => h)
      simp only [cnt, hyes, if_true, Int.natCast_add, Int.natCast_one, ← Int.add_assoc]; rfl
    · refine c_skip ?_
      refine f_blockN ?_
      refine f_then ?_
      refine c_region ?_
      refine s_y (y_move rfl) rfl rfl rfl ?_
      refine s_y (y_add rfl rfl (by omega)) rfl rfl rfl ?_
      refine s_y (y_assign rfl) rfl rfl rfl ?_
      refine s_nil ?_
      refine f_roundP (j + 1) (by omega) (by omega) ⟨rfl, rfl, ?_, rfl, trivial⟩ (fun w h => h)
      simp only [cnt, hno, Bool.false_eq_true, if_false, Nat.add_zero]; rfl
  have hjm : j = mb := by omega
  subst hjm
  refine c_exit ?_
  refine f_thenE ?_
  refine f_rndE ?_
  refine f_blockE ?_
  refine f_then ?_
  refine c_seq ?_
  refine c_region ?_
  refine s_y (y_move rfl) rfl rfl rfl ?_
  refine s_y (y_assign rfl) rfl rfl rfl ?_
  refine s_y (y_assign rfl) rfl rfl rfl ?_
  refine s_nil ?_
  refine f_then ?_
  refine c_ret ?_
  exact f_ret () (res2 rfl rfl rfl) (fun w h => h)
end Go.KL
end

section
/- Walks: ref.Matching. -/
namespace Go.KL
open Go.Proofs
attribute [local irreducible] SC St Fin Sq Sw Ylds Doos Sets Enters Spec CellIs CellsAre Then Ret Rnd Chn resOK ints bools recs arr
/-- A matching of the pairs. -/
structure MatchOK (l m : Nat) (Q : Nat → Pr) (mt : Nat) (to : Nat → Int) : Prop where
  len : mt = l
  pair : ∀ v, v < l → to v = -1 ∨ ∃ i, i < m ∧ (Q i).1 = v ∧ (Q i).2 = to v
  inj : ∀ v, v < l → ∀ u, u < v → to u ≠ -1 → to v ≠ -1 → to u ≠ to v
abbrev mated (to : Nat → Int) (v : Nat) : Bool := decide (to v ≠ -1)
open Classical in
set_option maxHeartbeats 8000000 in
theorem rmatching_spec (W : World) (Ls : List Chunk) (l r m mt : Nat) (vq vt : Value) (Q : Nat → Pr) (to : Nat → Int) (hQ : SlP (K W Ls) vq m Q) (hT : SlI (K W Ls) vt mt to) (hok : PairsOK l r m Q) (hbb : mt ≤ 9223372036854775807) :
    Spec Try.prog 33 #[.int .i64 l, .int .i64 r, vq, vt] (K W Ls) (fun _ : Unit => .tuple #[.int .i64 (if MatchOK l m Q mt to then (cnt l (mated to) : Int) else 0), .bool (decide (MatchOK l m Q mt to))]) (fun _ => K W Ls) := by
  obtain ⟨pq, cq, rfl, _, hqs⟩ := hQ.open
  obtain ⟨pt, ct, rfl, _, hts⟩ := SlV.open1 hT
  have h_l := hok.hl; have h_r := hok.hr; have h_m := hok.hm
  refine enter (args := [_, _, _, _]) Try.func33 rfl Try.ntmps33 rfl ?_
  refine c_seq ?_
  refine c_region ?_
  refine s_y (y_assign rfl) rfl rfl rfl ?_
  refine s_y (y_assign rfl) rfl rfl rfl ?_
  refine s_nil ?_
  refine f_then ?_
  refine c_seq ?_
  refine c_seq ?_
  refine c_region ?_
  refine s_y (y_move rfl) rfl rfl rfl ?_
  refine s_y (y_len Try.tab rfl rfl) rfl rfl rfl ?_
  refine s_y (y_move rfl) rfl rfl rfl ?_
  refine s_y (y_neq rfl rfl) rfl rfl rfl ?_
  refine s_nil ?_
  refine f_then ?_
  refine c_condD rfl (fun hbad => ?_) (fun hgood => ?_)
  · refine c_seq ?_
    refine c_region ?_
    refine s_y (y_assign rfl) rfl rfl rfl ?_
    refine s_y (y_assign rfl) rfl rfl rfl ?_
    refine s_nil ?_
    refine f_then ?_
    refine c_ret ?_
    refine f_thenR ?_
    have hno : ¬ MatchOK l m Q mt to := fun h => hbad (by rw [h.len])
    exact f_retE () (res2 rfl rfl rfl) (by rw [if_neg hno, decide_eq_false hno]) (fun w h => h)
  have e1 : mt = l := by omega
  subst e1
  refine c_skip ?_
  refine f_then ?_
  refine c_seq ?_
  refine c_region ?_
  refine s_y (y_move rfl) rfl rfl rfl ?_
  refine s_do (make_bools (by_ := 1) Try.tab rfl rfl rfl rfl rfl rfl (by omega)) rfl rfl rfl (fun b20 => ?_)
  refine s_y (y_assign rfl) rfl rfl rfl ?_
  refine s_nil ?_
  refine f_then ?_
  refine c_seq ?_
  refine c_region ?_
  refine s_y (y_assign rfl) rfl rfl rfl ?_
  refine s_nil ?_
  refine f_then ?_
  refine c_seq ?_
  refine c_seq ?_
  refine c_region ?_
  refine s_y (y_assign rfl) rfl rfl rfl ?_
  refine s_nil ?_
  refine f_then ?_
  refine c_block ?_
  refine c_loopP (α := (Nat → Bool) × Nat) (fun z => [(0, .int .i64 mt), (1, .int .i64 r), (2, .slice pq m cq), (3, .slice pt mt ct), (10, .slice (some ⟨b20, 0, none⟩) r r), (11, .int .i64 (cnt z.2 (mated to) : Nat)), (12, .int .i64 z.2)])
    (fun z => z.2 ≤ mt ∧ (∀ v, v < z.2 → to v = -1 ∨ ∃ i, i < m ∧ (Q i).1 = v ∧ (Q i).2 = to v) ∧ (∀ v, v < z.2 → ∀ u, u < v → to u ≠ -1 → to v ≠ -1 → to u ≠ to v) ∧ (∀ w, w < r → (z.1 w = true ↔ ∃ u, u < z.2 ∧ to u = w)))
    (fun z => K W ([(b20, bools 4 r z.1 [])] :: Ls)) (fun z => mt - z.2) (fun _ => false, 0) ⟨rfl, rfl, rfl, rfl, rfl, rfl, rfl, trivial⟩
    ⟨Nat.zero_le _, fun v hv => absurd hv (Nat.not_lt_zero v), fun v hv => absurd hv (Nat.not_lt_zero v), fun w _ => ⟨fun h => (by cases h), fun ⟨u, hu, _⟩ => absurd hu (Nat.not_lt_zero u)⟩⟩ (fun w h => h) ?_
  rintro ⟨g, v⟩ ⟨hv, hp, hi, hg⟩
  dsimp only at hv hp hi hg ⊢
  refine c_seq ?_
  refine c_seq ?_
  refine c_region ?_
  refine s_y (y_move rfl) rfl rfl rfl ?_
  refine s_y (y_move rfl) rfl rfl rfl ?_
  refine s_y (y_lss rfl rfl) rfl rfl rfl ?_
  refine s_nil ?_
  refine f_then ?_
  refine c_condD rfl (fun hlt => ?_) (fun hge => ?_)
  rotate_left
  · refine c_exit ?_
    refine f_thenE ?_
    refine f_rndE ?_
    refine f_blockE ?_
    refine f_then ?_
    refine c_seq ?_
    refine c_region ?_
    refine s_y (y_move rfl) rfl rfl rfl ?_
    refine s_y (y_assign rfl) rfl rfl rfl ?_
    refine s_y (y_assign rfl) rfl rfl rfl ?_
    refine s_nil ?_
    refine f_then ?_
    refine c_ret ?_
    have hvm : v = mt := by omega
    subst hvm
    have hyes : MatchOK v m Q v to := ⟨rfl, hp, hi⟩
    exact f_retE () (res2 rfl rfl rfl) (by rw [if_pos hyes, decide_eq_true hyes]) (fun w h => h.tail)
  have hvl : v < mt := by omega
  have hcv := cnt_le v (mated to)
  obtain ⟨bt, ot, rfl, hct⟩ := hts (by omega)
  refine c_skip ?_
  refine f_then ?_
  refine c_seq ?_
  refine c_block ?_
  refine c_seq ?_
  refine c_seq ?_
  refine c_region ?_
  refine s_y (y_move rfl) rfl rfl rfl ?_
  refine s_y (y_move rfl) rfl rfl rfl ?_
  refine s_y (y_indexAddr1o Try.tab rfl rfl rfl rfl _ rfl (by omega)) rfl rfl rfl ?_
  refine s_y (y_load Try.tab rfl rfl (hct _ (by omega)).cons) rfl rfl rfl ?_
  refine s_y (y_eql rfl rfl) rfl rfl rfl ?_
  refine s_nil ?_
  refine f_then ?_
  refine c_condD rfl (fun hm1 => ?_) (fun hm1 => ?_)
  · refine c_exit ?_
    refine f_thenE ?_
    refine f_blockE ?_
    refine f_then ?_
    refine c_region ?_
    refine s_y (y_move rfl) rfl rfl rfl ?_
    refine s_y (y_add rfl rfl (by omega)) rfl rfl rfl ?_
    refine s_y (y_assign rfl) rfl rfl rfl ?_
    refine s_nil ?_
    refine f_roundP (g, v + 1) ⟨hvl, fun u hu => ?_, fun u hu x hx h1 h2 => ?_, fun w hw => ?_⟩ (by dsimp only; omega) ⟨rfl, rfl, rfl, rfl, rfl, ?_, rfl, trivial⟩ (fun w h => h)
    · by_cases e : u = v
      · subst e; exact .inl hm1
      · exact hp u (by omega)
    · by_cases e : u = v
      · subst e; exact absurd hm1 h2
      · exact hi u (by omega) x hx h1 h2
    · rw [hg w hw]
      refine ⟨fun ⟨u, h1, h2⟩ => ⟨u, by omega, h2⟩, fun ⟨u, h1, h2⟩ => ⟨u, ?_, h2⟩⟩
      by_cases e : u = v
      · subst e; rw [hm1] at h2; omega
      · omega
    · simp only [cnt, mated, hm1, ne_eq, not_true, decide_false, Bool.false_eq_true, if_false, Nat.add_zero]; rfl
  refine c_skip ?_
  refine f_then ?_
  refine c_seq ?_
  refine c_region ?_
  refine s_y (y_assign rfl) rfl rfl rfl ?_
  refine s_nil ?_
  refine f_then ?_
  refine c_seq ?_
  refine c_seq ?_
  refine c_region ?_
  refine s_y (y_assign rfl) rfl rfl rfl ?_
  refine s_nil ?_
  refine f_then ?_
  refine c_block ?_
  refine c_loopP (α := Nat) (fun z => [(0, .int .i64 mt), (1, .int .i64 r), (2, .slice pq m cq), (3, .slice (some ⟨bt, ot, none⟩) mt ct), (10, .slice (some ⟨b20, 0, none⟩) r r), (11, .int .i64 (cnt v (mated to) : Nat)), (12, .int .i64 v), (13, .bool (decide (∃ i, i < z ∧ (Q i).1 = v ∧ (Q i).2 = to v))), (14, .int .i64 z)])
    (fun z => z ≤ m) (fun _ => K W ([(b20, bools 4 r g [])] :: Ls)) (fun z => m - z) 0 ⟨rfl, rfl, rfl, rfl, rfl, rfl, rfl, ?_, rfl, trivial⟩ (Nat.zero_le _) (fun w h => h) ?_
  · rw [decide_eq_false (show ¬ ∃ i, i < 0 ∧ (Q i).1 = v ∧ (Q i).2 = to v from fun ⟨i, h, _⟩ => absurd h (Nat.not_lt_zero i))]; rfl
  rintro i hi2
  refine c_case 13 rfl (fun hfnd => ?_) (fun hnf => ?_)
  · refine c_seq ?_
    refine c_seq ?_
    refine c_region ?_
    refine s_y (y_move rfl) rfl rfl rfl ?_
    refine s_y (y_move rfl) rfl rfl rfl ?_
    refine s_y (y_len Try.tab rfl rfl) rfl rfl rfl ?_
    refine s_y (y_lss rfl rfl) rfl rfl rfl ?_
    refine s_nil ?_
    refine f_then ?_
    refine c_condD rfl (fun hlt2 => ?_) (fun hge2 => ?_)
    · refine c_skip ?_
      refine f_then ?_
      refine c_seq ?_
      refine c_block ?_
      refine c_quiet Try.mixed (by kernel_rfl) K.drew ?_
      refine q_y (y_move rfl) rfl rfl rfl ?_
      refine q_y (y_move rfl) rfl rfl rfl ?_
      iterate 11 refine q_skip rfl rfl rfl ?_
      refine q_y (y_pickT rfl rfl) rfl rfl rfl ?_
      refine q_y (y_assign rfl) rfl rfl rfl ?_
      refine q_nil ?_
      refine f_blockN ?_
      refine f_then ?_
      refine c_region ?_
      refine s_y (y_move rfl) rfl rfl rfl ?_
      refine s_y (y_add rfl rfl (by omega)) rfl rfl rfl ?_
      refine s_y (y_assign rfl) rfl rfl rfl ?_
      refine s_nil ?_
      refine f_roundP (i + 1) (by omega) (by omega) ⟨rfl, rfl, rfl, rfl, rfl, rfl, rfl, ?_, rfl, trivial⟩ (fun w h => h)
      have hf2 : ∃ k, k < i + 1 ∧ (Q k).1 = v ∧ (Q k).2 = to v := by obtain ⟨k, h1, h2⟩ := hfnd; exact ⟨k, by omega, h2⟩
      rw [decide_eq_true hf2]; rfl
    have him : i = m := by omega
    subst him
    obtain ⟨k, hk1, hk2, hk3⟩ := hfnd
    have hkr := hok.hq k hk1
    refine c_exit ?_
    refine f_thenE ?_
    refine f_rndE ?_
    refine f_blockE ?_
    refine f_then ?_
    refine c_seq ?_
    refine c_chain 61 (decide (g (to v).toNat = true)) ?_ ?_
    · refine c_region ?_
      refine s_y (y_move rfl) rfl rfl rfl ?_
      refine s_y (y_notT rfl) rfl rfl rfl ?_
      refine s_y (y_move rfl) rfl rfl rfl ?_
      refine s_y (y_move rfl) rfl rfl rfl ?_
      refine s_y (y_move rfl) rfl rfl rfl ?_
      refine s_y (y_move rfl) rfl rfl rfl ?_
      refine s_y (y_indexAddr1o Try.tab rfl rfl rfl rfl _ rfl (by omega)) rfl rfl rfl ?_
      refine s_y (y_load Try.tab rfl rfl (hct _ (by omega)).cons) rfl rfl rfl ?_
      refine s_y (y_indexAddr1 Try.tab rfl rfl rfl rfl _ (Int.toNat_of_nonneg (by omega)).symm (by omega)) rfl rfl rfl ?_
      refine s_y (y_load Try.tab rfl rfl (cell_bools 0 rfl (by omega))) rfl rfl rfl ?_
      refine s_y (y_pickF rfl rfl) rfl rfl rfl ?_
      refine s_nil ?_
      exact f_chain rfl ((by simp [*])) ⟨rfl, rfl, rfl, rfl, rfl, rfl, rfl, rfl, rfl, rfl, rfl, rfl, rfl, trivial⟩
    refine c_condD rfl (fun hbad => ?_) (fun hgood => ?_)
    · refine c_seq ?_
      refine c_region ?_
      refine s_y (y_assign rfl) rfl rfl rfl ?_
      refine s_y (y_assign rfl) rfl rfl rfl ?_
      refine s_nil ?_
      refine f_then ?_
      refine c_ret ?_
      refine f_thenR ?_
      refine f_blockR ?_
      refine f_thenR ?_
      refine f_rndR ?_
      refine f_blockR ?_
      refine f_thenR ?_
      have hno : ¬ MatchOK mt i Q mt to := fun h => by
        obtain ⟨u, h1, h2⟩ := (hg _ (by omega)).1 hbad
        exact h.inj v hvl u h1 (by omega) hm1 (by omega)
      exact f_retE () (res2 rfl rfl rfl) (by rw [if_neg hno, decide_eq_false hno]) (fun w h => h.tail)
    refine c_skip ?_
    refine f_then ?_
    refine c_seq ?_
    refine c_region ?_
    refine s_y (y_move rfl) rfl rfl rfl ?_
    refine s_y (y_move rfl) rfl rfl rfl ?_
    refine s_y (y_move rfl) rfl rfl rfl ?_
    refine s_y (y_indexAddr1o Try.tab rfl rfl rfl rfl _ rfl (by omega)) rfl rfl rfl ?_
    refine s_y (y_load Try.tab rfl rfl (hct _ (by omega)).cons) rfl rfl rfl ?_
    refine s_y (y_indexAddr1 Try.tab rfl rfl rfl rfl _ (Int.toNat_of_nonneg (by omega)).symm (by omega)) rfl rfl rfl ?_
    refine s_set (set_bools Try.tab 0 rfl rfl rfl rfl (by omega)) rfl rfl ?_
    refine s_nil ?_
    refine f_then ?_
    refine c_region ?_
    refine s_y (y_move rfl) rfl rfl rfl ?_
    refine s_y (y_add rfl rfl (by omega)) rfl rfl rfl ?_
    refine s_y (y_assign rfl) rfl rfl rfl ?_
    refine s_nil ?_
    refine f_blockN ?_
    refine f_then ?_
    refine c_region ?_
    refine s_y (y_move rfl) rfl rfl rfl ?_
    refine s_y (y_add rfl rfl (by omega)) rfl rfl rfl ?_
    refine s_y (y_assign rfl) rfl rfl rfl ?_
    refine s_nil ?_
    refine f_roundP (upd g (to v).toNat true, v + 1) ⟨hvl, fun u hu => ?_, fun u hu x hx h1 h2 => ?_, fun w hw => ?_⟩ (by dsimp only; omega) ⟨rfl, rfl, rfl, rfl, rfl, ?_, rfl, trivial⟩ (fun w h => h)
    · by_cases e : u = v
      · subst e; exact .inr ⟨k, hk1, hk2, hk3⟩
      · exact hp u (by omega)
    · by_cases e : u = v
      · subst e
        intro e2
        exact hgood ((hg _ (by omega)).2 ⟨x, hx, by omega⟩)
      · exact hi u (by omega) x hx h1 h2
    · simp only [upd]
      split
      · rename_i e
        simp only [true_iff]
        exact ⟨v, by omega, by omega⟩
      · rename_i e
        rw [hg w hw]
        refine ⟨fun ⟨u, h1, h2⟩ => ⟨u, by omega, h2⟩, fun ⟨u, h1, h2⟩ => ⟨u, ?_, h2⟩⟩
        by_cases e2 : u = v
        · subst e2; omega
        · omega
    · have e : mated to v = true := decide_eq_true hm1
      simp only [cnt, e, if_true, Int.natCast_add, Int.natCast_one]; rfl
  · refine c_seq ?_
    refine c_seq ?_
    refine c_region ?_
    refine s_y (y_move rfl) rfl rfl rfl ?_
    refine s_y (y_move rfl) rfl rfl rfl ?_
    refine s_y (y_len Try.tab rfl rfl) rfl rfl rfl ?_
    refine s_y (y_lss rfl rfl) rfl rfl rfl ?_
    refine s_nil ?_
    refine f_then ?_
    refine c_condD rfl (fun hlt2 => ?_) (fun hge2 => ?_)
    · have hin : i < m := by omega
      obtain ⟨bq, oq, rfl, hcq, hq0, hq1⟩ := hqs (by omega)
      refine c_skip ?_
      refine f_then ?_
      refine c_seq ?_
      refine c_block ?_
      refine c_quiet Try.mixed (by kernel_rfl) K.drew ?_
      refine q_y (y_move rfl) rfl rfl rfl ?_
      refine q_y (y_move rfl) rfl rfl rfl ?_
      refine q_y (y_move rfl) rfl rfl rfl ?_
      refine q_y (y_move rfl) rfl rfl rfl ?_
      refine q_y (y_indexAddr (s := 2) Try.tab rfl rfl rfl rfl _ rfl (by omega)) rfl rfl rfl ?_
      refine q_y (y_loadA Try.tab rfl rfl rfl rfl (hcq _ (by omega)).cons) rfl rfl rfl ?_
      refine q_y (y_move rfl) rfl rfl rfl ?_
      refine q_y (y_move rfl) rfl rfl rfl ?_
      refine q_y (y_move rfl) rfl rfl rfl ?_
      refine q_y (y_indexAddr1o Try.tab rfl rfl rfl rfl _ rfl (by omega)) rfl rfl rfl ?_
      refine q_y (y_load Try.tab rfl rfl (hct _ (by omega)).cons) rfl rfl rfl ?_
      refine q_y (y_buildArr Try.tab rfl rfl rfl rfl rfl) rfl rfl rfl ?_
      refine q_y (y_eqlP Try.tab rfl rfl rfl rfl rfl (by kernel_rfl)) rfl rfl rfl ?_
      refine q_y (y_pickF rfl rfl) rfl rfl rfl ?_
      refine q_y (y_assign rfl) rfl rfl rfl ?_
      refine q_nil ?_
      refine f_blockN ?_
      refine f_then ?_
      refine c_region ?_
      refine s_y (y_move rfl) rfl rfl rfl ?_
      refine s_y (y_add rfl rfl (by omega)) rfl rfl rfl ?_
      refine s_y (y_assign rfl) rfl rfl rfl ?_
      refine s_nil ?_
      refine f_roundP (i + 1) (by omega) (by omega) ⟨rfl, rfl, rfl, rfl, rfl, rfl, rfl, ?_, rfl, trivial⟩ (fun w h => h)
      refine congrArg (fun b => some (Value.bool b)) (decide_eq_decide.2 ⟨fun h => ⟨i, by omega, h⟩, fun ⟨k, h1, h2⟩ => ?_⟩)
      by_cases e : k = i
      · subst e; exact h2
      · exact absurd ⟨k, by omega, h2⟩ hnf
    have him : i = m := by omega
    subst him
    refine c_exit ?_
    refine f_thenE ?_
    refine f_rndE ?_
    refine f_blockE ?_
    refine f_then ?_
    refine c_seq ?_
    refine c_seq ?_
    refine c_region ?_
    refine s_y (y_move rfl) rfl rfl rfl ?_
    refine s_y (y_notF rfl) rfl rfl rfl ?_
    refine s_y (y_move rfl) rfl rfl rfl ?_
    iterate 7 refine s_skip rfl rfl rfl ?_
    refine s_y (y_pickT rfl rfl) rfl rfl rfl ?_
    refine s_nil ?_
    refine f_then ?_
    refine c_condT rfl ?_
    refine c_seq ?_
    refine c_region ?_
    refine s_y (y_assign rfl) rfl rfl rfl ?_
    refine s_y (y_assign rfl) rfl rfl rfl ?_
    refine s_nil ?_
    refine f_then ?_
    refine c_ret ?_
    refine f_thenR ?_
    refine f_blockR ?_
    refine f_thenR ?_
    refine f_rndR ?_
    refine f_blockR ?_
    refine f_thenR ?_
    have hno : ¬ MatchOK mt i Q mt to := fun h => by
      rcases h.pair v hvl with h | h
      · exact hm1 h
      · exact hnf h
    exact f_retE () (res2 rfl rfl rfl) (by rw [if_neg hno, decide_eq_false hno]) (fun w h => h.tail)
end Go.KL
end

section
/- Plain lemmas: the least closed set that contains a set, by rounds over the needs. No program in sight. -/
namespace Go.KL
/-- The least closed set that holds S0. -/
structure ClosureP (n m : Nat) (fr tt : Nat → Nat) (S0 g : Nat → Bool) : Prop where
  base : ∀ u, u < n → S0 u = true → g u = true
  closed : ∀ i, i < m → g (fr i) = true → g (tt i) = true
  least : ∀ X : Nat → Prop, (∀ u, u < n → S0 u = true → X u) → (∀ i, i < m → X (fr i) → X (tt i)) → ∀ u, u < n → g u = true → X u
structure CSnd (n m : Nat) (fr tt : Nat → Nat) (S0 g : Nat → Bool) : Prop where
  base : ∀ u, u < n → S0 u = true → g u = true
  least : ∀ X : Nat → Prop, (∀ u, u < n → S0 u = true → X u) → (∀ i, i < m → X (fr i) → X (tt i)) → ∀ u, u < n → g u = true → X u
structure CRnd (n m : Nat) (fr tt : Nat → Nat) (S0 g0 g : Nat → Bool) (i : Nat) : Prop where
  snd : CSnd n m fr tt S0 g
  alt : ((∀ u, g u = g0 u) ∧ ∀ j, j < i → g0 (fr j) = true → g0 (tt j) = true) ∨ cnt n g0 < cnt n g
section
variable {n m i : Nat} {fr tt : Nat → Nat} {S0 g g0 : Nat → Bool}
theorem CRnd.mark (h : CRnd n m fr tt S0 g0 g i) (hi : i < m) (hf : g (fr i) = true) (hfn : fr i < n) (htn : tt i < n) : CRnd n m fr tt S0 g0 (upd g (tt i) true) (i + 1) := by
  refine ⟨⟨fun u hu h0 => ?_, fun X hX hc u hu hg => ?_⟩, ?_⟩
  · simp only [upd]; split
    · rfl
    · exact h.snd.base u hu h0
  · by_cases e : u = tt i
    · rw [e]; exact hc i hi (h.snd.least X hX hc _ hfn hf)
    · exact h.snd.least X hX hc u hu (by simpa [upd, e] using hg)
  · cases e : g (tt i) with
    | true =>
      rw [upd_true_self g _ e]
      rcases h.alt with ⟨h1, h2⟩ | h1
      · refine .inl ⟨h1, fun j hj hq => ?_⟩
        by_cases e2 : j = i
        · subst e2; rw [← h1]; exact e
        · exact h2 j (by omega) hq
      · exact .inr h1
    | false =>
      right
      have h1 := cnt_upd_lt (n := n) g (tt i) htn e
      rcases h.alt with ⟨h2, _⟩ | h2
      · rw [cnt_congr n g g0 fun u _ => h2 u] at h1; exact h1
      · omega
theorem CRnd.skip (h : CRnd n m fr tt S0 g0 g i) (hf : g (fr i) = false) : CRnd n m fr tt S0 g0 g (i + 1) := by
  refine ⟨h.snd, ?_⟩
  rcases h.alt with ⟨h1, h2⟩ | h1
  · refine .inl ⟨h1, fun j hj hq => ?_⟩
    by_cases e2 : j = i
    · subst e2; rw [← h1, hf] at hq; cases hq
    · exact h2 j (by omega) hq
  · exact .inr h1
theorem CRnd.done (h : CRnd n m fr tt S0 g0 g m) {r : Nat} (h0 : ClosureP n m fr tt S0 g0 ∨ r ≤ cnt n g0) : ClosureP n m fr tt S0 g ∨ r + 1 ≤ cnt n g := by
  rcases h.alt with ⟨h1, h2⟩ | h1
  · left
    have e : g = g0 := funext h1
    subst e
    exact ⟨h.snd.base, h2, h.snd.least⟩
  · rcases h0 with h0 | h0
    · left
      have : ∀ u, u < n → g u = true → g0 u = true := fun u hu hg => h.snd.least (fun u => g0 u = true) h0.base h0.closed u hu hg
      have h2 := cnt_mono n g g0 this
      omega
    · right; omega
theorem cnt_full (n : Nat) (g : Nat → Bool) (h : n ≤ cnt n g) : ∀ u, u < n → g u = true := by
  induction n with
  | zero => intro u hu; omega
  | succ n ih =>
    have h1 := cnt_le n g
    simp only [cnt] at h
    intro u hu
    split at h
    · rename_i e
      by_cases e2 : u = n
      · rw [e2]; exact e
      · exact ih (by omega) u (by omega)
    · omega
/-- At the end. -/
theorem CSnd.full (h : CSnd n m fr tt S0 g) (hm : ∀ i, i < m → fr i < n ∧ tt i < n) (hf : n ≤ cnt n g) : ClosureP n m fr tt S0 g :=
  ⟨h.base, fun i hi _ => cnt_full n g hf _ (hm i hi).2, h.least⟩
end
end Go.KL
end

section
/- Walks: ref.Shut, ref.Close. -/
namespace Go.KL
open Go.Proofs
attribute [local irreducible] SC St Fin Sq Sw Ylds Doos Sets Enters Spec CellIs CellsAre Then Ret Rnd Chn resOK ints bools recs arr
set_option maxHeartbeats 4000000 in
theorem rshut_spec (W : World) (Ls : List Chunk) (m n : Nat) (vq vs : Value) (Q : Nat → Pr) (S : Nat → Bool) (hQ : SlP (K W Ls) vq m Q) (hS : SlB (K W Ls) vs n S) (hb : m ≤ 1000000000 ∧ n ≤ 100000)
    (hr : ∀ i, i < m → (0 ≤ (Q i).1 ∧ (Q i).1 < n) ∧ 0 ≤ (Q i).2 ∧ (Q i).2 < n) :
    Spec Try.prog 28 #[vq, vs] (K W Ls) (X := { x : Nat × Nat × List Value × (Nat → Bool) // ClosureP n m (fun i => (Q i).1.toNat) (fun i => (Q i).2.toNat) S x.2.2.2 ∧ n ≤ x.2.1 })
      (fun x => .slice (some ⟨x.1.1, 0, none⟩) n x.1.2.1) (fun x => K W ([(x.1.1, bools 4 n x.1.2.2.2 x.1.2.2.1)] :: Ls)) := by
  obtain ⟨pq, cq, rfl, _, hqs⟩ := hQ.open
  have hS' := hS
  obtain ⟨ps, cs, rfl, _, _⟩ := SlV.open1 hS'
  refine enter (args := [_, _]) Try.func28 rfl Try.ntmps28 rfl ?_
  refine c_seq ?_
  refine c_region ?_
  refine s_y (y_assign rfl) rfl rfl rfl ?_
  refine s_nil ?_
  refine f_then ?_
  refine c_seq ?_
  refine c_region ?_
  refine s_do (do_buildSlice1 Try.tab ⟨rfl, rfl, rfl, rfl⟩ rfl rfl rfl rfl) rfl rfl rfl (fun b8 => ?_)
  refine s_y (y_move rfl) rfl rfl rfl ?_
  refine s_do (do_appendV (o := ⟨b8, 0, [], []⟩) (xs := []) (m := 0) (k := n) (by_ := 1) Try.tab 0 rfl rfl (hS.cls fun w h => h.tail) ⟨rfl, rfl, rfl, rfl⟩ rfl rfl ⟨Nat.le_refl _, by simp, rfl, by simp⟩ (fun _ _ => rfl) (by unfold maxLen; omega) (by omega)) rfl rfl rfl (fun o => ?_)
  refine s_y (y_assign rfl) rfl rfl rfl ?_
  refine s_nil ?_
  refine f_then ?_
  refine c_seq ?_
  refine c_seq ?_
  refine c_region ?_
  refine s_y (y_assign rfl) rfl rfl rfl ?_
  refine s_nil ?_
  refine f_then ?_
  refine c_block ?_
  refine c_loopP (α := (Nat → Bool) × Nat) (fun z => [(0, .slice pq m cq), (1, .slice ps n cs), (5, .slice (some ⟨o.1.b, 0, none⟩) n o.1.cap), (6, .int .i64 z.2)])
    (fun z => z.2 ≤ n ∧ CSnd n m (fun i => (Q i).1.toNat) (fun i => (Q i).2.toNat) S z.1 ∧ (ClosureP n m (fun i => (Q i).1.toNat) (fun i => (Q i).2.toNat) S z.1 ∨ z.2 ≤ cnt n z.1))
    (fun z => K W ([(o.1.b, bools 4 n z.1 o.1.rest)] :: Ls)) (fun z => n - z.2) (S, 0)
    ⟨rfl, rfl, congrArg some (osl_head' _ _ _ o.2.2 (Nat.zero_add n)), rfl, trivial⟩ ⟨Nat.zero_le _, ⟨fun _ _ h => h, fun X h0 _ u hu hg => h0 u hu hg⟩, .inr (Nat.zero_le _)⟩
    (fun w h => by rw [← och_bools 4 o.1 n S o.2.2, ← vw_bools]; exact h) ?_
  rintro ⟨g0, r⟩ ⟨hrn, hsnd, halt⟩
  dsimp only at hrn hsnd halt ⊢
  refine c_seq ?_
  refine c_seq ?_
  refine c_region ?_
  refine s_y (y_move rfl) rfl rfl rfl ?_
  refine s_y (y_move rfl) rfl rfl rfl ?_
  refine s_y (y_len Try.tab rfl rfl) rfl rfl rfl ?_
  refine s_y (y_lss rfl rfl) rfl rfl rfl ?_
  refine s_nil ?_
  refine f_then ?_
  refine c_condD rfl (fun hlt => ?_) (fun hge => ?_)
  rotate_left
  · refine c_exit ?_
    refine f_thenE ?_
    refine f_rndE ?_
    refine f_blockE ?_
    refine f_then ?_
    refine c_seq ?_
    refine c_region ?_
    refine s_y (y_move rfl) rfl rfl rfl ?_
    refine s_y (y_assign rfl) rfl rfl rfl ?_
    refine s_nil ?_
    refine f_then ?_
    refine c_ret ?_
    have hend : ClosureP n m (fun i => (Q i).1.toNat) (fun i => (Q i).2.toNat) S g0 := by
      rcases halt with h | h
      · exact h
      · exact hsnd.full (fun i hi => by have := hr i hi; omega) (by omega)
    exact f_ret ⟨(o.1.b, o.1.cap, o.1.rest, g0), hend, by have := o.2.1.le; dsimp only; omega⟩ (res1 rfl rfl) (fun w h => h)
  refine c_skip ?_
  refine f_then ?_
  refine c_seq ?_
  refine c_block ?_
  refine c_seq ?_
  refine c_region ?_
  refine s_y (y_assign rfl) rfl rfl rfl ?_
  refine s_nil ?_
  refine f_then ?_
  refine c_block ?_
  refine c_loopP (α := (Nat → Bool) × Nat) (fun z => [(0, .slice pq m cq), (1, .slice ps n cs), (5, .slice (some ⟨o.1.b, 0, none⟩) n o.1.cap), (6, .int .i64 r), (7, .int .i64 z.2)])
    (fun z => z.2 ≤ m ∧ CRnd n m (fun i => (Q i).1.toNat) (fun i => (Q i).2.toNat) S g0 z.1 z.2)
    (fun z => K W ([(o.1.b, bools 4 n z.1 o.1.rest)] :: Ls)) (fun z => m - z.2) (g0, 0)
    ⟨rfl, rfl, rfl, rfl, rfl, trivial⟩ ⟨Nat.zero_le _, hsnd, .inl ⟨fun _ => rfl, fun j hj => absurd hj (Nat.not_lt_zero j)⟩⟩ (fun w h => h) ?_
  rintro ⟨g, i⟩ ⟨hi, hR⟩
  dsimp only at hi hR ⊢
  refine c_seq ?_
  refine c_seq ?_
  refine c_region ?_
  refine s_y (y_move rfl) rfl rfl rfl ?_
  refine s_y (y_move rfl) rfl rfl rfl ?_
  refine s_y (y_len Try.tab rfl rfl) rfl rfl rfl ?_
  refine s_y (y_lss rfl rfl) rfl rfl rfl ?_
  refine s_nil ?_
  refine f_then ?_
  refine c_condD rfl (fun hlt2 => ?_) (fun hge2 => ?_)
  rotate_left
  · refine c_exit ?_
    refine f_thenE ?_
    refine f_rndE ?_
    refine f_blockE ?_
    refine f_blockN ?_
    refine f_then ?_
    refine c_region ?_
    refine s_y (y_move rfl) rfl rfl rfl ?_
    refine s_y (y_add rfl rfl (by omega)) rfl rfl rfl ?_
    refine s_y (y_assign rfl) rfl rfl rfl ?_
    refine s_nil ?_
    have him : i = m := by omega
    subst him
    exact f_roundP (g, r + 1) ⟨by dsimp only; omega, hR.snd, hR.done halt⟩ (by dsimp only; omega) ⟨rfl, rfl, rfl, rfl, trivial⟩ (fun w h => h)
  have hin : i < m := by omega
  obtain ⟨bq, oq, rfl, hcq, hq0, hq1⟩ := hqs (by omega)
  have hri := hr i hin
  refine c_skip ?_
  refine f_then ?_
  refine c_seq ?_
  refine c_block ?_
  refine c_seq ?_
  refine c_region ?_
  refine s_y (y_move rfl) rfl rfl rfl ?_
  refine s_y (y_move rfl) rfl rfl rfl ?_
  refine s_y (y_move rfl) rfl rfl rfl ?_
  refine s_y (y_indexAddr (s := 2) Try.tab rfl rfl rfl rfl _ rfl (by omega)) rfl rfl rfl ?_
  refine s_y (y_indexArr0 Try.tab rfl rfl rfl rfl rfl (by omega)) rfl rfl rfl ?_
  refine s_y (y_load Try.tab rfl rfl (hq0 _ (by omega)).cons) rfl rfl rfl ?_
  refine s_y (y_indexAddr1 Try.tab rfl rfl rfl rfl _ (Int.toNat_of_nonneg (by omega)).symm (by omega)) rfl rfl rfl ?_
  refine s_y (y_load Try.tab rfl rfl (cell_bools 0 rfl (by omega))) rfl rfl rfl ?_
  refine s_nil ?_
  refine f_then ?_
  refine c_cond rfl (fun hyes => ?_) (fun hno => ?_)
  · refine c_region ?_
    refine s_y (y_move rfl) rfl rfl rfl ?_
    refine s_y (y_move rfl) rfl rfl rfl ?_
    refine s_y (y_move rfl) rfl rfl rfl ?_
    refine s_y (y_indexAddr (s := 2) Try.tab rfl rfl rfl rfl _ rfl (by omega)) rfl rfl rfl ?_
    refine s_y (y_indexArr1 Try.tab rfl rfl rfl rfl 1 rfl (by omega)) rfl rfl rfl ?_
    refine s_y (y_load Try.tab rfl rfl (hq1 _ (by omega)).cons) rfl rfl rfl ?_
    refine s_y (y_indexAddr1 Try.tab rfl rfl rfl rfl _ (Int.toNat_of_nonneg (by omega)).symm (by omega)) rfl rfl rfl ?_
    refine s_set (set_bools Try.tab 0 rfl rfl rfl rfl (by omega)) rfl rfl ?_
    refine s_nil ?_
    refine f_blockN ?_
    refine f_then ?_
    refine c_region ?_
    refine s_y (y_move rfl) rfl rfl rfl ?_
    refine s_y (y_add rfl rfl (by omega)) rfl rfl rfl ?_
    refine s_y (y_assign rfl) rfl rfl rfl ?_
    refine s_nil ?_
    exact f_roundP (upd g (Q i).2.toNat true, i + 1) ⟨hin, hR.mark hin hyes (by omega) (by omega)⟩ (by dsimp only; omega) ⟨rfl, rfl, rfl, rfl, rfl, trivial⟩ (fun w h => h)
  · refine c_skip ?_
    refine f_blockN ?_
    refine f_then ?_
    refine c_region ?_
    refine s_y (y_move rfl) rfl rfl rfl ?_
    refine s_y (y_add rfl rfl (by omega)) rfl rfl rfl ?_
    refine s_y (y_assign rfl) rfl rfl rfl ?_
    refine s_nil ?_
    exact f_roundP (g, i + 1) ⟨hin, hR.skip hno⟩ (by dsimp only; omega) ⟨rfl, rfl, rfl, rfl, rfl, trivial⟩ (fun w h => h)
end Go.KL
end

section
/- Plain lemmas: closed sets by trying every set. No program in sight. -/
namespace Go.KL
theorem wgt_congr {n : Nat} {f : Nat → Int} {S S' : Nat → Bool} (h : ∀ i, i < n → S i = S' i) : wgt n f S = wgt n f S' := sm_congr n _ _ fun i hi => by rw [h i hi]
theorem closedP_congr {n m : Nat} {Q : Nat → Pr} {S S' : Nat → Bool} (hr : ∀ i, i < m → (0 ≤ (Q i).1 ∧ (Q i).1 < n) ∧ 0 ≤ (Q i).2 ∧ (Q i).2 < n) (h : ∀ i, i < n → S i = S' i) (hc : ClosedP m Q S) : ClosedP m Q S' := fun i hi hs => by
  have := hr i hi
  rw [← h _ (by omega)] at hs ⊢
  exact hc i hi hs
/-- The greatest weight of a closed set, and what all closed sets of this weight have in common. -/
structure CloseP (n m : Nat) (f : Nat → Int) (Q : Nat → Pr) (best : Int) (common : Nat → Bool) : Prop where
  is : ∃ S, ClosedP m Q S ∧ wgt n f S = best
  max : ∀ S, ClosedP m Q S → wgt n f S ≤ best
  com : ∀ i, i < n → (common i = true ↔ ∀ S, ClosedP m Q S → wgt n f S = best → S i = true)
theorem CloseP.unique {n m : Nat} {f : Nat → Int} {Q : Nat → Pr} {b b' : Int} {c c' : Nat → Bool} (h : CloseP n m f Q b c) (h' : CloseP n m f Q b' c') : b = b' ∧ ∀ i, i < n → c i = c' i := by
  obtain ⟨S, h1, h2⟩ := h.is
  obtain ⟨S', h3, h4⟩ := h'.is
  have e : b = b' := by have := h.max S' h3; have := h'.max S h1; omega
  subst e
  refine ⟨rfl, fun i hi => ?_⟩
  have q1 := h.com i hi
  have q2 := h'.com i hi
  cases e1 : c i <;> cases e2 : c' i
  · rfl
  · rw [e1, ← q2, e2] at q1; simp at q1
  · rw [e2, ← q1, e1] at q2; simp at q2
  · rfl
abbrev bts (k : Nat) : Nat → Bool := fun i => k.testBit i
/-- Among the first k sets. -/
structure CTry (n m : Nat) (f : Nat → Int) (Q : Nat → Pr) (best : Int) (common : Nat → Bool) (k : Nat) : Prop where
  lo : 0 ≤ best
  max : ∀ j, j < k → ClosedP m Q (bts j) → wgt n f (bts j) ≤ best
  is : best = 0 ∨ ∃ j, j < k ∧ ClosedP m Q (bts j) ∧ wgt n f (bts j) = best
  com : ∀ i, i < n → (common i = true ↔ 0 < best ∧ ∀ j, j < k → ClosedP m Q (bts j) → wgt n f (bts j) = best → j.testBit i = true)
section
variable {n m k : Nat} {f : Nat → Int} {Q : Nat → Pr} {best : Int} {common : Nat → Bool}
theorem CTry.begin : CTry n m f Q 0 (fun _ => false) 0 := ⟨by omega, fun j hj => absurd hj (Nat.not_lt_zero j), .inl rfl, fun i _ => by simp⟩
theorem CTry.skip (h : CTry n m f Q best common k) (hno : ClosedP m Q (bts k) → wgt n f (bts k) < best) : CTry n m f Q best common (k + 1) := by
  refine ⟨h.lo, fun j hj hc => ?_, ?_, fun i hi => ?_⟩
  · by_cases e : j = k
    · subst e; have := hno hc; omega
    · exact h.max j (by omega) hc
  · rcases h.is with h1 | ⟨j, h1, h2⟩
    · exact .inl h1
    · exact .inr ⟨j, by omega, h2⟩
  · rw [h.com i hi]
    refine ⟨fun ⟨h1, h2⟩ => ⟨h1, fun j hj hc hw => ?_⟩, fun ⟨h1, h2⟩ => ⟨h1, fun j hj => h2 j (by omega)⟩⟩
    by_cases e : j = k
    · subst e; have := hno hc; omega
    · exact h2 j (by omega) hc hw
theorem CTry.more (h : CTry n m f Q best common k) (hc : ClosedP m Q (bts k)) (hw : best < wgt n f (bts k)) : CTry n m f Q (wgt n f (bts k)) (bts k) (k + 1) := by
  have h0 := h.lo
  refine ⟨by omega, fun j hj hc => ?_, .inr ⟨k, by omega, hc, rfl⟩, fun i hi => ?_⟩
  · by_cases e : j = k
    · subst e; omega
    · have := h.max j (by omega) hc; omega
  · refine ⟨fun h1 => ⟨by omega, fun j hj hcj hwj => ?_⟩, fun ⟨_, h2⟩ => h2 k (by omega) hc rfl⟩
    by_cases e : j = k
    · subst e; exact h1
    · have := h.max j (by omega) hcj; omega
theorem CTry.same (h : CTry n m f Q best common k) (hc : ClosedP m Q (bts k)) (hw : wgt n f (bts k) = best) {c' : Nat → Bool} (hc' : ∀ i, i < n → c' i = (common i && k.testBit i)) : CTry n m f Q best c' (k + 1) := by
  refine ⟨h.lo, fun j hj hcj => ?_, .inr ⟨k, by omega, hc, hw⟩, fun i hi => ?_⟩
  · by_cases e : j = k
    · subst e; omega
    · exact h.max j (by omega) hcj
  · rw [hc' i hi, Bool.and_eq_true, h.com i hi]
    refine ⟨fun ⟨⟨h1, h2⟩, h3⟩ => ⟨h1, fun j hj hcj hwj => ?_⟩, fun ⟨h1, h2⟩ => ⟨⟨h1, fun j hj => h2 j (by omega)⟩, h2 k (by omega) hc hw⟩⟩
    by_cases e : j = k
    · subst e; exact h3
    · exact h2 j (by omega) hcj hwj
theorem bts_all (n : Nat) (S : Nat → Bool) : ∃ k, k < 2 ^ n ∧ ∀ i, i < n → k.testBit i = S i := by
  induction n with
  | zero => exact ⟨0, by simp, fun i hi => absurd hi (Nat.not_lt_zero i)⟩
  | succ n ih =>
    obtain ⟨k, h1, h2⟩ := ih
    have hp : 2 ^ (n + 1) = 2 ^ n + 2 ^ n := by rw [Nat.pow_succ]; omega
    cases e : S n with
    | false =>
      refine ⟨k, by omega, fun i hi => ?_⟩
      by_cases e2 : i = n
      · rw [e2, e]; exact Nat.testBit_lt_two_pow h1
      · exact h2 i (by omega)
    | true =>
      refine ⟨2 ^ n + k, by omega, fun i hi => ?_⟩
      by_cases e2 : i = n
      · rw [e2, e, Nat.testBit_two_pow_add_eq, Nat.testBit_lt_two_pow h1]; rfl
      · rw [Nat.testBit_two_pow_add_gt (by omega)]; exact h2 i (by omega)
theorem CTry.closeP (h : CTry n m f Q best common (2 ^ n)) (hr : ∀ i, i < m → (0 ≤ (Q i).1 ∧ (Q i).1 < n) ∧ 0 ≤ (Q i).2 ∧ (Q i).2 < n) : CloseP n m f Q best common := by
  have he : ClosedP m Q (fun _ => false) ∧ wgt n f (fun _ => false) = 0 := ⟨fun i _ h => (by cases h), (by unfold wgt; exact sm_zero n _ fun i _ => by simp)⟩
  refine ⟨?_, fun S hS => ?_, fun i hi => ?_⟩
  · rcases h.is with h1 | ⟨j, _, h2, h3⟩
    · exact ⟨fun _ => false, he.1, by rw [he.2, h1]⟩
    · exact ⟨bts j, h2, h3⟩
  · obtain ⟨k, h1, h2⟩ := bts_all n S
    have := h.max k h1 (closedP_congr hr (fun i hi => (h2 i hi).symm) hS)
    rw [wgt_congr (S' := bts k) fun i hi => (h2 i hi).symm]
    exact this
  · rw [h.com i hi]
    refine ⟨fun ⟨h1, h2⟩ S hS hw => ?_, fun h1 => ⟨?_, fun j hj => h1 (bts j)⟩⟩
    · obtain ⟨k, h3, h4⟩ := bts_all n S
      rw [← h4 i hi]
      exact h2 k h3 (closedP_congr hr (fun i hi => (h4 i hi).symm) hS) (by rw [← hw]; exact wgt_congr fun i hi => h4 i hi)
    · rcases Int.lt_or_le 0 best with h2 | h2
      · exact h2
      · have h3 := h.lo
        have := h1 (fun _ => false) he.1 (by rw [he.2]; omega)
        cases this
end
end Go.KL
end
