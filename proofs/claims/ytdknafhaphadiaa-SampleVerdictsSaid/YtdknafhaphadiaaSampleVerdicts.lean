/- SampleVerdicts: for every input the law returns true, and its arguments read as they did. No condition. -/
import Derived.Test.YtdknafhaphadiaaRows
import Derived.JoinedOf
import Derived.Handed
import Derived.SizedLaws
import Derived.Test.YtdknafhaphadiaaL6
section
/- Inspections: what a verdict is, plain. No program in sight. -/
namespace Go.KL
theorem nb_grow (f : Nat → Bool) {k : Nat} : ∀ d, nb f k ≤ nb f (k + d) ∧ nb f (k + d) ≤ nb f k + d
  | 0 => ⟨Nat.le_refl _, Nat.le_refl _⟩
  | d + 1 => by
    have h := nb_grow f (k := k) d
    rw [← Nat.add_assoc, nb]
    split <;> omega
theorem nb_congr {f g : Nat → Bool} : ∀ {k : Nat}, (∀ i, i < k → f i = g i) → nb f k = nb g k
  | 0, _ => rfl
  | k + 1, h => by
    rw [nb, nb, nb_congr fun i hi => h i (by omega), h k (by omega)]
/-- The verdict is that of the whole sample. -/
theorem jud_whole {n : Nat} {c : Int} {f : Nat → Bool} : ∀ {d k : Nat}, d + k = n → (jud n c f d k).1 = (if (nb f n : Int) ≤ c then 1 else 2) ∧ k ≤ (jud n c f d k).2 ∧ (jud n c f d k).2 ≤ n
  | 0, k, h => by
    obtain rfl : k = n := by omega
    rw [jud]
    by_cases h1 : (nb f k : Int) ≤ c
    · rw [if_pos (by omega), if_pos h1]
      exact ⟨rfl, Nat.le_refl _, Nat.le_refl _⟩
    · rw [if_neg (by omega), if_pos (by omega), if_neg h1]
      exact ⟨rfl, Nat.le_refl _, Nat.le_refl _⟩
  | d + 1, k, h => by
    have hg := nb_grow f (k := k) (d + 1)
    rw [show k + (d + 1) = n by omega] at hg
    rw [jud]
    by_cases h1 : (n : Int) - c ≤ (k : Int) - (nb f k : Int)
    · rw [if_pos h1, if_pos (by omega)]
      exact ⟨rfl, Nat.le_refl _, by show k ≤ n; omega⟩
    · rw [if_neg h1]
      by_cases h2 : c < (nb f k : Int)
      · rw [if_pos h2, if_neg (by omega)]
        exact ⟨rfl, Nat.le_refl _, by show k ≤ n; omega⟩
      · rw [if_neg h2]
        have ih := jud_whole (c := c) (f := f) (d := d) (k := k + 1) (n := n) (by omega)
        exact ⟨ih.1, by omega, ih.2.2⟩
/-- Further pieces do not matter. -/
theorem jud_more {n m : Nat} {c : Int} {f g : Nat → Bool} (hfg : ∀ i, i < n → f i = g i) : ∀ {d k : Nat}, d + k = n → jud n c g (d + m) k = jud n c f d k
  | 0, k, h => by
    obtain rfl : k = n := by omega
    have e := nb_congr hfg
    rw [Nat.zero_add]
    have h0 : jud k c g m k = if (k : Int) - c ≤ (k : Int) - (nb g k : Int) then (1, k) else if c < (nb g k : Int) then (2, k) else jud k c g m k := by
      by_cases h1 : (k : Int) - c ≤ (k : Int) - (nb g k : Int)
      · rw [if_pos h1]
        cases m <;> (rw [jud]; exact if_pos h1)
      · rw [if_neg h1]
        by_cases h2 : c < (nb g k : Int)
        · rw [if_pos h2]
          cases m <;> (rw [jud, if_neg h1]; exact if_pos h2)
        · rw [if_neg h2]
    rw [h0, jud, e]
    by_cases h1 : (k : Int) - c ≤ (k : Int) - (nb g k : Int)
    · rw [if_pos h1, if_pos h1]
    · rw [if_neg h1, if_neg h1, if_pos (by omega), if_pos (by omega)]
  | d + 1, k, h => by
    have e : nb f k = nb g k := nb_congr fun i hi => hfg i (by omega)
    rw [show d + 1 + m = (d + m) + 1 by omega, jud, jud, e, jud_more hfg (d := d) (k := k + 1) (by omega)]
/-- One piece less leaves it open. -/
theorem jud_less {n c : Int} {f : Nat → Bool} : ∀ {d k : Nat}, k < (jud n c f d k).2 → jud n c f ((jud n c f d k).2 - 1 - k) k = (0, (jud n c f d k).2 - 1)
  | 0, k, h => by
    exfalso
    rw [jud] at h
    split at h
    · exact Nat.lt_irrefl _ h
    · split at h <;> exact Nat.lt_irrefl _ h
  | d + 1, k, h => by
    rw [jud] at h ⊢
    by_cases h1 : n - c ≤ (k : Int) - (nb f k : Int)
    · rw [if_pos h1] at h
      exact absurd h (Nat.lt_irrefl _)
    · rw [if_neg h1] at h ⊢
      by_cases h2 : c < (nb f k : Int)
      · rw [if_pos h2] at h
        exact absurd h (Nat.lt_irrefl _)
      · rw [if_neg h2] at h ⊢
        by_cases h3 : k + 1 < (jud n c f d (k + 1)).2
        · have ih := jud_less (n := n) (c := c) (f := f) (d := d) (k := k + 1) h3
          obtain ⟨q, hq⟩ : ∃ q, q = (jud n c f d (k + 1)).2 := ⟨_, rfl⟩
          rw [← hq] at ih h3 ⊢
          rw [show q - 1 - k = (q - 1 - (k + 1)) + 1 by omega, jud, if_neg h1, if_neg h2]
          exact ih
        · have e : (jud n c f d (k + 1)).2 = k + 1 := by omega
          rw [e, show k + 1 - 1 - k = 0 by omega, jud, if_neg h1, if_neg h2]
          rfl
theorem jud_none {n : Nat} {c : Int} {f : Nat → Bool} (hc : 0 ≤ c) (h : (jud n c f n 0).2 = 0) : (n : Int) ≤ c := by
  cases n with
  | zero => exact hc
  | succ n =>
    have e0 : nb f 0 = 0 := rfl
    rw [jud, e0] at h
    by_cases h1 : ((n + 1 : Nat) : Int) - c ≤ ((0 : Nat) : Int) - ((0 : Nat) : Int)
    · omega
    · rw [if_neg h1, if_neg (by omega)] at h
      have := (jud_whole (n := n + 1) (c := c) (f := f) (d := n) (k := 0 + 1) (by omega)).2.1
      omega
end Go.KL
end

section
/- Walks: SampleVerdicts. -/
namespace Go.KL
open Go.Proofs
/-- One row behind another. -/
def catB (n : Nat) (f g : Nat → Bool) (i : Nat) : Bool := if i < n then f i else g (i - n)
theorem vw_cat {n m : Nat} {f g : Nat → Bool} : vw 1 n (fun i _ => .bool (f i)) ++ vw 1 m (fun i _ => .bool (g i)) = vw 1 (n + m) (fun i _ => .bool (catB n f g i)) := by
  apply List.ext_getElem?
  intro i
  by_cases hi : i < n
  · rw [List.getElem?_append_left (by rw [vw_len]; omega)]
    have h1 := vw_get (s := 1) (k := n) (g := fun i _ => Value.bool (f i)) (i := i) (j := 0) hi (by omega)
    have h2 := vw_get (s := 1) (k := n + m) (g := fun i _ => Value.bool (catB n f g i)) (i := i) (j := 0) (by omega) (by omega)
    rw [Nat.mul_one, Nat.add_zero] at h1 h2
    rw [h1, h2, catB, if_pos hi]
  · rw [List.getElem?_append_right (by rw [vw_len]; omega), vw_len, Nat.mul_one]
    by_cases hm : i < n + m
    · have h1 := vw_get (s := 1) (k := m) (g := fun i _ => Value.bool (g i)) (i := i - n) (j := 0) (by omega) (by omega)
      have h2 := vw_get (s := 1) (k := n + m) (g := fun i _ => Value.bool (catB n f g i)) (i := i) (j := 0) (by omega) (by omega)
      rw [Nat.mul_one, Nat.add_zero] at h1 h2
      rw [h1, h2, catB, if_neg hi]
    · rw [List.getElem?_eq_none (by rw [vw_len]; omega), List.getElem?_eq_none (by rw [vw_len]; omega)]
theorem SlB.less {C : World → Prop} {v : Value} {n : Nat} {f : Nat → Bool} (h : SlB C v n f) {k : Nat} (hk : k ≤ n) : ∃ pa c, v = .slice pa n c ∧ k ≤ c ∧ SlB C (.slice pa k c) k f := by
  obtain ⟨pa, c, h1, h2, h3⟩ := h
  refine ⟨pa, c, h1, by omega, pa, c, rfl, by omega, fun hp => ?_⟩
  obtain ⟨b, o, h4, h5⟩ := h3 (by omega)
  exact ⟨b, o, h4, fun i hi j hj => h5 i (by omega) j hj⟩
attribute [local irreducible] SC St Fin Sq Ylds Doos Sets Enters Spec CellIs CellsAre Then Ret Rnd Chn resOK ints bools recs arr
set_option maxRecDepth 10000 in
set_option maxHeartbeats 8000000 in
theorem sampleVerdicts_walk (W : World) (c : Int) (hc : i64 c) (v : Value) (n : Nat) (f : Nat → Bool) (hv : SlB (K W []) v n f) (hl : n ≤ 140737488355328) (u : Value) (m : Nat) (g : Nat → Bool) (hu : SlB (K W []) u m g) (hm : m ≤ 140737488355328) : Spec Try.prog 6 #[.int .i64 c, v, u] (K W []) (fun _ : Unit => .bool true) (fun _ => K W []) := by
  haveI hb : BoolV (K W []) v n f := ⟨hv, by omega⟩
  haveI hb2 : BoolV (K W []) u m g := ⟨hu, by omega⟩
  unfold i64 at hc
  refine enter (args := [_, _, _]) Try.func6 rfl Try.ntmps6 rfl ?_
  by_cases h1 : 4000 < n + m
  · refine c_seq ?_
    refine c_region ?_
    refine s_y (y_assign rfl) rfl rfl rfl ?_
    refine s_nil ?_
    refine f_then ?_
    refine c_seq ?_
    refine c_region ?_
    refine s_y (y_move rfl) rfl rfl rfl ?_
    refine s_y (y_lenB Try.tab rfl rfl) rfl rfl rfl ?_
    refine s_y (y_assign rfl) rfl rfl rfl ?_
    refine s_nil ?_
    refine f_then ?_
    refine c_seq ?_
    refine c_seq ?_
    refine c_region ?_
    refine s_y (y_move rfl) rfl rfl rfl ?_
    refine s_y (y_move rfl) rfl rfl rfl ?_
    refine s_y (y_lenB Try.tab rfl rfl) rfl rfl rfl ?_
    refine s_y (y_add rfl rfl (by omega)) rfl rfl rfl ?_
    refine s_y (y_T (y_gtr rfl rfl) (by omega)) rfl rfl rfl ?_
    refine s_y (y_move rfl) rfl rfl rfl ?_
    iterate 2 refine s_skip rfl rfl rfl ?_
    refine s_y (y_pickT rfl rfl) rfl rfl rfl ?_
    refine s_nil ?_
    refine f_then ?_
    refine c_condT rfl ?_
    refine c_seq ?_
    refine c_region ?_
    refine s_call (en_f rfl Try.call19) awake_spec rfl rfl rfl (fun _ => ?_)
    refine s_y (y_assign rfl) rfl rfl rfl ?_
    refine s_nil ?_
    refine f_then ?_
    refine c_ret ?_
    refine f_thenR ?_
    exact f_ret () (res1 rfl rfl) (fun w h => h)
  by_cases h2 : c < 0
  · refine c_seq ?_
    refine c_region ?_
    refine s_y (y_assign rfl) rfl rfl rfl ?_
    refine s_nil ?_
    refine f_then ?_
    refine c_seq ?_
    refine c_region ?_
    refine s_y (y_move rfl) rfl rfl rfl ?_
    refine s_y (y_lenB Try.tab rfl rfl) rfl rfl rfl ?_
    refine s_y (y_assign rfl) rfl rfl rfl ?_
    refine s_nil ?_
    refine f_then ?_
    refine c_seq ?_
    refine c_seq ?_
    refine c_region ?_
    refine s_y (y_move rfl) rfl rfl rfl ?_
    refine s_y (y_move rfl) rfl rfl rfl ?_
    refine s_y (y_lenB Try.tab rfl rfl) rfl rfl rfl ?_
    refine s_y (y_add rfl rfl (by omega)) rfl rfl rfl ?_
    refine s_y (y_F (y_gtr rfl rfl) (by omega)) rfl rfl rfl ?_
    refine s_y (y_move rfl) rfl rfl rfl ?_
    refine s_y (y_move rfl) rfl rfl rfl ?_
    refine s_y (y_T (y_lss rfl rfl) (by assumption)) rfl rfl rfl ?_
    refine s_y (y_pickF rfl rfl) rfl rfl rfl ?_
    refine s_nil ?_
    refine f_then ?_
    refine c_condT rfl ?_
    refine c_seq ?_
    refine c_region ?_
    refine s_call (en_f rfl Try.call19) awake_spec rfl rfl rfl (fun _ => ?_)
    refine s_y (y_assign rfl) rfl rfl rfl ?_
    refine s_nil ?_
    refine f_then ?_
    refine c_ret ?_
    refine f_thenR ?_
    exact f_ret () (res1 rfl rfl) (fun w h => h)
  have h3 : 0 ≤ c := by omega
  refine c_seq ?_
  refine c_region ?_
  refine s_y (y_assign rfl) rfl rfl rfl ?_
  refine s_nil ?_
  refine f_then ?_
  refine c_seq ?_
  refine c_region ?_
  refine s_y (y_move rfl) rfl rfl rfl ?_
  refine s_y (y_lenB Try.tab rfl rfl) rfl rfl rfl ?_
  refine s_y (y_assign rfl) rfl rfl rfl ?_
  refine s_nil ?_
  refine f_then ?_
  refine c_seq ?_
  refine c_seq ?_
  refine c_region ?_
  refine s_y (y_move rfl) rfl rfl rfl ?_
  refine s_y (y_move rfl) rfl rfl rfl ?_
  refine s_y (y_lenB Try.tab rfl rfl) rfl rfl rfl ?_
  refine s_y (y_add rfl rfl (by omega)) rfl rfl rfl ?_
  refine s_y (y_F (y_gtr rfl rfl) (by omega)) rfl rfl rfl ?_
  refine s_y (y_move rfl) rfl rfl rfl ?_
  refine s_y (y_move rfl) rfl rfl rfl ?_
  refine s_y (y_F (y_lss rfl rfl) (by assumption)) rfl rfl rfl ?_
  refine s_y (y_pickF rfl rfl) rfl rfl rfl ?_
  refine s_nil ?_
  refine f_then ?_
  refine c_condF rfl ?_
  refine c_skip ?_
  refine f_then ?_
  refine c_seq ?_
  refine c_region ?_
  refine s_y (y_move rfl) rfl rfl rfl ?_
  refine s_y (y_move rfl) rfl rfl rfl ?_
  refine s_y (y_move rfl) rfl rfl rfl ?_
  refine s_call (en_f rfl Try.call28) (judge_spec (n := (n : Int)) (by omega) h3 (by omega) (by omega)) rfl rfl rfl (fun _ => ?_)
  obtain ⟨r, hr⟩ : ∃ r, r = jud n c f n 0 := ⟨_, rfl⟩
  have hw := jud_whole (n := n) (c := c) (f := f) (d := n) (k := 0) rfl
  have hle := jud_less (n := (n : Int)) (c := c) (f := f) (d := n) (k := 0)
  have hno := jud_none (n := n) (c := c) (f := f) h3
  rw [← hr] at hw hle hno ⊢
  refine s_y (y_move rfl) rfl rfl rfl ?_
  refine s_y (y_extract rfl rfl) rfl rfl rfl ?_
  refine s_y (y_extract rfl rfl) rfl rfl rfl ?_
  refine s_y (y_extract rfl rfl) rfl rfl rfl ?_
  refine s_y (y_assign rfl) rfl rfl rfl ?_
  refine s_y (y_assign rfl) rfl rfl rfl ?_
  refine s_y (y_assign rfl) rfl rfl rfl ?_
  refine s_nil ?_
  refine f_then ?_
  refine c_seq ?_
  refine c_region ?_
  refine s_y (y_move rfl) rfl rfl rfl ?_
  refine s_y (y_move rfl) rfl rfl rfl ?_
  refine s_do (do_buildSlice1 Try.tab ⟨rfl, rfl, rfl, rfl⟩ rfl rfl rfl rfl) rfl rfl rfl (fun b40 => ?_)
  refine s_y (y_move rfl) rfl rfl rfl ?_
  refine s_do (do_appendE (by_ := 1) (g := fun i _ => .bool (f i)) Try.tab 0 rfl rfl (hv.cls fun w h => h.tail) ⟨rfl, rfl, rfl, rfl⟩ rfl rfl (fun _ _ => rfl) (by unfold maxLen; omega) (by omega)) rfl rfl rfl (fun o1 => ?_)
  refine s_y (y_move rfl) rfl rfl rfl ?_
  refine s_do (do_appendV (by_ := 1) (g := fun i _ => .bool (g i)) Try.tab 0 rfl rfl (hu.cls fun w h => h.tail) ⟨rfl, rfl, rfl, rfl⟩ rfl rfl o1.2.1 (fun _ _ => rfl) (by unfold maxLen; omega) (by omega)) rfl rfl rfl (fun o2 => ?_)
  obtain ⟨o2, ho2, hp2⟩ := o2
  have ho3 : owf 1 o2 (n + m) (vw 1 (n + m) (fun i _ => .bool (catB n f g i))) := by
    rw [← vw_cat]
    exact ho2
  haveI hb3 : BoolV (K W [och 4 o2 (vw 1 n (fun i _ => .bool (f i)) ++ vw 1 m (fun i _ => .bool (g i)))]) (osl o2 (n + m)) (n + m) (catB n f g) := ⟨SlV.vw 0 (congrArg (och 4 o2) vw_cat) ho3, by show n + m ≤ _; omega⟩
  refine St.cls (C' := K W [och 4 o2 (vw 1 n (fun i _ => .bool (f i)) ++ vw 1 m (fun i _ => .bool (g i)))]) ?_ (fun w h => h)
  refine s_call (en_f rfl Try.call28) (judge_spec (n := (n : Int)) (len := n + m) (f := catB n f g) (by omega) h3 (by omega) (by omega)) rfl rfl rfl (fun _ => ?_)
  rw [jud_more (n := n) (m := m) (c := c) (f := f) (g := catB n f g) (fun i hi => by rw [catB, if_pos hi]) (d := n) (k := 0) rfl, ← hr]
  refine s_y (y_move rfl) rfl rfl rfl ?_
  refine s_y (y_extract rfl rfl) rfl rfl rfl ?_
  refine s_y (y_extract rfl rfl) rfl rfl rfl ?_
  refine s_y (y_extract rfl rfl) rfl rfl rfl ?_
  refine s_y (y_assign rfl) rfl rfl rfl ?_
  refine s_y (y_assign rfl) rfl rfl rfl ?_
  refine s_y (y_assign rfl) rfl rfl rfl ?_
  refine s_nil ?_
  refine f_then ?_
  refine c_seq ?_
  refine c_seq ?_
  refine c_region ?_
  refine s_y (y_move rfl) rfl rfl rfl ?_
  refine s_y (y_F (y_neq rfl rfl) (by omega)) rfl rfl rfl ?_
  refine s_y (y_move rfl) rfl rfl rfl ?_
  refine s_y (y_move rfl) rfl rfl rfl ?_
  refine s_y (y_F (y_neq rfl rfl) (by omega)) rfl rfl rfl ?_
  refine s_y (y_pickF rfl rfl) rfl rfl rfl ?_
  refine s_y (y_move rfl) rfl rfl rfl ?_
  refine s_y (y_move rfl) rfl rfl rfl ?_
  refine s_y (y_move rfl) rfl rfl rfl ?_
  refine s_y (y_move rfl) rfl rfl rfl ?_
  refine s_call (en_f rfl Try.call30) (rwhole_spec (c := c) (len := n) (f := f)) rfl rfl rfl (fun _ => ?_)
  have ew : (if (nb f n : Int) ≤ c then (1 : Int) else 2) = (r.1 : Int) := by rw [hw.1]; split <;> rfl
  rw [ew]
  refine s_y (y_F (y_neq rfl rfl) (by omega)) rfl rfl rfl ?_
  refine s_y (y_pickF rfl rfl) rfl rfl rfl ?_
  refine s_y (y_move rfl) rfl rfl rfl ?_
  refine s_y (y_move rfl) rfl rfl rfl ?_
  refine s_y (y_move rfl) rfl rfl rfl ?_
  refine s_y (y_F (y_neq rfl rfl) (by omega)) rfl rfl rfl ?_
  refine s_y (y_pickF rfl rfl) rfl rfl rfl ?_
  refine s_y (y_move rfl) rfl rfl rfl ?_
  refine s_y (y_move rfl) rfl rfl rfl ?_
  refine s_y (y_move rfl) rfl rfl rfl ?_
  refine s_y (y_F (y_neq rfl rfl) (by omega)) rfl rfl rfl ?_
  refine s_y (y_pickF rfl rfl) rfl rfl rfl ?_
  refine s_y (y_move rfl) rfl rfl rfl ?_
  refine s_y (y_move rfl) rfl rfl rfl ?_
  refine s_y (y_F (y_lss rfl rfl) (by omega)) rfl rfl rfl ?_
  refine s_y (y_pickF rfl rfl) rfl rfl rfl ?_
  refine s_y (y_move rfl) rfl rfl rfl ?_
  refine s_y (y_move rfl) rfl rfl rfl ?_
  refine s_y (y_move rfl) rfl rfl rfl ?_
  refine s_y (y_F (y_gtr rfl rfl) (by omega)) rfl rfl rfl ?_
  refine s_y (y_pickF rfl rfl) rfl rfl rfl ?_
  refine s_nil ?_
  refine f_then ?_
  refine c_condF rfl ?_
  refine c_skip ?_
  refine f_then ?_
  refine c_seq ?_
  refine c_seq ?_
  refine c_region ?_
  refine s_y (y_move rfl) rfl rfl rfl ?_
  refine s_y (y_eql rfl rfl) rfl rfl rfl ?_
  refine s_nil ?_
  refine f_then ?_
  by_cases hk : r.2 = 0
  · have hnc := hno hk
    rw [decide_eq_true (show (r.2 : Int) = 0 by omega)]
    refine c_condT rfl ?_
    refine c_seq ?_
    refine c_region ?_
    refine s_y (y_move rfl) rfl rfl rfl ?_
    refine s_y (y_move rfl) rfl rfl rfl ?_
    refine s_y (y_T (y_geq rfl rfl) (by assumption)) rfl rfl rfl ?_
    refine s_y (y_move rfl) rfl rfl rfl ?_
    refine s_call (en_f rfl Try.call19) awake_spec rfl rfl rfl (fun _ => ?_)
    refine s_y (y_pickT rfl rfl) rfl rfl rfl ?_
    refine s_y (y_assign rfl) rfl rfl rfl ?_
    refine s_nil ?_
    refine f_then ?_
    refine c_ret ?_
    refine f_thenR ?_
    exact f_ret () (res1 rfl rfl) (fun w h => h.tail)
  · obtain ⟨pa, c0, rfl, hk0, hv2⟩ := hv.less (k := r.2 - 1) (by omega)
    rw [decide_eq_false (show ¬ (r.2 : Int) = 0 by omega)]
    refine c_condF rfl ?_
    refine c_skip ?_
    refine f_then ?_
    refine c_seq ?_
    refine c_region ?_
    refine s_y (y_move rfl) rfl rfl rfl ?_
    refine s_y (y_move rfl) rfl rfl rfl ?_
    refine s_y (y_move rfl) rfl rfl rfl ?_
    refine s_y (y_move rfl) rfl rfl rfl ?_
    refine s_y (y_sub rfl rfl (by omega)) rfl rfl rfl ?_
    refine s_y (y_sliceTo (hi := r.2 - 1) Try.tab rfl rfl rfl rfl (by omega) hk0) rfl rfl rfl ?_
    haveI hb4 : BoolV (K W [och 4 o2 (vw 1 n (fun i _ => .bool (f i)) ++ vw 1 m (fun i _ => .bool (g i)))]) (.slice pa (r.2 - 1) c0) (r.2 - 1) f := ⟨hv2.cls fun w h => h.tail, by show r.2 - 1 ≤ 9223372036854775807; omega⟩
    refine s_call (en_f rfl Try.call28) (judge_spec (n := (n : Int)) (len := r.2 - 1) (f := f) (by omega) h3 (by omega) (by omega)) rfl rfl rfl (fun _ => ?_)
    have hj := hle (by omega)
    rw [Nat.sub_zero] at hj
    rw [hj]
    have e1 : ((r.2 - 1 : Nat) : Int) = (r.2 : Int) - 1 := by omega
    refine s_y (y_move rfl) rfl rfl rfl ?_
    refine s_y (y_extract rfl rfl) rfl rfl rfl ?_
    refine s_y (y_extract rfl rfl) rfl rfl rfl ?_
    refine s_y (y_extract rfl rfl) rfl rfl rfl ?_
    refine s_y (y_assign rfl) rfl rfl rfl ?_
    refine s_y (y_assign rfl) rfl rfl rfl ?_
    refine s_y (y_assign rfl) rfl rfl rfl ?_
    refine s_nil ?_
    refine f_then ?_
    refine c_seq ?_
    refine c_region ?_
    refine s_y (y_move rfl) rfl rfl rfl ?_
    refine s_y (y_T (y_eql rfl rfl) (by omega)) rfl rfl rfl ?_
    refine s_y (y_move rfl) rfl rfl rfl ?_
    refine s_y (y_move rfl) rfl rfl rfl ?_
    refine s_y (y_move rfl) rfl rfl rfl ?_
    refine s_y (y_sub rfl rfl (by omega)) rfl rfl rfl ?_
    refine s_y (y_T (y_eql rfl rfl) (by assumption)) rfl rfl rfl ?_
    refine s_y (y_pickT rfl rfl) rfl rfl rfl ?_
    refine s_y (y_move rfl) rfl rfl rfl ?_
    refine s_y (y_move rfl) rfl rfl rfl ?_
    refine s_y (y_T (y_eql rfl rfl) (by omega)) rfl rfl rfl ?_
    refine s_y (y_pickT rfl rfl) rfl rfl rfl ?_
    refine s_y (y_move rfl) rfl rfl rfl ?_
    refine s_call (en_f rfl Try.call19) awake_spec rfl rfl rfl (fun _ => ?_)
    refine s_y (y_pickT rfl rfl) rfl rfl rfl ?_
    refine s_y (y_assign rfl) rfl rfl rfl ?_
    refine s_nil ?_
    refine f_then ?_
    refine c_ret ?_
    exact f_ret () (res1 rfl rfl) (fun w h => h.tail)
end Go.KL
end

section
/- SampleVerdicts: for every input the law returns true, and its arguments read as they did. No condition. -/
namespace Go.Proofs.Ytdknafhaphadiaa
open Go.ChangeShapes Go.WideShapes Go.RowKit Go.KL
set_option linter.unusedVariables false
theorem own : ownKnob Try.prog.godebug = none := by kernel_rfl
set_option maxRecDepth 100000 in
theorem sampleVerdicts_lifted (os : Os) (started : os.Started) (H : Type) (enc : TypeId × Value → H) :
    ReturnsInHanded {} Try.checked os 6 .any (Rows.sampleVerdictsSpec.pre6 enc Try.prog Try.f6 Rows.sampleVerdictsRow.domain false) (Rows.sampleVerdictsSpec.post enc Try.prog Try.f6 false true false false) := by
  refine returnsInHanded_of_change_sized (C := Try.checked) own started (by kernel_rfl) Try.func6
    (ChangeSpec.witness6 (enc := enc) (C := Try.checked) false ⟨#[], #[.int .i64 0, .slice none 0 0, .slice none 0 0], []⟩ 8 (by kernel_rfl) (by kernel_rfl) (by kernel_rfl) (by kernel_rfl)) ?_
  intro W base args ds gs before hval hW hcnd hsz _
  obtain ⟨p, q, hA, hV, rfl, hfz, hnd⟩ := id hW
  obtain ⟨rfl, rfl⟩ := trodVars_none hV
  obtain ⟨v0, vs0, d0, ds0, p0, q0, e0, rfl, rfl, h0, r0⟩ := trodAll_cons hA
  obtain ⟨v1, vs1, d1, ds1, p1, q1, rfl, rfl, rfl, h1, r1⟩ := trodAll_cons r0
  obtain ⟨v2, vs2, d2, ds2, p2, q2, rfl, rfl, rfl, h2, r2⟩ := trodAll_cons r1
  obtain ⟨rfl, rfl, rfl⟩ := trodAll_nil r2
  obtain rfl : args = #[v0, v1, v2] := by cases args; simp_all
  obtain ⟨k0, rfl, hk0⟩ := arg3 (hval 0 3 _ rfl rfl) h0
  obtain ⟨m1, f1, hB1, hm1⟩ := arg41 (hval 1 41 _ rfl rfl) h1
  have hL1 := long41 hB1 h1 hsz (j := 1) rfl rfl
  obtain ⟨m2, f2, hB2, hm2⟩ := arg41 (hval 2 41 _ rfl rfl) h2
  have hL2 := long41 hB2 h2 hsz (j := 2) rfl rfl
  refine ((sampleVerdicts_walk W k0 hk0 v1 m1 f1 hB1 hL1 v2 m2 f2 hB2 hL2) W (K.refl W)).mono ?_
  rintro e W' ⟨x, rfl, hk⟩
  exact ⟨_, rfl, law_post (t := 4) laidOut (by decide +kernel) rfl rfl u4 hW rfl hk.toExt⟩
theorem joined : joinedFacts Try.pinned.checked.prog 6 Try.f6 Rows.sampleVerdictsSpec Rows.sampleVerdictsRow = true := by
  show joinedFacts Try.prog 6 Try.f6 Rows.sampleVerdictsSpec Rows.sampleVerdictsRow = true
  unfold joinedFacts
  rw [Go.KL.may_enter, Go.KL.lifts_final, Go.KL.make_cut]
  kernel_rfl
/-- The statement. -/
theorem sampleVerdicts_holds : Rows.SampleVerdictsSaid :=
  OpenClaim.holds_of_wide 6 Try.f6 rfl rfl rfl rfl rfl rfl rfl ⟨rfl, rfl, rfl, rfl, rfl⟩ rfl rfl rfl rfl rfl (by kernel_rfl) Try.func6 joined
    (of_decide_eq_true (by kernel_rfl)) (by unfold Func.isWrapper; first | (rw [if_pos (by decide +kernel)]; kernel_rfl) | (rw [if_neg (by decide +kernel)]; exact ⟨rfl, rfl⟩))
    (fun os started H enc _ => sampleVerdicts_lifted os started H enc)
end Go.Proofs.Ytdknafhaphadiaa
end
