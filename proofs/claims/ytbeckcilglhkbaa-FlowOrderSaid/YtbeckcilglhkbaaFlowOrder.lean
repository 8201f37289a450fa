/- FlowOrder: for every input the law returns true, and its arguments read as they did. No condition. -/
import Derived.Test.YtbeckcilglhkbaaRows
import Derived.JoinedOf
import Derived.Handed
import Derived.Test.YtbeckcilglhkbaaGcL4
section
/- Plain lemmas: the order of the arcs. No program in sight. -/
namespace Go.KL
/-- Turned by k places. -/
def rot (na k i : Nat) : Nat := (i + k) % na
theorem rot_lt {na k i : Nat} (h : i < na) : rot na k i < na := Nat.mod_lt _ (by omega)
theorem rot_rot {na k i : Nat} (h : i < na) (hk : k ≤ na) : rot na k (rot na (na - k) i) = i := by
  unfold rot
  rw [Nat.mod_add_mod, show i + (na - k) + k = i + na by omega, Nat.add_mod_right, Nat.mod_eq_of_lt h]
theorem sm_rot {na k : Nat} (hk : k ≤ na) (F : Nat → Int) : sm na (fun i => F (rot na k i)) = sm na F := by
  have h1 : sm na (fun i => F (rot na k i)) = sm (na - k) (fun i => F (k + i)) + sm k F := by
    have e : na = (na - k) + k := by omega
    have := sm_split (na - k) k (fun i => F (rot na k i))
    rw [← e] at this
    rw [this]
    congr 1
    · exact sm_congr _ _ _ fun i hi => by unfold rot; rw [Nat.mod_eq_of_lt (by omega), Nat.add_comm]
    · exact sm_congr _ _ _ fun i hi => by unfold rot; rw [show na - k + i + k = i + na by omega, Nat.add_mod_right, Nat.mod_eq_of_lt (by omega)]
  have h2 := sm_split k (na - k) F
  rw [show k + (na - k) = na by omega] at h2
  rw [h1, h2]
  omega
section
variable {n na s t k : Nat} {A A' : Nat → Ac} {f g : Nat → Int} {v : Int}
/-- The arcs of A', one by one those of A from k on. -/
def Turn (na k : Nat) (A A' : Nat → Ac) : Prop := ∀ i, i < na → A' i = A (rot na k i)
theorem Turn.back (h : Turn na k A A') (hk : k ≤ na) : Turn na (na - k) A' A := fun i hi => by
  rw [h _ (rot_lt hi), rot_rot hi hk]
theorem Turn.flw (h : Turn na k A A') (hk : k ≤ na) (hf : Flw n na s t (frN A) (ttN A) (capN A) 1 f v) : Flw n na s t (frN A') (ttN A') (capN A') 1 (fun i => f (rot na k i)) v := by
  have hm : ∀ u, more (frN A') (ttN A') (fun i => f (rot na k i)) na u = more (frN A) (ttN A) f na u := fun u => by
    unfold more
    rw [← sm_rot hk (fun i => (if frN A i = u then f i else 0) - (if ttN A i = u then f i else 0))]
    exact sm_congr _ _ _ fun i hi => by simp only [frN, ttN, h i hi]
  refine ⟨fun i hi => ?_, fun u hu h1 h2 => ?_, ?_⟩
  · have := hf.bd _ (rot_lt (k := k) hi)
    simp only [capN, h i hi] at this ⊢
    exact this
  · rw [hm]; exact hf.mid u hu h1 h2
  · rw [hm]; exact hf.val
theorem Turn.cst (h : Turn na k A A') (hk : k ≤ na) : cst (cstN A') (fun i => f (rot na k i)) na = cst (cstN A) f na := by
  unfold Go.KL.cst
  rw [← sm_rot hk (fun i => f i * cstN A i)]
  exact sm_congr _ _ _ fun i hi => by simp only [cstN, h i hi]
theorem Turn.cpc (h : Turn na k A A') (hk : k ≤ na) (S : Nat → Bool) : cpc na (frN A') (ttN A') (capN A') S = cpc na (frN A) (ttN A) (capN A) S := by
  unfold Go.KL.cpc
  rw [← sm_rot hk (fun i => if S (frN A i) && !S (ttN A i) then capN A i else 0)]
  exact sm_congr _ _ _ fun i hi => by simp only [frN, ttN, capN, h i hi]
theorem Turn.net {n s t : Int} (h : Turn na k A A') (hN : NetOK n na A s t) : NetOK n na A' s t :=
  ⟨hN.hn, hN.hna, hN.hs, hN.ht, hN.ne, fun i hi => by rw [h i hi]; exact hN.arc _ (rot_lt hi)⟩
/-- Solutions of both have one value and one cost. -/
theorem Turn.solve {want v1 v2 : Int} {f1 p1 f2 p2 : Nat → Int} (h : Turn na k A A') (hk : k ≤ na) (hN : NetOK n na A s t) (h1 : SolveP n na A s t want v1 f1 p1) (h2 : SolveP n na A' s t want v2 f2 p2) :
    v1 = v2 ∧ Go.KL.cst (cstN A) f1 na = Go.KL.cst (cstN A') f2 na := by
  have hN' := h.net hN
  have e1 := h2.value hN' (h.flw hk h1.flw) h1.hi
  have e2 := h1.value hN ((h.back hk).flw (by omega) h2.flw) h2.hi
  have e3 : v1 = v2 := by omega
  subst e3
  refine ⟨rfl, ?_⟩
  have c1 := cert_least hN' h2.flw h2.cert.cert (h.flw hk h1.flw)
  have c2 := cert_least hN h1.flw h1.cert.cert ((h.back hk).flw (by omega) h2.flw)
  rw [h.cst hk] at c1
  rw [(h.back hk).cst (by omega)] at c2
  omega
/-- Cuts of both are one. -/
theorem Turn.cut {v1 v2 : Int} {f1 f2 : Nat → Int} {g1 g2 : Nat → Bool} (h : Turn na k A A') (hk : k ≤ na) (hN : NetOK n na A s t) (h1 : CutP n na A s t v1 f1 g1) (h2 : CutP n na A' s t v2 f2 g2) :
    v1 = v2 ∧ ∀ u, g1 u = g2 u := by
  have hN' := h.net hN
  have e1 := h2.max hN' (h.flw hk h1.fl)
  have e2 := h1.max hN ((h.back hk).flw (by omega) h2.fl)
  have e3 : v1 = v2 := by omega
  subst e3
  refine ⟨rfl, fun u => ?_⟩
  have q1 := (h1.least hN h2.rch.start h2.out).2 (by rw [← h.cpc hk]; exact h2.cap hN') u
  have q2 := (h2.least hN' h1.rch.start h1.out).2 (by rw [h.cpc hk]; exact h1.cap hN) u
  cases e1 : g1 u <;> cases e2 : g2 u <;> simp_all
end
end Go.KL
end

section
/- Views of parts of a slice; rows laid end to end. -/
namespace Go.KL
theorem SlV.from {C : World → Prop} {pa : Option Addr} {n c s k : Nat} {g : Nat → Nat → Value} (h : SlV C (.slice pa n c) n s g) (hk : k ≤ n) : SlV C (.slice (if c = k then pa else pa.map (·.add (k * s))) (n - k) (c - k)) (n - k) s (fun i j => g (k + i) j) := by
  obtain ⟨pa', c', e, h1, h2⟩ := h
  injection e with e1 _ e2
  subst e1; subst e2
  refine ⟨_, _, rfl, by omega, fun h0 => ?_⟩
  obtain ⟨b, o, rfl, h3⟩ := h2 (by omega)
  rw [if_neg (by omega)]
  refine ⟨b, o + k * s, by rw [Option.map_some, Go.WideShapes.add_plain], fun i hi j hj => ?_⟩
  have := h3 (k + i) (by omega) j hj
  rwa [show o + (k + i) * s + j = o + k * s + i * s + j by rw [Nat.add_mul]; omega] at this
theorem SlV.to {C : World → Prop} {pa : Option Addr} {n c s k : Nat} {g : Nat → Nat → Value} (h : SlV C (.slice pa n c) n s g) (hk : k ≤ n) : SlV C (.slice pa k c) k s g := by
  obtain ⟨pa', c', e, h1, h2⟩ := h
  injection e with e1 _ e2
  subst e1; subst e2
  refine ⟨_, _, rfl, by omega, fun h0 => ?_⟩
  obtain ⟨b, o, h3, h4⟩ := h2 (by omega)
  exact ⟨b, o, h3, fun i hi j hj => h4 i (by omega) j hj⟩
theorem vw_append {s a b : Nat} {g h : Nat → Nat → Value} (hs : 0 < s) : vw s a g ++ vw s b h = vw s (a + b) (fun i j => if i < a then g i j else h (i - a) j) := by
  unfold vw
  rw [Nat.add_mul, List.range_add, List.map_append, List.map_map]
  congr 1
  · apply List.map_congr_left
    intro i hi
    rw [List.mem_range] at hi
    have h1 := (Nat.div_lt_iff_lt_mul hs).2 hi
    simp only [if_pos h1]
  · apply List.map_congr_left
    intro i hi
    simp only [Function.comp]
    have e1 : (a * s + i) / s = a + i / s := by rw [Nat.add_comm, Nat.add_mul_div_right _ _ hs, Nat.add_comm]
    have e2 : (a * s + i) % s = i % s := by rw [Nat.add_comm, Nat.add_mul_mod_self_right]
    rw [e1, e2]
    generalize i / s = q
    rw [if_neg (by omega), show a + q - a = q by omega]
/-- The arcs from k on, then those ahead of k. -/
def turned (na k : Nat) (A : Nat → Ac) (i : Nat) : Ac := if i < na - k then A (k + i) else A (i - (na - k))
theorem turned_turn {na k : Nat} {A : Nat → Ac} (hk : k ≤ na) : Turn na k A (turned na k A) := fun i hi => by
  unfold turned rot
  split
  · rw [Nat.mod_eq_of_lt (by omega), Nat.add_comm]
  · rw [show i + k = (i - (na - k)) + na by omega, Nat.add_mod_right, Nat.mod_eq_of_lt (by omega)]
theorem turned_vw {na k : Nat} {A : Nat → Ac} (hk : k ≤ na) : vw 4 (na - k) (fun i j => ag A (k + i) j) ++ vw 4 k (ag A) = vw 4 na (ag (turned na k A)) := by
  rw [vw_append (by omega), show na - k + k = na by omega]
  congr 1
  funext i j
  unfold ag turned
  split <;> rfl
end Go.KL
end

section
/- The walk of FlowOrder. -/
namespace Go.KL
open Go.Proofs
attribute [local irreducible] SC St Fin Sq Sw Ylds Doos Sets Enters Spec CellIs CellsAre Then Ret Rnd Chn resOK ints bools recs arr
open Classical in
set_option maxHeartbeats 8000000 in
theorem flowOrder_walk (W : World) (n s t want by_ : Int) (va : Value) (na : Nat) (A : Nat → Ac) (hA : SlA (K W []) va na A) (hwant : want ≤ 9223372036854775807) (hby : by_ ≤ 9223372036854775807) :
    Spec Try.prog 9 #[.agg #[.int .i64 n, va, .int .i64 s, .int .i64 t], .int .i64 want, .int .i64 by_] (K W []) (fun _ : Unit => .bool true) (fun _ => K W []) := by
  obtain ⟨pa, ca, rfl, hca, hcells⟩ := hA.open
  refine enter (args := [_, _, _]) Try.func9 rfl Try.ntmps9 rfl ?_
  by_cases hfew : fewP n na
  rotate_left
  · refine c_seq ?_
    refine c_region ?_
    refine s_do (do_box rfl) rfl rfl rfl (fun b3 => ?_)
    refine s_y (y_assign rfl) rfl rfl rfl ?_
    refine s_nil ?_
    refine f_then ?_
    refine c_seq ?_
    refine c_seq ?_
    refine c_region ?_
    refine s_y (y_loadA Try.tab rfl rfl rfl rfl (cells_row0 0 rfl rfl)) rfl rfl rfl ?_
    refine s_call (en_f rfl Try.call15) (few_no hfew W _ s t pa ca) rfl rfl rfl (fun _ => ?_)
    refine s_y (y_notF rfl) rfl rfl rfl ?_
    refine s_y (y_move rfl) rfl rfl rfl ?_
    iterate 3 refine s_skip rfl rfl rfl ?_
    refine s_y (y_pickT rfl rfl) rfl rfl rfl ?_
    refine s_y (y_move rfl) rfl rfl rfl ?_
    iterate 2 refine s_skip rfl rfl rfl ?_
    refine s_y (y_pickT rfl rfl) rfl rfl rfl ?_
    refine s_y (y_move rfl) rfl rfl rfl ?_
    iterate 2 refine s_skip rfl rfl rfl ?_
    refine s_y (y_pickT rfl rfl) rfl rfl rfl ?_
    refine s_y (y_move rfl) rfl rfl rfl ?_
    iterate 4 refine s_skip rfl rfl rfl ?_
    refine s_y (y_pickT rfl rfl) rfl rfl rfl ?_
    refine s_nil ?_
    refine f_then ?_
    refine c_condT rfl ?_
    refine c_seq ?_
    refine c_region ?_
    refine s_call (en_f rfl Try.call16) (awake_spec W _) rfl rfl rfl (fun _ => ?_)
    refine s_y (y_assign rfl) rfl rfl rfl ?_
    refine s_nil ?_
    refine f_then ?_
    refine c_ret ?_
    refine f_thenR ?_
    exact f_ret () (res1 rfl rfl) (fun w h => h.any)
  have hfew' := hfew
  unfold fewP at hfew'
  by_cases hN : NetOK n na A s t
  rotate_left
  · refine c_seq ?_
    refine c_region ?_
    refine s_do (do_box rfl) rfl rfl rfl (fun b3 => ?_)
    refine s_y (y_assign rfl) rfl rfl rfl ?_
    refine s_nil ?_
    refine f_then ?_
    refine c_seq ?_
    refine c_seq ?_
    refine c_region ?_
    refine s_y (y_loadA Try.tab rfl rfl rfl rfl (cells_row0 0 rfl rfl)) rfl rfl rfl ?_
    refine s_call (en_f rfl Try.call15) (few_yes hfew W _ s t pa ca) rfl rfl rfl (fun _ => ?_)
    refine s_y (y_notT rfl) rfl rfl rfl ?_
    refine s_y (y_move rfl) rfl rfl rfl ?_
    refine s_y (y_loadA Try.tab rfl rfl rfl rfl (cells_row0 0 rfl rfl)) rfl rfl rfl ?_
    refine s_call (en_f rfl Try.call18) (nv_no hN W _ (.slice pa _ ca) (hA.any _) (by omega)) rfl rfl rfl (fun _ => ?_)
    refine s_y (y_notF rfl) rfl rfl rfl ?_
    refine s_y (y_pickF rfl rfl) rfl rfl rfl ?_
    refine s_y (y_move rfl) rfl rfl rfl ?_
    iterate 2 refine s_skip rfl rfl rfl ?_
    refine s_y (y_pickT rfl rfl) rfl rfl rfl ?_
    refine s_y (y_move rfl) rfl rfl rfl ?_
    iterate 2 refine s_skip rfl rfl rfl ?_
    refine s_y (y_pickT rfl rfl) rfl rfl rfl ?_
    refine s_y (y_move rfl) rfl rfl rfl ?_
    iterate 4 refine s_skip rfl rfl rfl ?_
    refine s_y (y_pickT rfl rfl) rfl rfl rfl ?_
    refine s_nil ?_
    refine f_then ?_
    refine c_condT rfl ?_
    refine c_seq ?_
    refine c_region ?_
    refine s_call (en_f rfl Try.call16) (awake_spec W _) rfl rfl rfl (fun _ => ?_)
    refine s_y (y_assign rfl) rfl rfl rfl ?_
    refine s_nil ?_
    refine f_then ?_
    refine c_ret ?_
    refine f_thenR ?_
    exact f_ret () (res1 rfl rfl) (fun w h => h.any)
  by_cases hneg : want < 0
  · refine c_seq ?_
    refine c_region ?_
    refine s_do (do_box rfl) rfl rfl rfl (fun b3 => ?_)
    refine s_y (y_assign rfl) rfl rfl rfl ?_
    refine s_nil ?_
    refine f_then ?_
    refine c_seq ?_
    refine c_seq ?_
    refine c_region ?_
    refine s_y (y_loadA Try.tab rfl rfl rfl rfl (cells_row0 0 rfl rfl)) rfl rfl rfl ?_
    refine s_call (en_f rfl Try.call15) (few_yes hfew W _ s t pa ca) rfl rfl rfl (fun _ => ?_)
    refine s_y (y_notT rfl) rfl rfl rfl ?_
    refine s_y (y_move rfl) rfl rfl rfl ?_
    refine s_y (y_loadA Try.tab rfl rfl rfl rfl (cells_row0 0 rfl rfl)) rfl rfl rfl ?_
    refine s_call (en_f rfl Try.call18) (nv_yes hN W _ (.slice pa _ ca) (hA.any _) (by omega)) rfl rfl rfl (fun _ => ?_)
    refine s_y (y_notT rfl) rfl rfl rfl ?_
    refine s_y (y_pickF rfl rfl) rfl rfl rfl ?_
    refine s_y (y_move rfl) rfl rfl rfl ?_
    refine s_y (y_move rfl) rfl rfl rfl ?_
    refine s_y (y_T (y_lss rfl rfl) (by assumption)) rfl rfl rfl ?_
    refine s_y (y_pickF rfl rfl) rfl rfl rfl ?_
    refine s_y (y_move rfl) rfl rfl rfl ?_
    iterate 2 refine s_skip rfl rfl rfl ?_
    refine s_y (y_pickT rfl rfl) rfl rfl rfl ?_
    refine s_y (y_move rfl) rfl rfl rfl ?_
    iterate 4 refine s_skip rfl rfl rfl ?_
    refine s_y (y_pickT rfl rfl) rfl rfl rfl ?_
    refine s_nil ?_
    refine f_then ?_
    refine c_condT rfl ?_
    refine c_seq ?_
    refine c_region ?_
    refine s_call (en_f rfl Try.call16) (awake_spec W _) rfl rfl rfl (fun _ => ?_)
    refine s_y (y_assign rfl) rfl rfl rfl ?_
    refine s_nil ?_
    refine f_then ?_
    refine c_ret ?_
    refine f_thenR ?_
    exact f_ret () (res1 rfl rfl) (fun w h => h.any)
  by_cases hneg2 : by_ < 0
  · refine c_seq ?_
    refine c_region ?_
    refine s_do (do_box rfl) rfl rfl rfl (fun b3 => ?_)
    refine s_y (y_assign rfl) rfl rfl rfl ?_
    refine s_nil ?_
    refine f_then ?_
    refine c_seq ?_
    refine c_seq ?_
    refine c_region ?_
    refine s_y (y_loadA Try.tab rfl rfl rfl rfl (cells_row0 0 rfl rfl)) rfl rfl rfl ?_
    refine s_call (en_f rfl Try.call15) (few_yes hfew W _ s t pa ca) rfl rfl rfl (fun _ => ?_)
    refine s_y (y_notT rfl) rfl rfl rfl ?_
    refine s_y (y_move rfl) rfl rfl rfl ?_
    refine s_y (y_loadA Try.tab rfl rfl rfl rfl (cells_row0 0 rfl rfl)) rfl rfl rfl ?_
    refine s_call (en_f rfl Try.call18) (nv_yes hN W _ (.slice pa _ ca) (hA.any _) (by omega)) rfl rfl rfl (fun _ => ?_)
    refine s_y (y_notT rfl) rfl rfl rfl ?_
    refine s_y (y_pickF rfl rfl) rfl rfl rfl ?_
    refine s_y (y_move rfl) rfl rfl rfl ?_
    refine s_y (y_move rfl) rfl rfl rfl ?_
    refine s_y (y_F (y_lss rfl rfl) (by assumption)) rfl rfl rfl ?_
    refine s_y (y_pickF rfl rfl) rfl rfl rfl ?_
    refine s_y (y_move rfl) rfl rfl rfl ?_
    refine s_y (y_move rfl) rfl rfl rfl ?_
    refine s_y (y_T (y_lss rfl rfl) (by assumption)) rfl rfl rfl ?_
    refine s_y (y_pickF rfl rfl) rfl rfl rfl ?_
    refine s_y (y_move rfl) rfl rfl rfl ?_
    iterate 4 refine s_skip rfl rfl rfl ?_
    refine s_y (y_pickT rfl rfl) rfl rfl rfl ?_
    refine s_nil ?_
    refine f_then ?_
    refine c_condT rfl ?_
    refine c_seq ?_
    refine c_region ?_
    refine s_call (en_f rfl Try.call16) (awake_spec W _) rfl rfl rfl (fun _ => ?_)
    refine s_y (y_assign rfl) rfl rfl rfl ?_
    refine s_nil ?_
    refine f_then ?_
    refine c_ret ?_
    refine f_thenR ?_
    exact f_ret () (res1 rfl rfl) (fun w h => h.any)
  by_cases hz : (na : Int) = 0
  · refine c_seq ?_
    refine c_region ?_
    refine s_do (do_box rfl) rfl rfl rfl (fun b3 => ?_)
    refine s_y (y_assign rfl) rfl rfl rfl ?_
    refine s_nil ?_
    refine f_then ?_
    refine c_seq ?_
    refine c_seq ?_
    refine c_region ?_
    refine s_y (y_loadA Try.tab rfl rfl rfl rfl (cells_row0 0 rfl rfl)) rfl rfl rfl ?_
    refine s_call (en_f rfl Try.call15) (few_yes hfew W _ s t pa ca) rfl rfl rfl (fun _ => ?_)
    refine s_y (y_notT rfl) rfl rfl rfl ?_
    refine s_y (y_move rfl) rfl rfl rfl ?_
    refine s_y (y_loadA Try.tab rfl rfl rfl rfl (cells_row0 0 rfl rfl)) rfl rfl rfl ?_
    refine s_call (en_f rfl Try.call18) (nv_yes hN W _ (.slice pa _ ca) (hA.any _) (by omega)) rfl rfl rfl (fun _ => ?_)
    refine s_y (y_notT rfl) rfl rfl rfl ?_
    refine s_y (y_pickF rfl rfl) rfl rfl rfl ?_
    refine s_y (y_move rfl) rfl rfl rfl ?_
    refine s_y (y_move rfl) rfl rfl rfl ?_
    refine s_y (y_F (y_lss rfl rfl) (by assumption)) rfl rfl rfl ?_
    refine s_y (y_pickF rfl rfl) rfl rfl rfl ?_
    refine s_y (y_move rfl) rfl rfl rfl ?_
    refine s_y (y_move rfl) rfl rfl rfl ?_
    refine s_y (y_F (y_lss rfl rfl) (by assumption)) rfl rfl rfl ?_
    refine s_y (y_pickF rfl rfl) rfl rfl rfl ?_
    refine s_y (y_move rfl) rfl rfl rfl ?_
    refine s_y (y_fieldAddrB Try.tab 1 rfl rfl rfl rfl rfl) rfl rfl rfl ?_
    refine s_y (y_load Try.tab rfl rfl (cell_row 0 rfl rfl)) rfl rfl rfl ?_
    refine s_y (y_len Try.tab rfl rfl) rfl rfl rfl ?_
    refine s_y (y_T (y_eql rfl rfl) (by assumption)) rfl rfl rfl ?_
    refine s_y (y_pickF rfl rfl) rfl rfl rfl ?_
    refine s_nil ?_
    refine f_then ?_
    refine c_condT rfl ?_
    refine c_seq ?_
    refine c_region ?_
    refine s_call (en_f rfl Try.call16) (awake_spec W _) rfl rfl rfl (fun _ => ?_)
    refine s_y (y_assign rfl) rfl rfl rfl ?_
    refine s_nil ?_
    refine f_then ?_
    refine c_ret ?_
    refine f_thenR ?_
    exact f_ret () (res1 rfl rfl) (fun w h => h.any)
  obtain ⟨n, s, t, rfl, rfl, rfl⟩ := hN.nats
  have h_n := hN.hn
  have hm1 := Int.emod_nonneg by_ hz
  have hm2 := Int.emod_lt_of_pos by_ (show (0 : Int) < na by omega)
  obtain ⟨k, hk⟩ : ∃ k : Nat, by_ % (na : Int) = k := ⟨(by_ % (na : Int)).toNat, by omega⟩
  have hkn : k < na := by omega
  refine c_seq ?_
  refine c_region ?_
  refine s_do (do_box rfl) rfl rfl rfl (fun b3 => ?_)
  refine s_y (y_assign rfl) rfl rfl rfl ?_
  refine s_nil ?_
  refine f_then ?_
  refine c_seq ?_
  refine c_seq ?_
  refine c_region ?_
  refine s_y (y_loadA Try.tab rfl rfl rfl rfl (cells_row0 0 rfl rfl)) rfl rfl rfl ?_
  refine s_call (en_f rfl Try.call15) (few_yes hfew W _ s t pa ca) rfl rfl rfl (fun _ => ?_)
  refine s_y (y_notT rfl) rfl rfl rfl ?_
  refine s_y (y_move rfl) rfl rfl rfl ?_
  refine s_y (y_loadA Try.tab rfl rfl rfl rfl (cells_row0 0 rfl rfl)) rfl rfl rfl ?_
  refine s_call (en_f rfl Try.call18) (nv_yes hN W _ (.slice pa _ ca) (hA.any _) (by omega)) rfl rfl rfl (fun _ => ?_)
  refine s_y (y_notT rfl) rfl rfl rfl ?_
  refine s_y (y_pickF rfl rfl) rfl rfl rfl ?_
  refine s_y (y_move rfl) rfl rfl rfl ?_
  refine s_y (y_move rfl) rfl rfl rfl ?_
  refine s_y (y_F (y_lss rfl rfl) (by assumption)) rfl rfl rfl ?_
  refine s_y (y_pickF rfl rfl) rfl rfl rfl ?_
  refine s_y (y_move rfl) rfl rfl rfl ?_
  refine s_y (y_move rfl) rfl rfl rfl ?_
  refine s_y (y_F (y_lss rfl rfl) (by assumption)) rfl rfl rfl ?_
  refine s_y (y_pickF rfl rfl) rfl rfl rfl ?_
  refine s_y (y_move rfl) rfl rfl rfl ?_
  refine s_y (y_fieldAddrB Try.tab 1 rfl rfl rfl rfl rfl) rfl rfl rfl ?_
  refine s_y (y_load Try.tab rfl rfl (cell_row 0 rfl rfl)) rfl rfl rfl ?_
  refine s_y (y_len Try.tab rfl rfl) rfl rfl rfl ?_
  refine s_y (y_F (y_eql rfl rfl) (by assumption)) rfl rfl rfl ?_
  refine s_y (y_pickF rfl rfl) rfl rfl rfl ?_
  refine s_nil ?_
  refine f_then ?_
  refine c_condF rfl ?_
  refine c_skip ?_
  refine f_then ?_
  refine c_seq ?_
  refine c_region ?_
  refine s_y (y_move rfl) rfl rfl rfl ?_
  refine s_y (y_fieldAddrB Try.tab 1 rfl rfl rfl rfl rfl) rfl rfl rfl ?_
  refine s_y (y_load Try.tab rfl rfl (cell_row 0 rfl rfl)) rfl rfl rfl ?_
  refine s_y (y_len Try.tab rfl rfl) rfl rfl rfl ?_
  refine s_y (y_rem rfl rfl (by omega)) rfl rfl rfl ?_
  refine s_y (y_assign rfl) rfl rfl rfl ?_
  refine s_nil ?_
  refine f_then ?_
  refine c_seq ?_
  rw [hk]
  refine c_free [] ((K W [[(b3, row 24 [.int .i64 n, .slice pa na ca, .int .i64 s, .int .i64 t])]])) Try.mixed (by kernel_rfl) K.cl ?_
  refine l_c 1 rfl (by kernel_rfl) (Qui.ylds (y_fieldAddrB Try.tab 1 rfl rfl rfl rfl rfl)) rfl rfl rfl (fun _ h => h) K.cl ?_
  refine l_c 2 rfl (by kernel_rfl) (Qui.ylds (y_load Try.tab rfl rfl (cell_row 0 rfl rfl))) rfl rfl rfl (fun _ h => h) K.cl ?_
  refine l_c 3 rfl (by kernel_rfl) (Qui.ylds (y_move rfl)) rfl rfl rfl (fun _ h => h) K.cl ?_
  refine l_c 4 rfl (by kernel_rfl) (Qui.ylds (y_sliceFrom Try.tab rfl rfl rfl rfl rfl (by omega) (by omega))) rfl rfl rfl (fun _ h => h) K.cl ?_
  refine l_c 6 rfl (by kernel_rfl) (Qui.ylds (y_fieldAddrB Try.tab 1 rfl rfl rfl rfl rfl)) rfl rfl rfl (fun _ h => h) K.cl ?_
  refine l_c 7 rfl (by kernel_rfl) (Qui.ylds (y_load Try.tab rfl rfl (cell_row 0 rfl rfl))) rfl rfl rfl (fun _ h => h) K.cl ?_
  refine l_c 8 rfl (by kernel_rfl) (Qui.ylds (y_move rfl)) rfl rfl rfl (fun _ h => h) K.cl ?_
  refine l_c 9 rfl (by kernel_rfl) (Qui.ylds (y_sliceTo Try.tab rfl rfl rfl rfl rfl (by omega))) rfl rfl rfl (fun _ h => h) K.cl ?_
  refine l_s 0 rfl (by kernel_rfl) (do_buildSliceS Try.tab ⟨rfl, rfl, rfl, rfl⟩ rfl rfl rfl rfl) rfl rfl rfl (fun _ => K.cl) (fun _ _ _ h => h.tail) (fun b46 => ?_)
  refine l_s 5 rfl (by kernel_rfl) (do_appendE (s := 4) (b := b46) (k := na - k) (by_ := 32) Try.tab 0 rfl rfl (SlV.from (hA.any _) (by omega)) ⟨rfl, rfl, rfl, rfl⟩ rfl rfl (fun i j => by unfold ag; split <;> rfl) (by unfold maxLen; omega) (by omega)) rfl rfl rfl (fun _ => K.cl) (fun _ _ _ h => h.tail) (fun o => ?_)
  obtain ⟨o, ho, hpre⟩ := o
  dsimp only
  refine l_s 10 rfl (by kernel_rfl) (do_appendV (s := 4) (m := na - k) (k := k) (by_ := 32) Try.tab 0 rfl rfl (SlV.to (hA.any _) (by omega)) ⟨rfl, rfl, rfl, rfl⟩ rfl rfl ho (fun i j => by unfold ag; split <;> rfl) (by unfold maxLen; omega) (by omega)) rfl rfl rfl (fun _ => K.cl) (fun _ _ _ h => h.tail) (fun o2 => ?_)
  obtain ⟨o2, ho2, hpre2⟩ := o2
  dsimp only
  have hsum : na - k + k = na := by omega
  rw [turned_vw (na := na) (k := k) (A := A) (by omega), hsum] at ho2
  rw [turned_vw (na := na) (k := k) (A := A) (by omega), hsum]
  have hT : Turn na k A (turned na k A) := turned_turn (by omega)
  have hN' := hT.net hN
  refine l_c 11 rfl (by kernel_rfl) (Qui.ylds (y_assign rfl)) rfl rfl rfl (fun _ h => h.tail) K.cl ?_
  refine l_nil (by kernel_rfl) ?_
  refine f_then ?_
  refine c_seq ?_
  refine c_region ?_
  refine s_y (y_fieldAddr0 Try.tab rfl rfl rfl rfl rfl) rfl rfl rfl ?_
  refine s_y (y_load Try.tab rfl rfl (cell_row 1 rfl rfl)) rfl rfl rfl ?_
  refine s_y (y_fieldAddrB Try.tab 1 rfl rfl rfl rfl rfl) rfl rfl rfl ?_
  refine s_y (y_load Try.tab rfl rfl (cell_row 1 rfl rfl)) rfl rfl rfl ?_
  refine s_y (y_fieldAddrB Try.tab 2 rfl rfl rfl rfl rfl) rfl rfl rfl ?_
  refine s_y (y_load Try.tab rfl rfl (cell_row 1 rfl rfl)) rfl rfl rfl ?_
  refine s_y (y_fieldAddrB Try.tab 3 rfl rfl rfl rfl rfl) rfl rfl rfl ?_
  refine s_y (y_load Try.tab rfl rfl (cell_row 1 rfl rfl)) rfl rfl rfl ?_
  refine s_y (y_move rfl) rfl rfl rfl ?_
  refine s_call (en_f rfl Try.call17) (solve_spec2 W _ n na s t want (.slice pa na ca) A (hA.any _) hN (by omega) (by omega)) rfl rfl rfl (fun x => ?_)
  obtain ⟨v1, f1, p1, po1, co1, c1, bh1, hS1, hF1⟩ := x
  dsimp only
  refine St.cls ?_ (fun w h => K.tail (K.tail h))
  refine s_y (y_move rfl) rfl rfl rfl ?_
  refine s_y (y_extract rfl rfl) rfl rfl rfl ?_
  refine s_y (y_extract rfl rfl) rfl rfl rfl ?_
  refine s_do (do_alloc Try.tab rfl) rfl rfl rfl (fun b8 => ?_)
  refine s_set (set_box Try.tab 0 rfl rfl rfl rfl rfl rfl rfl) rfl rfl ?_
  refine s_y (y_assign rfl) rfl rfl rfl ?_
  refine s_nil ?_
  refine f_then ?_
  refine c_seq ?_
  refine c_region ?_
  refine s_y (y_fieldAddr0 Try.tab rfl rfl rfl rfl rfl) rfl rfl rfl ?_
  refine s_y (y_load Try.tab rfl rfl (cell_row 2 rfl rfl)) rfl rfl rfl ?_
  refine s_y (y_move rfl) rfl rfl rfl ?_
  refine s_y (y_fieldAddrB Try.tab 2 rfl rfl rfl rfl rfl) rfl rfl rfl ?_
  refine s_y (y_load Try.tab rfl rfl (cell_row 2 rfl rfl)) rfl rfl rfl ?_
  refine s_y (y_fieldAddrB Try.tab 3 rfl rfl rfl rfl rfl) rfl rfl rfl ?_
  refine s_y (y_load Try.tab rfl rfl (cell_row 2 rfl rfl)) rfl rfl rfl ?_
  refine s_y (y_move rfl) rfl rfl rfl ?_
  refine s_call (en_f rfl Try.call17) (solve_spec2 W _ n na s t want (osl o2 na) (turned na k A) (SlV.vw 1 rfl ho2) hN' (by omega) (by omega)) rfl rfl rfl (fun x => ?_)
  obtain ⟨v2, f2, p2, po2, co2, c2, bh2, hS2, hF2⟩ := x
  dsimp only
  refine St.cls ?_ (fun w h => K.tail (K.tail h))
  obtain ⟨ev, hcost⟩ := hT.solve (by omega) hN hS1 hS2
  subst ev
  refine s_y (y_move rfl) rfl rfl rfl ?_
  refine s_y (y_extract rfl rfl) rfl rfl rfl ?_
  refine s_y (y_extract rfl rfl) rfl rfl rfl ?_
  refine s_do (do_alloc Try.tab rfl) rfl rfl rfl (fun b10 => ?_)
  refine s_set (set_box Try.tab 0 rfl rfl rfl rfl rfl rfl rfl) rfl rfl ?_
  refine s_y (y_assign rfl) rfl rfl rfl ?_
  refine s_nil ?_
  refine f_then ?_
  refine c_seq ?_
  refine c_region ?_
  refine s_y (y_fieldAddr0 Try.tab rfl rfl rfl rfl rfl) rfl rfl rfl ?_
  refine s_y (y_load Try.tab rfl rfl (cell_row 3 rfl rfl)) rfl rfl rfl ?_
  refine s_y (y_fieldAddrB Try.tab 1 rfl rfl rfl rfl rfl) rfl rfl rfl ?_
  refine s_y (y_load Try.tab rfl rfl (cell_row 3 rfl rfl)) rfl rfl rfl ?_
  refine s_y (y_fieldAddrB Try.tab 2 rfl rfl rfl rfl rfl) rfl rfl rfl ?_
  refine s_y (y_load Try.tab rfl rfl (cell_row 3 rfl rfl)) rfl rfl rfl ?_
  refine s_y (y_fieldAddrB Try.tab 3 rfl rfl rfl rfl rfl) rfl rfl rfl ?_
  refine s_y (y_load Try.tab rfl rfl (cell_row 3 rfl rfl)) rfl rfl rfl ?_
  refine s_call (en_f rfl Try.call29) (cut_spec W _ n na s t (.slice pa na ca) A (hA.any _) hN) rfl rfl rfl (fun x => ?_)
  obtain ⟨⟨u1, y1, g1, bg1⟩, hC1⟩ := x
  dsimp only at hC1 ⊢
  refine s_y (y_move rfl) rfl rfl rfl ?_
  refine s_y (y_extract rfl rfl) rfl rfl rfl ?_
  refine s_y (y_extract rfl rfl) rfl rfl rfl ?_
  refine s_y (y_extract rfl rfl) rfl rfl rfl ?_
  refine s_y (y_assign rfl) rfl rfl rfl ?_
  refine s_y (y_assign rfl) rfl rfl rfl ?_
  refine s_y (y_assign rfl) rfl rfl rfl ?_
  refine s_nil ?_
  refine f_then ?_
  refine c_seq ?_
  refine c_region ?_
  refine s_y (y_fieldAddr0 Try.tab rfl rfl rfl rfl rfl) rfl rfl rfl ?_
  refine s_y (y_load Try.tab rfl rfl (cell_row 4 rfl rfl)) rfl rfl rfl ?_
  refine s_y (y_move rfl) rfl rfl rfl ?_
  refine s_y (y_fieldAddrB Try.tab 2 rfl rfl rfl rfl rfl) rfl rfl rfl ?_
  refine s_y (y_load Try.tab rfl rfl (cell_row 4 rfl rfl)) rfl rfl rfl ?_
  refine s_y (y_fieldAddrB Try.tab 3 rfl rfl rfl rfl rfl) rfl rfl rfl ?_
  refine s_y (y_load Try.tab rfl rfl (cell_row 4 rfl rfl)) rfl rfl rfl ?_
  refine s_call (en_f rfl Try.call29) (cut_spec W _ n na s t (osl o2 na) (turned na k A) (SlV.vw 3 rfl ho2) hN') rfl rfl rfl (fun x => ?_)
  obtain ⟨⟨u2, y2, g2, bg2⟩, hC2⟩ := x
  dsimp only at hC2 ⊢
  obtain ⟨eu, hg⟩ := hT.cut (by omega) hN hC1 hC2
  subst eu
  have hw1 : ∀ i, i < n → g1 i = true → g2 i = true := fun i _ h => by rw [← hg i]; exact h
  have hw2 : ∀ i, i < n → g2 i = true → g1 i = true := fun i _ h => by rw [hg i]; exact h
  refine s_y (y_move rfl) rfl rfl rfl ?_
  refine s_y (y_extract rfl rfl) rfl rfl rfl ?_
  refine s_y (y_extract rfl rfl) rfl rfl rfl ?_
  refine s_y (y_extract rfl rfl) rfl rfl rfl ?_
  refine s_y (y_assign rfl) rfl rfl rfl ?_
  refine s_y (y_assign rfl) rfl rfl rfl ?_
  refine s_y (y_assign rfl) rfl rfl rfl ?_
  refine s_nil ?_
  refine f_then ?_
  refine c_seq ?_
  refine c_region ?_
  refine s_y (y_move rfl) rfl rfl rfl ?_
  refine s_y (y_T (y_eql rfl rfl) (by omega)) rfl rfl rfl ?_
  refine s_y (y_move rfl) rfl rfl rfl ?_
  refine s_y (y_move rfl) rfl rfl rfl ?_
  refine s_y (y_T (y_eql rfl rfl) (by omega)) rfl rfl rfl ?_
  refine s_y (y_pickT rfl rfl) rfl rfl rfl ?_
  refine s_y (y_move rfl) rfl rfl rfl ?_
  refine s_y (y_move rfl) rfl rfl rfl ?_
  refine s_y (y_T (y_eql rfl rfl) (by omega)) rfl rfl rfl ?_
  refine s_y (y_pickT rfl rfl) rfl rfl rfl ?_
  refine s_y (y_move rfl) rfl rfl rfl ?_
  refine s_y (y_move rfl) rfl rfl rfl ?_
  refine s_y (y_T (y_eql rfl rfl) (by omega)) rfl rfl rfl ?_
  refine s_y (y_pickT rfl rfl) rfl rfl rfl ?_
  refine s_y (y_move rfl) rfl rfl rfl ?_
  refine s_y (y_fieldAddr0 Try.tab rfl rfl rfl rfl rfl) rfl rfl rfl ?_
  refine s_y (y_load Try.tab rfl rfl (cell_row 3 rfl rfl)) rfl rfl rfl ?_
  refine s_y (y_fieldAddr0 Try.tab rfl rfl rfl rfl rfl) rfl rfl rfl ?_
  refine s_y (y_load Try.tab rfl rfl (cell_row 2 rfl rfl)) rfl rfl rfl ?_
  refine s_y (y_T (y_eql rfl rfl) (by omega)) rfl rfl rfl ?_
  refine s_y (y_pickT rfl rfl) rfl rfl rfl ?_
  refine s_y (y_move rfl) rfl rfl rfl ?_
  refine s_y (y_fieldAddrB Try.tab 1 rfl rfl rfl rfl rfl) rfl rfl rfl ?_
  refine s_y (y_load Try.tab rfl rfl (cell_row 3 rfl rfl)) rfl rfl rfl ?_
  refine s_y (y_fieldAddrB Try.tab 1 rfl rfl rfl rfl rfl) rfl rfl rfl ?_
  refine s_y (y_load Try.tab rfl rfl (cell_row 2 rfl rfl)) rfl rfl rfl ?_
  refine s_y (y_T (y_eql rfl rfl) (by assumption)) rfl rfl rfl ?_
  refine s_y (y_pickT rfl rfl) rfl rfl rfl ?_
  refine s_y (y_move rfl) rfl rfl rfl ?_
  refine s_y (y_move rfl) rfl rfl rfl ?_
  refine s_y (y_move rfl) rfl rfl rfl ?_
  refine s_y (y_T (y_eql rfl rfl) (by omega)) rfl rfl rfl ?_
  refine s_y (y_pickT rfl rfl) rfl rfl rfl ?_
  refine s_y (y_move rfl) rfl rfl rfl ?_
  refine s_y (y_move rfl) rfl rfl rfl ?_
  refine s_y (y_len Try.tab rfl rfl) rfl rfl rfl ?_
  refine s_y (y_move rfl) rfl rfl rfl ?_
  refine s_y (y_len Try.tab rfl rfl) rfl rfl rfl ?_
  refine s_y (y_T (y_eql rfl rfl) (by omega)) rfl rfl rfl ?_
  refine s_y (y_pickT rfl rfl) rfl rfl rfl ?_
  refine s_y (y_move rfl) rfl rfl rfl ?_
  refine s_y (y_move rfl) rfl rfl rfl ?_
  refine s_y (y_move rfl) rfl rfl rfl ?_
  refine s_call (en_f rfl Try.call25) (rwithin_yes hw1 W _ (.slice (some ⟨bg1, 0, none⟩) n n) (.slice (some ⟨bg2, 0, none⟩) n n) (SlB.own 1 rfl) (SlB.own 0 rfl) (Nat.le_refl _) (by omega)) rfl rfl rfl (fun _ => ?_)
  refine s_y (y_pickT rfl rfl) rfl rfl rfl ?_
  refine s_y (y_move rfl) rfl rfl rfl ?_
  refine s_y (y_move rfl) rfl rfl rfl ?_
  refine s_y (y_move rfl) rfl rfl rfl ?_
  refine s_call (en_f rfl Try.call25) (rwithin_yes hw2 W _ (.slice (some ⟨bg2, 0, none⟩) n n) (.slice (some ⟨bg1, 0, none⟩) n n) (SlB.own 0 rfl) (SlB.own 1 rfl) (Nat.le_refl _) (by omega)) rfl rfl rfl (fun _ => ?_)
  refine s_y (y_pickT rfl rfl) rfl rfl rfl ?_
  refine s_y (y_move rfl) rfl rfl rfl ?_
  refine s_call (en_f rfl Try.call16) (awake_spec W _) rfl rfl rfl (fun _ => ?_)
  refine s_y (y_pickT rfl rfl) rfl rfl rfl ?_
  refine s_y (y_assign rfl) rfl rfl rfl ?_
  refine s_nil ?_
  refine f_then ?_
  refine c_ret ?_
  exact f_ret () (res1 rfl rfl) (fun w h => h.any)
end Go.KL
end

section
/- FlowOrder: for every input the law returns true, and its arguments read as they did. No condition. -/
namespace Go.Proofs.Ytbeckcilglhkbaa
open Go.ChangeShapes Go.WideShapes Go.RowKit Go.KL
set_option linter.unusedVariables false
theorem own : ownKnob Try.prog.godebug = none := by kernel_rfl
set_option maxRecDepth 100000 in
theorem flowOrder_lifted (os : Os) (started : os.Started) (H : Type) (enc : TypeId × Value → H) :
    ReturnsInHanded {} Try.checked os 9 .any (Rows.flowOrderSpec.pre6 enc Try.prog Try.f9 Rows.flowOrderRow.domain false) (Rows.flowOrderSpec.post enc Try.prog Try.f9 false true false false) := by
  refine returnsInHanded_of_change (C := Try.checked) own started (by kernel_rfl) Try.func9
    (ChangeSpec.witness6 (enc := enc) (C := Try.checked) false ⟨#[], #[.agg #[.int .i64 0, .slice none 0 0, .int .i64 0, .int .i64 0], .int .i64 0, .int .i64 0], []⟩ 8 (by kernel_rfl) (by kernel_rfl) (by kernel_rfl) (by kernel_rfl)) ?_
  intro W base args ds gs before hval hW hcnd _
  obtain ⟨p, q, hA, hV, rfl, hfz, hnd⟩ := id hW
  obtain ⟨rfl, rfl⟩ := trodVars_none hV
  obtain ⟨v0, vs0, d0, ds0, p0, q0, e0, rfl, rfl, h0, r0⟩ := trodAll_cons hA
  obtain ⟨v1, vs1, d1, ds1, p1, q1, rfl, rfl, rfl, h1, r1⟩ := trodAll_cons r0
  obtain ⟨v2, vs2, d2, ds2, p2, q2, rfl, rfl, rfl, h2, r2⟩ := trodAll_cons r1
  obtain ⟨rfl, rfl, rfl⟩ := trodAll_nil r2
  obtain rfl : args = #[v0, v1, v2] := by cases args; simp_all
  obtain ⟨n0 , s0, t0, va0, na0, A0, rfl, hA0, hna0, hn0, hs0, ht0, hAb0⟩ := arg24 (hval 0 24 _ rfl rfl) h0
  obtain ⟨k1, rfl, hk1⟩ := arg3 (hval 1 3 _ rfl rfl) h1
  obtain ⟨k2, rfl, hk2⟩ := arg3 (hval 2 3 _ rfl rfl) h2
  refine ((flowOrder_walk W n0 s0 t0 k1 k2 va0 na0 A0 hA0 hk1.2 hk2.2) W (K.refl W)).mono ?_
  rintro e W' ⟨x, rfl, hk⟩
  exact ⟨_, rfl, law_post (t := 4) laidOut (by decide +kernel) rfl rfl u4 hW rfl hk.toExt⟩
/-- The statement. -/
theorem flowOrder_holds : Rows.FlowOrderSaid :=
  OpenClaim.holds_of_wide 9 Try.f9 rfl rfl rfl rfl rfl rfl rfl ⟨rfl, rfl, rfl, rfl, rfl⟩ rfl rfl rfl rfl rfl (by kernel_rfl) Try.func9 (by kernel_rfl)
    (of_decide_eq_true (by kernel_rfl)) (by unfold Func.isWrapper; first | (rw [if_pos (by decide +kernel)]; kernel_rfl) | (rw [if_neg (by decide +kernel)]; exact ⟨rfl, rfl⟩))
    (fun os started H enc _ => flowOrder_lifted os started H enc)
end Go.Proofs.Ytbeckcilglhkbaa
end
