/- The library of the proof, part 2: a program logic over the model, walks of functions, plain laws. -/
import Derived.Test.YtalmnckijegplaaL1
section
/- Plain lemmas: what a search that sends along admissible links keeps. No program in sight. -/
namespace Go.KL
/-- Sums over the numbers below n. -/
def sm : Nat → (Nat → Int) → Int
  | 0, _ => 0
  | n + 1, f => sm n f + f n
theorem sm_congr (n : Nat) (f g : Nat → Int) (h : ∀ i, i < n → f i = g i) : sm n f = sm n g := by
  induction n with
  | zero => rfl
  | succ n ih => simp only [sm, h n (by omega), ih fun i hi => h i (by omega)]
theorem sm_add (n : Nat) (f g : Nat → Int) : sm n (fun i => f i + g i) = sm n f + sm n g := by
  induction n with
  | zero => rfl
  | succ n ih => simp only [sm, ih]; omega
theorem sm_one (n k : Nat) (x : Int) (hk : k < n) : sm n (fun i => if i = k then x else 0) = x := by
  induction n with
  | zero => omega
  | succ n ih =>
    simp only [sm]
    by_cases h : n = k
    · subst h
      rw [sm_congr n _ (fun _ => 0) fun i hi => by rw [if_neg (by omega)]]
      have : sm n (fun _ => 0) = 0 := by clear ih hk; induction n with | zero => rfl | succ n ih => simp [sm, ih]
      simp [this]
    · rw [ih (by omega), if_neg h]; omega

/-- The graph of the links: each has a partner that leads back. -/
structure PG (n m : Nat) (outs : Nat → List Nat) (to tl par : Nat → Nat) (cost : Nat → Int) : Prop where
  head : ∀ k, k < m → to k < n
  len : ∀ v, v < n → (outs v).length ≤ m
  par_lt : ∀ k, k < m → par k < m
  par_par : ∀ k, par (par k) = k
  par_ne : ∀ k, par k ≠ k
  tl_eq : ∀ k, tl k = to (par k)
  out_iff : ∀ v, v < n → ∀ k, k ∈ outs v ↔ (k < m ∧ tl k = v)
  cost_par : ∀ k, cost (par k) = - cost k

section
variable {n m : Nat} {outs : Nat → List Nat} {to tl par : Nat → Nat} {cost high : Nat → Int} {lev : Nat → Int} {t : Nat}
theorem PG.tl_par (h : PG n m outs to tl par cost) (k : Nat) : tl (par k) = to k := by rw [h.tl_eq, h.par_par]
theorem PG.tl_lt (h : PG n m outs to tl par cost) {k : Nat} (hk : k < m) : tl k < n := by rw [h.tl_eq]; exact h.head _ (h.par_lt k hk)
def red (tl to : Nat → Nat) (cost high : Nat → Int) (k : Nat) : Int := cost k + high (tl k) - high (to k)
theorem PG.red_par (h : PG n m outs to tl par cost) (k : Nat) : red tl to cost high (par k) = - red tl to cost high k := by
  unfold red; rw [h.cost_par, h.tl_par, h.tl_eq k]; omega
/-- What leaves a node, by the rooms. -/
def outflow (m : Nat) (tl : Nat → Nat) (room : Nat → Int) (u : Nat) : Int := sm m fun k => if tl k = u then room k else 0
/-- x is sent along link k. -/
def along (par : Nat → Nat) (room : Nat → Int) (k : Nat) (x : Int) : Nat → Int := upd (upd room k (room k - x)) (par k) (room (par k) + x)
theorem along_self (h : PG n m outs to tl par cost) (room : Nat → Int) (k : Nat) (x : Int) : along par room k x k = room k - x := by
  unfold along; rw [upd_ne _ _ (fun e => h.par_ne k e.symm), upd_same]
theorem along_par (room : Nat → Int) (k : Nat) (x : Int) : along par room k x (par k) = room (par k) + x := by unfold along; rw [upd_same]
theorem along_ne (room : Nat → Int) {k j : Nat} (x : Int) (h1 : j ≠ k) (h2 : j ≠ par k) : along par room k x j = room j := by unfold along; rw [upd_ne _ _ h2, upd_ne _ _ h1]
theorem along_zero (room : Nat → Int) (k : Nat) : along par room k 0 = room := by
  funext j; unfold along upd; split
  · rename_i h; subst h; omega
  · split
    · rename_i h; subst h; omega
    · rfl
theorem outflow_along (h : PG n m outs to tl par cost) (room : Nat → Int) {k : Nat} (hk : k < m) (x : Int) (u : Nat) :
    outflow m tl (along par room k x) u = outflow m tl room u - (if tl k = u then x else 0) + (if to k = u then x else 0) := by
  have h1 : outflow m tl (along par room k x) u = sm m (fun j => (if tl j = u then room j else 0) + ((if j = k then (if tl k = u then -x else 0) else 0) + (if j = par k then (if to k = u then x else 0) else 0))) := by
    unfold outflow
    refine sm_congr _ _ _ fun j _ => ?_
    have hpk : par k ≠ k := h.par_ne k
    by_cases h1 : j = k
    · subst h1
      rw [along_self h]
      simp only [eq_self, if_true, if_neg (show ¬ (j = par j) from fun e => hpk e.symm)]
      split <;> omega
    · by_cases h2 : j = par k
      · subst h2
        rw [along_par, h.tl_par]
        simp only [eq_self, if_true, if_neg h1]
        split <;> omega
      · rw [along_ne _ _ h1 h2]
        simp only [if_neg h1, if_neg h2]
        split <;> omega
  rw [h1, sm_add, sm_add, sm_one _ _ _ hk, sm_one _ _ _ (h.par_lt k hk)]
  unfold outflow
  split <;> split <;> omega

/-- What a search from v that sent so much has done to the rooms. -/
structure Sent (m : Nat) (to tl par : Nat → Nat) (cost high lev : Nat → Int) (t v : Nat) (most : Int) (room room' : Nat → Int) (sent : Int) : Prop where
  lo : 0 ≤ sent
  hi : sent ≤ most
  nonneg : ∀ k, k < m → 0 ≤ room' k
  pair : ∀ k, k < m → room' k + room' (par k) = room k + room (par k)
  same : ∀ k, room' k ≠ room k → k < m ∧ red tl to cost high k = 0 ∧ lev v ≤ lev (tl k) ∧ lev v ≤ lev (to k)
  bal : ∀ u, outflow m tl room' u = outflow m tl room u - (if v = u then sent else 0) + (if t = u then sent else 0)
  nothing : sent = 0 → room' = room

theorem Sent.none {v : Nat} {most : Int} {room : Nat → Int} (h0 : 0 ≤ most) (hr : ∀ k, k < m → 0 ≤ room k) : Sent m to tl par cost high lev t v most room room 0 :=
  ⟨by omega, h0, hr, fun _ _ => rfl, fun k hk => absurd rfl hk, fun u => by split <;> split <;> omega, fun _ => rfl⟩
/-- At t all is sent at once: nothing changes but what is said. -/
theorem Sent.atT {most : Int} {room : Nat → Int} (h0 : 0 ≤ most) (hr : ∀ k, k < m → 0 ≤ room k) : Sent m to tl par cost high lev t t most room room most :=
  ⟨h0, by omega, hr, fun _ _ => rfl, fun k hk => absurd rfl hk, fun u => by split <;> omega, fun _ => rfl⟩
/-- A link more. -/
theorem Sent.step (h : PG n m outs to tl par cost) {v k : Nat} {most x got : Int} {room room1 room2 : Nat → Int} {sent : Int} (h1 : Sent m to tl par cost high lev t v most room room1 sent)
    (hk : k < m) (htl : tl k = v) (hlev : lev (to k) = lev v + 1) (hred : red tl to cost high k = 0) (hx1 : x ≤ most - sent) (hx2 : x ≤ room1 k)
    (h2 : Sent m to tl par cost high lev t (to k) x room1 room2 got) : Sent m to tl par cost high lev t v most room (along par room2 k got) (sent + got) := by
  have hk2 : room2 k = room1 k := by
    by_cases e : room2 k = room1 k
    · exact e
    · have := (h2.same k e).2.2.1
      rw [htl] at this; omega
  have hp2 : room2 (par k) = room1 (par k) := by
    by_cases e : room2 (par k) = room1 (par k)
    · exact e
    · have := (h2.same _ e).2.2.2
      rw [← h.tl_eq, htl] at this; omega
  have q1 := h2.lo
  have q2 := h2.hi
  have q3 := h1.lo
  refine ⟨by omega, by omega, ?_, ?_, ?_, ?_, ?_⟩
  · intro j hj
    by_cases e1 : j = k
    · subst e1; rw [along_self h]; omega
    · by_cases e2 : j = par k
      · subst e2; rw [along_par]; have := h2.nonneg _ hj; omega
      · rw [along_ne _ _ e1 e2]; exact h2.nonneg j hj
  · intro j hj
    have a1 := h1.pair j hj
    have a2 := h2.pair j hj
    by_cases e1 : j = k
    · subst e1; rw [along_self h, along_par]; omega
    · by_cases e2 : j = par k
      · subst e2; rw [along_par, h.par_par, along_self h]; rw [h.par_par] at a1 a2; omega
      · rw [along_ne _ _ e1 e2, along_ne _ _ (fun e => e2 (by rw [← e, h.par_par])) (fun e => e1 (by have := congrArg par e; rwa [h.par_par, h.par_par] at this))]
        omega
  · intro j hj
    by_cases e1 : j = k
    · subst e1; exact ⟨hk, hred, by rw [htl]; omega, by omega⟩
    · by_cases e2 : j = par k
      · subst e2
        refine ⟨h.par_lt k hk, by rw [h.red_par, hred]; rfl, by rw [h.tl_par]; omega, by rw [← h.tl_eq, htl]; omega⟩
      · rw [along_ne _ _ e1 e2] at hj
        by_cases e3 : room2 j = room1 j
        · rw [e3] at hj; exact h1.same j hj
        · obtain ⟨b1, b2, b3, b4⟩ := h2.same j e3
          exact ⟨b1, b2, by omega, by omega⟩
  · intro u
    rw [outflow_along h _ hk, h2.bal u, h1.bal u, htl]
    by_cases c1 : v = u <;> by_cases c2 : t = u <;> by_cases c3 : to k = u <;> simp only [c1, c2, c3, if_true, if_false] <;> omega
  · intro h0
    have g0 : got = 0 := by omega
    have s0 : sent = 0 := by omega
    rw [g0, along_zero, h2.nothing g0, h1.nothing s0]

/-! ### Progress -/
def Adm (to tl : Nat → Nat) (cost high lev : Nat → Int) (room : Nat → Int) (k : Nat) : Prop := 0 < room k ∧ lev (to k) = lev (tl k) + 1 ∧ red tl to cost high k = 0
/-- A way from a node to t along admissible links. -/
inductive Way (n : Nat) (outs : Nat → List Nat) (to tl : Nat → Nat) (cost high lev : Nat → Int) (room : Nat → Int) (t : Nat) : Nat → Prop
  | here : Way n outs to tl cost high lev room t t
  | step {v k : Nat} (hv : v < n) (hk : k ∈ outs v) (ha : Adm to tl cost high lev room k) (h : Way n outs to tl cost high lev room t (to k)) : Way n outs to tl cost high lev room t v
/-- All links that have been passed over lead nowhere. -/
def Past (n : Nat) (outs : Nat → List Nat) (to tl : Nat → Nat) (cost high lev : Nat → Int) (t : Nat) (room : Nat → Int) (nxt : Nat → Nat) : Prop :=
  ∀ u, u < n → ∀ i, i < nxt u → ∀ k, (outs u)[i]? = some k → ¬ (Adm to tl cost high lev room k ∧ Way n outs to tl cost high lev room t (to k))
theorem Past.next {room : Nat → Int} {nxt : Nat → Nat} {v k : Nat} (h : Past n outs to tl cost high lev t room nxt) (hk : (outs v)[nxt v]? = some k) (hno : ¬ (Adm to tl cost high lev room k ∧ Way n outs to tl cost high lev room t (to k))) :
    Past n outs to tl cost high lev t room (upd nxt v (nxt v + 1)) := by
  intro u hu i hi k' hk'
  by_cases e : u = v
  · subst e
    rw [upd_same] at hi
    by_cases e2 : i = nxt u
    · subst e2; rw [hk] at hk'; obtain rfl := Option.some.inj hk'; exact hno
    · exact h u hu i (by omega) k' hk'
  · rw [upd_ne _ _ e] at hi; exact h u hu i hi k' hk'
theorem Past.noWay {room : Nat → Int} {nxt : Nat → Nat} {v : Nat} (h : Past n outs to tl cost high lev t room nxt) (hv : v < n) (hlen : (outs v).length ≤ nxt v) (hvt : v ≠ t) : ¬ Way n outs to tl cost high lev room t v := by
  intro hw
  cases hw with
  | here => exact hvt rfl
  | step _ hk ha hw' =>
    obtain ⟨i, hi, he⟩ := List.getElem_of_mem hk
    exact h v hv i (by omega) _ (by rw [List.getElem?_eq_getElem hi, he]) ⟨ha, hw'⟩
/-- What a search has done to the places. -/
structure Moved (lev : Nat → Int) (v : Nat) (nxt nxt' : Nat → Nat) : Prop where
  le : ∀ u, nxt u ≤ nxt' u
  same : ∀ u, nxt' u ≠ nxt u → lev v ≤ lev u
theorem Moved.refl (v : Nat) (nxt : Nat → Nat) : Moved lev v nxt nxt := ⟨fun _ => Nat.le_refl _, fun _ h => absurd rfl h⟩
theorem Moved.trans {v w : Nat} {a b c : Nat → Nat} (h1 : Moved lev v a b) (h2 : Moved lev w b c) (hl : lev v ≤ lev w) : Moved lev v a c := by
  refine ⟨fun u => Nat.le_trans (h1.le u) (h2.le u), fun u hu => ?_⟩
  by_cases e : c u = b u
  · exact h1.same u (by rw [← e]; exact hu)
  · have := h2.same u e; omega
theorem Moved.inc {v : Nat} {a b : Nat → Nat} (h1 : Moved lev v a b) : Moved lev v a (upd b v (b v + 1)) := by
  refine ⟨fun u => ?_, fun u hu => ?_⟩
  · have := h1.le u; simp only [upd]; split
    · rename_i e; subst e; omega
    · exact this
  · by_cases e : u = v
    · subst e; exact Int.le_refl _
    · rw [upd_ne _ _ e] at hu; exact h1.same u hu
end
end Go.KL
end

section
/- Plain lemmas: what filling keeps. No program in sight. -/
namespace Go.KL
section
variable {n m : Nat} {outs : Nat → List Nat} {to tl par : Nat → Nat} {cost high : Nat → Int} {s t : Nat}
/-- A link with room that costs nothing more. -/
def adm (tl to : Nat → Nat) (room cost high : Nat → Int) (k : Nat) : Prop := 0 < room k ∧ cost k + high (tl k) - high (to k) = 0
theorem LInv.way (hG : PG n m outs to tl par cost) {room level : Nat → Int} (h : LInv n s outs to (adm tl to room cost high) level) (ht : t < n) (hp : 0 < level t) : Way n outs to tl cost high level room t s := by
  have key : ∀ (j : Nat) (u : Nat), u < n → level u = (j : Int) + 1 → Way n outs to tl cost high level room t u → Way n outs to tl cost high level room t s := by
    intro j
    induction j with
    | zero =>
      intro u hu hl hw
      by_cases e : u = s
      · rw [← e]; exact hw
      · obtain ⟨v, _, h2, _, _, _, _, h6⟩ := h.par u e (by omega)
        omega
    | succ j ih =>
      intro u hu hl hw
      by_cases e : u = s
      · rw [← e]; exact hw
      · obtain ⟨v, h1, h2, k, h3, h4, h5, h6⟩ := h.par u e (by omega)
        have htk := ((hG.out_iff v h1 k).1 h3).2
        refine ih v h1 (by omega) (.step h1 h3 ⟨h4.1, by rw [h5, htk]; exact h6, h4.2⟩ (by rw [h5]; exact hw))
  obtain ⟨j, hj⟩ := Int.eq_ofNat_of_zero_le (show 0 ≤ level t - 1 by omega)
  exact key j t ht (by omega) .here

/-- What has been sent from s to t, and what it has done. -/
structure Fl (m : Nat) (to tl par : Nat → Nat) (cost high : Nat → Int) (s t : Nat) (room room' : Nat → Int) (sent : Int) : Prop where
  lo : 0 ≤ sent
  nonneg : ∀ k, k < m → 0 ≤ room' k
  pair : ∀ k, k < m → room' k + room' (par k) = room k + room (par k)
  same : ∀ k, room' k ≠ room k → k < m ∧ red tl to cost high k = 0
  bal : ∀ u, outflow m tl room' u = outflow m tl room u - (if s = u then sent else 0) + (if t = u then sent else 0)
  nothing : sent = 0 → room' = room
theorem Fl.none {room : Nat → Int} (hr : ∀ k, k < m → 0 ≤ room k) : Fl m to tl par cost high s t room room 0 :=
  ⟨Int.le_refl _, hr, fun _ _ => rfl, fun _ h => absurd rfl h, fun u => by split <;> split <;> omega, fun _ => rfl⟩
theorem Fl.step {room room1 room2 lev : Nat → Int} {sent most got : Int} (h1 : Fl m to tl par cost high s t room room1 sent) (h2 : Sent m to tl par cost high lev t s most room1 room2 got) : Fl m to tl par cost high s t room room2 (sent + got) := by
  have q1 := h1.lo
  have q2 := h2.lo
  refine ⟨by omega, h2.nonneg, fun k hk => (h2.pair k hk).trans (h1.pair k hk), ?_, ?_, ?_⟩
  · intro k hk
    by_cases e : room2 k = room1 k
    · exact h1.same k (by rw [← e]; exact hk)
    · exact ⟨(h2.same k e).1, (h2.same k e).2.1⟩
  · intro u
    rw [h2.bal u, h1.bal u]
    split <;> split <;> omega
  · intro h0
    rw [h2.nothing (by omega), h1.nothing (by omega)]
theorem Fl.trans {room room1 room2 high2 : Nat → Int} {a b : Int} (h1 : Fl m to tl par cost high s t room room1 a) (h2 : Fl m to tl par cost high2 s t room1 room2 b) :
    (∀ k, k < m → 0 ≤ room2 k) ∧ (∀ k, k < m → room2 k + room2 (par k) = room k + room (par k)) ∧ (∀ u, outflow m tl room2 u = outflow m tl room u - (if s = u then a + b else 0) + (if t = u then a + b else 0)) := by
  refine ⟨h2.nonneg, fun k hk => (h2.pair k hk).trans (h1.pair k hk), fun u => ?_⟩
  rw [h2.bal u, h1.bal u]
  split <;> split <;> omega
end
end Go.KL
end

section
/- Walks: small functions of package flow. -/
namespace Go.KL
open Go.Proofs
attribute [local irreducible] SC St Fin Sq Sw Ylds Doos Sets Enters Spec CellIs CellsAre Then Ret Rnd Chn resOK ints bools recs arr
set_option maxRecDepth 4000 in
theorem within_spec (C : World → Prop) (m lo hi : Int) : Spec Try.prog 74 #[.int .i64 m, .int .i64 lo, .int .i64 hi] C (fun _ : Unit => .bool (decide (lo ≤ m ∧ m ≤ hi))) (fun _ => C) := by
  refine enter (args := [_, _, _]) Try.func74 rfl Try.ntmps74 rfl ?_
  by_cases h1 : lo ≤ m
  · (repeat (first | refine c_seq ?_ | refine c_region ?_ | refine c_block ?_ | refine c_ret ?_ | refine c_exit ?_ | refine c_skip ?_ | refine c_label ?_ | refine c_condT rfl ?_ | refine c_condF rfl ?_ | refine s_nil ?_ | refine q_nil ?_ | refine w_nil ?_ | refine f_then ?_ | refine f_thenE ?_ | refine f_thenR ?_ | refine f_blockE ?_ | refine f_blockN ?_ | refine f_blockR ?_ | refine f_blockX rfl ?_ | refine f_rndE ?_ | refine f_rndR ?_ | refine f_cutE ?_ | refine f_cutR ?_ | refine s_skip rfl rfl rfl ?_ | refine q_skip rfl rfl rfl ?_ | refine w_skip rfl rfl rfl ?_ | refine s_skip0 rfl rfl ?_ | refine s_do (do_alloc Try.tab rfl) rfl rfl rfl (fun bx => ?_) | refine s_set (set_rowB Try.tab 0 rfl rfl rfl rfl rfl rfl) rfl rfl ?_ | refine s_set (set_box Try.tab 0 rfl rfl rfl rfl rfl rfl rfl) rfl rfl ?_ | refine s_set (set_rowB Try.tab 1 rfl rfl rfl rfl rfl rfl) rfl rfl ?_ | refine s_set (set_box Try.tab 1 rfl rfl rfl rfl rfl rfl rfl) rfl rfl ?_ | refine s_set (set_rowB Try.tab 2 rfl rfl rfl rfl rfl rfl) rfl rfl ?_ | refine s_set (set_box Try.tab 2 rfl rfl rfl rfl rfl rfl rfl) rfl rfl ?_ | refine s_set (set_rowB Try.tab 3 rfl rfl rfl rfl rfl rfl) rfl rfl ?_ | refine s_set (set_box Try.tab 3 rfl rfl rfl rfl rfl rfl rfl) rfl rfl ?_ | refine s_set (set_rowB Try.tab 4 rfl rfl rfl rfl rfl rfl) rfl rfl ?_ | refine s_set (set_box Try.tab 4 rfl rfl rfl rfl rfl rfl rfl) rfl rfl ?_ | refine s_set (set_rowB Try.tab 5 rfl rfl rfl rfl rfl rfl) rfl rfl ?_ | refine s_set (set_box Try.tab 5 rfl rfl rfl rfl rfl rfl rfl) rfl rfl ?_ | refine s_set (set_rowB Try.tab 6 rfl rfl rfl rfl rfl rfl) rfl rfl ?_ | refine s_set (set_box Try.tab 6 rfl rfl rfl rfl rfl rfl rfl) rfl rfl ?_ | refine s_y (by (first | exact y_move rfl | exact y_assign rfl | exact y_nilP rfl | exact y_fieldAddr0 Try.tab rfl rfl rfl rfl rfl | exact y_fieldAddr Try.tab rfl rfl rfl rfl | exact y_len Try.tab rfl rfl | exact y_pickT rfl rfl | exact y_pickF rfl rfl | exact y_extract rfl rfl | exact y_not rfl | exact y_T (y_lss rfl rfl) (by assumption) | exact y_F (y_lss rfl rfl) (by assumption) | exact y_lss rfl rfl | exact y_T (y_leq rfl rfl) (by assumption) | exact y_F (y_leq rfl rfl) (by assumption) | exact y_leq rfl rfl | exact y_T (y_gtr rfl rfl) (by assumption) | exact y_F (y_gtr rfl rfl) (by assumption) | exact y_gtr rfl rfl | exact y_T (y_geq rfl rfl) (by assumption) | exact y_F (y_geq rfl rfl) (by assumption) | exact y_geq rfl rfl | exact y_T (y_eql rfl rfl) (by assumption) | exact y_F (y_eql rfl rfl) (by assumption) | exact y_eql rfl rfl | exact y_T (y_neq rfl rfl) (by assumption) | exact y_F (y_neq rfl rfl) (by assumption) | exact y_neq rfl rfl | exact y_nilF rfl | exact y_field1 Try.tab rfl rfl rfl rfl rfl | exact y_fieldA Try.tab rfl rfl rfl rfl rfl | exact y_min rfl rfl | exact y_max rfl rfl | exact y_load Try.tab rfl rfl (by assumption) | exact y_load Try.tab rfl rfl (CellIs.cons (by assumption)) | exact y_load Try.tab rfl rfl (CellIs.cons (CellIs.cons (by assumption))) | exact y_loadA Try.tab rfl rfl rfl rfl (by assumption) | exact y_loadA Try.tab rfl rfl rfl rfl (CellsAre.cons (by assumption)) | exact y_load Try.tab rfl rfl (cell_row 0 rfl rfl) | exact y_load Try.tab rfl rfl (cell_row 1 rfl rfl) | exact y_load Try.tab rfl rfl (cell_row 2 rfl rfl) | exact y_load Try.tab rfl rfl (cell_row 3 rfl rfl) | exact y_load Try.tab rfl rfl (cell_row 4 rfl rfl) | exact y_load Try.tab rfl rfl (cell_row 5 rfl rfl) | exact y_load Try.tab rfl rfl (cell_row 6 rfl rfl) | exact y_add rfl rfl (by omega) | exact y_sub rfl rfl (by omega) | exact y_mul rfl rfl (by omega) | exact y_neg rfl (by omega) | exact y_indexAddr1 Try.tab rfl rfl rfl rfl _ rfl (by omega) | exact y_indexAddr0 Try.tab rfl rfl rfl rfl _ rfl (by omega) | exact y_load Try.tab rfl rfl (cell_ints 0 rfl (by omega)) | exact y_load Try.tab rfl rfl (cell_bools 0 rfl (by omega)) | exact y_load Try.tab rfl rfl (cell_ints 1 rfl (by omega)) | exact y_load Try.tab rfl rfl (cell_bools 1 rfl (by omega)) | exact y_load Try.tab rfl rfl (cell_ints 2 rfl (by omega)) | exact y_load Try.tab rfl rfl (cell_bools 2 rfl (by omega)) | exact y_load Try.tab rfl rfl (cell_ints 3 rfl (by omega)) | exact y_load Try.tab rfl rfl (cell_bools 3 rfl (by omega)) | exact y_load Try.tab rfl rfl (cell_ints 4 rfl (by omega)) | exact y_load Try.tab rfl rfl (cell_bools 4 rfl (by omega)) | exact y_load Try.tab rfl rfl (cell_ints 5 rfl (by omega)) | exact y_load Try.tab rfl rfl (cell_bools 5 rfl (by omega)) | exact y_load Try.tab rfl rfl (cell_ints 6 rfl (by omega)) | exact y_load Try.tab rfl rfl (cell_bools 6 rfl (by omega)))) rfl rfl rfl ?_ | refine q_y (by (first | exact y_move rfl | exact y_assign rfl | exact y_nilP rfl | exact y_fieldAddr0 Try.tab rfl rfl rfl rfl rfl | exact y_fieldAddr Try.tab rfl rfl rfl rfl | exact y_len Try.tab rfl rfl | exact y_pickT rfl rfl | exact y_pickF rfl rfl | exact y_extract rfl rfl | exact y_not rfl | exact y_T (y_lss rfl rfl) (by assumption) | exact y_F (y_lss rfl rfl) (by assumption) | exact y_lss rfl rfl | exact y_T (y_leq rfl rfl) (by assumption) | exact y_F (y_leq rfl rfl) (by assumption) | exact y_leq rfl rfl | exact y_T (y_gtr rfl rfl) (by assumption) | exact y_F (y_gtr rfl rfl) (by assumption) | exact y_gtr rfl rfl | exact y_T (y_geq rfl rfl) (by assumption) | exact y_F (y_geq rfl rfl) (by assumption) | exact y_geq rfl rfl | exact y_T (y_eql rfl rfl) (by assumption) | exact y_F (y_eql rfl rfl) (by assumption) | exact y_eql rfl rfl | exact y_T (y_neq rfl rfl) (by assumption) | exact y_F (y_neq rfl rfl) (by assumption) | exact y_neq rfl rfl | exact y_nilF rfl | exact y_field1 Try.tab rfl rfl rfl rfl rfl | exact y_fieldA Try.tab rfl rfl rfl rfl rfl | exact y_min rfl rfl | exact y_max rfl rfl | exact y_load Try.tab rfl rfl (by assumption) | exact y_load Try.tab rfl rfl (CellIs.cons (by assumption)) | exact y_load Try.tab rfl rfl (CellIs.cons (CellIs.cons (by assumption))) | exact y_loadA Try.tab rfl rfl rfl rfl (by assumption) | exact y_loadA Try.tab rfl rfl rfl rfl (CellsAre.cons (by assumption)) | exact y_load Try.tab rfl rfl (cell_row 0 rfl rfl) | exact y_load Try.tab rfl rfl (cell_row 1 rfl rfl) | exact y_load Try.tab rfl rfl (cell_row 2 rfl rfl) | exact y_load Try.tab rfl rfl (cell_row 3 rfl rfl) | exact y_load Try.tab rfl rfl (cell_row 4 rfl rfl) | exact y_load Try.tab rfl rfl (cell_row 5 rfl rfl) | exact y_load Try.tab rfl rfl (cell_row 6 rfl rfl) | exact y_add rfl rfl (by omega) | exact y_sub rfl rfl (by omega) | exact y_mul rfl rfl (by omega) | exact y_neg rfl (by omega) | exact y_indexAddr1 Try.tab rfl rfl rfl rfl _ rfl (by omega) | exact y_indexAddr0 Try.tab rfl rfl rfl rfl _ rfl (by omega) | exact y_load Try.tab rfl rfl (cell_ints 0 rfl (by omega)) | exact y_load Try.tab rfl rfl (cell_bools 0 rfl (by omega)) | exact y_load Try.tab rfl rfl (cell_ints 1 rfl (by omega)) | exact y_load Try.tab rfl rfl (cell_bools 1 rfl (by omega)) | exact y_load Try.tab rfl rfl (cell_ints 2 rfl (by omega)) | exact y_load Try.tab rfl rfl (cell_bools 2 rfl (by omega)) | exact y_load Try.tab rfl rfl (cell_ints 3 rfl (by omega)) | exact y_load Try.tab rfl rfl (cell_bools 3 rfl (by omega)) | exact y_load Try.tab rfl rfl (cell_ints 4 rfl (by omega)) | exact y_load Try.tab rfl rfl (cell_bools 4 rfl (by omega)) | exact y_load Try.tab rfl rfl (cell_ints 5 rfl (by omega)) | exact y_load Try.tab rfl rfl (cell_bools 5 rfl (by omega)) | exact y_load Try.tab rfl rfl (cell_ints 6 rfl (by omega)) | exact y_load Try.tab rfl rfl (cell_bools 6 rfl (by omega)))) rfl rfl rfl ?_ | refine w_y (by (first | exact y_move rfl | exact y_assign rfl | exact y_nilP rfl | exact y_fieldAddr0 Try.tab rfl rfl rfl rfl rfl | exact y_fieldAddr Try.tab rfl rfl rfl rfl | exact y_len Try.tab rfl rfl | exact y_pickT rfl rfl | exact y_pickF rfl rfl | exact y_extract rfl rfl | exact y_not rfl | exact y_T (y_lss rfl rfl) (by assumption) | exact y_F (y_lss rfl rfl) (by assumption) | exact y_lss rfl rfl | exact y_T (y_leq rfl rfl) (by assumption) | exact y_F (y_leq rfl rfl) (by assumption) | exact y_leq rfl rfl | exact y_T (y_gtr rfl rfl) (by assumption) | exact y_F (y_gtr rfl rfl) (by assumption) | exact y_gtr rfl rfl | exact y_T (y_geq rfl rfl) (by assumption) | exact y_F (y_geq rfl rfl) (by assumption) | exact y_geq rfl rfl | exact y_T (y_eql rfl rfl) (by assumption) | exact y_F (y_eql rfl rfl) (by assumption) | exact y_eql rfl rfl | exact y_T (y_neq rfl rfl) (by assumption) | exact y_F (y_neq rfl rfl) (by assumption) | exact y_neq rfl rfl | exact y_nilF rfl | exact y_field1 Try.tab rfl rfl rfl rfl rfl | exact y_fieldA Try.tab rfl rfl rfl rfl rfl | exact y_min rfl rfl | exact y_max rfl rfl | exact y_load Try.tab rfl rfl (by assumption) | exact y_load Try.tab rfl rfl (CellIs.cons (by assumption)) | exact y_load Try.tab rfl rfl (CellIs.cons (CellIs.cons (by assumption))) | exact y_loadA Try.tab rfl rfl rfl rfl (by assumption) | exact y_loadA Try.tab rfl rfl rfl rfl (CellsAre.cons (by assumption)) | exact y_load Try.tab rfl rfl (cell_row 0 rfl rfl) | exact y_load Try.tab rfl rfl (cell_row 1 rfl rfl) | exact y_load Try.tab rfl rfl (cell_row 2 rfl rfl) | exact y_load Try.tab rfl rfl (cell_row 3 rfl rfl) | exact y_load Try.tab rfl rfl (cell_row 4 rfl rfl) | exact y_load Try.tab rfl rfl (cell_row 5 rfl rfl) | exact y_load Try.tab rfl rfl (cell_row 6 rfl rfl) | exact y_add rfl rfl (by omega) | exact y_sub rfl rfl (by omega) | exact y_mul rfl rfl (by omega) | exact y_neg rfl (by omega) | exact y_indexAddr1 Try.tab rfl rfl rfl rfl _ rfl (by omega) | exact y_indexAddr0 Try.tab rfl rfl rfl rfl _ rfl (by omega) | exact y_load Try.tab rfl rfl (cell_ints 0 rfl (by omega)) | exact y_load Try.tab rfl rfl (cell_bools 0 rfl (by omega)) | exact y_load Try.tab rfl rfl (cell_ints 1 rfl (by omega)) | exact y_load Try.tab rfl rfl (cell_bools 1 rfl (by omega)) | exact y_load Try.tab rfl rfl (cell_ints 2 rfl (by omega)) | exact y_load Try.tab rfl rfl (cell_bools 2 rfl (by omega)) | exact y_load Try.tab rfl rfl (cell_ints 3 rfl (by omega)) | exact y_load Try.tab rfl rfl (cell_bools 3 rfl (by omega)) | exact y_load Try.tab rfl rfl (cell_ints 4 rfl (by omega)) | exact y_load Try.tab rfl rfl (cell_bools 4 rfl (by omega)) | exact y_load Try.tab rfl rfl (cell_ints 5 rfl (by omega)) | exact y_load Try.tab rfl rfl (cell_bools 5 rfl (by omega)) | exact y_load Try.tab rfl rfl (cell_ints 6 rfl (by omega)) | exact y_load Try.tab rfl rfl (cell_bools 6 rfl (by omega)))) rfl rfl rfl ?_))
    refine f_retE () (res1 rfl rfl) (by simp [h1]) (fun _ h => h)
  · (repeat (first | refine c_seq ?_ | refine c_region ?_ | refine c_block ?_ | refine c_ret ?_ | refine c_exit ?_ | refine c_skip ?_ | refine c_label ?_ | refine c_condT rfl ?_ | refine c_condF rfl ?_ | refine s_nil ?_ | refine q_nil ?_ | refine w_nil ?_ | refine f_then ?_ | refine f_thenE ?_ | refine f_thenR ?_ | refine f_blockE ?_ | refine f_blockN ?_ | refine f_blockR ?_ | refine f_blockX rfl ?_ | refine f_rndE ?_ | refine f_rndR ?_ | refine f_cutE ?_ | refine f_cutR ?_ | refine s_skip rfl rfl rfl ?_ | refine q_skip rfl rfl rfl ?_ | refine w_skip rfl rfl rfl ?_ | refine s_skip0 rfl rfl ?_ | refine s_do (do_alloc Try.tab rfl) rfl rfl rfl (fun bx => ?_) | refine s_set (set_rowB Try.tab 0 rfl rfl rfl rfl rfl rfl) rfl rfl ?_ | refine s_set (set_box Try.tab 0 rfl rfl rfl rfl rfl rfl rfl) rfl rfl ?_ | refine s_set (set_rowB Try.tab 1 rfl rfl rfl rfl rfl rfl) rfl rfl ?_ | refine s_set (set_box Try.tab 1 rfl rfl rfl rfl rfl rfl rfl) rfl rfl ?_ | refine s_set (set_rowB Try.tab 2 rfl rfl rfl rfl rfl rfl) rfl rfl ?_ | refine s_set (set_box Try.tab 2 rfl rfl rfl rfl rfl rfl rfl) rfl rfl ?_ | refine s_set (set_rowB Try.tab 3 rfl rfl rfl rfl rfl rfl) rfl rfl ?_ | refine s_set (set_box Try.tab 3 rfl rfl rfl rfl rfl rfl rfl) rfl rfl ?_ | refine s_set (set_rowB Try.tab 4 rfl rfl rfl rfl rfl rfl) rfl rfl ?_ | refine s_set (set_box Try.tab 4 rfl rfl rfl rfl rfl rfl rfl) rfl rfl ?_ | refine s_set (set_rowB Try.tab 5 rfl rfl rfl rfl rfl rfl) rfl rfl ?_ | refine s_set (set_box Try.tab 5 rfl rfl rfl rfl rfl rfl rfl) rfl rfl ?_ | refine s_set (set_rowB Try.tab 6 rfl rfl rfl rfl rfl rfl) rfl rfl ?_ | refine s_set (set_box Try.tab 6 rfl rfl rfl rfl rfl rfl rfl) rfl rfl ?_ | refine s_y (by (first | exact y_move rfl | exact y_assign rfl | exact y_nilP rfl | exact y_fieldAddr0 Try.tab rfl rfl rfl rfl rfl | exact y_fieldAddr Try.tab rfl rfl rfl rfl | exact y_len Try.tab rfl rfl | exact y_pickT rfl rfl | exact y_pickF rfl rfl | exact y_extract rfl rfl | exact y_not rfl | exact y_T (y_lss rfl rfl) (by assumption) | exact y_F (y_lss rfl rfl) (by assumption) | exact y_lss rfl rfl | exact y_T (y_leq rfl rfl) (by assumption) | exact y_F (y_leq rfl rfl) (by assumption) | exact y_leq rfl rfl | exact y_T (y_gtr rfl rfl) (by assumption) | exact y_F (y_gtr rfl rfl) (by assumption) | exact y_gtr rfl rfl | exact y_T (y_geq rfl rfl) (by assumption) | exact y_F (y_geq rfl rfl) (by assumption) | exact y_geq rfl rfl | exact y_T (y_eql rfl rfl) (by assumption) | exact y_F (y_eql rfl rfl) (by assumption) | exact y_eql rfl rfl | exact y_T (y_neq rfl rfl) (by assumption) | exact y_F (y_neq rfl rfl) (by assumption) | exact y_neq rfl rfl | exact y_nilF rfl | exact y_field1 Try.tab rfl rfl rfl rfl rfl | exact y_fieldA Try.tab rfl rfl rfl rfl rfl | exact y_min rfl rfl | exact y_max rfl rfl | exact y_load Try.tab rfl rfl (by assumption) | exact y_load Try.tab rfl rfl (CellIs.cons (by assumption)) | exact y_load Try.tab rfl rfl (CellIs.cons (CellIs.cons (by assumption))) | exact y_loadA Try.tab rfl rfl rfl rfl (by assumption) | exact y_loadA Try.tab rfl rfl rfl rfl (CellsAre.cons (by assumption)) | exact y_load Try.tab rfl rfl (cell_row 0 rfl rfl) | exact y_load Try.tab rfl rfl (cell_row 1 rfl rfl) | exact y_load Try.tab rfl rfl (cell_row 2 rfl rfl) | exact y_load Try.tab rfl rfl (cell_row 3 rfl rfl) | exact y_load Try.tab rfl rfl (cell_row 4 rfl rfl) | exact y_load Try.tab rfl rfl (cell_row 5 rfl rfl) | exact y_load Try.tab rfl rfl (cell_row 6 rfl rfl) | exact y_add rfl rfl (by omega) | exact y_sub rfl rfl (by omega) | exact y_mul rfl rfl (by omega) | exact y_neg rfl (by omega) | exact y_indexAddr1 Try.tab rfl rfl rfl rfl _ rfl (by omega) | exact y_indexAddr0 Try.tab rfl rfl rfl rfl _ rfl (by omega) | exact y_load Try.tab rfl rfl (cell_ints 0 rfl (by omega)) | exact y_load Try.tab rfl rfl (cell_bools 0 rfl (by omega)) | exact y_load Try.tab rfl rfl (cell_ints 1 rfl (by omega)) | exact y_load Try.tab rfl rfl (cell_bools 1 rfl (by omega)) | exact y_load Try.tab rfl rfl (cell_ints 2 rfl (by omega)) | exact y_load Try.tab rfl rfl (cell_bools 2 rfl (by omega)) | exact y_load Try.tab rfl rfl (cell_ints 3 rfl (by omega)) | exact y_load Try.tab rfl rfl (cell_bools 3 rfl (by omega)) | exact y_load Try.tab rfl rfl (cell_ints 4 rfl (by omega)) | exact y_load Try.tab rfl rfl (cell_bools 4 rfl (by omega)) | exact y_load Try.tab rfl rfl (cell_ints 5 rfl (by omega)) | exact y_load Try.tab rfl rfl (cell_bools 5 rfl (by omega)) | exact y_load Try.tab rfl rfl (cell_ints 6 rfl (by omega)) | exact y_load Try.tab rfl rfl (cell_bools 6 rfl (by omega)))) rfl rfl rfl ?_ | refine q_y (by (first | exact y_move rfl | exact y_assign rfl | exact y_nilP rfl | exact y_fieldAddr0 Try.tab rfl rfl rfl rfl rfl | exact y_fieldAddr Try.tab rfl rfl rfl rfl | exact y_len Try.tab rfl rfl | exact y_pickT rfl rfl | exact y_pickF rfl rfl | exact y_extract rfl rfl | exact y_not rfl | exact y_T (y_lss rfl rfl) (by assumption) | exact y_F (y_lss rfl rfl) (by assumption) | exact y_lss rfl rfl | exact y_T (y_leq rfl rfl) (by assumption) | exact y_F (y_leq rfl rfl) (by assumption) | exact y_leq rfl rfl | exact y_T (y_gtr rfl rfl) (by assumption) | exact y_F (y_gtr rfl rfl) (by assumption) | exact y_gtr rfl rfl | exact y_T (y_geq rfl rfl) (by assumption) | exact y_F (y_geq rfl rfl) (by assumption) | exact y_geq rfl rfl | exact y_T (y_eql rfl rfl) (by assumption) | exact y_F (y_eql rfl rfl) (by assumption) | exact y_eql rfl rfl | exact y_T (y_neq rfl rfl) (by assumption) | exact y_F (y_neq rfl rfl) (by assumption) | exact y_neq rfl rfl | exact y_nilF rfl | exact y_field1 Try.tab rfl rfl rfl rfl rfl | exact y_fieldA Try.tab rfl rfl rfl rfl rfl | exact y_min rfl rfl | exact y_max rfl rfl | exact y_load Try.tab rfl rfl (by assumption) | exact y_load Try.tab rfl rfl (CellIs.cons (by assumption)) | exact y_load Try.tab rfl rfl (CellIs.cons (CellIs.cons (by assumption))) | exact y_loadA Try.tab rfl rfl rfl rfl (by assumption) | exact y_loadA Try.tab rfl rfl rfl rfl (CellsAre.cons (by assumption)) | exact y_load Try.tab rfl rfl (cell_row 0 rfl rfl) | exact y_load Try.tab rfl rfl (cell_row 1 rfl rfl) | exact y_load Try.tab rfl rfl (cell_row 2 rfl rfl) | exact y_load Try.tab rfl rfl (cell_row 3 rfl rfl) | exact y_load Try.tab rfl rfl (cell_row 4 rfl rfl) | exact y_load Try.tab rfl rfl (cell_row 5 rfl rfl) | exact y_load Try.tab rfl rfl (cell_row 6 rfl rfl) | exact y_add rfl rfl (by omega) | exact y_sub rfl rfl (by omega) | exact y_mul rfl rfl (by omega) | exact y_neg rfl (by omega) | exact y_indexAddr1 Try.tab rfl rfl rfl rfl _ rfl (by omega) | exact y_indexAddr0 Try.tab rfl rfl rfl rfl _ rfl (by omega) | exact y_load Try.tab rfl rfl (cell_ints 0 rfl (by omega)) | exact y_load Try.tab rfl rfl (cell_bools 0 rfl (by omega)) | exact y_load Try.tab rfl rfl (cell_ints 1 rfl (by omega)) | exact y_load Try.tab rfl rfl (cell_bools 1 rfl (by omega)) | exact y_load Try.tab rfl rfl (cell_ints 2 rfl (by omega)) | exact y_load Try.tab rfl rfl (cell_bools 2 rfl (by omega)) | exact y_load Try.tab rfl rfl (cell_ints 3 rfl (by omega)) | exact y_load Try.tab rfl rfl (cell_bools 3 rfl (by omega)) | exact y_load Try.tab rfl rfl (cell_ints 4 rfl (by omega)) | exact y_load Try.tab rfl rfl (cell_bools 4 rfl (by omega)) | exact y_load Try.tab rfl rfl (cell_ints 5 rfl (by omega)) | exact y_load Try.tab rfl rfl (cell_bools 5 rfl (by omega)) | exact y_load Try.tab rfl rfl (cell_ints 6 rfl (by omega)) | exact y_load Try.tab rfl rfl (cell_bools 6 rfl (by omega)))) rfl rfl rfl ?_ | refine w_y (by (first | exact y_move rfl | exact y_assign rfl | exact y_nilP rfl | exact y_fieldAddr0 Try.tab rfl rfl rfl rfl rfl | exact y_fieldAddr Try.tab rfl rfl rfl rfl | exact y_len Try.tab rfl rfl | exact y_pickT rfl rfl | exact y_pickF rfl rfl | exact y_extract rfl rfl | exact y_not rfl | exact y_T (y_lss rfl rfl) (by assumption) | exact y_F (y_lss rfl rfl) (by assumption) | exact y_lss rfl rfl | exact y_T (y_leq rfl rfl) (by assumption) | exact y_F (y_leq rfl rfl) (by assumption) | exact y_leq rfl rfl | exact y_T (y_gtr rfl rfl) (by assumption) | exact y_F (y_gtr rfl rfl) (by assumption) | exact y_gtr rfl rfl | exact y_T (y_geq rfl rfl) (by assumption) | exact y_F (y_geq rfl rfl) (by assumption) | exact y_geq rfl rfl | exact y_T (y_eql rfl rfl) (by assumption) | exact y_F (y_eql rfl rfl) (by assumption) | exact y_eql rfl rfl | exact y_T (y_neq rfl rfl) (by assumption) | exact y_F (y_neq rfl rfl) (by assumption) | exact y_neq rfl rfl | exact y_nilF rfl | exact y_field1 Try.tab rfl rfl rfl rfl rfl | exact y_fieldA Try.tab rfl rfl rfl rfl rfl | exact y_min rfl rfl | exact y_max rfl rfl | exact y_load Try.tab rfl rfl (by assumption) | exact y_load Try.tab rfl rfl (CellIs.cons (by assumption)) | exact y_load Try.tab rfl rfl (CellIs.cons (CellIs.cons (by assumption))) | exact y_loadA Try.tab rfl rfl rfl rfl (by assumption) | exact y_loadA Try.tab rfl rfl rfl rfl (CellsAre.cons (by assumption)) | exact y_load Try.tab rfl rfl (cell_row 0 rfl rfl) | exact y_load Try.tab rfl rfl (cell_row 1 rfl rfl) | exact y_load Try.tab rfl rfl (cell_row 2 rfl rfl) | exact y_load Try.tab rfl rfl (cell_row 3 rfl rfl) | exact y_load Try.tab rfl rfl (cell_row 4 rfl rfl) | exact y_load Try.tab rfl rfl (cell_row 5 rfl rfl) | exact y_load Try.tab rfl rfl (cell_row 6 rfl rfl) | exact y_add rfl rfl (by omega) | exact y_sub rfl rfl (by omega) | exact y_mul rfl rfl (by omega) | exact y_neg rfl (by omega) | exact y_indexAddr1 Try.tab rfl rfl rfl rfl _ rfl (by omega) | exact y_indexAddr0 Try.tab rfl rfl rfl rfl _ rfl (by omega) | exact y_load Try.tab rfl rfl (cell_ints 0 rfl (by omega)) | exact y_load Try.tab rfl rfl (cell_bools 0 rfl (by omega)) | exact y_load Try.tab rfl rfl (cell_ints 1 rfl (by omega)) | exact y_load Try.tab rfl rfl (cell_bools 1 rfl (by omega)) | exact y_load Try.tab rfl rfl (cell_ints 2 rfl (by omega)) | exact y_load Try.tab rfl rfl (cell_bools 2 rfl (by omega)) | exact y_load Try.tab rfl rfl (cell_ints 3 rfl (by omega)) | exact y_load Try.tab rfl rfl (cell_bools 3 rfl (by omega)) | exact y_load Try.tab rfl rfl (cell_ints 4 rfl (by omega)) | exact y_load Try.tab rfl rfl (cell_bools 4 rfl (by omega)) | exact y_load Try.tab rfl rfl (cell_ints 5 rfl (by omega)) | exact y_load Try.tab rfl rfl (cell_bools 5 rfl (by omega)) | exact y_load Try.tab rfl rfl (cell_ints 6 rfl (by omega)) | exact y_load Try.tab rfl rfl (cell_bools 6 rfl (by omega)))) rfl rfl rfl ?_))
    refine f_retE () (res1 rfl rfl) (by simp [h1]) (fun _ h => h)
end Go.KL
end

section
/- Walks: used, reduced. -/
namespace Go.KL
open Go.Proofs
attribute [local irreducible] SC St Fin Sq Sw Ylds Doos Sets Enters Spec CellIs CellsAre Then Ret Rnd resOK ints bools recs arr
/-- A link's three cells. -/
def lnk (to room cost : Nat → Int) : Nat → Nat → Value := fun k j => match j with
  | 0 => .int .i64 (to k)
  | 1 => .int .i64 (room k)
  | _ => .int .i64 (cost k)

set_option maxRecDepth 4000 in
theorem reduced_spec (W : World) (Ls : List Chunk) (p bl nl cl bh n ch k u t : Nat) (r c hu ht : Int) (h1 : CellIs (K W Ls) ⟨p, 0, none⟩ (.slice (some ⟨bl, 0, none⟩) nl cl)) (h2 : CellsAre (K W Ls) ⟨bl, k * 3, none⟩ [.int .i64 t, .int .i64 r, .int .i64 c]) (hk : k < nl)
    (h3 : CellIs (K W Ls) ⟨p, 4, none⟩ (.slice (some ⟨bh, 0, none⟩) n ch)) (h4 : CellIs (K W Ls) ⟨bh, u, none⟩ (.int .i64 hu)) (h5 : CellIs (K W Ls) ⟨bh, t, none⟩ (.int .i64 ht)) (hu' : u < n) (ht' : t < n)
    (hb : -1000000000000000000 ≤ c ∧ c ≤ 1000000000000000000 ∧ -1000000000000000000 ≤ hu ∧ hu ≤ 1000000000000000000 ∧ -1000000000000000000 ≤ ht ∧ ht ≤ 1000000000000000000) :
    Spec Try.prog 103 #[.pointer (some ⟨p, 0, none⟩), .int .i64 u, .int .i64 k] (K W Ls) (fun _ : Unit => .int .i64 (c + hu - ht)) (fun _ => K W Ls) := by
  refine enter (args := [_, _, _]) Try.func103 rfl Try.ntmps103 rfl ?_
  refine c_seq ?_
  refine c_region ?_
  refine s_y (y_assign rfl) rfl rfl rfl ?_
  refine s_nil ?_
  refine f_then ?_
  refine c_seq ?_
  refine c_region ?_
  refine s_y (y_move rfl) rfl rfl rfl ?_
  refine s_y (y_nilP rfl) rfl rfl rfl ?_
  refine s_y (y_fieldAddr0 Try.tabF rfl rfl rfl rfl rfl) rfl rfl rfl ?_
  refine s_y (y_load Try.tabF rfl rfl (by assumption)) rfl rfl rfl ?_
  refine s_y (y_move rfl) rfl rfl rfl ?_
  refine s_y (y_indexAddr0 (s := 3) Try.tabF rfl rfl rfl rfl _ rfl (by omega)) rfl rfl rfl ?_
  refine s_y (y_loadA Try.tabF rfl rfl rfl rfl (by assumption)) rfl rfl rfl ?_
  refine s_do (do_alloc Try.tabF rfl) rfl rfl rfl (fun b7 => ?_)
  refine s_set (set_box Try.tabF 0 rfl rfl rfl rfl rfl rfl rfl) rfl rfl ?_
  refine s_nil ?_
  refine f_then ?_
  refine c_seq ?_
  refine c_quiet Try.mixed (by kernel_rfl) K.drew ?_
  refine q_y (y_fieldAddrB Try.tabF 2 rfl rfl rfl rfl rfl) rfl rfl rfl ?_
  refine q_y (y_load Try.tabF rfl rfl (cell_row 0 rfl rfl)) rfl rfl rfl ?_
  refine q_y (y_move rfl) rfl rfl rfl ?_
  refine q_y (y_nilP rfl) rfl rfl rfl ?_
  refine q_y (y_fieldAddrB Try.tabF 4 rfl rfl rfl rfl rfl) rfl rfl rfl ?_
  refine q_y (y_load Try.tabF rfl rfl (CellIs.cons (by assumption))) rfl rfl rfl ?_
  refine q_y (y_move rfl) rfl rfl rfl ?_
  refine q_y (y_indexAddr1 Try.tabF rfl rfl rfl rfl _ rfl (by omega)) rfl rfl rfl ?_
  refine q_y (y_load Try.tabF rfl rfl (CellIs.cons (by assumption))) rfl rfl rfl ?_
  refine q_y (y_add rfl rfl (by omega)) rfl rfl rfl ?_
  refine q_y (y_move rfl) rfl rfl rfl ?_
  refine q_y (y_nilP rfl) rfl rfl rfl ?_
  refine q_y (y_fieldAddrB Try.tabF 4 rfl rfl rfl rfl rfl) rfl rfl rfl ?_
  refine q_y (y_load Try.tabF rfl rfl (CellIs.cons (by assumption))) rfl rfl rfl ?_
  refine q_y (y_fieldAddr0 Try.tabF rfl rfl rfl rfl rfl) rfl rfl rfl ?_
  refine q_y (y_load Try.tabF rfl rfl (cell_row 0 rfl rfl)) rfl rfl rfl ?_
  refine q_y (y_indexAddr1 Try.tabF rfl rfl rfl rfl _ rfl (by omega)) rfl rfl rfl ?_
  refine q_y (y_load Try.tabF rfl rfl (CellIs.cons (by assumption))) rfl rfl rfl ?_
  refine q_y (y_sub rfl rfl (by omega)) rfl rfl rfl ?_
  refine q_y (y_assign rfl) rfl rfl rfl ?_
  refine q_nil ?_
  refine f_then ?_
  refine c_ret ?_
  exact f_ret () (res1 rfl rfl) (fun _ h => h.tail)
end Go.KL
end

section
/- Walks: newNetwork. -/
namespace Go.KL
open Go.Proofs
attribute [local irreducible] SC St Fin Sq Sw Ylds Doos Sets Enters Spec CellIs CellsAre Then Ret Rnd resOK ints bools recs arr
set_option maxRecDepth 4000 in
theorem newNetwork_spec (W : World) (Ls : List Chunk) (n : Nat) (hn : n ≤ 100000) :
    Spec Try.prog 73 #[.int .i64 n] (K W Ls) (fun x : Nat × Nat × Nat => .pointer (some ⟨x.1, 0, none⟩))
      (fun x => K W ([(x.1, row 127 [nilS, .slice (some ⟨x.2.1, 0, none⟩) n n, nilS, nilS, .slice (some ⟨x.2.2, 0, none⟩) n n])] :: [(x.2.1, arr 29 n (fun _ => nilS) [])] :: [(x.2.2, ints 3 n (fun _ => 0) [])] :: Ls)) := by
  refine enter (args := [_]) Try.func73 rfl Try.ntmps73 rfl ?_
  refine c_seq ?_
  refine c_region ?_
  refine s_y (y_assign rfl) rfl rfl rfl ?_
  refine s_nil ?_
  refine f_then ?_
  refine c_seq ?_
  refine c_plan [.c 0, .c 2, .t 1 3, .c 4, .s 5, .c 6] [] ((K W Ls)) Try.mixed (by kernel_rfl) rfl K.cl ?_
  refine d_c rfl (Qui.ylds (y_move rfl)) rfl rfl rfl (fun _ h => h) K.cl ?_
  refine d_c rfl (Qui.ylds (y_move rfl)) rfl rfl rfl (fun _ h => h) K.cl ?_
  refine d_two rfl rfl rfl rfl rfl rfl rfl rfl (makes (by_ := 24) Try.tabF rfl rfl rfl rfl rfl rfl (by omega)) (fun x => ⟨rfl, make_ints (by_ := 8) Try.tabF rfl rfl rfl rfl rfl rfl (by omega)⟩) (make_ints (by_ := 8) Try.tabF rfl rfl rfl rfl rfl rfl (by omega)) (fun x => ⟨rfl, makes (by_ := 24) Try.tabF rfl rfl rfl rfl rfl rfl (by omega)⟩)
    (fun _ => K.cl) (fun _ _ => K.cl) (fun _ => K.cl) (fun _ _ => K.cl) (fun _ _ _ h => h.tail) (fun _ _ _ _ h => h.tail.tail) (fun _ _ _ h => h.tail) (fun _ _ _ _ h => h.tail.tail) (fun bo bh => ?_) (fun bh bo => ?_)
  · refine d_c rfl (Qui.ylds (y_build Try.tabF rfl rfl rfl rfl rfl)) rfl rfl rfl (fun _ h => h.tail.tail) K.cl ?_
    refine d_s rfl (do_box rfl) rfl rfl rfl (fun _ => K.cl) (fun _ _ _ h => h.tail.tail.tail) (fun b8 => ?_)
    refine d_c rfl (Qui.ylds (y_assign rfl)) rfl rfl rfl (fun _ h => h.tail.tail.tail) K.cl ?_
    refine d_nil ?_
    refine f_then ?_
    refine c_ret ?_
    exact f_ret (b8, bo, bh) (res1 rfl rfl) (fun _ h => (h.front 2).front 1)
  · refine d_c rfl (Qui.ylds (y_build Try.tabF rfl rfl rfl rfl rfl)) rfl rfl rfl (fun _ h => h.tail.tail) K.cl ?_
    refine d_s rfl (do_box rfl) rfl rfl rfl (fun _ => K.cl) (fun _ _ _ h => h.tail.tail.tail) (fun b8 => ?_)
    refine d_c rfl (Qui.ylds (y_assign rfl)) rfl rfl rfl (fun _ h => h.tail.tail.tail) K.cl ?_
    refine d_nil ?_
    refine f_then ?_
    refine c_ret ?_
    exact f_ret (b8, bo, bh) (res1 rfl rfl) (fun _ h => h)
end Go.KL
end

section
/- Walks: add. -/
namespace Go.KL
open Go.Proofs
attribute [local irreducible] SC St Fin Sq Sw Ylds Doos Sets Enters Spec CellIs CellsAre Then Ret Rnd resOK ints bools recs arr
attribute [local irreducible] rowv lvals rvals
/-- The network while it is built. -/
def bnet (p bo n m : Nat) (hs : Value) (L : Option Own) (R : Nat → Option Own) (g : Nat → Nat → Value) (outs : Nat → List Nat) (F : List Chunk) : List Chunk :=
  [(p, row 127 [ov L m, .slice (some ⟨bo, 0, none⟩) n n, nilS, nilS, hs])] :: [(bo, arr 29 n (rowv R outs) [])] :: oc 129 L (lvals m g) :: (rowsC n R outs ++ F)

set_option maxRecDepth 4000 in
set_option maxHeartbeats 2000000 in
theorem add_spec (W : World) (F : List Chunk) (p bo n m from_ to_ : Nat) (room cost : Int) (hs : Value) (L : Option Own) (R : Nat → Option Own) (g : Nat → Nat → Value) (outs : Nat → List Nat)
    (hL : owfO 3 L m (lvals m g)) (hR : rowsOK n R outs) (hf : from_ < n) (ht : to_ < n) (hm : m ≤ 1000000) (hout : ∀ v, v < n → (outs v).length ≤ m) (hcost : -1000000000000 ≤ cost ∧ cost ≤ 1000000000000) :
    Spec Try.prog 75 #[.pointer (some ⟨p, 0, none⟩), .int .i64 from_, .int .i64 to_, .int .i64 room, .int .i64 cost] (K W (bnet p bo n m hs L R g outs F)) (X := { x : Option Own × (Nat → Option Own) // owfO 3 x.1 (m + 2) (lvals (m + 2) (put2 g m (fun j => match j with | 0 => .int .i64 to_ | 1 => .int .i64 room | _ => .int .i64 cost) (fun j => match j with | 0 => .int .i64 from_ | 1 => .int .i64 0 | _ => .int .i64 (-cost)))) ∧ rowsOK n x.2 (upd (upd outs from_ (outs from_ ++ [m])) to_ (upd outs from_ (outs from_ ++ [m]) to_ ++ [m + 1])) })
      (fun _ => .tuple #[])
      (fun x => K W (bnet p bo n (m + 2) hs x.1.1 x.1.2 (put2 g m (fun j => match j with | 0 => .int .i64 to_ | 1 => .int .i64 room | _ => .int .i64 cost) (fun j => match j with | 0 => .int .i64 from_ | 1 => .int .i64 0 | _ => .int .i64 (-cost))) (upd (upd outs from_ (outs from_ ++ [m])) to_ (upd outs from_ (outs from_ ++ [m]) to_ ++ [m + 1])) F)) := by
  refine enter (args := [_, _, _, _, _]) Try.func75 rfl Try.ntmps75 rfl ?_
  refine c_seq ?_
  have hD : ∀ w, K W (bnet p bo n m hs L R g outs F) w → K W [[(p, row 127 [ov L m, .slice (some ⟨bo, 0, none⟩) n n, nilS, nilS, hs])], [(bo, arr 29 n (rowv R outs) [])]] w := fun w h => h.keep 2
  refine c_plan [.c 0, .c 1, .c 2, .c 3, .c 4, .c 5, .c 6, .c 7, .c 8, .c 9, .c 10, .c 11, .c 12, .c 13, .c 14, .c 15, .c 16, .s 17, .s 18, .c 19, .s 20] [20] ((K W [[(p, row 127 [ov L m, .slice (some ⟨bo, 0, none⟩) n n, nilS, nilS, hs])], [(bo, arr 29 n (rowv R outs) [])]])) Try.mixed (by kernel_rfl) rfl K.cl ?_
  refine d_c rfl (Qui.ylds (y_move rfl)) rfl rfl rfl hD K.cl ?_
  refine d_c rfl (Qui.ylds (y_nilP rfl)) rfl rfl rfl hD K.cl ?_
  refine d_c rfl (Qui.ylds (y_fieldAddrB Try.tabF 1 rfl rfl rfl rfl rfl)) rfl rfl rfl hD K.cl ?_
  refine d_c rfl (Qui.ylds (y_load Try.tabF rfl rfl (cell_row 0 rfl rfl))) rfl rfl rfl hD K.cl ?_
  refine d_c rfl (Qui.ylds (y_move rfl)) rfl rfl rfl hD K.cl ?_
  refine d_c rfl (Qui.ylds (y_move rfl)) rfl rfl rfl hD K.cl ?_
  refine d_c rfl (Qui.ylds (y_nilP rfl)) rfl rfl rfl hD K.cl ?_
  refine d_c rfl (Qui.ylds (y_fieldAddrB Try.tabF 1 rfl rfl rfl rfl rfl)) rfl rfl rfl hD K.cl ?_
  refine d_c rfl (Qui.ylds (y_load Try.tabF rfl rfl (cell_row 0 rfl rfl))) rfl rfl rfl hD K.cl ?_
  refine d_c rfl (Qui.ylds (y_move rfl)) rfl rfl rfl hD K.cl ?_
  refine d_c rfl (Qui.ylds (y_indexAddr1 Try.tabF rfl rfl rfl rfl _ rfl (by omega))) rfl rfl rfl hD K.cl ?_
  refine d_c rfl (Qui.ylds (y_load Try.tabF rfl rfl (cell_arr 1 rfl (by omega)))) rfl rfl rfl hD K.cl ?_
  refine d_c rfl (Qui.ylds (y_move rfl)) rfl rfl rfl hD K.cl ?_
  refine d_c rfl (Qui.ylds (y_nilP rfl)) rfl rfl rfl hD K.cl ?_
  refine d_c rfl (Qui.ylds (y_fieldAddr0 Try.tabF rfl rfl rfl rfl rfl)) rfl rfl rfl hD K.cl ?_
  refine d_c rfl (Qui.ylds (y_load Try.tabF rfl rfl (cell_row 0 rfl rfl))) rfl rfl rfl hD K.cl ?_
  refine d_c rfl (Qui.ylds (y_lenO Try.tabF rfl hL rfl)) rfl rfl rfl hD K.cl ?_
  refine d_s rfl (do_buildSlice1 Try.tabF ⟨rfl, rfl, rfl, rfl⟩ rfl rfl rfl rfl) rfl rfl rfl (fun _ => K.cl) (fun _ _ w h => hD w h.tail) (fun b27 => ?_)
  refine d_s rfl (do_rowapp Try.tabF [[(b27, row 3 [.int .i64 m])], [(p, row 127 [ov L m, .slice (some ⟨bo, 0, none⟩) n n, nilS, nilS, hs])], [(bo, arr 29 n (rowv R outs) [])], oc 129 L (lvals m g)] rfl rfl ⟨rfl, rfl, rfl, rfl⟩ hf hR (CellsAre.one (cell_row 0 rfl rfl)) (by have := hout from_ hf; omega)) rfl rfl rfl (fun _ => K.cl) (fun _ _ w h => h.tail.keep 2) (fun o1 => ?_)
  refine d_c rfl (Qui.ylds (y_indexAddr1 Try.tabF rfl rfl rfl rfl _ rfl (by omega))) rfl rfl rfl (fun w h => h.tail.keep 2) K.cl ?_
  refine d_set rfl (set_arr Try.tabF 2 rfl rfl rfl rfl rfl (by omega)) rfl rfl K.cl (fun h => by cases h) ?_
  refine d_nil ?_
  refine f_then ?_
  refine SC.cls (C' := K W (bnet p bo n m hs L (upd R from_ (some o1.1)) g (upd outs from_ (outs from_ ++ [m])) F)) ?_ (fun w h => by rw [rowv_upd] at h; exact h.tail)
  have hR1 := rowsOK_upd (v := from_) hR o1.2
  generalize hRe : upd R from_ (some o1.1) = R1 at hR1 ⊢
  have q1 := hout _ ht
  have q2 := hout _ hf
  have hout1 : (upd outs from_ (outs from_ ++ [m]) to_).length ≤ m + 1 := by
    simp only [upd]
    split
    · simp only [List.length_append, List.length_cons, List.length_nil]; omega
    · omega
  generalize hoe : upd outs from_ (outs from_ ++ [m]) = outs1 at hR1 hout1 ⊢
  refine c_seq ?_
  clear hD
  have hD : ∀ w, K W (bnet p bo n m hs L R1 g outs1 F) w → K W [[(p, row 127 [ov L m, .slice (some ⟨bo, 0, none⟩) n n, nilS, nilS, hs])], [(bo, arr 29 n (rowv R1 outs1) [])]] w := fun w h => h.keep 2
  refine c_plan [.c 0, .c 1, .c 2, .c 3, .c 4, .c 5, .c 6, .c 7, .c 8, .c 9, .c 10, .c 11, .c 12, .c 13, .c 14, .c 15, .c 16, .c 17, .s 18, .s 19, .c 20, .s 21] [21] ((K W [[(p, row 127 [ov L m, .slice (some ⟨bo, 0, none⟩) n n, nilS, nilS, hs])], [(bo, arr 29 n (rowv R1 outs1) [])]])) Try.mixed (by kernel_rfl) rfl K.cl ?_
  refine d_c rfl (Qui.ylds (y_move rfl)) rfl rfl rfl hD K.cl ?_
  refine d_c rfl (Qui.ylds (y_nilP rfl)) rfl rfl rfl hD K.cl ?_
  refine d_c rfl (Qui.ylds (y_fieldAddrB Try.tabF 1 rfl rfl rfl rfl rfl)) rfl rfl rfl hD K.cl ?_
  refine d_c rfl (Qui.ylds (y_load Try.tabF rfl rfl (cell_row 0 rfl rfl))) rfl rfl rfl hD K.cl ?_
  refine d_c rfl (Qui.ylds (y_move rfl)) rfl rfl rfl hD K.cl ?_
  refine d_c rfl (Qui.ylds (y_move rfl)) rfl rfl rfl hD K.cl ?_
  refine d_c rfl (Qui.ylds (y_nilP rfl)) rfl rfl rfl hD K.cl ?_
  refine d_c rfl (Qui.ylds (y_fieldAddrB Try.tabF 1 rfl rfl rfl rfl rfl)) rfl rfl rfl hD K.cl ?_
  refine d_c rfl (Qui.ylds (y_load Try.tabF rfl rfl (cell_row 0 rfl rfl))) rfl rfl rfl hD K.cl ?_
  refine d_c rfl (Qui.ylds (y_move rfl)) rfl rfl rfl hD K.cl ?_
  refine d_c rfl (Qui.ylds (y_indexAddr1 Try.tabF rfl rfl rfl rfl _ rfl (by omega))) rfl rfl rfl hD K.cl ?_
  refine d_c rfl (Qui.ylds (y_load Try.tabF rfl rfl (cell_arr 1 rfl (by omega)))) rfl rfl rfl hD K.cl ?_
  refine d_c rfl (Qui.ylds (y_move rfl)) rfl rfl rfl hD K.cl ?_
  refine d_c rfl (Qui.ylds (y_nilP rfl)) rfl rfl rfl hD K.cl ?_
  refine d_c rfl (Qui.ylds (y_fieldAddr0 Try.tabF rfl rfl rfl rfl rfl)) rfl rfl rfl hD K.cl ?_
  refine d_c rfl (Qui.ylds (y_load Try.tabF rfl rfl (cell_row 0 rfl rfl))) rfl rfl rfl hD K.cl ?_
  refine d_c rfl (Qui.ylds (y_lenO Try.tabF rfl hL rfl)) rfl rfl rfl hD K.cl ?_
  refine d_c rfl (Qui.ylds (y_add rfl rfl (by omega))) rfl rfl rfl hD K.cl ?_
  refine d_s rfl (do_buildSlice1 Try.tabF ⟨rfl, rfl, rfl, rfl⟩ rfl rfl rfl rfl) rfl rfl rfl (fun _ => K.cl) (fun _ _ w h => hD w h.tail) (fun b48 => ?_)
  refine d_s rfl (do_rowapp (k := m + 1) Try.tabF [[(b48, row 3 [.int .i64 (m + 1)])], [(p, row 127 [ov L m, .slice (some ⟨bo, 0, none⟩) n n, nilS, nilS, hs])], [(bo, arr 29 n (rowv R1 outs1) [])], oc 129 L (lvals m g)] rfl rfl ⟨rfl, rfl, rfl, rfl⟩ ht hR1 (CellsAre.one (cell_row 0 rfl rfl)) (by omega)) rfl rfl rfl (fun _ => K.cl) (fun _ _ w h => h.tail.keep 2) (fun o2 => ?_)
  refine d_c rfl (Qui.ylds (y_indexAddr1 Try.tabF rfl rfl rfl rfl _ rfl (by omega))) rfl rfl rfl (fun w h => h.tail.keep 2) K.cl ?_
  refine d_set rfl (set_arr Try.tabF 2 rfl rfl rfl rfl rfl (by omega)) rfl rfl K.cl (fun h => by cases h) ?_
  refine d_nil ?_
  refine f_then ?_
  refine SC.cls (C' := K W (bnet p bo n m hs L (upd R1 to_ (some o2.1)) g (upd outs1 to_ (outs1 to_ ++ [m + 1])) F)) ?_ (fun w h => by rw [rowv_upd] at h; exact h.tail)
  have hR2 := rowsOK_upd (v := to_) hR1 o2.2
  generalize hRe2 : upd R1 to_ (some o2.1) = R2 at hR2 ⊢
  generalize hoe2 : upd outs1 to_ (outs1 to_ ++ [m + 1]) = outs2 at hR2 ⊢
  refine c_region ?_
  refine s_y (y_move rfl) rfl rfl rfl ?_
  refine s_y (y_move rfl) rfl rfl rfl ?_
  refine s_y (y_nilP rfl) rfl rfl rfl ?_
  refine s_y (y_fieldAddr0 Try.tabF rfl rfl rfl rfl rfl) rfl rfl rfl ?_
  refine s_y (y_load Try.tabF rfl rfl (cell_row 0 rfl rfl)) rfl rfl rfl ?_
  refine s_y (y_move rfl) rfl rfl rfl ?_
  refine s_y (y_move rfl) rfl rfl rfl ?_
  refine s_y (y_move rfl) rfl rfl rfl ?_
  refine s_y (y_build Try.tabF rfl rfl rfl rfl rfl) rfl rfl rfl ?_
  refine s_y (y_move rfl) rfl rfl rfl ?_
  refine s_y (y_move rfl) rfl rfl rfl ?_
  refine s_y (y_neg rfl (by omega)) rfl rfl rfl ?_
  refine s_y (y_build Try.tabF rfl rfl rfl rfl rfl) rfl rfl rfl ?_
  refine s_do (do_buildSliceS Try.tabF ⟨rfl, rfl, rfl, rfl⟩ rfl rfl rfl rfl) rfl rfl rfl (fun b64 => ?_)
  refine s_do (do_appendO Try.tabF 3 (s := 3) (by_ := 24) (k := 2) (news := [.int .i64 to_, .int .i64 room, .int .i64 cost, .int .i64 from_, .int .i64 0, .int .i64 (-cost)]) (xs := lvals m g) (o := L) rfl rfl ⟨rfl, rfl, rfl, rfl⟩ rfl rfl (by simp [bnet]) hL (cells_row0 0 rfl rfl) rfl (by simp [Value.oneCell']) (by omega) (by unfold maxLen; omega) (by omega)) rfl rfl rfl (fun o3 => ?_)
  refine s_y (y_nilP rfl) rfl rfl rfl ?_
  refine s_y (y_fieldAddr0 Try.tabF rfl rfl rfl rfl rfl) rfl rfl rfl ?_
  refine s_set (set_rowB Try.tabF 1 rfl rfl rfl rfl rfl rfl) rfl rfl ?_
  refine s_nil ?_
  have hfin := lvals_put2 m g (fun j => match j with | 0 => .int .i64 to_ | 1 => .int .i64 room | _ => .int .i64 cost) (fun j => match j with | 0 => .int .i64 from_ | 1 => .int .i64 0 | _ => .int .i64 (-cost))
  refine f_end ⟨(some o3.1, R2), by rw [hfin]; exact o3.2, hR2⟩ (res0 rfl) (fun w h => ?_)
  simp only [bnet, hfin]
  exact h.tail
end Go.KL
end

section
/- Walks: reach. -/
namespace Go.KL
open Go.Proofs
attribute [local irreducible] SC St Fin Sq Sw Ylds Doos Sets Enters Spec CellIs CellsAre Then Ret Rnd resOK ints bools recs arr
attribute [local irreducible] rvals lk3 RowF
set_option maxRecDepth 4000 in
set_option maxHeartbeats 2000000 in
theorem reach_spec (W : World) (Ls : List Chunk) (p n m s : Nat) (vl vo a b c : Value) (outs : Nat → List Nat) (to : Nat → Nat) (room cost : Nat → Int)
    (hO : OutV (K W ([(p, row 127 [vl, vo, a, b, c])] :: Ls)) vo n outs) (hL : LinkV (K W ([(p, row 127 [vl, vo, a, b, c])] :: Ls)) vl m to room cost) (hG : GOK n m outs to) (hs : s < n) (hn : n ≤ 1000) (hm : m ≤ 1000000) :
    Spec Try.prog 77 #[.pointer (some ⟨p, 0, none⟩), .int .i64 s] (K W ([(p, row 127 [vl, vo, a, b, c])] :: Ls)) (X := { x : Nat × (Nat → Bool) // Reached n s outs to (fun k => 0 < room k) x.2 })
      (fun x => .slice (some ⟨x.1.1, 0, none⟩) n n) (fun x => K W ([(x.1.1, bools 4 n x.1.2 [])] :: [(p, row 127 [vl, vo, a, b, c])] :: Ls)) := by
  generalize hLs : ([(p, row 127 [vl, vo, a, b, c])] :: Ls) = L0 at hO hL
  have hp : ∀ (i : Nat) (v : Value), [vl, vo, a, b, c][i]? = some v → CellIs (K W L0) ⟨p, i, none⟩ v := fun i v hv => by subst hLs; exact cell_row 0 rfl hv
  have hp0 := hp 0 vl rfl
  have hp1 := hp 1 vo rfl
  clear hp hLs
  obtain ⟨bo, rfl, hrow⟩ := hO
  refine enter (args := [_, _]) Try.func77 rfl Try.ntmps77 rfl ?_
  refine c_seq ?_
  refine c_region ?_
  refine s_y (y_assign rfl) rfl rfl rfl ?_
  refine s_nil ?_
  refine f_then ?_
  refine c_seq ?_
  refine c_region ?_
  refine s_y (y_move rfl) rfl rfl rfl ?_
  refine s_y (y_nilP rfl) rfl rfl rfl ?_
  refine s_y (y_fieldAddrB Try.tabF 1 rfl rfl rfl rfl rfl) rfl rfl rfl ?_
  refine s_y (y_load Try.tabF rfl rfl (by assumption)) rfl rfl rfl ?_
  refine s_y (y_len Try.tabF rfl rfl) rfl rfl rfl ?_
  refine s_do (make_bools (by_ := 1) Try.tabF rfl rfl rfl rfl rfl rfl (by omega)) rfl rfl rfl (fun b16 => ?_)
  refine s_y (y_assign rfl) rfl rfl rfl ?_
  refine s_nil ?_
  refine f_then ?_
  refine c_seq ?_
  refine c_region ?_
  refine s_y (y_move rfl) rfl rfl rfl ?_
  refine s_y (y_move rfl) rfl rfl rfl ?_
  refine s_y (y_indexAddr1 Try.tabF rfl rfl rfl rfl _ rfl (by omega)) rfl rfl rfl ?_
  refine s_set (set_bools Try.tabF 0 rfl rfl rfl rfl (by omega)) rfl rfl ?_
  refine s_nil ?_
  refine f_then ?_
  refine c_seq ?_
  refine c_region ?_
  refine s_y (y_move rfl) rfl rfl rfl ?_
  refine s_do (do_buildSlice1 Try.tabF ⟨rfl, rfl, rfl, rfl⟩ rfl rfl rfl rfl) rfl rfl rfl (fun b21 => ?_)
  refine s_y (y_assign rfl) rfl rfl rfl ?_
  refine s_nil ?_
  refine f_then ?_
  refine c_seq ?_
  refine c_block ?_
  refine c_loopP (α := (Nat → Bool) × List Nat × Own) (fun z => [(0, .pointer (some ⟨p, 0, none⟩)), (5, .slice (some ⟨b16, 0, none⟩) n n), (6, osl z.2.2 z.2.1.length)])
    (fun z => RInv n s outs to (fun k => 0 < room k) z.1 z.2.1 n 0 ∧ owf 1 z.2.2 z.2.1.length (rvals z.2.1)) (fun z => K W ([(b16, bools 4 n z.1 [])] :: och 3 z.2.2 (rvals z.2.1) :: L0)) (fun z => z.2.1.length + 2 * cnt n (fun u => !z.1 u))
    (upd (fun _ => false) s true, [s], ⟨b21, 1, [], []⟩) ⟨rfl, rfl, rfl, trivial⟩ ⟨RInv.begin hs, ⟨Nat.le_refl _, by unfold maxLen; dsimp only; omega, by rw [rvals_len]; rfl, by simp⟩⟩ (fun w h => by rw [rvals_one]; exact h.front 1) ?_
  rintro ⟨seen, st, o⟩ ⟨hI, ho⟩
  dsimp only at hI ho ⊢
  refine c_seq ?_
  refine c_seq ?_
  refine c_region ?_
  refine s_y (y_move rfl) rfl rfl rfl ?_
  refine s_y (y_len Try.tabF rfl rfl) rfl rfl rfl ?_
  refine s_y (y_gtr rfl rfl) rfl rfl rfl ?_
  refine s_nil ?_
  refine f_then ?_
  refine c_condD rfl (fun hpos => ?_) (fun hneg => ?_)
  rotate_left
  · have hnil : st = [] := by
      cases st with
      | nil => rfl
      | cons x r => simp only [List.length_cons] at hneg; omega
    subst hnil
    refine c_exit ?_
    refine f_thenE ?_
    refine f_rndE ?_
    refine f_blockE ?_
    refine f_then ?_
    refine c_seq ?_
    refine c_region ?_
    refine s_y (y_move rfl) rfl rfl rfl ?_
    refine s_y (y_assign rfl) rfl rfl rfl ?_
    refine s_nil ?_
    refine f_then ?_
    refine c_ret ?_
    exact f_ret ⟨(b16, seen), hI.reached⟩ (res1 rfl rfl) (fun w h => (h.front 1).tail)
  obtain ⟨st', v, rfl⟩ : ∃ st' v, st = st' ++ [v] := by
    rcases List.eq_nil_or_concat st with h | ⟨a, b, h⟩
    · subst h; simp at hpos
    · exact ⟨a, b, by simpa using h⟩
  have hvn := (hI.stk v (by simp)).1
  have hvs := (hI.stk v (by simp)).2
  have hb1 := hI.bound
  have hlen : (st' ++ [v]).length = st'.length + 1 := by simp
  rw [hlen] at ho hb1
  have hI1 := hI.pop rfl
  clear hI
  obtain ⟨val, hval, hr⟩ := hrow v hvn
  unfold RowF at hr
  obtain ⟨pa, cc, rfl, hcells⟩ := hr
  refine c_skip ?_
  refine f_then ?_
  refine c_block ?_
  refine c_seq ?_
  refine c_region ?_
  refine s_y (y_move rfl) rfl rfl rfl ?_
  refine s_y (y_move rfl) rfl rfl rfl ?_
  refine s_y (y_len Try.tabF rfl rfl) rfl rfl rfl ?_
  refine s_y (y_sub rfl rfl (by omega)) rfl rfl rfl ?_
  refine s_y (y_indexAddr (s := 1) Try.tabF rfl rfl rfl rfl _ (Int.toNat_of_nonneg (by omega)).symm (by omega)) rfl rfl rfl ?_
  refine s_y (y_load Try.tabF rfl rfl (cell_own (v := .int .i64 v) 1 rfl st'.length (by rw [hlen]; omega) (by simp [rvals]))) rfl rfl rfl ?_
  refine s_y (y_assign rfl) rfl rfl rfl ?_
  refine s_nil ?_
  refine f_then ?_
  refine c_seq ?_
  refine c_region ?_
  refine s_y (y_move rfl) rfl rfl rfl ?_
  refine s_y (y_move rfl) rfl rfl rfl ?_
  refine s_y (y_len Try.tabF rfl rfl) rfl rfl rfl ?_
  refine s_y (y_sub rfl rfl (by omega)) rfl rfl rfl ?_
  refine s_y (y_sliceTo Try.tabF rfl rfl rfl rfl (hi := st'.length) (by simp) (by have := ho.le; omega)) rfl rfl rfl ?_
  refine s_y (y_assign rfl) rfl rfl rfl ?_
  refine s_nil ?_
  refine f_then ?_
  refine c_seq ?_
  refine c_region ?_
  refine s_y (y_move rfl) rfl rfl rfl ?_
  refine s_y (y_nilP rfl) rfl rfl rfl ?_
  refine s_y (y_fieldAddrB Try.tabF 1 rfl rfl rfl rfl rfl) rfl rfl rfl ?_
  refine s_y (y_load Try.tabF rfl rfl (CellIs.cons (CellIs.cons (by assumption)))) rfl rfl rfl ?_
  refine s_y (y_move rfl) rfl rfl rfl ?_
  refine s_y (y_indexAddr1 Try.tabF rfl rfl rfl rfl _ rfl (by omega)) rfl rfl rfl ?_
  refine s_y (y_load Try.tabF rfl rfl (CellIs.cons (CellIs.cons (by assumption)))) rfl rfl rfl ?_
  refine s_y (y_len Try.tabF rfl rfl) rfl rfl rfl ?_
  refine s_y (y_move rfl) rfl rfl rfl ?_
  refine s_nil ?_
  refine f_then ?_
  refine c_block ?_
  have hrv : rvals (st' ++ [v]) = rvals st' ++ [.int .i64 ((v : Nat) : Int)] := rvals_app st' v
  rw [hrv] at ho
  refine SC.cls (C' := K W ([(b16, bools 4 n seen [])] :: och 3 (o.pop (.int .i64 ((v : Nat) : Int))) (rvals st') :: L0)) ?_ (fun w h => by rw [hrv, och_pop] at h; exact h)
  have ho1 := owf_pop (s := 1) ho rfl
  refine c_loopP (α := (Nat → Bool) × List Nat × Own × Nat) (fun z => [(0, .pointer (some ⟨p, 0, none⟩)), (5, .slice (some ⟨b16, 0, none⟩) n n), (6, osl z.2.2.1 z.2.1.length), (7, .int .i64 v), (42, .slice pa (outs v).length cc), (43, .int .i64 (outs v).length), (44, .int .i64 z.2.2.2)])
    (fun z => RInv n s outs to (fun k => 0 < room k) z.1 z.2.1 v z.2.2.2 ∧ owf 1 z.2.2.1 z.2.1.length (rvals z.2.1) ∧ z.2.2.2 ≤ (outs v).length ∧ z.1 v = true ∧ z.2.1.length + 2 * cnt n (fun u => !z.1 u) < st'.length + 1 + 2 * cnt n (fun u => !seen u))
    (fun z => K W ([(b16, bools 4 n z.1 [])] :: och 3 z.2.2.1 (rvals z.2.1) :: L0)) (fun z => (outs v).length - z.2.2.2)
    (seen, st', o.pop (.int .i64 ((v : Nat) : Int)), 0) ⟨rfl, rfl, rfl, rfl, rfl, rfl, rfl, trivial⟩ ⟨hI1, ho1, Nat.zero_le _, hvs, by dsimp only; omega⟩ (fun w h => h) ?_
  rintro ⟨seen1, st1, o1, j⟩ ⟨hJ, ho1, hj, hvs1, hmu⟩
  dsimp only at hJ ho1 hj hvs1 hmu ⊢
  refine c_seq ?_
  refine c_region ?_
  refine s_y (y_lss rfl rfl) rfl rfl rfl ?_
  refine s_nil ?_
  refine f_then ?_
  refine c_seq ?_
  refine c_condD rfl (fun hlt => ?_) (fun hge => ?_)
  rotate_left
  · refine c_exit ?_
    refine f_thenE ?_
    refine f_rndE ?_
    refine f_blockE ?_
    refine f_blockN ?_
    exact f_roundP (seen1, st1, o1) ⟨hJ.done (by omega), ho1⟩ (by simp only [List.length_append, List.length_cons, List.length_nil]; omega) ⟨rfl, rfl, rfl, trivial⟩ (fun w h => h)
  have hjl : j < (outs v).length := by omega
  obtain ⟨b, rfl, hck⟩ := hcells j hjl
  obtain ⟨k, hk⟩ : ∃ k, (outs v)[j]? = some k := ⟨_, List.getElem?_eq_getElem hjl⟩
  have hkm := hG.link v hvn k (List.mem_of_getElem? hk)
  obtain ⟨bl, cl, rfl, hlc⟩ := hL (by omega)
  have hck' := hck k hk
  have hlk := hlc k hkm
  rw [lk3_eq] at hlk
  have htn := hG.head k hkm
  have hlenv := hG.len v hvn
  have hb2 := hJ.bound
  by_cases hr : (0 : Int) < room k
  · refine c_skip ?_
    refine f_then ?_
    refine c_seq ?_
    refine c_block ?_
    refine c_seq ?_
    refine c_region ?_
    refine s_y (y_indexAddr1 Try.tabF rfl rfl rfl rfl _ rfl (by omega)) rfl rfl rfl ?_
    refine s_y (y_load Try.tabF rfl rfl (CellIs.cons (CellIs.cons (by assumption)))) rfl rfl rfl ?_
    refine s_y (y_assign rfl) rfl rfl rfl ?_
    refine s_nil ?_
    refine f_then ?_
    refine c_seq ?_
    refine c_region ?_
    refine s_y (y_move rfl) rfl rfl rfl ?_
    refine s_y (y_nilP rfl) rfl rfl rfl ?_
    refine s_y (y_fieldAddr0 Try.tabF rfl rfl rfl rfl rfl) rfl rfl rfl ?_
    refine s_y (y_load Try.tabF rfl rfl (CellIs.cons (CellIs.cons (by assumption)))) rfl rfl rfl ?_
    refine s_y (y_move rfl) rfl rfl rfl ?_
    refine s_y (y_indexAddr0 (s := 3) Try.tabF rfl rfl rfl rfl _ rfl (by omega)) rfl rfl rfl ?_
    refine s_y (y_loadA Try.tabF rfl rfl rfl rfl (CellsAre.cons (CellsAre.cons (by assumption)))) rfl rfl rfl ?_
    refine s_do (do_alloc Try.tabF rfl) rfl rfl rfl (fun b10 => ?_)
    refine s_set (set_box Try.tabF 0 rfl rfl rfl rfl rfl rfl rfl) rfl rfl ?_
    refine s_nil ?_
    refine f_then ?_
    refine c_seq ?_
    refine c_region ?_
    refine s_y (y_fieldAddrB Try.tabF 1 rfl rfl rfl rfl rfl) rfl rfl rfl ?_
    refine s_y (y_load Try.tabF rfl rfl (cell_row 0 rfl rfl)) rfl rfl rfl ?_
    refine s_y (y_T (y_gtr rfl rfl) (by assumption)) rfl rfl rfl ?_
    refine s_y (y_move rfl) rfl rfl rfl ?_
    refine s_y (y_move rfl) rfl rfl rfl ?_
    refine s_y (y_fieldAddr0 Try.tabF rfl rfl rfl rfl rfl) rfl rfl rfl ?_
    refine s_y (y_load Try.tabF rfl rfl (cell_row 0 rfl rfl)) rfl rfl rfl ?_
    refine s_y (y_indexAddr1 Try.tabF rfl rfl rfl rfl _ rfl (by omega)) rfl rfl rfl ?_
    refine s_y (y_load Try.tabF rfl rfl (cell_bools 1 rfl (by omega))) rfl rfl rfl ?_
    refine s_y (y_not rfl) rfl rfl rfl ?_
    refine s_y (y_pickT rfl rfl) rfl rfl rfl ?_
    refine s_nil ?_
    refine f_then ?_
    refine c_cond rfl (fun ht => ?_) (fun hf => ?_)
    · refine c_seq ?_
      refine c_region ?_
      refine s_y (y_move rfl) rfl rfl rfl ?_
      refine s_y (y_fieldAddr0 Try.tabF rfl rfl rfl rfl rfl) rfl rfl rfl ?_
      refine s_y (y_load Try.tabF rfl rfl (cell_row 0 rfl rfl)) rfl rfl rfl ?_
      refine s_y (y_indexAddr1 Try.tabF rfl rfl rfl rfl _ rfl (by omega)) rfl rfl rfl ?_
      refine s_set (set_bools Try.tabF 1 rfl rfl rfl rfl (by omega)) rfl rfl ?_
      refine s_nil ?_
      refine f_then ?_
      refine c_region ?_
      refine s_y (y_move rfl) rfl rfl rfl ?_
      refine s_y (y_fieldAddr0 Try.tabF rfl rfl rfl rfl rfl) rfl rfl rfl ?_
      refine s_y (y_load Try.tabF rfl rfl (cell_row 0 rfl rfl)) rfl rfl rfl ?_
      refine s_do (do_buildSlice1 Try.tabF ⟨rfl, rfl, rfl, rfl⟩ rfl rfl rfl rfl) rfl rfl rfl (fun b73 => ?_)
      have hold : seen1 (to k) = false := by simpa using ht
      have hJ2 := hJ.push hk hr hold htn hvn hvs1
      have hc := cnt_drop n (fun u => !seen1 u) (fun u => !upd seen1 (to k) true u) (to k) htn (by simp [hold]) (by simp) (fun i _ hne => by simp [upd, hne])
      refine s_do (do_append Try.tabF 3 (s := 1) (by_ := 8) (k := 1) (xs := rvals st1) (news := [.int .i64 ((to k : Nat) : Int)]) (o := o1) rfl rfl ⟨rfl, rfl, rfl, rfl⟩ rfl rfl ho1 (CellsAre.one (cell_row 0 rfl rfl)) rfl (by simp [Value.oneCell']) (by unfold maxLen; omega) (by omega)) rfl rfl rfl (fun o2 => ?_)
      refine s_y (y_assign rfl) rfl rfl rfl ?_
      refine s_nil ?_
      refine f_blockN ?_
      refine f_then ?_
      refine c_region ?_
      refine s_y (y_add rfl rfl (by omega)) rfl rfl rfl ?_
      refine s_y (y_move rfl) rfl rfl rfl ?_
      refine s_nil ?_
      exact f_roundP (upd seen1 (to k) true, st1 ++ [to k], o2.1, j + 1) ⟨hJ2, by dsimp only; rw [rvals_app, List.length_append]; exact o2.2.1, by dsimp only; omega, by simp only [upd]; split <;> simp [hvs1], by simp only [List.length_append, List.length_cons, List.length_nil]; omega⟩ (by dsimp only; omega)
        ⟨rfl, rfl, by dsimp only; rw [List.length_append]; rfl, rfl, rfl, rfl, rfl, trivial⟩ (fun w h => by dsimp only; rw [rvals_app]; exact h.tail.tail)
    · refine c_skip ?_
      refine f_blockN ?_
      refine f_then ?_
      refine c_region ?_
      refine s_y (y_add rfl rfl (by omega)) rfl rfl rfl ?_
      refine s_y (y_move rfl) rfl rfl rfl ?_
      refine s_nil ?_
      have hold : seen1 (to k) = true := by simpa using hf
      exact f_roundP (seen1, st1, o1, j + 1) ⟨hJ.keep hk (fun _ => hold), ho1, by dsimp only; omega, hvs1, hmu⟩ (by dsimp only; omega) ⟨rfl, rfl, rfl, rfl, rfl, rfl, rfl, trivial⟩ (fun w h => h.tail)
  · refine c_skip ?_
    refine f_then ?_
    refine c_seq ?_
    refine c_block ?_
    refine c_seq ?_
    refine c_region ?_
    refine s_y (y_indexAddr1 Try.tabF rfl rfl rfl rfl _ rfl (by omega)) rfl rfl rfl ?_
    refine s_y (y_load Try.tabF rfl rfl (CellIs.cons (CellIs.cons (by assumption)))) rfl rfl rfl ?_
    refine s_y (y_assign rfl) rfl rfl rfl ?_
    refine s_nil ?_
    refine f_then ?_
    refine c_seq ?_
    refine c_region ?_
    refine s_y (y_move rfl) rfl rfl rfl ?_
    refine s_y (y_nilP rfl) rfl rfl rfl ?_
    refine s_y (y_fieldAddr0 Try.tabF rfl rfl rfl rfl rfl) rfl rfl rfl ?_
    refine s_y (y_load Try.tabF rfl rfl (CellIs.cons (CellIs.cons (by assumption)))) rfl rfl rfl ?_
    refine s_y (y_move rfl) rfl rfl rfl ?_
    refine s_y (y_indexAddr0 (s := 3) Try.tabF rfl rfl rfl rfl _ rfl (by omega)) rfl rfl rfl ?_
    refine s_y (y_loadA Try.tabF rfl rfl rfl rfl (CellsAre.cons (CellsAre.cons (by assumption)))) rfl rfl rfl ?_
    refine s_do (do_alloc Try.tabF rfl) rfl rfl rfl (fun b10 => ?_)
    refine s_set (set_box Try.tabF 0 rfl rfl rfl rfl rfl rfl rfl) rfl rfl ?_
    refine s_nil ?_
    refine f_then ?_
    refine c_seq ?_
    refine c_region ?_
    refine s_y (y_fieldAddrB Try.tabF 1 rfl rfl rfl rfl rfl) rfl rfl rfl ?_
    refine s_y (y_load Try.tabF rfl rfl (cell_row 0 rfl rfl)) rfl rfl rfl ?_
    refine s_y (y_F (y_gtr rfl rfl) (by assumption)) rfl rfl rfl ?_
    refine s_y (y_move rfl) rfl rfl rfl ?_
    refine s_skip rfl rfl rfl ?_
    refine s_skip rfl rfl rfl ?_
    refine s_skip rfl rfl rfl ?_
    refine s_skip rfl rfl rfl ?_
    refine s_skip rfl rfl rfl ?_
    refine s_skip rfl rfl rfl ?_
    refine s_y (y_pickF rfl rfl) rfl rfl rfl ?_
    refine s_nil ?_
    refine f_then ?_
    refine c_condF rfl ?_
    refine c_skip ?_
    refine f_blockN ?_
    refine f_then ?_
    refine c_region ?_
    refine s_y (y_add rfl rfl (by omega)) rfl rfl rfl ?_
    refine s_y (y_move rfl) rfl rfl rfl ?_
    refine s_nil ?_
    exact f_roundP (seen1, st1, o1, j + 1) ⟨hJ.keep hk (fun h => absurd h hr), ho1, by dsimp only; omega, hvs1, hmu⟩ (by dsimp only; omega) ⟨rfl, rfl, rfl, rfl, rfl, rfl, rfl, trivial⟩ (fun w h => h.tail)
end Go.KL
end

section
/- Walks: layers. -/
namespace Go.KL
open Go.Proofs
attribute [local irreducible] SC St Fin Sq Sw Ylds Doos Sets Enters Spec CellIs CellsAre Then Ret Rnd resOK ints bools recs arr
attribute [local irreducible] rvals lk3 RowF
structure Small (n m : Nat) (cost high : Nat → Int) : Prop where
  cost : ∀ k, k < m → -1000000000000000 ≤ cost k ∧ cost k ≤ 1000000000000000
  high : ∀ v, v < n → -1000000000000000 ≤ high v ∧ high v ≤ 1000000000000000
set_option maxRecDepth 4000 in
set_option maxHeartbeats 4000000 in
theorem layers_spec (W : World) (Ls : List Chunk) (p n m s t : Nat) (vl vo a b vh : Value) (outs : Nat → List Nat) (to tl : Nat → Nat) (room cost high : Nat → Int)
    (hO : OutV (K W Ls) vo n outs) (hL : LinkV (K W Ls) vl m to room cost) (hH : HighV (K W Ls) vh n high) (hG : GOK n m outs to) (htl : ∀ v, v < n → ∀ k, k ∈ outs v → tl k = v) (hS : Small n m cost high) (hs : s < n) (ht : t < n) (hn : n ≤ 1000) (hm : m ≤ 1000000) :
    Spec Try.prog 90 #[.pointer (some ⟨p, 0, none⟩), .int .i64 s, .int .i64 t] (K W ([(p, row 127 [vl, vo, a, b, vh])] :: Ls))
      (X := { x : Nat × Nat × (Nat → Int) // LInv n s outs to (adm tl to room cost high) x.2.2 ∧ Reached n s outs to (adm tl to room cost high) (pos x.2.2) })
      (fun x => .bool (decide (0 < x.1.2.2 t))) (fun x => K W ([(p, row 127 [vl, vo, .slice (some ⟨x.1.1, 0, none⟩) n n, .slice (some ⟨x.1.2.1, 0, none⟩) n n, vh])] :: [(x.1.1, ints 3 n x.1.2.2 [])] :: [(x.1.2.1, ints 3 n (fun _ => 0) [])] :: Ls)) := by
  obtain ⟨bo, rfl, hrow⟩ := hO
  obtain ⟨bh, rfl, hhigh⟩ := hH
  refine enter (args := [_, _, _]) Try.func90 rfl Try.ntmps90 rfl ?_
  refine c_seq ?_
  refine c_region ?_
  refine s_y (y_assign rfl) rfl rfl rfl ?_
  refine s_nil ?_
  refine f_then ?_
  refine c_seq ?_
  refine c_region ?_
  refine s_y (y_move rfl) rfl rfl rfl ?_
  refine s_y (y_move rfl) rfl rfl rfl ?_
  refine s_y (y_nilP rfl) rfl rfl rfl ?_
  refine s_y (y_fieldAddrB Try.tabF 1 rfl rfl rfl rfl rfl) rfl rfl rfl ?_
  refine s_y (y_load Try.tabF rfl rfl (cell_row 0 rfl rfl)) rfl rfl rfl ?_
  refine s_y (y_len Try.tabF rfl rfl) rfl rfl rfl ?_
  refine s_do (make_ints (by_ := 8) Try.tabF rfl rfl rfl rfl rfl rfl (by omega)) rfl rfl rfl (fun b18 => ?_)
  refine s_y (y_nilP rfl) rfl rfl rfl ?_
  refine s_y (y_fieldAddrB Try.tabF 2 rfl rfl rfl rfl rfl) rfl rfl rfl ?_
  refine s_set (set_rowB Try.tabF 1 rfl rfl rfl rfl rfl rfl) rfl rfl ?_
  refine s_nil ?_
  refine f_then ?_
  refine c_seq ?_
  refine c_region ?_
  refine s_y (y_move rfl) rfl rfl rfl ?_
  refine s_y (y_move rfl) rfl rfl rfl ?_
  refine s_y (y_nilP rfl) rfl rfl rfl ?_
  refine s_y (y_fieldAddrB Try.tabF 1 rfl rfl rfl rfl rfl) rfl rfl rfl ?_
  refine s_y (y_load Try.tabF rfl rfl (cell_row 1 rfl rfl)) rfl rfl rfl ?_
  refine s_y (y_len Try.tabF rfl rfl) rfl rfl rfl ?_
  refine s_do (make_ints (by_ := 8) Try.tabF rfl rfl rfl rfl rfl rfl (by omega)) rfl rfl rfl (fun b27 => ?_)
  refine s_y (y_nilP rfl) rfl rfl rfl ?_
  refine s_y (y_fieldAddrB Try.tabF 3 rfl rfl rfl rfl rfl) rfl rfl rfl ?_
  refine s_set (set_rowB Try.tabF 2 rfl rfl rfl rfl rfl rfl) rfl rfl ?_
  refine s_nil ?_
  refine f_then ?_
  refine c_seq ?_
  refine c_region ?_
  refine s_y (y_move rfl) rfl rfl rfl ?_
  refine s_y (y_nilP rfl) rfl rfl rfl ?_
  refine s_y (y_fieldAddrB Try.tabF 2 rfl rfl rfl rfl rfl) rfl rfl rfl ?_
  refine s_y (y_load Try.tabF rfl rfl (cell_row 2 rfl rfl)) rfl rfl rfl ?_
  refine s_y (y_move rfl) rfl rfl rfl ?_
  refine s_y (y_indexAddr1 Try.tabF rfl rfl rfl rfl _ rfl (by omega)) rfl rfl rfl ?_
  refine s_set (set_ints Try.tabF 1 rfl rfl rfl rfl (by omega)) rfl rfl ?_
  refine s_nil ?_
  refine f_then ?_
  refine c_seq ?_
  refine c_region ?_
  refine s_y (y_move rfl) rfl rfl rfl ?_
  refine s_do (do_buildSlice1 Try.tabF ⟨rfl, rfl, rfl, rfl⟩ rfl rfl rfl rfl) rfl rfl rfl (fun b37 => ?_)
  refine s_y (y_assign rfl) rfl rfl rfl ?_
  refine s_nil ?_
  refine f_then ?_
  refine c_seq ?_
  refine c_block ?_
  have hcq0 := cnt_le n (pos (upd (fun _ => 0) s 1))
  refine c_loopP (α := (Nat → Int) × List Nat × Own) (fun z => [(0, .pointer (some ⟨p, 0, none⟩)), (1, .int .i64 s), (2, .int .i64 t), (7, osl z.2.2 z.2.1.length)])
    (fun z => (LInv n s outs to (adm tl to room cost high) z.1 ∧ RInv n s outs to (adm tl to room cost high) (pos z.1) z.2.1 n 0) ∧ owf 1 z.2.2 z.2.1.length (rvals z.2.1))
    (fun z => K W (och 3 z.2.2 (rvals z.2.1) :: [(b27, ints 3 n (fun _ => 0) [])] :: [(b18, ints 3 n z.1 [])] :: [(p, row 127 [vl, .slice (some ⟨bo, 0, none⟩) n n, .slice (some ⟨b18, 0, none⟩) n n, .slice (some ⟨b27, 0, none⟩) n n, .slice (some ⟨bh, 0, none⟩) n n])] :: Ls)) (fun z => z.2.1.length + 2 * cnt n (fun u => !pos z.1 u))
    (upd (fun _ => 0) s 1, [s], ⟨b37, 1, [], []⟩) ⟨rfl, rfl, rfl, rfl, trivial⟩ ⟨⟨LInv.begin hs, by dsimp only; rw [pos_upd _ _ _ (by omega)]; exact RInv.begin hs⟩, ⟨Nat.le_refl _, by unfold maxLen; dsimp only; omega, by rw [rvals_len]; rfl, by simp⟩⟩ (fun w h => by rw [rvals_one]; exact h) ?_
  rintro ⟨level, q, o⟩ ⟨⟨hLi, hI⟩, ho⟩
  dsimp only at hI hLi ho ⊢
  refine c_seq ?_
  refine c_seq ?_
  refine c_region ?_
  refine s_y (y_move rfl) rfl rfl rfl ?_
  refine s_y (y_len Try.tabF rfl rfl) rfl rfl rfl ?_
  refine s_y (y_gtr rfl rfl) rfl rfl rfl ?_
  refine s_nil ?_
  refine f_then ?_
  refine c_condD rfl (fun hpos => ?_) (fun hneg => ?_)
  rotate_left
  · have hnil : q = [] := by
      cases q with
      | nil => rfl
      | cons x r => simp only [List.length_cons] at hneg; omega
    subst hnil
    refine c_exit ?_
    refine f_thenE ?_
    refine f_rndE ?_
    refine f_blockE ?_
    refine f_then ?_
    refine c_seq ?_
    refine c_region ?_
    refine s_y (y_move rfl) rfl rfl rfl ?_
    refine s_y (y_nilP rfl) rfl rfl rfl ?_
    refine s_y (y_fieldAddrB Try.tabF 2 rfl rfl rfl rfl rfl) rfl rfl rfl ?_
    refine s_y (y_load Try.tabF rfl rfl (cell_row 3 rfl rfl)) rfl rfl rfl ?_
    refine s_y (y_move rfl) rfl rfl rfl ?_
    refine s_y (y_indexAddr1 Try.tabF rfl rfl rfl rfl _ rfl (by omega)) rfl rfl rfl ?_
    refine s_y (y_load Try.tabF rfl rfl (cell_ints 2 rfl (by omega))) rfl rfl rfl ?_
    refine s_y (y_gtr rfl rfl) rfl rfl rfl ?_
    refine s_y (y_assign rfl) rfl rfl rfl ?_
    refine s_nil ?_
    refine f_then ?_
    refine c_ret ?_
    exact f_ret ⟨(b18, b27, level), hLi, hI.reached⟩ (res1 rfl rfl) (fun w h => ((h.tail.front 1).front 2))
  obtain ⟨v, q', rfl⟩ : ∃ v q', q = v :: q' := by
    cases q with
    | nil => simp at hpos
    | cons a b => exact ⟨a, b, rfl⟩
  have hvn := (hI.stk v (by simp)).1
  have hvs : 0 < level v := of_decide_eq_true (hI.stk v (by simp)).2
  have hb1 := hI.bound
  have hlen : (v :: q').length = q'.length + 1 := by simp
  rw [hlen] at ho hb1
  rw [rvals_cons] at ho
  have hI1 := hI.popFront rfl
  clear hI
  obtain ⟨val, hval, hr⟩ := hrow v hvn
  unfold RowF at hr
  obtain ⟨pa, cc, rfl, hcells⟩ := hr
  refine c_skip ?_
  refine f_then ?_
  refine c_block ?_
  refine c_seq ?_
  refine c_region ?_
  refine s_y (y_move rfl) rfl rfl rfl ?_
  refine s_y (y_indexAddr (s := 1) Try.tabF rfl rfl rfl rfl 0 rfl (by omega)) rfl rfl rfl ?_
  refine s_y (y_load Try.tabF rfl rfl (cell_own (v := .int .i64 v) 0 rfl 0 (by omega) (by rw [rvals_cons]; rfl))) rfl rfl rfl ?_
  refine s_y (y_assign rfl) rfl rfl rfl ?_
  refine s_nil ?_
  refine f_then ?_
  refine c_seq ?_
  refine c_region ?_
  refine s_y (y_move rfl) rfl rfl rfl ?_
  refine s_y (y_eq (y_sliceFrom Try.tabF (s := 1) (lo := 1) rfl rfl rfl rfl rfl (by simp) ho.le) (osl_shift o q'.length (.int .i64 ((v : Nat) : Int)))) rfl rfl rfl ?_
  refine s_y (y_assign rfl) rfl rfl rfl ?_
  refine s_nil ?_
  refine f_then ?_
  refine c_seq ?_
  refine c_region ?_
  refine s_y (y_move rfl) rfl rfl rfl ?_
  refine s_y (y_nilP rfl) rfl rfl rfl ?_
  refine s_y (y_fieldAddrB Try.tabF 1 rfl rfl rfl rfl rfl) rfl rfl rfl ?_
  refine s_y (y_load Try.tabF rfl rfl (cell_row 3 rfl rfl)) rfl rfl rfl ?_
  refine s_y (y_move rfl) rfl rfl rfl ?_
  refine s_y (y_indexAddr1 Try.tabF rfl rfl rfl rfl _ rfl (by omega)) rfl rfl rfl ?_
  refine s_y (y_load Try.tabF rfl rfl (CellIs.cons (CellIs.cons (CellIs.cons (CellIs.cons (by assumption)))))) rfl rfl rfl ?_
  refine s_y (y_len Try.tabF rfl rfl) rfl rfl rfl ?_
  refine s_y (y_move rfl) rfl rfl rfl ?_
  refine s_nil ?_
  refine f_then ?_
  refine c_block ?_
  refine SC.cls (C' := K W (och 3 (o.shift (.int .i64 ((v : Nat) : Int))) (rvals q') :: [(b27, ints 3 n (fun _ => 0) [])] :: [(b18, ints 3 n level [])] :: [(p, row 127 [vl, .slice (some ⟨bo, 0, none⟩) n n, .slice (some ⟨b18, 0, none⟩) n n, .slice (some ⟨b27, 0, none⟩) n n, .slice (some ⟨bh, 0, none⟩) n n])] :: Ls)) ?_ (fun w h => by rw [rvals_cons, och_shift 3 ho] at h; exact h)
  have ho1 := owf_shift ho
  have hlenv := hG.len v hvn
  refine c_loopP (α := (Nat → Int) × List Nat × Own × Nat) (fun z => [(0, .pointer (some ⟨p, 0, none⟩)), (1, .int .i64 s), (2, .int .i64 t), (7, osl z.2.2.1 z.2.1.length), (8, .int .i64 v), (52, .slice pa (outs v).length cc), (53, .int .i64 (outs v).length), (54, .int .i64 z.2.2.2)])
    (fun z => (LInv n s outs to (adm tl to room cost high) z.1 ∧ RInv n s outs to (adm tl to room cost high) (pos z.1) z.2.1 v z.2.2.2) ∧ owf 1 z.2.2.1 z.2.1.length (rvals z.2.1) ∧ z.2.2.2 ≤ (outs v).length ∧ 0 < z.1 v ∧ z.2.1.length + 2 * cnt n (fun u => !pos z.1 u) < q'.length + 1 + 2 * cnt n (fun u => !pos level u))
    (fun z => K W (och 3 z.2.2.1 (rvals z.2.1) :: [(b27, ints 3 n (fun _ => 0) [])] :: [(b18, ints 3 n z.1 [])] :: [(p, row 127 [vl, .slice (some ⟨bo, 0, none⟩) n n, .slice (some ⟨b18, 0, none⟩) n n, .slice (some ⟨b27, 0, none⟩) n n, .slice (some ⟨bh, 0, none⟩) n n])] :: Ls)) (fun z => (outs v).length - z.2.2.2)
    (level, q', o.shift (.int .i64 ((v : Nat) : Int)), 0) ⟨rfl, rfl, rfl, rfl, rfl, rfl, rfl, rfl, trivial⟩ ⟨⟨hLi, hI1⟩, ho1, Nat.zero_le _, hvs, by dsimp only; omega⟩ (fun w h => h) ?_
  rintro ⟨lev, q1, o1, j⟩ ⟨⟨hL1, hJ⟩, ho1, hj, hvs1, hmu⟩
  dsimp only at hL1 hJ ho1 hj hvs1 hmu ⊢
  refine c_seq ?_
  refine c_region ?_
  refine s_y (y_lss rfl rfl) rfl rfl rfl ?_
  refine s_nil ?_
  refine f_then ?_
  refine c_seq ?_
  refine c_condD rfl (fun hlt => ?_) (fun hge => ?_)
  rotate_left
  · refine c_exit ?_
    refine f_thenE ?_
    refine f_rndE ?_
    refine f_blockE ?_
    refine f_blockN ?_
    exact f_roundP (lev, q1, o1) ⟨⟨hL1, hJ.done (by omega)⟩, ho1⟩ (by simp only [List.length_cons]; omega) ⟨rfl, rfl, rfl, rfl, trivial⟩ (fun w h => h)
  have hjl : j < (outs v).length := by omega
  obtain ⟨b, rfl, hck⟩ := hcells j hjl
  obtain ⟨k, hk⟩ : ∃ k, (outs v)[j]? = some k := ⟨_, List.getElem?_eq_getElem hjl⟩
  have hkv := List.mem_of_getElem? hk
  have hkm := hG.link v hvn k hkv
  obtain ⟨bl, cl, rfl, hlc⟩ := hL (by omega)
  have hck' := hck k hk
  have hlk := hlc k hkm
  rw [lk3_eq] at hlk
  have htn := hG.head k hkm
  have hb2 := hJ.bound
  have htk := htl v hvn k hkv
  have hhv := hhigh v hvn
  have hht := hhigh (to k) htn
  have hc1 := hS.cost k hkm
  have hc2 := hS.high v hvn
  have hc3 := hS.high (to k) htn
  have hlv1 := hL1.hi v
  have hlv2 := cnt_le n (pos lev)
  have hlo := hL1.lo (to k)
  by_cases hr : (0 : Int) < room k
  · by_cases hnew : lev (to k) = 0
    · refine c_skip ?_
      refine f_then ?_
      refine c_seq ?_
      refine c_block ?_
      refine c_seq ?_
      refine c_region ?_
      refine s_y (y_indexAddr1 Try.tabF rfl rfl rfl rfl _ rfl (by omega)) rfl rfl rfl ?_
      refine s_y (y_load Try.tabF rfl rfl (CellIs.cons (CellIs.cons (CellIs.cons (CellIs.cons (by assumption)))))) rfl rfl rfl ?_
      refine s_y (y_assign rfl) rfl rfl rfl ?_
      refine s_nil ?_
      refine f_then ?_
      refine c_seq ?_
      refine c_region ?_
      refine s_y (y_move rfl) rfl rfl rfl ?_
      refine s_y (y_nilP rfl) rfl rfl rfl ?_
      refine s_y (y_fieldAddr0 Try.tabF rfl rfl rfl rfl rfl) rfl rfl rfl ?_
      refine s_y (y_load Try.tabF rfl rfl (cell_row 3 rfl rfl)) rfl rfl rfl ?_
      refine s_y (y_move rfl) rfl rfl rfl ?_
      refine s_y (y_indexAddr0 (s := 3) Try.tabF rfl rfl rfl rfl _ rfl (by omega)) rfl rfl rfl ?_
      refine s_y (y_loadA Try.tabF rfl rfl rfl rfl (CellsAre.cons (CellsAre.cons (CellsAre.cons (CellsAre.cons (by assumption)))))) rfl rfl rfl ?_
      refine s_do (do_alloc Try.tabF rfl) rfl rfl rfl (fun b11 => ?_)
      refine s_set (set_box Try.tabF 0 rfl rfl rfl rfl rfl rfl rfl) rfl rfl ?_
      refine s_nil ?_
      refine f_then ?_
      refine c_seq ?_
      refine c_quiet Try.mixed (by kernel_rfl) K.drew ?_
      refine q_y (y_fieldAddrB Try.tabF 1 rfl rfl rfl rfl rfl) rfl rfl rfl ?_
      refine q_y (y_load Try.tabF rfl rfl (cell_row 0 rfl rfl)) rfl rfl rfl ?_
      refine q_y (y_T (y_gtr rfl rfl) (by assumption)) rfl rfl rfl ?_
      refine q_y (y_move rfl) rfl rfl rfl ?_
      refine q_y (y_move rfl) rfl rfl rfl ?_
      refine q_y (y_nilP rfl) rfl rfl rfl ?_
      refine q_y (y_fieldAddrB Try.tabF 2 rfl rfl rfl rfl rfl) rfl rfl rfl ?_
      refine q_y (y_load Try.tabF rfl rfl (cell_row 4 rfl rfl)) rfl rfl rfl ?_
      refine q_y (y_fieldAddr0 Try.tabF rfl rfl rfl rfl rfl) rfl rfl rfl ?_
      refine q_y (y_load Try.tabF rfl rfl (cell_row 0 rfl rfl)) rfl rfl rfl ?_
      refine q_y (y_indexAddr1 Try.tabF rfl rfl rfl rfl _ rfl (by omega)) rfl rfl rfl ?_
      refine q_y (y_load Try.tabF rfl rfl (cell_ints 3 rfl (by omega))) rfl rfl rfl ?_
      refine q_y (y_T (y_eql rfl rfl) (by assumption)) rfl rfl rfl ?_
      refine q_y (y_pickT rfl rfl) rfl rfl rfl ?_
      refine q_y (y_move rfl) rfl rfl rfl ?_
      refine q_y (y_move rfl) rfl rfl rfl ?_
      refine q_y (y_move rfl) rfl rfl rfl ?_
      refine q_y (y_move rfl) rfl rfl rfl ?_
      refine q_call (en_f rfl Try.call103) (reduced_spec W _ p bl m cl bh n n k v (to k) (room k) (cost k) (high v) (high (to k)) (cell_row 4 rfl rfl) (CellsAre.cons (CellsAre.cons (CellsAre.cons (CellsAre.cons (CellsAre.cons hlk))))) hkm (cell_row 4 rfl rfl) (CellIs.cons (CellIs.cons (CellIs.cons (CellIs.cons (CellIs.cons hhv))))) (CellIs.cons (CellIs.cons (CellIs.cons (CellIs.cons (CellIs.cons hht))))) hvn htn (by omega)) rfl rfl rfl ?_
      by_cases hrd : cost k + high v - high (to k) = 0
      · refine q_y (y_T (y_eql rfl rfl) (by assumption)) rfl rfl rfl ?_
        refine q_y (y_pickT rfl rfl) rfl rfl rfl ?_
        refine q_nil ?_
        refine f_then ?_
        refine c_condT rfl ?_
        refine c_seq ?_
        refine c_tail 15 Try.mixed (by kernel_rfl) K.drew ?_
        refine w_y (y_move rfl) rfl rfl rfl ?_
        refine w_y (y_nilP rfl) rfl rfl rfl ?_
        refine w_y (y_fieldAddrB Try.tabF 2 rfl rfl rfl rfl rfl) rfl rfl rfl ?_
        refine w_y (y_load Try.tabF rfl rfl (cell_row 4 rfl rfl)) rfl rfl rfl ?_
        refine w_y (y_fieldAddr0 Try.tabF rfl rfl rfl rfl rfl) rfl rfl rfl ?_
        refine w_y (y_load Try.tabF rfl rfl (cell_row 0 rfl rfl)) rfl rfl rfl ?_
        refine w_y (y_move rfl) rfl rfl rfl ?_
        refine w_y (y_nilP rfl) rfl rfl rfl ?_
        refine w_y (y_fieldAddrB Try.tabF 2 rfl rfl rfl rfl rfl) rfl rfl rfl ?_
        refine w_y (y_load Try.tabF rfl rfl (cell_row 4 rfl rfl)) rfl rfl rfl ?_
        refine w_y (y_move rfl) rfl rfl rfl ?_
        refine w_y (y_indexAddr1 Try.tabF rfl rfl rfl rfl _ rfl (by omega)) rfl rfl rfl ?_
        refine w_y (y_load Try.tabF rfl rfl (cell_ints 3 rfl (by omega))) rfl rfl rfl ?_
        refine w_y (y_add rfl rfl (by omega)) rfl rfl rfl ?_
        refine w_y (y_indexAddr1 Try.tabF rfl rfl rfl rfl _ rfl (by omega)) rfl rfl rfl ?_
        refine w_nil ?_
        refine s_set (set_ints Try.tabF 3 rfl rfl rfl rfl (by omega)) rfl rfl ?_
        refine s_nil ?_
        refine f_then ?_
        refine c_region ?_
        refine s_y (y_move rfl) rfl rfl rfl ?_
        refine s_y (y_fieldAddr0 Try.tabF rfl rfl rfl rfl rfl) rfl rfl rfl ?_
        refine s_y (y_load Try.tabF rfl rfl (cell_row 0 rfl rfl)) rfl rfl rfl ?_
        refine s_do (do_buildSlice1 Try.tabF ⟨rfl, rfl, rfl, rfl⟩ rfl rfl rfl rfl) rfl rfl rfl (fun b104 => ?_)
        have hns : to k ≠ s := fun e => by rw [e, hL1.one] at hnew; omega
        have hok : adm tl to room cost high k := ⟨hr, by rw [htk]; exact hrd⟩
        have hL2 := hL1.push hvn hkv hok hnew htn hvs1 hns
        have hpu := pos_upd lev (to k) (lev v + 1) (by omega)
        have hJ2 := hJ.push hk hok (decide_eq_false (by omega)) htn hvn (decide_eq_true hvs1)
        rw [← hpu] at hJ2
        have hc := cnt_drop n (fun u => !pos lev u) (fun u => !pos (upd lev (to k) (lev v + 1)) u) (to k) htn (by simp [pos, hnew]) (by rw [hpu]; simp) (fun i _ hne => by rw [hpu]; simp [upd, hne])
        refine s_do (do_append Try.tabF 2 (s := 1) (by_ := 8) (k := 1) (xs := rvals q1) (news := [.int .i64 ((to k : Nat) : Int)]) (o := o1) rfl rfl ⟨rfl, rfl, rfl, rfl⟩ rfl rfl ho1 (CellsAre.one (cell_row 0 rfl rfl)) rfl (by simp [Value.oneCell']) (by unfold maxLen; omega) (by omega)) rfl rfl rfl (fun o2 => ?_)
        refine s_y (y_assign rfl) rfl rfl rfl ?_
        refine s_nil ?_
        refine f_blockN ?_
        refine f_then ?_
        refine c_region ?_
        refine s_y (y_add rfl rfl (by omega)) rfl rfl rfl ?_
        refine s_y (y_move rfl) rfl rfl rfl ?_
        refine s_nil ?_
        exact f_roundP (upd lev (to k) (lev v + 1), q1 ++ [to k], o2.1, j + 1) ⟨⟨hL2, hJ2⟩, by dsimp only; rw [rvals_app, List.length_append]; exact o2.2.1, by dsimp only; omega, by simp only [upd]; split <;> omega, by simp only [List.length_append, List.length_cons, List.length_nil]; omega⟩ (by dsimp only; omega)
          ⟨rfl, rfl, rfl, by dsimp only; rw [List.length_append]; rfl, rfl, rfl, rfl, rfl, trivial⟩ (fun w h => by dsimp only; rw [rvals_app]; exact h.tail.tail)
      · refine q_y (y_F (y_eql rfl rfl) (by assumption)) rfl rfl rfl ?_
        refine q_y (y_pickT rfl rfl) rfl rfl rfl ?_
        refine q_nil ?_
        refine f_then ?_
        refine c_condF rfl ?_
        refine c_skip ?_
        refine f_blockN ?_
        refine f_then ?_
        refine c_region ?_
        refine s_y (y_add rfl rfl (by omega)) rfl rfl rfl ?_
        refine s_y (y_move rfl) rfl rfl rfl ?_
        refine s_nil ?_
        exact f_roundP (lev, q1, o1, j + 1) ⟨⟨hL1, hJ.keep hk (fun h => absurd (by rw [← htk]; exact h.2) hrd)⟩, ho1, by dsimp only; omega, hvs1, hmu⟩ (by dsimp only; omega) ⟨rfl, rfl, rfl, rfl, rfl, rfl, rfl, rfl, trivial⟩ (fun w h => h.tail)
    · refine c_skip ?_
      refine f_then ?_
      refine c_seq ?_
      refine c_block ?_
      refine c_seq ?_
      refine c_region ?_
      refine s_y (y_indexAddr1 Try.tabF rfl rfl rfl rfl _ rfl (by omega)) rfl rfl rfl ?_
      refine s_y (y_load Try.tabF rfl rfl (CellIs.cons (CellIs.cons (CellIs.cons (CellIs.cons (by assumption)))))) rfl rfl rfl ?_
      refine s_y (y_assign rfl) rfl rfl rfl ?_
      refine s_nil ?_
      refine f_then ?_
      refine c_seq ?_
      refine c_region ?_
      refine s_y (y_move rfl) rfl rfl rfl ?_
      refine s_y (y_nilP rfl) rfl rfl rfl ?_
      refine s_y (y_fieldAddr0 Try.tabF rfl rfl rfl rfl rfl) rfl rfl rfl ?_
      refine s_y (y_load Try.tabF rfl rfl (cell_row 3 rfl rfl)) rfl rfl rfl ?_
      refine s_y (y_move rfl) rfl rfl rfl ?_
      refine s_y (y_indexAddr0 (s := 3) Try.tabF rfl rfl rfl rfl _ rfl (by omega)) rfl rfl rfl ?_
      refine s_y (y_loadA Try.tabF rfl rfl rfl rfl (CellsAre.cons (CellsAre.cons (CellsAre.cons (CellsAre.cons (by assumption)))))) rfl rfl rfl ?_
      refine s_do (do_alloc Try.tabF rfl) rfl rfl rfl (fun b11 => ?_)
      refine s_set (set_box Try.tabF 0 rfl rfl rfl rfl rfl rfl rfl) rfl rfl ?_
      refine s_nil ?_
      refine f_then ?_
      refine c_seq ?_
      refine c_quiet Try.mixed (by kernel_rfl) K.drew ?_
      refine q_y (y_fieldAddrB Try.tabF 1 rfl rfl rfl rfl rfl) rfl rfl rfl ?_
      refine q_y (y_load Try.tabF rfl rfl (cell_row 0 rfl rfl)) rfl rfl rfl ?_
      refine q_y (y_T (y_gtr rfl rfl) (by assumption)) rfl rfl rfl ?_
      refine q_y (y_move rfl) rfl rfl rfl ?_
      refine q_y (y_move rfl) rfl rfl rfl ?_
      refine q_y (y_nilP rfl) rfl rfl rfl ?_
      refine q_y (y_fieldAddrB Try.tabF 2 rfl rfl rfl rfl rfl) rfl rfl rfl ?_
      refine q_y (y_load Try.tabF rfl rfl (cell_row 4 rfl rfl)) rfl rfl rfl ?_
      refine q_y (y_fieldAddr0 Try.tabF rfl rfl rfl rfl rfl) rfl rfl rfl ?_
      refine q_y (y_load Try.tabF rfl rfl (cell_row 0 rfl rfl)) rfl rfl rfl ?_
      refine q_y (y_indexAddr1 Try.tabF rfl rfl rfl rfl _ rfl (by omega)) rfl rfl rfl ?_
      refine q_y (y_load Try.tabF rfl rfl (cell_ints 3 rfl (by omega))) rfl rfl rfl ?_
      refine q_y (y_F (y_eql rfl rfl) (by assumption)) rfl rfl rfl ?_
      refine q_y (y_pickT rfl rfl) rfl rfl rfl ?_
      refine q_y (y_move rfl) rfl rfl rfl ?_
      refine q_skip rfl rfl rfl ?_
      refine q_skip rfl rfl rfl ?_
      refine q_skip rfl rfl rfl ?_
      refine q_skip rfl rfl rfl ?_
      refine q_skip rfl rfl rfl ?_
      refine q_y (y_pickF rfl rfl) rfl rfl rfl ?_
      refine q_nil ?_
      refine f_then ?_
      refine c_condF rfl ?_
      refine c_skip ?_
      refine f_blockN ?_
      refine f_then ?_
      refine c_region ?_
      refine s_y (y_add rfl rfl (by omega)) rfl rfl rfl ?_
      refine s_y (y_move rfl) rfl rfl rfl ?_
      refine s_nil ?_
      exact f_roundP (lev, q1, o1, j + 1) ⟨⟨hL1, hJ.keep hk (fun _ => decide_eq_true (by omega))⟩, ho1, by dsimp only; omega, hvs1, hmu⟩ (by dsimp only; omega) ⟨rfl, rfl, rfl, rfl, rfl, rfl, rfl, rfl, trivial⟩ (fun w h => h.tail)
  · refine c_skip ?_
    refine f_then ?_
    refine c_seq ?_
    refine c_block ?_
    refine c_seq ?_
    refine c_region ?_
    refine s_y (y_indexAddr1 Try.tabF rfl rfl rfl rfl _ rfl (by omega)) rfl rfl rfl ?_
    refine s_y (y_load Try.tabF rfl rfl (CellIs.cons (CellIs.cons (CellIs.cons (CellIs.cons (by assumption)))))) rfl rfl rfl ?_
    refine s_y (y_assign rfl) rfl rfl rfl ?_
    refine s_nil ?_
    refine f_then ?_
    refine c_seq ?_
    refine c_region ?_
    refine s_y (y_move rfl) rfl rfl rfl ?_
    refine s_y (y_nilP rfl) rfl rfl rfl ?_
    refine s_y (y_fieldAddr0 Try.tabF rfl rfl rfl rfl rfl) rfl rfl rfl ?_
    refine s_y (y_load Try.tabF rfl rfl (cell_row 3 rfl rfl)) rfl rfl rfl ?_
    refine s_y (y_move rfl) rfl rfl rfl ?_
    refine s_y (y_indexAddr0 (s := 3) Try.tabF rfl rfl rfl rfl _ rfl (by omega)) rfl rfl rfl ?_
    refine s_y (y_loadA Try.tabF rfl rfl rfl rfl (CellsAre.cons (CellsAre.cons (CellsAre.cons (CellsAre.cons (by assumption)))))) rfl rfl rfl ?_
    refine s_do (do_alloc Try.tabF rfl) rfl rfl rfl (fun b11 => ?_)
    refine s_set (set_box Try.tabF 0 rfl rfl rfl rfl rfl rfl rfl) rfl rfl ?_
    refine s_nil ?_
    refine f_then ?_
    refine c_seq ?_
    refine c_quiet Try.mixed (by kernel_rfl) K.drew ?_
    refine q_y (y_fieldAddrB Try.tabF 1 rfl rfl rfl rfl rfl) rfl rfl rfl ?_
    refine q_y (y_load Try.tabF rfl rfl (cell_row 0 rfl rfl)) rfl rfl rfl ?_
    refine q_y (y_F (y_gtr rfl rfl) (by assumption)) rfl rfl rfl ?_
    refine q_y (y_move rfl) rfl rfl rfl ?_
    refine q_skip rfl rfl rfl ?_
    refine q_skip rfl rfl rfl ?_
    refine q_skip rfl rfl rfl ?_
    refine q_skip rfl rfl rfl ?_
    refine q_skip rfl rfl rfl ?_
    refine q_skip rfl rfl rfl ?_
    refine q_skip rfl rfl rfl ?_
    refine q_skip rfl rfl rfl ?_
    refine q_skip rfl rfl rfl ?_
    refine q_y (y_pickF rfl rfl) rfl rfl rfl ?_
    refine q_y (y_move rfl) rfl rfl rfl ?_
    refine q_skip rfl rfl rfl ?_
    refine q_skip rfl rfl rfl ?_
    refine q_skip rfl rfl rfl ?_
    refine q_skip rfl rfl rfl ?_
    refine q_skip rfl rfl rfl ?_
    refine q_y (y_pickF rfl rfl) rfl rfl rfl ?_
    refine q_nil ?_
    refine f_then ?_
    refine c_condF rfl ?_
    refine c_skip ?_
    refine f_blockN ?_
    refine f_then ?_
    refine c_region ?_
    refine s_y (y_add rfl rfl (by omega)) rfl rfl rfl ?_
    refine s_y (y_move rfl) rfl rfl rfl ?_
    refine s_nil ?_
    exact f_roundP (lev, q1, o1, j + 1) ⟨⟨hL1, hJ.keep hk (fun h => absurd h.1 hr)⟩, ho1, by dsimp only; omega, hvs1, hmu⟩ (by dsimp only; omega) ⟨rfl, rfl, rfl, rfl, rfl, rfl, rfl, rfl, trivial⟩ (fun w h => h.tail)
end Go.KL
end

section
/- The network's memory while flow is sent: the links' own block. -/
namespace Go.KL
open Go.Proofs
def lg (to : Nat → Nat) (room cost : Nat → Int) : Nat → Nat → Value := lnk (fun k => (to k : Int)) room cost
set_option maxRecDepth 4000 in
theorem lg_upd (to : Nat → Nat) (room cost : Nat → Int) (k : Nat) (x : Int) : upd2 (lg to room cost) k 1 (.int .i64 x) = lg to (upd room k x) cost := by
  funext a j
  simp only [upd2, lg, lnk, upd]
  by_cases h : a = k
  · subst h
    match j with
    | 0 => simp
    | 1 => simp
    | j + 2 => simp
  · simp only [h, false_and, if_false]
/-- Integers behind a slice. -/
def IntsV (C : World → Prop) (v : Value) (n : Nat) (f : Nat → Int) : Prop := ∃ b, v = .slice (some ⟨b, 0, none⟩) n n ∧ ∀ u, u < n → CellIs C ⟨b, u, none⟩ (.int .i64 (f u))
set_option maxRecDepth 4000 in
theorem IntsV.cls {C D : World → Prop} {v : Value} {n : Nat} {f : Nat → Int} (h : IntsV C v n f) (hC : ∀ w, D w → C w) : IntsV D v n f :=
  let ⟨b, h1, h2⟩ := h; ⟨b, h1, fun u hu => (h2 u hu).cls hC⟩
/-- The links' chunk, whatever the rooms. -/
def LinkC (vl : Value) (Lc : (Nat → Int) → Chunk) (m : Nat) (to : Nat → Nat) (cost : Nat → Int) : Prop :=
  0 < m → ∃ bl c rest, vl = .slice (some ⟨bl, 0, none⟩) m c ∧ Lc = fun room => [(bl, recs 129 3 m (lg to room cost) rest)]
set_option maxRecDepth 4000 in
theorem nxt_upd (nxt : Nat → Nat) (v : Nat) : (fun u => ((upd nxt v (nxt v + 1) u : Nat) : Int)) = upd (fun u => ((nxt u : Nat) : Int)) v ((nxt v : Int) + 1) := by
  funext u; simp only [upd]; split
  · rename_i h; subst h; omega
  · rfl
set_option maxRecDepth 4000 in
theorem PG.gok {n m : Nat} {outs : Nat → List Nat} {to tl par : Nat → Nat} {cost : Nat → Int} (h : PG n m outs to tl par cost) : GOK n m outs to :=
  ⟨fun v hv k hk => ((h.out_iff v hv k).1 hk).1, h.head, h.len⟩
set_option maxRecDepth 4000 in
theorem CellIs_recs {W : World} {Ls : List Chunk} (i : Nat) {b k m : Nat} {to : Nat → Nat} {room cost : Nat → Int} {rest : List Value} {c : Chunk} (hi : Ls.getD i [] = (b, recs 129 3 m (lg to room cost) rest) :: c) (hk : k < m) :
    CellsAre (K W Ls) ⟨b, k * 3, none⟩ [.int .i64 ((to k : Nat) : Int), .int .i64 (room k), .int .i64 (cost k)] := cells_recs i hi hk
set_option maxRecDepth 4000 in
theorem cell_room {W : World} {Ls : List Chunk} (i : Nat) {b k m : Nat} {to : Nat → Nat} {room cost : Nat → Int} {rest : List Value} {c : Chunk} (hi : Ls.getD i [] = (b, recs 129 3 m (lg to room cost) rest) :: c) (hk : k < m) :
    CellIs (K W Ls) ⟨b, k * 3 + 1, none⟩ (.int .i64 (room k)) := cell_recs i hi hk (by omega)
end Go.KL
end

section
/- Walks: push. -/
namespace Go.KL
open Go.Proofs
attribute [local irreducible] SC St Fin Sq Sw Ylds Doos Sets Enters Spec CellIs CellsAre Then Ret Rnd resOK ints bools recs arr
attribute [local irreducible] RowF lg
set_option maxRecDepth 4000 in
set_option maxHeartbeats 8000000 in
theorem push_spec (W : World) (Ls : List Chunk) (p nb n m t : Nat) (vl vo vlev vh : Value) (Lc : (Nat → Int) → Chunk) (outs : Nat → List Nat) (to tl : Nat → Nat) (cost high lev : Nat → Int)
    (hO : OutV (K W Ls) vo n outs) (hH : HighV (K W Ls) vh n high) (hV : IntsV (K W Ls) vlev n lev) (hLc : LinkC vl Lc m to cost) (hG : PG n m outs to tl par2 cost) (hS : ∀ k, k < m → -1000000000000000 ≤ cost k ∧ cost k ≤ 1000000000000000) (hS2 : ∀ v, v < n → -1000000000000000 ≤ high v ∧ high v ≤ 1000000000000000)
    (ht : t < n) (hn : n ≤ 1000) (hm : m ≤ 1000000) (hlev : ∀ u, u < n → 0 ≤ lev u ∧ lev u ≤ n) :
    ∀ (d v : Nat) (most : Int) (room : Nat → Int) (nxt : Nat → Nat), v < n → (n : Int) < lev v + d → 0 ≤ most → most ≤ 9223372036854775807 → (∀ k, k < m → 0 ≤ room k) → (∀ k, k < m → room k + room (par2 k) ≤ 4000000000000000000) → (∀ u, u < n → nxt u ≤ (outs u).length) →
    Spec Try.prog 91 #[.pointer (some ⟨p, 0, none⟩), .int .i64 v, .int .i64 t, .int .i64 most] (K W ([(p, row 127 [vl, vo, vlev, .slice (some ⟨nb, 0, none⟩) n n, vh])] :: Lc room :: [(nb, ints 3 n (fun u => (nxt u : Int)) [])] :: Ls))
      (X := { x : Int × (Nat → Int) × (Nat → Nat) // Sent m to tl par2 cost high lev t v most room x.2.1 x.1 ∧ Moved lev v nxt x.2.2 ∧ (∀ u, u < n → x.2.2 u ≤ (outs u).length) ∧
        (0 < most → Past n outs to tl cost high lev t room nxt → x.1 = 0 → Past n outs to tl cost high lev t room x.2.2 ∧ ¬ Way n outs to tl cost high lev room t v) })
      (fun x => .int .i64 x.1.1) (fun x => K W ([(p, row 127 [vl, vo, vlev, .slice (some ⟨nb, 0, none⟩) n n, vh])] :: Lc x.1.2.1 :: [(nb, ints 3 n (fun u => (x.1.2.2 u : Int)) [])] :: Ls)) := by
  obtain ⟨bo, rfl, hrow⟩ := hO
  obtain ⟨bh, rfl, hhigh⟩ := hH
  obtain ⟨blv, rfl, hlv⟩ := hV
  intro d
  induction d with
  | zero => intro v most room nxt hv hd; have := (hlev v hv).2; omega
  | succ d ih =>
  intro v most room nxt hv hd hm0 hm1 hr0 hr1 hnx
  refine enter (args := [_, _, _, _]) Try.func91 rfl Try.ntmps91 rfl ?_
  by_cases hvt : (v : Int) = (t : Int)
  · refine c_seq ?_
    refine c_region ?_
    refine s_y (y_assign rfl) rfl rfl rfl ?_
    refine s_nil ?_
    refine f_then ?_
    refine c_scope ?_
    refine c_seq ?_
    refine c_seq ?_
    refine c_region ?_
    refine s_y (y_move rfl) rfl rfl rfl ?_
    refine s_y (y_move rfl) rfl rfl rfl ?_
    refine s_y (y_T (y_eql rfl rfl) (by assumption)) rfl rfl rfl ?_
    refine s_nil ?_
    refine f_then ?_
    refine c_condT rfl ?_
    refine c_seq ?_
    refine c_region ?_
    refine s_y (y_move rfl) rfl rfl rfl ?_
    refine s_y (y_assign rfl) rfl rfl rfl ?_
    refine s_nil ?_
    refine f_then ?_
    refine c_ret ?_
    refine f_thenR ?_
    refine f_noR ?_
    have hvt' : v = t := by omega
    subst hvt'
    exact f_ret ⟨(most, room, nxt), Sent.atT hm0 hr0, Moved.refl _ _, hnx, fun h1 _ h2 => by dsimp only at h2; omega⟩ (res1 rfl rfl) (fun w h => h)
  obtain ⟨val, hval, hr⟩ := hrow v hv
  unfold RowF at hr
  obtain ⟨pa, cc, rfl, hcells⟩ := hr
  refine c_seq ?_
  refine c_region ?_
  refine s_y (y_assign rfl) rfl rfl rfl ?_
  refine s_nil ?_
  refine f_then ?_
  refine c_scope ?_
  refine c_seq ?_
  refine c_seq ?_
  refine c_region ?_
  refine s_y (y_move rfl) rfl rfl rfl ?_
  refine s_y (y_move rfl) rfl rfl rfl ?_
  refine s_y (y_F (y_eql rfl rfl) (by assumption)) rfl rfl rfl ?_
  refine s_nil ?_
  refine f_then ?_
  refine c_condF rfl ?_
  refine c_skip ?_
  refine f_then ?_
  refine c_seq ?_
  refine c_region ?_
  refine s_y (y_assign rfl) rfl rfl rfl ?_
  refine s_nil ?_
  refine f_then ?_
  refine c_seq ?_
  refine c_label ?_
  refine f_then ?_
  refine c_seq ?_
  refine c_block ?_
  refine c_loopP (α := Int × (Nat → Int) × (Nat → Nat)) (fun z => [(0, .pointer (some ⟨p, 0, none⟩)), (1, .int .i64 v), (2, .int .i64 t), (3, .int .i64 most), (9, .int .i64 z.1)])
    (fun z => (Sent m to tl par2 cost high lev t v most room z.2.1 z.1 ∧ Moved lev v nxt z.2.2) ∧ (∀ u, u < n → z.2.2 u ≤ (outs u).length) ∧ (0 < most → Past n outs to tl cost high lev t room nxt → z.1 = 0 → Past n outs to tl cost high lev t room z.2.2))
    (fun z => K W ([(p, row 127 [vl, .slice (some ⟨bo, 0, none⟩) n n, .slice (some ⟨blv, 0, none⟩) n n, .slice (some ⟨nb, 0, none⟩) n n, .slice (some ⟨bh, 0, none⟩) n n])] :: Lc z.2.1 :: [(nb, ints 3 n (fun u => (z.2.2 u : Int)) [])] :: Ls)) (fun z => (outs v).length - z.2.2 v)
    (0, room, nxt) ⟨rfl, rfl, rfl, rfl, rfl, trivial⟩ ⟨⟨Sent.none hm0 hr0, Moved.refl _ _⟩, hnx, fun _ h _ => h⟩ (fun w h => h) ?_
  rintro ⟨sent, room1, nxt1⟩ ⟨⟨hs1, hmv1⟩, hn1, hp1⟩
  dsimp only at hs1 hmv1 hn1 hp1 ⊢
  have hvn1 := hn1 v hv
  have hlenv := hG.len v hv
  have q1 := hs1.lo
  have q2 := hs1.hi
  refine c_seq ?_
  refine c_seq ?_
  refine c_quiet Try.mixed (by kernel_rfl) K.drew ?_
  refine q_y (y_move rfl) rfl rfl rfl ?_
  refine q_y (y_nilP rfl) rfl rfl rfl ?_
  refine q_y (y_fieldAddrB Try.tabF 3 rfl rfl rfl rfl rfl) rfl rfl rfl ?_
  refine q_y (y_load Try.tabF rfl rfl (cell_row 0 rfl rfl)) rfl rfl rfl ?_
  refine q_y (y_move rfl) rfl rfl rfl ?_
  refine q_y (y_indexAddr1 Try.tabF rfl rfl rfl rfl _ rfl (by omega)) rfl rfl rfl ?_
  refine q_y (y_load Try.tabF rfl rfl (cell_ints 2 rfl (by omega))) rfl rfl rfl ?_
  refine q_y (y_move rfl) rfl rfl rfl ?_
  refine q_y (y_nilP rfl) rfl rfl rfl ?_
  refine q_y (y_fieldAddrB Try.tabF 1 rfl rfl rfl rfl rfl) rfl rfl rfl ?_
  refine q_y (y_load Try.tabF rfl rfl (cell_row 0 rfl rfl)) rfl rfl rfl ?_
  refine q_y (y_move rfl) rfl rfl rfl ?_
  refine q_y (y_indexAddr1 Try.tabF rfl rfl rfl rfl _ rfl (by omega)) rfl rfl rfl ?_
  refine q_y (y_load Try.tabF rfl rfl (CellIs.cons (CellIs.cons (CellIs.cons (by assumption))))) rfl rfl rfl ?_
  refine q_y (y_len Try.tabF rfl rfl) rfl rfl rfl ?_
  refine q_y (y_lss rfl rfl) rfl rfl rfl ?_
  refine q_nil ?_
  refine f_then ?_
  refine c_condD rfl (fun hlt => ?_) (fun hge => ?_)
  rotate_left
  · refine c_exit ?_
    refine f_thenE ?_
    refine f_rndE ?_
    refine f_blockE ?_
    refine f_then ?_
    refine c_seq ?_
    refine c_region ?_
    refine s_y (y_move rfl) rfl rfl rfl ?_
    refine s_y (y_assign rfl) rfl rfl rfl ?_
    refine s_nil ?_
    refine f_then ?_
    refine c_ret ?_
    refine f_noR ?_
    exact f_ret ⟨(sent, room1, nxt1), hs1, hmv1, hn1, fun h1 h2 h3 => ⟨hp1 h1 h2 h3, (hp1 h1 h2 h3).noWay hv (by omega) (by omega)⟩⟩ (res1 rfl rfl) (fun w h => h)
  have hjl : nxt1 v < (outs v).length := by omega
  obtain ⟨b, rfl, hck⟩ := hcells _ hjl
  obtain ⟨k, hk⟩ : ∃ k, (outs v)[nxt1 v]? = some k := ⟨_, List.getElem?_eq_getElem hjl⟩
  have hkv := List.mem_of_getElem? hk
  obtain ⟨hkm, htk⟩ := (hG.out_iff v hv k).1 hkv
  obtain ⟨bl, cl, rest, rfl, rfl⟩ := hLc (by omega)
  dsimp only at ih ⊢
  have hck' := hck k hk
  have htn := hG.head k hkm
  have hpm := hG.par_lt k hkm
  have hhv := hhigh v hv
  have hht := hhigh (to k) htn
  have hlv1 := hlv v hv
  have hlt1 := hlv (to k) htn
  have hc1 := hS k hkm
  have hc2 := hS2 v hv
  have hc3 := hS2 (to k) htn
  have hc4 := hlev v hv
  have hc5 := hlev (to k) htn
  have hr3 := hs1.nonneg k hkm
  have hr4 := hs1.pair k hkm
  have hr5 := hr1 k hkm
  have hr6 := hs1.nonneg _ hpm
  have hlk := CellIs_recs (W := W) (Ls := [(p, row 127 [.slice (some ⟨bl, 0, none⟩) m cl, .slice (some ⟨bo, 0, none⟩) n n, .slice (some ⟨blv, 0, none⟩) n n, .slice (some ⟨nb, 0, none⟩) n n, .slice (some ⟨bh, 0, none⟩) n n])] :: [(bl, recs 129 3 m (lg to room1 cost) rest)] :: [(nb, ints 3 n (fun u => (nxt1 u : Int)) [])] :: Ls) 1 rfl hkm
  have hinc : ∀ u, u < n → upd nxt1 v (nxt1 v + 1) u ≤ (outs u).length := fun u hu => by
    have := hn1 u hu
    simp only [upd]; split
    · rename_i e; subst e; omega
    · exact this
  have hskip : ¬ Adm to tl cost high lev room1 k → 0 < most → Past n outs to tl cost high lev t room nxt → sent = 0 → Past n outs to tl cost high lev t room (upd nxt1 v (nxt1 v + 1)) := fun hna h1 h2 h3 =>
    (hp1 h1 h2 h3).next hk (fun h => hna (by rw [hs1.nothing h3]; exact h.1))
  have hmu : (outs v).length - upd nxt1 v (nxt1 v + 1) v < (outs v).length - nxt1 v := by rw [upd_same]; omega
  by_cases hroom : room1 k = 0
  · refine c_skip ?_
    refine f_then ?_
    refine c_seq ?_
    refine c_block ?_
    refine c_seq ?_
    refine c_quiet Try.mixed (by kernel_rfl) K.drew ?_
    refine q_y (y_move rfl) rfl rfl rfl ?_
    refine q_y (y_nilP rfl) rfl rfl rfl ?_
    refine q_y (y_fieldAddrB Try.tabF 1 rfl rfl rfl rfl rfl) rfl rfl rfl ?_
    refine q_y (y_load Try.tabF rfl rfl (cell_row 0 rfl rfl)) rfl rfl rfl ?_
    refine q_y (y_move rfl) rfl rfl rfl ?_
    refine q_y (y_indexAddr1 Try.tabF rfl rfl rfl rfl _ rfl (by omega)) rfl rfl rfl ?_
    refine q_y (y_load Try.tabF rfl rfl (CellIs.cons (CellIs.cons (CellIs.cons (by assumption))))) rfl rfl rfl ?_
    refine q_y (y_move rfl) rfl rfl rfl ?_
    refine q_y (y_nilP rfl) rfl rfl rfl ?_
    refine q_y (y_fieldAddrB Try.tabF 3 rfl rfl rfl rfl rfl) rfl rfl rfl ?_
    refine q_y (y_load Try.tabF rfl rfl (cell_row 0 rfl rfl)) rfl rfl rfl ?_
    refine q_y (y_move rfl) rfl rfl rfl ?_
    refine q_y (y_indexAddr1 Try.tabF rfl rfl rfl rfl _ rfl (by omega)) rfl rfl rfl ?_
    refine q_y (y_load Try.tabF rfl rfl (cell_ints 2 rfl (by omega))) rfl rfl rfl ?_
    refine q_y (y_indexAddr1 Try.tabF rfl rfl rfl rfl _ rfl (by omega)) rfl rfl rfl ?_
    refine q_y (y_load Try.tabF rfl rfl (CellIs.cons (CellIs.cons (CellIs.cons (by assumption))))) rfl rfl rfl ?_
    refine q_y (y_assign rfl) rfl rfl rfl ?_
    refine q_nil ?_
    refine f_then ?_
    refine c_seq ?_
    refine c_region ?_
    refine s_y (y_move rfl) rfl rfl rfl ?_
    refine s_y (y_nilP rfl) rfl rfl rfl ?_
    refine s_y (y_fieldAddr0 Try.tabF rfl rfl rfl rfl rfl) rfl rfl rfl ?_
    refine s_y (y_load Try.tabF rfl rfl (cell_row 0 rfl rfl)) rfl rfl rfl ?_
    refine s_y (y_move rfl) rfl rfl rfl ?_
    refine s_y (y_indexAddr0 (s := 3) Try.tabF rfl rfl rfl rfl _ rfl (by omega)) rfl rfl rfl ?_
    refine s_y (y_loadA Try.tabF rfl rfl rfl rfl (by assumption)) rfl rfl rfl ?_
    refine s_do (do_alloc Try.tabF rfl) rfl rfl rfl (fun b11 => ?_)
    refine s_set (set_box Try.tabF 0 rfl rfl rfl rfl rfl rfl rfl) rfl rfl ?_
    refine s_nil ?_
    refine f_then ?_
    refine c_seq ?_
    refine c_seq ?_
    refine c_quiet Try.mixed (by kernel_rfl) K.drew ?_
    refine q_y (y_fieldAddrB Try.tabF 1 rfl rfl rfl rfl rfl) rfl rfl rfl ?_
    refine q_y (y_load Try.tabF rfl rfl (cell_row 0 rfl rfl)) rfl rfl rfl ?_
    refine q_y (y_T (y_eql rfl rfl) (by assumption)) rfl rfl rfl ?_
    refine q_y (y_move rfl) rfl rfl rfl ?_
    refine q_skip rfl rfl rfl ?_
    refine q_skip rfl rfl rfl ?_
    refine q_skip rfl rfl rfl ?_
    refine q_skip rfl rfl rfl ?_
    refine q_skip rfl rfl rfl ?_
    refine q_skip rfl rfl rfl ?_
    refine q_skip rfl rfl rfl ?_
    refine q_skip rfl rfl rfl ?_
    refine q_skip rfl rfl rfl ?_
    refine q_skip rfl rfl rfl ?_
    refine q_skip rfl rfl rfl ?_
    refine q_skip rfl rfl rfl ?_
    refine q_skip rfl rfl rfl ?_
    refine q_skip rfl rfl rfl ?_
    refine q_skip rfl rfl rfl ?_
    refine q_skip rfl rfl rfl ?_
    refine q_skip rfl rfl rfl ?_
    refine q_y (y_pickT rfl rfl) rfl rfl rfl ?_
    refine q_y (y_move rfl) rfl rfl rfl ?_
    refine q_skip rfl rfl rfl ?_
    refine q_skip rfl rfl rfl ?_
    refine q_skip rfl rfl rfl ?_
    refine q_skip rfl rfl rfl ?_
    refine q_skip rfl rfl rfl ?_
    refine q_y (y_pickT rfl rfl) rfl rfl rfl ?_
    refine q_nil ?_
    refine f_then ?_
    refine c_condT rfl ?_
    refine c_exit ?_
    refine f_thenE ?_
    refine f_blockE ?_
    refine f_then ?_
    refine c_region ?_
    refine s_y (y_move rfl) rfl rfl rfl ?_
    refine s_y (y_nilP rfl) rfl rfl rfl ?_
    refine s_y (y_fieldAddrB Try.tabF 3 rfl rfl rfl rfl rfl) rfl rfl rfl ?_
    refine s_y (y_load Try.tabF rfl rfl (cell_row 1 rfl rfl)) rfl rfl rfl ?_
    refine s_y (y_move rfl) rfl rfl rfl ?_
    refine s_y (y_indexAddr1 Try.tabF rfl rfl rfl rfl _ rfl (by omega)) rfl rfl rfl ?_
    refine s_y (y_load Try.tabF rfl rfl (cell_ints 3 rfl (by omega))) rfl rfl rfl ?_
    refine s_y (y_add rfl rfl (by omega)) rfl rfl rfl ?_
    refine s_y (y_indexAddr1 Try.tabF rfl rfl rfl rfl _ rfl (by omega)) rfl rfl rfl ?_
    refine s_set (set_ints Try.tabF 3 rfl rfl rfl rfl (by omega)) rfl rfl ?_
    refine s_nil ?_
    exact f_roundP (sent, room1, upd nxt1 v (nxt1 v + 1)) ⟨⟨hs1, hmv1.inc⟩, hinc, hskip (fun h => by have := h.1; omega)⟩ hmu ⟨rfl, rfl, rfl, rfl, rfl, trivial⟩ (fun w h => by dsimp only; rw [nxt_upd]; exact h.tail)
  by_cases hl : lev (to k) = lev v + 1
  rotate_left
  · refine c_skip ?_
    refine f_then ?_
    refine c_seq ?_
    refine c_block ?_
    refine c_seq ?_
    refine c_quiet Try.mixed (by kernel_rfl) K.drew ?_
    refine q_y (y_move rfl) rfl rfl rfl ?_
    refine q_y (y_nilP rfl) rfl rfl rfl ?_
    refine q_y (y_fieldAddrB Try.tabF 1 rfl rfl rfl rfl rfl) rfl rfl rfl ?_
    refine q_y (y_load Try.tabF rfl rfl (cell_row 0 rfl rfl)) rfl rfl rfl ?_
    refine q_y (y_move rfl) rfl rfl rfl ?_
    refine q_y (y_indexAddr1 Try.tabF rfl rfl rfl rfl _ rfl (by omega)) rfl rfl rfl ?_
    refine q_y (y_load Try.tabF rfl rfl (CellIs.cons (CellIs.cons (CellIs.cons (by assumption))))) rfl rfl rfl ?_
    refine q_y (y_move rfl) rfl rfl rfl ?_
    refine q_y (y_nilP rfl) rfl rfl rfl ?_
    refine q_y (y_fieldAddrB Try.tabF 3 rfl rfl rfl rfl rfl) rfl rfl rfl ?_
    refine q_y (y_load Try.tabF rfl rfl (cell_row 0 rfl rfl)) rfl rfl rfl ?_
    refine q_y (y_move rfl) rfl rfl rfl ?_
    refine q_y (y_indexAddr1 Try.tabF rfl rfl rfl rfl _ rfl (by omega)) rfl rfl rfl ?_
    refine q_y (y_load Try.tabF rfl rfl (cell_ints 2 rfl (by omega))) rfl rfl rfl ?_
    refine q_y (y_indexAddr1 Try.tabF rfl rfl rfl rfl _ rfl (by omega)) rfl rfl rfl ?_
    refine q_y (y_load Try.tabF rfl rfl (CellIs.cons (CellIs.cons (CellIs.cons (by assumption))))) rfl rfl rfl ?_
    refine q_y (y_assign rfl) rfl rfl rfl ?_
    refine q_nil ?_
    refine f_then ?_
    refine c_seq ?_
    refine c_region ?_
    refine s_y (y_move rfl) rfl rfl rfl ?_
    refine s_y (y_nilP rfl) rfl rfl rfl ?_
    refine s_y (y_fieldAddr0 Try.tabF rfl rfl rfl rfl rfl) rfl rfl rfl ?_
    refine s_y (y_load Try.tabF rfl rfl (cell_row 0 rfl rfl)) rfl rfl rfl ?_
    refine s_y (y_move rfl) rfl rfl rfl ?_
    refine s_y (y_indexAddr0 (s := 3) Try.tabF rfl rfl rfl rfl _ rfl (by omega)) rfl rfl rfl ?_
    refine s_y (y_loadA Try.tabF rfl rfl rfl rfl (by assumption)) rfl rfl rfl ?_
    refine s_do (do_alloc Try.tabF rfl) rfl rfl rfl (fun b11 => ?_)
    refine s_set (set_box Try.tabF 0 rfl rfl rfl rfl rfl rfl rfl) rfl rfl ?_
    refine s_nil ?_
    refine f_then ?_
    refine c_seq ?_
    refine c_seq ?_
    refine c_quiet Try.mixed (by kernel_rfl) K.drew ?_
    refine q_y (y_fieldAddrB Try.tabF 1 rfl rfl rfl rfl rfl) rfl rfl rfl ?_
    refine q_y (y_load Try.tabF rfl rfl (cell_row 0 rfl rfl)) rfl rfl rfl ?_
    refine q_y (y_F (y_eql rfl rfl) (by assumption)) rfl rfl rfl ?_
    refine q_y (y_move rfl) rfl rfl rfl ?_
    refine q_y (y_move rfl) rfl rfl rfl ?_
    refine q_y (y_nilP rfl) rfl rfl rfl ?_
    refine q_y (y_fieldAddrB Try.tabF 2 rfl rfl rfl rfl rfl) rfl rfl rfl ?_
    refine q_y (y_load Try.tabF rfl rfl (cell_row 1 rfl rfl)) rfl rfl rfl ?_
    refine q_y (y_fieldAddr0 Try.tabF rfl rfl rfl rfl rfl) rfl rfl rfl ?_
    refine q_y (y_load Try.tabF rfl rfl (cell_row 0 rfl rfl)) rfl rfl rfl ?_
    refine q_y (y_indexAddr1 Try.tabF rfl rfl rfl rfl _ rfl (by omega)) rfl rfl rfl ?_
    refine q_y (y_load Try.tabF rfl rfl (CellIs.cons (CellIs.cons (CellIs.cons (CellIs.cons (by assumption)))))) rfl rfl rfl ?_
    refine q_y (y_move rfl) rfl rfl rfl ?_
    refine q_y (y_nilP rfl) rfl rfl rfl ?_
    refine q_y (y_fieldAddrB Try.tabF 2 rfl rfl rfl rfl rfl) rfl rfl rfl ?_
    refine q_y (y_load Try.tabF rfl rfl (cell_row 1 rfl rfl)) rfl rfl rfl ?_
    refine q_y (y_move rfl) rfl rfl rfl ?_
    refine q_y (y_indexAddr1 Try.tabF rfl rfl rfl rfl _ rfl (by omega)) rfl rfl rfl ?_
    refine q_y (y_load Try.tabF rfl rfl (CellIs.cons (CellIs.cons (CellIs.cons (CellIs.cons (by assumption)))))) rfl rfl rfl ?_
    refine q_y (y_add rfl rfl (by omega)) rfl rfl rfl ?_
    refine q_y (y_T (y_neq rfl rfl) (by assumption)) rfl rfl rfl ?_
    refine q_y (y_pickF rfl rfl) rfl rfl rfl ?_
    refine q_y (y_move rfl) rfl rfl rfl ?_
    refine q_skip rfl rfl rfl ?_
    refine q_skip rfl rfl rfl ?_
    refine q_skip rfl rfl rfl ?_
    refine q_skip rfl rfl rfl ?_
    refine q_skip rfl rfl rfl ?_
    refine q_y (y_pickT rfl rfl) rfl rfl rfl ?_
    refine q_nil ?_
    refine f_then ?_
    refine c_condT rfl ?_
    refine c_exit ?_
    refine f_thenE ?_
    refine f_blockE ?_
    refine f_then ?_
    refine c_region ?_
    refine s_y (y_move rfl) rfl rfl rfl ?_
    refine s_y (y_nilP rfl) rfl rfl rfl ?_
    refine s_y (y_fieldAddrB Try.tabF 3 rfl rfl rfl rfl rfl) rfl rfl rfl ?_
    refine s_y (y_load Try.tabF rfl rfl (cell_row 1 rfl rfl)) rfl rfl rfl ?_
    refine s_y (y_move rfl) rfl rfl rfl ?_
    refine s_y (y_indexAddr1 Try.tabF rfl rfl rfl rfl _ rfl (by omega)) rfl rfl rfl ?_
    refine s_y (y_load Try.tabF rfl rfl (cell_ints 3 rfl (by omega))) rfl rfl rfl ?_
    refine s_y (y_add rfl rfl (by omega)) rfl rfl rfl ?_
    refine s_y (y_indexAddr1 Try.tabF rfl rfl rfl rfl _ rfl (by omega)) rfl rfl rfl ?_
    refine s_set (set_ints Try.tabF 3 rfl rfl rfl rfl (by omega)) rfl rfl ?_
    refine s_nil ?_
    exact f_roundP (sent, room1, upd nxt1 v (nxt1 v + 1)) ⟨⟨hs1, hmv1.inc⟩, hinc, hskip (fun h => hl (by rw [h.2.1, htk]))⟩ hmu ⟨rfl, rfl, rfl, rfl, rfl, trivial⟩ (fun w h => by dsimp only; rw [nxt_upd]; exact h.tail)
  refine c_skip ?_
  refine f_then ?_
  refine c_seq ?_
  refine c_block ?_
  refine c_seq ?_
  refine c_quiet Try.mixed (by kernel_rfl) K.drew ?_
  refine q_y (y_move rfl) rfl rfl rfl ?_
  refine q_y (y_nilP rfl) rfl rfl rfl ?_
  refine q_y (y_fieldAddrB Try.tabF 1 rfl rfl rfl rfl rfl) rfl rfl rfl ?_
  refine q_y (y_load Try.tabF rfl rfl (cell_row 0 rfl rfl)) rfl rfl rfl ?_
  refine q_y (y_move rfl) rfl rfl rfl ?_
  refine q_y (y_indexAddr1 Try.tabF rfl rfl rfl rfl _ rfl (by omega)) rfl rfl rfl ?_
  refine q_y (y_load Try.tabF rfl rfl (CellIs.cons (CellIs.cons (CellIs.cons (by assumption))))) rfl rfl rfl ?_
  refine q_y (y_move rfl) rfl rfl rfl ?_
  refine q_y (y_nilP rfl) rfl rfl rfl ?_
  refine q_y (y_fieldAddrB Try.tabF 3 rfl rfl rfl rfl rfl) rfl rfl rfl ?_
  refine q_y (y_load Try.tabF rfl rfl (cell_row 0 rfl rfl)) rfl rfl rfl ?_
  refine q_y (y_move rfl) rfl rfl rfl ?_
  refine q_y (y_indexAddr1 Try.tabF rfl rfl rfl rfl _ rfl (by omega)) rfl rfl rfl ?_
  refine q_y (y_load Try.tabF rfl rfl (cell_ints 2 rfl (by omega))) rfl rfl rfl ?_
  refine q_y (y_indexAddr1 Try.tabF rfl rfl rfl rfl _ rfl (by omega)) rfl rfl rfl ?_
  refine q_y (y_load Try.tabF rfl rfl (CellIs.cons (CellIs.cons (CellIs.cons (by assumption))))) rfl rfl rfl ?_
  refine q_y (y_assign rfl) rfl rfl rfl ?_
  refine q_nil ?_
  refine f_then ?_
  refine c_seq ?_
  refine c_region ?_
  refine s_y (y_move rfl) rfl rfl rfl ?_
  refine s_y (y_nilP rfl) rfl rfl rfl ?_
  refine s_y (y_fieldAddr0 Try.tabF rfl rfl rfl rfl rfl) rfl rfl rfl ?_
  refine s_y (y_load Try.tabF rfl rfl (cell_row 0 rfl rfl)) rfl rfl rfl ?_
  refine s_y (y_move rfl) rfl rfl rfl ?_
  refine s_y (y_indexAddr0 (s := 3) Try.tabF rfl rfl rfl rfl _ rfl (by omega)) rfl rfl rfl ?_
  refine s_y (y_loadA Try.tabF rfl rfl rfl rfl (by assumption)) rfl rfl rfl ?_
  refine s_do (do_alloc Try.tabF rfl) rfl rfl rfl (fun b11 => ?_)
  refine s_set (set_box Try.tabF 0 rfl rfl rfl rfl rfl rfl rfl) rfl rfl ?_
  refine s_nil ?_
  refine f_then ?_
  refine c_seq ?_
  refine c_seq ?_
  refine c_quiet Try.mixed (by kernel_rfl) K.drew ?_
  refine q_y (y_fieldAddrB Try.tabF 1 rfl rfl rfl rfl rfl) rfl rfl rfl ?_
  refine q_y (y_load Try.tabF rfl rfl (cell_row 0 rfl rfl)) rfl rfl rfl ?_
  refine q_y (y_F (y_eql rfl rfl) (by assumption)) rfl rfl rfl ?_
  refine q_y (y_move rfl) rfl rfl rfl ?_
  refine q_y (y_move rfl) rfl rfl rfl ?_
  refine q_y (y_nilP rfl) rfl rfl rfl ?_
  refine q_y (y_fieldAddrB Try.tabF 2 rfl rfl rfl rfl rfl) rfl rfl rfl ?_
  refine q_y (y_load Try.tabF rfl rfl (cell_row 1 rfl rfl)) rfl rfl rfl ?_
  refine q_y (y_fieldAddr0 Try.tabF rfl rfl rfl rfl rfl) rfl rfl rfl ?_
  refine q_y (y_load Try.tabF rfl rfl (cell_row 0 rfl rfl)) rfl rfl rfl ?_
  refine q_y (y_indexAddr1 Try.tabF rfl rfl rfl rfl _ rfl (by omega)) rfl rfl rfl ?_
  refine q_y (y_load Try.tabF rfl rfl (CellIs.cons (CellIs.cons (CellIs.cons (CellIs.cons (by assumption)))))) rfl rfl rfl ?_
  refine q_y (y_move rfl) rfl rfl rfl ?_
  refine q_y (y_nilP rfl) rfl rfl rfl ?_
  refine q_y (y_fieldAddrB Try.tabF 2 rfl rfl rfl rfl rfl) rfl rfl rfl ?_
  refine q_y (y_load Try.tabF rfl rfl (cell_row 1 rfl rfl)) rfl rfl rfl ?_
  refine q_y (y_move rfl) rfl rfl rfl ?_
  refine q_y (y_indexAddr1 Try.tabF rfl rfl rfl rfl _ rfl (by omega)) rfl rfl rfl ?_
  refine q_y (y_load Try.tabF rfl rfl (CellIs.cons (CellIs.cons (CellIs.cons (CellIs.cons (by assumption)))))) rfl rfl rfl ?_
  refine q_y (y_add rfl rfl (by omega)) rfl rfl rfl ?_
  refine q_y (y_F (y_neq rfl rfl) (by omega)) rfl rfl rfl ?_
  refine q_y (y_pickF rfl rfl) rfl rfl rfl ?_
  refine q_y (y_move rfl) rfl rfl rfl ?_
  refine q_y (y_move rfl) rfl rfl rfl ?_
  refine q_y (y_move rfl) rfl rfl rfl ?_
  refine q_y (y_move rfl) rfl rfl rfl ?_
  refine q_call (en_f rfl Try.call103) (reduced_spec W _ p bl m cl bh n n k v (to k) (room1 k) (cost k) (high v) (high (to k)) (cell_row 1 rfl rfl) (CellsAre.cons hlk) hkm (cell_row 1 rfl rfl) (CellIs.cons (CellIs.cons (CellIs.cons (CellIs.cons hhv)))) (CellIs.cons (CellIs.cons (CellIs.cons (CellIs.cons hht)))) hv htn (by omega)) rfl rfl rfl ?_
  by_cases hrd : cost k + high v - high (to k) = 0
  rotate_left
  · refine q_y (y_T (y_neq rfl rfl) (by assumption)) rfl rfl rfl ?_
    refine q_y (y_pickF rfl rfl) rfl rfl rfl ?_
    refine q_nil ?_
    refine f_then ?_
    refine c_condT rfl ?_
    refine c_exit ?_
    refine f_thenE ?_
    refine f_blockE ?_
    refine f_then ?_
    refine c_region ?_
    refine s_y (y_move rfl) rfl rfl rfl ?_
    refine s_y (y_nilP rfl) rfl rfl rfl ?_
    refine s_y (y_fieldAddrB Try.tabF 3 rfl rfl rfl rfl rfl) rfl rfl rfl ?_
    refine s_y (y_load Try.tabF rfl rfl (cell_row 1 rfl rfl)) rfl rfl rfl ?_
    refine s_y (y_move rfl) rfl rfl rfl ?_
    refine s_y (y_indexAddr1 Try.tabF rfl rfl rfl rfl _ rfl (by omega)) rfl rfl rfl ?_
    refine s_y (y_load Try.tabF rfl rfl (cell_ints 3 rfl (by omega))) rfl rfl rfl ?_
    refine s_y (y_add rfl rfl (by omega)) rfl rfl rfl ?_
    refine s_y (y_indexAddr1 Try.tabF rfl rfl rfl rfl _ rfl (by omega)) rfl rfl rfl ?_
    refine s_set (set_ints Try.tabF 3 rfl rfl rfl rfl (by omega)) rfl rfl ?_
    refine s_nil ?_
    exact f_roundP (sent, room1, upd nxt1 v (nxt1 v + 1)) ⟨⟨hs1, hmv1.inc⟩, hinc, hskip (fun h => hrd (by rw [← htk]; exact h.2.2))⟩ hmu ⟨rfl, rfl, rfl, rfl, rfl, trivial⟩ (fun w h => by dsimp only; rw [nxt_upd]; exact h.tail)
  refine q_y (y_F (y_neq rfl rfl) (by omega)) rfl rfl rfl ?_
  refine q_y (y_pickF rfl rfl) rfl rfl rfl ?_
  refine q_nil ?_
  refine f_then ?_
  refine c_condF rfl ?_
  refine c_skip ?_
  refine f_then ?_
  refine c_seq ?_
  refine c_region ?_
  refine s_y (y_move rfl) rfl rfl rfl ?_
  refine s_y (y_fieldAddr0 Try.tabF rfl rfl rfl rfl rfl) rfl rfl rfl ?_
  refine s_y (y_load Try.tabF rfl rfl (cell_row 0 rfl rfl)) rfl rfl rfl ?_
  refine s_y (y_move rfl) rfl rfl rfl ?_
  refine s_y (y_move rfl) rfl rfl rfl ?_
  refine s_y (y_move rfl) rfl rfl rfl ?_
  refine s_y (y_sub rfl rfl (by omega)) rfl rfl rfl ?_
  refine s_y (y_fieldAddrB Try.tabF 1 rfl rfl rfl rfl rfl) rfl rfl rfl ?_
  refine s_y (y_load Try.tabF rfl rfl (cell_row 0 rfl rfl)) rfl rfl rfl ?_
  refine s_y (y_min rfl rfl) rfl rfl rfl ?_
  refine St.cls (C' := K W ([(p, row 127 [.slice (some ⟨bl, 0, none⟩) m cl, .slice (some ⟨bo, 0, none⟩) n n, .slice (some ⟨blv, 0, none⟩) n n, .slice (some ⟨nb, 0, none⟩) n n, .slice (some ⟨bh, 0, none⟩) n n])] :: [(bl, recs 129 3 m (lg to room1 cost) rest)] :: [(nb, ints 3 n (fun u => (nxt1 u : Int)) [])] :: Ls)) ?_ (fun w h => h.tail)
  refine s_call (en_f rfl Try.call91) (ih (to k) (min (most - sent) (room1 k)) room1 nxt1 htn (by omega) (by omega) (by omega) hs1.nonneg (fun j hj => by have := hs1.pair j hj; have := hr1 j hj; omega) hn1) rfl rfl rfl (fun x => ?_)
  obtain ⟨⟨got, room2, nxt2⟩, hs2, hmv2, hn2, hp2⟩ := x
  dsimp only at hs2 hmv2 hn2 hp2 ⊢
  have g1 := hs2.lo
  have g2 := hs2.hi
  have g3 := hs2.nonneg k hkm
  have g4 := hs2.pair k hkm
  have g5 := hs2.nonneg _ hpm
  have hsum := Sent.step hG hs1 hkm htk hl (by unfold red; rw [htk]; exact hrd) (by omega) (by omega) hs2
  have hrk2 : got ≤ room2 k := by
    have h1 := hsum.nonneg k hkm
    rw [along_self hG] at h1
    omega
  have hcell1 := cell_room (W := W) (Ls := [(p, row 127 [.slice (some ⟨bl, 0, none⟩) m cl, .slice (some ⟨bo, 0, none⟩) n n, .slice (some ⟨blv, 0, none⟩) n n, .slice (some ⟨nb, 0, none⟩) n n, .slice (some ⟨bh, 0, none⟩) n n])] :: [(bl, recs 129 3 m (lg to room2 cost) rest)] :: [(nb, ints 3 n (fun u => (nxt2 u : Int)) [])] :: Ls) 1 rfl hkm
  refine s_y (y_assign rfl) rfl rfl rfl ?_
  refine s_nil ?_
  refine f_then ?_
  refine c_seq ?_
  refine c_region ?_
  refine s_y (y_move rfl) rfl rfl rfl ?_
  refine s_y (y_nilP rfl) rfl rfl rfl ?_
  refine s_y (y_fieldAddr0 Try.tabF rfl rfl rfl rfl rfl) rfl rfl rfl ?_
  refine s_y (y_load Try.tabF rfl rfl (cell_row 0 rfl rfl)) rfl rfl rfl ?_
  refine s_y (y_move rfl) rfl rfl rfl ?_
  refine s_y (y_indexAddr0 (s := 3) Try.tabF rfl rfl rfl rfl _ rfl (by omega)) rfl rfl rfl ?_
  refine s_y (y_fieldAddr Try.tabF 1 rfl rfl rfl rfl rfl) rfl rfl rfl ?_
  refine s_y (y_load Try.tabF rfl rfl (by assumption)) rfl rfl rfl ?_
  refine s_y (y_move rfl) rfl rfl rfl ?_
  refine s_y (y_sub rfl rfl (by omega)) rfl rfl rfl ?_
  refine s_y (y_indexAddr0 (s := 3) Try.tabF rfl rfl rfl rfl _ rfl (by omega)) rfl rfl rfl ?_
  refine s_y (y_fieldAddr Try.tabF 1 rfl rfl rfl rfl rfl) rfl rfl rfl ?_
  refine s_set (set_recs (s := 3) (j := 1) (k := k) Try.tabF 1 rfl rfl rfl rfl rfl hkm (by omega)) rfl rfl ?_
  refine St.cls (C' := K W ([(p, row 127 [.slice (some ⟨bl, 0, none⟩) m cl, .slice (some ⟨bo, 0, none⟩) n n, .slice (some ⟨blv, 0, none⟩) n n, .slice (some ⟨nb, 0, none⟩) n n, .slice (some ⟨bh, 0, none⟩) n n])] :: [(bl, recs 129 3 m (lg to (upd room2 k (room2 k - got)) cost) rest)] :: [(nb, ints 3 n (fun u => (nxt2 u : Int)) [])] :: Ls)) ?_ (fun w h => by rw [lg_upd] at h; exact h)
  have hcell2 := (cell_room (W := W) (to := to) (cost := cost) (room := upd room2 k (room2 k - got)) (Ls := [(p, row 127 [.slice (some ⟨bl, 0, none⟩) m cl, .slice (some ⟨bo, 0, none⟩) n n, .slice (some ⟨blv, 0, none⟩) n n, .slice (some ⟨nb, 0, none⟩) n n, .slice (some ⟨bh, 0, none⟩) n n])] :: [(bl, recs 129 3 m (lg to (upd room2 k (room2 k - got)) cost) rest)] :: [(nb, ints 3 n (fun u => (nxt2 u : Int)) [])] :: Ls) 1 rfl hpm).of (v' := .int .i64 (room2 (par2 k))) (by rw [upd_ne _ _ (par2_ne k)])
  have g6 := hs1.pair k hkm
  refine s_nil ?_
  refine f_then ?_
  refine c_seq ?_
  refine c_region ?_
  refine s_y (y_move rfl) rfl rfl rfl ?_
  refine s_y (y_nilP rfl) rfl rfl rfl ?_
  refine s_y (y_fieldAddr0 Try.tabF rfl rfl rfl rfl rfl) rfl rfl rfl ?_
  refine s_y (y_load Try.tabF rfl rfl (cell_row 0 rfl rfl)) rfl rfl rfl ?_
  refine s_y (y_move rfl) rfl rfl rfl ?_
  refine s_y (y_xor1 rfl rfl rfl (by omega)) rfl rfl rfl ?_
  refine s_y (y_indexAddr0 (s := 3) Try.tabF rfl rfl rfl rfl _ rfl (by omega)) rfl rfl rfl ?_
  refine s_y (y_fieldAddr Try.tabF 1 rfl rfl rfl rfl rfl) rfl rfl rfl ?_
  refine s_y (y_load Try.tabF rfl rfl (by assumption)) rfl rfl rfl ?_
  refine s_y (y_move rfl) rfl rfl rfl ?_
  refine s_y (y_add rfl rfl (by omega)) rfl rfl rfl ?_
  refine s_y (y_indexAddr0 (s := 3) Try.tabF rfl rfl rfl rfl _ rfl (by omega)) rfl rfl rfl ?_
  refine s_y (y_fieldAddr Try.tabF 1 rfl rfl rfl rfl rfl) rfl rfl rfl ?_
  refine s_set (set_recs (s := 3) (j := 1) (k := par2 k) Try.tabF 1 rfl rfl rfl rfl rfl hpm (by omega)) rfl rfl ?_
  refine St.cls (C' := K W ([(p, row 127 [.slice (some ⟨bl, 0, none⟩) m cl, .slice (some ⟨bo, 0, none⟩) n n, .slice (some ⟨blv, 0, none⟩) n n, .slice (some ⟨nb, 0, none⟩) n n, .slice (some ⟨bh, 0, none⟩) n n])] :: [(bl, recs 129 3 m (lg to (along par2 room2 k got) cost) rest)] :: [(nb, ints 3 n (fun u => (nxt2 u : Int)) [])] :: Ls)) ?_ (fun w h => by rw [lg_upd] at h; exact h)
  have hn2v : nxt2 v = nxt1 v := by
    by_cases e : nxt2 v = nxt1 v
    · exact e
    · have := hmv2.same v e; omega
  have hmv3 := hmv1.trans hmv2 (by omega)
  have hinc2 : ∀ u, u < n → upd nxt2 v (nxt2 v + 1) u ≤ (outs u).length := fun u hu => by
    have := hn2 u hu
    simp only [upd]; split
    · rename_i e; subst e; omega
    · exact this
  refine s_nil ?_
  refine f_then ?_
  refine c_seq ?_
  refine c_region ?_
  refine s_y (y_move rfl) rfl rfl rfl ?_
  refine s_y (y_move rfl) rfl rfl rfl ?_
  refine s_y (y_add rfl rfl (by omega)) rfl rfl rfl ?_
  refine s_y (y_assign rfl) rfl rfl rfl ?_
  refine s_nil ?_
  refine f_then ?_
  refine c_seq ?_
  refine c_region ?_
  refine s_y (y_move rfl) rfl rfl rfl ?_
  refine s_y (y_move rfl) rfl rfl rfl ?_
  refine s_y (y_eql rfl rfl) rfl rfl rfl ?_
  refine s_nil ?_
  refine f_then ?_
  refine c_condD rfl (fun heq => ?_) (fun hneq => ?_)
  · refine c_exit ?_
    refine f_blockX rfl ?_
    refine f_thenE ?_
    refine f_rndE ?_
    refine f_blockE ?_
    refine f_then ?_
    refine c_seq ?_
    refine c_region ?_
    refine s_y (y_move rfl) rfl rfl rfl ?_
    refine s_y (y_assign rfl) rfl rfl rfl ?_
    refine s_nil ?_
    refine f_then ?_
    refine c_ret ?_
    refine f_noR ?_
    exact f_ret ⟨(sent + got, along par2 room2 k got, nxt2), hsum, hmv3, hn2, fun h1 _ h3 => by dsimp only at h3; omega⟩ (res1 rfl rfl) (fun w h => h)
  · refine c_skip ?_
    refine f_blockN ?_
    refine f_then ?_
    refine c_region ?_
    refine s_y (y_move rfl) rfl rfl rfl ?_
    refine s_y (y_nilP rfl) rfl rfl rfl ?_
    refine s_y (y_fieldAddrB Try.tabF 3 rfl rfl rfl rfl rfl) rfl rfl rfl ?_
    refine s_y (y_load Try.tabF rfl rfl (cell_row 0 rfl rfl)) rfl rfl rfl ?_
    refine s_y (y_move rfl) rfl rfl rfl ?_
    refine s_y (y_indexAddr1 Try.tabF rfl rfl rfl rfl _ rfl (by omega)) rfl rfl rfl ?_
    refine s_y (y_load Try.tabF rfl rfl (cell_ints 2 rfl (by omega))) rfl rfl rfl ?_
    refine s_y (y_add rfl rfl (by omega)) rfl rfl rfl ?_
    refine s_y (y_indexAddr1 Try.tabF rfl rfl rfl rfl _ rfl (by omega)) rfl rfl rfl ?_
    refine s_set (set_ints Try.tabF 2 rfl rfl rfl rfl (by omega)) rfl rfl ?_
    refine s_nil ?_
    refine f_roundP (sent + got, along par2 room2 k got, upd nxt2 v (nxt2 v + 1)) ⟨⟨hsum, hmv3.inc⟩, hinc2, fun h1 h2 h3 => ?_⟩ (by dsimp only; rw [upd_same]; omega) ⟨rfl, rfl, rfl, rfl, rfl, trivial⟩ (fun w h => by dsimp only; rw [nxt_upd]; exact h)
    have s0 : sent = 0 := by omega
    have e1 := hs1.nothing s0
    have hpos : 0 < room1 k := by omega
    obtain ⟨h4, h5⟩ := hp2 (by omega) (by rw [e1]; exact hp1 h1 h2 s0) (by omega)
    rw [e1] at h4 h5
    exact h4.next (by rw [hn2v]; exact hk) (fun h => h5 h.2)
end Go.KL
end

section
/- Walks: fill. -/
namespace Go.KL
open Go.Proofs
attribute [local irreducible] SC St Fin Sq Sw Ylds Doos Sets Enters Spec CellIs CellsAre Then Ret Rnd resOK ints bools recs arr
set_option maxRecDepth 4000 in
theorem LinkC.linkV {W : World} {Ls : List Chunk} {vl : Value} {Lc : (Nat → Int) → Chunk} {m : Nat} {to : Nat → Nat} {cost : Nat → Int} (h : LinkC vl Lc m to cost) (room : Nat → Int) : LinkV (K W (Lc room :: Ls)) vl m to room cost := by
  intro hm
  obtain ⟨bl, c, rest, h1, h2⟩ := h hm
  subst h2
  exact ⟨bl, c, h1, fun k hk => by rw [lk3_eq]; exact CellIs_recs 0 rfl hk⟩
/-- What filling comes to. -/
structure Filled (n m : Nat) (outs : Nat → List Nat) (to tl : Nat → Nat) (cost high : Nat → Int) (s t : Nat) (most : Int) (room room' : Nat → Int) (sent : Int) : Prop where
  fl : Fl m to tl par2 cost high s t room room' sent
  hi : sent ≤ most
  ev : 0 < sent → ∃ level, LInv n s outs to (adm tl to room cost high) level ∧ 0 < level t
  full : sent < most → ∃ S, Reached n s outs to (adm tl to room' cost high) S ∧ S t = false
set_option maxRecDepth 4000 in
set_option maxHeartbeats 4000000 in
theorem fill_spec (W : World) (Ls : List Chunk) (p n m s t : Nat) (vl vo a b vh : Value) (Lc : (Nat → Int) → Chunk) (outs : Nat → List Nat) (to tl : Nat → Nat) (cost high room : Nat → Int) (most : Int)
    (hO : OutV (K W Ls) vo n outs) (hH : HighV (K W Ls) vh n high) (hLc : LinkC vl Lc m to cost) (hG : PG n m outs to tl par2 cost) (hS : Small n m cost high)
    (hs : s < n) (ht : t < n) (hn : n ≤ 1000) (hm : m ≤ 1000000) (hm0 : 0 ≤ most) (hm1 : most ≤ 9223372036854775807) (hr0 : ∀ k, k < m → 0 ≤ room k) (hr1 : ∀ k, k < m → room k + room (par2 k) ≤ 4000000000000000000) :
    Spec Try.prog 76 #[.pointer (some ⟨p, 0, none⟩), .int .i64 s, .int .i64 t, .int .i64 most] (K W ([(p, row 127 [vl, vo, a, b, vh])] :: Lc room :: Ls))
      (X := { x : Int × (Nat → Int) × Value × Value // Filled n m outs to tl cost high s t most room x.2.1 x.1 })
      (fun x => .int .i64 x.1.1) (fun x => K W ([(p, row 127 [vl, vo, x.1.2.2.1, x.1.2.2.2, vh])] :: Lc x.1.2.1 :: Ls)) := by
  refine enter (args := [_, _, _, _]) Try.func76 rfl Try.ntmps76 rfl ?_
  refine c_seq ?_
  refine c_region ?_
  refine s_y (y_assign rfl) rfl rfl rfl ?_
  refine s_nil ?_
  refine f_then ?_
  refine c_seq ?_
  refine c_region ?_
  refine s_y (y_assign rfl) rfl rfl rfl ?_
  refine s_nil ?_
  refine f_then ?_
  refine c_seq ?_
  refine c_block ?_
  refine c_loopP (α := Int × (Nat → Int) × Value × Value) (fun z => [(0, .pointer (some ⟨p, 0, none⟩)), (1, .int .i64 s), (2, .int .i64 t), (3, .int .i64 most), (9, .int .i64 z.1)])
    (fun z => Fl m to tl par2 cost high s t room z.2.1 z.1 ∧ z.1 ≤ most ∧ (0 < z.1 → ∃ level, LInv n s outs to (adm tl to room cost high) level ∧ 0 < level t))
    (fun z => K W ([(p, row 127 [vl, vo, z.2.2.1, z.2.2.2, vh])] :: Lc z.2.1 :: Ls)) (fun z => (most - z.1).toNat)
    (0, room, a, b) ⟨rfl, rfl, rfl, rfl, rfl, trivial⟩ ⟨Fl.none hr0, hm0, fun h => absurd h (Int.lt_irrefl 0)⟩ (fun w h => h) ?_
  rintro ⟨sent, room1, a1, b1⟩ ⟨hf, hhi, hev⟩
  dsimp only at hf hhi hev ⊢
  have q0 := hf.lo
  by_cases hlt : sent < most
  rotate_left
  · refine c_seq ?_
    refine c_seq ?_
    refine c_region ?_
    refine s_y (y_move rfl) rfl rfl rfl ?_
    refine s_y (y_move rfl) rfl rfl rfl ?_
    refine s_y (y_F (y_lss rfl rfl) (by assumption)) rfl rfl rfl ?_
    refine s_y (y_move rfl) rfl rfl rfl ?_
    refine s_skip rfl rfl rfl ?_
    refine s_skip rfl rfl rfl ?_
    refine s_skip rfl rfl rfl ?_
    refine s_skip rfl rfl rfl ?_
    refine s_y (y_pickF rfl rfl) rfl rfl rfl ?_
    refine s_nil ?_
    refine f_then ?_
    refine c_condF rfl ?_
    refine c_exit ?_
    refine f_thenE ?_
    refine f_rndE ?_
    refine f_blockE ?_
    refine f_then ?_
    refine c_seq ?_
    refine c_region ?_
    refine s_y (y_move rfl) rfl rfl rfl ?_
    refine s_y (y_assign rfl) rfl rfl rfl ?_
    refine s_nil ?_
    refine f_then ?_
    refine c_ret ?_
    exact f_ret ⟨(sent, room1, a1, b1), hf, hhi, hev, fun h => absurd h hlt⟩ (res1 rfl rfl) (fun w h => h)
  refine c_seq ?_
  refine c_seq ?_
  refine c_region ?_
  refine s_y (y_move rfl) rfl rfl rfl ?_
  refine s_y (y_move rfl) rfl rfl rfl ?_
  refine s_y (y_T (y_lss rfl rfl) (by assumption)) rfl rfl rfl ?_
  refine s_y (y_move rfl) rfl rfl rfl ?_
  refine s_y (y_move rfl) rfl rfl rfl ?_
  refine s_y (y_move rfl) rfl rfl rfl ?_
  refine s_y (y_move rfl) rfl rfl rfl ?_
  refine s_call (en_f rfl Try.call90) (layers_spec W (Lc room1 :: Ls) p n m s t vl vo a1 b1 vh outs to tl room1 cost high (hO.cls fun w h => h.tail) (hLc.linkV room1) (hH.cls fun w h => h.tail) hG.gok (fun v hv k hk => ((hG.out_iff v hv k).1 hk).2) hS hs ht hn hm) rfl rfl rfl (fun x => ?_)
  obtain ⟨⟨lb, nb, level⟩, hL, hR⟩ := x
  dsimp only at hL hR ⊢
  by_cases hlt2 : 0 < level t
  rotate_left
  · simp only [hlt2, decide_false]
    refine s_y (y_pickT rfl rfl) rfl rfl rfl ?_
    refine s_nil ?_
    refine f_then ?_
    refine c_condF rfl ?_
    refine c_exit ?_
    refine f_thenE ?_
    refine f_rndE ?_
    refine f_blockE ?_
    refine f_then ?_
    refine c_seq ?_
    refine c_region ?_
    refine s_y (y_move rfl) rfl rfl rfl ?_
    refine s_y (y_assign rfl) rfl rfl rfl ?_
    refine s_nil ?_
    refine f_then ?_
    refine c_ret ?_
    refine f_ret ⟨(sent, room1, .slice (some ⟨lb, 0, none⟩) n n, .slice (some ⟨nb, 0, none⟩) n n), hf, hhi, hev, fun _ => ⟨pos level, hR, by simp [pos, hlt2]⟩⟩ (res1 rfl rfl) (fun w h => ?_)
    exact K.dropAt 1 (K.dropAt 1 h)
  simp only [hlt2, decide_true]
  refine s_y (y_pickT rfl rfl) rfl rfl rfl ?_
  refine s_nil ?_
  refine f_then ?_
  refine c_condT rfl ?_
  refine c_skip ?_
  refine f_then ?_
  refine c_block ?_
  refine c_region ?_
  refine s_y (y_move rfl) rfl rfl rfl ?_
  refine s_y (y_move rfl) rfl rfl rfl ?_
  refine s_y (y_move rfl) rfl rfl rfl ?_
  refine s_y (y_move rfl) rfl rfl rfl ?_
  refine s_y (y_move rfl) rfl rfl rfl ?_
  refine s_y (y_move rfl) rfl rfl rfl ?_
  refine s_y (y_sub rfl rfl (by omega)) rfl rfl rfl ?_
  refine St.cls (C' := K W ([(p, row 127 [vl, vo, .slice (some ⟨lb, 0, none⟩) n n, .slice (some ⟨nb, 0, none⟩) n n, vh])] :: Lc room1 :: [(nb, ints 3 n (fun u => (((fun _ => 0 : Nat → Nat) u : Nat) : Int)) [])] :: [(lb, ints 3 n level [])] :: Ls)) ?_ (fun w h => K.fronts [1, 2, 3, 3] h)
  have hlc := cnt_le n (pos level)
  refine s_call (en_f rfl Try.call91) (push_spec W ([(lb, ints 3 n level [])] :: Ls) p nb n m t vl vo _ vh Lc outs to tl cost high level (hO.cls fun w h => h.tail) (hH.cls fun w h => h.tail) ⟨lb, rfl, fun u hu => cell_ints 0 rfl hu⟩ hLc hG hS.cost hS.high ht hn hm
    (fun u hu => ⟨hL.lo u, by have := hL.hi u; omega⟩) n s (most - sent) room1 (fun _ => 0) hs (by rw [hL.one]; omega) (by omega) (by omega) hf.nonneg (fun k hk => by rw [hf.pair k hk]; exact hr1 k hk) (fun _ _ => Nat.zero_le _)) rfl rfl rfl (fun x => ?_)
  obtain ⟨⟨got, room2, nxt2⟩, hs2, hmv2, hn2, hp2⟩ := x
  dsimp only at hs2 hmv2 hn2 hp2 ⊢
  have g1 := hs2.lo
  have g2 := hs2.hi
  have hgot : got ≠ 0 := fun e => (hp2 (by omega) (fun u _ i hi => absurd hi (Nat.not_lt_zero i)) e).2 (hL.way hG ht hlt2)
  refine s_y (y_add rfl rfl (by omega)) rfl rfl rfl ?_
  refine s_y (y_assign rfl) rfl rfl rfl ?_
  refine s_nil ?_
  refine f_blockN ?_
  refine f_roundP (sent + got, room2, .slice (some ⟨lb, 0, none⟩) n n, .slice (some ⟨nb, 0, none⟩) n n) ⟨hf.step hs2, by dsimp only; omega, fun _ => ?_⟩ (by dsimp only; omega) ⟨rfl, rfl, rfl, rfl, rfl, trivial⟩ (fun w h => K.dropAt 2 (K.dropAt 2 h))
  by_cases e : 0 < sent
  · exact hev e
  · have := hf.nothing (by omega)
    rw [this] at hL
    exact ⟨level, hL, hlt2⟩
end Go.KL
end

section
/- Plain lemmas: flows on arcs, potentials, cuts. No program in sight. -/
namespace Go.KL
theorem sm_zero (n : Nat) (f : Nat → Int) (h : ∀ i, i < n → f i = 0) : sm n f = 0 := by
  induction n with
  | zero => rfl
  | succ n ih => simp only [sm, h n (by omega), ih fun i hi => h i (by omega)]; omega
theorem sm_sub (n : Nat) (f g : Nat → Int) : sm n (fun i => f i - g i) = sm n f - sm n g := by
  induction n with
  | zero => rfl
  | succ n ih => simp only [sm, ih]; omega
theorem sm_mul (n : Nat) (c : Int) (f : Nat → Int) : sm n (fun i => c * f i) = c * sm n f := by
  induction n with
  | zero => simp [sm]
  | succ n ih => simp only [sm, ih, Int.mul_add]
theorem sm_le (n : Nat) (f g : Nat → Int) (h : ∀ i, i < n → f i ≤ g i) : sm n f ≤ sm n g := by
  induction n with
  | zero => simp [sm]
  | succ n ih =>
    have h1 := ih fun i hi => h i (by omega)
    have h2 := h n (by omega)
    simp only [sm]; omega
theorem sm_nonneg (n : Nat) (f : Nat → Int) (h : ∀ i, i < n → 0 ≤ f i) : 0 ≤ sm n f := by
  have := sm_le n (fun _ => 0) f h
  rwa [sm_zero n _ (fun _ _ => rfl)] at this
theorem sm_bound (n : Nat) (f : Nat → Int) (c : Int) (h : ∀ i, i < n → f i ≤ c) : sm n f ≤ n * c := by
  induction n with
  | zero => simp [sm]
  | succ n ih =>
    have h1 := ih fun i hi => h i (by omega)
    have h2 := h n (by omega)
    have : ((n + 1 : Nat) : Int) * c = n * c + c := by rw [Int.natCast_succ, Int.add_mul, Int.one_mul]
    simp only [sm]; omega
/-- Where all are at least, and the sums agree, each agrees. -/
theorem sm_eq_le (n : Nat) (f g : Nat → Int) (h : ∀ i, i < n → f i ≤ g i) (he : sm n g ≤ sm n f) : ∀ i, i < n → f i = g i := by
  induction n with
  | zero => intro i hi; omega
  | succ n ih =>
    have h1 := sm_le n f g fun i hi => h i (by omega)
    have h2 := h n (by omega)
    simp only [sm] at he
    have h3 : f n = g n := by omega
    have h4 := ih (fun i hi => h i (by omega)) (by omega)
    intro i hi
    by_cases e : i = n
    · subst e; exact h3
    · exact h4 i (by omega)
theorem sm_at (n k : Nat) (p : Nat → Int) (x : Int) (hk : k < n) : sm n (fun u => p u * (if k = u then x else 0)) = p k * x := by
  have : (fun u => p u * (if k = u then x else 0)) = fun u => if u = k then p k * x else 0 := by
    funext u
    by_cases e : k = u
    · subst e; simp
    · have e' : ¬ u = k := fun h => e h.symm
      simp [e, e']
  rw [this, sm_one n k _ hk]

/-- What leaves a node minus what comes in, over the first na arcs. -/
def more (fr tt : Nat → Nat) (f : Nat → Int) (na u : Nat) : Int := sm na fun i => (if fr i = u then f i else 0) - (if tt i = u then f i else 0)
theorem more_succ (fr tt : Nat → Nat) (f : Nat → Int) (na u : Nat) : more fr tt f (na + 1) u = more fr tt f na u + ((if fr na = u then f na else 0) - (if tt na = u then f na else 0)) := rfl
def cst (c f : Nat → Int) (na : Nat) : Int := sm na fun i => f i * c i

section
variable {n na s t : Nat} {fr tt : Nat → Nat} {f : Nat → Int}
theorem sm_more (p : Nat → Int) (hf : ∀ i, i < na → fr i < n) (ht : ∀ i, i < na → tt i < n) : sm n (fun u => p u * more fr tt f na u) = sm na (fun i => f i * (p (fr i) - p (tt i))) := by
  induction na with
  | zero =>
    have : (fun u => p u * more fr tt f 0 u) = fun _ => 0 := by funext u; simp [more, sm]
    rw [this, sm_zero n _ (fun _ _ => rfl)]; rfl
  | succ na ih =>
    have e : (fun u => p u * more fr tt f (na + 1) u) = fun u => p u * more fr tt f na u + (p u * (if fr na = u then f na else 0) - p u * (if tt na = u then f na else 0)) := by
      funext u; rw [more_succ, Int.mul_add, Int.mul_sub]
    rw [e, sm_add, ih (fun i hi => hf i (by omega)) (fun i hi => ht i (by omega)), sm_sub, sm_at n _ p _ (hf na (by omega)), sm_at n _ p _ (ht na (by omega))]
    simp only [sm]
    rw [Int.mul_sub, Int.mul_comm (f na), Int.mul_comm (f na)]
/-- The sum of two nodes' terms. -/
theorem sm_two (s t : Nat) (q : Nat → Int) (hs : s < n) (ht : t < n) (hne : s ≠ t) (h0 : ∀ u, u < n → u ≠ s → u ≠ t → q u = 0) : sm n q = q s + q t := by
  have e : sm n q = sm n (fun u => (if u = s then q s else 0) + (if u = t then q t else 0)) := by
    apply sm_congr
    intro u hu
    by_cases e1 : u = s
    · subst e1; simp [hne]
    · by_cases e2 : u = t
      · subst e2; simp [e1]
      · simp [e1, e2, h0 u hu e1 e2]
  rw [e, sm_add, sm_one n s _ hs, sm_one n t _ ht]

/-- A flow: at most c times each capacity, of value v. -/
structure Flw (n na s t : Nat) (fr tt : Nat → Nat) (cap : Nat → Int) (c : Int) (f : Nat → Int) (v : Int) : Prop where
  bd : ∀ i, i < na → 0 ≤ f i ∧ f i ≤ c * cap i
  mid : ∀ u, u < n → u ≠ s → u ≠ t → more fr tt f na u = 0
  val : more fr tt f na s = v
structure Arcs1 (n na s t : Nat) (fr tt : Nat → Nat) : Prop where
  frL : ∀ i, i < na → fr i < n
  ttL : ∀ i, i < na → tt i < n
  sL : s < n
  tL : t < n
  ne : s ≠ t
variable {cap : Nat → Int} {c v : Int}
theorem Flw.at_t (hA : Arcs1 n na s t fr tt) (h : Flw n na s t fr tt cap c f v) : more fr tt f na t = - v := by
  have h1 := sm_more (f := f) (fun _ => 1) hA.frL hA.ttL
  have h2 : sm na (fun i => f i * ((1 : Int) - 1)) = 0 := sm_zero na _ fun i _ => by simp
  rw [h2, sm_two s t _ hA.sL hA.tL hA.ne (fun u hu h1 h2 => by rw [h.mid u hu h1 h2]; simp)] at h1
  have := h.val
  simp only [Int.one_mul] at h1
  omega
/-- Potentials telescope. -/
theorem Flw.tele (hA : Arcs1 n na s t fr tt) (h : Flw n na s t fr tt cap c f v) (p : Nat → Int) : sm na (fun i => f i * (p (fr i) - p (tt i))) = v * (p s - p t) := by
  rw [← sm_more p hA.frL hA.ttL, sm_two s t _ hA.sL hA.tL hA.ne (fun u hu h1 h2 => by rw [h.mid u hu h1 h2]; simp), h.val, h.at_t hA]
  rw [Int.mul_sub, Int.mul_comm (p s), Int.mul_comm (p t), Int.neg_mul]
  omega
/-- A potential that certifies a flow. -/
def CertP (na : Nat) (fr tt : Nat → Nat) (cap cost f p : Nat → Int) : Prop := ∀ i, i < na → (f i < cap i → 0 ≤ cost i + p (fr i) - p (tt i)) ∧ (0 < f i → cost i + p (fr i) - p (tt i) ≤ 0)
theorem CertP.least {cost p g : Nat → Int} (hA : Arcs1 n na s t fr tt) (hc : CertP na fr tt cap cost f p) (hf : Flw n na s t fr tt cap 1 f v) (hg : Flw n na s t fr tt cap c g (c * v)) : c * cst cost f na ≤ cst cost g na := by
  have h1 := hf.tele hA p
  have h2 := hg.tele hA p
  have h3 : c * sm na (fun i => f i * (cost i + p (fr i) - p (tt i))) ≤ sm na (fun i => g i * (cost i + p (fr i) - p (tt i))) := by
    rw [← sm_mul]
    apply sm_le
    intro i hi
    obtain ⟨q1, q2⟩ := hc i hi
    obtain ⟨b1, b2⟩ := hf.bd i hi
    obtain ⟨b3, b4⟩ := hg.bd i hi
    rw [Int.one_mul] at b2
    generalize cost i + p (fr i) - p (tt i) = d at q1 q2 ⊢
    rw [← Int.mul_assoc]
    rcases Int.lt_trichotomy d 0 with hd | hd | hd
    · have e : f i = cap i := by
        rcases Int.lt_or_le (f i) (cap i) with h | h
        · have := q1 h; omega
        · omega
      rw [e]
      exact Int.mul_le_mul_of_nonpos_right b4 (by omega)
    · subst hd; simp
    · have e : f i = 0 := by
        rcases Int.lt_or_le 0 (f i) with h | h
        · have := q2 h; omega
        · omega
      rw [e, Int.mul_zero, Int.zero_mul]
      exact Int.mul_nonneg b3 (by omega)
  have split : ∀ (h : Nat → Int), sm na (fun i => h i * (cost i + p (fr i) - p (tt i))) = cst cost h na + sm na (fun i => h i * (p (fr i) - p (tt i))) := by
    intro h
    unfold cst
    rw [← sm_add]
    apply sm_congr
    intro i _
    rw [← Int.mul_add]
    congr 1; omega
  rw [split, split, h1, h2, Int.mul_add, ← Int.mul_assoc] at h3
  omega

/-! ### Cuts -/
def ind (S : Nat → Bool) (u : Nat) : Int := if S u then 1 else 0
def cpc (na : Nat) (fr tt : Nat → Nat) (cap : Nat → Int) (S : Nat → Bool) : Int := sm na fun i => if S (fr i) && !S (tt i) then cap i else 0
theorem Flw.cut (hA : Arcs1 n na s t fr tt) (h : Flw n na s t fr tt cap 1 f v) {S : Nat → Bool} (hs : S s = true) (ht : S t = false) :
    v ≤ cpc na fr tt cap S ∧ (v = cpc na fr tt cap S ↔ ∀ i, i < na → (S (fr i) = true → S (tt i) = false → f i = cap i) ∧ (S (fr i) = false → S (tt i) = true → f i = 0)) := by
  have h1 := h.tele hA (ind S)
  have e1 : v * (ind S s - ind S t) = v := by simp [ind, hs, ht]
  rw [e1] at h1
  have hle : ∀ i, i < na → f i * (ind S (fr i) - ind S (tt i)) ≤ (if S (fr i) && !S (tt i) then cap i else 0) := by
    intro i hi
    obtain ⟨b1, b2⟩ := h.bd i hi
    rw [Int.one_mul] at b2
    unfold ind
    cases S (fr i) <;> cases S (tt i) <;> simp <;> omega
  refine ⟨by rw [← h1]; exact sm_le na _ _ hle, ?_, ?_⟩
  · intro e i hi
    have := sm_eq_le na _ _ hle (by show cpc na fr tt cap S ≤ _; omega) i hi
    unfold ind at this
    refine ⟨fun q1 q2 => ?_, fun q1 q2 => ?_⟩
    · simpa [q1, q2] using this
    · simp [q1, q2] at this; omega
  · intro hall
    rw [← h1]
    apply sm_congr
    intro i hi
    obtain ⟨q1, q2⟩ := hall i hi
    unfold ind
    cases e1 : S (fr i) <;> cases e2 : S (tt i) <;> simp
    · exact q2 e1 e2
    · exact q1 e1 e2
/-- A set that a flow's rest does not leave. -/
def ShutR (na : Nat) (fr tt : Nat → Nat) (cap f : Nat → Int) (S : Nat → Bool) : Prop := ∀ i, i < na → (S (fr i) = true → f i < cap i → S (tt i) = true) ∧ (S (tt i) = true → 0 < f i → S (fr i) = true)
theorem Flw.shut (hA : Arcs1 n na s t fr tt) (h : Flw n na s t fr tt cap 1 f v) {S : Nat → Bool} (hs : S s = true) (ht : S t = false) : v = cpc na fr tt cap S ↔ ShutR na fr tt cap f S := by
  rw [(h.cut hA hs ht).2]
  refine ⟨fun h1 i hi => ⟨fun q1 q2 => ?_, fun q1 q2 => ?_⟩, fun h1 i hi => ⟨fun q1 q2 => ?_, fun q1 q2 => ?_⟩⟩
  · cases e : S (tt i) with
    | true => rfl
    | false => have := (h1 i hi).1 q1 e; omega
  · cases e : S (fr i) with
    | true => rfl
    | false => have := (h1 i hi).2 e q1; omega
  · have b := h.bd i hi
    rcases Int.lt_or_le (f i) (cap i) with h2 | h2
    · have := (h1 i hi).1 q1 h2; rw [q2] at this; cases this
    · omega
  · have b := h.bd i hi
    rcases Int.lt_or_le 0 (f i) with h2 | h2
    · have := (h1 i hi).2 q2 h2; rw [q1] at this; cases this
    · omega
/-- No flow is greater. -/
theorem Flw.greatest (hA : Arcs1 n na s t fr tt) (h : Flw n na s t fr tt cap 1 f v) {S : Nat → Bool} (hs : S s = true) (ht : S t = false) (hS : ShutR na fr tt cap f S) {g : Nat → Int} {x : Int} (hg : Flw n na s t fr tt cap 1 g x) : x ≤ v := by
  rw [(h.shut hA hs ht).2 hS]
  exact (hg.cut hA hs ht).1
end
end Go.KL
end

section
/- Arcs and flows in memory, as views. -/
namespace Go.KL
open Go.Proofs
set_option maxRecDepth 4000 in
theorem more_upd (fr tt : Nat → Nat) (f : Nat → Int) (i : Nat) (hne : fr i ≠ tt i) : upd (upd (fun u => more fr tt f i u) (fr i) (more fr tt f i (fr i) + f i)) (tt i) (upd (fun u => more fr tt f i u) (fr i) (more fr tt f i (fr i) + f i) (tt i) - f i) = fun u => more fr tt f (i + 1) u := by
  funext u
  rw [upd_ne _ _ (fun e => hne e.symm), more_succ]
  simp only [upd]
  by_cases e1 : u = tt i
  · subst e1
    simp only [if_true, if_neg hne]; omega
  · by_cases e2 : u = fr i
    · subst e2
      have e3 : ¬ tt i = fr i := fun e => hne e.symm
      simp only [if_neg e1, if_neg e3, if_true]; omega
    · have e3 : ¬ fr i = u := fun e => e2 e.symm
      have e4 : ¬ tt i = u := fun e => e1 e.symm
      simp only [if_neg e1, if_neg e2, if_neg e3, if_neg e4]; omega
set_option maxRecDepth 4000 in
theorem more_bd (fr tt : Nat → Nat) (f : Nat → Int) (B : Int) (hB : 0 ≤ B) : ∀ (i : Nat), (∀ j, j < i → 0 ≤ f j ∧ f j ≤ B) → ∀ u, -(i * B) ≤ more fr tt f i u ∧ more fr tt f i u ≤ i * B := by
  intro i
  induction i with
  | zero => intro _ u; simp [more, sm]
  | succ i ih =>
    intro h u
    have h1 := ih (fun j hj => h j (by omega)) u
    have h2 := h i (by omega)
    have h3 : ((i + 1 : Nat) : Int) * B = i * B + B := by rw [Int.natCast_succ, Int.add_mul, Int.one_mul]
    rw [more_succ, h3]
    split <;> split <;> omega
set_option maxRecDepth 4000 in
theorem ints_congr' {e : TypeId} {n : Nat} {f g : Nat → Int} {rest : List Value} (h : ∀ u, u < n → f u = g u) : ints e n f rest = ints e n g rest := by
  unfold ints arr
  congr 2
  apply List.map_congr_left
  intro u hu
  rw [h u (by simpa using hu)]
set_option maxRecDepth 4000 in
theorem bools_congr' {e : TypeId} {n : Nat} {f g : Nat → Bool} {rest : List Value} (h : ∀ u, u < n → f u = g u) : bools e n f rest = bools e n g rest := by
  unfold bools arr
  congr 2
  apply List.map_congr_left
  intro u hu
  rw [h u (by simpa using hu)]
/-- Pairs. -/
abbrev Pr := Int × Int
def pg (Q : Nat → Pr) (i j : Nat) : Value := match j with
  | 0 => .int .i64 (Q i).1
  | _ => .int .i64 (Q i).2
abbrev SlP (C : World → Prop) (v : Value) (m : Nat) (Q : Nat → Pr) : Prop := SlV C v m 2 (pg Q)
set_option maxRecDepth 4000 in
theorem SlP.open {C : World → Prop} {v : Value} {m : Nat} {Q : Nat → Pr} (h : SlP C v m Q) : ∃ pa c, v = .slice pa m c ∧ m ≤ c ∧ (0 < m → ∃ b o, pa = some ⟨b, o, none⟩ ∧
    (∀ i, i < m → CellsAre C ⟨b, o + i * 2, none⟩ [.int .i64 (Q i).1, .int .i64 (Q i).2]) ∧
    (∀ i, i < m → CellIs C ⟨b, o + i * 2, none⟩ (.int .i64 (Q i).1)) ∧ (∀ i, i < m → CellIs C ⟨b, o + i * 2 + 1, none⟩ (.int .i64 (Q i).2))) := by
  obtain ⟨pa, c, h1, h0, h2⟩ := SlV.cells h
  refine ⟨pa, c, h1, h0, fun hn => ?_⟩
  obtain ⟨b, o, h3, h4, h5⟩ := h2 hn
  exact ⟨b, o, h3, h4, fun i hi => h5 0 (by omega) i hi, fun i hi => h5 1 (by omega) i hi⟩
end Go.KL
end

section
/- Plain lemmas: the nodes that a flow's rest reaches, by rounds over the arcs. No program in sight. -/
namespace Go.KL
/-- The least set that holds s and that the rest does not leave. -/
structure ReachP (n na s : Nat) (fr tt : Nat → Nat) (cap f : Nat → Int) (g : Nat → Bool) : Prop where
  start : g s = true
  lt : ∀ u, g u = true → u < n
  shut : ShutR na fr tt cap f g
  least : ∀ X : Nat → Prop, X s → (∀ i, i < na → (X (fr i) → f i < cap i → X (tt i)) ∧ (X (tt i) → 0 < f i → X (fr i))) → ∀ u, g u = true → X u
theorem ReachP.unique {n na s : Nat} {fr tt : Nat → Nat} {cap f : Nat → Int} {g g' : Nat → Bool} (h : ReachP n na s fr tt cap f g) (h' : ReachP n na s fr tt cap f g') : ∀ u, g u = g' u := by
  intro u
  have h1 := h.least (fun u => g' u = true) h'.start (fun i hi => h'.shut i hi) u
  have h2 := h'.least (fun u => g u = true) h.start (fun i hi => h.shut i hi) u
  cases e1 : g u <;> cases e2 : g' u <;> simp_all
/-- What holds of every set on the way. -/
structure RSnd (n na s : Nat) (fr tt : Nat → Nat) (cap f : Nat → Int) (g : Nat → Bool) : Prop where
  start : g s = true
  lt : ∀ u, g u = true → u < n
  least : ∀ X : Nat → Prop, X s → (∀ i, i < na → (X (fr i) → f i < cap i → X (tt i)) ∧ (X (tt i) → 0 < f i → X (fr i))) → ∀ u, g u = true → X u
def Shut1 (fr tt : Nat → Nat) (cap f : Nat → Int) (g : Nat → Bool) (i : Nat) : Prop := (g (fr i) = true → f i < cap i → g (tt i) = true) ∧ (g (tt i) = true → 0 < f i → g (fr i) = true)
/-- In a round: nothing has turned so far and the first i arcs are shut, or there are more. -/
structure RRnd (n na s : Nat) (fr tt : Nat → Nat) (cap f : Nat → Int) (g0 g : Nat → Bool) (i : Nat) : Prop where
  snd : RSnd n na s fr tt cap f g
  alt : ((∀ u, g u = g0 u) ∧ ∀ j, j < i → Shut1 fr tt cap f g0 j) ∨ cnt n g0 < cnt n g
section
variable {n na s i : Nat} {fr tt : Nat → Nat} {cap f : Nat → Int} {g g0 : Nat → Bool}
theorem RSnd.begin (hs : s < n) : RSnd n na s fr tt cap f (upd (fun _ => false) s true) := by
  refine ⟨by simp, fun u hu => ?_, fun X hX _ u hu => ?_⟩ <;> by_cases e : u = s
  · omega
  · simp [upd, e] at hu
  · rw [e]; exact hX
  · simp [upd, e] at hu
theorem RSnd.add (h : RSnd n na s fr tt cap f g) (v : Nat) (hv : v < n) (hl : ∀ X : Nat → Prop, X s → (∀ i, i < na → (X (fr i) → f i < cap i → X (tt i)) ∧ (X (tt i) → 0 < f i → X (fr i))) → X v) : RSnd n na s fr tt cap f (upd g v true) := by
  refine ⟨?_, fun u hu => ?_, fun X hX hc u hu => ?_⟩
  · simp only [upd]; split
    · rfl
    · exact h.start
  · by_cases e : u = v
    · omega
    · exact h.lt u (by simpa [upd, e] using hu)
  · by_cases e : u = v
    · rw [e]; exact hl X hX hc
    · exact h.least X hX hc u (by simpa [upd, e] using hu)
theorem cnt_upd_le (g : Nat → Bool) (v : Nat) : cnt n g ≤ cnt n (upd g v true) := cnt_mono n _ _ fun u _ hu => by simp only [upd]; split <;> simp_all
theorem cnt_upd_lt (g : Nat → Bool) (v : Nat) (hv : v < n) (hg : g v = false) : cnt n g < cnt n (upd g v true) := cnt_lt n _ _ (fun u _ hu => by simp only [upd]; split <;> simp_all) v hv (by simp) hg
theorem upd_true_self (g : Nat → Bool) (v : Nat) (hg : g v = true) : upd g v true = g := by funext u; simp only [upd]; split <;> simp_all
/-- A node is marked. -/
theorem RRnd.mark (h : RRnd n na s fr tt cap f g0 g i) (v : Nat) (hv : v < n) (hl : ∀ X : Nat → Prop, X s → (∀ i, i < na → (X (fr i) → f i < cap i → X (tt i)) ∧ (X (tt i) → 0 < f i → X (fr i))) → X v) : RRnd n na s fr tt cap f g0 (upd g v true) i := by
  refine ⟨h.snd.add v hv hl, ?_⟩
  cases e : g v with
  | true => rw [upd_true_self g v e]; exact h.alt
  | false =>
    right
    have h1 := cnt_upd_lt (n := n) g v hv e
    rcases h.alt with ⟨h2, _⟩ | h2
    · rw [cnt_congr n g g0 fun u _ => h2 u] at h1; exact h1
    · omega
/-- An arc has been looked at. -/
theorem RRnd.next (h : RRnd n na s fr tt cap f g0 g i) (hsh : (∀ u, g u = g0 u) → Shut1 fr tt cap f g0 i) : RRnd n na s fr tt cap f g0 g (i + 1) := by
  refine ⟨h.snd, ?_⟩
  rcases h.alt with ⟨h1, h2⟩ | h1
  · refine .inl ⟨h1, fun j hj => ?_⟩
    by_cases e : j = i
    · subst e; exact hsh h1
    · exact h2 j (by omega)
  · exact .inr h1
/-- After a round. -/
theorem RRnd.done (h : RRnd n na s fr tt cap f g0 g na) {r : Nat} (h0 : ReachP n na s fr tt cap f g0 ∨ r < cnt n g0) : ReachP n na s fr tt cap f g ∨ r + 1 < cnt n g := by
  rcases h.alt with ⟨h1, h2⟩ | h1
  · left
    have e : g = g0 := funext h1
    subst e
    exact ⟨h.snd.start, h.snd.lt, fun i hi => h2 i hi, h.snd.least⟩
  · rcases h0 with h0 | h0
    · left
      refine ⟨h.snd.start, h.snd.lt, ?_, h.snd.least⟩
      have : ∀ u, g u = true → g0 u = true := fun u hu => h.snd.least (fun u => g0 u = true) h0.start (fun i hi => h0.shut i hi) u hu
      have h2 := cnt_mono n g g0 (fun u _ hu => this u hu)
      omega
    · right; omega
end
end Go.KL
end

section
/- What flow.Close is asked, and closed sets. -/
namespace Go.KL
open Go.Proofs
def ClosedP (m : Nat) (Q : Nat → Pr) (S : Nat → Bool) : Prop := ∀ i, i < m → S (Q i).1.toNat = true → S (Q i).2.toNat = true
/-- The weight of a set. -/
def wgt (n : Nat) (f : Nat → Int) (S : Nat → Bool) : Int := sm n fun i => if S i then f i else 0
theorem wgt_bd {f : Nat → Int} {S : Nat → Bool} : ∀ (n : Nat), (∀ i, i < n → -1073741824 ≤ f i ∧ f i ≤ 1073741824) → -(n * 1073741824) ≤ wgt n f S ∧ wgt n f S ≤ n * 1073741824 := by
  intro n
  induction n with
  | zero => intro _; simp [wgt, sm]
  | succ n ih =>
    intro h
    have h1 := ih fun i hi => h i (by omega)
    have h2 := h n (by omega)
    have h3 : wgt (n + 1) f S = wgt n f S + (if S n then f n else 0) := rfl
    rw [h3]
    split <;> omega
structure GoodsOK (n : Nat) (w : Nat → Int) (m : Nat) (Q : Nat → Pr) : Prop where
  hn : n ≤ 120
  hm : m ≤ 1024
  hw : ∀ i, i < n → -1073741824 ≤ w i ∧ w i ≤ 1073741824
  hq : ∀ i, i < m → (0 ≤ (Q i).1 ∧ (Q i).1 < n) ∧ 0 ≤ (Q i).2 ∧ (Q i).2 < n
theorem wgt_congr {n : Nat} {f : Nat → Int} {S S' : Nat → Bool} (h : ∀ i, i < n → S i = S' i) : wgt n f S = wgt n f S' := sm_congr n _ _ fun i hi => by rw [h i hi]
theorem closedP_congr {n m : Nat} {Q : Nat → Pr} {S S' : Nat → Bool} (hr : ∀ i, i < m → (0 ≤ (Q i).1 ∧ (Q i).1 < n) ∧ 0 ≤ (Q i).2 ∧ (Q i).2 < n) (h : ∀ i, i < n → S i = S' i) (hc : ClosedP m Q S) : ClosedP m Q S' := fun i hi hs => by
  have := hr i hi
  rw [← h _ (by omega)] at hs ⊢
  exact hc i hi hs
/-- The greatest weight of a closed set, and what all closed sets of this weight have in common. -/
structure CloseP (n m : Nat) (f : Nat → Int) (Q : Nat → Pr) (best : Int) (common : Nat → Bool) : Prop where
  is : ∃ S, ClosedP m Q S ∧ wgt n f S = best
  max : ∀ S, ClosedP m Q S → wgt n f S ≤ best
  com : ∀ i, i < n → (common i = true ↔ ∀ S, ClosedP m Q S → wgt n f S = best → S i = true)
theorem CloseP.unique {n m : Nat} {f : Nat → Int} {Q : Nat → Pr} {b b' : Int} {c c' : Nat → Bool} (h : CloseP n m f Q b c) (h' : CloseP n m f Q b' c') : b = b' ∧ ∀ i, i < n → c i = c' i := by
  obtain ⟨S, h1, h2⟩ := h.is
  obtain ⟨S', h3, h4⟩ := h'.is
  have e : b = b' := by have := h.max S' h3; have := h'.max S h1; omega
  subst e
  refine ⟨rfl, fun i hi => ?_⟩
  have q1 := h.com i hi
  have q2 := h'.com i hi
  cases e1 : c i <;> cases e2 : c' i
  · rfl
  · rw [e1, ← q2, e2] at q1; simp at q1
  · rw [e2, ← q1, e1] at q2; simp at q2
  · rfl
end Go.KL
end

section
/- The network of arcs that are added one by one; its views when it is whole. -/
namespace Go.KL
open Go.Proofs
section
variable (fr tt : Nat → Nat) (rm cs : Nat → Int)
def toL (k : Nat) : Nat := if k % 2 = 0 then tt (k / 2) else fr (k / 2)
def roomL (k : Nat) : Int := if k % 2 = 0 then rm (k / 2) else 0
def costL (k : Nat) : Int := if k % 2 = 0 then cs (k / 2) else - cs (k / 2)
def tlL (k : Nat) : Nat := toL fr tt (par2 k)
def outsA (i v : Nat) : List Nat := (List.range (2 * i)).filter fun k => decide (tlL fr tt k = v)
end
section
variable {fr tt : Nat → Nat} {rm cs : Nat → Int}
set_option maxRecDepth 4000 in
theorem toL_even (i : Nat) : toL fr tt (2 * i) = tt i := by unfold toL; rw [if_pos (by omega)]; congr 1; omega
set_option maxRecDepth 4000 in
theorem toL_odd (i : Nat) : toL fr tt (2 * i + 1) = fr i := by unfold toL; rw [if_neg (by omega)]; congr 1; omega
set_option maxRecDepth 4000 in
theorem roomL_even (i : Nat) : roomL rm (2 * i) = rm i := by unfold roomL; rw [if_pos (by omega)]; congr 1; omega
set_option maxRecDepth 4000 in
theorem roomL_odd (i : Nat) : roomL rm (2 * i + 1) = 0 := by unfold roomL; rw [if_neg (by omega)]
set_option maxRecDepth 4000 in
theorem costL_even (i : Nat) : costL cs (2 * i) = cs i := by unfold costL; rw [if_pos (by omega)]; congr 1; omega
set_option maxRecDepth 4000 in
theorem costL_odd (i : Nat) : costL cs (2 * i + 1) = - cs i := by unfold costL; rw [if_neg (by omega)]; congr 2; omega
set_option maxRecDepth 4000 in
theorem par2_even (i : Nat) : par2 (2 * i) = 2 * i + 1 := by unfold par2; rw [if_pos (by omega)]
set_option maxRecDepth 4000 in
theorem par2_odd (i : Nat) : par2 (2 * i + 1) = 2 * i := by unfold par2; rw [if_neg (by omega)]; omega
set_option maxRecDepth 4000 in
theorem tlL_even (i : Nat) : tlL fr tt (2 * i) = fr i := by unfold tlL; rw [par2_even, toL_odd]
set_option maxRecDepth 4000 in
theorem tlL_odd (i : Nat) : tlL fr tt (2 * i + 1) = tt i := by unfold tlL; rw [par2_odd, toL_even]
set_option maxRecDepth 4000 in
theorem half (k : Nat) : (∃ i, k = 2 * i) ∨ ∃ i, k = 2 * i + 1 := by
  rcases Nat.mod_two_eq_zero_or_one k with h | h
  · exact .inl ⟨k / 2, by omega⟩
  · exact .inr ⟨k / 2, by omega⟩
set_option maxRecDepth 4000 in
theorem outsA_zero (v : Nat) : outsA fr tt 0 v = [] := rfl
set_option maxRecDepth 4000 in
theorem outsA_succ (i : Nat) : upd (upd (outsA fr tt i) (fr i) (outsA fr tt i (fr i) ++ [2 * i])) (tt i) (upd (outsA fr tt i) (fr i) (outsA fr tt i (fr i) ++ [2 * i]) (tt i) ++ [2 * i + 1]) = outsA fr tt (i + 1) := by
  funext v
  have e : List.range (2 * (i + 1)) = List.range (2 * i) ++ [2 * i, 2 * i + 1] := by
    rw [show 2 * (i + 1) = 2 * i + 1 + 1 by omega, List.range_succ, List.range_succ, List.append_assoc]; rfl
  have e2 : outsA fr tt (i + 1) v = outsA fr tt i v ++ ([2 * i, 2 * i + 1].filter fun k => decide (tlL fr tt k = v)) := by
    unfold outsA; rw [e, List.filter_append]
  rw [e2]
  simp only [List.filter_cons, List.filter_nil, tlL_even, tlL_odd, upd]
  by_cases h1 : v = tt i
  · subst h1
    by_cases h2 : tt i = fr i
    · simp [h2]
    · have h3 : ¬ fr i = tt i := fun e => h2 e.symm
      simp [h2, h3]
  · by_cases h2 : v = fr i
    · subst h2
      have h3 : ¬ tt i = fr i := fun e => h1 e.symm
      simp [h1, h3]
    · have h3 : ¬ fr i = v := fun e => h2 e.symm
      have h4 : ¬ tt i = v := fun e => h1 e.symm
      simp [h1, h2, h3, h4]
set_option maxRecDepth 4000 in
theorem outsA_len (i v : Nat) : (outsA fr tt i v).length ≤ 2 * i := by
  unfold outsA
  exact Nat.le_trans (List.length_filter_le _ _) (by simp)
set_option maxRecDepth 4000 in
theorem pgL {n na : Nat} (hf : ∀ i, i < na → fr i < n ∧ tt i < n) : PG n (2 * na) (outsA fr tt na) (toL fr tt) (tlL fr tt) par2 (costL cs) := by
  refine ⟨fun k hk => ?_, fun v _ => outsA_len na v, fun k hk => ?_, par2_par2, par2_ne, fun k => rfl, fun v hv k => ?_, fun k => ?_⟩
  · rcases half k with ⟨i, rfl⟩ | ⟨i, rfl⟩
    · rw [toL_even]; exact (hf i (by omega)).2
    · rw [toL_odd]; exact (hf i (by omega)).1
  · rcases half k with ⟨i, rfl⟩ | ⟨i, rfl⟩
    · rw [par2_even]; omega
    · rw [par2_odd]; omega
  · unfold outsA; simp
  · rcases half k with ⟨i, rfl⟩ | ⟨i, rfl⟩
    · rw [par2_even, costL_odd, costL_even]
    · rw [par2_odd, costL_odd, costL_even]; omega
set_option maxRecDepth 4000 in
theorem put2_lg (i : Nat) : put2 (lg (toL fr tt) (roomL rm) (costL cs)) (2 * i) (fun j => match j with | 0 => .int .i64 (tt i : Nat) | 1 => .int .i64 (rm i) | _ => .int .i64 (cs i)) (fun j => match j with | 0 => .int .i64 (fr i : Nat) | 1 => .int .i64 0 | _ => .int .i64 (-cs i)) = lg (toL fr tt) (roomL rm) (costL cs) := by
  funext k j
  unfold put2
  split
  · rename_i h; subst h
    simp only [lg, lnk, toL_even, roomL_even, costL_even]
    all_goals
      match j with
      | 0 => rfl
      | 1 => rfl
      | j + 2 => rfl
  · split
    · rename_i h; subst h
      simp only [lg, lnk, toL_odd, roomL_odd, costL_odd]
      all_goals
        match j with
        | 0 => rfl
        | 1 => rfl
        | j + 2 => rfl
    · rfl
end
/-- The network behind i arcs. -/
def anet (fr tt : Nat → Nat) (rm cs : Nat → Int) (p bo n i : Nat) (hs : Value) (x : Option Own × (Nat → Option Own)) (F : List Chunk) : List Chunk :=
  bnet p bo n (2 * i) hs x.1 x.2 (lg (toL fr tt) (roomL rm) (costL cs)) (outsA fr tt i) F
structure anOK (fr tt : Nat → Nat) (rm cs : Nat → Int) (n i : Nat) (x : Option Own × (Nat → Option Own)) : Prop where
  links : owfO 3 x.1 (2 * i) (lvals (2 * i) (lg (toL fr tt) (roomL rm) (costL cs)))
  rows : rowsOK n x.2 (outsA fr tt i)
set_option maxRecDepth 4000 in
theorem anet_begin (fr tt : Nat → Nat) (rm cs : Nat → Int) (n : Nat) : anOK fr tt rm cs n 0 (none, fun _ => none) := by
  refine ⟨⟨by simp [lvals], rfl⟩, fun v _ => ⟨by simp [rvals, outsA], by simp [outsA]⟩⟩
set_option maxRecDepth 4000 in
theorem rowsC_none (fr tt : Nat → Nat) (n : Nat) : (rowsC n (fun _ => none) (outsA fr tt 0)).flatten = [] := by
  simp [rowsC, oc]
set_option maxRecDepth 4000 in
theorem anet_new (fr tt : Nat → Nat) (rm cs : Nat → Int) {W w : World} {p bo n : Nat} {hs : Value} {F : List Chunk} (h : K W ([(p, row 127 [nilS, .slice (some ⟨bo, 0, none⟩) n n, nilS, nilS, hs])] :: [(bo, arr 29 n (fun _ => nilS) [])] :: F) w) :
    K W (anet fr tt rm cs p bo n 0 hs (none, fun _ => none) F) w := by
  refine h.weak [] ?_
  have e : rowv (fun _ => none) (outsA fr tt 0) = fun _ => nilS := by funext v; rfl
  unfold anet bnet
  rw [List.append_nil]
  simp only [List.flatten_cons, List.flatten_append, rowsC_none, List.nil_append, e]
  exact List.Perm.refl _
set_option maxRecDepth 4000 in
theorem padd_spec (fr tt : Nat → Nat) (rm cs : Nat → Int) (W : World) (F : List Chunk) (p bo n i : Nat) (hs : Value) (x : Option Own × (Nat → Option Own)) (hx : anOK fr tt rm cs n i x)
    (hf : fr i < n) (ht : tt i < n) (hi : i ≤ 10000) (hc : -1000000000000 ≤ cs i ∧ cs i ≤ 1000000000000) :
    Spec Try.prog 75 #[.pointer (some ⟨p, 0, none⟩), .int .i64 (fr i : Nat), .int .i64 (tt i : Nat), .int .i64 (rm i), .int .i64 (cs i)] (K W (anet fr tt rm cs p bo n i hs x F)) (X := { y : Option Own × (Nat → Option Own) // anOK fr tt rm cs n (i + 1) y })
      (fun _ => .tuple #[]) (fun y => K W (anet fr tt rm cs p bo n (i + 1) hs y.1 F)) := by
  have h := add_spec W F p bo n (2 * i) (fr i) (tt i) (rm i) (cs i) hs x.1 x.2 (lg (toL fr tt) (roomL rm) (costL cs)) (outsA fr tt i) hx.links hx.rows hf ht (by omega) (fun v _ => outsA_len i v) hc
  rw [outsA_succ i] at h
  refine h.conv (fun y => ⟨y.1, ?_, y.2.2⟩) (fun _ => rfl) (fun y w h => ?_)
  · obtain ⟨y, hy1, hy2⟩ := y
    have e := put2_lg (fr := fr) (tt := tt) (rm := rm) (cs := cs) i
    show owfO 3 y.1 (2 * i + 2) (lvals (2 * i + 2) (lg (toL fr tt) (roomL rm) (costL cs)))
    exact e ▸ (show owfO 3 y.1 (2 * i + 2) (lvals (2 * i + 2) (put2 (lg (toL fr tt) (roomL rm) (costL cs)) (2 * i) _ _)) from hy1)
  · obtain ⟨y, hy1, hy2⟩ := y
    have e := put2_lg (fr := fr) (tt := tt) (rm := rm) (cs := cs) i
    show K W (bnet p bo n (2 * i + 2) hs y.1 y.2 (lg (toL fr tt) (roomL rm) (costL cs)) (outsA fr tt (i + 1)) F) w
    exact e ▸ (show K W (bnet p bo n (2 * i + 2) hs y.1 y.2 (put2 (lg (toL fr tt) (roomL rm) (costL cs)) (2 * i) _ _) (outsA fr tt (i + 1)) F) w from h)
set_option maxRecDepth 4000 in
theorem anet_tail {fr tt : Nat → Nat} {rm cs : Nat → Int} {W w : World} {p bo n i : Nat} {hs : Value} {x : Option Own × (Nat → Option Own)} {F : List Chunk} (h : K W (anet fr tt rm cs p bo n i hs x F) w) : K W F w := by
  refine h.weak (([(p, row 127 [ov x.1 (2 * i), .slice (some ⟨bo, 0, none⟩) n n, nilS, nilS, hs])] :: [(bo, arr 29 n (rowv x.2 (outsA fr tt i)) [])] :: oc 129 x.1 (lvals (2 * i) (lg (toL fr tt) (roomL rm) (costL cs))) :: rowsC n x.2 (outsA fr tt i)).flatten) ?_
  unfold anet bnet
  simp only [List.flatten_cons, List.flatten_append]
  rw [← List.append_assoc, ← List.append_assoc, ← List.append_assoc]
  exact List.perm_append_comm
/-- The links' chunk. -/
def linkCh (fr tt : Nat → Nat) (cs : Nat → Int) (m : Nat) (L : Option Own) (room : Nat → Int) : Chunk := match L with
  | none => []
  | some o => [(o.b, recs 129 3 m (lg (toL fr tt) room (costL cs)) o.rest)]
/-- The rest of the network, and what lies behind. -/
def restCh (fr tt : Nat → Nat) (bo n i : Nat) (R : Nat → Option Own) (F : List Chunk) : List Chunk := [(bo, arr 29 n (rowv R (outsA fr tt i)) [])] :: (rowsC n R (outsA fr tt i) ++ F)
set_option maxRecDepth 4000 in
theorem anet_linkC {fr tt : Nat → Nat} {rm cs : Nat → Int} {n i : Nat} {x : Option Own × (Nat → Option Own)} (h : anOK fr tt rm cs n i x) : LinkC (ov x.1 (2 * i)) (linkCh fr tt cs (2 * i) x.1) (2 * i) (toL fr tt) (costL cs) := by
  intro hm
  obtain ⟨L, R⟩ := x
  cases L with
  | none => have := h.links.2; omega
  | some o =>
    have hp : o.pre = [] := List.eq_nil_of_length_eq_zero (by have := h.links.2; omega)
    exact ⟨o.b, o.cap, o.rest, by simp [ov, osl, hp], rfl⟩
set_option maxRecDepth 4000 in
theorem anet_done {fr tt : Nat → Nat} {rm cs : Nat → Int} {W w : World} {p bo n i : Nat} {hs : Value} {x : Option Own × (Nat → Option Own)} {F : List Chunk} (hx : anOK fr tt rm cs n i x) {c : Chunk} (h : K W (anet fr tt rm cs p bo n i hs x (c :: F)) w) :
    K W ([(p, row 127 [ov x.1 (2 * i), .slice (some ⟨bo, 0, none⟩) n n, nilS, nilS, hs])] :: linkCh fr tt cs (2 * i) x.1 (roomL rm) :: c :: restCh fr tt bo n i x.2 F) w := by
  obtain ⟨L, R⟩ := x
  have e : oc 129 L (lvals (2 * i) (lg (toL fr tt) (roomL rm) (costL cs))) = linkCh fr tt cs (2 * i) L (roomL rm) := by
    cases L with
    | none => rfl
    | some o =>
      have hp : o.pre = [] := List.eq_nil_of_length_eq_zero (by have := hx.links.2; omega)
      simp only [oc, och, hp, List.nil_append, linkCh, lvals_recs]
  refine h.weak [] ?_
  unfold anet bnet restCh
  rw [List.append_nil]
  simp only [e, List.flatten_cons, List.flatten_append, List.singleton_append]
  refine List.Perm.cons _ ?_
  generalize linkCh fr tt cs (2 * i) L (roomL rm) = A
  generalize (rowsC n R (outsA fr tt i)).flatten = B
  generalize F.flatten = D
  -- (bo :: (A ++ (B ++ (c ++ D)))) ~ A ++ (c ++ (bo :: (B ++ D)))
  refine (List.perm_middle (l₁ := A)).symm.trans (List.Perm.append_left A ?_)
  refine (List.Perm.cons _ ?_).trans (List.perm_middle (l₁ := c)).symm
  rw [← List.append_assoc, ← List.append_assoc]
  exact List.Perm.append_right _ List.perm_append_comm
set_option maxRecDepth 4000 in
theorem restCh_out {fr tt : Nat → Nat} {W w : World} {bo n i : Nat} {R : Nat → Option Own} {c : Chunk} {F : List Chunk} (Pre : List Chunk) (h : K W (Pre ++ restCh fr tt bo n i R (c :: F)) w) : K W (c :: (Pre ++ restCh fr tt bo n i R F)) w := by
  refine h.weak [] ?_
  unfold restCh
  rw [List.append_nil]
  simp only [List.flatten_cons, List.flatten_append]
  generalize Pre.flatten = A
  generalize (rowsC n R (outsA fr tt i)).flatten = B
  generalize F.flatten = D
  generalize [(bo, arr 29 n (rowv R (outsA fr tt i)) [])] = E
  -- A ++ (E ++ (B ++ (c ++ D))) ~ c ++ (A ++ (E ++ (B ++ D)))
  have : ∀ (X : Chunk), (X ++ (c ++ D)).Perm (c ++ (X ++ D)) := fun X => by
    rw [← List.append_assoc, ← List.append_assoc]
    exact List.Perm.append_right _ List.perm_append_comm
  have e := this (A ++ (E ++ B))
  simpa only [List.append_assoc] using e
set_option maxRecDepth 4000 in
theorem restCh_tail {fr tt : Nat → Nat} {W w : World} {bo n i : Nat} {R : Nat → Option Own} {F : List Chunk} (h : K W (restCh fr tt bo n i R F) w) : K W F w := by
  refine h.weak (([(bo, arr 29 n (rowv R (outsA fr tt i)) [])] :: rowsC n R (outsA fr tt i)).flatten) ?_
  unfold restCh
  simp only [List.flatten_cons, List.flatten_append]
  rw [← List.append_assoc]
  exact List.perm_append_comm
set_option maxRecDepth 4000 in
theorem restCh_tailP {fr tt : Nat → Nat} {W w : World} {bo n i : Nat} {R : Nat → Option Own} {F : List Chunk} (Pre : List Chunk) (h : K W (Pre ++ restCh fr tt bo n i R F) w) : K W (Pre ++ F) w := by
  refine h.weak (([(bo, arr 29 n (rowv R (outsA fr tt i)) [])] :: rowsC n R (outsA fr tt i)).flatten) ?_
  unfold restCh
  simp only [List.flatten_cons, List.flatten_append, List.append_assoc]
  refine List.Perm.append_left _ ?_
  rw [← List.append_assoc]
  exact List.perm_append_comm
set_option maxRecDepth 4000 in
theorem anet_outV {fr tt : Nat → Nat} {rm cs : Nat → Int} {W : World} {bo n i : Nat} {x : Option Own × (Nat → Option Own)} {F Pre : List Chunk} (hx : anOK fr tt rm cs n i x) :
    OutV (K W (Pre ++ restCh fr tt bo n i x.2 F)) (.slice (some ⟨bo, 0, none⟩) n n) n (outsA fr tt i) := by
  have hC : ∀ w, K W (Pre ++ restCh fr tt bo n i x.2 F) w → K W ([] ++ ([(bo, arr 29 n (rowv x.2 (outsA fr tt i)) [])] :: (rowsC n x.2 (outsA fr tt i) ++ F))) w := fun w h => h.weak Pre.flatten (by simp only [restCh, List.flatten_append, List.nil_append]; exact List.perm_append_comm)
  refine ⟨bo, rfl, fun v hv => ⟨rowv x.2 (outsA fr tt i) v, ?_, ?_⟩⟩
  · exact (cell_arr (W := W) 0 rfl hv).cls hC
  · have h := hx.rows v hv
    unfold rowv
    cases hR : x.2 v with
    | none =>
      rw [hR] at h
      refine ⟨none, 0, by rw [h.2]; rfl, fun j hj => ?_⟩
      have := h.2
      omega
    | some o =>
      rw [hR] at h
      have hp : o.pre = [] := List.eq_nil_of_length_eq_zero (by have := h.2; omega)
      refine ⟨some ⟨o.b, 0, none⟩, o.cap, by simp [ov, osl, hp], fun j hj => ⟨o.b, rfl, fun k hk => ?_⟩⟩
      have hget : (([] : List Chunk) ++ ([(bo, arr 29 n (rowv x.2 (outsA fr tt i)) [])] :: (rowsC n x.2 (outsA fr tt i) ++ F))).getD (1 + v) [] = och 3 o (rvals (outsA fr tt i v)) := by
        have := rowsC_get (Pre := [[(bo, arr 29 n (rowv x.2 (outsA fr tt i)) [])]]) (F := F) (R := x.2) (outs := outsA fr tt i) hv
        rw [hR] at this
        exact this
      refine (cell_own (W := W) (1 + v) hget j (by simp [hp]) ?_).cls hC
      simp [rvals, hk]
end Go.KL
end

section
/- Plain lemmas: the rooms of the links give a flow on the arcs. No program in sight. -/
namespace Go.KL
theorem sm_pairs (na : Nat) (g : Nat → Int) : sm (2 * na) g = sm na (fun i => g (2 * i) + g (2 * i + 1)) := by
  induction na with
  | zero => rfl
  | succ na ih =>
    rw [show 2 * (na + 1) = 2 * na + 1 + 1 by omega]
    simp only [sm, ih]
    omega
section
variable {fr tt : Nat → Nat} {rm cs room : Nat → Int} {n na s t : Nat} {sent : Int}
theorem outflow_arcs (u : Nat) : outflow (2 * na) (tlL fr tt) room u = sm na (fun i => (if fr i = u then room (2 * i) else 0) + (if tt i = u then room (2 * i + 1) else 0)) := by
  unfold outflow
  rw [sm_pairs]
  apply sm_congr
  intro i _
  rw [tlL_even, tlL_odd]
/-- The flow on an arc: the room of the link that leads back. -/
def fOf (room : Nat → Int) (i : Nat) : Int := room (2 * i + 1)
theorem rooms_flow (hnn : ∀ k, k < 2 * na → 0 ≤ room k) (hpair : ∀ k, k < 2 * na → room k + room (par2 k) = roomL rm k + roomL rm (par2 k))
    (hbal : ∀ u, outflow (2 * na) (tlL fr tt) room u = outflow (2 * na) (tlL fr tt) (roomL rm) u - (if s = u then sent else 0) + (if t = u then sent else 0)) :
    (∀ i, i < na → 0 ≤ fOf room i ∧ fOf room i ≤ rm i ∧ room (2 * i) = rm i - fOf room i) ∧ ∀ u, more fr tt (fOf room) na u = (if s = u then sent else 0) - (if t = u then sent else 0) := by
  have h1 : ∀ i, i < na → 0 ≤ fOf room i ∧ fOf room i ≤ rm i ∧ room (2 * i) = rm i - fOf room i := fun i hi => by
    have q1 := hnn (2 * i) (by omega)
    have q2 := hnn (2 * i + 1) (by omega)
    have q3 := hpair (2 * i) (by omega)
    rw [par2_even, roomL_even, roomL_odd] at q3
    unfold fOf
    omega
  refine ⟨h1, fun u => ?_⟩
  have h2 := hbal u
  rw [outflow_arcs, outflow_arcs] at h2
  have h3 : sm na (fun i => (if fr i = u then room (2 * i) else 0) + (if tt i = u then room (2 * i + 1) else 0)) = sm na (fun i => (if fr i = u then roomL rm (2 * i) else 0) + (if tt i = u then roomL rm (2 * i + 1) else 0)) - more fr tt (fOf room) na u := by
    unfold more
    rw [← sm_sub]
    apply sm_congr
    intro i hi
    have q := (h1 i hi).2.2
    rw [roomL_even, roomL_odd, q]
    unfold fOf
    by_cases e1 : fr i = u <;> by_cases e2 : tt i = u <;> simp [e1, e2] <;> omega
  omega
theorem shut_of (hf : ∀ i, i < na → fr i < n ∧ tt i < n) (h1 : ∀ i, i < na → 0 ≤ fOf room i ∧ fOf room i ≤ rm i ∧ room (2 * i) = rm i - fOf room i) {S : Nat → Bool}
    (hS : ∀ v, S v = true → ∀ k, k ∈ outsA fr tt na v → 0 < room k → S (toL fr tt k) = true) : ShutR na fr tt rm (fOf room) S := by
  have hG := pgL (cs := fun _ => 0) hf
  intro i hi
  have hi1 := hf i hi
  refine ⟨fun q1 q2 => ?_, fun q1 q2 => ?_⟩
  · have := hS _ q1 (2 * i) ((hG.out_iff _ hi1.1 _).2 ⟨by omega, tlL_even i⟩) (by have := (h1 i hi).2.2; omega)
    rwa [toL_even] at this
  · have := hS _ q1 (2 * i + 1) ((hG.out_iff _ hi1.2 _).2 ⟨by omega, tlL_odd i⟩) q2
    rwa [toL_odd] at this
theorem cert_of {high : Nat → Int} (h1 : ∀ i, i < na → 0 ≤ fOf room i ∧ fOf room i ≤ rm i ∧ room (2 * i) = rm i - fOf room i)
    (hc : ∀ k, k < 2 * na → 0 < room k → 0 ≤ red (tlL fr tt) (toL fr tt) (costL cs) high k) : CertP na fr tt rm cs (fOf room) high := by
  intro i hi
  refine ⟨fun q => ?_, fun q => ?_⟩
  · have := hc (2 * i) (by omega) (by have := (h1 i hi).2.2; omega)
    unfold red at this
    rwa [tlL_even, toL_even, costL_even] at this
  · have := hc (2 * i + 1) (by omega) q
    unfold red at this
    rw [tlL_odd, toL_odd, costL_odd] at this
    omega
theorem reachP_of (hf : ∀ i, i < na → fr i < n ∧ tt i < n) (h1 : ∀ i, i < na → 0 ≤ fOf room i ∧ fOf room i ≤ rm i ∧ room (2 * i) = rm i - fOf room i) {g : Nat → Bool}
    (hR : Reached n s (outsA fr tt na) (toL fr tt) (fun k => 0 < room k) g) : ReachP n na s fr tt rm (fOf room) g := by
  have hG := pgL (cs := fun _ => 0) hf
  refine ⟨hR.start, hR.lt, shut_of hf h1 hR.closed, fun X hX hc u hu => hR.least X hX (fun v hv hXv k hk hr => ?_) u hu⟩
  obtain ⟨hk1, hk2⟩ := (hG.out_iff v hv k).1 hk
  rcases half k with ⟨i, rfl⟩ | ⟨i, rfl⟩
  · rw [tlL_even] at hk2
    rw [toL_even]
    have := h1 i (by omega)
    exact (hc i (by omega)).1 (hk2 ▸ hXv) (by omega)
  · rw [tlL_odd] at hk2
    rw [toL_odd]
    exact (hc i (by omega)).2 (hk2 ▸ hXv) hr
theorem fill_flw {most : Int} {cost : Nat → Int} (hA : Arcs1 n na s t fr tt) (h : Filled n (2 * na) (outsA fr tt na) (toL fr tt) (tlL fr tt) cost (fun _ => 0) s t most (roomL rm) room sent) :
    (∀ i, i < na → 0 ≤ fOf room i ∧ fOf room i ≤ rm i ∧ room (2 * i) = rm i - fOf room i) ∧ Flw n na s t fr tt rm 1 (fOf room) sent := by
  obtain ⟨h1, h2⟩ := rooms_flow h.fl.nonneg h.fl.pair h.fl.bal
  refine ⟨h1, fun i hi => by have := h1 i hi; omega, fun u _ e1 e2 => ?_, ?_⟩
  · rw [h2 u, if_neg (fun e => e1 e.symm), if_neg (fun e => e2 e.symm)]; rfl
  · rw [h2 s, if_pos rfl, if_neg (fun e => hA.ne e.symm)]; omega
theorem fill_cut {most : Int} (hA : Arcs1 n na s t fr tt) (h : Filled n (2 * na) (outsA fr tt na) (toL fr tt) (tlL fr tt) (costL fun _ => 0) (fun _ => 0) s t most (roomL rm) room sent)
    {g : Nat → Bool} (hR : Reached n s (outsA fr tt na) (toL fr tt) (fun k => 0 < room k) g) (hb : cpc na fr tt rm (fun u => decide (u = s)) < most) :
    Flw n na s t fr tt rm 1 (fOf room) sent ∧ ReachP n na s fr tt rm (fOf room) g ∧ g t = false := by
  obtain ⟨h1, h2⟩ := fill_flw hA h
  have hft : ∀ i, i < na → fr i < n ∧ tt i < n := fun i hi => ⟨hA.frL i hi, hA.ttL i hi⟩
  have h3 := (h2.cut hA (S := fun u => decide (u = s)) (by simp) (by simp; exact fun e => hA.ne e.symm)).1
  obtain ⟨S, q1, q2⟩ := h.full (by omega)
  refine ⟨h2, reachP_of hft h1 hR, ?_⟩
  cases e : g t with
  | false => rfl
  | true =>
    have := hR.least (fun u => S u = true) q1.start (fun v _ hv k hk hr => q1.closed v hv k hk ⟨hr, by rcases half k with ⟨i, rfl⟩ | ⟨i, rfl⟩ <;> simp [costL_even, costL_odd]⟩) t e
    rw [q2] at this; cases this
end
end Go.KL
end

section
/- Walks: flow.Close. -/
namespace Go.KL
open Go.Proofs
attribute [local irreducible] SC St Fin Sq Sw Ylds Doos Sets Enters Spec CellIs CellsAre Then Ret Rnd Chn resOK ints bools recs arr
attribute [local irreducible] rvals lvals rowv anet linkCh restCh
section
variable (n : Nat) (w : Nat → Int) (Q : Nat → Pr)
def frC (j : Nat) : Nat := if j < n then (if 0 < w j then n else j) else (Q (j - n)).1.toNat
def ttC (j : Nat) : Nat := if j < n then (if 0 < w j then j else n + 1) else (Q (j - n)).2.toNat
def rmC (j : Nat) : Int := if j < n then (if 0 < w j then w j else - w j) else 1125899906842624
end
def gain (w : Nat → Int) (n : Nat) : Int := sm n fun i => if 0 < w i then w i else 0
set_option maxRecDepth 4000 in
theorem gain_bd {w : Nat → Int} : ∀ (n : Nat), (∀ i, i < n → -1073741824 ≤ w i ∧ w i ≤ 1073741824) → 0 ≤ gain w n ∧ gain w n ≤ n * 1073741824 := fun n h =>
  ⟨sm_nonneg n _ fun i _ => by split <;> omega, sm_bound n _ _ fun i hi => by have := h i hi; split <;> omega⟩
set_option maxRecDepth 4000 in
theorem gain_succ (w : Nat → Int) (i : Nat) : gain w (i + 1) = gain w i + (if 0 < w i then w i else 0) := rfl
set_option maxRecDepth 4000 in
theorem sm_split (n m : Nat) (f : Nat → Int) : sm (n + m) f = sm n f + sm m (fun i => f (n + i)) := by
  induction m with
  | zero => simp [sm]
  | succ m ih => rw [← Nat.add_assoc]; simp only [sm, ih]; omega
section
variable {n m : Nat} {w : Nat → Int} {Q : Nat → Pr}
set_option maxRecDepth 4000 in
theorem arcsC (hG : GoodsOK n w m Q) : Arcs1 (n + 2) (n + m) n (n + 1) (frC n w Q) (ttC n w Q) := by
  refine ⟨fun i hi => ?_, fun i hi => ?_, by omega, by omega, by omega⟩
  · unfold frC; split
    · split <;> omega
    · have := hG.hq (i - n) (by omega); omega
  · unfold ttC; split
    · split <;> omega
    · have := hG.hq (i - n) (by omega); omega
set_option maxRecDepth 4000 in
theorem cpcC (hG : GoodsOK n w m Q) : cpc (n + m) (frC n w Q) (ttC n w Q) (rmC n w) (fun u => decide (u = n)) = gain w n := by
  unfold cpc gain
  rw [sm_split]
  have h1 : sm m (fun i => if (decide (frC n w Q (n + i) = n) && !decide (ttC n w Q (n + i) = n)) then rmC n w (n + i) else 0) = 0 := sm_zero m _ fun i hi => by
    have := hG.hq i hi
    have e : frC n w Q (n + i) ≠ n := by unfold frC; rw [if_neg (by omega), Nat.add_sub_cancel_left]; omega
    simp [e]
  rw [h1, Int.add_zero]
  apply sm_congr
  intro i hi
  unfold frC ttC rmC
  simp only [hi, if_true]
  by_cases e : 0 < w i
  · have e2 : i ≠ n := by omega
    simp [e, e2]
  · have e2 : i ≠ n := by omega
    simp [e, e2]
end
/-- What Close returns. -/
structure ClosO (n m : Nat) (w : Nat → Int) (Q : Nat → Pr) (v : Int) (f : Nat → Int) (g : Nat → Bool) : Prop where
  fl : Flw (n + 2) (n + m) n (n + 1) (frC n w Q) (ttC n w Q) (rmC n w) 1 f (gain w n - v)
  rch : ReachP (n + 2) (n + m) n (frC n w Q) (ttC n w Q) (rmC n w) f g
  out : g (n + 1) = false
set_option maxRecDepth 4000 in
open Classical in
set_option maxHeartbeats 8000000 in
theorem close_spec (W : World) (Ls : List Chunk) (n m : Nat) (vw_ vq : Value) (w : Nat → Int) (Q : Nat → Pr) (hW : SlI (K W Ls) vw_ n w) (hQ : SlP (K W Ls) vq m Q) (hG : GoodsOK n w m Q) :
    Spec Try.prog 49 #[vw_, vq] (K W Ls)
      (X := { x : Int × (Nat → Int) × (Nat → Bool) × Nat // ClosO n m w Q x.1 x.2.1 x.2.2.1 })
      (fun x => .tuple #[.int .i64 x.1.1, .slice (some ⟨x.1.2.2.2, 0, none⟩) n n, .int .i64 0])
      (fun x => K W ([(x.1.2.2.2, bools 4 (n + 2) x.1.2.2.1 [])] :: Ls)) := by
  obtain ⟨pw, cw, rfl, _, hws⟩ := SlV.open1 hW
  obtain ⟨pq, cq, rfl, _, hqs⟩ := hQ.open
  have h_n := hG.hn; have h_m := hG.hm
  have hA1 := arcsC hG
  refine enter (args := [_, _]) Try.func49 rfl Try.ntmps49 rfl ?_
  refine c_seq ?_
  refine c_region ?_
  refine s_y (y_assign rfl) rfl rfl rfl ?_
  refine s_y (y_assign rfl) rfl rfl rfl ?_
  refine s_y (y_assign rfl) rfl rfl rfl ?_
  refine s_nil ?_
  refine f_then ?_
  refine c_seq ?_
  refine c_region ?_
  refine s_y (y_move rfl) rfl rfl rfl ?_
  refine s_y (y_len Try.tabF rfl rfl) rfl rfl rfl ?_
  refine s_y (y_assign rfl) rfl rfl rfl ?_
  refine s_nil ?_
  refine f_then ?_
  refine c_seq ?_
  refine c_seq ?_
  refine c_region ?_
  refine s_y (y_move rfl) rfl rfl rfl ?_
  refine s_y (y_F (y_gtr rfl rfl) (by omega)) rfl rfl rfl ?_
  refine s_y (y_move rfl) rfl rfl rfl ?_
  refine s_y (y_move rfl) rfl rfl rfl ?_
  refine s_y (y_len Try.tabF rfl rfl) rfl rfl rfl ?_
  refine s_y (y_F (y_gtr rfl rfl) (by omega)) rfl rfl rfl ?_
  refine s_y (y_pickF rfl rfl) rfl rfl rfl ?_
  refine s_nil ?_
  refine f_then ?_
  refine c_condF rfl ?_
  refine c_skip ?_
  refine f_then ?_
  refine c_seq ?_
  refine c_region ?_
  refine s_y (y_move rfl) rfl rfl rfl ?_
  refine s_y (y_move rfl) rfl rfl rfl ?_
  refine s_y (y_add rfl rfl (by omega)) rfl rfl rfl ?_
  refine s_y (y_assign rfl) rfl rfl rfl ?_
  refine s_y (y_assign rfl) rfl rfl rfl ?_
  refine s_nil ?_
  refine f_then ?_
  refine c_seq ?_
  refine c_region ?_
  refine s_y (y_move rfl) rfl rfl rfl ?_
  refine s_y (y_add rfl rfl (by omega)) rfl rfl rfl ?_
  have hnew := newNetwork_spec W Ls (n + 2) (by omega)
  have e0 : ((n + 2 : Nat) : Int) = (n : Int) + 2 := by omega
  rw [e0] at hnew
  refine s_call (en_f rfl Try.call73) hnew rfl rfl rfl (fun x => ?_)
  obtain ⟨p, bo, bh⟩ := x
  dsimp only
  refine s_y (y_assign rfl) rfl rfl rfl ?_
  refine s_nil ?_
  refine f_then ?_
  refine c_seq ?_
  refine c_region ?_
  refine s_y (y_assign rfl) rfl rfl rfl ?_
  refine s_nil ?_
  refine f_then ?_
  refine c_seq ?_
  refine c_seq ?_
  refine c_region ?_
  refine s_y (y_move rfl) rfl rfl rfl ?_
  refine s_y (y_len Try.tabF rfl rfl) rfl rfl rfl ?_
  refine s_y (y_move rfl) rfl rfl rfl ?_
  refine s_nil ?_
  refine f_then ?_
  refine c_block ?_
  refine c_loopP (α := Nat × (Option Own × (Nat → Option Own))) (fun z => [(1, .slice pq m cq), (7, .int .i64 n), (8, .int .i64 n), (9, .int .i64 (n + 1)), (10, .pointer (some ⟨p, 0, none⟩)), (11, .int .i64 (gain w z.1)), (31, .slice pw n cw), (32, .int .i64 n), (33, .int .i64 z.1)])
    (fun z => z.1 ≤ n ∧ anOK (frC n w Q) (ttC n w Q) (rmC n w) (fun _ => 0) (n + 2) z.1 z.2)
    (fun z => K W (anet (frC n w Q) (ttC n w Q) (rmC n w) (fun _ => 0) p bo (n + 2) z.1 (.slice (some ⟨bh, 0, none⟩) (n + 2) (n + 2)) z.2 ([(bh, ints 3 (n + 2) (fun _ => 0) [])] :: Ls))) (fun z => n - z.1) (0, (none, fun _ => none))
    ⟨rfl, rfl, rfl, rfl, rfl, rfl, rfl, rfl, rfl, trivial⟩ ⟨Nat.zero_le _, anet_begin _ _ _ _ _⟩ (fun w h => anet_new _ _ _ _ h) ?_
  rintro ⟨i, x⟩ ⟨hi, hx⟩
  dsimp only at hi hx ⊢
  refine c_seq ?_
  refine c_region ?_
  refine s_y (y_lss rfl rfl) rfl rfl rfl ?_
  refine s_nil ?_
  refine f_then ?_
  refine c_seq ?_
  refine c_condD rfl (fun hlt => ?_) (fun hge => ?_)
  · have hin : i < n := by omega
    obtain ⟨bw, ow, rfl, hcw⟩ := hws (by omega)
    have hcl : ∀ w', K W (anet (frC n w Q) (ttC n w Q) (rmC n w) (fun _ => 0) p bo (n + 2) i (.slice (some ⟨bh, 0, none⟩) (n + 2) (n + 2)) x ([(bh, ints 3 (n + 2) (fun _ => 0) [])] :: Ls)) w' → K W Ls w' := fun w h => (anet_tail h).tail
    have hcw' := fun i (hi : i < n) => (hcw i hi).cls hcl
    have hwi := hG.hw i hin
    have hgb := gain_bd (w := w) i (fun j hj => hG.hw j (by omega))
    have hadd := padd_spec (frC n w Q) (ttC n w Q) (rmC n w) (fun _ => 0) W ([(bh, ints 3 (n + 2) (fun _ => 0) [])] :: Ls) p bo (n + 2) i (.slice (some ⟨bh, 0, none⟩) (n + 2) (n + 2)) x hx (hA1.frL i (by omega)) (hA1.ttL i (by omega)) (by omega) (by omega)
    refine c_skip ?_
    refine f_then ?_
    refine c_seq ?_
    refine c_block ?_
    refine c_seq ?_
    refine c_region ?_
    refine s_y (y_move rfl) rfl rfl rfl ?_
    refine s_y (y_indexAddr1o Try.tabF rfl rfl rfl rfl _ rfl (by omega)) rfl rfl rfl ?_
    refine s_y (y_load Try.tabF rfl rfl (hcw' _ (by omega))) rfl rfl rfl ?_
    refine s_y (y_assign rfl) rfl rfl rfl ?_
    refine s_y (y_assign rfl) rfl rfl rfl ?_
    refine s_nil ?_
    refine f_then ?_
    refine c_block ?_
    refine c_seq ?_
    refine c_region ?_
    refine s_y (y_move rfl) rfl rfl rfl ?_
    refine s_call (en_f rfl Try.call74) (within_spec _ _ _ _) rfl rfl rfl (fun _ => ?_)
    refine s_y (y_notD rfl) rfl rfl rfl ?_
    refine s_y (y_assign rfl) rfl rfl rfl ?_
    refine s_nil ?_
    refine f_then ?_
    refine c_condD rfl (fun h => absurd hwi h) (fun _ => ?_)
    refine c_seq ?_
    refine c_region ?_
    refine s_y (y_move rfl) rfl rfl rfl ?_
    refine s_y (y_gtr rfl rfl) rfl rfl rfl ?_
    refine s_y (y_assign rfl) rfl rfl rfl ?_
    refine s_nil ?_
    refine f_then ?_
    refine c_condD rfl (fun hp => ?_) (fun hnp => ?_)
    · have e1 : frC n w Q i = n := by unfold frC; rw [if_pos hin, if_pos hp]
      have e2 : ttC n w Q i = i := by unfold ttC; rw [if_pos hin, if_pos hp]
      have e3 : rmC n w i = w i := by unfold rmC; rw [if_pos hin, if_pos hp]
      rw [e1, e2, e3] at hadd
      refine c_seq ?_
      refine c_region ?_
      refine s_y (y_move rfl) rfl rfl rfl ?_
      refine s_y (y_move rfl) rfl rfl rfl ?_
      refine s_y (y_add rfl rfl (by omega)) rfl rfl rfl ?_
      refine s_y (y_assign rfl) rfl rfl rfl ?_
      refine s_nil ?_
      refine f_then ?_
      refine c_region ?_
      refine s_y (y_move rfl) rfl rfl rfl ?_
      refine s_y (y_move rfl) rfl rfl rfl ?_
      refine s_y (y_move rfl) rfl rfl rfl ?_
      refine s_y (y_move rfl) rfl rfl rfl ?_
      refine s_call (en_f rfl Try.call75) hadd rfl rfl rfl (fun y => ?_)
      refine s_nil ?_
      refine f_blockN ?_
      refine f_blockN ?_
      refine f_then ?_
      refine c_region ?_
      refine s_y (y_add rfl rfl (by omega)) rfl rfl rfl ?_
      refine s_y (y_move rfl) rfl rfl rfl ?_
      refine s_nil ?_
      refine f_roundP (i + 1, y.1) ⟨hin, y.2⟩ (by dsimp only; omega) ⟨rfl, rfl, rfl, rfl, rfl, ?_, rfl, rfl, rfl, trivial⟩ (fun w h => h)
      dsimp only
      rw [gain_succ, if_pos hp]; rfl
    · have e1 : frC n w Q i = i := by unfold frC; rw [if_pos hin, if_neg hnp]
      have e2 : ttC n w Q i = n + 1 := by unfold ttC; rw [if_pos hin, if_neg hnp]
      have e3 : rmC n w i = - w i := by unfold rmC; rw [if_pos hin, if_neg hnp]
      have e4 : ((n + 1 : Nat) : Int) = (n : Int) + 1 := by omega
      rw [e1, e2, e3, e4] at hadd
      refine c_region ?_
      refine s_y (y_move rfl) rfl rfl rfl ?_
      refine s_y (y_move rfl) rfl rfl rfl ?_
      refine s_y (y_move rfl) rfl rfl rfl ?_
      refine s_y (y_move rfl) rfl rfl rfl ?_
      refine s_y (y_neg rfl (by omega)) rfl rfl rfl ?_
      refine s_call (en_f rfl Try.call75) hadd rfl rfl rfl (fun y => ?_)
      refine s_nil ?_
      refine f_blockN ?_
      refine f_blockN ?_
      refine f_then ?_
      refine c_region ?_
      refine s_y (y_add rfl rfl (by omega)) rfl rfl rfl ?_
      refine s_y (y_move rfl) rfl rfl rfl ?_
      refine s_nil ?_
      refine f_roundP (i + 1, y.1) ⟨hin, y.2⟩ (by dsimp only; omega) ⟨rfl, rfl, rfl, rfl, rfl, ?_, rfl, rfl, rfl, trivial⟩ (fun w h => h)
      dsimp only
      rw [gain_succ, if_neg hnp, Int.add_zero]; rfl
  have him : i = n := by omega
  subst him
  clear hge hnew
  refine c_exit ?_
  refine f_thenE ?_
  refine f_rndE ?_
  refine f_blockE ?_
  refine f_then ?_
  refine c_seq ?_
  refine c_seq ?_
  refine c_region ?_
  refine s_y (y_move rfl) rfl rfl rfl ?_
  refine s_y (y_len Try.tabF rfl rfl) rfl rfl rfl ?_
  refine s_y (y_move rfl) rfl rfl rfl ?_
  refine s_nil ?_
  refine f_then ?_
  refine c_block ?_
  refine c_loopP (α := Nat × (Option Own × (Nat → Option Own))) (fun z => [(7, .int .i64 i), (8, .int .i64 i), (9, .int .i64 (i + 1)), (10, .pointer (some ⟨p, 0, none⟩)), (11, .int .i64 (gain w i)), (60, .slice pq m cq), (61, .int .i64 m), (62, .int .i64 z.1)])
    (fun z => z.1 ≤ m ∧ anOK (frC i w Q) (ttC i w Q) (rmC i w) (fun _ => 0) (i + 2) (i + z.1) z.2)
    (fun z => K W (anet (frC i w Q) (ttC i w Q) (rmC i w) (fun _ => 0) p bo (i + 2) (i + z.1) (.slice (some ⟨bh, 0, none⟩) (i + 2) (i + 2)) z.2 ([(bh, ints 3 (i + 2) (fun _ => 0) [])] :: Ls))) (fun z => m - z.1) (0, x)
    ⟨rfl, rfl, rfl, rfl, rfl, rfl, rfl, rfl, trivial⟩ ⟨Nat.zero_le _, hx⟩ (fun w h => h) ?_
  rintro ⟨k, x⟩ ⟨hk, hx⟩
  dsimp only at hk hx ⊢
  refine c_seq ?_
  refine c_region ?_
  refine s_y (y_lss rfl rfl) rfl rfl rfl ?_
  refine s_nil ?_
  refine f_then ?_
  refine c_seq ?_
  refine c_condD rfl (fun hlt => ?_) (fun hge => ?_)
  · have hkn : k < m := by omega
    obtain ⟨bq, oq, rfl, hcq, hq0, hq1⟩ := hqs (by omega)
    have hcl : ∀ w', K W (anet (frC i w Q) (ttC i w Q) (rmC i w) (fun _ => 0) p bo (i + 2) (i + k) (.slice (some ⟨bh, 0, none⟩) (i + 2) (i + 2)) x ([(bh, ints 3 (i + 2) (fun _ => 0) [])] :: Ls)) w' → K W Ls w' := fun w h => (anet_tail h).tail
    have hcq' := fun i (hi : i < m) => (hcq i hi).cls hcl
    have hri := hG.hq k hkn
    have hadd := padd_spec (frC i w Q) (ttC i w Q) (rmC i w) (fun _ => 0) W ([(bh, ints 3 (i + 2) (fun _ => 0) [])] :: Ls) p bo (i + 2) (i + k) (.slice (some ⟨bh, 0, none⟩) (i + 2) (i + 2)) x hx (hA1.frL (i + k) (by omega)) (hA1.ttL (i + k) (by omega)) (by omega) (by omega)
    have e1 : ((frC i w Q (i + k) : Nat) : Int) = (Q k).1 := by unfold frC; rw [if_neg (by omega), Nat.add_sub_cancel_left]; omega
    have e2 : ((ttC i w Q (i + k) : Nat) : Int) = (Q k).2 := by unfold ttC; rw [if_neg (by omega), Nat.add_sub_cancel_left]; omega
    have e3 : rmC i w (i + k) = 1125899906842624 := by unfold rmC; rw [if_neg (by omega)]
    rw [e1, e2, e3] at hadd
    refine c_skip ?_
    refine f_then ?_
    refine c_seq ?_
    refine c_block ?_
    refine c_seq ?_
    refine c_region ?_
    refine s_y (y_indexAddr (s := 2) Try.tabF rfl rfl rfl rfl _ rfl (by omega)) rfl rfl rfl ?_
    refine s_y (y_loadA Try.tabF rfl rfl rfl rfl (hcq' _ (by omega))) rfl rfl rfl ?_
    refine s_do (do_alloc Try.tabF rfl) rfl rfl rfl (fun b15 => ?_)
    refine s_set (set_box Try.tabF 0 rfl rfl rfl rfl rfl rfl rfl) rfl rfl ?_
    refine s_nil ?_
    refine f_then ?_
    refine c_seq ?_
    refine c_chain 79 (decide (False)) ?_ ?_
    · refine c_region ?_
      refine s_y (y_indexArrB Try.tabF rfl rfl rfl rfl 0 rfl (by omega)) rfl rfl rfl ?_
      refine s_y (y_load Try.tabF rfl rfl (cell_row 0 rfl rfl)) rfl rfl rfl ?_
      refine s_y (y_move rfl) rfl rfl rfl ?_
      refine s_y (y_sub rfl rfl (by omega)) rfl rfl rfl ?_
      refine s_call (en_f rfl Try.call74) (within_spec _ _ _ _) rfl rfl rfl (fun _ => ?_)
      refine s_y (y_notD rfl) rfl rfl rfl ?_
      refine s_y (y_move rfl) rfl rfl rfl ?_
      refine s_case 72 rfl (fun c0 => ?_) (fun c0 => ?_)
      · refine s_skip rfl rfl rfl ?_
        iterate 5 refine s_skip rfl rfl rfl ?_
        refine s_y (y_pickT rfl rfl) rfl rfl rfl ?_
        refine s_nil ?_
        exact f_chain rfl ((decide_eq_true (by omega)).symm) ⟨rfl, rfl, rfl, rfl, rfl, rfl, rfl, rfl, rfl, rfl, rfl, rfl, trivial⟩
      · refine s_y (y_indexArrB Try.tabF rfl rfl rfl rfl 1 rfl (by omega)) rfl rfl rfl ?_
        refine s_y (y_load Try.tabF rfl rfl (cell_row 0 rfl rfl)) rfl rfl rfl ?_
        refine s_y (y_move rfl) rfl rfl rfl ?_
        refine s_y (y_sub rfl rfl (by omega)) rfl rfl rfl ?_
        refine s_call (en_f rfl Try.call74) (within_spec _ _ _ _) rfl rfl rfl (fun _ => ?_)
        refine s_y (y_notD rfl) rfl rfl rfl ?_
        refine s_y (y_pickF rfl rfl) rfl rfl rfl ?_
        refine s_nil ?_
        exact f_chain rfl ((by grind)) ⟨rfl, rfl, rfl, rfl, rfl, rfl, rfl, rfl, rfl, rfl, rfl, rfl, trivial⟩
    refine c_condD rfl (fun h => h.elim) (fun _ => ?_)
    refine c_skip ?_
    refine f_then ?_
    refine c_region ?_
    refine s_y (y_move rfl) rfl rfl rfl ?_
    refine s_y (y_indexArrB Try.tabF rfl rfl rfl rfl 0 rfl (by omega)) rfl rfl rfl ?_
    refine s_y (y_load Try.tabF rfl rfl (cell_row 0 rfl rfl)) rfl rfl rfl ?_
    refine s_y (y_indexArrB Try.tabF rfl rfl rfl rfl 1 rfl (by omega)) rfl rfl rfl ?_
    refine s_y (y_load Try.tabF rfl rfl (cell_row 0 rfl rfl)) rfl rfl rfl ?_
    refine St.cls (C' := K W (anet (frC i w Q) (ttC i w Q) (rmC i w) (fun _ => 0) p bo (i + 2) (i + k) (.slice (some ⟨bh, 0, none⟩) (i + 2) (i + 2)) x ([(bh, ints 3 (i + 2) (fun _ => 0) [])] :: Ls))) ?_ (fun w h => h.tail)
    refine s_call (en_f rfl Try.call75) hadd rfl rfl rfl (fun y => ?_)
    refine s_nil ?_
    refine f_blockN ?_
    refine f_then ?_
    refine c_region ?_
    refine s_y (y_add rfl rfl (by omega)) rfl rfl rfl ?_
    refine s_y (y_move rfl) rfl rfl rfl ?_
    refine s_nil ?_
    exact f_roundP (k + 1, y.1) ⟨hkn, y.2⟩ (by dsimp only; omega) ⟨rfl, rfl, rfl, rfl, rfl, rfl, rfl, rfl, trivial⟩ (fun w h => h)
  have hkm : k = m := by omega
  subst hkm
  clear hge
  obtain ⟨L, R⟩ := x
  refine SC.cls (C' := K W ([(p, row 127 [ov L (2 * (i + k)), .slice (some ⟨bo, 0, none⟩) (i + 2) (i + 2), nilS, nilS, .slice (some ⟨bh, 0, none⟩) (i + 2) (i + 2)])] :: linkCh (frC i w Q) (ttC i w Q) (fun _ => 0) (2 * (i + k)) L (roomL (rmC i w)) :: [(bh, ints 3 (i + 2) (fun _ => 0) [])] :: restCh (frC i w Q) (ttC i w Q) bo (i + 2) (i + k) R Ls)) ?_ (fun w h => anet_done hx h)
  refine c_exit ?_
  refine f_thenE ?_
  refine f_rndE ?_
  refine f_blockE ?_
  refine f_then ?_
  refine c_seq ?_
  refine c_region ?_
  refine s_y (y_move rfl) rfl rfl rfl ?_
  refine s_y (y_move rfl) rfl rfl rfl ?_
  refine s_y (y_move rfl) rfl rfl rfl ?_
  refine s_y (y_move rfl) rfl rfl rfl ?_
  have hrm : ∀ j, 0 ≤ rmC i w j ∧ (j < i + k → rmC i w j ≤ 1125899906842624) := fun j => by
    unfold rmC
    split
    · rename_i h
      have := hG.hw j h
      split <;> omega
    · omega
  have hroom : ∀ j, j < 2 * (i + k) → 0 ≤ roomL (rmC i w) j ∧ roomL (rmC i w) j ≤ 1125899906842624 := fun j hj => by
    rcases half j with ⟨j, rfl⟩ | ⟨j, rfl⟩
    · have := hrm j; rw [roomL_even]; omega
    · rw [roomL_odd]; omega
  have hG2 := pgL (fr := frC i w Q) (tt := ttC i w Q) (cs := fun _ => 0) (n := i + 2) (na := i + k) (fun j hj => ⟨hA1.frL j hj, hA1.ttL j hj⟩)
  have hfill := fill_spec W ([(bh, ints 3 (i + 2) (fun _ => 0) [])] :: restCh (frC i w Q) (ttC i w Q) bo (i + 2) (i + k) R Ls) p (i + 2) (2 * (i + k)) i (i + 1) (ov L (2 * (i + k))) (.slice (some ⟨bo, 0, none⟩) (i + 2) (i + 2)) nilS nilS (.slice (some ⟨bh, 0, none⟩) (i + 2) (i + 2)) (linkCh (frC i w Q) (ttC i w Q) (fun _ => 0) (2 * (i + k)) L) (outsA (frC i w Q) (ttC i w Q) (i + k)) (toL (frC i w Q) (ttC i w Q)) (tlL (frC i w Q) (ttC i w Q)) (costL fun _ => 0) (fun _ => 0) (roomL (rmC i w)) 1125899906842624
    (anet_outV (Pre := [_]) hx) ⟨bh, rfl, fun v hv => cell_ints (g := fun _ => 0) 0 rfl hv⟩ (anet_linkC hx) hG2 ⟨fun k hk => by rcases half k with ⟨j, rfl⟩ | ⟨j, rfl⟩ <;> simp [costL_even, costL_odd], fun _ _ => by omega⟩ hA1.sL hA1.tL (by omega) (by omega) (by omega) (by omega) (fun k hk => (hroom k hk).1) (fun k hk => by have := hroom k hk; have := hroom (par2 k) (hG2.par_lt k hk); omega)
  have e4 : ((i + 1 : Nat) : Int) = (i : Int) + 1 := by omega
  rw [e4] at hfill
  refine s_call (en_f rfl Try.call76) hfill rfl rfl rfl (fun x => ?_)
  obtain ⟨⟨v, room, a, b⟩, hfl⟩ := x
  dsimp only at hfl ⊢
  have hv0 := hfl.fl.lo
  have hv1 := hfl.hi
  have hgb := gain_bd (w := w) i hG.hw
  refine s_y (y_sub rfl rfl (by omega)) rfl rfl rfl ?_
  refine s_y (y_assign rfl) rfl rfl rfl ?_
  refine s_nil ?_
  refine f_then ?_
  refine c_seq ?_
  refine c_plan [.c 0, .c 1, .c 2, .c 4, .c 5, .s 3, .c 6, .c 7, .c 8, .c 9] [] ((K W ([(p, row 127 [ov L (2 * (i + k)), .slice (some ⟨bo, 0, none⟩) (i + 2) (i + 2), a, b, .slice (some ⟨bh, 0, none⟩) (i + 2) (i + 2)])] :: linkCh (frC i w Q) (ttC i w Q) (fun _ => 0) (2 * (i + k)) L room :: [(bh, ints 3 (i + 2) (fun _ => 0) [])] :: restCh (frC i w Q) (ttC i w Q) bo (i + 2) (i + k) R Ls))) Try.mixed (by kernel_rfl) rfl K.cl ?_
  refine d_c rfl (Qui.ylds (y_move rfl)) rfl rfl rfl (fun _ h => h) K.cl ?_
  refine d_c rfl (Qui.ylds (y_move rfl)) rfl rfl rfl (fun _ h => h) K.cl ?_
  refine d_c rfl (Qui.ylds (y_move rfl)) rfl rfl rfl (fun _ h => h) K.cl ?_
  refine d_c rfl (Qui.ylds (y_move rfl)) rfl rfl rfl (fun _ h => h) K.cl ?_
  refine d_c rfl (Qui.ylds (y_move rfl)) rfl rfl rfl (fun _ h => h) K.cl ?_
  refine d_call rfl (en_f rfl Try.call77) (reach_spec W (linkCh (frC i w Q) (ttC i w Q) (fun _ => 0) (2 * (i + k)) L room :: [(bh, ints 3 (i + 2) (fun _ => 0) [])] :: restCh (frC i w Q) (ttC i w Q) bo (i + 2) (i + k) R Ls) p (i + 2) (2 * (i + k)) i (ov L (2 * (i + k))) (.slice (some ⟨bo, 0, none⟩) (i + 2) (i + 2)) a b (.slice (some ⟨bh, 0, none⟩) (i + 2) (i + 2)) (outsA (frC i w Q) (ttC i w Q) (i + k)) (toL (frC i w Q) (ttC i w Q)) room (costL fun _ => 0)
    (OutV.cls (C := K W ([_, _, _] ++ restCh (frC i w Q) (ttC i w Q) bo (i + 2) (i + k) R Ls)) (anet_outV hx) fun w h => h) ((anet_linkC hx).linkV room |>.cls fun w h => h.tail) hG2.gok hA1.sL (by omega) (by omega)) rfl rfl rfl (fun _ => K.cl) (fun _ _ _ h => h.tail) (fun y => ?_)
  obtain ⟨⟨bg, g⟩, hR⟩ := y
  dsimp only at hR ⊢
  refine d_c rfl (Qui.ylds (y_slice3To Try.tabF rfl rfl rfl rfl rfl rfl rfl (by omega) (by omega))) rfl rfl rfl (fun _ h => h.tail) K.cl ?_
  refine d_c rfl (Qui.ylds (y_assign rfl)) rfl rfl rfl (fun _ h => h.tail) K.cl ?_
  refine d_c rfl (Qui.ylds (y_assign rfl)) rfl rfl rfl (fun _ h => h.tail) K.cl ?_
  refine d_c rfl (Qui.ylds (y_assign rfl)) rfl rfl rfl (fun _ h => h.tail) K.cl ?_
  refine d_nil ?_
  refine f_then ?_
  refine c_ret ?_
  have hcut := fill_cut hA1 hfl hR (by rw [cpcC hG]; omega)
  have e5 : gain w i - (gain w i - v) = v := by omega
  exact f_ret ⟨(gain w i - v, fOf room, g, bg), by rw [← e5] at hcut; exact hcut.1, hcut.2.1, hcut.2.2⟩ (res3 rfl rfl rfl rfl) (fun w h => restCh_tailP [[(bg, bools 4 (i + 2) g [])]] (((h.dropAt 1).dropAt 1).dropAt 1))
end Go.KL
end

section
/- Plain law of flow.Close. -/
namespace Go.KL
open Go.Proofs
/-! ### Closures -/
section
variable {n m : Nat} {w : Nat → Int} {Q : Nat → Pr}
theorem sm_nonneg_at (m : Nat) (f : Nat → Int) (h : ∀ i, i < m → 0 ≤ f i) (k : Nat) (hk : k < m) : f k ≤ sm m f := by
  induction m with
  | zero => omega
  | succ m ih =>
    have h1 := sm_nonneg m f fun i hi => h i (by omega)
    have h2 := h m (by omega)
    simp only [sm]
    by_cases e : k = m
    · subst e; omega
    · have := ih (fun i hi => h i (by omega)) (by omega); omega
/-- The capacity of a cut: the weights, and the needs that leave it. -/
theorem cpcC_set {S : Nat → Bool} (hs : S n = true) (ht : S (n + 1) = false) :
    cpc (n + m) (frC n w Q) (ttC n w Q) (rmC n w) S = gain w n - wgt n w S + sm m (fun i => if S (Q i).1.toNat && !S (Q i).2.toNat then 1125899906842624 else 0) := by
  unfold cpc
  rw [sm_split]
  have e1 : sm m (fun i => if S (frC n w Q (n + i)) && !S (ttC n w Q (n + i)) then rmC n w (n + i) else 0) = sm m (fun i => if S (Q i).1.toNat && !S (Q i).2.toNat then 1125899906842624 else 0) := sm_congr m _ _ fun i hi => by
    have hlt : ¬ n + i < n := by omega
    unfold frC ttC rmC
    simp only [hlt, if_false, Nat.add_sub_cancel_left]
  have e2 : sm n (fun i => if S (frC n w Q i) && !S (ttC n w Q i) then rmC n w i else 0) = gain w n - wgt n w S := by
    unfold gain wgt
    rw [← sm_sub]
    apply sm_congr
    intro i hi
    unfold frC ttC rmC
    simp only [hi, if_true]
    by_cases e : 0 < w i
    · simp only [e, if_true, hs, Bool.true_and]
      cases S i <;> simp
    · simp only [e, if_false, ht, Bool.not_false, Bool.and_true]
      cases S i <;> simp
  rw [e1, e2]
theorem closed_cut {S : Nat → Bool} (hs : S n = true) (ht : S (n + 1) = false) (hc : ClosedP m Q S) : cpc (n + m) (frC n w Q) (ttC n w Q) (rmC n w) S = gain w n - wgt n w S := by
  rw [cpcC_set hs ht, sm_zero m _ fun i hi => ?_, Int.add_zero]
  cases e : S (Q i).1.toNat with
  | false => simp
  | true => rw [hc i hi e]; simp
theorem ClosO.closeP (hG : GoodsOK n w m Q) {v : Int} {f : Nat → Int} {g : Nat → Bool} (h : ClosO n m w Q v f g) : ClosedP m Q g ∧ wgt n w g = v ∧ CloseP n m w Q v g := by
  have hA := arcsC hG
  have hgb := gain_bd (w := w) n hG.hw
  have hn := hG.hn
  have e1 := (h.fl.shut hA h.rch.start h.out).2 h.rch.shut
  have h0 := (h.fl.cut hA (S := fun u => decide (u = n)) (by simp) (by simp)).1
  rw [cpcC hG] at h0
  have e2 := cpcC_set (m := m) (w := w) (Q := Q) h.rch.start h.out
  have hcl : ClosedP m Q g := by
    intro i hi hq
    cases e : g (Q i).2.toNat with
    | true => rfl
    | false =>
      have := sm_nonneg_at m (fun i => if g (Q i).1.toNat && !g (Q i).2.toNat then (1125899906842624 : Int) else 0) (fun i _ => by split <;> omega) i hi
      simp only [hq, e, Bool.not_false, Bool.and_self, if_true] at this
      have hw := wgt_bd (S := g) n hG.hw
      have hg1 : wgt n w g ≤ gain w n := by
        unfold wgt gain
        apply sm_le
        intro j _
        split <;> split <;> omega
      omega
  have e3 := closed_cut (w := w) h.rch.start h.out hcl
  have hv : wgt n w g = v := by omega
  have ext : ∀ S : Nat → Bool, ∃ S' : Nat → Bool, S' n = true ∧ S' (n + 1) = false ∧ ∀ i, i < n → S' i = S i := fun S => ⟨fun u => if u = n then true else if u = n + 1 then false else S u, by simp, by simp, fun i hi => by
    have h1 : i ≠ n := by omega
    have h2 : i ≠ n + 1 := by omega
    simp only [h1, h2, if_false]⟩
  refine ⟨hcl, hv, ⟨g, hcl, hv⟩, fun S hS => ?_, fun i hi => ⟨fun hgi S hS hw => ?_, fun hall => hall g hcl hv⟩⟩
  · obtain ⟨S', q1, q2, q3⟩ := ext S
    have hS' := closedP_congr hG.hq (fun i hi => (q3 i hi).symm) hS
    have q4 := (h.fl.cut hA q1 q2).1
    rw [closed_cut q1 q2 hS', wgt_congr q3] at q4
    omega
  · obtain ⟨S', q1, q2, q3⟩ := ext S
    have hS' := closedP_congr hG.hq (fun i hi => (q3 i hi).symm) hS
    have q4 := (h.fl.shut hA q1 q2).1 (by rw [closed_cut q1 q2 hS', wgt_congr q3]; omega)
    rw [← q3 i hi]
    exact h.rch.least (fun u => S' u = true) q1 (fun j hj => q4 j hj) i hgi
end
end Go.KL
end

section
/- Walks: package sheet, the numbering. -/
namespace Go.KL
open Go.Proofs
/-- A layout. -/
structure Lay where
  r : Int
  c : Int
  m : Int
  b : Int
  d : Bool
abbrev Lay.v (l : Lay) : Value := .agg #[.int .i64 l.r, .int .i64 l.c, .int .i64 l.m, .int .i64 l.b, .bool l.d]
structure Lay.OK (l : Lay) : Prop where
  r : 1 ≤ l.r ∧ l.r ≤ 16
  c : 1 ≤ l.c ∧ l.c ≤ 16
  m : 1 ≤ l.m ∧ l.m ≤ 10000
  b : 1 ≤ l.b ∧ l.b ≤ 1000
theorem Lay.OK_iff (l : Lay) : l.OK ↔ ((1 ≤ l.r ∧ l.r ≤ 16) ∧ (1 ≤ l.c ∧ l.c ≤ 16) ∧ (1 ≤ l.m ∧ l.m ≤ 10000) ∧ (1 ≤ l.b ∧ l.b ≤ 1000)) := ⟨fun ⟨a, b, c, d⟩ => ⟨a, b, c, d⟩, fun ⟨a, b, c, d⟩ => ⟨a, b, c, d⟩⟩
instance (l : Lay) : Decidable l.OK := decidable_of_iff _ l.OK_iff.symm
abbrev runV (l : Lay) (s p : Int) : Value := .agg #[.int .i64 l.r, .int .i64 l.c, .int .i64 l.m, .int .i64 l.b, .bool l.d, .int .i64 s, .int .i64 p]
abbrev rmV (l : Lay) (s p f d : Int) : Value := .agg #[.int .i64 l.r, .int .i64 l.c, .int .i64 l.m, .int .i64 l.b, .bool l.d, .int .i64 s, .int .i64 p, .int .i64 f, .int .i64 d]
abbrev cellV (s p : Int) : Value := .agg #[.int .i64 s, .int .i64 p]
theorem mul_bd {a b A B : Int} (ha : 0 ≤ a ∧ a ≤ A) (hb : 0 ≤ b ∧ b ≤ B) : 0 ≤ a * b ∧ a * b ≤ A * B :=
  ⟨Int.mul_nonneg ha.1 hb.1, Int.mul_le_mul ha.2 hb.2 hb.1 (by omega)⟩
theorem div_bd {a b : Int} (ha : 0 ≤ a) (hb : 1 ≤ b) : 0 ≤ a / b ∧ a / b ≤ a := ⟨Int.ediv_nonneg ha (by omega), Int.ediv_le_self _ ha⟩
theorem mod_bd {a b : Int} (hb : 1 ≤ b) : 0 ≤ a % b ∧ a % b ≤ b - 1 := ⟨Int.emod_nonneg _ (by omega), by have := Int.emod_lt_of_pos a (show 0 < b by omega); omega⟩
theorem Spec.qui {P : Program} {f : FuncId} {args : Array Value} {v : Value} {w : World} (h : Spec P f args (K w []) (fun _ : Unit => v) (fun _ => K w [])) : Calls P f args w fun e w' => e = .returned v ∧ Ext w w' := (h w (K.refl w)).mono fun _ _ ⟨_, h1, h2⟩ => ⟨h1, h2.toExt⟩
attribute [local irreducible] SC St Fin Sq Sw Ylds Doos Sets Enters Spec CellIs CellsAre Then Ret Rnd Chn resOK ints bools recs arr
set_option maxHeartbeats 4000000 in
theorem swithin_spec (C : World → Prop) (a lo hi : Int) : Spec Try.prog 55 #[.int .i64 a, .int .i64 lo, .int .i64 hi] C (fun _ : Unit => .bool (decide (lo ≤ a ∧ a ≤ hi))) (fun _ => C) := by
  refine enter (args := [_, _, _]) Try.func55 rfl Try.ntmps55 rfl ?_
  refine c_seq ?_
  refine c_region ?_
  refine s_y (y_assign rfl) rfl rfl rfl ?_
  refine s_nil ?_
  refine f_then ?_
  refine c_seq ?_
  refine c_region ?_
  refine s_y (y_move rfl) rfl rfl rfl ?_
  refine s_y (y_move rfl) rfl rfl rfl ?_
  refine s_y (y_geq rfl rfl) rfl rfl rfl ?_
  refine s_y (y_move rfl) rfl rfl rfl ?_
  refine s_case 10 rfl (fun c0 => ?_) (fun c0 => ?_)
  refine s_y (y_move rfl) rfl rfl rfl ?_
  refine s_y (y_move rfl) rfl rfl rfl ?_
  refine s_y (y_leq rfl rfl) rfl rfl rfl ?_
  refine s_y (y_pickT rfl rfl) rfl rfl rfl ?_
  refine s_y (y_assign rfl) rfl rfl rfl ?_
  refine s_nil ?_
  refine f_then ?_
  refine c_ret ?_
  rotate_left
  iterate 3 refine s_skip rfl rfl rfl ?_
  refine s_y (y_pickF rfl rfl) rfl rfl rfl ?_
  refine s_y (y_assign rfl) rfl rfl rfl ?_
  refine s_nil ?_
  refine f_then ?_
  refine c_ret ?_
  rotate_left
  rotate_right 2
  all_goals exact f_retE () (res1 rfl rfl) (congrArg Value.bool (by first | exact (decide_eq_true (by omega)).symm | exact (decide_eq_false (by omega)).symm | exact decide_eq_decide.2 (by omega))) (fun w h => h)
theorem sw_yes {a lo hi : Int} (C : World → Prop) (h : lo ≤ a ∧ a ≤ hi) : Spec Try.prog 55 #[.int .i64 a, .int .i64 lo, .int .i64 hi] C (fun _ : Unit => .bool true) (fun _ => C) := by
  have := swithin_spec C a lo hi
  rwa [decide_eq_true h] at this
theorem sw_no {a lo hi : Int} (C : World → Prop) (h : ¬ (lo ≤ a ∧ a ≤ hi)) : Spec Try.prog 55 #[.int .i64 a, .int .i64 lo, .int .i64 hi] C (fun _ : Unit => .bool false) (fun _ => C) := by
  have := swithin_spec C a lo hi
  rwa [decide_eq_false h] at this
set_option maxHeartbeats 4000000 in
theorem check_ok (W : World) (Ls : List Chunk) (l : Lay) (h : l.OK) : Spec Try.prog 40 #[l.v] (K W Ls) (fun _ : Unit => .int .i64 0) (fun _ => K W Ls) := by
  have h1 := h.r; have h2 := h.c; have h3 := h.m; have h4 := h.b
  refine enter (args := [_]) Try.func40 rfl Try.ntmps40 rfl ?_
  refine c_seq ?_
  refine c_region ?_
  refine s_do (do_box rfl) rfl rfl rfl (fun b1 => ?_)
  refine s_y (y_assign rfl) rfl rfl rfl ?_
  refine s_nil ?_
  refine f_then ?_
  refine c_seq ?_
  refine c_seq ?_
  refine c_region ?_
  refine s_y (y_fieldAddr0 Try.tab rfl rfl rfl rfl rfl) rfl rfl rfl ?_
  refine s_y (y_load Try.tab rfl rfl (cell_row 0 rfl rfl)) rfl rfl rfl ?_
  refine s_call (en_f rfl Try.call55) (sw_yes _ (by omega)) rfl rfl rfl (fun _ => ?_)
  refine s_y (y_notT rfl) rfl rfl rfl ?_
  refine s_y (y_move rfl) rfl rfl rfl ?_
  refine s_y (y_fieldAddrB Try.tab 1 rfl rfl rfl rfl rfl) rfl rfl rfl ?_
  refine s_y (y_load Try.tab rfl rfl (cell_row 0 rfl rfl)) rfl rfl rfl ?_
  refine s_call (en_f rfl Try.call55) (sw_yes _ (by omega)) rfl rfl rfl (fun _ => ?_)
  refine s_y (y_notT rfl) rfl rfl rfl ?_
  refine s_y (y_pickF rfl rfl) rfl rfl rfl ?_
  refine s_y (y_move rfl) rfl rfl rfl ?_
  refine s_y (y_fieldAddrB Try.tab 2 rfl rfl rfl rfl rfl) rfl rfl rfl ?_
  refine s_y (y_load Try.tab rfl rfl (cell_row 0 rfl rfl)) rfl rfl rfl ?_
  refine s_call (en_f rfl Try.call55) (sw_yes _ (by omega)) rfl rfl rfl (fun _ => ?_)
  refine s_y (y_notT rfl) rfl rfl rfl ?_
  refine s_y (y_pickF rfl rfl) rfl rfl rfl ?_
  refine s_y (y_move rfl) rfl rfl rfl ?_
  refine s_y (y_fieldAddrB Try.tab 3 rfl rfl rfl rfl rfl) rfl rfl rfl ?_
  refine s_y (y_load Try.tab rfl rfl (cell_row 0 rfl rfl)) rfl rfl rfl ?_
  refine s_call (en_f rfl Try.call55) (sw_yes _ (by omega)) rfl rfl rfl (fun _ => ?_)
  refine s_y (y_notT rfl) rfl rfl rfl ?_
  refine s_y (y_pickF rfl rfl) rfl rfl rfl ?_
  refine s_nil ?_
  refine f_then ?_
  refine c_condF rfl ?_
  refine c_skip ?_
  refine f_then ?_
  refine c_seq ?_
  refine c_region ?_
  refine s_y (y_assign rfl) rfl rfl rfl ?_
  refine s_nil ?_
  refine f_then ?_
  refine c_ret ?_
  exact f_ret () (res1 rfl rfl) (fun w h => h.tail)
set_option maxHeartbeats 4000000 in
theorem check_bad (W : World) (Ls : List Chunk) (l : Lay) (h : ¬ l.OK) : Spec Try.prog 40 #[l.v] (K W Ls) (fun _ : Unit => .int .i64 50) (fun _ => K W Ls) := by
  rw [Lay.OK_iff] at h
  refine enter (args := [_]) Try.func40 rfl Try.ntmps40 rfl ?_
  by_cases h1 : 1 ≤ l.r ∧ l.r ≤ 16
  · by_cases h2 : 1 ≤ l.c ∧ l.c ≤ 16
    · by_cases h3 : 1 ≤ l.m ∧ l.m ≤ 10000
      · have h4 : ¬ (1 ≤ l.b ∧ l.b ≤ 1000) := fun q => h ⟨h1, h2, h3, q⟩
        refine c_seq ?_
        refine c_region ?_
        refine s_do (do_box rfl) rfl rfl rfl (fun b1 => ?_)
        refine s_y (y_assign rfl) rfl rfl rfl ?_
        refine s_nil ?_
        refine f_then ?_
        refine c_seq ?_
        refine c_seq ?_
        refine c_region ?_
        refine s_y (y_fieldAddr0 Try.tab rfl rfl rfl rfl rfl) rfl rfl rfl ?_
        refine s_y (y_load Try.tab rfl rfl (cell_row 0 rfl rfl)) rfl rfl rfl ?_
        refine s_call (en_f rfl Try.call55) (sw_yes _ (by omega)) rfl rfl rfl (fun _ => ?_)
        refine s_y (y_notT rfl) rfl rfl rfl ?_
        refine s_y (y_move rfl) rfl rfl rfl ?_
        refine s_y (y_fieldAddrB Try.tab 1 rfl rfl rfl rfl rfl) rfl rfl rfl ?_
        refine s_y (y_load Try.tab rfl rfl (cell_row 0 rfl rfl)) rfl rfl rfl ?_
        refine s_call (en_f rfl Try.call55) (sw_yes _ (by omega)) rfl rfl rfl (fun _ => ?_)
        refine s_y (y_notT rfl) rfl rfl rfl ?_
        refine s_y (y_pickF rfl rfl) rfl rfl rfl ?_
        refine s_y (y_move rfl) rfl rfl rfl ?_
        refine s_y (y_fieldAddrB Try.tab 2 rfl rfl rfl rfl rfl) rfl rfl rfl ?_
        refine s_y (y_load Try.tab rfl rfl (cell_row 0 rfl rfl)) rfl rfl rfl ?_
        refine s_call (en_f rfl Try.call55) (sw_yes _ (by omega)) rfl rfl rfl (fun _ => ?_)
        refine s_y (y_notT rfl) rfl rfl rfl ?_
        refine s_y (y_pickF rfl rfl) rfl rfl rfl ?_
        refine s_y (y_move rfl) rfl rfl rfl ?_
        refine s_y (y_fieldAddrB Try.tab 3 rfl rfl rfl rfl rfl) rfl rfl rfl ?_
        refine s_y (y_load Try.tab rfl rfl (cell_row 0 rfl rfl)) rfl rfl rfl ?_
        refine s_call (en_f rfl Try.call55) (sw_no _ (by omega)) rfl rfl rfl (fun _ => ?_)
        refine s_y (y_notF rfl) rfl rfl rfl ?_
        refine s_y (y_pickF rfl rfl) rfl rfl rfl ?_
        refine s_nil ?_
        refine f_then ?_
        refine c_condT rfl ?_
        refine c_seq ?_
        refine c_region ?_
        refine s_y (y_assign rfl) rfl rfl rfl ?_
        refine s_nil ?_
        refine f_then ?_
        refine c_ret ?_
        refine f_thenR ?_
        exact f_ret () (res1 rfl rfl) (fun w h => h.tail)
      · clear h
        refine c_seq ?_
        refine c_region ?_
        refine s_do (do_box rfl) rfl rfl rfl (fun b1 => ?_)
        refine s_y (y_assign rfl) rfl rfl rfl ?_
        refine s_nil ?_
        refine f_then ?_
        refine c_seq ?_
        refine c_seq ?_
        refine c_region ?_
        refine s_y (y_fieldAddr0 Try.tab rfl rfl rfl rfl rfl) rfl rfl rfl ?_
        refine s_y (y_load Try.tab rfl rfl (cell_row 0 rfl rfl)) rfl rfl rfl ?_
        refine s_call (en_f rfl Try.call55) (sw_yes _ (by omega)) rfl rfl rfl (fun _ => ?_)
        refine s_y (y_notT rfl) rfl rfl rfl ?_
        refine s_y (y_move rfl) rfl rfl rfl ?_
        refine s_y (y_fieldAddrB Try.tab 1 rfl rfl rfl rfl rfl) rfl rfl rfl ?_
        refine s_y (y_load Try.tab rfl rfl (cell_row 0 rfl rfl)) rfl rfl rfl ?_
        refine s_call (en_f rfl Try.call55) (sw_yes _ (by omega)) rfl rfl rfl (fun _ => ?_)
        refine s_y (y_notT rfl) rfl rfl rfl ?_
        refine s_y (y_pickF rfl rfl) rfl rfl rfl ?_
        refine s_y (y_move rfl) rfl rfl rfl ?_
        refine s_y (y_fieldAddrB Try.tab 2 rfl rfl rfl rfl rfl) rfl rfl rfl ?_
        refine s_y (y_load Try.tab rfl rfl (cell_row 0 rfl rfl)) rfl rfl rfl ?_
        refine s_call (en_f rfl Try.call55) (sw_no _ (by omega)) rfl rfl rfl (fun _ => ?_)
        refine s_y (y_notF rfl) rfl rfl rfl ?_
        refine s_y (y_pickF rfl rfl) rfl rfl rfl ?_
        refine s_y (y_move rfl) rfl rfl rfl ?_
        iterate 4 refine s_skip rfl rfl rfl ?_
        refine s_y (y_pickT rfl rfl) rfl rfl rfl ?_
        refine s_nil ?_
        refine f_then ?_
        refine c_condT rfl ?_
        refine c_seq ?_
        refine c_region ?_
        refine s_y (y_assign rfl) rfl rfl rfl ?_
        refine s_nil ?_
        refine f_then ?_
        refine c_ret ?_
        refine f_thenR ?_
        exact f_ret () (res1 rfl rfl) (fun w h => h.tail)
    · clear h
      refine c_seq ?_
      refine c_region ?_
      refine s_do (do_box rfl) rfl rfl rfl (fun b1 => ?_)
      refine s_y (y_assign rfl) rfl rfl rfl ?_
      refine s_nil ?_
      refine f_then ?_
      refine c_seq ?_
      refine c_seq ?_
      refine c_region ?_
      refine s_y (y_fieldAddr0 Try.tab rfl rfl rfl rfl rfl) rfl rfl rfl ?_
      refine s_y (y_load Try.tab rfl rfl (cell_row 0 rfl rfl)) rfl rfl rfl ?_
      refine s_call (en_f rfl Try.call55) (sw_yes _ (by omega)) rfl rfl rfl (fun _ => ?_)
      refine s_y (y_notT rfl) rfl rfl rfl ?_
      refine s_y (y_move rfl) rfl rfl rfl ?_
      refine s_y (y_fieldAddrB Try.tab 1 rfl rfl rfl rfl rfl) rfl rfl rfl ?_
      refine s_y (y_load Try.tab rfl rfl (cell_row 0 rfl rfl)) rfl rfl rfl ?_
      refine s_call (en_f rfl Try.call55) (sw_no _ (by omega)) rfl rfl rfl (fun _ => ?_)
      refine s_y (y_notF rfl) rfl rfl rfl ?_
      refine s_y (y_pickF rfl rfl) rfl rfl rfl ?_
      refine s_y (y_move rfl) rfl rfl rfl ?_
      iterate 4 refine s_skip rfl rfl rfl ?_
      refine s_y (y_pickT rfl rfl) rfl rfl rfl ?_
      refine s_y (y_move rfl) rfl rfl rfl ?_
      iterate 4 refine s_skip rfl rfl rfl ?_
      refine s_y (y_pickT rfl rfl) rfl rfl rfl ?_
      refine s_nil ?_
      refine f_then ?_
      refine c_condT rfl ?_
      refine c_seq ?_
      refine c_region ?_
      refine s_y (y_assign rfl) rfl rfl rfl ?_
      refine s_nil ?_
      refine f_then ?_
      refine c_ret ?_
      refine f_thenR ?_
      exact f_ret () (res1 rfl rfl) (fun w h => h.tail)
  · clear h
    refine c_seq ?_
    refine c_region ?_
    refine s_do (do_box rfl) rfl rfl rfl (fun b1 => ?_)
    refine s_y (y_assign rfl) rfl rfl rfl ?_
    refine s_nil ?_
    refine f_then ?_
    refine c_seq ?_
    refine c_seq ?_
    refine c_region ?_
    refine s_y (y_fieldAddr0 Try.tab rfl rfl rfl rfl rfl) rfl rfl rfl ?_
    refine s_y (y_load Try.tab rfl rfl (cell_row 0 rfl rfl)) rfl rfl rfl ?_
    refine s_call (en_f rfl Try.call55) (sw_no _ (by omega)) rfl rfl rfl (fun _ => ?_)
    refine s_y (y_notF rfl) rfl rfl rfl ?_
    refine s_y (y_move rfl) rfl rfl rfl ?_
    iterate 4 refine s_skip rfl rfl rfl ?_
    refine s_y (y_pickT rfl rfl) rfl rfl rfl ?_
    refine s_y (y_move rfl) rfl rfl rfl ?_
    iterate 4 refine s_skip rfl rfl rfl ?_
    refine s_y (y_pickT rfl rfl) rfl rfl rfl ?_
    refine s_y (y_move rfl) rfl rfl rfl ?_
    iterate 4 refine s_skip rfl rfl rfl ?_
    refine s_y (y_pickT rfl rfl) rfl rfl rfl ?_
    refine s_nil ?_
    refine f_then ?_
    refine c_condT rfl ?_
    refine c_seq ?_
    refine c_region ?_
    refine s_y (y_assign rfl) rfl rfl rfl ?_
    refine s_nil ?_
    refine f_then ?_
    refine c_ret ?_
    refine f_thenR ?_
    exact f_ret () (res1 rfl rfl) (fun w h => h.tail)
/-- The print run that newRun refuses to make. -/
abbrev lay0 : Lay := ⟨0, 0, 0, 0, false⟩
abbrev SOK (s : Int) : Prop := 0 ≤ s ∧ s ≤ 1048576
set_option maxHeartbeats 4000000 in
theorem newRun_ok (W : World) (Ls : List Chunk) (l : Lay) (s : Int) (h : l.OK) (hs : SOK s) : Spec Try.prog 52 #[l.v, .int .i64 s] (K W Ls) (fun _ : Unit => .tuple #[runV l s (l.r * l.c), .int .i64 0]) (fun _ => K W Ls) := by
  have h1 := h.r; have h2 := h.c
  have hp := mul_bd (a := l.r) (b := l.c) (A := 16) (B := 16) (by omega) (by omega)
  refine enter (args := [_, _]) Try.func52 rfl Try.ntmps52 rfl ?_
  refine c_seq ?_
  refine c_region ?_
  refine s_do (do_box rfl) rfl rfl rfl (fun b2 => ?_)
  refine s_do (do_alloc Try.tab rfl) rfl rfl rfl (fun b4 => ?_)
  refine s_y (y_assign rfl) rfl rfl rfl ?_
  refine s_nil ?_
  refine f_then ?_
  refine c_seq ?_
  refine c_seq ?_
  refine c_region ?_
  refine s_y (y_loadA Try.tab rfl rfl rfl rfl (cells_row0 1 rfl rfl)) rfl rfl rfl ?_
  refine s_call (en_f rfl Try.call40) (check_ok _ _ _ (by assumption)) rfl rfl rfl (fun _ => ?_)
  refine s_y (y_assign rfl) rfl rfl rfl ?_
  refine s_nil ?_
  refine f_then ?_
  refine c_seq ?_
  refine c_region ?_
  refine s_y (y_move rfl) rfl rfl rfl ?_
  refine s_y (y_F (y_neq rfl rfl) (by omega)) rfl rfl rfl ?_
  refine s_nil ?_
  refine f_then ?_
  refine c_condF rfl ?_
  refine c_skip ?_
  refine f_then ?_
  refine c_seq ?_
  refine c_seq ?_
  refine c_region ?_
  refine s_y (y_move rfl) rfl rfl rfl ?_
  refine s_call (en_f rfl Try.call55) (sw_yes _ (by omega)) rfl rfl rfl (fun _ => ?_)
  refine s_y (y_notT rfl) rfl rfl rfl ?_
  refine s_nil ?_
  refine f_then ?_
  refine c_condF rfl ?_
  refine c_skip ?_
  refine f_then ?_
  refine c_seq ?_
  refine c_region ?_
  refine s_y (y_loadA Try.tab rfl rfl rfl rfl (cells_row0 1 rfl rfl)) rfl rfl rfl ?_
  refine s_y (y_move rfl) rfl rfl rfl ?_
  refine s_y (y_fieldAddr0 Try.tab rfl rfl rfl rfl rfl) rfl rfl rfl ?_
  refine s_y (y_load Try.tab rfl rfl (cell_row 1 rfl rfl)) rfl rfl rfl ?_
  refine s_y (y_fieldAddrB Try.tab 1 rfl rfl rfl rfl rfl) rfl rfl rfl ?_
  refine s_y (y_load Try.tab rfl rfl (cell_row 1 rfl rfl)) rfl rfl rfl ?_
  refine s_y (y_mul rfl rfl (by omega)) rfl rfl rfl ?_
  refine s_y (y_build Try.tab rfl rfl rfl rfl rfl) rfl rfl rfl ?_
  refine s_set (set_box Try.tab 0 rfl rfl rfl rfl rfl rfl rfl) rfl rfl ?_
  refine s_y (y_assign rfl) rfl rfl rfl ?_
  refine s_nil ?_
  refine f_then ?_
  refine c_ret ?_
  exact f_ret () (resA1 Try.tab rfl rfl rfl rfl rfl rfl (cells_row0 0 rfl rfl)) (fun w h => h.tail.tail)
set_option maxHeartbeats 4000000 in
theorem newRun_lay (W : World) (Ls : List Chunk) (l : Lay) (s : Int) (h : ¬ l.OK) : Spec Try.prog 52 #[l.v, .int .i64 s] (K W Ls) (fun _ : Unit => .tuple #[runV lay0 0 0, .int .i64 50]) (fun _ => K W Ls) := by
  refine enter (args := [_, _]) Try.func52 rfl Try.ntmps52 rfl ?_
  refine c_seq ?_
  refine c_region ?_
  refine s_do (do_box rfl) rfl rfl rfl (fun b2 => ?_)
  refine s_do (do_alloc Try.tab rfl) rfl rfl rfl (fun b4 => ?_)
  refine s_y (y_assign rfl) rfl rfl rfl ?_
  refine s_nil ?_
  refine f_then ?_
  refine c_seq ?_
  refine c_seq ?_
  refine c_region ?_
  refine s_y (y_loadA Try.tab rfl rfl rfl rfl (cells_row0 1 rfl rfl)) rfl rfl rfl ?_
  refine s_call (en_f rfl Try.call40) (check_bad _ _ _ (by assumption)) rfl rfl rfl (fun _ => ?_)
  refine s_y (y_assign rfl) rfl rfl rfl ?_
  refine s_nil ?_
  refine f_then ?_
  refine c_seq ?_
  refine c_region ?_
  refine s_y (y_move rfl) rfl rfl rfl ?_
  refine s_y (y_T (y_neq rfl rfl) (by omega)) rfl rfl rfl ?_
  refine s_nil ?_
  refine f_then ?_
  refine c_condT rfl ?_
  refine c_seq ?_
  refine c_region ?_
  refine s_y (y_build Try.tab rfl rfl rfl rfl rfl) rfl rfl rfl ?_
  refine s_y (y_move rfl) rfl rfl rfl ?_
  refine s_set (set_box Try.tab 0 rfl rfl rfl rfl rfl rfl rfl) rfl rfl ?_
  refine s_y (y_assign rfl) rfl rfl rfl ?_
  refine s_nil ?_
  refine f_then ?_
  refine c_ret ?_
  refine f_thenR ?_
  exact f_ret () (resA1 Try.tab rfl rfl rfl rfl rfl rfl (cells_row0 0 rfl rfl)) (fun w h => h.tail.tail)
set_option maxHeartbeats 4000000 in
theorem newRun_arg (W : World) (Ls : List Chunk) (l : Lay) (s : Int) (h : l.OK) (hs : ¬ SOK s) : Spec Try.prog 52 #[l.v, .int .i64 s] (K W Ls) (fun _ : Unit => .tuple #[runV lay0 0 0, .int .i64 2]) (fun _ => K W Ls) := by
  refine enter (args := [_, _]) Try.func52 rfl Try.ntmps52 rfl ?_
  refine c_seq ?_
  refine c_region ?_
  refine s_do (do_box rfl) rfl rfl rfl (fun b2 => ?_)
  refine s_do (do_alloc Try.tab rfl) rfl rfl rfl (fun b4 => ?_)
  refine s_y (y_assign rfl) rfl rfl rfl ?_
  refine s_nil ?_
  refine f_then ?_
  refine c_seq ?_
  refine c_seq ?_
  refine c_region ?_
  refine s_y (y_loadA Try.tab rfl rfl rfl rfl (cells_row0 1 rfl rfl)) rfl rfl rfl ?_
  refine s_call (en_f rfl Try.call40) (check_ok _ _ _ (by assumption)) rfl rfl rfl (fun _ => ?_)
  refine s_y (y_assign rfl) rfl rfl rfl ?_
  refine s_nil ?_
  refine f_then ?_
  refine c_seq ?_
  refine c_region ?_
  refine s_y (y_move rfl) rfl rfl rfl ?_
  refine s_y (y_F (y_neq rfl rfl) (by omega)) rfl rfl rfl ?_
  refine s_nil ?_
  refine f_then ?_
  refine c_condF rfl ?_
  refine c_skip ?_
  refine f_then ?_
  refine c_seq ?_
  refine c_seq ?_
  refine c_region ?_
  refine s_y (y_move rfl) rfl rfl rfl ?_
  refine s_call (en_f rfl Try.call55) (sw_no _ (by omega)) rfl rfl rfl (fun _ => ?_)
  refine s_y (y_notF rfl) rfl rfl rfl ?_
  refine s_nil ?_
  refine f_then ?_
  refine c_condT rfl ?_
  refine c_seq ?_
  refine c_region ?_
  refine s_y (y_build Try.tab rfl rfl rfl rfl rfl) rfl rfl rfl ?_
  refine s_set (set_box Try.tab 0 rfl rfl rfl rfl rfl rfl rfl) rfl rfl ?_
  refine s_y (y_assign rfl) rfl rfl rfl ?_
  refine s_nil ?_
  refine f_then ?_
  refine c_ret ?_
  refine f_thenR ?_
  exact f_ret () (resA1 Try.tab rfl rfl rfl rfl rfl rfl (cells_row0 0 rfl rfl)) (fun w h => h.tail.tail)
set_option maxHeartbeats 4000000 in
theorem notes_spec (W : World) (Ls : List Chunk) (l : Lay) (s p : Int) (hs : 0 ≤ s ∧ s ≤ 1048576) (hp : 0 ≤ p ∧ p ≤ 256) : Spec Try.prog 56 #[runV l s p] (K W Ls) (fun _ : Unit => .int .i64 (s * p)) (fun _ => K W Ls) := by
  have hb := mul_bd hs hp
  refine enter (args := [_]) Try.func56 rfl Try.ntmps56 rfl ?_
  refine c_seq ?_
  refine c_region ?_
  refine s_do (do_box rfl) rfl rfl rfl (fun b1 => ?_)
  refine s_y (y_assign rfl) rfl rfl rfl ?_
  refine s_nil ?_
  refine f_then ?_
  refine c_seq ?_
  refine c_region ?_
  refine s_y (y_fieldAddrB Try.tab 5 rfl rfl rfl rfl rfl) rfl rfl rfl ?_
  refine s_y (y_load Try.tab rfl rfl (cell_row 0 rfl rfl)) rfl rfl rfl ?_
  refine s_y (y_fieldAddrB Try.tab 6 rfl rfl rfl rfl rfl) rfl rfl rfl ?_
  refine s_y (y_load Try.tab rfl rfl (cell_row 0 rfl rfl)) rfl rfl rfl ?_
  refine s_y (y_mul rfl rfl (by omega)) rfl rfl rfl ?_
  refine s_y (y_assign rfl) rfl rfl rfl ?_
  refine s_nil ?_
  refine f_then ?_
  refine c_ret ?_
  exact f_ret () (res1 rfl rfl) (fun w h => h.tail)
set_option maxHeartbeats 4000000 in
theorem ream_spec (W : World) (Ls : List Chunk) (l : Lay) (s p n : Int) (h : l.OK) (hs : SOK s) (hn : 0 ≤ n ∧ n ≤ 4294967296) : Spec Try.prog 78 #[runV l s p, .int .i64 n] (K W Ls) (fun _ : Unit => rmV l s p (n * l.m) (min l.m (s - n * l.m))) (fun _ => K W Ls) := by
  have h3 := h.m
  have hb := mul_bd (a := n) (b := l.m) (A := 4294967296) (B := 10000) (by omega) (by omega)
  refine enter (args := [_, _]) Try.func78 rfl Try.ntmps78 rfl ?_
  refine c_seq ?_
  refine c_region ?_
  refine s_do (do_box rfl) rfl rfl rfl (fun b2 => ?_)
  refine s_do (do_alloc Try.tab rfl) rfl rfl rfl (fun b4 => ?_)
  refine s_nil ?_
  refine f_then ?_
  refine c_seq ?_
  refine c_region ?_
  refine s_y (y_move rfl) rfl rfl rfl ?_
  refine s_y (y_fieldAddr0 Try.tab rfl rfl rfl rfl rfl) rfl rfl rfl ?_
  refine s_y (y_fieldAddrB Try.tab 2 rfl rfl rfl rfl rfl) rfl rfl rfl ?_
  refine s_y (y_load Try.tab rfl rfl (cell_row 1 rfl rfl)) rfl rfl rfl ?_
  refine s_y (y_mul rfl rfl (by omega)) rfl rfl rfl ?_
  refine s_y (y_assign rfl) rfl rfl rfl ?_
  refine s_nil ?_
  refine f_then ?_
  refine c_seq ?_
  refine c_region ?_
  refine s_y (y_loadA Try.tab rfl rfl rfl rfl (cells_row0 1 rfl rfl)) rfl rfl rfl ?_
  refine s_y (y_move rfl) rfl rfl rfl ?_
  refine s_y (y_fieldAddr0 Try.tab rfl rfl rfl rfl rfl) rfl rfl rfl ?_
  refine s_y (y_fieldAddrB Try.tab 2 rfl rfl rfl rfl rfl) rfl rfl rfl ?_
  refine s_y (y_load Try.tab rfl rfl (cell_row 1 rfl rfl)) rfl rfl rfl ?_
  refine s_y (y_fieldAddrB Try.tab 5 rfl rfl rfl rfl rfl) rfl rfl rfl ?_
  refine s_y (y_load Try.tab rfl rfl (cell_row 1 rfl rfl)) rfl rfl rfl ?_
  refine s_y (y_move rfl) rfl rfl rfl ?_
  refine s_y (y_sub rfl rfl (by omega)) rfl rfl rfl ?_
  refine s_y (y_min rfl rfl) rfl rfl rfl ?_
  refine s_y (y_build Try.tab rfl rfl rfl rfl rfl) rfl rfl rfl ?_
  refine s_set (set_box Try.tab 0 rfl rfl rfl rfl rfl rfl rfl) rfl rfl ?_
  refine s_nil ?_
  refine f_then ?_
  refine c_ret ?_
  exact f_ret () (resA Try.tab rfl rfl rfl rfl rfl (cells_row0 0 rfl rfl)) (fun w h => h.tail.tail)
set_option maxHeartbeats 4000000 in
theorem base_spec (W : World) (Ls : List Chunk) (l : Lay) (s p f d : Int) (hf : 0 ≤ f ∧ f ≤ 1099511627776) (hp : 0 ≤ p ∧ p ≤ 256) : Spec Try.prog 80 #[rmV l s p f d] (K W Ls) (fun _ : Unit => .int .i64 (f * p)) (fun _ => K W Ls) := by
  have hb := mul_bd hf hp
  refine enter (args := [_]) Try.func80 rfl Try.ntmps80 rfl ?_
  refine c_seq ?_
  refine c_region ?_
  refine s_do (do_box rfl) rfl rfl rfl (fun b1 => ?_)
  refine s_y (y_assign rfl) rfl rfl rfl ?_
  refine s_nil ?_
  refine f_then ?_
  refine c_seq ?_
  refine c_region ?_
  refine s_y (y_fieldAddrB Try.tab 7 rfl rfl rfl rfl rfl) rfl rfl rfl ?_
  refine s_y (y_load Try.tab rfl rfl (cell_row 0 rfl rfl)) rfl rfl rfl ?_
  refine s_y (y_fieldAddr0 Try.tab rfl rfl rfl rfl rfl) rfl rfl rfl ?_
  refine s_y (y_fieldAddrB Try.tab 6 rfl rfl rfl rfl rfl) rfl rfl rfl ?_
  refine s_y (y_load Try.tab rfl rfl (cell_row 0 rfl rfl)) rfl rfl rfl ?_
  refine s_y (y_mul rfl rfl (by omega)) rfl rfl rfl ?_
  refine s_y (y_assign rfl) rfl rfl rfl ?_
  refine s_nil ?_
  refine f_then ?_
  refine c_ret ?_
  exact f_ret () (res1 rfl rfl) (fun w h => h.tail)
set_option maxHeartbeats 4000000 in
theorem perStack_spec (W : World) (Ls : List Chunk) (l : Lay) (s p f d : Int) (h : l.OK) (hd : 0 ≤ d ∧ d ≤ 10000) : Spec Try.prog 83 #[rmV l s p f d] (K W Ls) (fun _ : Unit => .int .i64 ((d + l.b - 1) / l.b)) (fun _ => K W Ls) := by
  have h4 := h.b
  refine enter (args := [_]) Try.func83 rfl Try.ntmps83 rfl ?_
  refine c_seq ?_
  refine c_region ?_
  refine s_do (do_box rfl) rfl rfl rfl (fun b1 => ?_)
  refine s_y (y_assign rfl) rfl rfl rfl ?_
  refine s_nil ?_
  refine f_then ?_
  refine c_seq ?_
  refine c_region ?_
  refine s_y (y_fieldAddrB Try.tab 8 rfl rfl rfl rfl rfl) rfl rfl rfl ?_
  refine s_y (y_load Try.tab rfl rfl (cell_row 0 rfl rfl)) rfl rfl rfl ?_
  refine s_y (y_fieldAddr0 Try.tab rfl rfl rfl rfl rfl) rfl rfl rfl ?_
  refine s_y (y_fieldAddr0 Try.tab rfl rfl rfl rfl rfl) rfl rfl rfl ?_
  refine s_y (y_fieldAddrB Try.tab 3 rfl rfl rfl rfl rfl) rfl rfl rfl ?_
  refine s_y (y_load Try.tab rfl rfl (cell_row 0 rfl rfl)) rfl rfl rfl ?_
  refine s_y (y_add rfl rfl (by omega)) rfl rfl rfl ?_
  refine s_y (y_sub rfl rfl (by omega)) rfl rfl rfl ?_
  refine s_y (y_fieldAddr0 Try.tab rfl rfl rfl rfl rfl) rfl rfl rfl ?_
  refine s_y (y_fieldAddr0 Try.tab rfl rfl rfl rfl rfl) rfl rfl rfl ?_
  refine s_y (y_fieldAddrB Try.tab 3 rfl rfl rfl rfl rfl) rfl rfl rfl ?_
  refine s_y (y_load Try.tab rfl rfl (cell_row 0 rfl rfl)) rfl rfl rfl ?_
  refine s_y (y_quo rfl rfl (by omega)) rfl rfl rfl ?_
  refine s_y (y_assign rfl) rfl rfl rfl ?_
  refine s_nil ?_
  refine f_then ?_
  refine c_ret ?_
  exact f_ret () (res1 rfl rfl) (fun w h => h.tail)
set_option maxHeartbeats 4000000 in
theorem perReam_spec (W : World) (Ls : List Chunk) (l : Lay) (s p : Int) (h : l.OK) (hp : 0 ≤ p ∧ p ≤ 256) : Spec Try.prog 82 #[runV l s p] (K W Ls) (fun _ : Unit => .int .i64 (p * ((l.m + l.b - 1) / l.b))) (fun _ => K W Ls) := by
  have h3 := h.m; have h4 := h.b
  have hq := div_bd (a := l.m + l.b - 1) (b := l.b) (by omega) (by omega)
  have hb := mul_bd (a := p) (b := (l.m + l.b - 1) / l.b) (A := 256) (B := 11000) (by omega) (by omega)
  refine enter (args := [_]) Try.func82 rfl Try.ntmps82 rfl ?_
  refine c_seq ?_
  refine c_region ?_
  refine s_do (do_box rfl) rfl rfl rfl (fun b1 => ?_)
  refine s_y (y_assign rfl) rfl rfl rfl ?_
  refine s_nil ?_
  refine f_then ?_
  refine c_seq ?_
  refine c_quiet Try.mixed (by kernel_rfl) K.drew ?_
  refine q_y (y_fieldAddrB Try.tab 6 rfl rfl rfl rfl rfl) rfl rfl rfl ?_
  refine q_y (y_load Try.tab rfl rfl (cell_row 0 rfl rfl)) rfl rfl rfl ?_
  refine q_y (y_fieldAddr0 Try.tab rfl rfl rfl rfl rfl) rfl rfl rfl ?_
  refine q_y (y_fieldAddrB Try.tab 2 rfl rfl rfl rfl rfl) rfl rfl rfl ?_
  refine q_y (y_load Try.tab rfl rfl (cell_row 0 rfl rfl)) rfl rfl rfl ?_
  refine q_y (y_fieldAddr0 Try.tab rfl rfl rfl rfl rfl) rfl rfl rfl ?_
  refine q_y (y_fieldAddrB Try.tab 3 rfl rfl rfl rfl rfl) rfl rfl rfl ?_
  refine q_y (y_load Try.tab rfl rfl (cell_row 0 rfl rfl)) rfl rfl rfl ?_
  refine q_y (y_add rfl rfl (by omega)) rfl rfl rfl ?_
  refine q_y (y_sub rfl rfl (by omega)) rfl rfl rfl ?_
  refine q_y (y_fieldAddr0 Try.tab rfl rfl rfl rfl rfl) rfl rfl rfl ?_
  refine q_y (y_fieldAddrB Try.tab 3 rfl rfl rfl rfl rfl) rfl rfl rfl ?_
  refine q_y (y_load Try.tab rfl rfl (cell_row 0 rfl rfl)) rfl rfl rfl ?_
  refine q_y (y_quo rfl rfl (by omega)) rfl rfl rfl ?_
  refine q_y (y_mul rfl rfl (by omega)) rfl rfl rfl ?_
  refine q_y (y_assign rfl) rfl rfl rfl ?_
  refine q_nil ?_
  refine f_then ?_
  refine c_ret ?_
  exact f_ret () (res1 rfl rfl) (fun w h => h.tail)
end Go.KL
end
