/- SampleAllots: for every input the law returns true, and its arguments read as they did. No condition. -/
import Derived.Lib.Mul64
import Derived.Test.YtdknafhaphadiaaRows
import Derived.JoinedOf
import Derived.Handed
import Derived.Test.YtdknafhaphadiaaL7
section
/- A program logic over the model, of our own: drawn regions whose operations i, j, .. read no memory and may wait: they go first. No program in sight. -/
namespace Go.KL
section
variable {P : Program} {n : Nat} {σ : Slots} {C D : World → Prop} {Q : Post} {ops : Array Oper} {dr : Nat → Bool}
def planMs (ops : Array Oper) (dr : Nat → Bool) (plan : List PS) : List Nat → Array Bool → Bool
  | [], listed => planB ops dr plan listed
  | i :: r, listed => (!dr i) && (Region.ready .any ops listed).contains i && freeM ops listed i && planMs ops dr plan r (listed.setIfInBounds i true)
def lenMs (plan : List PS) : List Nat → Nat
  | [] => planLen plan
  | _ :: r => lenMs plan r + 1
def Sdm (P : Program) (n : Nat) (ops : Array Oper) (dr : Nat → Bool) (D : World → Prop) (Q : Post) (ms : List Nat) (plan : List PS) (σ : Slots) (C : World → Prop) : Prop :=
  ∀ listed a, Env n σ a → DC ops listed → planMs ops dr plan ms listed = true → (∀ (j : Nat) (o : Oper) cs b, ops[j]? = some o → o.op ≠ .select cs b) → AnyC P ops dr D Q (lenMs plan ms) listed a C
theorem m_nil {plan : List PS} (h : Sd P n ops dr D Q plan σ C) : Sdm P n ops dr D Q [] plan σ C := fun listed a hE hdc hB hs => h listed a hE hdc hB hs
theorem m_cons {i : Nat} {o : Oper} {v : Value} {d : Nat} {ms : List Nat} {plan : List PS} (hi : ops[i]? = some o) (hy : Qui P n σ (fun _ => True) o v) (hg : gd ops σ o = some true) (hd : o.dst = some d) (hn : Nat.blt d n = true) (hC : Cl C)
    (k : Sdm P n ops dr D Q ms plan ((d, v) :: σ) C) : Sdm P n ops dr D Q (i :: ms) plan σ C := by
  intro listed a hE hdc hB hs
  simp only [planMs, Bool.and_eq_true, Bool.not_eq_true'] at hB
  obtain ⟨⟨⟨hdi, hr⟩, hf⟩, hB⟩ := hB
  have hri : i ∈ Region.ready .any ops listed := by simpa using hr
  have h1 := k (listed.setIfInBounds i true) (a.put o.dst v) (by rw [hd]; exact Env.put hE hn v) (hdc.set (ready_PL hri)) hB hs
  exact AnyC_any (P := P) (D := D) (Q := Q) (dr := dr) (v := v) hi hdi hs _ _ _ _ (freeM_spec hi hf) hdc hri (.inl ⟨gd_wanted hE hg, fun w hw => hy _ w hE trivial⟩) hC h1
theorem c_planMs (ms : List Nat) (plan : List PS) (last : List Nat) (D : World → Prop) {id : Nat} {l : List Oper} (hm : P.follows .mixedOrders = true)
    (hsB : (Region.noSelect l.toArray && planMs l.toArray (drOf last) plan ms (Array.replicate l.toArray.size false)) = true) (hl : lenMs plan ms = l.toArray.size)
    (hC : Cl C) (h : Sdm P n l.toArray (drOf last) D Q ms plan σ C) : SC P n Q (.region id l.toArray true) σ C := by
  obtain ⟨hs, hB⟩ := Bool.and_eq_true_iff.1 hsB
  intro a w hE hw
  refine wpIn_region_any hm ?_
  have h1 := h _ a hE (fun j hj => by simp [Array.getElem?_replicate] at hj; split at hj <;> simp at hj) hB (Region.noSelect_spec hs)
  rw [hl] at h1
  exact wpAny_of_AnyC _ _ _ _ h1 _ (hC _ _ hw (Ext.drew w))
end
end Go.KL
end

section
/- Sorting places by a key, the greatest first, equal ones as they stood: orders, blocks, swaps, rotations; plain. No program in sight. -/
namespace Go.KL
/-- x stands before y. -/
def ltR (R : Nat → Nat) (x y : Nat) : Prop := R y < R x ∨ R x = R y ∧ x < y
instance (R : Nat → Nat) (x y : Nat) : Decidable (ltR R x y) := by unfold ltR; infer_instance
theorem ltR_trans {R : Nat → Nat} {x y z : Nat} (h1 : ltR R x y) (h2 : ltR R y z) : ltR R x z := by
  unfold ltR at *
  omega
theorem ltR_irr {R : Nat → Nat} {x : Nat} : ¬ ltR R x x := by
  unfold ltR
  omega
theorem ltR_not {R : Nat → Nat} {x y : Nat} (h : x ≠ y) (h1 : ¬ ltR R x y) : ltR R y x := by
  unfold ltR at *
  omega
/-- In order, from s to e. -/
def Srt (R : Nat → Nat) (f : Nat → Nat) (s e : Nat) : Prop := ∀ i j, s ≤ i → i < j → j < e → ltR R (f i) (f j)
/-- What a sort of a part leaves. -/
structure SOut (R : Nat → Nat) (f g : Nat → Nat) (a b : Nat) : Prop where
  srt : Srt R g a b
  from' : ∀ i, a ≤ i → i < b → ∃ k, a ≤ k ∧ k < b ∧ g i = f k
  same : ∀ i, i < a ∨ b ≤ i → g i = f i
/-- What a merge needs. -/
structure Mrg (R : Nat → Nat) (f : Nat → Nat) (a m b : Nat) : Prop where
  left : Srt R f a m
  right : Srt R f m b
  ix : ∀ i j, a ≤ i → i < m → m ≤ j → j < b → f i < f j
theorem Mrg.key {R : Nat → Nat} {f : Nat → Nat} {a m b i j : Nat} (h : Mrg R f a m b) (h1 : a ≤ i) (h2 : i < m) (h3 : m ≤ j) (h4 : j < b) : ltR R (f j) (f i) ↔ R (f i) < R (f j) := by
  have := h.ix i j h1 h2 h3 h4
  unfold ltR
  omega
theorem Mrg.ord {R : Nat → Nat} {f : Nat → Nat} {a m b i j : Nat} (h : Mrg R f a m b) (h1 : a ≤ i) (h2 : i < m) (h3 : m ≤ j) (h4 : j < b) : ¬ ltR R (f j) (f i) ↔ ltR R (f i) (f j) := by
  have := h.ix i j h1 h2 h3 h4
  unfold ltR
  omega
theorem Srt.less {R : Nat → Nat} {f : Nat → Nat} {s e s' e' : Nat} (h : Srt R f s e) (h1 : s ≤ s') (h2 : e' ≤ e) : Srt R f s' e' := fun i j hi hij hj => h i j (by omega) hij (by omega)
/-- The element at a, put behind those up to i. -/
def insF (f : Nat → Nat) (a i t : Nat) : Nat := if a ≤ t ∧ t < i then f (t + 1) else if t = i then f a else f t
theorem insF_zero {f : Nat → Nat} {a : Nat} : insF f a a = f := by
  funext t
  unfold insF
  rw [if_neg (by omega)]
  split
  · rename_i h; rw [h]
  · rfl
theorem insF_next {f : Nat → Nat} {a i : Nat} (h : a ≤ i) : upd (upd (insF f a i) i (insF f a i (i + 1))) (i + 1) (insF f a i i) = insF f a (i + 1) := by
  have e1 : insF f a i (i + 1) = f (i + 1) := by
    unfold insF
    rw [if_neg (by omega), if_neg (by omega)]
  have e2 : insF f a i i = f a := by
    unfold insF
    rw [if_neg (by omega), if_pos rfl]
  rw [e1, e2]
  funext t
  unfold upd insF
  (repeat' split) <;> first | rfl | (exfalso; omega) | (congr 1; omega)
/-- The element at m, put ahead of those from i on. -/
def insB (f : Nat → Nat) (m i t : Nat) : Nat := if t = i then f m else if i < t ∧ t ≤ m then f (t - 1) else f t
theorem insB_zero {f : Nat → Nat} {m : Nat} : insB f m m = f := by
  funext t
  unfold insB
  split
  · rename_i h; rw [h]
  · rw [if_neg (by omega)]
theorem insB_next {f : Nat → Nat} {m i : Nat} (h0 : 0 < i) (h : i ≤ m) : upd (upd (insB f m i) i (insB f m i (i - 1))) (i - 1) (insB f m i i) = insB f m (i - 1) := by
  have e1 : insB f m i (i - 1) = f (i - 1) := by
    unfold insB
    rw [if_neg (by omega), if_neg (by omega)]
  have e2 : insB f m i i = f m := by
    unfold insB
    rw [if_pos rfl]
  rw [e1, e2]
  funext t
  unfold upd insB
  (repeat' split) <;> first | rfl | (exfalso; omega) | (congr 1; omega)
/-- Two parts of n exchanged. -/
def swpF (f : Nat → Nat) (a b n t : Nat) : Nat := if a ≤ t ∧ t < a + n then f (t - a + b) else if b ≤ t ∧ t < b + n then f (t - b + a) else f t
theorem swpF_zero {f : Nat → Nat} {a b : Nat} : swpF f a b 0 = f := by
  funext t
  unfold swpF
  rw [if_neg (by omega), if_neg (by omega)]
theorem swpF_next {f : Nat → Nat} {a b i : Nat} (h : a + i < b) : upd (upd (swpF f a b i) (a + i) (swpF f a b i (b + i))) (b + i) (swpF f a b i (a + i)) = swpF f a b (i + 1) := by
  have e1 : swpF f a b i (b + i) = f (b + i) := by
    unfold swpF
    rw [if_neg (by omega), if_neg (by omega)]
  have e2 : swpF f a b i (a + i) = f (a + i) := by
    unfold swpF
    rw [if_neg (by omega), if_neg (by omega)]
  rw [e1, e2]
  funext t
  unfold upd swpF
  (repeat' split) <;> first | rfl | (exfalso; omega) | (congr 1; omega)
/-- The parts from s to m and from m to e exchanged. -/
def rotF (f : Nat → Nat) (s m e t : Nat) : Nat := if s ≤ t ∧ t < s + (e - m) then f (t + (m - s)) else if s + (e - m) ≤ t ∧ t < e then f (t - (e - m)) else f t
theorem rotF_swp {f : Nat → Nat} {m i : Nat} (h : i ≤ m) : swpF f (m - i) m i = rotF f (m - i) m (m + i) := by
  funext t
  unfold rotF swpF
  (repeat' split) <;> first | rfl | (exfalso; omega) | (congr 1; omega)
theorem rotF_left {f : Nat → Nat} {m i j : Nat} (h : i ≤ m) (hij : j < i) : rotF (swpF f (m - i) m j) (m - (i - j)) m (m + j) = rotF f (m - i) m (m + j) := by
  funext t
  unfold rotF swpF
  (repeat' split) <;> first | rfl | (exfalso; omega) | (congr 1; omega)
theorem rotF_right {f : Nat → Nat} {m i j : Nat} (h : i ≤ m) (hij : i < j) : rotF (swpF f (m - i) (m + j - i) i) (m - i) m (m + (j - i)) = rotF f (m - i) m (m + j) := by
  funext t
  unfold rotF swpF
  (repeat' split) <;> first | rfl | (exfalso; omega) | (congr 1; omega)
end Go.KL
end

section
/- Merging and inserting by a key; plain. No program in sight. -/
namespace Go.KL
variable {R : Nat → Nat} {f g h : Nat → Nat} {a m b i j : Nat}
theorem SOut.refl (hs : Srt R f a b) : SOut R f f a b := ⟨hs, fun i h1 h2 => ⟨i, h1, h2, rfl⟩, fun _ _ => rfl⟩
theorem SOut.trans {a' b' : Nat} (h1 : SOut R f g a' b') (h2 : SOut R g h a b) (ha : a ≤ a') (hb : b' ≤ b) : SOut R f h a b := by
  refine ⟨h2.srt, fun i hi1 hi2 => ?_, fun i hi => ?_⟩
  · obtain ⟨k, k1, k2, k3⟩ := h2.from' i hi1 hi2
    by_cases hk : a' ≤ k ∧ k < b'
    · obtain ⟨l, l1, l2, l3⟩ := h1.from' k hk.1 hk.2
      exact ⟨l, by omega, by omega, by rw [k3, l3]⟩
    · exact ⟨k, k1, k2, by rw [k3, h1.same k (by omega)]⟩
  · rw [h2.same i hi, h1.same i (by omega)]
theorem mrg_right (hM : Mrg R f a m (m + 1)) (h1 : a ≤ i) (h2 : i ≤ m) (hlo : ∀ k, a ≤ k → k < i → ¬ ltR R (f m) (f k)) (hhi : ∀ k, i ≤ k → k < m → ltR R (f m) (f k)) : SOut R f (insB f m i) a (m + 1) := by
  have hlo' : ∀ k, a ≤ k → k < i → ltR R (f k) (f m) := fun k k1 k2 => (hM.ord k1 (by omega) (Nat.le_refl m) (by omega)).1 (hlo k k1 k2)
  refine ⟨fun s t hs hst ht => ?_, fun t t1 t2 => ?_, fun t ht => ?_⟩
  · have e : ∀ k, insB f m i k = if k = i then f m else if i < k ∧ k ≤ m then f (k - 1) else f k := fun _ => rfl
    rw [e, e]
    by_cases c1 : s = i
    · rw [if_pos c1, if_neg (by omega), if_pos (by omega)]
      exact hhi (t - 1) (by omega) (by omega)
    · rw [if_neg c1]
      by_cases c2 : i < s ∧ s ≤ m
      · rw [if_pos c2, if_neg (by omega), if_pos (by omega)]
        exact hM.left (s - 1) (t - 1) (by omega) (by omega) (by omega)
      · rw [if_neg c2]
        by_cases c3 : t = i
        · rw [if_pos c3]
          exact hlo' s hs (by omega)
        · rw [if_neg c3]
          by_cases c4 : i < t ∧ t ≤ m
          · rw [if_pos c4]
            by_cases c5 : s = t - 1
            · omega
            · exact hM.left s (t - 1) hs (by omega) (by omega)
          · rw [if_neg c4]
            exact hM.left s t hs hst (by omega)
  · unfold insB
    split
    · exact ⟨m, by omega, by omega, rfl⟩
    · split
      · exact ⟨t - 1, by omega, by omega, rfl⟩
      · exact ⟨t, t1, t2, rfl⟩
  · unfold insB
    rw [if_neg (by omega), if_neg (by omega)]
theorem mrg_left (hM : Mrg R f a (a + 1) b) (h1 : a + 1 ≤ i) (h2 : i ≤ b) (hlo : ∀ k, a + 1 ≤ k → k < i → ltR R (f k) (f a)) (hhi : ∀ k, i ≤ k → k < b → ¬ ltR R (f k) (f a)) : SOut R f (insF f a (i - 1)) a b := by
  have hhi' : ∀ k, i ≤ k → k < b → ltR R (f a) (f k) := fun k k1 k2 => (hM.ord (Nat.le_refl a) (by omega) (by omega) k2).1 (hhi k k1 k2)
  refine ⟨fun s t hs hst ht => ?_, fun t t1 t2 => ?_, fun t ht => ?_⟩
  · have e : ∀ k, insF f a (i - 1) k = if a ≤ k ∧ k < i - 1 then f (k + 1) else if k = i - 1 then f a else f k := fun _ => rfl
    rw [e, e]
    by_cases c1 : a ≤ s ∧ s < i - 1
    · rw [if_pos c1]
      by_cases c2 : a ≤ t ∧ t < i - 1
      · rw [if_pos c2]
        exact hM.right (s + 1) (t + 1) (by omega) (by omega) (by omega)
      · rw [if_neg c2]
        by_cases c3 : t = i - 1
        · rw [if_pos c3]
          exact hlo (s + 1) (by omega) (by omega)
        · rw [if_neg c3]
          exact hM.right (s + 1) t (by omega) (by omega) ht
    · rw [if_neg c1]
      by_cases c2 : s = i - 1
      · rw [if_pos c2, if_neg (by omega), if_neg (by omega)]
        exact hhi' t (by omega) ht
      · rw [if_neg c2, if_neg (by omega), if_neg (by omega)]
        exact hM.right s t (by omega) hst ht
  · unfold insF
    split
    · exact ⟨t + 1, by omega, by omega, rfl⟩
    · split
      · exact ⟨a, by omega, by omega, rfl⟩
      · exact ⟨t, t1, t2, rfl⟩
  · unfold insF
    rw [if_neg (by omega), if_neg (by omega)]
/-- Where a merge is cut. -/
structure Cut2 (R : Nat → Nat) (f : Nat → Nat) (a m b s mid e : Nat) : Prop where
  as' : a ≤ s
  sm : s ≤ m
  me : m ≤ e
  eb : e ≤ b
  sum : e + s = mid + m
  low : ∀ i j, a ≤ i → i < s → e ≤ j → j < b → ltR R (f i) (f j)
  high : ∀ i j, s ≤ i → i < m → m ≤ j → j < e → ltR R (f j) (f i)
theorem rot_at {s e t : Nat} : rotF f s m e t = if s ≤ t ∧ t < s + (e - m) then f (t + (m - s)) else if s + (e - m) ≤ t ∧ t < e then f (t - (e - m)) else f t := rfl
/-- Each place of the rotated row, by its part. -/
theorem Cut2.at {s mid e : Nat} (hC : Cut2 R f a m b s mid e) (t : Nat) : (t < s → rotF f s m e t = f t) ∧ (s ≤ t → t < mid → rotF f s m e t = f (t + (m - s)) ∧ m ≤ t + (m - s) ∧ t + (m - s) < e) ∧ (mid ≤ t → t < e → rotF f s m e t = f (t - (e - m)) ∧ s ≤ t - (e - m) ∧ t - (e - m) < m) ∧ (e ≤ t → rotF f s m e t = f t) := by
  have h1 := hC.sm
  have h2 := hC.me
  have h3 := hC.sum
  refine ⟨fun h => ?_, fun h4 h5 => ⟨?_, by omega, by omega⟩, fun h4 h5 => ⟨?_, by omega, by omega⟩, fun h => ?_⟩
  · rw [rot_at, if_neg (by omega), if_neg (by omega)]
  · rw [rot_at, if_pos (by omega)]
  · rw [rot_at, if_neg (by omega), if_pos (by omega)]
  · rw [rot_at, if_neg (by omega), if_neg (by omega)]
theorem mrg_cut {s mid e : Nat} (hM : Mrg R f a m b) (hC : Cut2 R f a m b s mid e) :
    Mrg R (rotF f s m e) a s mid ∧ Mrg R (rotF f s m e) mid e b ∧ ∀ i j, a ≤ i → i < mid → mid ≤ j → j < b → ltR R (rotF f s m e i) (rotF f s m e j) := by
  have q1 := hC.as'
  have q2 := hC.sm
  have q3 := hC.me
  have q4 := hC.eb
  have q5 := hC.sum
  refine ⟨⟨fun i j h1 h2 h3 => ?_, fun i j h1 h2 h3 => ?_, fun i j h1 h2 h3 h4 => ?_⟩, ⟨fun i j h1 h2 h3 => ?_, fun i j h1 h2 h3 => ?_, fun i j h1 h2 h3 h4 => ?_⟩, fun i j h1 h2 h3 h4 => ?_⟩
  · rw [(hC.at i).1 (by omega), (hC.at j).1 (by omega)]
    exact hM.left i j h1 h2 (by omega)
  · obtain ⟨e1, e2, e3⟩ := (hC.at i).2.1 h1 (by omega)
    obtain ⟨f1, f2, f3⟩ := (hC.at j).2.1 (by omega) h3
    rw [e1, f1]
    exact hM.right _ _ e2 (by omega) (by omega)
  · obtain ⟨f1, f2, f3⟩ := (hC.at j).2.1 h3 h4
    rw [(hC.at i).1 (by omega), f1]
    exact hM.ix _ _ h1 (by omega) f2 (by omega)
  · obtain ⟨e1, e2, e3⟩ := (hC.at i).2.2.1 h1 (by omega)
    obtain ⟨f1, f2, f3⟩ := (hC.at j).2.2.1 (by omega) h3
    rw [e1, f1]
    exact hM.left _ _ (by omega) (by omega) f3
  · rw [(hC.at i).2.2.2 h1, (hC.at j).2.2.2 (by omega)]
    exact hM.right _ _ (by omega) h2 h3
  · obtain ⟨e1, e2, e3⟩ := (hC.at i).2.2.1 h1 (by omega)
    rw [e1, (hC.at j).2.2.2 h3]
    exact hM.ix _ _ (by omega) e3 (by omega) h4
  · by_cases c1 : i < s
    · rw [(hC.at i).1 c1]
      by_cases c2 : j < e
      · obtain ⟨f1, f2, f3⟩ := (hC.at j).2.2.1 h3 c2
        rw [f1]
        exact hM.left _ _ h1 (by omega) f3
      · rw [(hC.at j).2.2.2 (by omega)]
        exact hC.low _ _ h1 c1 (by omega) h4
    · obtain ⟨e1, e2, e3⟩ := (hC.at i).2.1 (by omega) h2
      rw [e1]
      by_cases c2 : j < e
      · obtain ⟨f1, f2, f3⟩ := (hC.at j).2.2.1 h3 c2
        rw [f1]
        exact hC.high _ _ f2 f3 e2 e3
      · rw [(hC.at j).2.2.2 (by omega)]
        exact hM.right _ _ e2 (by omega) h4
theorem mrg_join {s mid e : Nat} {g1 g2 : Nat → Nat} (hM : Mrg R f a m b) (hC : Cut2 R f a m b s mid e) (ham : a ≤ mid) (hmb : mid ≤ b) (h1 : SOut R (rotF f s m e) g1 a mid) (h2 : SOut R g1 g2 mid b) : SOut R f g2 a b := by
  have hx := (mrg_cut hM hC).2.2
  have q1 := hC.as'
  have q2 := hC.sm
  have q3 := hC.me
  have q4 := hC.eb
  have q5 := hC.sum
  have hlo : ∀ i, a ≤ i → i < mid → ∃ k, a ≤ k ∧ k < mid ∧ g2 i = rotF f s m e k := fun i i1 i2 => by
    rw [h2.same i (.inl i2)]
    exact h1.from' i i1 i2
  have hhi : ∀ i, mid ≤ i → i < b → ∃ k, mid ≤ k ∧ k < b ∧ g2 i = rotF f s m e k := fun i i1 i2 => by
    obtain ⟨k, k1, k2, k3⟩ := h2.from' i i1 i2
    exact ⟨k, k1, k2, by rw [k3, h1.same k (.inr k1)]⟩
  refine ⟨fun i j i1 i2 i3 => ?_, fun i i1 i2 => ?_, fun i hi => ?_⟩
  · by_cases c1 : j < mid
    · rw [h2.same i (.inl (by omega)), h2.same j (.inl c1)]
      exact h1.srt i j i1 i2 c1
    · by_cases c2 : i < mid
      · obtain ⟨k, k1, k2, k3⟩ := hlo i i1 c2
        obtain ⟨l, l1, l2, l3⟩ := hhi j (by omega) i3
        rw [k3, l3]
        exact hx k l k1 k2 l1 l2
      · exact h2.srt i j (by omega) i2 i3
  · have key : ∃ k, a ≤ k ∧ k < b ∧ g2 i = rotF f s m e k := by
      by_cases c : i < mid
      · obtain ⟨k, k1, k2, k3⟩ := hlo i i1 c
        exact ⟨k, k1, by omega, k3⟩
      · obtain ⟨k, k1, k2, k3⟩ := hhi i (by omega) i2
        exact ⟨k, by omega, k2, k3⟩
    obtain ⟨k, k1, k2, k3⟩ := key
    rw [k3, rot_at]
    split
    · exact ⟨k + (m - s), by omega, by omega, rfl⟩
    · split
      · exact ⟨k - (e - m), by omega, by omega, rfl⟩
      · exact ⟨k, k1, k2, rfl⟩
  · rw [h2.same i (by omega), h1.same i (by omega), rot_at, if_neg (by omega), if_neg (by omega)]
/-- The search's end. -/
theorem cut_found {s mid s0 r0 : Nat} (hM : Mrg R f a m b) (ha : a ≤ s0) (hs : s0 ≤ s) (hr : s ≤ r0) (hrm : r0 ≤ m) (hb : mid + m ≤ b + s) (hm : m ≤ mid + m - s) (hsn : s ≤ mid + m) (h0 : s0 = a ∨ mid + m = b + s0) (h1 : r0 = m ∨ r0 = mid) (hlo : s0 < s → ltR R (f (s - 1)) (f (mid + m - s))) (hhi : s < r0 → ltR R (f (mid + m - 1 - s)) (f s)) : Cut2 R f a m b s mid (mid + m - s) := by
  refine ⟨by omega, by omega, hm, by omega, by omega, fun i j i1 i2 j1 j2 => ?_, fun i j i1 i2 j1 j2 => ?_⟩
  · have h3 : s0 < s := by omega
    have h4 := hlo h3
    have h5 : ltR R (f i) (f (mid + m - s)) := by
      by_cases c : i = s - 1
      · rw [c]; exact h4
      · exact ltR_trans (hM.left i (s - 1) i1 (by omega) (by omega)) h4
    by_cases c : j = mid + m - s
    · rw [c]; exact h5
    · exact ltR_trans h5 (hM.right _ j hm (by omega) j2)
  · have h3 : s < r0 := by omega
    have h4 := hhi h3
    have h5 : ltR R (f j) (f s) := by
      by_cases c : j = mid + m - 1 - s
      · rw [c]; exact h4
      · exact ltR_trans (hM.right j _ j1 (by omega) (by omega)) h4
    by_cases c : i = s
    · rw [c]; exact h5
    · exact ltR_trans h5 (hM.left s i (by omega) (by omega) i2)
end Go.KL
end

section
/- Walks: cmp.Compare, and the closure that Allot sorts by. -/
namespace Go.KL
open Go.Proofs
/-- How two keys compare. -/
def cmp3 (x y : Nat) : Int := if x < y then -1 else if y < x then 1 else 0
theorem cmp3_neg {x y : Nat} : cmp3 x y < 0 ↔ x < y := by
  unfold cmp3
  split
  · omega
  · split <;> omega
attribute [local irreducible] SC St Fin Sq Ylds Doos Sets Enters Spec CellIs CellsAre Then Ret Rnd Chn resOK ints bools recs arr
set_option maxRecDepth 10000 in
theorem isNaN_spec {C : World → Prop} {x : Nat} : Spec Try.prog 117 #[.int .u64 (x : Int)] C (fun _ : Unit => .bool false) (fun _ => C) := by
  refine enter (args := [_]) Try.func117 rfl Try.ntmps117 rfl ?_
  refine c_seq ?_
  refine c_region ?_
  refine s_y (y_assign rfl) rfl rfl rfl ?_
  refine s_nil ?_
  refine f_then ?_
  refine c_seq ?_
  refine c_region ?_
  refine s_y (y_move rfl) rfl rfl rfl ?_
  refine s_y (y_move rfl) rfl rfl rfl ?_
  refine s_y (y_F (y_neq rfl rfl) (by omega)) rfl rfl rfl ?_
  refine s_y (y_assign rfl) rfl rfl rfl ?_
  refine s_nil ?_
  refine f_then ?_
  refine c_ret ?_
  exact f_ret () (res1 rfl rfl) (fun w h => h)
set_option maxRecDepth 10000 in
theorem compare_spec {C : World → Prop} {x y : Nat} : Spec Try.prog 81 #[.int .u64 (x : Int), .int .u64 (y : Int)] C (fun _ : Unit => .int .i64 (cmp3 x y)) (fun _ => C) := by
  refine enter (args := [_, _]) Try.func81 rfl Try.ntmps81 rfl ?_
  refine c_seq ?_
  refine c_region ?_
  refine s_y (y_assign rfl) rfl rfl rfl ?_
  refine s_nil ?_
  refine f_then ?_
  refine c_seq ?_
  refine c_region ?_
  refine s_y (y_move rfl) rfl rfl rfl ?_
  refine s_call (en_f rfl Try.call117) isNaN_spec rfl rfl rfl (fun _ => ?_)
  refine s_y (y_assign rfl) rfl rfl rfl ?_
  refine s_nil ?_
  refine f_then ?_
  refine c_seq ?_
  refine c_region ?_
  refine s_y (y_move rfl) rfl rfl rfl ?_
  refine s_call (en_f rfl Try.call117) isNaN_spec rfl rfl rfl (fun _ => ?_)
  unfold cmp3
  by_cases h1 : x < y
  · rw [if_pos h1]
    refine s_y (y_assign rfl) rfl rfl rfl ?_
    refine s_nil ?_
    refine f_then ?_
    refine c_seq ?_
    refine c_seq ?_
    refine c_region ?_
    refine s_y (y_move rfl) rfl rfl rfl ?_
    refine s_nil ?_
    refine f_then ?_
    refine c_condF rfl ?_
    refine c_skip ?_
    refine f_then ?_
    refine c_seq ?_
    refine c_seq ?_
    refine c_region ?_
    refine s_y (y_move rfl) rfl rfl rfl ?_
    refine s_nil ?_
    refine f_then ?_
    refine c_condF rfl ?_
    refine c_skip ?_
    refine f_then ?_
    refine c_seq ?_
    refine c_seq ?_
    refine c_region ?_
    refine s_y (y_move rfl) rfl rfl rfl ?_
    refine s_y (y_move rfl) rfl rfl rfl ?_
    refine s_y (y_T (y_lss rfl rfl) (by omega)) rfl rfl rfl ?_
    refine s_nil ?_
    refine f_then ?_
    refine c_condT rfl ?_
    refine c_seq ?_
    refine c_region ?_
    refine s_y (y_assign rfl) rfl rfl rfl ?_
    refine s_nil ?_
    refine f_then ?_
    refine c_ret ?_
    refine f_thenR ?_
    exact f_ret () (res1 rfl rfl) (fun w h => h)
  · rw [if_neg h1]
    by_cases h2 : y < x
    · rw [if_pos h2]
      refine s_y (y_assign rfl) rfl rfl rfl ?_
      refine s_nil ?_
      refine f_then ?_
      refine c_seq ?_
      refine c_seq ?_
      refine c_region ?_
      refine s_y (y_move rfl) rfl rfl rfl ?_
      refine s_nil ?_
      refine f_then ?_
      refine c_condF rfl ?_
      refine c_skip ?_
      refine f_then ?_
      refine c_seq ?_
      refine c_seq ?_
      refine c_region ?_
      refine s_y (y_move rfl) rfl rfl rfl ?_
      refine s_nil ?_
      refine f_then ?_
      refine c_condF rfl ?_
      refine c_skip ?_
      refine f_then ?_
      refine c_seq ?_
      refine c_seq ?_
      refine c_region ?_
      refine s_y (y_move rfl) rfl rfl rfl ?_
      refine s_y (y_move rfl) rfl rfl rfl ?_
      refine s_y (y_F (y_lss rfl rfl) (by omega)) rfl rfl rfl ?_
      refine s_nil ?_
      refine f_then ?_
      refine c_condF rfl ?_
      refine c_skip ?_
      refine f_then ?_
      refine c_seq ?_
      refine c_seq ?_
      refine c_region ?_
      refine s_y (y_move rfl) rfl rfl rfl ?_
      refine s_y (y_move rfl) rfl rfl rfl ?_
      refine s_y (y_T (y_gtr rfl rfl) (by omega)) rfl rfl rfl ?_
      refine s_nil ?_
      refine f_then ?_
      refine c_condT rfl ?_
      refine c_seq ?_
      refine c_region ?_
      refine s_y (y_assign rfl) rfl rfl rfl ?_
      refine s_nil ?_
      refine f_then ?_
      refine c_ret ?_
      refine f_thenR ?_
      exact f_ret () (res1 rfl rfl) (fun w h => h)
    · rw [if_neg h2]
      refine s_y (y_assign rfl) rfl rfl rfl ?_
      refine s_nil ?_
      refine f_then ?_
      refine c_seq ?_
      refine c_seq ?_
      refine c_region ?_
      refine s_y (y_move rfl) rfl rfl rfl ?_
      refine s_nil ?_
      refine f_then ?_
      refine c_condF rfl ?_
      refine c_skip ?_
      refine f_then ?_
      refine c_seq ?_
      refine c_seq ?_
      refine c_region ?_
      refine s_y (y_move rfl) rfl rfl rfl ?_
      refine s_nil ?_
      refine f_then ?_
      refine c_condF rfl ?_
      refine c_skip ?_
      refine f_then ?_
      refine c_seq ?_
      refine c_seq ?_
      refine c_region ?_
      refine s_y (y_move rfl) rfl rfl rfl ?_
      refine s_y (y_move rfl) rfl rfl rfl ?_
      refine s_y (y_F (y_lss rfl rfl) (by omega)) rfl rfl rfl ?_
      refine s_nil ?_
      refine f_then ?_
      refine c_condF rfl ?_
      refine c_skip ?_
      refine f_then ?_
      refine c_seq ?_
      refine c_seq ?_
      refine c_region ?_
      refine s_y (y_move rfl) rfl rfl rfl ?_
      refine s_y (y_move rfl) rfl rfl rfl ?_
      refine s_y (y_F (y_gtr rfl rfl) (by omega)) rfl rfl rfl ?_
      refine s_nil ?_
      refine f_then ?_
      refine c_condF rfl ?_
      refine c_skip ?_
      refine f_then ?_
      refine c_seq ?_
      refine c_region ?_
      refine s_y (y_assign rfl) rfl rfl rfl ?_
      refine s_nil ?_
      refine f_then ?_
      refine c_ret ?_
      exact f_ret () (res1 rfl rfl) (fun w h => h)
theorem compare_q {D : World → Prop} {x y : Nat} : ∀ C' : World → Prop, (∀ w, C' w → D w) → Spec Try.prog 81 #[.int .u64 (x : Int), .int .u64 (y : Int)] C' (fun _ : Unit => .int .i64 (cmp3 x y)) (fun _ => C') := fun _ _ => compare_spec
/-- What the sort knows of its comparison. -/
def CmpOK (W : World) (bo n : Nat) (N : List Chunk) (cap : Value) (R : Nat → Nat) : Prop := ∀ (f : Nat → Nat) (x y : Nat), x < n → y < n → Spec Try.prog 80 #[.int .i64 (x : Int), .int .i64 (y : Int), cap] (K W ([(bo, ints 3 n (fun i => (f i : Int)) [])] :: N)) (fun _ : Unit => .int .i64 (cmp3 (R y) (R x))) (fun _ => K W ([(bo, ints 3 n (fun i => (f i : Int)) [])] :: N))
set_option maxRecDepth 10000 in
set_option maxHeartbeats 4000000 in
theorem less_spec {W : World} {N : List Chunk} {o : Chunk} {br bq n m x y : Nat} {R : Nat → Nat} {rest : List Value} (hx : x < n) (hy : y < n) : Spec Try.prog 80 #[.int .i64 (x : Int), .int .i64 (y : Int), .pointer (some ⟨br, 0, none⟩)] (K W (o :: [(br, row 94 [.slice (some ⟨bq, 0, none⟩) n m])] :: [(bq, arr 63 n (fun i => .int .u64 (R i : Int)) rest)] :: N)) (fun _ : Unit => .int .i64 (cmp3 (R y) (R x))) (fun _ => K W (o :: [(br, row 94 [.slice (some ⟨bq, 0, none⟩) n m])] :: [(bq, arr 63 n (fun i => .int .u64 (R i : Int)) rest)] :: N)) := by
  refine enter (args := [_, _, _]) Try.func80 rfl Try.ntmps80 rfl ?_
  refine c_seq ?_
  refine c_region ?_
  refine s_y (y_assign rfl) rfl rfl rfl ?_
  refine s_nil ?_
  refine f_then ?_
  refine c_seq ?_
  refine c_plan [.c 0, .c 1, .c 2, .c 3, .c 4, .c 5, .c 6, .c 7, .c 8, .c 9] [] ((K W (o :: [(br, row 94 [.slice (some ⟨bq, 0, none⟩) n m])] :: [(bq, arr 63 n (fun i => .int .u64 (R i : Int)) rest)] :: N))) Try.mixed (by kernel_rfl) rfl K.cl ?_
  refine d_c rfl (Qui.ylds (y_load Try.tab rfl rfl (cell_row 1 rfl rfl))) rfl rfl rfl (fun _ h => h) K.cl ?_
  refine d_c rfl (Qui.ylds (y_move rfl)) rfl rfl rfl (fun _ h => h) K.cl ?_
  refine d_c rfl (Qui.ylds (y_indexAddr1 Try.tab rfl rfl rfl rfl _ rfl (by omega))) rfl rfl rfl (fun _ h => h) K.cl ?_
  refine d_c rfl (Qui.ylds (y_load Try.tab rfl rfl (cell_arr 2 rfl (by omega)))) rfl rfl rfl (fun _ h => h) K.cl ?_
  refine d_c rfl (Qui.ylds (y_load Try.tab rfl rfl (cell_row 1 rfl rfl))) rfl rfl rfl (fun _ h => h) K.cl ?_
  refine d_c rfl (Qui.ylds (y_move rfl)) rfl rfl rfl (fun _ h => h) K.cl ?_
  refine d_c rfl (Qui.ylds (y_indexAddr1 Try.tab rfl rfl rfl rfl _ rfl (by omega))) rfl rfl rfl (fun _ h => h) K.cl ?_
  refine d_c rfl (Qui.ylds (y_load Try.tab rfl rfl (cell_arr 2 rfl (by omega)))) rfl rfl rfl (fun _ h => h) K.cl ?_
  refine d_c rfl (Qui.callC K.cl (en_f rfl Try.call81) (compare_q)) rfl rfl rfl (fun _ h => h) K.cl ?_
  refine d_c rfl (Qui.ylds (y_assign rfl)) rfl rfl rfl (fun _ h => h) K.cl ?_
  refine d_nil ?_
  refine f_then ?_
  refine c_ret ?_
  exact f_ret () (res1 rfl rfl) (fun w h => h)
end Go.KL
end

section
/- Walks: swapRange, rotate. -/
namespace Go.KL
open Go.Proofs
attribute [local irreducible] SC St Fin Sq Ylds Doos Sets Enters Spec CellIs CellsAre Then Ret Rnd Chn resOK ints bools recs arr
set_option maxRecDepth 10000 in
set_option maxHeartbeats 4000000 in
theorem swapRange_spec {W : World} {N : List Chunk} {bo m a b k : Nat} {f : Nat → Nat} {cv : Value} (h1 : a + k ≤ b) (h2 : b + k ≤ m) (hm : m ≤ 4096) : Spec Try.prog 156 #[.slice (some ⟨bo, 0, none⟩) m m, .int .i64 (a : Int), .int .i64 (b : Int), .int .i64 (k : Int), cv] (K W ([(bo, ints 3 m (fun i => (f i : Int)) [])] :: N)) (fun _ : Unit => .tuple #[]) (fun _ => K W ([(bo, ints 3 m (fun i => (swpF f a b k i : Int)) [])] :: N)) := by
  refine enter (args := [_, _, _, _, _]) Try.func156 rfl Try.ntmps156 rfl ?_
  refine c_seq ?_
  refine c_region ?_
  refine s_y (y_assign rfl) rfl rfl rfl ?_
  refine s_nil ?_
  refine f_then ?_
  refine c_block ?_
  refine c_loopP (α := Nat) (fun z => [(0, .slice (some ⟨bo, 0, none⟩) m m), (1, .int .i64 (a : Int)), (2, .int .i64 (b : Int)), (3, .int .i64 (k : Int)), (10, .int .i64 (z : Int))]) (fun z => z ≤ k) (fun z => K W ([(bo, ints 3 m (fun i => (swpF f a b z i : Int)) [])] :: N)) (fun z => k - z) 0
    ⟨rfl, rfl, rfl, rfl, rfl, trivial⟩ (Nat.zero_le _) (fun w h => by rw [swpF_zero]; exact h) ?_
  intro i hi
  by_cases hlt : i < k
  · have ea : (a : Int) + (i : Int) = ((a + i : Nat) : Int) := by omega
    have eb : (b : Int) + (i : Int) = ((b + i : Nat) : Int) := by omega
    have hnx := swpF_next (f := f) (a := a) (b := b) (i := i) (by omega)
    refine c_seq ?_
    refine c_seq ?_
    refine c_region ?_
    refine s_y (y_move rfl) rfl rfl rfl ?_
    refine s_y (y_move rfl) rfl rfl rfl ?_
    refine s_y (y_T (y_lss rfl rfl) (by omega)) rfl rfl rfl ?_
    refine s_nil ?_
    refine f_then ?_
    refine c_condT rfl ?_
    refine c_skip ?_
    refine f_then ?_
    refine c_seq ?_
    refine c_block ?_
    refine c_planMs [4, 5, 6, 7] [.c 0, .c 1, .c 2, .c 3, .c 8, .c 9, .c 10, .c 11, .c 12, .c 13, .c 14, .c 15, .c 16, .c 17, .c 18, .c 19, .c 20, .s 21, .s 22, .s 23] [4, 5, 6, 7, 21, 22, 23] (K W ([(bo, ints 3 m (fun j => (swpF f a b i j : Int)) [])] :: N)) Try.mixed (by kernel_rfl) rfl K.cl ?_
    refine m_cons rfl (Qui.ylds (y_move rfl)) rfl rfl rfl K.cl ?_
    refine m_cons rfl (Qui.ylds (y_move rfl)) rfl rfl rfl K.cl ?_
    refine m_cons rfl (Qui.ylds (y_move rfl)) rfl rfl rfl K.cl ?_
    refine m_cons rfl (Qui.ylds (y_add rfl rfl (by omega))) rfl rfl rfl K.cl ?_
    refine m_nil ?_
    refine d_c rfl (Qui.ylds (y_move rfl)) rfl rfl rfl (fun _ h => h) K.cl ?_
    refine d_c rfl (Qui.ylds (y_move rfl)) rfl rfl rfl (fun _ h => h) K.cl ?_
    refine d_c rfl (Qui.ylds (y_move rfl)) rfl rfl rfl (fun _ h => h) K.cl ?_
    refine d_c rfl (Qui.ylds (y_add rfl rfl (by omega))) rfl rfl rfl (fun _ h => h) K.cl ?_
    refine d_c rfl (Qui.ylds (y_move rfl)) rfl rfl rfl (fun _ h => h) K.cl ?_
    refine d_c rfl (Qui.ylds (y_move rfl)) rfl rfl rfl (fun _ h => h) K.cl ?_
    refine d_c rfl (Qui.ylds (y_move rfl)) rfl rfl rfl (fun _ h => h) K.cl ?_
    refine d_c rfl (Qui.ylds (y_add rfl rfl (by omega))) rfl rfl rfl (fun _ h => h) K.cl ?_
    refine d_c rfl (Qui.ylds (y_indexAddr1 Try.tab rfl rfl rfl rfl _ rfl (by omega))) rfl rfl rfl (fun _ h => h) K.cl ?_
    refine d_c rfl (Qui.ylds (y_load Try.tab rfl rfl (cell_ints 0 rfl (by omega)))) rfl rfl rfl (fun _ h => h) K.cl ?_
    refine d_c rfl (Qui.ylds (y_move rfl)) rfl rfl rfl (fun _ h => h) K.cl ?_
    refine d_c rfl (Qui.ylds (y_move rfl)) rfl rfl rfl (fun _ h => h) K.cl ?_
    refine d_c rfl (Qui.ylds (y_move rfl)) rfl rfl rfl (fun _ h => h) K.cl ?_
    refine d_c rfl (Qui.ylds (y_add rfl rfl (by omega))) rfl rfl rfl (fun _ h => h) K.cl ?_
    refine d_c rfl (Qui.ylds (y_indexAddr1 Try.tab rfl rfl rfl rfl _ rfl (by omega))) rfl rfl rfl (fun _ h => h) K.cl ?_
    refine d_c rfl (Qui.ylds (y_load Try.tab rfl rfl (cell_ints 0 rfl (by omega)))) rfl rfl rfl (fun _ h => h) K.cl ?_
    refine d_c rfl (Qui.ylds (y_indexAddr1 Try.tab rfl rfl rfl rfl _ rfl (by omega))) rfl rfl rfl (fun _ h => h) K.cl ?_
    refine d_set rfl (set_ints Try.tab 0 rfl rfl rfl rfl (by omega)) rfl rfl K.cl (fun h => by cases h) ?_
    refine d_sy rfl (y_indexAddr1 Try.tab rfl rfl rfl rfl _ rfl (by omega)) rfl rfl rfl K.cl (fun h => by cases h) ?_
    refine d_set rfl (set_ints Try.tab 0 rfl rfl rfl rfl (by omega)) rfl rfl K.cl (fun h => by cases h) ?_
    refine d_nil ?_
    refine f_blockN ?_
    refine f_then ?_
    refine c_region ?_
    refine s_y (y_move rfl) rfl rfl rfl ?_
    refine s_y (y_add rfl rfl (by omega)) rfl rfl rfl ?_
    refine s_y (y_assign rfl) rfl rfl rfl ?_
    refine s_nil ?_
    exact f_roundP (i + 1) hlt (by omega) ⟨rfl, rfl, rfl, rfl, rfl, trivial⟩ (fun w h => by rw [← hnx, ← upd_nat, ← upd_nat]; exact h)
  · obtain rfl : i = k := by omega
    refine c_seq ?_
    refine c_seq ?_
    refine c_region ?_
    refine s_y (y_move rfl) rfl rfl rfl ?_
    refine s_y (y_move rfl) rfl rfl rfl ?_
    refine s_y (y_F (y_lss rfl rfl) (by omega)) rfl rfl rfl ?_
    refine s_nil ?_
    refine f_then ?_
    refine c_condF rfl ?_
    refine c_exit ?_
    refine f_thenE ?_
    refine f_rndE ?_
    refine f_blockE ?_
    exact f_end () (res0 rfl) (fun w h => h)
set_option maxRecDepth 10000 in
set_option maxHeartbeats 4000000 in
theorem rotate_spec {W : World} {N : List Chunk} {bo n a m b : Nat} {f : Nat → Nat} {cv : Value} (h1 : a < m) (h2 : m < b) (h3 : b ≤ n) (hn : n ≤ 4096) : Spec Try.prog 149 #[.slice (some ⟨bo, 0, none⟩) n n, .int .i64 (a : Int), .int .i64 (m : Int), .int .i64 (b : Int), cv] (K W ([(bo, ints 3 n (fun i => (f i : Int)) [])] :: N)) (fun _ : Unit => .tuple #[]) (fun _ => K W ([(bo, ints 3 n (fun i => (rotF f a m b i : Int)) [])] :: N)) := by
  refine enter (args := [_, _, _, _, _]) Try.func149 rfl Try.ntmps149 rfl ?_
  have e1 : (m : Int) - (a : Int) = ((m - a : Nat) : Int) := by omega
  have e2 : (b : Int) - (m : Int) = ((b - m : Nat) : Int) := by omega
  refine c_seq ?_
  refine c_region ?_
  refine s_y (y_move rfl) rfl rfl rfl ?_
  refine s_y (y_move rfl) rfl rfl rfl ?_
  refine s_y (y_sub rfl rfl (by omega)) rfl rfl rfl ?_
  refine s_y (y_assign rfl) rfl rfl rfl ?_
  refine s_nil ?_
  refine f_then ?_
  refine c_seq ?_
  refine c_region ?_
  refine s_y (y_move rfl) rfl rfl rfl ?_
  refine s_y (y_move rfl) rfl rfl rfl ?_
  refine s_y (y_sub rfl rfl (by omega)) rfl rfl rfl ?_
  refine s_y (y_assign rfl) rfl rfl rfl ?_
  refine s_nil ?_
  refine f_then ?_
  refine c_seq ?_
  refine c_block ?_
  rw [e1, e2]
  refine c_loopP (α := Nat × Nat × (Nat → Nat)) (fun z => [(0, .slice (some ⟨bo, 0, none⟩) n n), (2, .int .i64 (m : Int)), (4, cv), (10, .int .i64 (z.1 : Int)), (11, .int .i64 (z.2.1 : Int))]) (fun z => 0 < z.1 ∧ 0 < z.2.1 ∧ z.1 ≤ m ∧ m + z.2.1 ≤ n ∧ rotF z.2.2 (m - z.1) m (m + z.2.1) = rotF f a m b) (fun z => K W ([(bo, ints 3 n (fun i => (z.2.2 i : Int)) [])] :: N)) (fun z => z.1 + z.2.1) (m - a, b - m, f)
    ⟨rfl, rfl, rfl, rfl, rfl, trivial⟩ ⟨by dsimp only; omega, by dsimp only; omega, by dsimp only; omega, by dsimp only; omega, by dsimp only; rw [show m - (m - a) = a by omega, show m + (b - m) = b by omega]⟩ (fun w h => h) ?_
  rintro ⟨i, j, g⟩ ⟨hi, hj, him, hjn, hg⟩
  dsimp only at hi hj him hjn hg ⊢
  have e3 : (m : Int) - (i : Int) = ((m - i : Nat) : Int) := by omega
  have e4 : (m : Int) + (j : Int) = ((m + j : Nat) : Int) := by omega
  by_cases hij : i = j
  · subst hij
    rw [← rotF_swp him] at hg
    rw [← hg]
    refine c_seq ?_
    refine c_seq ?_
    refine c_region ?_
    refine s_y (y_move rfl) rfl rfl rfl ?_
    refine s_y (y_move rfl) rfl rfl rfl ?_
    refine s_y (y_F (y_neq rfl rfl) (by omega)) rfl rfl rfl ?_
    refine s_nil ?_
    refine f_then ?_
    refine c_condF rfl ?_
    refine c_exit ?_
    refine f_thenE ?_
    refine f_rndE ?_
    refine f_blockE ?_
    refine f_then ?_
    refine c_region ?_
    refine s_y (y_move rfl) rfl rfl rfl ?_
    refine s_y (y_move rfl) rfl rfl rfl ?_
    refine s_y (y_move rfl) rfl rfl rfl ?_
    refine s_y (y_sub rfl rfl (by omega)) rfl rfl rfl ?_
    refine s_y (y_move rfl) rfl rfl rfl ?_
    refine s_y (y_move rfl) rfl rfl rfl ?_
    refine s_y (y_move rfl) rfl rfl rfl ?_
    rw [e3]
    refine s_call (en_f rfl Try.call156) (swapRange_spec (a := m - i) (b := m) (k := i) (by omega) (by omega) hn) rfl rfl rfl (fun _ => ?_)
    refine s_nil ?_
    exact f_end () (res0 rfl) (fun w h => h)
  by_cases hlt : j < i
  · rw [← rotF_left him hlt] at hg
    refine c_seq ?_
    refine c_seq ?_
    refine c_region ?_
    refine s_y (y_move rfl) rfl rfl rfl ?_
    refine s_y (y_move rfl) rfl rfl rfl ?_
    refine s_y (y_T (y_neq rfl rfl) (by omega)) rfl rfl rfl ?_
    refine s_nil ?_
    refine f_then ?_
    refine c_condT rfl ?_
    refine c_skip ?_
    refine f_then ?_
    refine c_block ?_
    refine c_seq ?_
    refine c_region ?_
    refine s_y (y_move rfl) rfl rfl rfl ?_
    refine s_y (y_move rfl) rfl rfl rfl ?_
    refine s_y (y_T (y_gtr rfl rfl) (by omega)) rfl rfl rfl ?_
    refine s_nil ?_
    refine f_then ?_
    refine c_condT rfl ?_
    refine c_seq ?_
    refine c_region ?_
    refine s_y (y_move rfl) rfl rfl rfl ?_
    refine s_y (y_move rfl) rfl rfl rfl ?_
    refine s_y (y_move rfl) rfl rfl rfl ?_
    refine s_y (y_sub rfl rfl (by omega)) rfl rfl rfl ?_
    refine s_y (y_move rfl) rfl rfl rfl ?_
    refine s_y (y_move rfl) rfl rfl rfl ?_
    refine s_y (y_move rfl) rfl rfl rfl ?_
    rw [e3]
    refine s_call (en_f rfl Try.call156) (swapRange_spec (a := m - i) (b := m) (k := j) (by omega) (by omega) hn) rfl rfl rfl (fun _ => ?_)
    refine s_nil ?_
    refine f_then ?_
    refine c_region ?_
    refine s_y (y_move rfl) rfl rfl rfl ?_
    refine s_y (y_move rfl) rfl rfl rfl ?_
    refine s_y (y_sub rfl rfl (by omega)) rfl rfl rfl ?_
    refine s_y (y_assign rfl) rfl rfl rfl ?_
    refine s_nil ?_
    refine f_blockN ?_
    exact f_roundP (i - j, j, swpF g (m - i) m j) ⟨by dsimp only; omega, hj, by dsimp only; omega, hjn, hg⟩ (by dsimp only; omega) ⟨rfl, rfl, rfl, congrArg (fun z => some (Value.int .i64 z)) (by dsimp only; omega), rfl, trivial⟩ (fun w h => h)
  · have e5 : ((m + j : Nat) : Int) - (i : Int) = ((m + j - i : Nat) : Int) := by omega
    rw [← rotF_right him (by omega)] at hg
    refine c_seq ?_
    refine c_seq ?_
    refine c_region ?_
    refine s_y (y_move rfl) rfl rfl rfl ?_
    refine s_y (y_move rfl) rfl rfl rfl ?_
    refine s_y (y_T (y_neq rfl rfl) (by omega)) rfl rfl rfl ?_
    refine s_nil ?_
    refine f_then ?_
    refine c_condT rfl ?_
    refine c_skip ?_
    refine f_then ?_
    refine c_block ?_
    refine c_seq ?_
    refine c_region ?_
    refine s_y (y_move rfl) rfl rfl rfl ?_
    refine s_y (y_move rfl) rfl rfl rfl ?_
    refine s_y (y_F (y_gtr rfl rfl) (by omega)) rfl rfl rfl ?_
    refine s_nil ?_
    refine f_then ?_
    refine c_condF rfl ?_
    refine c_seq ?_
    refine c_region ?_
    refine s_y (y_move rfl) rfl rfl rfl ?_
    refine s_y (y_move rfl) rfl rfl rfl ?_
    refine s_y (y_move rfl) rfl rfl rfl ?_
    refine s_y (y_sub rfl rfl (by omega)) rfl rfl rfl ?_
    refine s_y (y_move rfl) rfl rfl rfl ?_
    refine s_y (y_move rfl) rfl rfl rfl ?_
    refine s_y (y_add rfl rfl (by omega)) rfl rfl rfl ?_
    refine s_y (y_move rfl) rfl rfl rfl ?_
    refine s_y (y_sub rfl rfl (by omega)) rfl rfl rfl ?_
    refine s_y (y_move rfl) rfl rfl rfl ?_
    refine s_y (y_move rfl) rfl rfl rfl ?_
    rw [e3, e4, e5]
    refine s_call (en_f rfl Try.call156) (swapRange_spec (a := m - i) (b := m + j - i) (k := i) (by omega) (by omega) hn) rfl rfl rfl (fun _ => ?_)
    refine s_nil ?_
    refine f_then ?_
    refine c_region ?_
    refine s_y (y_move rfl) rfl rfl rfl ?_
    refine s_y (y_move rfl) rfl rfl rfl ?_
    refine s_y (y_sub rfl rfl (by omega)) rfl rfl rfl ?_
    refine s_y (y_assign rfl) rfl rfl rfl ?_
    refine s_nil ?_
    refine f_blockN ?_
    exact f_roundP (i, j - i, swpF g (m - i) (m + j - i) i) ⟨hi, by dsimp only; omega, him, by dsimp only; omega, hg⟩ (by dsimp only; omega) ⟨rfl, rfl, rfl, rfl, congrArg (fun z => some (Value.int .i64 z)) (by dsimp only; omega), trivial⟩ (fun w h => h)
end Go.KL
end

section
/- Walks: insertionSort. -/
namespace Go.KL
open Go.Proofs
theorem SOut.bd {R : Nat → Nat} {f g : Nat → Nat} {a b n : Nat} (h : SOut R f g a b) (hf : ∀ k, k < n → f k < n) (hb : b ≤ n) : ∀ k, k < n → g k < n := by
  intro k hk
  by_cases c : a ≤ k ∧ k < b
  · obtain ⟨l, l1, l2, l3⟩ := h.from' k c.1 c.2
    rw [l3]
    exact hf l (by omega)
  · rw [h.same k (by omega)]
    exact hf k hk
theorem SOut.one {R : Nat → Nat} {f g : Nat → Nat} {a b : Nat} (h : SOut R f g a (a + 1)) (hb : b ≤ a) : SOut R f g a b := by
  refine ⟨fun i j h1 h2 h3 => by omega, fun i h1 h2 => by omega, fun i _ => ?_⟩
  by_cases c : i = a
  · obtain ⟨k, k1, k2, k3⟩ := h.from' i (by omega) (by omega)
    rw [k3, show k = i by omega]
  · exact h.same i (by omega)
theorem ins_mrg {R : Nat → Nat} {f g : Nat → Nat} {a b i : Nat} (hasc : ∀ p q, a ≤ p → p < q → q < b → f p < f q) (h : SOut R f g a i) (hai : a ≤ i) (hib : i < b) : Mrg R g a i (i + 1) := by
  refine ⟨h.srt, fun p q h1 h2 h3 => by omega, fun p q h1 h2 h3 h4 => ?_⟩
  obtain rfl : q = i := by omega
  obtain ⟨k, k1, k2, k3⟩ := h.from' p h1 h2
  rw [k3, h.same q (.inr (Nat.le_refl _))]
  exact hasc k q k1 k2 hib
theorem ins_out {R : Nat → Nat} {f g : Nat → Nat} {a i j : Nat} (hM : Mrg R g a i (i + 1)) (h : SOut R f g a i) (haj : a ≤ j) (hji : j ≤ i) (hhi : ∀ k, j ≤ k → k < i → ltR R (g i) (g k)) (hst : a < j → ¬ ltR R (g i) (g (j - 1))) : SOut R f (insB g i j) a (i + 1) := by
  have hlo : ∀ k, a ≤ k → k < j → ¬ ltR R (g i) (g k) := by
    intro k k1 k2 hc
    have h1 := hst (by omega)
    have h2 := (hM.ord (i := j - 1) (j := i) (by omega) (by omega) (Nat.le_refl i) (by omega)).1 h1
    by_cases c : k = j - 1
    · subst c
      exact h1 hc
    · have h3 := ltR_trans (hM.left k (j - 1) k1 (by omega) (by omega)) h2
      exact ltR_irr (ltR_trans hc h3)
  exact h.trans (mrg_right hM haj hji hlo hhi) (Nat.le_refl _) (by omega)
theorem insB_at {f : Nat → Nat} {m i : Nat} : insB f m i i = f m := by
  unfold insB
  rw [if_pos rfl]
theorem insB_bef {f : Nat → Nat} {m i : Nat} (h : 0 < i) : insB f m i (i - 1) = f (i - 1) := by
  unfold insB
  rw [if_neg (by omega), if_neg (by omega)]
attribute [local irreducible] SC St Fin Sq Ylds Doos Sets Enters Spec CellIs CellsAre Then Ret Rnd Chn resOK ints bools recs arr
set_option maxRecDepth 10000 in
set_option maxHeartbeats 8000000 in
theorem insertion_spec {W : World} {N : List Chunk} {bo n a b : Nat} {R f : Nat → Nat} {cap : Value} (hcmp : CmpOK W bo n N cap R) (hab : a ≤ b) (hbn : b ≤ n) (hn : n ≤ 4096) (hf : ∀ k, k < n → f k < n) (hasc : ∀ p q, a ≤ p → p < q → q < b → f p < f q) : Spec Try.prog 137 #[.slice (some ⟨bo, 0, none⟩) n n, .int .i64 (a : Int), .int .i64 (b : Int), .func (.func 80) #[] #[cap]] (K W ([(bo, ints 3 n (fun i => (f i : Int)) [])] :: N)) (X := { g : Nat → Nat // SOut R f g a b }) (fun _ => .tuple #[]) (fun g => K W ([(bo, ints 3 n (fun i => (g.1 i : Int)) [])] :: N)) := by
  refine enter (args := [_, _, _, _]) Try.func137 rfl Try.ntmps137 rfl ?_
  refine c_seq ?_
  refine c_region ?_
  refine s_y (y_move rfl) rfl rfl rfl ?_
  refine s_y (y_add rfl rfl (by omega)) rfl rfl rfl ?_
  refine s_y (y_assign rfl) rfl rfl rfl ?_
  refine s_nil ?_
  refine f_then ?_
  refine c_block ?_
  refine c_loopP (α := Nat × (Nat → Nat)) (fun z => [(0, .slice (some ⟨bo, 0, none⟩) n n), (1, .int .i64 (a : Int)), (2, .int .i64 (b : Int)), (3, .func (.func 80) #[] #[cap]), (8, .int .i64 (z.1 : Int))]) (fun z => a + 1 ≤ z.1 ∧ (z.1 ≤ b ∨ z.1 = a + 1) ∧ SOut R f z.2 a z.1) (fun z => K W ([(bo, ints 3 n (fun i => (z.2 i : Int)) [])] :: N)) (fun z => b + 1 - z.1) (a + 1, f)
    ⟨rfl, rfl, rfl, rfl, rfl, trivial⟩ ⟨Nat.le_refl _, .inr rfl, SOut.refl (fun i j h1 h2 h3 => by dsimp only at h3; omega)⟩ (fun w h => h) ?_
  rintro ⟨i, g⟩ ⟨hi1, hi2, hO⟩
  dsimp only at hi1 hi2 hO ⊢
  by_cases hib : i < b
  · have hM := ins_mrg hasc hO (by omega) hib
    have hgb := hO.bd hf (by omega)
    refine c_seq ?_
    refine c_seq ?_
    refine c_region ?_
    refine s_y (y_move rfl) rfl rfl rfl ?_
    refine s_y (y_move rfl) rfl rfl rfl ?_
    refine s_y (y_T (y_lss rfl rfl) (by omega)) rfl rfl rfl ?_
    refine s_nil ?_
    refine f_then ?_
    refine c_condT rfl ?_
    refine c_skip ?_
    refine f_then ?_
    refine c_seq ?_
    refine c_block ?_
    refine c_seq ?_
    refine c_region ?_
    refine s_y (y_move rfl) rfl rfl rfl ?_
    refine s_y (y_assign rfl) rfl rfl rfl ?_
    refine s_nil ?_
    refine f_then ?_
    refine c_block ?_
    refine c_loopP (α := Nat) (fun z => [(0, .slice (some ⟨bo, 0, none⟩) n n), (1, .int .i64 (a : Int)), (2, .int .i64 (b : Int)), (3, .func (.func 80) #[] #[cap]), (8, .int .i64 (i : Int)), (9, .int .i64 (z : Int))]) (fun z => a ≤ z ∧ z ≤ i ∧ ∀ k, z ≤ k → k < i → ltR R (g i) (g k)) (fun z => K W ([(bo, ints 3 n (fun t => (insB g i z t : Int)) [])] :: N)) (fun z => z) i
      ⟨rfl, rfl, rfl, rfl, rfl, rfl, trivial⟩ ⟨by omega, Nat.le_refl _, fun k h1 h2 => by omega⟩ (fun w h => by rw [insB_zero]; exact h) ?_
    rintro j ⟨hj1, hj2, hj3⟩
    have ej : insB g i j j = g i := insB_at
    have hgi := hgb i (by omega)
    refine c_seq ?_
    refine c_seq ?_
    refine c_then_cut (α := Unit) (fun _ => [(0, .slice (some ⟨bo, 0, none⟩) n n), (1, .int .i64 (a : Int)), (2, .int .i64 (b : Int)), (3, .func (.func 80) #[] #[cap]), (8, .int .i64 (i : Int)), (9, .int .i64 (j : Int)), (34, .bool (decide (a < j ∧ R (g (j - 1)) < R (g i))))]) (fun _ => True) (fun _ => K W ([(bo, ints 3 n (fun t => (insB g i j t : Int)) [])] :: N)) ?_ ?_
    · clear hM hO hj3
      by_cases haj : a < j
      · have ejb : insB g i j (j - 1) = g (j - 1) := insB_bef (by omega)
        have ej1 : (j : Int) - 1 = ((j - 1 : Nat) : Int) := by omega
        have hgj := hgb (j - 1) (by omega)
        refine c_plan [.c 0, .c 1, .c 2, .c 3, .c 4, .c 5, .c 6, .c 7, .c 8, .c 9, .c 10, .c 11, .c 12, .c 13, .s 14, .c 15, .c 16] [] ((K W ([(bo, ints 3 n (fun t => (insB g i j t : Int)) [])] :: N))) Try.mixed (by kernel_rfl) rfl K.cl ?_
        refine d_c rfl (Qui.ylds (y_move rfl)) rfl rfl rfl (fun _ h => h) K.cl ?_
        refine d_c rfl (Qui.ylds (y_move rfl)) rfl rfl rfl (fun _ h => h) K.cl ?_
        refine d_c rfl (Qui.ylds (y_T (y_gtr rfl rfl) (by omega))) rfl rfl rfl (fun _ h => h) K.cl ?_
        refine d_c rfl (Qui.ylds (y_move rfl)) rfl rfl rfl (fun _ h => h) K.cl ?_
        refine d_c rfl (Qui.ylds (y_move rfl)) rfl rfl rfl (fun _ h => h) K.cl ?_
        refine d_c rfl (Qui.ylds (y_move rfl)) rfl rfl rfl (fun _ h => h) K.cl ?_
        refine d_c rfl (Qui.ylds (y_move rfl)) rfl rfl rfl (fun _ h => h) K.cl ?_
        refine d_c rfl (Qui.ylds (y_indexAddr1 Try.tab rfl rfl rfl rfl _ rfl (by omega))) rfl rfl rfl (fun _ h => h) K.cl ?_
        refine d_c rfl (Qui.ylds (y_load Try.tab rfl rfl (cell_ints 0 rfl (by omega)))) rfl rfl rfl (fun _ h => h) K.cl ?_
        refine d_c rfl (Qui.ylds (y_move rfl)) rfl rfl rfl (fun _ h => h) K.cl ?_
        refine d_c rfl (Qui.ylds (y_move rfl)) rfl rfl rfl (fun _ h => h) K.cl ?_
        refine d_c rfl (Qui.ylds (y_sub rfl rfl (by omega))) rfl rfl rfl (fun _ h => h) K.cl ?_
        refine d_c rfl (Qui.ylds (y_indexAddr1 Try.tab rfl rfl rfl rfl _ (Int.toNat_of_nonneg (by omega)).symm (by omega))) rfl rfl rfl (fun _ h => h) K.cl ?_
        refine d_c rfl (Qui.ylds (y_load Try.tab rfl rfl (cell_ints 0 rfl (by omega)))) rfl rfl rfl (fun _ h => h) K.cl ?_
        rw [show ((j : Int) - 1).toNat = j - 1 by omega, ejb, ej]
        refine d_call rfl (en_v rfl rfl Try.call80) (hcmp (insB g i j) (g i) (g (j - 1)) hgi hgj) rfl rfl rfl (fun _ => K.cl) (fun _ _ _ h => h) (fun _ => ?_)
        by_cases hR : R (g (j - 1)) < R (g i)
        · rw [decide_eq_true ⟨haj, hR⟩]
          have hz := cmp3_neg.2 hR
          generalize cmp3 (R (g (j - 1))) (R (g i)) = z at hz ⊢
          clear hR
          refine d_c rfl (Qui.ylds (y_T (y_lss rfl rfl) (by assumption))) rfl rfl rfl (fun _ h => h) K.cl ?_
          refine d_c rfl (Qui.ylds (y_pickT rfl rfl)) rfl rfl rfl (fun _ h => h) K.cl ?_
          refine d_nil ?_
          exact f_cutP () trivial ⟨rfl, rfl, rfl, rfl, rfl, rfl, rfl, trivial⟩ (fun w h => h)
        · rw [decide_eq_false (fun h => hR h.2)]
          have hz := mt cmp3_neg.1 hR
          generalize cmp3 (R (g (j - 1))) (R (g i)) = z at hz ⊢
          clear hR
          refine d_c rfl (Qui.ylds (y_F (y_lss rfl rfl) (by assumption))) rfl rfl rfl (fun _ h => h) K.cl ?_
          refine d_c rfl (Qui.ylds (y_pickT rfl rfl)) rfl rfl rfl (fun _ h => h) K.cl ?_
          refine d_nil ?_
          exact f_cutP () trivial ⟨rfl, rfl, rfl, rfl, rfl, rfl, rfl, trivial⟩ (fun w h => h)
      · rw [decide_eq_false (fun h => haj h.1)]
        refine c_plan [.c 0, .c 1, .c 2, .c 3, .c 4, .c 5, .c 6, .c 7, .c 8, .c 9, .c 10, .c 11, .c 12, .c 13, .s 14, .c 15, .c 16] [] ((K W ([(bo, ints 3 n (fun t => (insB g i j t : Int)) [])] :: N))) Try.mixed (by kernel_rfl) rfl K.cl ?_
        refine d_c rfl (Qui.ylds (y_move rfl)) rfl rfl rfl (fun _ h => h) K.cl ?_
        refine d_c rfl (Qui.ylds (y_move rfl)) rfl rfl rfl (fun _ h => h) K.cl ?_
        refine d_c rfl (Qui.ylds (y_F (y_gtr rfl rfl) (by omega))) rfl rfl rfl (fun _ h => h) K.cl ?_
        refine d_c rfl (Qui.ylds (y_move rfl)) rfl rfl rfl (fun _ h => h) K.cl ?_
        refine d_skip rfl rfl rfl rfl (fun _ h => h) K.cl ?_
        refine d_skip rfl rfl rfl rfl (fun _ h => h) K.cl ?_
        refine d_skip rfl rfl rfl rfl (fun _ h => h) K.cl ?_
        refine d_skip rfl rfl rfl rfl (fun _ h => h) K.cl ?_
        refine d_skip rfl rfl rfl rfl (fun _ h => h) K.cl ?_
        refine d_skip rfl rfl rfl rfl (fun _ h => h) K.cl ?_
        refine d_skip rfl rfl rfl rfl (fun _ h => h) K.cl ?_
        refine d_skip rfl rfl rfl rfl (fun _ h => h) K.cl ?_
        refine d_skip rfl rfl rfl rfl (fun _ h => h) K.cl ?_
        refine d_skip rfl rfl rfl rfl (fun _ h => h) K.cl ?_
        refine d_sskip rfl rfl rfl rfl (fun _ _ h => h) ?_
        refine d_skip rfl rfl rfl rfl (fun _ h => h) K.cl ?_
        refine d_c rfl (Qui.ylds (y_pickF rfl rfl)) rfl rfl rfl (fun _ h => h) K.cl ?_
        refine d_nil ?_
        exact f_cutP () trivial ⟨rfl, rfl, rfl, rfl, rfl, rfl, rfl, trivial⟩ (fun w h => h)
    rintro _ _
    by_cases hgo : a < j ∧ R (g (j - 1)) < R (g i)
    · rw [decide_eq_true hgo]
      have ejb : insB g i j (j - 1) = g (j - 1) := insB_bef (by omega)
      have hnx := insB_next (f := g) (m := i) (i := j) (by omega) hj2
      have hlt := (hM.key (i := j - 1) (j := i) (by omega) (by omega) (Nat.le_refl i) (by omega)).2 hgo.2
      obtain ⟨haj, _⟩ := hgo
      have ej1 : (j : Int) - 1 = ((j - 1 : Nat) : Int) := by omega
      refine c_condT rfl ?_
      refine c_skip ?_
      refine f_then ?_
      refine c_seq ?_
      refine c_block ?_
      refine c_planMs [2, 3, 4] [.c 0, .c 1, .c 5, .c 6, .c 7, .c 8, .c 9, .c 10, .c 11, .c 12, .c 13, .c 14, .s 15, .s 16, .s 17] [2, 3, 4, 15, 16, 17] (K W ([(bo, ints 3 n (fun t => (insB g i j t : Int)) [])] :: N)) Try.mixed (by kernel_rfl) rfl K.cl ?_
      refine m_cons rfl (Qui.ylds (y_move rfl)) rfl rfl rfl K.cl ?_
      refine m_cons rfl (Qui.ylds (y_move rfl)) rfl rfl rfl K.cl ?_
      refine m_cons rfl (Qui.ylds (y_sub rfl rfl (by omega))) rfl rfl rfl K.cl ?_
      refine m_nil ?_
      refine d_c rfl (Qui.ylds (y_move rfl)) rfl rfl rfl (fun _ h => h) K.cl ?_
      refine d_c rfl (Qui.ylds (y_move rfl)) rfl rfl rfl (fun _ h => h) K.cl ?_
      refine d_c rfl (Qui.ylds (y_move rfl)) rfl rfl rfl (fun _ h => h) K.cl ?_
      refine d_c rfl (Qui.ylds (y_move rfl)) rfl rfl rfl (fun _ h => h) K.cl ?_
      refine d_c rfl (Qui.ylds (y_sub rfl rfl (by omega))) rfl rfl rfl (fun _ h => h) K.cl ?_
      refine d_c rfl (Qui.ylds (y_indexAddr1 Try.tab rfl rfl rfl rfl _ (Int.toNat_of_nonneg (by omega)).symm (by omega))) rfl rfl rfl (fun _ h => h) K.cl ?_
      refine d_c rfl (Qui.ylds (y_load Try.tab rfl rfl (cell_ints 0 rfl (by omega)))) rfl rfl rfl (fun _ h => h) K.cl ?_
      refine d_c rfl (Qui.ylds (y_move rfl)) rfl rfl rfl (fun _ h => h) K.cl ?_
      refine d_c rfl (Qui.ylds (y_move rfl)) rfl rfl rfl (fun _ h => h) K.cl ?_
      refine d_c rfl (Qui.ylds (y_indexAddr1 Try.tab rfl rfl rfl rfl _ rfl (by omega))) rfl rfl rfl (fun _ h => h) K.cl ?_
      refine d_c rfl (Qui.ylds (y_load Try.tab rfl rfl (cell_ints 0 rfl (by omega)))) rfl rfl rfl (fun _ h => h) K.cl ?_
      refine d_c rfl (Qui.ylds (y_indexAddr1 Try.tab rfl rfl rfl rfl _ rfl (by omega))) rfl rfl rfl (fun _ h => h) K.cl ?_
      refine d_set rfl (set_ints Try.tab 0 rfl rfl rfl rfl (by omega)) rfl rfl K.cl (fun h => by cases h) ?_
      refine d_sy rfl (y_indexAddr1 Try.tab rfl rfl rfl rfl _ (Int.toNat_of_nonneg (by omega)).symm (by omega)) rfl rfl rfl K.cl (fun h => by cases h) ?_
      refine d_set rfl (set_ints Try.tab 0 rfl rfl rfl rfl (by omega)) rfl rfl K.cl (fun h => by cases h) ?_
      refine d_nil ?_
      refine f_blockN ?_
      refine f_then ?_
      refine c_region ?_
      refine s_y (y_move rfl) rfl rfl rfl ?_
      refine s_y (y_sub rfl rfl (by omega)) rfl rfl rfl ?_
      refine s_y (y_assign rfl) rfl rfl rfl ?_
      refine s_nil ?_
      exact f_roundP (j - 1) ⟨by omega, by omega, fun k k1 k2 => by
        by_cases c : k = j - 1
        · rw [c]; exact hlt
        · exact hj3 k (by omega) k2⟩ (by omega) ⟨rfl, rfl, rfl, rfl, rfl, congrArg (fun z => some (Value.int .i64 z)) (by omega), trivial⟩ (fun w h => by
          rw [← hnx, ← upd_nat, ← upd_nat]
          rw [show ((j : Int) - 1).toNat = j - 1 by omega] at h
          exact h)
    · rw [decide_eq_false hgo]
      have hO2 := ins_out hM hO hj1 hj2 hj3 (fun h h2 => hgo ⟨h, (hM.key (i := j - 1) (j := i) (by omega) (by omega) (Nat.le_refl i) (by omega)).1 h2⟩)
      clear hM hO hj3 hgo hasc
      refine c_condF rfl ?_
      refine c_exit ?_
      refine f_thenE ?_
      refine f_rndE ?_
      refine f_blockE ?_
      refine f_blockN ?_
      refine f_then ?_
      refine c_region ?_
      refine s_y (y_move rfl) rfl rfl rfl ?_
      refine s_y (y_add rfl rfl (by omega)) rfl rfl rfl ?_
      refine s_y (y_assign rfl) rfl rfl rfl ?_
      refine s_nil ?_
      exact f_roundP (i + 1, insB g i j) ⟨by dsimp only; omega, .inl hib, hO2⟩ (by dsimp only; omega) ⟨rfl, rfl, rfl, rfl, rfl, trivial⟩ (fun w h => h)
  · have hO2 : SOut R f g a b := by
      by_cases c : i = b
      · rw [← c]; exact hO
      · obtain rfl : i = a + 1 := by omega
        exact hO.one (by omega)
    clear hO hasc
    refine c_seq ?_
    refine c_seq ?_
    refine c_region ?_
    refine s_y (y_move rfl) rfl rfl rfl ?_
    refine s_y (y_move rfl) rfl rfl rfl ?_
    refine s_y (y_F (y_lss rfl rfl) (by omega)) rfl rfl rfl ?_
    refine s_nil ?_
    refine f_then ?_
    refine c_condF rfl ?_
    refine c_exit ?_
    refine f_thenE ?_
    refine f_rndE ?_
    refine f_blockE ?_
    exact f_end ⟨g, hO2⟩ (res0 rfl) (fun w h => h)
end Go.KL
end

section
/- Walks: symMerge, where a part has one element. -/
namespace Go.KL
open Go.Proofs
theorem insF_at {f : Nat → Nat} {a i : Nat} : insF f a i i = f a := by
  unfold insF
  rw [if_neg (by omega), if_pos rfl]
theorem insF_beh {f : Nat → Nat} {a i : Nat} : insF f a i (i + 1) = f (i + 1) := by
  unfold insF
  rw [if_neg (by omega), if_neg (by omega)]
attribute [local irreducible] SC St Fin Sq Ylds Doos Sets Enters Spec CellIs CellsAre Then Ret Rnd Chn resOK ints bools recs arr
set_option maxRecDepth 10000 in
set_option maxHeartbeats 8000000 in
theorem sym1_spec {W : World} {N : List Chunk} {bo n a b : Nat} {R f : Nat → Nat} {cap : Value} (hcmp : CmpOK W bo n N cap R) (hab : a + 1 < b) (hbn : b ≤ n) (hn : n ≤ 4096) (hf : ∀ k, k < n → f k < n) (hM : Mrg R f a (a + 1) b) : Spec Try.prog 138 #[.slice (some ⟨bo, 0, none⟩) n n, .int .i64 (a : Int), .int .i64 ((a + 1 : Nat) : Int), .int .i64 (b : Int), .func (.func 80) #[] #[cap]] (K W ([(bo, ints 3 n (fun i => (f i : Int)) [])] :: N)) (X := { g : Nat → Nat // SOut R f g a b }) (fun _ => .tuple #[]) (fun g => K W ([(bo, ints 3 n (fun i => (g.1 i : Int)) [])] :: N)) := by
  refine enter (args := [_, _, _, _, _]) Try.func138 rfl Try.ntmps138 rfl ?_
  refine c_seq ?_
  refine c_seq ?_
  refine c_region ?_
  refine s_y (y_move rfl) rfl rfl rfl ?_
  refine s_y (y_move rfl) rfl rfl rfl ?_
  refine s_y (y_sub rfl rfl (by omega)) rfl rfl rfl ?_
  refine s_y (y_T (y_eql rfl rfl) (by omega)) rfl rfl rfl ?_
  refine s_nil ?_
  refine f_then ?_
  refine c_condT rfl ?_
  refine c_seq ?_
  refine c_region ?_
  refine s_y (y_move rfl) rfl rfl rfl ?_
  refine s_y (y_assign rfl) rfl rfl rfl ?_
  refine s_nil ?_
  refine f_then ?_
  refine c_seq ?_
  refine c_region ?_
  refine s_y (y_move rfl) rfl rfl rfl ?_
  refine s_y (y_assign rfl) rfl rfl rfl ?_
  refine s_nil ?_
  refine f_then ?_
  refine c_seq ?_
  refine c_block ?_
  refine c_loopP (α := Nat × Nat) (fun z => [(0, .slice (some ⟨bo, 0, none⟩) n n), (1, .int .i64 (a : Int)), (4, .func (.func 80) #[] #[cap]), (10, .int .i64 (z.1 : Int)), (11, .int .i64 (z.2 : Int))]) (fun z => a + 1 ≤ z.1 ∧ z.1 ≤ z.2 ∧ z.2 ≤ b ∧ (∀ k, a + 1 ≤ k → k < z.1 → ltR R (f k) (f a)) ∧ ∀ k, z.2 ≤ k → k < b → ¬ ltR R (f k) (f a)) (fun _ => K W ([(bo, ints 3 n (fun i => (f i : Int)) [])] :: N)) (fun z => z.2 - z.1) (a + 1, b)
    ⟨rfl, rfl, rfl, rfl, rfl, trivial⟩ ⟨Nat.le_refl _, by dsimp only; omega, Nat.le_refl _, fun k h1 h2 => by dsimp only at h2; omega, fun k h1 h2 => by dsimp only at h1; omega⟩ (fun w h => h) ?_
  rintro ⟨i, j⟩ ⟨hi, hij, hj, hlo, hhi⟩
  dsimp only at hi hij hj hlo hhi ⊢
  by_cases hlt : i < j
  · obtain ⟨c, hc⟩ : ∃ c, c = (i + j) / 2 := ⟨_, rfl⟩
    have hc1 : i ≤ c ∧ c < j := by omega
    have hkey := hM.key (i := a) (j := c) (Nat.le_refl a) (by omega) (by omega) (by omega)
    have hfc := hf c (by omega)
    have hfa := hf a (by omega)
    refine c_seq ?_
    refine c_seq ?_
    refine c_region ?_
    refine s_y (y_move rfl) rfl rfl rfl ?_
    refine s_y (y_move rfl) rfl rfl rfl ?_
    refine s_y (y_T (y_lss rfl rfl) (by omega)) rfl rfl rfl ?_
    refine s_nil ?_
    refine f_then ?_
    refine c_condT rfl ?_
    refine c_skip ?_
    refine f_then ?_
    refine c_block ?_
    refine c_seq ?_
    refine c_region ?_
    refine s_y (y_move rfl) rfl rfl rfl ?_
    refine s_y (y_move rfl) rfl rfl rfl ?_
    refine s_y (y_add rfl rfl (by omega)) rfl rfl rfl ?_
    refine s_y (y_to64 Try.tab rfl rfl rfl (by omega)) rfl rfl rfl ?_
    refine s_y (y_shrU (d := 2) rfl rfl (by decide) rfl) rfl rfl rfl ?_
    refine s_y (y_toI Try.tab rfl rfl rfl (by omega)) rfl rfl rfl ?_
    refine s_y (y_assign rfl) rfl rfl rfl ?_
    refine s_nil ?_
    refine f_then ?_
    refine c_seq ?_
    refine c_quiet Try.mixed (by kernel_rfl) K.drew ?_
    refine q_y (y_move rfl) rfl rfl rfl ?_
    refine q_y (y_move rfl) rfl rfl rfl ?_
    refine q_y (y_move rfl) rfl rfl rfl ?_
    refine q_y (y_indexAddr1 Try.tab rfl rfl rfl rfl _ (Int.toNat_of_nonneg (by omega)).symm (by omega)) rfl rfl rfl ?_
    refine q_y (y_load Try.tab rfl rfl (cell_ints 0 rfl (by omega))) rfl rfl rfl ?_
    refine q_y (y_move rfl) rfl rfl rfl ?_
    refine q_y (y_move rfl) rfl rfl rfl ?_
    refine q_y (y_indexAddr1 Try.tab rfl rfl rfl rfl _ rfl (by omega)) rfl rfl rfl ?_
    refine q_y (y_load Try.tab rfl rfl (cell_ints 0 rfl (by omega))) rfl rfl rfl ?_
    rw [show (((i : Int) + (j : Int)) / 2).toNat = c by omega]
    refine q_call (en_v rfl rfl Try.call80) (hcmp f (f c) (f a) hfc hfa) rfl rfl rfl ?_
    by_cases hR : R (f a) < R (f c)
    · have hz := cmp3_neg.2 hR
      have hl := hkey.2 hR
      generalize cmp3 (R (f a)) (R (f c)) = z at hz ⊢
      clear hR hkey
      refine q_y (y_T (y_lss rfl rfl) (by assumption)) rfl rfl rfl ?_
      refine q_nil ?_
      refine f_then ?_
      refine c_condT rfl ?_
      refine c_region ?_
      refine s_y (y_move rfl) rfl rfl rfl ?_
      refine s_y (y_add rfl rfl (by omega)) rfl rfl rfl ?_
      refine s_y (y_assign rfl) rfl rfl rfl ?_
      refine s_nil ?_
      refine f_blockN ?_
      exact f_roundP (c + 1, j) ⟨by dsimp only; omega, by dsimp only; omega, hj, fun k h1 h2 => by
        by_cases hk : k = c
        · rw [hk]; exact hl
        · exact ltR_trans (hM.right k c h1 (by dsimp only at h2; omega) (by omega)) hl, hhi⟩ (by dsimp only; omega) ⟨rfl, rfl, rfl, congrArg (fun z => some (Value.int .i64 z)) (by dsimp only; omega), rfl, trivial⟩ (fun w h => h)
    · have hz := mt cmp3_neg.1 hR
      have hl : ¬ ltR R (f c) (f a) := fun h => hR (hkey.1 h)
      generalize cmp3 (R (f a)) (R (f c)) = z at hz ⊢
      clear hR hkey
      refine q_y (y_F (y_lss rfl rfl) (by assumption)) rfl rfl rfl ?_
      refine q_nil ?_
      refine f_then ?_
      refine c_condF rfl ?_
      refine c_region ?_
      refine s_y (y_move rfl) rfl rfl rfl ?_
      refine s_y (y_assign rfl) rfl rfl rfl ?_
      refine s_nil ?_
      refine f_blockN ?_
      exact f_roundP (i, c) ⟨hi, by dsimp only; omega, by dsimp only; omega, hlo, fun k h1 h2 => by
        by_cases hk : k = c
        · rw [hk]; exact hl
        · exact fun h => hl (ltR_trans (hM.right c k (by omega) (by dsimp only at h1; omega) h2) h)⟩ (by dsimp only; omega) ⟨rfl, rfl, rfl, rfl, congrArg (fun z => some (Value.int .i64 z)) (by dsimp only; omega), trivial⟩ (fun w h => h)
  · obtain rfl : i = j := by omega
    have hO := mrg_left hM hi hj hlo hhi
    clear hlo hhi hM hf
    refine c_seq ?_
    refine c_seq ?_
    refine c_region ?_
    refine s_y (y_move rfl) rfl rfl rfl ?_
    refine s_y (y_move rfl) rfl rfl rfl ?_
    refine s_y (y_F (y_lss rfl rfl) (by omega)) rfl rfl rfl ?_
    refine s_nil ?_
    refine f_then ?_
    refine c_condF rfl ?_
    refine c_exit ?_
    refine f_thenE ?_
    refine f_rndE ?_
    refine f_blockE ?_
    refine f_then ?_
    refine c_seq ?_
    refine c_seq ?_
    refine c_region ?_
    refine s_y (y_move rfl) rfl rfl rfl ?_
    refine s_y (y_assign rfl) rfl rfl rfl ?_
    refine s_nil ?_
    refine f_then ?_
    refine c_block ?_
    refine c_loopP (α := Nat) (fun z => [(0, .slice (some ⟨bo, 0, none⟩) n n), (10, .int .i64 (i : Int)), (13, .int .i64 (z : Int))]) (fun z => a ≤ z ∧ z ≤ i - 1) (fun z => K W ([(bo, ints 3 n (fun t => (insF f a z t : Int)) [])] :: N)) (fun z => i - z) a
      ⟨rfl, rfl, rfl, trivial⟩ ⟨Nat.le_refl _, by omega⟩ (fun w h => by rw [insF_zero]; exact h) ?_
    rintro k ⟨hk1, hk2⟩
    by_cases hki : k < i - 1
    · have hnx := insF_next (f := f) hk1
      clear hO
      refine c_seq ?_
      refine c_seq ?_
      refine c_region ?_
      refine s_y (y_move rfl) rfl rfl rfl ?_
      refine s_y (y_move rfl) rfl rfl rfl ?_
      refine s_y (y_sub rfl rfl (by omega)) rfl rfl rfl ?_
      refine s_y (y_T (y_lss rfl rfl) (by omega)) rfl rfl rfl ?_
      refine s_nil ?_
      refine f_then ?_
      refine c_condT rfl ?_
      refine c_skip ?_
      refine f_then ?_
      refine c_seq ?_
      refine c_block ?_
      refine c_planMs [2, 3, 4] [.c 0, .c 1, .c 5, .c 6, .c 7, .c 8, .c 9, .c 10, .c 11, .c 12, .c 13, .c 14, .s 15, .s 16, .s 17] [2, 3, 4, 15, 16, 17] (K W ([(bo, ints 3 n (fun t => (insF f a k t : Int)) [])] :: N)) Try.mixed (by kernel_rfl) rfl K.cl ?_
      refine m_cons rfl (Qui.ylds (y_move rfl)) rfl rfl rfl K.cl ?_
      refine m_cons rfl (Qui.ylds (y_move rfl)) rfl rfl rfl K.cl ?_
      refine m_cons rfl (Qui.ylds (y_add rfl rfl (by omega))) rfl rfl rfl K.cl ?_
      refine m_nil ?_
      refine d_c rfl (Qui.ylds (y_move rfl)) rfl rfl rfl (fun _ h => h) K.cl ?_
      refine d_c rfl (Qui.ylds (y_move rfl)) rfl rfl rfl (fun _ h => h) K.cl ?_
      refine d_c rfl (Qui.ylds (y_move rfl)) rfl rfl rfl (fun _ h => h) K.cl ?_
      refine d_c rfl (Qui.ylds (y_move rfl)) rfl rfl rfl (fun _ h => h) K.cl ?_
      refine d_c rfl (Qui.ylds (y_add rfl rfl (by omega))) rfl rfl rfl (fun _ h => h) K.cl ?_
      refine d_c rfl (Qui.ylds (y_indexAddr1 Try.tab rfl rfl rfl rfl _ (Int.toNat_of_nonneg (by omega)).symm (by omega))) rfl rfl rfl (fun _ h => h) K.cl ?_
      refine d_c rfl (Qui.ylds (y_load Try.tab rfl rfl (cell_ints 0 rfl (by omega)))) rfl rfl rfl (fun _ h => h) K.cl ?_
      refine d_c rfl (Qui.ylds (y_move rfl)) rfl rfl rfl (fun _ h => h) K.cl ?_
      refine d_c rfl (Qui.ylds (y_move rfl)) rfl rfl rfl (fun _ h => h) K.cl ?_
      refine d_c rfl (Qui.ylds (y_indexAddr1 Try.tab rfl rfl rfl rfl _ rfl (by omega))) rfl rfl rfl (fun _ h => h) K.cl ?_
      refine d_c rfl (Qui.ylds (y_load Try.tab rfl rfl (cell_ints 0 rfl (by omega)))) rfl rfl rfl (fun _ h => h) K.cl ?_
      refine d_c rfl (Qui.ylds (y_indexAddr1 Try.tab rfl rfl rfl rfl _ rfl (by omega))) rfl rfl rfl (fun _ h => h) K.cl ?_
      refine d_set rfl (set_ints Try.tab 0 rfl rfl rfl rfl (by omega)) rfl rfl K.cl (fun h => by cases h) ?_
      refine d_sy rfl (y_indexAddr1 Try.tab rfl rfl rfl rfl _ (Int.toNat_of_nonneg (by omega)).symm (by omega)) rfl rfl rfl K.cl (fun h => by cases h) ?_
      refine d_set rfl (set_ints Try.tab 0 rfl rfl rfl rfl (by omega)) rfl rfl K.cl (fun h => by cases h) ?_
      refine d_nil ?_
      refine f_blockN ?_
      refine f_then ?_
      refine c_region ?_
      refine s_y (y_move rfl) rfl rfl rfl ?_
      refine s_y (y_add rfl rfl (by omega)) rfl rfl rfl ?_
      refine s_y (y_assign rfl) rfl rfl rfl ?_
      refine s_nil ?_
      exact f_roundP (k + 1) ⟨by omega, by omega⟩ (by omega) ⟨rfl, rfl, rfl, trivial⟩ (fun w h => by
        rw [← hnx, ← upd_nat, ← upd_nat]
        exact h)
    · obtain rfl : k = i - 1 := by omega
      refine c_seq ?_
      refine c_seq ?_
      refine c_region ?_
      refine s_y (y_move rfl) rfl rfl rfl ?_
      refine s_y (y_move rfl) rfl rfl rfl ?_
      refine s_y (y_sub rfl rfl (by omega)) rfl rfl rfl ?_
      refine s_y (y_F (y_lss rfl rfl) (by omega)) rfl rfl rfl ?_
      refine s_nil ?_
      refine f_then ?_
      refine c_condF rfl ?_
      refine c_exit ?_
      refine f_thenE ?_
      refine f_rndE ?_
      refine f_blockE ?_
      refine f_then ?_
      refine c_ret ?_
      refine f_thenR ?_
      exact f_ret ⟨_, hO⟩ (res0 rfl) (fun w h => h)
set_option maxRecDepth 10000 in
set_option maxHeartbeats 8000000 in
theorem sym2_spec {W : World} {N : List Chunk} {bo n a m : Nat} {R f : Nat → Nat} {cap : Value} (hcmp : CmpOK W bo n N cap R) (hab : a + 1 < m) (hbn : m + 1 ≤ n) (hn : n ≤ 4096) (hf : ∀ k, k < n → f k < n) (hM : Mrg R f a m (m + 1)) : Spec Try.prog 138 #[.slice (some ⟨bo, 0, none⟩) n n, .int .i64 (a : Int), .int .i64 (m : Int), .int .i64 ((m + 1 : Nat) : Int), .func (.func 80) #[] #[cap]] (K W ([(bo, ints 3 n (fun i => (f i : Int)) [])] :: N)) (X := { g : Nat → Nat // SOut R f g a (m + 1) }) (fun _ => .tuple #[]) (fun g => K W ([(bo, ints 3 n (fun i => (g.1 i : Int)) [])] :: N)) := by
  refine enter (args := [_, _, _, _, _]) Try.func138 rfl Try.ntmps138 rfl ?_
  refine c_seq ?_
  refine c_seq ?_
  refine c_region ?_
  refine s_y (y_move rfl) rfl rfl rfl ?_
  refine s_y (y_move rfl) rfl rfl rfl ?_
  refine s_y (y_sub rfl rfl (by omega)) rfl rfl rfl ?_
  refine s_y (y_F (y_eql rfl rfl) (by omega)) rfl rfl rfl ?_
  refine s_nil ?_
  refine f_then ?_
  refine c_condF rfl ?_
  refine c_skip ?_
  refine f_then ?_
  refine c_seq ?_
  refine c_seq ?_
  refine c_region ?_
  refine s_y (y_move rfl) rfl rfl rfl ?_
  refine s_y (y_move rfl) rfl rfl rfl ?_
  refine s_y (y_sub rfl rfl (by omega)) rfl rfl rfl ?_
  refine s_y (y_T (y_eql rfl rfl) (by omega)) rfl rfl rfl ?_
  refine s_nil ?_
  refine f_then ?_
  refine c_condT rfl ?_
  refine c_seq ?_
  refine c_region ?_
  refine s_y (y_move rfl) rfl rfl rfl ?_
  refine s_y (y_assign rfl) rfl rfl rfl ?_
  refine s_nil ?_
  refine f_then ?_
  refine c_seq ?_
  refine c_region ?_
  refine s_y (y_move rfl) rfl rfl rfl ?_
  refine s_y (y_assign rfl) rfl rfl rfl ?_
  refine s_nil ?_
  refine f_then ?_
  refine c_seq ?_
  refine c_block ?_
  refine c_loopP (α := Nat × Nat) (fun z => [(0, .slice (some ⟨bo, 0, none⟩) n n), (2, .int .i64 (m : Int)), (4, .func (.func 80) #[] #[cap]), (14, .int .i64 (z.1 : Int)), (15, .int .i64 (z.2 : Int))]) (fun z => a ≤ z.1 ∧ z.1 ≤ z.2 ∧ z.2 ≤ m ∧ (∀ k, a ≤ k → k < z.1 → ¬ ltR R (f m) (f k)) ∧ ∀ k, z.2 ≤ k → k < m → ltR R (f m) (f k)) (fun _ => K W ([(bo, ints 3 n (fun i => (f i : Int)) [])] :: N)) (fun z => z.2 - z.1) (a, m)
    ⟨rfl, rfl, rfl, rfl, rfl, trivial⟩ ⟨Nat.le_refl _, by dsimp only; omega, Nat.le_refl _, fun k h1 h2 => by dsimp only at h2; omega, fun k h1 h2 => by dsimp only at h1; omega⟩ (fun w h => h) ?_
  rintro ⟨i, j⟩ ⟨hi, hij, hj, hlo, hhi⟩
  dsimp only at hi hij hj hlo hhi ⊢
  by_cases hlt : i < j
  · obtain ⟨c, hc⟩ : ∃ c, c = (i + j) / 2 := ⟨_, rfl⟩
    have hc1 : i ≤ c ∧ c < j := by omega
    have hkey := hM.key (i := c) (j := m) (by omega) (by omega) (Nat.le_refl m) (by omega)
    have hfc := hf c (by omega)
    have hfa := hf m (by omega)
    refine c_seq ?_
    refine c_seq ?_
    refine c_region ?_
    refine s_y (y_move rfl) rfl rfl rfl ?_
    refine s_y (y_move rfl) rfl rfl rfl ?_
    refine s_y (y_T (y_lss rfl rfl) (by omega)) rfl rfl rfl ?_
    refine s_nil ?_
    refine f_then ?_
    refine c_condT rfl ?_
    refine c_skip ?_
    refine f_then ?_
    refine c_block ?_
    refine c_seq ?_
    refine c_region ?_
    refine s_y (y_move rfl) rfl rfl rfl ?_
    refine s_y (y_move rfl) rfl rfl rfl ?_
    refine s_y (y_add rfl rfl (by omega)) rfl rfl rfl ?_
    refine s_y (y_to64 Try.tab rfl rfl rfl (by omega)) rfl rfl rfl ?_
    refine s_y (y_shrU (d := 2) rfl rfl (by decide) rfl) rfl rfl rfl ?_
    refine s_y (y_toI Try.tab rfl rfl rfl (by omega)) rfl rfl rfl ?_
    refine s_y (y_assign rfl) rfl rfl rfl ?_
    refine s_nil ?_
    refine f_then ?_
    refine c_seq ?_
    refine c_quiet Try.mixed (by kernel_rfl) K.drew ?_
    refine q_y (y_move rfl) rfl rfl rfl ?_
    refine q_y (y_move rfl) rfl rfl rfl ?_
    refine q_y (y_move rfl) rfl rfl rfl ?_
    refine q_y (y_indexAddr1 Try.tab rfl rfl rfl rfl _ rfl (by omega)) rfl rfl rfl ?_
    refine q_y (y_load Try.tab rfl rfl (cell_ints 0 rfl (by omega))) rfl rfl rfl ?_
    refine q_y (y_move rfl) rfl rfl rfl ?_
    refine q_y (y_move rfl) rfl rfl rfl ?_
    refine q_y (y_indexAddr1 Try.tab rfl rfl rfl rfl _ (Int.toNat_of_nonneg (by omega)).symm (by omega)) rfl rfl rfl ?_
    refine q_y (y_load Try.tab rfl rfl (cell_ints 0 rfl (by omega))) rfl rfl rfl ?_
    rw [show (((i : Int) + (j : Int)) / 2).toNat = c by omega]
    refine q_call (en_v rfl rfl Try.call80) (hcmp f (f m) (f c) hfa hfc) rfl rfl rfl ?_
    by_cases hR : R (f c) < R (f m)
    · have hz := cmp3_neg.2 hR
      have hl := hkey.2 hR
      generalize cmp3 (R (f c)) (R (f m)) = z at hz ⊢
      clear hR hkey
      refine q_y (y_T (y_lss rfl rfl) (by assumption)) rfl rfl rfl ?_
      refine q_y (y_notT rfl) rfl rfl rfl ?_
      refine q_nil ?_
      refine f_then ?_
      refine c_condF rfl ?_
      refine c_region ?_
      refine s_y (y_move rfl) rfl rfl rfl ?_
      refine s_y (y_assign rfl) rfl rfl rfl ?_
      refine s_nil ?_
      refine f_blockN ?_
      exact f_roundP (i, c) ⟨hi, by dsimp only; omega, by dsimp only; omega, hlo, fun k h1 h2 => by
        by_cases hk : k = c
        · rw [hk]; exact hl
        · exact ltR_trans hl (hM.left c k (by omega) (by dsimp only at h1; omega) h2)⟩ (by dsimp only; omega) ⟨rfl, rfl, rfl, rfl, congrArg (fun z => some (Value.int .i64 z)) (by dsimp only; omega), trivial⟩ (fun w h => h)
    · have hz := mt cmp3_neg.1 hR
      have hl : ¬ ltR R (f m) (f c) := fun h => hR (hkey.1 h)
      generalize cmp3 (R (f c)) (R (f m)) = z at hz ⊢
      clear hR hkey
      refine q_y (y_F (y_lss rfl rfl) (by assumption)) rfl rfl rfl ?_
      refine q_y (y_notF rfl) rfl rfl rfl ?_
      refine q_nil ?_
      refine f_then ?_
      refine c_condT rfl ?_
      refine c_region ?_
      refine s_y (y_move rfl) rfl rfl rfl ?_
      refine s_y (y_add rfl rfl (by omega)) rfl rfl rfl ?_
      refine s_y (y_assign rfl) rfl rfl rfl ?_
      refine s_nil ?_
      refine f_blockN ?_
      exact f_roundP (c + 1, j) ⟨by dsimp only; omega, by dsimp only; omega, hj, fun k h1 h2 => by
        by_cases hk : k = c
        · rw [hk]; exact hl
        · exact fun h => hl (ltR_trans h (hM.left k c h1 (by dsimp only at h2; omega) (by omega))), hhi⟩ (by dsimp only; omega) ⟨rfl, rfl, rfl, congrArg (fun z => some (Value.int .i64 z)) (by dsimp only; omega), rfl, trivial⟩ (fun w h => h)
  · obtain rfl : i = j := by omega
    have hO := mrg_right hM hi hj hlo hhi
    clear hlo hhi hM hf
    refine c_seq ?_
    refine c_seq ?_
    refine c_region ?_
    refine s_y (y_move rfl) rfl rfl rfl ?_
    refine s_y (y_move rfl) rfl rfl rfl ?_
    refine s_y (y_F (y_lss rfl rfl) (by omega)) rfl rfl rfl ?_
    refine s_nil ?_
    refine f_then ?_
    refine c_condF rfl ?_
    refine c_exit ?_
    refine f_thenE ?_
    refine f_rndE ?_
    refine f_blockE ?_
    refine f_then ?_
    refine c_seq ?_
    refine c_seq ?_
    refine c_region ?_
    refine s_y (y_move rfl) rfl rfl rfl ?_
    refine s_y (y_assign rfl) rfl rfl rfl ?_
    refine s_nil ?_
    refine f_then ?_
    refine c_block ?_
    refine c_loopP (α := Nat) (fun z => [(0, .slice (some ⟨bo, 0, none⟩) n n), (14, .int .i64 (i : Int)), (17, .int .i64 (z : Int))]) (fun z => i ≤ z ∧ z ≤ m) (fun z => K W ([(bo, ints 3 n (fun t => (insB f m z t : Int)) [])] :: N)) (fun z => z) m
      ⟨rfl, rfl, rfl, trivial⟩ ⟨hj, Nat.le_refl _⟩ (fun w h => by rw [insB_zero]; exact h) ?_
    rintro k ⟨hk1, hk2⟩
    by_cases hki : i < k
    · have hnx := insB_next (f := f) (m := m) (i := k) (by omega) hk2
      clear hO
      refine c_seq ?_
      refine c_seq ?_
      refine c_region ?_
      refine s_y (y_move rfl) rfl rfl rfl ?_
      refine s_y (y_move rfl) rfl rfl rfl ?_
      refine s_y (y_T (y_gtr rfl rfl) (by omega)) rfl rfl rfl ?_
      refine s_nil ?_
      refine f_then ?_
      refine c_condT rfl ?_
      refine c_skip ?_
      refine f_then ?_
      refine c_seq ?_
      refine c_block ?_
      refine c_planMs [2, 3, 4] [.c 0, .c 1, .c 5, .c 6, .c 7, .c 8, .c 9, .c 10, .c 11, .c 12, .c 13, .c 14, .s 15, .s 16, .s 17] [2, 3, 4, 15, 16, 17] (K W ([(bo, ints 3 n (fun t => (insB f m k t : Int)) [])] :: N)) Try.mixed (by kernel_rfl) rfl K.cl ?_
      refine m_cons rfl (Qui.ylds (y_move rfl)) rfl rfl rfl K.cl ?_
      refine m_cons rfl (Qui.ylds (y_move rfl)) rfl rfl rfl K.cl ?_
      refine m_cons rfl (Qui.ylds (y_sub rfl rfl (by omega))) rfl rfl rfl K.cl ?_
      refine m_nil ?_
      refine d_c rfl (Qui.ylds (y_move rfl)) rfl rfl rfl (fun _ h => h) K.cl ?_
      refine d_c rfl (Qui.ylds (y_move rfl)) rfl rfl rfl (fun _ h => h) K.cl ?_
      refine d_c rfl (Qui.ylds (y_move rfl)) rfl rfl rfl (fun _ h => h) K.cl ?_
      refine d_c rfl (Qui.ylds (y_move rfl)) rfl rfl rfl (fun _ h => h) K.cl ?_
      refine d_c rfl (Qui.ylds (y_sub rfl rfl (by omega))) rfl rfl rfl (fun _ h => h) K.cl ?_
      refine d_c rfl (Qui.ylds (y_indexAddr1 Try.tab rfl rfl rfl rfl _ (Int.toNat_of_nonneg (by omega)).symm (by omega))) rfl rfl rfl (fun _ h => h) K.cl ?_
      refine d_c rfl (Qui.ylds (y_load Try.tab rfl rfl (cell_ints 0 rfl (by omega)))) rfl rfl rfl (fun _ h => h) K.cl ?_
      refine d_c rfl (Qui.ylds (y_move rfl)) rfl rfl rfl (fun _ h => h) K.cl ?_
      refine d_c rfl (Qui.ylds (y_move rfl)) rfl rfl rfl (fun _ h => h) K.cl ?_
      refine d_c rfl (Qui.ylds (y_indexAddr1 Try.tab rfl rfl rfl rfl _ rfl (by omega))) rfl rfl rfl (fun _ h => h) K.cl ?_
      refine d_c rfl (Qui.ylds (y_load Try.tab rfl rfl (cell_ints 0 rfl (by omega)))) rfl rfl rfl (fun _ h => h) K.cl ?_
      refine d_c rfl (Qui.ylds (y_indexAddr1 Try.tab rfl rfl rfl rfl _ rfl (by omega))) rfl rfl rfl (fun _ h => h) K.cl ?_
      refine d_set rfl (set_ints Try.tab 0 rfl rfl rfl rfl (by omega)) rfl rfl K.cl (fun h => by cases h) ?_
      refine d_sy rfl (y_indexAddr1 Try.tab rfl rfl rfl rfl _ (Int.toNat_of_nonneg (by omega)).symm (by omega)) rfl rfl rfl K.cl (fun h => by cases h) ?_
      refine d_set rfl (set_ints Try.tab 0 rfl rfl rfl rfl (by omega)) rfl rfl K.cl (fun h => by cases h) ?_
      refine d_nil ?_
      refine f_blockN ?_
      refine f_then ?_
      refine c_region ?_
      refine s_y (y_move rfl) rfl rfl rfl ?_
      refine s_y (y_sub rfl rfl (by omega)) rfl rfl rfl ?_
      refine s_y (y_assign rfl) rfl rfl rfl ?_
      refine s_nil ?_
      exact f_roundP (k - 1) ⟨by omega, by omega⟩ (by omega) ⟨rfl, rfl, congrArg (fun z => some (Value.int .i64 z)) (by omega), trivial⟩ (fun w h => by
        rw [← hnx, ← upd_nat, ← upd_nat]
        rw [show ((k : Int) - 1).toNat = k - 1 by omega] at h
        exact h)
    · obtain rfl : k = i := by omega
      refine c_seq ?_
      refine c_seq ?_
      refine c_region ?_
      refine s_y (y_move rfl) rfl rfl rfl ?_
      refine s_y (y_move rfl) rfl rfl rfl ?_
      refine s_y (y_F (y_gtr rfl rfl) (by omega)) rfl rfl rfl ?_
      refine s_nil ?_
      refine f_then ?_
      refine c_condF rfl ?_
      refine c_exit ?_
      refine f_thenE ?_
      refine f_rndE ?_
      refine f_blockE ?_
      refine f_then ?_
      refine c_ret ?_
      refine f_thenR ?_
      exact f_ret ⟨_, hO⟩ (res0 rfl) (fun w h => h)
end Go.KL
end

section
/- Walks: symMerge. -/
namespace Go.KL
open Go.Proofs
theorem rotF_triv {f : Nat → Nat} {s m e : Nat} (h : s = m ∨ m = e) (h1 : s ≤ m) (h2 : m ≤ e) : rotF f s m e = f := by
  funext t
  unfold rotF
  (repeat' split) <;> first | rfl | (exfalso; omega) | (congr 1; omega)
theorem Mrg.congr {R : Nat → Nat} {f g : Nat → Nat} {a m b : Nat} (h : Mrg R f a m b) (hg : ∀ i, a ≤ i → i < b → g i = f i) (h1 : a ≤ m) (h2 : m ≤ b) : Mrg R g a m b := by
  refine ⟨fun i j i1 i2 i3 => ?_, fun i j i1 i2 i3 => ?_, fun i j i1 i2 i3 i4 => ?_⟩
  · rw [hg i (by omega) (by omega), hg j (by omega) (by omega)]
    exact h.left i j i1 i2 i3
  · rw [hg i (by omega) (by omega), hg j (by omega) (by omega)]
    exact h.right i j i1 i2 i3
  · rw [hg i (by omega) (by omega), hg j (by omega) (by omega)]
    exact h.ix i j i1 i2 i3 i4
theorem Mrg.side {R : Nat → Nat} {f : Nat → Nat} {a m b : Nat} (h : Mrg R f a m b) (hm : m = a ∨ m = b) : Srt R f a b := by
  rcases hm with rfl | rfl
  · exact h.right
  · exact h.left
theorem rot_bd {f : Nat → Nat} {s m e n : Nat} (hf : ∀ k, k < n → f k < n) (h1 : s ≤ m) (h2 : m ≤ e) (h3 : e ≤ n) : ∀ k, k < n → rotF f s m e k < n := by
  intro k hk
  unfold rotF
  split
  · exact hf _ (by omega)
  · split
    · exact hf _ (by omega)
    · exact hf _ hk
attribute [local irreducible] SC St Fin Sq Ylds Doos Sets Enters Spec CellIs CellsAre Then Ret Rnd Chn resOK ints bools recs arr
set_option maxRecDepth 10000 in
set_option maxHeartbeats 16000000 in
theorem symMerge_spec {W : World} {N : List Chunk} {bo n : Nat} {R : Nat → Nat} {cap : Value} (hcmp : CmpOK W bo n N cap R) (hn : n ≤ 4096) : ∀ (d : Nat) {a m b : Nat} {f : Nat → Nat} (_ : b - a ≤ d) (_ : a < m) (_ : m < b) (_ : b ≤ n) (_ : ∀ k, k < n → f k < n) (_ : Mrg R f a m b), Spec Try.prog 138 #[.slice (some ⟨bo, 0, none⟩) n n, .int .i64 (a : Int), .int .i64 (m : Int), .int .i64 (b : Int), .func (.func 80) #[] #[cap]] (K W ([(bo, ints 3 n (fun i => (f i : Int)) [])] :: N)) (X := { g : Nat → Nat // SOut R f g a b }) (fun _ => .tuple #[]) (fun g => K W ([(bo, ints 3 n (fun i => (g.1 i : Int)) [])] :: N)) := by
  intro d
  induction d with
  | zero =>
    intro a m b f h1 h2 h3
    omega
  | succ d ih =>
    intro a m b f hd ham hmb hbn hf hM
    by_cases c1 : m = a + 1
    · subst c1
      exact sym1_spec hcmp hmb hbn hn hf hM
    by_cases c2 : b = m + 1
    · subst c2
      exact sym2_spec hcmp (by omega) hbn hn hf hM
    obtain ⟨mid, hmid⟩ : ∃ mid, mid = (a + b) / 2 := ⟨_, rfl⟩
    have hmi : ((a : Int) + (b : Int)) / 2 = (mid : Int) := by omega
    have hm1 : a < mid ∧ mid < b := by omega
    have hm2 : 2 * mid ≤ a + b ∧ a + b ≤ 2 * mid + 1 := by omega
    clear hmid
    refine enter (args := [_, _, _, _, _]) Try.func138 rfl Try.ntmps138 rfl ?_
    refine c_seq ?_
    refine c_seq ?_
    refine c_region ?_
    refine s_y (y_move rfl) rfl rfl rfl ?_
    refine s_y (y_move rfl) rfl rfl rfl ?_
    refine s_y (y_sub rfl rfl (by omega)) rfl rfl rfl ?_
    refine s_y (y_F (y_eql rfl rfl) (by omega)) rfl rfl rfl ?_
    refine s_nil ?_
    refine f_then ?_
    refine c_condF rfl ?_
    refine c_skip ?_
    refine f_then ?_
    refine c_seq ?_
    refine c_seq ?_
    refine c_region ?_
    refine s_y (y_move rfl) rfl rfl rfl ?_
    refine s_y (y_move rfl) rfl rfl rfl ?_
    refine s_y (y_sub rfl rfl (by omega)) rfl rfl rfl ?_
    refine s_y (y_F (y_eql rfl rfl) (by omega)) rfl rfl rfl ?_
    refine s_nil ?_
    refine f_then ?_
    refine c_condF rfl ?_
    refine c_skip ?_
    refine f_then ?_
    refine c_seq ?_
    refine c_region ?_
    refine s_y (y_move rfl) rfl rfl rfl ?_
    refine s_y (y_move rfl) rfl rfl rfl ?_
    refine s_y (y_add rfl rfl (by omega)) rfl rfl rfl ?_
    refine s_y (y_to64 Try.tab rfl rfl rfl (by omega)) rfl rfl rfl ?_
    refine s_y (y_shrU (d := 2) rfl rfl (by decide) rfl) rfl rfl rfl ?_
    refine s_y (y_toI Try.tab rfl rfl rfl (by omega)) rfl rfl rfl ?_
    refine s_y (y_assign rfl) rfl rfl rfl ?_
    refine s_nil ?_
    refine f_then ?_
    refine c_seq ?_
    refine c_region ?_
    refine s_y (y_move rfl) rfl rfl rfl ?_
    refine s_y (y_move rfl) rfl rfl rfl ?_
    refine s_y (y_add rfl rfl (by omega)) rfl rfl rfl ?_
    refine s_y (y_assign rfl) rfl rfl rfl ?_
    refine s_nil ?_
    refine f_then ?_
    refine c_seq ?_
    refine c_region ?_
    refine s_y (y_assign rfl) rfl rfl rfl ?_
    refine s_y (y_assign rfl) rfl rfl rfl ?_
    refine s_nil ?_
    refine f_then ?_
    refine c_seq ?_
    refine c_seq ?_
    refine c_region ?_
    refine s_y (y_move rfl) rfl rfl rfl ?_
    refine s_y (y_move rfl) rfl rfl rfl ?_
    refine s_y (y_gtr rfl rfl) rfl rfl rfl ?_
    refine s_nil ?_
    refine f_then ?_
    rw [hmi]
    refine c_then_cut (α := Nat × Nat) (fun z => [(0, .slice (some ⟨bo, 0, none⟩) n n), (1, .int .i64 (a : Int)), (2, .int .i64 (m : Int)), (3, .int .i64 (b : Int)), (4, .func (.func 80) #[] #[cap]), (18, .int .i64 (mid : Int)), (19, .int .i64 ((mid + m : Nat) : Int)), (20, .int .i64 (z.1 : Int)), (21, .int .i64 (z.2 : Int))]) (fun z => a ≤ z.1 ∧ z.1 ≤ z.2 ∧ z.2 ≤ m ∧ z.2 ≤ mid ∧ mid + m ≤ b + z.1 ∧ (z.1 = a ∨ mid + m = b + z.1) ∧ (z.2 = m ∨ z.2 = mid)) (fun _ => K W ([(bo, ints 3 n (fun i => (f i : Int)) [])] :: N)) ?_ ?_
    · by_cases hmm : mid < m
      · rw [decide_eq_true (by omega)]
        refine c_condT rfl ?_
        refine c_seq ?_
        refine c_region ?_
        refine s_y (y_move rfl) rfl rfl rfl ?_
        refine s_y (y_move rfl) rfl rfl rfl ?_
        refine s_y (y_sub rfl rfl (by omega)) rfl rfl rfl ?_
        refine s_y (y_assign rfl) rfl rfl rfl ?_
        refine s_nil ?_
        refine f_then ?_
        refine c_region ?_
        refine s_y (y_move rfl) rfl rfl rfl ?_
        refine s_y (y_assign rfl) rfl rfl rfl ?_
        refine s_nil ?_
        exact f_cutP (mid + m - b, mid) ⟨by dsimp only; omega, by dsimp only; omega, by dsimp only; omega, Nat.le_refl _, by dsimp only; omega, .inr (by dsimp only; omega), .inr rfl⟩ ⟨rfl, rfl, rfl, rfl, rfl, rfl, rfl, congrArg (fun z => some (Value.int .i64 z)) (by dsimp only; omega), rfl, trivial⟩ (fun w h => h)
      · rw [decide_eq_false (by omega)]
        refine c_condF rfl ?_
        refine c_seq ?_
        refine c_region ?_
        refine s_y (y_move rfl) rfl rfl rfl ?_
        refine s_y (y_assign rfl) rfl rfl rfl ?_
        refine s_nil ?_
        refine f_then ?_
        refine c_region ?_
        refine s_y (y_move rfl) rfl rfl rfl ?_
        refine s_y (y_assign rfl) rfl rfl rfl ?_
        refine s_nil ?_
        exact f_cutP (a, m) ⟨Nat.le_refl _, by dsimp only; omega, Nat.le_refl _, by dsimp only; omega, by dsimp only; omega, .inl rfl, .inl rfl⟩ ⟨rfl, rfl, rfl, rfl, rfl, rfl, rfl, rfl, rfl, trivial⟩ (fun w h => h)
    rintro ⟨s0, r0⟩ ⟨j1, j2, j3, j4, j5, j6, j7⟩
    dsimp only at j1 j2 j3 j4 j5 j6 j7 ⊢
    refine c_seq ?_
    refine c_region ?_
    refine s_y (y_move rfl) rfl rfl rfl ?_
    refine s_y (y_sub rfl rfl (by omega)) rfl rfl rfl ?_
    refine s_y (y_assign rfl) rfl rfl rfl ?_
    refine s_nil ?_
    refine f_then ?_
    refine c_seq ?_
    refine c_block ?_
    refine c_loopP (α := Nat × Nat) (fun z => [(0, .slice (some ⟨bo, 0, none⟩) n n), (1, .int .i64 (a : Int)), (2, .int .i64 (m : Int)), (3, .int .i64 (b : Int)), (4, .func (.func 80) #[] #[cap]), (18, .int .i64 (mid : Int)), (19, .int .i64 ((mid + m : Nat) : Int)), (20, .int .i64 (z.1 : Int)), (21, .int .i64 (z.2 : Int)), (22, .int .i64 (((mid + m : Nat) : Int) - 1))]) (fun z => s0 ≤ z.1 ∧ z.1 ≤ z.2 ∧ z.2 ≤ r0 ∧ (s0 < z.1 → ltR R (f (z.1 - 1)) (f (mid + m - z.1))) ∧ (z.2 < r0 → ltR R (f (mid + m - 1 - z.2)) (f z.2))) (fun _ => K W ([(bo, ints 3 n (fun i => (f i : Int)) [])] :: N)) (fun z => z.2 - z.1) (s0, r0)
      ⟨rfl, rfl, rfl, rfl, rfl, rfl, rfl, rfl, rfl, rfl, trivial⟩ ⟨Nat.le_refl _, j2, Nat.le_refl _, fun h => absurd h (Nat.lt_irrefl _), fun h => absurd h (Nat.lt_irrefl _)⟩ (fun w h => h) ?_
    rintro ⟨s, r⟩ ⟨k1, k2, k3, k4, k5⟩
    dsimp only at k1 k2 k3 k4 k5 ⊢
    by_cases hsr : s < r
    · obtain ⟨c, hc⟩ : ∃ c, c = (s + r) / 2 := ⟨_, rfl⟩
      have hc1 : s ≤ c ∧ c < r := by omega
      have hkey := hM.key (i := c) (j := mid + m - 1 - c) (by omega) (by omega) (by omega) (by omega)
      have hord := hM.ord (i := c) (j := mid + m - 1 - c) (by omega) (by omega) (by omega) (by omega)
      have hfc := hf c (by omega)
      have hfp := hf (mid + m - 1 - c) (by omega)
      have k4' : ∀ _ : Unit, (s0 < s → ltR R (f (s - 1)) (f (mid + m - s))) := fun _ => k4
      have k5' : ∀ _ : Unit, (r < r0 → ltR R (f (mid + m - 1 - r)) (f r)) := fun _ => k5
      clear ih k4 k5 j6 j7
      have e1 : (((s : Int) + (r : Int)) / 2).toNat = c := by omega
      have e2 : (((mid + m : Nat) : Int) - 1 - ((s : Int) + (r : Int)) / 2).toNat = mid + m - 1 - c := by omega
      refine c_seq ?_
      refine c_seq ?_
      refine c_region ?_
      refine s_y (y_move rfl) rfl rfl rfl ?_
      refine s_y (y_move rfl) rfl rfl rfl ?_
      refine s_y (y_T (y_lss rfl rfl) (by omega)) rfl rfl rfl ?_
      refine s_nil ?_
      refine f_then ?_
      refine c_condT rfl ?_
      refine c_skip ?_
      refine f_then ?_
      refine c_block ?_
      refine c_seq ?_
      refine c_region ?_
      refine s_y (y_move rfl) rfl rfl rfl ?_
      refine s_y (y_move rfl) rfl rfl rfl ?_
      refine s_y (y_add rfl rfl (by omega)) rfl rfl rfl ?_
      refine s_y (y_to64 Try.tab rfl rfl rfl (by omega)) rfl rfl rfl ?_
      refine s_y (y_shrU (d := 2) rfl rfl (by decide) rfl) rfl rfl rfl ?_
      refine s_y (y_toI Try.tab rfl rfl rfl (by omega)) rfl rfl rfl ?_
      refine s_y (y_assign rfl) rfl rfl rfl ?_
      refine s_nil ?_
      refine f_then ?_
      refine c_seq ?_
      refine c_quiet Try.mixed (by kernel_rfl) K.drew ?_
      refine q_y (y_move rfl) rfl rfl rfl ?_
      refine q_y (y_move rfl) rfl rfl rfl ?_
      refine q_y (y_move rfl) rfl rfl rfl ?_
      refine q_y (y_move rfl) rfl rfl rfl ?_
      refine q_y (y_sub rfl rfl (by omega)) rfl rfl rfl ?_
      refine q_y (y_indexAddr1 Try.tab rfl rfl rfl rfl _ (Int.toNat_of_nonneg (by omega)).symm (by omega)) rfl rfl rfl ?_
      refine q_y (y_load Try.tab rfl rfl (cell_ints 0 rfl (by omega))) rfl rfl rfl ?_
      refine q_y (y_move rfl) rfl rfl rfl ?_
      refine q_y (y_move rfl) rfl rfl rfl ?_
      refine q_y (y_indexAddr1 Try.tab rfl rfl rfl rfl _ (Int.toNat_of_nonneg (by omega)).symm (by omega)) rfl rfl rfl ?_
      refine q_y (y_load Try.tab rfl rfl (cell_ints 0 rfl (by omega))) rfl rfl rfl ?_
      rw [e1, e2]
      refine q_call (en_v rfl rfl Try.call80) (hcmp f (f (mid + m - 1 - c)) (f c) hfp hfc) rfl rfl rfl ?_
      by_cases hR : R (f c) < R (f (mid + m - 1 - c))
      · have hz := cmp3_neg.2 hR
        have hl := hkey.2 hR
        generalize cmp3 (R (f c)) (R (f (mid + m - 1 - c))) = z at hz ⊢
        clear hR hkey
        refine q_y (y_T (y_lss rfl rfl) (by assumption)) rfl rfl rfl ?_
        refine q_y (y_notT rfl) rfl rfl rfl ?_
        refine q_nil ?_
        refine f_then ?_
        refine c_condF rfl ?_
        refine c_region ?_
        refine s_y (y_move rfl) rfl rfl rfl ?_
        refine s_y (y_assign rfl) rfl rfl rfl ?_
        refine s_nil ?_
        refine f_blockN ?_
        exact f_roundP (s, c) ⟨k1, by dsimp only; omega, by dsimp only; omega, k4' (), fun _ => hl⟩ (by dsimp only; omega) ⟨rfl, rfl, rfl, rfl, rfl, rfl, rfl, rfl, congrArg (fun z => some (Value.int .i64 z)) (by dsimp only; omega), rfl, trivial⟩ (fun w h => h)
      · have hz := mt cmp3_neg.1 hR
        have hl := hord.1 (fun h => hR (hkey.1 h))
        generalize cmp3 (R (f c)) (R (f (mid + m - 1 - c))) = z at hz ⊢
        clear hR hkey
        refine q_y (y_F (y_lss rfl rfl) (by assumption)) rfl rfl rfl ?_
        refine q_y (y_notF rfl) rfl rfl rfl ?_
        refine q_nil ?_
        refine f_then ?_
        refine c_condT rfl ?_
        refine c_region ?_
        refine s_y (y_move rfl) rfl rfl rfl ?_
        refine s_y (y_add rfl rfl (by omega)) rfl rfl rfl ?_
        refine s_y (y_assign rfl) rfl rfl rfl ?_
        refine s_nil ?_
        refine f_blockN ?_
        exact f_roundP (c + 1, r) ⟨by dsimp only; omega, by dsimp only; omega, k3, fun _ => by
          rw [Nat.add_sub_cancel, show mid + m - (c + 1) = mid + m - 1 - c by omega]
          exact hl, k5' ()⟩ (by dsimp only; omega) ⟨rfl, rfl, rfl, rfl, rfl, rfl, rfl, congrArg (fun z => some (Value.int .i64 z)) (by dsimp only; omega), rfl, rfl, trivial⟩ (fun w h => h)
    · obtain rfl : s = r := by omega
      have hC := cut_found (mid := mid) hM j1 k1 k3 j3 (by omega) (by omega) (by omega) j6 j7 k4 k5
      obtain ⟨e, he⟩ : ∃ e, e = mid + m - s := ⟨_, rfl⟩
      rw [← he] at hC
      have he1 : ((mid + m : Nat) : Int) - (s : Int) = (e : Int) := by omega
      clear k4 k5 j6 j7 hcmp
      refine c_seq ?_
      refine c_seq ?_
      refine c_region ?_
      refine s_y (y_move rfl) rfl rfl rfl ?_
      refine s_y (y_move rfl) rfl rfl rfl ?_
      refine s_y (y_F (y_lss rfl rfl) (by omega)) rfl rfl rfl ?_
      refine s_nil ?_
      refine f_then ?_
      refine c_condF rfl ?_
      refine c_exit ?_
      refine f_thenE ?_
      refine f_rndE ?_
      refine f_blockE ?_
      refine f_then ?_
      refine c_seq ?_
      refine c_region ?_
      refine s_y (y_move rfl) rfl rfl rfl ?_
      refine s_y (y_move rfl) rfl rfl rfl ?_
      refine s_y (y_sub rfl rfl (by omega)) rfl rfl rfl ?_
      refine s_y (y_assign rfl) rfl rfl rfl ?_
      refine s_nil ?_
      refine f_then ?_
      rw [he1]
      have hc := mrg_cut hM hC
      obtain ⟨q1, q2, q3, q4, q5⟩ : a ≤ s ∧ s ≤ m ∧ m ≤ e ∧ e ≤ b ∧ e + s = mid + m := ⟨hC.as', hC.sm, hC.me, hC.eb, hC.sum⟩
      have hg0 := rot_bd hf q2 q3 (show e ≤ n by omega)
      obtain ⟨g0, hg⟩ : ∃ g0, g0 = rotF f s m e := ⟨_, rfl⟩
      refine c_seq ?_
      refine c_then_cut (α := Unit) (fun _ => [(0, .slice (some ⟨bo, 0, none⟩) n n), (1, .int .i64 (a : Int)), (2, .int .i64 (m : Int)), (3, .int .i64 (b : Int)), (4, .func (.func 80) #[] #[cap]), (18, .int .i64 (mid : Int)), (20, .int .i64 (s : Int)), (24, .int .i64 (e : Int))]) (fun _ => True) (fun _ => K W ([(bo, ints 3 n (fun i => (g0 i : Int)) [])] :: N)) ?_ ?_
      · by_cases r1 : s < m
        · by_cases r2 : m < e
          · clear hc hC hM ih hf hg0
            refine c_seq ?_
            refine c_region ?_
            refine s_y (y_move rfl) rfl rfl rfl ?_
            refine s_y (y_move rfl) rfl rfl rfl ?_
            refine s_y (y_T (y_lss rfl rfl) (by omega)) rfl rfl rfl ?_
            refine s_y (y_move rfl) rfl rfl rfl ?_
            refine s_y (y_move rfl) rfl rfl rfl ?_
            refine s_y (y_move rfl) rfl rfl rfl ?_
            refine s_y (y_T (y_lss rfl rfl) (by omega)) rfl rfl rfl ?_
            refine s_y (y_pickT rfl rfl) rfl rfl rfl ?_
            refine s_nil ?_
            refine f_then ?_
            refine c_condT rfl ?_
            refine c_region ?_
            refine s_y (y_move rfl) rfl rfl rfl ?_
            refine s_y (y_move rfl) rfl rfl rfl ?_
            refine s_y (y_move rfl) rfl rfl rfl ?_
            refine s_y (y_move rfl) rfl rfl rfl ?_
            refine s_y (y_move rfl) rfl rfl rfl ?_
            refine s_call (en_f rfl Try.call149) (rotate_spec (a := s) (m := m) (b := e) r1 r2 (by omega) hn) rfl rfl rfl (fun _ => ?_)
            refine s_nil ?_
            exact f_cutP () trivial ⟨rfl, rfl, rfl, rfl, rfl, rfl, rfl, rfl, trivial⟩ (fun w h => by rw [hg]; exact h)
          · have ht := rotF_triv (f := f) (s := s) (m := m) (e := e) (.inr (by omega)) q2 q3
            clear hc hC hM ih hf hg0
            refine c_seq ?_
            refine c_region ?_
            refine s_y (y_move rfl) rfl rfl rfl ?_
            refine s_y (y_move rfl) rfl rfl rfl ?_
            refine s_y (y_T (y_lss rfl rfl) (by omega)) rfl rfl rfl ?_
            refine s_y (y_move rfl) rfl rfl rfl ?_
            refine s_y (y_move rfl) rfl rfl rfl ?_
            refine s_y (y_move rfl) rfl rfl rfl ?_
            refine s_y (y_F (y_lss rfl rfl) (by omega)) rfl rfl rfl ?_
            refine s_y (y_pickT rfl rfl) rfl rfl rfl ?_
            refine s_nil ?_
            refine f_then ?_
            refine c_condF rfl ?_
            refine c_skip ?_
            exact f_cutP () trivial ⟨rfl, rfl, rfl, rfl, rfl, rfl, rfl, rfl, trivial⟩ (fun w h => by rw [hg, ht]; exact h)
        · have ht := rotF_triv (f := f) (s := s) (m := m) (e := e) (.inl (by omega)) q2 q3
          clear hc hC hM ih hf hg0
          refine c_seq ?_
          refine c_region ?_
          refine s_y (y_move rfl) rfl rfl rfl ?_
          refine s_y (y_move rfl) rfl rfl rfl ?_
          refine s_y (y_F (y_lss rfl rfl) (by omega)) rfl rfl rfl ?_
          refine s_y (y_move rfl) rfl rfl rfl ?_
          iterate 3 refine s_skip rfl rfl rfl ?_
          refine s_y (y_pickF rfl rfl) rfl rfl rfl ?_
          refine s_nil ?_
          refine f_then ?_
          refine c_condF rfl ?_
          refine c_skip ?_
          exact f_cutP () trivial ⟨rfl, rfl, rfl, rfl, rfl, rfl, rfl, rfl, trivial⟩ (fun w h => by rw [hg, ht]; exact h)
      rintro _ _
      rw [← hg] at hc hg0
      obtain ⟨hL, hRt, _⟩ := hc
      refine c_seq ?_
      refine c_then_cut (α := Nat → Nat) (fun _ => [(0, .slice (some ⟨bo, 0, none⟩) n n), (1, .int .i64 (a : Int)), (2, .int .i64 (m : Int)), (3, .int .i64 (b : Int)), (4, .func (.func 80) #[] #[cap]), (18, .int .i64 (mid : Int)), (20, .int .i64 (s : Int)), (24, .int .i64 (e : Int))]) (fun g => SOut R g0 g a mid) (fun g => K W ([(bo, ints 3 n (fun i => (g i : Int)) [])] :: N)) ?_ ?_
      · by_cases r1 : a < s
        · by_cases r2 : s < mid
          · have ihL := ih (a := a) (m := s) (b := mid) (f := g0) (by omega) r1 r2 (by omega) hg0 hL
            clear hL hRt hC hM ih hf hg0
            refine c_seq ?_
            refine c_region ?_
            refine s_y (y_move rfl) rfl rfl rfl ?_
            refine s_y (y_move rfl) rfl rfl rfl ?_
            refine s_y (y_T (y_lss rfl rfl) (by omega)) rfl rfl rfl ?_
            refine s_y (y_move rfl) rfl rfl rfl ?_
            refine s_y (y_move rfl) rfl rfl rfl ?_
            refine s_y (y_move rfl) rfl rfl rfl ?_
            refine s_y (y_T (y_lss rfl rfl) (by omega)) rfl rfl rfl ?_
            refine s_y (y_pickT rfl rfl) rfl rfl rfl ?_
            refine s_nil ?_
            refine f_then ?_
            refine c_condT rfl ?_
            refine c_region ?_
            refine s_y (y_move rfl) rfl rfl rfl ?_
            refine s_y (y_move rfl) rfl rfl rfl ?_
            refine s_y (y_move rfl) rfl rfl rfl ?_
            refine s_y (y_move rfl) rfl rfl rfl ?_
            refine s_y (y_move rfl) rfl rfl rfl ?_
            refine s_call (en_f rfl Try.call138) ihL rfl rfl rfl (fun g => ?_)
            refine s_nil ?_
            exact f_cutP g.1 g.2 ⟨rfl, rfl, rfl, rfl, rfl, rfl, rfl, rfl, trivial⟩ (fun w h => h)
          · have hs := SOut.refl (hL.side (.inr (by omega)))
            clear hL hRt hC hM ih hf hg0
            refine c_seq ?_
            refine c_region ?_
            refine s_y (y_move rfl) rfl rfl rfl ?_
            refine s_y (y_move rfl) rfl rfl rfl ?_
            refine s_y (y_T (y_lss rfl rfl) (by omega)) rfl rfl rfl ?_
            refine s_y (y_move rfl) rfl rfl rfl ?_
            refine s_y (y_move rfl) rfl rfl rfl ?_
            refine s_y (y_move rfl) rfl rfl rfl ?_
            refine s_y (y_F (y_lss rfl rfl) (by omega)) rfl rfl rfl ?_
            refine s_y (y_pickT rfl rfl) rfl rfl rfl ?_
            refine s_nil ?_
            refine f_then ?_
            refine c_condF rfl ?_
            refine c_skip ?_
            exact f_cutP g0 hs ⟨rfl, rfl, rfl, rfl, rfl, rfl, rfl, rfl, trivial⟩ (fun w h => h)
        · have hs := SOut.refl (hL.side (.inl (by omega)))
          clear hL hRt hC hM ih hf hg0
          refine c_seq ?_
          refine c_region ?_
          refine s_y (y_move rfl) rfl rfl rfl ?_
          refine s_y (y_move rfl) rfl rfl rfl ?_
          refine s_y (y_F (y_lss rfl rfl) (by omega)) rfl rfl rfl ?_
          refine s_y (y_move rfl) rfl rfl rfl ?_
          iterate 3 refine s_skip rfl rfl rfl ?_
          refine s_y (y_pickF rfl rfl) rfl rfl rfl ?_
          refine s_nil ?_
          refine f_then ?_
          refine c_condF rfl ?_
          refine c_skip ?_
          exact f_cutP g0 hs ⟨rfl, rfl, rfl, rfl, rfl, rfl, rfl, rfl, trivial⟩ (fun w h => h)
      rintro g1 hO1
      have hR1 : Mrg R g1 mid e b := hRt.congr (fun i i1 _ => hO1.same i (.inr i1)) (by omega) q4
      have hj : ∀ g2, SOut R g1 g2 mid b → SOut R f g2 a b := fun g2 h2 => mrg_join hM hC (by omega) (by omega) (by rw [← hg]; exact hO1) h2
      have hg1 := hO1.bd hg0 (show mid ≤ n by omega)
      clear hRt hL hM hC hf hg0 hO1
      by_cases r1 : mid < e
      · by_cases r2 : e < b
        · have ihR := ih (a := mid) (m := e) (b := b) (f := g1) (by omega) r1 r2 hbn hg1 hR1
          clear ih hR1 hg1
          refine c_seq ?_
          refine c_region ?_
          refine s_y (y_move rfl) rfl rfl rfl ?_
          refine s_y (y_move rfl) rfl rfl rfl ?_
          refine s_y (y_T (y_lss rfl rfl) (by omega)) rfl rfl rfl ?_
          refine s_y (y_move rfl) rfl rfl rfl ?_
          refine s_y (y_move rfl) rfl rfl rfl ?_
          refine s_y (y_move rfl) rfl rfl rfl ?_
          refine s_y (y_T (y_lss rfl rfl) (by omega)) rfl rfl rfl ?_
          refine s_y (y_pickT rfl rfl) rfl rfl rfl ?_
          refine s_nil ?_
          refine f_then ?_
          refine c_condT rfl ?_
          refine c_region ?_
          refine s_y (y_move rfl) rfl rfl rfl ?_
          refine s_y (y_move rfl) rfl rfl rfl ?_
          refine s_y (y_move rfl) rfl rfl rfl ?_
          refine s_y (y_move rfl) rfl rfl rfl ?_
          refine s_y (y_move rfl) rfl rfl rfl ?_
          refine s_call (en_f rfl Try.call138) ihR rfl rfl rfl (fun g => ?_)
          have hgo := hj g.1 g.2
          clear hj
          refine s_nil ?_
          exact f_end ⟨g.1, hgo⟩ (res0 rfl) (fun w h => h)
        · have hgo := hj g1 (SOut.refl (hR1.side (.inr (by omega))))
          clear ih hR1 hg1 hj
          refine c_seq ?_
          refine c_region ?_
          refine s_y (y_move rfl) rfl rfl rfl ?_
          refine s_y (y_move rfl) rfl rfl rfl ?_
          refine s_y (y_T (y_lss rfl rfl) (by omega)) rfl rfl rfl ?_
          refine s_y (y_move rfl) rfl rfl rfl ?_
          refine s_y (y_move rfl) rfl rfl rfl ?_
          refine s_y (y_move rfl) rfl rfl rfl ?_
          refine s_y (y_F (y_lss rfl rfl) (by omega)) rfl rfl rfl ?_
          refine s_y (y_pickT rfl rfl) rfl rfl rfl ?_
          refine s_nil ?_
          refine f_then ?_
          refine c_condF rfl ?_
          refine c_skip ?_
          exact f_end ⟨g1, hgo⟩ (res0 rfl) (fun w h => h)
      · have hgo := hj g1 (SOut.refl (hR1.side (.inl (by omega))))
        clear ih hR1 hg1 hj
        refine c_seq ?_
        refine c_region ?_
        refine s_y (y_move rfl) rfl rfl rfl ?_
        refine s_y (y_move rfl) rfl rfl rfl ?_
        refine s_y (y_F (y_lss rfl rfl) (by omega)) rfl rfl rfl ?_
        refine s_y (y_move rfl) rfl rfl rfl ?_
        iterate 3 refine s_skip rfl rfl rfl ?_
        refine s_y (y_pickF rfl rfl) rfl rfl rfl ?_
        refine s_nil ?_
        refine f_then ?_
        refine c_condF rfl ?_
        refine c_skip ?_
        exact f_end ⟨g1, hgo⟩ (res0 rfl) (fun w h => h)
end Go.KL
end

section
/- Blocks that are in order, and their merging two by two; plain. No program in sight. -/
namespace Go.KL
variable {R : Nat → Nat} {f g : Nat → Nat} {a m b n s e : Nat}
/-- The places from s to e, in order. -/
structure Blk (R : Nat → Nat) (g : Nat → Nat) (s e : Nat) : Prop where
  rng : ∀ i, s ≤ i → i < e → s ≤ g i ∧ g i < e
  srt : Srt R g s e
theorem Blk.keep (h : Blk R f s e) (hO : SOut R f g a b) (hd : e ≤ a ∨ b ≤ s) : Blk R g s e := by
  refine ⟨fun i h1 h2 => ?_, fun i j h1 h2 h3 => ?_⟩
  · rw [hO.same i (by omega)]
    exact h.rng i h1 h2
  · rw [hO.same i (by omega), hO.same j (by omega)]
    exact h.srt i j h1 h2 h3
theorem Blk.mrg (h1 : Blk R f a m) (h2 : Blk R f m b) : Mrg R f a m b := ⟨h1.srt, h2.srt, fun i j i1 i2 j1 j2 => by
  have := h1.rng i i1 i2
  have := h2.rng j j1 j2
  omega⟩
theorem Blk.join (h1 : Blk R f a m) (h2 : Blk R f m b) (ham : a ≤ m) (hmb : m ≤ b) (hO : SOut R f g a b) : Blk R g a b := by
  refine ⟨fun i i1 i2 => ?_, hO.srt⟩
  obtain ⟨k, k1, k2, k3⟩ := hO.from' i i1 i2
  rw [k3]
  by_cases c : k < m
  · have := h1.rng k k1 c
    omega
  · have := h2.rng k (by omega) k2
    omega
theorem Blk.ids (hid : ∀ i, a ≤ i → i < b → f i = i) (hO : SOut R f g a b) : Blk R g a b := by
  refine ⟨fun i i1 i2 => ?_, hO.srt⟩
  obtain ⟨k, k1, k2, k3⟩ := hO.from' i i1 i2
  rw [k3, hid k k1 k2]
  exact ⟨k1, k2⟩
theorem Blk.empty (h : e ≤ s) : Blk R g s e := ⟨fun i h1 h2 => by omega, fun i j h1 h2 h3 => by omega⟩
/-- All blocks of bs. -/
def BS (R g : Nat → Nat) (bs n : Nat) : Prop := ∀ s, s % bs = 0 → s < n → Blk R g s (min (s + bs) n)
/-- Blocks of 20 up to a, and behind it as it was. -/
def Ph1 (R g : Nat → Nat) (a : Nat) : Prop := a % 20 = 0 ∧ (∀ s, s % 20 = 0 → s + 20 ≤ a → Blk R g s (s + 20)) ∧ ∀ i, a ≤ i → g i = i
theorem Ph1.next (h : Ph1 R f a) (hO : SOut R f g a (a + 20)) : Ph1 R g (a + 20) := by
  obtain ⟨h1, h2, h3⟩ := h
  refine ⟨by omega, fun s s1 s2 => ?_, fun i hi => ?_⟩
  · by_cases c : s = a
    · subst c
      exact Blk.ids (fun i i1 _ => h3 i i1) hO
    · exact (h2 s s1 (by omega)).keep hO (by omega)
  · rw [hO.same i (by omega)]
    exact h3 i (by omega)
theorem Ph1.done (h : Ph1 R f a) (han : a ≤ n) (hn : n < a + 20) (hO : SOut R f g a n) : BS R g 20 n := by
  obtain ⟨h1, h2, h3⟩ := h
  intro s s1 s2
  by_cases c : s = a
  · subst c
    rw [show min (s + 20) n = n by omega]
    exact Blk.ids (fun i i1 _ => h3 i i1) hO
  · rw [show min (s + 20) n = s + 20 by omega]
    exact (h2 s s1 (by omega)).keep hO (by omega)
/-- Blocks of 2 bs up to a, blocks of bs behind it. -/
def Ph2 (R g : Nat → Nat) (bs n a : Nat) : Prop := a % (2 * bs) = 0 ∧ (∀ s, s % (2 * bs) = 0 → s + 2 * bs ≤ a → Blk R g s (s + 2 * bs)) ∧ ∀ s, s % bs = 0 → a ≤ s → s < n → Blk R g s (min (s + bs) n)
theorem Ph2.start {bs : Nat} (h : BS R g bs n) (hb : bs = 20 ∨ bs = 40) : Ph2 R g bs n 0 := by
  refine ⟨Nat.zero_mod _, fun s s1 s2 => ?_, fun s s1 _ s3 => h s s1 s3⟩
  rcases hb with rfl | rfl <;> omega
theorem Ph2.two {bs : Nat} (h : Ph2 R f bs n a) (hb : bs = 20 ∨ bs = 40) (hab : a + bs < n) : Blk R f a (a + bs) ∧ Blk R f (a + bs) (min (a + 2 * bs) n) := by
  obtain ⟨h1, h2, h3⟩ := h
  have k1 := h3 a (by rcases hb with rfl | rfl <;> omega) (Nat.le_refl _) (by omega)
  have k2 := h3 (a + bs) (by rcases hb with rfl | rfl <;> omega) (by omega) hab
  rw [show min (a + bs) n = a + bs by omega] at k1
  rw [show a + bs + bs = a + 2 * bs by omega] at k2
  exact ⟨k1, k2⟩
theorem Ph2.next {bs : Nat} (h : Ph2 R f bs n a) (hb : bs = 20 ∨ bs = 40) (hab : a + 2 * bs ≤ n) (hO : SOut R f g a (a + 2 * bs)) : Ph2 R g bs n (a + 2 * bs) := by
  have hp : 0 < bs := by omega
  obtain ⟨k1, k2⟩ := h.two hb (by omega)
  rw [show min (a + 2 * bs) n = a + 2 * bs by omega] at k2
  obtain ⟨h1, h2, h3⟩ := h
  refine ⟨by rcases hb with rfl | rfl <;> omega, fun s s1 s2 => ?_, fun s s1 s2 s3 => ?_⟩
  · by_cases c : s = a
    · subst c
      exact k1.join k2 (by omega) (by omega) hO
    · exact (h2 s s1 (by rcases hb with rfl | rfl <;> omega)).keep hO (by rcases hb with rfl | rfl <;> omega)
  · exact (h3 s s1 (by omega) s3).keep hO (by omega)
theorem Ph2.last {bs : Nat} (h : Ph2 R f bs n a) (hb : bs = 20 ∨ bs = 40) (han : a + bs < n) (hn : n < a + 2 * bs) (hO : SOut R f g a n) : BS R g (2 * bs) n := by
  obtain ⟨k1, k2⟩ := h.two hb han
  rw [show min (a + 2 * bs) n = n by omega] at k2
  obtain ⟨h1, h2, h3⟩ := h
  intro s s1 s2
  by_cases c : s = a
  · subst c
    rw [show min (s + 2 * bs) n = n by omega]
    exact k1.join k2 (by omega) (by omega) hO
  · rw [show min (s + 2 * bs) n = s + 2 * bs by rcases hb with rfl | rfl <;> omega]
    exact (h2 s s1 (by rcases hb with rfl | rfl <;> omega)).keep hO (by rcases hb with rfl | rfl <;> omega)
theorem Ph2.over {bs : Nat} (h : Ph2 R g bs n a) (hb : bs = 20 ∨ bs = 40) (ha : a ≤ n) (han : n ≤ a + bs) : BS R g (2 * bs) n := by
  obtain ⟨h1, h2, h3⟩ := h
  intro s s1 s2
  by_cases c : s = a
  · subst c
    have k := h3 s (by rcases hb with rfl | rfl <;> omega) (Nat.le_refl _) s2
    rw [show min (s + bs) n = n by omega] at k
    rw [show min (s + 2 * bs) n = n by omega]
    exact k
  · rw [show min (s + 2 * bs) n = s + 2 * bs by rcases hb with rfl | rfl <;> omega]
    exact h2 s s1 (by rcases hb with rfl | rfl <;> omega)
theorem BS.whole {bs : Nat} (h : BS R g bs n) (hb : n ≤ bs) : Blk R g 0 n := by
  by_cases c : n = 0
  · exact Blk.empty (by omega)
  · have k := h 0 (Nat.zero_mod _) (by omega)
    rwa [show min (0 + bs) n = n by omega] at k
end Go.KL
end

section
/- Walks: stable, SortStableFunc. -/
namespace Go.KL
open Go.Proofs
attribute [local irreducible] SC St Fin Sq Ylds Doos Sets Enters Spec CellIs CellsAre Then Ret Rnd Chn resOK ints bools recs arr
set_option maxRecDepth 10000 in
set_option maxHeartbeats 8000000 in
theorem stable_spec {W : World} {N : List Chunk} {bo n : Nat} {R : Nat → Nat} {cap : Value} (hcmp : CmpOK W bo n N cap R) (hn : n ≤ 64) : Spec Try.prog 116 #[.slice (some ⟨bo, 0, none⟩) n n, .int .i64 (n : Int), .func (.func 80) #[] #[cap]] (K W ([(bo, ints 3 n (fun i => (i : Int)) [])] :: N)) (X := { g : Nat → Nat // Blk R g 0 n }) (fun _ => .tuple #[]) (fun g => K W ([(bo, ints 3 n (fun i => (g.1 i : Int)) [])] :: N)) := by
  refine enter (args := [_, _, _]) Try.func116 rfl Try.ntmps116 rfl ?_
  refine c_seq ?_
  refine c_region ?_
  refine s_y (y_assign rfl) rfl rfl rfl ?_
  refine s_nil ?_
  refine f_then ?_
  refine c_seq ?_
  refine c_region ?_
  refine s_y (y_move rfl) rfl rfl rfl ?_
  refine s_y (y_assign rfl) rfl rfl rfl ?_
  refine s_y (y_assign rfl) rfl rfl rfl ?_
  refine s_nil ?_
  refine f_then ?_
  refine c_seq ?_
  refine c_block ?_
  refine c_loopP (α := Nat × (Nat → Nat)) (fun z => [(0, .slice (some ⟨bo, 0, none⟩) n n), (1, .int .i64 (n : Int)), (2, .func (.func 80) #[] #[cap]), (6, .int .i64 20), (7, .int .i64 (z.1 : Int)), (8, .int .i64 ((z.1 + 20 : Nat) : Int))]) (fun z => z.1 ≤ n ∧ Ph1 R z.2 z.1 ∧ ∀ k, k < n → z.2 k < n) (fun z => K W ([(bo, ints 3 n (fun i => (z.2 i : Int)) [])] :: N)) (fun z => n - z.1) (0, fun i => i)
    ⟨rfl, rfl, rfl, rfl, rfl, rfl, trivial⟩ ⟨Nat.zero_le _, ⟨rfl, fun s s1 s2 => by dsimp only at s2; omega, fun _ _ => rfl⟩, fun k hk => hk⟩ (fun w h => h) ?_
  rintro ⟨a, g⟩ ⟨ha, hP, hg⟩
  dsimp only at ha hP hg ⊢
  have hasc : ∀ b, ∀ p q, a ≤ p → p < q → q < b → g p < g q := fun b p q h1 h2 h3 => by
    rw [hP.2.2 p h1, hP.2.2 q (by omega)]
    exact h2
  by_cases hb : a + 20 ≤ n
  · have hI := insertion_spec (a := a) (b := a + 20) hcmp (by omega) hb (by omega) hg (hasc _)
    have hnx : ∀ h, SOut R g h a (a + 20) → Ph1 R h (a + 20) ∧ ∀ k, k < n → h k < n := fun h hO => ⟨hP.next hO, hO.bd hg hb⟩
    clear hP hg hasc hcmp
    refine c_seq ?_
    refine c_seq ?_
    refine c_region ?_
    refine s_y (y_move rfl) rfl rfl rfl ?_
    refine s_y (y_move rfl) rfl rfl rfl ?_
    refine s_y (y_T (y_leq rfl rfl) (by omega)) rfl rfl rfl ?_
    refine s_nil ?_
    refine f_then ?_
    refine c_condT rfl ?_
    refine c_skip ?_
    refine f_then ?_
    refine c_block ?_
    refine c_seq ?_
    refine c_region ?_
    refine s_y (y_move rfl) rfl rfl rfl ?_
    refine s_y (y_move rfl) rfl rfl rfl ?_
    refine s_y (y_move rfl) rfl rfl rfl ?_
    refine s_y (y_move rfl) rfl rfl rfl ?_
    refine s_call (en_f rfl Try.call137) hI rfl rfl rfl (fun h => ?_)
    have hh := hnx h.1 h.2
    clear hnx hI
    refine s_nil ?_
    refine f_then ?_
    refine c_seq ?_
    refine c_region ?_
    refine s_y (y_move rfl) rfl rfl rfl ?_
    refine s_y (y_assign rfl) rfl rfl rfl ?_
    refine s_nil ?_
    refine f_then ?_
    refine c_region ?_
    refine s_y (y_move rfl) rfl rfl rfl ?_
    refine s_y (y_move rfl) rfl rfl rfl ?_
    refine s_y (y_add rfl rfl (by omega)) rfl rfl rfl ?_
    refine s_y (y_assign rfl) rfl rfl rfl ?_
    refine s_nil ?_
    refine f_blockN ?_
    exact f_roundP (a + 20, h.1) ⟨hb, hh.1, hh.2⟩ (by dsimp only; omega) ⟨rfl, rfl, rfl, rfl, rfl, rfl, trivial⟩ (fun w h => h)
  · have hI := insertion_spec (a := a) (b := n) hcmp ha (Nat.le_refl n) (by omega) hg (hasc _)
    have hnx : ∀ h, SOut R g h a n → BS R h 20 n ∧ ∀ k, k < n → h k < n := fun h hO => ⟨hP.done ha (by omega) hO, hO.bd hg (Nat.le_refl n)⟩
    clear hP hg hasc
    refine c_seq ?_
    refine c_seq ?_
    refine c_region ?_
    refine s_y (y_move rfl) rfl rfl rfl ?_
    refine s_y (y_move rfl) rfl rfl rfl ?_
    refine s_y (y_F (y_leq rfl rfl) (by omega)) rfl rfl rfl ?_
    refine s_nil ?_
    refine f_then ?_
    refine c_condF rfl ?_
    refine c_exit ?_
    refine f_thenE ?_
    refine f_rndE ?_
    refine f_blockE ?_
    refine f_then ?_
    refine c_seq ?_
    refine c_region ?_
    refine s_y (y_move rfl) rfl rfl rfl ?_
    refine s_y (y_move rfl) rfl rfl rfl ?_
    refine s_y (y_move rfl) rfl rfl rfl ?_
    refine s_y (y_move rfl) rfl rfl rfl ?_
    refine s_call (en_f rfl Try.call137) hI rfl rfl rfl (fun h => ?_)
    obtain ⟨h, hO⟩ := h
    obtain ⟨hB, hh⟩ := hnx h hO
    dsimp only
    clear hnx hI hO hb ha
    refine s_nil ?_
    refine f_then ?_
    refine c_block ?_
    refine c_loopP (α := Nat × (Nat → Nat)) (fun z => [(0, .slice (some ⟨bo, 0, none⟩) n n), (1, .int .i64 (n : Int)), (2, .func (.func 80) #[] #[cap]), (6, .int .i64 (z.1 : Int))]) (fun z => (z.1 = 20 ∨ z.1 = 40 ∨ z.1 = 80) ∧ BS R z.2 z.1 n ∧ ∀ k, k < n → z.2 k < n) (fun z => K W ([(bo, ints 3 n (fun i => (z.2 i : Int)) [])] :: N)) (fun z => 100 - z.1) (20, h)
      ⟨rfl, rfl, rfl, rfl, trivial⟩ ⟨.inl rfl, hB, hh⟩ (fun w h => h) ?_
    clear hB hh
    rintro ⟨bs, h⟩ ⟨hbs, hB, hh⟩
    dsimp only at hbs hB hh ⊢
    by_cases hlt : bs < n
    · have hb2 : bs = 20 ∨ bs = 40 := by omega
      have hS := Ph2.start hB hb2
      clear hB hbs
      refine c_seq ?_
      refine c_seq ?_
      refine c_region ?_
      refine s_y (y_move rfl) rfl rfl rfl ?_
      refine s_y (y_move rfl) rfl rfl rfl ?_
      refine s_y (y_T (y_lss rfl rfl) (by omega)) rfl rfl rfl ?_
      refine s_nil ?_
      refine f_then ?_
      refine c_condT rfl ?_
      refine c_skip ?_
      refine f_then ?_
      refine c_block ?_
      refine c_seq ?_
      refine c_region ?_
      refine s_y (y_move rfl) rfl rfl rfl ?_
      refine s_y (y_mul rfl rfl (by omega)) rfl rfl rfl ?_
      refine s_y (y_assign rfl) rfl rfl rfl ?_
      refine s_y (y_assign rfl) rfl rfl rfl ?_
      refine s_nil ?_
      refine f_then ?_
      refine c_seq ?_
      refine c_block ?_
      refine c_loopP (α := Nat × (Nat → Nat)) (fun z => [(0, .slice (some ⟨bo, 0, none⟩) n n), (1, .int .i64 (n : Int)), (2, .func (.func 80) #[] #[cap]), (6, .int .i64 (bs : Int)), (7, .int .i64 (z.1 : Int)), (8, .int .i64 ((z.1 + 2 * bs : Nat) : Int))]) (fun z => z.1 ≤ n ∧ Ph2 R z.2 bs n z.1 ∧ ∀ k, k < n → z.2 k < n) (fun z => K W ([(bo, ints 3 n (fun i => (z.2 i : Int)) [])] :: N)) (fun z => n - z.1) (0, h)
        ⟨rfl, rfl, rfl, rfl, rfl, congrArg (fun z => some (Value.int .i64 z)) (by dsimp only; omega), trivial⟩ ⟨Nat.zero_le _, hS, hh⟩ (fun w h => h) ?_
      clear hS hh
      rintro ⟨a, h⟩ ⟨ha, hS, hh⟩
      dsimp only at ha hS hh ⊢
      have eab : (a : Int) + (bs : Int) = ((a + bs : Nat) : Int) := by omega
      by_cases hb : a + 2 * bs ≤ n
      · have hM := (hS.two hb2 (by omega))
        rw [show min (a + 2 * bs) n = a + 2 * bs by omega] at hM
        have hI := symMerge_spec hcmp (by omega) (2 * bs) (a := a) (m := a + bs) (b := a + 2 * bs) (f := h) (by omega) (by omega) (by omega) hb hh (hM.1.mrg hM.2)
        have hnx : ∀ h2, SOut R h h2 a (a + 2 * bs) → Ph2 R h2 bs n (a + 2 * bs) ∧ ∀ k, k < n → h2 k < n := fun h2 hO => ⟨hS.next hb2 hb hO, hO.bd hh hb⟩
        clear hM hS hh hcmp
        refine c_seq ?_
        refine c_seq ?_
        refine c_region ?_
        refine s_y (y_move rfl) rfl rfl rfl ?_
        refine s_y (y_move rfl) rfl rfl rfl ?_
        refine s_y (y_T (y_leq rfl rfl) (by omega)) rfl rfl rfl ?_
        refine s_nil ?_
        refine f_then ?_
        refine c_condT rfl ?_
        refine c_skip ?_
        refine f_then ?_
        refine c_block ?_
        refine c_seq ?_
        refine c_region ?_
        refine s_y (y_move rfl) rfl rfl rfl ?_
        refine s_y (y_move rfl) rfl rfl rfl ?_
        refine s_y (y_move rfl) rfl rfl rfl ?_
        refine s_y (y_move rfl) rfl rfl rfl ?_
        refine s_y (y_add rfl rfl (by omega)) rfl rfl rfl ?_
        refine s_y (y_move rfl) rfl rfl rfl ?_
        refine s_y (y_move rfl) rfl rfl rfl ?_
        rw [eab]
        refine s_call (en_f rfl Try.call138) hI rfl rfl rfl (fun h2 => ?_)
        have hh := hnx h2.1 h2.2
        clear hnx hI
        refine s_nil ?_
        refine f_then ?_
        refine c_seq ?_
        refine c_region ?_
        refine s_y (y_move rfl) rfl rfl rfl ?_
        refine s_y (y_assign rfl) rfl rfl rfl ?_
        refine s_nil ?_
        refine f_then ?_
        refine c_region ?_
        refine s_y (y_move rfl) rfl rfl rfl ?_
        refine s_y (y_move rfl) rfl rfl rfl ?_
        refine s_y (y_mul rfl rfl (by omega)) rfl rfl rfl ?_
        refine s_y (y_add rfl rfl (by omega)) rfl rfl rfl ?_
        refine s_y (y_assign rfl) rfl rfl rfl ?_
        refine s_nil ?_
        refine f_blockN ?_
        exact f_roundP (a + 2 * bs, h2.1) ⟨hb, hh.1, hh.2⟩ (by dsimp only; omega) ⟨rfl, rfl, rfl, rfl, rfl, congrArg (fun z => some (Value.int .i64 z)) (by dsimp only; omega), trivial⟩ (fun w h => h)
      · by_cases hm : a + bs < n
        · have hM := (hS.two hb2 hm)
          rw [show min (a + 2 * bs) n = n by omega] at hM
          have hI := symMerge_spec hcmp (by omega) (2 * bs) (a := a) (m := a + bs) (b := n) (f := h) (by omega) (by omega) (by omega) (Nat.le_refl n) hh (hM.1.mrg hM.2)
          have hnx : ∀ h2, SOut R h h2 a n → BS R h2 (2 * bs) n ∧ ∀ k, k < n → h2 k < n := fun h2 hO => ⟨hS.last hb2 hm (by omega) hO, hO.bd hh (Nat.le_refl n)⟩
          clear hM hS hh hcmp
          refine c_seq ?_
          refine c_seq ?_
          refine c_region ?_
          refine s_y (y_move rfl) rfl rfl rfl ?_
          refine s_y (y_move rfl) rfl rfl rfl ?_
          refine s_y (y_F (y_leq rfl rfl) (by omega)) rfl rfl rfl ?_
          refine s_nil ?_
          refine f_then ?_
          refine c_condF rfl ?_
          refine c_exit ?_
          refine f_thenE ?_
          refine f_rndE ?_
          refine f_blockE ?_
          refine f_then ?_
          refine c_seq ?_
          refine c_seq ?_
          refine c_region ?_
          refine s_y (y_move rfl) rfl rfl rfl ?_
          refine s_y (y_move rfl) rfl rfl rfl ?_
          refine s_y (y_add rfl rfl (by omega)) rfl rfl rfl ?_
          refine s_y (y_assign rfl) rfl rfl rfl ?_
          refine s_nil ?_
          refine f_then ?_
          refine c_seq ?_
          refine c_region ?_
          refine s_y (y_move rfl) rfl rfl rfl ?_
          refine s_y (y_move rfl) rfl rfl rfl ?_
          refine s_y (y_T (y_lss rfl rfl) (by omega)) rfl rfl rfl ?_
          refine s_nil ?_
          refine f_then ?_
          refine c_condT rfl ?_
          refine c_region ?_
          refine s_y (y_move rfl) rfl rfl rfl ?_
          refine s_y (y_move rfl) rfl rfl rfl ?_
          refine s_y (y_move rfl) rfl rfl rfl ?_
          refine s_y (y_move rfl) rfl rfl rfl ?_
          refine s_y (y_move rfl) rfl rfl rfl ?_
          rw [eab]
          skip
          refine s_call (en_f rfl Try.call138) hI rfl rfl rfl (fun h2 => ?_)
          have hh := hnx h2.1 h2.2
          clear hnx hI
          refine s_nil ?_
          refine f_then ?_
          refine c_region ?_
          refine s_y (y_move rfl) rfl rfl rfl ?_
          refine s_y (y_mul rfl rfl (by omega)) rfl rfl rfl ?_
          refine s_y (y_assign rfl) rfl rfl rfl ?_
          refine s_nil ?_
          refine f_blockN ?_
          exact f_roundP (2 * bs, h2.1) ⟨by dsimp only; omega, hh.1, hh.2⟩ (by dsimp only; omega) ⟨rfl, rfl, rfl, congrArg (fun z => some (Value.int .i64 z)) (by dsimp only; omega), trivial⟩ (fun w h => h)
        · have hh2 := hS.over hb2 ha (by omega)
          clear hS hcmp
          refine c_seq ?_
          refine c_seq ?_
          refine c_region ?_
          refine s_y (y_move rfl) rfl rfl rfl ?_
          refine s_y (y_move rfl) rfl rfl rfl ?_
          refine s_y (y_F (y_leq rfl rfl) (by omega)) rfl rfl rfl ?_
          refine s_nil ?_
          refine f_then ?_
          refine c_condF rfl ?_
          refine c_exit ?_
          refine f_thenE ?_
          refine f_rndE ?_
          refine f_blockE ?_
          refine f_then ?_
          refine c_seq ?_
          refine c_seq ?_
          refine c_region ?_
          refine s_y (y_move rfl) rfl rfl rfl ?_
          refine s_y (y_move rfl) rfl rfl rfl ?_
          refine s_y (y_add rfl rfl (by omega)) rfl rfl rfl ?_
          refine s_y (y_assign rfl) rfl rfl rfl ?_
          refine s_nil ?_
          refine f_then ?_
          refine c_seq ?_
          refine c_region ?_
          refine s_y (y_move rfl) rfl rfl rfl ?_
          refine s_y (y_move rfl) rfl rfl rfl ?_
          refine s_y (y_F (y_lss rfl rfl) (by omega)) rfl rfl rfl ?_
          refine s_nil ?_
          refine f_then ?_
          refine c_condF rfl ?_
          refine c_skip ?_
          refine f_then ?_
          refine c_region ?_
          refine s_y (y_move rfl) rfl rfl rfl ?_
          refine s_y (y_mul rfl rfl (by omega)) rfl rfl rfl ?_
          refine s_y (y_assign rfl) rfl rfl rfl ?_
          refine s_nil ?_
          refine f_blockN ?_
          exact f_roundP (2 * bs, h) ⟨by dsimp only; omega, hh2, hh⟩ (by dsimp only; omega) ⟨rfl, rfl, rfl, congrArg (fun z => some (Value.int .i64 z)) (by dsimp only; omega), trivial⟩ (fun w h => h)
    · have hW := hB.whole (by omega)
      clear hB hh hcmp
      refine c_seq ?_
      refine c_seq ?_
      refine c_region ?_
      refine s_y (y_move rfl) rfl rfl rfl ?_
      refine s_y (y_move rfl) rfl rfl rfl ?_
      refine s_y (y_F (y_lss rfl rfl) (by omega)) rfl rfl rfl ?_
      refine s_nil ?_
      refine f_then ?_
      refine c_condF rfl ?_
      refine c_exit ?_
      refine f_thenE ?_
      refine f_rndE ?_
      refine f_blockE ?_
      exact f_end ⟨h, hW⟩ (res0 rfl) (fun w h => h)
set_option maxRecDepth 10000 in
theorem sortStable_spec {W : World} {N : List Chunk} {bo n : Nat} {R : Nat → Nat} {cap : Value} (hcmp : CmpOK W bo n N cap R) (hn : n ≤ 64) : Spec Try.prog 79 #[.slice (some ⟨bo, 0, none⟩) n n, .func (.func 80) #[] #[cap]] (K W ([(bo, ints 3 n (fun i => (i : Int)) [])] :: N)) (X := { g : Nat → Nat // Blk R g 0 n }) (fun _ => .tuple #[]) (fun g => K W ([(bo, ints 3 n (fun i => (g.1 i : Int)) [])] :: N)) := by
  have hI := stable_spec hcmp hn
  clear hcmp
  refine enter (args := [_, _]) Try.func79 rfl Try.ntmps79 rfl ?_
  refine c_region ?_
  refine s_y (y_move rfl) rfl rfl rfl ?_
  refine s_y (y_move rfl) rfl rfl rfl ?_
  refine s_y (y_len Try.tab rfl rfl) rfl rfl rfl ?_
  refine s_y (y_move rfl) rfl rfl rfl ?_
  refine s_call (en_f rfl Try.call116) hI rfl rfl rfl (fun g => ?_)
  refine s_nil ?_
  exact f_end g (res0 rfl) (fun w h => h)
end Go.KL
end

section
/- Walks: math/bits.Mul64, and Div64 where the upper half is 0. -/
namespace Go.KL
open Go.Proofs
section
variable {P : Program} {n : Nat} {σ : Slots} {C : World → Prop} {dst : Option Tmp} {ty : TypeId} {pos : String} {after : Array Edge} {guard : Option (Nat × Bool)}
theorem y_andU {x y : Operand} {t t' : TypeId} {p q : Nat} (hx : ev σ x = some (.int .u64 (p : Int))) (hy : ev σ y = some (.int .u64 (q : Int))) (hb : p < 18446744073709551616 ∧ q < 18446744073709551616) :
    Ylds P n σ C ⟨dst, .binOp .and t x y t', ty, pos, after, guard⟩ (.int .u64 ((p &&& q : Nat) : Int)) := by
  intro a w hE _
  have h1 : (BitVec.ofInt 64 (p : Int) &&& BitVec.ofInt 64 (q : Int)).toNat = p &&& q := by rw [BitVec.toNat_and, toNat_ofInt64 hb.1, toNat_ofInt64 hb.2]
  have h2 : p &&& q < 2 ^ 64 := Nat.and_lt_two_pow _ (by omega)
  have h3 : IntKind.u64.wrap ((p &&& q : Nat) : Int) = ((p &&& q : Nat) : Int) := IntWalk.u64_in _ (by omega)
  have h4 : (Op.intBits .and .u64 p q).run P w = .ok (.int .u64 ((p &&& q : Nat) : Int)) w := by
    exact congrArg (fun z => Result.ok (Value.int _ z) w) (by rw [← h1] at h3 ⊢; exact h3)
  simp only [execOp, ev_eval hE hx, ev_eval hE hy, binOp, eqGuard]
  simp [h4]
theorem y_low32 {x y : Operand} {t t' : TypeId} {p : Nat} (hx : ev σ x = some (.int .u64 (p : Int))) (hy : ev σ y = some (.int .u64 4294967295)) (hb : p < 18446744073709551616) :
    Ylds P n σ C ⟨dst, .binOp .and t x y t', ty, pos, after, guard⟩ (.int .u64 ((p % 4294967296 : Nat) : Int)) := by
  have h := y_andU (C := C) (P := P) (n := n) (dst := dst) (ty := ty) (pos := pos) (after := after) (guard := guard) (t := t) (t' := t') (p := p) (q := 4294967295) hx hy ⟨hb, by omega⟩
  have e : p &&& 4294967295 = p % 4294967296 := Nat.and_two_pow_sub_one_eq_mod p 32
  rwa [e] at h
end
theorem prodH {a b : Nat} (ha : a < 4294967296) (hb : b < 4294967296) : (a : Int) * (b : Int) = ((a * b : Nat) : Int) ∧ a * b ≤ 18446744065119617025 := ⟨(Int.natCast_mul a b).symm, Nat.mul_le_mul (Nat.le_of_lt_succ ha) (Nat.le_of_lt_succ hb)⟩
attribute [local irreducible] SC St Fin Sq Ylds Doos Sets Enters Spec CellIs CellsAre Then Ret Rnd Chn resOK ints bools recs arr
set_option maxRecDepth 10000 in
set_option maxHeartbeats 8000000 in
theorem mul64_spec {C : World → Prop} {x y : Nat} (hx : x < 18446744073709551616) (hy : y < 18446744073709551616) : Spec Try.prog 77 #[.int .u64 (x : Int), .int .u64 (y : Int)] C (fun _ : Unit => .tuple #[.int .u64 ((x * y / 18446744073709551616 : Nat) : Int), .int .u64 ((x * y % 18446744073709551616 : Nat) : Int)]) (fun _ => C) := by
  obtain ⟨b1, b2, b3, b4⟩ := Lib.mul64_hi x y hx hy
  have hxy : (x : Int) * (y : Int) % 18446744073709551616 = ((x * y % 18446744073709551616 : Nat) : Int) := by
    rw [← Int.natCast_mul]
    omega
  have x0b : x % 4294967296 < 4294967296 := Nat.mod_lt _ (by decide)
  have y0b : y % 4294967296 < 4294967296 := Nat.mod_lt _ (by decide)
  have x1b : x / 4294967296 < 4294967296 := by omega
  have y1b : y / 4294967296 < 4294967296 := by omega
  have ex1 : (x : Int) / 4294967296 = ((x / 4294967296 : Nat) : Int) := by omega
  have ey1 : (y : Int) / 4294967296 = ((y / 4294967296 : Nat) : Int) := by omega
  rw [← b4]
  refine enter (args := [_, _]) Try.func77 rfl Try.ntmps77 rfl ?_
  refine c_seq ?_
  refine c_region ?_
  refine s_y (y_assign rfl) rfl rfl rfl ?_
  refine s_y (y_assign rfl) rfl rfl rfl ?_
  refine s_nil ?_
  refine f_then ?_
  refine c_seq ?_
  refine c_region ?_
  refine s_y (y_move rfl) rfl rfl rfl ?_
  refine s_y (y_low32 rfl rfl hx) rfl rfl rfl ?_
  refine s_y (y_assign rfl) rfl rfl rfl ?_
  refine s_nil ?_
  refine f_then ?_
  refine c_seq ?_
  refine c_region ?_
  refine s_y (y_move rfl) rfl rfl rfl ?_
  refine s_y (y_shrU (d := 4294967296) rfl rfl (by decide) rfl) rfl rfl rfl ?_
  refine s_y (y_assign rfl) rfl rfl rfl ?_
  refine s_nil ?_
  refine f_then ?_
  refine c_seq ?_
  refine c_region ?_
  refine s_y (y_move rfl) rfl rfl rfl ?_
  refine s_y (y_low32 rfl rfl hy) rfl rfl rfl ?_
  refine s_y (y_assign rfl) rfl rfl rfl ?_
  refine s_nil ?_
  refine f_then ?_
  refine c_seq ?_
  refine c_region ?_
  refine s_y (y_move rfl) rfl rfl rfl ?_
  refine s_y (y_shrU (d := 4294967296) rfl rfl (by decide) rfl) rfl rfl rfl ?_
  refine s_y (y_assign rfl) rfl rfl rfl ?_
  refine s_nil ?_
  refine f_then ?_
  refine c_seq ?_
  refine c_region ?_
  refine s_y (y_move rfl) rfl rfl rfl ?_
  refine s_y (y_move rfl) rfl rfl rfl ?_
  refine s_y (y_mulU rfl rfl (by omega)) rfl rfl rfl ?_
  refine s_y (y_assign rfl) rfl rfl rfl ?_
  refine s_nil ?_
  refine f_then ?_
  refine c_seq ?_
  refine c_region ?_
  refine s_y (y_move rfl) rfl rfl rfl ?_
  refine s_y (y_move rfl) rfl rfl rfl ?_
  rw [ex1, ey1]
  generalize x % 4294967296 = x0 at *
  generalize y % 4294967296 = y0 at *
  generalize x / 4294967296 = x1 at *
  generalize y / 4294967296 = y1 at *
  obtain ⟨e00, m00⟩ := prodH x0b y0b
  obtain ⟨e10, m10⟩ := prodH x1b y0b
  obtain ⟨e01, m01⟩ := prodH x0b y1b
  obtain ⟨e11, m11⟩ := prodH x1b y1b
  generalize x0 * y0 = p00 at *
  generalize x1 * y0 = p10 at *
  generalize x0 * y1 = p01 at *
  generalize x1 * y1 = p11 at *
  rw [e00]
  refine s_y (y_mulU rfl rfl (by omega)) rfl rfl rfl ?_
  refine s_y (y_move rfl) rfl rfl rfl ?_
  refine s_y (y_shrU (d := 4294967296) rfl rfl (by decide) rfl) rfl rfl rfl ?_
  refine s_y (y_addU rfl rfl (by omega)) rfl rfl rfl ?_
  refine s_y (y_assign rfl) rfl rfl rfl ?_
  refine s_nil ?_
  refine f_then ?_
  refine c_seq ?_
  refine c_region ?_
  refine s_y (y_move rfl) rfl rfl rfl ?_
  rw [e10, show (p10 : Int) + (p00 : Int) / 4294967296 = ((p10 + p00 / 4294967296 : Nat) : Int) by omega]
  generalize p10 + p00 / 4294967296 = t at *
  refine s_y (y_low32 rfl rfl b2) rfl rfl rfl ?_
  refine s_y (y_assign rfl) rfl rfl rfl ?_
  refine s_nil ?_
  refine f_then ?_
  refine c_seq ?_
  refine c_region ?_
  refine s_y (y_move rfl) rfl rfl rfl ?_
  refine s_y (y_shrU (d := 4294967296) rfl rfl (by decide) rfl) rfl rfl rfl ?_
  refine s_y (y_assign rfl) rfl rfl rfl ?_
  refine s_nil ?_
  refine f_then ?_
  refine c_seq ?_
  refine c_region ?_
  refine s_y (y_move rfl) rfl rfl rfl ?_
  refine s_y (y_move rfl) rfl rfl rfl ?_
  refine s_y (y_move rfl) rfl rfl rfl ?_
  refine s_y (y_mulU rfl rfl (by omega)) rfl rfl rfl ?_
  refine s_y (y_addU rfl rfl (by omega)) rfl rfl rfl ?_
  refine s_y (y_assign rfl) rfl rfl rfl ?_
  refine s_nil ?_
  refine f_then ?_
  refine c_seq ?_
  refine c_region ?_
  refine s_y (y_move rfl) rfl rfl rfl ?_
  refine s_y (y_move rfl) rfl rfl rfl ?_
  refine s_y (y_mulU rfl rfl (by omega)) rfl rfl rfl ?_
  refine s_y (y_move rfl) rfl rfl rfl ?_
  refine s_y (y_addU rfl rfl (by omega)) rfl rfl rfl ?_
  refine s_y (y_move rfl) rfl rfl rfl ?_
  refine s_y (y_shrU (d := 4294967296) rfl rfl (by decide) rfl) rfl rfl rfl ?_
  refine s_y (y_addU rfl rfl (by omega)) rfl rfl rfl ?_
  refine s_y (y_assign rfl) rfl rfl rfl ?_
  refine s_nil ?_
  refine f_then ?_
  refine c_seq ?_
  refine c_region ?_
  refine s_y (y_move rfl) rfl rfl rfl ?_
  refine s_y (y_move rfl) rfl rfl rfl ?_
  refine s_y (y_mulM rfl rfl) rfl rfl rfl ?_
  rw [hxy, e11, e01, show (p11 : Int) + (t : Int) / 4294967296 + (((t % 4294967296 : Nat) : Int) + (p01 : Int)) / 4294967296 = ((p11 + t / 4294967296 + (t % 4294967296 + p01) / 4294967296 : Nat) : Int) by omega]
  refine s_y (y_assign rfl) rfl rfl rfl ?_
  refine s_nil ?_
  refine f_then ?_
  refine c_ret ?_
  exact f_ret () (res2 rfl rfl rfl) (fun w h => h)
set_option maxRecDepth 10000 in
set_option maxHeartbeats 8000000 in
theorem div64_easy {W : World} {N : List Chunk} {lo y : Nat} (hl : lo < 18446744073709551616) (hy : 0 < y) : Spec Try.prog 78 #[.int .u64 0, .int .u64 (lo : Int), .int .u64 (y : Int)] (K W N) (fun _ : Unit => .tuple #[.int .u64 ((lo / y : Nat) : Int), .int .u64 ((lo % y : Nat) : Int)]) (fun _ => K W N) := by
  have e1 : (lo : Int) / (y : Int) = ((lo / y : Nat) : Int) := (Int.natCast_ediv lo y).symm
  have e2 : (lo : Int) % (y : Int) = ((lo % y : Nat) : Int) := (Int.natCast_emod lo y).symm
  rw [← e1, ← e2]
  clear e1 e2
  refine enter (args := [_, _, _]) Try.func78 rfl Try.ntmps78 rfl ?_
  refine c_seq ?_
  refine c_region ?_
  refine s_y (y_assign rfl) rfl rfl rfl ?_
  refine s_y (y_assign rfl) rfl rfl rfl ?_
  refine s_nil ?_
  refine f_then ?_
  refine c_seq ?_
  refine c_seq ?_
  refine c_region ?_
  refine s_y (y_move rfl) rfl rfl rfl ?_
  refine s_y (y_F (y_eql rfl rfl) (by omega)) rfl rfl rfl ?_
  refine s_nil ?_
  refine f_then ?_
  refine c_condF rfl ?_
  refine c_skip ?_
  refine f_then ?_
  refine c_seq ?_
  refine c_seq ?_
  refine c_region ?_
  refine s_y (y_move rfl) rfl rfl rfl ?_
  refine s_y (y_move rfl) rfl rfl rfl ?_
  refine s_y (y_F (y_leq rfl rfl) (by omega)) rfl rfl rfl ?_
  refine s_nil ?_
  refine f_then ?_
  refine c_condF rfl ?_
  refine c_skip ?_
  refine f_then ?_
  refine c_seq ?_
  refine c_seq ?_
  refine c_region ?_
  refine s_y (y_move rfl) rfl rfl rfl ?_
  refine s_y (y_T (y_eql rfl rfl) (by omega)) rfl rfl rfl ?_
  refine s_nil ?_
  refine f_then ?_
  refine c_condT rfl ?_
  refine c_seq ?_
  refine c_quiet Try.mixed (by kernel_rfl) K.drew ?_
  refine q_y (y_move rfl) rfl rfl rfl ?_
  refine q_y (y_move rfl) rfl rfl rfl ?_
  refine q_y (y_quoU rfl rfl (by omega)) rfl rfl rfl ?_
  refine q_y (y_move rfl) rfl rfl rfl ?_
  refine q_y (y_move rfl) rfl rfl rfl ?_
  refine q_y (y_remK rfl rfl (by omega)) rfl rfl rfl ?_
  refine q_y (y_assign rfl) rfl rfl rfl ?_
  refine q_y (y_assign rfl) rfl rfl rfl ?_
  refine q_nil ?_
  refine f_then ?_
  refine c_ret ?_
  refine f_thenR ?_
  exact f_ret () (res2 rfl rfl rfl) (fun w h => h)
end Go.KL
end

section
/- Dividing by the greatest remainders; plain. No program in sight. -/
namespace Go.KL
/-- One more draw for the first k in order. -/
def Lf (q g : Nat → Nat) : Nat → Nat → Nat
  | 0 => q
  | k + 1 => upd (Lf q g k) (g k) (Lf q g k (g k) + 1)
theorem Lf_out {q g : Nat → Nat} : ∀ {k i : Nat}, (∀ j, j < k → g j ≠ i) → Lf q g k i = q i
  | 0, _, _ => rfl
  | k + 1, i, h => by
    rw [Lf, upd_get, if_neg (fun e => h k (Nat.lt_succ_self k) e.symm)]
    exact Lf_out fun j hj => h j (by omega)
theorem Lf_in {q g : Nat → Nat} : ∀ {k i : Nat}, (∀ j j', j < k → j' < k → g j = g j' → j = j') → (∃ j, j < k ∧ g j = i) → Lf q g k i = q i + 1
  | 0, _, _, h => by
    obtain ⟨j, hj, _⟩ := h
    omega
  | k + 1, i, hinj, h => by
    obtain ⟨j, hj, e⟩ := h
    rw [Lf, upd_get]
    by_cases c : i = g k
    · rw [if_pos c, Lf_out (i := g k), c]
      intro j' hj' e'
      have := hinj j' k (by omega) (by omega) e'
      omega
    · rw [if_neg c]
      refine Lf_in (fun a b ha hb => hinj a b (by omega) (by omega)) ⟨j, ?_, e⟩
      rcases Nat.lt_succ_iff_lt_or_eq.1 hj with h | h
      · exact h
      · exact absurd (by rw [← e, h]) c
theorem psum_upd {T : Nat → Nat} {i : Nat} : ∀ {m : Nat}, i < m → psum (upd T i (T i + 1)) 0 m = psum T 0 m + 1
  | 0, h => absurd h (Nat.not_lt_zero _)
  | m + 1, h => by
    rw [psum, psum, Nat.zero_add, upd_get]
    by_cases c : m = i
    · rw [if_pos c, psum_congr (T' := T) fun j hj => by rw [Nat.zero_add, upd_get, if_neg (by omega)], c]
      omega
    · rw [if_neg c, psum_upd (by omega)]
      omega
theorem Lf_sum {q g : Nat → Nat} {m : Nat} (hg : ∀ i, i < m → g i < m) : ∀ {k : Nat}, k ≤ m → psum (Lf q g k) 0 m = psum q 0 m + k
  | 0, _ => rfl
  | k + 1, h => by
    have ih := Lf_sum hg (q := q) (k := k) (by omega)
    rw [Lf, psum_upd (hg k (by omega)), ih, Nat.add_assoc]
/-- A row without repetition of numbers below m is not longer than m. -/
theorem nodup_len : ∀ (m : Nat) {l : List Nat}, l.Nodup → (∀ x ∈ l, x < m) → l.length ≤ m
  | 0, l, _, h => by
    cases l with
    | nil => exact Nat.le_refl 0
    | cons a r => exact absurd (h a (List.mem_cons_self ..)) (Nat.not_lt_zero _)
  | m + 1, l, hn, h => by
    by_cases c : m ∈ l
    · have h1 := nodup_len m (hn.erase m) (fun x hx => by
        have := (hn.mem_erase_iff).1 hx
        have := h x this.2
        omega)
      rw [List.length_erase_of_mem c] at h1
      omega
    · have := nodup_len m hn (fun x hx => by
        have := h x hx
        by_cases e : x = m
        · subst e; exact absurd hx c
        · omega)
      omega
theorem nodup_perm : ∀ (m : Nat) {l : List Nat}, l.Nodup → (∀ x ∈ l, x < m) → l.length = m → l.Perm (List.range m)
  | 0, l, _, _, hl => by
    rw [List.eq_nil_of_length_eq_zero hl]
    exact List.Perm.refl _
  | m + 1, l, hn, h, hl => by
    by_cases c : m ∈ l
    · have h1 := nodup_perm m (hn.erase m) (fun x hx => by
        have := (hn.mem_erase_iff).1 hx
        have := h x this.2
        omega) (by rw [List.length_erase_of_mem c, hl]; rfl)
      have h2 := List.perm_cons_erase c
      refine h2.trans ((List.Perm.cons m h1).trans ?_)
      rw [List.range_succ]
      exact (List.perm_append_singleton m (List.range m)).symm
    · have := nodup_len m hn (fun x hx => by
        have := h x hx
        by_cases e : x = m
        · subst e; exact absurd hx c
        · omega)
      omega
theorem psum_list {T : Nat → Nat} : ∀ (m : Nat), psum T 0 m = ((List.range m).map T).sum
  | 0 => rfl
  | m + 1 => by
    rw [psum, psum_list m, List.range_succ, List.map_append, List.sum_append_nat, Nat.zero_add]
    simp
/-- A whole block is a rearrangement. -/
theorem Blk.inj {R g : Nat → Nat} {m i j : Nat} (h : Blk R g 0 m) (hi : i < m) (hj : j < m) (e : g i = g j) : i = j := by
  rcases Nat.lt_trichotomy i j with c | c | c
  · have := h.srt i j (Nat.zero_le _) c hj
    rw [e] at this
    exact absurd this ltR_irr
  · exact c
  · have := h.srt j i (Nat.zero_le _) c hi
    rw [e] at this
    exact absurd this ltR_irr
theorem Blk.perm {R g : Nat → Nat} {m : Nat} (h : Blk R g 0 m) : ((List.range m).map g).Perm (List.range m) := by
  refine nodup_perm m ?_ (fun x hx => ?_) (by simp)
  · rw [List.nodup_iff_pairwise_ne] 
    refine List.pairwise_map.2 ?_
    have h1 : (List.range m).Pairwise (· < ·) := List.pairwise_lt_range
    refine h1.imp_of_mem fun {a b} ha hb hab e => ?_
    have := h.inj (List.mem_range.1 ha) (List.mem_range.1 hb) e
    omega
  · obtain ⟨i, hi, rfl⟩ := List.mem_map.1 hx
    exact (h.rng i (Nat.zero_le _) (List.mem_range.1 hi)).2
theorem Blk.sum {R g : Nat → Nat} {m : Nat} (h : Blk R g 0 m) (T : Nat → Nat) : psum (fun k => T (g k)) 0 m = psum T 0 m := by
  rw [psum_list, psum_list]
  have h1 := (h.perm.map T).sum_nat
  rw [List.map_map] at h1
  exact h1
theorem Blk.onto {R g : Nat → Nat} {m i : Nat} (h : Blk R g 0 m) (hi : i < m) : ∃ k, k < m ∧ g k = i := by
  have h1 : i ∈ (List.range m).map g := (h.perm.mem_iff).2 (List.mem_range.2 hi)
  obtain ⟨k, hk, e⟩ := List.mem_map.1 h1
  exact ⟨k, List.mem_range.1 hk, e⟩
end Go.KL
end

section
/- Shares by the greatest remainders: what is left over, and to whom it goes; plain. No program in sight. -/
namespace Go.KL
def qF (n T : Nat) (F : Nat → Nat) (i : Nat) : Nat := n * F i / T
def rF (n T : Nat) (F : Nat → Nat) (i : Nat) : Nat := n * F i % T
theorem qr_sum {n T : Nat} {F : Nat → Nat} : ∀ m, n * psum F 0 m = T * psum (qF n T F) 0 m + psum (rF n T F) 0 m
  | 0 => rfl
  | m + 1 => by
    have ih := qr_sum (n := n) (T := T) (F := F) m
    have h := Nat.div_add_mod (n * F (0 + m)) T
    rw [psum, psum, psum, Nat.mul_add, Nat.mul_add, ih]
    show T * psum (qF n T F) 0 m + psum (rF n T F) 0 m + n * F (0 + m) = T * psum (qF n T F) 0 m + T * (n * F (0 + m) / T) + (psum (rF n T F) 0 m + n * F (0 + m) % T)
    omega
/-- What is left over. -/
def lftF (n T : Nat) (F : Nat → Nat) (m : Nat) : Nat := n - psum (qF n T F) 0 m
theorem lft_eq {n T m : Nat} {F : Nat → Nat} (hT : 0 < T) (h : psum F 0 m = T) : psum (qF n T F) 0 m + lftF n T F m = n ∧ lftF n T F m * T = psum (rF n T F) 0 m := by
  have h1 := qr_sum (n := n) (T := T) (F := F) m
  rw [h] at h1
  have h2 : psum (qF n T F) 0 m ≤ n := by
    refine Nat.le_of_mul_le_mul_left ?_ hT
    rw [Nat.mul_comm T n]
    omega
  refine ⟨by unfold lftF; omega, ?_⟩
  unfold lftF
  rw [Nat.sub_mul, Nat.mul_comm (psum (qF n T F) 0 m) T]
  omega
theorem r_lt {n T i : Nat} {F : Nat → Nat} (hT : 0 < T) : rF n T F i < T := Nat.mod_lt _ hT
theorem rsum_le {n T : Nat} {F : Nat → Nat} (hT : 0 < T) : ∀ m, psum (rF n T F) 0 m ≤ m * (T - 1)
  | 0 => by simp [psum]
  | m + 1 => by
    have ih := rsum_le (n := n) (F := F) hT m
    have := r_lt (n := n) (F := F) (i := 0 + m) hT
    rw [psum, Nat.add_mul, Nat.one_mul]
    omega
theorem lft_le {n T m : Nat} {F : Nat → Nat} (hT : 0 < T) (h : psum F 0 m = T) : lftF n T F m ≤ m := by
  have h1 := (lft_eq (n := n) hT h).2
  have h2 := rsum_le (n := n) (F := F) hT m
  refine Nat.le_of_mul_le_mul_right ?_ hT
  rw [h1]
  exact Nat.le_trans h2 (Nat.mul_le_mul_left m (Nat.sub_le T 1))
/-- Who gets one more has a remainder. -/
theorem chosen_r {n T m k : Nat} {F g : Nat → Nat} (hT : 0 < T) (h : psum F 0 m = T) (hg : Blk (rF n T F) g 0 m) (hk : k < lftF n T F m) : 0 < rF n T F (g k) := by
  apply Classical.byContradiction
  intro hz
  have hkm : k < m := Nat.lt_of_lt_of_le hk (lft_le hT h)
  have h1 := (lft_eq (n := n) hT h).2
  have h2 := hg.sum (rF n T F)
  obtain ⟨d, rfl⟩ : ∃ d, m = k + d := ⟨m - k, by omega⟩
  rw [psum_split, psum_zero (T := fun j => rF n T F (g j)) (lo := 0 + k) (d := d), Nat.add_zero] at h2
  · have h3 : psum (fun j => rF n T F (g j)) 0 k ≤ k * (T - 1) := by
      have h4 : ∀ k, psum (fun j => rF n T F (g j)) 0 k ≤ k * (T - 1) := by
        intro k
        induction k with
        | zero => simp [psum]
        | succ k ih =>
          have := r_lt (n := n) (F := F) (i := g (0 + k)) hT
          rw [psum, Nat.add_mul, Nat.one_mul]
          omega
      exact h4 k
    have h5 : (k + 1) * T ≤ lftF n T F (k + d) * T := Nat.mul_le_mul_right T hk
    have h6 : k * (T - 1) ≤ k * T := Nat.mul_le_mul_left k (Nat.sub_le T 1)
    rw [Nat.add_mul, Nat.one_mul] at h5
    omega
  · intro j hj
    by_cases c : j = 0
    · subst c
      rw [Nat.zero_add, Nat.add_zero]
      omega
    · have := hg.srt k (0 + k + j) (Nat.zero_le _) (by omega) (by omega)
      unfold ltR at this
      omega
structure ShareP (n T : Nat) (F : Nat → Nat) (m : Nat) (L : Nat → Nat) : Prop where
  sum : psum L 0 m = n
  low : ∀ i, i < m → n * F i / T ≤ L i
  high : ∀ i, i < m → L i ≤ n * F i / T + 1
  size : ∀ i, i < m → L i ≤ F i
  rest : ∀ i, i < m → n * F i / T < L i → n * F i % T ≠ 0
theorem share_law {n T m : Nat} {F g : Nat → Nat} (hT : 0 < T) (hn : n ≤ T) (h : psum F 0 m = T) (hg : Blk (rF n T F) g 0 m) : ShareP n T F m (Lf (qF n T F) g (lftF n T F m)) := by
  have hle := lft_le (n := n) hT h
  have hcase : ∀ i, i < m → (Lf (qF n T F) g (lftF n T F m) i = qF n T F i) ∨ (Lf (qF n T F) g (lftF n T F m) i = qF n T F i + 1 ∧ 0 < rF n T F i) := by
    intro i _
    by_cases c : ∃ j, j < lftF n T F m ∧ g j = i
    · right
      refine ⟨Lf_in (fun a b ha hb e => hg.inj (by omega) (by omega) e) c, ?_⟩
      obtain ⟨j, hj, rfl⟩ := c
      exact chosen_r hT h hg hj
    · left
      exact Lf_out fun j hj e => c ⟨j, hj, e⟩
  have hqF : ∀ i, qF n T F i ≤ F i := fun i => by
    unfold qF
    refine Nat.div_le_of_le_mul ?_
    exact Nat.mul_le_mul_right _ hn
  refine ⟨?_, fun i hi => ?_, fun i hi => ?_, fun i hi => ?_, fun i hi hlt => ?_⟩
  · rw [Lf_sum (fun i hi => (hg.rng i (Nat.zero_le _) hi).2) hle]
    exact (lft_eq hT h).1
  · rcases hcase i hi with e | ⟨e, _⟩
    · rw [e]; exact Nat.le_refl _
    · rw [e]; exact Nat.le_succ _
  · rcases hcase i hi with e | ⟨e, _⟩
    · rw [e]; exact Nat.le_succ _
    · rw [e]; exact Nat.le_refl _
  · rcases hcase i hi with e | ⟨e, hr⟩
    · rw [e]; exact hqF i
    · rw [e]
      rcases Nat.lt_or_ge (qF n T F i) (F i) with c | c
      · exact c
      · exfalso
        have h1 : qF n T F i = F i := Nat.le_antisymm (hqF i) c
        have h2 := Nat.div_add_mod (n * F i) T
        have h3 : T * F i ≤ n * F i := by
          unfold qF at h1
          rw [h1] at h2
          omega
        have h4 : n * F i ≤ T * F i := Nat.mul_le_mul_right _ hn
        unfold rF at hr
        rw [show n * F i = T * F i by omega, Nat.mul_mod_right] at hr
        omega
  · rcases hcase i hi with e | ⟨_, hr⟩
    · rw [e] at hlt
      exact absurd hlt (Nat.lt_irrefl _)
    · exact Nat.pos_iff_ne_zero.1 hr
end Go.KL
end

section
/- Walks: Total. -/
namespace Go.KL
open Go.Proofs
/-- The sizes as numbers. -/
def FN (f : Nat → Int) (i : Nat) : Nat := (f i).toNat
/-- Allot's arguments are valid. -/
structure AllP (n : Int) (m : Nat) (f : Nat → Int) : Prop where
  len : m ≤ 64
  size : ∀ i, i < m → 0 ≤ f i ∧ f i ≤ 1099511627776
  n0 : 0 ≤ n
  nt : n ≤ (psum (FN f) 0 m : Nat)
theorem FN_eq {f : Nat → Int} {i : Nat} (h : 0 ≤ f i) : f i = ((FN f i : Nat) : Int) := (Int.toNat_of_nonneg h).symm
theorem tot_le {f : Nat → Int} {m : Nat} : (∀ i, i < m → 0 ≤ f i ∧ f i ≤ 1099511627776) → psum (FN f) 0 m ≤ m * 1099511627776 := by
  intro h
  induction m with
  | zero => simp [psum]
  | succ k ih =>
    have h1 := ih fun i hi => h i (by omega)
    have h2 := h k (by omega)
    have h3 := FN_eq h2.1
    rw [psum, Nat.zero_add]
    omega
attribute [local irreducible] SC St Fin Sq Ylds Doos Sets Enters Spec CellIs CellsAre Then Ret Rnd Chn resOK ints bools recs arr
set_option maxRecDepth 10000 in
set_option maxHeartbeats 4000000 in
theorem total_spec {W : World} {N : List Chunk} {v : Value} {m : Nat} {f : Nat → Int} {n : Int} (hv : SlI (K W N) v m f) (hm : m ≤ 9223372036854775807) : Spec Try.prog 43 #[.int .i64 n, v] (K W N) (X := { z : Int × Bool // (AllP n m f → z = (((psum (FN f) 0 m : Nat) : Int), true)) ∧ (¬ AllP n m f → z.2 = false) }) (fun z => .tuple #[.int .i64 z.1.1, .bool z.1.2]) (fun _ => K W N) := by
  obtain ⟨pa, c, rfl, hc, hcell⟩ := SlV.open1 hv
  refine enter (args := [_, _]) Try.func43 rfl Try.ntmps43 rfl ?_
  by_cases hml : 64 < m
  · have hN : ¬ AllP n m f := fun h => by have := h.len; omega
    refine c_seq ?_
    refine c_region ?_
    refine s_y (y_assign rfl) rfl rfl rfl ?_
    refine s_y (y_assign rfl) rfl rfl rfl ?_
    refine s_nil ?_
    refine f_then ?_
    refine c_seq ?_
    refine c_seq ?_
    refine c_region ?_
    refine s_y (y_move rfl) rfl rfl rfl ?_
    refine s_y (y_len Try.tab rfl rfl) rfl rfl rfl ?_
    refine s_y (y_T (y_gtr rfl rfl) (by omega)) rfl rfl rfl ?_
    refine s_nil ?_
    refine f_then ?_
    refine c_condT rfl ?_
    refine c_seq ?_
    refine c_region ?_
    refine s_y (y_assign rfl) rfl rfl rfl ?_
    refine s_y (y_assign rfl) rfl rfl rfl ?_
    refine s_nil ?_
    refine f_then ?_
    refine c_ret ?_
    refine f_thenR ?_
    exact f_ret ⟨(0, false), fun h => absurd h hN, fun _ => rfl⟩ (res2 rfl rfl rfl) (fun w h => h)
  refine c_seq ?_
  refine c_region ?_
  refine s_y (y_assign rfl) rfl rfl rfl ?_
  refine s_y (y_assign rfl) rfl rfl rfl ?_
  refine s_nil ?_
  refine f_then ?_
  refine c_seq ?_
  refine c_seq ?_
  refine c_region ?_
  refine s_y (y_move rfl) rfl rfl rfl ?_
  refine s_y (y_len Try.tab rfl rfl) rfl rfl rfl ?_
  refine s_y (y_F (y_gtr rfl rfl) (by omega)) rfl rfl rfl ?_
  refine s_nil ?_
  refine f_then ?_
  refine c_condF rfl ?_
  refine c_skip ?_
  refine f_then ?_
  refine c_seq ?_
  refine c_region ?_
  refine s_y (y_assign rfl) rfl rfl rfl ?_
  refine s_nil ?_
  refine f_then ?_
  refine c_seq ?_
  refine c_seq ?_
  refine c_region ?_
  refine s_y (y_assign rfl) rfl rfl rfl ?_
  refine s_nil ?_
  refine f_then ?_
  refine c_block ?_
  refine c_loopP (α := Nat) (fun z => [(0, .int .i64 n), (1, .slice pa m c), (6, .int .i64 ((psum (FN f) 0 z : Nat) : Int)), (7, .int .i64 (z : Int))]) (fun z => z ≤ m ∧ ∀ i, i < z → 0 ≤ f i ∧ f i ≤ 1099511627776) (fun _ => K W N) (fun z => m - z) 0
    ⟨rfl, rfl, rfl, rfl, trivial⟩ ⟨Nat.zero_le _, fun i hi => by omega⟩ (fun w h => h) ?_
  rintro k ⟨hk, hall⟩
  by_cases hlt : k < m
  · obtain ⟨b, o, rfl, hcl⟩ := hcell (by omega)
    have hci := hcl k hlt
    have htk := tot_le hall
    obtain ⟨z, hz⟩ : ∃ z, z = f k := ⟨_, rfl⟩
    rw [← hz] at hci
    by_cases h1 : z < 0
    · have hN : ¬ AllP n m f := fun h => by have := h.size k hlt; omega
      clear hall
      refine c_seq ?_
      refine c_seq ?_
      refine c_region ?_
      refine s_y (y_move rfl) rfl rfl rfl ?_
      refine s_y (y_move rfl) rfl rfl rfl ?_
      refine s_y (y_len Try.tab rfl rfl) rfl rfl rfl ?_
      refine s_y (y_T (y_lss rfl rfl) (by omega)) rfl rfl rfl ?_
      refine s_nil ?_
      refine f_then ?_
      refine c_condT rfl ?_
      refine c_skip ?_
      refine f_then ?_
      refine c_seq ?_
      refine c_block ?_
      refine c_seq ?_
      refine c_seq ?_
      refine c_region ?_
      refine s_y (y_move rfl) rfl rfl rfl ?_
      refine s_y (y_move rfl) rfl rfl rfl ?_
      refine s_y (y_indexAddr1o Try.tab rfl rfl rfl rfl _ rfl (by omega)) rfl rfl rfl ?_
      refine s_y (y_load Try.tab rfl rfl hci) rfl rfl rfl ?_
      refine s_y (y_T (y_lss rfl rfl) (by assumption)) rfl rfl rfl ?_
      refine s_y (y_move rfl) rfl rfl rfl ?_
      iterate 5 refine s_skip rfl rfl rfl ?_
      refine s_y (y_pickT rfl rfl) rfl rfl rfl ?_
      refine s_nil ?_
      refine f_then ?_
      refine c_condT rfl ?_
      refine c_seq ?_
      refine c_region ?_
      refine s_y (y_assign rfl) rfl rfl rfl ?_
      refine s_y (y_assign rfl) rfl rfl rfl ?_
      refine s_nil ?_
      refine f_then ?_
      refine c_ret ?_
      refine f_thenR ?_
      refine f_blockR ?_
      refine f_thenR ?_
      refine f_rndR ?_
      refine f_blockR ?_
      refine f_thenR ?_
      exact f_ret ⟨(0, false), fun h => absurd h hN, fun _ => rfl⟩ (res2 rfl rfl rfl) (fun w h => h)
    by_cases h2 : 1099511627776 < z
    · have hN : ¬ AllP n m f := fun h => by have := h.size k hlt; omega
      clear hall
      refine c_seq ?_
      refine c_seq ?_
      refine c_region ?_
      refine s_y (y_move rfl) rfl rfl rfl ?_
      refine s_y (y_move rfl) rfl rfl rfl ?_
      refine s_y (y_len Try.tab rfl rfl) rfl rfl rfl ?_
      refine s_y (y_T (y_lss rfl rfl) (by omega)) rfl rfl rfl ?_
      refine s_nil ?_
      refine f_then ?_
      refine c_condT rfl ?_
      refine c_skip ?_
      refine f_then ?_
      refine c_seq ?_
      refine c_block ?_
      refine c_seq ?_
      refine c_seq ?_
      refine c_region ?_
      refine s_y (y_move rfl) rfl rfl rfl ?_
      refine s_y (y_move rfl) rfl rfl rfl ?_
      refine s_y (y_indexAddr1o Try.tab rfl rfl rfl rfl _ rfl (by omega)) rfl rfl rfl ?_
      refine s_y (y_load Try.tab rfl rfl hci) rfl rfl rfl ?_
      refine s_y (y_F (y_lss rfl rfl) (by assumption)) rfl rfl rfl ?_
      refine s_y (y_move rfl) rfl rfl rfl ?_
      refine s_y (y_move rfl) rfl rfl rfl ?_
      refine s_y (y_move rfl) rfl rfl rfl ?_
      refine s_y (y_indexAddr1o Try.tab rfl rfl rfl rfl _ rfl (by omega)) rfl rfl rfl ?_
      refine s_y (y_load Try.tab rfl rfl hci) rfl rfl rfl ?_
      refine s_y (y_T (y_gtr rfl rfl) (by assumption)) rfl rfl rfl ?_
      refine s_y (y_pickF rfl rfl) rfl rfl rfl ?_
      refine s_nil ?_
      refine f_then ?_
      refine c_condT rfl ?_
      refine c_seq ?_
      refine c_region ?_
      refine s_y (y_assign rfl) rfl rfl rfl ?_
      refine s_y (y_assign rfl) rfl rfl rfl ?_
      refine s_nil ?_
      refine f_then ?_
      refine c_ret ?_
      refine f_thenR ?_
      refine f_blockR ?_
      refine f_thenR ?_
      refine f_rndR ?_
      refine f_blockR ?_
      refine f_thenR ?_
      exact f_ret ⟨(0, false), fun h => absurd h hN, fun _ => rfl⟩ (res2 rfl rfl rfl) (fun w h => h)
    have hnx : ((psum (FN f) 0 k : Nat) : Int) + z = ((psum (FN f) 0 (k + 1) : Nat) : Int) := by
      have := FN_eq (f := f) (i := k) (by omega)
      rw [psum, Nat.zero_add]
      omega
    have hall2 : ∀ i, i < k + 1 → 0 ≤ f i ∧ f i ≤ 1099511627776 := fun i hi => by
      by_cases e : i = k
      · subst e; omega
      · exact hall i (by omega)
    clear hall
    refine c_seq ?_
    refine c_seq ?_
    refine c_region ?_
    refine s_y (y_move rfl) rfl rfl rfl ?_
    refine s_y (y_move rfl) rfl rfl rfl ?_
    refine s_y (y_len Try.tab rfl rfl) rfl rfl rfl ?_
    refine s_y (y_T (y_lss rfl rfl) (by omega)) rfl rfl rfl ?_
    refine s_nil ?_
    refine f_then ?_
    refine c_condT rfl ?_
    refine c_skip ?_
    refine f_then ?_
    refine c_seq ?_
    refine c_block ?_
    refine c_seq ?_
    refine c_seq ?_
    refine c_region ?_
    refine s_y (y_move rfl) rfl rfl rfl ?_
    refine s_y (y_move rfl) rfl rfl rfl ?_
    refine s_y (y_indexAddr1o Try.tab rfl rfl rfl rfl _ rfl (by omega)) rfl rfl rfl ?_
    refine s_y (y_load Try.tab rfl rfl hci) rfl rfl rfl ?_
    refine s_y (y_F (y_lss rfl rfl) (by assumption)) rfl rfl rfl ?_
    refine s_y (y_move rfl) rfl rfl rfl ?_
    refine s_y (y_move rfl) rfl rfl rfl ?_
    refine s_y (y_move rfl) rfl rfl rfl ?_
    refine s_y (y_indexAddr1o Try.tab rfl rfl rfl rfl _ rfl (by omega)) rfl rfl rfl ?_
    refine s_y (y_load Try.tab rfl rfl hci) rfl rfl rfl ?_
    refine s_y (y_F (y_gtr rfl rfl) (by assumption)) rfl rfl rfl ?_
    refine s_y (y_pickF rfl rfl) rfl rfl rfl ?_
    refine s_nil ?_
    refine f_then ?_
    refine c_condF rfl ?_
    refine c_skip ?_
    refine f_then ?_
    refine c_region ?_
    refine s_y (y_move rfl) rfl rfl rfl ?_
    refine s_y (y_move rfl) rfl rfl rfl ?_
    refine s_y (y_move rfl) rfl rfl rfl ?_
    refine s_y (y_indexAddr1o Try.tab rfl rfl rfl rfl _ rfl (by omega)) rfl rfl rfl ?_
    refine s_y (y_load Try.tab rfl rfl hci) rfl rfl rfl ?_
    refine s_y (y_add rfl rfl (by omega)) rfl rfl rfl ?_
    refine s_y (y_assign rfl) rfl rfl rfl ?_
    refine s_nil ?_
    refine f_blockN ?_
    refine f_then ?_
    refine c_region ?_
    refine s_y (y_move rfl) rfl rfl rfl ?_
    refine s_y (y_add rfl rfl (by omega)) rfl rfl rfl ?_
    refine s_y (y_assign rfl) rfl rfl rfl ?_
    refine s_nil ?_
    exact f_roundP (k + 1) ⟨hlt, hall2⟩ (by omega) ⟨rfl, rfl, by rw [← hnx]; rfl, rfl, trivial⟩ (fun w h => h)
  · obtain rfl : k = m := by omega
    by_cases h1 : 0 ≤ n
    · by_cases h2 : n ≤ ((psum (FN f) 0 k : Nat) : Int)
      · have hY : AllP n k f := ⟨by omega, hall, h1, h2⟩
        clear hall
        refine c_seq ?_
        refine c_seq ?_
        refine c_region ?_
        refine s_y (y_move rfl) rfl rfl rfl ?_
        refine s_y (y_move rfl) rfl rfl rfl ?_
        refine s_y (y_len Try.tab rfl rfl) rfl rfl rfl ?_
        refine s_y (y_F (y_lss rfl rfl) (by omega)) rfl rfl rfl ?_
        refine s_nil ?_
        refine f_then ?_
        refine c_condF rfl ?_
        refine c_exit ?_
        refine f_thenE ?_
        refine f_rndE ?_
        refine f_blockE ?_
        refine f_then ?_
        refine c_seq ?_
        refine c_region ?_
        refine s_y (y_move rfl) rfl rfl rfl ?_
        refine s_y (y_move rfl) rfl rfl rfl ?_
        refine s_y (y_T (y_geq rfl rfl) (by assumption)) rfl rfl rfl ?_
        refine s_y (y_move rfl) rfl rfl rfl ?_
        refine s_y (y_move rfl) rfl rfl rfl ?_
        refine s_y (y_move rfl) rfl rfl rfl ?_
        refine s_y (y_T (y_leq rfl rfl) (by assumption)) rfl rfl rfl ?_
        refine s_y (y_pickT rfl rfl) rfl rfl rfl ?_
        refine s_y (y_assign rfl) rfl rfl rfl ?_
        refine s_y (y_assign rfl) rfl rfl rfl ?_
        refine s_nil ?_
        refine f_then ?_
        refine c_ret ?_
        exact f_ret ⟨(_, true), fun _ => rfl, fun h => absurd hY h⟩ (res2 rfl rfl rfl) (fun w h => h)
      · have hN : ¬ AllP n k f := fun h => h2 h.nt
        clear hall
        refine c_seq ?_
        refine c_seq ?_
        refine c_region ?_
        refine s_y (y_move rfl) rfl rfl rfl ?_
        refine s_y (y_move rfl) rfl rfl rfl ?_
        refine s_y (y_len Try.tab rfl rfl) rfl rfl rfl ?_
        refine s_y (y_F (y_lss rfl rfl) (by omega)) rfl rfl rfl ?_
        refine s_nil ?_
        refine f_then ?_
        refine c_condF rfl ?_
        refine c_exit ?_
        refine f_thenE ?_
        refine f_rndE ?_
        refine f_blockE ?_
        refine f_then ?_
        refine c_seq ?_
        refine c_region ?_
        refine s_y (y_move rfl) rfl rfl rfl ?_
        refine s_y (y_move rfl) rfl rfl rfl ?_
        refine s_y (y_T (y_geq rfl rfl) (by assumption)) rfl rfl rfl ?_
        refine s_y (y_move rfl) rfl rfl rfl ?_
        refine s_y (y_move rfl) rfl rfl rfl ?_
        refine s_y (y_move rfl) rfl rfl rfl ?_
        refine s_y (y_F (y_leq rfl rfl) (by assumption)) rfl rfl rfl ?_
        refine s_y (y_pickT rfl rfl) rfl rfl rfl ?_
        refine s_y (y_assign rfl) rfl rfl rfl ?_
        refine s_y (y_assign rfl) rfl rfl rfl ?_
        refine s_nil ?_
        refine f_then ?_
        refine c_ret ?_
        exact f_ret ⟨(_, false), fun h => absurd h hN, fun _ => rfl⟩ (res2 rfl rfl rfl) (fun w h => h)
    · have hN : ¬ AllP n k f := fun h => h1 h.n0
      clear hall
      refine c_seq ?_
      refine c_seq ?_
      refine c_region ?_
      refine s_y (y_move rfl) rfl rfl rfl ?_
      refine s_y (y_move rfl) rfl rfl rfl ?_
      refine s_y (y_len Try.tab rfl rfl) rfl rfl rfl ?_
      refine s_y (y_F (y_lss rfl rfl) (by omega)) rfl rfl rfl ?_
      refine s_nil ?_
      refine f_then ?_
      refine c_condF rfl ?_
      refine c_exit ?_
      refine f_thenE ?_
      refine f_rndE ?_
      refine f_blockE ?_
      refine f_then ?_
      refine c_seq ?_
      refine c_region ?_
      refine s_y (y_move rfl) rfl rfl rfl ?_
      refine s_y (y_move rfl) rfl rfl rfl ?_
      refine s_y (y_F (y_geq rfl rfl) (by assumption)) rfl rfl rfl ?_
      refine s_y (y_move rfl) rfl rfl rfl ?_
      iterate 3 refine s_skip rfl rfl rfl ?_
      refine s_y (y_pickF rfl rfl) rfl rfl rfl ?_
      refine s_y (y_assign rfl) rfl rfl rfl ?_
      refine s_y (y_assign rfl) rfl rfl rfl ?_
      refine s_nil ?_
      refine f_then ?_
      refine c_ret ?_
      exact f_ret ⟨(_, false), fun h => absurd h hN, fun _ => rfl⟩ (res2 rfl rfl rfl) (fun w h => h)
end Go.KL
end

section
/- Walks: Allot. -/
namespace Go.KL
open Go.Proofs
theorem Lf_le {q g : Nat → Nat} : ∀ {k i : Nat}, Lf q g k i ≤ q i + k
  | 0, _ => Nat.le_refl _
  | k + 1, i => by
    rw [Lf, upd_get]
    split
    · rename_i h
      have := Lf_le (q := q) (g := g) (k := k) (i := g k)
      rw [h]
      omega
    · have := Lf_le (q := q) (g := g) (k := k) (i := i)
      omega
theorem arr_same {e n : Nat} {f f' : Nat → Value} {rest : List Value} (h : ∀ i, i < n → f i = f' i) : arr e n f rest = arr e n f' rest := by
  unfold arr
  rw [List.map_congr_left fun i hi => h i (List.mem_range.1 hi)]
theorem ints_congr {e n : Nat} {g g' : Nat → Int} {rest : List Value} (h : ∀ i, i < n → g i = g' i) : ints e n g rest = ints e n g' rest := arr_same fun i hi => by rw [h i hi]
/-- The first u filled. -/
def preF (T : Nat → Nat) (u j : Nat) : Nat := if j < u then T j else 0
theorem preF_next {T : Nat → Nat} {u : Nat} : upd (preF T u) u (T u) = preF T (u + 1) := by
  funext j
  unfold upd preF
  (repeat' split) <;> first | rfl | (exfalso; omega) | (congr 1; omega)
theorem preF_all {T : Nat → Nat} {u j : Nat} (h : j < u) : preF T u j = T j := if_pos h
theorem preF_arr {T : Nat → Nat} {n : Nat} : arr 63 n (fun j => .int .u64 ((preF T n j : Nat) : Int)) [] = arr 63 n (fun j => .int .u64 ((T j : Nat) : Int)) [] := arr_same fun i hi => by rw [preF_all hi]
theorem preF_ints {T : Nat → Nat} {n : Nat} : ints 3 n (fun j => ((preF T n j : Nat) : Int)) [] = ints 3 n (fun j => ((T j : Nat) : Int)) [] := ints_congr fun i hi => by rw [preF_all hi]
theorem upd_u64 (g : Nat → Nat) (k u : Nat) : upd (fun i => Value.int .u64 ((g i : Nat) : Int)) k (.int .u64 ((u : Nat) : Int)) = fun i => .int .u64 ((upd g k u i : Nat) : Int) := upd_map (fun (a : Nat) => Value.int .u64 (a : Int)) g k u
theorem q_le {n T i : Nat} {F : Nat → Nat} (h : n ≤ T) : n * F i / T ≤ F i := Nat.div_le_of_le_mul (Nat.mul_le_mul_right _ h)
theorem qsum_le {n T m u : Nat} {F : Nat → Nat} (hT : 0 < T) (h : psum F 0 m = T) (hu : u ≤ m) : psum (qF n T F) 0 u ≤ n := by
  have h1 := (lft_eq (n := n) hT h).1
  obtain ⟨d, rfl⟩ : ∃ d, m = u + d := ⟨m - u, by omega⟩
  have := psum_mono (T := qF n T F) (lo := 0) (a := u) d
  omega
theorem F_le {F : Nat → Nat} {i : Nat} : ∀ {m : Nat}, i < m → F i ≤ psum F 0 m
  | 0, h => absurd h (Nat.not_lt_zero _)
  | m + 1, h => by
    rw [psum, Nat.zero_add]
    by_cases c : i = m
    · rw [c]; omega
    · have := F_le (F := F) (i := i) (m := m) (by omega)
      omega
theorem zero_blk {F : Nat → Nat} {m : Nat} : Blk (rF 0 0 F) (fun i => i) 0 m := by
  refine ⟨fun i h1 h2 => ⟨h1, h2⟩, fun i j h1 h2 h3 => .inr ⟨?_, h2⟩⟩
  unfold rF
  rw [Nat.zero_mul, Nat.zero_mul]
attribute [local irreducible] SC St Fin Sq Ylds Doos Sets Enters Spec CellIs CellsAre Then Ret Rnd Chn resOK ints bools recs arr
set_option maxRecDepth 10000 in
set_option maxHeartbeats 4000000 in
theorem less2_spec {W : World} {N : List Chunk} {o bl : Chunk} {br bq n m x y : Nat} {R : Nat → Nat} {rest : List Value} (hx : x < n) (hy : y < n) : Spec Try.prog 80 #[.int .i64 (x : Int), .int .i64 (y : Int), .pointer (some ⟨br, 0, none⟩)] (K W (o :: [(bq, arr 63 n (fun i => .int .u64 (R i : Int)) rest)] :: bl :: [(br, row 94 [.slice (some ⟨bq, 0, none⟩) n m])] :: N)) (fun _ : Unit => .int .i64 (cmp3 (R y) (R x))) (fun _ => K W (o :: [(bq, arr 63 n (fun i => .int .u64 (R i : Int)) rest)] :: bl :: [(br, row 94 [.slice (some ⟨bq, 0, none⟩) n m])] :: N)) := by
  refine enter (args := [_, _, _]) Try.func80 rfl Try.ntmps80 rfl ?_
  refine c_seq ?_
  refine c_region ?_
  refine s_y (y_assign rfl) rfl rfl rfl ?_
  refine s_nil ?_
  refine f_then ?_
  refine c_seq ?_
  refine c_plan [.c 0, .c 1, .c 2, .c 3, .c 4, .c 5, .c 6, .c 7, .c 8, .c 9] [] ((K W (o :: [(bq, arr 63 n (fun i => .int .u64 (R i : Int)) rest)] :: bl :: [(br, row 94 [.slice (some ⟨bq, 0, none⟩) n m])] :: N))) Try.mixed (by kernel_rfl) rfl K.cl ?_
  refine d_c rfl (Qui.ylds (y_load Try.tab rfl rfl (cell_row 3 rfl rfl))) rfl rfl rfl (fun _ h => h) K.cl ?_
  refine d_c rfl (Qui.ylds (y_move rfl)) rfl rfl rfl (fun _ h => h) K.cl ?_
  refine d_c rfl (Qui.ylds (y_indexAddr1 Try.tab rfl rfl rfl rfl _ rfl (by omega))) rfl rfl rfl (fun _ h => h) K.cl ?_
  refine d_c rfl (Qui.ylds (y_load Try.tab rfl rfl (cell_arr 1 rfl (by omega)))) rfl rfl rfl (fun _ h => h) K.cl ?_
  refine d_c rfl (Qui.ylds (y_load Try.tab rfl rfl (cell_row 3 rfl rfl))) rfl rfl rfl (fun _ h => h) K.cl ?_
  refine d_c rfl (Qui.ylds (y_move rfl)) rfl rfl rfl (fun _ h => h) K.cl ?_
  refine d_c rfl (Qui.ylds (y_indexAddr1 Try.tab rfl rfl rfl rfl _ rfl (by omega))) rfl rfl rfl (fun _ h => h) K.cl ?_
  refine d_c rfl (Qui.ylds (y_load Try.tab rfl rfl (cell_arr 1 rfl (by omega)))) rfl rfl rfl (fun _ h => h) K.cl ?_
  refine d_c rfl (Qui.callC K.cl (en_f rfl Try.call81) (compare_q)) rfl rfl rfl (fun _ h => h) K.cl ?_
  refine d_c rfl (Qui.ylds (y_assign rfl)) rfl rfl rfl (fun _ h => h) K.cl ?_
  refine d_nil ?_
  refine f_then ?_
  refine c_ret ?_
  exact f_ret () (res1 rfl rfl) (fun w h => h)

set_option maxRecDepth 10000 in
set_option maxHeartbeats 4000000 in
theorem allot_err {W : World} {N : List Chunk} {v : Value} {m : Nat} {f : Nat → Int} {n : Int} (hv : SlI (K W N) v m f) (hm : m ≤ 9223372036854775807) (hN : ¬ AllP n m f) : Spec Try.prog 42 #[.int .i64 n, v] (K W N) (fun _ : Unit => .tuple #[.slice none 0 0, .int .i64 2]) (fun _ => K W N) := by
  obtain ⟨pa, c, rfl, hc, hcell⟩ := SlV.open1 hv
  refine enter (args := [_, _]) Try.func42 rfl Try.ntmps42 rfl ?_
  by_cases hml : 64 < m
  · refine c_seq ?_
    refine c_region ?_
    refine s_y (y_assign rfl) rfl rfl rfl ?_
    refine s_y (y_assign rfl) rfl rfl rfl ?_
    refine s_nil ?_
    refine f_then ?_
    refine c_seq ?_
    refine c_seq ?_
    refine c_region ?_
    refine s_y (y_move rfl) rfl rfl rfl ?_
    refine s_y (y_len Try.tab rfl rfl) rfl rfl rfl ?_
    refine s_y (y_T (y_gtr rfl rfl) (by omega)) rfl rfl rfl ?_
    refine s_nil ?_
    refine f_then ?_
    refine c_condT rfl ?_
    refine c_seq ?_
    refine c_region ?_
    refine s_y (y_assign rfl) rfl rfl rfl ?_
    refine s_y (y_assign rfl) rfl rfl rfl ?_
    refine s_nil ?_
    refine f_then ?_
    refine c_ret ?_
    refine f_thenR ?_
    exact f_ret () (res2 rfl rfl rfl) (fun w h => h)
  refine c_seq ?_
  refine c_region ?_
  refine s_y (y_assign rfl) rfl rfl rfl ?_
  refine s_y (y_assign rfl) rfl rfl rfl ?_
  refine s_nil ?_
  refine f_then ?_
  refine c_seq ?_
  refine c_seq ?_
  refine c_region ?_
  refine s_y (y_move rfl) rfl rfl rfl ?_
  refine s_y (y_len Try.tab rfl rfl) rfl rfl rfl ?_
  refine s_y (y_F (y_gtr rfl rfl) (by omega)) rfl rfl rfl ?_
  refine s_nil ?_
  refine f_then ?_
  refine c_condF rfl ?_
  refine c_skip ?_
  refine f_then ?_
  refine c_seq ?_
  refine c_region ?_
  refine s_y (y_assign rfl) rfl rfl rfl ?_
  refine s_nil ?_
  refine f_then ?_
  refine c_seq ?_
  refine c_seq ?_
  refine c_region ?_
  refine s_y (y_move rfl) rfl rfl rfl ?_
  refine s_y (y_len Try.tab rfl rfl) rfl rfl rfl ?_
  refine s_y (y_move rfl) rfl rfl rfl ?_
  refine s_nil ?_
  refine f_then ?_
  refine c_block ?_
  refine c_loopP (α := Nat) (fun z => [(0, .int .i64 n), (1, .slice pa m c), (6, .int .i64 ((psum (FN f) 0 z : Nat) : Int)), (25, .slice pa m c), (26, .int .i64 (m : Int)), (27, .int .i64 (z : Int))]) (fun z => z ≤ m ∧ ∀ i, i < z → 0 ≤ f i ∧ f i ≤ 1099511627776) (fun _ => K W N) (fun z => m - z) 0
    ⟨rfl, rfl, rfl, rfl, rfl, rfl, trivial⟩ ⟨Nat.zero_le _, fun i hi => by omega⟩ (fun w h => h) ?_
  rintro k ⟨hk, hall⟩
  by_cases hlt : k < m
  · obtain ⟨b, o, rfl, hcl⟩ := hcell (by omega)
    have hci := hcl k hlt
    have htk := tot_le hall
    obtain ⟨z, hz⟩ : ∃ z, z = f k := ⟨_, rfl⟩
    rw [← hz] at hci
    by_cases h1 : 0 ≤ z ∧ z ≤ 1099511627776
    · have hd := decide_eq_true h1
      have hnx : ((psum (FN f) 0 k : Nat) : Int) + z = ((psum (FN f) 0 (k + 1) : Nat) : Int) := by
        have := FN_eq (f := f) (i := k) (by omega)
        rw [psum, Nat.zero_add]
        omega
      have hall2 : ∀ i, i < k + 1 → 0 ≤ f i ∧ f i ≤ 1099511627776 := fun i hi => by
        by_cases e : i = k
        · subst e; omega
        · exact hall i (by omega)
      clear hall hN
      refine c_seq ?_
      refine c_region ?_
      refine s_y (y_T (y_lss rfl rfl) (by omega)) rfl rfl rfl ?_
      refine s_nil ?_
      refine f_then ?_
      refine c_seq ?_
      refine c_condT rfl ?_
      refine c_skip ?_
      refine f_then ?_
      refine c_seq ?_
      refine c_block ?_
      refine c_seq ?_
      refine c_region ?_
      refine s_y (y_indexAddr1o Try.tab rfl rfl rfl rfl _ rfl (by omega)) rfl rfl rfl ?_
      refine s_y (y_load Try.tab rfl rfl hci) rfl rfl rfl ?_
      refine s_y (y_assign rfl) rfl rfl rfl ?_
      refine s_nil ?_
      refine f_then ?_
      refine c_seq ?_
      refine c_seq ?_
      refine c_region ?_
      refine s_y (y_move rfl) rfl rfl rfl ?_
      refine s_call (en_f rfl Try.call49) inside_spec rfl rfl rfl (fun _ => ?_)
      rw [hd]
      refine s_y (y_notT rfl) rfl rfl rfl ?_
      refine s_nil ?_
      refine f_then ?_
      refine c_condF rfl ?_
      refine c_skip ?_
      refine f_then ?_
      refine c_region ?_
      refine s_y (y_move rfl) rfl rfl rfl ?_
      refine s_y (y_move rfl) rfl rfl rfl ?_
      refine s_y (y_add rfl rfl (by omega)) rfl rfl rfl ?_
      refine s_y (y_assign rfl) rfl rfl rfl ?_
      refine s_nil ?_
      refine f_blockN ?_
      refine f_then ?_
      refine c_region ?_
      refine s_y (y_add rfl rfl (by omega)) rfl rfl rfl ?_
      refine s_y (y_move rfl) rfl rfl rfl ?_
      refine s_nil ?_
      exact f_roundP (k + 1) ⟨hlt, hall2⟩ (by omega) ⟨rfl, rfl, by rw [← hnx]; rfl, rfl, rfl, rfl, trivial⟩ (fun w h => h)
    · have hd := decide_eq_false h1
      clear hall hN
      refine c_seq ?_
      refine c_region ?_
      refine s_y (y_T (y_lss rfl rfl) (by omega)) rfl rfl rfl ?_
      refine s_nil ?_
      refine f_then ?_
      refine c_seq ?_
      refine c_condT rfl ?_
      refine c_skip ?_
      refine f_then ?_
      refine c_seq ?_
      refine c_block ?_
      refine c_seq ?_
      refine c_region ?_
      refine s_y (y_indexAddr1o Try.tab rfl rfl rfl rfl _ rfl (by omega)) rfl rfl rfl ?_
      refine s_y (y_load Try.tab rfl rfl hci) rfl rfl rfl ?_
      refine s_y (y_assign rfl) rfl rfl rfl ?_
      refine s_nil ?_
      refine f_then ?_
      refine c_seq ?_
      refine c_seq ?_
      refine c_region ?_
      refine s_y (y_move rfl) rfl rfl rfl ?_
      refine s_call (en_f rfl Try.call49) inside_spec rfl rfl rfl (fun _ => ?_)
      rw [hd]
      refine s_y (y_notF rfl) rfl rfl rfl ?_
      refine s_nil ?_
      refine f_then ?_
      refine c_condT rfl ?_
      refine c_seq ?_
      refine c_region ?_
      refine s_y (y_assign rfl) rfl rfl rfl ?_
      refine s_y (y_assign rfl) rfl rfl rfl ?_
      refine s_nil ?_
      refine f_then ?_
      refine c_ret ?_
      refine f_thenR ?_
      refine f_blockR ?_
      refine f_thenR ?_
      refine f_rndR ?_
      refine f_blockR ?_
      refine f_thenR ?_
      exact f_ret () (res2 rfl rfl rfl) (fun w h => h)
  · obtain rfl : k = m := by omega
    have hd : decide (0 ≤ n ∧ n ≤ ((psum (FN f) 0 k : Nat) : Int)) = false := decide_eq_false fun h => hN ⟨by omega, hall, h.1, h.2⟩
    clear hall hN
    refine c_seq ?_
    refine c_region ?_
    refine s_y (y_F (y_lss rfl rfl) (by omega)) rfl rfl rfl ?_
    refine s_nil ?_
    refine f_then ?_
    refine c_seq ?_
    refine c_condF rfl ?_
    refine c_exit ?_
    refine f_thenE ?_
    refine f_rndE ?_
    refine f_blockE ?_
    refine f_then ?_
    refine c_seq ?_
    refine c_seq ?_
    refine c_region ?_
    refine s_y (y_move rfl) rfl rfl rfl ?_
    refine s_y (y_move rfl) rfl rfl rfl ?_
    refine s_call (en_f rfl Try.call49) inside_spec rfl rfl rfl (fun _ => ?_)
    rw [hd]
    refine s_y (y_notF rfl) rfl rfl rfl ?_
    refine s_nil ?_
    refine f_then ?_
    refine c_condT rfl ?_
    refine c_seq ?_
    refine c_region ?_
    refine s_y (y_assign rfl) rfl rfl rfl ?_
    refine s_y (y_assign rfl) rfl rfl rfl ?_
    refine s_nil ?_
    refine f_then ?_
    refine c_ret ?_
    refine f_thenR ?_
    exact f_ret () (res2 rfl rfl rfl) (fun w h => h)
set_option maxRecDepth 10000 in
set_option maxHeartbeats 16000000 in
theorem allot_ok {W : World} {N : List Chunk} {v : Value} {m n T : Nat} {f : Nat → Int} (hv : SlI (K W N) v m f) (hA : AllP (n : Int) m f) (hT : psum (FN f) 0 m = T)
    (hdiv : ∀ (s : Nat) (N' : List Chunk), s ≤ 1099511627776 → s ≤ T → 0 < T → Spec Try.prog 78 #[.int .u64 ((n * s / 18446744073709551616 : Nat) : Int), .int .u64 ((n * s % 18446744073709551616 : Nat) : Int), .int .u64 (T : Int)] (K W N') (fun _ : Unit => .tuple #[.int .u64 ((n * s / T : Nat) : Int), .int .u64 ((n * s % T : Nat) : Int)]) (fun _ => K W N')) :
    Spec Try.prog 42 #[.int .i64 (n : Int), v] (K W N) (X := { x : (Nat → Nat) × Chunk × Value // Blk (rF n T (FN f)) x.1 0 m ∧ SlI (K W [x.2.1]) x.2.2 m (fun i => (Lf (qF n T (FN f)) x.1 (lftF n T (FN f) m) i : Int)) }) (fun x => .tuple #[x.1.2.2, .int .i64 0]) (fun x => K W (x.1.2.1 :: N)) := by
  obtain ⟨hml, hall, hn0, hnt⟩ := hA
  rw [hT] at hnt
  have htm := tot_le hall
  rw [hT] at htm
  obtain ⟨pa, c, rfl, hc, hcell⟩ := SlV.open1 hv
  refine enter (args := [_, _]) Try.func42 rfl Try.ntmps42 rfl ?_
  refine c_seq ?_
  refine c_region ?_
  refine s_y (y_assign rfl) rfl rfl rfl ?_
  refine s_y (y_assign rfl) rfl rfl rfl ?_
  refine s_nil ?_
  refine f_then ?_
  refine c_seq ?_
  refine c_seq ?_
  refine c_region ?_
  refine s_y (y_move rfl) rfl rfl rfl ?_
  refine s_y (y_len Try.tab rfl rfl) rfl rfl rfl ?_
  refine s_y (y_F (y_gtr rfl rfl) (by omega)) rfl rfl rfl ?_
  refine s_nil ?_
  refine f_then ?_
  refine c_condF rfl ?_
  refine c_skip ?_
  refine f_then ?_
  refine c_seq ?_
  refine c_region ?_
  refine s_y (y_assign rfl) rfl rfl rfl ?_
  refine s_nil ?_
  refine f_then ?_
  refine c_seq ?_
  refine c_seq ?_
  refine c_region ?_
  refine s_y (y_move rfl) rfl rfl rfl ?_
  refine s_y (y_len Try.tab rfl rfl) rfl rfl rfl ?_
  refine s_y (y_move rfl) rfl rfl rfl ?_
  refine s_nil ?_
  refine f_then ?_
  refine c_block ?_
  refine c_loopP (α := Nat) (fun z => [(0, .int .i64 (n : Int)), (1, .slice pa m c), (6, .int .i64 ((psum (FN f) 0 z : Nat) : Int)), (25, .slice pa m c), (26, .int .i64 (m : Int)), (27, .int .i64 (z : Int))]) (fun z => z ≤ m) (fun _ => K W N) (fun z => m - z) 0
    ⟨rfl, rfl, rfl, rfl, rfl, rfl, trivial⟩ (Nat.zero_le _) (fun w h => h) ?_
  intro k hk
  by_cases hlt : k < m
  · obtain ⟨b, o, rfl, hcl⟩ := hcell (by omega)
    have hci := hcl k hlt
    have htk := tot_le (f := f) (m := k) (fun i hi => hall i (by omega))
    obtain ⟨z, hz⟩ : ∃ z, z = f k := ⟨_, rfl⟩
    have h1 := hall k hlt
    have hnx : ((psum (FN f) 0 k : Nat) : Int) + z = ((psum (FN f) 0 (k + 1) : Nat) : Int) := by
      have := FN_eq (f := f) (i := k) h1.1
      rw [psum, Nat.zero_add, hz]
      omega
    rw [← hz] at hci h1
    have hd := decide_eq_true h1
    clear hall hT
    refine c_seq ?_
    refine c_region ?_
    refine s_y (y_T (y_lss rfl rfl) (by omega)) rfl rfl rfl ?_
    refine s_nil ?_
    refine f_then ?_
    refine c_seq ?_
    refine c_condT rfl ?_
    refine c_skip ?_
    refine f_then ?_
    refine c_seq ?_
    refine c_block ?_
    refine c_seq ?_
    refine c_region ?_
    refine s_y (y_indexAddr1o Try.tab rfl rfl rfl rfl _ rfl (by omega)) rfl rfl rfl ?_
    refine s_y (y_load Try.tab rfl rfl hci) rfl rfl rfl ?_
    refine s_y (y_assign rfl) rfl rfl rfl ?_
    refine s_nil ?_
    refine f_then ?_
    refine c_seq ?_
    refine c_seq ?_
    refine c_region ?_
    refine s_y (y_move rfl) rfl rfl rfl ?_
    refine s_call (en_f rfl Try.call49) inside_spec rfl rfl rfl (fun _ => ?_)
    rw [hd]
    refine s_y (y_notT rfl) rfl rfl rfl ?_
    refine s_nil ?_
    refine f_then ?_
    refine c_condF rfl ?_
    refine c_skip ?_
    refine f_then ?_
    refine c_region ?_
    refine s_y (y_move rfl) rfl rfl rfl ?_
    refine s_y (y_move rfl) rfl rfl rfl ?_
    refine s_y (y_add rfl rfl (by omega)) rfl rfl rfl ?_
    refine s_y (y_assign rfl) rfl rfl rfl ?_
    refine s_nil ?_
    refine f_blockN ?_
    refine f_then ?_
    refine c_region ?_
    refine s_y (y_add rfl rfl (by omega)) rfl rfl rfl ?_
    refine s_y (y_move rfl) rfl rfl rfl ?_
    refine s_nil ?_
    exact f_roundP (k + 1) hlt (by omega) ⟨rfl, rfl, by rw [← hnx]; rfl, rfl, rfl, rfl, trivial⟩ (fun w h => h)
  obtain rfl : k = m := by omega
  rw [hT]
  have hd : decide (0 ≤ (n : Int) ∧ (n : Int) ≤ (T : Int)) = true := decide_eq_true ⟨hn0, hnt⟩
  refine c_seq ?_
  refine c_region ?_
  refine s_y (y_F (y_lss rfl rfl) (by omega)) rfl rfl rfl ?_
  refine s_nil ?_
  refine f_then ?_
  refine c_seq ?_
  refine c_condF rfl ?_
  refine c_exit ?_
  refine f_thenE ?_
  refine f_rndE ?_
  refine f_blockE ?_
  refine f_then ?_
  refine c_seq ?_
  refine c_seq ?_
  refine c_region ?_
  refine s_y (y_move rfl) rfl rfl rfl ?_
  refine s_y (y_move rfl) rfl rfl rfl ?_
  refine s_call (en_f rfl Try.call49) inside_spec rfl rfl rfl (fun _ => ?_)
  rw [hd]
  by_cases hT0 : T = 0
  · subst hT0
    obtain rfl : n = 0 := by omega
    have hz : ∀ i, Lf (qF 0 0 (FN f)) (fun i => i) (lftF 0 0 (FN f) k) i = 0 := fun i => by
      unfold lftF
      rw [Nat.zero_sub, Lf, qF, Nat.zero_mul, Nat.zero_div]
    clear hdiv
    refine s_y (y_notT rfl) rfl rfl rfl ?_
    refine s_nil ?_
    refine f_then ?_
    refine c_condF rfl ?_
    refine c_skip ?_
    refine f_then ?_
    refine c_seq ?_
    refine c_region ?_
    refine s_y (y_move rfl) rfl rfl rfl ?_
    refine s_y (y_len Try.tab rfl rfl) rfl rfl rfl ?_
    refine s_do (make_ints (by_ := 8) Try.tab rfl rfl rfl rfl rfl rfl (by omega)) rfl rfl rfl (fun b44 => ?_)
    refine s_y (y_assign rfl) rfl rfl rfl ?_
    refine s_nil ?_
    refine f_then ?_
    refine c_seq ?_
    refine c_seq ?_
    refine c_region ?_
    refine s_y (y_move rfl) rfl rfl rfl ?_
    refine s_y (y_T (y_eql rfl rfl) (by omega)) rfl rfl rfl ?_
    refine s_nil ?_
    refine f_then ?_
    refine c_condT rfl ?_
    refine c_seq ?_
    refine c_region ?_
    refine s_y (y_move rfl) rfl rfl rfl ?_
    refine s_y (y_assign rfl) rfl rfl rfl ?_
    refine s_y (y_assign rfl) rfl rfl rfl ?_
    refine s_nil ?_
    refine f_then ?_
    refine c_ret ?_
    refine f_thenR ?_
    exact f_ret ⟨(fun i => i, [(b44, ints 3 k (fun _ => 0) [])], .slice (some ⟨b44, 0, none⟩) k k), zero_blk, (SlI.own 0 rfl).congr (fun i _ j _ => congrArg (fun z : Nat => Value.int .i64 (z : Int)) (hz i).symm)⟩ (res2 rfl rfl rfl) (fun w h => h)
  have hTp : 0 < T := by omega
  refine s_y (y_notT rfl) rfl rfl rfl ?_
  refine s_nil ?_
  refine f_then ?_
  refine c_condF rfl ?_
  refine c_skip ?_
  refine f_then ?_
  refine c_seq ?_
  refine c_region ?_
  refine s_y (y_move rfl) rfl rfl rfl ?_
  refine s_y (y_len Try.tab rfl rfl) rfl rfl rfl ?_
  refine s_do (make_ints (by_ := 8) Try.tab rfl rfl rfl rfl rfl rfl (by omega)) rfl rfl rfl (fun b44 => ?_)
  refine s_y (y_assign rfl) rfl rfl rfl ?_
  refine s_nil ?_
  refine f_then ?_
  refine c_seq ?_
  refine c_seq ?_
  refine c_region ?_
  refine s_y (y_move rfl) rfl rfl rfl ?_
  refine s_y (y_F (y_eql rfl rfl) (by omega)) rfl rfl rfl ?_
  refine s_nil ?_
  refine f_then ?_
  refine c_condF rfl ?_
  refine c_skip ?_
  refine f_then ?_
  refine c_seq ?_
  refine c_region ?_
  refine s_y (y_move rfl) rfl rfl rfl ?_
  refine s_y (y_len Try.tab rfl rfl) rfl rfl rfl ?_
  refine s_do (makes (by_ := 8) Try.tab rfl rfl rfl rfl rfl rfl (by omega)) rfl rfl rfl (fun b50 => ?_)
  refine s_do (do_alloc Try.tab rfl) rfl rfl rfl (fun b10 => ?_)
  refine s_set (set_box1 Try.tab 0 rfl rfl rfl rfl rfl) rfl rfl ?_
  refine s_nil ?_
  refine f_then ?_
  refine c_seq ?_
  refine c_region ?_
  refine s_y (y_move rfl) rfl rfl rfl ?_
  refine s_y (y_assign rfl) rfl rfl rfl ?_
  refine s_nil ?_
  refine f_then ?_
  refine c_seq ?_
  refine c_seq ?_
  refine c_region ?_
  refine s_y (y_move rfl) rfl rfl rfl ?_
  refine s_y (y_len Try.tab rfl rfl) rfl rfl rfl ?_
  refine s_y (y_move rfl) rfl rfl rfl ?_
  refine s_nil ?_
  refine f_then ?_
  refine c_block ?_
  refine SC.cls (C' := K W ([(b50, arr 63 k (fun j => .int .u64 ((preF (rF n T (FN f)) 0 j : Nat) : Int)) [])] :: [(b44, ints 3 k (fun j => ((preF (qF n T (FN f)) 0 j : Nat) : Int)) [])] :: [(b10, row 94 [.slice (some ⟨b50, 0, none⟩) k k])] :: N)) ?_ (fun w h => by
    have h2 : K W ([(b10, row 94 [.slice (some ⟨b50, 0, none⟩) k k])] :: [(b50, arr 63 k (fun j => .int .u64 ((preF (rF n T (FN f)) 0 j : Nat) : Int)) [])] :: [(b44, ints 3 k (fun j => ((preF (qF n T (FN f)) 0 j : Nat) : Int)) [])] :: N) w := h
    exact h2.weak [] (by simpa using ((List.Perm.swap _ _ _).trans (List.Perm.cons _ (List.Perm.swap _ _ _))).trans (List.Perm.refl _)))
  refine c_loopP (α := Nat) (fun z => [(0, .int .i64 (n : Int)), (1, .slice pa k c), (6, .int .i64 (T : Int)), (9, .slice (some ⟨b44, 0, none⟩) k k), (10, .pointer (some ⟨b10, 0, none⟩)), (11, .int .i64 ((n : Int) - ((psum (qF n T (FN f)) 0 z : Nat) : Int))), (52, .slice pa k c), (53, .int .i64 (k : Int)), (54, .int .i64 (z : Int))]) (fun z => z ≤ k)
    (fun z => K W ([(b50, arr 63 k (fun j => .int .u64 ((preF (rF n T (FN f)) z j : Nat) : Int)) [])] :: [(b44, ints 3 k (fun j => ((preF (qF n T (FN f)) z j : Nat) : Int)) [])] :: [(b10, row 94 [.slice (some ⟨b50, 0, none⟩) k k])] :: N)) (fun z => k - z) 0
    ⟨rfl, rfl, rfl, rfl, rfl, congrArg (fun z => some (Value.int .i64 z)) (by simp [psum]), rfl, rfl, rfl, trivial⟩ (Nat.zero_le _) (fun w h => h) ?_
  intro u hu
  by_cases hult : u < k
  · have hdu := hdiv (FN f u)
    obtain ⟨b, o, rfl, hcl⟩ := hcell (by omega)
    have hci := hcl u hult
    have hfu := hall u hult
    have hFu := FN_eq hfu.1
    rw [hFu] at hci hfu
    have hFb : FN f u ≤ 1099511627776 := by omega
    have hFT := F_le (F := FN f) hult
    rw [hT] at hFT
    have hnb : n ≤ 70368744177664 := by omega
    have hqb := q_le (F := FN f) (i := u) (show n ≤ T by omega)
    have hqs := qsum_le (n := n) (u := u + 1) hTp hT hult
    have hqn : psum (qF n T (FN f)) 0 (u + 1) = psum (qF n T (FN f)) 0 u + n * FN f u / T := by rw [psum, Nat.zero_add]; rfl
    have hq1 := preF_next (T := qF n T (FN f)) (u := u)
    have hr1 := preF_next (T := rF n T (FN f)) (u := u)
    have hrb : n * FN f u % T < T := Nat.mod_lt _ hTp
    have hqe : qF n T (FN f) u = n * FN f u / T := rfl
    have hre : rF n T (FN f) u = n * FN f u % T := rfl
    rw [hqe] at hq1
    rw [hre] at hr1
    obtain ⟨qv, hqv⟩ : ∃ q, q = n * FN f u / T := ⟨_, rfl⟩
    obtain ⟨rv, hrv⟩ : ∃ r, r = n * FN f u % T := ⟨_, rfl⟩
    rw [← hqv] at hqb hqn hq1 hdu
    rw [← hrv] at hr1 hrb hdu
    obtain ⟨Fu, hFv⟩ : ∃ F, F = FN f u := ⟨_, rfl⟩
    rw [← hFv] at hci hdu hFb hqb hFT
    have hm1 := fun (N' : List Chunk) => mul64_spec (C := K W N') (x := n) (y := Fu) (by omega) (by omega)
    clear hqv hrv hqe hre hFv hFu hfu hdiv hall hT hd
    refine c_seq ?_
    refine c_region ?_
    refine s_y (y_T (y_lss rfl rfl) (by omega)) rfl rfl rfl ?_
    refine s_nil ?_
    refine f_then ?_
    refine c_seq ?_
    refine c_condT rfl ?_
    refine c_skip ?_
    refine f_then ?_
    refine c_seq ?_
    refine c_block ?_
    refine c_seq ?_
    refine c_region ?_
    refine s_y (y_move rfl) rfl rfl rfl ?_
    refine s_y (y_indexAddr1o Try.tab rfl rfl rfl rfl _ rfl (by omega)) rfl rfl rfl ?_
    refine s_y (y_load Try.tab rfl rfl hci.cons.cons.cons) rfl rfl rfl ?_
    refine s_y (y_assign rfl) rfl rfl rfl ?_
    refine s_y (y_assign rfl) rfl rfl rfl ?_
    refine s_nil ?_
    refine f_then ?_
    refine c_seq ?_
    refine c_region ?_
    refine s_y (y_move rfl) rfl rfl rfl ?_
    refine s_y (y_to64 Try.tab rfl rfl rfl (by omega)) rfl rfl rfl ?_
    refine s_y (y_move rfl) rfl rfl rfl ?_
    refine s_y (y_to64 Try.tab rfl rfl rfl (by omega)) rfl rfl rfl ?_
    refine s_call (en_f rfl Try.call77) (hm1 _) rfl rfl rfl (fun _ => ?_)
    refine s_y (y_move rfl) rfl rfl rfl ?_
    refine s_y (y_extract rfl rfl) rfl rfl rfl ?_
    refine s_y (y_extract rfl rfl) rfl rfl rfl ?_
    refine s_y (y_assign rfl) rfl rfl rfl ?_
    refine s_y (y_assign rfl) rfl rfl rfl ?_
    refine s_nil ?_
    refine f_then ?_
    refine c_seq ?_
    refine c_region ?_
    refine s_y (y_move rfl) rfl rfl rfl ?_
    refine s_y (y_move rfl) rfl rfl rfl ?_
    refine s_y (y_move rfl) rfl rfl rfl ?_
    refine s_y (y_to64 Try.tab rfl rfl rfl (by omega)) rfl rfl rfl ?_
    refine s_call (en_f rfl Try.call78) (hdu _ hFb hFT hTp) rfl rfl rfl (fun _ => ?_)
    clear hm1 hdu
    refine s_y (y_move rfl) rfl rfl rfl ?_
    refine s_y (y_extract rfl rfl) rfl rfl rfl ?_
    refine s_y (y_extract rfl rfl) rfl rfl rfl ?_
    refine s_y (y_assign rfl) rfl rfl rfl ?_
    refine s_y (y_assign rfl) rfl rfl rfl ?_
    refine s_nil ?_
    refine f_then ?_
    refine c_seq ?_
    refine c_plan [.c 0, .c 1, .c 2, .c 3, .c 4, .c 5, .c 6, .c 7, .s 8, .c 9, .s 10] [10] (K W ([(b10, row 94 [.slice (some ⟨b50, 0, none⟩) k k])] :: N)) Try.mixed (by kernel_rfl) rfl K.cl ?_
    refine d_c rfl (Qui.ylds (y_move rfl)) rfl rfl rfl (fun _ h => h.tail.tail) K.cl ?_
    refine d_c rfl (Qui.ylds (y_move rfl)) rfl rfl rfl (fun _ h => h.tail.tail) K.cl ?_
    refine d_c rfl (Qui.ylds (y_load Try.tab rfl rfl (cell_row 0 rfl rfl))) rfl rfl rfl (fun _ h => h.tail.tail) K.cl ?_
    refine d_c rfl (Qui.ylds (y_move rfl)) rfl rfl rfl (fun _ h => h.tail.tail) K.cl ?_
    refine d_c rfl (Qui.ylds (y_move rfl)) rfl rfl rfl (fun _ h => h.tail.tail) K.cl ?_
    refine d_c rfl (Qui.ylds (y_toI Try.tab rfl rfl rfl (by omega))) rfl rfl rfl (fun _ h => h.tail.tail) K.cl ?_
    refine d_c rfl (Qui.ylds (y_move rfl)) rfl rfl rfl (fun _ h => h.tail.tail) K.cl ?_
    refine d_c rfl (Qui.ylds (y_indexAddr1 Try.tab rfl rfl rfl rfl _ rfl (by omega))) rfl rfl rfl (fun _ h => h.tail.tail) K.cl ?_
    refine d_set rfl (set_ints Try.tab 1 rfl rfl rfl rfl (by omega)) rfl rfl K.cl (fun _ w h => h.tail.tail) ?_
    refine d_c rfl (Qui.ylds (y_indexAddr1 Try.tab rfl rfl rfl rfl _ rfl (by omega))) rfl rfl rfl (fun _ h => h.tail.tail) K.cl ?_
    refine d_set rfl (set_arr Try.tab 0 rfl rfl rfl rfl rfl (by omega)) rfl rfl K.cl (fun h => by cases h) ?_
    refine d_nil ?_
    refine f_then ?_
    refine c_region ?_
    refine s_y (y_move rfl) rfl rfl rfl ?_
    refine s_y (y_move rfl) rfl rfl rfl ?_
    refine s_y (y_toI Try.tab rfl rfl rfl (by omega)) rfl rfl rfl ?_
    refine s_y (y_sub rfl rfl (by omega)) rfl rfl rfl ?_
    refine s_y (y_assign rfl) rfl rfl rfl ?_
    refine s_nil ?_
    refine f_blockN ?_
    refine f_then ?_
    refine c_region ?_
    refine s_y (y_add rfl rfl (by omega)) rfl rfl rfl ?_
    refine s_y (y_move rfl) rfl rfl rfl ?_
    refine s_nil ?_
    exact f_roundP (u + 1) hult (by omega) ⟨rfl, rfl, rfl, rfl, rfl, congrArg (fun z => some (Value.int .i64 z)) (by rw [hqn]; omega), rfl, rfl, rfl, trivial⟩ (fun w h => by
      rw [← hq1, ← hr1, ← upd_nat, ← upd_u64]
      exact h)
  obtain rfl : u = k := by omega
  have hlf := (lft_eq (n := n) hTp hT).1
  have hlm := lft_le (n := n) hTp hT
  have hli : (n : Int) - ((psum (qF n T (FN f)) 0 u : Nat) : Int) = ((lftF n T (FN f) u : Nat) : Int) := by omega
  rw [hli]
  have hqb : ∀ i, i < u → qF n T (FN f) i ≤ 1099511627776 := fun i hi => by
    have h1 := q_le (F := FN f) (i := i) (show n ≤ T by omega)
    have h2 := hall i hi
    have h3 := FN_eq h2.1
    exact Nat.le_trans h1 (by omega)
  have hrb : ∀ i, rF n T (FN f) i < 18446744073709551616 := fun i => by
    have := r_lt (n := n) (F := FN f) (i := i) hTp
    omega
  refine SC.cls (C' := K W ([(b50, arr 63 u (fun j => .int .u64 ((rF n T (FN f) j : Nat) : Int)) [])] :: [(b44, ints 3 u (fun j => ((qF n T (FN f) j : Nat) : Int)) [])] :: [(b10, row 94 [.slice (some ⟨b50, 0, none⟩) u u])] :: N)) ?_ (fun w h => by
    rw [preF_arr, preF_ints] at h
    exact h)
  generalize lftF n T (FN f) u = lft at *
  generalize qF n T (FN f) = q at *
  generalize rF n T (FN f) = R at *
  clear hdiv hd hall hcell hv hT hnt htm hlf hli
  refine c_seq ?_
  refine c_region ?_
  refine s_y (y_F (y_lss rfl rfl) (by omega)) rfl rfl rfl ?_
  refine s_nil ?_
  refine f_then ?_
  refine c_seq ?_
  refine c_condF rfl ?_
  refine c_exit ?_
  refine f_thenE ?_
  refine f_rndE ?_
  refine f_blockE ?_
  refine f_then ?_
  refine c_seq ?_
  refine c_region ?_
  refine s_y (y_move rfl) rfl rfl rfl ?_
  refine s_y (y_len Try.tab rfl rfl) rfl rfl rfl ?_
  refine s_do (make_ints (by_ := 8) Try.tab rfl rfl rfl rfl rfl rfl (by omega)) rfl rfl rfl (fun b91 => ?_)
  refine s_y (y_assign rfl) rfl rfl rfl ?_
  refine s_nil ?_
  refine f_then ?_
  refine c_seq ?_
  refine c_seq ?_
  refine c_region ?_
  refine s_y (y_move rfl) rfl rfl rfl ?_
  refine s_y (y_len Try.tab rfl rfl) rfl rfl rfl ?_
  refine s_y (y_move rfl) rfl rfl rfl ?_
  refine s_nil ?_
  refine f_then ?_
  refine c_block ?_
  refine c_loopP (α := Nat) (fun z => [(9, .slice (some ⟨b44, 0, none⟩) u u), (10, .pointer (some ⟨b10, 0, none⟩)), (11, .int .i64 (lft : Int)), (18, .slice (some ⟨b91, 0, none⟩) u u), (92, .slice (some ⟨b91, 0, none⟩) u u), (93, .int .i64 (u : Int)), (94, .int .i64 (z : Int))]) (fun z => z ≤ u)
    (fun z => K W ([(b91, ints 3 u (fun j => ((preF (fun i => i) z j : Nat) : Int)) [])] :: [(b50, arr 63 u (fun j => .int .u64 ((R j : Nat) : Int)) [])] :: [(b44, ints 3 u (fun j => ((q j : Nat) : Int)) [])] :: [(b10, row 94 [.slice (some ⟨b50, 0, none⟩) u u])] :: N)) (fun z => u - z) 0
    ⟨rfl, rfl, rfl, rfl, rfl, rfl, rfl, trivial⟩ (Nat.zero_le _) (fun w h => h) ?_
  intro k hk
  by_cases hku : k < u
  · have hp1 := preF_next (T := fun i => i) (u := k)
    refine c_seq ?_
    refine c_region ?_
    refine s_y (y_T (y_lss rfl rfl) (by omega)) rfl rfl rfl ?_
    refine s_nil ?_
    refine f_then ?_
    refine c_seq ?_
    refine c_condT rfl ?_
    refine c_skip ?_
    refine f_then ?_
    refine c_seq ?_
    refine c_block ?_
    refine c_seq ?_
    refine c_region ?_
    refine s_y (y_move rfl) rfl rfl rfl ?_
    refine s_y (y_assign rfl) rfl rfl rfl ?_
    refine s_nil ?_
    refine f_then ?_
    refine c_region ?_
    refine s_y (y_move rfl) rfl rfl rfl ?_
    refine s_y (y_move rfl) rfl rfl rfl ?_
    refine s_y (y_move rfl) rfl rfl rfl ?_
    refine s_y (y_indexAddr1 Try.tab rfl rfl rfl rfl _ rfl (by omega)) rfl rfl rfl ?_
    refine s_set (set_ints Try.tab 0 rfl rfl rfl rfl (by omega)) rfl rfl ?_
    refine s_nil ?_
    refine f_blockN ?_
    refine f_then ?_
    refine c_region ?_
    refine s_y (y_add rfl rfl (by omega)) rfl rfl rfl ?_
    refine s_y (y_move rfl) rfl rfl rfl ?_
    refine s_nil ?_
    exact f_roundP (k + 1) hku (by omega) ⟨rfl, rfl, rfl, rfl, rfl, rfl, rfl, trivial⟩ (fun w h => by
      rw [← hp1, ← upd_nat]
      exact h)
  obtain rfl : k = u := by omega
  refine SC.cls (C' := K W ([(b91, ints 3 k (fun j => ((j : Nat) : Int)) [])] :: [(b50, arr 63 k (fun j => .int .u64 ((R j : Nat) : Int)) [])] :: [(b44, ints 3 k (fun j => ((q j : Nat) : Int)) [])] :: [(b10, row 94 [.slice (some ⟨b50, 0, none⟩) k k])] :: N)) ?_ (fun w h => by
    rw [preF_ints] at h
    exact h)
  refine c_seq ?_
  refine c_region ?_
  refine s_y (y_F (y_lss rfl rfl) (by omega)) rfl rfl rfl ?_
  refine s_nil ?_
  refine f_then ?_
  refine c_seq ?_
  refine c_condF rfl ?_
  refine c_exit ?_
  refine f_thenE ?_
  refine f_rndE ?_
  refine f_blockE ?_
  refine f_then ?_
  refine c_seq ?_
  refine c_region ?_
  refine s_y (y_move rfl) rfl rfl rfl ?_
  refine s_y (y_makeFunc rfl rfl) rfl rfl rfl ?_
  refine s_call (en_f rfl Try.call79) (sortStable_spec (R := R) (cap := .pointer (some ⟨b10, 0, none⟩)) (fun f x y hx hy => less2_spec hx hy) hml) rfl rfl rfl (fun g => ?_)
  obtain ⟨g, hg⟩ := g
  dsimp only
  refine s_nil ?_
  refine f_then ?_
  refine c_seq ?_
  refine c_seq ?_
  refine c_region ?_
  refine s_y (y_move rfl) rfl rfl rfl ?_
  refine s_y (y_move rfl) rfl rfl rfl ?_
  refine s_y (y_sliceTo Try.tab rfl rfl rfl rfl rfl (by omega)) rfl rfl rfl ?_
  refine s_y (y_len Try.tab rfl rfl) rfl rfl rfl ?_
  refine s_y (y_move rfl) rfl rfl rfl ?_
  refine s_nil ?_
  refine f_then ?_
  refine c_block ?_
  refine c_loopP (α := Nat) (fun z => [(9, .slice (some ⟨b44, 0, none⟩) k k), (107, .slice (some ⟨b91, 0, none⟩) lft k), (108, .int .i64 (lft : Int)), (109, .int .i64 (z : Int))]) (fun z => z ≤ lft)
    (fun z => K W ([(b91, ints 3 k (fun j => ((g j : Nat) : Int)) [])] :: [(b50, arr 63 k (fun j => .int .u64 ((R j : Nat) : Int)) [])] :: [(b44, ints 3 k (fun j => ((Lf q g z j : Nat) : Int)) [])] :: [(b10, row 94 [.slice (some ⟨b50, 0, none⟩) k k])] :: N)) (fun z => lft - z) 0
    ⟨rfl, rfl, rfl, rfl, trivial⟩ (Nat.zero_le _) (fun w h => h) ?_
  intro z hz
  by_cases hzl : z < lft
  · have hgz := (hg.rng z (Nat.zero_le _) (show z < k by omega)).2
    have hLz := Lf_le (q := q) (g := g) (k := z) (i := g z)
    have hqz := hqb (g z) hgz
    have hLe : Lf q g (z + 1) = upd (Lf q g z) (g z) (Lf q g z (g z) + 1) := rfl
    clear hqb hrb hg
    refine c_seq ?_
    refine c_region ?_
    refine s_y (y_T (y_lss rfl rfl) (by omega)) rfl rfl rfl ?_
    refine s_nil ?_
    refine f_then ?_
    refine c_seq ?_
    refine c_condT rfl ?_
    refine c_skip ?_
    refine f_then ?_
    refine c_seq ?_
    refine c_block ?_
    refine c_seq ?_
    refine c_region ?_
    refine s_y (y_indexAddr1 Try.tab rfl rfl rfl rfl _ rfl (by omega)) rfl rfl rfl ?_
    refine s_y (y_load Try.tab rfl rfl (cell_ints 0 rfl (by omega))) rfl rfl rfl ?_
    refine s_y (y_assign rfl) rfl rfl rfl ?_
    refine s_nil ?_
    refine f_then ?_
    refine c_region ?_
    refine s_y (y_move rfl) rfl rfl rfl ?_
    refine s_y (y_move rfl) rfl rfl rfl ?_
    refine s_y (y_indexAddr1 Try.tab rfl rfl rfl rfl _ rfl (by omega)) rfl rfl rfl ?_
    refine s_y (y_load Try.tab rfl rfl (cell_ints 2 rfl (by omega))) rfl rfl rfl ?_
    refine s_y (y_add rfl rfl (by omega)) rfl rfl rfl ?_
    refine s_y (y_indexAddr1 Try.tab rfl rfl rfl rfl _ rfl (by omega)) rfl rfl rfl ?_
    refine s_set (set_ints Try.tab 2 rfl rfl rfl rfl (by omega)) rfl rfl ?_
    refine s_nil ?_
    refine f_blockN ?_
    refine f_then ?_
    refine c_region ?_
    refine s_y (y_add rfl rfl (by omega)) rfl rfl rfl ?_
    refine s_y (y_move rfl) rfl rfl rfl ?_
    refine s_nil ?_
    exact f_roundP (z + 1) hzl (by omega) ⟨rfl, rfl, rfl, rfl, trivial⟩ (fun w h => by
      rw [hLe, ← upd_nat]
      exact h)
  obtain rfl : z = lft := by omega
  refine c_seq ?_
  refine c_region ?_
  refine s_y (y_F (y_lss rfl rfl) (by omega)) rfl rfl rfl ?_
  refine s_nil ?_
  refine f_then ?_
  refine c_seq ?_
  refine c_condF rfl ?_
  refine c_exit ?_
  refine f_thenE ?_
  refine f_rndE ?_
  refine f_blockE ?_
  refine f_then ?_
  refine c_seq ?_
  refine c_region ?_
  refine s_y (y_move rfl) rfl rfl rfl ?_
  refine s_y (y_assign rfl) rfl rfl rfl ?_
  refine s_y (y_assign rfl) rfl rfl rfl ?_
  refine s_nil ?_
  refine f_then ?_
  refine c_ret ?_
  exact f_ret ⟨(g, [(b44, ints 3 k (fun j => ((Lf q g z j : Nat) : Int)) [])], .slice (some ⟨b44, 0, none⟩) k k), hg, SlI.own 0 rfl⟩ (res2 rfl rfl rfl) (fun w h => K.dropAt 1 h.tail.tail)
end Go.KL
end

section
/- Walks: math/bits.Div64, whole. -/
namespace Go.KL
open Go.Proofs
/-- The divisor, shifted up to the top. -/
theorem norm64 {y : Nat} (hy : 0 < y) (hy2 : y < 18446744073709551616) : 1 ≤ Lib.bitLen y ∧ Lib.bitLen y ≤ 64 ∧ y * 2 ^ (64 - Lib.bitLen y) < 18446744073709551616 ∧ 9223372036854775808 ≤ y * 2 ^ (64 - Lib.bitLen y) := by
  obtain ⟨h1, h2, h3⟩ := Lib.bitLenAux_bounds 64 y hy2 (by omega)
  rw [show Lib.bitLenAux 64 y = Lib.bitLen y from rfl] at h1 h2 h3
  have h4 : Lib.bitLen y ≤ 64 := Lib.bitLen_le y 64 (by omega) hy2
  generalize Lib.bitLen y = k at *
  have e1 : (2 : Nat) ^ k * 2 ^ (64 - k) = 18446744073709551616 := by
    rw [← Nat.pow_add, show k + (64 - k) = 64 by omega]
  have e2 : (2 : Nat) ^ (k - 1) * 2 ^ (64 - k) = 9223372036854775808 := by
    rw [← Nat.pow_add, show k - 1 + (64 - k) = 63 by omega]
  refine ⟨h1, h4, ?_, ?_⟩
  · rw [← e1]
    exact Nat.mul_lt_mul_of_pos_right h3 (Nat.pow_pos (by decide))
  · rw [← e2]
    exact Nat.mul_le_mul_right _ h2
set_option maxRecDepth 10000 in
/-- One digit of the quotient, by t (less than V) and the next word. -/
theorem est_exact {t u0 V : Nat} (htV : t < V) (h0 : u0 < 4294967296) (hV : V < 18446744073709551616) (hn : 4294967296 ≤ V) : est (t / 4294967296) (t % 4294967296) u0 (V / 4294967296) (V % 4294967296) = (t * 4294967296 + u0) / V := by
  unfold est
  have e1 : t / 4294967296 * 4294967296 * 4294967296 + t % 4294967296 * 4294967296 + u0 = t * 4294967296 + u0 := by omega
  have e2 : V / 4294967296 * 4294967296 + V % 4294967296 = V := Nat.div_add_mod' V 4294967296
  rw [e1, e2]
  have h1 : (t * 4294967296 + u0) / V < 4294967296 := by
    rw [Nat.div_lt_iff_lt_mul (by omega)]
    omega
  generalize (t * 4294967296 + u0) / V = q at *
  omega
/-- Two digits. -/
theorem two_gen {x V a b c K : Nat} (hV : 0 < V) (hx : x = (a * K + b) * K + c) : x / V = (a * K + b) / V * K + ((a * K + b) % V * K + c) / V ∧ x % V = ((a * K + b) % V * K + c) % V := by
  have h := Nat.div_add_mod (a * K + b) V
  generalize a * K + b = n at *
  generalize n / V = q at *
  generalize n % V = r at *
  have e : x = (r * K + c) + V * (q * K) := by
    rw [hx, ← h, Nat.add_mul, Nat.mul_assoc]
    omega
  have e1 := Nat.add_mul_div_left (r * K + c) (q * K) hV
  have e2 := Nat.add_mul_mod_self_left (r * K + c) V (q * K)
  rw [← e] at e1 e2
  exact ⟨by rw [e1, Nat.add_comm], e2⟩
theorem two_digits {x V a b c : Nat} (hV : 0 < V) (hx : x = (a * 4294967296 + b) * 4294967296 + c) : x / V = (a * 4294967296 + b) / V * 4294967296 + ((a * 4294967296 + b) % V * 4294967296 + c) / V ∧ x % V = ((a * 4294967296 + b) % V * 4294967296 + c) % V := two_gen hV hx
theorem shift_div {x y p : Nat} (hp : 0 < p) : x * p / (y * p) = x / y ∧ x * p % (y * p) / p = x % y := by
  refine ⟨Nat.mul_div_mul_right x y hp, ?_⟩
  rw [Nat.mul_mod_mul_right, Nat.mul_div_cancel _ hp]
/-- The shifted dividend, in two words. -/
theorem shifted {hi lo y p P : Nat} (hp : 0 < p) (hP : 0 < P) (hpP : p * P = 18446744073709551616) (hlt : hi < y) (hlo : lo < 18446744073709551616) :
    lo / P < p ∧ hi * p + lo / P < y * p ∧ (hi * 18446744073709551616 + lo) * p = (hi * p + lo / P) * 18446744073709551616 + lo * p % 18446744073709551616 := by
  have h1 : lo / P < p := by
    rw [Nat.div_lt_iff_lt_mul hP, hpP]
    exact hlo
  have h2 : (hi + 1) * p ≤ y * p := Nat.mul_le_mul_right p hlt
  rw [Nat.add_mul, Nat.one_mul] at h2
  refine ⟨h1, by omega, ?_⟩
  have h3 := Nat.div_add_mod lo P
  have h4 : lo % P < P := Nat.mod_lt _ hP
  have h5 : lo * p = lo / P * (p * P) + lo % P * p := by
    conv => lhs; rw [← h3]
    rw [Nat.add_mul]
    congr 1
    rw [Nat.mul_comm P, Nat.mul_assoc, Nat.mul_comm P p]
  have h6 : lo % P * p < p * P := by
    rw [Nat.mul_comm p P]
    exact Nat.mul_lt_mul_of_pos_right h4 hp
  rw [hpP] at h5 h6
  have h7 : (hi * 18446744073709551616 + lo) * p = hi * p * 18446744073709551616 + lo * p := by
    rw [Nat.add_mul, Nat.mul_right_comm]
  rw [h7, Nat.add_mul]
  generalize hi * p = a at *
  generalize lo / P = b at *
  generalize lo % P * p = c at *
  generalize lo * p = d at *
  omega
theorem wrap_rem {A u Z r : Nat} (h : Z + r = A + u) (hr : r < 18446744073709551616) : (((A : Int) % 18446744073709551616 + (u : Int)) % 18446744073709551616 - (Z : Int) % 18446744073709551616) % 18446744073709551616 = (r : Int) := by omega
theorem wrap_rem2 {t u q V r : Nat} (h : V * q + r = t * 4294967296 + u) (hr : r < 18446744073709551616) : ((((t : Int) * 4294967296) % 18446744073709551616 + (u : Int)) - ((q : Int) * (V : Int)) % 18446744073709551616) % 18446744073709551616 = (r : Int) := by
  have e : (q : Int) * (V : Int) = ((V * q : Nat) : Int) := by rw [Nat.mul_comm]; simp
  have e2 : (t : Int) * 4294967296 = ((t * 4294967296 : Nat) : Int) := by simp
  rw [e, e2]
  have := wrap_rem h hr
  omega
/-- What is known of one digit q of the quotient: of T, then the word u, by v1 and v0. -/
structure DG (T u v1 v0 q : Nat) : Prop where
  top : T / 4294967296 ≤ v1
  hu : u < 4294967296
  v1a : 1 ≤ v1
  v1b : v1 < 4294967296
  v0b : v0 < 4294967296
  hT : T < 18446744073709551616
  est : est (T / 4294967296) (T % 4294967296) u v1 v0 = q
/-- A guess, never too small, and its remainder. -/
def Dgt (T v1 q qh rh : Nat) : Prop := qh * v1 + rh = T ∧ rh < 4294967296 ∧ q ≤ qh
section
variable {T u v1 v0 q qh rh : Nat} (g : DG T u v1 v0 q)
include g
theorem DG.eqT : T = T / 4294967296 * 4294967296 + T % 4294967296 := by have := g.hT; omega
theorem DG.start : Dgt T v1 q (T / v1) (T % v1) := by
  have h := Nat.div_add_mod T v1
  rw [Nat.mul_comm] at h
  have h2 := Nat.mod_lt T (show 0 < v1 from g.v1a)
  have h3 := est_start (v0 := v0) g.eqT h g.hu g.v1a h2
  rw [g.est] at h3
  exact ⟨h, Nat.lt_trans h2 g.v1b, h3⟩
theorem DG.pz (h : ¬ 4294967296 ≤ qh) : (qh : Int) * (v0 : Int) = ((qh * v0 : Nat) : Int) ∧ qh * v0 < 18446744073709551616 := by
  refine ⟨by simp, ?_⟩
  have : qh * v0 ≤ 4294967295 * 4294967295 := Nat.mul_le_mul (by omega) (by have := g.v0b; omega)
  omega
variable (d : Dgt T v1 q qh rh)
include d
theorem DG.lt : qh < 18446744073709551616 := by
  have := Nat.le_mul_of_pos_right qh (show 0 < v1 from g.v1a)
  have := d.1
  have := g.hT
  omega
theorem DG.dec (h : 4294967296 ≤ qh ∨ rh * 4294967296 + u < qh * v0) : 1 ≤ qh ∧ q ≤ qh - 1 ∧ (qh - 1) * v1 + (rh + v1) = T := by
  obtain ⟨h1, h2⟩ := est_dec g.eqT d.1 h (by rw [g.est]; exact d.2.2) g.v1a
  rw [g.est] at h1
  refine ⟨h2, h1, ?_⟩
  have := Nat.mul_le_mul_right v1 h2
  have := d.1
  rw [Nat.sub_mul]
  omega
theorem DG.brk (h : 4294967296 ≤ qh ∨ rh * 4294967296 + u < qh * v0) (hr : 4294967296 ≤ rh + v1) : q = qh - 1 := by
  obtain ⟨h1, h2, h3⟩ := g.dec d h
  have := est_brk (u0 := u) (v0 := v0) g.eqT h3 g.top (Nat.mod_lt _ (by decide)) g.v0b hr (by rw [g.est]; exact h2) g.v1a
  rw [g.est] at this
  exact this
theorem DG.next (h : 4294967296 ≤ qh ∨ rh * 4294967296 + u < qh * v0) (hr : ¬ 4294967296 ≤ rh + v1) : Dgt T v1 q (qh - 1) (rh + v1) := by
  obtain ⟨h1, h2, h3⟩ := g.dec d h
  exact ⟨h3, by omega, h2⟩
theorem DG.out (h : ¬ (4294967296 ≤ qh ∨ rh * 4294967296 + u < qh * v0)) : q = qh := by
  have := est_out g.eqT d.1 (by omega) (show qh * v0 ≤ rh * 4294967296 + u by omega) (by rw [g.est]; exact d.2.2) g.v1a
  rw [g.est] at this
  exact this
end
attribute [local irreducible] SC St Fin Sq Ylds Doos Sets Enters Spec CellIs CellsAre Then Ret Rnd Chn resOK ints bools recs arr
theorem len64_spec {C : World → Prop} {x : Nat} (h : x < 18446744073709551616) : Spec Try.prog 136 #[.int .u64 (x : Int)] C (fun _ : Unit => .int .i64 (Lib.bitLen x : Nat)) (fun _ => C) := by
  refine spec_of_calls fun w hw => ?_
  refine (Try.bits_Len64 (x : Int) w (by omega) (by omega)).mono ?_
  rintro e w' ⟨rfl, rfl⟩
  exact ⟨(), rfl, hw⟩
theorem zeros64_spec {C : World → Prop} {x : Nat} (h0 : 0 < x) (h : x < 18446744073709551616) : Spec Try.prog 115 #[.int .u64 (x : Int)] C (fun _ : Unit => .int .i64 (64 - Lib.bitLen x : Nat)) (fun _ => C) := by
  have hb := norm64 h0 h
  have e : (64 : Int) - (Lib.bitLen x : Nat) = ((64 - Lib.bitLen x : Nat) : Int) := by omega
  rw [← e]
  refine enter (args := [_]) Try.func115 rfl Try.ntmps115 rfl ?_
  refine c_seq ?_
  refine c_region ?_
  refine s_y (y_assign rfl) rfl rfl rfl ?_
  refine s_nil ?_
  refine f_then ?_
  refine c_seq ?_
  refine c_region ?_
  refine s_y (y_move rfl) rfl rfl rfl ?_
  refine s_call (en_f rfl Try.call136) (len64_spec h) rfl rfl rfl (fun _ => ?_)
  refine s_y (y_sub rfl rfl (by omega)) rfl rfl rfl ?_
  refine s_y (y_assign rfl) rfl rfl rfl ?_
  refine s_nil ?_
  refine f_then ?_
  refine c_ret ?_
  exact f_ret () (res1 rfl rfl) (fun w h => h)
set_option maxRecDepth 10000 in
set_option maxHeartbeats 16000000 in
theorem div64_hard {W : World} {N : List Chunk} {hi lo y : Nat} (h0 : 0 < hi) (hlt : hi < y) (hlo : lo < 18446744073709551616) (hy : y < 9223372036854775808) : Spec Try.prog 78 #[.int .u64 (hi : Int), .int .u64 (lo : Int), .int .u64 (y : Int)] (K W N) (fun _ : Unit => .tuple #[.int .u64 (((hi * 18446744073709551616 + lo) / y : Nat) : Int), .int .u64 (((hi * 18446744073709551616 + lo) % y : Nat) : Int)]) (fun _ => K W N) := by
  obtain ⟨b1, b2, b3, b4⟩ := norm64 (y := y) (by omega) (by omega)
  have b5 : Lib.bitLen y ≤ 63 := Lib.bitLen_le y 63 (by omega) (by exact hy)
  have hz := fun (C : World → Prop) => zeros64_spec (C := C) (x := y) (by omega) (by omega)
  obtain ⟨s, hs⟩ : ∃ s, s = 64 - Lib.bitLen y := ⟨_, rfl⟩
  rw [← hs] at b3 b4
  simp only [← hs] at hz
  have hs1 : 1 ≤ s ∧ s ≤ 63 := by omega
  have hpP : 2 ^ s * 2 ^ (64 - s) = 18446744073709551616 := by
    rw [← Nat.pow_add, show s + (64 - s) = 64 by omega]
  have hp0 : 0 < 2 ^ s := Nat.pow_pos (by decide)
  have hP0 : 0 < 2 ^ (64 - s) := Nat.pow_pos (by decide)
  have dp : ((2 ^ s : Nat) : Int) = 2 ^ ((s : Nat) : Int).toNat := by rw [Int.toNat_natCast]; simp
  have dP : ((2 ^ (64 - s) : Nat) : Int) = 2 ^ ((64 - s : Nat) : Int).toNat := by rw [Int.toNat_natCast]; simp
  have or1 : ∀ {a b : Nat}, b < 2 ^ s → (a * 2 ^ s) ||| b = a * 2 ^ s + b := fun h => or_add h
  obtain ⟨p, hp⟩ : ∃ p, p = 2 ^ s := ⟨_, rfl⟩
  obtain ⟨P, hP⟩ : ∃ P, P = 2 ^ (64 - s) := ⟨_, rfl⟩
  rw [← hp] at dp hp0 hpP b3 b4 or1
  rw [← hP] at dP hP0 hpP
  obtain ⟨c1, c2, c3⟩ := shifted (hi := hi) (lo := lo) (y := y) hp0 hP0 hpP hlt hlo
  obtain ⟨d1, d2⟩ := shift_div (x := hi * 18446744073709551616 + lo) (y := y) hp0
  rw [c3] at d1 d2
  have hor := or1 (a := hi) c1
  clear or1 hp hP hs b1 b2 b5
  have eV : (y : Int) * (p : Int) % 18446744073709551616 = ((y * p : Nat) : Int) := by
    rw [← Int.natCast_mul]
    omega
  have hH : hi * p < 18446744073709551616 := Nat.lt_of_le_of_lt (Nat.le_add_right _ _) (Nat.lt_trans c2 b3)
  have eH : (hi : Int) * (p : Int) % 18446744073709551616 = ((hi * p : Nat) : Int) := by
    rw [← Int.natCast_mul]
    omega
  have eL : (lo : Int) * (p : Int) % 18446744073709551616 = ((lo * p % 18446744073709551616 : Nat) : Int) := by
    rw [← Int.natCast_mul]
    omega
  have eD : (lo : Int) / (P : Int) = ((lo / P : Nat) : Int) := (Int.natCast_ediv lo P).symm
  have hlP : lo / P < 18446744073709551616 := Nat.lt_of_le_of_lt (Nat.div_le_self lo P) hlo
  have e64 : (64 : Int) - (s : Int) = ((64 - s : Nat) : Int) := by omega
  refine enter (args := [_, _, _]) Try.func78 rfl Try.ntmps78 rfl ?_
  refine c_seq ?_
  refine c_region ?_
  refine s_y (y_assign rfl) rfl rfl rfl ?_
  refine s_y (y_assign rfl) rfl rfl rfl ?_
  refine s_nil ?_
  refine f_then ?_
  refine c_seq ?_
  refine c_seq ?_
  refine c_region ?_
  refine s_y (y_move rfl) rfl rfl rfl ?_
  refine s_y (y_F (y_eql rfl rfl) (by omega)) rfl rfl rfl ?_
  refine s_nil ?_
  refine f_then ?_
  refine c_condF rfl ?_
  refine c_skip ?_
  refine f_then ?_
  refine c_seq ?_
  refine c_seq ?_
  refine c_region ?_
  refine s_y (y_move rfl) rfl rfl rfl ?_
  refine s_y (y_move rfl) rfl rfl rfl ?_
  refine s_y (y_F (y_leq rfl rfl) (by omega)) rfl rfl rfl ?_
  refine s_nil ?_
  refine f_then ?_
  refine c_condF rfl ?_
  refine c_skip ?_
  refine f_then ?_
  refine c_seq ?_
  refine c_seq ?_
  refine c_region ?_
  refine s_y (y_move rfl) rfl rfl rfl ?_
  refine s_y (y_F (y_eql rfl rfl) (by omega)) rfl rfl rfl ?_
  refine s_nil ?_
  refine f_then ?_
  refine c_condF rfl ?_
  refine c_skip ?_
  refine f_then ?_
  refine c_seq ?_
  refine c_region ?_
  refine s_y (y_move rfl) rfl rfl rfl ?_
  refine s_call (en_f rfl Try.call115) (hz _) rfl rfl rfl (fun _ => ?_)
  refine s_y (y_to64 Try.tab rfl rfl rfl (by omega)) rfl rfl rfl ?_
  refine s_y (y_assign rfl) rfl rfl rfl ?_
  refine s_nil ?_
  refine f_then ?_
  refine c_seq ?_
  refine c_region ?_
  refine s_y (y_move rfl) rfl rfl rfl ?_
  refine s_y (y_move rfl) rfl rfl rfl ?_
  refine s_y (y_shlU (d := (p : Int)) rfl rfl (by omega) dp) rfl rfl rfl ?_
  rw [eV]
  refine s_y (y_assign rfl) rfl rfl rfl ?_
  refine s_nil ?_
  refine f_then ?_
  refine c_seq ?_
  refine c_region ?_
  refine s_y (y_move rfl) rfl rfl rfl ?_
  refine s_y (y_shrU (d := 4294967296) rfl rfl (by decide) rfl) rfl rfl rfl ?_
  refine s_y (y_assign rfl) rfl rfl rfl ?_
  refine s_nil ?_
  refine f_then ?_
  refine c_seq ?_
  refine c_region ?_
  refine s_y (y_move rfl) rfl rfl rfl ?_
  refine s_y (y_low32 rfl rfl b3) rfl rfl rfl ?_
  refine s_y (y_assign rfl) rfl rfl rfl ?_
  refine s_nil ?_
  refine f_then ?_
  refine c_seq ?_
  refine c_region ?_
  refine s_y (y_move rfl) rfl rfl rfl ?_
  refine s_y (y_move rfl) rfl rfl rfl ?_
  refine s_y (y_shlU (d := (p : Int)) rfl rfl (by omega) dp) rfl rfl rfl ?_
  rw [eH]
  refine s_y (y_move rfl) rfl rfl rfl ?_
  refine s_y (y_move rfl) rfl rfl rfl ?_
  refine s_y (y_subU rfl rfl (by omega)) rfl rfl rfl ?_
  rw [e64]
  refine s_y (y_shrU (d := (P : Int)) rfl rfl ⟨by omega, by show ((64 - s : Nat) : Int) < 64; omega⟩ dP) rfl rfl rfl ?_
  rw [eD]
  refine s_y (y_orU rfl rfl ⟨hH, hlP⟩) rfl rfl rfl ?_
  rw [hor]
  refine s_y (y_assign rfl) rfl rfl rfl ?_
  refine s_nil ?_
  refine f_then ?_
  refine c_seq ?_
  refine c_region ?_
  refine s_y (y_move rfl) rfl rfl rfl ?_
  refine s_y (y_move rfl) rfl rfl rfl ?_
  refine s_y (y_shlU (d := (p : Int)) rfl rfl (by omega) dp) rfl rfl rfl ?_
  rw [eL]
  refine s_y (y_assign rfl) rfl rfl rfl ?_
  refine s_nil ?_
  refine f_then ?_
  refine c_seq ?_
  refine c_region ?_
  refine s_y (y_move rfl) rfl rfl rfl ?_
  refine s_y (y_shrU (d := 4294967296) rfl rfl (by decide) rfl) rfl rfl rfl ?_
  refine s_y (y_assign rfl) rfl rfl rfl ?_
  refine s_nil ?_
  refine f_then ?_
  refine c_seq ?_
  refine c_region ?_
  refine s_y (y_move rfl) rfl rfl rfl ?_
  have huM : lo * p % 18446744073709551616 < 18446744073709551616 := Nat.mod_lt _ (by decide)
  refine s_y (y_low32 rfl rfl huM) rfl rfl rfl ?_
  clear eV eH eL eD hlP hor c1 c3 hH
  generalize y * p = V at *
  generalize hi * p + lo / P = t at *
  generalize lo * p % 18446744073709551616 = un at *
  clear hz hpP dP hP0 e64
  have hv1 : 1 ≤ V / 4294967296 ∧ V / 4294967296 < 4294967296 := by omega
  have hv0 : V % 4294967296 < 4294967296 := Nat.mod_lt _ (by decide)
  have eV1 : (V : Int) / 4294967296 = ((V / 4294967296 : Nat) : Int) := by omega
  have eu1 : (un : Int) / 4294967296 = ((un / 4294967296 : Nat) : Int) := by omega
  rw [eV1, eu1]
  have htb : t < 18446744073709551616 := by omega
  have hV0 : 0 < V := by omega
  have hub1 : un / 4294967296 < 4294967296 := by omega
  have hub0 : un % 4294967296 < 4294967296 := by omega
  have hdig := two_digits (x := t * 18446744073709551616 + un) (V := V) (a := t) (b := un / 4294967296) (c := un % 4294967296) hV0 (by omega)
  rw [hdig.1] at d1
  rw [hdig.2] at d2
  have g1 : DG t (un / 4294967296) (V / 4294967296) (V % 4294967296) ((t * 4294967296 + un / 4294967296) / V) := ⟨Nat.div_le_div_right (Nat.le_of_lt c2), hub1, hv1.1, hv1.2, hv0, htb, est_exact c2 hub1 b3 (by omega)⟩
  have hr1 := Nat.mod_lt (t * 4294967296 + un / 4294967296) hV0
  have g0 : DG ((t * 4294967296 + un / 4294967296) % V) (un % 4294967296) (V / 4294967296) (V % 4294967296) (((t * 4294967296 + un / 4294967296) % V * 4294967296 + un % 4294967296) / V) := ⟨Nat.div_le_div_right (Nat.le_of_lt hr1), hub0, hv1.1, hv1.2, hv0, by omega, est_exact hr1 hub0 b3 (by omega)⟩
  have hdm1 := Nat.div_add_mod (t * 4294967296 + un / 4294967296) V
  have hdm0 := Nat.div_add_mod ((t * 4294967296 + un / 4294967296) % V * 4294967296 + un % 4294967296) V
  have hr0 := Nat.mod_lt ((t * 4294967296 + un / 4294967296) % V * 4294967296 + un % 4294967296) hV0
  have hq1b : (t * 4294967296 + un / 4294967296) / V < 4294967296 := by
    rw [Nat.div_lt_iff_lt_mul hV0]
    omega
  have hq0b : ((t * 4294967296 + un / 4294967296) % V * 4294967296 + un % 4294967296) / V < 4294967296 := by
    rw [Nat.div_lt_iff_lt_mul hV0]
    omega
  obtain ⟨q1, hq1e⟩ : ∃ q, q = (t * 4294967296 + un / 4294967296) / V := ⟨_, rfl⟩
  rw [← hq1e] at g1 hdm1 hq1b d1
  obtain ⟨r1, hr1e⟩ : ∃ r, r = (t * 4294967296 + un / 4294967296) % V := ⟨_, rfl⟩
  rw [← hr1e] at g0 hdm1 hdm0 hr1 hr0 hq0b d1 d2
  obtain ⟨q0, hq0e⟩ : ∃ q, q = (r1 * 4294967296 + un % 4294967296) / V := ⟨_, rfl⟩
  rw [← hq0e] at g0 hdm0 hq0b d1
  obtain ⟨r0, hr0e⟩ : ∃ r, r = (r1 * 4294967296 + un % 4294967296) % V := ⟨_, rfl⟩
  rw [← hr0e] at hdm0 hr0 d2
  clear hq1e hr1e hdig hq0e hr0e
  generalize un / 4294967296 = u1 at *
  generalize un % 4294967296 = u0 at *
  generalize V / 4294967296 = v1 at *
  generalize V % 4294967296 = v0 at *
  have htv := Nat.div_add_mod t v1
  have htl := Nat.mod_lt t (show 0 < v1 by omega)
  have hrv := Nat.div_add_mod r1 v1
  have hrl := Nat.mod_lt r1 (show 0 < v1 by omega)
  have hr1b : r1 < 18446744073709551616 := by omega
  have hr0b : r0 < 18446744073709551616 := by omega
  have htq : (t : Int) / (v1 : Int) = ((t / v1 : Nat) : Int) := (Int.natCast_ediv _ _).symm
  have hrq : (r1 : Int) / (v1 : Int) = ((r1 / v1 : Nat) : Int) := (Int.natCast_ediv _ _).symm
  have htp : ((t / v1 : Nat) : Int) * (v1 : Int) = ((v1 * (t / v1) : Nat) : Int) := by rw [Nat.mul_comm]; simp
  have hrp : ((r1 / v1 : Nat) : Int) * (v1 : Int) = ((v1 * (r1 / v1) : Nat) : Int) := by rw [Nat.mul_comm]; simp
  have wr1 := wrap_rem2 hdm1 hr1b
  have wr0 := wrap_rem2 hdm0 hr0b
  have et : (t : Int) - ((v1 * (t / v1) : Nat) : Int) = ((t % v1 : Nat) : Int) := by omega
  have er : (r1 : Int) - ((v1 * (r1 / v1) : Nat) : Int) = ((r1 % v1 : Nat) : Int) := by omega
  have htpb : v1 * (t / v1) ≤ t := by omega
  have hrpb : v1 * (r1 / v1) ≤ r1 := by omega
  refine s_y (y_assign rfl) rfl rfl rfl ?_
  refine s_nil ?_
  refine f_then ?_
  refine c_seq ?_
  refine c_region ?_
  refine s_y (y_move rfl) rfl rfl rfl ?_
  refine s_y (y_move rfl) rfl rfl rfl ?_
  refine s_y (y_quoU rfl rfl (by omega)) rfl rfl rfl ?_
  refine s_y (y_assign rfl) rfl rfl rfl ?_
  refine s_nil ?_
  refine f_then ?_
  refine c_seq ?_
  refine c_region ?_
  refine s_y (y_move rfl) rfl rfl rfl ?_
  refine s_y (y_move rfl) rfl rfl rfl ?_
  refine s_y (y_move rfl) rfl rfl rfl ?_
  rw [htq]
  refine s_y (y_mulU rfl rfl ⟨by rw [htp]; omega, by rw [htp]; omega⟩) rfl rfl rfl ?_
  rw [htp]
  refine s_y (y_subU rfl rfl (by omega)) rfl rfl rfl ?_
  rw [et]
  refine s_y (y_assign rfl) rfl rfl rfl ?_
  refine s_nil ?_
  refine f_then ?_
  refine c_seq ?_
  refine c_then_cut (α := Unit) (fun _ => [(2, .int .u64 (V : Int)), (8, .int .u64 (s : Int)), (9, .int .u64 (v1 : Int)), (10, .int .u64 (v0 : Int)), (11, .int .u64 (t : Int)), (13, .int .u64 (u1 : Int)), (14, .int .u64 (u0 : Int)), (15, .int .u64 (q1 : Int))]) (fun _ => True) (fun _ => K W N) ?_ ?_
  · refine c_block ?_
    refine c_loopP (α := Nat × Nat) (fun z => [(2, .int .u64 (V : Int)), (8, .int .u64 (s : Int)), (9, .int .u64 (v1 : Int)), (10, .int .u64 (v0 : Int)), (11, .int .u64 (t : Int)), (13, .int .u64 (u1 : Int)), (14, .int .u64 (u0 : Int)), (15, .int .u64 (z.1 : Int)), (16, .int .u64 (z.2 : Int))])
      (fun z => Dgt t v1 q1 z.1 z.2) (fun _ => K W N) (fun z => z.1) (t / v1, t % v1) ⟨rfl, rfl, rfl, rfl, rfl, rfl, rfl, rfl, rfl, trivial⟩ g1.start (fun w h => h) ?_
    rintro ⟨qh, rh⟩ hd
    dsimp only at hd ⊢
    have hqb := g1.lt hd
    have hrb := hd.2.1
    have hv1b := g1.v1b
    have hub := g1.hu
    by_cases hq1 : 4294967296 ≤ qh
    · have hq : 4294967296 ≤ qh ∨ rh * 4294967296 + u1 < qh * v0 := .inl hq1
      obtain ⟨hd1, hd2, hd3⟩ := g1.dec hd hq
      clear hd2 hd3
      refine c_seq ?_
      refine c_seq ?_
      refine c_region ?_
      refine s_y (y_move rfl) rfl rfl rfl ?_
      refine s_y (y_T (y_geq rfl rfl) (by omega)) rfl rfl rfl ?_
      refine s_y (y_move rfl) rfl rfl rfl ?_
      iterate 8 refine s_skip rfl rfl rfl ?_
      refine s_y (y_pickT rfl rfl) rfl rfl rfl ?_
      refine s_nil ?_
      refine f_then ?_
      refine c_condT rfl ?_
      refine c_skip ?_
      refine f_then ?_
      refine c_block ?_
      refine c_seq ?_
      refine c_region ?_
      refine s_y (y_move rfl) rfl rfl rfl ?_
      refine s_y (y_subU rfl rfl (by omega)) rfl rfl rfl ?_
      refine s_y (y_assign rfl) rfl rfl rfl ?_
      refine s_nil ?_
      refine f_then ?_
      refine c_seq ?_
      refine c_region ?_
      refine s_y (y_move rfl) rfl rfl rfl ?_
      refine s_y (y_move rfl) rfl rfl rfl ?_
      refine s_y (y_addU rfl rfl (by omega)) rfl rfl rfl ?_
      refine s_y (y_assign rfl) rfl rfl rfl ?_
      refine s_nil ?_
      refine f_then ?_
      refine c_seq ?_
      refine c_region ?_
      refine s_y (y_move rfl) rfl rfl rfl ?_
      refine s_y (y_geq rfl rfl) rfl rfl rfl ?_
      refine s_nil ?_
      refine f_then ?_
      refine c_condD rfl (fun hb => ?_) (fun hb => ?_)
      · have heq := g1.brk hd hq (by omega)
        refine c_exit ?_
        refine f_blockX rfl ?_
        refine f_rndE ?_
        refine f_blockE ?_
        exact f_cutP () trivial (by rw [heq, show ((qh - 1 : Nat) : Int) = (qh : Int) - 1 by omega]; exact ⟨rfl, rfl, rfl, rfl, rfl, rfl, rfl, rfl, trivial⟩) (fun w h => h)
      · refine c_skip ?_
        refine f_blockN ?_
        exact f_roundP (qh - 1, rh + v1) (g1.next hd hq (by omega)) (by dsimp only; omega) (by dsimp only; rw [show ((qh - 1 : Nat) : Int) = (qh : Int) - 1 by omega, show ((rh + v1 : Nat) : Int) = (rh : Int) + (v1 : Int) by omega]; exact ⟨rfl, rfl, rfl, rfl, rfl, rfl, rfl, rfl, rfl, trivial⟩) (fun w h => h)
    · obtain ⟨hz1, hz2⟩ := g1.pz hq1
      have hz3 : (0 : Int) ≤ (qh : Int) * (v0 : Int) ∧ (qh : Int) * (v0 : Int) < 18446744073709551616 := by rw [hz1]; omega
      by_cases hq2 : rh * 4294967296 + u1 < qh * v0
      · have hq : 4294967296 ≤ qh ∨ rh * 4294967296 + u1 < qh * v0 := .inr hq2
        obtain ⟨hd1, hd2, hd3⟩ := g1.dec hd hq
        clear hd2 hd3
        refine c_seq ?_
        refine c_seq ?_
        refine c_region ?_
        refine s_y (y_move rfl) rfl rfl rfl ?_
        refine s_y (y_F (y_geq rfl rfl) (by omega)) rfl rfl rfl ?_
        refine s_y (y_move rfl) rfl rfl rfl ?_
        refine s_y (y_move rfl) rfl rfl rfl ?_
        refine s_y (y_move rfl) rfl rfl rfl ?_
        refine s_y (y_mulU rfl rfl (by assumption)) rfl rfl rfl ?_
        refine s_y (y_move rfl) rfl rfl rfl ?_
        refine s_y (y_mulU rfl rfl (by omega)) rfl rfl rfl ?_
        refine s_y (y_move rfl) rfl rfl rfl ?_
        refine s_y (y_addU rfl rfl (by omega)) rfl rfl rfl ?_
        refine s_y (y_T (y_gtr rfl rfl) (by omega)) rfl rfl rfl ?_
        refine s_y (y_pickF rfl rfl) rfl rfl rfl ?_
        refine s_nil ?_
        refine f_then ?_
        refine c_condT rfl ?_
        refine c_skip ?_
        refine f_then ?_
        refine c_block ?_
        refine c_seq ?_
        refine c_region ?_
        refine s_y (y_move rfl) rfl rfl rfl ?_
        refine s_y (y_subU rfl rfl (by omega)) rfl rfl rfl ?_
        refine s_y (y_assign rfl) rfl rfl rfl ?_
        refine s_nil ?_
        refine f_then ?_
        refine c_seq ?_
        refine c_region ?_
        refine s_y (y_move rfl) rfl rfl rfl ?_
        refine s_y (y_move rfl) rfl rfl rfl ?_
        refine s_y (y_addU rfl rfl (by omega)) rfl rfl rfl ?_
        refine s_y (y_assign rfl) rfl rfl rfl ?_
        refine s_nil ?_
        refine f_then ?_
        refine c_seq ?_
        refine c_region ?_
        refine s_y (y_move rfl) rfl rfl rfl ?_
        refine s_y (y_geq rfl rfl) rfl rfl rfl ?_
        refine s_nil ?_
        refine f_then ?_
        refine c_condD rfl (fun hb => ?_) (fun hb => ?_)
        · have heq := g1.brk hd hq (by omega)
          refine c_exit ?_
          refine f_blockX rfl ?_
          refine f_rndE ?_
          refine f_blockE ?_
          exact f_cutP () trivial (by rw [heq, show ((qh - 1 : Nat) : Int) = (qh : Int) - 1 by omega]; exact ⟨rfl, rfl, rfl, rfl, rfl, rfl, rfl, rfl, trivial⟩) (fun w h => h)
        · refine c_skip ?_
          refine f_blockN ?_
          exact f_roundP (qh - 1, rh + v1) (g1.next hd hq (by omega)) (by dsimp only; omega) (by dsimp only; rw [show ((qh - 1 : Nat) : Int) = (qh : Int) - 1 by omega, show ((rh + v1 : Nat) : Int) = (rh : Int) + (v1 : Int) by omega]; exact ⟨rfl, rfl, rfl, rfl, rfl, rfl, rfl, rfl, rfl, trivial⟩) (fun w h => h)
      · have heq := g1.out hd (by omega)
        refine c_seq ?_
        refine c_seq ?_
        refine c_region ?_
        refine s_y (y_move rfl) rfl rfl rfl ?_
        refine s_y (y_F (y_geq rfl rfl) (by omega)) rfl rfl rfl ?_
        refine s_y (y_move rfl) rfl rfl rfl ?_
        refine s_y (y_move rfl) rfl rfl rfl ?_
        refine s_y (y_move rfl) rfl rfl rfl ?_
        refine s_y (y_mulU rfl rfl (by assumption)) rfl rfl rfl ?_
        refine s_y (y_move rfl) rfl rfl rfl ?_
        refine s_y (y_mulU rfl rfl (by omega)) rfl rfl rfl ?_
        refine s_y (y_move rfl) rfl rfl rfl ?_
        refine s_y (y_addU rfl rfl (by omega)) rfl rfl rfl ?_
        refine s_y (y_F (y_gtr rfl rfl) (by omega)) rfl rfl rfl ?_
        refine s_y (y_pickF rfl rfl) rfl rfl rfl ?_
        refine s_nil ?_
        refine f_then ?_
        refine c_condF rfl ?_
        refine c_exit ?_
        refine f_thenE ?_
        refine f_rndE ?_
        refine f_blockE ?_
        exact f_cutP () trivial (by rw [heq]; exact ⟨rfl, rfl, rfl, rfl, rfl, rfl, rfl, rfl, trivial⟩) (fun w h => h)
  rintro ⟨⟩ _
  refine c_seq ?_
  refine c_region ?_
  refine s_y (y_move rfl) rfl rfl rfl ?_
  refine s_y (y_mulM rfl rfl) rfl rfl rfl ?_
  refine s_y (y_move rfl) rfl rfl rfl ?_
  refine s_y (y_addU rfl rfl (by omega)) rfl rfl rfl ?_
  refine s_y (y_move rfl) rfl rfl rfl ?_
  refine s_y (y_move rfl) rfl rfl rfl ?_
  refine s_y (y_mulM rfl rfl) rfl rfl rfl ?_
  refine s_y (y_subM rfl rfl) rfl rfl rfl ?_
  rw [wr1]
  refine s_y (y_assign rfl) rfl rfl rfl ?_
  refine s_nil ?_
  refine f_then ?_
  refine c_seq ?_
  refine c_region ?_
  refine s_y (y_move rfl) rfl rfl rfl ?_
  refine s_y (y_move rfl) rfl rfl rfl ?_
  refine s_y (y_quoU rfl rfl (by omega)) rfl rfl rfl ?_
  refine s_y (y_assign rfl) rfl rfl rfl ?_
  refine s_nil ?_
  refine f_then ?_
  refine c_seq ?_
  refine c_region ?_
  refine s_y (y_move rfl) rfl rfl rfl ?_
  refine s_y (y_move rfl) rfl rfl rfl ?_
  refine s_y (y_move rfl) rfl rfl rfl ?_
  rw [hrq]
  refine s_y (y_mulU rfl rfl ⟨by rw [hrp]; omega, by rw [hrp]; omega⟩) rfl rfl rfl ?_
  rw [hrp]
  refine s_y (y_subU rfl rfl (by omega)) rfl rfl rfl ?_
  rw [er]
  refine s_y (y_assign rfl) rfl rfl rfl ?_
  refine s_nil ?_
  refine f_then ?_
  refine c_seq ?_
  refine c_then_cut (α := Unit) (fun _ => [(2, .int .u64 (V : Int)), (8, .int .u64 (s : Int)), (9, .int .u64 (v1 : Int)), (10, .int .u64 (v0 : Int)), (14, .int .u64 (u0 : Int)), (15, .int .u64 (q1 : Int)), (17, .int .u64 (r1 : Int)), (18, .int .u64 (q0 : Int))]) (fun _ => True) (fun _ => K W N) ?_ ?_
  · refine c_block ?_
    refine c_loopP (α := Nat × Nat) (fun z => [(2, .int .u64 (V : Int)), (8, .int .u64 (s : Int)), (9, .int .u64 (v1 : Int)), (10, .int .u64 (v0 : Int)), (14, .int .u64 (u0 : Int)), (15, .int .u64 (q1 : Int)), (17, .int .u64 (r1 : Int)), (18, .int .u64 (z.1 : Int)), (16, .int .u64 (z.2 : Int))])
      (fun z => Dgt r1 v1 q0 z.1 z.2) (fun _ => K W N) (fun z => z.1) (r1 / v1, r1 % v1) ⟨rfl, rfl, rfl, rfl, rfl, rfl, rfl, rfl, rfl, trivial⟩ g0.start (fun w h => h) ?_
    rintro ⟨qh, rh⟩ hd
    dsimp only at hd ⊢
    have hqb := g0.lt hd
    have hrb := hd.2.1
    have hv1b := g0.v1b
    have hub := g0.hu
    by_cases hq1 : 4294967296 ≤ qh
    · have hq : 4294967296 ≤ qh ∨ rh * 4294967296 + u0 < qh * v0 := .inl hq1
      obtain ⟨hd1, hd2, hd3⟩ := g0.dec hd hq
      clear hd2 hd3
      refine c_seq ?_
      refine c_seq ?_
      refine c_region ?_
      refine s_y (y_move rfl) rfl rfl rfl ?_
      refine s_y (y_T (y_geq rfl rfl) (by omega)) rfl rfl rfl ?_
      refine s_y (y_move rfl) rfl rfl rfl ?_
      iterate 8 refine s_skip rfl rfl rfl ?_
      refine s_y (y_pickT rfl rfl) rfl rfl rfl ?_
      refine s_nil ?_
      refine f_then ?_
      refine c_condT rfl ?_
      refine c_skip ?_
      refine f_then ?_
      refine c_block ?_
      refine c_seq ?_
      refine c_region ?_
      refine s_y (y_move rfl) rfl rfl rfl ?_
      refine s_y (y_subU rfl rfl (by omega)) rfl rfl rfl ?_
      refine s_y (y_assign rfl) rfl rfl rfl ?_
      refine s_nil ?_
      refine f_then ?_
      refine c_seq ?_
      refine c_region ?_
      refine s_y (y_move rfl) rfl rfl rfl ?_
      refine s_y (y_move rfl) rfl rfl rfl ?_
      refine s_y (y_addU rfl rfl (by omega)) rfl rfl rfl ?_
      refine s_y (y_assign rfl) rfl rfl rfl ?_
      refine s_nil ?_
      refine f_then ?_
      refine c_seq ?_
      refine c_region ?_
      refine s_y (y_move rfl) rfl rfl rfl ?_
      refine s_y (y_geq rfl rfl) rfl rfl rfl ?_
      refine s_nil ?_
      refine f_then ?_
      refine c_condD rfl (fun hb => ?_) (fun hb => ?_)
      · have heq := g0.brk hd hq (by omega)
        refine c_exit ?_
        refine f_blockX rfl ?_
        refine f_rndE ?_
        refine f_blockE ?_
        exact f_cutP () trivial (by rw [heq, show ((qh - 1 : Nat) : Int) = (qh : Int) - 1 by omega]; exact ⟨rfl, rfl, rfl, rfl, rfl, rfl, rfl, rfl, trivial⟩) (fun w h => h)
      · refine c_skip ?_
        refine f_blockN ?_
        exact f_roundP (qh - 1, rh + v1) (g0.next hd hq (by omega)) (by dsimp only; omega) (by dsimp only; rw [show ((qh - 1 : Nat) : Int) = (qh : Int) - 1 by omega, show ((rh + v1 : Nat) : Int) = (rh : Int) + (v1 : Int) by omega]; exact ⟨rfl, rfl, rfl, rfl, rfl, rfl, rfl, rfl, rfl, trivial⟩) (fun w h => h)
    · obtain ⟨hz1, hz2⟩ := g0.pz hq1
      have hz3 : (0 : Int) ≤ (qh : Int) * (v0 : Int) ∧ (qh : Int) * (v0 : Int) < 18446744073709551616 := by rw [hz1]; omega
      by_cases hq2 : rh * 4294967296 + u0 < qh * v0
      · have hq : 4294967296 ≤ qh ∨ rh * 4294967296 + u0 < qh * v0 := .inr hq2
        obtain ⟨hd1, hd2, hd3⟩ := g0.dec hd hq
        clear hd2 hd3
        refine c_seq ?_
        refine c_seq ?_
        refine c_region ?_
        refine s_y (y_move rfl) rfl rfl rfl ?_
        refine s_y (y_F (y_geq rfl rfl) (by omega)) rfl rfl rfl ?_
        refine s_y (y_move rfl) rfl rfl rfl ?_
        refine s_y (y_move rfl) rfl rfl rfl ?_
        refine s_y (y_move rfl) rfl rfl rfl ?_
        refine s_y (y_mulU rfl rfl (by assumption)) rfl rfl rfl ?_
        refine s_y (y_move rfl) rfl rfl rfl ?_
        refine s_y (y_mulU rfl rfl (by omega)) rfl rfl rfl ?_
        refine s_y (y_move rfl) rfl rfl rfl ?_
        refine s_y (y_addU rfl rfl (by omega)) rfl rfl rfl ?_
        refine s_y (y_T (y_gtr rfl rfl) (by omega)) rfl rfl rfl ?_
        refine s_y (y_pickF rfl rfl) rfl rfl rfl ?_
        refine s_nil ?_
        refine f_then ?_
        refine c_condT rfl ?_
        refine c_skip ?_
        refine f_then ?_
        refine c_block ?_
        refine c_seq ?_
        refine c_region ?_
        refine s_y (y_move rfl) rfl rfl rfl ?_
        refine s_y (y_subU rfl rfl (by omega)) rfl rfl rfl ?_
        refine s_y (y_assign rfl) rfl rfl rfl ?_
        refine s_nil ?_
        refine f_then ?_
        refine c_seq ?_
        refine c_region ?_
        refine s_y (y_move rfl) rfl rfl rfl ?_
        refine s_y (y_move rfl) rfl rfl rfl ?_
        refine s_y (y_addU rfl rfl (by omega)) rfl rfl rfl ?_
        refine s_y (y_assign rfl) rfl rfl rfl ?_
        refine s_nil ?_
        refine f_then ?_
        refine c_seq ?_
        refine c_region ?_
        refine s_y (y_move rfl) rfl rfl rfl ?_
        refine s_y (y_geq rfl rfl) rfl rfl rfl ?_
        refine s_nil ?_
        refine f_then ?_
        refine c_condD rfl (fun hb => ?_) (fun hb => ?_)
        · have heq := g0.brk hd hq (by omega)
          refine c_exit ?_
          refine f_blockX rfl ?_
          refine f_rndE ?_
          refine f_blockE ?_
          exact f_cutP () trivial (by rw [heq, show ((qh - 1 : Nat) : Int) = (qh : Int) - 1 by omega]; exact ⟨rfl, rfl, rfl, rfl, rfl, rfl, rfl, rfl, trivial⟩) (fun w h => h)
        · refine c_skip ?_
          refine f_blockN ?_
          exact f_roundP (qh - 1, rh + v1) (g0.next hd hq (by omega)) (by dsimp only; omega) (by dsimp only; rw [show ((qh - 1 : Nat) : Int) = (qh : Int) - 1 by omega, show ((rh + v1 : Nat) : Int) = (rh : Int) + (v1 : Int) by omega]; exact ⟨rfl, rfl, rfl, rfl, rfl, rfl, rfl, rfl, rfl, trivial⟩) (fun w h => h)
      · have heq := g0.out hd (by omega)
        refine c_seq ?_
        refine c_seq ?_
        refine c_region ?_
        refine s_y (y_move rfl) rfl rfl rfl ?_
        refine s_y (y_F (y_geq rfl rfl) (by omega)) rfl rfl rfl ?_
        refine s_y (y_move rfl) rfl rfl rfl ?_
        refine s_y (y_move rfl) rfl rfl rfl ?_
        refine s_y (y_move rfl) rfl rfl rfl ?_
        refine s_y (y_mulU rfl rfl (by assumption)) rfl rfl rfl ?_
        refine s_y (y_move rfl) rfl rfl rfl ?_
        refine s_y (y_mulU rfl rfl (by omega)) rfl rfl rfl ?_
        refine s_y (y_move rfl) rfl rfl rfl ?_
        refine s_y (y_addU rfl rfl (by omega)) rfl rfl rfl ?_
        refine s_y (y_F (y_gtr rfl rfl) (by omega)) rfl rfl rfl ?_
        refine s_y (y_pickF rfl rfl) rfl rfl rfl ?_
        refine s_nil ?_
        refine f_then ?_
        refine c_condF rfl ?_
        refine c_exit ?_
        refine f_thenE ?_
        refine f_rndE ?_
        refine f_blockE ?_
        exact f_cutP () trivial (by rw [heq]; exact ⟨rfl, rfl, rfl, rfl, rfl, rfl, rfl, rfl, trivial⟩) (fun w h => h)
  rintro ⟨⟩ _
  refine c_seq ?_
  refine c_region ?_
  refine s_y (y_move rfl) rfl rfl rfl ?_
  refine s_y (y_mulU rfl rfl (by omega)) rfl rfl rfl ?_
  refine s_y (y_move rfl) rfl rfl rfl ?_
  refine s_y (y_addU rfl rfl (by omega)) rfl rfl rfl ?_
  refine s_y (y_move rfl) rfl rfl rfl ?_
  refine s_y (y_mulM rfl rfl) rfl rfl rfl ?_
  refine s_y (y_move rfl) rfl rfl rfl ?_
  refine s_y (y_addU rfl rfl (by omega)) rfl rfl rfl ?_
  refine s_y (y_move rfl) rfl rfl rfl ?_
  refine s_y (y_move rfl) rfl rfl rfl ?_
  refine s_y (y_mulM rfl rfl) rfl rfl rfl ?_
  refine s_y (y_subM rfl rfl) rfl rfl rfl ?_
  rw [wr0]
  have er0 : (r0 : Int) / (p : Int) = ((r0 / p : Nat) : Int) := (Int.natCast_ediv _ _).symm
  have hs2 : (0 : Int) ≤ (s : Int) ∧ (s : Int) < 64 := by omega
  refine s_y (y_move rfl) rfl rfl rfl ?_
  refine s_y (y_shrU (d := (p : Int)) rfl rfl hs2 dp) rfl rfl rfl ?_
  rw [er0]
  refine s_y (y_assign rfl) rfl rfl rfl ?_
  refine s_y (y_assign rfl) rfl rfl rfl ?_
  refine s_nil ?_
  refine f_then ?_
  refine c_ret ?_
  exact f_retE () (res2 rfl rfl rfl) (by rw [← d1, ← d2]; simp) (fun w h => h)
theorem div64_spec {W : World} {N : List Chunk} {hi lo y : Nat} (hlt : hi < y) (hlo : lo < 18446744073709551616) (hy : y < 9223372036854775808) : Spec Try.prog 78 #[.int .u64 (hi : Int), .int .u64 (lo : Int), .int .u64 (y : Int)] (K W N) (fun _ : Unit => .tuple #[.int .u64 (((hi * 18446744073709551616 + lo) / y : Nat) : Int), .int .u64 (((hi * 18446744073709551616 + lo) % y : Nat) : Int)]) (fun _ => K W N) := by
  by_cases h0 : 0 < hi
  · exact div64_hard h0 hlt hlo hy
  · have e : hi = 0 := by omega
    subst e
    have h := div64_easy (W := W) (N := N) hlo (show 0 < y by omega)
    rw [Nat.zero_mul, Nat.zero_add]
    exact h
end Go.KL
end

section
/- Walks: the reference's Int; Same. -/
namespace Go.KL
open Go.Proofs
theorem bln_63 {x : Nat} (h : x < 9223372036854775808) : bln x ≤ 63 := by
  unfold bln
  split
  · omega
  · rename_i h0
    have := (Nat.log2_lt h0).2 (show x < 2 ^ 63 from h)
    omega
theorem dg_step (x z : Nat) : x / KR.B ^ (z + 1) * 65536 + KR.dg x z = x / KR.B ^ z := by
  rw [KR.div_succ]
  unfold KR.dg
  exact Nat.div_add_mod' _ _
attribute [local irreducible] SC St Fin Sq Ylds Doos Sets Enters Spec CellIs CellsAre Then Ret Rnd Chn resOK ints bools recs arr
set_option maxRecDepth 10000 in
set_option maxHeartbeats 4000000 in
theorem int_spec {W : World} {N : List Chunk} {a : Value} {x : Nat} [ha : NumV (K W N) a x] (hx : x < 9223372036854775808) : Spec Try.prog 83 #[a] (K W N) (fun _ : Unit => .tuple #[.int .i64 (x : Int), .bool true]) (fun _ => K W N) := by
  have hw := KR.wl_int (x := x) (by omega)
  have hb := bln_63 hx
  refine enter (args := [_]) Try.func83 rfl Try.ntmps83 rfl ?_
  refine c_seq ?_
  refine c_region ?_
  refine s_y (y_assign rfl) rfl rfl rfl ?_
  refine s_y (y_assign rfl) rfl rfl rfl ?_
  refine s_nil ?_
  refine f_then ?_
  refine c_seq ?_
  refine c_seq ?_
  refine c_region ?_
  refine s_y (y_move rfl) rfl rfl rfl ?_
  refine s_call (en_f rfl Try.call118) (rbitLen_spec (x := x) (by omega)) rfl rfl rfl (fun _ => ?_)
  refine s_y (y_F (y_gtr rfl rfl) (by omega)) rfl rfl rfl ?_
  refine s_nil ?_
  refine f_then ?_
  refine c_condF rfl ?_
  refine c_skip ?_
  refine f_then ?_
  refine c_seq ?_
  refine c_region ?_
  refine s_y (y_assign rfl) rfl rfl rfl ?_
  refine s_nil ?_
  refine f_then ?_
  refine c_seq ?_
  refine c_seq ?_
  refine c_region ?_
  refine s_y (y_move rfl) rfl rfl rfl ?_
  refine s_y (y_lenN Try.tab rfl rfl) rfl rfl rfl ?_
  refine s_y (y_sub rfl rfl (by omega)) rfl rfl rfl ?_
  refine s_y (y_assign rfl) rfl rfl rfl ?_
  refine s_nil ?_
  refine f_then ?_
  refine c_block ?_
  refine c_loopP (α := Nat) (fun z => [(0, a), (4, .int .i64 ((x / KR.B ^ z : Nat) : Int)), (5, .int .i64 ((z : Int) - 1))]) (fun z => z ≤ KR.wl x) (fun _ => K W N) (fun z => z) (KR.wl x)
    ⟨rfl, by rw [KR.wl_le_iff.1 (Nat.le_refl _)]; rfl, rfl, trivial⟩ (Nat.le_refl _) (fun w h => h) ?_
  intro z hz
  cases z with
  | zero =>
    rw [show x / KR.B ^ 0 = x by simp]
    refine c_seq ?_
    refine c_seq ?_
    refine c_region ?_
    refine s_y (y_move rfl) rfl rfl rfl ?_
    refine s_y (y_F (y_geq rfl rfl) (by omega)) rfl rfl rfl ?_
    refine s_nil ?_
    refine f_then ?_
    refine c_condF rfl ?_
    refine c_exit ?_
    refine f_thenE ?_
    refine f_rndE ?_
    refine f_blockE ?_
    refine f_then ?_
    refine c_seq ?_
    refine c_region ?_
    refine s_y (y_move rfl) rfl rfl rfl ?_
    refine s_y (y_assign rfl) rfl rfl rfl ?_
    refine s_y (y_assign rfl) rfl rfl rfl ?_
    refine s_nil ?_
    refine f_then ?_
    refine c_ret ?_
    exact f_ret () (res2 rfl rfl rfl) (fun w h => h)
  | succ u =>
    have e1 : ((u + 1 : Nat) : Int) - 1 = (u : Int) := by omega
    have hs := dg_step x u
    have hd := KR.dg_lt' x u
    have hle : x / KR.B ^ u ≤ x := Nat.div_le_self _ _
    have e2 : ((x / KR.B ^ (u + 1) : Nat) : Int) * 65536 + ((KR.dg x u : Nat) : Int) = ((x / KR.B ^ u : Nat) : Int) := by omega
    obtain ⟨q, hq⟩ : ∃ q, q = x / KR.B ^ u := ⟨_, rfl⟩
    rw [← hq] at hs hle e2
    generalize x / KR.B ^ (u + 1) = p at *
    rw [e1]
    refine c_seq ?_
    refine c_seq ?_
    refine c_region ?_
    refine s_y (y_move rfl) rfl rfl rfl ?_
    refine s_y (y_T (y_geq rfl rfl) (by omega)) rfl rfl rfl ?_
    refine s_nil ?_
    refine f_then ?_
    refine c_condT rfl ?_
    refine c_skip ?_
    refine f_then ?_
    refine c_seq ?_
    refine c_block ?_
    refine c_region ?_
    refine s_y (y_move rfl) rfl rfl rfl ?_
    refine s_y (y_mul rfl rfl (by omega)) rfl rfl rfl ?_
    refine s_y (y_move rfl) rfl rfl rfl ?_
    refine s_y (y_move rfl) rfl rfl rfl ?_
    refine s_y (y_ixN Try.tab rfl rfl rfl rfl _ rfl (by omega)) rfl rfl rfl ?_
    refine s_y (y_ldN Try.tab rfl rfl (by omega)) rfl rfl rfl ?_
    refine s_y (y_add rfl rfl (by omega)) rfl rfl rfl ?_
    refine s_y (y_assign rfl) rfl rfl rfl ?_
    refine s_nil ?_
    refine f_blockN ?_
    refine f_then ?_
    refine c_region ?_
    refine s_y (y_move rfl) rfl rfl rfl ?_
    refine s_y (y_sub rfl rfl (by omega)) rfl rfl rfl ?_
    refine s_y (y_assign rfl) rfl rfl rfl ?_
    refine s_nil ?_
    exact f_roundP u (by omega) (by omega) ⟨rfl, congrArg (fun z => some (Value.int .i64 z)) (by rw [e2, hq]), rfl, trivial⟩ (fun w h => h)
set_option maxRecDepth 10000 in
theorem same_rows {W : World} {N : List Chunk} {v u : Value} {m k : Nat} {f g : Nat → Int} {t : Bool} (hv : SlI (K W N) v m f) (hu : SlI (K W N) u k g) (hm : m < 9223372036854775807) (ht : t = true ↔ (m = k ∧ ∀ i, i < m → f i = g i)) : Spec Try.prog 44 #[v, u] (K W N) (fun _ : Unit => .bool t) (fun _ => K W N) := by
  obtain ⟨pa, c, rfl, hc, hcell⟩ := SlV.open1 hv
  obtain ⟨pb, c2, rfl, hc2, hcell2⟩ := SlV.open1 hu
  refine enter (args := [_, _]) Try.func44 rfl Try.ntmps44 rfl ?_
  by_cases hk : m = k
  · subst hk
    refine c_seq ?_
    refine c_region ?_
    refine s_y (y_assign rfl) rfl rfl rfl ?_
    refine s_nil ?_
    refine f_then ?_
    refine c_seq ?_
    refine c_seq ?_
    refine c_region ?_
    refine s_y (y_move rfl) rfl rfl rfl ?_
    refine s_y (y_len Try.tab rfl rfl) rfl rfl rfl ?_
    refine s_y (y_move rfl) rfl rfl rfl ?_
    refine s_y (y_len Try.tab rfl rfl) rfl rfl rfl ?_
    refine s_y (y_F (y_neq rfl rfl) (by omega)) rfl rfl rfl ?_
    refine s_nil ?_
    refine f_then ?_
    refine c_condF rfl ?_
    refine c_skip ?_
    refine f_then ?_
    refine c_seq ?_
    refine c_seq ?_
    refine c_region ?_
    refine s_y (y_assign rfl) rfl rfl rfl ?_
    refine s_nil ?_
    refine f_then ?_
    refine c_block ?_
    refine c_loopP (α := Nat) (fun z => [(0, .slice pa m c), (1, .slice pb m c2), (5, .int .i64 (z : Nat))]) (fun z => z ≤ m ∧ ∀ j, j < z → f j = g j)
      (fun _ => K W N) (fun z => m - z) 0 ⟨rfl, rfl, rfl, trivial⟩ ⟨Nat.zero_le _, fun j h => by omega⟩ (fun w h => h) ?_
    rintro i ⟨hi, hlo⟩
    by_cases h1 : i < m
    · obtain ⟨b, o, rfl, hcl⟩ := hcell (by omega)
      obtain ⟨b2, o2, rfl, hcl2⟩ := hcell2 (by omega)
      have hci := hcl i h1
      have hci2 := hcl2 i h1
      obtain ⟨z, hz⟩ : ∃ z, z = f i := ⟨_, rfl⟩
      obtain ⟨y, hy⟩ : ∃ y, y = g i := ⟨_, rfl⟩
      rw [← hz] at hci
      rw [← hy] at hci2
      by_cases h2 : z = y
      · subst h2
        refine c_seq ?_
        refine c_seq ?_
        refine c_region ?_
        refine s_y (y_move rfl) rfl rfl rfl ?_
        refine s_y (y_move rfl) rfl rfl rfl ?_
        refine s_y (y_len Try.tab rfl rfl) rfl rfl rfl ?_
        refine s_y (y_T (y_lss rfl rfl) (by omega)) rfl rfl rfl ?_
        refine s_nil ?_
        refine f_then ?_
        refine c_condT rfl ?_
        refine c_skip ?_
        refine f_then ?_
        refine c_seq ?_
        refine c_block ?_
        refine c_seq ?_
        refine c_quiet Try.mixed (by kernel_rfl) K.drew ?_
        refine q_y (y_move rfl) rfl rfl rfl ?_
        refine q_y (y_move rfl) rfl rfl rfl ?_
        refine q_y (y_indexAddr1o Try.tab rfl rfl rfl rfl _ rfl (by omega)) rfl rfl rfl ?_
        refine q_y (y_load Try.tab rfl rfl hci) rfl rfl rfl ?_
        refine q_y (y_move rfl) rfl rfl rfl ?_
        refine q_y (y_move rfl) rfl rfl rfl ?_
        refine q_y (y_indexAddr1o Try.tab rfl rfl rfl rfl _ rfl (by omega)) rfl rfl rfl ?_
        refine q_y (y_load Try.tab rfl rfl hci2) rfl rfl rfl ?_
        refine q_y (y_F (y_neq rfl rfl) (by omega)) rfl rfl rfl ?_
        refine q_nil ?_
        refine f_then ?_
        refine c_condF rfl ?_
        refine c_skip ?_
        refine f_blockN ?_
        refine f_then ?_
        refine c_region ?_
        refine s_y (y_move rfl) rfl rfl rfl ?_
        refine s_y (y_add rfl rfl (by omega)) rfl rfl rfl ?_
        refine s_y (y_assign rfl) rfl rfl rfl ?_
        refine s_nil ?_
        refine f_roundP (i + 1) ⟨h1, fun j hj => ?_⟩ (by omega) ⟨rfl, rfl, rfl, trivial⟩ (fun w h => h)
        rcases Nat.lt_or_ge j i with h | h
        · exact hlo j h
        · obtain rfl : j = i := by omega
          omega
      · have e : t = false := Bool.eq_false_iff.2 fun h => h2 (by rw [hz, hy]; exact (ht.1 h).2 i h1)
        refine c_seq ?_
        refine c_seq ?_
        refine c_region ?_
        refine s_y (y_move rfl) rfl rfl rfl ?_
        refine s_y (y_move rfl) rfl rfl rfl ?_
        refine s_y (y_len Try.tab rfl rfl) rfl rfl rfl ?_
        refine s_y (y_T (y_lss rfl rfl) (by omega)) rfl rfl rfl ?_
        refine s_nil ?_
        refine f_then ?_
        refine c_condT rfl ?_
        refine c_skip ?_
        refine f_then ?_
        refine c_seq ?_
        refine c_block ?_
        refine c_seq ?_
        refine c_quiet Try.mixed (by kernel_rfl) K.drew ?_
        refine q_y (y_move rfl) rfl rfl rfl ?_
        refine q_y (y_move rfl) rfl rfl rfl ?_
        refine q_y (y_indexAddr1o Try.tab rfl rfl rfl rfl _ rfl (by omega)) rfl rfl rfl ?_
        refine q_y (y_load Try.tab rfl rfl hci) rfl rfl rfl ?_
        refine q_y (y_move rfl) rfl rfl rfl ?_
        refine q_y (y_move rfl) rfl rfl rfl ?_
        refine q_y (y_indexAddr1o Try.tab rfl rfl rfl rfl _ rfl (by omega)) rfl rfl rfl ?_
        refine q_y (y_load Try.tab rfl rfl hci2) rfl rfl rfl ?_
        refine q_y (y_T (y_neq rfl rfl) (by assumption)) rfl rfl rfl ?_
        refine q_nil ?_
        refine f_then ?_
        refine c_condT rfl ?_
        refine c_seq ?_
        refine c_region ?_
        refine s_y (y_assign rfl) rfl rfl rfl ?_
        refine s_nil ?_
        refine f_then ?_
        refine c_ret ?_
        refine f_blockR ?_
        refine f_thenR ?_
        refine f_rndR ?_
        refine f_blockR ?_
        refine f_thenR ?_
        exact f_ret () (by rw [e]; exact res1 rfl rfl) (fun w h => h)
    · have e : t = true := ht.2 ⟨rfl, fun j hj => hlo j (by omega)⟩
      refine c_seq ?_
      refine c_seq ?_
      refine c_region ?_
      refine s_y (y_move rfl) rfl rfl rfl ?_
      refine s_y (y_move rfl) rfl rfl rfl ?_
      refine s_y (y_len Try.tab rfl rfl) rfl rfl rfl ?_
      refine s_y (y_F (y_lss rfl rfl) (by omega)) rfl rfl rfl ?_
      refine s_nil ?_
      refine f_then ?_
      refine c_condF rfl ?_
      refine c_exit ?_
      refine f_thenE ?_
      refine f_rndE ?_
      refine f_blockE ?_
      refine f_then ?_
      refine c_seq ?_
      refine c_region ?_
      refine s_y (y_assign rfl) rfl rfl rfl ?_
      refine s_nil ?_
      refine f_then ?_
      refine c_ret ?_
      exact f_ret () (by rw [e]; exact res1 rfl rfl) (fun w h => h)
  · have e : t = false := Bool.eq_false_iff.2 fun h => hk (ht.1 h).1
    refine c_seq ?_
    refine c_region ?_
    refine s_y (y_assign rfl) rfl rfl rfl ?_
    refine s_nil ?_
    refine f_then ?_
    refine c_seq ?_
    refine c_seq ?_
    refine c_region ?_
    refine s_y (y_move rfl) rfl rfl rfl ?_
    refine s_y (y_len Try.tab rfl rfl) rfl rfl rfl ?_
    refine s_y (y_move rfl) rfl rfl rfl ?_
    refine s_y (y_len Try.tab rfl rfl) rfl rfl rfl ?_
    refine s_y (y_T (y_neq rfl rfl) (by omega)) rfl rfl rfl ?_
    refine s_nil ?_
    refine f_then ?_
    refine c_condT rfl ?_
    refine c_seq ?_
    refine c_region ?_
    refine s_y (y_assign rfl) rfl rfl rfl ?_
    refine s_nil ?_
    refine f_then ?_
    refine c_ret ?_
    refine f_thenR ?_
    exact f_ret () (by rw [e]; exact res1 rfl rfl) (fun w h => h)
end Go.KL
end

section
/- The reference's rounds: the greatest remainder that is left, the first among equals; plain. No program in sight. -/
namespace Go.KL
/-- What is left of the remainders after k rounds. -/
def Rs (R g : Nat → Nat) : Nat → Nat → Int
  | 0 => fun i => (R i : Int)
  | k + 1 => upd (Rs R g k) (g k) (-1)
/-- Not chosen in the first k rounds. -/
def Free (g : Nat → Nat) (k i : Nat) : Prop := ∀ j, j < k → g j ≠ i
theorem Rs_free {R g : Nat → Nat} : ∀ {k i : Nat}, Free g k i → Rs R g k i = (R i : Int)
  | 0, _, _ => rfl
  | k + 1, i, h => by
    rw [Rs, upd_get, if_neg fun e => h k (Nat.lt_succ_self k) e.symm]
    exact Rs_free fun j hj => h j (by omega)
theorem Rs_gone {R g : Nat → Nat} : ∀ {k i : Nat}, ¬ Free g k i → Rs R g k i = -1
  | 0, _, h => absurd (fun j hj => absurd hj (Nat.not_lt_zero j)) h
  | k + 1, i, h => by
    rw [Rs, upd_get]
    by_cases c : i = g k
    · rw [if_pos c]
    · rw [if_neg c]
      refine Rs_gone fun h2 => h fun j hj => ?_
      rcases Nat.lt_succ_iff_lt_or_eq.1 hj with h3 | h3
      · exact h2 j h3
      · rw [h3]
        exact fun e => c e.symm
theorem Rs_nn {R g : Nat → Nat} {k i : Nat} : 0 ≤ Rs R g k i ↔ Free g k i := by
  by_cases h : Free g k i
  · rw [Rs_free h]
    exact ⟨fun _ => h, fun _ => by omega⟩
  · rw [Rs_gone h]
    exact ⟨fun z => by omega, fun z => absurd z h⟩
/-- The best among the first u. -/
def Best (R g : Nat → Nat) (k u : Nat) (b : Int) : Prop :=
  (b = -1 ∧ ∀ i, i < u → ¬ Free g k i) ∨ ∃ c : Nat, b = (c : Int) ∧ c < u ∧ Free g k c ∧ ∀ i, i < u → Free g k i → i ≠ c → ltR R c i
section
variable {R g : Nat → Nat} {k u : Nat} {b : Int}
theorem Best.zero : Best R g k 0 (-1) := .inl ⟨rfl, fun i hi => absurd hi (Nat.not_lt_zero i)⟩
theorem Best.skip (h : Best R g k u b) (hr : Rs R g k u < 0) : Best R g k (u + 1) b := by
  have hf : ¬ Free g k u := fun z => by
    have := Rs_nn (R := R).2 z
    omega
  rcases h with ⟨rfl, h⟩ | ⟨c, rfl, h1, h2, h3⟩
  · refine .inl ⟨rfl, fun i hi => ?_⟩
    rcases Nat.lt_succ_iff_lt_or_eq.1 hi with h4 | h4
    · exact h i h4
    · rw [h4]; exact hf
  · refine .inr ⟨c, rfl, by omega, h2, fun i hi hfi hne => ?_⟩
    rcases Nat.lt_succ_iff_lt_or_eq.1 hi with h4 | h4
    · exact h3 i h4 hfi hne
    · rw [h4] at hfi; exact absurd hfi hf
theorem Best.first (h : Best R g k u b) (hr : 0 ≤ Rs R g k u) (hb : b < 0) : Best R g k (u + 1) (u : Int) := by
  have hf : Free g k u := Rs_nn.1 hr
  rcases h with ⟨rfl, h⟩ | ⟨c, rfl, _⟩
  · refine .inr ⟨u, rfl, by omega, hf, fun i hi hfi hne => ?_⟩
    exact absurd hfi (h i (by omega))
  · omega
theorem Best.new {c : Nat} (h : Best R g k u (c : Int)) (hr : 0 ≤ Rs R g k u) (hb : Rs R g k c < Rs R g k u) : Best R g k (u + 1) (u : Int) := by
  have hf : Free g k u := Rs_nn.1 hr
  rcases h with ⟨h, _⟩ | ⟨d, e, h1, h2, h3⟩
  · omega
  · obtain rfl : c = d := by omega
    rw [Rs_free h2, Rs_free hf] at hb
    have hlt : ltR R u c := .inl (by omega)
    refine .inr ⟨u, rfl, by omega, hf, fun i hi hfi hne => ?_⟩
    by_cases hc : i = c
    · rw [hc]; exact hlt
    · exact ltR_trans hlt (h3 i (by omega) hfi hc)
theorem Best.old {c : Nat} (h : Best R g k u (c : Int)) (hr : 0 ≤ Rs R g k u) (hb : ¬ Rs R g k c < Rs R g k u) : Best R g k (u + 1) (c : Int) := by
  have hf : Free g k u := Rs_nn.1 hr
  rcases h with ⟨h, _⟩ | ⟨d, e, h1, h2, h3⟩
  · omega
  · obtain rfl : c = d := by omega
    rw [Rs_free h2, Rs_free hf] at hb
    refine .inr ⟨c, rfl, by omega, h2, fun i hi hfi hne => ?_⟩
    rcases Nat.lt_succ_iff_lt_or_eq.1 hi with h4 | h4
    · exact h3 i h4 hfi hne
    · rw [h4]
      unfold ltR
      omega
theorem Best.lt (h : Best R g k u b) (hb : ¬ b < 0) : ∃ c : Nat, b = (c : Int) ∧ c < u := by
  rcases h with ⟨rfl, _⟩ | ⟨c, e, h1, _⟩
  · omega
  · exact ⟨c, e, h1⟩
theorem Best.done {m : Nat} (h : Best R g k m b) (hg : Blk R g 0 m) (hk : k < m) : b = (g k : Int) := by
  have hfk : Free g k (g k) := fun j hj e => by
    have := hg.inj (show j < m by omega) hk e
    omega
  have hgk := (hg.rng k (Nat.zero_le _) hk).2
  rcases h with ⟨_, h⟩ | ⟨c, rfl, h1, h2, h3⟩
  · exact absurd hfk (h _ hgk)
  · by_cases hc : g k = c
    · rw [hc]
    · exfalso
      have l1 := h3 _ hgk hfk hc
      obtain ⟨j, hj, rfl⟩ := hg.onto h1
      have hkj : k < j := by
        rcases Nat.lt_or_ge j k with z | z
        · exact absurd rfl (h2 j z)
        · rcases Nat.eq_or_lt_of_le z with y | y
          · rw [y] at hc; exact absurd rfl hc
          · exact y
      have l2 := hg.srt k j (Nat.zero_le _) hkj hj
      exact ltR_irr (ltR_trans l1 l2)
end
end Go.KL
end

section
/- Walks: the reference's Allot. -/
namespace Go.KL
open Go.Proofs
theorem Buf.row {v : Value} {c : Chunk} {m : Nat} {R : Nat → Nat} (h : Buf 3 1 v c m (dgs R m)) (hm : 0 < m) : ∃ b cp rest, v = .slice (some ⟨b, 0, none⟩) m cp ∧ c = [(b, ints 3 m (fun i => (R i : Int)) rest)] ∧ m ≤ cp ∧ cp ≤ maxLen := by
  rcases h.ok with ⟨h0, _⟩ | ⟨o, rfl, rfl, ho, hp⟩
  · omega
  · exact ⟨o.b, o.cap, o.rest, osl_head o m (by rw [hp]; exact Nat.le_refl _), och_ints 3 o m (fun i => (R i : Int)) (by rw [hp]; exact Nat.le_refl _), ho.le, ho.max⟩
theorem int_to {W : World} {N : List Chunk} {a : Value} {x z : Nat} [ha : NumV (K W N) a x] (e : z = x) (hz : z < 9223372036854775808) : Spec Try.prog 83 #[a] (K W N) (fun _ : Unit => .tuple #[.int .i64 (z : Int), .bool true]) (fun _ => K W N) := by
  subst e
  exact int_spec hz
structure RestSt (R : Nat → Nat) where
  u : Nat
  v : Value
  c : Chunk
  buf : Buf 3 1 v c u (dgs R u)
attribute [local irreducible] SC St Fin Sq Ylds Doos Sets Enters Spec CellIs CellsAre Then Ret Rnd Chn resOK ints bools recs arr
set_option maxRecDepth 10000 in
set_option maxHeartbeats 8000000 in
theorem rallot_spec {W : World} {N : List Chunk} {v : Value} {m n T : Nat} {f : Nat → Int} {g : Nat → Nat} (hv : SlI (K W N) v m f) (hA : AllP (n : Int) m f) (hT : psum (FN f) 0 m = T) (hg : Blk (rF n T (FN f)) g 0 m) :
    Spec Try.prog 45 #[.int .i64 (n : Int), v] (K W N) (X := { x : Chunk × Value // SlI (K W [x.1]) x.2 m (fun i => (Lf (qF n T (FN f)) g (lftF n T (FN f) m) i : Int)) }) (fun x => x.1.2) (fun x => K W (x.1.1 :: N)) := by
  have hA' := hA
  obtain ⟨hml, hall, hn0, hnt⟩ := hA
  rw [hT] at hnt
  have htm := tot_le hall
  rw [hT] at htm
  have hto := total_spec (W := W) (N := N) (n := (n : Int)) hv (by omega)
  obtain ⟨pa, c, rfl, hc, hcell⟩ := SlV.open1 hv
  refine enter (args := [_, _]) Try.func45 rfl Try.ntmps45 rfl ?_
  refine c_seq ?_
  refine c_region ?_
  refine s_y (y_assign rfl) rfl rfl rfl ?_
  refine s_nil ?_
  refine f_then ?_
  refine c_seq ?_
  refine c_region ?_
  refine s_y (y_move rfl) rfl rfl rfl ?_
  refine s_y (y_move rfl) rfl rfl rfl ?_
  refine s_call (en_f rfl Try.call43) hto rfl rfl rfl (fun z => ?_)
  obtain ⟨z, hz1, _⟩ := z
  have hz := hz1 hA'
  rw [hT] at hz
  subst hz
  dsimp only
  clear hz1 hto hA'
  by_cases hT0 : T = 0
  · subst hT0
    obtain rfl : n = 0 := by omega
    have hz : ∀ i, Lf (qF 0 0 (FN f)) g (lftF 0 0 (FN f) m) i = 0 := fun i => by
      unfold lftF
      rw [Nat.zero_sub, Lf, qF, Nat.zero_mul, Nat.zero_div]
    refine s_y (y_move rfl) rfl rfl rfl ?_
    refine s_y (y_extract rfl rfl) rfl rfl rfl ?_
    refine s_y (y_extract rfl rfl) rfl rfl rfl ?_
    refine s_y (y_assign rfl) rfl rfl rfl ?_
    refine s_y (y_assign rfl) rfl rfl rfl ?_
    refine s_nil ?_
    refine f_then ?_
    refine c_seq ?_
    refine c_region ?_
    refine s_y (y_move rfl) rfl rfl rfl ?_
    refine s_y (y_len Try.tab rfl rfl) rfl rfl rfl ?_
    refine s_do (make_ints (by_ := 8) Try.tab rfl rfl rfl rfl rfl rfl (by omega)) rfl rfl rfl (fun b27 => ?_)
    refine s_y (y_assign rfl) rfl rfl rfl ?_
    refine s_nil ?_
    refine f_then ?_
    refine c_seq ?_
    refine c_seq ?_
    refine c_region ?_
    refine s_y (y_move rfl) rfl rfl rfl ?_
    refine s_y (y_T (y_eql rfl rfl) (by omega)) rfl rfl rfl ?_
    refine s_nil ?_
    refine f_then ?_
    refine c_condT rfl ?_
    refine c_seq ?_
    refine c_region ?_
    refine s_y (y_move rfl) rfl rfl rfl ?_
    refine s_y (y_assign rfl) rfl rfl rfl ?_
    refine s_nil ?_
    refine f_then ?_
    refine c_ret ?_
    refine f_thenR ?_
    exact f_ret ⟨([(b27, ints 3 m (fun _ => 0) [])], .slice (some ⟨b27, 0, none⟩) m m), (SlI.own 0 rfl).congr (fun i _ j _ => congrArg (fun z : Nat => Value.int .i64 (z : Int)) (hz i).symm)⟩ (res1 rfl rfl) (fun w h => h)
  have hTp : 0 < T := by omega
  refine s_y (y_move rfl) rfl rfl rfl ?_
  refine s_y (y_extract rfl rfl) rfl rfl rfl ?_
  refine s_y (y_extract rfl rfl) rfl rfl rfl ?_
  refine s_y (y_assign rfl) rfl rfl rfl ?_
  refine s_y (y_assign rfl) rfl rfl rfl ?_
  refine s_nil ?_
  refine f_then ?_
  refine c_seq ?_
  refine c_region ?_
  refine s_y (y_move rfl) rfl rfl rfl ?_
  refine s_y (y_len Try.tab rfl rfl) rfl rfl rfl ?_
  refine s_do (make_ints (by_ := 8) Try.tab rfl rfl rfl rfl rfl rfl (by omega)) rfl rfl rfl (fun b27 => ?_)
  refine s_y (y_assign rfl) rfl rfl rfl ?_
  refine s_nil ?_
  refine f_then ?_
  refine c_seq ?_
  refine c_seq ?_
  refine c_region ?_
  refine s_y (y_move rfl) rfl rfl rfl ?_
  refine s_y (y_F (y_eql rfl rfl) (by omega)) rfl rfl rfl ?_
  refine s_nil ?_
  refine f_then ?_
  refine c_condF rfl ?_
  refine c_skip ?_
  refine f_then ?_
  refine c_seq ?_
  refine c_region ?_
  refine s_y (y_assign rfl) rfl rfl rfl ?_
  refine s_nil ?_
  refine f_then ?_
  refine c_seq ?_
  refine c_region ?_
  refine s_y (y_move rfl) rfl rfl rfl ?_
  refine s_y (y_assign rfl) rfl rfl rfl ?_
  refine s_nil ?_
  refine f_then ?_
  refine c_seq ?_
  refine c_seq ?_
  refine c_region ?_
  refine s_y (y_assign rfl) rfl rfl rfl ?_
  refine s_nil ?_
  refine f_then ?_
  refine c_block ?_
  refine SC.cls (C' := K W ([] :: [(b27, ints 3 m (fun j => ((preF (qF n T (FN f)) 0 j : Nat) : Int)) [])] :: N)) ?_ (fun w h => by
    have h2 : K W ([(b27, ints 3 m (fun j => ((preF (qF n T (FN f)) 0 j : Nat) : Int)) [])] :: N) w := h
    exact h2.weak [] (by simp))
  refine c_loopP (α := RestSt (rF n T (FN f))) (fun z => [(0, .int .i64 (n : Int)), (1, .slice pa m c), (5, .int .i64 (T : Int)), (7, .slice (some ⟨b27, 0, none⟩) m m), (8, z.v), (9, .int .i64 ((n : Int) - ((psum (qF n T (FN f)) 0 z.u : Nat) : Int))), (10, .int .i64 (z.u : Int))]) (fun z => z.u ≤ m)
    (fun z => K W (z.c :: [(b27, ints 3 m (fun j => ((preF (qF n T (FN f)) z.u j : Nat) : Int)) [])] :: N)) (fun z => m - z.u) ⟨0, .slice none 0 0, [], .nil⟩
    ⟨rfl, rfl, rfl, rfl, rfl, congrArg (fun z => some (Value.int .i64 z)) (by simp [psum]), rfl, trivial⟩ (Nat.zero_le _) (fun w h => h) ?_
  rintro ⟨u, vr, cr, hB⟩ hu
  dsimp only at hu ⊢
  by_cases hult : u < m
  · obtain ⟨b, o, rfl, hcl⟩ := hcell (by omega)
    have hci := hcl u hult
    have hfu := hall u hult
    have hFu := FN_eq hfu.1
    rw [hFu] at hci hfu
    have hFb : FN f u ≤ 1099511627776 := by omega
    have hFT := F_le (F := FN f) hult
    rw [hT] at hFT
    have hnb : n ≤ 70368744177664 := by omega
    have hqb := q_le (F := FN f) (i := u) (show n ≤ T by omega)
    have hqs := qsum_le (n := n) (u := u + 1) hTp hT hult
    have hqn : psum (qF n T (FN f)) 0 (u + 1) = psum (qF n T (FN f)) 0 u + n * FN f u / T := by rw [psum, Nat.zero_add]; rfl
    have hq1 := preF_next (T := qF n T (FN f)) (u := u)
    have hrb : n * FN f u % T < T := Nat.mod_lt _ hTp
    have hqe : qF n T (FN f) u = n * FN f u / T := rfl
    have hre : rF n T (FN f) u = n * FN f u % T := rfl
    rw [hqe] at hq1
    obtain ⟨qv, hqv⟩ : ∃ q, q = n * FN f u / T := ⟨_, rfl⟩
    obtain ⟨rv, hrv⟩ : ∃ r, r = n * FN f u % T := ⟨_, rfl⟩
    rw [← hqv] at hqb hqn hq1
    rw [← hrv] at hrb hre
    obtain ⟨Fu, hFv⟩ : ∃ F, F = FN f u := ⟨_, rfl⟩
    rw [← hFv] at hci hFb hqb hFT hqv hrv
    have w1 := KR.wl_int (x := n) (by omega)
    have w2 := KR.wl_int (x := Fu) (by omega)
    have w3 := KR.wl_mul w1 w2
    have w4 := KR.wl_int (x := T) (by omega)
    have hcx : CellIs (K W (cr :: [(b27, ints 3 m (fun j => ((preF (qF n T (FN f)) u j : Nat) : Int)) [])] :: N)) ⟨b, o + u, none⟩ (.int .i64 (Fu : Int)) := hci.cls (fun w h => h.tail.tail)
    clear hqe hFv hFu hfu hall hT hcl hci hcell hv
    refine c_seq ?_
    refine c_seq ?_
    refine c_region ?_
    refine s_y (y_move rfl) rfl rfl rfl ?_
    refine s_y (y_move rfl) rfl rfl rfl ?_
    refine s_y (y_len Try.tab rfl rfl) rfl rfl rfl ?_
    refine s_y (y_T (y_lss rfl rfl) (by omega)) rfl rfl rfl ?_
    refine s_nil ?_
    refine f_then ?_
    refine c_condT rfl ?_
    refine c_skip ?_
    refine f_then ?_
    refine c_seq ?_
    refine c_block ?_
    refine c_seq ?_
    refine c_plan [.c 0, .c 2, .c 3, .c 4, .c 5, .c 8, .s 1, .s 6, .s 7, .s 9, .s 10, .c 11, .c 12, .c 13, .c 14, .c 15] [] ((K W (cr :: [(b27, ints 3 m (fun j => ((preF (qF n T (FN f)) u j : Nat) : Int)) [])] :: N))) Try.mixed (by kernel_rfl) rfl K.cl ?_
    refine d_c rfl (Qui.ylds (y_move rfl)) rfl rfl rfl (fun _ h => h) K.cl ?_
    refine d_c rfl (Qui.ylds (y_move rfl)) rfl rfl rfl (fun _ h => h) K.cl ?_
    refine d_c rfl (Qui.ylds (y_move rfl)) rfl rfl rfl (fun _ h => h) K.cl ?_
    refine d_c rfl (Qui.ylds (y_indexAddr1o Try.tab rfl rfl rfl rfl _ rfl (by omega))) rfl rfl rfl (fun _ h => h) K.cl ?_
    refine d_c rfl (Qui.ylds (y_load Try.tab rfl rfl hcx)) rfl rfl rfl (fun _ h => h) K.cl ?_
    refine d_c rfl (Qui.ylds (y_move rfl)) rfl rfl rfl (fun _ h => h) K.cl ?_
    refine d_call rfl (en_f rfl Try.call74) (num_spec (x := n) (by omega)) rfl rfl rfl (fun _ => K.cl) (fun _ _ _ h => h.tail) (fun r1 => ?_)
    skip
    refine d_call rfl (en_f rfl Try.call74) (num_spec (x := Fu) (by omega)) rfl rfl rfl (fun _ => K.cl) (fun _ _ _ h => h.tail.tail) (fun r2 => ?_)
    skip
    refine d_call rfl (en_f rfl Try.call55) (rmul_spec (x := n) (y := Fu) (by omega) (by omega)) rfl rfl rfl (fun _ => K.cl) (fun _ _ _ h => h.tail.tail.tail) (fun r3 => ?_)
    skip
    refine d_call rfl (en_f rfl Try.call74) (num_spec (x := T) (by omega)) rfl rfl rfl (fun _ => K.cl) (fun _ _ _ h => h.tail.tail.tail.tail) (fun r4 => ?_)
    skip
    refine d_call rfl (en_f rfl Try.call82) (rdivMod_spec (x := n * Fu) (y := T) (by omega) (by omega) hTp) rfl rfl rfl (fun _ => K.cl) (fun _ _ _ h => h.tail.tail.tail.tail.tail) (fun r5 => ?_)
    have hD : ∀ w, K W (r5.L :: r4.L :: r3.L :: r2.L :: r1.L :: cr :: [(b27, ints 3 m (fun j => ((preF (qF n T (FN f)) u j : Nat) : Int)) [])] :: N) w → K W (cr :: [(b27, ints 3 m (fun j => ((preF (qF n T (FN f)) u j : Nat) : Int)) [])] :: N) w := fun _ h => h.tail.tail.tail.tail.tail
    refine d_c rfl (Qui.ylds (y_move rfl)) rfl rfl rfl hD K.cl ?_
    refine d_c rfl (Qui.ylds (y_extract rfl rfl)) rfl rfl rfl hD K.cl ?_
    refine d_c rfl (Qui.ylds (y_extract rfl rfl)) rfl rfl rfl hD K.cl ?_
    refine d_c rfl (Qui.ylds (y_assign rfl)) rfl rfl rfl hD K.cl ?_
    refine d_c rfl (Qui.ylds (y_assign rfl)) rfl rfl rfl hD K.cl ?_
    refine d_nil ?_
    refine f_then ?_
    refine c_seq ?_
    refine c_region ?_
    refine s_y (y_move rfl) rfl rfl rfl ?_
    refine St.cls (C' := K W (r5.L :: cr :: [(b27, ints 3 m (fun j => ((preF (qF n T (FN f)) u j : Nat) : Int)) [])] :: N)) ?_ (by intro w h; exact (((h.dropAt 1).dropAt 1).dropAt 1).dropAt 1)
    clear hD
    skip
    refine s_call (en_f rfl Try.call83) (int_to hqv (by omega)) rfl rfl rfl (fun _ => ?_)
    refine s_y (y_move rfl) rfl rfl rfl ?_
    refine s_y (y_extract rfl rfl) rfl rfl rfl ?_
    refine s_y (y_extract rfl rfl) rfl rfl rfl ?_
    refine s_y (y_assign rfl) rfl rfl rfl ?_
    refine s_y (y_assign rfl) rfl rfl rfl ?_
    refine s_nil ?_
    refine f_then ?_
    refine c_seq ?_
    refine c_region ?_
    refine s_y (y_move rfl) rfl rfl rfl ?_
    refine s_call (en_f rfl Try.call83) (int_to hrv (by omega)) rfl rfl rfl (fun _ => ?_)
    refine St.cls (C' := K W (cr :: [(b27, ints 3 m (fun j => ((preF (qF n T (FN f)) u j : Nat) : Int)) [])] :: N)) ?_ (fun w h => h.tail)
    clear hcx hqv hrv
    refine s_y (y_move rfl) rfl rfl rfl ?_
    refine s_y (y_extract rfl rfl) rfl rfl rfl ?_
    refine s_y (y_extract rfl rfl) rfl rfl rfl ?_
    refine s_y (y_assign rfl) rfl rfl rfl ?_
    refine s_y (y_assign rfl) rfl rfl rfl ?_
    refine s_nil ?_
    refine f_then ?_
    refine c_seq ?_
    refine c_region ?_
    refine s_y (y_move rfl) rfl rfl rfl ?_
    refine s_y (y_move rfl) rfl rfl rfl ?_
    refine s_y (y_move rfl) rfl rfl rfl ?_
    refine s_y (y_indexAddr1 Try.tab rfl rfl rfl rfl _ rfl (by omega)) rfl rfl rfl ?_
    refine s_set (set_ints Try.tab 1 rfl rfl rfl rfl (by omega)) rfl rfl ?_
    refine s_nil ?_
    refine f_then ?_
    refine c_seq ?_
    refine c_region ?_
    refine s_y (y_move rfl) rfl rfl rfl ?_
    refine s_y (y_move rfl) rfl rfl rfl ?_
    refine s_do (do_buildSlice1 Try.tab ⟨rfl, rfl, rfl, rfl⟩ rfl rfl rfl rfl) rfl rfl rfl (fun b68 => ?_)
    have hpu : preF (qF n T (FN f)) (u + 1) u = qv := by rw [← hq1, upd_get, if_pos rfl]
    refine St.cls (C' := K W ([(b68, row 3 [.int .i64 (rv : Int)])] :: cr :: [(b27, ints 3 m (fun j => ((preF (qF n T (FN f)) (u + 1) j : Nat) : Int)) [])] :: N)) ?_ (fun w h => by
      rw [← hq1, ← upd_nat]
      exact h)
    refine s_do (do_appendB (by_ := 8) Try.tab 1 rfl hB rfl ⟨rfl, rfl, rfl, rfl⟩ rfl (by simp) rfl (by omega) (cells_row0 0 rfl rfl) rfl (by simp [Value.oneCell']) (by unfold maxLen; omega) (by omega)) rfl rfl rfl (fun r => ?_)
    refine s_y (y_assign rfl) rfl rfl rfl ?_
    refine s_nil ?_
    refine f_then ?_
    refine c_region ?_
    refine s_y (y_move rfl) rfl rfl rfl ?_
    refine s_y (y_move rfl) rfl rfl rfl ?_
    refine s_y (y_move rfl) rfl rfl rfl ?_
    refine s_y (y_indexAddr1 Try.tab rfl rfl rfl rfl _ rfl (by omega)) rfl rfl rfl ?_
    refine s_y (y_load Try.tab rfl rfl (cell_ints 2 rfl (by omega))) rfl rfl rfl ?_
    refine s_y (y_sub rfl rfl (by omega)) rfl rfl rfl ?_
    refine s_y (y_assign rfl) rfl rfl rfl ?_
    refine s_nil ?_
    refine f_blockN ?_
    refine f_then ?_
    refine c_region ?_
    refine s_y (y_move rfl) rfl rfl rfl ?_
    refine s_y (y_add rfl rfl (by omega)) rfl rfl rfl ?_
    refine s_y (y_assign rfl) rfl rfl rfl ?_
    refine s_nil ?_
    exact f_roundP ⟨u + 1, r.1.1, r.1.2, by rw [dgs_succ, hre]; exact r.2⟩ (by exact hult) (by dsimp only; omega) ⟨rfl, rfl, rfl, rfl, rfl, congrArg (fun z => some (Value.int .i64 z)) (by dsimp only; rw [hpu, hqn]; omega), rfl, trivial⟩ (fun w h => h.tail)
  obtain rfl : u = m := by omega
  have hm0 : 0 < u := by
    rcases Nat.eq_zero_or_pos u with z | z
    · subst z; rw [psum] at hT; omega
    · exact z
  obtain ⟨br, cp, rs, rfl, rfl, hcp, hcm⟩ := hB.row hm0
  have hlf := (lft_eq (n := n) hTp hT).1
  have hlm := lft_le (n := n) hTp hT
  have hli : (n : Int) - ((psum (qF n T (FN f)) 0 u : Nat) : Int) = ((lftF n T (FN f) u : Nat) : Int) := by omega
  rw [hli]
  have hqb : ∀ i, i < u → qF n T (FN f) i ≤ 1099511627776 := fun i hi => by
    have h1 := q_le (F := FN f) (i := i) (show n ≤ T by omega)
    have h2 := hall i hi
    have h3 := FN_eq h2.1
    exact Nat.le_trans h1 (by omega)
  have hrb : ∀ i, rF n T (FN f) i < 9223372036854775808 := fun i => by
    have := r_lt (n := n) (F := FN f) (i := i) hTp
    omega
  refine SC.cls (C' := K W ([(br, ints 3 u (fun j => ((rF n T (FN f) j : Nat) : Int)) rs)] :: [(b27, ints 3 u (fun j => ((qF n T (FN f) j : Nat) : Int)) [])] :: N)) ?_ (fun w h => by
    rw [preF_ints] at h
    exact h)
  generalize lftF n T (FN f) u = lft at *
  generalize qF n T (FN f) = q at *
  generalize rF n T (FN f) = R at *
  clear hall hcell hv hT hnt htm hlf hli
  refine c_seq ?_
  refine c_seq ?_
  refine c_region ?_
  refine s_y (y_move rfl) rfl rfl rfl ?_
  refine s_y (y_move rfl) rfl rfl rfl ?_
  refine s_y (y_len Try.tab rfl rfl) rfl rfl rfl ?_
  refine s_y (y_F (y_lss rfl rfl) (by omega)) rfl rfl rfl ?_
  refine s_nil ?_
  refine f_then ?_
  refine c_condF rfl ?_
  refine c_exit ?_
  refine f_thenE ?_
  refine f_rndE ?_
  refine f_blockE ?_
  refine f_then ?_
  refine c_seq ?_
  refine c_block ?_
  refine c_loopP (α := Nat) (fun z => [(7, .slice (some ⟨b27, 0, none⟩) u u), (8, .slice (some ⟨br, 0, none⟩) u cp), (9, .int .i64 ((lft - z : Nat) : Int))]) (fun z => z ≤ lft)
    (fun z => K W ([(br, ints 3 u (Rs R g z) rs)] :: [(b27, ints 3 u (fun j => ((Lf q g z j : Nat) : Int)) [])] :: N)) (fun z => lft - z) 0
    ⟨rfl, rfl, rfl, trivial⟩ (Nat.zero_le _) (fun w h => h) ?_
  intro z hz
  by_cases hzl : z < lft
  · refine c_seq ?_
    refine c_seq ?_
    refine c_region ?_
    refine s_y (y_move rfl) rfl rfl rfl ?_
    refine s_y (y_T (y_gtr rfl rfl) (by omega)) rfl rfl rfl ?_
    refine s_nil ?_
    refine f_then ?_
    refine c_condT rfl ?_
    refine c_skip ?_
    refine f_then ?_
    refine c_block ?_
    refine c_seq ?_
    refine c_region ?_
    refine s_y (y_assign rfl) rfl rfl rfl ?_
    refine s_nil ?_
    refine f_then ?_
    refine c_seq ?_
    refine c_seq ?_
    refine c_region ?_
    refine s_y (y_assign rfl) rfl rfl rfl ?_
    refine s_nil ?_
    refine f_then ?_
    refine c_block ?_
    refine c_loopP (α := Nat × Int) (fun y => [(7, .slice (some ⟨b27, 0, none⟩) u u), (8, .slice (some ⟨br, 0, none⟩) u cp), (9, .int .i64 ((lft - z : Nat) : Int)), (17, .int .i64 y.2), (18, .int .i64 (y.1 : Int))]) (fun y => y.1 ≤ u ∧ Best R g z y.1 y.2)
      (fun _ => K W ([(br, ints 3 u (Rs R g z) rs)] :: [(b27, ints 3 u (fun j => ((Lf q g z j : Nat) : Int)) [])] :: N)) (fun y => u - y.1) (0, -1)
      ⟨rfl, rfl, rfl, rfl, rfl, trivial⟩ ⟨Nat.zero_le _, Best.zero⟩ (fun w h => h) ?_
    rintro ⟨i, b⟩ ⟨hi, hb⟩
    dsimp only at hi hb ⊢
    by_cases hiu : i < u
    · by_cases hr : 0 ≤ Rs R g z i
      · by_cases hb0 : b < 0
        · have hn := hb.first hr hb0
          refine c_seq ?_
          refine c_seq ?_
          refine c_region ?_
          refine s_y (y_move rfl) rfl rfl rfl ?_
          refine s_y (y_move rfl) rfl rfl rfl ?_
          refine s_y (y_len Try.tab rfl rfl) rfl rfl rfl ?_
          refine s_y (y_T (y_lss rfl rfl) (by omega)) rfl rfl rfl ?_
          refine s_nil ?_
          refine f_then ?_
          refine c_condT rfl ?_
          refine c_skip ?_
          refine f_then ?_
          refine c_seq ?_
          refine c_block ?_
          refine c_seq ?_
          refine c_quiet Try.mixed (by kernel_rfl) K.drew ?_
          refine q_y (y_move rfl) rfl rfl rfl ?_
          refine q_y (y_move rfl) rfl rfl rfl ?_
          refine q_y (y_indexAddr1 Try.tab rfl rfl rfl rfl _ rfl (by omega)) rfl rfl rfl ?_
          refine q_y (y_load Try.tab rfl rfl (cell_ints 0 rfl (by omega))) rfl rfl rfl ?_
          refine q_y (y_T (y_geq rfl rfl) (by assumption)) rfl rfl rfl ?_
          refine q_y (y_move rfl) rfl rfl rfl ?_
          refine q_y (y_move rfl) rfl rfl rfl ?_
          refine q_y (y_T (y_lss rfl rfl) (by assumption)) rfl rfl rfl ?_
          refine q_y (y_move rfl) rfl rfl rfl ?_
          iterate 9 refine q_skip rfl rfl rfl ?_
          refine q_y (y_pickT rfl rfl) rfl rfl rfl ?_
          refine q_y (y_pickT rfl rfl) rfl rfl rfl ?_
          refine q_nil ?_
          refine f_then ?_
          refine c_condT rfl ?_
          refine c_region ?_
          refine s_y (y_move rfl) rfl rfl rfl ?_
          refine s_y (y_assign rfl) rfl rfl rfl ?_
          refine s_nil ?_
          refine f_blockN ?_
          refine f_then ?_
          refine c_region ?_
          refine s_y (y_move rfl) rfl rfl rfl ?_
          refine s_y (y_add rfl rfl (by omega)) rfl rfl rfl ?_
          refine s_y (y_assign rfl) rfl rfl rfl ?_
          refine s_nil ?_
          exact f_roundP (i + 1, (i : Int)) ⟨hiu, hn⟩ (by dsimp only; omega) ⟨rfl, rfl, rfl, rfl, rfl, trivial⟩ (fun w h => h)
        · obtain ⟨c, rfl, hcu⟩ := hb.lt hb0
          by_cases hc : Rs R g z c < Rs R g z i
          · have hn := hb.new hr hc
            refine c_seq ?_
            refine c_seq ?_
            refine c_region ?_
            refine s_y (y_move rfl) rfl rfl rfl ?_
            refine s_y (y_move rfl) rfl rfl rfl ?_
            refine s_y (y_len Try.tab rfl rfl) rfl rfl rfl ?_
            refine s_y (y_T (y_lss rfl rfl) (by omega)) rfl rfl rfl ?_
            refine s_nil ?_
            refine f_then ?_
            refine c_condT rfl ?_
            refine c_skip ?_
            refine f_then ?_
            refine c_seq ?_
            refine c_block ?_
            refine c_seq ?_
            refine c_quiet Try.mixed (by kernel_rfl) K.drew ?_
            refine q_y (y_move rfl) rfl rfl rfl ?_
            refine q_y (y_move rfl) rfl rfl rfl ?_
            refine q_y (y_indexAddr1 Try.tab rfl rfl rfl rfl _ rfl (by omega)) rfl rfl rfl ?_
            refine q_y (y_load Try.tab rfl rfl (cell_ints 0 rfl (by omega))) rfl rfl rfl ?_
            refine q_y (y_T (y_geq rfl rfl) (by assumption)) rfl rfl rfl ?_
            refine q_y (y_move rfl) rfl rfl rfl ?_
            refine q_y (y_move rfl) rfl rfl rfl ?_
            refine q_y (y_F (y_lss rfl rfl) (by assumption)) rfl rfl rfl ?_
            refine q_y (y_move rfl) rfl rfl rfl ?_
            refine q_y (y_move rfl) rfl rfl rfl ?_
            refine q_y (y_move rfl) rfl rfl rfl ?_
            refine q_y (y_indexAddr1 Try.tab rfl rfl rfl rfl _ rfl (by omega)) rfl rfl rfl ?_
            refine q_y (y_load Try.tab rfl rfl (cell_ints 0 rfl (by omega))) rfl rfl rfl ?_
            refine q_y (y_move rfl) rfl rfl rfl ?_
            refine q_y (y_move rfl) rfl rfl rfl ?_
            refine q_y (y_indexAddr1 Try.tab rfl rfl rfl rfl _ rfl (by omega)) rfl rfl rfl ?_
            refine q_y (y_load Try.tab rfl rfl (cell_ints 0 rfl (by omega))) rfl rfl rfl ?_
            refine q_y (y_T (y_gtr rfl rfl) (by assumption)) rfl rfl rfl ?_
            refine q_y (y_pickF rfl rfl) rfl rfl rfl ?_
            refine q_y (y_pickT rfl rfl) rfl rfl rfl ?_
            refine q_nil ?_
            refine f_then ?_
            refine c_condT rfl ?_
            refine c_region ?_
            refine s_y (y_move rfl) rfl rfl rfl ?_
            refine s_y (y_assign rfl) rfl rfl rfl ?_
            refine s_nil ?_
            refine f_blockN ?_
            refine f_then ?_
            refine c_region ?_
            refine s_y (y_move rfl) rfl rfl rfl ?_
            refine s_y (y_add rfl rfl (by omega)) rfl rfl rfl ?_
            refine s_y (y_assign rfl) rfl rfl rfl ?_
            refine s_nil ?_
            exact f_roundP (i + 1, (i : Int)) ⟨hiu, hn⟩ (by dsimp only; omega) ⟨rfl, rfl, rfl, rfl, rfl, trivial⟩ (fun w h => h)
          · have hn := hb.old hr hc
            refine c_seq ?_
            refine c_seq ?_
            refine c_region ?_
            refine s_y (y_move rfl) rfl rfl rfl ?_
            refine s_y (y_move rfl) rfl rfl rfl ?_
            refine s_y (y_len Try.tab rfl rfl) rfl rfl rfl ?_
            refine s_y (y_T (y_lss rfl rfl) (by omega)) rfl rfl rfl ?_
            refine s_nil ?_
            refine f_then ?_
            refine c_condT rfl ?_
            refine c_skip ?_
            refine f_then ?_
            refine c_seq ?_
            refine c_block ?_
            refine c_seq ?_
            refine c_quiet Try.mixed (by kernel_rfl) K.drew ?_
            refine q_y (y_move rfl) rfl rfl rfl ?_
            refine q_y (y_move rfl) rfl rfl rfl ?_
            refine q_y (y_indexAddr1 Try.tab rfl rfl rfl rfl _ rfl (by omega)) rfl rfl rfl ?_
            refine q_y (y_load Try.tab rfl rfl (cell_ints 0 rfl (by omega))) rfl rfl rfl ?_
            refine q_y (y_T (y_geq rfl rfl) (by assumption)) rfl rfl rfl ?_
            refine q_y (y_move rfl) rfl rfl rfl ?_
            refine q_y (y_move rfl) rfl rfl rfl ?_
            refine q_y (y_F (y_lss rfl rfl) (by assumption)) rfl rfl rfl ?_
            refine q_y (y_move rfl) rfl rfl rfl ?_
            refine q_y (y_move rfl) rfl rfl rfl ?_
            refine q_y (y_move rfl) rfl rfl rfl ?_
            refine q_y (y_indexAddr1 Try.tab rfl rfl rfl rfl _ rfl (by omega)) rfl rfl rfl ?_
            refine q_y (y_load Try.tab rfl rfl (cell_ints 0 rfl (by omega))) rfl rfl rfl ?_
            refine q_y (y_move rfl) rfl rfl rfl ?_
            refine q_y (y_move rfl) rfl rfl rfl ?_
            refine q_y (y_indexAddr1 Try.tab rfl rfl rfl rfl _ rfl (by omega)) rfl rfl rfl ?_
            refine q_y (y_load Try.tab rfl rfl (cell_ints 0 rfl (by omega))) rfl rfl rfl ?_
            refine q_y (y_F (y_gtr rfl rfl) (by assumption)) rfl rfl rfl ?_
            refine q_y (y_pickF rfl rfl) rfl rfl rfl ?_
            refine q_y (y_pickT rfl rfl) rfl rfl rfl ?_
            refine q_nil ?_
            refine f_then ?_
            refine c_condF rfl ?_
            refine c_skip ?_
            refine f_blockN ?_
            refine f_then ?_
            refine c_region ?_
            refine s_y (y_move rfl) rfl rfl rfl ?_
            refine s_y (y_add rfl rfl (by omega)) rfl rfl rfl ?_
            refine s_y (y_assign rfl) rfl rfl rfl ?_
            refine s_nil ?_
            exact f_roundP (i + 1, (c : Int)) ⟨hiu, hn⟩ (by dsimp only; omega) ⟨rfl, rfl, rfl, rfl, rfl, trivial⟩ (fun w h => h)
      · have hn := hb.skip (by omega)
        refine c_seq ?_
        refine c_seq ?_
        refine c_region ?_
        refine s_y (y_move rfl) rfl rfl rfl ?_
        refine s_y (y_move rfl) rfl rfl rfl ?_
        refine s_y (y_len Try.tab rfl rfl) rfl rfl rfl ?_
        refine s_y (y_T (y_lss rfl rfl) (by omega)) rfl rfl rfl ?_
        refine s_nil ?_
        refine f_then ?_
        refine c_condT rfl ?_
        refine c_skip ?_
        refine f_then ?_
        refine c_seq ?_
        refine c_block ?_
        refine c_seq ?_
        refine c_quiet Try.mixed (by kernel_rfl) K.drew ?_
        refine q_y (y_move rfl) rfl rfl rfl ?_
        refine q_y (y_move rfl) rfl rfl rfl ?_
        refine q_y (y_indexAddr1 Try.tab rfl rfl rfl rfl _ rfl (by omega)) rfl rfl rfl ?_
        refine q_y (y_load Try.tab rfl rfl (cell_ints 0 rfl (by omega))) rfl rfl rfl ?_
        refine q_y (y_F (y_geq rfl rfl) (by assumption)) rfl rfl rfl ?_
        refine q_y (y_move rfl) rfl rfl rfl ?_
        iterate 13 refine q_skip rfl rfl rfl ?_
        refine q_y (y_pickF rfl rfl) rfl rfl rfl ?_
        refine q_nil ?_
        refine f_then ?_
        refine c_condF rfl ?_
        refine c_skip ?_
        refine f_blockN ?_
        refine f_then ?_
        refine c_region ?_
        refine s_y (y_move rfl) rfl rfl rfl ?_
        refine s_y (y_add rfl rfl (by omega)) rfl rfl rfl ?_
        refine s_y (y_assign rfl) rfl rfl rfl ?_
        refine s_nil ?_
        exact f_roundP (i + 1, b) ⟨hiu, hn⟩ (by dsimp only; omega) ⟨rfl, rfl, rfl, rfl, rfl, trivial⟩ (fun w h => h)
    obtain rfl : i = u := by omega
    have hbe := hb.done hg (show z < i by omega)
    subst hbe
    clear hb
    have hgz := (hg.rng z (Nat.zero_le _) (show z < i by omega)).2
    have hLz := Lf_le (q := q) (g := g) (k := z) (i := g z)
    have hqz := hqb (g z) hgz
    have hLe : Lf q g (z + 1) = upd (Lf q g z) (g z) (Lf q g z (g z) + 1) := rfl
    have hRe : Rs R g (z + 1) = upd (Rs R g z) (g z) (-1) := rfl
    clear hqb hrb hg
    refine c_seq ?_
    refine c_seq ?_
    refine c_region ?_
    refine s_y (y_move rfl) rfl rfl rfl ?_
    refine s_y (y_move rfl) rfl rfl rfl ?_
    refine s_y (y_len Try.tab rfl rfl) rfl rfl rfl ?_
    refine s_y (y_F (y_lss rfl rfl) (by omega)) rfl rfl rfl ?_
    refine s_nil ?_
    refine f_then ?_
    refine c_condF rfl ?_
    refine c_exit ?_
    refine f_thenE ?_
    refine f_rndE ?_
    refine f_blockE ?_
    refine f_then ?_
    refine c_seq ?_
    refine c_region ?_
    refine s_y (y_move rfl) rfl rfl rfl ?_
    refine s_y (y_move rfl) rfl rfl rfl ?_
    refine s_y (y_indexAddr1 Try.tab rfl rfl rfl rfl _ rfl (by omega)) rfl rfl rfl ?_
    refine s_y (y_load Try.tab rfl rfl (cell_ints 1 rfl (by omega))) rfl rfl rfl ?_
    refine s_y (y_add rfl rfl (by omega)) rfl rfl rfl ?_
    refine s_y (y_indexAddr1 Try.tab rfl rfl rfl rfl _ rfl (by omega)) rfl rfl rfl ?_
    refine s_set (set_ints Try.tab 1 rfl rfl rfl rfl (by omega)) rfl rfl ?_
    refine s_nil ?_
    refine f_then ?_
    refine c_seq ?_
    refine c_region ?_
    refine s_y (y_move rfl) rfl rfl rfl ?_
    refine s_y (y_move rfl) rfl rfl rfl ?_
    refine s_y (y_indexAddr1 Try.tab rfl rfl rfl rfl _ rfl (by omega)) rfl rfl rfl ?_
    refine s_set (set_ints Try.tab 0 rfl rfl rfl rfl (by omega)) rfl rfl ?_
    refine s_nil ?_
    refine f_then ?_
    refine c_region ?_
    refine s_y (y_move rfl) rfl rfl rfl ?_
    refine s_y (y_sub rfl rfl (by omega)) rfl rfl rfl ?_
    refine s_y (y_assign rfl) rfl rfl rfl ?_
    refine s_nil ?_
    refine f_blockN ?_
    exact f_roundP (z + 1) hzl (by omega) ⟨rfl, rfl, congrArg (fun z => some (Value.int .i64 z)) (by omega), trivial⟩ (fun w h => by
      rw [hLe, ← upd_nat, hRe]
      exact h)
  obtain rfl : z = lft := by omega
  rw [Nat.sub_self]
  refine c_seq ?_
  refine c_seq ?_
  refine c_region ?_
  refine s_y (y_move rfl) rfl rfl rfl ?_
  refine s_y (y_F (y_gtr rfl rfl) (by omega)) rfl rfl rfl ?_
  refine s_nil ?_
  refine f_then ?_
  refine c_condF rfl ?_
  refine c_exit ?_
  refine f_thenE ?_
  refine f_rndE ?_
  refine f_blockE ?_
  refine f_then ?_
  refine c_seq ?_
  refine c_region ?_
  refine s_y (y_move rfl) rfl rfl rfl ?_
  refine s_y (y_assign rfl) rfl rfl rfl ?_
  refine s_nil ?_
  refine f_then ?_
  refine c_ret ?_
  exact f_ret ⟨([(b27, ints 3 u (fun j => ((Lf q g z j : Nat) : Int)) [])], .slice (some ⟨b27, 0, none⟩) u u), SlI.own 0 rfl⟩ (res1 rfl rfl) (fun w h => h.tail)
end Go.KL
end

section
/- Walks: SampleAllots. -/
namespace Go.KL
open Go.Proofs
theorem div_parts {n s : Nat} : (n * s / 18446744073709551616 * 18446744073709551616 + n * s % 18446744073709551616) = n * s := Nat.div_add_mod' _ _
attribute [local irreducible] SC St Fin Sq Ylds Doos Sets Enters Spec CellIs CellsAre Then Ret Rnd Chn resOK ints bools recs arr
set_option maxRecDepth 10000 in
theorem allots_div {W : World} {n T : Nat} (hn : n ≤ T) (hTb : T < 9223372036854775808) : ∀ (s : Nat) (N' : List Chunk), s ≤ 1099511627776 → s ≤ T → 0 < T → Spec Try.prog 78 #[.int .u64 ((n * s / 18446744073709551616 : Nat) : Int), .int .u64 ((n * s % 18446744073709551616 : Nat) : Int), .int .u64 (T : Int)] (K W N') (fun _ : Unit => .tuple #[.int .u64 ((n * s / T : Nat) : Int), .int .u64 ((n * s % T : Nat) : Int)]) (fun _ => K W N') := by
  intro s N' h1 _ h3
  have hp : n * s ≤ T * 1099511627776 := Nat.mul_le_mul hn h1
  have h := div64_spec (W := W) (N := N') (hi := n * s / 18446744073709551616) (lo := n * s % 18446744073709551616) (y := T) (by omega) (Nat.mod_lt _ (by decide)) hTb
  rw [div_parts] at h
  exact h
set_option maxRecDepth 10000 in
set_option maxHeartbeats 8000000 in
theorem sampleAllots_walk (W : World) (n : Int) (m : Nat) (f : Nat → Int) (v : Value) (hn : i64 n) (hv : SlI (K W []) v m f) (hm : m ≤ 9223372036854775807) (_ : ∀ i, i < m → i64 (f i)) : Spec Try.prog 15 #[.int .i64 n, v] (K W []) (fun _ : Unit => .bool true) (fun _ => K W []) := by
  unfold i64 at hn
  have hv0 := hv
  obtain ⟨pa, c, rfl, hc, hcell⟩ := SlV.open1 hv
  refine enter (args := [_, _]) Try.func15 rfl Try.ntmps15 rfl ?_
  clear hcell
  by_cases h1 : 100 < m
  · refine c_seq ?_
    refine c_region ?_
    refine s_y (y_assign rfl) rfl rfl rfl ?_
    refine s_nil ?_
    refine f_then ?_
    refine c_seq ?_
    refine c_seq ?_
    refine c_region ?_
    refine s_y (y_move rfl) rfl rfl rfl ?_
    refine s_y (y_len Try.tab rfl rfl) rfl rfl rfl ?_
    refine s_y (y_T (y_gtr rfl rfl) (by omega)) rfl rfl rfl ?_
    refine s_nil ?_
    refine f_then ?_
    refine c_condT rfl ?_
    refine c_seq ?_
    refine c_region ?_
    refine s_call (en_f rfl Try.call19) awake_spec rfl rfl rfl (fun _ => ?_)
    refine s_y (y_assign rfl) rfl rfl rfl ?_
    refine s_nil ?_
    refine f_then ?_
    refine c_ret ?_
    refine f_thenR ?_
    exact f_ret () (res1 rfl rfl) (fun w h => h)
  refine c_seq ?_
  refine c_region ?_
  refine s_y (y_assign rfl) rfl rfl rfl ?_
  refine s_nil ?_
  refine f_then ?_
  refine c_seq ?_
  refine c_seq ?_
  refine c_region ?_
  refine s_y (y_move rfl) rfl rfl rfl ?_
  refine s_y (y_len Try.tab rfl rfl) rfl rfl rfl ?_
  refine s_y (y_F (y_gtr rfl rfl) (by omega)) rfl rfl rfl ?_
  refine s_nil ?_
  refine f_then ?_
  refine c_condF rfl ?_
  refine c_skip ?_
  refine f_then ?_
  refine c_seq ?_
  refine c_region ?_
  refine s_do (do_buildSlice1 Try.tab ⟨rfl, rfl, rfl, rfl⟩ rfl rfl rfl rfl) rfl rfl rfl (fun b14 => ?_)
  refine s_y (y_move rfl) rfl rfl rfl ?_
  refine s_do (do_appendE (by_ := 8) (g := fun i _ => .int .i64 (f i)) Try.tab 0 rfl rfl (hv.cls fun w h => h.tail) ⟨rfl, rfl, rfl, rfl⟩ rfl rfl (fun _ _ => rfl) (by unfold maxLen; omega) (by omega)) rfl rfl rfl (fun o1 => ?_)
  obtain ⟨o1, ho1, hp1⟩ := o1
  have hcp : SlI (K W [och 3 o1 (vw 1 m (fun i _ => .int .i64 (f i)))]) (osl o1 m) m f := SlV.vw 0 rfl ho1
  refine St.cls (C' := K W [och 3 o1 (vw 1 m (fun i _ => .int .i64 (f i)))]) ?_ (fun w h => h)
  by_cases hA : AllP n m f
  · have hn0 := hA.n0
    have hnt := hA.nt
    have htm := tot_le hA.size
    have hml := hA.len
    obtain ⟨T, hT⟩ : ∃ T, psum (FN f) 0 m = T := ⟨_, rfl⟩
    rw [hT] at hnt htm
    obtain ⟨n, rfl⟩ : ∃ k : Nat, n = (k : Int) := ⟨n.toNat, by omega⟩
    have hal := allot_ok hcp hA hT (allots_div (by omega) (by omega))
    clear hc
    refine s_y (y_assign rfl) rfl rfl rfl ?_
    refine s_nil ?_
    refine f_then ?_
    refine c_seq ?_
    refine c_region ?_
    refine s_y (y_move rfl) rfl rfl rfl ?_
    refine s_y (y_move rfl) rfl rfl rfl ?_
    refine s_call (en_f rfl Try.call42) hal rfl rfl rfl (fun x => ?_)
    obtain ⟨⟨g, L, vl⟩, hg, hS⟩ := x
    dsimp only at hg hS ⊢
    have hto := total_spec (W := W) (N := [L, och 3 o1 (vw 1 m (fun i _ => .int .i64 (f i)))]) (n := (n : Int)) (hv0.cls fun w h => h.tail.tail) hm
    refine s_y (y_move rfl) rfl rfl rfl ?_
    refine s_y (y_extract rfl rfl) rfl rfl rfl ?_
    refine s_y (y_extract rfl rfl) rfl rfl rfl ?_
    refine s_y (y_assign rfl) rfl rfl rfl ?_
    refine s_y (y_assign rfl) rfl rfl rfl ?_
    refine s_nil ?_
    refine f_then ?_
    refine c_seq ?_
    refine c_region ?_
    refine s_y (y_move rfl) rfl rfl rfl ?_
    refine s_y (y_move rfl) rfl rfl rfl ?_
    refine s_call (en_f rfl Try.call43) hto rfl rfl rfl (fun z => ?_)
    obtain ⟨z, hz1, _⟩ := z
    have hz := hz1 hA
    rw [hT] at hz
    subst hz
    dsimp only
    clear hz1 hto hal
    have hra := rallot_spec (W := W) (N := [L, och 3 o1 (vw 1 m (fun i _ => .int .i64 (f i)))]) (hv0.cls fun w h => h.tail.tail) hA hT hg
    refine s_y (y_move rfl) rfl rfl rfl ?_
    refine s_y (y_extract rfl rfl) rfl rfl rfl ?_
    refine s_y (y_extract rfl rfl) rfl rfl rfl ?_
    refine s_y (y_assign rfl) rfl rfl rfl ?_
    refine s_y (y_assign rfl) rfl rfl rfl ?_
    refine s_nil ?_
    refine f_then ?_
    refine c_seq ?_
    refine c_seq ?_
    refine c_region ?_
    refine s_y (y_move rfl) rfl rfl rfl ?_
    refine s_y (y_notT rfl) rfl rfl rfl ?_
    refine s_nil ?_
    refine f_then ?_
    refine c_condF rfl ?_
    refine c_skip ?_
    refine f_then ?_
    refine c_seq ?_
    refine c_region ?_
    refine s_y (y_move rfl) rfl rfl rfl ?_
    refine s_y (y_move rfl) rfl rfl rfl ?_
    refine s_y (y_move rfl) rfl rfl rfl ?_
    refine s_call (en_f rfl Try.call45) hra rfl rfl rfl (fun y => ?_)
    obtain ⟨⟨L2, v2⟩, hS2⟩ := y
    dsimp only at hS2 ⊢
    clear hra
    refine s_call (en_f rfl Try.call44) (same_rows (t := true) (hS.cls fun w h => h.tail.hd) (hS2.cls fun w h => h.hd) (by omega) ⟨fun _ => ⟨rfl, fun _ _ => rfl⟩, fun _ => rfl⟩) rfl rfl rfl (fun _ => ?_)
    refine s_y (y_move rfl) rfl rfl rfl ?_
    refine s_y (y_move rfl) rfl rfl rfl ?_
    refine s_y (y_T (y_eql rfl rfl) (by omega)) rfl rfl rfl ?_
    refine s_y (y_pickT rfl rfl) rfl rfl rfl ?_
    refine s_y (y_move rfl) rfl rfl rfl ?_
    refine s_y (y_move rfl) rfl rfl rfl ?_
    refine s_y (y_move rfl) rfl rfl rfl ?_
    refine s_call (en_f rfl Try.call44) (same_rows (t := true) (hcp.cls fun w h => h.tail.tail) (hv0.cls fun w h => h.tail.tail.tail) (by omega) ⟨fun _ => ⟨rfl, fun _ _ => rfl⟩, fun _ => rfl⟩) rfl rfl rfl (fun _ => ?_)
    refine s_y (y_pickT rfl rfl) rfl rfl rfl ?_
    refine s_y (y_move rfl) rfl rfl rfl ?_
    refine s_call (en_f rfl Try.call19) awake_spec rfl rfl rfl (fun _ => ?_)
    refine s_y (y_pickT rfl rfl) rfl rfl rfl ?_
    refine s_y (y_assign rfl) rfl rfl rfl ?_
    refine s_nil ?_
    refine f_then ?_
    refine c_ret ?_
    exact f_ret () (res1 rfl rfl) (fun w h => h.tail.tail.tail)
  · refine s_y (y_assign rfl) rfl rfl rfl ?_
    refine s_nil ?_
    refine f_then ?_
    refine c_seq ?_
    refine c_region ?_
    refine s_y (y_move rfl) rfl rfl rfl ?_
    refine s_y (y_move rfl) rfl rfl rfl ?_
    refine s_call (en_f rfl Try.call42) (allot_err hcp hm hA) rfl rfl rfl (fun _ => ?_)
    refine s_y (y_move rfl) rfl rfl rfl ?_
    refine s_y (y_extract rfl rfl) rfl rfl rfl ?_
    refine s_y (y_extract rfl rfl) rfl rfl rfl ?_
    refine s_y (y_assign rfl) rfl rfl rfl ?_
    refine s_y (y_assign rfl) rfl rfl rfl ?_
    refine s_nil ?_
    refine f_then ?_
    refine c_seq ?_
    refine c_region ?_
    refine s_y (y_move rfl) rfl rfl rfl ?_
    refine s_y (y_move rfl) rfl rfl rfl ?_
    refine s_call (en_f rfl Try.call43) (total_spec (n := n) (hv0.cls fun w h => h.tail) hm) rfl rfl rfl (fun z => ?_)
    obtain ⟨⟨z, ok⟩, _, hz⟩ := z
    have hz := hz hA
    dsimp only at hz ⊢
    subst hz
    refine s_y (y_move rfl) rfl rfl rfl ?_
    refine s_y (y_extract rfl rfl) rfl rfl rfl ?_
    refine s_y (y_extract rfl rfl) rfl rfl rfl ?_
    refine s_y (y_assign rfl) rfl rfl rfl ?_
    refine s_y (y_assign rfl) rfl rfl rfl ?_
    refine s_nil ?_
    refine f_then ?_
    refine c_seq ?_
    refine c_seq ?_
    refine c_region ?_
    refine s_y (y_move rfl) rfl rfl rfl ?_
    refine s_y (y_notF rfl) rfl rfl rfl ?_
    refine s_nil ?_
    refine f_then ?_
    refine c_condT rfl ?_
    refine c_seq ?_
    refine c_region ?_
    refine s_y (y_move rfl) rfl rfl rfl ?_
    refine s_y (y_len Try.tab rfl rfl) rfl rfl rfl ?_
    refine s_y (y_T (y_eql rfl rfl) (by omega)) rfl rfl rfl ?_
    refine s_y (y_move rfl) rfl rfl rfl ?_
    refine s_y (y_move rfl) rfl rfl rfl ?_
    refine s_y (y_T (y_eql rfl rfl) (by omega)) rfl rfl rfl ?_
    refine s_y (y_pickT rfl rfl) rfl rfl rfl ?_
    refine s_y (y_move rfl) rfl rfl rfl ?_
    refine s_call (en_f rfl Try.call19) awake_spec rfl rfl rfl (fun _ => ?_)
    refine s_y (y_pickT rfl rfl) rfl rfl rfl ?_
    refine s_y (y_assign rfl) rfl rfl rfl ?_
    refine s_nil ?_
    refine f_then ?_
    refine c_ret ?_
    refine f_thenR ?_
    exact f_ret () (res1 rfl rfl) (fun w h => h.tail)
end Go.KL
end

section
/- SampleAllots: for every input the law returns true, and its arguments read as they did. No condition. -/
namespace Go.Proofs.Ytdknafhaphadiaa
open Go.ChangeShapes Go.WideShapes Go.RowKit Go.KL
set_option linter.unusedVariables false
theorem own : ownKnob Try.prog.godebug = none := by kernel_rfl
set_option maxRecDepth 100000 in
theorem sampleAllots_lifted (os : Os) (started : os.Started) (H : Type) (enc : TypeId × Value → H) :
    ReturnsInHanded {} Try.checked os 15 .any (Rows.sampleAllotsSpec.pre6 enc Try.prog Try.f15 Rows.sampleAllotsRow.domain false) (Rows.sampleAllotsSpec.post enc Try.prog Try.f15 false true false false) := by
  refine returnsInHanded_of_change (C := Try.checked) own started (by kernel_rfl) Try.func15
    (ChangeSpec.witness6 (enc := enc) (C := Try.checked) false ⟨#[], #[.int .i64 0, .slice none 0 0], []⟩ 8 (by kernel_rfl) (by kernel_rfl) (by kernel_rfl) (by kernel_rfl)) ?_
  intro W base args ds gs before hval hW hcnd _
  obtain ⟨p, q, hA, hV, rfl, hfz, hnd⟩ := id hW
  obtain ⟨rfl, rfl⟩ := trodVars_none hV
  obtain ⟨v0, vs0, d0, ds0, p0, q0, e0, rfl, rfl, h0, r0⟩ := trodAll_cons hA
  obtain ⟨v1, vs1, d1, ds1, p1, q1, rfl, rfl, rfl, h1, r1⟩ := trodAll_cons r0
  obtain ⟨rfl, rfl, rfl⟩ := trodAll_nil r1
  obtain rfl : args = #[v0, v1] := by cases args; simp_all
  obtain ⟨k0, rfl, hk0⟩ := arg3 (hval 0 3 _ rfl rfl) h0
  obtain ⟨m1, f1, hI1, hm1, hf1⟩ := arg32 (hval 1 32 _ rfl rfl) h1
  refine ((sampleAllots_walk W k0 m1 f1 v1 hk0 hI1 hm1 hf1) W (K.refl W)).mono ?_
  rintro e W' ⟨x, rfl, hk⟩
  exact ⟨_, rfl, law_post (t := 4) laidOut (by decide +kernel) rfl rfl u4 hW rfl hk.toExt⟩
theorem joined : joinedFacts Try.pinned.checked.prog 15 Try.f15 Rows.sampleAllotsSpec Rows.sampleAllotsRow = true := by
  show joinedFacts Try.prog 15 Try.f15 Rows.sampleAllotsSpec Rows.sampleAllotsRow = true
  unfold joinedFacts
  rw [Go.KL.may_enter, Go.KL.lifts_final, Go.KL.make_cut]
  kernel_rfl
/-- The statement. -/
theorem sampleAllots_holds : Rows.SampleAllotsSaid :=
  OpenClaim.holds_of_wide 15 Try.f15 rfl rfl rfl rfl rfl rfl rfl ⟨rfl, rfl, rfl, rfl, rfl⟩ rfl rfl rfl rfl rfl (by kernel_rfl) Try.func15 joined
    (of_decide_eq_true (by kernel_rfl)) (by unfold Func.isWrapper; first | (rw [if_pos (by decide +kernel)]; kernel_rfl) | (rw [if_neg (by decide +kernel)]; exact ⟨rfl, rfl⟩))
    (fun os started H enc _ => sampleAllots_lifted os started H enc)
end Go.Proofs.Ytdknafhaphadiaa
end
