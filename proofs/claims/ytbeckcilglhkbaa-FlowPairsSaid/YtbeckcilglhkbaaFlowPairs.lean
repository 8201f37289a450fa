/- FlowPairs: for every input the law returns true, and its arguments read as they did. No condition. -/
import Derived.Test.YtbeckcilglhkbaaRows
import Derived.JoinedOf
import Derived.Handed
import Derived.Test.YtbeckcilglhkbaaGcL4
section
/- Plain lemmas: matchings and covers. What Pair returns is a matching and a cover of one size; no matching is greater than a cover. No program in sight. -/
namespace Go.KL
theorem cnt_sm (p : Nat → Bool) : ∀ n, (cnt n p : Int) = sm n fun i => if p i then 1 else 0
  | 0 => rfl
  | n + 1 => by
    have := cnt_sm p n
    simp only [cnt, sm]
    rw [← this]
    split <;> simp
theorem sm_two_le (m : Nat) (f : Nat → Int) (h : ∀ i, i < m → 0 ≤ f i) (i j : Nat) (hij : i < j) (hj : j < m) : f i + f j ≤ sm m f := by
  induction m with
  | zero => omega
  | succ m ih =>
    simp only [sm]
    by_cases e : j = m
    · subst e
      have := sm_nonneg_at j f (fun k hk => h k (by omega)) i hij
      omega
    · have := ih (fun k hk => h k (by omega)) (by omega)
      have := h m (by omega)
      omega
theorem sm_two_ne (m : Nat) (f : Nat → Int) (h : ∀ i, i < m → 0 ≤ f i) (i j : Nat) (hij : i ≠ j) (hi : i < m) (hj : j < m) : f i + f j ≤ sm m f := by
  rcases Nat.lt_or_gt_of_ne hij with h1 | h1
  · exact sm_two_le m f h i j h1 hj
  · have := sm_two_le m f h j i h1 hi
    omega
theorem sm_pos (m : Nat) (f : Nat → Int) (hp : 0 < sm m f) : ∃ i, i < m ∧ 0 < f i := by
  induction m with
  | zero => simp [sm] at hp
  | succ m ih =>
    by_cases e : 0 < f m
    · exact ⟨m, by omega, e⟩
    · simp only [sm] at hp
      obtain ⟨i, h1, h2⟩ := ih (by omega)
      exact ⟨i, by omega, h2⟩
/-- What is mapped without clash into a set is no more than the set. -/
theorem cnt_inj {r : Nat} (φ : Nat → Nat) : ∀ (l : Nat) (p b : Nat → Bool), (∀ v, v < l → p v = true → φ v < r ∧ b (φ v) = true) → (∀ v, v < l → ∀ u, u < v → p u = true → p v = true → φ u ≠ φ v) → cnt l p ≤ cnt r b
  | 0, _, _, _, _ => Nat.zero_le _
  | l + 1, p, b, h1, h2 => by
    simp only [cnt]
    cases e : p l with
    | false =>
      have := cnt_inj φ l p b (fun v hv => h1 v (by omega)) (fun v hv => h2 v (by omega))
      simpa using this
    | true =>
      obtain ⟨h3, h4⟩ := h1 l (by omega) e
      have h5 := cnt_inj φ l p (upd b (φ l) false) (fun v hv hp => ⟨(h1 v (by omega) hp).1, by
        have h6 := h2 l (by omega) v hv hp e
        simp only [upd, if_neg h6]
        exact (h1 v (by omega) hp).2⟩) (fun v hv => h2 v (by omega))
      have h6 : cnt r (upd b (φ l) false) < cnt r b := cnt_lt r _ _ (fun i _ hi => by
        simp only [upd] at hi
        split at hi
        · cases hi
        · exact hi) (φ l) h3 h4 (by simp [upd])
      simp only [if_true]
      omega
theorem cnt_split : ∀ (k : Nat) (p a : Nat → Bool), cnt k p ≤ cnt k a + cnt k (fun v => p v && !a v)
  | 0, _, _ => Nat.zero_le _
  | k + 1, p, a => by
    have ih := cnt_split k p a
    simp only [cnt]
    by_cases e1 : p k = true <;> by_cases e2 : a k = true <;> simp [e1, e2] <;> omega
section
variable {l r m : Nat} {Q : Nat → Pr}
/-- No matching has more pairs than a cover has nodes. -/
theorem weak {mt ma mb : Nat} {to : Nat → Int} {a b : Nat → Bool} (hG : PairsOK l r m Q) (hM : MatchOK l m Q mt to) (hC : CoverOK l r m Q ma mb a b) : cnt l (mated to) ≤ cnt l a + cnt r b := by
  have h1 : cnt l (mated to) ≤ cnt l a + cnt l (fun v => mated to v && !a v) := cnt_split l (mated to) a
  have h2 : cnt l (fun v => mated to v && !a v) ≤ cnt r b := by
    refine cnt_inj (fun v => (to v).toNat) l _ b (fun v hv hp => ?_) (fun v hv u hu hp hq => ?_)
    · simp only [Bool.and_eq_true, decide_eq_true_eq, Bool.not_eq_true'] at hp
      rcases hM.pair v hv with h3 | ⟨i, hi, e1, e2⟩
      · exact absurd h3 hp.1
      · have h4 := hG.hq i hi
        have h5 := hC.cov i hi
        rw [e1] at h5
        have h6 : a v = false := hp.2
        have h7 : ((v : Nat) : Int).toNat = v := Int.toNat_natCast v
        rw [h7, h6] at h5
        rw [← e2]
        refine ⟨by omega, ?_⟩
        rcases h5 with h5 | h5
        · cases h5
        · exact h5
    · simp only [Bool.and_eq_true, decide_eq_true_eq, Bool.not_eq_true'] at hp hq
      have h3 := hM.inj v hv u hu hp.1 hq.1
      rcases hM.pair v hv with h4 | ⟨i, hi, e1, e2⟩
      · exact absurd h4 hq.1
      rcases hM.pair u (by omega) with h4 | ⟨j, hj, e3, e4⟩
      · exact absurd h4 hp.1
      have := hG.hq i hi; have := hG.hq j hj
      intro e
      have e : (to u).toNat = (to v).toNat := e
      omega
  omega

theorem at_left {f : Nat → Int} {a : Nat} (ha : a < l) : more (frM l r m Q) (ttM l r m Q) f (m + l + r) a = sm m (fun j => if (Q j).1.toNat = a then f j else 0) - f (m + a) := by
  unfold more
  rw [sm_split (m + l) r, sm_split m l]
  have e1 : sm m (fun i => (if frM l r m Q i = a then f i else 0) - (if ttM l r m Q i = a then f i else 0)) = sm m (fun j => if (Q j).1.toNat = a then f j else 0) := sm_congr _ _ _ fun i hi => by
    unfold frM ttM
    rw [if_pos hi, if_pos hi, if_neg (show ¬ l + (Q i).2.toNat = a by omega)]; omega
  have e2 : sm l (fun i => (if frM l r m Q (m + i) = a then f (m + i) else 0) - (if ttM l r m Q (m + i) = a then f (m + i) else 0)) = sm l (fun i => if i = a then -f (m + a) else 0) := sm_congr _ _ _ fun i hi => by
    unfold frM ttM
    rw [if_neg (show ¬ m + i < m by omega), if_pos (show m + i < m + l by omega), if_neg (show ¬ m + i < m by omega), if_pos (show m + i < m + l by omega), if_neg (show ¬ l + r = a by omega)]
    by_cases e : i = a
    · subst e
      rw [if_pos (by omega), if_pos rfl]; omega
    · rw [if_neg (show ¬ m + i - m = a by omega), if_neg e]; rfl
  have e3 : sm r (fun i => (if frM l r m Q (m + l + i) = a then f (m + l + i) else 0) - (if ttM l r m Q (m + l + i) = a then f (m + l + i) else 0)) = 0 := sm_zero _ _ fun i hi => by
    unfold frM ttM
    rw [if_neg (show ¬ m + l + i < m by omega), if_neg (show ¬ m + l + i < m + l by omega), if_neg (show ¬ m + l + i < m by omega), if_neg (show ¬ m + l + i < m + l by omega), if_neg (by omega), if_neg (by omega)]; rfl
  rw [e1, e2, e3, sm_one l a _ ha]
  omega
theorem at_right {f : Nat → Int} (hG : PairsOK l r m Q) {b : Nat} (hb : b < r) : more (frM l r m Q) (ttM l r m Q) f (m + l + r) (l + b) = f (m + l + b) - sm m (fun j => if (Q j).2.toNat = b then f j else 0) := by
  unfold more
  rw [sm_split (m + l) r, sm_split m l]
  have e1 : sm m (fun i => (if frM l r m Q i = l + b then f i else 0) - (if ttM l r m Q i = l + b then f i else 0)) = sm m (fun j => 0 - (if (Q j).2.toNat = b then f j else 0)) := sm_congr _ _ _ fun i hi => by
    unfold frM ttM
    have := hG.hq i hi
    rw [if_pos hi, if_pos hi, if_neg (show ¬ (Q i).1.toNat = l + b by omega)]
    by_cases e : (Q i).2.toNat = b
    · rw [if_pos (by omega), if_pos e]
    · rw [if_neg (by omega), if_neg e]
  have e2 : sm l (fun i => (if frM l r m Q (m + i) = l + b then f (m + i) else 0) - (if ttM l r m Q (m + i) = l + b then f (m + i) else 0)) = 0 := sm_zero _ _ fun i hi => by
    unfold frM ttM
    rw [if_neg (show ¬ m + i < m by omega), if_pos (show m + i < m + l by omega), if_neg (show ¬ m + i < m by omega), if_pos (show m + i < m + l by omega), if_neg (by omega), if_neg (by omega)]; rfl
  have e3 : sm r (fun i => (if frM l r m Q (m + l + i) = l + b then f (m + l + i) else 0) - (if ttM l r m Q (m + l + i) = l + b then f (m + l + i) else 0)) = sm r (fun i => if i = b then f (m + l + b) else 0) := sm_congr _ _ _ fun i hi => by
    unfold frM ttM
    rw [if_neg (show ¬ m + l + i < m by omega), if_neg (show ¬ m + l + i < m + l by omega), if_neg (show ¬ m + l + i < m by omega), if_neg (show ¬ m + l + i < m + l by omega), if_neg (show ¬ l + r + 1 = l + b by omega)]
    by_cases e : i = b
    · subst e
      rw [if_pos (by omega), if_pos rfl]; omega
    · rw [if_neg (by omega), if_neg e]; rfl
  rw [e1, e2, e3, sm_one r b _ hb, sm_sub m (fun _ => 0), sm_zero m (fun _ => 0) (fun _ _ => rfl)]
  omega
theorem at_source {f : Nat → Int} (hG : PairsOK l r m Q) : more (frM l r m Q) (ttM l r m Q) f (m + l + r) (l + r) = sm l (fun i => f (m + i)) := by
  unfold more
  rw [sm_split (m + l) r, sm_split m l]
  have e1 : sm m (fun i => (if frM l r m Q i = l + r then f i else 0) - (if ttM l r m Q i = l + r then f i else 0)) = 0 := sm_zero _ _ fun i hi => by
    unfold frM ttM
    have := hG.hq i hi
    rw [if_pos hi, if_pos hi, if_neg (by omega), if_neg (by omega)]; rfl
  have e2 : sm l (fun i => (if frM l r m Q (m + i) = l + r then f (m + i) else 0) - (if ttM l r m Q (m + i) = l + r then f (m + i) else 0)) = sm l (fun i => f (m + i)) := sm_congr _ _ _ fun i hi => by
    unfold frM ttM
    rw [if_neg (show ¬ m + i < m by omega), if_pos (show m + i < m + l by omega), if_neg (show ¬ m + i < m by omega), if_pos (show m + i < m + l by omega), if_pos rfl, if_neg (by omega)]; omega
  have e3 : sm r (fun i => (if frM l r m Q (m + l + i) = l + r then f (m + l + i) else 0) - (if ttM l r m Q (m + l + i) = l + r then f (m + l + i) else 0)) = 0 := sm_zero _ _ fun i hi => by
    unfold frM ttM
    rw [if_neg (show ¬ m + l + i < m by omega), if_neg (show ¬ m + l + i < m + l by omega), if_neg (show ¬ m + l + i < m by omega), if_neg (show ¬ m + l + i < m + l by omega), if_neg (by omega), if_neg (by omega)]; rfl
  rw [e1, e2, e3]
  omega
/-- The mate of a node: the end of an arc that bears a unit; none, if no such arc leaves. -/
theorem mts_or (f : Nat → Int) (Q : Nat → Pr) (v : Nat) : ∀ z, mts f Q z v = -1 ∧ (∀ i, i < z → (Q i).1.toNat = v → ¬ 0 < f i) ∨ ∃ i, i < z ∧ 0 < f i ∧ (Q i).1.toNat = v ∧ mts f Q z v = (Q i).2
  | 0 => .inl ⟨rfl, fun i hi => absurd hi (Nat.not_lt_zero i)⟩
  | z + 1 => by
    unfold mts
    by_cases e : 0 < f z ∧ (Q z).1.toNat = v
    · rw [if_pos e]
      exact .inr ⟨z, by omega, e.1, e.2, rfl⟩
    · rw [if_neg e]
      rcases mts_or f Q v z with ⟨h1, h2⟩ | ⟨i, h1, h2⟩
      · refine .inl ⟨h1, fun i hi he hf => ?_⟩
        by_cases ei : i = z
        · subst ei; exact e ⟨hf, he⟩
        · exact h2 i (by omega) he hf
      · exact .inr ⟨i, by omega, h2⟩
/-- What Pair returns: a matching, a cover, both of the flow's value. -/
theorem PairO.good {v : Int} {f : Nat → Int} {g : Nat → Bool} (hG : PairsOK l r m Q) (h : PairO l r m Q v f g) :
    MatchOK l m Q l (mts f Q m) ∧ (cnt l (mated (mts f Q m)) : Int) = v ∧ CoverOK l r m Q l r (fun u => !g u) (fun u => g (l + u)) ∧ (cnt l (fun u => !g u) : Int) + (cnt r (fun u => g (l + u)) : Int) = v := by
  have hA := arcsM hG
  have hbd : ∀ i, i < m + l + r → 0 ≤ f i ∧ f i ≤ 1 := fun i hi => by have := h.fl.bd i hi; simp only [rmM] at this; omega
  have hL : ∀ a, a < l → sm m (fun j => if (Q j).1.toNat = a then f j else 0) = f (m + a) := fun a ha => by
    have h1 := h.fl.mid a (by omega) (by omega) (by omega)
    rw [at_left ha] at h1
    omega
  have hR : ∀ b, b < r → sm m (fun j => if (Q j).2.toNat = b then f j else 0) = f (m + l + b) := fun b hb => by
    have h1 := h.fl.mid (l + b) (by omega) (by omega) (by omega)
    rw [at_right hG hb] at h1
    omega
  have hS : sm l (fun i => f (m + i)) = v := by rw [← at_source hG]; exact h.fl.val
  have hMO : MatchOK l m Q l (mts f Q m) := by
    refine ⟨rfl, fun u hu => ?_, fun x hx u hu h1 h2 e => ?_⟩
    · rcases mts_or f Q u m with ⟨h1, _⟩ | ⟨i, h1, _, h3, h4⟩
      · exact .inl h1
      · have := hG.hq i h1
        exact .inr ⟨i, h1, by omega, h4.symm⟩
    · rcases mts_or f Q u m with ⟨h3, _⟩ | ⟨i, i1, i2, i3, i4⟩
      · exact h1 h3
      rcases mts_or f Q x m with ⟨h3, _⟩ | ⟨j, j1, j2, j3, j4⟩
      · exact h2 h3
      have hq := hG.hq i i1
      have hne : i ≠ j := fun e => by subst e; omega
      have h5 := sm_two_ne m (fun k => if (Q k).2.toNat = (Q i).2.toNat then f k else 0) (fun k hk => by have := (hbd k (by omega)).1; split <;> omega) i j hne i1 j1
      have h6 : (Q j).2.toNat = (Q i).2.toNat := by rw [← i4, ← j4, e]
      simp only [h6, if_true] at h5
      rw [hR _ (by omega)] at h5
      have := hbd (m + l + (Q i).2.toNat) (by omega)
      omega
  have hMC : (cnt l (mated (mts f Q m)) : Int) = v := by
    rw [cnt_sm, ← hS]
    refine sm_congr _ _ _ fun a ha => ?_
    have h1 := hL a ha
    have h2 := hbd (m + a) (by omega)
    rcases mts_or f Q a m with ⟨h3, h4⟩ | ⟨i, i1, i2, i3, i4⟩
    · have h5 : sm m (fun j => if (Q j).1.toNat = a then f j else 0) = 0 := sm_zero _ _ fun i hi => by
        split
        · rename_i e
          have := h4 i hi e; have := (hbd i (by omega)).1
          omega
        · rfl
      simp only [mated, h3]
      simp
      omega
    · have h5 := sm_nonneg_at m (fun j => if (Q j).1.toNat = a then f j else 0) (fun j hj => by have := (hbd j (by omega)).1; split <;> omega) i i1
      simp only [i3, if_true] at h5
      have hq := hG.hq i i1
      have h6 : mated (mts f Q m) a = true := by
        simp only [decide_eq_true_eq, i4]
        omega
      rw [h6]
      simp
      omega
  have hcov : ∀ i, i < m → g (Q i).1.toNat = true → g (l + (Q i).2.toNat) = true := by
    intro i hi hga
    cases hgb : g (l + (Q i).2.toNat) with
    | true => rfl
    | false =>
      exfalso
      have hq := hG.hq i hi
      have hsh := h.rch.shut
      have e1 : frM l r m Q i = (Q i).1.toNat := by unfold frM; rw [if_pos hi]
      have e2 : ttM l r m Q i = l + (Q i).2.toNat := by unfold ttM; rw [if_pos hi]
      have hfi : 1 ≤ f i := by
        rcases Int.lt_or_le (f i) 1 with h1 | h1
        · have := (hsh i (by omega)).1 (by rw [e1]; exact hga) h1
          rw [e2, hgb] at this; cases this
        · exact h1
      have ha : (Q i).1.toNat < l := by omega
      have h1 := hL _ ha
      have h2 := hbd (m + (Q i).1.toNat) (by omega)
      have honly : ∀ j, j < m → (Q j).1.toNat = (Q i).1.toNat → 0 < f j → j = i := fun j hj e hf => by
        by_cases hne : i = j
        · exact hne.symm
        · have h5 := sm_two_ne m (fun k => if (Q k).1.toNat = (Q i).1.toNat then f k else 0) (fun k hk => by have := (hbd k (by omega)).1; split <;> omega) i j hne hi hj
          simp only [e, if_true] at h5
          omega
      have hfa : 1 ≤ f (m + (Q i).1.toNat) := by
        have h5 := sm_nonneg_at m (fun k => if (Q k).1.toNat = (Q i).1.toNat then f k else 0) (fun j hj => by have := (hbd j (by omega)).1; split <;> omega) i hi
        simp only [if_true] at h5
        omega
      have := h.rch.least (fun u => g u = true ∧ u ≠ (Q i).1.toNat) ⟨h.rch.start, by omega⟩ (fun j hj => ⟨fun hx hlt => ⟨(hsh j hj).1 hx.1 hlt, fun et => ?_⟩, fun hx hpos => ⟨(hsh j hj).2 hx.1 hpos, fun ef => ?_⟩⟩) (Q i).1.toNat hga
      · exact this.2 rfl
      · have hlt : f j < 1 := hlt
        unfold ttM at et
        split at et
        · omega
        · split at et
          · have : j = m + (Q i).1.toNat := by omega
            subst this
            omega
          · omega
      · unfold frM at ef
        split at ef
        · rename_i hjm
          have := honly j hjm ef hpos
          subst this
          have := hx.1
          rw [e2, hgb] at this
          cases this
        · split at ef <;> omega
  refine ⟨hMO, hMC, ⟨rfl, rfl, fun i hi => ?_⟩, ?_⟩
  · cases e : g (Q i).1.toNat with
    | false => exact .inl rfl
    | true => exact .inr (hcov i hi e)
  · have e1 := (h.fl.shut hA h.rch.start h.out).2 h.rch.shut
    rw [e1, cnt_sm, cnt_sm]
    unfold cpc
    rw [sm_split (m + l) r, sm_split m l]
    have e2 : sm m (fun i => if (g (frM l r m Q i) && !g (ttM l r m Q i)) = true then rmM i else 0) = 0 := sm_zero _ _ fun i hi => by
      unfold frM ttM
      rw [if_pos hi, if_pos hi]
      cases e : g (Q i).1.toNat with
      | false => simp
      | true => rw [hcov i hi e]; simp
    have e3 : sm l (fun i => if (g (frM l r m Q (m + i)) && !g (ttM l r m Q (m + i))) = true then rmM (m + i) else 0) = sm l (fun i => if (!g i) = true then 1 else 0) := sm_congr _ _ _ fun i hi => by
      unfold frM ttM
      rw [if_neg (show ¬ m + i < m by omega), if_pos (show m + i < m + l by omega), if_neg (show ¬ m + i < m by omega), if_pos (show m + i < m + l by omega), h.rch.start, show m + i - m = i by omega]
      simp [rmM]
    have e4 : sm r (fun i => if (g (frM l r m Q (m + l + i)) && !g (ttM l r m Q (m + l + i))) = true then rmM (m + l + i) else 0) = sm r (fun i => if g (l + i) = true then 1 else 0) := sm_congr _ _ _ fun i hi => by
      unfold frM ttM
      rw [if_neg (show ¬ m + l + i < m by omega), if_neg (show ¬ m + l + i < m + l by omega), if_neg (show ¬ m + l + i < m by omega), if_neg (show ¬ m + l + i < m + l by omega), h.out, show m + l + i - m - l = i by omega]
      simp [rmM]
    rw [e2, e3, e4]
    omega
end
end Go.KL
end

section
/- The walk of FlowPairs. -/
namespace Go.KL
open Go.Proofs
open Classical in
theorem rpairs_is {l r : Int} {m : Nat} {Q : Nat → Pr} {b : Bool} (h : decide (PairsOK l r m Q) = b) (W : World) (Ls : List Chunk) (vq : Value) (hQ : SlP (K W Ls) vq m Q) (hb : m ≤ 1000000000) :
    Spec Try.prog 32 #[.int .i64 l, .int .i64 r, vq] (K W Ls) (fun _ : Unit => .bool b) (fun _ => K W Ls) := by
  have := rpairs_spec W Ls l r m vq Q hQ hb
  rwa [h] at this
open Classical in
theorem rmatching_yes {l r m mt : Nat} {Q : Nat → Pr} {to : Nat → Int} {v : Int} (h : MatchOK l m Q mt to) (hv : (cnt l (mated to) : Int) = v) (W : World) (Ls : List Chunk) (vq vt : Value) (hQ : SlP (K W Ls) vq m Q) (hT : SlI (K W Ls) vt mt to) (hok : PairsOK l r m Q) (hbb : mt ≤ 9223372036854775807) :
    Spec Try.prog 33 #[.int .i64 l, .int .i64 r, vq, vt] (K W Ls) (fun _ : Unit => .tuple #[.int .i64 v, .bool true]) (fun _ => K W Ls) := by
  have := rmatching_spec W Ls l r m mt vq vt Q to hQ hT hok hbb
  rwa [if_pos h, decide_eq_true h, hv] at this
open Classical in
theorem rcover_yes {l r m ma mb : Nat} {Q : Nat → Pr} {a b : Nat → Bool} {v : Int} (h : CoverOK l r m Q ma mb a b) (hv : (cnt l a : Int) + (cnt r b : Int) = v) (W : World) (Ls : List Chunk) (vq va vb : Value) (hQ : SlP (K W Ls) vq m Q) (hA : SlB (K W Ls) va ma a) (hB : SlB (K W Ls) vb mb b) (hok : PairsOK l r m Q) (hbb : ma ≤ 9223372036854775807 ∧ mb ≤ 9223372036854775807) :
    Spec Try.prog 34 #[.int .i64 l, .int .i64 r, vq, va, vb] (K W Ls) (fun _ : Unit => .tuple #[.int .i64 v, .bool true]) (fun _ => K W Ls) := by
  have := rcover_spec W Ls l r m ma mb vq va vb Q a b hQ hA hB hok hbb
  rwa [if_pos h, decide_eq_true h, hv] at this
attribute [local irreducible] SC St Fin Sq Sw Ylds Doos Sets Enters Spec CellIs CellsAre Then Ret Rnd Chn resOK ints bools recs arr
open Classical in
set_option maxHeartbeats 8000000 in
theorem flowPairs_walk (W : World) (l r : Int) (vq : Value) (m : Nat) (Q : Nat → Pr) (hQ : SlP (K W []) vq m Q) :
    Spec Try.prog 10 #[.int .i64 l, .int .i64 r, vq] (K W []) (fun _ : Unit => .bool true) (fun _ => K W []) := by
  obtain ⟨pq, cq, rfl, hcq, hcQ⟩ := hQ.open
  refine enter (args := [_, _, _]) Try.func10 rfl Try.ntmps10 rfl ?_
  refine c_seq ?_
  refine c_region ?_
  refine s_y (y_assign rfl) rfl rfl rfl ?_
  refine s_nil ?_
  refine f_then ?_
  refine c_seq ?_
  refine c_chain 22 (decide (¬ (m ≤ 200 ∨ m = 1025))) ?_ ?_
  · refine c_region ?_
    refine s_y (y_move rfl) rfl rfl rfl ?_
    refine s_y (y_len Try.tab rfl rfl) rfl rfl rfl ?_
    refine s_y (y_gtr rfl rfl) rfl rfl rfl ?_
    refine s_y (y_move rfl) rfl rfl rfl ?_
    refine s_case 18 rfl (fun c0 => ?_) (fun c0 => ?_)
    · refine s_y (y_move rfl) rfl rfl rfl ?_
      refine s_y (y_len Try.tab rfl rfl) rfl rfl rfl ?_
      refine s_y (y_neq rfl rfl) rfl rfl rfl ?_
      refine s_y (y_pickT rfl rfl) rfl rfl rfl ?_
      refine s_nil ?_
      exact f_chain rfl (decide_eq_decide.2 (by omega)) ⟨rfl, rfl, rfl, rfl, trivial⟩
    · refine s_skip rfl rfl rfl ?_
      iterate 2 refine s_skip rfl rfl rfl ?_
      refine s_y (y_pickF rfl rfl) rfl rfl rfl ?_
      refine s_nil ?_
      exact f_chain rfl ((decide_eq_false (by omega)).symm) ⟨rfl, rfl, rfl, rfl, trivial⟩
  refine c_condD rfl (fun _ => ?_) (fun hfew => ?_)
  · refine c_seq ?_
    refine c_region ?_
    refine s_call (en_f rfl Try.call16) (awake_spec W _) rfl rfl rfl (fun _ => ?_)
    refine s_y (y_assign rfl) rfl rfl rfl ?_
    refine s_nil ?_
    refine f_then ?_
    refine c_ret ?_
    refine f_thenR ?_
    exact f_ret () (res1 rfl rfl) (fun w h => h.any)
  have hfew := Decidable.of_not_not hfew
  refine c_skip ?_
  refine f_then ?_
  refine c_seq ?_
  refine c_region ?_
  refine s_y (y_move rfl) rfl rfl rfl ?_
  refine s_y (y_move rfl) rfl rfl rfl ?_
  refine s_do (do_buildSliceS Try.tab ⟨rfl, rfl, rfl, rfl⟩ rfl rfl rfl rfl) rfl rfl rfl (fun b27 => ?_)
  refine s_y (y_move rfl) rfl rfl rfl ?_
  refine s_do (do_appendE (b := b27) (k := m) (by_ := 16) Try.tab 0 rfl rfl (hQ.any _) ⟨rfl, rfl, rfl, rfl⟩ rfl rfl (fun i j => by unfold pg; split <;> rfl) (by unfold maxLen; omega) (by omega)) rfl rfl rfl (fun o2 => ?_)
  obtain ⟨o2, ho2, hpre2⟩ := o2
  dsimp only
  have hQ2 : SlP (K W [och 69 o2 (vw 2 m (pg Q))]) (osl o2 m) m Q := SlV.vw 0 rfl ho2
  by_cases hG : PairsOK l r m Q
  rotate_left
  · refine s_call (en_f rfl Try.call31) (pair_bad_spec W _ l r m (osl o2 m) Q hQ2 hG (by omega)) rfl rfl rfl (fun _ => ?_)
    refine s_y (y_move rfl) rfl rfl rfl ?_
    refine s_y (y_extract rfl rfl) rfl rfl rfl ?_
    refine s_y (y_extract rfl rfl) rfl rfl rfl ?_
    refine s_y (y_extract rfl rfl) rfl rfl rfl ?_
    refine s_y (y_extract rfl rfl) rfl rfl rfl ?_
    refine s_y (y_assign rfl) rfl rfl rfl ?_
    refine s_y (y_assign rfl) rfl rfl rfl ?_
    refine s_y (y_assign rfl) rfl rfl rfl ?_
    refine s_y (y_assign rfl) rfl rfl rfl ?_
    refine s_nil ?_
    refine f_then ?_
    refine c_seq ?_
    refine c_seq ?_
    refine c_region ?_
    refine s_y (y_move rfl) rfl rfl rfl ?_
    refine s_y (y_move rfl) rfl rfl rfl ?_
    refine s_y (y_move rfl) rfl rfl rfl ?_
    refine s_call (en_f rfl Try.call32) (rpairs_is (decide_eq_false hG) W _ (.slice pq m cq) (hQ.any _) (by omega)) rfl rfl rfl (fun _ => ?_)
    refine s_y (y_notF rfl) rfl rfl rfl ?_
    refine s_nil ?_
    refine f_then ?_
    refine c_condT rfl ?_
    refine c_seq ?_
    refine c_region ?_
    refine s_y (y_move rfl) rfl rfl rfl ?_
    refine s_y (y_T (y_eql rfl rfl) (by omega)) rfl rfl rfl ?_
    refine s_y (y_move rfl) rfl rfl rfl ?_
    refine s_y (y_move rfl) rfl rfl rfl ?_
    refine s_y (y_len Try.tab rfl rfl) rfl rfl rfl ?_
    refine s_y (y_T (y_eql rfl rfl) (by omega)) rfl rfl rfl ?_
    refine s_y (y_pickT rfl rfl) rfl rfl rfl ?_
    refine s_y (y_move rfl) rfl rfl rfl ?_
    refine s_y (y_move rfl) rfl rfl rfl ?_
    refine s_y (y_len Try.tab rfl rfl) rfl rfl rfl ?_
    refine s_y (y_T (y_eql rfl rfl) (by omega)) rfl rfl rfl ?_
    refine s_y (y_pickT rfl rfl) rfl rfl rfl ?_
    refine s_y (y_move rfl) rfl rfl rfl ?_
    refine s_y (y_move rfl) rfl rfl rfl ?_
    refine s_y (y_len Try.tab rfl rfl) rfl rfl rfl ?_
    refine s_y (y_T (y_eql rfl rfl) (by omega)) rfl rfl rfl ?_
    refine s_y (y_pickT rfl rfl) rfl rfl rfl ?_
    refine s_y (y_move rfl) rfl rfl rfl ?_
    refine s_call (en_f rfl Try.call16) (awake_spec W _) rfl rfl rfl (fun _ => ?_)
    refine s_y (y_pickT rfl rfl) rfl rfl rfl ?_
    refine s_y (y_assign rfl) rfl rfl rfl ?_
    refine s_nil ?_
    refine f_then ?_
    refine c_ret ?_
    refine f_thenR ?_
    exact f_ret () (res1 rfl rfl) (fun w h => h.any)
  have h_l := hG.hl; have h_r := hG.hr
  obtain ⟨l, rfl⟩ : ∃ l' : Nat, l = l' := ⟨l.toNat, by omega⟩
  obtain ⟨r, rfl⟩ : ∃ r' : Nat, r = r' := ⟨r.toNat, by omega⟩
  refine s_call (en_f rfl Try.call31) (pair_spec W _ l r m (osl o2 m) Q hQ2 hG) rfl rfl rfl (fun x => ?_)
  obtain ⟨⟨v, f, g, bt, ba, bb⟩, hO⟩ := x
  dsimp only at hO ⊢
  obtain ⟨hM, hv1, hC, hv2⟩ := hO.good hG
  refine s_y (y_move rfl) rfl rfl rfl ?_
  refine s_y (y_extract rfl rfl) rfl rfl rfl ?_
  refine s_y (y_extract rfl rfl) rfl rfl rfl ?_
  refine s_y (y_extract rfl rfl) rfl rfl rfl ?_
  refine s_y (y_extract rfl rfl) rfl rfl rfl ?_
  refine s_y (y_assign rfl) rfl rfl rfl ?_
  refine s_y (y_assign rfl) rfl rfl rfl ?_
  refine s_y (y_assign rfl) rfl rfl rfl ?_
  refine s_y (y_assign rfl) rfl rfl rfl ?_
  refine s_nil ?_
  refine f_then ?_
  refine c_seq ?_
  refine c_seq ?_
  refine c_region ?_
  refine s_y (y_move rfl) rfl rfl rfl ?_
  refine s_y (y_move rfl) rfl rfl rfl ?_
  refine s_y (y_move rfl) rfl rfl rfl ?_
  refine s_call (en_f rfl Try.call32) (rpairs_is (decide_eq_true hG) W _ (.slice pq m cq) (hQ.any _) (by omega)) rfl rfl rfl (fun _ => ?_)
  refine s_y (y_notT rfl) rfl rfl rfl ?_
  refine s_nil ?_
  refine f_then ?_
  refine c_condF rfl ?_
  refine c_skip ?_
  refine f_then ?_
  refine c_seq ?_
  refine c_region ?_
  refine s_y (y_move rfl) rfl rfl rfl ?_
  refine s_y (y_move rfl) rfl rfl rfl ?_
  refine s_y (y_move rfl) rfl rfl rfl ?_
  refine s_y (y_move rfl) rfl rfl rfl ?_
  refine s_call (en_f rfl Try.call33) (rmatching_yes (l := l) (r := r) hM hv1 W _ (.slice pq m cq) (.slice (some ⟨bt, 0, none⟩) l l) (hQ.any _) (SlI.own 0 rfl) hG (by omega)) rfl rfl rfl (fun _ => ?_)
  refine s_y (y_move rfl) rfl rfl rfl ?_
  refine s_y (y_extract rfl rfl) rfl rfl rfl ?_
  refine s_y (y_extract rfl rfl) rfl rfl rfl ?_
  refine s_y (y_assign rfl) rfl rfl rfl ?_
  refine s_y (y_assign rfl) rfl rfl rfl ?_
  refine s_nil ?_
  refine f_then ?_
  refine c_seq ?_
  refine c_region ?_
  refine s_y (y_move rfl) rfl rfl rfl ?_
  refine s_y (y_move rfl) rfl rfl rfl ?_
  refine s_y (y_move rfl) rfl rfl rfl ?_
  refine s_y (y_move rfl) rfl rfl rfl ?_
  refine s_y (y_move rfl) rfl rfl rfl ?_
  refine s_call (en_f rfl Try.call34) (rcover_yes (l := l) (r := r) hC hv2 W _ (.slice pq m cq) (.slice (some ⟨ba, 0, none⟩) l l) (.slice (some ⟨bb, 0, none⟩) r r) (hQ.any _) (SlB.own 1 rfl) (SlB.own 2 rfl) hG (by omega)) rfl rfl rfl (fun _ => ?_)
  refine s_y (y_move rfl) rfl rfl rfl ?_
  refine s_y (y_extract rfl rfl) rfl rfl rfl ?_
  refine s_y (y_extract rfl rfl) rfl rfl rfl ?_
  refine s_y (y_assign rfl) rfl rfl rfl ?_
  refine s_y (y_assign rfl) rfl rfl rfl ?_
  refine s_nil ?_
  refine f_then ?_
  refine c_seq ?_
  refine c_region ?_
  refine s_y (y_move rfl) rfl rfl rfl ?_
  refine s_y (y_T (y_eql rfl rfl) (by omega)) rfl rfl rfl ?_
  refine s_y (y_move rfl) rfl rfl rfl ?_
  refine s_y (y_move rfl) rfl rfl rfl ?_
  refine s_y (y_pickT rfl rfl) rfl rfl rfl ?_
  refine s_y (y_move rfl) rfl rfl rfl ?_
  refine s_y (y_move rfl) rfl rfl rfl ?_
  refine s_y (y_pickT rfl rfl) rfl rfl rfl ?_
  refine s_y (y_move rfl) rfl rfl rfl ?_
  refine s_y (y_move rfl) rfl rfl rfl ?_
  refine s_y (y_move rfl) rfl rfl rfl ?_
  refine s_y (y_T (y_eql rfl rfl) (by omega)) rfl rfl rfl ?_
  refine s_y (y_pickT rfl rfl) rfl rfl rfl ?_
  refine s_y (y_move rfl) rfl rfl rfl ?_
  refine s_call (en_f rfl Try.call16) (awake_spec W _) rfl rfl rfl (fun _ => ?_)
  refine s_y (y_pickT rfl rfl) rfl rfl rfl ?_
  refine s_y (y_assign rfl) rfl rfl rfl ?_
  refine s_nil ?_
  refine f_then ?_
  refine c_ret ?_
  exact f_ret () (res1 rfl rfl) (fun w h => h.any)
end Go.KL
end

section
/- FlowPairs: for every input the law returns true, and its arguments read as they did. No condition. -/
namespace Go.Proofs.Ytbeckcilglhkbaa
open Go.ChangeShapes Go.WideShapes Go.RowKit Go.KL
set_option linter.unusedVariables false
theorem own : ownKnob Try.prog.godebug = none := by kernel_rfl
set_option maxRecDepth 100000 in
theorem flowPairs_lifted (os : Os) (started : os.Started) (H : Type) (enc : TypeId × Value → H) :
    ReturnsInHanded {} Try.checked os 10 .any (Rows.flowPairsSpec.pre6 enc Try.prog Try.f10 Rows.flowPairsRow.domain false) (Rows.flowPairsSpec.post enc Try.prog Try.f10 false true false false) := by
  refine returnsInHanded_of_change (C := Try.checked) own started (by kernel_rfl) Try.func10
    (ChangeSpec.witness6 (enc := enc) (C := Try.checked) false ⟨#[], #[.int .i64 0, .int .i64 0, .slice none 0 0], []⟩ 8 (by kernel_rfl) (by kernel_rfl) (by kernel_rfl) (by kernel_rfl)) ?_
  intro W base args ds gs before hval hW hcnd _
  obtain ⟨p, q, hA, hV, rfl, hfz, hnd⟩ := id hW
  obtain ⟨rfl, rfl⟩ := trodVars_none hV
  obtain ⟨v0, vs0, d0, ds0, p0, q0, e0, rfl, rfl, h0, r0⟩ := trodAll_cons hA
  obtain ⟨v1, vs1, d1, ds1, p1, q1, rfl, rfl, rfl, h1, r1⟩ := trodAll_cons r0
  obtain ⟨v2, vs2, d2, ds2, p2, q2, rfl, rfl, rfl, h2, r2⟩ := trodAll_cons r1
  obtain ⟨rfl, rfl, rfl⟩ := trodAll_nil r2
  obtain rfl : args = #[v0, v1, v2] := by cases args; simp_all
  obtain ⟨k0, rfl, hk0⟩ := arg3 (hval 0 3 _ rfl rfl) h0
  obtain ⟨k1, rfl, hk1⟩ := arg3 (hval 1 3 _ rfl rfl) h1
  obtain ⟨m2, Q2, hQ2, hm2, hq2⟩ := arg39 (hval 2 39 _ rfl rfl) h2
  refine ((flowPairs_walk W k0 k1 _ m2 Q2 hQ2) W (K.refl W)).mono ?_
  rintro e W' ⟨x, rfl, hk⟩
  exact ⟨_, rfl, law_post (t := 4) laidOut (by decide +kernel) rfl rfl u4 hW rfl hk.toExt⟩
/-- The statement. -/
theorem flowPairs_holds : Rows.FlowPairsSaid :=
  OpenClaim.holds_of_wide 10 Try.f10 rfl rfl rfl rfl rfl rfl rfl ⟨rfl, rfl, rfl, rfl, rfl⟩ rfl rfl rfl rfl rfl (by kernel_rfl) Try.func10 (by kernel_rfl)
    (of_decide_eq_true (by kernel_rfl)) (by unfold Func.isWrapper; first | (rw [if_pos (by decide +kernel)]; kernel_rfl) | (rw [if_neg (by decide +kernel)]; exact ⟨rfl, rfl⟩))
    (fun os started H enc _ => flowPairs_lifted os started H enc)
end Go.Proofs.Ytbeckcilglhkbaa
end
