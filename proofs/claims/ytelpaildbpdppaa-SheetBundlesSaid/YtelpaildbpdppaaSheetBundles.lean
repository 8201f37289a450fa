/- SheetBundles: for every input the law returns true, and its arguments read as they did. No condition. -/
import Derived.Test.YtelpaildbpdppaaRows
import Derived.JoinedOf
import Derived.Handed
import Derived.Test.YtelpaildbpdppaaL4
section
/- Plain laws: bundles. -/
namespace Go.KL
open Go.Proofs
/-- The place of a bundle: its ream, stack and number there. -/
structure Bun (l : Lay) (s p n q f d c st k : Int) : Prop where
  q0 : 0 ≤ q
  fq : f = q * l.m
  dd : d = rD l s f
  d1 : 1 ≤ d
  dm : d ≤ l.m
  ds : f + d ≤ s
  cc : c = (d + l.b - 1) / l.b
  n : n = q * perR l p + (st * c + k)
  st : 0 ≤ st ∧ st < p
  k : 0 ≤ k ∧ k < c
theorem mulc (a b _c : Int) : (a + 1) * b = a * b + b := by rw [Int.add_mul, Int.one_mul]
theorem bun_mk {l : Lay} {s p q st k : Int} (hq : 0 ≤ q) (hs : q * l.m < s) (hm : 1 ≤ l.m) (hst : 0 ≤ st ∧ st < p) (hk : 0 ≤ k ∧ k < (rD l s (q * l.m) + l.b - 1) / l.b) :
    Bun l s p (q * perR l p + (st * ((rD l s (q * l.m) + l.b - 1) / l.b) + k)) q (q * l.m) (rD l s (q * l.m)) ((rD l s (q * l.m) + l.b - 1) / l.b) st k := by
  have hd : rD l s (q * l.m) = min l.m (s - q * l.m) := rfl
  exact ⟨hq, rfl, rfl, by omega, by omega, by omega, rfl, rfl, hst, hk⟩
section
variable {l : Lay} {s p n q f d c st k : Int}
/-- A stack's bundles fill it. -/
theorem Bun.cb (h : Bun l s p n q f d c st k) (hb : 1 ≤ l.b) : d ≤ c * l.b ∧ (c - 1) * l.b < d ∧ k * l.b < d ∧ 0 ≤ k * l.b := by
  have h1 := div_mod_eq (d + l.b - 1) l.b
  have h2 := mod_bd (a := d + l.b - 1) hb
  rw [← h.cc] at h1
  have h3 : (c - 1) * l.b = c * l.b - l.b := by rw [Int.sub_mul, Int.one_mul]
  have h4 : k * l.b ≤ (c - 1) * l.b := Int.mul_le_mul_of_nonneg_right (by have := h.k; omega) (by omega)
  have h5 := Int.mul_nonneg h.k.1 (show 0 ≤ l.b by omega)
  omega
/-- Within the ream. -/
theorem Bun.tc (h : Bun l s p n q f d c st k) (hl : l.OK) : 0 ≤ st * c + k ∧ st * c + k < p * c ∧ p * c ≤ perR l p := by
  have h1 := h.st; have h2 := h.k
  have h3 := Int.mul_nonneg h1.1 (show 0 ≤ c by omega)
  have h4 : (st + 1) * c ≤ p * c := Int.mul_le_mul_of_nonneg_right (by omega) (by omega)
  rw [mulc st c 0] at h4
  have h5 : c ≤ (l.m + l.b - 1) / l.b := by rw [h.cc]; exact Int.ediv_le_ediv (by have := hl.b; omega) (by have := h.dm; omega)
  have h6 : p * c ≤ p * ((l.m + l.b - 1) / l.b) := Int.mul_le_mul_of_nonneg_left h5 (by omega)
  unfold perR
  omega
theorem Bun.at (h : Bun l s p n q f d c st k) (hl : l.OK) : n / perR l p = q ∧ n % perR l p = st * c + k ∧ (st * c + k) / c = st ∧ (st * c + k) % c = k := by
  have h1 := h.tc hl
  exact ⟨div_of h.n h1.1 (by omega), mod_of h.n h1.1 (by omega), div_of rfl h.k.1 h.k.2, mod_of rfl h.k.1 h.k.2⟩
theorem Bun.lo (h : Bun l s p n q f d c st k) (hl : l.OK) : bunLo l s p n = f * p + st * d + k * l.b := by
  obtain ⟨h1, h2, h3, h4⟩ := h.at hl
  unfold bunLo bunD
  rw [h1, h2, ← h.fq, ← h.dd, ← h.cc, h3, h4]
theorem Bun.hi (h : Bun l s p n q f d c st k) (hl : l.OK) : bunHi l s p n = min (f * p + st * d + k * l.b + l.b) (f * p + (st + 1) * d) := by
  obtain ⟨h1, h2, h3, h4⟩ := h.at hl
  unfold bunHi
  rw [h.lo hl]
  unfold bunD
  rw [h1, h2, ← h.fq, ← h.dd, ← h.cc, h3]
theorem Bun.bd (h : Bun l s p n q f d c st k) (hl : l.OK) : bunLo l s p n < bunHi l s p n ∧ bunHi l s p n - bunLo l s p n ≤ l.b ∧ 0 ≤ bunLo l s p n ∧ bunHi l s p n ≤ s * p := by
  have h1 := h.cb hl.b.1
  have hb := hl.b
  have h2 : (st + 1) * d ≤ p * d := Int.mul_le_mul_of_nonneg_right (by have := h.st; omega) (by have := h.d1; omega)
  have h3 : (f + d) * p ≤ s * p := Int.mul_le_mul_of_nonneg_right h.ds (by have := h.st; omega)
  rw [Int.add_mul] at h3
  have h4 : p * d = d * p := Int.mul_comm _ _
  have h5 := Int.mul_nonneg h.st.1 (show 0 ≤ d by have := h.d1; omega)
  have h6 := Int.mul_nonneg (Int.mul_nonneg h.q0 (show 0 ≤ l.m by have := hl.m; omega)) (show 0 ≤ p by have := h.st; omega)
  rw [← h.fq] at h6
  rw [h.lo hl, h.hi hl]
  rw [mulc st d 0] at h2 ⊢
  omega
/-- It is one of the run's. -/
theorem Bun.lt (h : Bun l s p n q f d c st k) (hl : l.OK) (hs : SOK s) : 0 ≤ n ∧ n < bunsF l s p := by
  have h1 := h.tc hl
  have hm := hl.m
  have h2 := rF_bd l s hm.1 hs.1
  unfold rF at h2
  have h3 := div_mod_eq s l.m
  have h4 := mod_bd (a := s) hm.1
  have hn := h.n
  have hds := h.ds; have hd1 := h.d1; have hdm := h.dm
  have hq : q ≤ s / l.m := by
    have : q * l.m < (s / l.m + 1) * l.m := by rw [mulc _ _ 0, ← h.fq]; omega
    have := Int.lt_of_mul_lt_mul_right this (by omega)
    omega
  have hR : 0 ≤ perR l p := by omega
  have h6 := Int.mul_nonneg h.q0 hR
  refine ⟨by omega, ?_⟩
  unfold bunsF
  by_cases e : q = s / l.m
  · have e2 : s / l.m * l.m = f := by rw [← e, h.fq]
    have e3 : 0 < s % l.m := by omega
    rw [if_pos e3, e2, ← h.dd, ← h.cc, ← e]
    omega
  · have h5 : (q + 1) * perR l p ≤ s / l.m * perR l p := Int.mul_le_mul_of_nonneg_right (by omega) hR
    rw [mulc _ _ 0] at h5
    have h7 : 0 ≤ if 0 < s % l.m then p * ((rD l s (s / l.m * l.m) + l.b - 1) / l.b) else 0 := by
      split
      · refine Int.mul_nonneg (by have := h.st; omega) (perS_bd (d := rD l s (s / l.m * l.m)) ?_ hl.b.1).1
        unfold rD; omega
      · omega
    omega
end
/-- Each number of a bundle has its place. -/
theorem bun_at {l : Lay} {s p n : Int} (hl : l.OK) (hs : SOK s) (hp : 1 ≤ p ∧ p ≤ 256) (hn : 0 ≤ n ∧ n < bunsF l s p) : ∃ q f d c st k, Bun l s p n q f d c st k := by
  have hm := hl.m
  have hR := perR_bd l p hl hp
  have h1 := bun_ream l s p n hl hs hp hn
  have h2 := div_bd (a := n) (b := perR l p) hn.1 hR.1
  have h3 := div_mod_eq n (perR l p)
  have h4 := mod_bd (a := n) hR.1
  have hd : rD l s (n / perR l p * l.m) = min l.m (s - n / perR l p * l.m) := rfl
  have hc := perS_pos (d := rD l s (n / perR l p * l.m)) (b := l.b) (by omega) hl.b.1
  have h5 := div_mod_eq (n % perR l p) ((rD l s (n / perR l p * l.m) + l.b - 1) / l.b)
  have h6 := mod_bd (a := n % perR l p) hc
  have h7 := div_bd (a := n % perR l p) (b := (rD l s (n / perR l p * l.m) + l.b - 1) / l.b) h4.1 hc
  have hlt : n % perR l p < p * ((rD l s (n / perR l p * l.m) + l.b - 1) / l.b) := by
    by_cases e : rD l s (n / perR l p * l.m) = l.m
    · rw [e]
      have : perR l p = p * ((l.m + l.b - 1) / l.b) := rfl
      omega
    · have e1 : s - n / perR l p * l.m < l.m := by omega
      have e2 : s / l.m = n / perR l p := div_of (r := s - n / perR l p * l.m) (by omega) (by omega) e1
      have e3 : s % l.m = s - n / perR l p * l.m := mod_of (q := n / perR l p) (by omega) (by omega) e1
      have h8 := hn.2
      unfold bunsF at h8
      rw [e2, e3, if_pos (by omega)] at h8
      omega
  have h9 : n % perR l p / ((rD l s (n / perR l p * l.m) + l.b - 1) / l.b) < p := Int.ediv_lt_of_lt_mul (by omega) hlt
  have hb := bun_mk (l := l) (s := s) (p := p) h2.1 h1 hm.1 ⟨h7.1, h9⟩ ⟨h6.1, show _ < _ by omega⟩
  have e : n = n / perR l p * perR l p + (n % perR l p / ((rD l s (n / perR l p * l.m) + l.b - 1) / l.b) * ((rD l s (n / perR l p * l.m) + l.b - 1) / l.b) + n % perR l p % ((rD l s (n / perR l p * l.m) + l.b - 1) / l.b)) := by omega
  rw [← e] at hb
  exact ⟨_, _, _, _, _, _, hb⟩
section
variable {l : Lay} {s p : Int}
theorem bun_zero (_hl : l.OK) : bunLo l s p 0 = 0 := by
  unfold bunLo
  simp
theorem bun_last (hl : l.OK) (hs : SOK s) (hp : 1 ≤ p ∧ p ≤ 256) {n : Int} (hn : 0 ≤ n ∧ n < bunsF l s p) (he : n = bunsF l s p - 1) : bunHi l s p n = s * p := by
  obtain ⟨q, f, d, c, st, k, h⟩ := bun_at hl hs hp hn
  have h1 := h.tc hl
  have h2 := h.cb hl.b.1
  have hm := hl.m
  have hst := h.st; have hk := h.k; have hd1 := h.d1; have hds := h.ds; have hdm := h.dm
  -- the next number is no bundle of the run
  have e1 : k = c - 1 := by
    by_cases e : k + 1 < c
    · have hb := bun_mk (l := l) (s := s) (p := p) h.q0 (show q * l.m < s by rw [← h.fq]; omega) hm.1 hst (k := k + 1) ⟨by omega, by rw [← h.fq, ← h.dd, ← h.cc]; exact e⟩
      have := (hb.lt hl hs).2
      rw [← h.fq, ← h.dd, ← h.cc] at this
      have := h.n
      omega
    · omega
  have e2 : st = p - 1 := by
    by_cases e : st + 1 < p
    · have hb := bun_mk (l := l) (s := s) (p := p) h.q0 (show q * l.m < s by rw [← h.fq]; omega) hm.1 (st := st + 1) ⟨by omega, e⟩ (k := 0) ⟨by omega, by rw [← h.fq, ← h.dd, ← h.cc]; omega⟩
      have h3 := (hb.lt hl hs).2
      rw [← h.fq, ← h.dd, ← h.cc, mulc st c 0] at h3
      have := h.n
      omega
    · omega
  have e3 : f + d = s := by
    by_cases e : f + d = s
    · exact e
    · have hd : d = min l.m (s - f) := h.dd
      have e4 : d = l.m := by omega
      have e5 : (q + 1) * l.m = f + d := by rw [mulc _ _ 0, ← h.fq, e4]
      have hd2 : rD l s ((q + 1) * l.m) = min l.m (s - (q + 1) * l.m) := rfl
      have hq0 := h.q0
      have hc2 := perS_pos (d := rD l s ((q + 1) * l.m)) (b := l.b) (by omega) hl.b.1
      have hb := bun_mk (l := l) (s := s) (p := p) (show 0 ≤ q + 1 by omega) (by omega) hm.1 (st := 0) ⟨by omega, by omega⟩ (k := 0) ⟨by omega, by omega⟩
      have h3 := (hb.lt hl hs).2
      rw [mulc q (perR l p) 0, Int.zero_mul] at h3
      have h4 : p * c = perR l p := by unfold perR; rw [h.cc, e4]
      have h5 : (st + 1) * c = p * c := by rw [e2]; congr 1; omega
      rw [mulc st c 0] at h5
      have := h.n
      omega
  rw [h.hi hl]
  have h6 : (st + 1) * d = p * d := by rw [e2]; congr 1; omega
  have h7 : (f + d) * p = f * p + p * d := by rw [Int.add_mul, Int.mul_comm d p]
  have h8 : st * d + d = (st + 1) * d := (mulc st d 0).symm
  have h9 : k * l.b + l.b = c * l.b := by rw [← mulc k l.b 0]; congr 1; omega
  rw [← e3, h7, h6]
  omega
theorem bun_next (hl : l.OK) (hs : SOK s) (hp : 1 ≤ p ∧ p ≤ 256) {n : Int} (hn : 0 ≤ n ∧ n + 1 < bunsF l s p) : bunLo l s p (n + 1) = bunHi l s p n := by
  obtain ⟨q, f, d, c, st, k, h⟩ := bun_at hl hs hp (show 0 ≤ n ∧ n < bunsF l s p by omega)
  obtain ⟨q', f', d', c', st', k', h'⟩ := bun_at hl hs hp (show 0 ≤ n + 1 ∧ n + 1 < bunsF l s p by omega)
  have h1 := h.tc hl
  have h2 := h.cb hl.b.1
  have hm := hl.m; have hb1 := hl.b
  have hst := h.st; have hk := h.k; have hd1 := h.d1; have hds := h.ds; have hdm := h.dm
  rw [h.hi hl, mulc st d 0]
  have hsm : q * l.m < s := by rw [← h.fq]; omega
  by_cases e : k + 1 < c
  · have hb := bun_mk (l := l) (s := s) (p := p) h.q0 hsm hm.1 hst (k := k + 1) ⟨by omega, by rw [← h.fq, ← h.dd, ← h.cc]; exact e⟩
    have e1 := hb.lo hl
    have e2 := hb.cb hl.b.1
    rw [← h.fq, ← h.dd, ← h.cc, show q * perR l p + (st * c + (k + 1)) = n + 1 by have := h.n; omega, mulc k l.b 0] at e1
    rw [mulc k l.b 0, ← h.fq, ← h.dd] at e2
    rw [e1]
    omega
  · have e0 : k = c - 1 := by omega
    have e9 : k * l.b + l.b = c * l.b := by rw [← mulc k l.b 0]; congr 1; omega
    by_cases e2 : st + 1 < p
    · have hb := bun_mk (l := l) (s := s) (p := p) h.q0 hsm hm.1 (st := st + 1) ⟨by omega, e2⟩ (k := 0) ⟨by omega, by rw [← h.fq, ← h.dd, ← h.cc]; omega⟩
      have e1 := hb.lo hl
      rw [← h.fq, ← h.dd, ← h.cc, show q * perR l p + ((st + 1) * c + 0) = n + 1 by have := h.n; rw [mulc st c 0]; omega, mulc st d 0] at e1
      rw [e1]
      omega
    · have e3 : st = p - 1 := by omega
      -- the ream is a whole one
      have h5 : (st + 1) * c = p * c := by rw [e3]; congr 1; omega
      rw [mulc st c 0] at h5
      have h8 : (st + 1) * d = p * d := by rw [e3]; congr 1; omega
      rw [mulc st d 0] at h8
      have hq : q < q' := by
        rcases Int.lt_or_le q q' with hq | hq
        · exact hq
        · exfalso
          have h6 := h'.tc hl
          have hn1 := h.n; have hn2 := h'.n
          by_cases eq : q' = q
          · subst eq
            have ef : f' = f := by rw [h.fq, h'.fq]
            subst ef
            have ed : d' = d := by rw [h.dd, h'.dd]
            subst ed
            have ec : c' = c := by rw [h.cc, h'.cc]
            subst ec
            omega
          · have h7 : (q' + 1) * perR l p ≤ q * perR l p := Int.mul_le_mul_of_nonneg_right (by omega) (by omega)
            rw [mulc _ _ 0] at h7
            omega
      have hds' := h'.ds; have hd1' := h'.d1
      have h9 : (q + 1) * l.m ≤ q' * l.m := Int.mul_le_mul_of_nonneg_right (by omega) (by omega)
      rw [mulc _ _ 0, ← h.fq, ← h'.fq] at h9
      have hd : d = min l.m (s - f) := h.dd
      have e4 : d = l.m := by omega
      have e5 : (q + 1) * l.m = f + d := by rw [mulc _ _ 0, ← h.fq, e4]
      have hq0 := h.q0
      have hd2 : rD l s ((q + 1) * l.m) = min l.m (s - (q + 1) * l.m) := rfl
      have hc2 := perS_pos (d := rD l s ((q + 1) * l.m)) (b := l.b) (by omega) hl.b.1
      have hb := bun_mk (l := l) (s := s) (p := p) (show 0 ≤ q + 1 by omega) (by omega) hm.1 (st := 0) ⟨by omega, by omega⟩ (k := 0) ⟨by omega, by omega⟩
      have e1 := hb.lo hl
      have h4 : p * c = perR l p := by unfold perR; rw [h.cc, e4]
      rw [show (q + 1) * perR l p + (0 * ((rD l s ((q + 1) * l.m) + l.b - 1) / l.b) + 0) = n + 1 by have := h.n; rw [mulc q (perR l p) 0, Int.zero_mul]; omega, Int.zero_mul, Int.zero_mul, e5] at e1
      have h7 : (f + d) * p = f * p + p * d := by rw [Int.add_mul, Int.mul_comm d p]
      rw [e1, h7]
      omega
/-- A note of a bundle, at its place. -/
theorem Bun.inR {n q f d c st k j : Int} (h : Bun l s p n q f d c st k) (hj : 0 ≤ j ∧ j < d) : InReam l s (f + (if l.d then d - 1 - j else j)) f d j := ⟨⟨q, h.q0, h.fq⟩, h.d1, h.dm, h.ds, hj, rfl, h.dd⟩
/-- The first and the last note of a bundle lie on one stack. -/
theorem bun_stack (hl : l.OK) (hs : SOK s) (hp : 1 ≤ p ∧ p ≤ 256) {n : Int} (hn : 0 ≤ n ∧ n < bunsF l s p) :
    (cellF l s p (bunLo l s p n)).2 = (cellF l s p (bunHi l s p n - 1)).2 ∧ (cellF l s p (bunLo l s p n)).1 / l.m = (cellF l s p (bunHi l s p n - 1)).1 / l.m := by
  obtain ⟨q, f, d, c, st, k, h⟩ := bun_at hl hs hp hn
  have h2 := h.cb hl.b.1
  have hm := hl.m; have hb := hl.b
  have hsh : ∀ j, 0 ≤ j ∧ j < d → (f + (if l.d then d - 1 - j else j)) / l.m = q := fun j hj => div_of (r := if l.d then d - 1 - j else j) (by rw [h.fq]) (by split <;> omega) (by have := h.dm; split <;> omega)
  have e1 : bunLo l s p n = plN p f d st (k * l.b) := h.lo hl
  have e2 : bunHi l s p n - 1 = plN p f d st (min (k * l.b + l.b) d - 1) := by
    rw [h.hi hl, mulc st d 0]
    unfold plN
    omega
  have i1 := h.inR (j := k * l.b) ⟨h2.2.2.2, h2.2.2.1⟩
  have i2 := h.inR (j := min (k * l.b + l.b) d - 1) (by omega)
  rw [e1, e2, cellF_pl i1 h.st, cellF_pl i2 h.st]
  exact ⟨rfl, by rw [hsh _ i1.jd, hsh _ i2.jd]⟩
/-- The bundle of a note. -/
theorem bunOf_at (hl : l.OK) (hs : SOK s) (hp : 1 ≤ p ∧ p ≤ 256) {N : Int} (hN : 0 ≤ N ∧ N < s * p) :
    (0 ≤ bunOfF l s p N ∧ bunOfF l s p N < bunsF l s p) ∧ bunLo l s p (bunOfF l s p N) ≤ N ∧ N < bunHi l s p (bunOfF l s p N) := by
  obtain ⟨sh, f, d, pos, j, hr, hpos, e, ef⟩ := note_pl hl hp hN
  obtain ⟨q, hq0, hfq⟩ := hr.q
  have hm := hl.m; have hb := hl.b
  have hj := hr.jd; have hds := hr.ds; have hd1 := hr.d1
  have h1 := div_mod_eq j l.b
  have h2 := mod_bd (a := j) hb.1
  have h3 := div_bd hj.1 hb.1
  have hk : j / l.b < (d + l.b - 1) / l.b := by
    have h4 : (j / l.b + 1) * l.b ≤ d + l.b - 1 := by rw [mulc _ _ 0]; omega
    have := Int.le_ediv_of_mul_le (show 0 < l.b by omega) h4
    omega
  have hb1 := bun_mk (l := l) (s := s) (p := p) hq0 (by rw [← hfq]; omega) hm.1 hpos (k := j / l.b) ⟨h3.1, by rw [← hfq, ← hr.dd]; exact hk⟩
  have e1 : bunOfF l s p N = q * perR l p + (pos * ((d + l.b - 1) / l.b) + j / l.b) := by
    unfold bunOfF rbun
    rw [ef, ← hr.dd, show f / l.m = q by rw [hfq]; exact Int.mul_ediv_cancel _ (by omega)]
    obtain ⟨_, h5, h6, h7, _⟩ := pl_ream (p := p) hr hpos
    rw [e, h5, h6, h7]
  rw [← hfq, ← hr.dd, ← e1] at hb1
  refine ⟨hb1.lt hl hs, ?_⟩
  rw [hb1.lo hl, hb1.hi hl, mulc pos d 0, e]
  unfold plN
  omega
end
end Go.KL
end

section
/- Walks: the reference's list of cells. -/
namespace Go.KL
open Go.Proofs
/-- The cells of the notes, in order. -/
def tg (l : Lay) (s : Int) (i j : Nat) : Value := match j with
  | 0 => .int .i64 (cellF l s (np l) i).1
  | _ => .int .i64 (cellF l s (np l) i).2
theorem vw2_snoc (g : Nat → Nat → Value) (m : Nat) : vw 2 m g ++ [g m 0, g m 1] = vw 2 (m + 1) g := by
  unfold vw
  have e : (m + 1) * 2 = m * 2 + 1 + 1 := by omega
  rw [e, List.range_succ, List.range_succ]
  simp only [List.map_append, List.map_cons, List.map_nil, List.append_assoc, List.cons_append, List.nil_append]
  have h1 : m * 2 / 2 = m := by omega
  have h2 : m * 2 % 2 = 0 := by omega
  have h3 : (m * 2 + 1) / 2 = m := by omega
  have h4 : (m * 2 + 1) % 2 = 1 := by omega
  rw [h1, h2, h3, h4]
theorem tg_at {l : Lay} {s f d pos k : Int} {m : Nat} (hr : InReam l s (f + (if l.d then d - 1 - k else k)) f d k) (hpos : 0 ≤ pos ∧ pos < np l) (hm : (m : Int) = f * np l + pos * d + k) :
    tg l s m 0 = .int .i64 (f + (if l.d then d - 1 - k else k)) ∧ tg l s m 1 = .int .i64 pos := by
  have := cellF_pl (p := np l) hr hpos
  unfold plN at this
  unfold tg
  rw [hm, this]
  exact ⟨rfl, rfl⟩
theorem depth_q (W : World) (Ls : List Chunk) (l : Lay) (s q : Int) (h : Gd l s) (hq : 0 ≤ q) (hs : q * l.m < s) : Spec Try.prog 30 #[l.v, .int .i64 s, .int .i64 (q * l.m)] (K W Ls) (fun _ : Unit => .tuple #[.int .i64 (rD l s (q * l.m)), .int .i64 (q * l.m)]) (fun _ => K W Ls) := by
  have hm := h.1.m; have h2 := h.2
  have h0 := Int.mul_nonneg hq (show 0 ≤ l.m by omega)
  have := depth_spec W Ls l s (q * l.m) h.1 h.2 (by omega)
  have e : rF l (q * l.m) = q * l.m := by unfold rF; rw [Int.mul_ediv_cancel _ (by omega)]
  rwa [e] at this
attribute [local irreducible] SC St Fin Sq Sw Ylds Doos Sets Enters Spec CellIs CellsAre Then Ret Rnd Chn resOK ints bools recs arr
set_option maxRecDepth 10000 in
set_option maxHeartbeats 8000000 in
theorem table_spec (W : World) (Ls : List Chunk) (l : Lay) (s : Int) (h : Gd l s) (hsm : s * np l ≤ 3000) : Spec Try.prog 28 #[l.v, .int .i64 s] (K W Ls)
    (X := { x : Nat × Option Own // (x.1 : Int) = s * np l ∧ owfO 2 x.2 x.1 (vw 2 x.1 (tg l s)) }) (fun x => ov x.1.2 x.1.1) (fun x => K W (oc 37 x.1.2 (vw 2 x.1.1 (tg l s)) :: Ls)) := by
  have hm := h.1.m; have h4 := h.2; have h5 := h.1.r; have h6 := h.1.c
  have hp := np_bd h.1
  have e1 : l.r * l.c = np l := rfl
  have hsp := mul_bd (a := s) (b := np l) (A := 1048576) (B := 256) (by omega) (by omega)
  refine enter (args := [_, _]) Try.func28 rfl Try.ntmps28 rfl ?_
  refine c_seq ?_
  refine c_region ?_
  refine s_do (do_box rfl) rfl rfl rfl (fun b2 => ?_)
  refine s_y (y_assign rfl) rfl rfl rfl ?_
  refine s_nil ?_
  refine f_then ?_
  refine c_seq ?_
  refine c_region ?_
  refine s_y (y_assign rfl) rfl rfl rfl ?_
  refine s_nil ?_
  refine f_then ?_
  refine c_seq ?_
  refine c_seq ?_
  refine c_region ?_
  refine s_y (y_assign rfl) rfl rfl rfl ?_
  refine s_nil ?_
  refine f_then ?_
  refine c_block ?_
  refine c_loopP (α := Int × Nat × Option Own) (fun z => [(1, .int .i64 s), (2, .pointer (some ⟨b2, 0, none⟩)), (5, ov z.2.2 z.2.1), (6, .int .i64 (z.1 * l.m))])
    (fun z => 0 ≤ z.1 ∧ z.1 * l.m < s + l.m ∧ (z.2.1 : Int) = min (z.1 * l.m) s * np l ∧ owfO 2 z.2.2 z.2.1 (vw 2 z.2.1 (tg l s)))
    (fun z => K W (oc 37 z.2.2 (vw 2 z.2.1 (tg l s)) :: [(b2, row 23 l.v.cells.toList)] :: Ls)) (fun z => (s + l.m - z.1 * l.m).toNat) (0, 0, none)
    ⟨rfl, rfl, rfl, by simp [look], trivial⟩ ⟨by omega, by omega, by rw [Int.zero_mul, Int.min_eq_left h4.1, Int.zero_mul]; rfl, by simp [owfO, vw]⟩ (fun w h => h.addNil) ?_
  rintro ⟨q, m, o⟩ ⟨hq, hqs, hmq, ho⟩
  dsimp only at hq hqs hmq ho ⊢
  refine c_seq ?_
  refine c_seq ?_
  refine c_region ?_
  refine s_y (y_move rfl) rfl rfl rfl ?_
  refine s_y (y_move rfl) rfl rfl rfl ?_
  refine s_y (y_lss rfl rfl) rfl rfl rfl ?_
  refine s_nil ?_
  refine f_then ?_
  refine c_condD rfl (fun hlt => ?_) (fun hge => ?_)
  rotate_left
  · refine c_exit ?_
    refine f_thenE ?_
    refine f_rndE ?_
    refine f_blockE ?_
    refine f_then ?_
    refine c_seq ?_
    refine c_region ?_
    refine s_y (y_move rfl) rfl rfl rfl ?_
    refine s_y (y_assign rfl) rfl rfl rfl ?_
    refine s_nil ?_
    refine f_then ?_
    refine c_ret ?_
    rw [Int.min_eq_right (by omega)] at hmq
    exact f_ret ⟨(m, o), hmq, ho⟩ (res1 rfl rfl) (fun w h => h.dropAt 1)
  have hq0 := Int.mul_nonneg hq (show 0 ≤ l.m by omega)
  have hd : rD l s (q * l.m) = min l.m (s - q * l.m) := rfl
  rw [Int.min_eq_left (by omega)] at hmq
  refine c_skip ?_
  refine f_then ?_
  refine c_seq ?_
  refine c_block ?_
  refine c_seq ?_
  refine c_region ?_
  refine s_y (y_loadA Try.tab rfl rfl rfl rfl (cells_row0 1 rfl rfl)) rfl rfl rfl ?_
  refine s_y (y_move rfl) rfl rfl rfl ?_
  refine s_y (y_move rfl) rfl rfl rfl ?_
  refine s_call (en_f rfl Try.call30) (depth_q _ _ _ _ _ h hq hlt) rfl rfl rfl (fun _ => ?_)
  refine s_y (y_move rfl) rfl rfl rfl ?_
  refine s_y (y_extract rfl rfl) rfl rfl rfl ?_
  refine s_y (y_extract rfl rfl) rfl rfl rfl ?_
  refine s_y (y_assign rfl) rfl rfl rfl ?_
  refine s_y (y_assign rfl) rfl rfl rfl ?_
  refine s_nil ?_
  refine f_then ?_
  refine c_seq ?_
  refine c_region ?_
  refine s_y (y_assign rfl) rfl rfl rfl ?_
  refine s_nil ?_
  refine f_then ?_
  refine c_block ?_
  refine c_loopP (α := Int × Nat × Option Own) (fun z => [(1, .int .i64 s), (2, .pointer (some ⟨b2, 0, none⟩)), (5, ov z.2.2 z.2.1), (6, .int .i64 (q * l.m)), (7, .int .i64 (rD l s (q * l.m))), (9, .int .i64 z.1)])
    (fun z => (0 ≤ z.1 ∧ z.1 ≤ np l) ∧ (z.2.1 : Int) = q * l.m * np l + z.1 * rD l s (q * l.m) ∧ owfO 2 z.2.2 z.2.1 (vw 2 z.2.1 (tg l s)))
    (fun z => K W (oc 37 z.2.2 (vw 2 z.2.1 (tg l s)) :: [(b2, row 23 l.v.cells.toList)] :: Ls)) (fun z => (np l - z.1).toNat) (0, m, o)
    ⟨rfl, rfl, rfl, rfl, rfl, rfl, trivial⟩ ⟨by omega, by show (m : Int) = _; rw [Int.zero_mul, Int.add_zero]; exact hmq, ho⟩ (fun w h => h) ?_
  clear hmq ho
  rintro ⟨pos, m, o⟩ ⟨hpos, hmp, ho⟩
  dsimp only at hpos hmp ho ⊢
  refine c_seq ?_
  refine c_seq ?_
  refine c_region ?_
  refine s_y (y_move rfl) rfl rfl rfl ?_
  refine s_y (y_fieldAddr0 Try.tab rfl rfl rfl rfl rfl) rfl rfl rfl ?_
  refine s_y (y_load Try.tab rfl rfl (cell_row 1 rfl rfl)) rfl rfl rfl ?_
  refine s_y (y_fieldAddrB Try.tab 1 rfl rfl rfl rfl rfl) rfl rfl rfl ?_
  refine s_y (y_load Try.tab rfl rfl (cell_row 1 rfl rfl)) rfl rfl rfl ?_
  refine s_y (y_mul rfl rfl (by omega)) rfl rfl rfl ?_
  refine s_y (y_lss rfl rfl) rfl rfl rfl ?_
  refine s_nil ?_
  refine f_then ?_
  refine c_condD rfl (fun hlt2 => ?_) (fun hge => ?_)
  rotate_left
  · have hpe : pos = np l := by omega
    have e2 : (q * l.m + rD l s (q * l.m)) * np l = q * l.m * np l + np l * rD l s (q * l.m) := by rw [Int.add_mul, Int.mul_comm (rD l s (q * l.m))]
    refine c_exit ?_
    refine f_thenE ?_
    refine f_rndE ?_
    refine f_blockE ?_
    refine f_blockN ?_
    refine f_then ?_
    refine c_region ?_
    refine s_y (y_move rfl) rfl rfl rfl ?_
    refine s_y (y_fieldAddrB Try.tab 2 rfl rfl rfl rfl rfl) rfl rfl rfl ?_
    refine s_y (y_load Try.tab rfl rfl (cell_row 1 rfl rfl)) rfl rfl rfl ?_
    refine s_y (y_add rfl rfl (by omega)) rfl rfl rfl ?_
    refine s_y (y_assign rfl) rfl rfl rfl ?_
    refine s_nil ?_
    exact f_roundP (q + 1, m, o) ⟨by omega, by rw [mulc q l.m 0]; omega, by show (m : Int) = _; rw [mulc q l.m 0, hmp, hpe, ← e2]; congr 1; omega, ho⟩ (by show (s + l.m - (q + 1) * l.m).toNat < (s + l.m - q * l.m).toNat; rw [mulc q l.m 0]; omega) ⟨rfl, rfl, rfl, by rw [mulc q l.m 0]; rfl, trivial⟩ (fun w h => h)
  refine c_skip ?_
  refine f_then ?_
  refine c_seq ?_
  refine c_block ?_
  refine c_seq ?_
  refine c_region ?_
  refine s_y (y_assign rfl) rfl rfl rfl ?_
  refine s_nil ?_
  refine f_then ?_
  refine c_block ?_
  refine c_loopP (α := Int × Nat × Option Own) (fun z => [(1, .int .i64 s), (2, .pointer (some ⟨b2, 0, none⟩)), (5, ov z.2.2 z.2.1), (6, .int .i64 (q * l.m)), (7, .int .i64 (rD l s (q * l.m))), (9, .int .i64 pos), (10, .int .i64 z.1)])
    (fun z => (0 ≤ z.1 ∧ z.1 ≤ rD l s (q * l.m)) ∧ (z.2.1 : Int) = q * l.m * np l + pos * rD l s (q * l.m) + z.1 ∧ owfO 2 z.2.2 z.2.1 (vw 2 z.2.1 (tg l s)))
    (fun z => K W (oc 37 z.2.2 (vw 2 z.2.1 (tg l s)) :: [(b2, row 23 l.v.cells.toList)] :: Ls)) (fun z => (rD l s (q * l.m) - z.1).toNat) (0, m, o)
    ⟨rfl, rfl, rfl, rfl, rfl, rfl, rfl, trivial⟩ ⟨by omega, by show (m : Int) = _; omega, ho⟩ (fun w h => h) ?_
  have hmp0 := hmp
  clear hmp ho
  rintro ⟨k, m2, o⟩ ⟨hk, hmk, ho⟩
  dsimp only at hk hmk ho ⊢
  refine c_seq ?_
  refine c_seq ?_
  refine c_region ?_
  refine s_y (y_move rfl) rfl rfl rfl ?_
  refine s_y (y_move rfl) rfl rfl rfl ?_
  refine s_y (y_lss rfl rfl) rfl rfl rfl ?_
  refine s_nil ?_
  refine f_then ?_
  refine c_condD rfl (fun hlt3 => ?_) (fun hge => ?_)
  rotate_left
  · have hke : k = rD l s (q * l.m) := by omega
    refine c_exit ?_
    refine f_thenE ?_
    refine f_rndE ?_
    refine f_blockE ?_
    refine f_blockN ?_
    refine f_then ?_
    refine c_region ?_
    refine s_y (y_move rfl) rfl rfl rfl ?_
    refine s_y (y_add rfl rfl (by omega)) rfl rfl rfl ?_
    refine s_y (y_assign rfl) rfl rfl rfl ?_
    refine s_nil ?_
    exact f_roundP (pos + 1, m2, o) ⟨by omega, by show (m2 : Int) = _; rw [mulc pos _ 0]; omega, ho⟩ (by show (np l - (pos + 1)).toNat < (np l - pos).toNat; omega) ⟨rfl, rfl, rfl, rfl, rfl, rfl, trivial⟩ (fun w h => h)
  have hpl : pos * rD l s (q * l.m) + k < np l * rD l s (q * l.m) := (show InPl (np l) (rD l s (q * l.m)) pos k _ from ⟨rfl, ⟨hpos.1, hlt2⟩, hk.1, hlt3⟩).bd.2
  have hds : (q * l.m + rD l s (q * l.m)) * np l ≤ s * np l := Int.mul_le_mul_of_nonneg_right (by omega) (by omega)
  rw [Int.add_mul, Int.mul_comm (rD l s (q * l.m))] at hds
  obtain ⟨t0, t1⟩ := tg_at (m := m2) (show InReam l s _ (q * l.m) (rD l s (q * l.m)) k from ⟨⟨q, hq, rfl⟩, by omega, by omega, by omega, ⟨hk.1, hlt3⟩, rfl, rfl⟩) ⟨hpos.1, hlt2⟩ hmk
  refine c_skip ?_
  refine f_then ?_
  refine c_seq ?_
  refine c_block ?_
  refine c_seq ?_
  refine c_region ?_
  refine s_y (y_move rfl) rfl rfl rfl ?_
  refine s_y (y_assign rfl) rfl rfl rfl ?_
  refine s_nil ?_
  refine f_then ?_
  refine c_seq ?_
  refine c_seq ?_
  refine c_region ?_
  refine s_y (y_fieldAddrB Try.tab 4 rfl rfl rfl rfl rfl) rfl rfl rfl ?_
  refine s_y (y_load Try.tab rfl rfl (cell_row 1 rfl rfl)) rfl rfl rfl ?_
  refine s_nil ?_
  refine f_then ?_
  cases hld : l.d with
  | true =>
    rw [hld] at t0
    refine c_condT rfl ?_
    refine c_region ?_
    refine s_y (y_move rfl) rfl rfl rfl ?_
    refine s_y (y_sub rfl rfl (by omega)) rfl rfl rfl ?_
    refine s_y (y_move rfl) rfl rfl rfl ?_
    refine s_y (y_sub rfl rfl (by omega)) rfl rfl rfl ?_
    refine s_y (y_assign rfl) rfl rfl rfl ?_
    refine s_nil ?_
    refine f_then ?_
    refine c_region ?_
    refine s_y (y_move rfl) rfl rfl rfl ?_
    refine s_y (y_move rfl) rfl rfl rfl ?_
    refine s_y (y_move rfl) rfl rfl rfl ?_
    refine s_y (y_add rfl rfl (by omega)) rfl rfl rfl ?_
    refine s_y (y_move rfl) rfl rfl rfl ?_
    refine s_y (y_build Try.tab rfl rfl rfl rfl rfl) rfl rfl rfl ?_
    refine s_do (do_buildSliceS Try.tab ⟨rfl, rfl, rfl, rfl⟩ rfl rfl rfl rfl) rfl rfl rfl (fun b53 => ?_)
    have hv : vw 2 m2 (tg l s) ++ [.int .i64 (q * l.m + (rD l s (q * l.m) - 1 - k)), .int .i64 pos] = vw 2 (m2 + 1) (tg l s) := by rw [← vw2_snoc, t0, t1]; rfl
    refine s_do (do_appendO Try.tab 1 (s := 2) (by_ := 16) (k := 1) (news := [.int .i64 (q * l.m + (rD l s (q * l.m) - 1 - k)), .int .i64 pos]) (xs := vw 2 m2 (tg l s)) (o := o) rfl rfl ⟨rfl, rfl, rfl, rfl⟩ rfl rfl (by simp) ho (cells_row0 0 rfl rfl) rfl (by simp [Value.oneCell']) (by omega) (by unfold maxLen; omega) (by omega)) rfl rfl rfl (fun o2 => ?_)
    refine s_y (y_assign rfl) rfl rfl rfl ?_
    refine s_nil ?_
    refine f_blockN ?_
    refine f_then ?_
    refine c_region ?_
    refine s_y (y_move rfl) rfl rfl rfl ?_
    refine s_y (y_add rfl rfl (by omega)) rfl rfl rfl ?_
    refine s_y (y_assign rfl) rfl rfl rfl ?_
    refine s_nil ?_
    exact f_roundP (k + 1, m2 + 1, some o2.1) ⟨by omega, by show ((m2 + 1 : Nat) : Int) = _; omega, by rw [← hv]; exact o2.2⟩ (by show (rD l s (q * l.m) - (k + 1)).toNat < (rD l s (q * l.m) - k).toNat; omega) ⟨rfl, rfl, rfl, rfl, rfl, rfl, rfl, trivial⟩ (fun w h => by rw [← hv]; exact h.tail)
  | false =>
    rw [hld] at t0
    refine c_condF rfl ?_
    refine c_skip ?_
    refine f_then ?_
    refine c_region ?_
    refine s_y (y_move rfl) rfl rfl rfl ?_
    refine s_y (y_move rfl) rfl rfl rfl ?_
    refine s_y (y_move rfl) rfl rfl rfl ?_
    refine s_y (y_add rfl rfl (by omega)) rfl rfl rfl ?_
    refine s_y (y_move rfl) rfl rfl rfl ?_
    refine s_y (y_build Try.tab rfl rfl rfl rfl rfl) rfl rfl rfl ?_
    refine s_do (do_buildSliceS Try.tab ⟨rfl, rfl, rfl, rfl⟩ rfl rfl rfl rfl) rfl rfl rfl (fun b53 => ?_)
    have hv : vw 2 m2 (tg l s) ++ [.int .i64 (q * l.m + k), .int .i64 pos] = vw 2 (m2 + 1) (tg l s) := by rw [← vw2_snoc, t0, t1]; rfl
    refine s_do (do_appendO Try.tab 1 (s := 2) (by_ := 16) (k := 1) (news := [.int .i64 (q * l.m + k), .int .i64 pos]) (xs := vw 2 m2 (tg l s)) (o := o) rfl rfl ⟨rfl, rfl, rfl, rfl⟩ rfl rfl (by simp) ho (cells_row0 0 rfl rfl) rfl (by simp [Value.oneCell']) (by omega) (by unfold maxLen; omega) (by omega)) rfl rfl rfl (fun o2 => ?_)
    refine s_y (y_assign rfl) rfl rfl rfl ?_
    refine s_nil ?_
    refine f_blockN ?_
    refine f_then ?_
    refine c_region ?_
    refine s_y (y_move rfl) rfl rfl rfl ?_
    refine s_y (y_add rfl rfl (by omega)) rfl rfl rfl ?_
    refine s_y (y_assign rfl) rfl rfl rfl ?_
    refine s_nil ?_
    exact f_roundP (k + 1, m2 + 1, some o2.1) ⟨by omega, by show ((m2 + 1 : Nat) : Int) = _; omega, by rw [← hv]; exact o2.2⟩ (by show (rD l s (q * l.m) - (k + 1)).toNat < (rD l s (q * l.m) - k).toNat; omega) ⟨rfl, rfl, rfl, rfl, rfl, rfl, rfl, trivial⟩ (fun w h => by rw [← hv]; exact h.tail)
end Go.KL
end

section
/- Walks: the reference's list of bundles. -/
namespace Go.KL
open Go.Proofs
/-- Where a bundle begins; the last entry is the number of notes. -/
def bunB (l : Lay) (s : Int) (i : Nat) : Int := if (i : Int) < bunsF l s (np l) then bunLo l s (np l) i else s * np l
theorem vw1_snoc (g : Nat → Nat → Value) (m : Nat) : vw 1 m g ++ [g m 0] = vw 1 (m + 1) g := by
  unfold vw
  rw [Nat.mul_one, Nat.mul_one, List.range_succ]
  simp only [List.map_append, List.map_cons, List.map_nil, Nat.div_one, Nat.mod_one]
/-- The bundles before the next ream. -/
theorem bun_step {l : Lay} {s q : Int} (hl : l.OK) (_hs : SOK s) (_hq : 0 ≤ q) (hlt : q * l.m < s) :
    ((q + 1) * l.m < s → q * perR l (np l) + np l * ((rD l s (q * l.m) + l.b - 1) / l.b) = (q + 1) * perR l (np l)) ∧
    (s ≤ (q + 1) * l.m → q * perR l (np l) + np l * ((rD l s (q * l.m) + l.b - 1) / l.b) = bunsF l s (np l)) := by
  have hm := hl.m
  have hd : rD l s (q * l.m) = min l.m (s - q * l.m) := rfl
  have hR : perR l (np l) = np l * ((l.m + l.b - 1) / l.b) := rfl
  rw [mulc q l.m 0, mulc q (perR l (np l)) 0]
  constructor
  · intro h
    rw [hd, Int.min_eq_left (by omega), hR]
  · intro h
    unfold bunsF
    by_cases e : s = q * l.m + l.m
    · have e1 : s / l.m = q + 1 := div_of (r := 0) (by rw [mulc q l.m 0]; omega) (by omega) (by omega)
      have e2 : s % l.m = 0 := mod_of (q := q + 1) (by rw [mulc q l.m 0]; omega) (by omega) (by omega)
      rw [e1, e2, if_neg (by omega), hd, Int.min_eq_left (by omega), mulc q (perR l (np l)) 0, hR, Int.add_zero]
    · have e1 : s / l.m = q := div_of (r := s - q * l.m) (by omega) (by omega) (by omega)
      have e2 : s % l.m = s - q * l.m := mod_of (q := q) (by omega) (by omega) (by omega)
      rw [e1, e2, if_pos (by omega)]
theorem bunsF_0 {l : Lay} {s p : Int} (h : s = 0) : bunsF l s p = 0 := by
  subst h
  unfold bunsF
  rw [Int.zero_ediv, Int.zero_mul, Int.zero_emod, if_neg (by omega)]
  rfl
attribute [local irreducible] SC St Fin Sq Sw Ylds Doos Sets Enters Spec CellIs CellsAre Then Ret Rnd Chn resOK ints bools recs arr
set_option maxRecDepth 10000 in
set_option maxHeartbeats 8000000 in
theorem blist_spec (W : World) (Ls : List Chunk) (l : Lay) (s : Int) (h : Gd l s) (hsm : s * np l ≤ 3000) : Spec Try.prog 36 #[l.v, .int .i64 s] (K W Ls)
    (X := { x : Nat × Own // ((x.1 : Int) = bunsF l s (np l) ∧ (x.1 : Int) ≤ s * np l) ∧ owf 1 x.2 (x.1 + 1) (vw 1 (x.1 + 1) fun i _ => .int .i64 (bunB l s i)) }) (fun x => osl x.1.2 (x.1.1 + 1)) (fun x => K W (och 3 x.1.2 (vw 1 (x.1.1 + 1) fun i _ => .int .i64 (bunB l s i)) :: Ls)) := by
  have hm := h.1.m; have h4 := h.2; have h5 := h.1.r; have h6 := h.1.c; have hb := h.1.b
  have hp := np_bd h.1
  have e1 : l.r * l.c = np l := rfl
  have hsp := mul_bd (a := s) (b := np l) (A := 1048576) (B := 256) (by omega) (by omega)
  refine enter (args := [_, _]) Try.func36 rfl Try.ntmps36 rfl ?_
  refine c_seq ?_
  refine c_region ?_
  refine s_do (do_box rfl) rfl rfl rfl (fun b2 => ?_)
  refine s_y (y_assign rfl) rfl rfl rfl ?_
  refine s_nil ?_
  refine f_then ?_
  refine c_seq ?_
  refine c_region ?_
  refine s_y (y_assign rfl) rfl rfl rfl ?_
  refine s_nil ?_
  refine f_then ?_
  refine c_seq ?_
  refine c_region ?_
  refine s_y (y_assign rfl) rfl rfl rfl ?_
  refine s_nil ?_
  refine f_then ?_
  refine c_seq ?_
  refine c_seq ?_
  refine c_region ?_
  refine s_y (y_assign rfl) rfl rfl rfl ?_
  refine s_nil ?_
  refine f_then ?_
  refine c_block ?_
  refine c_loopP (α := Int × Nat × Option Own) (fun z => [(1, .int .i64 s), (2, .pointer (some ⟨b2, 0, none⟩)), (5, ov z.2.2 z.2.1), (6, .int .i64 (min (z.1 * l.m) s * np l)), (7, .int .i64 (z.1 * l.m))])
    (fun z => 0 ≤ z.1 ∧ z.1 * l.m < s + l.m ∧ ((z.1 * l.m < s → (z.2.1 : Int) = z.1 * perR l (np l)) ∧ (s ≤ z.1 * l.m → (z.2.1 : Int) = bunsF l s (np l))) ∧ (z.2.1 : Int) ≤ min (z.1 * l.m) s * np l ∧ owfO 1 z.2.2 z.2.1 (vw 1 z.2.1 fun i _ => .int .i64 (bunB l s i)))
    (fun z => K W (oc 3 z.2.2 (vw 1 z.2.1 fun i _ => .int .i64 (bunB l s i)) :: [(b2, row 23 l.v.cells.toList)] :: Ls)) (fun z => (s + l.m - z.1 * l.m).toNat) (0, 0, none)
    ⟨rfl, rfl, rfl, by rw [Int.zero_mul, Int.min_eq_left h4.1, Int.zero_mul]; simp [look], by rw [Int.zero_mul]; simp [look], trivial⟩ ⟨by omega, by omega, ⟨fun _ => by rw [Int.zero_mul]; rfl, fun hs0 => (bunsF_0 (p := np l) (show s = 0 by omega)).symm⟩, by rw [Int.zero_mul, Int.min_eq_left h4.1, Int.zero_mul]; exact Int.le_refl 0, by simp [owfO, vw]⟩ (fun w h => h.addNil) ?_
  rintro ⟨q, m, o⟩ ⟨hq, hqs, hmq, hma, ho⟩
  dsimp only at hq hqs hmq hma ho ⊢
  refine c_seq ?_
  refine c_seq ?_
  refine c_region ?_
  refine s_y (y_move rfl) rfl rfl rfl ?_
  refine s_y (y_move rfl) rfl rfl rfl ?_
  refine s_y (y_lss rfl rfl) rfl rfl rfl ?_
  refine s_nil ?_
  refine f_then ?_
  refine c_condD rfl (fun hlt => ?_) (fun hge => ?_)
  rotate_left
  · rw [Int.min_eq_right (by omega)] at hma ⊢
    have hmb := hmq.2 (by omega)
    have hv : vw 1 m (fun i _ => .int .i64 (bunB l s i)) ++ [.int .i64 (s * np l)] = vw 1 (m + 1) fun i _ => .int .i64 (bunB l s i) := by rw [← vw1_snoc]; unfold bunB; rw [if_neg (by omega)]
    refine c_exit ?_
    refine f_thenE ?_
    refine f_rndE ?_
    refine f_blockE ?_
    refine f_then ?_
    refine c_seq ?_
    refine c_region ?_
    refine s_y (y_move rfl) rfl rfl rfl ?_
    refine s_y (y_move rfl) rfl rfl rfl ?_
    refine s_do (do_buildSlice1 Try.tab ⟨rfl, rfl, rfl, rfl⟩ rfl rfl rfl rfl) rfl rfl rfl (fun b53 => ?_)
    refine s_do (do_appendO Try.tab 1 (s := 1) (by_ := 8) (k := 1) (news := [.int .i64 (s * np l)]) (xs := vw 1 m (fun i _ => .int .i64 (bunB l s i))) (o := o) rfl rfl ⟨rfl, rfl, rfl, rfl⟩ rfl rfl (by simp) ho (cells_row0 0 rfl rfl) rfl (by simp [Value.oneCell']) (by omega) (by unfold maxLen; omega) (by omega)) rfl rfl rfl (fun o2 => ?_)
    refine s_y (y_assign rfl) rfl rfl rfl ?_
    refine s_nil ?_
    refine f_then ?_
    refine c_ret ?_
    exact f_ret ⟨(m, o2.1), ⟨hmb, hma⟩, by rw [← hv]; exact o2.2.1⟩ (res1 rfl rfl) (fun w h => by show K W (och 3 o2.1 (vw 1 (m + 1) fun i _ => .int .i64 (bunB l s i)) :: Ls) w; rw [← hv]; exact h.tail.dropAt 1)
  have hq0 := Int.mul_nonneg hq (show 0 ≤ l.m by omega)
  have hd : rD l s (q * l.m) = min l.m (s - q * l.m) := rfl
  have hmq1 := hmq.1 hlt
  obtain ⟨hs1, hs2⟩ := bun_step h.1 h.2 hq hlt
  clear hmq
  rw [Int.min_eq_left (by omega)] at hma ⊢
  refine c_skip ?_
  refine f_then ?_
  refine c_seq ?_
  refine c_block ?_
  refine c_seq ?_
  refine c_region ?_
  refine s_y (y_loadA Try.tab rfl rfl rfl rfl (cells_row0 1 rfl rfl)) rfl rfl rfl ?_
  refine s_y (y_move rfl) rfl rfl rfl ?_
  refine s_y (y_move rfl) rfl rfl rfl ?_
  refine s_call (en_f rfl Try.call30) (depth_q _ _ _ _ _ h hq hlt) rfl rfl rfl (fun _ => ?_)
  refine s_y (y_move rfl) rfl rfl rfl ?_
  refine s_y (y_extract rfl rfl) rfl rfl rfl ?_
  refine s_y (y_extract rfl rfl) rfl rfl rfl ?_
  refine s_y (y_assign rfl) rfl rfl rfl ?_
  refine s_y (y_assign rfl) rfl rfl rfl ?_
  refine s_nil ?_
  refine f_then ?_
  refine c_seq ?_
  refine c_region ?_
  refine s_y (y_assign rfl) rfl rfl rfl ?_
  refine s_nil ?_
  refine f_then ?_
  refine c_block ?_
  refine c_loopP (α := Int × Nat × Option Own) (fun z => [(1, .int .i64 s), (2, .pointer (some ⟨b2, 0, none⟩)), (5, ov z.2.2 z.2.1), (6, .int .i64 (q * l.m * np l + z.1 * rD l s (q * l.m))), (7, .int .i64 (q * l.m)), (8, .int .i64 (rD l s (q * l.m))), (10, .int .i64 z.1)])
    (fun z => (0 ≤ z.1 ∧ z.1 ≤ np l) ∧ (z.2.1 : Int) = q * perR l (np l) + z.1 * ((rD l s (q * l.m) + l.b - 1) / l.b) ∧ (z.2.1 : Int) ≤ q * l.m * np l + z.1 * rD l s (q * l.m) ∧ owfO 1 z.2.2 z.2.1 (vw 1 z.2.1 fun i _ => .int .i64 (bunB l s i)))
    (fun z => K W (oc 3 z.2.2 (vw 1 z.2.1 fun i _ => .int .i64 (bunB l s i)) :: [(b2, row 23 l.v.cells.toList)] :: Ls)) (fun z => (np l - z.1).toNat) (0, m, o)
    ⟨rfl, rfl, rfl, by rw [Int.zero_mul, Int.add_zero]; rfl, rfl, rfl, rfl, trivial⟩ ⟨by omega, by show (m : Int) = _; rw [Int.zero_mul, Int.add_zero]; exact hmq1, by show (m : Int) ≤ _; rw [Int.zero_mul, Int.add_zero]; exact hma, ho⟩ (fun w h => h) ?_
  clear hma ho hmq1
  rintro ⟨pos, m, o⟩ ⟨hpos, hmp, hma, ho⟩
  dsimp only at hpos hmp hma ho ⊢
  have hpd : pos * rD l s (q * l.m) ≤ np l * rD l s (q * l.m) := Int.mul_le_mul_of_nonneg_right hpos.2 (by omega)
  have hpd0 := Int.mul_nonneg hpos.1 (show 0 ≤ rD l s (q * l.m) by omega)
  have hds : (q * l.m + rD l s (q * l.m)) * np l ≤ s * np l := Int.mul_le_mul_of_nonneg_right (by omega) (by omega)
  rw [Int.add_mul, Int.mul_comm (rD l s (q * l.m))] at hds
  have hqp := Int.mul_nonneg hq0 (show 0 ≤ np l by omega)
  refine c_seq ?_
  refine c_seq ?_
  refine c_region ?_
  refine s_y (y_move rfl) rfl rfl rfl ?_
  refine s_y (y_fieldAddr0 Try.tab rfl rfl rfl rfl rfl) rfl rfl rfl ?_
  refine s_y (y_load Try.tab rfl rfl (cell_row 1 rfl rfl)) rfl rfl rfl ?_
  refine s_y (y_fieldAddrB Try.tab 1 rfl rfl rfl rfl rfl) rfl rfl rfl ?_
  refine s_y (y_load Try.tab rfl rfl (cell_row 1 rfl rfl)) rfl rfl rfl ?_
  refine s_y (y_mul rfl rfl (by omega)) rfl rfl rfl ?_
  refine s_y (y_lss rfl rfl) rfl rfl rfl ?_
  refine s_nil ?_
  refine f_then ?_
  refine c_condD rfl (fun hlt2 => ?_) (fun hge => ?_)
  rotate_left
  · have hpe : pos = np l := by omega
    rw [hpe] at hmp hma ⊢
    have e2 : (q * l.m + rD l s (q * l.m)) * np l = q * l.m * np l + np l * rD l s (q * l.m) := by rw [Int.add_mul, Int.mul_comm (rD l s (q * l.m))]
    have e3 : min ((q + 1) * l.m) s = q * l.m + rD l s (q * l.m) := by rw [mulc q l.m 0]; omega
    refine c_exit ?_
    refine f_thenE ?_
    refine f_rndE ?_
    refine f_blockE ?_
    refine f_blockN ?_
    refine f_then ?_
    refine c_region ?_
    refine s_y (y_move rfl) rfl rfl rfl ?_
    refine s_y (y_fieldAddrB Try.tab 2 rfl rfl rfl rfl rfl) rfl rfl rfl ?_
    refine s_y (y_load Try.tab rfl rfl (cell_row 1 rfl rfl)) rfl rfl rfl ?_
    refine s_y (y_add rfl rfl (by omega)) rfl rfl rfl ?_
    refine s_y (y_assign rfl) rfl rfl rfl ?_
    refine s_nil ?_
    exact f_roundP (q + 1, m, o) ⟨by omega, by rw [mulc q l.m 0]; omega, ⟨fun h1 => hmp.trans (hs1 h1), fun h1 => hmp.trans (hs2 h1)⟩, by show (m : Int) ≤ min ((q + 1) * l.m) s * np l; rw [e3, e2]; exact hma, ho⟩ (by show (s + l.m - (q + 1) * l.m).toNat < (s + l.m - q * l.m).toNat; rw [mulc q l.m 0]; omega) ⟨rfl, rfl, rfl, by rw [e3, e2]; rfl, by rw [mulc q l.m 0]; rfl, trivial⟩ (fun w h => h)
  refine c_skip ?_
  refine f_then ?_
  refine c_seq ?_
  refine c_block ?_
  refine c_seq ?_
  refine c_seq ?_
  refine c_region ?_
  refine s_y (y_assign rfl) rfl rfl rfl ?_
  refine s_nil ?_
  refine f_then ?_
  refine c_block ?_
  refine c_loopP (α := Int × Nat × Option Own) (fun z => [(1, .int .i64 s), (2, .pointer (some ⟨b2, 0, none⟩)), (5, ov z.2.2 z.2.1), (6, .int .i64 (q * l.m * np l + pos * rD l s (q * l.m))), (7, .int .i64 (q * l.m)), (8, .int .i64 (rD l s (q * l.m))), (10, .int .i64 pos), (11, .int .i64 (z.1 * l.b))])
    (fun z => (0 ≤ z.1 ∧ z.1 ≤ (rD l s (q * l.m) + l.b - 1) / l.b) ∧ (z.2.1 : Int) = q * perR l (np l) + (pos * ((rD l s (q * l.m) + l.b - 1) / l.b) + z.1) ∧ (z.2.1 : Int) ≤ q * l.m * np l + pos * rD l s (q * l.m) + min (z.1 * l.b) (rD l s (q * l.m)) ∧ owfO 1 z.2.2 z.2.1 (vw 1 z.2.1 fun i _ => .int .i64 (bunB l s i)))
    (fun z => K W (oc 3 z.2.2 (vw 1 z.2.1 fun i _ => .int .i64 (bunB l s i)) :: [(b2, row 23 l.v.cells.toList)] :: Ls)) (fun z => ((rD l s (q * l.m) + l.b - 1) / l.b - z.1).toNat) (0, m, o)
    ⟨rfl, rfl, rfl, rfl, rfl, rfl, rfl, by rw [Int.zero_mul]; rfl, trivial⟩ ⟨⟨by omega, Int.ediv_nonneg (by omega) (by omega)⟩, by show (m : Int) = _; omega, by show (m : Int) ≤ _; rw [Int.zero_mul]; omega, ho⟩ (fun w h => h) ?_
  have hmp0 := hmp
  clear hmp hma ho
  rintro ⟨k, m2, o⟩ ⟨hk, hmk, hma, ho⟩
  dsimp only at hk hmk hma ho ⊢
  have hkb : k * l.b ≤ (rD l s (q * l.m) + l.b - 1) / l.b * l.b := Int.mul_le_mul_of_nonneg_right hk.2 (by omega)
  have hkb0 := Int.mul_nonneg hk.1 (show 0 ≤ l.b by omega)
  have hcb := div_mod_eq (rD l s (q * l.m) + l.b - 1) l.b
  have hcb2 := mod_bd (a := rD l s (q * l.m) + l.b - 1) hb.1
  refine c_seq ?_
  refine c_seq ?_
  refine c_region ?_
  refine s_y (y_move rfl) rfl rfl rfl ?_
  refine s_y (y_move rfl) rfl rfl rfl ?_
  refine s_y (y_lss rfl rfl) rfl rfl rfl ?_
  refine s_nil ?_
  refine f_then ?_
  refine c_condD rfl (fun hlt3 => ?_) (fun hge => ?_)
  rotate_left
  · have hke : k = (rD l s (q * l.m) + l.b - 1) / l.b := by
      rcases Int.lt_or_le k ((rD l s (q * l.m) + l.b - 1) / l.b) with hx | hx
      · have : (k + 1) * l.b ≤ (rD l s (q * l.m) + l.b - 1) / l.b * l.b := Int.mul_le_mul_of_nonneg_right (by omega) (by omega)
        rw [mulc k l.b 0] at this
        omega
      · omega
    refine c_exit ?_
    refine f_thenE ?_
    refine f_rndE ?_
    refine f_blockE ?_
    refine f_then ?_
    refine c_region ?_
    refine s_y (y_move rfl) rfl rfl rfl ?_
    refine s_y (y_move rfl) rfl rfl rfl ?_
    refine s_y (y_add rfl rfl (by omega)) rfl rfl rfl ?_
    refine s_y (y_assign rfl) rfl rfl rfl ?_
    refine s_nil ?_
    refine f_blockN ?_
    refine f_then ?_
    refine c_region ?_
    refine s_y (y_move rfl) rfl rfl rfl ?_
    refine s_y (y_add rfl rfl (by omega)) rfl rfl rfl ?_
    refine s_y (y_assign rfl) rfl rfl rfl ?_
    refine s_nil ?_
    exact f_roundP (pos + 1, m2, o) ⟨by omega, by show (m2 : Int) = _; rw [mulc pos _ 0]; omega, by show (m2 : Int) ≤ _; rw [mulc pos _ 0]; omega, ho⟩ (by show (np l - (pos + 1)).toNat < (np l - pos).toNat; omega) ⟨rfl, rfl, rfl, by rw [mulc pos _ 0, ← Int.add_assoc]; rfl, rfl, rfl, rfl, trivial⟩ (fun w h => h)
  have hklt : k < (rD l s (q * l.m) + l.b - 1) / l.b := by
    rcases Int.lt_or_le k ((rD l s (q * l.m) + l.b - 1) / l.b) with hx | hx
    · exact hx
    · have e : k = (rD l s (q * l.m) + l.b - 1) / l.b := by omega
      rw [← e] at hcb
      omega
  have hB := bun_mk (l := l) (s := s) (p := np l) hq hlt hm.1 ⟨hpos.1, hlt2⟩ ⟨hk.1, hklt⟩
  have hBl := hB.lo h.1
  have hBt := (hB.lt h.1 h.2).2
  rw [← hmk] at hBl hBt
  have hpd2 : (pos + 1) * rD l s (q * l.m) ≤ np l * rD l s (q * l.m) := Int.mul_le_mul_of_nonneg_right (by omega) (by omega)
  rw [mulc pos _ 0] at hpd2
  have hv : vw 1 m2 (fun i _ => .int .i64 (bunB l s i)) ++ [.int .i64 (q * l.m * np l + pos * rD l s (q * l.m) + k * l.b)] = vw 1 (m2 + 1) fun i _ => .int .i64 (bunB l s i) := by rw [← vw1_snoc]; unfold bunB; rw [if_pos hBt, hBl]
  refine c_skip ?_
  refine f_then ?_
  refine c_seq ?_
  refine c_block ?_
  refine c_region ?_
  refine s_y (y_move rfl) rfl rfl rfl ?_
  refine s_y (y_move rfl) rfl rfl rfl ?_
  refine s_y (y_move rfl) rfl rfl rfl ?_
  refine s_y (y_add rfl rfl (by omega)) rfl rfl rfl ?_
  refine s_do (do_buildSlice1 Try.tab ⟨rfl, rfl, rfl, rfl⟩ rfl rfl rfl rfl) rfl rfl rfl (fun b46 => ?_)
  refine s_do (do_appendO Try.tab 1 (s := 1) (by_ := 8) (k := 1) (news := [.int .i64 (q * l.m * np l + pos * rD l s (q * l.m) + k * l.b)]) (xs := vw 1 m2 (fun i _ => .int .i64 (bunB l s i))) (o := o) rfl rfl ⟨rfl, rfl, rfl, rfl⟩ rfl rfl (by simp) ho (cells_row0 0 rfl rfl) rfl (by simp [Value.oneCell']) (by omega) (by unfold maxLen; omega) (by omega)) rfl rfl rfl (fun o2 => ?_)
  refine s_y (y_assign rfl) rfl rfl rfl ?_
  refine s_nil ?_
  refine f_blockN ?_
  refine f_then ?_
  refine c_region ?_
  refine s_y (y_move rfl) rfl rfl rfl ?_
  refine s_y (y_fieldAddrB Try.tab 3 rfl rfl rfl rfl rfl) rfl rfl rfl ?_
  refine s_y (y_load Try.tab rfl rfl (cell_row 2 rfl rfl)) rfl rfl rfl ?_
  refine s_y (y_add rfl rfl (by omega)) rfl rfl rfl ?_
  refine s_y (y_assign rfl) rfl rfl rfl ?_
  refine s_nil ?_
  exact f_roundP (k + 1, m2 + 1, some o2.1) ⟨by omega, by show ((m2 + 1 : Nat) : Int) = _; omega, by show ((m2 + 1 : Nat) : Int) ≤ _; rw [mulc k l.b 0]; omega, by rw [← hv]; exact o2.2⟩ (by show ((rD l s (q * l.m) + l.b - 1) / l.b - (k + 1)).toNat < ((rD l s (q * l.m) + l.b - 1) / l.b - k).toNat; omega) ⟨rfl, rfl, rfl, rfl, rfl, rfl, rfl, by rw [mulc k l.b 0]; rfl, trivial⟩ (fun w h => by rw [← hv]; exact h.tail)
end Go.KL
end

section
/- The walk of SheetBundles. -/
namespace Go.KL
open Go.Proofs
/-- Each note of a bundle is in it. -/
theorem Bun.of {l : Lay} {s p n q f d c st k N : Int} (h : Bun l s p n q f d c st k) (hl : l.OK) (h1 : bunLo l s p n ≤ N) (h2 : N < bunHi l s p n) : bunOfF l s p N = n := by
  have hb := hl.b; have hm := hl.m
  rw [h.lo hl] at h1
  rw [h.hi hl, mulc st d 0] at h2
  have hk0 := Int.mul_nonneg h.k.1 (show 0 ≤ l.b by omega)
  have hj : 0 ≤ N - f * p - st * d ∧ N - f * p - st * d < d := by omega
  have hr := h.inR hj
  have e : N = plN p f d st (N - f * p - st * d) := by unfold plN; omega
  obtain ⟨ef, h5, h6, h7, _⟩ := pl_ream (p := p) hr h.st
  rw [← e] at ef h5
  unfold bunOfF rbun
  rw [ef, ← h.dd, show f / l.m = q by rw [h.fq]; exact Int.mul_ediv_cancel _ (by omega), h5, h6, h7, show (N - f * p - st * d) / l.b = k from div_of (r := N - f * p - st * d - k * l.b) (by omega) (by omega) (by omega), ← h.cc]
  exact h.n.symm
theorem BundleOf_at (W : World) (Ls : List Chunk) (l : Lay) (s note z : Int) (h : Gd l s) (hn : 0 ≤ note ∧ note < s * np l) (e : bunOfF l s (np l) note = z) : Spec Try.prog 39 #[l.v, .int .i64 s, .int .i64 note] (K W Ls) (fun _ : Unit => .tuple #[.int .i64 z, .int .i64 0]) (fun _ => K W Ls) := e ▸ BundleOf_ok W Ls l s note h hn
/-- A bundle of the run, its list's entries and its notes' number. -/
theorem bun_facts {l : Lay} {s : Int} (h : Gd l s) {n : Nat} (hn : (n : Int) < bunsF l s (np l)) :
    (bunB l s n = bunLo l s (np l) n ∧ bunB l s (n + 1) = bunHi l s (np l) n) ∧ (0 ≤ bunLo l s (np l) n ∧ bunLo l s (np l) n < s * np l ∧ bunOfF l s (np l) (bunLo l s (np l) n) = n) ∧
    (0 ≤ bunHi l s (np l) n - 1 ∧ bunHi l s (np l) n - 1 < s * np l ∧ bunOfF l s (np l) (bunHi l s (np l) n - 1) = n) := by
  have hp := np_bd h.1
  obtain ⟨q, f, d, c, st, k, hb⟩ := bun_at h.1 h.2 hp (n := n) ⟨by omega, hn⟩
  obtain ⟨b1, b2, b3, b4⟩ := hb.bd h.1
  refine ⟨⟨by unfold bunB; rw [if_pos hn], ?_⟩, ⟨b3, by omega, hb.of h.1 (by omega) (by omega)⟩, by omega, by omega, hb.of h.1 (by omega) (by omega)⟩
  unfold bunB
  by_cases e : ((n + 1 : Nat) : Int) < bunsF l s (np l)
  · rw [if_pos e]
    exact bun_next (n := (n : Int)) h.1 h.2 hp ⟨by omega, by omega⟩
  · rw [if_neg e, bun_last h.1 h.2 hp (n := n) ⟨by omega, hn⟩ (by omega)]
attribute [local irreducible] SC St Fin Sq Sw Ylds Doos Sets Enters Spec CellIs CellsAre Then Ret Rnd Chn resOK ints bools recs arr
set_option maxRecDepth 10000 in
set_option maxHeartbeats 40000000 in
theorem sheetBundles_walk (W : World) (l : Lay) (s bundle N : Int) : Spec Try.prog 12 #[l.v, .int .i64 s, .int .i64 bundle, .int .i64 N] (K W []) (fun _ : Unit => .bool true) (fun _ => K W []) := by
  refine enter (args := [_, _, _, _]) Try.func12 rfl Try.ntmps12 rfl ?_
  by_cases hg : Gd l s ∧ s * np l ≤ 3000
  rotate_left
  · refine c_seq ?_
    refine c_region ?_
    refine s_do (do_box rfl) rfl rfl rfl (fun b4 => ?_)
    refine s_y (y_assign rfl) rfl rfl rfl ?_
    refine s_nil ?_
    refine f_then ?_
    refine c_seq ?_
    refine c_seq ?_
    refine c_region ?_
    refine s_y (y_loadA Try.tab rfl rfl rfl rfl (cells_row0 0 rfl rfl)) rfl rfl rfl ?_
    refine s_y (y_move rfl) rfl rfl rfl ?_
    refine s_call (en_f rfl Try.call27) (small_no W _ _ _ hg) rfl rfl rfl (fun _ => ?_)
    refine s_y (y_notF rfl) rfl rfl rfl ?_
    refine s_nil ?_
    refine f_then ?_
    refine c_condT rfl ?_
    refine c_seq ?_
    refine c_region ?_
    refine s_call (en_f rfl Try.call15) (awake_spec W _) rfl rfl rfl (fun _ => ?_)
    refine s_y (y_assign rfl) rfl rfl rfl ?_
    refine s_nil ?_
    refine f_then ?_
    refine c_ret ?_
    refine f_thenR ?_
    exact f_ret () (res1 rfl rfl) (fun w h => h.any)
  obtain ⟨h, hsm⟩ := id hg
  have hp := np_bd h.1; have h4 := h.2; have h1 := h.1.r; have h2 := h.1.c
  have hbb := buns_bd l s (np l) h.1 h.2 hp
  have q2 := mul_bd (a := s) (b := l.r) (A := 1048576) (B := 16) (by omega) (by omega)
  have q3 := mul_bd (a := s * l.r) (b := l.c) (A := 1048576 * 16) (B := 16) (by omega) (by omega)
  have e1 : s * l.r * l.c = s * np l := Int.mul_assoc _ _ _
  refine c_seq ?_
  refine c_region ?_
  refine s_do (do_box rfl) rfl rfl rfl (fun b4 => ?_)
  refine s_y (y_assign rfl) rfl rfl rfl ?_
  refine s_nil ?_
  refine f_then ?_
  refine c_seq ?_
  refine c_seq ?_
  refine c_region ?_
  refine s_y (y_loadA Try.tab rfl rfl rfl rfl (cells_row0 0 rfl rfl)) rfl rfl rfl ?_
  refine s_y (y_move rfl) rfl rfl rfl ?_
  refine s_call (en_f rfl Try.call27) (small_yes W _ _ _ hg) rfl rfl rfl (fun _ => ?_)
  refine s_y (y_notT rfl) rfl rfl rfl ?_
  refine s_nil ?_
  refine f_then ?_
  refine c_condF rfl ?_
  refine c_skip ?_
  refine f_then ?_
  refine c_seq ?_
  refine c_region ?_
  refine s_y (y_loadA Try.tab rfl rfl rfl rfl (cells_row0 0 rfl rfl)) rfl rfl rfl ?_
  refine s_y (y_move rfl) rfl rfl rfl ?_
  refine s_call (en_f rfl Try.call36) (blist_spec W _ l s h hsm) rfl rfl rfl (fun x => ?_)
  obtain ⟨⟨n, o⟩, ⟨hn, hns⟩, ho⟩ := x
  dsimp only at hn hns ho ⊢
  refine s_y (y_assign rfl) rfl rfl rfl ?_
  refine s_nil ?_
  refine f_then ?_
  refine c_seq ?_
  refine c_region ?_
  refine s_y (y_loadA Try.tab rfl rfl rfl rfl (cells_row0 1 rfl rfl)) rfl rfl rfl ?_
  refine s_y (y_move rfl) rfl rfl rfl ?_
  refine s_call (en_f rfl Try.call37) (Bundles_ok W _ _ _ h) rfl rfl rfl (fun _ => ?_)
  refine s_y (y_move rfl) rfl rfl rfl ?_
  refine s_y (y_extract rfl rfl) rfl rfl rfl ?_
  refine s_y (y_extract rfl rfl) rfl rfl rfl ?_
  refine s_y (y_assign rfl) rfl rfl rfl ?_
  refine s_y (y_assign rfl) rfl rfl rfl ?_
  refine s_nil ?_
  refine f_then ?_
  refine c_seq ?_
  refine c_seq ?_
  refine c_region ?_
  refine s_y (y_move rfl) rfl rfl rfl ?_
  refine s_y (y_move rfl) rfl rfl rfl ?_
  refine s_y (y_len Try.tab rfl rfl) rfl rfl rfl ?_
  refine s_y (y_sub rfl rfl (by omega)) rfl rfl rfl ?_
  refine s_y (y_F (y_neq rfl rfl) (by omega)) rfl rfl rfl ?_
  refine s_y (y_move rfl) rfl rfl rfl ?_
  refine s_y (y_move rfl) rfl rfl rfl ?_
  refine s_y (y_F (y_neq rfl rfl) (by omega)) rfl rfl rfl ?_
  refine s_y (y_pickF rfl rfl) rfl rfl rfl ?_
  refine s_nil ?_
  refine f_then ?_
  refine c_condF rfl ?_
  refine c_skip ?_
  refine f_then ?_
  refine c_seq ?_
  refine c_seq ?_
  refine c_region ?_
  refine s_y (y_assign rfl) rfl rfl rfl ?_
  refine s_nil ?_
  refine f_then ?_
  refine c_block ?_
  have hV : SlI (K W (och 3 o (vw 1 (n + 1) fun i _ => .int .i64 (bunB l s i)) :: [[(b4, row 23 l.v.cells.toList)]])) (osl o (n + 1)) (n + 1) (bunB l s) := SlV.vw 0 rfl ho
  have hC : ∀ i, i < n + 1 → CellIs (K W (och 3 o (vw 1 (n + 1) fun i _ => .int .i64 (bunB l s i)) :: [[(b4, row 23 l.v.cells.toList)]])) ⟨o.b, o.pre.length + i, none⟩ (.int .i64 (bunB l s i)) := fun i hi => cell_own 0 rfl i rfl (by have := vw_get (g := fun i _ => Value.int .i64 (bunB l s i)) hi (show 0 < 1 by omega); rwa [Nat.mul_one, Nat.add_zero] at this)
  refine c_loopP (α := Nat) (fun z => [(1, .int .i64 s), (2, .int .i64 bundle), (3, .int .i64 N), (4, .pointer (some ⟨b4, 0, none⟩)), (9, osl o (n + 1)), (10, .int .i64 (bunsF l s (np l))), (12, .int .i64 z)]) (fun z => z ≤ n)
    (fun _ => K W (och 3 o (vw 1 (n + 1) fun i _ => .int .i64 (bunB l s i)) :: [[(b4, row 23 l.v.cells.toList)]])) (fun z => n - z) 0 ⟨rfl, rfl, rfl, rfl, rfl, rfl, rfl, trivial⟩ (Nat.zero_le _) (fun w h => h) ?_
  rintro i hi
  refine c_seq ?_
  refine c_seq ?_
  refine c_region ?_
  refine s_y (y_move rfl) rfl rfl rfl ?_
  refine s_y (y_move rfl) rfl rfl rfl ?_
  refine s_y (y_lss rfl rfl) rfl rfl rfl ?_
  refine s_nil ?_
  refine f_then ?_
  refine c_condD rfl (fun hlt => ?_) (fun hge => ?_)
  · obtain ⟨⟨f1, f2⟩, ⟨f3, f4, hE1⟩, f6, f7, hE2⟩ := bun_facts h (n := i) (by omega)
    have c1 := hC i (by omega)
    have c2 := hC (i + 1) (by omega)
    have hN1 := And.intro f3 f4
    have hN2 := And.intro f6 f7
    refine c_skip ?_
    refine f_then ?_
    refine c_seq ?_
    refine c_block ?_
    refine c_seq ?_
    refine c_region ?_
    refine s_y (y_loadA Try.tab rfl rfl rfl rfl (cells_row0 1 rfl rfl)) rfl rfl rfl ?_
    refine s_y (y_move rfl) rfl rfl rfl ?_
    refine s_y (y_move rfl) rfl rfl rfl ?_
    refine s_call (en_f rfl Try.call38) (Bundle_ok W _ _ _ _ h ⟨by omega, by omega⟩) rfl rfl rfl (fun _ => ?_)
    refine s_y (y_move rfl) rfl rfl rfl ?_
    refine s_y (y_extract rfl rfl) rfl rfl rfl ?_
    refine s_y (y_extract rfl rfl) rfl rfl rfl ?_
    refine s_y (y_extract rfl rfl) rfl rfl rfl ?_
    refine s_y (y_assign rfl) rfl rfl rfl ?_
    refine s_y (y_assign rfl) rfl rfl rfl ?_
    refine s_y (y_assign rfl) rfl rfl rfl ?_
    refine s_nil ?_
    refine f_then ?_
    refine c_seq ?_
    refine c_region ?_
    refine s_y (y_loadA Try.tab rfl rfl rfl rfl (cells_row0 1 rfl rfl)) rfl rfl rfl ?_
    refine s_y (y_move rfl) rfl rfl rfl ?_
    refine s_y (y_move rfl) rfl rfl rfl ?_
    refine s_call (en_f rfl Try.call39) (BundleOf_at W _ _ _ _ _ h hN1 hE1) rfl rfl rfl (fun _ => ?_)
    refine s_y (y_move rfl) rfl rfl rfl ?_
    refine s_y (y_extract rfl rfl) rfl rfl rfl ?_
    refine s_y (y_extract rfl rfl) rfl rfl rfl ?_
    refine s_y (y_assign rfl) rfl rfl rfl ?_
    refine s_y (y_assign rfl) rfl rfl rfl ?_
    refine s_nil ?_
    refine f_then ?_
    refine c_seq ?_
    refine c_region ?_
    refine s_y (y_loadA Try.tab rfl rfl rfl rfl (cells_row0 1 rfl rfl)) rfl rfl rfl ?_
    refine s_y (y_move rfl) rfl rfl rfl ?_
    refine s_y (y_move rfl) rfl rfl rfl ?_
    refine s_y (y_sub rfl rfl (by omega)) rfl rfl rfl ?_
    refine s_call (en_f rfl Try.call39) (BundleOf_at W _ _ _ _ _ h hN2 hE2) rfl rfl rfl (fun _ => ?_)
    refine s_y (y_move rfl) rfl rfl rfl ?_
    refine s_y (y_extract rfl rfl) rfl rfl rfl ?_
    refine s_y (y_extract rfl rfl) rfl rfl rfl ?_
    refine s_y (y_assign rfl) rfl rfl rfl ?_
    refine s_y (y_assign rfl) rfl rfl rfl ?_
    refine s_nil ?_
    refine f_then ?_
    refine c_seq ?_
    refine c_region ?_
    refine s_y (y_move rfl) rfl rfl rfl ?_
    refine s_y (y_move rfl) rfl rfl rfl ?_
    refine s_y (y_move rfl) rfl rfl rfl ?_
    refine s_y (y_indexAddr1o Try.tab rfl rfl rfl rfl _ rfl (by omega)) rfl rfl rfl ?_
    refine s_y (y_load Try.tab rfl rfl c1) rfl rfl rfl ?_
    refine s_y (y_F (y_neq rfl rfl) (by omega)) rfl rfl rfl ?_
    refine s_y (y_move rfl) rfl rfl rfl ?_
    refine s_y (y_move rfl) rfl rfl rfl ?_
    refine s_y (y_move rfl) rfl rfl rfl ?_
    refine s_y (y_move rfl) rfl rfl rfl ?_
    refine s_y (y_add rfl rfl (by omega)) rfl rfl rfl ?_
    refine s_y (y_indexAddr1o Try.tab rfl rfl rfl rfl _ (Int.toNat_of_nonneg (by omega)).symm (by omega)) rfl rfl rfl ?_
    refine s_y (y_load Try.tab rfl rfl c2) rfl rfl rfl ?_
    refine s_y (y_F (y_neq rfl rfl) (by omega)) rfl rfl rfl ?_
    refine s_y (y_pickF rfl rfl) rfl rfl rfl ?_
    refine s_y (y_move rfl) rfl rfl rfl ?_
    refine s_y (y_move rfl) rfl rfl rfl ?_
    refine s_y (y_F (y_neq rfl rfl) (by omega)) rfl rfl rfl ?_
    refine s_y (y_pickF rfl rfl) rfl rfl rfl ?_
    refine s_y (y_move rfl) rfl rfl rfl ?_
    refine s_y (y_move rfl) rfl rfl rfl ?_
    refine s_y (y_move rfl) rfl rfl rfl ?_
    refine s_y (y_F (y_neq rfl rfl) (by omega)) rfl rfl rfl ?_
    refine s_y (y_pickF rfl rfl) rfl rfl rfl ?_
    refine s_y (y_move rfl) rfl rfl rfl ?_
    refine s_y (y_move rfl) rfl rfl rfl ?_
    refine s_y (y_F (y_neq rfl rfl) (by omega)) rfl rfl rfl ?_
    refine s_y (y_pickF rfl rfl) rfl rfl rfl ?_
    refine s_y (y_move rfl) rfl rfl rfl ?_
    refine s_y (y_move rfl) rfl rfl rfl ?_
    refine s_y (y_move rfl) rfl rfl rfl ?_
    refine s_y (y_F (y_neq rfl rfl) (by omega)) rfl rfl rfl ?_
    refine s_y (y_pickF rfl rfl) rfl rfl rfl ?_
    refine s_y (y_move rfl) rfl rfl rfl ?_
    refine s_y (y_move rfl) rfl rfl rfl ?_
    refine s_y (y_F (y_neq rfl rfl) (by omega)) rfl rfl rfl ?_
    refine s_y (y_pickF rfl rfl) rfl rfl rfl ?_
    refine s_nil ?_
    refine f_then ?_
    refine c_condF rfl ?_
    refine c_skip ?_
    refine f_blockN ?_
    refine f_then ?_
    refine c_region ?_
    refine s_y (y_move rfl) rfl rfl rfl ?_
    refine s_y (y_add rfl rfl (by omega)) rfl rfl rfl ?_
    refine s_y (y_assign rfl) rfl rfl rfl ?_
    refine s_nil ?_
    exact f_roundP (i + 1) (by omega) (by omega) ⟨rfl, rfl, rfl, rfl, rfl, rfl, rfl, trivial⟩ (fun w h => h)
  rcases (show (bundle < 0) ∨ (0 ≤ bundle ∧ bundle < bunsF l s (np l)) ∨ (0 ≤ bundle ∧ bunsF l s (np l) ≤ bundle) by omega) with hb | hb | hb
  · rcases (show (N < 0) ∨ (0 ≤ N ∧ s * np l ≤ N) ∨ (0 ≤ N ∧ N < s * np l) by omega) with hN | hN | hN
    · refine c_exit ?_
      refine f_thenE ?_
      refine f_rndE ?_
      refine f_blockE ?_
      refine f_then ?_
      refine c_seq ?_
      refine c_seq ?_
      refine c_region ?_
      refine s_y (y_move rfl) rfl rfl rfl ?_
      refine s_y (y_T (y_lss rfl rfl) (by assumption)) rfl rfl rfl ?_
      refine s_y (y_move rfl) rfl rfl rfl ?_
      iterate 3 refine s_skip rfl rfl rfl ?_
      refine s_y (y_pickT rfl rfl) rfl rfl rfl ?_
      refine s_nil ?_
      refine f_then ?_
      refine c_condT rfl ?_
      refine c_seq ?_
      refine c_region ?_
      refine s_y (y_loadA Try.tab rfl rfl rfl rfl (cells_row0 1 rfl rfl)) rfl rfl rfl ?_
      refine s_y (y_move rfl) rfl rfl rfl ?_
      refine s_y (y_move rfl) rfl rfl rfl ?_
      refine s_call (en_f rfl Try.call38) (Bundle_range W _ _ _ _ h (by omega)) rfl rfl rfl (fun _ => ?_)
      refine s_y (y_move rfl) rfl rfl rfl ?_
      refine s_y (y_extract rfl rfl) rfl rfl rfl ?_
      refine s_y (y_extract rfl rfl) rfl rfl rfl ?_
      refine s_y (y_extract rfl rfl) rfl rfl rfl ?_
      refine s_y (y_assign rfl) rfl rfl rfl ?_
      refine s_y (y_assign rfl) rfl rfl rfl ?_
      refine s_y (y_assign rfl) rfl rfl rfl ?_
      refine s_nil ?_
      refine f_then ?_
      refine c_seq ?_
      refine c_region ?_
      refine s_y (y_move rfl) rfl rfl rfl ?_
      refine s_y (y_F (y_neq rfl rfl) (by omega)) rfl rfl rfl ?_
      refine s_y (y_move rfl) rfl rfl rfl ?_
      refine s_y (y_move rfl) rfl rfl rfl ?_
      refine s_y (y_F (y_neq rfl rfl) (by omega)) rfl rfl rfl ?_
      refine s_y (y_pickF rfl rfl) rfl rfl rfl ?_
      refine s_y (y_move rfl) rfl rfl rfl ?_
      refine s_y (y_move rfl) rfl rfl rfl ?_
      refine s_y (y_F (y_neq rfl rfl) (by omega)) rfl rfl rfl ?_
      refine s_y (y_pickF rfl rfl) rfl rfl rfl ?_
      refine s_nil ?_
      refine f_then ?_
      refine c_condF rfl ?_
      refine c_skip ?_
      refine f_then ?_
      refine c_seq ?_
      refine c_region ?_
      refine s_y (y_loadA Try.tab rfl rfl rfl rfl (cells_row0 1 rfl rfl)) rfl rfl rfl ?_
      refine s_y (y_move rfl) rfl rfl rfl ?_
      refine s_y (y_move rfl) rfl rfl rfl ?_
      refine s_call (en_f rfl Try.call39) (BundleOf_range W _ _ _ _ h (by omega)) rfl rfl rfl (fun _ => ?_)
      refine s_y (y_move rfl) rfl rfl rfl ?_
      refine s_y (y_extract rfl rfl) rfl rfl rfl ?_
      refine s_y (y_extract rfl rfl) rfl rfl rfl ?_
      refine s_y (y_assign rfl) rfl rfl rfl ?_
      refine s_y (y_assign rfl) rfl rfl rfl ?_
      refine s_nil ?_
      refine f_then ?_
      refine c_seq ?_
      refine c_seq ?_
      refine c_region ?_
      refine s_y (y_move rfl) rfl rfl rfl ?_
      refine s_y (y_T (y_lss rfl rfl) (by assumption)) rfl rfl rfl ?_
      refine s_y (y_move rfl) rfl rfl rfl ?_
      iterate 9 refine s_skip rfl rfl rfl ?_
      refine s_y (y_pickT rfl rfl) rfl rfl rfl ?_
      refine s_nil ?_
      refine f_then ?_
      refine c_condT rfl ?_
      refine c_seq ?_
      refine c_region ?_
      refine s_y (y_move rfl) rfl rfl rfl ?_
      refine s_y (y_T (y_eql rfl rfl) (by omega)) rfl rfl rfl ?_
      refine s_y (y_move rfl) rfl rfl rfl ?_
      refine s_y (y_move rfl) rfl rfl rfl ?_
      refine s_y (y_T (y_eql rfl rfl) (by omega)) rfl rfl rfl ?_
      refine s_y (y_pickT rfl rfl) rfl rfl rfl ?_
      refine s_y (y_move rfl) rfl rfl rfl ?_
      refine s_call (en_f rfl Try.call15) (awake_spec W _) rfl rfl rfl (fun _ => ?_)
      refine s_y (y_pickT rfl rfl) rfl rfl rfl ?_
      refine s_y (y_assign rfl) rfl rfl rfl ?_
      refine s_nil ?_
      refine f_then ?_
      refine c_ret ?_
      refine f_thenR ?_
      exact f_ret () (res1 rfl rfl) (fun w h => h.any)
    · refine c_exit ?_
      refine f_thenE ?_
      refine f_rndE ?_
      refine f_blockE ?_
      refine f_then ?_
      refine c_seq ?_
      refine c_seq ?_
      refine c_region ?_
      refine s_y (y_move rfl) rfl rfl rfl ?_
      refine s_y (y_T (y_lss rfl rfl) (by assumption)) rfl rfl rfl ?_
      refine s_y (y_move rfl) rfl rfl rfl ?_
      iterate 3 refine s_skip rfl rfl rfl ?_
      refine s_y (y_pickT rfl rfl) rfl rfl rfl ?_
      refine s_nil ?_
      refine f_then ?_
      refine c_condT rfl ?_
      refine c_seq ?_
      refine c_region ?_
      refine s_y (y_loadA Try.tab rfl rfl rfl rfl (cells_row0 1 rfl rfl)) rfl rfl rfl ?_
      refine s_y (y_move rfl) rfl rfl rfl ?_
      refine s_y (y_move rfl) rfl rfl rfl ?_
      refine s_call (en_f rfl Try.call38) (Bundle_range W _ _ _ _ h (by omega)) rfl rfl rfl (fun _ => ?_)
      refine s_y (y_move rfl) rfl rfl rfl ?_
      refine s_y (y_extract rfl rfl) rfl rfl rfl ?_
      refine s_y (y_extract rfl rfl) rfl rfl rfl ?_
      refine s_y (y_extract rfl rfl) rfl rfl rfl ?_
      refine s_y (y_assign rfl) rfl rfl rfl ?_
      refine s_y (y_assign rfl) rfl rfl rfl ?_
      refine s_y (y_assign rfl) rfl rfl rfl ?_
      refine s_nil ?_
      refine f_then ?_
      refine c_seq ?_
      refine c_region ?_
      refine s_y (y_move rfl) rfl rfl rfl ?_
      refine s_y (y_F (y_neq rfl rfl) (by omega)) rfl rfl rfl ?_
      refine s_y (y_move rfl) rfl rfl rfl ?_
      refine s_y (y_move rfl) rfl rfl rfl ?_
      refine s_y (y_F (y_neq rfl rfl) (by omega)) rfl rfl rfl ?_
      refine s_y (y_pickF rfl rfl) rfl rfl rfl ?_
      refine s_y (y_move rfl) rfl rfl rfl ?_
      refine s_y (y_move rfl) rfl rfl rfl ?_
      refine s_y (y_F (y_neq rfl rfl) (by omega)) rfl rfl rfl ?_
      refine s_y (y_pickF rfl rfl) rfl rfl rfl ?_
      refine s_nil ?_
      refine f_then ?_
      refine c_condF rfl ?_
      refine c_skip ?_
      refine f_then ?_
      refine c_seq ?_
      refine c_region ?_
      refine s_y (y_loadA Try.tab rfl rfl rfl rfl (cells_row0 1 rfl rfl)) rfl rfl rfl ?_
      refine s_y (y_move rfl) rfl rfl rfl ?_
      refine s_y (y_move rfl) rfl rfl rfl ?_
      refine s_call (en_f rfl Try.call39) (BundleOf_range W _ _ _ _ h (by omega)) rfl rfl rfl (fun _ => ?_)
      refine s_y (y_move rfl) rfl rfl rfl ?_
      refine s_y (y_extract rfl rfl) rfl rfl rfl ?_
      refine s_y (y_extract rfl rfl) rfl rfl rfl ?_
      refine s_y (y_assign rfl) rfl rfl rfl ?_
      refine s_y (y_assign rfl) rfl rfl rfl ?_
      refine s_nil ?_
      refine f_then ?_
      refine c_seq ?_
      refine c_seq ?_
      refine c_region ?_
      refine s_y (y_move rfl) rfl rfl rfl ?_
      refine s_y (y_F (y_lss rfl rfl) (by omega)) rfl rfl rfl ?_
      refine s_y (y_move rfl) rfl rfl rfl ?_
      refine s_y (y_move rfl) rfl rfl rfl ?_
      refine s_y (y_move rfl) rfl rfl rfl ?_
      refine s_y (y_fieldAddr0 Try.tab rfl rfl rfl rfl rfl) rfl rfl rfl ?_
      refine s_y (y_load Try.tab rfl rfl (cell_row 1 rfl rfl)) rfl rfl rfl ?_
      refine s_y (y_mul rfl rfl (by omega)) rfl rfl rfl ?_
      refine s_y (y_fieldAddrB Try.tab 1 rfl rfl rfl rfl rfl) rfl rfl rfl ?_
      refine s_y (y_load Try.tab rfl rfl (cell_row 1 rfl rfl)) rfl rfl rfl ?_
      refine s_y (y_mul rfl rfl (by omega)) rfl rfl rfl ?_
      refine s_y (y_T (y_geq rfl rfl) (by omega)) rfl rfl rfl ?_
      refine s_y (y_pickF rfl rfl) rfl rfl rfl ?_
      refine s_nil ?_
      refine f_then ?_
      refine c_condT rfl ?_
      refine c_seq ?_
      refine c_region ?_
      refine s_y (y_move rfl) rfl rfl rfl ?_
      refine s_y (y_T (y_eql rfl rfl) (by omega)) rfl rfl rfl ?_
      refine s_y (y_move rfl) rfl rfl rfl ?_
      refine s_y (y_move rfl) rfl rfl rfl ?_
      refine s_y (y_T (y_eql rfl rfl) (by omega)) rfl rfl rfl ?_
      refine s_y (y_pickT rfl rfl) rfl rfl rfl ?_
      refine s_y (y_move rfl) rfl rfl rfl ?_
      refine s_call (en_f rfl Try.call15) (awake_spec W _) rfl rfl rfl (fun _ => ?_)
      refine s_y (y_pickT rfl rfl) rfl rfl rfl ?_
      refine s_y (y_assign rfl) rfl rfl rfl ?_
      refine s_nil ?_
      refine f_then ?_
      refine c_ret ?_
      refine f_thenR ?_
      exact f_ret () (res1 rfl rfl) (fun w h => h.any)
    · obtain ⟨d1, d2, d3⟩ := bunOf_at h.1 h.2 hp hN
      obtain ⟨j, hE⟩ := Int.eq_ofNat_of_zero_le d1.1
      rw [hE] at d1 d2 d3
      obtain ⟨⟨f1, f2⟩, _, _⟩ := bun_facts h (n := j) d1.2
      have c1 := hC j (by omega)
      have c2 := hC (j + 1) (by omega)
      refine c_exit ?_
      refine f_thenE ?_
      refine f_rndE ?_
      refine f_blockE ?_
      refine f_then ?_
      refine c_seq ?_
      refine c_seq ?_
      refine c_region ?_
      refine s_y (y_move rfl) rfl rfl rfl ?_
      refine s_y (y_T (y_lss rfl rfl) (by assumption)) rfl rfl rfl ?_
      refine s_y (y_move rfl) rfl rfl rfl ?_
      iterate 3 refine s_skip rfl rfl rfl ?_
      refine s_y (y_pickT rfl rfl) rfl rfl rfl ?_
      refine s_nil ?_
      refine f_then ?_
      refine c_condT rfl ?_
      refine c_seq ?_
      refine c_region ?_
      refine s_y (y_loadA Try.tab rfl rfl rfl rfl (cells_row0 1 rfl rfl)) rfl rfl rfl ?_
      refine s_y (y_move rfl) rfl rfl rfl ?_
      refine s_y (y_move rfl) rfl rfl rfl ?_
      refine s_call (en_f rfl Try.call38) (Bundle_range W _ _ _ _ h (by omega)) rfl rfl rfl (fun _ => ?_)
      refine s_y (y_move rfl) rfl rfl rfl ?_
      refine s_y (y_extract rfl rfl) rfl rfl rfl ?_
      refine s_y (y_extract rfl rfl) rfl rfl rfl ?_
      refine s_y (y_extract rfl rfl) rfl rfl rfl ?_
      refine s_y (y_assign rfl) rfl rfl rfl ?_
      refine s_y (y_assign rfl) rfl rfl rfl ?_
      refine s_y (y_assign rfl) rfl rfl rfl ?_
      refine s_nil ?_
      refine f_then ?_
      refine c_seq ?_
      refine c_region ?_
      refine s_y (y_move rfl) rfl rfl rfl ?_
      refine s_y (y_F (y_neq rfl rfl) (by omega)) rfl rfl rfl ?_
      refine s_y (y_move rfl) rfl rfl rfl ?_
      refine s_y (y_move rfl) rfl rfl rfl ?_
      refine s_y (y_F (y_neq rfl rfl) (by omega)) rfl rfl rfl ?_
      refine s_y (y_pickF rfl rfl) rfl rfl rfl ?_
      refine s_y (y_move rfl) rfl rfl rfl ?_
      refine s_y (y_move rfl) rfl rfl rfl ?_
      refine s_y (y_F (y_neq rfl rfl) (by omega)) rfl rfl rfl ?_
      refine s_y (y_pickF rfl rfl) rfl rfl rfl ?_
      refine s_nil ?_
      refine f_then ?_
      refine c_condF rfl ?_
      refine c_skip ?_
      refine f_then ?_
      refine c_seq ?_
      refine c_region ?_
      refine s_y (y_loadA Try.tab rfl rfl rfl rfl (cells_row0 1 rfl rfl)) rfl rfl rfl ?_
      refine s_y (y_move rfl) rfl rfl rfl ?_
      refine s_y (y_move rfl) rfl rfl rfl ?_
      refine s_call (en_f rfl Try.call39) (BundleOf_at W _ _ _ _ _ h hN hE) rfl rfl rfl (fun _ => ?_)
      refine s_y (y_move rfl) rfl rfl rfl ?_
      refine s_y (y_extract rfl rfl) rfl rfl rfl ?_
      refine s_y (y_extract rfl rfl) rfl rfl rfl ?_
      refine s_y (y_assign rfl) rfl rfl rfl ?_
      refine s_y (y_assign rfl) rfl rfl rfl ?_
      refine s_nil ?_
      refine f_then ?_
      refine c_seq ?_
      refine c_seq ?_
      refine c_region ?_
      refine s_y (y_move rfl) rfl rfl rfl ?_
      refine s_y (y_F (y_lss rfl rfl) (by omega)) rfl rfl rfl ?_
      refine s_y (y_move rfl) rfl rfl rfl ?_
      refine s_y (y_move rfl) rfl rfl rfl ?_
      refine s_y (y_move rfl) rfl rfl rfl ?_
      refine s_y (y_fieldAddr0 Try.tab rfl rfl rfl rfl rfl) rfl rfl rfl ?_
      refine s_y (y_load Try.tab rfl rfl (cell_row 1 rfl rfl)) rfl rfl rfl ?_
      refine s_y (y_mul rfl rfl (by omega)) rfl rfl rfl ?_
      refine s_y (y_fieldAddrB Try.tab 1 rfl rfl rfl rfl rfl) rfl rfl rfl ?_
      refine s_y (y_load Try.tab rfl rfl (cell_row 1 rfl rfl)) rfl rfl rfl ?_
      refine s_y (y_mul rfl rfl (by omega)) rfl rfl rfl ?_
      refine s_y (y_F (y_geq rfl rfl) (by omega)) rfl rfl rfl ?_
      refine s_y (y_pickF rfl rfl) rfl rfl rfl ?_
      refine s_nil ?_
      refine f_then ?_
      refine c_condF rfl ?_
      refine c_skip ?_
      refine f_then ?_
      refine c_seq ?_
      refine c_region ?_
      refine s_y (y_move rfl) rfl rfl rfl ?_
      refine s_y (y_T (y_eql rfl rfl) (by omega)) rfl rfl rfl ?_
      refine s_y (y_move rfl) rfl rfl rfl ?_
      refine s_y (y_move rfl) rfl rfl rfl ?_
      refine s_y (y_T (y_geq rfl rfl) (by omega)) rfl rfl rfl ?_
      refine s_y (y_pickT rfl rfl) rfl rfl rfl ?_
      refine s_y (y_move rfl) rfl rfl rfl ?_
      refine s_y (y_move rfl) rfl rfl rfl ?_
      refine s_y (y_move rfl) rfl rfl rfl ?_
      refine s_y (y_T (y_lss rfl rfl) (by omega)) rfl rfl rfl ?_
      refine s_y (y_pickT rfl rfl) rfl rfl rfl ?_
      refine s_y (y_move rfl) rfl rfl rfl ?_
      refine s_y (y_move rfl) rfl rfl rfl ?_
      refine s_y (y_move rfl) rfl rfl rfl ?_
      refine s_y (y_indexAddr1o Try.tab rfl rfl rfl rfl _ rfl (by omega)) rfl rfl rfl ?_
      refine s_y (y_load Try.tab rfl rfl c1) rfl rfl rfl ?_
      refine s_y (y_move rfl) rfl rfl rfl ?_
      refine s_y (y_T (y_leq rfl rfl) (by omega)) rfl rfl rfl ?_
      refine s_y (y_pickT rfl rfl) rfl rfl rfl ?_
      refine s_y (y_move rfl) rfl rfl rfl ?_
      refine s_y (y_move rfl) rfl rfl rfl ?_
      refine s_y (y_move rfl) rfl rfl rfl ?_
      refine s_y (y_move rfl) rfl rfl rfl ?_
      refine s_y (y_add rfl rfl (by omega)) rfl rfl rfl ?_
      refine s_y (y_indexAddr1o Try.tab rfl rfl rfl rfl _ (Int.toNat_of_nonneg (by omega)).symm (by omega)) rfl rfl rfl ?_
      refine s_y (y_load Try.tab rfl rfl c2) rfl rfl rfl ?_
      refine s_y (y_T (y_lss rfl rfl) (by omega)) rfl rfl rfl ?_
      refine s_y (y_pickT rfl rfl) rfl rfl rfl ?_
      refine s_y (y_move rfl) rfl rfl rfl ?_
      refine s_call (en_f rfl Try.call15) (awake_spec W _) rfl rfl rfl (fun _ => ?_)
      refine s_y (y_pickT rfl rfl) rfl rfl rfl ?_
      refine s_y (y_assign rfl) rfl rfl rfl ?_
      refine s_nil ?_
      refine f_then ?_
      refine c_ret ?_
      exact f_ret () (res1 rfl rfl) (fun w h => h.any)
  · rcases (show (N < 0) ∨ (0 ≤ N ∧ s * np l ≤ N) ∨ (0 ≤ N ∧ N < s * np l) by omega) with hN | hN | hN
    · refine c_exit ?_
      refine f_thenE ?_
      refine f_rndE ?_
      refine f_blockE ?_
      refine f_then ?_
      refine c_seq ?_
      refine c_seq ?_
      refine c_region ?_
      refine s_y (y_move rfl) rfl rfl rfl ?_
      refine s_y (y_F (y_lss rfl rfl) (by omega)) rfl rfl rfl ?_
      refine s_y (y_move rfl) rfl rfl rfl ?_
      refine s_y (y_move rfl) rfl rfl rfl ?_
      refine s_y (y_move rfl) rfl rfl rfl ?_
      refine s_y (y_F (y_geq rfl rfl) (by omega)) rfl rfl rfl ?_
      refine s_y (y_pickF rfl rfl) rfl rfl rfl ?_
      refine s_nil ?_
      refine f_then ?_
      refine c_condF rfl ?_
      refine c_skip ?_
      refine f_then ?_
      refine c_seq ?_
      refine c_region ?_
      refine s_y (y_loadA Try.tab rfl rfl rfl rfl (cells_row0 1 rfl rfl)) rfl rfl rfl ?_
      refine s_y (y_move rfl) rfl rfl rfl ?_
      refine s_y (y_move rfl) rfl rfl rfl ?_
      refine s_call (en_f rfl Try.call39) (BundleOf_range W _ _ _ _ h (by omega)) rfl rfl rfl (fun _ => ?_)
      refine s_y (y_move rfl) rfl rfl rfl ?_
      refine s_y (y_extract rfl rfl) rfl rfl rfl ?_
      refine s_y (y_extract rfl rfl) rfl rfl rfl ?_
      refine s_y (y_assign rfl) rfl rfl rfl ?_
      refine s_y (y_assign rfl) rfl rfl rfl ?_
      refine s_nil ?_
      refine f_then ?_
      refine c_seq ?_
      refine c_seq ?_
      refine c_region ?_
      refine s_y (y_move rfl) rfl rfl rfl ?_
      refine s_y (y_T (y_lss rfl rfl) (by assumption)) rfl rfl rfl ?_
      refine s_y (y_move rfl) rfl rfl rfl ?_
      iterate 9 refine s_skip rfl rfl rfl ?_
      refine s_y (y_pickT rfl rfl) rfl rfl rfl ?_
      refine s_nil ?_
      refine f_then ?_
      refine c_condT rfl ?_
      refine c_seq ?_
      refine c_region ?_
      refine s_y (y_move rfl) rfl rfl rfl ?_
      refine s_y (y_T (y_eql rfl rfl) (by omega)) rfl rfl rfl ?_
      refine s_y (y_move rfl) rfl rfl rfl ?_
      refine s_y (y_move rfl) rfl rfl rfl ?_
      refine s_y (y_T (y_eql rfl rfl) (by omega)) rfl rfl rfl ?_
      refine s_y (y_pickT rfl rfl) rfl rfl rfl ?_
      refine s_y (y_move rfl) rfl rfl rfl ?_
      refine s_call (en_f rfl Try.call15) (awake_spec W _) rfl rfl rfl (fun _ => ?_)
      refine s_y (y_pickT rfl rfl) rfl rfl rfl ?_
      refine s_y (y_assign rfl) rfl rfl rfl ?_
      refine s_nil ?_
      refine f_then ?_
      refine c_ret ?_
      refine f_thenR ?_
      exact f_ret () (res1 rfl rfl) (fun w h => h.any)
    · refine c_exit ?_
      refine f_thenE ?_
      refine f_rndE ?_
      refine f_blockE ?_
      refine f_then ?_
      refine c_seq ?_
      refine c_seq ?_
      refine c_region ?_
      refine s_y (y_move rfl) rfl rfl rfl ?_
      refine s_y (y_F (y_lss rfl rfl) (by omega)) rfl rfl rfl ?_
      refine s_y (y_move rfl) rfl rfl rfl ?_
      refine s_y (y_move rfl) rfl rfl rfl ?_
      refine s_y (y_move rfl) rfl rfl rfl ?_
      refine s_y (y_F (y_geq rfl rfl) (by omega)) rfl rfl rfl ?_
      refine s_y (y_pickF rfl rfl) rfl rfl rfl ?_
      refine s_nil ?_
      refine f_then ?_
      refine c_condF rfl ?_
      refine c_skip ?_
      refine f_then ?_
      refine c_seq ?_
      refine c_region ?_
      refine s_y (y_loadA Try.tab rfl rfl rfl rfl (cells_row0 1 rfl rfl)) rfl rfl rfl ?_
      refine s_y (y_move rfl) rfl rfl rfl ?_
      refine s_y (y_move rfl) rfl rfl rfl ?_
      refine s_call (en_f rfl Try.call39) (BundleOf_range W _ _ _ _ h (by omega)) rfl rfl rfl (fun _ => ?_)
      refine s_y (y_move rfl) rfl rfl rfl ?_
      refine s_y (y_extract rfl rfl) rfl rfl rfl ?_
      refine s_y (y_extract rfl rfl) rfl rfl rfl ?_
      refine s_y (y_assign rfl) rfl rfl rfl ?_
      refine s_y (y_assign rfl) rfl rfl rfl ?_
      refine s_nil ?_
      refine f_then ?_
      refine c_seq ?_
      refine c_seq ?_
      refine c_region ?_
      refine s_y (y_move rfl) rfl rfl rfl ?_
      refine s_y (y_F (y_lss rfl rfl) (by omega)) rfl rfl rfl ?_
      refine s_y (y_move rfl) rfl rfl rfl ?_
      refine s_y (y_move rfl) rfl rfl rfl ?_
      refine s_y (y_move rfl) rfl rfl rfl ?_
      refine s_y (y_fieldAddr0 Try.tab rfl rfl rfl rfl rfl) rfl rfl rfl ?_
      refine s_y (y_load Try.tab rfl rfl (cell_row 1 rfl rfl)) rfl rfl rfl ?_
      refine s_y (y_mul rfl rfl (by omega)) rfl rfl rfl ?_
      refine s_y (y_fieldAddrB Try.tab 1 rfl rfl rfl rfl rfl) rfl rfl rfl ?_
      refine s_y (y_load Try.tab rfl rfl (cell_row 1 rfl rfl)) rfl rfl rfl ?_
      refine s_y (y_mul rfl rfl (by omega)) rfl rfl rfl ?_
      refine s_y (y_T (y_geq rfl rfl) (by omega)) rfl rfl rfl ?_
      refine s_y (y_pickF rfl rfl) rfl rfl rfl ?_
      refine s_nil ?_
      refine f_then ?_
      refine c_condT rfl ?_
      refine c_seq ?_
      refine c_region ?_
      refine s_y (y_move rfl) rfl rfl rfl ?_
      refine s_y (y_T (y_eql rfl rfl) (by omega)) rfl rfl rfl ?_
      refine s_y (y_move rfl) rfl rfl rfl ?_
      refine s_y (y_move rfl) rfl rfl rfl ?_
      refine s_y (y_T (y_eql rfl rfl) (by omega)) rfl rfl rfl ?_
      refine s_y (y_pickT rfl rfl) rfl rfl rfl ?_
      refine s_y (y_move rfl) rfl rfl rfl ?_
      refine s_call (en_f rfl Try.call15) (awake_spec W _) rfl rfl rfl (fun _ => ?_)
      refine s_y (y_pickT rfl rfl) rfl rfl rfl ?_
      refine s_y (y_assign rfl) rfl rfl rfl ?_
      refine s_nil ?_
      refine f_then ?_
      refine c_ret ?_
      refine f_thenR ?_
      exact f_ret () (res1 rfl rfl) (fun w h => h.any)
    · obtain ⟨d1, d2, d3⟩ := bunOf_at h.1 h.2 hp hN
      obtain ⟨j, hE⟩ := Int.eq_ofNat_of_zero_le d1.1
      rw [hE] at d1 d2 d3
      obtain ⟨⟨f1, f2⟩, _, _⟩ := bun_facts h (n := j) d1.2
      have c1 := hC j (by omega)
      have c2 := hC (j + 1) (by omega)
      refine c_exit ?_
      refine f_thenE ?_
      refine f_rndE ?_
      refine f_blockE ?_
      refine f_then ?_
      refine c_seq ?_
      refine c_seq ?_
      refine c_region ?_
      refine s_y (y_move rfl) rfl rfl rfl ?_
      refine s_y (y_F (y_lss rfl rfl) (by omega)) rfl rfl rfl ?_
      refine s_y (y_move rfl) rfl rfl rfl ?_
      refine s_y (y_move rfl) rfl rfl rfl ?_
      refine s_y (y_move rfl) rfl rfl rfl ?_
      refine s_y (y_F (y_geq rfl rfl) (by omega)) rfl rfl rfl ?_
      refine s_y (y_pickF rfl rfl) rfl rfl rfl ?_
      refine s_nil ?_
      refine f_then ?_
      refine c_condF rfl ?_
      refine c_skip ?_
      refine f_then ?_
      refine c_seq ?_
      refine c_region ?_
      refine s_y (y_loadA Try.tab rfl rfl rfl rfl (cells_row0 1 rfl rfl)) rfl rfl rfl ?_
      refine s_y (y_move rfl) rfl rfl rfl ?_
      refine s_y (y_move rfl) rfl rfl rfl ?_
      refine s_call (en_f rfl Try.call39) (BundleOf_at W _ _ _ _ _ h hN hE) rfl rfl rfl (fun _ => ?_)
      refine s_y (y_move rfl) rfl rfl rfl ?_
      refine s_y (y_extract rfl rfl) rfl rfl rfl ?_
      refine s_y (y_extract rfl rfl) rfl rfl rfl ?_
      refine s_y (y_assign rfl) rfl rfl rfl ?_
      refine s_y (y_assign rfl) rfl rfl rfl ?_
      refine s_nil ?_
      refine f_then ?_
      refine c_seq ?_
      refine c_seq ?_
      refine c_region ?_
      refine s_y (y_move rfl) rfl rfl rfl ?_
      refine s_y (y_F (y_lss rfl rfl) (by omega)) rfl rfl rfl ?_
      refine s_y (y_move rfl) rfl rfl rfl ?_
      refine s_y (y_move rfl) rfl rfl rfl ?_
      refine s_y (y_move rfl) rfl rfl rfl ?_
      refine s_y (y_fieldAddr0 Try.tab rfl rfl rfl rfl rfl) rfl rfl rfl ?_
      refine s_y (y_load Try.tab rfl rfl (cell_row 1 rfl rfl)) rfl rfl rfl ?_
      refine s_y (y_mul rfl rfl (by omega)) rfl rfl rfl ?_
      refine s_y (y_fieldAddrB Try.tab 1 rfl rfl rfl rfl rfl) rfl rfl rfl ?_
      refine s_y (y_load Try.tab rfl rfl (cell_row 1 rfl rfl)) rfl rfl rfl ?_
      refine s_y (y_mul rfl rfl (by omega)) rfl rfl rfl ?_
      refine s_y (y_F (y_geq rfl rfl) (by omega)) rfl rfl rfl ?_
      refine s_y (y_pickF rfl rfl) rfl rfl rfl ?_
      refine s_nil ?_
      refine f_then ?_
      refine c_condF rfl ?_
      refine c_skip ?_
      refine f_then ?_
      refine c_seq ?_
      refine c_region ?_
      refine s_y (y_move rfl) rfl rfl rfl ?_
      refine s_y (y_T (y_eql rfl rfl) (by omega)) rfl rfl rfl ?_
      refine s_y (y_move rfl) rfl rfl rfl ?_
      refine s_y (y_move rfl) rfl rfl rfl ?_
      refine s_y (y_T (y_geq rfl rfl) (by omega)) rfl rfl rfl ?_
      refine s_y (y_pickT rfl rfl) rfl rfl rfl ?_
      refine s_y (y_move rfl) rfl rfl rfl ?_
      refine s_y (y_move rfl) rfl rfl rfl ?_
      refine s_y (y_move rfl) rfl rfl rfl ?_
      refine s_y (y_T (y_lss rfl rfl) (by omega)) rfl rfl rfl ?_
      refine s_y (y_pickT rfl rfl) rfl rfl rfl ?_
      refine s_y (y_move rfl) rfl rfl rfl ?_
      refine s_y (y_move rfl) rfl rfl rfl ?_
      refine s_y (y_move rfl) rfl rfl rfl ?_
      refine s_y (y_indexAddr1o Try.tab rfl rfl rfl rfl _ rfl (by omega)) rfl rfl rfl ?_
      refine s_y (y_load Try.tab rfl rfl c1) rfl rfl rfl ?_
      refine s_y (y_move rfl) rfl rfl rfl ?_
      refine s_y (y_T (y_leq rfl rfl) (by omega)) rfl rfl rfl ?_
      refine s_y (y_pickT rfl rfl) rfl rfl rfl ?_
      refine s_y (y_move rfl) rfl rfl rfl ?_
      refine s_y (y_move rfl) rfl rfl rfl ?_
      refine s_y (y_move rfl) rfl rfl rfl ?_
      refine s_y (y_move rfl) rfl rfl rfl ?_
      refine s_y (y_add rfl rfl (by omega)) rfl rfl rfl ?_
      refine s_y (y_indexAddr1o Try.tab rfl rfl rfl rfl _ (Int.toNat_of_nonneg (by omega)).symm (by omega)) rfl rfl rfl ?_
      refine s_y (y_load Try.tab rfl rfl c2) rfl rfl rfl ?_
      refine s_y (y_T (y_lss rfl rfl) (by omega)) rfl rfl rfl ?_
      refine s_y (y_pickT rfl rfl) rfl rfl rfl ?_
      refine s_y (y_move rfl) rfl rfl rfl ?_
      refine s_call (en_f rfl Try.call15) (awake_spec W _) rfl rfl rfl (fun _ => ?_)
      refine s_y (y_pickT rfl rfl) rfl rfl rfl ?_
      refine s_y (y_assign rfl) rfl rfl rfl ?_
      refine s_nil ?_
      refine f_then ?_
      refine c_ret ?_
      exact f_ret () (res1 rfl rfl) (fun w h => h.any)
  · rcases (show (N < 0) ∨ (0 ≤ N ∧ s * np l ≤ N) ∨ (0 ≤ N ∧ N < s * np l) by omega) with hN | hN | hN
    · refine c_exit ?_
      refine f_thenE ?_
      refine f_rndE ?_
      refine f_blockE ?_
      refine f_then ?_
      refine c_seq ?_
      refine c_seq ?_
      refine c_region ?_
      refine s_y (y_move rfl) rfl rfl rfl ?_
      refine s_y (y_F (y_lss rfl rfl) (by omega)) rfl rfl rfl ?_
      refine s_y (y_move rfl) rfl rfl rfl ?_
      refine s_y (y_move rfl) rfl rfl rfl ?_
      refine s_y (y_move rfl) rfl rfl rfl ?_
      refine s_y (y_T (y_geq rfl rfl) (by omega)) rfl rfl rfl ?_
      refine s_y (y_pickF rfl rfl) rfl rfl rfl ?_
      refine s_nil ?_
      refine f_then ?_
      refine c_condT rfl ?_
      refine c_seq ?_
      refine c_region ?_
      refine s_y (y_loadA Try.tab rfl rfl rfl rfl (cells_row0 1 rfl rfl)) rfl rfl rfl ?_
      refine s_y (y_move rfl) rfl rfl rfl ?_
      refine s_y (y_move rfl) rfl rfl rfl ?_
      refine s_call (en_f rfl Try.call38) (Bundle_range W _ _ _ _ h (by omega)) rfl rfl rfl (fun _ => ?_)
      refine s_y (y_move rfl) rfl rfl rfl ?_
      refine s_y (y_extract rfl rfl) rfl rfl rfl ?_
      refine s_y (y_extract rfl rfl) rfl rfl rfl ?_
      refine s_y (y_extract rfl rfl) rfl rfl rfl ?_
      refine s_y (y_assign rfl) rfl rfl rfl ?_
      refine s_y (y_assign rfl) rfl rfl rfl ?_
      refine s_y (y_assign rfl) rfl rfl rfl ?_
      refine s_nil ?_
      refine f_then ?_
      refine c_seq ?_
      refine c_region ?_
      refine s_y (y_move rfl) rfl rfl rfl ?_
      refine s_y (y_F (y_neq rfl rfl) (by omega)) rfl rfl rfl ?_
      refine s_y (y_move rfl) rfl rfl rfl ?_
      refine s_y (y_move rfl) rfl rfl rfl ?_
      refine s_y (y_F (y_neq rfl rfl) (by omega)) rfl rfl rfl ?_
      refine s_y (y_pickF rfl rfl) rfl rfl rfl ?_
      refine s_y (y_move rfl) rfl rfl rfl ?_
      refine s_y (y_move rfl) rfl rfl rfl ?_
      refine s_y (y_F (y_neq rfl rfl) (by omega)) rfl rfl rfl ?_
      refine s_y (y_pickF rfl rfl) rfl rfl rfl ?_
      refine s_nil ?_
      refine f_then ?_
      refine c_condF rfl ?_
      refine c_skip ?_
      refine f_then ?_
      refine c_seq ?_
      refine c_region ?_
      refine s_y (y_loadA Try.tab rfl rfl rfl rfl (cells_row0 1 rfl rfl)) rfl rfl rfl ?_
      refine s_y (y_move rfl) rfl rfl rfl ?_
      refine s_y (y_move rfl) rfl rfl rfl ?_
      refine s_call (en_f rfl Try.call39) (BundleOf_range W _ _ _ _ h (by omega)) rfl rfl rfl (fun _ => ?_)
      refine s_y (y_move rfl) rfl rfl rfl ?_
      refine s_y (y_extract rfl rfl) rfl rfl rfl ?_
      refine s_y (y_extract rfl rfl) rfl rfl rfl ?_
      refine s_y (y_assign rfl) rfl rfl rfl ?_
      refine s_y (y_assign rfl) rfl rfl rfl ?_
      refine s_nil ?_
      refine f_then ?_
      refine c_seq ?_
      refine c_seq ?_
      refine c_region ?_
      refine s_y (y_move rfl) rfl rfl rfl ?_
      refine s_y (y_T (y_lss rfl rfl) (by assumption)) rfl rfl rfl ?_
      refine s_y (y_move rfl) rfl rfl rfl ?_
      iterate 9 refine s_skip rfl rfl rfl ?_
      refine s_y (y_pickT rfl rfl) rfl rfl rfl ?_
      refine s_nil ?_
      refine f_then ?_
      refine c_condT rfl ?_
      refine c_seq ?_
      refine c_region ?_
      refine s_y (y_move rfl) rfl rfl rfl ?_
      refine s_y (y_T (y_eql rfl rfl) (by omega)) rfl rfl rfl ?_
      refine s_y (y_move rfl) rfl rfl rfl ?_
      refine s_y (y_move rfl) rfl rfl rfl ?_
      refine s_y (y_T (y_eql rfl rfl) (by omega)) rfl rfl rfl ?_
      refine s_y (y_pickT rfl rfl) rfl rfl rfl ?_
      refine s_y (y_move rfl) rfl rfl rfl ?_
      refine s_call (en_f rfl Try.call15) (awake_spec W _) rfl rfl rfl (fun _ => ?_)
      refine s_y (y_pickT rfl rfl) rfl rfl rfl ?_
      refine s_y (y_assign rfl) rfl rfl rfl ?_
      refine s_nil ?_
      refine f_then ?_
      refine c_ret ?_
      refine f_thenR ?_
      exact f_ret () (res1 rfl rfl) (fun w h => h.any)
    · refine c_exit ?_
      refine f_thenE ?_
      refine f_rndE ?_
      refine f_blockE ?_
      refine f_then ?_
      refine c_seq ?_
      refine c_seq ?_
      refine c_region ?_
      refine s_y (y_move rfl) rfl rfl rfl ?_
      refine s_y (y_F (y_lss rfl rfl) (by omega)) rfl rfl rfl ?_
      refine s_y (y_move rfl) rfl rfl rfl ?_
      refine s_y (y_move rfl) rfl rfl rfl ?_
      refine s_y (y_move rfl) rfl rfl rfl ?_
      refine s_y (y_T (y_geq rfl rfl) (by omega)) rfl rfl rfl ?_
      refine s_y (y_pickF rfl rfl) rfl rfl rfl ?_
      refine s_nil ?_
      refine f_then ?_
      refine c_condT rfl ?_
      refine c_seq ?_
      refine c_region ?_
      refine s_y (y_loadA Try.tab rfl rfl rfl rfl (cells_row0 1 rfl rfl)) rfl rfl rfl ?_
      refine s_y (y_move rfl) rfl rfl rfl ?_
      refine s_y (y_move rfl) rfl rfl rfl ?_
      refine s_call (en_f rfl Try.call38) (Bundle_range W _ _ _ _ h (by omega)) rfl rfl rfl (fun _ => ?_)
      refine s_y (y_move rfl) rfl rfl rfl ?_
      refine s_y (y_extract rfl rfl) rfl rfl rfl ?_
      refine s_y (y_extract rfl rfl) rfl rfl rfl ?_
      refine s_y (y_extract rfl rfl) rfl rfl rfl ?_
      refine s_y (y_assign rfl) rfl rfl rfl ?_
      refine s_y (y_assign rfl) rfl rfl rfl ?_
      refine s_y (y_assign rfl) rfl rfl rfl ?_
      refine s_nil ?_
      refine f_then ?_
      refine c_seq ?_
      refine c_region ?_
      refine s_y (y_move rfl) rfl rfl rfl ?_
      refine s_y (y_F (y_neq rfl rfl) (by omega)) rfl rfl rfl ?_
      refine s_y (y_move rfl) rfl rfl rfl ?_
      refine s_y (y_move rfl) rfl rfl rfl ?_
      refine s_y (y_F (y_neq rfl rfl) (by omega)) rfl rfl rfl ?_
      refine s_y (y_pickF rfl rfl) rfl rfl rfl ?_
      refine s_y (y_move rfl) rfl rfl rfl ?_
      refine s_y (y_move rfl) rfl rfl rfl ?_
      refine s_y (y_F (y_neq rfl rfl) (by omega)) rfl rfl rfl ?_
      refine s_y (y_pickF rfl rfl) rfl rfl rfl ?_
      refine s_nil ?_
      refine f_then ?_
      refine c_condF rfl ?_
      refine c_skip ?_
      refine f_then ?_
      refine c_seq ?_
      refine c_region ?_
      refine s_y (y_loadA Try.tab rfl rfl rfl rfl (cells_row0 1 rfl rfl)) rfl rfl rfl ?_
      refine s_y (y_move rfl) rfl rfl rfl ?_
      refine s_y (y_move rfl) rfl rfl rfl ?_
      refine s_call (en_f rfl Try.call39) (BundleOf_range W _ _ _ _ h (by omega)) rfl rfl rfl (fun _ => ?_)
      refine s_y (y_move rfl) rfl rfl rfl ?_
      refine s_y (y_extract rfl rfl) rfl rfl rfl ?_
      refine s_y (y_extract rfl rfl) rfl rfl rfl ?_
      refine s_y (y_assign rfl) rfl rfl rfl ?_
      refine s_y (y_assign rfl) rfl rfl rfl ?_
      refine s_nil ?_
      refine f_then ?_
      refine c_seq ?_
      refine c_seq ?_
      refine c_region ?_
      refine s_y (y_move rfl) rfl rfl rfl ?_
      refine s_y (y_F (y_lss rfl rfl) (by omega)) rfl rfl rfl ?_
      refine s_y (y_move rfl) rfl rfl rfl ?_
      refine s_y (y_move rfl) rfl rfl rfl ?_
      refine s_y (y_move rfl) rfl rfl rfl ?_
      refine s_y (y_fieldAddr0 Try.tab rfl rfl rfl rfl rfl) rfl rfl rfl ?_
      refine s_y (y_load Try.tab rfl rfl (cell_row 1 rfl rfl)) rfl rfl rfl ?_
      refine s_y (y_mul rfl rfl (by omega)) rfl rfl rfl ?_
      refine s_y (y_fieldAddrB Try.tab 1 rfl rfl rfl rfl rfl) rfl rfl rfl ?_
      refine s_y (y_load Try.tab rfl rfl (cell_row 1 rfl rfl)) rfl rfl rfl ?_
      refine s_y (y_mul rfl rfl (by omega)) rfl rfl rfl ?_
      refine s_y (y_T (y_geq rfl rfl) (by omega)) rfl rfl rfl ?_
      refine s_y (y_pickF rfl rfl) rfl rfl rfl ?_
      refine s_nil ?_
      refine f_then ?_
      refine c_condT rfl ?_
      refine c_seq ?_
      refine c_region ?_
      refine s_y (y_move rfl) rfl rfl rfl ?_
      refine s_y (y_T (y_eql rfl rfl) (by omega)) rfl rfl rfl ?_
      refine s_y (y_move rfl) rfl rfl rfl ?_
      refine s_y (y_move rfl) rfl rfl rfl ?_
      refine s_y (y_T (y_eql rfl rfl) (by omega)) rfl rfl rfl ?_
      refine s_y (y_pickT rfl rfl) rfl rfl rfl ?_
      refine s_y (y_move rfl) rfl rfl rfl ?_
      refine s_call (en_f rfl Try.call15) (awake_spec W _) rfl rfl rfl (fun _ => ?_)
      refine s_y (y_pickT rfl rfl) rfl rfl rfl ?_
      refine s_y (y_assign rfl) rfl rfl rfl ?_
      refine s_nil ?_
      refine f_then ?_
      refine c_ret ?_
      refine f_thenR ?_
      exact f_ret () (res1 rfl rfl) (fun w h => h.any)
    · obtain ⟨d1, d2, d3⟩ := bunOf_at h.1 h.2 hp hN
      obtain ⟨j, hE⟩ := Int.eq_ofNat_of_zero_le d1.1
      rw [hE] at d1 d2 d3
      obtain ⟨⟨f1, f2⟩, _, _⟩ := bun_facts h (n := j) d1.2
      have c1 := hC j (by omega)
      have c2 := hC (j + 1) (by omega)
      refine c_exit ?_
      refine f_thenE ?_
      refine f_rndE ?_
      refine f_blockE ?_
      refine f_then ?_
      refine c_seq ?_
      refine c_seq ?_
      refine c_region ?_
      refine s_y (y_move rfl) rfl rfl rfl ?_
      refine s_y (y_F (y_lss rfl rfl) (by omega)) rfl rfl rfl ?_
      refine s_y (y_move rfl) rfl rfl rfl ?_
      refine s_y (y_move rfl) rfl rfl rfl ?_
      refine s_y (y_move rfl) rfl rfl rfl ?_
      refine s_y (y_T (y_geq rfl rfl) (by omega)) rfl rfl rfl ?_
      refine s_y (y_pickF rfl rfl) rfl rfl rfl ?_
      refine s_nil ?_
      refine f_then ?_
      refine c_condT rfl ?_
      refine c_seq ?_
      refine c_region ?_
      refine s_y (y_loadA Try.tab rfl rfl rfl rfl (cells_row0 1 rfl rfl)) rfl rfl rfl ?_
      refine s_y (y_move rfl) rfl rfl rfl ?_
      refine s_y (y_move rfl) rfl rfl rfl ?_
      refine s_call (en_f rfl Try.call38) (Bundle_range W _ _ _ _ h (by omega)) rfl rfl rfl (fun _ => ?_)
      refine s_y (y_move rfl) rfl rfl rfl ?_
      refine s_y (y_extract rfl rfl) rfl rfl rfl ?_
      refine s_y (y_extract rfl rfl) rfl rfl rfl ?_
      refine s_y (y_extract rfl rfl) rfl rfl rfl ?_
      refine s_y (y_assign rfl) rfl rfl rfl ?_
      refine s_y (y_assign rfl) rfl rfl rfl ?_
      refine s_y (y_assign rfl) rfl rfl rfl ?_
      refine s_nil ?_
      refine f_then ?_
      refine c_seq ?_
      refine c_region ?_
      refine s_y (y_move rfl) rfl rfl rfl ?_
      refine s_y (y_F (y_neq rfl rfl) (by omega)) rfl rfl rfl ?_
      refine s_y (y_move rfl) rfl rfl rfl ?_
      refine s_y (y_move rfl) rfl rfl rfl ?_
      refine s_y (y_F (y_neq rfl rfl) (by omega)) rfl rfl rfl ?_
      refine s_y (y_pickF rfl rfl) rfl rfl rfl ?_
      refine s_y (y_move rfl) rfl rfl rfl ?_
      refine s_y (y_move rfl) rfl rfl rfl ?_
      refine s_y (y_F (y_neq rfl rfl) (by omega)) rfl rfl rfl ?_
      refine s_y (y_pickF rfl rfl) rfl rfl rfl ?_
      refine s_nil ?_
      refine f_then ?_
      refine c_condF rfl ?_
      refine c_skip ?_
      refine f_then ?_
      refine c_seq ?_
      refine c_region ?_
      refine s_y (y_loadA Try.tab rfl rfl rfl rfl (cells_row0 1 rfl rfl)) rfl rfl rfl ?_
      refine s_y (y_move rfl) rfl rfl rfl ?_
      refine s_y (y_move rfl) rfl rfl rfl ?_
      refine s_call (en_f rfl Try.call39) (BundleOf_at W _ _ _ _ _ h hN hE) rfl rfl rfl (fun _ => ?_)
      refine s_y (y_move rfl) rfl rfl rfl ?_
      refine s_y (y_extract rfl rfl) rfl rfl rfl ?_
      refine s_y (y_extract rfl rfl) rfl rfl rfl ?_
      refine s_y (y_assign rfl) rfl rfl rfl ?_
      refine s_y (y_assign rfl) rfl rfl rfl ?_
      refine s_nil ?_
      refine f_then ?_
      refine c_seq ?_
      refine c_seq ?_
      refine c_region ?_
      refine s_y (y_move rfl) rfl rfl rfl ?_
      refine s_y (y_F (y_lss rfl rfl) (by omega)) rfl rfl rfl ?_
      refine s_y (y_move rfl) rfl rfl rfl ?_
      refine s_y (y_move rfl) rfl rfl rfl ?_
      refine s_y (y_move rfl) rfl rfl rfl ?_
      refine s_y (y_fieldAddr0 Try.tab rfl rfl rfl rfl rfl) rfl rfl rfl ?_
      refine s_y (y_load Try.tab rfl rfl (cell_row 1 rfl rfl)) rfl rfl rfl ?_
      refine s_y (y_mul rfl rfl (by omega)) rfl rfl rfl ?_
      refine s_y (y_fieldAddrB Try.tab 1 rfl rfl rfl rfl rfl) rfl rfl rfl ?_
      refine s_y (y_load Try.tab rfl rfl (cell_row 1 rfl rfl)) rfl rfl rfl ?_
      refine s_y (y_mul rfl rfl (by omega)) rfl rfl rfl ?_
      refine s_y (y_F (y_geq rfl rfl) (by omega)) rfl rfl rfl ?_
      refine s_y (y_pickF rfl rfl) rfl rfl rfl ?_
      refine s_nil ?_
      refine f_then ?_
      refine c_condF rfl ?_
      refine c_skip ?_
      refine f_then ?_
      refine c_seq ?_
      refine c_region ?_
      refine s_y (y_move rfl) rfl rfl rfl ?_
      refine s_y (y_T (y_eql rfl rfl) (by omega)) rfl rfl rfl ?_
      refine s_y (y_move rfl) rfl rfl rfl ?_
      refine s_y (y_move rfl) rfl rfl rfl ?_
      refine s_y (y_T (y_geq rfl rfl) (by omega)) rfl rfl rfl ?_
      refine s_y (y_pickT rfl rfl) rfl rfl rfl ?_
      refine s_y (y_move rfl) rfl rfl rfl ?_
      refine s_y (y_move rfl) rfl rfl rfl ?_
      refine s_y (y_move rfl) rfl rfl rfl ?_
      refine s_y (y_T (y_lss rfl rfl) (by omega)) rfl rfl rfl ?_
      refine s_y (y_pickT rfl rfl) rfl rfl rfl ?_
      refine s_y (y_move rfl) rfl rfl rfl ?_
      refine s_y (y_move rfl) rfl rfl rfl ?_
      refine s_y (y_move rfl) rfl rfl rfl ?_
      refine s_y (y_indexAddr1o Try.tab rfl rfl rfl rfl _ rfl (by omega)) rfl rfl rfl ?_
      refine s_y (y_load Try.tab rfl rfl c1) rfl rfl rfl ?_
      refine s_y (y_move rfl) rfl rfl rfl ?_
      refine s_y (y_T (y_leq rfl rfl) (by omega)) rfl rfl rfl ?_
      refine s_y (y_pickT rfl rfl) rfl rfl rfl ?_
      refine s_y (y_move rfl) rfl rfl rfl ?_
      refine s_y (y_move rfl) rfl rfl rfl ?_
      refine s_y (y_move rfl) rfl rfl rfl ?_
      refine s_y (y_move rfl) rfl rfl rfl ?_
      refine s_y (y_add rfl rfl (by omega)) rfl rfl rfl ?_
      refine s_y (y_indexAddr1o Try.tab rfl rfl rfl rfl _ (Int.toNat_of_nonneg (by omega)).symm (by omega)) rfl rfl rfl ?_
      refine s_y (y_load Try.tab rfl rfl c2) rfl rfl rfl ?_
      refine s_y (y_T (y_lss rfl rfl) (by omega)) rfl rfl rfl ?_
      refine s_y (y_pickT rfl rfl) rfl rfl rfl ?_
      refine s_y (y_move rfl) rfl rfl rfl ?_
      refine s_call (en_f rfl Try.call15) (awake_spec W _) rfl rfl rfl (fun _ => ?_)
      refine s_y (y_pickT rfl rfl) rfl rfl rfl ?_
      refine s_y (y_assign rfl) rfl rfl rfl ?_
      refine s_nil ?_
      refine f_then ?_
      refine c_ret ?_
      exact f_ret () (res1 rfl rfl) (fun w h => h.any)
end Go.KL
end

section
/- SheetBundles: for every input the law returns true, and its arguments read as they did. No condition. -/
namespace Go.Proofs.Ytelpaildbpdppaa
open Go.ChangeShapes Go.WideShapes Go.RowKit Go.KL
set_option linter.unusedVariables false
theorem own : ownKnob Try.prog.godebug = none := by kernel_rfl
set_option maxRecDepth 100000 in
theorem sheetBundles_lifted (os : Os) (started : os.Started) (H : Type) (enc : TypeId × Value → H) :
    ReturnsInHanded {} Try.checked os 12 .any (Rows.sheetBundlesSpec.pre6 enc Try.prog Try.f12 Rows.sheetBundlesRow.domain false) (Rows.sheetBundlesSpec.post enc Try.prog Try.f12 false true false false) := by
  refine returnsInHanded_of_change (C := Try.checked) own started (by kernel_rfl) Try.func12
    (ChangeSpec.witness6 (enc := enc) (C := Try.checked) false ⟨#[], #[.agg #[.int .i64 0, .int .i64 0, .int .i64 0, .int .i64 0, .bool false], .int .i64 0, .int .i64 0, .int .i64 0], []⟩ 8 (by kernel_rfl) (by kernel_rfl) (by kernel_rfl) (by kernel_rfl)) ?_
  intro W base args ds gs before hval hW hcnd _
  obtain ⟨p, q, hA, hV, rfl, hfz, hnd⟩ := id hW
  obtain ⟨rfl, rfl⟩ := trodVars_none hV
  obtain ⟨v0, vs0, d0, ds0, p0, q0, e0, rfl, rfl, h0, r0⟩ := trodAll_cons hA
  obtain ⟨v1, vs1, d1, ds1, p1, q1, rfl, rfl, rfl, h1, r1⟩ := trodAll_cons r0
  obtain ⟨v2, vs2, d2, ds2, p2, q2, rfl, rfl, rfl, h2, r2⟩ := trodAll_cons r1
  obtain ⟨v3, vs3, d3, ds3, p3, q3, rfl, rfl, rfl, h3, r3⟩ := trodAll_cons r2
  obtain ⟨rfl, rfl, rfl⟩ := trodAll_nil r3
  obtain rfl : args = #[v0, v1, v2, v3] := by cases args; simp_all
  obtain ⟨l0, rfl, hr0, hc0, hm0, hb0⟩ := arg23 (hval 0 23 _ rfl rfl) h0
  obtain ⟨k1, rfl, hk1⟩ := arg3 (hval 1 3 _ rfl rfl) h1
  obtain ⟨k2, rfl, hk2⟩ := arg3 (hval 2 3 _ rfl rfl) h2
  obtain ⟨k3, rfl, hk3⟩ := arg3 (hval 3 3 _ rfl rfl) h3
  refine ((sheetBundles_walk W l0 k1 k2 k3) W (K.refl W)).mono ?_
  rintro e W' ⟨x, rfl, hk⟩
  exact ⟨_, rfl, law_post (t := 4) laidOut (by decide +kernel) rfl rfl u4 hW rfl hk.toExt⟩
/-- The statement. -/
theorem sheetBundles_holds : Rows.SheetBundlesSaid :=
  OpenClaim.holds_of_wide 12 Try.f12 rfl rfl rfl rfl rfl rfl rfl ⟨rfl, rfl, rfl, rfl, rfl⟩ rfl rfl rfl rfl rfl (by kernel_rfl) Try.func12 (by kernel_rfl)
    (of_decide_eq_true (by kernel_rfl)) (by unfold Func.isWrapper; first | (rw [if_pos (by decide +kernel)]; kernel_rfl) | (rw [if_neg (by decide +kernel)]; exact ⟨rfl, rfl⟩))
    (fun os started H enc _ => sheetBundles_lifted os started H enc)
end Go.Proofs.Ytelpaildbpdppaa
end
