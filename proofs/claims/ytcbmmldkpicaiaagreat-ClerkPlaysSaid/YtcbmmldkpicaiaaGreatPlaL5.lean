/- The library of the proof, part 5: a program logic over the model, walks of functions, plain laws. No condition. -/
import Derived.Test.YtcbmmldkpicaiaaGreatPlaL4
set_option maxRecDepth 10000
set_option maxHeartbeats 16000000
section
namespace Go.KL
theorem tw_in {i : Nat} {b : List Nat} : ∀ {a : List Nat}, i ∈ a → (a ++ b).takeWhile (fun j => !decide (j = i)) = a.takeWhile (fun j => !decide (j = i))
 | [], h => by simp at h
 | x :: a, h => by
  rw [List.cons_append, List.takeWhile_cons, List.takeWhile_cons];by_cases c : x = i
  ·simp [c]
  ·rw [if_pos (by simp [c]), if_pos (by simp [c]), tw_in ((List.mem_cons.1 h).resolve_left fun e => c e.symm)]
theorem tw_out {i : Nat} {b : List Nat} : ∀ {a : List Nat}, i ∉ a → (a ++ b).takeWhile (fun j => !decide (j = i)) = a ++ b.takeWhile (fun j => !decide (j = i))
 | [], _ => rfl
 | x :: a, h => by
  rw [List.cons_append, List.takeWhile_cons, if_pos (by simp; intro e; exact h (e ▸ List.mem_cons_self ..)), tw_out fun c => h (List.mem_cons_of_mem _ c)];rfl
theorem tw_filter {i k : Nat} (hne : i ≠ k) : ∀ {q : List Nat}, ∀ j ∈ (q.filter fun j => !decide (j = k)).takeWhile (fun j => !decide (j = i)), j ∈ q.takeWhile (fun j => !decide (j = i))
 | [], j, h => by simp at h
 | x :: q, j, h => by
  rw [List.filter_cons] at h;rw [List.takeWhile_cons];by_cases c : x = k
  ·rw [if_neg (by simp [c])] at h;rw [if_pos (by simp [c]; exact fun e => hne e.symm)];exact List.mem_cons_of_mem _ (tw_filter hne j h)
  ·rw [if_pos (by simp [c]), List.takeWhile_cons] at h;by_cases d : x = i
   ·rw [if_neg (by simp [d])] at h;simp at h
   ·rw [if_pos (by simp [d])] at h ⊢;rcases List.mem_cons.1 h with h | h
    ·exact h ▸ List.mem_cons_self ..
    ·exact List.mem_cons_of_mem _ (tw_filter hne j h)
theorem nodup_mid {k : Nat} {l : List Nat} : ∀ {st : List Nat}, (st ++ k :: l).Nodup → k ∉ st ++ l ∧ (st ++ l).Nodup
 | [], h => List.nodup_cons.1 h
 | a :: st, h => by
  obtain ⟨h1, h2⟩ := List.nodup_cons.1 h;obtain ⟨h3, h4⟩ := nodup_mid h2;refine ⟨fun c => ?_, List.nodup_cons.2 ⟨fun c => h1 ?_, h4⟩⟩
  ·rcases List.mem_cons.1 c with rfl | c
   ·exact h1 (by simp)
   ·exact h3 c
  ·rcases List.mem_append.1 c with c | c
   ·exact List.mem_append_left _ c
   ·exact List.mem_append_right _ (List.mem_cons_of_mem _ c)
namespace Bk
variable {A : Bk} {b : Nat}
abbrev wq (A : Bk) (q : List Nat) : Bk := { A with q := q }
theorem mem_mid {st l : List Nat} {k j : Nat} : j ∈ st ++ k :: l ↔ j = k ∨ j ∈ st ++ l := by
 simp only [List.mem_append, List.mem_cons];constructor
 ·rintro (h | h | h)
  ·exact .inr (.inl h)
  ·exact .inl h
  ·exact .inr (.inr h)
 ·rintro (h | h | h)
  ·exact .inr (.inl h)
  ·exact .inl h
  ·exact .inr (.inr h)
theorem grant_tx {k j : Nat} (hk : A.has k) (hj : A.has j) : (A.grant k).tx j = if j = k then ⟨1, (A.tx k).locks ++ [(A.tx k).req], Lk.zero, (A.tx k).ops⟩ else A.tx j := tx_set hk hj
theorem grant_has {k j : Nat} : (A.grant k).has j ↔ A.has j := has_set
theorem grant_ops {k j : Nat} (hk : A.has k) (hj : A.has j) : ((A.grant k).tx j).ops = (A.tx j).ops := by
 rw [grant_tx hk hj];split
 ·rename_i e; rw [e]
 ·rfl
theorem grant_inv {k : Nat} {st l : List Nat} (h : (A.wq (st ++ k :: l)).Inv b) (hf : A.free (A.tx k).req st = true) : ((A.grant k).wq (st ++ l)).Inv b := by
 have hkq : k ∈ (A.wq (st ++ k :: l)).q := mem_mid.2 (.inl rfl);have hk : A.has k := h.qhas hkq;have hr : k ∈ A.rn := h.qrn hkq;have hs : (A.tx k).st = 2 := ((h.q k).1 hkq).2;have hnd : (st ++ k :: l).Nodup := h.qnd;obtain ⟨hnk, hnd2⟩ := nodup_mid hnd;have hH : ∀ {j}, j ∈ A.rn → A.has j := fun hj => h.has hj;have ho : ∀ j, A.has j → ((A.grant k).tx j).ops = (A.tx j).ops := fun j hj => grant_ops hk hj;obtain ⟨hf1, hf2⟩ := free_iff.1 hf;have hrq := h.rq k hkq;have hsb : ∀ j, A.has j → ∀ x ∈ (A.tx j).locks, x ∈ ((A.grant k).tx j).locks := fun j hj x hx => by
  rw [grant_tx hk hj];split
  ·rename_i e;rw [e] at hx;exact List.mem_append_left _ hx
  ·exact hx
 have hlk : ∀ j, A.has j → ∀ x ∈ ((A.grant k).tx j).locks, x ∈ (A.tx j).locks ∨ (j = k ∧ x = (A.tx k).req) := fun j hj x hx => by
  rw [grant_tx hk hj] at hx;split at hx
  ·rename_i e;rcases List.mem_append.1 hx with hx | hx
   ·exact .inl (by rw [e]; exact hx)
   ·exact .inr ⟨e, List.mem_singleton.1 hx⟩
  ·exact .inl hx
 refine { sz := h.sz, rn := fun j => ?_, rnd := h.rnd, rnl := h.rnl, q := fun j => ?_, qnd := hnd2, st := fun j hj => ?_, off := fun j hj hn => ?_, lk := fun j hj x hx => ?_, rq := fun j hj => ?_, cnt := ?_, fr := fun i hi j hj x hx y hy => ?_, held := fun j hj o hoo => ?_, rep := fun j hj => ?_, wU := fun i hi => ?_, wT := fun j hj i ht => ?_, rm := ?_, ol := fun j hj => ?_ }
 ·show j ∈ A.rn ↔ (A.grant k).has j ∧ (((A.grant k).tx j).st = 1 ∨ ((A.grant k).tx j).st = 2);have h1 : j ∈ A.rn ↔ A.has j ∧ ((A.tx j).st = 1 ∨ (A.tx j).st = 2) := h.rn j;rw [h1, grant_has];refine and_congr_right fun hj => ?_;rw [grant_tx hk hj];by_cases e : j = k
  ·subst e;rw [if_pos rfl, hs];simp
  ·rw [if_neg e]
 ·show j ∈ st ++ l ↔ (A.grant k).has j ∧ ((A.grant k).tx j).st = 2;have h1 : j ∈ st ++ k :: l ↔ A.has j ∧ (A.tx j).st = 2 := h.q j;rw [grant_has];by_cases e : j = k
  ·subst e;refine ⟨fun c => absurd c hnk, fun ⟨c1, c2⟩ => ?_⟩;rw [grant_tx hk c1, if_pos rfl] at c2;cases c2
  ·have h2 : j ∈ st ++ k :: l ↔ j ∈ st ++ l := by rw [mem_mid]; exact or_iff_right e
   rw [← h2, h1];refine and_congr_right fun hj => ?_;rw [grant_tx hk hj, if_neg e]
 ·have hj' : A.has j := grant_has.1 hj;show ((A.grant k).tx j).st = 1 ∨ _;show ((A.grant k).tx j).st = 1 ∨ ((A.grant k).tx j).st = 2 ∨ ((A.grant k).tx j).st = 3 ∨ ((A.grant k).tx j).st = 4;rw [grant_tx hk hj'];split
  ·exact .inl rfl
  ·exact h.st j hj'
 ·have hj' : A.has j := grant_has.1 hj;have e : j ≠ k := fun e => hn (by rw [e]; exact hr);show ((A.grant k).tx j).locks = [] ∧ ((A.grant k).tx j).ops = [];rw [grant_tx hk hj', if_neg e];exact h.off j hj' hn
 ·have hj' : A.has j := grant_has.1 hj;rcases hlk j hj' x hx with hx | ⟨e, hx⟩
  ·exact h.lk j hj' x hx
  ·rw [hx, e]; exact hrq
 ·have hj' : j ∈ st ++ k :: l := mem_mid.2 (.inr hj);have e : j ≠ k := fun e => hnk (e ▸ hj);show ((A.grant k).tx j).req.tx = j ∧ ((A.grant k).tx j).req.lo < ((A.grant k).tx j).req.hi ∧ ((A.grant k).tx j).req.hi ≤ A.size;rw [grant_tx hk (h.qhas hj'), if_neg e];exact h.rq j hj'
 ·have h1 : (A.rn.map fun j => (A.tx j).locks.length).sum + (st ++ k :: l).length ≤ 1024 := h.cnt;have h2 : (A.rn.map fun j => ((A.grant k).tx j).locks.length).sum = (A.rn.map fun j => (A.tx j).locks.length).sum + 1 := sum_one h.rnd hr (by rw [grant_tx hk hk, if_pos rfl]; simp) fun j hj e => by rw [grant_tx hk (hH hj), if_neg e]
  show (A.rn.map fun j => ((A.grant k).tx j).locks.length).sum + (st ++ l).length ≤ 1024;simp only [List.length_append, List.length_cons] at h1 ⊢;omega
 ·rcases hlk i (hH hi) x hx with hx | ⟨e1, hx⟩ <;> rcases hlk j (hH hj) y hy with hy | ⟨e2, hy⟩
  ·exact h.fr i hi j hj x hx y hy
  ·rw [hy]; exact hf1 i hi x hx
  ·rw [hx, cfl_comm]; exact hf1 j hj y hy
  ·rw [hx, hy]; exact cfl_self rfl
 ·have hoo' : o ∈ (A.tx j).ops := by rw [← ho j (hH hj)]; exact hoo
  exact (h.held j hj o hoo').mono (hsb j (hH hj))
 ·show Rep A.size A.C ((A.grant k).tx j).ops;rw [ho j (hH hj)];exact h.rep j hj
 ·refine h.wU i fun j hj ht => hi j hj ?_;show tch ((A.grant k).tx j).ops i;rw [ho j (hH hj)];exact ht
 ·change tch ((A.grant k).tx j).ops i at ht;show A.W i = ap A.C ((A.grant k).tx j).ops i;rw [ho j (hH hj)] at ht ⊢;exact h.wT j hj i ht
 ·have h1 : KL.nbd A.C A.size + 2 * (A.rn.map fun j => mvs (A.tx j).ops).sum ≤ 4096 := h.rm;show KL.nbd A.C A.size + 2 * (A.rn.map fun j => mvs ((A.grant k).tx j).ops).sum ≤ 4096;rw [sum_congr (g := fun j => mvs (A.tx j).ops) fun j hj => by rw [ho j (hH hj)]];exact h1
 ·have hj' : A.has j := grant_has.1 hj;show ((A.grant k).tx j).ops.length ≤ b;rw [ho j hj'];exact h.ol j hj'
theorem gr_inv : ∀ (l : List Nat) (A : Bk) (st : List Nat), (A.wq (st ++ l)).Inv b → ((gr A l st).1.wq (gr A l st).2).Inv b
 | [], A, st, h => by
  rw [List.append_nil] at h;exact h
 | k :: l, A, st, h => by
  rw [gr];by_cases c : A.free (A.tx k).req st = true
  ·rw [if_pos c];exact gr_inv l _ _ (grant_inv h c)
  ·rw [if_neg c];refine gr_inv l _ _ ?_;rw [List.append_assoc];exact h
def fin (A : Bk) : Bk := { (gr A A.q []).1 with q := (gr A A.q []).2 }
theorem fin_inv (h : A.Inv b) : A.fin.Inv b := gr_inv A.q A [] h
def ended (A : Bk) (k s : Nat) (r : Lk) (C W : Nat → Nat) (lg : List (Nat × List Oa)) : Bk := ⟨A.size, C, W, A.ts.set (k - 1) ⟨s, [], r, []⟩, A.rn.filter fun j => !decide (j = k), A.q.filter fun j => !decide (j = k), lg⟩
theorem off_eq {k s : Nat} {r : Lk} {L : List Lk} {C W : Nat → Nat} {lg : List (Nat × List Oa)} (hk : A.has k) : ({ A.setT k ⟨s, L, r, []⟩ with C := C, W := W, log := lg } : Bk).off k = A.ended k s r C W lg := by
 have e : ({ A.setT k ⟨s, L, r, []⟩ with C := C, W := W, log := lg } : Bk).tx k = ⟨s, L, r, []⟩ := by
  show (A.setT k ⟨s, L, r, []⟩).tx k = _;rw [tx_set hk hk, if_pos rfl]
 unfold Bk.off;rw [e];unfold Bk.setT ended;simp only [List.set_set]
theorem abort_eq {k : Nat} (hk : A.has k) : A.abort k = (A.ended k 4 Lk.zero A.C (KL.un A.W (A.tx k).ops) A.log).fin := by
 unfold Bk.abort Bk.release fin;rw [← off_eq (L := (A.tx k).locks) hk];rfl
theorem commit_eq {k : Nat} (hk : A.has k) : A.commit k = (A.ended k 3 (A.tx k).req (ap A.C (A.tx k).ops) A.W (A.log ++ [(k, (A.tx k).ops)])).fin := by
 unfold Bk.commit Bk.release fin;rw [← off_eq (L := (A.tx k).locks) hk];rfl
section
variable {k s : Nat} {r : Lk} {C W : Nat → Nat} {lg : List (Nat × List Oa)}
theorem ended_has {j : Nat} : (A.ended k s r C W lg).has j ↔ A.has j := has_set (A := A) (t := ⟨s, [], r, []⟩)
theorem ended_tx {j : Nat} (hk : A.has k) (hj : A.has j) : (A.ended k s r C W lg).tx j = if j = k then ⟨s, [], r, []⟩ else A.tx j := tx_set hk hj
theorem ended_ne {j : Nat} (hk : A.has k) (hj : A.has j) (e : j ≠ k) : (A.ended k s r C W lg).tx j = A.tx j := by rw [ended_tx hk hj, if_neg e]
theorem mem_ne {l : List Nat} {k j : Nat} : j ∈ (l.filter fun j => !decide (j = k)) ↔ j ∈ l ∧ j ≠ k := by simp
theorem ended_inv (h : A.Inv b) (hk : A.has k) (hs : s = 3 ∨ s = 4) (h1 : ∀ j ∈ A.rn, j ≠ k → Rep A.size C (A.tx j).ops) (h2 : ∀ i, (∀ j ∈ A.rn, j ≠ k → ¬ tch (A.tx j).ops i) → W i = C i) (h3 : ∀ j ∈ A.rn, j ≠ k → ∀ i, tch (A.tx j).ops i → W i = ap C (A.tx j).ops i)
  (h4 : KL.nbd C A.size + 2 * ((A.rn.filter fun j => !decide (j = k)).map fun j => mvs (A.tx j).ops).sum ≤ 4096) : (A.ended k s r C W lg).Inv b := by
 have hN : ∀ {j}, j ∈ (A.ended k s r C W lg).rn → j ∈ A.rn ∧ j ≠ k ∧ (A.ended k s r C W lg).tx j = A.tx j := fun hj => by
  obtain ⟨a1, a2⟩ := mem_ne.1 hj;exact ⟨a1, a2, ended_ne hk (h.has a1) a2⟩
 have hQ : ∀ {j}, j ∈ (A.ended k s r C W lg).q → j ∈ A.q ∧ j ≠ k ∧ (A.ended k s r C W lg).tx j = A.tx j := fun hj => by
  obtain ⟨a1, a2⟩ := mem_ne.1 hj;exact ⟨a1, a2, ended_ne hk (h.qhas a1) a2⟩
 refine { sz := h.sz, rn := fun j => ?_, rnd := h.rnd.filter _, rnl := Nat.le_trans (List.length_filter_le ..) h.rnl, q := fun j => ?_, qnd := h.qnd.filter _, st := fun j hj => ?_, off := fun j hj hn => ?_, lk := fun j hj x hx => ?_, rq := fun j hj => ?_, cnt := ?_, fr := fun i hi j hj x hx y hy => ?_, held := fun j hj o hoo => ?_, rep := fun j hj => ?_, wU := fun i hi => ?_, wT := fun j hj i ht => ?_, rm := ?_, ol := fun j hj => ?_ }
 ·rw [ended_has];show j ∈ A.rn.filter _ ↔ _;rw [mem_ne];by_cases e : j = k
  ·subst e;refine ⟨fun c => absurd rfl c.2, fun c => ?_⟩;rw [ended_tx hk hk, if_pos rfl] at c;exact absurd c.2 (by dsimp only; omega)
  ·rw [h.rn j];constructor
   ·rintro ⟨⟨a1, a2⟩, _⟩;rw [ended_ne hk a1 e];exact ⟨a1, a2⟩
   ·rintro ⟨a1, a2⟩;rw [ended_ne hk a1 e] at a2;exact ⟨⟨a1, a2⟩, e⟩
 ·rw [ended_has];show j ∈ A.q.filter _ ↔ _;rw [mem_ne];by_cases e : j = k
  ·subst e;refine ⟨fun c => absurd rfl c.2, fun c => ?_⟩;rw [ended_tx hk hk, if_pos rfl] at c;exact absurd c.2 (by dsimp only; omega)
  ·rw [h.q j];constructor
   ·rintro ⟨⟨a1, a2⟩, _⟩;rw [ended_ne hk a1 e];exact ⟨a1, a2⟩
   ·rintro ⟨a1, a2⟩;rw [ended_ne hk a1 e] at a2;exact ⟨⟨a1, a2⟩, e⟩
 ·rw [ended_tx hk (ended_has.1 hj)];split
  ·dsimp only; omega
  ·exact h.st j (ended_has.1 hj)
 ·rw [ended_tx hk (ended_has.1 hj)];split
  ·exact ⟨rfl, rfl⟩
  ·rename_i e;exact h.off j (ended_has.1 hj) fun c => hn (mem_ne.2 ⟨c, e⟩)
 ·rw [ended_tx hk (ended_has.1 hj)] at hx;split at hx
  ·simp at hx
  ·exact h.lk j (ended_has.1 hj) x hx
 ·obtain ⟨a1, a2, a3⟩ := hQ hj;rw [a3];exact h.rq j a1
 ·have a1 := sum_filter (f := fun j => (A.tx j).locks.length) (k := k) (l := A.rn);have a2 := List.length_filter_le (fun j => !decide (j = k)) A.q;have a3 := h.cnt;have a4 : ((A.ended k s r C W lg).rn.map fun j => ((A.ended k s r C W lg).tx j).locks.length).sum = ((A.ended k s r C W lg).rn.map fun j => (A.tx j).locks.length).sum := sum_congr fun j hj => by rw [(hN hj).2.2]
  have a5 : ((A.ended k s r C W lg).rn.map fun j => (A.tx j).locks.length).sum = ((A.rn.filter fun j => !decide (j = k)).map fun j => (A.tx j).locks.length).sum := rfl;have a6 : (A.ended k s r C W lg).q.length = (A.q.filter fun j => !decide (j = k)).length := rfl;unfold Bk.count at a3 ⊢;rw [a4, a5, a6];omega
 ·obtain ⟨a1, _, a3⟩ := hN hi;obtain ⟨b1, _, b3⟩ := hN hj;rw [a3] at hx;rw [b3] at hy;exact h.fr i a1 j b1 x hx y hy
 ·obtain ⟨a1, _, a3⟩ := hN hj;rw [a3] at hoo ⊢;exact h.held j a1 o hoo
 ·obtain ⟨a1, a2, a3⟩ := hN hj;rw [a3];exact h1 j a1 a2
 ·refine h2 i fun j hj e ht => hi j (mem_ne.2 ⟨hj, e⟩) ?_;rw [ended_ne hk (h.has hj) e];exact ht
 ·obtain ⟨a1, a2, a3⟩ := hN hj;rw [a3] at ht ⊢;exact h3 j a1 a2 i ht
 ·have a4 : (A.ended k s r C W lg).moves = ((A.rn.filter fun j => !decide (j = k)).map fun j => mvs (A.tx j).ops).sum := sum_congr (l := (A.ended k s r C W lg).rn) fun j hj => by rw [(hN hj).2.2]
  rw [a4];exact h4
 ·rw [ended_tx hk (ended_has.1 hj)];split
  ·exact Nat.zero_le _
  ·exact h.ol j (ended_has.1 hj)
end
theorem Inv.ab (h : A.Inv b) {k : Nat} (hk : A.has k) : (A.ended k 4 Lk.zero A.C (KL.un A.W (A.tx k).ops) A.log).Inv b := by
 refine ended_inv h hk (.inr rfl) (fun j hj _ => h.rep j hj) (fun i hi => ?_) (fun j hj e i ht => ?_) ?_
 ·by_cases hr : k ∈ A.rn
  ·by_cases c : tch (A.tx k).ops i
   ·exact (h.rep k hr).un c
   ·rw [un_not c];refine h.wU i fun j hj ht => ?_;by_cases e : j = k
    ·rw [e] at ht; exact c ht
    ·exact hi j hj e ht
  ·rw [(h.off k hk hr).2];refine h.wU i fun j hj ht => hi j hj (fun e => hr (e ▸ hj)) ht
 ·rw [un_not fun c => ?_]
  ·exact h.wT j hj i ht
  ·by_cases hr : k ∈ A.rn
   ·exact h.disj hj hr e ⟨ht, c⟩
   ·rw [(h.off k hk hr).2] at c;exact tch.nil c
 ·have h1 := (sum_filter (f := fun j => mvs (A.tx j).ops) (k := k) (l := A.rn)).1;have h2 := h.rm;unfold Bk.moves at h2;omega
theorem Inv.abort (h : A.Inv b) {k : Nat} (hk : A.has k) : (A.abort k).Inv b := by
 rw [abort_eq hk];exact fin_inv (h.ab hk)
theorem Inv.cm (h : A.Inv b) {k : Nat} (hk : A.has k) (hr : k ∈ A.rn) : (A.ended k 3 (A.tx k).req (ap A.C (A.tx k).ops) A.W (A.log ++ [(k, (A.tx k).ops)])).Inv b := by
 refine ended_inv h hk (.inl rfl) (fun j hj e => ?_) (fun i hi => ?_) (fun j hj e i ht => ?_) ?_
 ·refine (h.rep j hj).congr fun o ho i h1 h2 => ?_;obtain ⟨x, hx, _, h3⟩ := h.held j hj o ho i h1 h2;rw [ap_not fun c => h.apart hr hj (fun e' => e e'.symm) c hx h3]
 ·by_cases c : tch (A.tx k).ops i
  ·exact h.wT k hr i c
  ·rw [ap_not c];refine h.wU i fun j hj ht => ?_;by_cases e : j = k
   ·rw [e] at ht; exact c ht
   ·exact hi j hj e ht
 ·rw [h.wT j hj i ht];exact ap_tch ht
 ·have h1 := (sum_filter (f := fun j => mvs (A.tx j).ops) (k := k) (l := A.rn)).2 hr;have h2 := h.rm;have h3 := nbd_ap A.size (A.tx k).ops A.C;unfold Bk.moves at h2;omega
theorem Inv.commit (h : A.Inv b) {k : Nat} (hr : k ∈ A.rn) : (A.commit k).Inv b := by
 rw [commit_eq (h.has hr)];exact fin_inv (h.cm (h.has hr) hr)
end Bk
end Go.KL
end

section
namespace Go.KL
open Relation
namespace Bk
variable {A : Bk} {b : Nat}
theorem gr_has : ∀ (l : List Nat) (A : Bk) (st : List Nat) {j : Nat}, (gr A l st).1.has j ↔ A.has j
 | [], _, _, _ => Iff.rfl
 | k :: l, A, st, j => by
  rw [gr];split
  ·rw [gr_has l]; exact grant_has
  ·exact gr_has l _ _
theorem gr_same : ∀ (l : List Nat) (A : Bk) (st : List Nat), (gr A l st).1.size = A.size ∧ (gr A l st).1.C = A.C ∧ (gr A l st).1.W = A.W ∧ (gr A l st).1.log = A.log ∧ (gr A l st).1.ts.length = A.ts.length
 | [], _, _ => ⟨rfl, rfl, rfl, rfl, rfl⟩
 | k :: l, A, st => by
  rw [gr];split
  ·obtain ⟨h1, h2, h3, h4, h5⟩ := gr_same l (A.grant k) st;exact ⟨h1, h2, h3, h4, h5.trans (by simp [grant, setT])⟩
  ·exact gr_same l _ _
theorem gr_old : ∀ (l : List Nat) (A : Bk) (st : List Nat) {j : Nat}, j ∈ st → j ∈ (gr A l st).2
 | [], _, _, _, h => h
 | k :: l, A, st, j, h => by
  rw [gr];split
  ·exact gr_old l _ _ h
  ·exact gr_old l _ _ (List.mem_append_left _ h)
theorem gr_sub : ∀ (l : List Nat) (A : Bk) (st : List Nat) {j : Nat}, j ∈ (gr A l st).2 → j ∈ st ++ l
 | [], _, _, _, h => by simpa [gr] using h
 | k :: l, A, st, j, h => by
  rw [gr] at h;split at h
  ·exact mem_mid.2 (.inr (gr_sub l _ _ h))
  ·have := gr_sub l _ _ h;simpa using this
theorem gr_tx : ∀ (l : List Nat) (A : Bk) (st : List Nat) {j : Nat}, (st ++ l).Nodup → (∀ k ∈ l, A.has k) → A.has j →
  ((gr A l st).1.tx j = A.tx j ∧ (j ∈ l → j ∈ (gr A l st).2)) ∨ (j ∈ l ∧ j ∉ (gr A l st).2 ∧ (gr A l st).1.tx j = ⟨1, (A.tx j).locks ++ [(A.tx j).req], Lk.zero, (A.tx j).ops⟩)
 | [], _, _, _, _, _, _ => .inl ⟨rfl, fun h => by simp at h⟩
 | k :: l, A, st, j, hn, hh, hj => by
  have hk : A.has k := hh k (List.mem_cons_self ..);obtain ⟨n1, n2⟩ := nodup_mid hn;rw [gr];split
  ·have ih := gr_tx l (A.grant k) st (j := j) n2 (fun m hm => grant_has.2 (hh m (List.mem_cons_of_mem _ hm))) (grant_has.2 hj);by_cases e : j = k
   ·subst e;rcases ih with ⟨h1, _⟩ | ⟨h1, _⟩
    ·rw [grant_tx hk hk, if_pos rfl] at h1;exact .inr ⟨List.mem_cons_self .., fun c => n1 (gr_sub l _ _ c), h1⟩
    ·exact absurd (List.mem_append_right _ h1) n1
   ·rw [grant_tx hk hj, if_neg e] at ih;rcases ih with ⟨h1, h2⟩ | ⟨h1, h2⟩
    ·exact .inl ⟨h1, fun c => h2 ((List.mem_cons.1 c).resolve_left e)⟩
    ·exact .inr ⟨List.mem_cons_of_mem _ h1, h2⟩
  ·rcases gr_tx l A (st ++ [k]) (j := j) (by simpa using hn) (fun m hm => hh m (List.mem_cons_of_mem _ hm)) hj with ⟨h1, h2⟩ | ⟨h1, h2⟩
   ·refine .inl ⟨h1, fun c => ?_⟩;rcases List.mem_cons.1 c with rfl | c
    ·exact gr_old l _ _ (by simp)
    ·exact h2 c
   ·exact .inr ⟨List.mem_cons_of_mem _ h1, h2⟩
def BlkF (A : Bk) : List Nat → List Nat → Prop
 | _, [] => True
 | pre, k :: l => A.free (A.tx k).req pre = false ∧ BlkF A (pre ++ [k]) l
theorem BlkF.snoc {k : Nat} : ∀ {l pre : List Nat}, BlkF A pre (l ++ [k]) ↔ BlkF A pre l ∧ A.free (A.tx k).req (pre ++ l) = false
 | [], pre => by simp [BlkF]
 | a :: l, pre => by
  rw [List.cons_append, BlkF, BlkF, BlkF.snoc, and_assoc, List.append_assoc];rfl
theorem BlkF.mem {k : Nat} : ∀ {l pre : List Nat}, BlkF A pre l → k ∈ l → A.free (A.tx k).req (pre ++ l.takeWhile (fun j => !decide (j = k))) = false
 | [], _, _, h => by simp at h
 | a :: l, pre, h, hk => by
  rw [List.takeWhile_cons];by_cases c : a = k
  ·rw [if_neg (by simp [c]), List.append_nil, ← c];exact h.1
  ·rw [if_pos (by simp [c])];have := h.2.mem ((List.mem_cons.1 hk).resolve_left fun e => c e.symm);rw [List.append_assoc] at this;exact this
theorem free_mono {B : Bk} {x : Lk} {pre : List Nat} (h : A.free x pre = false) (h1 : ∀ m ∈ A.rn, m ∈ B.rn ∧ ∀ y ∈ (A.tx m).locks, y ∈ (B.tx m).locks) (h2 : ∀ m ∈ pre, (B.tx m).req = (A.tx m).req) : B.free x pre = false := by
 cases c : B.free x pre with
 | false => rfl
 | true =>
  obtain ⟨c1, c2⟩ := free_iff.1 c;have : A.free x pre = true := free_iff.2 ⟨fun m hm y hy => c1 m (h1 m hm).1 y ((h1 m hm).2 y hy), fun m hm => by rw [← h2 m hm]; exact c2 m hm⟩;rw [h] at this;cases this
theorem BlkF.mono {B : Bk} (h1 : ∀ m ∈ A.rn, m ∈ B.rn ∧ ∀ y ∈ (A.tx m).locks, y ∈ (B.tx m).locks) : ∀ {l pre : List Nat}, BlkF A pre l → (∀ m ∈ pre ++ l, (B.tx m).req = (A.tx m).req) → BlkF B pre l
 | [], _, _, _ => trivial
 | k :: l, pre, h, h2 => by
  refine ⟨?_, h.2.mono h1 fun m hm => h2 m (by simpa using hm)⟩;rw [h2 k (by simp)];exact free_mono h.1 h1 fun m hm => h2 m (List.mem_append_left _ hm)
def Blk (A : Bk) : Prop := BlkF A [] A.q
theorem gr_blk : ∀ (l : List Nat) (A : Bk) (st : List Nat), (A.wq (st ++ l)).Inv b → BlkF A [] st → BlkF (gr A l st).1 [] (gr A l st).2
 | [], _, _, _, h => h
 | k :: l, A, st, hI, h => by
  have hkq : k ∈ (A.wq (st ++ k :: l)).q := mem_mid.2 (.inl rfl);have hk : A.has k := hI.qhas hkq;have hnk := (nodup_mid hI.qnd).1;rw [gr];by_cases c : A.free (A.tx k).req st = true
  ·rw [if_pos c];refine gr_blk l _ _ (grant_inv hI c) (BlkF.mono (A := A) (B := A.grant k) (fun m hm => ⟨hm, fun y hy => ?_⟩) h fun m hm => ?_)
   ·rw [grant_tx hk (hI.has hm)];split
    ·rename_i e;rw [e] at hy;exact List.mem_append_left _ hy
    ·exact hy
   ·have hm' : m ∈ st := hm;have hne : m ≠ k := fun e => hnk (by rw [← e]; exact List.mem_append_left _ hm');rw [grant_tx hk (hI.qhas (List.mem_append_left _ hm')), if_neg hne]
  ·rw [if_neg c];refine gr_blk l _ _ (by rw [List.append_assoc]; exact hI) (BlkF.snoc.2 ⟨h, ?_⟩);simpa using c
theorem fin_blk (h : A.Inv b) : A.fin.Blk := BlkF.mono (A := (gr A A.q []).1) (B := A.fin) (fun _ hm => ⟨hm, fun _ hy => hy⟩) (gr_blk A.q A [] h trivial) fun _ _ => rfl
def EF (A : Bk) (q : List Nat) (k j : Nat) : Prop := (A.tx k).st = 2 ∧ ((j ∈ A.rn ∧ ∃ x ∈ (A.tx j).locks, cfl x (A.tx k).req = true) ∨ (j ∈ q.takeWhile (fun j => !decide (j = k)) ∧ cfl (A.tx j).req (A.tx k).req = true))
theorem E_iff {k j : Nat} : A.E k j ↔ EF A A.q k j := by
 unfold Bk.E Bk.waits EF Bk.before;by_cases c : (A.tx k).st = 2
 ·rw [if_neg (by simp [c]), List.mem_append, mem_owners, mem_ahead];exact ⟨fun h => ⟨c, h⟩, fun h => h.2⟩
 ·rw [if_pos c];exact ⟨fun h => by simp at h, fun h => absurd h.1 c⟩
theorem grant_edge {k i j : Nat} {st l : List Nat} (h : (A.wq (st ++ k :: l)).Inv b) (hf : A.free (A.tx k).req st = true) (hi : A.has i) (he : EF (A.grant k) (st ++ l) i j) : EF A (st ++ k :: l) i j := by
 have hkq : k ∈ (A.wq (st ++ k :: l)).q := mem_mid.2 (.inl rfl);have hk : A.has k := h.qhas hkq;have hnk := (nodup_mid h.qnd).1;obtain ⟨hf1, hf2⟩ := free_iff.1 hf;obtain ⟨hs, he⟩ := he;have e : i ≠ k := fun e => by
  rw [e, grant_tx hk hk, if_pos rfl] at hs;cases hs
 rw [grant_tx hk hi, if_neg e] at hs he;have hiq : i ∈ st ++ l := (mem_mid.1 ((h.q i).2 ⟨hi, hs⟩ : i ∈ st ++ k :: l)).resolve_left e;refine ⟨hs, ?_⟩;rcases he with ⟨hj, x, hx, hc⟩ | ⟨hj, hc⟩
 ·have hjh : A.has j := h.has hj;rw [grant_tx hk hjh] at hx;split at hx
  ·rename_i e2;subst e2;rcases List.mem_append.1 hx with hx | hx
   ·exact .inl ⟨hj, x, hx, hc⟩
   ·rw [List.mem_singleton.1 hx] at hc;refine .inr ⟨?_, hc⟩;by_cases cs : i ∈ st
    ·exact absurd (hf2 i cs) (by rw [cfl_comm, hc]; decide)
    ·rw [tw_out cs, List.takeWhile_cons, if_pos (by simp; exact fun e' => e e'.symm)];simp
  ·exact .inl ⟨hj, x, hx, hc⟩
 ·have hjq : j ∈ st ++ l := (List.takeWhile_sublist _).subset hj;have hne : j ≠ k := fun e' => hnk (e' ▸ hjq);rw [grant_tx hk (h.qhas (mem_mid.2 (.inr hjq) : j ∈ st ++ k :: l)), if_neg hne] at hc;refine .inr ⟨?_, hc⟩;by_cases cs : i ∈ st
  ·rw [tw_in cs] at hj ⊢;exact hj
  ·rw [tw_out cs] at hj ⊢;rw [List.takeWhile_cons, if_pos (by simp; exact fun e' => e e'.symm)];exact mem_mid.2 (.inr hj)
theorem gr_edge : ∀ (l : List Nat) (A : Bk) (st : List Nat) {i j : Nat}, (A.wq (st ++ l)).Inv b → A.has i → EF (gr A l st).1 (gr A l st).2 i j → EF A (st ++ l) i j
 | [], A, st, i, j, _, _, h => by
  rw [List.append_nil];exact h
 | k :: l, A, st, i, j, hI, hi, h => by
  rw [gr] at h;by_cases c : A.free (A.tx k).req st = true
  ·rw [if_pos c] at h;exact grant_edge hI c hi (gr_edge l _ _ (grant_inv hI c) (grant_has.2 hi) h)
  ·rw [if_neg c] at h;have := gr_edge l A (st ++ [k]) (by rw [List.append_assoc]; exact hI) hi h;rw [List.append_assoc] at this;exact this
theorem fin_edge {i j : Nat} (h : A.Inv b) (hi : A.has i) (he : A.fin.E i j) : A.E i j := E_iff.2 (gr_edge A.q A [] h hi (E_iff.1 he))
theorem ended_edge {k s : Nat} {r : Lk} {C W : Nat → Nat} {lg : List (Nat × List Oa)} {i j : Nat} (h : A.Inv b) (hk : A.has k) (hs : s = 3 ∨ s = 4) (hi : A.has i) (he : (A.ended k s r C W lg).E i j) : A.E i j := by
 obtain ⟨h1, h2⟩ := E_iff.1 he;have e : i ≠ k := fun e => by
  rw [e, ended_tx hk hk, if_pos rfl] at h1;dsimp only at h1;omega
 rw [ended_ne hk hi e] at h1 h2;refine E_iff.2 ⟨h1, ?_⟩;rcases h2 with ⟨hj, x, hx, hc⟩ | ⟨hj, hc⟩
 ·obtain ⟨a1, a2⟩ := mem_ne.1 hj;rw [ended_ne hk (h.has a1) a2] at hx;exact .inl ⟨a1, x, hx, hc⟩
 ·have hjq := (List.takeWhile_sublist _).subset hj;obtain ⟨a1, a2⟩ := mem_ne.1 hjq;rw [ended_ne hk (h.qhas a1) a2] at hc;exact .inr ⟨tw_filter e j hj, hc⟩
theorem fin_has {j : Nat} : A.fin.has j ↔ A.has j := gr_has A.q A []
theorem abort_has {k j : Nat} (hk : A.has k) : (A.abort k).has j ↔ A.has j := by rw [abort_eq hk, fin_has, ended_has]
theorem commit_has {k j : Nat} (hk : A.has k) : (A.commit k).has j ↔ A.has j := by rw [commit_eq hk, fin_has, ended_has]
theorem abort_edge {k i j : Nat} (h : A.Inv b) (hk : A.has k) (hi : A.has i) (he : (A.abort k).E i j) : A.E i j := by
 rw [abort_eq hk] at he;exact ended_edge h hk (.inr rfl) hi (fin_edge (h.ab hk) (ended_has.2 hi) he)
theorem commit_edge {k i j : Nat} (h : A.Inv b) (hr : k ∈ A.rn) (hi : A.has i) (he : (A.commit k).E i j) : A.E i j := by
 rw [commit_eq (h.has hr)] at he;exact ended_edge h (h.has hr) (.inl rfl) hi (fin_edge (h.cm (h.has hr) hr) (ended_has.2 hi) he)
theorem E_has {i j : Nat} (h : A.Inv b) (he : A.E i j) : A.has j := by
 rcases (E_iff.1 he).2 with ⟨hj, _⟩ | ⟨hj, _⟩
 ·exact h.has hj
 ·exact h.qhas ((List.takeWhile_sublist _).subset hj)
theorem E_rn {i j : Nat} (h : A.Inv b) (he : A.E i j) : j ∈ A.rn := by
 rcases (E_iff.1 he).2 with ⟨hj, _⟩ | ⟨hj, _⟩
 ·exact hj
 ·exact h.qrn ((List.takeWhile_sublist _).subset hj)
theorem R_iff {k j : Nat} : A.R k j ↔ TransGen A.E k j := by
 constructor
 ·intro h;induction h with
  | one h => exact .single h
  | more _ h ih => exact .tail ih h
 ·intro h;induction h with
  | single h => exact .one h
  | tail _ h ih => exact .more ih h
def Ac (A : Bk) : Prop := ∀ k, A.has k → ¬ TransGen A.E k k
def AcW (A : Bk) (k : Nat) : Prop := ∀ j, A.has j → ¬ TransGen (fun i m => A.E i m ∧ i ≠ k) j j
theorem trans_sub {P Q : Nat → Nat → Prop} {H : Nat → Prop} (h1 : ∀ i m, P i m → H m) (h2 : ∀ i m, H i → P i m → Q i m) {i j : Nat} (hi : H i) (h : TransGen P i j) : TransGen Q i j ∧ H j := by
 induction h with
 | single h => exact ⟨.single (h2 _ _ hi h), h1 _ _ h⟩
 | tail _ h ih => exact ⟨.tail ih.1 (h2 _ _ ih.2 h), h1 _ _ h⟩
theorem Ac.sub {B : Bk} (h : A.Ac) (hB : B.Inv b) (hh : ∀ i, B.has i → A.has i) (he : ∀ i j, A.has i → B.E i j → A.E i j) : B.Ac := fun k hk hc =>
 h k (hh k hk) (trans_sub (H := A.has) (fun _ _ c => hh _ (E_has hB c)) he (hh k hk) hc).1
theorem AcW.sub {B : Bk} {k : Nat} (h : A.AcW k) (hB : B.Inv b) (hh : ∀ i, B.has i → A.has i) (he : ∀ i j, A.has i → B.E i j → A.E i j) : B.AcW k := fun j hj hc =>
 h j (hh j hj) (trans_sub (H := A.has) (fun _ _ c => hh _ (E_has hB c.1)) (fun i m hi c => ⟨he i m hi c.1, c.2⟩) (hh j hj) hc).1
theorem Ac.w (h : A.Ac) (k : Nat) : A.AcW k := fun j hj hc => h j hj (by
 have : ∀ {a c}, TransGen (fun i m => A.E i m ∧ i ≠ k) a c → TransGen A.E a c := fun h => by
  induction h with
  | single h => exact .single h.1
  | tail _ h ih => exact .tail ih h.1
 exact this hc)
theorem path_split {k j i : Nat} (h : TransGen A.E j i) : TransGen (fun i m => A.E i m ∧ i ≠ k) j i ∨ ((j = k ∨ TransGen A.E j k) ∧ TransGen A.E k i) := by
 induction h with
 | @single m h =>
  by_cases e : j = k
  ·exact .inr ⟨.inl e, by rw [← e]; exact .single h⟩
  ·exact .inl (.single ⟨h, e⟩)
 | @tail m n h h2 ih =>
  rcases ih with ih | ⟨h3, h4⟩
  ·by_cases e : m = k
   ·exact .inr ⟨.inr (by rw [← e]; exact h), by rw [← e]; exact .single h2⟩
   ·exact .inl (.tail ih ⟨h2, e⟩)
  ·exact .inr ⟨h3, .tail h4 h2⟩
theorem AcW.ac {k : Nat} (h : A.AcW k) (hk : ¬ TransGen A.E k k) : A.Ac := fun j hj hc => by
 rcases path_split (k := k) hc with c | ⟨c1, c2⟩
 ·exact h j hj c
 ·rcases c1 with rfl | c1
  ·exact hk hc
  ·exact hk (TransGen.trans c2 c1)
theorem AcW.ac' {k : Nat} (h : A.AcW k) (hk : (A.tx k).st ≠ 2) : A.Ac := h.ac fun c => by
 have : ∀ {i j}, TransGen A.E i j → ∃ m, A.E i m := fun h => by
  induction h with
  | single h => exact ⟨_, h⟩
  | tail _ _ ih => exact ih
 obtain ⟨m, hm⟩ := this c;exact hk (E_iff.1 hm).1
end Bk
end Go.KL
end

section
namespace Go.KL
open Relation
theorem sum_swap {f g : Nat → Nat} {k : Nat} : ∀ {l : List Nat}, l.Nodup → k ∈ l → (∀ j ∈ l, j ≠ k → g j = f j) → (l.map g).sum + f k = (l.map f).sum + g k
 | [], _, h, _ => by simp at h
 | a :: l, hn, h, h2 => by
  obtain ⟨n1, n2⟩ := List.nodup_cons.1 hn;rw [List.map_cons, List.sum_cons, List.map_cons, List.sum_cons];rcases List.mem_cons.1 h with rfl | h
  ·rw [sum_congr (f := g) (g := f) (l := l) fun j hj => h2 j (List.mem_cons_of_mem _ hj) fun c => n1 (c ▸ hj)];omega
  ·have := sum_swap n2 h fun j hj => h2 j (List.mem_cons_of_mem _ hj);rw [h2 a (List.mem_cons_self ..) fun c => n1 (c ▸ h)];omega
namespace Bk
variable {A : Bk} {b : Nat}
def up (A : Bk) (k : Nat) (t : Tx) (q : List Nat) (W : Nat → Nat) : Bk := ⟨A.size, A.C, W, A.ts.set (k - 1) t, A.rn, q, A.log⟩
theorem Inv.upd (h : A.Inv b) {k b' : Nat} {t : Tx} {q' : List Nat} {W' : Nat → Nat} (hr : k ∈ A.rn) (hst : t.st = 1 ∨ t.st = 2) (hq : ∀ j, j ∈ q' ↔ (j ∈ A.q ∧ j ≠ k) ∨ (j = k ∧ t.st = 2)) (hqn : q'.Nodup) (hb : b ≤ b')
  (hl : ∀ x ∈ t.locks, x.tx = k ∧ x.lo < x.hi ∧ x.hi ≤ A.size) (hrq : t.st = 2 → t.req.tx = k ∧ t.req.lo < t.req.hi ∧ t.req.hi ≤ A.size) (hc : t.locks.length + q'.length + A.count ≤ 1024 + (A.tx k).locks.length + A.q.length)
  (hfr : ∀ j ∈ A.rn, j ≠ k → ∀ x ∈ (A.tx j).locks, ∀ y ∈ t.locks, cfl x y = false) (hh : ∀ o ∈ t.ops, Hold t.locks o.lo o.hi o.mv) (hrep : Rep A.size A.C t.ops)
  (hU : ∀ i, (∀ j ∈ A.rn, j ≠ k → ¬ tch (A.tx j).ops i) → ¬ tch t.ops i → W' i = A.C i) (hT : ∀ i, tch t.ops i → W' i = ap A.C t.ops i) (hT' : ∀ j ∈ A.rn, j ≠ k → ∀ i, tch (A.tx j).ops i → W' i = ap A.C (A.tx j).ops i)
  (hm : KL.nbd A.C A.size + 2 * (A.moves + mvs t.ops) ≤ 4096 + 2 * mvs (A.tx k).ops) (hol : t.ops.length ≤ b') : (A.up k t q' W').Inv b' := by
 have hk : A.has k := h.has hr;have hx : ∀ {j}, A.has j → (A.up k t q' W').tx j = if j = k then t else A.tx j := fun hj => tx_set hk hj;have hH : ∀ {j}, (A.up k t q' W').has j ↔ A.has j := has_set;refine { sz := h.sz, rn := fun j => ?_, rnd := h.rnd, rnl := h.rnl, q := fun j => ?_, qnd := hqn, st := fun j hj => ?_, off := fun j hj hn => ?_, lk := fun j hj x hxx => ?_, rq := fun j hj => ?_, cnt := ?_, fr := fun i hi j hj x hxx y hy => ?_, held := fun j hj o hoo => ?_, rep := fun j hj => ?_, wU := fun i hi => ?_, wT := fun j hj i ht => ?_, rm := ?_, ol := fun j hj => ?_ }
 ·rw [hH];have h1 := h.rn j;show j ∈ A.rn ↔ _;rw [h1];refine and_congr_right fun hj => ?_;rw [hx hj];by_cases e : j = k
  ·rw [if_pos e, e];have h2 := (h.rn k).1 hr;exact ⟨fun _ => hst, fun _ => h2.2⟩
  ·rw [if_neg e]
 ·rw [hH];show j ∈ q' ↔ _;rw [hq j];by_cases e : j = k
  ·subst e;rw [hx hk, if_pos rfl];exact ⟨fun c => c.elim (fun c => absurd rfl c.2) fun c => ⟨hk, c.2⟩, fun c => .inr ⟨rfl, c.2⟩⟩
  ·rw [h.q j];constructor
   ·rintro (⟨⟨h1, h2⟩, _⟩ | ⟨h1, _⟩)
    ·rw [hx h1, if_neg e]; exact ⟨h1, h2⟩
    ·exact absurd h1 e
   ·rintro ⟨h1, h2⟩;rw [hx h1, if_neg e] at h2;exact .inl ⟨⟨h1, h2⟩, e⟩
 ·rw [hx (hH.1 hj)];split
  ·omega
  ·exact h.st j (hH.1 hj)
 ·have e : j ≠ k := fun e => hn (by rw [e]; exact hr);rw [hx (hH.1 hj), if_neg e];exact h.off j (hH.1 hj) hn
 ·rw [hx (hH.1 hj)] at hxx;split at hxx
  ·rename_i e;rw [e];exact hl x hxx
  ·exact h.lk j (hH.1 hj) x hxx
 ·rcases (hq j).1 hj with ⟨h1, e⟩ | ⟨e, h1⟩
  ·rw [hx (h.qhas h1), if_neg e];exact h.rq j h1
  ·subst e;rw [hx hk, if_pos rfl];exact hrq h1
 ·have h1 := sum_swap (f := fun j => (A.tx j).locks.length) (g := fun j => ((A.up k t q' W').tx j).locks.length) h.rnd hr fun j hj e => by rw [hx (h.has hj), if_neg e]
  have h2 := h.cnt;rw [hx hk, if_pos rfl] at h1;unfold Bk.count at hc h2;have h3 : (A.rn.map fun j => ((A.up k t q' W').tx j).locks.length).sum + q'.length ≤ 1024 := by omega
  exact h3
 ·rw [hx (h.has hi)] at hxx;rw [hx (h.has hj)] at hy;split at hxx <;> split at hy
  ·rename_i e1 e2;exact cfl_self ((hl x hxx).1.trans (hl y hy).1.symm)
  ·rename_i e1 e2;rw [cfl_comm];exact hfr j hj e2 y hy x hxx
  ·rename_i e1 e2;exact hfr i hi e1 x hxx y hy
  ·exact h.fr i hi j hj x hxx y hy
 ·rw [hx (h.has hj)] at hoo ⊢;split at hoo
  ·rename_i e;rw [if_pos e];exact hh o hoo
  ·rename_i e;rw [if_neg e];exact h.held j hj o hoo
 ·rw [hx (h.has hj)];split
  ·exact hrep
  ·exact h.rep j hj
 ·refine hU i (fun j hj e ht => hi j hj ?_) fun ht => hi k hr ?_
  ·rw [hx (h.has hj), if_neg e];exact ht
  ·rw [hx hk, if_pos rfl];exact ht
 ·rw [hx (h.has hj)] at ht ⊢;split at ht
  ·rename_i e;rw [if_pos e];exact hT i ht
  ·rename_i e;rw [if_neg e];exact hT' j hj e i ht
 ·have h1 := sum_swap (f := fun j => mvs (A.tx j).ops) (g := fun j => mvs ((A.up k t q' W').tx j).ops) h.rnd hr fun j hj e => by rw [hx (h.has hj), if_neg e]
  have h4 : A.moves = (A.rn.map fun j => mvs (A.tx j).ops).sum := rfl;have h5 := h.rm;rw [hx hk, if_pos rfl] at h1;have h3 : KL.nbd A.C A.size + 2 * (A.rn.map fun j => mvs ((A.up k t q' W').tx j).ops).sum ≤ 4096 := by omega
  exact h3
 ·rw [hx (hH.1 hj)];split
  ·exact hol
  ·exact Nat.le_trans (h.ol j (hH.1 hj)) hb
section
variable {k : Nat}
theorem Inv.run (h : A.Inv b) (hk : A.has k) (hs : (A.tx k).st = 1) : k ∈ A.rn := (h.rn k).2 ⟨hk, .inl hs⟩
theorem Inv.noq (h : A.Inv b) (hs : (A.tx k).st = 1) : k ∉ A.q := fun c => by
 have := ((h.q k).1 c).2;omega
theorem Inv.q1 (h : A.Inv b) (hs : (A.tx k).st = 1) {s : Nat} (h1 : s = 1) (j : Nat) : j ∈ A.q ↔ (j ∈ A.q ∧ j ≠ k) ∨ (j = k ∧ s = 2) := by
 constructor
 ·exact fun c => .inl ⟨c, fun e => h.noq hs (e ▸ c)⟩
 ·rintro (c | c)
  ·exact c.1
  ·omega
theorem Inv.got (h : A.Inv b) (hk : A.has k) (hs : (A.tx k).st = 1) {lo hi : Nat} {wr : Bool} (h1 : lo < hi) (h2 : hi ≤ A.size) (hc : A.count < 1024) (hf : A.free ⟨k, lo, hi, wr⟩ A.q = true) : (A.setT k { A.tx k with locks := (A.tx k).locks ++ [⟨k, lo, hi, wr⟩] }).Inv b := by
 have hr := h.run hk hs;obtain ⟨f1, _⟩ := free_iff.1 hf;refine h.upd (t := { A.tx k with locks := (A.tx k).locks ++ [⟨k, lo, hi, wr⟩] }) (q' := A.q) (W' := A.W) hr (.inl hs) (h.q1 hs hs) h.qnd (Nat.le_refl _) (fun x hx => ?_) (fun c => ?_) ?_ (fun j hj e x hx y hy => ?_) (fun o ho => ?_) (h.rep k hr) (fun i hi hn => h.wU i fun j hj => ?_) (h.wT k hr) (fun j hj _ => h.wT j hj) ?_ (h.ol k hk)
 ·rcases List.mem_append.1 hx with hx | hx
  ·exact h.lk k hk x hx
  ·rw [List.mem_singleton.1 hx];exact ⟨rfl, h1, h2⟩
 ·dsimp only at c; omega
 ·dsimp only;rw [List.length_append, List.length_singleton];omega
 ·rcases List.mem_append.1 hy with hy | hy
  ·exact h.fr j hj k hr x hx y hy
  ·rw [List.mem_singleton.1 hy];exact f1 j hj x hx
 ·exact (h.held k hr o ho).mono fun x hx => List.mem_append_left _ hx
 ·by_cases e : j = k
  ·rw [e]; exact hn
  ·exact hi j hj e
 ·have := h.rm;dsimp only;omega
theorem Inv.wait (h : A.Inv b) (hk : A.has k) (hs : (A.tx k).st = 1) {lo hi : Nat} {wr : Bool} (h1 : lo < hi) (h2 : hi ≤ A.size) (hc : A.count < 1024) : (A.wait k ⟨k, lo, hi, wr⟩).Inv b := by
 have hr := h.run hk hs;refine h.upd (t := ⟨2, (A.tx k).locks, ⟨k, lo, hi, wr⟩, (A.tx k).ops⟩) (q' := A.q ++ [k]) (W' := A.W) hr (.inr rfl) (fun j => ?_) ?_ (Nat.le_refl _) (h.lk k hk) (fun _ => ⟨rfl, h1, h2⟩) ?_ (fun j hj _ x hx y hy => h.fr j hj k hr x hx y hy) (h.held k hr) (h.rep k hr) (fun i hi hn => h.wU i fun j hj => ?_) (h.wT k hr) (fun j hj _ => h.wT j hj) ?_ (h.ol k hk)
 ·rw [List.mem_append, List.mem_singleton];constructor
  ·rintro (c | c)
   ·exact .inl ⟨c, fun e => h.noq hs (e ▸ c)⟩
   ·exact .inr ⟨c, rfl⟩
  ·rintro (c | c)
   ·exact .inl c.1
   ·exact .inr c.1
 ·refine List.nodup_append.2 ⟨h.qnd, by simp, fun x hx y hy => ?_⟩;rw [List.mem_singleton.1 hy];exact fun e => h.noq hs (e ▸ hx)
 ·dsimp only;rw [List.length_append, List.length_singleton];omega
 ·by_cases e : j = k
  ·rw [e]; exact hn
  ·exact hi j hj e
 ·have := h.rm;dsimp only;omega
theorem Inv.looked (h : A.Inv b) (hk : A.has k) (hs : (A.tx k).st = 1) {lo hi fr to : Nat} (h1 : lo ≤ hi) (h2 : hi ≤ A.size) (h3 : fr < 16 ∧ to < 16) (hh : Hold (A.tx k).locks lo hi false) : (A.done k ⟨false, lo, hi, fr, to, rns A.W lo hi⟩).Inv (b + 1) := by
 have hr := h.run hk hs;have hnt : ∀ i, tch ((A.tx k).ops ++ [⟨false, lo, hi, fr, to, rns A.W lo hi⟩]) i → tch (A.tx k).ops i := fun i ht => by
  rcases tch.app.1 ht with c | ⟨o, ho, c, _⟩
  ·exact c
  ·rw [List.mem_singleton.1 ho] at c; cases c
 refine h.upd (t := { A.tx k with ops := (A.tx k).ops ++ [⟨false, lo, hi, fr, to, rns A.W lo hi⟩] }) (q' := A.q) (W' := A.W) hr (.inl hs) (h.q1 hs hs) h.qnd (Nat.le_succ _) (h.lk k hk) (fun c => ?_) ?_ (fun j hj _ x hx y hy => h.fr j hj k hr x hx y hy) (fun o ho => ?_) ?_ (fun i hi hn => h.wU i fun j hj => ?_) (fun i ht => ?_) (fun j hj _ => h.wT j hj) ?_ ?_
 ·dsimp only at c; omega
 ·have := h.cnt;dsimp only;omega
 ·rcases List.mem_append.1 ho with ho | ho
  ·exact h.held k hr o ho
  ·rw [List.mem_singleton.1 ho];exact hh
 ·exact (h.rep k hr).snoc ⟨⟨h1, h2⟩, h3, fun _ => rns_congr h1 fun i a1 a2 => h.view' hr hh a1 a2, fun c => (by cases c), fun c => (by cases c)⟩
 ·by_cases e : j = k
  ·rw [e];exact fun c => hn (tch.app.2 (.inl c))
  ·exact hi j hj e
 ·have := hnt i ht;rw [h.wT k hr i this];dsimp only;rw [ap_snoc];rfl
 ·have := h.rm;dsimp only;rw [mvs_app];show _ + 2 * (_ + (_ + 0)) ≤ _;omega
 ·have := h.ol k hk;dsimp only;rw [List.length_append];simp;omega
theorem Inv.room (hr : A.room ≠ 0) : KL.nbd A.C A.size + 2 * A.moves + 2 ≤ 4096 := by
 unfold Bk.room at hr;omega
theorem Inv.moved (h : A.Inv b) (hk : A.has k) (hs : (A.tx k).st = 1) {lo hi fr to : Nat} (h1 : lo ≤ hi) (h2 : hi ≤ A.size) (h3 : fr < 16 ∧ to < 16) (hh : Hold (A.tx k).locks lo hi true) (ha : A.allT lo hi fr) (hro : A.room ≠ 0) : (({ A with W := setf A.W lo hi to } : Bk).done k ⟨true, lo, hi, fr, to, []⟩).Inv (b + 1) := by
 have hr := h.run hk hs;have hin : ∀ i, lo ≤ i → i < hi → tch ((A.tx k).ops ++ [⟨true, lo, hi, fr, to, []⟩]) i := fun i a1 a2 => tch.app.2 (.inr ⟨_, List.mem_singleton.2 rfl, rfl, a1, a2⟩);refine h.upd (t := { A.tx k with ops := (A.tx k).ops ++ [⟨true, lo, hi, fr, to, []⟩] }) (q' := A.q) (W' := setf A.W lo hi to) hr (.inl hs) (h.q1 hs hs) h.qnd (Nat.le_succ _) (h.lk k hk) (fun c => ?_) ?_ (fun j hj _ x hx y hy => h.fr j hj k hr x hx y hy) (fun o ho => ?_) ?_ (fun i hi hn => ?_) (fun i ht => ?_) (fun j hj e i ht => ?_) ?_ ?_
 ·dsimp only at c; omega
 ·have := h.cnt;dsimp only;omega
 ·rcases List.mem_append.1 ho with ho | ho
  ·exact h.held k hr o ho
  ·rw [List.mem_singleton.1 ho];exact hh
 ·exact (h.rep k hr).snoc ⟨⟨h1, h2⟩, h3, fun c => (by cases c), fun _ i a1 a2 => (h.view' hr hh a1 a2).symm.trans (ha i a1 a2), fun _ => rfl⟩
 ·rw [setf_out fun c => hn (hin i c.1 c.2)];refine h.wU i fun j hj => ?_;by_cases e : j = k
  ·rw [e];exact fun c => hn (tch.app.2 (.inl c))
  ·exact hi j hj e
 ·dsimp only at ht ⊢;rw [ap_snoc];by_cases c : lo ≤ i ∧ i < hi
  ·rw [setf_in c, stp_in (o := ⟨true, lo, hi, fr, to, []⟩) ⟨rfl, c⟩]
  ·rw [setf_out c, stp_out (o := ⟨true, lo, hi, fr, to, []⟩) fun d => c d.2];refine h.wT k hr i ?_;rcases tch.app.1 ht with d | ⟨o, ho, _, d⟩
   ·exact d
   ·rw [List.mem_singleton.1 ho] at d;exact absurd d c
 ·rw [setf_out fun c => ?_]
  ·exact h.wT j hj i ht
  ·obtain ⟨x, hx, _, h5⟩ := hh i c.1 c.2;exact h.apart hj hr e ht hx h5
 ·have := Inv.room hro;dsimp only;rw [mvs_app];show _ + 2 * (_ + (_ + 1)) ≤ _;omega
 ·have := h.ol k hk;dsimp only;rw [List.length_append];simp;omega
end
end Bk
end Go.KL
end

section
namespace Go.KL
open Relation
namespace Bk
variable {A : Bk} {b : Nat}
structure Ok (A : Bk) (b : Nat) : Prop where
 inv : A.Inv b
 blk : A.Blk
 ac : A.Ac
theorem Ok.mono (h : A.Ok b) {c : Nat} (hc : b ≤ c) : A.Ok c := ⟨h.inv.mono hc, h.blk, h.ac⟩
theorem fin_tx {j : Nat} (h : A.Inv b) (hj : A.has j) : (A.fin.tx j = A.tx j ∧ (j ∈ A.q → j ∈ A.fin.q)) ∨ (j ∈ A.q ∧ j ∉ A.fin.q ∧ A.fin.tx j = ⟨1, (A.tx j).locks ++ [(A.tx j).req], Lk.zero, (A.tx j).ops⟩) :=
 gr_tx A.q A [] h.qnd (fun _ hk => h.qhas hk) hj
theorem fin_same : A.fin.size = A.size ∧ A.fin.C = A.C ∧ A.fin.W = A.W ∧ A.fin.log = A.log ∧ A.fin.ts.length = A.ts.length := gr_same A.q A []
section
variable {k : Nat}
theorem abort_same (hk : A.has k) : (A.abort k).size = A.size ∧ (A.abort k).C = A.C ∧ (A.abort k).log = A.log ∧ (A.abort k).ts.length = A.ts.length := by
 rw [abort_eq hk];obtain ⟨h1, h2, _, h4, h5⟩ := fin_same (A := A.ended k 4 Lk.zero A.C (KL.un A.W (A.tx k).ops) A.log);exact ⟨h1, h2, h4, h5.trans (by simp [ended])⟩
theorem abort_me (h : A.Inv b) (hk : A.has k) : (A.abort k).tx k = ⟨4, [], Lk.zero, []⟩ := by
 rw [abort_eq hk];have e := ended_tx (s := 4) (r := Lk.zero) (C := A.C) (W := KL.un A.W (A.tx k).ops) (lg := A.log) hk hk;rw [if_pos rfl] at e;rcases fin_tx (h.ab hk) (ended_has.2 hk) with ⟨h1, _⟩ | ⟨h1, _⟩
 ·rw [h1, e]
 ·exact absurd rfl (mem_ne.1 h1).2
theorem abort_tx {j : Nat} (h : A.Inv b) (hk : A.has k) (hj : A.has j) (hne : j ≠ k) : ((A.abort k).tx j = A.tx j ∧ (j ∈ A.q → j ∈ (A.abort k).q)) ∨ (j ∈ A.q ∧ j ∉ (A.abort k).q ∧ (A.abort k).tx j = ⟨1, (A.tx j).locks ++ [(A.tx j).req], Lk.zero, (A.tx j).ops⟩) := by
 rw [abort_eq hk];have e := ended_ne (s := 4) (r := Lk.zero) (C := A.C) (W := KL.un A.W (A.tx k).ops) (lg := A.log) hk hj hne;rcases fin_tx (h.ab hk) (ended_has.2 hj) with ⟨h1, h2⟩ | ⟨h1, h2, h3⟩
 ·exact .inl ⟨h1.trans e, fun c => h2 (mem_ne.2 ⟨c, hne⟩)⟩
 ·rw [e] at h3;exact .inr ⟨(mem_ne.1 h1).1, h2, h3⟩
structure Rs (A0 : Bk) (b k : Nat) (l : Lk) (A : Bk) : Prop where
 inv : A.Inv b
 blk : A.Blk
 w : A.AcW k
 hk : A.has k
 sm : A.size = A0.size ∧ A.C = A0.C ∧ A.log = A0.log ∧ A.ts.length = A0.ts.length
 me : ((A.tx k).st = 2 ∧ (A.tx k).req = l ∧ (A.tx k).locks = (A0.tx k).locks ∧ (A.tx k).ops = (A0.tx k).ops) ∨ ((A.tx k).st = 1 ∧ (A.tx k).locks = (A0.tx k).locks ++ [l] ∧ (A.tx k).ops = (A0.tx k).ops) ∨ (A.tx k).st = 4
theorem Rs.abort {A0 : Bk} {l : Lk} {v : Nat} (h : Rs A0 b k l A) (hs : (A.tx k).st = 2) (hv : A.has v) : Rs A0 b k l (A.abort v) := by
 obtain ⟨s1, s2, s3, s4⟩ := h.sm;obtain ⟨t1, t2, t3, t4⟩ := abort_same hv;have hi := h.inv.abort hv;refine ⟨hi, ?_, h.w.sub hi (fun i c => (abort_has hv).1 c) fun i j hi he => abort_edge h.inv hv hi he, (abort_has hv).2 h.hk, ⟨t1.trans s1, t2.trans s2, t3.trans s3, t4.trans s4⟩, ?_⟩
 ·rw [abort_eq hv];exact fin_blk (h.inv.ab hv)
 ·by_cases e : k = v
  ·subst e;rw [abort_me h.inv hv];exact .inr (.inr rfl)
  ·obtain ⟨_, m2, m3, m4⟩ : (A.tx k).st = 2 ∧ (A.tx k).req = l ∧ (A.tx k).locks = (A0.tx k).locks ∧ (A.tx k).ops = (A0.tx k).ops := by
    rcases h.me with c | c | c
    ·exact c
    ·omega
    ·omega
   rcases abort_tx h.inv hv h.hk e with ⟨h1, _⟩ | ⟨_, _, h1⟩
   ·rw [h1]; exact .inl ⟨hs, m2, m3, m4⟩
   ·rw [h1, m2, m3, m4];exact .inr (.inl ⟨rfl, rfl, rfl⟩)
theorem IsVic.has (h : A.Inv b) {v : Nat} (hv : A.IsVic k v) (h0 : v ≠ 0) : A.has v := by
 rcases hv with ⟨c, _⟩ | ⟨_, ⟨c, _⟩, _⟩
 ·exact absurd c h0
 ·rcases R.sub c with c | c
  ·exact h.has c
  ·exact h.qhas c
theorem before_app {q : List Nat} {i j : Nat} (h : i ∈ q) : (q ++ [j]).takeWhile (fun x => !decide (x = i)) = q.takeWhile (fun x => !decide (x = i)) := tw_in h
theorem wait_tx {l : Lk} {j : Nat} (hk : A.has k) (hj : A.has j) : (A.wait k l).tx j = if j = k then ⟨2, (A.tx k).locks, l, (A.tx k).ops⟩ else A.tx j := tx_set (t := ⟨2, (A.tx k).locks, l, (A.tx k).ops⟩) hk hj
theorem wait_has {l : Lk} {j : Nat} : (A.wait k l).has j ↔ A.has j := has_set (t := ⟨2, (A.tx k).locks, l, (A.tx k).ops⟩)
theorem Ok.rs (h : A.Ok b) (hk : A.has k) (hs : (A.tx k).st = 1) {lo hi : Nat} {wr : Bool} (h1 : lo < hi) (h2 : hi ≤ A.size) (hc : A.count < 1024) (hf : A.free ⟨k, lo, hi, wr⟩ A.q = false) : Rs A b k ⟨k, lo, hi, wr⟩ (A.wait k ⟨k, lo, hi, wr⟩) := by
 have hi' := h.inv.wait hk hs (wr := wr) h1 h2 hc;have hlk : ∀ m ∈ A.rn, m ∈ (A.wait k ⟨k, lo, hi, wr⟩).rn ∧ ∀ y ∈ (A.tx m).locks, y ∈ ((A.wait k ⟨k, lo, hi, wr⟩).tx m).locks := fun m hm => ⟨hm, fun y hy => by
  rw [wait_tx hk (h.inv.has hm)];split
  ·rename_i e; rw [e] at hy; exact hy
  ·exact hy⟩
 have hrq : ∀ m ∈ A.q, (A.wait k ⟨k, lo, hi, wr⟩).tx m = A.tx m := fun m hm => by
  rw [wait_tx hk (h.inv.qhas hm), if_neg (show m ≠ k from fun e => h.inv.noq hs (e ▸ hm))]
 refine ⟨hi', BlkF.snoc.2 ⟨?_, ?_⟩, fun j hj hcy => ?_, wait_has.2 hk, ⟨rfl, rfl, rfl, by simp [Bk.wait, Bk.setT]⟩, ?_⟩
 ·exact BlkF.mono (A := A) (B := A.wait k ⟨k, lo, hi, wr⟩) hlk h.blk fun m hm => by rw [hrq m hm]
 ·rw [wait_tx hk hk, if_pos rfl];exact free_mono hf hlk fun m hm => by rw [hrq m hm]
 ·refine h.ac j (wait_has.1 hj) (trans_sub (H := A.has) (fun _ _ c => wait_has.1 (E_has hi' c.1)) (fun i m hi c => ?_) (wait_has.1 hj) hcy).1;obtain ⟨c1, c2⟩ := c;obtain ⟨c3, c4⟩ := E_iff.1 c1;rw [wait_tx hk hi, if_neg c2] at c3 c4;have hiq : i ∈ A.q := (h.inv.q i).2 ⟨hi, c3⟩;refine E_iff.2 ⟨c3, ?_⟩;rcases c4 with ⟨hm, x, hx, hcf⟩ | ⟨hm, hcf⟩
  ·refine .inl ⟨hm, x, ?_, hcf⟩;rw [wait_tx hk (h.inv.has hm)] at hx;split at hx
   ·rename_i e; rw [e]; exact hx
   ·exact hx
  ·have hm2 : m ∈ (A.q ++ [k]).takeWhile (fun x => !decide (x = i)) := hm;rw [before_app hiq] at hm2;rw [hrq m ((List.takeWhile_sublist _).subset hm2)] at hcf;exact .inr ⟨hm2, hcf⟩
 ·rw [wait_tx hk hk, if_pos rfl];exact .inl ⟨rfl, rfl, rfl, rfl⟩
structure Got (A : Bk) (b k lo hi : Nat) (wr : Bool) (B : Bk) (e : Nat) : Prop where
 ok : B.Ok b
 hk : B.has k
 sm : B.size = A.size ∧ B.C = A.C ∧ B.log = A.log ∧ B.ts.length = A.ts.length
 z : e = 0 → (B.tx k).st = 1 ∧ Hold (B.tx k).locks lo hi wr ∧ (B.tx k).ops = (A.tx k).ops
theorem Rs.res {A0 B : Bk} {lo hi e : Nat} {wr : Bool} (hr : Res k A B e) : Rs A0 b k ⟨k, lo, hi, wr⟩ A → Got A0 b k lo hi wr B e := by
 induction hr with
 | @free A hs =>
  intro h;refine ⟨⟨h.inv, h.blk, h.w.ac' (by omega)⟩, h.hk, h.sm, fun _ => ⟨hs, ?_⟩⟩;rcases h.me with c | ⟨_, c2, c3⟩ | c
  ·omega
  ·rw [c2, c3];exact ⟨Hold.last, rfl⟩
  ·omega
 | @gone A hs =>
  intro h;exact ⟨⟨h.inv, h.blk, h.w.ac' (by omega)⟩, h.hk, h.sm, fun c => by cases c⟩
 | @wait A hs hv =>
  intro h;refine ⟨⟨h.inv, h.blk, h.w.ac fun c => ?_⟩, h.hk, h.sm, fun c => by cases c⟩;rcases hv with ⟨_, hv⟩ | ⟨h0, _⟩
  ·exact hv k ⟨R_iff.2 c, R_iff.2 c⟩
  ·exact absurd rfl h0
 | @next A B v e hs hv h0 _ ih =>
  intro h;exact ih (h.abort hs (hv.has h.inv h0))
theorem Ok.obt (h : A.Ok b) (hk : A.has k) (hs : (A.tx k).st = 1) {lo hi e : Nat} {wr : Bool} {B : Bk} (h2 : hi ≤ A.size) (ho : A.Obt k lo hi wr B e) : Got A b k lo hi wr B e := by
 cases ho with
 | has hh => exact ⟨h, hk, ⟨rfl, rfl, rfl, rfl⟩, fun _ => ⟨hs, hh, rfl⟩⟩
 | full _ _ => exact ⟨h, hk, ⟨rfl, rfl, rfl, rfl⟩, fun c => by cases c⟩
 | got hn hc hf =>
  have hi' := h.inv.got hk hs (Hold.ne hn) h2 hc hf;change Got A b k lo hi wr (A.setT k ⟨(A.tx k).st, (A.tx k).locks ++ [⟨k, lo, hi, wr⟩], (A.tx k).req, (A.tx k).ops⟩) 0;change (A.setT k ⟨(A.tx k).st, (A.tx k).locks ++ [⟨k, lo, hi, wr⟩], (A.tx k).req, (A.tx k).ops⟩).Inv b at hi';obtain ⟨D, hD⟩ : ∃ D, D = A.setT k ⟨(A.tx k).st, (A.tx k).locks ++ [⟨k, lo, hi, wr⟩], (A.tx k).req, (A.tx k).ops⟩ := ⟨_, rfl⟩;have hx : ∀ {j}, A.has j → D.tx j = if j = k then ⟨(A.tx k).st, (A.tx k).locks ++ [⟨k, lo, hi, wr⟩], (A.tx k).req, (A.tx k).ops⟩ else A.tx j := fun hj => by rw [hD]; exact tx_set hk hj
  have hH : ∀ {j}, D.has j ↔ A.has j := by rw [hD]; exact has_set
  have hDq : D.q = A.q := by rw [hD]; rfl
  have hDr : D.rn = A.rn := by rw [hD]; rfl
  have hDs : D.size = A.size ∧ D.C = A.C ∧ D.log = A.log ∧ D.ts.length = A.ts.length := by rw [hD]; exact ⟨rfl, rfl, rfl, by simp [Bk.setT]⟩
  rw [← hD] at hi' ⊢;have hq : ∀ m ∈ A.q, D.tx m = A.tx m := fun m hm => by
   rw [hx (h.inv.qhas hm), if_neg (show m ≠ k from fun e => h.inv.noq hs (e ▸ hm))]
  obtain ⟨_, f2⟩ := free_iff.1 hf;refine ⟨⟨hi', ?_, h.ac.sub hi' (fun i c => hH.1 c) fun i j hi he => ?_⟩, hH.2 hk, hDs, fun _ => ?_⟩
  ·unfold Blk;rw [hDq];refine BlkF.mono (A := A) (B := D) (fun m hm => ⟨by rw [hDr]; exact hm, fun y hy => ?_⟩) h.blk fun m hm => by rw [hq m hm]
   rw [hx (h.inv.has hm)];split
   ·rename_i e; rw [e] at hy; exact List.mem_append_left _ hy
   ·exact hy
  ·obtain ⟨c3, c4⟩ := E_iff.1 he;have hik : i ≠ k := fun e => by
    rw [e, hx hk, if_pos rfl] at c3;dsimp only at c3;omega
   rw [hDr, hDq] at c4;rw [hx hi, if_neg hik] at c3 c4;have hiq : i ∈ A.q := (h.inv.q i).2 ⟨hi, c3⟩;refine E_iff.2 ⟨c3, ?_⟩;rcases c4 with ⟨hm, x, hxx, hcf⟩ | ⟨hm, hcf⟩
   ·rw [hx (h.inv.has hm)] at hxx;split at hxx
    ·rename_i e;rcases List.mem_append.1 hxx with hxx | hxx
     ·exact .inl ⟨hm, x, by rw [e]; exact hxx, hcf⟩
     ·rw [List.mem_singleton.1 hxx, cfl_comm, f2 i hiq] at hcf;cases hcf
    ·exact .inl ⟨hm, x, hxx, hcf⟩
   ·rw [hq j ((List.takeWhile_sublist _).subset hm)] at hcf;exact .inr ⟨hm, hcf⟩
  ·rw [hx hk, if_pos rfl];exact ⟨hs, Hold.last, rfl⟩
 | res hn hc hf hr => exact (h.rs hk hs (Hold.ne hn) h2 hc hf).res hr
theorem Ok.ops (h : A.Ok b) (hk : A.has k) {o : Oa} {W : Nat → Nat} (hI : (({ A with W := W } : Bk).done k o).Inv (b + 1)) : (({ A with W := W } : Bk).done k o).Ok (b + 1) := by
 have hx : ∀ {j}, A.has j → (({ A with W := W } : Bk).done k o).tx j = if j = k then { A.tx k with ops := (A.tx k).ops ++ [o] } else A.tx j := fun hj => tx_set (t := { A.tx k with ops := (A.tx k).ops ++ [o] }) hk hj;have hl : ∀ {j}, A.has j → ((({ A with W := W } : Bk).done k o).tx j).locks = (A.tx j).locks ∧ ((({ A with W := W } : Bk).done k o).tx j).req = (A.tx j).req ∧ ((({ A with W := W } : Bk).done k o).tx j).st = (A.tx j).st := fun {j} hj => by
  rw [hx hj];split
  ·rename_i e; rw [e]; exact ⟨rfl, rfl, rfl⟩
  ·exact ⟨rfl, rfl, rfl⟩
 refine ⟨hI, ?_, h.ac.sub hI (fun i c => has_set.1 c) fun i j hi he => ?_⟩
 ·exact BlkF.mono (A := A) (B := ({ A with W := W } : Bk).done k o) (fun m hm => ⟨hm, fun y hy => by rw [(hl (h.inv.has hm)).1]; exact hy⟩) h.blk fun m hm => (hl (h.inv.qhas hm)).2.1
 ·obtain ⟨c3, c4⟩ := E_iff.1 he;obtain ⟨_, e2, e3⟩ := hl hi;rw [e3] at c3;rw [e2] at c4;refine E_iff.2 ⟨c3, ?_⟩;rcases c4 with ⟨hm, x, hxx, hcf⟩ | ⟨hm, hcf⟩
  ·rw [(hl (h.inv.has hm)).1] at hxx;exact .inl ⟨hm, x, hxx, hcf⟩
  ·rw [(hl (h.inv.qhas ((List.takeWhile_sublist _).subset hm))).2.1] at hcf;exact .inr ⟨hm, hcf⟩
theorem Ok.looked (h : A.Ok b) (hk : A.has k) (hs : (A.tx k).st = 1) {lo hi fr to : Nat} (h1 : lo ≤ hi) (h2 : hi ≤ A.size) (h3 : fr < 16 ∧ to < 16) (hh : Hold (A.tx k).locks lo hi false) : (A.done k ⟨false, lo, hi, fr, to, rns A.W lo hi⟩).Ok (b + 1) := h.ops (W := A.W) hk (h.inv.looked hk hs h1 h2 h3 hh)
theorem Ok.moved (h : A.Ok b) (hk : A.has k) (hs : (A.tx k).st = 1) {lo hi fr to : Nat} (h1 : lo ≤ hi) (h2 : hi ≤ A.size) (h3 : fr < 16 ∧ to < 16) (hh : Hold (A.tx k).locks lo hi true) (ha : A.allT lo hi fr) (hro : A.room ≠ 0) : (({ A with W := setf A.W lo hi to } : Bk).done k ⟨true, lo, hi, fr, to, []⟩).Ok (b + 1) := h.ops hk (h.inv.moved hk hs h1 h2 h3 hh ha hro)
theorem Ok.perf (h : A.Ok b) {tx lo hi fr to : Int} {mv : Bool} {B : Bk} {e : Nat} {rs : List Rn} (hp : A.Perf tx mv lo hi fr to B e rs) : B.Ok (b + 1) ∧ B.size = A.size ∧ B.C = A.C ∧ B.log = A.log ∧ B.ts.length = A.ts.length := by
 cases hp with
 | none _ => exact ⟨h.mono (Nat.le_succ _), rfl, rfl, rfl, rfl⟩
 | aborted _ _ _ => exact ⟨h.mono (Nat.le_succ _), rfl, rfl, rfl, rfl⟩
 | committed _ _ _ => exact ⟨h.mono (Nat.le_succ _), rfl, rfl, rfl, rfl⟩
 | waiting _ _ _ => exact ⟨h.mono (Nat.le_succ _), rfl, rfl, rfl, rfl⟩
 | range _ _ _ _ => exact ⟨h.mono (Nat.le_succ _), rfl, rfl, rfl, rfl⟩
 | arg _ _ _ _ _ => exact ⟨h.mono (Nat.le_succ _), rfl, rfl, rfl, rfl⟩
 | no _ hh hs _ _ _ _ hr _ ho _ =>
  have g := h.obt hh hs hr.2 ho;exact ⟨g.ok.mono (Nat.le_succ _), g.sm⟩
 | look _ hh hs _ _ _ _ hr ha ho hmv =>
  have g := h.obt hh hs hr.2 ho;obtain ⟨g1, g2, _⟩ := g.z rfl;obtain ⟨s1, s2, s3, s4⟩ := g.sm;subst hmv;refine ⟨g.ok.looked g.hk g1 hr.1 (by rw [s1]; exact hr.2) ha g2, s1, s2, s3, ?_⟩;rw [← s4];simp [Bk.done, Bk.setT]
 | move _ hh hs _ _ _ _ hr ha ho hmv hd =>
  have g := h.obt hh hs hr.2 ho;obtain ⟨g1, g2, _⟩ := g.z rfl;obtain ⟨s1, s2, s3, s4⟩ := g.sm;subst hmv;rcases hd with ⟨_, rfl, _⟩ | ⟨_, _, rfl, _⟩ | ⟨ha1, hro, rfl, _⟩
  ·exact ⟨g.ok.mono (Nat.le_succ _), g.sm⟩
  ·exact ⟨g.ok.mono (Nat.le_succ _), g.sm⟩
  ·refine ⟨g.ok.moved g.hk g1 hr.1 (by rw [s1]; exact hr.2) ha g2 ha1 hro, s1, s2, s3, ?_⟩;rw [← s4];simp [Bk.done, Bk.setT]
theorem Ok.pre (h : A.Ok b) (hb : b < 100000) {tx lo hi : Int} {mv : Bool} : A.Pre tx lo hi mv := by
 refine ⟨h.inv.good hb, h.inv.st, fun k l m _ _ _ hk hs h1 h2 => ⟨⟨fun D => Rs A b k ⟨k, l, m, mv⟩ D, fun D hD => hD.inv.good hb, fun D v hD hs2 hv h0 => hD.abort hs2 (hv.has hD.inv h0), fun hn hc hf => h.rs hk hs (Hold.ne hn) h2 hc hf, fun D hD => ?_⟩, fun B hB => ?_⟩⟩
 ·rcases hD.me with c | c | c
  ·exact .inr (.inl c.1)
  ·exact .inl c.1
  ·exact .inr (.inr c)
 ·have g := h.obt hk hs h2 hB;have gi := g.ok.inv;refine ⟨g.sm.1, gi.good hb, Nat.le_trans gi.nbdW gi.rm, gi.rm, fun hro to => ?_⟩;have h3 := nbd_set2 B.W l m to B.size;have h4 := gi.nbdW;have h5 := Inv.room hro;omega
theorem Ok.abort (h : A.Ok b) (hk : A.has k) : (A.abort k).Ok b := by
 have hi := h.inv.abort hk;refine ⟨hi, ?_, h.ac.sub hi (fun i c => (abort_has hk).1 c) fun i j hi he => abort_edge h.inv hk hi he⟩;rw [abort_eq hk];exact fin_blk (h.inv.ab hk)
theorem Ok.commit (h : A.Ok b) (hr : k ∈ A.rn) : (A.commit k).Ok b := by
 have hi := h.inv.commit hr;refine ⟨hi, ?_, h.ac.sub hi (fun i c => (commit_has (h.inv.has hr)).1 c) fun i j hi he => commit_edge h.inv hr hi he⟩;rw [commit_eq (h.inv.has hr)];exact fin_blk (h.inv.cm (h.inv.has hr) hr)
end
theorem begin_has {j : Nat} : A.begin.has j ↔ A.has j ∨ j = A.ts.length + 1 := by
 unfold Bk.has Bk.begin;simp;omega
theorem begin_tx {j : Nat} (hj : A.has j) : A.begin.tx j = A.tx j := by
 unfold Bk.has at hj;unfold Bk.tx Bk.begin;rw [List.getD_eq_getElem?_getD, List.getD_eq_getElem?_getD, List.getElem?_append_left (by omega)]
theorem begin_new : A.begin.tx (A.ts.length + 1) = Tx.new := by
 unfold Bk.tx Bk.begin;rw [List.getD_eq_getElem?_getD, List.getElem?_append_right (by omega)];simp
theorem Inv.begin (h : A.Inv b) (hl : A.rn.length < 64) : A.begin.Inv b := by
 have hno : ¬ A.has (A.ts.length + 1) := fun c => by unfold Bk.has at c; omega
 have hR : ∀ {j}, j ∈ A.begin.rn ↔ j ∈ A.rn ∨ j = A.ts.length + 1 := by
  intro j;show j ∈ A.rn ++ [A.ts.length + 1] ↔ _;simp
 have hnr : A.ts.length + 1 ∉ A.rn := fun c => hno (h.has c);have hnq : A.ts.length + 1 ∉ A.q := fun c => hno (h.qhas c);have hO : ∀ {j}, j ∈ A.begin.rn → (j ∈ A.rn ∧ A.begin.tx j = A.tx j) ∨ (j = A.ts.length + 1 ∧ A.begin.tx j = Tx.new) := fun hj => by
  rcases hR.1 hj with c | c
  ·exact .inl ⟨c, begin_tx (h.has c)⟩
  ·exact .inr ⟨c, by rw [c]; exact begin_new⟩
 have hs : ∀ f : Tx → Nat, (A.begin.rn.map fun k => f (A.begin.tx k)).sum = (A.rn.map fun k => f (A.tx k)).sum + f Tx.new := fun f => by
  show ((A.rn ++ [A.ts.length + 1]).map _).sum = _;rw [List.map_append, List.sum_append_nat, sum_congr (g := fun k => f (A.tx k)) fun j hj => by rw [begin_tx (h.has hj)]];simp [begin_new]
 refine { sz := h.sz, rn := fun j => ?_, rnd := ?_, rnl := ?_, q := fun j => ?_, qnd := h.qnd, st := fun j hj => ?_, off := fun j hj hn => ?_, lk := fun j hj x hx => ?_, rq := fun j hj => ?_, cnt := ?_, fr := fun i hi j hj x hx y hy => ?_, held := fun j hj o ho => ?_, rep := fun j hj => ?_, wU := fun i hi => ?_, wT := fun j hj i ht => ?_, rm := ?_, ol := fun j hj => ?_ }
 ·rw [hR, begin_has];by_cases e : j = A.ts.length + 1
  ·subst e;rw [begin_new];simp [Tx.new]
  ·rw [or_iff_left e, or_iff_left e, h.rn j];exact and_congr_right fun hj => by rw [begin_tx hj]
 ·refine List.nodup_append.2 ⟨h.rnd, by simp, fun x hx y hy => ?_⟩;rw [List.mem_singleton.1 hy];exact fun e => hnr (e ▸ hx)
 ·show (A.rn ++ [_]).length ≤ 64;rw [List.length_append];simp;omega
 ·show j ∈ A.q ↔ _;rw [begin_has];by_cases e : j = A.ts.length + 1
  ·subst e;rw [begin_new];simp [Tx.new, hnq]
  ·rw [or_iff_left e, h.q j];exact and_congr_right fun hj => by rw [begin_tx hj]
 ·rcases begin_has.1 hj with c | c
  ·rw [begin_tx c]; exact h.st j c
  ·rw [c, begin_new]; exact .inl rfl
 ·rcases begin_has.1 hj with c | c
  ·rw [begin_tx c];exact h.off j c fun d => hn (hR.2 (.inl d))
  ·rw [c, begin_new]; exact ⟨rfl, rfl⟩
 ·rcases begin_has.1 hj with c | c
  ·rw [begin_tx c] at hx;exact h.lk j c x hx
  ·rw [c, begin_new] at hx;simp [Tx.new] at hx
 ·rw [begin_tx (h.qhas hj)];exact h.rq j hj
 ·have h1 := hs fun t => t.locks.length;have h2 := h.cnt;unfold Bk.count at h2 ⊢;rw [h1];show _ + 0 + A.q.length ≤ 1024;omega
 ·rcases hO hi with ⟨a1, a2⟩ | ⟨_, a2⟩
  ·rcases hO hj with ⟨b1, b2⟩ | ⟨_, b2⟩
   ·rw [a2] at hx;rw [b2] at hy;exact h.fr i a1 j b1 x hx y hy
   ·rw [b2] at hy;simp [Tx.new] at hy
  ·rw [a2] at hx;simp [Tx.new] at hx
 ·rcases hO hj with ⟨a1, a2⟩ | ⟨_, a2⟩
  ·rw [a2] at ho ⊢;exact h.held j a1 o ho
  ·rw [a2] at ho;simp [Tx.new] at ho
 ·rcases hO hj with ⟨a1, a2⟩ | ⟨_, a2⟩
  ·rw [a2]; exact h.rep j a1
  ·rw [a2]; exact trivial
 ·refine h.wU i fun j hj ht => hi j (hR.2 (.inl hj)) ?_;rw [begin_tx (h.has hj)];exact ht
 ·rcases hO hj with ⟨a1, a2⟩ | ⟨_, a2⟩
  ·rw [a2] at ht ⊢;exact h.wT j a1 i ht
  ·rw [a2] at ht;exact absurd ht tch.nil
 ·have h1 := hs fun t => mvs t.ops;have h2 := h.rm;unfold Bk.moves at h2 ⊢;rw [h1];show KL.nbd A.C A.size + 2 * (_ + 0) ≤ 4096;exact h2
 ·rcases begin_has.1 hj with c | c
  ·rw [begin_tx c]; exact h.ol j c
  ·rw [c, begin_new]; exact Nat.zero_le _
theorem Ok.begin (h : A.Ok b) (hl : A.rn.length < 64) : A.begin.Ok b := by
 have hi := h.inv.begin hl;have hno : ¬ A.has (A.ts.length + 1) := fun c => by unfold Bk.has at c; omega
 refine ⟨hi, ?_, fun k hk hc => ?_⟩
 ·refine BlkF.mono (A := A) (B := A.begin) (fun m hm => ⟨List.mem_append_left _ hm, fun y hy => ?_⟩) h.blk fun m hm => ?_
  ·rw [begin_tx (h.inv.has hm)]; exact hy
  ·have hm' : m ∈ A.q := hm;rw [begin_tx (h.inv.qhas hm')]
 ·have he : ∀ i j, A.begin.has i → A.begin.E i j → A.has i ∧ A.has j ∧ A.E i j := fun i j hi' he => by
   obtain ⟨c1, c2⟩ := E_iff.1 he;have hia : A.has i := by
    rcases begin_has.1 hi' with c | c
    ·exact c
    ·rw [c, begin_new] at c1;cases c1
   rw [begin_tx hia] at c1 c2;rcases c2 with ⟨hm, x, hxx, hcf⟩ | ⟨hm, hcf⟩
   ·rcases List.mem_append.1 (show j ∈ A.rn ++ [A.ts.length + 1] from hm) with c | c
    ·rw [begin_tx (h.inv.has c)] at hxx;exact ⟨hia, h.inv.has c, E_iff.2 ⟨c1, .inl ⟨c, x, hxx, hcf⟩⟩⟩
    ·rw [List.mem_singleton.1 c, begin_new] at hxx;simp [Tx.new] at hxx
   ·have hmq : j ∈ A.q := (List.takeWhile_sublist _).subset hm;rw [begin_tx (h.inv.qhas hmq)] at hcf;exact ⟨hia, h.inv.qhas hmq, E_iff.2 ⟨c1, .inr ⟨hm, hcf⟩⟩⟩
  have hka : A.has k := by
   have : ∀ {i j}, TransGen A.begin.E i j → A.begin.has i → A.has i := fun c hi => by
    induction c with
    | single c => exact (he _ _ hi c).1
    | tail _ _ ih => exact ih
   exact this hc hk
  exact h.ac k hka (trans_sub (H := A.begin.has) (fun _ _ c => E_has hi c) (fun i j hi c => (he i j hi c).2.2) hk hc).1
theorem fresh_ok {n : Nat} {f : Nat → Nat} (h1 : 0 < n ∧ n ≤ 1099511627776) (h2 : KL.nbd f n ≤ 4096) : (fresh n f).Ok 0 := by
 have hno : ∀ k, ¬ (fresh n f).has k := fun k hk => by
  have h1 := hk.1;have h2 : k ≤ 0 := hk.2;omega
 refine ⟨{ sz := h1, rn := fun j => ⟨fun h => by simp [fresh] at h, fun h => absurd h.1 (hno j)⟩, rnd := List.nodup_nil, rnl := Nat.zero_le _, q := fun j => ⟨fun h => by simp [fresh] at h, fun h => absurd h.1 (hno j)⟩, qnd := List.nodup_nil, st := fun j hj => absurd hj (hno j), off := fun j hj => absurd hj (hno j), lk := fun j hj => absurd hj (hno j), rq := fun j hj => by simp [fresh] at hj, cnt := Nat.zero_le _, fr := fun j hj => by simp [fresh] at hj, held := fun j hj => by simp [fresh] at hj, rep := fun j hj => by simp [fresh] at hj, wU := fun _ _ => rfl, wT := fun j hj => by simp [fresh] at hj, rm := h2, ol := fun j hj => absurd hj (hno j) }, trivial, fun k hk => absurd hk (hno k)⟩
theorem Ok.abt (h : A.Ok b) {tx : Int} {B : Bk} {e : Nat} (ha : A.Abt tx B e) : B.Ok b := by
 rcases ha with ⟨_, rfl, _⟩ | ⟨k, _, hk, ⟨_, rfl, _⟩ | ⟨_, rfl, _⟩ | ⟨_, _, rfl, _⟩⟩
 ·exact h
 ·exact h
 ·exact h
 ·exact h.abort hk
theorem Ok.cmt (h : A.Ok b) {tx : Int} {B : Bk} {n e : Nat} (ha : A.Cmt tx B n e) : B.Ok b := by
 rcases ha with ⟨_, rfl, _⟩ | ⟨k, _, hk, ⟨_, rfl, _⟩ | ⟨_, rfl, _⟩ | ⟨_, rfl, _⟩ | ⟨c2, c3, c4, rfl, _⟩⟩
 ·exact h
 ·exact h
 ·exact h
 ·exact h
 ·refine h.commit (h.inv.run hk ?_);have := h.inv.st k hk;omega
end Bk
end Go.KL
end

section
namespace Go.KL
open Go.Proofs Go.Proofs.Tryz
theorem K.dropMid {W w : World} {A : List Chunk} {d : Chunk} {N : List Chunk} (h : K W (A ++ (d :: N)) w) : K W (A ++ N) w := (K.bckN (A := A) (B := [d]) (N := N) h).tail
def Bk.reqs (A : Bk) : List Lk := A.q.map fun k => (A.tx k).req
attribute [local irreducible] SC St Fin Sq Ylds Doos Sets Enters Spec CellIs CellsAre Then Ret Rnd Chn resOK ints bools recs arr
section
variable {g : Bg} {W : World} {N : List Chunk}
theorem Queue_b (hB : g.OK) (hG : g.bk.Good) : Spec prog 39 #[.pointer (some ⟨g.b, 0, none⟩)] (K W (g.L ++ N)) (X := { x : Value × Chunk // BufR 111 4 x.1 x.2 (lks g.bk.reqs) }) (fun x => x.1.1) (fun x => K W (x.1.2 :: (g.L ++ N))) := by
 have hus := usable_spec (hB.bf (C := K W (g.L ++ N)) Hs.bk);obtain ⟨f0, f1, f2, f3, f4, f5, fq, fl, fea, fer⟩ := hB.bf (C := K W (g.L ++ N)) Hs.bk;have hql : (ptrs g g.q).length = g.q.length := List.length_map _;have hq64 : g.q.length ≤ 64 := hG.q;refine enter (args := [_]) func39 rfl ntmps39 rfl ?_;refine csr (sa ?_);refine snf (c_seq (csr (sm ?_)));refine sk call52 hus fun _ => ?_;refine sy (y_notT rfl) ?_;refine snf (c_condF rfl (c_skip (f_then (csr (sa ?_)))));refine snf (c_seq (csr (sm ?_)));refine sn ?_;refine sf 4 ?_;refine sl f4 ?_;refine sy (y_lenE tab rfl (fq) rfl) ?_;refine sm ?_;refine snf (c_block ?_);refine c_loopP (α := Nat × Value × Chunk) (fun z => [(0, .pointer (some ⟨g.b, 0, none⟩)), (3, z.2.1), (12, g.qv), (13, .int .i64 (ptrs g g.q).length), (14, .int .i64 (z.1 : Nat))]) (fun z => z.1 ≤ g.q.length ∧ BufR 111 4 z.2.1 z.2.2 (lks (g.bk.reqs.take z.1))) (fun z => K W (z.2.2 :: (g.L ++ N))) (fun z => g.q.length - z.1) (0, .slice none 0 0, [])
  ⟨rfl, rfl, rfl, rfl, rfl, trivial⟩ ⟨Nat.zero_le _, .nil⟩ (fun w h => h.addNil) ?_
 rintro ⟨i, u, d⟩ ⟨hi, hu⟩;dsimp only at hi hu ⊢;have fq' : EV (K W (d :: (g.L ++ N))) g.qv 1 (ptrs g g.q) := fq.cons;by_cases c1 : i < g.q.length
 ·obtain ⟨k, hk⟩ : ∃ k, g.q[i]? = some k := ⟨g.q[i], by simp [c1]⟩;have hkm : k ∈ g.q := List.mem_of_getElem? hk;obtain ⟨t, htm, hti, hid, hpb, htx⟩ := hB.at (hB.qh k hkm);have ep : g.ptr k = .pointer (some ⟨t.b, 0, none⟩) := by rw [Bg.ptr, hpb]
  have hcell := fq'.cell (i := i) (x := .pointer (some ⟨t.b, 0, none⟩)) (by rw [← ep]; simp [hk]);have e3 := ((hB.tf (C := K W (g.L ++ N)) Hs.bk htm).c3).cons (c := d);have hll : (lks (g.bk.reqs.take i)).length ≤ 64 := by
   rw [List.length_map, List.length_take];omega
  refine csr (sy (y_T (y_lss rfl rfl) (by omega)) ?_);refine snf (c_seq (c_condT rfl (c_skip (f_then (c_seq (c_block (csr (sy (y_ixE tab rfl rfl rfl rfl (fq') _ rfl (by omega)) ?_))))))));refine sl hcell ?_;refine sa ?_;refine snf (c_region (sm ?_));refine sm ?_;refine sn ?_;refine sf 3 ?_;refine sy (y_loadA tab rfl rfl rfl rfl e3) ?_;refine s_do (do_buildSliceS tab ⟨rfl, rfl, rfl, rfl⟩ rfl rfl rfl rfl) rfl rfl rfl (fun b23 => ?_);refine s_do (do_appendR (by_ := 32) (news := lkc t.req) tab 1 rfl hu rfl ⟨rfl, rfl, rfl, rfl⟩ rfl (by simp) rfl (cells_row0 0 rfl rfl) rfl rfl (by omega) (by omega)) rfl rfl rfl (fun x => ?_);obtain ⟨⟨u', d'⟩, hu'⟩ := x;dsimp only at hu' ⊢;refine sa ?_;refine s_nil (f_blockN (f_then (c_region (sy (y_add rfl rfl (by omega)) ?_))));refine sm ?_;refine s_nil ?_;exact f_roundP (i + 1, u', d') ⟨c1, hu'.of (by rw [List.take_add_one, show g.bk.reqs[i]? = some t.req by rw [Bk.reqs, List.getElem?_map, show g.bk.q[i]? = some k from hk]; simp [htx, Tg.tx]]; simp)⟩ (by dsimp only; omega) ⟨rfl, rfl, rfl, rfl, rfl, trivial⟩ (fun w h => h.tail)
 ·obtain rfl : i = g.q.length := by omega
  rw [List.take_of_length_le (show g.bk.reqs.length ≤ g.q.length by simp [Bk.reqs, Bg.bk])] at hu;refine csr (sy (y_F (y_lss rfl rfl) (by omega)) ?_);refine snf (c_seq (c_condF rfl (c_exit (f_thenE (f_rndE (f_blockE (f_then (csr (sm ?_)))))))));refine sa ?_;refine snf (c_ret ?_);exact f_ret ⟨(u, d), hu⟩ (res1 rfl rfl) (fun w h => h)
def Bk.Cl (A : Bk) (f : Nat → Int) (B : Bk) : Prop :=
 (f 0 % 6 = 0 ∧ ((64 ≤ A.rn.length ∧ B = A) ∨ (A.rn.length < 64 ∧ B = A.begin))) ∨ ((f 0 % 6 = 1 ∨ f 0 % 6 = 2) ∧ ∃ e rs, A.Perf (f 1) false (f 2) (f 3) 0 0 B e rs) ∨ (f 0 % 6 = 3 ∧ ∃ e rs, A.Perf (f 1) true (f 2) (f 3) (f 4) (f 5) B e rs) ∨ (f 0 % 6 = 4 ∧ ∃ n e, A.Cmt (f 1) B n e) ∨ (f 0 % 6 = 5 ∧ ∃ e, A.Abt (f 1) B e)
theorem Bk.Ok.cl {A B : Bk} {b : Nat} {f : Nat → Int} (h : A.Ok b) (hc : A.Cl f B) : B.Ok (b + 1) := by
 rcases hc with ⟨_, ⟨_, rfl⟩ | ⟨h1, rfl⟩⟩ | ⟨_, e, rs, hp⟩ | ⟨_, e, rs, hp⟩ | ⟨_, n, e, hp⟩ | ⟨_, e, hp⟩
 ·exact h.mono (Nat.le_succ _)
 ·exact (h.begin h1).mono (Nat.le_succ _)
 ·exact (h.perf hp).1
 ·exact (h.perf hp).1
 ·exact (h.cmt hp).mono (Nat.le_succ _)
 ·exact (h.abt hp).mono (Nat.le_succ _)
end
end Go.KL
end

section
namespace Go.KL
theorem jn_len (R : List Rn) (x : Rn) : (jn R x).length ≤ R.length + 1 := by
 unfold jn;split
 ·omega
 ·split
  ·simp
  ·split
   ·simp [List.length_dropLast]
   ·simp
theorem jn_no {R : List Rn} {x : Rn} (h : x.2.1 ≤ x.1) : jn R x = R := by rw [jn, if_pos h]
theorem Rns.jn' {f : Nat → Nat} {R : List Rn} {lo m m' t : Nat} (h : Rns f lo m R) (ht : ∀ i, m ≤ i → i < m' → f i = t) : Rns f lo (max m m') (KL.jn R (m, m', t)) := by
 by_cases c : m' ≤ m
 ·rw [jn_no c, show max m m' = m by omega];exact h
 ·rw [show max m m' = m' by omega];exact h.jn (by omega) ht
theorem Rns.clip {f : Nat → Nat} {R : List Rn} {lo hi a b t : Nat} (h : Rns f lo (max lo (min hi a)) R) (hab : a < b) (ht : ∀ i, a ≤ i → i < b → f i = t) : Rns f lo (max lo (min hi b)) (KL.jn R (max lo a, min hi b, t)) := by
 by_cases c : min hi b ≤ max lo a
 ·rw [jn_no c, show max lo (min hi b) = max lo (min hi a) by omega];exact h
 ·rw [show max lo (min hi a) = max lo a by omega] at h;rw [show max lo (min hi b) = min hi b by omega];exact h.jn (by omega) fun i h1 h2 => ht i (by omega) (by omega)
def swf (f : Nat → Nat) (lo hi fr to : Nat) : Nat → Nat := fun i => if (lo ≤ i ∧ i < hi) ∧ f i = fr then to else f i
theorem swf_setf {f : Nat → Nat} {lo hi fr to : Nat} (h : ∀ i, lo ≤ i → i < hi → f i = fr) : swf f lo hi fr to = setf f lo hi to := by
 funext i;unfold swf setf;by_cases c : lo ≤ i ∧ i < hi
 ·rw [if_pos c, if_pos ⟨c, h i c.1 c.2⟩]
 ·rw [if_neg c, if_neg fun d => c d.1]
abbrev swa (lo a b : Nat) : Nat := max a (min lo b)
abbrev swb (hi a b : Nat) : Nat := min b (max hi a)
theorem Rns.swap {f : Nat → Nat} {R : List Rn} {lo hi fr to a b t : Nat} (h : Rns (swf f lo hi fr to) 0 a R) (hab : a < b) (ht : ∀ i, a ≤ i → i < b → f i = t) :
  Rns (swf f lo hi fr to) 0 b (KL.jn (KL.jn (KL.jn R (a, swa lo a b, t)) (swa lo a b, swb hi a b, if t = fr then to else t)) (max (swa lo a b) (swb hi a b), b, t)) := by
 have hA : swa lo a b = max a (min lo b) := rfl;have hB : swb hi a b = min b (max hi a) := rfl;have h1 := h.jn' (m' := swa lo a b) (t := t) fun i h1 h2 => by
  unfold swf;rw [ht i h1 (by omega), if_neg (by omega)]
 rw [show max a (swa lo a b) = swa lo a b by omega] at h1;have h2 := h1.jn' (m' := swb hi a b) (t := if t = fr then to else t) fun i h1 h2 => by
  unfold swf;rw [ht i (by omega) (by omega)];by_cases c : t = fr
  ·rw [if_pos c, if_pos ⟨by omega, c⟩]
  ·rw [if_neg c, if_neg fun d => c d.2]
 have h3 := h2.jn' (m' := b) (t := t) fun i h1 h2 => by
  unfold swf;rw [ht i (by omega) h2, if_neg (by omega)]
 rw [show max (max (swa lo a b) (swb hi a b)) b = b by omega] at h3;exact h3
def cntR (t : Nat) (R : List Rn) : Nat := (R.map fun x => if x.2.2 = t then x.2.1 - x.1 else 0).sum
theorem cntf_seg {f : Nat → Nat} {t u a b : Nat} (hab : a ≤ b) (h : ∀ i, a ≤ i → i < b → f i = u) : cntf f t b = cntf f t a + if u = t then b - a else 0 := by
 obtain ⟨k, rfl⟩ : ∃ k, b = a + k := ⟨b - a, by omega⟩;rw [cntf_add, cntf_const (u := u) fun i hi => h (a + i) (by omega) (by omega), Nat.add_sub_cancel_left];by_cases c : t = u
 ·rw [if_pos c, if_pos c.symm]
 ·rw [if_neg c, if_neg fun d => c d.symm]
theorem Rns.cnt {f : Nat → Nat} {t : Nat} : ∀ {R : List Rn} {lo hi : Nat}, Rns f lo hi R → cntf f t hi = cntf f t lo + cntR t R
 | [], lo, hi, h => by
  have : lo = hi := h;rw [this];rfl
 | x :: R, lo, hi, h => by
  have h1 := cntf_seg (t := t) (Nat.le_of_lt h.2.1) h.2.2.1;rw [h.2.2.2.2.cnt, h1, ← h.1];unfold cntR;rw [List.map_cons, List.sum_cons];omega
theorem cntR_take {t : Nat} {R : List Rn} {i : Nat} {x : Rn} (h : R[i]? = some x) : cntR t (R.take (i + 1)) = cntR t (R.take i) + if x.2.2 = t then x.2.1 - x.1 else 0 := by
 unfold cntR;rw [List.take_add_one, h];simp
theorem cntR_le {f : Nat → Nat} {t : Nat} {R : List Rn} {lo hi : Nat} (h : Rns f lo hi R) (i : Nat) : cntR t (R.take i) ≤ hi := by
 have h1 := h.cnt (t := t);have h2 := cntf_le f t hi;have h3 : cntR t (R.take i) ≤ cntR t R := by
  unfold cntR;conv => rhs; rw [← List.take_append_drop i R]
  rw [List.map_append, List.sum_append_nat];omega
 omega
theorem cntR_all {f : Nat → Nat} {t lo hi : Nat} (h : lo ≤ hi) : (cntR t (rns f lo hi) : Int) = (hi : Int) - (lo : Int) ↔ ∀ i, lo ≤ i → i < hi → f i = t := by
 rw [← cntf_range f t h];have := (rns_ok (f := f) h).cnt (t := t);omega
end Go.KL
end

section
namespace Go.KL
open Go.Proofs Go.Proofs.Tryz
structure RMp (C : World → Prop) (lv : Value) (n : Nat) (f : Nat → Nat) : Prop where
 v : EV C lv 3 (rnl (rns f 0 n))
 pos : 1 ≤ n ∧ n ≤ 1099511627776
 nb : nbd f n ≤ 4096
theorem RMp.cls {C D : World → Prop} {lv : Value} {n : Nat} {f : Nat → Nat} (h : RMp C lv n f) (hD : ∀ w, D w → C w) : RMp D lv n f := ⟨h.v.cls hD, h.pos, h.nb⟩
theorem RMp.cons {W : World} {Ls : List Chunk} {d : Chunk} {lv : Value} {n : Nat} {f : Nat → Nat} (h : RMp (K W Ls) lv n f) : RMp (K W (d :: Ls)) lv n f := ⟨h.v.cons, h.pos, h.nb⟩
theorem drop_get' {α : Type} {l : List α} {i : Nat} {x : α} (h : l[i]? = some x) : l.drop i = x :: l.drop (i + 1) := by
 obtain ⟨hi, rfl⟩ := List.getElem?_eq_some_iff.1 h;exact List.drop_eq_getElem_cons hi
theorem rns_mem {f : Nat → Nat} : ∀ {R : List Rn} {lo hi : Nat}, Rns f lo hi R → ∀ x ∈ R, x.1 < x.2.1 ∧ x.2.1 ≤ hi
 | [], _, _, _, x, hx => by simp at hx
 | y :: R, lo, hi, h, x, hx => by
  rcases List.mem_cons.1 hx with rfl | hx
  ·exact ⟨h.2.1, h.2.2.2.2.le⟩
  ·exact rns_mem h.2.2.2.2 x hx
theorem rns_pos {f : Nat → Nat} {n : Nat} (h : 1 ≤ n) : 0 < (rns f 0 n).length := by
 have hR := rns_ok (f := f) (lo := 0) (hi := n) (Nat.zero_le _);cases e : rns f 0 n with
 | nil =>
  rw [e] at hR;have : 0 = n := hR;omega
 | cons x r => simp
attribute [local irreducible] SC St Fin Sq Ylds Doos Sets Enters Spec CellIs CellsAre Then Ret Rnd Chn resOK ints bools recs arr
section
variable {W : World} {N : List Chunk} {lv : Value} {n : Nat} {f : Nat → Nat}
theorem rtag_spec {C : World → Prop} {z : Int} : Spec prog 71 #[.int .i64 z] C (fun _ : Unit => .bool (decide (0 ≤ z ∧ z < 16))) (fun _ => C) := by
 refine enter (args := [_]) func71 rfl ntmps71 rfl ?_;by_cases c : 0 ≤ z
 ·by_cases c2 : z < 16
  ·rw [decide_eq_true (show 0 ≤ z ∧ z < 16 from ⟨c, c2⟩)];refine csr (sa ?_);refine snf (csr (sm ?_));refine sy (y_T (y_geq rfl rfl) (by assumption)) ?_;refine sm ?_;refine sm ?_;refine sy (y_T (y_lss rfl rfl) (by assumption)) ?_;refine spT ?_;refine sa ?_;refine snf (c_ret ?_);exact f_ret () (res1 rfl rfl) (fun w h => h)
  ·rw [decide_eq_false (show ¬ (0 ≤ z ∧ z < 16) from fun h => c2 h.2)];refine csr (sa ?_);refine snf (csr (sm ?_));refine sy (y_T (y_geq rfl rfl) (by assumption)) ?_;refine sm ?_;refine sm ?_;refine sy (y_F (y_lss rfl rfl) (by assumption)) ?_;refine spT ?_;refine sa ?_;refine snf (c_ret ?_);exact f_ret () (res1 rfl rfl) (fun w h => h)
 ·rw [decide_eq_false (show ¬ (0 ≤ z ∧ z < 16) from fun h => c h.1)];refine csr (sa ?_);refine snf (csr (sm ?_));refine sy (y_F (y_geq rfl rfl) (by assumption)) ?_;refine sm ?_
  iterate 2 refine s_skip rfl rfl rfl ?_
  refine spF ?_;refine sa ?_;refine snf (c_ret ?_);exact f_ret () (res1 rfl rfl) (fun w h => h)
theorem rtagT {C : World → Prop} {z : Int} (h : 0 ≤ z ∧ z < 16) : Spec prog 71 #[.int .i64 z] C (fun _ : Unit => .bool true) (fun _ => C) := by
 have := rtag_spec (C := C) (z := z)
 rwa [decide_eq_true h] at this
theorem usableM_spec (h : RMp (K W N) lv n f) : Spec prog 69 #[.agg #[.int .i64 (n : Nat), lv]] (K W N) (fun _ : Unit => .bool true) (fun _ => K W N) := by
 have hp := rns_pos (f := f) h.pos.1;have hl : (rnl (rns f 0 n)).length = (rns f 0 n).length := List.length_map _;have hV := h.v;obtain ⟨pa, k, rfl, _, _⟩ := hV.view;refine enter (args := [_]) func69 rfl ntmps69 rfl ?_;refine csr (sbx fun b1 => ?_);refine sa ?_;refine snf (csr (sf 1 ?_));refine slr 0 ?_;refine sy (y_lenE tab rfl (hV.cons) rfl) ?_;refine sy (y_T (y_gtr rfl rfl) (by omega)) ?_;refine sa ?_;refine snf (c_ret ?_);exact f_ret () (res1 rfl rfl) (fun w h => h.tail)
theorem validM_spec (h : RMp (K W N) lv n f) {lo hi : Int} : Spec prog 70 #[.agg #[.int .i64 (n : Nat), lv], .int .i64 lo, .int .i64 hi] (K W N) (fun _ : Unit => .bool (decide (0 ≤ lo ∧ lo ≤ hi ∧ hi ≤ n))) (fun _ => K W N) := by
 have hV := h.v;obtain ⟨pa, k, rfl, _, _⟩ := hV.view;refine enter (args := [_, _, _]) func70 rfl ntmps70 rfl ?_;by_cases c1 : 0 ≤ lo
 ·by_cases c2 : lo ≤ hi
  ·by_cases c3 : hi ≤ n
   ·rw [decide_eq_true (show 0 ≤ lo ∧ lo ≤ hi ∧ hi ≤ n from ⟨c1, c2, c3⟩)];refine csr (sbx fun b3 => ?_);refine sa ?_;refine snf (csr (sm ?_));refine sy (y_T (y_leq rfl rfl) (by assumption)) ?_;refine sm ?_;refine sm ?_;refine sm ?_;refine sy (y_T (y_leq rfl rfl) (by assumption)) ?_;refine spT ?_;refine sm ?_;refine sm ?_;refine sf0 ?_;refine slr 0 ?_;refine sy (y_T (y_leq rfl rfl) (by assumption)) ?_;refine spT ?_;refine sa ?_;refine snf (c_ret ?_);exact f_ret () (res1 rfl rfl) (fun w h => h.tail)
   ·rw [decide_eq_false (show ¬ (0 ≤ lo ∧ lo ≤ hi ∧ hi ≤ n) from fun h => c3 h.2.2)];refine csr (sbx fun b3 => ?_);refine sa ?_;refine snf (csr (sm ?_));refine sy (y_T (y_leq rfl rfl) (by assumption)) ?_;refine sm ?_;refine sm ?_;refine sm ?_;refine sy (y_T (y_leq rfl rfl) (by assumption)) ?_;refine spT ?_;refine sm ?_;refine sm ?_;refine sf0 ?_;refine slr 0 ?_;refine sy (y_F (y_leq rfl rfl) (by assumption)) ?_;refine spT ?_;refine sa ?_;refine snf (c_ret ?_);exact f_ret () (res1 rfl rfl) (fun w h => h.tail)
  ·rw [decide_eq_false (show ¬ (0 ≤ lo ∧ lo ≤ hi ∧ hi ≤ n) from fun h => c2 h.2.1)];refine csr (sbx fun b3 => ?_);refine sa ?_;refine snf (csr (sm ?_));refine sy (y_T (y_leq rfl rfl) (by assumption)) ?_;refine sm ?_;refine sm ?_;refine sm ?_;refine sy (y_F (y_leq rfl rfl) (by assumption)) ?_;refine spT ?_;refine sm ?_
   iterate 4 refine s_skip rfl rfl rfl ?_
   refine spF ?_;refine sa ?_;refine snf (c_ret ?_);exact f_ret () (res1 rfl rfl) (fun w h => h.tail)
 ·rw [decide_eq_false (show ¬ (0 ≤ lo ∧ lo ≤ hi ∧ hi ≤ n) from fun h => c1 h.1)];refine csr (sbx fun b3 => ?_);refine sa ?_;refine snf (csr (sm ?_));refine sy (y_F (y_leq rfl rfl) (by assumption)) ?_;refine sm ?_
  iterate 3 refine s_skip rfl rfl rfl ?_
  refine spF ?_;refine sm ?_
  iterate 4 refine s_skip rfl rfl rfl ?_
  refine spF ?_;refine sa ?_;refine snf (c_ret ?_);exact f_ret () (res1 rfl rfl) (fun w h => h.tail)
theorem validT (h : RMp (K W N) lv n f) {lo hi : Nat} (h1 : lo ≤ hi) (h2 : hi ≤ n) : Spec prog 70 #[.agg #[.int .i64 (n : Nat), lv], .int .i64 (lo : Nat), .int .i64 (hi : Nat)] (K W N) (fun _ : Unit => .bool true) (fun _ => K W N) := by
 have := validM_spec h (lo := lo) (hi := hi)
 rwa [decide_eq_true (show 0 ≤ (lo : Int) ∧ (lo : Int) ≤ hi ∧ (hi : Int) ≤ n by omega)] at this
theorem rruns_spec (h : RMp (K W N) lv n f) {lo hi : Nat} (h1 : lo ≤ hi) (h2 : hi ≤ n) : Spec prog 78 #[.agg #[.int .i64 (n : Nat), lv], .int .i64 (lo : Nat), .int .i64 (hi : Nat)] (K W N) (X := { x : Value × Chunk // BufR 26 3 x.1 x.2 (rnl (rns f lo hi)) }) (fun x => .tuple #[x.1.1, .int .i64 0]) (fun x => K W (x.1.2 :: N)) := by
 have hR := rns_ok (f := f) (lo := 0) (hi := n) (Nat.zero_le _);have hlen := rns_len f n;have hV := h.v;have hM := h;have hnb := h.nb;obtain ⟨pa, k, rfl, _, _⟩ := hV.view;have hlr : (rnl (rns f 0 n)).length = (rns f 0 n).length := List.length_map _;refine enter (args := [_, _, _]) func78 rfl ntmps78 rfl ?_;refine csr (sbx fun b3 => ?_);refine sa ?_;refine sa ?_;refine snf (c_seq (csr (sy (y_loadA tab rfl rfl rfl rfl (cells_row0 0 rfl rfl)) ?_)));refine sk call69 (usableM_spec h.cons) fun _ => ?_;refine sy (y_notT rfl) ?_;refine snf (c_condF rfl (c_skip (f_then (c_seq (csr (sy (y_loadA tab rfl rfl rfl rfl (cells_row0 0 rfl rfl)) ?_))))));refine sm ?_;refine sm ?_;refine sk call70 (validT h.cons h1 h2) fun _ => ?_;refine sy (y_notT rfl) ?_;refine snf (c_condF rfl (c_skip (f_then (csr (sa ?_)))));refine snf (c_seq (csr (sa ?_)));refine snf (c_block ?_);refine c_loopP (α := Nat × Nat × Value × Chunk × List Rn) (fun z => [(0, .agg #[.int .i64 (n : Nat), .slice pa (rnl (rns f 0 n)).length k]), (1, .int .i64 (lo : Nat)), (2, .int .i64 (hi : Nat)), (3, .pointer (some ⟨b3, 0, none⟩)), (8, z.2.2.1), (9, .int .i64 (z.1 : Nat))])
  (fun z => z.1 ≤ (rns f 0 n).length ∧ Rns f z.2.1 n ((rns f 0 n).drop z.1) ∧ Rns f lo (max lo (min hi z.2.1)) z.2.2.2.2 ∧ z.2.2.2.2.length ≤ z.1 ∧ BufR 26 3 z.2.2.1 z.2.2.2.1 (rnl z.2.2.2.2)) (fun z => K W (z.2.2.2.1 :: [(b3, row 37 [.int .i64 (n : Nat), .slice pa (rnl (rns f 0 n)).length k])] :: N)) (fun z => (rns f 0 n).length - z.1) (0, 0, .slice none 0 0, [], [])
  ⟨rfl, rfl, rfl, rfl, rfl, rfl, trivial⟩ ⟨Nat.zero_le _, by rw [List.drop_zero]; exact hR, by show lo = _; dsimp only; omega, Nat.le_refl _, .nil⟩ (fun w h => h.addNil) ?_
 rintro ⟨i, at_, u, d, R⟩ ⟨g1, g2, g3, g4, g5⟩;dsimp only at g1 g2 g3 g4 g5 ⊢;have hV2 : EV (K W (d :: [(b3, row 37 [.int .i64 (n : Nat), .slice pa (rnl (rns f 0 n)).length k])] :: N)) (.slice pa (rnl (rns f 0 n)).length k) 3 (rnl (rns f 0 n)) := hV.cons.cons;by_cases c : i < (rns f 0 n).length
 ·obtain ⟨x, hx⟩ : ∃ x, (rns f 0 n)[i]? = some x := ⟨(rns f 0 n)[i], by rw [List.getElem?_eq_getElem]⟩;have hcx : CellsAre (K W (d :: [(b3, row 37 [.int .i64 (n : Nat), .slice pa (rnl (rns f 0 n)).length k])] :: N)) ⟨vblk (.slice pa (rnl (rns f 0 n)).length k), voff (.slice pa (rnl (rns f 0 n)).length k) + i * 3, none⟩ [.int .i64 (x.1 : Nat), .int .i64 (x.2.1 : Nat), .int .i64 (x.2.2 : Nat)] := hV2.row (rnl_get hx);rw [drop_get' hx] at g2;obtain ⟨rfl, q2, q3, _, q5⟩ := g2;have hc := g3.clip q2 q3;have hxn := q5.le;have hj := fun {A : List Chunk} => rjoin_spec (W := W) (N := A) (lo := max lo x.1) (hi := min hi x.2.1) (tag := x.2.2) g5 (by omega);rw [show ((max lo x.1 : Nat) : Int) = max (lo : Int) (x.1 : Int) by omega, show ((min hi x.2.1 : Nat) : Int) = min (hi : Int) (x.2.1 : Int) by omega] at hj;have hjl := jn_len R (max lo x.1, min hi x.2.1, x.2.2);refine c_seq (csr (sm ?_));refine sf 1 ?_;refine slr 1 ?_;refine sy (y_lenE tab rfl (hV2) rfl) ?_;refine sy (y_T (y_lss rfl rfl) (by omega)) ?_;refine snf (c_condT rfl (c_skip (f_then (c_seq (c_block (csr (sf 1 ?_)))))));refine slr 1 ?_;refine sm ?_;refine sy (y_ixE tab rfl rfl rfl rfl (hV2) _ rfl (by omega)) ?_;refine sy (y_loadA tab rfl rfl rfl rfl hcx) ?_;refine sal fun b10 => ?_;refine ss (sB 0) ?_;refine snf (c_region (sm ?_));refine sm ?_;refine sf0 ?_;refine slr 0 ?_;refine sy (y_max rfl rfl) ?_;refine sm ?_;refine sf 1 ?_;refine slr 0 ?_;refine sy (y_min rfl rfl) ?_;refine sf 2 ?_;refine slr 0 ?_;refine sy yb ?_;refine St.cls (C' := K W (d :: [(b10, row 26 [.int .i64 (x.1 : Nat), .int .i64 (x.2.1 : Nat), .int .i64 (x.2.2 : Nat)])] :: [(b3, row 37 [.int .i64 (n : Nat), .slice pa (rnl (rns f 0 n)).length k])] :: N)) ?_ (fun w h => K.front 1 h);refine sk call68 hj fun y => ?_;obtain ⟨⟨u', d'⟩, hu'⟩ := y;dsimp only at hu' ⊢;refine sa ?_;refine s_nil (f_blockN (f_then (c_region (sm ?_))));refine sy (y_add rfl rfl (by omega)) ?_;refine sa ?_;refine s_nil ?_;exact f_roundP (i + 1, x.2.1, u', d', jn R (max lo x.1, min hi x.2.1, x.2.2)) ⟨c, q5, hc, by dsimp only; omega, hu'⟩ (by dsimp only; omega) ⟨rfl, rfl, rfl, rfl, rfl, rfl, trivial⟩ (fun w h => h.dropAt 1)
 ·obtain rfl : i = (rns f 0 n).length := by omega
  rw [List.drop_length] at g2;obtain rfl : at_ = n := g2;rw [show max lo (min hi at_) = hi by omega] at g3;refine c_seq (csr (sm ?_));refine sf 1 ?_;refine slr 1 ?_;refine sy (y_lenE tab rfl (hV2) rfl) ?_;refine sy (y_F (y_lss rfl rfl) (by omega)) ?_;refine snf (c_condF rfl (c_exit (f_thenE (f_rndE (f_blockE (f_then (csr (sm ?_))))))));refine sa ?_;refine sa ?_;refine snf (c_ret ?_);exact f_ret ⟨(u, d), g5.of (by rw [g3.eq])⟩ (res2 rfl rfl rfl) (fun w h => h.dropAt 1)
theorem rcount_spec (h : RMp (K W N) lv n f) {lo hi tag : Nat} (h1 : lo ≤ hi) (h2 : hi ≤ n) (h3 : tag < 16) : Spec prog 79 #[.agg #[.int .i64 (n : Nat), lv], .int .i64 (lo : Nat), .int .i64 (hi : Nat), .int .i64 (tag : Nat)] (K W N) (fun _ : Unit => .tuple #[.int .i64 (cntR tag (rns f lo hi) : Nat), .int .i64 0]) (fun _ => K W N) := by
 have hR := rns_ok (f := f) h1;have hV := h.v;have hn := h.pos;have hnb := h.nb;have hle := rns_le (f := f) h1 h2;obtain ⟨pa, k, rfl, _, _⟩ := hV.view;have hlr : (rnl (rns f lo hi)).length = (rns f lo hi).length := List.length_map _;refine enter (args := [_, _, _, _]) func79 rfl ntmps79 rfl ?_;refine csr (sbx fun b4 => ?_);refine sa ?_;refine sa ?_;refine snf (csr (sy (y_loadA tab rfl rfl rfl rfl (cells_row0 0 rfl rfl)) ?_));refine sm ?_;refine sm ?_;refine sk call78 (rruns_spec h.cons h1 h2) fun y => ?_;obtain ⟨⟨u, d⟩, hu⟩ := y;dsimp only at hu ⊢;refine sm ?_;refine sx ?_;refine sx ?_;refine sa ?_;refine sa ?_;refine snf (c_seq (csr (sm ?_)));refine sy (y_F (y_neq rfl rfl) (by omega)) ?_;refine snf (c_condF rfl (c_skip (f_then (c_seq (csr (sm ?_))))));refine s_call (en_f rfl call71) (rtagT (by omega)) rfl rfl rfl (fun _ => ?_);refine sy (y_notT rfl) ?_;refine snf (c_condF rfl (c_skip (f_then (csr (sa ?_)))));refine snf (c_seq (csr (sa ?_)));refine snf (c_block ?_);have hVu : EV (K W (d :: [(b4, row 37 [.int .i64 (n : Nat), .slice pa (rnl (rns f 0 n)).length k])] :: N)) u 3 (rnl (rns f lo hi)) := hu.view (Hs.at 0 rfl);refine c_loopP (α := Nat) (fun z => [(3, .int .i64 (tag : Nat)), (10, u), (12, .int .i64 (cntR tag ((rns f lo hi).take z) : Nat)), (13, .int .i64 (z : Nat))]) (fun z => z ≤ (rns f lo hi).length) (fun _ => K W (d :: [(b4, row 37 [.int .i64 (n : Nat), .slice pa (rnl (rns f 0 n)).length k])] :: N)) (fun z => (rns f lo hi).length - z) 0
  ⟨rfl, rfl, rfl, rfl, trivial⟩ (Nat.zero_le _) (fun w h => h) ?_
 rintro i g1;by_cases c : i < (rns f lo hi).length
 ·obtain ⟨x, hx⟩ : ∃ x, (rns f lo hi)[i]? = some x := ⟨(rns f lo hi)[i], by rw [List.getElem?_eq_getElem]⟩;have hcx : CellsAre (K W (d :: [(b4, row 37 [.int .i64 (n : Nat), .slice pa (rnl (rns f 0 n)).length k])] :: N)) ⟨vblk u, voff u + i * 3, none⟩ [.int .i64 (x.1 : Nat), .int .i64 (x.2.1 : Nat), .int .i64 (x.2.2 : Nat)] := hVu.row (rnl_get hx);have hst := cntR_take (t := tag) hx;have hb1 := cntR_le (t := tag) hR i;have hb2 := cntR_le (t := tag) hR (i + 1);have hxx := rns_mem hR x (List.mem_of_getElem? hx);by_cases ct : x.2.2 = tag
  ·rw [if_pos ct] at hst;refine c_seq (csr (sm ?_));refine sm ?_;refine sy (y_lenE tab rfl (hVu) rfl) ?_;refine sy (y_T (y_lss rfl rfl) (by omega)) ?_;refine snf (c_condT rfl (c_skip (f_then (c_seq (c_block (csr (sm ?_)))))));refine sm ?_;refine sy (y_ixE tab rfl rfl rfl rfl (hVu) _ rfl (by omega)) ?_;refine sy (yF 2) ?_;refine sl (CellsAre.nth 2 (hcx) rfl) ?_;refine sm ?_;refine sy (y_T (y_eql rfl rfl) (by omega)) ?_;refine snf (c_condT rfl (c_quiet mixed (by kernel_rfl) K.drew ?_));refine q_y (y_move rfl) rfl rfl rfl ?_;refine q_y (y_move rfl) rfl rfl rfl ?_;refine q_y (y_move rfl) rfl rfl rfl ?_;refine q_y (y_ixE tab rfl rfl rfl rfl (hVu) _ rfl (by omega)) rfl rfl rfl ?_;refine q_y (yF 1) rfl rfl rfl ?_;refine q_y (y_load tab rfl rfl (CellsAre.nth 1 (hcx) rfl)) rfl rfl rfl ?_;refine q_y (y_move rfl) rfl rfl rfl ?_;refine q_y (y_move rfl) rfl rfl rfl ?_;refine q_y (y_ixE tab rfl rfl rfl rfl (hVu) _ rfl (by omega)) rfl rfl rfl ?_;refine q_y y0 rfl rfl rfl ?_;refine q_y (y_load tab rfl rfl (CellsAre.at0 (hcx) rfl)) rfl rfl rfl ?_;refine q_y (y_sub rfl rfl (by omega)) rfl rfl rfl ?_;refine q_y (y_add rfl rfl (by omega)) rfl rfl rfl ?_;refine q_y (y_assign rfl) rfl rfl rfl ?_;refine q_nil (f_blockN (f_then (c_region (sm ?_))));refine sy (y_add rfl rfl (by omega)) ?_;refine sa ?_;refine s_nil ?_;rw [show (cntR tag ((rns f lo hi).take i) : Int) + ((x.2.1 : Int) - (x.1 : Int)) = (cntR tag ((rns f lo hi).take (i + 1)) : Nat) by omega];exact f_roundP (i + 1) c (by omega) ⟨rfl, rfl, rfl, rfl, trivial⟩ (fun w h => h)
  ·rw [if_neg ct] at hst;have hst2 : cntR tag ((rns f lo hi).take i) = cntR tag ((rns f lo hi).take (i + 1)) := by omega
   refine c_seq (csr (sm ?_));refine sm ?_;refine sy (y_lenE tab rfl (hVu) rfl) ?_;refine sy (y_T (y_lss rfl rfl) (by omega)) ?_;refine snf (c_condT rfl (c_skip (f_then (c_seq (c_block (csr (sm ?_)))))));refine sm ?_;refine sy (y_ixE tab rfl rfl rfl rfl (hVu) _ rfl (by omega)) ?_;refine sy (yF 2) ?_;refine sl (CellsAre.nth 2 (hcx) rfl) ?_;refine sm ?_;refine sy (y_F (y_eql rfl rfl) (by omega)) ?_;refine snf (c_condF rfl (c_skip (f_blockN (f_then (c_region (sm ?_))))));refine sy (y_add rfl rfl (by omega)) ?_;refine sa ?_;refine s_nil ?_;rw [hst2];exact f_roundP (i + 1) c (by omega) ⟨rfl, rfl, rfl, rfl, trivial⟩ (fun w h => h)
 ·obtain rfl : i = (rns f lo hi).length := by omega
  rw [List.take_length];refine c_seq (csr (sm ?_));refine sm ?_;refine sy (y_lenE tab rfl (hVu) rfl) ?_;refine sy (y_F (y_lss rfl rfl) (by omega)) ?_;refine snf (c_condF rfl (c_exit (f_thenE (f_rndE (f_blockE (f_then (csr (sm ?_))))))));refine sa ?_;refine sa ?_;refine snf (c_ret ?_);exact f_ret () (res2 rfl rfl rfl) (fun w h => h.tail.tail)
end
end Go.KL
end

section
namespace Go.KL
open Go.Proofs Go.Proofs.Tryz
theorem resA12 {P : Program} {n : Nat} {σ : Slots} {C : World → Prop} {fn : Func} {a u u' : Tmp} {t : TypeId} {p : Addr} {s : Nat} {l : List Value} {v v' : Value} (T : Tab P) (hr : fn.results = #[.cell a t, .tmp u, .tmp u']) (ha : lookE σ a = some (.pointer (some p))) (hu : lookE σ u = some v) (hu' : lookE σ u' = some v')
  (hg : T.agg t = some true) (hs : T.size t = some s) (hl : l.length = s) (hc : CellsAre C p l) : resOK P fn n σ C (.tuple #[.agg l.toArray, v, v']) := by
 intro act w hE hw;have h1 := hE.atE ha;have h2 := hE.atE hu;have h2' := hE.atE hu';have h3 := run_loadVarA (P := P) T hg hs hl (hc w hw);rw [Array.getD_eq_getD_getElem?] at h1 h2 h2';simp [results, hr, h1, h2, h2', asAddr, h3]
attribute [local irreducible] SC St Fin Sq Ylds Doos Sets Enters Spec CellIs CellsAre Then Ret Rnd Chn resOK ints bools recs arr
section
variable {W : World} {N : List Chunk} {lv : Value} {n : Nat} {f : Nat → Nat}
theorem full_spec {u : Value} {c : Chunk} {R : List Rn} (hB : BufR 26 3 u c (rnl R)) (hl : R.length ≤ 4096) {lv : Value} : Spec prog 72 #[.agg #[.int .i64 (n : Nat), lv], u] (K W (c :: N)) (fun _ : Unit => .tuple #[.agg #[.int .i64 (n : Nat), u], .int .i64 0]) (fun _ => K W (c :: N)) := by
 have hlr : (rnl R).length = R.length := List.length_map _;obtain ⟨pa, k, rfl, _, _⟩ := (hB.view (C := K W (c :: N)) (Hs.at 0 rfl)).view;refine enter (args := [_, _]) func72 rfl ntmps72 rfl ?_;refine csr (sbx fun b2 => ?_);refine sal fun b4 => ?_;refine sa ?_;refine snf (c_seq (csr (sm ?_)));refine sy (y_lenR' tab rfl hB rfl) ?_;refine sy (y_F (y_gtr rfl rfl) (by omega)) ?_;refine snf (c_condF rfl (c_skip (f_then (csr (sf0 ?_)))));refine slr 1 ?_;refine sm ?_;refine sy yb ?_;refine ss (sB 0) ?_;refine sa ?_;refine snf (c_ret ?_);exact f_ret () (resA1 tab rfl rfl rfl rfl rfl rfl (cells_row0 0 rfl rfl)) (fun w h => h.tail.tail)
theorem rswap_spec (h : RMp (K W N) lv n f) {lo hi fr to : Nat} (h1 : lo ≤ hi) (h2 : hi ≤ n) (h3 : fr < 16) (h4 : to < 16) (h5 : nbd (swf f lo hi fr to) n ≤ 4096) : Spec prog 33 #[.agg #[.int .i64 (n : Nat), lv], .int .i64 (lo : Nat), .int .i64 (hi : Nat), .int .i64 (fr : Nat), .int .i64 (to : Nat), .bool false] (K W N)
  (X := { x : Value × Chunk × Nat // BufR 26 3 x.1 x.2.1 (rnl (rns (swf f lo hi fr to) 0 n)) }) (fun x => .tuple #[.agg #[.int .i64 (n : Nat), x.1.1], .int .i64 (x.1.2.2 : Nat), .int .i64 0]) (fun x => K W (x.1.2.1 :: N)) := by
 have hR := rns_ok (f := f) (lo := 0) (hi := n) (Nat.zero_le _);have hlen := rns_len f n;have hV := h.v;have hnb := h.nb;have hpos := h.pos;obtain ⟨pa, k, rfl, _, _⟩ := hV.view;have hlr : (rnl (rns f 0 n)).length = (rns f 0 n).length := List.length_map _;refine enter (args := [_, _, _, _, _, _]) func33 rfl ntmps33 rfl ?_;refine csr (sbx fun b6 => ?_);refine sal fun b12 => ?_;refine sa ?_;refine sa ?_;refine snf (c_seq (csr (sy (y_loadA tab rfl rfl rfl rfl (cells_row0 1 rfl rfl)) ?_)));refine sk call69 (usableM_spec h.cons.cons) fun _ => ?_;refine sy (y_notT rfl) ?_;refine snf (c_condF rfl (c_skip (f_then (c_seq (csr (sy (y_loadA tab rfl rfl rfl rfl (cells_row0 1 rfl rfl)) ?_))))));refine sm ?_;refine sm ?_;refine sk call70 (validT h.cons.cons h1 h2) fun _ => ?_;refine sy (y_notT rfl) ?_;refine snf (c_condF rfl (c_skip (f_then (c_seq (csr (sm ?_))))));refine sy (y_notF rfl) ?_;refine sm ?_;refine sm ?_;refine s_call (en_f rfl call71) (rtagT (by omega)) rfl rfl rfl (fun _ => ?_);refine sy (y_notT rfl) ?_;refine spT ?_;refine sm ?_;refine sm ?_;refine s_call (en_f rfl call71) (rtagT (by omega)) rfl rfl rfl (fun _ => ?_);refine sy (y_notT rfl) ?_;refine spF ?_;refine snf (c_condF rfl (c_skip (f_then (csr (sa ?_)))));refine snf (csr (sa ?_));refine snf (c_seq (csr (sa ?_)));refine snf (c_block ?_);refine c_loopP (α := Nat × Nat × Nat × Value × Chunk × List Rn) (fun z => [(1, .int .i64 (lo : Nat)), (2, .int .i64 (hi : Nat)), (3, .int .i64 (fr : Nat)), (4, .int .i64 (to : Nat)), (5, .bool false), (6, .pointer (some ⟨b6, 0, none⟩)), (12, .pointer (some ⟨b12, 0, none⟩)), (15, z.2.2.2.1), (16, .int .i64 (z.2.2.1 : Nat)), (17, .int .i64 (z.1 : Nat))])
  (fun z => z.1 ≤ (rns f 0 n).length ∧ Rns f z.2.1 n ((rns f 0 n).drop z.1) ∧ Rns (swf f lo hi fr to) 0 z.2.1 z.2.2.2.2.2 ∧ z.2.2.2.2.2.length ≤ 3 * z.1 ∧ BufR 26 3 z.2.2.2.1 z.2.2.2.2.1 (rnl z.2.2.2.2.2) ∧ z.2.2.1 ≤ z.2.1) (fun z => K W (z.2.2.2.2.1 :: [(b12, row 37 [.int .i64 0, .slice none 0 0])] :: [(b6, row 37 [.int .i64 (n : Nat), .slice pa (rnl (rns f 0 n)).length k])] :: N)) (fun z => (rns f 0 n).length - z.1) (0, 0, 0, .slice none 0 0, [], [])
  ⟨rfl, rfl, rfl, rfl, rfl, rfl, rfl, rfl, rfl, rfl, trivial⟩ ⟨Nat.zero_le _, by rw [List.drop_zero]; exact hR, rfl, Nat.le_refl _, .nil, Nat.le_refl _⟩ (fun w h => h.addNil) ?_
 rintro ⟨i, at_, m, u, d, R⟩ ⟨g1, g2, g3, g4, g5, g6⟩;dsimp only at g1 g2 g3 g4 g5 g6 ⊢;have hV2 : EV (K W (d :: [(b12, row 37 [.int .i64 0, .slice none 0 0])] :: [(b6, row 37 [.int .i64 (n : Nat), .slice pa (rnl (rns f 0 n)).length k])] :: N)) (.slice pa (rnl (rns f 0 n)).length k) 3 (rnl (rns f 0 n)) := hV.cons.cons.cons;by_cases c : i < (rns f 0 n).length
 ·obtain ⟨x, hx⟩ : ∃ x, (rns f 0 n)[i]? = some x := ⟨(rns f 0 n)[i], by rw [List.getElem?_eq_getElem]⟩;have hcx : CellsAre (K W (d :: [(b12, row 37 [.int .i64 0, .slice none 0 0])] :: [(b6, row 37 [.int .i64 (n : Nat), .slice pa (rnl (rns f 0 n)).length k])] :: N)) ⟨vblk (.slice pa (rnl (rns f 0 n)).length k), voff (.slice pa (rnl (rns f 0 n)).length k) + i * 3, none⟩ [.int .i64 (x.1 : Nat), .int .i64 (x.2.1 : Nat), .int .i64 (x.2.2 : Nat)] := hV2.row (rnl_get hx);rw [drop_get' hx] at g2;obtain ⟨rfl, q2, q3, _, q5⟩ := g2;have hc := g3.swap q2 q3;have hxn := q5.le;have hA : swa lo x.1 x.2.1 = max x.1 (min lo x.2.1) := rfl;have hB : swb hi x.1 x.2.1 = min x.2.1 (max hi x.1) := rfl;have ea : max (x.1 : Int) (min (lo : Int) (x.2.1 : Int)) = ((swa lo x.1 x.2.1 : Nat) : Int) := by omega
  have eb : min (x.2.1 : Int) (max (hi : Int) (x.1 : Int)) = ((swb hi x.1 x.2.1 : Nat) : Int) := by omega
  have j1 := fun {A : List Chunk} => rjoin_spec (W := W) (N := A) (lo := x.1) (hi := swa lo x.1 x.2.1) (tag := x.2.2) g5 (by omega);have l1 := jn_len R (x.1, swa lo x.1 x.2.1, x.2.2);by_cases ct : x.2.2 = fr
  ·rw [if_pos ct] at hc;refine c_seq (csr (sm ?_));refine sf 1 ?_;refine slr 2 ?_;refine sy (y_lenE tab rfl (hV2) rfl) ?_;refine sy (y_T (y_lss rfl rfl) (by omega)) ?_;refine snf (c_condT rfl (c_skip (f_then (c_seq (c_block (csr (sf 1 ?_)))))));refine slr 2 ?_;refine sm ?_;refine sy (y_ixE tab rfl rfl rfl rfl (hV2) _ rfl (by omega)) ?_;refine sy (y_loadA tab rfl rfl rfl rfl hcx) ?_;refine sal fun b18 => ?_;refine ss (sB 0) ?_;refine snf (c_seq (c_quiet mixed (by kernel_rfl) K.drew ?_));refine q_y y0 rfl rfl rfl ?_;refine q_y (y_load tab rfl rfl (cell_row 0 rfl rfl)) rfl rfl rfl ?_;refine q_y (y_move rfl) rfl rfl rfl ?_;refine q_y (yB 1) rfl rfl rfl ?_;refine q_y (y_load tab rfl rfl (cell_row 0 rfl rfl)) rfl rfl rfl ?_;refine q_y (y_min rfl rfl) rfl rfl rfl ?_;refine q_y (y_max rfl rfl) rfl rfl rfl ?_;refine q_y (yB 1) rfl rfl rfl ?_;refine q_y (y_load tab rfl rfl (cell_row 0 rfl rfl)) rfl rfl rfl ?_;refine q_y (y_move rfl) rfl rfl rfl ?_;refine q_y y0 rfl rfl rfl ?_;refine q_y (y_load tab rfl rfl (cell_row 0 rfl rfl)) rfl rfl rfl ?_;refine q_y (y_max rfl rfl) rfl rfl rfl ?_;refine q_y (y_min rfl rfl) rfl rfl rfl ?_;refine q_y (y_assign rfl) rfl rfl rfl ?_;refine q_y (y_assign rfl) rfl rfl rfl ?_;refine q_nil (f_then (csr (sf 2 ?_)));refine slr 0 ?_;refine sa ?_;refine snf (c_seq (csr (sm ?_)));refine sm ?_;refine sf 2 ?_;refine slr 0 ?_;refine sm ?_;refine sy (y_T (y_eql rfl rfl) (by omega)) ?_;refine spF ?_;refine snf (c_condT rfl (csr (sm ?_)));refine sa ?_;refine snf (c_region (sm ?_));refine sm ?_;refine sm ?_;refine sy (y_sub rfl rfl (by omega)) ?_;refine sy (y_max rfl rfl) ?_;refine sy (y_add rfl rfl (by omega)) ?_;refine sa ?_;refine snf (csr (sm ?_));refine sf0 ?_;refine slr 0 ?_;refine sm ?_;refine sf 2 ?_;refine slr 0 ?_;refine sy yb ?_;rw [ea, eb];skip;refine St.cls (C' := K W (d :: [(b18, row 26 [.int .i64 (x.1 : Nat), .int .i64 (x.2.1 : Nat), .int .i64 (x.2.2 : Nat)])] :: [(b12, row 37 [.int .i64 0, .slice none 0 0])] :: [(b6, row 37 [.int .i64 (n : Nat), .slice pa (rnl (rns f 0 n)).length k])] :: N)) ?_ (fun w h => K.front 1 h);refine sk call68 j1 fun y => ?_;obtain ⟨⟨u1, d1⟩, hu1⟩ := y;dsimp only at hu1 ⊢;have j2 := rjoin_spec (W := W) (N := [(b18, row 26 [.int .i64 (x.1 : Nat), .int .i64 (x.2.1 : Nat), .int .i64 (x.2.2 : Nat)])] :: [(b12, row 37 [.int .i64 0, .slice none 0 0])] :: [(b6, row 37 [.int .i64 (n : Nat), .slice pa (rnl (rns f 0 n)).length k])] :: N) (lo := swa lo x.1 x.2.1) (hi := swb hi x.1 x.2.1) (tag := to) hu1 (by omega);have l2 := jn_len (jn R (x.1, swa lo x.1 x.2.1, x.2.2)) (swa lo x.1 x.2.1, swb hi x.1 x.2.1, to);refine sa ?_;refine snf (csr (sm ?_));refine sm ?_;refine sm ?_;refine sm ?_;refine sy yb ?_;refine sk call68 j2 fun y => ?_;obtain ⟨⟨u2, d2⟩, hu2⟩ := y;dsimp only at hu2 ⊢;have j3 := rjoin_spec (W := W) (N := [(b18, row 26 [.int .i64 (x.1 : Nat), .int .i64 (x.2.1 : Nat), .int .i64 (x.2.2 : Nat)])] :: [(b12, row 37 [.int .i64 0, .slice none 0 0])] :: [(b6, row 37 [.int .i64 (n : Nat), .slice pa (rnl (rns f 0 n)).length k])] :: N) (lo := max (swa lo x.1 x.2.1) (swb hi x.1 x.2.1)) (hi := x.2.1) (tag := x.2.2) hu2 (by omega);rw [show ((max (swa lo x.1 x.2.1) (swb hi x.1 x.2.1) : Nat) : Int) = max ((swa lo x.1 x.2.1 : Nat) : Int) ((swb hi x.1 x.2.1 : Nat) : Int) by omega] at j3;have l3 := jn_len (jn (jn R (x.1, swa lo x.1 x.2.1, x.2.2)) (swa lo x.1 x.2.1, swb hi x.1 x.2.1, to)) (max (swa lo x.1 x.2.1) (swb hi x.1 x.2.1), x.2.1, x.2.2);refine sa ?_;refine snf (c_region (sm ?_));refine sm ?_;refine sm ?_;refine sy (y_max rfl rfl) ?_;refine sf 1 ?_;refine slr 1 ?_;refine sf 2 ?_;refine slr 1 ?_;refine sy yb ?_;refine sk call68 j3 fun y => ?_;obtain ⟨⟨u3, d3⟩, hu3⟩ := y;dsimp only at hu3 ⊢;refine sa ?_;refine s_nil (f_blockN (f_then (c_region (sm ?_))));refine sy (y_add rfl rfl (by omega)) ?_;refine sa ?_;refine s_nil ?_;rw [show (m : Int) + max 0 (((swb hi x.1 x.2.1 : Nat) : Int) - ((swa lo x.1 x.2.1 : Nat) : Int)) = ((m + (swb hi x.1 x.2.1 - swa lo x.1 x.2.1) : Nat) : Int) by omega];exact f_roundP (i + 1, x.2.1, m + (swb hi x.1 x.2.1 - swa lo x.1 x.2.1), u3, d3, jn (jn (jn R (x.1, swa lo x.1 x.2.1, x.2.2)) (swa lo x.1 x.2.1, swb hi x.1 x.2.1, to)) (max (swa lo x.1 x.2.1) (swb hi x.1 x.2.1), x.2.1, x.2.2)) ⟨c, q5, hc, by dsimp only; omega, hu3, by dsimp only; omega⟩ (by dsimp only; omega) ⟨rfl, rfl, rfl, rfl, rfl, rfl, rfl, rfl, rfl, rfl, trivial⟩ (fun w h => h.dropAt 1)
  ·rw [if_neg ct] at hc;refine c_seq (csr (sm ?_));refine sf 1 ?_;refine slr 2 ?_;refine sy (y_lenE tab rfl (hV2) rfl) ?_;refine sy (y_T (y_lss rfl rfl) (by omega)) ?_;refine snf (c_condT rfl (c_skip (f_then (c_seq (c_block (csr (sf 1 ?_)))))));refine slr 2 ?_;refine sm ?_;refine sy (y_ixE tab rfl rfl rfl rfl (hV2) _ rfl (by omega)) ?_;refine sy (y_loadA tab rfl rfl rfl rfl hcx) ?_;refine sal fun b18 => ?_;refine ss (sB 0) ?_;refine snf (c_seq (c_quiet mixed (by kernel_rfl) K.drew ?_));refine q_y y0 rfl rfl rfl ?_;refine q_y (y_load tab rfl rfl (cell_row 0 rfl rfl)) rfl rfl rfl ?_;refine q_y (y_move rfl) rfl rfl rfl ?_;refine q_y (yB 1) rfl rfl rfl ?_;refine q_y (y_load tab rfl rfl (cell_row 0 rfl rfl)) rfl rfl rfl ?_;refine q_y (y_min rfl rfl) rfl rfl rfl ?_;refine q_y (y_max rfl rfl) rfl rfl rfl ?_;refine q_y (yB 1) rfl rfl rfl ?_;refine q_y (y_load tab rfl rfl (cell_row 0 rfl rfl)) rfl rfl rfl ?_;refine q_y (y_move rfl) rfl rfl rfl ?_;refine q_y y0 rfl rfl rfl ?_;refine q_y (y_load tab rfl rfl (cell_row 0 rfl rfl)) rfl rfl rfl ?_;refine q_y (y_max rfl rfl) rfl rfl rfl ?_;refine q_y (y_min rfl rfl) rfl rfl rfl ?_;refine q_y (y_assign rfl) rfl rfl rfl ?_;refine q_y (y_assign rfl) rfl rfl rfl ?_;refine q_nil (f_then (csr (sf 2 ?_)));refine slr 0 ?_;refine sa ?_;refine snf (c_seq (csr (sm ?_)));refine sm ?_;refine sf 2 ?_;refine slr 0 ?_;refine sm ?_;refine sy (y_F (y_eql rfl rfl) (by omega)) ?_;refine spF ?_;refine snf (c_condF rfl (c_skip (f_then (csr (sm ?_)))));refine sf0 ?_;refine slr 0 ?_;refine sm ?_;refine sf 2 ?_;refine slr 0 ?_;refine sy yb ?_;rw [ea, eb];skip;refine St.cls (C' := K W (d :: [(b18, row 26 [.int .i64 (x.1 : Nat), .int .i64 (x.2.1 : Nat), .int .i64 (x.2.2 : Nat)])] :: [(b12, row 37 [.int .i64 0, .slice none 0 0])] :: [(b6, row 37 [.int .i64 (n : Nat), .slice pa (rnl (rns f 0 n)).length k])] :: N)) ?_ (fun w h => K.front 1 h);refine sk call68 j1 fun y => ?_;obtain ⟨⟨u1, d1⟩, hu1⟩ := y;dsimp only at hu1 ⊢;have j2 := rjoin_spec (W := W) (N := [(b18, row 26 [.int .i64 (x.1 : Nat), .int .i64 (x.2.1 : Nat), .int .i64 (x.2.2 : Nat)])] :: [(b12, row 37 [.int .i64 0, .slice none 0 0])] :: [(b6, row 37 [.int .i64 (n : Nat), .slice pa (rnl (rns f 0 n)).length k])] :: N) (lo := swa lo x.1 x.2.1) (hi := swb hi x.1 x.2.1) (tag := x.2.2) hu1 (by omega);have l2 := jn_len (jn R (x.1, swa lo x.1 x.2.1, x.2.2)) (swa lo x.1 x.2.1, swb hi x.1 x.2.1, x.2.2);refine sa ?_;refine snf (csr (sm ?_));refine sm ?_;refine sm ?_;refine sm ?_;refine sy yb ?_;refine sk call68 j2 fun y => ?_;obtain ⟨⟨u2, d2⟩, hu2⟩ := y;dsimp only at hu2 ⊢;have j3 := rjoin_spec (W := W) (N := [(b18, row 26 [.int .i64 (x.1 : Nat), .int .i64 (x.2.1 : Nat), .int .i64 (x.2.2 : Nat)])] :: [(b12, row 37 [.int .i64 0, .slice none 0 0])] :: [(b6, row 37 [.int .i64 (n : Nat), .slice pa (rnl (rns f 0 n)).length k])] :: N) (lo := max (swa lo x.1 x.2.1) (swb hi x.1 x.2.1)) (hi := x.2.1) (tag := x.2.2) hu2 (by omega);rw [show ((max (swa lo x.1 x.2.1) (swb hi x.1 x.2.1) : Nat) : Int) = max ((swa lo x.1 x.2.1 : Nat) : Int) ((swb hi x.1 x.2.1 : Nat) : Int) by omega] at j3;have l3 := jn_len (jn (jn R (x.1, swa lo x.1 x.2.1, x.2.2)) (swa lo x.1 x.2.1, swb hi x.1 x.2.1, x.2.2)) (max (swa lo x.1 x.2.1) (swb hi x.1 x.2.1), x.2.1, x.2.2);refine sa ?_;refine snf (c_region (sm ?_));refine sm ?_;refine sm ?_;refine sy (y_max rfl rfl) ?_;refine sf 1 ?_;refine slr 1 ?_;refine sf 2 ?_;refine slr 1 ?_;refine sy yb ?_;refine sk call68 j3 fun y => ?_;obtain ⟨⟨u3, d3⟩, hu3⟩ := y;dsimp only at hu3 ⊢;refine sa ?_;refine s_nil (f_blockN (f_then (c_region (sm ?_))));refine sy (y_add rfl rfl (by omega)) ?_;refine sa ?_;refine s_nil ?_;exact f_roundP (i + 1, x.2.1, m, u3, d3, jn (jn (jn R (x.1, swa lo x.1 x.2.1, x.2.2)) (swa lo x.1 x.2.1, swb hi x.1 x.2.1, x.2.2)) (max (swa lo x.1 x.2.1) (swb hi x.1 x.2.1), x.2.1, x.2.2)) ⟨c, q5, hc, by dsimp only; omega, hu3, by dsimp only; omega⟩ (by dsimp only; omega) ⟨rfl, rfl, rfl, rfl, rfl, rfl, rfl, rfl, rfl, rfl, trivial⟩ (fun w h => h.dropAt 1)
 ·obtain rfl : i = (rns f 0 n).length := by omega
  rw [List.drop_length] at g2;obtain rfl : at_ = n := g2;have hRl : R.length ≤ 4096 := by rw [g3.eq, rns_len]; exact h5
  obtain ⟨pu, ku, rfl, _, _⟩ := (g5.view (C := K W (d :: N)) (Hs.at 0 rfl)).view;refine c_seq (csr (sm ?_));refine sf 1 ?_;refine slr 2 ?_;refine sy (y_lenE tab rfl (hV2) rfl) ?_;refine sy (y_F (y_lss rfl rfl) (by omega)) ?_;refine snf (c_condF rfl (c_exit (f_thenE (f_rndE (f_blockE (f_then (csr (sy (y_loadA tab rfl rfl rfl rfl (cells_row0 2 rfl rfl)) ?_))))))));refine sm ?_;refine sk call72 (full_spec g5 hRl) fun _ => ?_;refine sm ?_;refine sx ?_;refine sx ?_;refine sal fun b22 => ?_;refine ss (sB 0) ?_;refine sa ?_;refine snf (c_seq (csr (sm ?_)));refine sy (y_F (y_neq rfl rfl) (by omega)) ?_;refine snf (c_condF rfl (c_skip (f_then (csr (sy (y_loadA tab rfl rfl rfl rfl (cells_row0 0 rfl rfl)) ?_)))));refine sm ?_;refine ss (sB 2) ?_;refine sa ?_;refine sa ?_;refine snf (c_ret ?_);exact f_ret ⟨(_, d, m), g5.of (by rw [g3.eq])⟩ (resA12 tab rfl rfl rfl rfl rfl rfl rfl (cells_row0 2 rfl rfl)) (fun w h => (h.tail.dropAt 1).dropAt 1)
theorem rmove_spec (h : RMp (K W N) lv n f) {o : Oa} {rv : Value} (h1 : o.lo ≤ o.hi) (h2 : o.hi ≤ n) (h3 : o.fr < 16) (h4 : o.to < 16) (h5 : nbd (swf f o.lo o.hi o.fr o.to) n ≤ 4096) : Spec prog 80 #[.agg #[.int .i64 (n : Nat), lv], .agg #[.bool o.mv, .int .i64 (o.lo : Nat), .int .i64 (o.hi : Nat), .int .i64 (o.fr : Nat), .int .i64 (o.to : Nat), rv]] (K W N)
  (X := { x : Value × Chunk // BufR 26 3 x.1 x.2 (rnl (rns (swf f o.lo o.hi o.fr o.to) 0 n)) }) (fun x => .agg #[.int .i64 (n : Nat), x.1.1]) (fun x => K W (x.1.2 :: N)) := by
 have hV := h.v;obtain ⟨pa, k, rfl, _, _⟩ := hV.view;refine enter (args := [_, _]) func80 rfl ntmps80 rfl ?_;refine csr (sbx fun b2 => ?_);refine sbx fun b3 => ?_;refine sal fun b4 => ?_;refine snf (csr (sy (y_loadA tab rfl rfl rfl rfl (cells_row0 2 rfl rfl)) ?_));refine sf 1 ?_;refine slr 1 ?_;refine sf 2 ?_;refine slr 1 ?_;refine sf 3 ?_;refine slr 1 ?_;refine sf 4 ?_;refine slr 1 ?_;refine sk call33 (rswap_spec h.cons.cons.cons h1 h2 h3 h4 h5) fun y => ?_;obtain ⟨⟨u, d, m⟩, hu⟩ := y;dsimp only at hu ⊢;obtain ⟨pu, ku, rfl, _, _⟩ := (hu.view (C := K W (d :: N)) (Hs.at 0 rfl)).view;refine sm ?_;refine sx ?_;refine sx ?_;refine sx ?_;refine sal fun b5 => ?_;refine ss (sB 0) ?_;refine sa ?_;refine sa ?_;refine snf (c_seq (csr (sm ?_)));refine sy (y_F (y_neq rfl rfl) (by omega)) ?_;refine snf (c_condF rfl (c_skip (f_then (csr (sy (y_loadA tab rfl rfl rfl rfl (cells_row0 0 rfl rfl)) ?_)))));refine ss (sB 2) ?_;refine snf (c_ret ?_);exact f_ret ⟨(_, d), hu⟩ (resA tab rfl rfl rfl rfl rfl (cells_row0 2 rfl rfl)) (fun w h => ((h.tail.dropAt 1).dropAt 1).dropAt 1)
end
section
variable {W : World} {N : List Chunk} {a b : Value} {R R' : List Rn}
theorem rnc_inj {x y : Rn} (h : rnc x = rnc y) : x = y := by
 unfold rnc at h;simp only [List.cons.injEq, Value.int.injEq, true_and, and_true] at h;exact Prod.ext (by omega) (Prod.ext (by omega) (by omega))
theorem alike_spec (hA : EV (K W N) a 3 (rnl R)) (hB : EV (K W N) b 3 (rnl R')) (hl : R.length < 1000000) : Spec prog 34 #[a, b] (K W N) (fun _ : Unit => .bool (decide (R = R'))) (fun _ => K W N) := by
 have hla : (rnl R).length = R.length := List.length_map _;have hlb : (rnl R').length = R'.length := List.length_map _;refine enter (args := [_, _]) func34 rfl ntmps34 rfl ?_;by_cases c0 : R.length = R'.length
 ·refine csr (sa ?_);refine snf (c_seq (csr (sm ?_)));refine sy (y_lenE tab rfl (hA) rfl) ?_;refine sm ?_;refine sy (y_lenE tab rfl (hB) rfl) ?_;refine sy (y_F (y_neq rfl rfl) (by omega)) ?_;refine snf (c_condF rfl (c_skip (f_then (c_seq (csr (sa ?_))))));refine snf (c_block (c_loopP (α := Nat) (fun z => [(0, a), (1, b), (5, .int .i64 (z : Nat))]) (fun z => z ≤ R.length ∧ R.take z = R'.take z) (fun _ => K W N) (fun z => R.length - z) 0 ⟨rfl, rfl, rfl, trivial⟩ ⟨Nat.zero_le _, rfl⟩ (fun w h => h) ?_));rintro i ⟨g1, g2⟩;by_cases c : i < R.length
  ·obtain ⟨x, hx⟩ : ∃ x, R[i]? = some x := ⟨R[i], by rw [List.getElem?_eq_getElem]⟩;obtain ⟨y, hy⟩ : ∃ y, R'[i]? = some y := ⟨R'[i]'(by omega), by rw [List.getElem?_eq_getElem]⟩;have hcx : CellsAre (K W N) ⟨vblk a, voff a + i * 3, none⟩ [.int .i64 (x.1 : Nat), .int .i64 (x.2.1 : Nat), .int .i64 (x.2.2 : Nat)] := hA.row (rnl_get hx);have hcy : CellsAre (K W N) ⟨vblk b, voff b + i * 3, none⟩ [.int .i64 (y.1 : Nat), .int .i64 (y.2.1 : Nat), .int .i64 (y.2.2 : Nat)] := hB.row (rnl_get hy);by_cases e : x = y
   ·subst e;refine c_seq (csr (sm ?_));refine sm ?_;refine sy (y_lenE tab rfl (hA) rfl) ?_;refine sy (y_T (y_lss rfl rfl) (by omega)) ?_;refine snf (c_condT rfl (c_skip (f_then (c_seq (c_block (c_seq (c_quiet mixed (by kernel_rfl) K.drew ?_)))))));refine q_y (y_move rfl) rfl rfl rfl ?_;refine q_y (y_move rfl) rfl rfl rfl ?_;refine q_y (y_ixE tab rfl rfl rfl rfl (hA) _ rfl (by omega)) rfl rfl rfl ?_;refine q_y (y_loadA tab rfl rfl rfl rfl hcx) rfl rfl rfl ?_;refine q_y (y_move rfl) rfl rfl rfl ?_;refine q_y (y_move rfl) rfl rfl rfl ?_;refine q_y (y_ixE tab rfl rfl rfl rfl (hB) _ rfl (by omega)) rfl rfl rfl ?_;refine q_y (y_loadA tab rfl rfl rfl rfl hcy) rfl rfl rfl ?_;refine q_y (y_neqS tab rfl rfl rfl (by kernel_rfl) (by kernel_rfl) rfl rfl) rfl rfl rfl ?_;refine q_nil (f_then (c_cond rfl (fun h => by simp at h) (fun _ => ?_)));refine c_skip (f_blockN (f_then (c_region (sm ?_))));refine sy (y_add rfl rfl (by omega)) ?_;refine sa ?_;refine s_nil ?_;exact f_roundP (i + 1) ⟨c, by rw [List.take_add_one, List.take_add_one, g2, hx, hy]⟩ (by omega) ⟨rfl, rfl, rfl, trivial⟩ (fun w h => h)
   ·have hne : ¬ R = R' := fun h => by
     rw [h, hy] at hx;exact e (Option.some.inj hx).symm
    rw [decide_eq_false hne];refine c_seq (csr (sm ?_));refine sm ?_;refine sy (y_lenE tab rfl (hA) rfl) ?_;refine sy (y_T (y_lss rfl rfl) (by omega)) ?_;refine snf (c_condT rfl (c_skip (f_then (c_seq (c_block (c_seq (c_quiet mixed (by kernel_rfl) K.drew ?_)))))));refine q_y (y_move rfl) rfl rfl rfl ?_;refine q_y (y_move rfl) rfl rfl rfl ?_;refine q_y (y_ixE tab rfl rfl rfl rfl (hA) _ rfl (by omega)) rfl rfl rfl ?_;refine q_y (y_loadA tab rfl rfl rfl rfl hcx) rfl rfl rfl ?_;refine q_y (y_move rfl) rfl rfl rfl ?_;refine q_y (y_move rfl) rfl rfl rfl ?_;refine q_y (y_ixE tab rfl rfl rfl rfl (hB) _ rfl (by omega)) rfl rfl rfl ?_;refine q_y (y_loadA tab rfl rfl rfl rfl hcy) rfl rfl rfl ?_;refine q_y (y_neqS tab rfl rfl rfl (by kernel_rfl) (by kernel_rfl) rfl rfl) rfl rfl rfl ?_;refine q_nil (f_then (c_cond rfl (fun _ => ?_) (fun h => absurd (show rnc x = rnc y by simpa [rnc] using h) fun h2 => e (rnc_inj h2))));refine csr (sa ?_);refine snf (c_ret (f_blockR (f_thenR (f_rndR (f_blockR (f_thenR ?_))))));exact f_ret () (res1 rfl rfl) (fun w h => h)
  ·have he : R = R' := by
    rw [List.take_of_length_le (by omega), List.take_of_length_le (by omega)] at g2;exact g2
   rw [decide_eq_true he];refine c_seq (csr (sm ?_));refine sm ?_;refine sy (y_lenE tab rfl (hA) rfl) ?_;refine sy (y_F (y_lss rfl rfl) (by omega)) ?_;refine snf (c_condF rfl (c_exit (f_thenE (f_rndE (f_blockE (f_then (csr (sa ?_))))))));refine snf (c_ret ?_);exact f_ret () (res1 rfl rfl) (fun w h => h)
 ·rw [decide_eq_false (show ¬ R = R' from fun e => c0 (by rw [e]))];refine csr (sa ?_);refine snf (c_seq (csr (sm ?_)));refine sy (y_lenE tab rfl (hA) rfl) ?_;refine sm ?_;refine sy (y_lenE tab rfl (hB) rfl) ?_;refine sy (y_T (y_neq rfl rfl) (by omega)) ?_;refine snf (c_condT rfl (csr (sa ?_)));refine snf (c_ret (f_thenR ?_));exact f_ret () (res1 rfl rfl) (fun w h => h)
theorem runsEq_spec {p : Chunk} {mv lv : Value} {n : Nat} {f : Nat → Nat} (hM : MV p mv n f) (hnb : nbd f n ≤ 4096) (h : RMp (K W N) lv n f) : Spec prog 24 #[.agg #[mv], .agg #[.int .i64 (n : Nat), lv]] (K W (p :: N)) (fun _ : Unit => .bool true) (fun _ => K W (p :: N)) := by
 have hV := h.v;have hpos := h.pos;obtain ⟨pa, k, rfl, _, _⟩ := hV.view;obtain ⟨a, rfl⟩ := hM.ptr;refine enter (args := [_, _]) func24 rfl ntmps24 rfl ?_;refine csr (sbx fun b2 => ?_);refine sbx fun b3 => ?_;refine sa ?_;refine snf (c_seq (SC.cls (C' := K W (p :: [(b3, row 37 [.int .i64 (n : Nat), .slice pa (rnl (rns f 0 n)).length k])] :: [(b2, row 29 [.pointer (some a)])] :: N)) ?_ (fun w h => K.front 2 h)));refine c_plan [.c 0, .c 1, .s 2, .s 3, .c 4, .c 5, .c 6, .c 7, .c 8] [] ((K W [[(b3, row 37 [.int .i64 (n : Nat), .slice pa (rnl (rns f 0 n)).length k])], [(b2, row 29 [.pointer (some a)])]])) mixed (by kernel_rfl) rfl K.cl ?_;have hD := fun (w : World) (h : K W (p :: [(b3, row 37 [.int .i64 (n : Nat), .slice pa (rnl (rns f 0 n)).length k])] :: [(b2, row 29 [.pointer (some a)])] :: N) w) => h.tail.keep 2;refine dy rfl (y_loadA tab rfl rfl rfl rfl (cells_row0 1 rfl rfl)) hD ?_;refine dy rfl (y_loadA tab rfl rfl rfl rfl (cells_row0 1 rfl rfl)) hD ?_;refine d_call rfl (en_f rfl call36) (msize_spec hM) rfl rfl rfl (fun _ => K.cl) (fun _ _ _ h => h.tail.keep 2) (fun _ => ?_);skip;refine d_call rfl (en_f rfl call60) (mruns_spec (lo := 0) (most := 1048576) hM (Nat.zero_le _) (Nat.le_refl _) (by omega) hnb) rfl rfl rfl (fun _ => K.cl) (fun _ _ _ h => h.tail.tail.keep 2) (fun y => ?_);obtain ⟨⟨u, d⟩, hu⟩ := y;have hu := bufR_runs hu;dsimp only at hu ⊢;clear hD;have hD := fun (w : World) (h : K W (d :: p :: [(b3, row 37 [.int .i64 (n : Nat), .slice pa (rnl (rns f 0 n)).length k])] :: [(b2, row 29 [.pointer (some a)])] :: N) w) => h.tail.tail.keep 2;refine dy rfl (y_move rfl) hD ?_;refine dy rfl (y_extract rfl rfl) hD ?_;refine dy rfl (y_extract rfl rfl) hD ?_;refine dy rfl (y_assign rfl) hD ?_;refine dy rfl (y_assign rfl) hD ?_;refine d_nil (f_then (c_seq (SC.cls (C' := K W (p :: d :: [(b3, row 37 [.int .i64 (n : Nat), .slice pa (rnl (rns f 0 n)).length k])] :: [(b2, row 29 [.pointer (some a)])] :: N)) ?_ (fun w h => K.front 1 h))));have hEu : EV (K W (p :: d :: [(b3, row 37 [.int .i64 (n : Nat), .slice pa (rnl (rns f 0 n)).length k])] :: [(b2, row 29 [.pointer (some a)])] :: N)) u 3 (rnl (rns f 0 n)) := hu.view (Hs.at 1 rfl);have hEl : EV (K W (p :: d :: [(b3, row 37 [.int .i64 (n : Nat), .slice pa (rnl (rns f 0 n)).length k])] :: [(b2, row 29 [.pointer (some a)])] :: N)) (.slice pa (rnl (rns f 0 n)).length k) 3 (rnl (rns f 0 n)) := hV.cons.cons.cons.cons;have hal := alike_spec hEu hEl (by rw [rns_len]; omega);rw [decide_eq_true rfl] at hal;clear hD;have hD := fun (w : World) (h : K W (p :: d :: [(b3, row 37 [.int .i64 (n : Nat), .slice pa (rnl (rns f 0 n)).length k])] :: [(b2, row 29 [.pointer (some a)])] :: N) w) => h.tail.tail.keep 2;refine c_plan [.c 0, .c 2, .c 3, .s 1, .c 4, .c 5, .c 6, .c 7, .c 8, .c 9, .c 10, .c 11, .c 12, .s 13, .c 14, .c 15] [] ((K W [[(b3, row 37 [.int .i64 (n : Nat), .slice pa (rnl (rns f 0 n)).length k])], [(b2, row 29 [.pointer (some a)])]])) mixed (by kernel_rfl) rfl K.cl ?_;refine dy rfl (y_loadA tab rfl rfl rfl rfl (cells_row0 1 rfl rfl)) hD ?_;refine dy rfl y0 hD ?_;refine dy rfl (y_load tab rfl rfl (cell_row 0 rfl rfl)) hD ?_;refine d_call rfl (en_f rfl call36) (msize_spec hM) rfl rfl rfl (fun _ => K.cl) (fun _ _ _ h => h.tail.tail.keep 2) (fun _ => ?_);refine dy rfl (y_T (y_eql rfl rfl) (by omega)) hD ?_;refine dy rfl (y_move rfl) hD ?_;refine dy rfl (y_move rfl) hD ?_;refine dy rfl (y_T (y_eql rfl rfl) (by omega)) hD ?_;refine dy rfl (y_pickT rfl rfl) hD ?_;refine dy rfl (y_move rfl) hD ?_;refine dy rfl (y_move rfl) hD ?_;refine dy rfl (yB 1) hD ?_;refine dy rfl (y_load tab rfl rfl (cell_row 0 rfl rfl)) hD ?_;refine d_call rfl (en_f rfl call34) hal rfl rfl rfl (fun _ => K.cl) (fun _ _ _ h => h.tail.tail.keep 2) (fun _ => ?_);refine dy rfl (y_pickT rfl rfl) hD ?_;refine dy rfl (y_assign rfl) hD ?_;refine d_nil (f_then (c_ret ?_));exact f_ret () (res1 rfl rfl) (fun w h => ((h.dropAt 1).dropAt 1).dropAt 1)
end
end Go.KL
end

section
namespace Go.KL
open Go.Proofs Go.Proofs.Tryz
attribute [local irreducible] SC St Fin Sq Ylds Doos Sets Enters Spec CellIs CellsAre Then Ret Rnd Chn resOK ints bools recs arr
section
variable {g : Bg} {W : World} {N : List Chunk}
theorem fewC_spec {tv lv : Value} {nt nl s s' : Nat} {G G' : Nat → Nat → Value} (hT : SlV (K W N) tv nt s G) (hL : SlV (K W N) lv nl s' G') : Spec prog 21 #[tv, lv] (K W N) (fun _ : Unit => .bool (decide (nt ≤ 60 ∧ nl ≤ 60))) (fun _ => K W N) := by
 refine enter (args := [_, _]) func21 rfl ntmps21 rfl ?_;by_cases c1 : nt ≤ 60
 ·by_cases c2 : nl ≤ 60
  ·rw [decide_eq_true (show nt ≤ 60 ∧ nl ≤ 60 from ⟨c1, c2⟩)];refine csr (sa ?_);refine snf (csr (sm ?_));refine sy (y_lenV tab rfl (hT) rfl) ?_;refine sy (y_T (y_leq rfl rfl) (by omega)) ?_;refine sm ?_;refine sm ?_;refine sy (y_lenV tab rfl (hL) rfl) ?_;refine sy (y_T (y_leq rfl rfl) (by omega)) ?_;refine spT ?_;refine sa ?_;refine snf (c_ret ?_);exact f_ret () (res1 rfl rfl) (fun w h => h)
  ·rw [decide_eq_false (show ¬ (nt ≤ 60 ∧ nl ≤ 60) from fun h => c2 h.2)];refine csr (sa ?_);refine snf (csr (sm ?_));refine sy (y_lenV tab rfl (hT) rfl) ?_;refine sy (y_T (y_leq rfl rfl) (by omega)) ?_;refine sm ?_;refine sm ?_;refine sy (y_lenV tab rfl (hL) rfl) ?_;refine sy (y_F (y_leq rfl rfl) (by omega)) ?_;refine spT ?_;refine sa ?_;refine snf (c_ret ?_);exact f_ret () (res1 rfl rfl) (fun w h => h)
 ·rw [decide_eq_false (show ¬ (nt ≤ 60 ∧ nl ≤ 60) from fun h => c1 h.1)];refine csr (sa ?_);refine snf (csr (sm ?_));refine sy (y_lenV tab rfl (hT) rfl) ?_;refine sy (y_F (y_leq rfl rfl) (by omega)) ?_;refine sm ?_
  iterate 3 refine s_skip rfl rfl rfl ?_
  refine spF ?_;refine sa ?_;refine snf (c_ret ?_);exact f_ret () (res1 rfl rfl) (fun w h => h)
theorem runsNow {lv : Value} {n : Nat} {f : Nat → Nat} (hB : g.OK) (hz : g.size = n) (hC : g.C = f) (h : RMp (K W N) lv n f) : Spec prog 24 #[.agg #[g.cv], .agg #[.int .i64 (n : Nat), lv]] (K W (g.L ++ N)) (fun _ : Unit => .bool true) (fun _ => K W (g.L ++ N)) := by
 have hM := hB.mC;rw [hz, hC] at hM;exact runsEq_spec (p := g.p) (N := g.L.tail ++ N) hM h.nb (h.cls fun w h => K.bck h)
end
end Go.KL
end

section
namespace Go.KL
open Relation
open Classical in
theorem cyc {E : Nat → Nat → Prop} : ∀ (n : Nat) (l : List Nat), l.length ≤ n → l ≠ [] → (∀ x ∈ l, ∃ y ∈ l, E x y) → ∃ x ∈ l, TransGen E x x
 | 0, l, h, h0, _ => absurd (List.eq_nil_of_length_eq_zero (by omega)) h0
 | n + 1, l, h, h0, hE => by
  obtain ⟨x, hx⟩ : ∃ x, x ∈ l := by
   cases l with
   | nil => exact absurd rfl h0
   | cons x l => exact ⟨x, List.mem_cons_self ..⟩
  by_cases c : TransGen E x x
  ·exact ⟨x, hx, c⟩
  ·have hS : ∀ y, y ∈ l.filter (fun y => decide (TransGen E x y)) ↔ y ∈ l ∧ TransGen E x y := fun y => by simp
   obtain ⟨y, hy, hxy⟩ := hE x hx;have hlt : (l.filter fun y => decide (TransGen E x y)).length < l.length := by
    have h1 := List.length_filter_le (fun y => decide (TransGen E x y)) l;by_cases e : (l.filter fun y => decide (TransGen E x y)).length = l.length
    ·have := List.length_filter_eq_length_iff.1 e x hx;exact absurd (of_decide_eq_true this) c
    ·omega
   obtain ⟨z, hz, hzz⟩ := cyc (E := E) n (l.filter fun y => decide (TransGen E x y)) (by omega) (fun e => by
    have := (hS y).2 ⟨hy, .single hxy⟩;rw [e] at this;simp at this) (fun z hz => by
    obtain ⟨hz1, hz2⟩ := (hS z).1 hz;obtain ⟨u, hu, hzu⟩ := hE z hz1;exact ⟨u, (hS u).2 ⟨hu, .tail hz2 hzu⟩, hzu⟩)
   exact ⟨z, ((hS z).1 hz).1, hzz⟩
namespace Bk
variable {A : Bk} {b : Nat}
theorem Ok.active (h : A.Ok b) (hr : A.rn ≠ []) : ∃ k, A.has k ∧ (A.tx k).st = 1 := by
 refine Classical.byContradiction fun hn => ?_;have h2 : ∀ k ∈ A.rn, ∃ j ∈ A.rn, A.E k j := fun k hk => by
  have hs : (A.tx k).st = 2 := by
   rcases ((h.inv.rn k).1 hk).2 with c | c
   ·exact absurd ⟨k, h.inv.has hk, c⟩ hn
   ·exact c
  have hq : k ∈ A.q := (h.inv.q k).2 ⟨h.inv.has hk, hs⟩;have hb := BlkF.mem h.blk hq;rw [List.nil_append] at hb;have : ∃ j, A.E k j := by
   refine Classical.byContradiction fun hne => ?_;have : A.free (A.tx k).req (A.q.takeWhile (fun j => !decide (j = k))) = true := free_iff.2 ⟨fun m hm y hy => ?_, fun m hm => ?_⟩
   ·rw [hb] at this;cases this
   ·cases c : cfl y (A.tx k).req with
    | false => rfl
    | true => exact absurd ⟨m, E_iff.2 ⟨hs, .inl ⟨hm, y, hy, c⟩⟩⟩ hne
   ·cases c : cfl (A.tx m).req (A.tx k).req with
    | false => rfl
    | true => exact absurd ⟨m, E_iff.2 ⟨hs, .inr ⟨hm, c⟩⟩⟩ hne
  obtain ⟨j, hj⟩ := this;exact ⟨j, E_rn h.inv hj, hj⟩
 obtain ⟨x, hx, hc⟩ := cyc A.rn.length A.rn (Nat.le_refl _) hr h2;exact h.ac x (h.inv.has hx) hc
theorem commit_same {k : Nat} (hk : A.has k) : (A.commit k).size = A.size ∧ (A.commit k).C = ap A.C (A.tx k).ops ∧ (A.commit k).log = A.log ++ [(k, (A.tx k).ops)] ∧ (A.commit k).ts.length = A.ts.length := by
 rw [commit_eq hk];obtain ⟨h1, h2, _, h4, h5⟩ := fin_same (A := A.ended k 3 (A.tx k).req (ap A.C (A.tx k).ops) A.W (A.log ++ [(k, (A.tx k).ops)]));exact ⟨h1, h2, h4, h5.trans (by simp [ended])⟩
theorem Ok.grow {B : Bk} {f : Nat → Int} (h : A.Ok b) (hc : A.Cl f B) : B.size = A.size ∧ A.ts.length ≤ B.ts.length ∧ B.ts.length ≤ A.ts.length + 1 ∧ B.log.length ≤ A.log.length + 1 := by
 rcases hc with ⟨_, ⟨_, rfl⟩ | ⟨_, rfl⟩⟩ | ⟨_, e, rs, hp⟩ | ⟨_, e, rs, hp⟩ | ⟨_, n, e, hp⟩ | ⟨_, e, hp⟩
 ·exact ⟨rfl, by omega, by omega, by omega⟩
 ·exact ⟨rfl, by simp [Bk.begin], by simp [Bk.begin], by show A.log.length ≤ _; omega⟩
 ·obtain ⟨_, h1, _, h3, h4⟩ := h.perf hp;exact ⟨h1, by omega, by omega, by rw [h3]; omega⟩
 ·obtain ⟨_, h1, _, h3, h4⟩ := h.perf hp;exact ⟨h1, by omega, by omega, by rw [h3]; omega⟩
 ·rcases hp with ⟨_, rfl, _⟩ | ⟨k, _, hk, ⟨_, rfl, _⟩ | ⟨_, rfl, _⟩ | ⟨_, rfl, _⟩ | ⟨_, _, _, rfl, _⟩⟩
  ·exact ⟨rfl, by omega, by omega, by omega⟩
  ·exact ⟨rfl, by omega, by omega, by omega⟩
  ·exact ⟨rfl, by omega, by omega, by omega⟩
  ·exact ⟨rfl, by omega, by omega, by omega⟩
  ·obtain ⟨h1, _, h3, h4⟩ := commit_same hk;exact ⟨h1, by omega, by omega, by rw [h3, List.length_append]; simp⟩
 ·rcases hp with ⟨_, rfl, _⟩ | ⟨k, _, hk, ⟨_, rfl, _⟩ | ⟨_, rfl, _⟩ | ⟨_, _, rfl, _⟩⟩
  ·exact ⟨rfl, by omega, by omega, by omega⟩
  ·exact ⟨rfl, by omega, by omega, by omega⟩
  ·exact ⟨rfl, by omega, by omega, by omega⟩
  ·obtain ⟨h1, _, h3, h4⟩ := abort_same hk;exact ⟨h1, by omega, by omega, by rw [h3]; omega⟩
theorem Ok.none (h : A.Ok b) (hr : A.rn = []) : A.q = [] ∧ ∀ k, A.has k → ((A.tx k).st = 3 ∨ (A.tx k).st = 4) ∧ (A.tx k).locks = [] := by
 refine ⟨?_, fun k hk => ?_⟩
 ·cases e : A.q with
  | nil => rfl
  | cons k l =>
   have : k ∈ A.q := by rw [e]; exact List.mem_cons_self ..
   have := h.inv.qrn this;rw [hr] at this;simp at this
 ·have hn : k ∉ A.rn := by rw [hr]; simp
  refine ⟨?_, (h.inv.off k hk hn).1⟩;have h1 := h.inv.st k hk;have h2 : ¬ ((A.tx k).st = 1 ∨ (A.tx k).st = 2) := fun c => hn ((h.inv.rn k).2 ⟨hk, c⟩);omega
end Bk
end Go.KL
end

section
namespace Go.KL
namespace Bk
abbrev fl (A : Bk) : List Oa := (A.log.map Prod.snd).flatten
structure Lgk (A : Bk) (f0 : Nat → Nat) (b : Nat) : Prop where
 rep : Rep A.size f0 A.fl
 C : A.C = ap f0 A.fl
 len : ∀ x ∈ A.log, x.2.length ≤ b
variable {A B : Bk} {b : Nat} {f0 : Nat → Nat}
theorem Lgk.same (h : A.Lgk f0 b) (h1 : B.size = A.size) (h2 : B.C = A.C) (h3 : B.log = A.log) : B.Lgk f0 (b + 1) := by
 refine ⟨?_, ?_, fun x hx => ?_⟩
 ·rw [h1, Bk.fl, h3]; exact h.rep
 ·rw [h2, Bk.fl, h3]; exact h.C
 ·rw [h3] at hx;exact Nat.le_succ_of_le (h.len x hx)
theorem Lgk.commit (h : A.Lgk f0 b) (ho : A.Ok b) {k : Nat} (hk : A.has k) (hr : k ∈ A.rn) : (A.commit k).Lgk f0 (b + 1) := by
 obtain ⟨h1, h2, h3, _⟩ := commit_same hk;have hfl : (A.commit k).fl = A.fl ++ (A.tx k).ops := by
  rw [Bk.fl, h3];simp
 refine ⟨?_, ?_, fun x hx => ?_⟩
 ·rw [hfl, h1];refine Rep.app.2 ⟨h.rep, ?_⟩;rw [← h.C];exact ho.inv.rep k hr
 ·rw [hfl, h2, ap_app, ← h.C]
 ·rw [h3] at hx;rcases List.mem_append.1 hx with hx | hx
  ·exact Nat.le_succ_of_le (h.len x hx)
  ·rw [List.mem_singleton.1 hx];exact Nat.le_succ_of_le (ho.inv.ol k hk)
theorem Lgk.cl {f : Nat → Int} (h : A.Lgk f0 b) (ho : A.Ok b) (hc : A.Cl f B) : B.Lgk f0 (b + 1) := by
 rcases hc with ⟨_, ⟨_, rfl⟩ | ⟨_, rfl⟩⟩ | ⟨_, e, rs, hp⟩ | ⟨_, e, rs, hp⟩ | ⟨_, n, e, hp⟩ | ⟨_, e, hp⟩
 ·exact h.same rfl rfl rfl
 ·exact h.same rfl rfl rfl
 ·obtain ⟨_, h1, h2, h3, _⟩ := ho.perf hp;exact h.same h1 h2 h3
 ·obtain ⟨_, h1, h2, h3, _⟩ := ho.perf hp;exact h.same h1 h2 h3
 ·rcases hp with ⟨_, rfl, _⟩ | ⟨k, _, hk, ⟨_, rfl, _⟩ | ⟨_, rfl, _⟩ | ⟨_, rfl, _⟩ | ⟨c2, c3, c4, rfl, _⟩⟩
  ·exact h.same rfl rfl rfl
  ·exact h.same rfl rfl rfl
  ·exact h.same rfl rfl rfl
  ·exact h.same rfl rfl rfl
  ·exact h.commit ho hk (ho.inv.run hk (by have := ho.inv.st k hk; omega))
 ·rcases hp with ⟨_, rfl, _⟩ | ⟨k, _, hk, ⟨_, rfl, _⟩ | ⟨_, rfl, _⟩ | ⟨_, _, rfl, _⟩⟩
  ·exact h.same rfl rfl rfl
  ·exact h.same rfl rfl rfl
  ·exact h.same rfl rfl rfl
  ·obtain ⟨h1, h2, h3, _⟩ := abort_same hk;exact h.same h1 h2 h3
theorem fresh_lgk {n : Nat} {f : Nat → Nat} : (fresh n f).Lgk f 0 := ⟨trivial, rfl, fun x hx => by cases hx⟩
theorem Lgk.runs (h : A.Lgk f0 b) {x : Nat × List Oa} (hx : x ∈ A.log) {o : Oa} (ho : o ∈ x.2) : o.runs.length ≤ A.size := by
 obtain ⟨g, hg⟩ := h.rep.mem (o := o) (List.mem_flatten.2 ⟨x.2, List.mem_map.2 ⟨x, hx, rfl⟩, ho⟩);cases hm : o.mv with
 | true => rw [hg.no hm]; exact Nat.zero_le _
 | false =>
  rw [hg.look hm];exact Nat.le_trans (rns_le hg.rng.1 hg.rng.2) (nbd_le g A.size)
end Bk
end Go.KL
end

section
namespace Go.KL
open Go.Proofs Go.Proofs.Tryz
theorem K.mrg {W w : World} {A B : List Chunk} {D : Chunk} (h : K W A w) (p : ∀ x : Nat × Obj, ∀ (_ : DecidableEq (Nat × Obj)), A.flatten.count x = B.flatten.count x + D.count x) : K W B w := h.weak D (by
 haveI : DecidableEq (Nat × Obj) := fun a b => Classical.propDecidable (a = b);exact List.perm_iff_count.2 fun x => by rw [p x _, List.count_append])
theorem K.mrg2 {W w : World} {x c y d r N} (h : K W (x :: c :: y :: d :: r :: N) w) : K W (d :: (c ++ r) :: N) w := h.mrg (D := x ++ y) fun z _ => by
 simp only [List.flatten_cons, List.count_append];omega
theorem K.mrg3 {W w : World} {x c y d r N} (h : K W (x :: c :: y :: d :: r :: N) w) : K W (c :: y :: d :: (x ++ r) :: N) w := h.mrg (D := []) fun z _ => by
 simp only [List.flatten_cons, List.count_append, List.count_nil];omega
theorem K.mrg1 {W w : World} {d p N} (h : K W (d :: p :: N) w) : K W ((d ++ p) :: N) w := h.mrg (D := []) fun z _ => by
 simp only [List.flatten_cons, List.count_append, List.count_nil];omega
section
variable {e : TypeId} {s : Nat} {v : Value} {c p : Chunk} {rows : List (List Value)}
theorem BufR.put {i j : Nat} {x : List Value} (h : BufR e s v c rows) (hi : rows[i]? = some x) (hj : j < s) :
  ∃ (o : Own) (l : List Value), v = .slice (some ⟨o.b, 0, none⟩) rows.length o.cap ∧ c = [(o.b, row e l)] ∧ i * s + j < l.length ∧ ∀ z, BufR e s v [(o.b, row e (l.set (i * s + j) z))] (rows.set i (x.set j z)) := by
 have hil : i < rows.length := (List.getElem?_eq_some_iff.1 hi).1;have hx : x.length = s := h.len x (List.mem_of_getElem? hi);rcases h.buf.ok with ⟨h0, _⟩ | ⟨o, hv, hc, ho, hp⟩
 ·omega
 obtain ⟨b, cap, pre, rest⟩ := o;dsimp only at hp;subst hp;have hfl := flat_len h.len;have hlt : i * s + j < rows.flatten.length := by
  rw [hfl];have : (i + 1) * s ≤ rows.length * s := Nat.mul_le_mul_right s hil;rw [Nat.add_mul] at this;omega
 have hset : ∀ z, (rows.set i (x.set j z)).flatten = rows.flatten.set (i * s + j) z := fun z => by
  have hl2 : lens s (rows.set i (x.set j z)) := fun y hy => by
   rcases List.mem_or_eq_of_mem_set hy with hy | rfl
   ·exact h.len y hy
   ·rw [List.length_set, hx]
  apply List.ext_getElem?;intro n;by_cases c : n < rows.length * s
  ·have hs : 0 < s := by omega
   have h1 : n / s < rows.length := (Nat.div_lt_iff_lt_mul hs).2 c;have h2 := Nat.mod_lt n hs;have e1 : n / s * s + n % s = n := Nat.div_add_mod' n s;obtain ⟨y, hy⟩ : ∃ y, rows[n / s]? = some y := ⟨rows[n / s], by simp [h1]⟩;by_cases c2 : n / s = i
   ·have hy' : rows[n / s]? = some x := by rw [c2]; exact hi
    have hg : (rows.set i (x.set j z))[n / s]? = some (x.set j z) := by rw [c2, List.getElem?_set_self hil]
    have h3 := flat_get hl2 hg h2;have h4 := flat_get h.len hy' h2;rw [e1] at h3 h4;rw [h3];by_cases c3 : n % s = j
    ·have e2 : i * s + j = n := by rw [← c2, ← c3]; exact e1
     rw [e2, List.getElem?_set_self (by rw [hfl]; exact c), c3, List.getElem?_set_self (by omega)]
    ·have e2 : i * s + j ≠ n := fun e => c3 (by rw [← c2] at e; omega);rw [List.getElem?_set_ne e2, List.getElem?_set_ne (fun e => c3 e.symm), h4]
   ·have hg : (rows.set i (x.set j z))[n / s]? = some y := by rw [List.getElem?_set_ne (fun e => c2 e.symm)]; exact hy
    have h3 := flat_get hl2 hg h2;have h4 := flat_get h.len hy h2;rw [e1] at h3 h4;have e2 : i * s + j ≠ n := fun e => c2 (by rw [← e, Nat.mul_comm, Nat.mul_add_div hs, Nat.div_eq_of_lt hj]; omega);rw [h3, List.getElem?_set_ne e2, h4]
  ·rw [List.getElem?_eq_none (by rw [flat_len hl2, List.length_set]; omega), List.getElem?_eq_none (by rw [List.length_set, hfl]; omega)]
 refine ⟨⟨b, cap, [], rest⟩, rows.flatten ++ rest, hv, ?_, ?_, fun z => ?_⟩
 ·rw [hc]; simp
 ·rw [List.length_append]; omega
 ·refine ⟨fun y hy => ?_, ⟨.inr ⟨⟨b, cap, [], rest⟩, by rw [List.length_set]; exact hv, ?_, ?_, rfl⟩⟩⟩
  ·rcases List.mem_or_eq_of_mem_set hy with hy | rfl
   ·exact h.len y hy
   ·rw [List.length_set, hx]
  ·show [(b, row e ((rows.flatten ++ rest).set (i * s + j) z))] = [(b, row e ([] ++ (rows.set i (x.set j z)).flatten ++ rest))];rw [hset, List.set_append_left _ _ hlt, List.nil_append]
  ·rw [List.length_set];exact ⟨ho.le, ho.max, by rw [flat_len (show lens s (rows.set i (x.set j z)) from fun y hy => by
    rcases List.mem_or_eq_of_mem_set hy with hy | rfl
    ·exact h.len y hy
    ·rw [List.length_set, hx]), List.length_set], ho.room⟩
end
theorem opl_ones {p : Chunk} {os : List Ov} (h : OpsV p os) : ones (opl os) := fun x hx y hy => by
 obtain ⟨o, ho, rfl⟩ := List.mem_map.1 hx;simp only [opc, List.mem_cons, List.not_mem_nil, or_false] at hy;rcases hy with rfl | rfl | rfl | rfl | rfl | rfl
 ·rfl
 ·rfl
 ·rfl
 ·rfl
 ·rfl
 ·exact (h o ho).one
end Go.KL
end

section
namespace Go.KL
open Go.Proofs Go.Proofs.Tryz
attribute [local irreducible] SC St Fin Sq Ylds Doos Sets Enters Spec CellIs CellsAre Then Ret Rnd Chn resOK ints bools recs arr
section
variable {g : Bg} {W : World} {N : List Chunk}
abbrev lgr (ls : List Lg) : List (List Value) := ls.map fun x => [.int .i64 (x.1 : Nat), x.2.1]
structure LgV (p : Chunk) (v : Value) (ls : List Lg) : Prop where
 v : PE p v 2 (lgr ls)
 o : ∀ x ∈ ls, PE p x.2.1 6 (opl x.2.2) ∧ OpsV p x.2.2
theorem opl_get2 {os : List Ov} {i : Nat} {x : Ov} (h : os[i]? = some x) : (opl os)[i]? = some (opc x.1 x.2) := by simp [h]
theorem Log_b (hB : g.OK) (hl : g.ls.length < 1000000) (hn : ∀ x ∈ g.ls, x.2.2.length < 1000000 ∧ ∀ o ∈ x.2.2, o.1.runs.length < 1000000) : Spec prog 22 #[.pointer (some ⟨g.b, 0, none⟩)] (K W (g.L ++ N))
  (X := { x : Value × List Lg × Chunk // LgV x.2.2 x.1 x.2.1 ∧ (x.2.1.map fun y => (y.1, ops y.2.2)) = g.bk.log }) (fun x => x.1.1) (fun x => K W (x.1.2.2 :: (g.L ++ N))) := by
 have hus := usable_spec (hB.bf (C := K W (g.L ++ N)) Hs.bk);obtain ⟨f0, f1, f2, f3, f4, f5, fq, fl, fea, fer⟩ := hB.bf (C := K W (g.L ++ N)) Hs.bk;have hpp : Hs (K W (g.L ++ N)) g.p := Hs.sub (c := g.L.flatten) Hs.bk fun e he => by simp [he]
 refine enter (args := [_]) func22 rfl ntmps22 rfl ?_;refine csr (sa ?_);refine snf (c_seq (csr (sm ?_)));refine sk call52 hus fun _ => ?_;refine sy (y_notT rfl) ?_;refine snf (c_condF rfl (c_skip (f_then (csr (sa ?_)))));refine snf (c_seq (csr (sm ?_)));refine sn ?_;refine sf 5 ?_;refine sl f5 ?_;refine sy (y_lenE tab rfl (fl) rfl) ?_;refine sm ?_;refine snf (c_block ?_);refine c_loopP (α := Nat × Value × Chunk × List Lg × Chunk) (fun z => [(3, z.2.1), (14, g.lv), (15, .int .i64 (lgr g.ls).length), (16, .int .i64 (z.1 : Nat))])
  (fun z => z.1 ≤ g.ls.length ∧ BufR 58 2 z.2.1 z.2.2.1 (lgr z.2.2.2.1) ∧ (z.2.2.2.1.map fun y => (y.1, ops y.2.2)) = g.bk.log.take z.1 ∧ ∀ x ∈ z.2.2.2.1, PE z.2.2.2.2 x.2.1 6 (opl x.2.2) ∧ OpsV z.2.2.2.2 x.2.2)
  (fun z => K W (z.2.2.1 :: z.2.2.2.2 :: (g.L ++ N))) (fun z => g.ls.length - z.1) (0, .slice none 0 0, [], [], []) ⟨rfl, rfl, rfl, rfl, trivial⟩ ⟨Nat.zero_le _, .nil, rfl, fun x hx => by simp at hx⟩ (fun w h => h.addNil.addNil) ?_
 rintro ⟨i, u, d, ls, p⟩ ⟨hi, hu, hls, hP⟩;dsimp only at hi hu hls hP ⊢;have hlr : (lgr g.ls).length = g.ls.length := List.length_map _;have hbl : g.bk.log.length = g.ls.length := List.length_map _;have fl' : EV (K W (d :: p :: (g.L ++ N))) g.lv 2 (lgr g.ls) := fl.cons.cons;by_cases c1 : i < g.ls.length
 ·obtain ⟨⟨tx, ov, os⟩, hx⟩ : ∃ x, g.ls[i]? = some x := ⟨g.ls[i], by simp [c1]⟩;have hxm := List.mem_of_getElem? hx;obtain ⟨hn1, hn2⟩ := hn _ hxm;obtain ⟨hO, hR⟩ := hB.lO _ hxm;dsimp only at hn1 hn2 hO hR;have hcell := fl'.row (i := i) (x := [.int .i64 (tx : Nat), ov]) (by simp [hx]);have hov := hO.ev hpp;obtain ⟨pa, k0, rfl, _, _⟩ := hov.view;have hol : (opl os).length = os.length := List.length_map _;refine csr (sy (y_T (y_lss rfl rfl) (by omega)) ?_);refine snf (c_seq (c_condT rfl (c_skip (f_then (c_seq (c_block (csr (sy (y_ixE tab rfl rfl rfl rfl (fl') _ rfl (by omega)) ?_))))))));refine sy (y_loadA tab rfl rfl rfl rfl hcell) ?_;refine sal fun b5 => ?_;refine ss (sB 0) ?_;refine snf (csr (sf 1 ?_));refine slr 0 ?_;have hcl := cloneO (W := W) (N := [(b5, row 58 [.int .i64 (tx : Nat), .slice pa (opl os).length k0])] :: d :: p :: (g.L ++ N)) hov.cons.cons.cons (opl_ones hR) (by omega);refine sk call58 hcl fun x => ?_;obtain ⟨⟨v6, c6⟩, hB6⟩ := x;dsimp only at hB6 ⊢;obtain ⟨p6, k6, hv6, _, _⟩ := (hB6.view (C := K W (c6 :: [])) (Hs.at 0 rfl)).view;refine sa ?_;refine snf (c_seq (csr (sm ?_)));refine sy (y_lenR' tab rfl hB6 rfl) ?_;refine sm ?_;refine snf (c_block ?_);refine c_loopP (α := Nat × Chunk × List Ov × Chunk) (fun y => [(3, u), (5, .pointer (some ⟨b5, 0, none⟩)), (6, v6), (14, g.lv), (15, .int .i64 (lgr g.ls).length), (16, .int .i64 (i : Nat)), (24, .int .i64 ((opl os).length : Nat)), (25, .int .i64 (y.1 : Nat))])
   (fun y => y.1 ≤ os.length ∧ BufR 60 6 v6 y.2.1 (opl (y.2.2.1 ++ os.drop y.1)) ∧ y.2.2.1.length = y.1 ∧ ops y.2.2.1 = (ops os).take y.1 ∧ OpsV y.2.2.2 y.2.2.1 ∧ Sub p y.2.2.2)
   (fun y => K W (y.2.1 :: [(b5, row 58 [.int .i64 (tx : Nat), .slice pa (opl os).length k0])] :: d :: y.2.2.2 :: (g.L ++ N))) (fun y => os.length - y.1) (0, c6, [], p) ⟨rfl, rfl, rfl, rfl, rfl, rfl, rfl, rfl, trivial⟩ ⟨Nat.zero_le _, hB6, rfl, rfl, .nil, .refl _⟩ (fun w h => h) ?_
  clear hB6;rintro ⟨k, c7, L1, r⟩ ⟨hk, hB6, hL1, hops, hRV, hS⟩;dsimp only at hk hB6 hL1 hops hRV hS ⊢;have hll : (opl (L1 ++ os.drop k)).length = os.length := by rw [List.length_map, List.length_append, hL1, List.length_drop]; omega
  by_cases c2 : k < os.length
  ·obtain ⟨o, ho⟩ : ∃ o, os[k]? = some o := ⟨os[k], by simp [c2]⟩;have hom := List.mem_of_getElem? ho;have hdr := drop_get' ho;have hg : (opl (L1 ++ os.drop k))[k]? = some (opc o.1 o.2) := opl_get2 (by rw [hdr, List.getElem?_append_right (by omega), hL1, Nat.sub_self]; rfl);have hE6 : EV (K W (c7 :: [(b5, row 58 [.int .i64 (tx : Nat), .slice pa (opl os).length k0])] :: d :: r :: (g.L ++ N))) v6 6 (opl (L1 ++ os.drop k)) := hB6.view (Hs.at 0 rfl);have hrow := hE6.row hg;obtain ⟨w6, l6, hv, hc, hlt, hput⟩ := hB6.put (j := 5) hg (by decide);rw [hll] at hv;subst hv hc;have hrc := cloneR (W := W) (N := [(w6.b, row 60 l6)] :: [(b5, row 58 [.int .i64 (tx : Nat), .slice pa (opl os).length k0])] :: d :: r :: (g.L ++ N)) ((hR o hom).ev hpp).cons.cons.cons.cons (rnl_ones _) (by have := hn2 o hom; rw [List.length_map]; exact this);have hro := (hR o hom).one;refine csr (sy (y_T (y_lss rfl rfl) (by omega)) ?_);refine snf (c_seq (c_condT rfl (c_skip (f_then (c_seq (c_block (csr (sm ?_))))))));refine sa ?_;refine snf (c_region (sm ?_));refine sm ?_;refine sm ?_;refine sm ?_;refine sy (y_ixE tab rfl rfl rfl rfl (hE6) _ rfl (by omega)) ?_;refine sy (yF 5) ?_;refine sl (CellsAre.nth 5 (hrow) rfl) ?_;refine sk call59 hrc fun x => ?_;obtain ⟨⟨v7, c8⟩, hB7⟩ := x;dsimp only at hB7 ⊢;have hE7 := hE6.cons (d := c8);have hv1 := hB7.one;refine sy (y_ixE tab rfl rfl rfl rfl hE7 _ rfl (by omega)) ?_;refine sy (yF 5) ?_;refine ss (set_row tab 1 rfl rfl hv1 rfl rfl (by show 0 + k * 6 + 5 < l6.length; omega)) ?_;refine St.cls (C' := K W ([(w6.b, row 60 (l6.set (k * 6 + 5) v7))] :: [(b5, row 58 [.int .i64 (tx : Nat), .slice pa (opl os).length k0])] :: d :: (c8 ++ r) :: (g.L ++ N))) ?_ (fun w h => by rw [show k * 6 + 5 = 0 + k * 6 + 5 from by omega]; exact K.mrg3 h);refine s_nil (f_blockN (f_then (c_region (sy (y_add rfl rfl (by omega)) ?_))));refine sm ?_;refine s_nil ?_;refine f_roundP (k + 1, [(w6.b, row 60 (l6.set (k * 6 + 5) v7))], L1 ++ [(o.1, v7)], c8 ++ r) ⟨c2, ?_, by rw [List.length_append, hL1]; rfl, ?_, (hRV.app c8).snoc (hB7.pool r), hS.trans ⟨c8, rfl⟩⟩ (by dsimp only; omega) ⟨rfl, rfl, rfl, rfl, rfl, rfl, rfl, rfl, trivial⟩ (fun w h => h)
   ·have h7 := hput v7;refine h7.of ?_;rw [hdr];show List.set (List.map _ _) _ _ = _;rw [List.map_append, List.map_cons, List.set_append_right _ _ (by rw [List.length_map]; omega), List.length_map, hL1, Nat.sub_self, List.set_cons_zero];simp [opl, opc]
   ·show List.map _ _ = _;rw [List.map_append, show L1.map (·.1) = (ops os).take k from hops, List.take_add_one, show (ops os)[k]? = some o.1 by simp [ho]];rfl
  ·obtain rfl : k = os.length := by omega
   rw [List.drop_length, List.append_nil] at hB6;rw [List.take_of_length_le (by rw [List.length_map]; omega)] at hops;subst hv6;have hlu : (lgr ls).length < 1000000 := by
    have := congrArg List.length hls;rw [List.length_map, List.length_take] at this;rw [List.length_map];omega
   refine csr (sy (y_F (y_lss rfl rfl) (by omega)) ?_);refine snf (c_seq (c_condF rfl (c_exit (f_thenE (f_rndE (f_blockE (f_then (c_region (sm ?_)))))))));refine sf0 ?_;refine slr 1 ?_;refine sm ?_;refine sy yb ?_;refine s_do (do_buildSliceS tab ⟨rfl, rfl, rfl, rfl⟩ rfl rfl rfl rfl) rfl rfl rfl (fun b44 => ?_);refine s_do (do_appendR (by_ := 32) (news := [.int .i64 (tx : Nat), .slice p6 (opl os).length k6]) tab 3 rfl hu rfl ⟨rfl, rfl, rfl, rfl⟩ rfl (by simp) rfl (cells_row0 0 rfl rfl) rfl rfl (by omega) (by omega)) rfl rfl rfl (fun x => ?_);obtain ⟨⟨u', d'⟩, hu'⟩ := x;dsimp only at hu' ⊢;refine sa ?_;refine s_nil (f_blockN (f_then (c_region (sy (y_add rfl rfl (by omega)) ?_))));refine sm ?_;refine s_nil ?_;refine f_roundP (i + 1, u', d', ls ++ [(tx, .slice p6 (opl os).length k6, L1)], c7 ++ r) ⟨c1, hu'.of (by simp [lgr]), ?_, fun x hx => ?_⟩ (by dsimp only; omega) ⟨rfl, rfl, rfl, rfl, trivial⟩ (fun w h => K.mrg2 h)
   ·rw [List.map_append, hls, List.take_add_one, show g.bk.log[i]? = some (tx, ops os) by simp [Bg.bk, hx]];simp only [List.map_cons, List.map_nil, hops];rfl
   ·rcases List.mem_append.1 hx with hx | hx
    ·exact ⟨Sub.pe (hP x hx).1 (hS.trans ⟨c7, rfl⟩), (hP x hx).2.sub (hS.trans ⟨c7, rfl⟩)⟩
    ·rw [List.mem_singleton.1 hx];exact ⟨hB6.pool r, hRV.app c7⟩
 ·obtain rfl : i = g.ls.length := by omega
  rw [List.take_of_length_le (by omega)] at hls;refine csr (sy (y_F (y_lss rfl rfl) (by omega)) ?_);refine snf (c_seq (c_condF rfl (c_exit (f_thenE (f_rndE (f_blockE (f_then (csr (sm ?_)))))))));refine sa ?_;refine snf (c_ret ?_);exact f_ret ⟨(u, ls, d ++ p), ⟨hu.pool p, fun x hx => ⟨(hP x hx).1.app d, (hP x hx).2.app d⟩⟩, hls⟩ (res1 rfl rfl) (fun w h => K.mrg1 h)
end
end Go.KL
end

section
namespace Go.KL
open Go.Proofs Go.Proofs.Tryz
theorem Opk.swf {n : Nat} {f : Nat → Nat} {o : Oa} (h : Opk n f o) (hm : o.mv = true) : KL.swf f o.lo o.hi o.fr o.to = stp f o := by
 rw [swf_setf (h.move hm), stp, if_pos hm]
theorem K.pre {W w : World} {A B : List Chunk} (h : K W (A ++ B) w) : K W A w := h.weak B.flatten (by rw [List.flatten_append])
theorem K.pre2 {W w : World} {A B G : List Chunk} (h : K W (A ++ (B ++ G)) w) : K W (A ++ B) w := K.pre (B := G) (by rw [List.append_assoc]; exact h)
attribute [local irreducible] SC St Fin Sq Ylds Doos Sets Enters Spec CellIs CellsAre Then Ret Rnd Chn resOK ints bools recs arr
section
variable {W : World} {M G : List Chunk} {v lv : Value} {n : Nat} {f : Nat → Nat} {ls : List Lg}
end
end Go.KL
end

section
namespace Go.KL
open Relation
structure RT where
 st : Nat
 locks : List Lk
 ops : List Oa
structure RB where
 size : Nat
 C : Nat → Nat
 T : List RT
 Q : List Lk
 D : List (Nat × List Oa)
def RT.inP (t : RT) : Bool := decide (t.st = 1) || decide (t.st = 2)
def cfr (a b : Lk) : Bool := decide (a.tx ≠ b.tx) && (decide (a.lo < b.hi) && (decide (b.lo < a.hi) && (a.wr || b.wr)))
theorem cfr_cfl {a b : Lk} (ha : a.lo < a.hi) (hb : b.lo < b.hi) : cfr a b = cfl a b := by
 unfold cfr cfl;have e : decide (max a.lo b.lo < min a.hi b.hi) = (decide (a.lo < b.hi) && decide (b.lo < a.hi)) := by
  rw [← Bool.decide_and];refine decide_eq_decide.2 ⟨fun h => by omega, fun h => by omega⟩
 rw [e];cases decide (a.tx ≠ b.tx) <;> cases decide (a.lo < b.hi) <;> cases decide (b.lo < a.hi) <;> cases (a.wr || b.wr) <;> rfl
namespace RB
variable (b : RB)
def tx (k : Nat) : RT := b.T.getD (k - 1) ⟨1, [], []⟩
def has (k : Nat) : Prop := 1 ≤ k ∧ k ≤ b.T.length
instance (k : Nat) : Decidable (b.has k) := inferInstanceAs (Decidable (1 ≤ k ∧ k ≤ b.T.length))
def locks : List Lk := (b.T.filter RT.inP).flatMap RT.locks
def progress : Nat := (b.T.filter RT.inP).length
def put (k : Nat) (t : RT) : RB := { b with T := b.T.set (k - 1) t }
def free (x : Lk) (n : Nat) : Bool := (b.locks ++ b.Q.take n).all fun y => !cfr x y
def grant (x : Lk) : RB := b.put x.tx ⟨1, (b.tx x.tx).locks ++ [x], (b.tx x.tx).ops⟩
def endl (k : Nat) : List Lk → RB → RB
 | [], b => b
 | x :: l, b => if x.tx = k then endl k l b else if b.free x b.Q.length then endl k l (b.grant x) else endl k l { b with Q := b.Q ++ [x] }
def end_ (k s : Nat) : RB := endl k b.Q { b.put k ⟨s, (b.tx k).locks, (b.tx k).ops⟩ with Q := [] }
def held (u : Nat) : List Lk := if b.has u ∧ (b.tx u).inP = true then (b.tx u).locks else []
def waits (t u : Nat) : Prop := ∃ i x, b.Q[i]? = some x ∧ x.tx = t ∧ ∃ y ∈ b.held u ++ b.Q.take i, y.tx = u ∧ cfr x y = true
noncomputable instance (t u : Nat) : Decidable (b.waits t u) := Classical.propDecidable _
def E (t u : Nat) : Prop := b.has u ∧ b.waits t u
def dead (k j : Nat) : Prop := TransGen b.E k j ∧ TransGen b.E j k
def IsVic (k v : Nat) : Prop := (v = 0 ∧ ∀ j, ¬ b.dead k j) ∨ (v ≠ 0 ∧ b.dead k v ∧ ∀ j, b.dead k j → j ≤ v)
def count : Nat := b.locks.length + b.Q.length
def moves : Nat := ((b.T.filter RT.inP).map fun t => mvs t.ops).sum
def room : Nat := (4096 - nbd b.C b.size - 2 * b.moves) / 2
def done (k : Nat) (o : Oa) : RB := b.put k ⟨(b.tx k).st, (b.tx k).locks, (b.tx k).ops ++ [o]⟩
def wait (k : Nat) (l : Lk) : RB := { b.put k ⟨2, (b.tx k).locks, (b.tx k).ops⟩ with Q := b.Q ++ [l] }
def begin : RB := { b with T := b.T ++ [⟨1, [], []⟩] }
def view (k : Nat) : Nat → Nat := ap b.C (b.tx k).ops
def commit (k : Nat) : RB := end_ { b with C := b.view k, D := b.D ++ [(k, (b.tx k).ops)] } k 3
variable {b}
theorem tx_put {k j : Nat} {t : RT} (hk : b.has k) (hj : b.has j) : (b.put k t).tx j = if j = k then t else b.tx j := by
 unfold has at hk hj;unfold tx put;rw [List.getD_eq_getElem?_getD, List.getD_eq_getElem?_getD, List.getElem?_set];by_cases c : j = k
 ·subst c;rw [if_pos rfl, if_pos rfl, if_pos (by omega)];rfl
 ·rw [if_neg (by omega), if_neg c]
end RB
theorem sum_range {f : Nat → Nat} {l : List Nat} {n : Nat} (hn : l.Nodup) (hl : ∀ k ∈ l, 1 ≤ k ∧ k ≤ n) : (l.map f).sum = (((List.range n).filter fun i => decide (i + 1 ∈ l)).map fun i => f (i + 1)).sum := by
 have hp : l.Perm (((List.range n).filter fun i => decide (i + 1 ∈ l)).map fun i => i + 1) := by
  refine (List.perm_ext_iff_of_nodup hn ?_).2 fun k => ?_
  ·exact List.Pairwise.map _ (fun a b h => by omega) (List.nodup_range.filter _)
  ·simp only [List.mem_map, List.mem_filter, List.mem_range, decide_eq_true_eq];constructor
   ·intro h;have := hl k h;refine ⟨k - 1, ⟨by omega, ?_⟩, by omega⟩;rw [Nat.sub_add_cancel this.1];exact h
   ·rintro ⟨i, ⟨_, h⟩, rfl⟩;exact h
 rw [(hp.map f).sum_nat, List.map_map];rfl
structure Sm (A : Bk) (b : RB) : Prop where
 size : b.size = A.size
 C : b.C = A.C
 len : b.T.length = A.ts.length
 st : ∀ k, A.has k → (b.tx k).st = (A.tx k).st
 run : ∀ k ∈ A.rn, (b.tx k).locks = (A.tx k).locks ∧ (b.tx k).ops = (A.tx k).ops
 Q : b.Q = A.reqs
 D : b.D = A.log
namespace Sm
variable {A : Bk} {b : RB} {m : Nat}
theorem has (h : Sm A b) {k : Nat} : b.has k ↔ A.has k := by
 unfold RB.has Bk.has;rw [h.len]
theorem inP (h : Sm A b) (hI : A.Inv m) {k : Nat} (hk : A.has k) : (b.tx k).inP = true ↔ k ∈ A.rn := by
 rw [hI.rn k, RT.inP, h.st k hk];simp [hk]
theorem T_eq (b : RB) : b.T = (List.range b.T.length).map fun i => b.tx (i + 1) := by
 apply List.ext_getElem?;intro i;rw [List.getElem?_map];unfold RB.tx;by_cases c : i < b.T.length
 ·rw [List.getElem?_range c, Option.map_some, Nat.add_sub_cancel, List.getD_eq_getElem?_getD, List.getElem?_eq_getElem c];rfl
 ·rw [List.getElem?_eq_none (by omega), List.getElem?_eq_none (by simp; omega)];rfl
theorem filt (h : Sm A b) (hI : A.Inv m) : b.T.filter RT.inP = ((List.range b.T.length).filter fun i => decide (i + 1 ∈ A.rn)).map fun i => b.tx (i + 1) := by
 conv => lhs; rw [T_eq b]
 rw [List.filter_map];congr 1;apply List.filter_congr;intro i hi;have hk : A.has (i + 1) := ⟨by omega, by rw [← h.len]; have := List.mem_range.1 hi; omega⟩;have := h.inP hI hk;simp only [Function.comp];by_cases c : i + 1 ∈ A.rn
 ·rw [this.2 c, decide_eq_true c]
 ·rw [decide_eq_false c];cases e : (b.tx (i + 1)).inP with
  | true => exact absurd (this.1 e) c
  | false => rfl
theorem sum (h : Sm A b) (hI : A.Inv m) (g : RT → Nat) : ((b.T.filter RT.inP).map g).sum = (A.rn.map fun k => g (b.tx k)).sum := by
 rw [h.filt hI, List.map_map, sum_range (n := b.T.length) hI.rnd fun k hk => by have := hI.has hk; unfold Bk.has at this; rw [h.len]; exact this];rfl
theorem progress (h : Sm A b) (hI : A.Inv m) : b.progress = A.rn.length := by
 have e : ∀ {α : Type} (l : List α), (l.map fun _ => 1).sum = l.length := fun l => by
  induction l with
  | nil => rfl
  | cons a l ih => rw [List.map_cons, List.sum_cons, ih, List.length_cons, Nat.add_comm]
 have := h.sum hI fun _ => 1;rw [e, e] at this;exact this
theorem moves (h : Sm A b) (hI : A.Inv m) : b.moves = A.moves := by
 unfold RB.moves Bk.moves;rw [h.sum hI fun t => mvs t.ops];exact sum_congr fun k hk => by rw [(h.run k hk).2]
theorem count (h : Sm A b) (hI : A.Inv m) : b.count = A.count := by
 unfold RB.count Bk.count RB.locks;rw [List.length_flatMap, h.sum hI fun t => t.locks.length, h.Q, Bk.reqs, List.length_map, sum_congr fun k hk => by rw [(h.run k hk).1]]
theorem room (h : Sm A b) (hI : A.Inv m) : b.room = A.room := by
 unfold RB.room Bk.room;rw [h.moves hI, h.C, h.size]
theorem mem_locks (h : Sm A b) (hI : A.Inv m) {y : Lk} : y ∈ b.locks ↔ ∃ k ∈ A.rn, y ∈ (A.tx k).locks := by
 unfold RB.locks;rw [h.filt hI, List.mem_flatMap];constructor
 ·rintro ⟨t, ht, hy⟩;obtain ⟨i, hi, rfl⟩ := List.mem_map.1 ht;have hr : i + 1 ∈ A.rn := by simpa using (List.mem_filter.1 hi).2
  exact ⟨i + 1, hr, by rw [← (h.run _ hr).1]; exact hy⟩
 ·rintro ⟨k, hk, hy⟩;have hh := hI.has hk;unfold Bk.has at hh;refine ⟨b.tx k, List.mem_map.2 ⟨k - 1, List.mem_filter.2 ⟨List.mem_range.2 (by rw [h.len]; omega), ?_⟩, by rw [Nat.sub_add_cancel hh.1]⟩, by rw [(h.run k hk).1]; exact hy⟩;rw [Nat.sub_add_cancel hh.1];exact decide_eq_true hk
theorem free (h : Sm A b) (hI : A.Inv m) {x : Lk} (hx : x.lo < x.hi) (n : Nat) : b.free x n = A.free x (A.q.take n) := by
 have key : b.free x n = true ↔ A.free x (A.q.take n) = true := by
  unfold RB.free;rw [List.all_eq_true, Bk.free_iff];constructor
  ·intro c;refine ⟨fun k hk y hy => ?_, fun k hk => ?_⟩
   ·have := c y (List.mem_append_left _ ((h.mem_locks hI).2 ⟨k, hk, hy⟩));rw [cfr_cfl hx (hI.lk k (hI.has hk) y hy).2.1, cfl_comm] at this;simpa using this
   ·have := c (A.tx k).req (List.mem_append_right _ (by rw [h.Q, Bk.reqs, ← List.map_take]; exact List.mem_map.2 ⟨k, hk, rfl⟩));rw [cfr_cfl hx (hI.rq k (List.mem_of_mem_take hk)).2.1, cfl_comm] at this;simpa using this
  ·rintro ⟨c1, c2⟩ y hy;rcases List.mem_append.1 hy with hy | hy
   ·obtain ⟨k, hk, hy⟩ := (h.mem_locks hI).1 hy;rw [cfr_cfl hx (hI.lk k (hI.has hk) y hy).2.1, cfl_comm, c1 k hk y hy];rfl
   ·rw [h.Q, Bk.reqs, ← List.map_take] at hy;obtain ⟨k, hk, rfl⟩ := List.mem_map.1 hy;rw [cfr_cfl hx (hI.rq k (List.mem_of_mem_take hk)).2.1, cfl_comm, c2 k hk];rfl
 cases c1 : b.free x n with
 | true => exact (key.1 c1).symm
 | false =>
  cases c2 : A.free x (A.q.take n) with
  | true => rw [key.2 c2] at c1; cases c1
  | false => rfl
theorem held (h : Sm A b) (hI : A.Inv m) (u : Nat) : b.held u = if u ∈ A.rn then (A.tx u).locks else [] := by
 unfold RB.held;by_cases c : u ∈ A.rn
 ·have hh := hI.has c;rw [if_pos c, if_pos ⟨h.has.2 hh, (h.inP hI hh).2 c⟩, (h.run u c).1]
 ·rw [if_neg c, if_neg fun d => c ((h.inP hI (h.has.1 d.1)).1 d.2)]
theorem take_before {q : List Nat} {i t : Nat} (hn : q.Nodup) (hi : q[i]? = some t) : q.take i = q.takeWhile (fun j => !decide (j = t)) := by
 refine (tw_take (fun j hj e => ?_) hi).symm;have := (List.getElem?_inj (by
  rcases Nat.lt_or_ge j q.length with c | c
  ·exact c
  ·rw [List.getElem?_eq_none c] at e; cases e) hn).1 (e.trans hi.symm)
 omega
theorem E (h : Sm A b) (hI : A.Inv m) {t u : Nat} (ht : A.has t) : b.E t u ↔ A.E t u := by
 rw [Bk.E_iff];unfold RB.E RB.waits Bk.EF;constructor
 ·rintro ⟨hu, i, x, hx, rfl, y, hy, hyu, hc⟩;rw [h.Q, Bk.reqs, List.getElem?_map] at hx;obtain ⟨k, hk, rfl⟩ := Option.map_eq_some_iff.1 hx;have hkq := List.mem_of_getElem? hk;have hr := hI.rq k hkq;rw [hr.1];refine ⟨((hI.q k).1 hkq).2, ?_⟩;rcases List.mem_append.1 hy with hy | hy
  ·rw [h.held hI] at hy;split at hy
   ·rename_i c;exact .inl ⟨c, y, hy, by rw [← cfr_cfl (hI.lk u (hI.has c) y hy).2.1 hr.2.1, cfr_cfl (hI.lk u (hI.has c) y hy).2.1 hr.2.1, cfl_comm, ← cfr_cfl hr.2.1 (hI.lk u (hI.has c) y hy).2.1]; exact hc⟩
   ·simp at hy
  ·rw [h.Q, Bk.reqs, ← List.map_take] at hy;obtain ⟨j, hj, rfl⟩ := List.mem_map.1 hy;have hjq := List.mem_of_mem_take hj;have hrj := hI.rq j hjq;rw [hrj.1] at hyu;subst hyu;rw [take_before hI.qnd hk] at hj;exact .inr ⟨hj, by rw [cfl_comm, ← cfr_cfl hr.2.1 hrj.2.1]; exact hc⟩
 ·rintro ⟨hs, hE⟩;have htq : t ∈ A.q := (hI.q t).2 ⟨ht, hs⟩;have hr := hI.rq t htq;obtain ⟨i, hi, hit⟩ := List.mem_iff_getElem.1 htq;have hit' : A.q[i]? = some t := by rw [List.getElem?_eq_getElem hi, hit]
  have hQ : b.Q[i]? = some (A.tx t).req := by rw [h.Q, Bk.reqs, List.getElem?_map, hit']; rfl
  rcases hE with ⟨hu, y, hy, hc⟩ | ⟨hu, hc⟩
  ·have hl := hI.lk u (hI.has hu) y hy;refine ⟨h.has.2 (hI.has hu), i, _, hQ, hr.1, y, List.mem_append_left _ (by rw [h.held hI, if_pos hu]; exact hy), hl.1, ?_⟩;rw [cfr_cfl hr.2.1 hl.2.1, cfl_comm];exact hc
  ·have huq := (List.takeWhile_sublist _).subset hu;have hru := hI.rq u huq;refine ⟨h.has.2 (hI.qhas huq), i, _, hQ, hr.1, (A.tx u).req, List.mem_append_right _ ?_, hru.1, ?_⟩
   ·rw [h.Q, Bk.reqs, ← List.map_take, take_before hI.qnd hit'];exact List.mem_map.2 ⟨u, hu, rfl⟩
   ·rw [cfr_cfl hr.2.1 hru.2.1, cfl_comm];exact hc
theorem trans (h : Sm A b) (hI : A.Inv m) {t u : Nat} (ht : A.has t) : TransGen b.E t u ↔ TransGen A.E t u :=
 ⟨fun c => (Bk.trans_sub (H := A.has) (fun _ _ d => h.has.1 d.1) (fun _ _ hi d => (h.E hI hi).1 d) ht c).1, fun c => (Bk.trans_sub (H := A.has) (fun _ _ d => Bk.E_has hI d) (fun _ _ hi d => (h.E hI hi).2 d) ht c).1⟩
theorem dead (h : Sm A b) (hI : A.Inv m) {k j : Nat} (hk : A.has k) : b.dead k j ↔ A.dead k j := by
 unfold RB.dead Bk.dead;rw [Bk.R_iff, Bk.R_iff, h.trans hI hk];refine and_congr_right fun c => ?_;have hj : A.has j := (Bk.trans_sub (P := A.E) (Q := A.E) (H := A.has) (fun _ _ d => Bk.E_has hI d) (fun _ _ _ d => d) hk c).2;exact h.trans hI hj
theorem isVic (h : Sm A b) (hI : A.Inv m) {k v : Nat} (hk : A.has k) (hv : b.IsVic k v) : A.IsVic k v := by
 rcases hv with ⟨h1, h2⟩ | ⟨h1, h2, h3⟩
 ·exact .inl ⟨h1, fun j c => h2 j ((h.dead hI hk).2 c)⟩
 ·exact .inr ⟨h1, (h.dead hI hk).1 h2, fun j c => h3 j ((h.dead hI hk).2 c)⟩
theorem upd (h : Sm A b) (hI : A.Inv m) {k : Nat} {t : Tx} {u : RT} {q : List Nat} {W : Nat → Nat} {Q : List Lk} (hk : A.has k) (h1 : u.st = t.st) (h2 : k ∈ A.rn → u.locks = t.locks ∧ u.ops = t.ops) (hQ : Q = q.map fun j => (if j = k then t else A.tx j).req) (hq : ∀ j ∈ q, A.has j) : Sm (A.up k t q W) { b.put k u with Q := Q } := by
 have hkb := h.has.2 hk;have ha : ∀ {j}, A.has j → (A.up k t q W).tx j = if j = k then t else A.tx j := fun hj => Bk.tx_set hk hj;have hH : ∀ {j}, (A.up k t q W).has j ↔ A.has j := Bk.has_set;have hb : ∀ {j}, A.has j → (({ b.put k u with Q := Q } : RB)).tx j = if j = k then u else b.tx j := fun hj => RB.tx_put hkb (h.has.2 hj);refine ⟨h.size, h.C, by simp [RB.put, Bk.up, h.len], fun j hj => ?_, fun j hj => ?_, ?_, h.D⟩
 ·rw [ha (hH.1 hj), hb (hH.1 hj)];split
  ·exact h1
  ·exact h.st j (hH.1 hj)
 ·have hj' : j ∈ A.rn := hj;rw [ha (hI.has hj'), hb (hI.has hj')];split
  ·rename_i e;rw [e] at hj';exact h2 hj'
  ·exact h.run j hj'
 ·show Q = q.map fun j => ((A.up k t q W).tx j).req;rw [hQ];exact List.map_congr_left fun j hj => by rw [ha (hq j hj)]
end Sm
end Go.KL
end

section
namespace Go.KL
open Go.Proofs Go.Proofs.Tryz
structure Wh where
 p : Option Addr
 c : Nat
structure Dt where
 st : Nat
 locks : List Lk
 os : List Ov
 l : Wh
 o : Wh
abbrev Dt.lv (t : Dt) : Value := .slice t.l.p (lks t.locks).length t.l.c
abbrev Dt.ov (t : Dt) : Value := .slice t.o.p (opl t.os).length t.o.c
abbrev Dt.cells (t : Dt) : List Value := [.int .i64 (t.st : Nat), t.lv, t.ov]
abbrev Dt.rt (t : Dt) : RT := ⟨t.st, t.locks, ops t.os⟩
abbrev dtl (ts : List Dt) : List (List Value) := ts.map Dt.cells
structure Rg where
 size : Nat
 C : Nat → Nat
 m : Wh
 ts : List Dt
 t : Wh
 Q : List Lk
 q : Wh
 ds : List Lg
 d : Wh
namespace Rg
variable (g : Rg)
abbrev mv : Value := .slice g.m.p (rnl (rns g.C 0 g.size)).length g.m.c
abbrev tv : Value := .slice g.t.p (dtl g.ts).length g.t.c
abbrev qv : Value := .slice g.q.p (lks g.Q).length g.q.c
abbrev dv : Value := .slice g.d.p (lgr g.ds).length g.d.c
abbrev cells : List Value := [.int .i64 (g.size : Nat), g.mv, g.tv, g.qv, g.dv]
abbrev val : Value := .agg #[.int .i64 (g.size : Nat), g.mv, g.tv, g.qv, g.dv]
def rb : RB := ⟨g.size, g.C, g.ts.map Dt.rt, g.Q, g.ds.map fun x => (x.1, ops x.2.2)⟩
end Rg
structure DtV (C : World → Prop) (t : Dt) : Prop where
 l : EV C t.lv 4 (lks t.locks)
 o : EV C t.ov 6 (opl t.os)
 r : ∀ o ∈ t.os, EV C o.2 3 (rnl o.1.runs)
structure RV (C : World → Prop) (g : Rg) : Prop where
 m : RMp C g.mv g.size g.C
 t : EV C g.tv 3 (dtl g.ts)
 tx : ∀ t ∈ g.ts, DtV C t
 q : EV C g.qv 4 (lks g.Q)
 d : EV C g.dv 2 (lgr g.ds)
 dx : ∀ x ∈ g.ds, EV C x.2.1 6 (opl x.2.2) ∧ ∀ o ∈ x.2.2, EV C o.2 3 (rnl o.1.runs)
 n : g.ts.length < 1000000
theorem DtV.cls {C D : World → Prop} {t : Dt} (h : DtV C t) (hD : ∀ w, D w → C w) : DtV D t := ⟨h.l.cls hD, h.o.cls hD, fun o ho => (h.r o ho).cls hD⟩
theorem RV.cls {C D : World → Prop} {g : Rg} (h : RV C g) (hD : ∀ w, D w → C w) : RV D g := ⟨h.m.cls hD, h.t.cls hD, fun t ht => (h.tx t ht).cls hD, h.q.cls hD, h.d.cls hD, fun x hx => ⟨(h.dx x hx).1.cls hD, fun o ho => ((h.dx x hx).2 o ho).cls hD⟩, h.n⟩
theorem RV.cons {W : World} {N : List Chunk} {c : Chunk} {g : Rg} (h : RV (K W N) g) : RV (K W (c :: N)) g := h.cls fun _ h => h.tail
attribute [local irreducible] SC St Fin Sq Ylds Doos Sets Enters Spec CellIs CellsAre Then Ret Rnd Chn resOK ints bools recs arr
section
variable {W : World} {N : List Chunk} {g : Rg}
theorem In_spec {t : Dt} : Spec prog 54 #[.agg #[.int .i64 (t.st : Nat), t.lv, t.ov]] (K W N) (fun _ : Unit => .bool t.rt.inP) (fun _ => K W N) := by
 refine enter (args := [_]) func54 rfl ntmps54 rfl ?_;by_cases c1 : t.st = 1
 ·rw [show t.rt.inP = true by simp [RT.inP, c1]];refine csr (sbx fun b1 => ?_);refine sa ?_;refine snf (csr (sf0 ?_));refine slr 0 ?_;refine sy (y_T (y_eql rfl rfl) (by omega)) ?_;refine sm ?_
  iterate 3 refine s_skip rfl rfl rfl ?_
  refine spT ?_;refine sa ?_;refine snf (c_ret ?_);exact f_ret () (res1 rfl rfl) (fun w h => h.tail)
 ·by_cases c2 : t.st = 2
  ·rw [show t.rt.inP = true by simp [RT.inP, c2]];refine csr (sbx fun b1 => ?_);refine sa ?_;refine snf (csr (sf0 ?_));refine slr 0 ?_;refine sy (y_F (y_eql rfl rfl) (by omega)) ?_;refine sm ?_;refine sf0 ?_;refine slr 0 ?_;refine sy (y_T (y_eql rfl rfl) (by omega)) ?_;refine spF ?_;refine sa ?_;refine snf (c_ret ?_);exact f_ret () (res1 rfl rfl) (fun w h => h.tail)
  ·rw [show t.rt.inP = false by simp [RT.inP, c1, c2]];refine csr (sbx fun b1 => ?_);refine sa ?_;refine snf (csr (sf0 ?_));refine slr 0 ?_;refine sy (y_F (y_eql rfl rfl) (by omega)) ?_;refine sm ?_;refine sf0 ?_;refine slr 0 ?_;refine sy (y_F (y_eql rfl rfl) (by omega)) ?_;refine spF ?_;refine sa ?_;refine snf (c_ret ?_);exact f_ret () (res1 rfl rfl) (fun w h => h.tail)
theorem Is_spec (_ : RV (K W N) g) {k : Int} : Spec prog 88 #[g.val, .int .i64 k] (K W N) (fun _ : Unit => .bool (decide (1 ≤ k ∧ k ≤ g.ts.length))) (fun _ => K W N) := by
 have hl : (dtl g.ts).length = g.ts.length := List.length_map _;refine enter (args := [_, _]) func88 rfl ntmps88 rfl ?_;by_cases c1 : 1 ≤ k
 ·by_cases c2 : k ≤ g.ts.length
  ·rw [decide_eq_true (show 1 ≤ k ∧ k ≤ g.ts.length from ⟨c1, c2⟩)];refine csr (sbx fun b2 => ?_);refine sa ?_;refine snf (csr (sm ?_));refine sy (y_T (y_geq rfl rfl) (by assumption)) ?_;refine sm ?_;refine sm ?_;refine sf 2 ?_;refine slr 0 ?_;refine sy (y_len tab rfl rfl) ?_;refine sy (y_T (y_leq rfl rfl) (by omega)) ?_;refine spT ?_;refine sa ?_;refine snf (c_ret ?_);exact f_ret () (res1 rfl rfl) (fun w h => h.tail)
  ·rw [decide_eq_false (show ¬ (1 ≤ k ∧ k ≤ g.ts.length) from fun h => c2 h.2)];refine csr (sbx fun b2 => ?_);refine sa ?_;refine snf (csr (sm ?_));refine sy (y_T (y_geq rfl rfl) (by assumption)) ?_;refine sm ?_;refine sm ?_;refine sf 2 ?_;refine slr 0 ?_;refine sy (y_len tab rfl rfl) ?_;refine sy (y_F (y_leq rfl rfl) (by omega)) ?_;refine spT ?_;refine sa ?_;refine snf (c_ret ?_);exact f_ret () (res1 rfl rfl) (fun w h => h.tail)
 ·rw [decide_eq_false (show ¬ (1 ≤ k ∧ k ≤ g.ts.length) from fun h => c1 h.1)];refine csr (sbx fun b2 => ?_);refine sa ?_;refine snf (csr (sm ?_));refine sy (y_F (y_geq rfl rfl) (by assumption)) ?_;refine sm ?_
  iterate 5 refine s_skip rfl rfl rfl ?_
  refine spF ?_;refine sa ?_;refine snf (c_ret ?_);exact f_ret () (res1 rfl rfl) (fun w h => h.tail)
theorem rb_has {k : Nat} : g.rb.has k ↔ 1 ≤ k ∧ k ≤ g.ts.length := by simp [RB.has, Rg.rb]
theorem rb_tx {k : Nat} {t : Dt} (h : g.ts[k - 1]? = some t) : g.rb.tx k = t.rt := by simp [RB.tx, Rg.rb, h]
def _root_.Go.KL.RB.stI (b : RB) (k : Int) : Nat := if 1 ≤ k ∧ k ≤ b.T.length then (b.tx k.toNat).st else 0
theorem RState_spec (hV : RV (K W N) g) {k : Int} : Spec prog 55 #[g.val, .int .i64 k] (K W N) (fun _ : Unit => .int .i64 (g.rb.stI k : Nat)) (fun _ => K W N) := by
 have hl : (dtl g.ts).length = g.ts.length := List.length_map _;have hn := hV.n;refine enter (args := [_, _]) func55 rfl ntmps55 rfl ?_;by_cases c : 1 ≤ k ∧ k ≤ g.ts.length
 ·obtain ⟨j, rfl⟩ : ∃ j : Nat, k = j := ⟨k.toNat, by omega⟩;obtain ⟨t, ht⟩ : ∃ t, g.ts[j - 1]? = some t := ⟨g.ts[j - 1], List.getElem?_eq_getElem (by omega)⟩;have e : g.rb.stI j = t.st := by
   rw [RB.stI, if_pos (by simp only [Rg.rb, List.length_map]; exact c), Int.toNat_natCast, rb_tx ht]
  rw [e];refine csr (sbx fun b2 => ?_);refine sa ?_;refine snf (c_seq (csr (sy (y_loadA tab rfl rfl rfl rfl (cells_row0 0 rfl rfl)) ?_)));refine sm ?_;refine sk call88 (Is_spec hV.cons) fun _ => ?_;rw [decide_eq_true c];have hE : EV (K W ([(b2, row 42 g.cells)] :: N)) g.tv 3 (dtl g.ts) := hV.t.cons;obtain ⟨jx, hjx⟩ : ∃ jx, jx = j - 1 := ⟨_, rfl⟩;have hrow := hE.row (i := jx) (x := t.cells) (by simp [hjx, ht]);refine sy (y_notT rfl) ?_;refine snf (c_condF rfl (c_skip (f_then (csr (sf 2 ?_)))));refine slr 0 ?_;refine sm ?_;refine sy (y_sub rfl rfl (by omega)) ?_;refine sy (y_ixE tab rfl rfl rfl rfl (hE) jx (by omega) (by omega)) ?_;refine sf0 ?_;refine sl (CellsAre.at0 (hrow) rfl) ?_;refine sa ?_;refine snf (c_ret ?_);exact f_ret () (res1 rfl rfl) (fun w h => h.tail)
 ·have e : g.rb.stI k = 0 := by
   rw [RB.stI, if_neg (by simp only [Rg.rb, List.length_map]; exact c)]
  rw [e];refine csr (sbx fun b2 => ?_);refine sa ?_;refine snf (c_seq (csr (sy (y_loadA tab rfl rfl rfl rfl (cells_row0 0 rfl rfl)) ?_)));refine sm ?_;refine sk call88 (Is_spec hV.cons) fun _ => ?_;rw [decide_eq_false c];refine sy (y_notF rfl) ?_;refine snf (c_condT rfl (csr (sa ?_)));refine snf (c_ret (f_thenR ?_));exact f_ret () (res1 rfl rfl) (fun w h => h.tail)
theorem RHeld_spec (hV : RV (K W N) g) {k : Nat} : Spec prog 57 #[g.val, .int .i64 (k : Nat)] (K W N) (X := { x : Value // EV (K W N) x 4 (lks (g.rb.held k)) }) (fun x => x.1) (fun _ => K W N) := by
 have hl : (dtl g.ts).length = g.ts.length := List.length_map _;have hn := hV.n;refine enter (args := [_, _]) func57 rfl ntmps57 rfl ?_;by_cases c : 1 ≤ k ∧ k ≤ g.ts.length
 ·obtain ⟨t, ht⟩ : ∃ t, g.ts[k - 1]? = some t := ⟨g.ts[k - 1], List.getElem?_eq_getElem (by omega)⟩;have htx := rb_tx ht;obtain ⟨jx, hjx⟩ : ∃ jx, jx = k - 1 := ⟨_, rfl⟩;refine csr (sbx fun b2 => ?_);refine sa ?_;refine snf (c_seq (csr (sy (y_loadA tab rfl rfl rfl rfl (cells_row0 0 rfl rfl)) ?_)));refine sm ?_;refine sk call88 (Is_spec hV.cons) fun _ => ?_;rw [decide_eq_true (show 1 ≤ (k : Int) ∧ (k : Int) ≤ g.ts.length from by omega)];have hE : EV (K W ([(b2, row 42 g.cells)] :: N)) g.tv 3 (dtl g.ts) := hV.t.cons;have hrow := hE.row (i := jx) (x := t.cells) (by simp [hjx, ht]);refine sy (y_notT rfl) ?_;refine sm ?_;refine sf 2 ?_;refine slr 0 ?_;refine sm ?_;refine sy (y_sub rfl rfl (by omega)) ?_;refine sy (y_ixE tab rfl rfl rfl rfl (hE) jx (by omega) (by omega)) ?_;refine sy (y_loadA tab rfl rfl rfl rfl hrow) ?_;refine sk call54 (In_spec (t := t)) fun _ => ?_;cases hp : t.rt.inP with
  | false =>
   have e : g.rb.held k = [] := by
    rw [RB.held, if_neg (by rw [htx, hp]; simp)]
   refine sy (y_notF rfl) ?_;refine spF ?_;refine snf (c_condT rfl (csr (sa ?_)));refine snf (c_ret (f_thenR ?_));exact f_ret ⟨_, by rw [e]; exact EV.empty⟩ (res1 rfl rfl) (fun w h => h.tail)
  | true =>
   have e : g.rb.held k = t.locks := by
    rw [RB.held, if_pos ⟨rb_has.2 c, by rw [htx]; exact hp⟩, htx]
   refine sy (y_notT rfl) ?_;refine spF ?_;refine snf (c_condF rfl (c_skip (f_then (csr (sf 2 ?_)))));refine slr 0 ?_;refine sm ?_;refine sy (y_sub rfl rfl (by omega)) ?_;refine sy (y_ixE tab rfl rfl rfl rfl (hE) jx (by omega) (by omega)) ?_;refine sy (yF 1) ?_;refine sl (CellsAre.nth 1 (hrow) rfl) ?_;refine sa ?_;refine snf (c_ret ?_);exact f_ret ⟨t.lv, by rw [e]; exact (hV.tx t (List.mem_of_getElem? ht)).l⟩ (res1 rfl rfl) (fun w h => h.tail)
 ·have e : g.rb.held k = [] := by
   rw [RB.held, if_neg (fun h => c (rb_has.1 h.1))]
  refine csr (sbx fun b2 => ?_);refine sa ?_;refine snf (c_seq (csr (sy (y_loadA tab rfl rfl rfl rfl (cells_row0 0 rfl rfl)) ?_)));refine sm ?_;refine sk call88 (Is_spec hV.cons) fun _ => ?_;rw [decide_eq_false (show ¬ (1 ≤ (k : Int) ∧ (k : Int) ≤ g.ts.length) from by omega)];refine sy (y_notF rfl) ?_;refine sm ?_
  iterate 8 refine s_skip rfl rfl rfl ?_
  refine spT ?_;refine snf (c_condT rfl (csr (sa ?_)));refine snf (c_ret (f_thenR ?_));exact f_ret ⟨_, by rw [e]; exact EV.empty⟩ (res1 rfl rfl) (fun w h => h.tail)
theorem Progress_spec (hV : RV (K W N) g) : Spec prog 82 #[g.val] (K W N) (fun _ : Unit => .int .i64 (g.rb.progress : Nat)) (fun _ => K W N) := by
 have hl : (dtl g.ts).length = g.ts.length := List.length_map _;have hn := hV.n;refine enter (args := [_]) func82 rfl ntmps82 rfl ?_;refine csr (sbx fun b1 => ?_);refine sa ?_;refine snf (csr (sa ?_));refine snf (c_seq (csr (sa ?_)));refine snf (c_block ?_);have hE : EV (K W ([(b1, row 42 g.cells)] :: N)) g.tv 3 (dtl g.ts) := hV.t.cons;refine c_loopP (α := Nat) (fun z => [(1, .pointer (some ⟨b1, 0, none⟩)), (3, .int .i64 (((g.ts.take z).filter fun t => t.rt.inP).length : Nat)), (4, .int .i64 (z : Nat))]) (fun z => z ≤ g.ts.length) (fun _ => K W ([(b1, row 42 g.cells)] :: N)) (fun z => g.ts.length - z) 0 ⟨rfl, rfl, rfl, trivial⟩ (Nat.zero_le _) (fun w h => h) ?_;rintro z hz;by_cases c : z < g.ts.length
 ·obtain ⟨t, ht⟩ : ∃ t, g.ts[z]? = some t := ⟨g.ts[z], List.getElem?_eq_getElem c⟩;have hrow := hE.row (i := z) (x := t.cells) (by simp [ht]);have hle : ((g.ts.take z).filter fun t => t.rt.inP).length ≤ z := Nat.le_trans (List.length_filter_le _ _) (by rw [List.length_take]; omega);have htk : (g.ts.take (z + 1)).filter (fun t => t.rt.inP) = (g.ts.take z).filter (fun t => t.rt.inP) ++ (if t.rt.inP then [t] else []) := by
   rw [List.take_add_one, ht];simp [List.filter_append, List.filter_cons]
  refine c_seq (csr (sm ?_));refine sf 2 ?_;refine slr 0 ?_;refine sy (y_lenE tab rfl (hE) rfl) ?_;refine sy (y_T (y_lss rfl rfl) (by omega)) ?_;refine snf (c_condT rfl (c_skip (f_then (c_seq (c_block (csr (sf 2 ?_)))))));refine slr 0 ?_;refine sm ?_;refine sy (y_ixE tab rfl rfl rfl rfl (hE) _ rfl (by omega)) ?_;refine sy (y_loadA tab rfl rfl rfl rfl hrow) ?_;refine sk call54 (In_spec (t := t)) fun _ => ?_;cases hp : t.rt.inP with
  | false =>
   rw [hp] at htk;have e2 : ((g.ts.take (z + 1)).filter fun t => t.rt.inP).length = ((g.ts.take z).filter fun t => t.rt.inP).length := by rw [htk]; simp
   refine snf (c_condF rfl (c_skip (f_blockN (f_then (c_region (sm ?_))))));refine sy (y_add rfl rfl (by omega)) ?_;refine sa ?_;refine s_nil ?_;exact f_roundP (z + 1) c (by omega) ⟨rfl, by rw [e2]; rfl, rfl, trivial⟩ (fun w h => h)
  | true =>
   rw [hp] at htk;have e2 : ((g.ts.take (z + 1)).filter fun t => t.rt.inP).length = ((g.ts.take z).filter fun t => t.rt.inP).length + 1 := by rw [htk]; simp
   refine snf (c_condT rfl (c_region (sm ?_)));refine sy (y_add rfl rfl (by omega)) ?_;refine sa ?_;refine s_nil (f_blockN (f_then (c_region (sm ?_))));refine sy (y_add rfl rfl (by omega)) ?_;refine sa ?_;refine s_nil ?_;exact f_roundP (z + 1) c (by omega) ⟨rfl, by rw [e2]; rfl, rfl, trivial⟩ (fun w h => h)
 ·obtain rfl : z = g.ts.length := by omega
  have e : ((g.ts.take g.ts.length).filter fun t => t.rt.inP).length = g.rb.progress := by
   rw [List.take_length, RB.progress, Rg.rb];simp [List.filter_map, Function.comp_def]
  rw [e];refine c_seq (csr (sm ?_));refine sf 2 ?_;refine slr 0 ?_;refine sy (y_lenE tab rfl (hE) rfl) ?_;refine sy (y_F (y_lss rfl rfl) (by omega)) ?_;refine snf (c_condF rfl (c_exit (f_thenE (f_rndE (f_blockE (f_then (csr (sm ?_))))))));refine sa ?_;refine snf (c_ret ?_);exact f_ret () (res1 rfl rfl) (fun w h => h.tail)
def _root_.Go.KL.RB.ref (b : RB) (k : Int) (w : Bool) : Nat := if b.stI k = 0 then 80 else if b.stI k = 4 then 81 else if b.stI k = 3 then 82 else if b.stI k = 2 ∧ w = true then 83 else 0
theorem refused_spec (hV : RV (K W N) g) {k : Int} {wt : Bool} (h5 : g.rb.stI k < 5) : Spec prog 83 #[g.val, .int .i64 k, .bool wt] (K W N) (fun _ : Unit => .int .i64 (g.rb.ref k wt : Nat)) (fun _ => K W N) := by
 obtain ⟨s, hs⟩ : ∃ s, g.rb.stI k = s := ⟨_, rfl⟩;rw [RB.ref, hs];rw [hs] at h5;refine enter (args := [_, _, _]) func83 rfl ntmps83 rfl ?_;refine csr (sbx fun b3 => ?_);refine sa ?_;refine snf (c_seq (csr (sy (y_loadA tab rfl rfl rfl rfl (cells_row0 0 rfl rfl)) ?_)));refine sm ?_;refine sk call55 (RState_spec hV.cons) fun _ => ?_;rw [hs];clear hs;rcases (show s = 0 ∨ s = 1 ∨ s = 2 ∨ s = 3 ∨ s = 4 from by omega) with rfl | rfl | rfl | rfl | rfl
 ·refine snf (c_block (csr (sy (y_T (y_eql rfl rfl) (by omega)) ?_)));refine sa ?_;refine snf (c_condT rfl (csr (sa ?_)));refine snf (c_ret (f_blockR (f_thenR ?_)));exact f_ret () (res1 rfl rfl) (fun w h => h.tail)
 ·refine snf (c_block (csr (sy (y_F (y_eql rfl rfl) (by omega)) ?_)));refine sa ?_;refine snf (c_condF rfl (csr (sy (y_F (y_eql rfl rfl) (by omega)) ?_)));refine sa ?_;refine snf (c_condF rfl (csr (sy (y_F (y_eql rfl rfl) (by omega)) ?_)));refine sa ?_;refine snf (c_condF rfl (csr (sy (y_F (y_eql rfl rfl) (by omega)) ?_)));refine sa ?_;refine snf (c_condF rfl (c_skip (f_blockN (f_then (csr (sa ?_))))));refine snf (c_ret ?_);exact f_ret () (res1 rfl rfl) (fun w h => h.tail)
 ·cases wt with
  | true =>
   refine snf (c_block (csr (sy (y_F (y_eql rfl rfl) (by omega)) ?_)));refine sa ?_;refine snf (c_condF rfl (csr (sy (y_F (y_eql rfl rfl) (by omega)) ?_)));refine sa ?_;refine snf (c_condF rfl (csr (sy (y_F (y_eql rfl rfl) (by omega)) ?_)));refine sa ?_;refine snf (c_condF rfl (csr (sy (y_T (y_eql rfl rfl) (by omega)) ?_)));refine sa ?_;refine snf (c_condT rfl (csr (sm ?_)));refine snf (c_condT rfl (csr (sa ?_)));refine snf (c_ret (f_blockR (f_thenR ?_)));exact f_ret () (res1 rfl rfl) (fun w h => h.tail)
  | false =>
   refine snf (c_block (csr (sy (y_F (y_eql rfl rfl) (by omega)) ?_)));refine sa ?_;refine snf (c_condF rfl (csr (sy (y_F (y_eql rfl rfl) (by omega)) ?_)));refine sa ?_;refine snf (c_condF rfl (csr (sy (y_F (y_eql rfl rfl) (by omega)) ?_)));refine sa ?_;refine snf (c_condF rfl (csr (sy (y_T (y_eql rfl rfl) (by omega)) ?_)));refine sa ?_;refine snf (c_condT rfl (csr (sm ?_)));refine snf (c_condF rfl (c_skip (f_blockN (f_then (csr (sa ?_))))));refine snf (c_ret ?_);exact f_ret () (res1 rfl rfl) (fun w h => h.tail)
 ·refine snf (c_block (csr (sy (y_F (y_eql rfl rfl) (by omega)) ?_)));refine sa ?_;refine snf (c_condF rfl (csr (sy (y_F (y_eql rfl rfl) (by omega)) ?_)));refine sa ?_;refine snf (c_condF rfl (csr (sy (y_T (y_eql rfl rfl) (by omega)) ?_)));refine sa ?_;refine snf (c_condT rfl (csr (sa ?_)));refine snf (c_ret (f_blockR (f_thenR ?_)));exact f_ret () (res1 rfl rfl) (fun w h => h.tail)
 ·refine snf (c_block (csr (sy (y_F (y_eql rfl rfl) (by omega)) ?_)));refine sa ?_;refine snf (c_condF rfl (csr (sy (y_T (y_eql rfl rfl) (by omega)) ?_)));refine sa ?_;refine snf (c_condT rfl (csr (sa ?_)));refine snf (c_ret (f_blockR (f_thenR ?_)));exact f_ret () (res1 rfl rfl) (fun w h => h.tail)
end
end Go.KL
end

section
namespace Go.KL
open Go.Proofs Go.Proofs.Tryz
theorem lkc_inj {x y : Lk} (h : lkc x = lkc y) : x = y := by
 obtain ⟨a, b, c, d⟩ := x;obtain ⟨a', b', c', d'⟩ := y;simp [lkc] at h;obtain ⟨h1, h2, h3, h4⟩ := h;obtain rfl : a = a' := by omega
 obtain rfl : b = b' := by omega
 obtain rfl : c = c' := by omega
 subst h4;rfl
theorem K.rotV {W w : World} {c x a b N} (h : K W (c :: x :: a :: b :: N) w) : K W (x :: a :: b :: c :: N) w := h.mrg (D := []) fun z _ => by
 simp only [List.flatten_cons, List.count_append, List.count_nil];omega
attribute [local irreducible] SC St Fin Sq Ylds Doos Sets Enters Spec CellIs CellsAre Then Ret Rnd Chn resOK ints bools recs arr
section
variable {W : World} {N G : List Chunk} {g : Rg}
theorem SameLocks_spec {a b : Value} {A B : List Lk} (hA : EV (K W N) a 4 (lks A)) (hB : EV (K W N) b 4 (lks B)) (hl : A.length < 1000000) : Spec prog 56 #[a, b] (K W N) (fun _ : Unit => .bool (decide (A = B))) (fun _ => K W N) := by
 have hA2 := hA.view;have hB2 := hB.view;have eA : (lks A).length = A.length := List.length_map _;have eB : (lks B).length = B.length := List.length_map _;refine enter (args := [_, _]) func56 rfl ntmps56 rfl ?_;by_cases c : A.length = B.length
 ·refine csr (sa ?_);refine snf (c_seq (csr (sm ?_)));refine sy (y_lenE tab rfl (hA) rfl) ?_;refine sm ?_;refine sy (y_lenE tab rfl (hB) rfl) ?_;refine sy (y_F (y_neq rfl rfl) (by omega)) ?_;refine snf (c_condF rfl (c_skip (f_then (c_seq (csr (sa ?_))))));refine snf (c_block (c_loopP (α := Nat) (fun z => [(0, a), (1, b), (5, .int .i64 (z : Nat))]) (fun z => z ≤ A.length ∧ A.take z = B.take z) (fun _ => K W N) (fun z => A.length - z) 0 ⟨rfl, rfl, rfl, trivial⟩ ⟨Nat.zero_le _, rfl⟩ (fun w h => h) ?_));rintro z ⟨hz, ht⟩;by_cases c1 : z < A.length
  ·obtain ⟨x, hx⟩ : ∃ x, A[z]? = some x := ⟨A[z], List.getElem?_eq_getElem c1⟩;obtain ⟨y, hy⟩ : ∃ y, B[z]? = some y := ⟨B[z], List.getElem?_eq_getElem (by omega)⟩;have hrx := hA.row (lks_get hx);have hry := hB.row (lks_get hy);refine c_seq (csr (sm ?_));refine sm ?_;refine sy (y_lenE tab rfl (hA) rfl) ?_;refine sy (y_T (y_lss rfl rfl) (by omega)) ?_;refine snf (c_condT rfl (c_skip (f_then (c_seq (c_block (c_seq (c_quiet mixed (by kernel_rfl) K.drew ?_)))))));refine q_y (y_move rfl) rfl rfl rfl ?_;refine q_y (y_move rfl) rfl rfl rfl ?_;refine q_y (y_ixE tab rfl rfl rfl rfl (hA) _ rfl (by omega)) rfl rfl rfl ?_;refine q_y (y_loadA tab rfl rfl rfl rfl hrx) rfl rfl rfl ?_;refine q_y (y_move rfl) rfl rfl rfl ?_;refine q_y (y_move rfl) rfl rfl rfl ?_;refine q_y (y_ixE tab rfl rfl rfl rfl (hB) _ rfl (by omega)) rfl rfl rfl ?_;refine q_y (y_loadA tab rfl rfl rfl rfl hry) rfl rfl rfl ?_;refine q_y (y_neqS tab rfl rfl rfl (by kernel_rfl) (by kernel_rfl) rfl rfl) rfl rfl rfl ?_;refine q_nil (f_then ?_);have e1 : A.take (z + 1) = A.take z ++ [x] := by rw [List.take_add_one, hx]; rfl
   have e2 : B.take (z + 1) = B.take z ++ [y] := by rw [List.take_add_one, hy]; rfl
   by_cases e : x = y
   ·rw [show ∀ i : Decidable (lkc x ≠ lkc y), @decide _ i = false from fun i => @decide_eq_false _ i fun h => h (by rw [e])];refine c_condF rfl (c_skip (f_blockN (f_then (c_region (sm ?_)))));refine sy (y_add rfl rfl (by omega)) ?_;refine sa ?_;refine s_nil ?_;exact f_roundP (z + 1) ⟨c1, by rw [e1, e2, ht, e]⟩ (by omega) ⟨rfl, rfl, rfl, trivial⟩ (fun w h => h)
   ·rw [show ∀ i : Decidable (lkc x ≠ lkc y), @decide _ i = true from fun i => @decide_eq_true _ i fun h => e (lkc_inj h), decide_eq_false (show ¬ A = B from fun h => e (by rw [h, hy] at hx; exact (Option.some.inj hx).symm))];refine c_condT rfl (csr (sa ?_));refine snf (c_ret (f_blockR (f_thenR (f_rndR (f_blockR (f_thenR ?_))))));exact f_ret () (res1 rfl rfl) (fun w h => h)
  ·obtain rfl : z = A.length := by omega
   have e : A = B := by
    rw [List.take_length, List.take_of_length_le (by omega)] at ht;exact ht
   rw [decide_eq_true e];refine c_seq (csr (sm ?_));refine sm ?_;refine sy (y_lenE tab rfl (hA) rfl) ?_;refine sy (y_F (y_lss rfl rfl) (by omega)) ?_;refine snf (c_condF rfl (c_exit (f_thenE (f_rndE (f_blockE (f_then (csr (sa ?_))))))));refine snf (c_ret ?_);exact f_ret () (res1 rfl rfl) (fun w h => h)
 ·rw [decide_eq_false (fun e => c (by rw [e]))];refine csr (sa ?_);refine snf (c_seq (csr (sm ?_)));refine sy (y_lenE tab rfl (hA) rfl) ?_;refine sm ?_;refine sy (y_lenE tab rfl (hB) rfl) ?_;refine sy (y_T (y_neq rfl rfl) (by omega)) ?_;refine snf (c_condT rfl (csr (sa ?_)));refine snf (c_ret (f_thenR ?_));exact f_ret () (res1 rfl rfl) (fun w h => h)
theorem map_cells {b : Nat} {Ls : List Chunk} (i : Nat) (hi : Ls.getD i [] = [(b, row 42 g.cells)]) : CellsAre (K W Ls) ⟨b, 0, none⟩ [.int .i64 (g.size : Nat), g.mv] := cells_row i hi fun j hj => by
 have : j < 2 := hj;rcases (show j = 0 ∨ j = 1 by omega) with rfl | rfl <;> rfl
theorem stp_eq {f : Nat → Nat} {o : Oa} (h : o.mv = false) : stp f o = f := by rw [stp, if_neg (by rw [h]; decide)]
theorem View_spec (hV : RV (K W N) g) {k : Nat} {t : Dt} (hk : 1 ≤ k ∧ k ≤ g.ts.length) (ht : g.ts[k - 1]? = some t) (hR : Rep g.size g.C (ops t.os)) (hnb : ∀ i, nbd (ap g.C ((ops t.os).take i)) g.size ≤ 4096) (hl : t.os.length < 1000000) :
  Spec prog 85 #[g.val, .int .i64 (k : Nat)] (K W (N ++ G)) (X := { x : Value × List Chunk // RMp (K W (x.2 ++ N)) x.1 g.size (ap g.C (ops t.os)) }) (fun x => .agg #[.int .i64 (g.size : Nat), x.1.1]) (fun x => K W (x.1.2 ++ (N ++ G))) := by
 have hdl : (dtl g.ts).length = g.ts.length := List.length_map _;have hn := hV.n;have hol : (opl t.os).length = t.os.length := List.length_map _;have hM := hV.m;have htm := List.mem_of_getElem? ht;obtain ⟨jx, hjx⟩ : ∃ jx, jx = k - 1 := ⟨_, rfl⟩;rw [← hjx] at ht;refine enter (args := [_, _]) func85 rfl ntmps85 rfl ?_;refine csr (sbx fun b2 => ?_);refine sal fun b4 => ?_;refine snf (csr (sf0 ?_));have hc2 : CellsAre (K W ([(b4, row 37 [.int .i64 0, .slice none 0 0])] :: [(b2, row 42 g.cells)] :: (N ++ G))) ⟨b2, 0, none⟩ [.int .i64 (g.size : Nat), g.mv] := map_cells 1 rfl;refine sy (y_loadA tab rfl rfl rfl rfl hc2) ?_;refine sal fun b5 => ?_;refine ss (sB 0) ?_;refine snf (c_seq (csr (sa ?_)));refine snf (c_block ?_);refine c_loopP (α := Nat × Value × List Chunk) (fun z => [(1, .int .i64 (k : Nat)), (2, .pointer (some ⟨b2, 0, none⟩)), (4, .pointer (some ⟨b4, 0, none⟩)), (5, .pointer (some ⟨b5, 0, none⟩)), (6, .int .i64 (z.1 : Nat))])
  (fun z => z.1 ≤ t.os.length ∧ RMp (K W (z.2.2 ++ N)) z.2.1 g.size (ap g.C ((ops t.os).take z.1)))
  (fun z => K W ([(b5, row 37 [.int .i64 (g.size : Nat), z.2.1])] :: [(b4, row 37 [.int .i64 0, .slice none 0 0])] :: [(b2, row 42 g.cells)] :: (z.2.2 ++ (N ++ G)))) (fun z => t.os.length - z.1) (0, g.mv, []) ⟨rfl, rfl, rfl, rfl, rfl, trivial⟩ ⟨Nat.zero_le _, hM⟩ (fun w h => h) ?_
 rintro ⟨i, lm, T⟩ ⟨hi, hRT⟩;dsimp only at hi hRT ⊢;have hV2 : RV (K W ([(b5, row 37 [.int .i64 (g.size : Nat), lm])] :: [(b4, row 37 [.int .i64 0, .slice none 0 0])] :: [(b2, row 42 g.cells)] :: (T ++ (N ++ G)))) g := hV.cls fun w h => K.pre (K.bck h.tail.tail.tail);have hE := hV2.t;have hrow := hE.row (i := jx) (x := t.cells) (by simp [ht]);have hO := (hV2.tx t htm).o;by_cases c : i < t.os.length
 ·obtain ⟨o, ho⟩ : ∃ o, t.os[i]? = some o := ⟨t.os[i], List.getElem?_eq_getElem c⟩;have hok : (ops t.os)[i]? = some o.1 := by simp [ho]
  have hom := List.mem_of_getElem? ho;have hro := hO.row (opl_get2 ho);have hk1 : Opk g.size (ap g.C ((ops t.os).take i)) o.1 := by
   have := hR.drop i;rw [drop_get' hok] at this;exact this.1
  have hst : ap g.C ((ops t.os).take (i + 1)) = stp (ap g.C ((ops t.os).take i)) o.1 := by rw [List.take_add_one, hok]; exact ap_snoc _ _ _
  have hnx := hnb (i + 1);rw [hst] at hnx;obtain ⟨pq, kq, hov, _, _⟩ := ((hV2.tx t htm).r o hom).view;obtain ⟨o, ow⟩ := o;dsimp only at hov hro hk1 hst hnx;subst hov;refine c_seq (csr (sm ?_));refine sf 2 ?_;refine slr 2 ?_;refine sm ?_;refine sy (y_sub rfl rfl (by omega)) ?_;refine sy (y_ixE tab rfl rfl rfl rfl (hE) jx (by omega) (by omega)) ?_;refine sy (yF 2) ?_;refine sl (CellsAre.nth 2 (hrow) rfl) ?_;refine sy (y_lenE tab rfl (hO) rfl) ?_;refine sy (y_T (y_lss rfl rfl) (by omega)) ?_;refine snf (c_condT rfl (c_skip (f_then (c_seq (c_block (csr (sf 2 ?_)))))));refine slr 2 ?_;refine sm ?_;refine sy (y_sub rfl rfl (by omega)) ?_;refine sy (y_ixE tab rfl rfl rfl rfl (hE) jx (by omega) (by omega)) ?_;refine sy (yF 2) ?_;refine sl (CellsAre.nth 2 (hrow) rfl) ?_;refine sm ?_;refine sy (y_ixE tab rfl rfl rfl rfl (hO) _ rfl (by omega)) ?_;refine sf0 ?_;refine sl (CellsAre.at0 (hro) rfl) ?_;refine snf ?_;cases hmv : o.mv with
  | false =>
   refine c_condF rfl (c_skip (f_blockN (f_then (c_region (sm ?_)))));refine sy (y_add rfl rfl (by omega)) ?_;refine sa ?_;refine s_nil ?_;exact f_roundP (i + 1, lm, T) ⟨c, by rw [hst, stp_eq hmv]; exact hRT⟩ (by dsimp only; omega) ⟨rfl, rfl, rfl, rfl, rfl, trivial⟩ (fun w h => h)
  | true =>
   have hRT2 : RMp (K W ([(b5, row 37 [.int .i64 (g.size : Nat), lm])] :: [(b4, row 37 [.int .i64 0, .slice none 0 0])] :: [(b2, row 42 g.cells)] :: (T ++ (N ++ G)))) lm g.size (ap g.C ((ops t.os).take i)) := hRT.cls fun w h => K.pre2 h.tail.tail.tail;have hmvs := rmove_spec (o := o) (rv := .slice pq (rnl o.runs).length kq) hRT2 hk1.rng.1 hk1.rng.2 hk1.tag.1 hk1.tag.2 (by rw [hk1.swf hmv]; exact hnx);have hV3 : RV (K W ([(b4, row 37 [.int .i64 0, .slice none 0 0])] :: [(b2, row 42 g.cells)] :: (T ++ (N ++ G)))) g := hV.cls fun w h => K.pre (K.bck h.tail.tail);have hE := hV3.t;have hrow := hE.row (i := jx) (x := t.cells) (by simp [ht]);have hO := (hV3.tx t htm).o;have hro := hO.row (opl_get2 ho);have hD := fun (w : World) (h : K W ([(b5, row 37 [.int .i64 (g.size : Nat), lm])] :: [(b4, row 37 [.int .i64 0, .slice none 0 0])] :: [(b2, row 42 g.cells)] :: (T ++ (N ++ G))) w) => h.tail;refine c_condT rfl (c_plan [.c 1, .c 2, .c 3, .c 4, .c 5, .c 6, .c 7, .c 8, .c 9, .c 10, .s 0, .s 11, .s 12] [] (K W ([(b4, row 37 [.int .i64 0, .slice none 0 0])] :: [(b2, row 42 g.cells)] :: (T ++ (N ++ G)))) mixed (by kernel_rfl) rfl K.cl ?_);refine dy rfl (yB 2) hD ?_;refine dy rfl (y_load tab rfl rfl (cell_row 1 rfl rfl)) hD ?_;refine dy rfl (y_move rfl) hD ?_;refine dy rfl (y_sub rfl rfl (by omega)) hD ?_;refine dy rfl (y_ixE tab rfl rfl rfl rfl (hE) jx (by omega) (by omega)) hD ?_;refine dy rfl (yF 2) hD ?_;refine dy rfl (y_load tab rfl rfl (CellsAre.nth 2 (hrow) rfl)) hD ?_;refine dy rfl (y_move rfl) hD ?_;refine dy rfl (y_ixE tab rfl rfl rfl rfl (hO) _ rfl (by omega)) hD ?_;refine dy rfl (y_loadA tab rfl rfl rfl rfl hro) hD ?_;refine d_sy rfl (y_loadA tab rfl rfl rfl rfl (cells_row0 0 rfl rfl)) rfl rfl rfl K.cl (fun _ => hD) ?_;refine d_call rfl (en_f rfl call80) hmvs rfl rfl rfl (fun _ => K.cl) (fun _ _ _ h => h.tail.tail) (fun x => ?_);obtain ⟨⟨v9, c9⟩, hB9⟩ := x;dsimp only at hB9 ⊢;rw [hk1.swf hmv] at hB9;have hR9 : RMp (K W ((c9 :: T) ++ N)) v9 g.size (stp (ap g.C ((ops t.os).take i)) o) := ⟨hB9.view (Hs.at 0 rfl), hRT.pos, hnx⟩;obtain ⟨pw, kw, rfl, _, _⟩ := hR9.v.view;refine d_set rfl (set_aggB tab 1 rfl rfl rfl rfl rfl rfl rfl) rfl rfl K.cl (fun _ _ h => h.tail.tail) ?_;refine d_nil (f_blockN (f_then (c_region (sm ?_))));refine sy (y_add rfl rfl (by omega)) ?_;refine sa ?_;refine s_nil ?_;exact f_roundP (i + 1, _, c9 :: T) ⟨c, by rw [hst]; exact hR9⟩ (by dsimp only; omega) ⟨rfl, rfl, rfl, rfl, rfl, trivial⟩ (fun w h => K.rotV h)
 ·obtain rfl : i = t.os.length := by omega
  rw [List.take_of_length_le (by rw [List.length_map]; omega)] at hRT;obtain ⟨pm, km, rfl, _, _⟩ := hRT.v.view;refine c_seq (csr (sm ?_));refine sf 2 ?_;refine slr 2 ?_;refine sm ?_;refine sy (y_sub rfl rfl (by omega)) ?_;refine sy (y_ixE tab rfl rfl rfl rfl (hE) jx (by omega) (by omega)) ?_;refine sy (yF 2) ?_;refine sl (CellsAre.nth 2 (hrow) rfl) ?_;refine sy (y_lenE tab rfl (hO) rfl) ?_;refine sy (y_F (y_lss rfl rfl) (by omega)) ?_;refine snf (c_condF rfl (c_exit (f_thenE (f_rndE (f_blockE (f_then (csr (sy (y_loadA tab rfl rfl rfl rfl (cells_row0 0 rfl rfl)) ?_))))))));refine ss (sB 1) ?_;refine snf (c_ret ?_);exact f_ret ⟨(_, T), hRT⟩ (resA tab rfl rfl rfl rfl rfl (cells_row0 1 rfl rfl)) (fun w h => h.tail.tail.tail)
end
end Go.KL
end

section
namespace Go.KL
open Go.Proofs Go.Proofs.Tryz
section
variable {e : TypeId} {s : Nat} {rows : List (List Value)} {b m cap : Nat} {l : List Value}
theorem BufR.put1 {i j : Nat} {x : List Value} {z : Value} (h : BufR e s (.slice (some ⟨b, 0, none⟩) m cap) [(b, row e l)] rows) (hi : rows[i]? = some x) (hj : j < s) : BufR e s (.slice (some ⟨b, 0, none⟩) m cap) [(b, row e (l.set (i * s + j) z))] (rows.set i (x.set j z)) ∧ i * s + j < l.length := by
 obtain ⟨o, l', hv, hc, hlt, hp⟩ := h.put hi hj;have hb : b = o.b := by injection hv with h1; injection h1 with h1; injection h1
 have hl : l = l' := by
  injection hc with h1;injection h1 with _ h1;simpa [row] using h1
 have := hp z;rw [← hb, ← hl] at this;exact ⟨this, by rw [hl]; exact hlt⟩
theorem BufR.put3 {i : Nat} {x y z : Value} (h : BufR e 3 (.slice (some ⟨b, 0, none⟩) m cap) [(b, row e l)] rows) (hi : i < rows.length) : BufR e 3 (.slice (some ⟨b, 0, none⟩) m cap) [(b, row e (over l (i * 3) [x, y, z]))] (rows.set i [x, y, z]) ∧ i * 3 + 3 ≤ l.length := by
 obtain ⟨r, hr⟩ : ∃ r, rows[i]? = some r := ⟨rows[i], List.getElem?_eq_getElem hi⟩;obtain ⟨a1, a2, a3, rfl⟩ : ∃ a1 a2 a3, r = [a1, a2, a3] := by
  have h3 := h.len r (List.mem_of_getElem? hr)
  match r, h3 with
  | [a1, a2, a3], _ => exact ⟨a1, a2, a3, rfl⟩
 obtain ⟨h1, _⟩ := h.put1 (z := x) hr (show 0 < 3 by decide);have g1 : (rows.set i ([a1, a2, a3].set 0 x))[i]? = some [x, a2, a3] := List.getElem?_set_self hi;obtain ⟨h2, _⟩ := h1.put1 (z := y) g1 (show 1 < 3 by decide);have g2 : ((rows.set i ([a1, a2, a3].set 0 x)).set i ([x, a2, a3].set 1 y))[i]? = some [x, y, a3] := List.getElem?_set_self (by rw [List.length_set]; exact hi);obtain ⟨h3, hl⟩ := h2.put1 (z := z) g2 (show 2 < 3 by decide);rw [List.set_set, List.set_set] at h3;refine ⟨h3, ?_⟩;rw [List.length_set, List.length_set] at hl;omega
end
def Rg.setT (g : Rg) (ts : List Dt) (t : Wh) : Rg := ⟨g.size, g.C, g.m, ts, t, g.Q, g.q, g.ds, g.d⟩
theorem RV.setT {C D : World → Prop} {g : Rg} {ts : List Dt} {u : Wh} (h : RV C g) (hD : ∀ w, D w → C w) (hv : EV D (.slice u.p (dtl ts).length u.c) 3 (dtl ts)) (ht : ∀ t ∈ ts, DtV D t) (hn : ts.length < 1000000) : RV D (g.setT ts u) := ⟨h.m.cls hD, hv, ht, h.q.cls hD, h.d.cls hD, fun x hx => ⟨(h.dx x hx).1.cls hD, fun o ho => ((h.dx x hx).2 o ho).cls hD⟩, hn⟩
theorem dtl_one (ts : List Dt) : ∀ r ∈ dtl ts, r.all Value.oneCell' = true := fun r hr => by
 obtain ⟨t, _, rfl⟩ := List.mem_map.1 hr;rfl
attribute [local irreducible] SC St Fin Sq Ylds Doos Sets Enters Spec CellIs CellsAre Then Ret Rnd Chn resOK ints bools recs arr
section
variable {W : World} {N G : List Chunk} {g : Rg}
theorem put_spec (hV : RV (K W N) g) {k : Nat} {t : Dt} (hk : 1 ≤ k ∧ k ≤ g.ts.length) (ht : DtV (K W N) t) : Spec prog 104 #[g.val, .int .i64 (k : Nat), .agg #[.int .i64 (t.st : Nat), t.lv, t.ov]] (K W (N ++ G))
  (X := { x : Wh × Chunk // RV (K W (x.2 :: N)) (g.setT (g.ts.set (k - 1) t) x.1) }) (fun x => (g.setT (g.ts.set (k - 1) t) x.1.1).val) (fun x => K W (x.1.2 :: (N ++ G))) := by
 have hdl : (dtl g.ts).length = g.ts.length := List.length_map _;have hn := hV.n;obtain ⟨jx, hjx⟩ : ∃ jx, jx = k - 1 := ⟨_, rfl⟩;rw [← hjx];refine enter (args := [_, _, _]) func104 rfl ntmps104 rfl ?_;refine csr (sbx fun b3 => ?_);refine sbx fun b5 => ?_;refine sal fun b6 => ?_;refine snf (csr (s_do (do_buildSliceS tab ⟨rfl, rfl, rfl, rfl⟩ rfl rfl rfl rfl) rfl rfl rfl (fun b7 => ?_)));refine sf 2 ?_;refine slr 3 ?_;have hE : EV (K W ([(b7, row 85 [])] :: [(b6, row 42 z42)] :: [(b5, row 85 t.cells)] :: [(b3, row 42 g.cells)] :: (N ++ G))) g.tv 3 (dtl g.ts) := (hV.t.cls fun _ h => K.pre h).cons.cons.cons.cons;skip;refine s_do (do_appendRV (by_ := 56) tab 0 rfl .lit rfl hE ⟨rfl, rfl, rfl, rfl⟩ rfl (by omega) (Nat.lt_of_sub_eq_succ rfl) rfl (dtl_one _) (by simp only [List.length_nil]; omega) (by omega)) rfl rfl rfl (fun x => ?_);obtain ⟨⟨v, c⟩, hB⟩ := x;have hB : BufR 85 3 v c (dtl g.ts) := hB;dsimp only;have el : (dtl g.ts).length = (dtl (g.ts.set jx t)).length := by simp
 have es : (dtl g.ts).set jx t.cells = dtl (g.ts.set jx t) := by rw [dtl, dtl, List.map_set]
 obtain ⟨r, hr⟩ : ∃ r, (dtl g.ts)[jx]? = some r := ⟨(dtl g.ts)[jx]'(by omega), List.getElem?_eq_getElem (by omega)⟩;obtain ⟨o, l, hv, hc, _, _⟩ := hB.put hr (show 0 < 3 by decide);rw [el] at hv;subst hv hc;have hE2 : EV (K W ([(o.b, row 85 l)] :: [(b6, row 42 z42)] :: [(b5, row 85 t.cells)] :: [(b3, row 42 [.int .i64 (g.size : Nat), g.mv, .slice (some ⟨o.b, 0, none⟩) (dtl (g.ts.set jx t)).length o.cap, g.qv, g.dv])] :: (N ++ G))) (.slice (some ⟨o.b, 0, none⟩) (dtl (g.ts.set jx t)).length o.cap) 3 (dtl g.ts) := hB.view (Hs.at 0 rfl);obtain ⟨h3, hlt⟩ := hB.put3 (x := .int .i64 (t.st : Nat)) (y := t.lv) (z := t.ov) (i := jx) (by omega);rw [es] at h3;refine sf 2 ?_;refine ss (set_rowB tab 3 rfl rfl rfl rfl rfl rfl) ?_;refine snf (csr (sf 2 ?_));refine slr 3 ?_;refine sm ?_;refine sy (y_sub rfl rfl (by omega)) ?_;refine sy (y_loadA tab rfl rfl rfl rfl (cells_row0 2 rfl rfl)) ?_;refine sy (y_ixE tab rfl rfl rfl rfl (hE2) jx (by omega) (by omega)) ?_;refine ss (set_agg tab 0 rfl rfl (vs := t.cells) (List.all_eq_true.1 rfl) rfl rfl rfl (by show 0 + jx * 3 + 3 ≤ l.length; omega)) ?_;refine St.cls (C' := K W ([(o.b, row 85 (over l (jx * 3) t.cells))] :: [(b6, row 42 z42)] :: [(b5, row 85 t.cells)] :: [(b3, row 42 [.int .i64 (g.size : Nat), g.mv, .slice (some ⟨o.b, 0, none⟩) (dtl (g.ts.set jx t)).length o.cap, g.qv, g.dv])] :: (N ++ G))) ?_ (fun w h => by rw [show jx * 3 = 0 + jx * 3 from by omega]; exact h);refine snf (csr (sy (y_loadA tab rfl rfl rfl rfl (cells_row0 3 rfl rfl)) ?_));refine ss (sB 1) ?_;refine snf (c_ret (f_ret ⟨(⟨some ⟨o.b, 0, none⟩, o.cap⟩, [(o.b, row 85 (over l (jx * 3) t.cells))]), ?_⟩ (resA tab rfl rfl rfl rfl rfl (cells_row0 1 rfl rfl)) (fun w h => (h.dropAt 1).dropAt 1 |>.dropAt 1)));refine hV.setT (fun w h => h.tail) (h3.view (Hs.at 0 rfl)) (fun u hu => ?_) (by rw [List.length_set]; exact hn);rcases List.mem_or_eq_of_mem_set hu with hu | rfl
 ·exact (hV.tx u hu).cls fun w h => h.tail
 ·exact ht.cls fun w h => h.tail
def Dt.new : Dt := ⟨1, [], [], ⟨none, 0⟩, ⟨none, 0⟩⟩
theorem Dt.newV {C : World → Prop} : DtV C Dt.new := ⟨EV.empty, EV.empty, fun o ho => by cases ho⟩
def _root_.Go.KL.RB.Bg (b b' : RB) (n e : Nat) : Prop := (64 ≤ b.progress ∧ b' = b ∧ n = 0 ∧ e = 5) ∨ (b.progress < 64 ∧ b' = b.begin ∧ n = b.T.length + 1 ∧ e = 0)
theorem RBegin_spec (hV : RV (K W N) g) (hn1 : g.ts.length + 1 < 1000000) : Spec prog 47 #[g.val] (K W (N ++ G))
  (X := { x : Rg × List Chunk × Nat × Nat // RV (K W (x.2.1 ++ N)) x.1 ∧ g.rb.Bg x.1.rb x.2.2.1 x.2.2.2 }) (fun x => .tuple #[x.1.1.val, .int .i64 (x.1.2.2.1 : Nat), .int .i64 (x.1.2.2.2 : Nat)]) (fun x => K W (x.1.2.1 ++ (N ++ G))) := by
 have hdl : (dtl g.ts).length = g.ts.length := List.length_map _;refine enter (args := [_]) func47 rfl ntmps47 rfl ?_;refine csr (sbx fun b1 => ?_);refine sal fun b2 => ?_;refine sa ?_;refine sa ?_;refine snf (c_seq (csr (sy (y_loadA tab rfl rfl rfl rfl (cells_row0 1 rfl rfl)) ?_)));refine sk call82 (Progress_spec (hV.cls fun _ h => K.pre h).cons.cons) fun _ => ?_;by_cases hp : 64 ≤ g.rb.progress
 ·refine sy (y_T (y_geq rfl rfl) (by omega)) ?_;refine snf (c_condT rfl (csr (sy (y_loadA tab rfl rfl rfl rfl (cells_row0 1 rfl rfl)) ?_)));refine ss (sB 0) ?_;refine sa ?_;refine sa ?_;refine snf (c_ret (f_thenR ?_));exact f_ret ⟨(g, [], 0, 5), hV, .inl ⟨hp, rfl, rfl, rfl⟩⟩ (resA12 tab rfl rfl rfl rfl rfl rfl rfl (cells_row0 0 rfl rfl)) (fun w h => h.tail.tail)
 ·refine sy (y_F (y_geq rfl rfl) (by omega)) ?_;refine snf (c_condF rfl (c_skip (f_then (csr (s_do (do_buildSliceS tab ⟨rfl, rfl, rfl, rfl⟩ rfl rfl rfl rfl) rfl rfl rfl (fun b9 => ?_))))));refine sf 2 ?_;refine slr 2 ?_;have hE : EV (K W ([(b9, row 85 [])] :: [(b2, row 42 z42)] :: [(b1, row 42 g.cells)] :: (N ++ G))) g.tv 3 (dtl g.ts) := (hV.t.cls fun _ h => K.pre h).cons.cons.cons;skip;refine s_do (do_appendRV (by_ := 56) tab 0 rfl .lit rfl hE ⟨rfl, rfl, rfl, rfl⟩ rfl (by omega) (Nat.lt_of_sub_eq_succ rfl) rfl (dtl_one _) (by simp only [List.length_nil]; omega) (by omega)) rfl rfl rfl (fun x => ?_);obtain ⟨⟨v, c⟩, hB⟩ := x;have hB : BufR 85 3 v c (dtl g.ts) := hB;dsimp only;refine sy yb ?_;refine s_do (do_buildSliceS tab ⟨rfl, rfl, rfl, rfl⟩ rfl rfl rfl rfl) rfl rfl rfl (fun b14 => ?_);refine s_do (do_appendR (by_ := 56) (news := Dt.new.cells) tab 1 rfl hB rfl ⟨rfl, rfl, rfl, rfl⟩ rfl (by simp) rfl (cells_row0 0 rfl rfl) rfl rfl (by omega) (by omega)) rfl rfl rfl (fun x => ?_);obtain ⟨⟨v, c⟩, hB⟩ := x;have hB : BufR 85 3 v c (dtl (g.ts ++ [Dt.new])) := hB.of (by simp);dsimp only;obtain ⟨pv, kv, rfl, _, _⟩ := (hB.view (C := K W (c :: [])) (Hs.at 0 rfl)).view;have hl2 : (dtl (g.ts ++ [Dt.new])).length = g.ts.length + 1 := by simp
  refine sf 2 ?_;refine ss (set_rowB tab 3 rfl rfl rfl rfl rfl rfl) ?_;refine snf (c_seq (SC.cls (C' := K W (c :: [(b2, row 42 z42)] :: [(b1, row 42 [.int .i64 (g.size : Nat), g.mv, .slice pv (dtl (g.ts ++ [Dt.new])).length kv, g.qv, g.dv])] :: (N ++ G))) ?_ (fun w h => h.tail)));have hD := fun (w : World) (h : K W (c :: [(b2, row 42 z42)] :: [(b1, row 42 [.int .i64 (g.size : Nat), g.mv, .slice pv (dtl (g.ts ++ [Dt.new])).length kv, g.qv, g.dv])] :: (N ++ G)) w) => h.tail.tail;refine c_plan [.c 0, .c 1, .c 2, .c 3, .s 4, .s 5, .s 6] [] (K W ([(b1, row 42 [.int .i64 (g.size : Nat), g.mv, .slice pv (dtl (g.ts ++ [Dt.new])).length kv, g.qv, g.dv])] :: (N ++ G))) mixed (by kernel_rfl) rfl K.cl ?_;refine dy rfl (y_loadA tab rfl rfl rfl rfl (cells_row0 0 rfl rfl)) hD ?_;refine dy rfl (yB 2) hD ?_;refine dy rfl (y_load tab rfl rfl (cell_row 0 rfl rfl)) hD ?_;refine dy rfl (y_lenR' tab rfl hB rfl) hD ?_;refine d_set rfl (set_aggB tab 1 rfl rfl rfl rfl rfl rfl rfl) rfl rfl K.cl (fun _ _ h => h.tail.tail) ?_;refine d_sy rfl (y_assign rfl) rfl rfl rfl K.cl (fun _ _ h => h.tail.tail) ?_;refine d_sy rfl (y_assign rfl) rfl rfl rfl K.cl (fun _ _ h => h.tail.tail) ?_;refine d_nil (f_then (c_ret ?_));refine f_ret ⟨(g.setT (g.ts ++ [Dt.new]) ⟨pv, kv⟩, [c], g.ts.length + 1, 0), ?_, .inr ⟨by omega, ?_, by simp [Rg.rb], rfl⟩⟩ (resA12 tab rfl rfl (by rw [hl2]; rfl) rfl rfl rfl rfl (cells_row0 1 rfl rfl)) (fun w h => (h.dropAt 1).dropAt 1)
  ·refine hV.setT (fun w h => h.tail) (hB.view (Hs.at 0 rfl)) (fun u hu => ?_) (by rw [List.length_append]; exact hn1);rcases List.mem_append.1 hu with hu | hu
   ·exact (hV.tx u hu).cls fun w h => h.tail
   ·rw [List.mem_singleton.1 hu];exact Dt.newV
  ·simp [Rg.rb, RB.begin, Rg.setT, Dt.new]
end
end Go.KL
end

section
namespace Go.KL
open Go.Proofs Go.Proofs.Tryz
theorem EV.upto {C : World → Prop} {p : Option Addr} {l c s k : Nat} {rows : List (List Value)} (h : EV C (.slice p l c) s rows) (hk : k ≤ rows.length) : EV C (.slice p k c) s (rows.take k) := by
 have hl := h.len;obtain ⟨pa, c', e, hc, hv⟩ := h.view;injection e with e1 e2 e3;subst e1 e3;refine ⟨fun x hx => hl x (List.mem_of_mem_take hx), ?_⟩;rw [List.length_take, Nat.min_eq_left hk];refine ⟨_, _, rfl, by omega, fun h0 => ?_⟩;obtain ⟨b, o, hp, h3⟩ := hv (by omega);refine ⟨b, o, hp, fun i hi j hj => ?_⟩;have := h3 i (by omega) j hj;simp only [rix, List.getD_eq_getElem?_getD] at this ⊢;rw [List.getElem?_take_of_lt hi];exact this
theorem lks_all (L : List Lk) : ∀ r ∈ lks L, r.all Value.oneCell' = true := fun r hr => by
 obtain ⟨t, _, rfl⟩ := List.mem_map.1 hr;rfl
attribute [local irreducible] SC St Fin Sq Ylds Doos Sets Enters Spec CellIs CellsAre Then Ret Rnd Chn resOK ints bools recs arr
section
variable {W : World} {N : List Chunk} {g : Rg}
theorem Conflict_spec {a b : Lk} : Spec prog 76 #[lkv a, lkv b] (K W N) (fun _ : Unit => .bool (cfr a b)) (fun _ => K W N) := by
 obtain ⟨cf, hcf⟩ : ∃ cf, cf = cfr a b := ⟨_, rfl⟩;rw [← hcf];show Spec prog 76 #[.agg #[.int .i64 (a.tx : Nat), .int .i64 (a.lo : Nat), .int .i64 (a.hi : Nat), .bool a.wr], lkv b] (K W N) _ _;obtain ⟨aw, haw⟩ : ∃ aw, aw = a.wr := ⟨_, rfl⟩;rw [← haw];refine enter (args := [_, _]) func76 rfl ntmps76 rfl ?_;by_cases c1 : a.tx = b.tx
 ·rw [show cf = false by rw [hcf]; simp [cfr, c1]];refine csr (sbx fun b2 => ?_);refine sbx fun b3 => ?_;refine sa ?_;refine snf (csr (sf0 ?_));refine slr 1 ?_;refine sf0 ?_;refine slr 0 ?_;refine sy (y_F (y_neq rfl rfl) (by omega)) ?_;refine sm ?_
  iterate 5 refine s_skip rfl rfl rfl ?_
  refine spF ?_;refine sm ?_
  iterate 5 refine s_skip rfl rfl rfl ?_
  refine spF ?_;refine sm ?_
  iterate 6 refine s_skip rfl rfl rfl ?_
  refine spF ?_;refine sa ?_;refine snf (c_ret ?_);exact f_ret () (res1 rfl rfl) (fun w h => h.tail.tail)
 by_cases c2 : a.lo < b.hi
 ·by_cases c3 : b.lo < a.hi
  ·cases aw with
   | true =>
    rw [show cf = true by rw [hcf]; simp [cfr, c1, c2, c3, ← haw]];refine csr (sbx fun b2 => ?_);refine sbx fun b3 => ?_;refine sa ?_;refine snf (csr (sf0 ?_));refine slr 1 ?_;refine sf0 ?_;refine slr 0 ?_;refine sy (y_T (y_neq rfl rfl) (by omega)) ?_;refine sm ?_;refine sf 1 ?_;refine slr 1 ?_;refine sf 2 ?_;refine slr 0 ?_;refine sy (y_T (y_lss rfl rfl) (by omega)) ?_;refine spT ?_;refine sm ?_;refine sf 1 ?_;refine slr 0 ?_;refine sf 2 ?_;refine slr 1 ?_;refine sy (y_T (y_lss rfl rfl) (by omega)) ?_;refine spT ?_;refine sm ?_;refine sf 3 ?_;refine slr 1 ?_;refine sm ?_
    iterate 2 refine s_skip rfl rfl rfl ?_
    refine spT ?_;refine spT ?_;refine sa ?_;refine snf (c_ret ?_);exact f_ret () (res1 rfl rfl) (fun w h => h.tail.tail)
   | false =>
    rw [show cf = b.wr by rw [hcf]; simp [cfr, c1, c2, c3, ← haw]];refine csr (sbx fun b2 => ?_);refine sbx fun b3 => ?_;refine sa ?_;refine snf (csr (sf0 ?_));refine slr 1 ?_;refine sf0 ?_;refine slr 0 ?_;refine sy (y_T (y_neq rfl rfl) (by omega)) ?_;refine sm ?_;refine sf 1 ?_;refine slr 1 ?_;refine sf 2 ?_;refine slr 0 ?_;refine sy (y_T (y_lss rfl rfl) (by omega)) ?_;refine spT ?_;refine sm ?_;refine sf 1 ?_;refine slr 0 ?_;refine sf 2 ?_;refine slr 1 ?_;refine sy (y_T (y_lss rfl rfl) (by omega)) ?_;refine spT ?_;refine sm ?_;refine sf 3 ?_;refine slr 1 ?_;refine sm ?_;refine sf 3 ?_;refine slr 0 ?_;refine spF ?_;refine spT ?_;refine sa ?_;refine snf (c_ret ?_);exact f_ret () (res1 rfl rfl) (fun w h => h.tail.tail)
  ·rw [show cf = false by rw [hcf]; simp [cfr, c3]];refine csr (sbx fun b2 => ?_);refine sbx fun b3 => ?_;refine sa ?_;refine snf (csr (sf0 ?_));refine slr 1 ?_;refine sf0 ?_;refine slr 0 ?_;refine sy (y_T (y_neq rfl rfl) (by omega)) ?_;refine sm ?_;refine sf 1 ?_;refine slr 1 ?_;refine sf 2 ?_;refine slr 0 ?_;refine sy (y_T (y_lss rfl rfl) (by omega)) ?_;refine spT ?_;refine sm ?_;refine sf 1 ?_;refine slr 0 ?_;refine sf 2 ?_;refine slr 1 ?_;refine sy (y_F (y_lss rfl rfl) (by omega)) ?_;refine spT ?_;refine sm ?_
   iterate 6 refine s_skip rfl rfl rfl ?_
   refine spF ?_;refine sa ?_;refine snf (c_ret ?_);exact f_ret () (res1 rfl rfl) (fun w h => h.tail.tail)
 ·rw [show cf = false by rw [hcf]; simp [cfr, c2]];refine csr (sbx fun b2 => ?_);refine sbx fun b3 => ?_;refine sa ?_;refine snf (csr (sf0 ?_));refine slr 1 ?_;refine sf0 ?_;refine slr 0 ?_;refine sy (y_T (y_neq rfl rfl) (by omega)) ?_;refine sm ?_;refine sf 1 ?_;refine slr 1 ?_;refine sf 2 ?_;refine slr 0 ?_;refine sy (y_F (y_lss rfl rfl) (by omega)) ?_;refine spT ?_;refine sm ?_
  iterate 5 refine s_skip rfl rfl rfl ?_
  refine spF ?_;refine sm ?_
  iterate 6 refine s_skip rfl rfl rfl ?_
  refine spF ?_;refine sa ?_;refine snf (c_ret ?_);exact f_ret () (res1 rfl rfl) (fun w h => h.tail.tail)
theorem Locks_spec (hV : RV (K W N) g) (hc : g.rb.locks.length < 100000) : Spec prog 75 #[g.val] (K W N) (X := { x : Value × Chunk // BufR 111 4 x.1 x.2 (lks g.rb.locks) }) (fun x => x.1.1) (fun x => K W (x.1.2 :: N)) := by
 have hdl : (dtl g.ts).length = g.ts.length := List.length_map _;have hn := hV.n;have hloc : g.rb.locks = (g.ts.filter fun t => t.rt.inP).flatMap fun t => t.locks := by
  rw [RB.locks, Rg.rb];simp only [List.filter_map, List.flatMap_map];rfl
 refine enter (args := [_]) func75 rfl ntmps75 rfl ?_;refine csr (sbx fun b1 => ?_);refine sa ?_;refine snf (csr (sa ?_));refine snf (c_seq (csr (sa ?_)));refine snf (c_block ?_);refine c_loopP (α := Nat × Value × Chunk) (fun z => [(1, .pointer (some ⟨b1, 0, none⟩)), (3, z.2.1), (4, .int .i64 (z.1 : Nat))]) (fun z => z.1 ≤ g.ts.length ∧ BufR 111 4 z.2.1 z.2.2 (lks ((((g.ts.take z.1).filter fun t => t.rt.inP)).flatMap fun t => t.locks)))
  (fun z => K W (z.2.2 :: [(b1, row 42 g.cells)] :: N)) (fun z => g.ts.length - z.1) (0, .slice none 0 0, []) ⟨rfl, rfl, rfl, trivial⟩ ⟨Nat.zero_le _, .nil⟩ (fun w h => h.addNil) ?_
 rintro ⟨i, v, c⟩ ⟨hi, hB⟩;dsimp only at hi hB ⊢;have hE : EV (K W (c :: [(b1, row 42 g.cells)] :: N)) g.tv 3 (dtl g.ts) := hV.t.cons.cons;by_cases c1 : i < g.ts.length
 ·obtain ⟨t, ht⟩ : ∃ t, g.ts[i]? = some t := ⟨g.ts[i], List.getElem?_eq_getElem c1⟩;have htm := List.mem_of_getElem? ht;have hrow := hE.row (i := i) (x := t.cells) (by simp [ht]);have htk : (g.ts.take (i + 1)).filter (fun t => t.rt.inP) = (g.ts.take i).filter (fun t => t.rt.inP) ++ (if t.rt.inP then [t] else []) := by
   rw [List.take_add_one, ht];simp [List.filter_append, List.filter_cons]
  have hle : ((((g.ts.take (i + 1)).filter fun t => t.rt.inP)).flatMap fun t => t.locks).length ≤ g.rb.locks.length := by
   rw [hloc];conv => rhs; rw [← List.take_append_drop (i + 1) g.ts]
   rw [List.filter_append, List.flatMap_append, List.length_append];omega
  refine c_seq (csr (sm ?_));refine sf 2 ?_;refine slr 1 ?_;refine sy (y_lenE tab rfl (hE) rfl) ?_;refine sy (y_T (y_lss rfl rfl) (by omega)) ?_;refine snf (c_condT rfl (c_skip (f_then (c_seq (c_block (csr (sf 2 ?_)))))));refine slr 1 ?_;refine sm ?_;refine sy (y_ixE tab rfl rfl rfl rfl (hE) _ rfl (by omega)) ?_;refine sy (y_loadA tab rfl rfl rfl rfl hrow) ?_;refine sk call54 (In_spec (t := t)) fun _ => ?_;cases hp : t.rt.inP with
  | false =>
   rw [hp, if_neg (by decide), List.append_nil] at htk;refine snf (c_condF rfl (c_skip (f_blockN (f_then (c_region (sm ?_))))));refine sy (y_add rfl rfl (by omega)) ?_;refine sa ?_;refine s_nil ?_;exact f_roundP (i + 1, v, c) ⟨c1, by rw [htk]; exact hB⟩ (by dsimp only; omega) ⟨rfl, rfl, rfl, trivial⟩ (fun w h => h)
  | true =>
   rw [hp, if_pos rfl] at htk;rw [htk, List.flatMap_append, List.length_append] at hle;simp only [List.flatMap_cons, List.flatMap_nil, List.append_nil] at hle;have hEl : EV (K W (c :: [(b1, row 42 g.cells)] :: N)) t.lv 4 (lks t.locks) := (hV.tx t htm).l.cls fun w h => h.tail.tail;refine snf (c_condT rfl (c_region (sm ?_)));refine sf 2 ?_;refine slr 1 ?_;refine sm ?_;refine sy (y_ixE tab rfl rfl rfl rfl (hE) _ rfl (by omega)) ?_;refine sy (yF 1) ?_;refine sl (CellsAre.nth 1 (hrow) rfl) ?_;refine s_do (do_appendRV (by_ := 32) tab 0 rfl hB rfl hEl ⟨rfl, rfl, rfl, rfl⟩ rfl (by omega) (Nat.lt_of_sub_eq_succ rfl) rfl (lks_all _) (by rw [List.length_map, List.length_map]; omega) (by omega)) rfl rfl rfl (fun x => ?_);obtain ⟨⟨v', c'⟩, hB'⟩ := x;dsimp only at hB' ⊢;refine sa ?_;refine s_nil (f_blockN (f_then (c_region (sm ?_))));refine sy (y_add rfl rfl (by omega)) ?_;refine sa ?_;refine s_nil ?_;exact f_roundP (i + 1, v', c') ⟨c1, by
    rw [htk, List.flatMap_append];exact hB'.of (by simp [lks])⟩ (by dsimp only; omega) ⟨rfl, rfl, rfl, trivial⟩ (fun w h => h)
 ·obtain rfl : i = g.ts.length := by omega
  rw [List.take_length, ← hloc] at hB;refine c_seq (csr (sm ?_));refine sf 2 ?_;refine slr 1 ?_;refine sy (y_lenE tab rfl (hE) rfl) ?_;refine sy (y_F (y_lss rfl rfl) (by omega)) ?_;refine snf (c_condF rfl (c_exit (f_thenE (f_rndE (f_blockE (f_then (csr (sm ?_))))))));refine sa ?_;refine snf (c_ret ?_);exact f_ret ⟨(v, c), hB⟩ (res1 rfl rfl) (fun w h => h.dropAt 1)
end
end Go.KL
end

section
namespace Go.KL
open Go.Proofs Go.Proofs.Tryz
attribute [local irreducible] SC St Fin Sq Ylds Doos Sets Enters Spec CellIs CellsAre Then Ret Rnd Chn resOK ints bools recs arr
section
variable {W : World} {N : List Chunk} {g : Rg}
theorem free_spec (hV : RV (K W N) g) {x : Lk} {n : Nat} (hq : n ≤ g.Q.length) (hc : g.rb.count < 100000) : Spec prog 102 #[g.val, lkv x, .int .i64 (n : Nat)] (K W N) (X := Chunk) (fun _ => .bool (g.rb.free x n)) (fun c => K W (c :: N)) := by
 have hcc : g.rb.locks.length + g.Q.length < 100000 := hc;have hlq : (lks g.Q).length = g.Q.length := List.length_map _;refine enter (args := [_, _, _]) func102 rfl ntmps102 rfl ?_;refine csr (sbx fun b3 => ?_);refine sbx fun b4 => ?_;refine sa ?_;refine snf (c_seq ?_);have hL := Locks_spec ((hV.cons (c := [(b3, row 42 g.cells)])).cons (c := [(b4, row 111 (lkc x))])) (by omega);have hD := fun (w : World) (h : K W ([(b4, row 111 (lkc x))] :: [(b3, row 42 g.cells)] :: N) w) => h;have hqn : n ≤ g.q.c := by
  obtain ⟨pa, c', e, hc', _⟩ := hV.q.view;injection e with e1 e2 e3;omega
 have hqt := hV.q.upto (k := n) (by omega);refine c_plan [.c 0, .c 2, .c 3, .c 4, .c 5, .s 1, .s 6, .s 7] [] (K W ([(b4, row 111 (lkc x))] :: [(b3, row 42 g.cells)] :: N)) mixed (by kernel_rfl) rfl K.cl ?_;refine dy rfl (y_loadA tab rfl rfl rfl rfl (cells_row0 1 rfl rfl)) hD ?_;refine dy rfl (yB 3) hD ?_;refine dy rfl (y_load tab rfl rfl (cell_row 1 rfl rfl)) hD ?_;refine dy rfl (y_move rfl) hD ?_;refine dy rfl (y_sliceTo tab rfl rfl rfl rfl rfl (by omega)) hD ?_;refine d_call rfl (en_f rfl call75) hL rfl rfl rfl (fun _ => K.cl) (fun _ _ _ h => h.tail) (fun y => ?_);obtain ⟨⟨v, c⟩, hB⟩ := y;dsimp only at hB ⊢;refine d_s rfl (do_appendRV (by_ := 32) tab 0 rfl hB rfl hqt.cons.cons.cons ⟨rfl, rfl, rfl, rfl⟩ rfl (by omega) (Nat.lt_of_sub_eq_succ rfl) rfl (fun r hr => lks_all _ r (List.mem_of_mem_take hr)) (by rw [List.length_take, List.length_map]; omega) (by omega)) rfl rfl rfl (fun _ => K.cl) (fun _ _ _ h => h.tail) (fun y => ?_);obtain ⟨⟨v, c⟩, hB⟩ := y;obtain ⟨al, hal⟩ : ∃ al, al = g.rb.locks ++ g.Q.take n := ⟨_, rfl⟩;have hB : BufR 111 4 v c (lks al) := hB.of (by rw [hal]; simp [lks, List.map_take]);have hall : al.length < 200000 := by rw [hal, List.length_append, List.length_take]; omega
 have hfr : g.rb.free x n = al.all fun y => !cfr x y := by rw [hal]; rfl
 have hla : (lks al).length = al.length := List.length_map _;dsimp only;clear hD hL;have hD := fun (w : World) (h : K W (c :: [(b4, row 111 (lkc x))] :: [(b3, row 42 g.cells)] :: N) w) => h.tail;refine d_sy rfl (y_assign rfl) rfl rfl rfl K.cl (fun _ => hD) ?_;refine d_nil (f_then (c_seq (csr (sa ?_))));refine snf (c_block ?_);have hE : EV (K W (c :: [(b4, row 111 (lkc x))] :: [(b3, row 42 g.cells)] :: N)) v 4 (lks al) := hB.view (Hs.at 0 rfl);rw [hfr];clear hfr hB hcc hlq hqt hqn;refine c_loopP (α := Nat) (fun z => [(4, .pointer (some ⟨b4, 0, none⟩)), (7, v), (8, .int .i64 (z : Nat))]) (fun z => z ≤ al.length ∧ ∀ y ∈ al.take z, cfr x y = false) (fun _ => K W (c :: [(b4, row 111 (lkc x))] :: [(b3, row 42 g.cells)] :: N)) (fun z => al.length - z) 0 ⟨rfl, rfl, rfl, trivial⟩ ⟨Nat.zero_le _, fun y hy => by simp at hy⟩ (fun w h => h) ?_;rintro z ⟨hz, hno⟩;by_cases c1 : z < al.length
 ·obtain ⟨y, hy⟩ : ∃ y, al[z]? = some y := ⟨al[z], List.getElem?_eq_getElem c1⟩;have hrow := hE.row (lks_get hy);have hD := fun (w : World) (h : K W (c :: [(b4, row 111 (lkc x))] :: [(b3, row 42 g.cells)] :: N) w) => h;refine c_seq (csr (sm ?_));refine sm ?_;refine sy (y_lenE tab rfl (hE) rfl) ?_;refine sy (y_T (y_lss rfl rfl) (by omega)) ?_;refine snf (c_condT rfl (c_skip (f_then (c_seq (c_block (c_seq (c_plan [.c 0, .c 1, .c 2, .c 3, .c 4, .s 5] [] ((K W (c :: [(b4, row 111 (lkc x))] :: [(b3, row 42 g.cells)] :: N))) mixed (by kernel_rfl) rfl K.cl ?_)))))));refine dy rfl (y_loadA tab rfl rfl rfl rfl (cells_row0 1 rfl rfl)) hD ?_;refine dy rfl (y_move rfl) hD ?_;refine dy rfl (y_move rfl) hD ?_;refine dy rfl (y_ixE tab rfl rfl rfl rfl (hE) _ rfl (by omega)) hD ?_;refine dy rfl (y_loadA tab rfl rfl rfl rfl hrow) hD ?_;refine d_call rfl (en_f rfl call76) (Conflict_spec (a := x) (b := y)) rfl rfl rfl (fun _ => K.cl) (fun _ _ _ h => h) (fun _ => ?_);cases hcf : cfr x y with
  | false =>
   refine d_nil (f_then (c_condF rfl (c_skip (f_blockN (f_then (c_region (sm ?_)))))));refine sy (y_add rfl rfl (by omega)) ?_;refine sa ?_;refine s_nil ?_;exact f_roundP (z + 1) ⟨c1, fun u hu => by
    rw [List.take_add_one, hy] at hu;rcases List.mem_append.1 hu with hu | hu
    ·exact hno u hu
    ·have : u = y := by simpa using hu
     rw [this]; exact hcf⟩ (by omega) ⟨rfl, rfl, rfl, trivial⟩ (fun w h => h)
  | true =>
   rw [show (al.all fun y => !cfr x y) = false from List.all_eq_false.2 ⟨y, List.mem_of_getElem? hy, by rw [hcf]; decide⟩];refine d_nil (f_then (c_condT rfl (csr (sa ?_))));refine snf (c_ret (f_blockR (f_thenR (f_rndR (f_blockR (f_thenR ?_))))));exact f_ret c (res1 rfl rfl) (fun w h => (h.dropAt 1).dropAt 1)
 ·obtain rfl : z = al.length := by omega
  rw [List.take_length] at hno;rw [show (al.all fun y => !cfr x y) = true from List.all_eq_true.2 fun y hy => by rw [hno y hy]; rfl];refine c_seq (csr (sm ?_));refine sm ?_;refine sy (y_lenE tab rfl (hE) rfl) ?_;refine sy (y_F (y_lss rfl rfl) (by omega)) ?_;refine snf (c_condF rfl (c_exit (f_thenE (f_rndE (f_blockE (f_then (csr (sa ?_))))))));refine snf (c_ret ?_);exact f_ret c (res1 rfl rfl) (fun w h => (h.dropAt 1).dropAt 1)
end
end Go.KL
end

section
namespace Go.KL
open Go.Proofs Go.Proofs.Tryz
section
variable {P : Program} {W : World} {n : Nat} {σ : Slots} {Q : Post} {Y : Type}
theorem c_planJL (j dj : Nat) (u : Y → Value) (plan q : List PS) (last : List Nat) (D : World → Prop) (C : Option Y → World → Prop) {id : Nat} {l : List Oper} (hm : P.follows .mixedOrders = true) (hsB : (Region.noSelect l.toArray && planJ l.toArray (drOf last) j plan q (Array.replicate l.toArray.size false)) = true) (hl : planLen (plan ++ q) + 1 = l.toArray.size)
  (hC : Cl (C none)) (h : SJ P n l.toArray (drOf last) D Q j dj u plan q σ C) : SC P n Q (.region id l.toArray true) σ (C none) := by
 obtain ⟨hs, hB⟩ := Bool.and_eq_true_iff.1 hsB;intro a w hE hw;refine wpIn_region_any hm ?_;have h1 := h.s0 _ a hE (fun j hj => by simp [Array.getElem?_replicate] at hj; split at hj <;> simp at hj) hB (Region.noSelect_spec hs);rw [hl] at h1;exact wpAny_of_AnyC _ _ _ _ h1 _ (hC _ _ hw (Ext.drew w))
end
theorem K.perm {W w : World} {A B : List Chunk} (h : K W A w) (p : ∀ x : Chunk, ∀ (_ : DecidableEq Chunk), A.count x = B.count x) : K W B w := h.weak [] (by
 haveI : DecidableEq Chunk := fun a b => Classical.propDecidable (a = b);simpa using (List.perm_iff_count.2 fun x => p x _ : A.Perm B).flatten)
theorem K.fr1 {W w : World} {N G : List Chunk} {d a b c e f : Chunk} (h : K W (d :: a :: b :: c :: e :: f :: (N ++ G)) w) : K W ((d :: N) ++ (a :: b :: c :: e :: f :: G)) w := K.perm h fun x _ => by
 simp only [List.count_append, List.count_cons];omega
theorem K.fr2 {W w : World} {N G : List Chunk} {d u a b c e f : Chunk} (h : K W (u :: ((d :: N) ++ (a :: b :: c :: e :: f :: G))) w) : K W (u :: d :: a :: b :: c :: e :: f :: (N ++ G)) w := K.perm h fun x _ => by
 simp only [List.count_append, List.count_cons];omega
attribute [local irreducible] SC St Fin Sq Ylds Doos Sets Enters Spec CellIs CellsAre Then Ret Rnd Chn resOK ints bools recs arr
section
variable {W : World} {N G : List Chunk} {g : Rg}
theorem grant_spec (hV : RV (K W N) g) {x : Lk} {t : Dt} (hk : 1 ≤ x.tx ∧ x.tx ≤ g.ts.length) (ht : g.ts[x.tx - 1]? = some t) (hl : t.locks.length < 100000) : Spec prog 103 #[g.val, lkv x] (K W (N ++ G))
  (X := { y : Rg × List Chunk // RV (K W (y.2 ++ N)) y.1 ∧ y.1.rb = g.rb.grant x }) (fun y => y.1.1.val) (fun y => K W (y.1.2 ++ (N ++ G))) := by
 have hdl : (dtl g.ts).length = g.ts.length := List.length_map _;have hll : (lks t.locks).length = t.locks.length := List.length_map _;have hn := hV.n;have htm := List.mem_of_getElem? ht;obtain ⟨jx, hjx⟩ : ∃ jx, jx = x.tx - 1 := ⟨_, rfl⟩;have htj := ht;rw [← hjx] at htj;refine enter (args := [_, _]) func103 rfl ntmps103 rfl ?_;refine csr (sbx fun b2 => ?_);refine sbx fun b3 => ?_;refine sal fun b4 => ?_;refine snf (csr (sf 2 ?_));refine slr 2 ?_;refine sf0 ?_;refine slr 1 ?_;refine sy (y_sub rfl rfl (by omega)) ?_;have hE : EV (K W ([(b4, row 42 z42)] :: [(b3, row 111 (lkc x))] :: [(b2, row 42 g.cells)] :: (N ++ G))) g.tv 3 (dtl g.ts) := (hV.t.cls fun _ h => K.pre h).cons.cons.cons;have hrow := hE.row (i := jx) (x := t.cells) (by simp [htj]);refine sy (y_ixE tab rfl rfl rfl rfl (hE) jx (by omega) (by omega)) ?_;refine sy (y_loadA tab rfl rfl rfl rfl hrow) ?_;refine sal fun b5 => ?_;refine ss (sB 0) ?_;refine snf (csr (sf0 ?_));refine ss (set_rowB tab 0 rfl rfl rfl rfl rfl rfl) ?_;refine snf (c_seq ?_);obtain ⟨N0, hN0⟩ : ∃ N0, N0 = [(b5, row 85 [.int .i64 1, t.lv, t.ov])] :: [(b4, row 42 z42)] :: [(b3, row 111 (lkc x))] :: [(b2, row 42 g.cells)] :: (N ++ G) := ⟨_, rfl⟩;obtain ⟨F, hF⟩ : ∃ F : Option Nat → List Chunk, F = flo (fun b => [(b, row 111 (lkc x))]) := ⟨_, rfl⟩;have hD : ∀ (A : List Chunk) (y : Option Nat) (w : World), K W (A ++ (F y ++ N0)) w → K W N0 w := fun A y w h => K.bck (K.bck h);have hEy : ∀ (A : List Chunk) (y : Option Nat), EV (K W (A ++ (F y ++ N0))) t.lv 4 (lks t.locks) := fun A y => (hV.tx t htm).l.cls fun w h => by
  have h2 := hD A y w h;rw [hN0] at h2;exact K.pre h2.tail.tail.tail.tail
 have hc5 : CellsAre (K W N0) ⟨b5, 0, none⟩ [.int .i64 1, t.lv, t.ov] := by rw [hN0]; exact cells_row0 0 rfl rfl
 have hc3 : CellsAre (K W N0) ⟨b3, 0, none⟩ (lkc x) := by rw [hN0]; exact cells_row0 2 rfl rfl
 have hal : ∀ (A : List Chunk) {σ : Slots} {o : Oper}, Doos prog 27 σ (K W (A ++ N0)) o (fun b => Value.slice (some ⟨b, 0, none⟩) 1 1) (fun b => K W ([(b, row 111 (lkc x))] :: (A ++ N0))) → Outs prog 27 σ (K W (A ++ (F none ++ N0))) o (fun b => Value.slice (some ⟨b, 0, none⟩) 1 1) (fun b => K W (A ++ (F (some b) ++ N0))) := fun A σ o h => by
  rw [hF];exact h.outs.conv fun b w hk => K.bckN (A := [[(b, row 111 (lkc x))]]) (B := A) hk
 refine SC.cls (C' := K W ([] ++ (F none ++ N0))) ?_ (fun w h => by rw [hF, hN0]; exact h);refine c_planJL (Y := Nat) 5 19 (fun b => .slice (some ⟨b, 0, none⟩) 1 1) [.c 1, .c 2, .c 4, .s 0, .s 3] [.s 6, .s 7, .s 8] [8] (K W N0) (fun y => K W ([] ++ (F y ++ N0))) mixed (by kernel_rfl) rfl K.cl ?_;refine j_c rfl (Qui.ylds (yB 1)) rfl (fun _ => rfl) rfl rfl rfl rfl rfl (hD _) (fun _ => K.cl) ?_;refine j_c rfl (Qui.ylds (y_load tab rfl rfl (CellsAre.nth 1 hc5 rfl))) rfl (fun _ => rfl) rfl rfl rfl rfl rfl (hD _) (fun _ => K.cl) ?_;refine j_c rfl (Qui.ylds (y_loadA tab rfl rfl rfl rfl hc3)) rfl (fun _ => rfl) rfl rfl rfl rfl rfl (hD _) (fun _ => K.cl) ?_;refine j_s (C' := fun b y => K W ([(b, row 111 [])] :: [] ++ (F y ++ N0))) rfl rfl (fun y => (do_buildSliceS (vs := []) (len := 0) (ps := []) tab ⟨rfl, rfl, rfl, rfl⟩ rfl rfl rfl rfl).outs) (hal [] (do_buildSliceS (vs := [lkv x]) (len := 1) (ps := [_]) tab ⟨rfl, rfl, rfl, rfl⟩ rfl rfl rfl rfl)) rfl (fun _ => rfl) rfl rfl rfl rfl rfl rfl rfl (fun _ => K.cl) (fun _ _ => K.cl) (hD _) (fun b y => hD [_] y) (fun b => ?_);refine j_s (X := { u : Value × Chunk // BufR 111 4 u.1 u.2 ([] ++ lks t.locks) }) (v := fun u => u.1.1) (C' := fun x y => K W ([x.1.2] ++ (F y ++ N0))) rfl rfl (fun y => (do_appendRV (by_ := 32) tab 0 rfl .lit rfl (hEy [_] y) ⟨rfl, rfl, rfl, rfl⟩ rfl (by omega) (Nat.lt_of_sub_eq_succ rfl) rfl (lks_all _) (by simp only [List.length_nil]; omega) (by omega)).outs) (hal [_] (do_buildSliceS (vs := [lkv x]) (len := 1) (ps := [_]) tab ⟨rfl, rfl, rfl, rfl⟩ rfl rfl rfl rfl)) rfl (fun _ => rfl) rfl rfl rfl rfl rfl rfl rfl (fun _ => K.cl) (fun _ _ => K.cl) (hD [_]) (fun x y => hD [_] y) (fun u => ?_);obtain ⟨⟨u, d⟩, hu⟩ := u;have hu : BufR 111 4 u d (lks t.locks) := hu;refine j_j rfl (hal [_] (do_buildSliceS (vs := [lkv x]) (len := 1) (ps := [_]) tab ⟨rfl, rfl, rfl, rfl⟩ rfl rfl rfl rfl)) rfl rfl rfl (fun _ => K.cl) (hD [_]) (fun b19 => ?_);refine Sd.cls (C' := K W (d :: [(b19, row 111 (lkc x))] :: [(b5, row 85 [.int .i64 1, t.lv, t.ov])] :: [(b4, row 42 z42)] :: [(b3, row 111 (lkc x))] :: [(b2, row 42 g.cells)] :: (N ++ G))) ?_ (fun w h => by
  rw [hF, hN0] at h;exact h)
 refine d_s rfl (do_appendR (by_ := 32) (news := lkc x) tab 0 rfl hu rfl ⟨rfl, rfl, rfl, rfl⟩ rfl (by simp) rfl (cells_row0 1 rfl rfl) rfl rfl (by omega) (by omega)) rfl rfl rfl (fun _ => K.cl) (fun _ _ w h => by rw [hN0]; exact h.tail.tail) (fun y => ?_);obtain ⟨⟨u2, d2⟩, hu2⟩ := y;have hu2 : BufR 111 4 u2 d2 (lks (t.locks ++ [x])) := hu2.of (by simp);dsimp only;obtain ⟨pv, kv, rfl, _, _⟩ := (hu2.view (C := K W (d2 :: [])) (Hs.at 0 rfl)).view;refine d_sy rfl (yB 1) rfl rfl rfl K.cl (fun _ w h => by rw [hN0]; exact h.tail.tail) ?_;refine d_set rfl (set_rowB tab 2 rfl rfl rfl rfl rfl rfl) rfl rfl K.cl (fun h => by cases h) ?_;refine d_nil ?_;obtain ⟨t2, ht2⟩ : ∃ t2 : Dt, t2 = ⟨1, t.locks ++ [x], t.os, ⟨pv, kv⟩, t.o⟩ := ⟨_, rfl⟩;clear hal hEy hD hc5 hc3;have h2V : DtV (K W (d2 :: N)) t2 := by
  rw [ht2];exact ⟨hu2.view (Hs.at 0 rfl), (hV.tx t htm).o.cons, fun o ho => ((hV.tx t htm).r o ho).cons⟩
 have hput := put_spec (W := W) (N := d2 :: N) (G := [(b19, row 111 (lkc x))] :: [(b5, row 85 [.int .i64 1, .slice pv (lks (t.locks ++ [x])).length kv, t.ov])] :: [(b4, row 42 z42)] :: [(b3, row 111 (lkc x))] :: [(b2, row 42 g.cells)] :: G) (hV.cons (c := d2)) (k := x.tx) hk h2V;have hrb : (g.setT (g.ts.set (x.tx - 1) t2) ⟨none, 0⟩).rb = g.rb.grant x := by
  rw [ht2];simp [Rg.rb, Rg.setT, RB.grant, RB.put, RB.tx, ht, Dt.rt]
 rw [ht2] at hput;refine f_then (csr (sy (y_loadA tab rfl rfl rfl rfl (cells_row0 5 rfl rfl)) ?_));refine sf0 ?_;refine slr 4 ?_;refine sy (y_loadA tab rfl rfl rfl rfl (cells_row0 2 rfl rfl)) ?_;refine St.cls (C' := K W ((d2 :: N) ++ ([(b19, row 111 (lkc x))] :: [(b5, row 85 [.int .i64 1, .slice pv (lks (t.locks ++ [x])).length kv, t.ov])] :: [(b4, row 42 z42)] :: [(b3, row 111 (lkc x))] :: [(b2, row 42 g.cells)] :: G))) ?_ (fun w h => K.fr1 h);refine sk call104 hput fun y => ?_;obtain ⟨⟨wh, c⟩, hRV⟩ := y;dsimp only at hRV ⊢;refine St.cls (C' := K W (c :: d2 :: [(b19, row 111 (lkc x))] :: [(b5, row 85 [.int .i64 1, .slice pv (lks (t.locks ++ [x])).length kv, t.ov])] :: [(b4, row 42 z42)] :: [(b3, row 111 (lkc x))] :: [(b2, row 42 g.cells)] :: (N ++ G))) ?_ (fun w h => K.fr2 h);refine ss (sB 4) ?_;refine snf (c_ret (f_ret ⟨(_, [c, d2]), hRV, ?_⟩ (resA tab rfl rfl rfl rfl rfl (cells_row0 4 rfl rfl)) (fun w h => ((((h.dropAt 2).dropAt 2).dropAt 2).dropAt 2).dropAt 2)));rw [← hrb, ht2];rfl
end
end Go.KL
end

section
namespace Go.KL
open Go.Proofs Go.Proofs.Tryz
def RB.EndOK (k : Nat) : List Lk → RB → Prop
 | [], _ => True
 | x :: l, b => x.tx = k ∧ EndOK k l b ∨ x.tx ≠ k ∧ b.count < 100000 ∧ b.has x.tx ∧ (b.tx x.tx).locks.length < 100000 ∧ b.Q.length < 100000 ∧ (b.free x b.Q.length = true ∧ EndOK k l (b.grant x) ∨ b.free x b.Q.length = false ∧ EndOK k l ⟨b.size, b.C, b.T, b.Q ++ [x], b.D⟩)
def Rg.setQ (g : Rg) (Q : List Lk) (q : Wh) : Rg := ⟨g.size, g.C, g.m, g.ts, g.t, Q, q, g.ds, g.d⟩
theorem RV.setQ {C D : World → Prop} {g : Rg} {Q : List Lk} {u : Wh} (h : RV C g) (hD : ∀ w, D w → C w) (hv : EV D (.slice u.p (lks Q).length u.c) 4 (lks Q)) : RV D (g.setQ Q u) := ⟨h.m.cls hD, h.t.cls hD, fun t ht => (h.tx t ht).cls hD, hv, h.d.cls hD, fun x hx => ⟨(h.dx x hx).1.cls hD, fun o ho => ((h.dx x hx).2 o ho).cls hD⟩, h.n⟩
theorem K.mv3 {W w : World} {N G : List Chunk} {a b c : Chunk} (h : K W (a :: b :: c :: (N ++ G)) w) : K W (N ++ (a :: b :: c :: G)) w := K.perm h fun x _ => by
 simp only [List.count_append, List.count_cons];omega
theorem K.mv3' {W w : World} {T N G : List Chunk} {a b c : Chunk} (h : K W (T ++ (N ++ (a :: b :: c :: G))) w) : K W (a :: b :: c :: ((T ++ N) ++ G)) w := K.perm h fun x _ => by
 simp only [List.count_append, List.count_cons];omega
theorem K.mv4 {W w : World} {N G : List Chunk} {d a b c : Chunk} (h : K W (d :: (N ++ (a :: b :: c :: G))) w) : K W (a :: b :: c :: ((d :: N) ++ G)) w := K.perm h fun x _ => by
 simp only [List.count_append, List.count_cons];omega
theorem K.mv5 {W w : World} {N : List Chunk} {d e a b c : Chunk} (h : K W (d :: e :: a :: b :: c :: N) w) : K W (a :: b :: c :: (d :: N)) w := (K.perm (B := e :: a :: b :: c :: (d :: N)) h fun x _ => by
 simp only [List.count_cons];omega).tail
attribute [local irreducible] SC St Fin Sq Ylds Doos Sets Enters Spec CellIs CellsAre Then Ret Rnd Chn resOK ints bools recs arr
section
variable {W : World} {N G : List Chunk} {g : Rg}
theorem end_spec (hV : RV (K W N) g) {k s : Nat} {t : Dt} (hk : 1 ≤ k ∧ k ≤ g.ts.length) (ht : g.ts[k - 1]? = some t) (hq : g.Q.length < 100000) (hE0 : RB.EndOK k g.Q ⟨g.size, g.C, (g.rb.put k ⟨s, t.locks, ops t.os⟩).T, [], g.rb.D⟩) : Spec prog 87 #[g.val, .int .i64 (k : Nat), .int .i64 (s : Nat)] (K W (N ++ G))
  (X := { y : Rg × List Chunk // RV (K W (y.2 ++ N)) y.1 ∧ y.1.rb = g.rb.end_ k s }) (fun y => y.1.1.val) (fun y => K W (y.1.2 ++ (N ++ G))) := by
 have hdl : (dtl g.ts).length = g.ts.length := List.length_map _;have hlq : (lks g.Q).length = g.Q.length := List.length_map _;have hn := hV.n;have htm := List.mem_of_getElem? ht;obtain ⟨jx, hjx⟩ : ∃ jx, jx = k - 1 := ⟨_, rfl⟩;have htj := ht;rw [← hjx] at htj;have hVG : RV (K W (N ++ G)) g := hV.cls fun _ h => K.pre h;refine enter (args := [_, _, _]) func87 rfl ntmps87 rfl ?_;refine csr (sbx fun b3 => ?_);refine sal fun b6 => ?_;refine snf (csr (sf 2 ?_));refine slr 1 ?_;refine sm ?_;refine sy (y_sub rfl rfl (by omega)) ?_;have hE : EV (K W ([(b6, row 42 z42)] :: [(b3, row 42 g.cells)] :: (N ++ G))) g.tv 3 (dtl g.ts) := hVG.t.cons.cons;have hrow := hE.row (i := jx) (x := t.cells) (by simp [htj]);refine sy (y_ixE tab rfl rfl rfl rfl (hE) jx (by omega) (by omega)) ?_;refine sy (y_loadA tab rfl rfl rfl rfl hrow) ?_;refine sal fun b7 => ?_;refine ss (sB 0) ?_;refine snf (csr (sm ?_));refine sf0 ?_;refine ss (set_rowB tab 0 rfl rfl rfl rfl rfl rfl) ?_;refine snf (csr (sy (y_loadA tab rfl rfl rfl rfl (cells_row0 2 rfl rfl)) ?_));refine sm ?_;refine sy (y_loadA tab rfl rfl rfl rfl (cells_row0 0 rfl rfl)) ?_;obtain ⟨t1, ht1⟩ : ∃ t1 : Dt, t1 = ⟨s, t.locks, t.os, t.l, t.o⟩ := ⟨_, rfl⟩;have hV1 : DtV (K W N) t1 := by
  rw [ht1];exact ⟨(hV.tx t htm).l, (hV.tx t htm).o, (hV.tx t htm).r⟩
 have hput := put_spec (W := W) (N := N) (G := [(b7, row 85 [.int .i64 (s : Nat), t.lv, t.ov])] :: [(b6, row 42 z42)] :: [(b3, row 42 g.cells)] :: G) hV hk hV1;rw [ht1] at hput;refine St.cls (C' := K W (N ++ ([(b7, row 85 [.int .i64 (s : Nat), t.lv, t.ov])] :: [(b6, row 42 z42)] :: [(b3, row 42 g.cells)] :: G))) ?_ (fun w h => K.mv3 h);refine sk call104 hput fun y => ?_;obtain ⟨⟨wh, c⟩, hRV⟩ := y;dsimp only at hRV ⊢;refine St.cls (C' := K W ([(b7, row 85 [.int .i64 (s : Nat), t.lv, t.ov])] :: [(b6, row 42 z42)] :: [(b3, row 42 g.cells)] :: ((c :: N) ++ G))) ?_ (fun w h => K.mv4 h);refine ss (sB 2) ?_;refine snf (csr (sf 3 ?_));refine slr 2 ?_;refine sa ?_;refine snf (csr (sf 3 ?_));refine ss (set_rowB tab 2 rfl rfl rfl rfl rfl rfl) ?_;refine snf (c_seq (csr (sa ?_)));refine snf (c_block ?_);have hRV := hRV.setQ (fun _ h => h) (Q := []) (u := ⟨none, 0⟩) EV.empty;obtain ⟨g1, hg1⟩ : ∃ g1, g1 = (g.setT (g.ts.set (k - 1) ⟨s, t.locks, t.os, t.l, t.o⟩) wh).setQ [] ⟨none, 0⟩ := ⟨_, rfl⟩;have hrb1 : g1.rb = ⟨g.size, g.C, (g.rb.put k ⟨s, t.locks, ops t.os⟩).T, [], g.rb.D⟩ := by
  rw [hg1];simp [Rg.rb, Rg.setT, Rg.setQ, RB.put, Dt.rt]
 have hend : RB.endl k g.Q g1.rb = g.rb.end_ k s := by
  rw [hrb1, RB.end_, rb_tx ht];rfl
 rw [← hg1] at hRV;rw [← hrb1] at hE0;refine SC.cls (C' := K W ([(b7, row 85 [.int .i64 (s : Nat), t.lv, t.ov])] :: [(b6, row 42 z42)] :: [(b3, row 42 g1.cells)] :: (([] ++ (c :: N)) ++ G))) ?_ (fun w h => by rw [hg1]; exact h);refine c_loopP (α := Nat × Rg × List Chunk) (fun z => [(1, .int .i64 (k : Nat)), (3, .pointer (some ⟨b3, 0, none⟩)), (6, .pointer (some ⟨b6, 0, none⟩)), (8, g.qv), (9, .int .i64 (z.1 : Nat))])
  (fun z => z.1 ≤ g.Q.length ∧ RV (K W (z.2.2 ++ (c :: N))) z.2.1 ∧ RB.endl k (g.Q.drop z.1) z.2.1.rb = g.rb.end_ k s ∧ RB.EndOK k (g.Q.drop z.1) z.2.1.rb)
  (fun z => K W ([(b7, row 85 [.int .i64 (s : Nat), t.lv, t.ov])] :: [(b6, row 42 z42)] :: [(b3, row 42 (z.2.1).cells)] :: ((z.2.2 ++ (c :: N)) ++ G))) (fun z => g.Q.length - z.1) (0, g1, []) ⟨rfl, rfl, rfl, rfl, rfl, trivial⟩ ⟨Nat.zero_le _, hRV, hend, hE0⟩ (fun w h => h) ?_
 clear hrb1 hend hE0 hRV hg1 hput hV1 ht1 hE hrow;rintro ⟨i, h, T⟩ ⟨hi, hR, hen, hok⟩;dsimp only at hi hR hen hok ⊢;have hQ : EV (K W ([(b7, row 85 [.int .i64 (s : Nat), t.lv, t.ov])] :: [(b6, row 42 z42)] :: [(b3, row 42 h.cells)] :: ((T ++ (c :: N)) ++ G))) g.qv 4 (lks g.Q) := hV.q.cls fun w h => (K.bck (K.pre h.tail.tail.tail)).tail;have hRc : RV (K W ([(b7, row 85 [.int .i64 (s : Nat), t.lv, t.ov])] :: [(b6, row 42 z42)] :: [(b3, row 42 h.cells)] :: ((T ++ (c :: N)) ++ G))) h := hR.cls fun w h => K.pre h.tail.tail.tail;by_cases c1 : i < g.Q.length
 ·obtain ⟨x, hx⟩ : ∃ x, g.Q[i]? = some x := ⟨g.Q[i], List.getElem?_eq_getElem c1⟩;have hrow := hQ.row (lks_get hx);rw [drop_get' hx] at hen hok;rcases hok with ⟨hxk, hok⟩ | ⟨hxk, k1, k2, k3, k4, hok⟩
  ·rw [RB.endl, if_pos hxk] at hen;refine c_seq (csr (sm ?_));refine sm ?_;refine sy (y_lenE tab rfl (hQ) rfl) ?_;refine sy (y_T (y_lss rfl rfl) (by omega)) ?_;refine snf (c_condT rfl (c_skip (f_then (c_seq (c_block (c_seq (csr (sm ?_))))))));refine sm ?_;refine sy (y_ixE tab rfl rfl rfl rfl (hQ) _ rfl (by omega)) ?_;refine sf0 ?_;refine sl (CellsAre.at0 (hrow) rfl) ?_;refine sm ?_;refine sy (y_T (y_eql rfl rfl) (by omega)) ?_;refine snf (c_condT rfl (c_exit (f_thenE (f_blockE (f_then (c_region (sm ?_)))))));refine sy (y_add rfl rfl (by omega)) ?_;refine sa ?_;refine s_nil ?_;exact f_roundP (i + 1, h, T) ⟨c1, hR, hen, hok⟩ (by dsimp only; omega) ⟨rfl, rfl, rfl, rfl, rfl, trivial⟩ (fun w h => h)
  ·rw [RB.endl, if_neg hxk] at hen;have hlh : (lks h.Q).length = h.Q.length := List.length_map _;have k5 : h.Q.length < 100000 := k4;have hfr := free_spec hRc (x := x) (n := (lks h.Q).length) (Nat.le_of_eq hlh) k1;have hD := fun (w : World) (h : K W ([(b7, row 85 [.int .i64 (s : Nat), t.lv, t.ov])] :: [(b6, row 42 z42)] :: [(b3, row 42 h.cells)] :: ((T ++ (c :: N)) ++ G)) w) => h;refine c_seq (csr (sm ?_));refine sm ?_;refine sy (y_lenE tab rfl (hQ) rfl) ?_;refine sy (y_T (y_lss rfl rfl) (by omega)) ?_;refine snf (c_condT rfl (c_skip (f_then (c_seq (c_block (c_seq (csr (sm ?_))))))));refine sm ?_;refine sy (y_ixE tab rfl rfl rfl rfl (hQ) _ rfl (by omega)) ?_;refine sf0 ?_;refine sl (CellsAre.at0 (hrow) rfl) ?_;refine sm ?_;refine sy (y_F (y_eql rfl rfl) (by omega)) ?_;refine snf (c_condF rfl (c_skip (f_then (c_seq (c_plan [.c 0, .c 1, .c 2, .c 3, .c 4, .c 5, .c 6, .c 7, .s 8] [] ((K W ([(b7, row 85 [.int .i64 (s : Nat), t.lv, t.ov])] :: [(b6, row 42 z42)] :: [(b3, row 42 h.cells)] :: ((T ++ (c :: N)) ++ G)))) mixed (by kernel_rfl) rfl K.cl ?_)))));refine dy rfl (y_loadA tab rfl rfl rfl rfl (cells_row0 2 rfl rfl)) hD ?_;refine dy rfl (y_move rfl) hD ?_;refine dy rfl (y_move rfl) hD ?_;refine dy rfl (y_ixE tab rfl rfl rfl rfl (hQ) _ rfl (by omega)) hD ?_;refine dy rfl (y_loadA tab rfl rfl rfl rfl hrow) hD ?_;refine dy rfl (yB 3) hD ?_;refine dy rfl (y_load tab rfl rfl (cell_row 2 rfl rfl)) hD ?_;refine dy rfl (y_len tab rfl rfl) hD ?_;refine d_call rfl (en_f rfl call102) hfr rfl rfl rfl (fun _ => K.cl) (fun _ _ _ h => h.tail) (fun _ => ?_);refine Sd.cls (C' := K W ([(b7, row 85 [.int .i64 (s : Nat), t.lv, t.ov])] :: [(b6, row 42 z42)] :: [(b3, row 42 h.cells)] :: ((T ++ (c :: N)) ++ G))) ?_ (fun w h => h.tail);rcases hok with ⟨hf, hok⟩ | ⟨hf, hok⟩
   ·rw [if_pos hf] at hen;have hf : h.rb.free x (lks h.Q).length = true := by rw [hlh]; exact hf
    rw [hf];have hxt : 1 ≤ x.tx ∧ x.tx ≤ h.ts.length := rb_has.1 k2;obtain ⟨u, hu⟩ : ∃ u, h.ts[x.tx - 1]? = some u := ⟨h.ts[x.tx - 1]'(by omega), List.getElem?_eq_getElem (by omega)⟩;have hgr := grant_spec (W := W) (N := T ++ (c :: N)) (G := [(b7, row 85 [.int .i64 (s : Nat), t.lv, t.ov])] :: [(b6, row 42 z42)] :: [(b3, row 42 h.cells)] :: G) hR hxt hu (by rw [rb_tx hu] at k3; exact k3);refine d_nil (f_then (c_condT rfl (c_plan [.c 0, .c 1, .c 2, .c 3, .c 4, .s 5, .s 6] [6] (K W ([(b7, row 85 [.int .i64 (s : Nat), t.lv, t.ov])] :: [(b6, row 42 z42)] :: [(b3, row 42 h.cells)] :: ((T ++ (c :: N)) ++ G))) mixed (by kernel_rfl) rfl K.cl ?_)));refine dy rfl (y_loadA tab rfl rfl rfl rfl (cells_row0 2 rfl rfl)) hD ?_;refine dy rfl (y_move rfl) hD ?_;refine dy rfl (y_move rfl) hD ?_;refine dy rfl (y_ixE tab rfl rfl rfl rfl (hQ) _ rfl (by omega)) hD ?_;refine dy rfl (y_loadA tab rfl rfl rfl rfl hrow) hD ?_;refine Sd.cls (C' := K W ((T ++ (c :: N)) ++ ([(b7, row 85 [.int .i64 (s : Nat), t.lv, t.ov])] :: [(b6, row 42 z42)] :: [(b3, row 42 h.cells)] :: G))) ?_ (fun w h => K.mv3 h);refine d_call rfl (en_f rfl call103) hgr rfl rfl rfl (fun _ => K.cl) (fun _ _ _ h => K.mv3' (T := []) (K.bck h)) (fun y => ?_);obtain ⟨⟨h2, T2⟩, hR2, hb2⟩ := y;dsimp only at hR2 hb2 ⊢;refine Sd.cls (C' := K W ([(b7, row 85 [.int .i64 (s : Nat), t.lv, t.ov])] :: [(b6, row 42 z42)] :: [(b3, row 42 h.cells)] :: (((T2 ++ T) ++ (c :: N)) ++ G))) ?_ (fun w h => by
     have := K.mv3' h;rw [← List.append_assoc T2] at this;exact this)
    refine d_set rfl (set_aggB tab 2 rfl rfl rfl rfl rfl rfl rfl) rfl rfl K.cl (fun h => by cases h) ?_;refine d_nil (f_blockN (f_then (c_region (sm ?_))));refine sy (y_add rfl rfl (by omega)) ?_;refine sa ?_;refine s_nil ?_;exact f_roundP (i + 1, h2, T2 ++ T) ⟨c1, by rw [List.append_assoc]; exact hR2, by rw [hb2]; exact hen, by rw [hb2]; exact hok⟩ (by dsimp only; omega) ⟨rfl, rfl, rfl, rfl, rfl, trivial⟩ (fun w h => h)
   ·rw [if_neg (by rw [hf]; decide)] at hen;have hf : h.rb.free x (lks h.Q).length = false := by rw [hlh]; exact hf
    rw [hf];refine d_nil (f_then (c_condF rfl ?_));obtain ⟨N0, hN0⟩ : ∃ N0, N0 = [(b7, row 85 [.int .i64 (s : Nat), t.lv, t.ov])] :: [(b6, row 42 z42)] :: [(b3, row 42 h.cells)] :: ((T ++ (c :: N)) ++ G) := ⟨_, rfl⟩;obtain ⟨F, hF⟩ : ∃ F : Option Nat → List Chunk, F = flo (fun b => [(b, row 111 (lkc x))]) := ⟨_, rfl⟩;clear hD;have hD : ∀ (A : List Chunk) (y : Option Nat) (w : World), K W (A ++ (F y ++ N0)) w → K W N0 w := fun A y w h => K.bck (K.bck h);have hEy : ∀ (A : List Chunk) (y : Option Nat), EV (K W (A ++ (F y ++ N0))) h.qv 4 (lks h.Q) := fun A y => hRc.q.cls fun w h => by
     have h2 := hD A y w h;rw [hN0] at h2;exact h2
    have hQ0 : EV (K W N0) g.qv 4 (lks g.Q) := by rw [hN0]; exact hQ
    have hrow0 := hQ0.row (lks_get hx);have hc3 : CellsAre (K W N0) ⟨b3, 0, none⟩ h.cells := by rw [hN0]; exact cells_row0 2 rfl rfl
    have hal : ∀ (A : List Chunk) {σ : Slots} {o : Oper}, Doos prog 65 σ (K W (A ++ N0)) o (fun b => Value.slice (some ⟨b, 0, none⟩) 1 1) (fun b => K W ([(b, row 111 (lkc x))] :: (A ++ N0))) → Outs prog 65 σ (K W (A ++ (F none ++ N0))) o (fun b => Value.slice (some ⟨b, 0, none⟩) 1 1) (fun b => K W (A ++ (F (some b) ++ N0))) := fun A σ o h => by
     rw [hF];exact h.outs.conv fun b w hk => K.bckN (A := [[(b, row 111 (lkc x))]]) (B := A) hk
    refine SC.cls (C' := K W ([] ++ (F none ++ N0))) ?_ (fun w h => by rw [hF, hN0]; exact h);refine c_planJL (Y := Nat) 8 61 (fun b => .slice (some ⟨b, 0, none⟩) 1 1) [.c 1, .c 2, .c 4, .c 5, .c 6, .c 7, .s 0, .s 3] [.s 9, .s 10, .s 11] [11] (K W N0) (fun y => K W ([] ++ (F y ++ N0))) mixed (by kernel_rfl) rfl K.cl ?_;refine j_c rfl (Qui.ylds (yB 3)) rfl (fun _ => rfl) rfl rfl rfl rfl rfl (hD _) (fun _ => K.cl) ?_;refine j_c rfl (Qui.ylds (y_load tab rfl rfl (CellsAre.nth 3 hc3 rfl))) rfl (fun _ => rfl) rfl rfl rfl rfl rfl (hD _) (fun _ => K.cl) ?_;refine j_c rfl (Qui.ylds (y_move rfl)) rfl (fun _ => rfl) rfl rfl rfl rfl rfl (hD _) (fun _ => K.cl) ?_;refine j_c rfl (Qui.ylds (y_move rfl)) rfl (fun _ => rfl) rfl rfl rfl rfl rfl (hD _) (fun _ => K.cl) ?_;refine j_c rfl (Qui.ylds (y_ixE tab rfl rfl rfl rfl hQ0 _ rfl (by omega))) rfl (fun _ => rfl) rfl rfl rfl rfl rfl (hD _) (fun _ => K.cl) ?_;refine j_c rfl (Qui.ylds (y_loadA tab rfl rfl rfl rfl hrow0)) rfl (fun _ => rfl) rfl rfl rfl rfl rfl (hD _) (fun _ => K.cl) ?_;refine j_s (C' := fun b y => K W ([(b, row 111 [])] :: [] ++ (F y ++ N0))) rfl rfl (fun y => (do_buildSliceS (vs := []) (len := 0) (ps := []) tab ⟨rfl, rfl, rfl, rfl⟩ rfl rfl rfl rfl).outs) (hal [] (do_buildSliceS (vs := [lkv x]) (len := 1) (ps := [_]) tab ⟨rfl, rfl, rfl, rfl⟩ rfl rfl rfl rfl)) rfl (fun _ => rfl) rfl rfl rfl rfl rfl rfl rfl (fun _ => K.cl) (fun _ _ => K.cl) (hD _) (fun b y => hD [_] y) (fun b => ?_);refine j_s (X := { u : Value × Chunk // BufR 111 4 u.1 u.2 ([] ++ lks h.Q) }) (v := fun u => u.1.1) (C' := fun x y => K W ([x.1.2] ++ (F y ++ N0))) rfl rfl (fun y => (do_appendRV (by_ := 32) tab 0 rfl .lit rfl (hEy [_] y) ⟨rfl, rfl, rfl, rfl⟩ rfl (by omega) (Nat.lt_of_sub_eq_succ rfl) rfl (lks_all _) (by simp only [List.length_nil]; omega) (by omega)).outs) (hal [_] (do_buildSliceS (vs := [lkv x]) (len := 1) (ps := [_]) tab ⟨rfl, rfl, rfl, rfl⟩ rfl rfl rfl rfl)) rfl (fun _ => rfl) rfl rfl rfl rfl rfl rfl rfl (fun _ => K.cl) (fun _ _ => K.cl) (hD [_]) (fun x y => hD [_] y) (fun u => ?_);obtain ⟨⟨u, d⟩, hu⟩ := u;have hu : BufR 111 4 u d (lks h.Q) := hu;refine j_j rfl (hal [_] (do_buildSliceS (vs := [lkv x]) (len := 1) (ps := [_]) tab ⟨rfl, rfl, rfl, rfl⟩ rfl rfl rfl rfl)) rfl rfl rfl (fun _ => K.cl) (hD [_]) (fun b61 => ?_);refine Sd.cls (C' := K W (d :: [(b61, row 111 (lkc x))] :: [(b7, row 85 [.int .i64 (s : Nat), t.lv, t.ov])] :: [(b6, row 42 z42)] :: [(b3, row 42 h.cells)] :: ((T ++ (c :: N)) ++ G))) ?_ (fun w h => by
     rw [hF, hN0] at h;exact h)
    refine d_s rfl (do_appendR (by_ := 32) (news := lkc x) tab 0 rfl hu rfl ⟨rfl, rfl, rfl, rfl⟩ rfl (by simp) rfl (cells_row0 1 rfl rfl) rfl rfl (by omega) (by omega)) rfl rfl rfl (fun _ => K.cl) (fun _ _ w h => by rw [hN0]; exact h.tail.tail) (fun y => ?_);obtain ⟨⟨u2, d2⟩, hu2⟩ := y;have hu2 : BufR 111 4 u2 d2 (lks (h.Q ++ [x])) := hu2.of (by simp);dsimp only;obtain ⟨pv, kv, rfl, _, _⟩ := (hu2.view (C := K W (d2 :: [])) (Hs.at 0 rfl)).view;refine d_sy rfl (yB 3) rfl rfl rfl K.cl (fun _ w h => by rw [hN0]; exact h.tail.tail) ?_;refine d_set rfl (set_rowB tab 4 rfl rfl rfl rfl rfl rfl) rfl rfl K.cl (fun h => by cases h) ?_;refine d_nil ?_;have hRq : RV (K W ((d2 :: T) ++ (c :: N))) (h.setQ (h.Q ++ [x]) ⟨pv, kv⟩) := hR.setQ (fun w h => h.tail) (hu2.view (Hs.at 0 rfl));clear hal hEy hD hc3 hQ0 hrow0;refine f_blockN (f_then (c_region (sm ?_)));refine sy (y_add rfl rfl (by omega)) ?_;refine sa ?_;refine s_nil ?_;exact f_roundP (i + 1, h.setQ (h.Q ++ [x]) ⟨pv, kv⟩, d2 :: T) ⟨c1, hRq, hen, hok⟩ (by dsimp only; omega) ⟨rfl, rfl, rfl, rfl, rfl, trivial⟩ (fun w h => K.mv5 h)
 ·obtain rfl : i = g.Q.length := by omega
  rw [List.drop_length] at hen;refine c_seq (csr (sm ?_));refine sm ?_;refine sy (y_lenE tab rfl (hQ) rfl) ?_;refine sy (y_F (y_lss rfl rfl) (by omega)) ?_;refine snf (c_condF rfl (c_exit (f_thenE (f_rndE (f_blockE (f_then (csr (sy (y_loadA tab rfl rfl rfl rfl (cells_row0 2 rfl rfl)) ?_))))))));refine ss (sB 1) ?_;refine snf (c_ret ?_);exact f_ret ⟨(h, T ++ [c]), by rw [List.append_assoc]; exact hR, hen⟩ (resA tab rfl rfl rfl rfl rfl (cells_row0 1 rfl rfl)) (fun w h => by
   have := h.tail.tail.tail;rw [List.append_assoc];rw [List.append_assoc] at this;exact this)
end
end Go.KL
end

section
namespace Go.KL
namespace Sm
variable {A : Bk} {b : RB} {m : Nat}
abbrev qs (b : RB) (Q : List Lk) : RB := ⟨b.size, b.C, b.T, Q, b.D⟩
theorem free_qs {b : RB} {Q : List Lk} {x : Lk} : (qs b (b.Q ++ Q)).free x b.Q.length = b.free x b.Q.length := by
 unfold RB.free;rw [List.take_left, List.take_length];rfl
theorem endl_gr {k : Nat} : ∀ (L : List Lk) (l : List Nat) (A : Bk) (b : RB) (st : List Nat), (A.wq (st ++ l)).Inv m → Sm (A.wq (st ++ l)) (qs b (b.Q ++ l.map fun j => (A.tx j).req)) →
  b.Q = (st.map fun j => (A.tx j).req) → (L.filter fun x => !decide (x.tx = k)) = (l.map fun j => (A.tx j).req) →
  Sm ((Bk.gr A l st).1.wq (Bk.gr A l st).2) (RB.endl k L b) ∧ RB.EndOK k L b
 | [], l, A, b, st, hI, hS, hQ, hL => by
  have : l = [] := by
   cases l with
   | nil => rfl
   | cons a l => simp at hL
  subst this;rw [List.append_nil, List.map_nil, List.append_nil] at hS;exact ⟨hS, trivial⟩
 | x :: L, l, A, b, st, hI, hS, hQ, hL => by
  by_cases c : x.tx = k
  ·rw [List.filter_cons, if_neg (by simp [c])] at hL;obtain ⟨h1, h2⟩ := endl_gr L l A b st hI hS hQ hL;rw [RB.endl, if_pos c];exact ⟨h1, .inl ⟨c, h2⟩⟩
  ·rw [List.filter_cons, if_pos (by simp [c])] at hL;obtain ⟨j, l', rfl, hx, hL⟩ : ∃ j l', l = j :: l' ∧ x = (A.tx j).req ∧ (L.filter fun x => !decide (x.tx = k)) = (l'.map fun j => (A.tx j).req) := by
    cases l with
    | nil => simp at hL
    | cons j l' =>
     rw [List.map_cons] at hL;exact ⟨j, l', rfl, (List.cons.inj hL).1, (List.cons.inj hL).2⟩
   have hjq : j ∈ (A.wq (st ++ j :: l')).q := List.mem_append_right _ (List.mem_cons_self ..);obtain ⟨hj1, hj2, _⟩ := hI.rq j hjq;have hj1 : (A.tx j).req.tx = j := hj1;have hj2 : (A.tx j).req.lo < (A.tx j).req.hi := hj2;have hh : (A.wq (st ++ j :: l')).has j := hI.qhas hjq;have hr : j ∈ A.rn := hI.qrn hjq;have hb : b.has j := hS.has.2 hh;have hxj : x.tx = j := by rw [hx]; exact hj1
   have hlen : b.Q.length = st.length := by rw [hQ, List.length_map]
   have hfr : b.free x b.Q.length = A.free (A.tx j).req st := by
    have := hS.free hI (x := x) (by rw [hx]; exact hj2) b.Q.length;rw [free_qs] at this;rw [this, hlen, hx];show A.free (A.tx j).req ((st ++ j :: l').take st.length) = _;rw [List.take_left]
   have hnd := (nodup_mid (l := l') (k := j) (st := st) hI.qnd).1;have hcn : b.count < 100000 := by
    have h1 := hS.count hI;have h2 := hI.cnt;unfold RB.count at h1 ⊢;have h3 : (qs b (b.Q ++ (j :: l').map fun j => (A.tx j).req)).locks = b.locks := rfl;have h4 : b.Q.length ≤ (qs b (b.Q ++ (j :: l').map fun j => (A.tx j).req)).Q.length := by
     show _ ≤ (b.Q ++ _).length;rw [List.length_append];omega
    rw [h3] at h1;omega
   have hrun := hS.run j hr;have hrun1 : (b.tx j).locks = (A.tx j).locks := hrun.1;have hrun2 : (b.tx j).ops = (A.tx j).ops := hrun.2;have hll : (b.tx x.tx).locks.length < 100000 := by
    rw [hxj, hrun1];have h2 := hI.cnt;unfold Bk.count at h2;have h3 : (A.tx j).locks.length ≤ (A.rn.map fun k => (A.tx k).locks.length).sum := sum_mem (f := fun k => (A.tx k).locks.length) hr;have h4 : ((A.wq (st ++ j :: l')).rn.map fun k => ((A.wq (st ++ j :: l')).tx k).locks.length).sum = (A.rn.map fun k => (A.tx k).locks.length).sum := rfl;rw [h4] at h2;omega
   have hqn : b.Q.length < 100000 := by
    unfold RB.count at hcn;omega
   rw [RB.endl, if_neg c];cases hf : A.free (A.tx j).req st with
   | true =>
    rw [hf] at hfr;rw [if_pos hfr];have e : Bk.gr A (j :: l') st = Bk.gr (A.grant j) l' st := by rw [Bk.gr, if_pos hf]
    rw [e];have hI2 := Bk.grant_inv hI hf;have hreq : ∀ i ∈ st ++ l', ((A.grant j).tx i).req = (A.tx i).req := fun i hi => by
     have hne : i ≠ j := fun e => hnd (e ▸ hi);have hin : i ∈ (A.wq (st ++ j :: l')).q := Bk.mem_mid.2 (.inr hi);have hhi : (A.wq (st ++ j :: l')).has i := hI.qhas hin;rw [Bk.grant_tx (A := A) hh hhi, if_neg hne]
    have hm1 : (st.map fun i => ((A.grant j).tx i).req) = (st.map fun i => (A.tx i).req) := List.map_congr_left fun i hi => hreq i (List.mem_append_left _ hi);have hm2 : (l'.map fun i => ((A.grant j).tx i).req) = (l'.map fun i => (A.tx i).req) := List.map_congr_left fun i hi => hreq i (List.mem_append_right _ hi);have hup := hS.upd hI (k := j) (t := ⟨1, (A.tx j).locks ++ [(A.tx j).req], Lk.zero, (A.tx j).ops⟩) (u := ⟨1, (b.tx j).locks ++ [x], (b.tx j).ops⟩) (q := st ++ l') (W := A.W) (Q := b.Q ++ l'.map fun i => ((A.grant j).tx i).req) hh rfl (fun _ => ⟨by rw [hrun1, hx], hrun2⟩) (by
     rw [hm2, hQ, ← List.map_append];refine List.map_congr_left fun i hi => ?_;rw [if_neg (show i ≠ j from fun e => hnd (e ▸ hi))];rfl) (fun i hi => hI.qhas (Bk.mem_mid.2 (.inr hi)))
    have hbg : b.grant x = b.put j ⟨1, (b.tx j).locks ++ [x], (b.tx j).ops⟩ := by rw [RB.grant, hxj]
    obtain ⟨h1, h2⟩ := endl_gr L l' (A.grant j) (b.grant x) st hI2 (by
     rw [hbg];exact hup) (by
     rw [hm1];exact hQ) (by rw [hm2]; exact hL)
    exact ⟨h1, .inr ⟨c, hcn, by rw [hxj]; exact hb, hll, hqn, .inl ⟨hfr, h2⟩⟩⟩
   | false =>
    rw [hf] at hfr;rw [if_neg (by rw [hfr]; decide)];have e : Bk.gr A (j :: l') st = Bk.gr A l' (st ++ [j]) := by rw [Bk.gr, if_neg (by rw [hf]; decide)]
    rw [e];have ea : st ++ j :: l' = (st ++ [j]) ++ l' := by simp
    obtain ⟨h1, h2⟩ := endl_gr L l' A (qs b (b.Q ++ [x])) (st ++ [j]) (by rw [← ea]; exact hI) (by
     rw [← ea];have ex : qs (qs b (b.Q ++ [x])) ((qs b (b.Q ++ [x])).Q ++ l'.map fun j => (A.tx j).req) = qs b (b.Q ++ (j :: l').map fun j => (A.tx j).req) := by
      simp [qs, hx]
     rw [ex];exact hS) (by
     show b.Q ++ [x] = _;rw [hQ, List.map_append, hx];rfl) hL
    exact ⟨h1, .inr ⟨c, hcn, by rw [hxj]; exact hb, hll, hqn, .inr ⟨hfr, h2⟩⟩⟩
theorem ended (h : Sm A b) {k s : Nat} {r : Lk} {C W : Nat → Nat} {lg : List (Nat × List Oa)} {u : RT} (hk : A.has k) (hs : u.st = s) (hI : A.Inv m) (hE : (A.ended k s r C W lg).Inv m) :
  Sm (A.ended k s r C W lg).fin (RB.endl k b.Q ⟨b.size, C, (b.put k u).T, [], lg⟩) ∧ RB.EndOK k b.Q ⟨b.size, C, (b.put k u).T, [], lg⟩ := by
 have hkb := h.has.2 hk;have hb : ∀ {j}, A.has j → (⟨b.size, C, (b.put k u).T, [], lg⟩ : RB).tx j = if j = k then u else b.tx j := fun hj => RB.tx_put hkb (h.has.2 hj);refine endl_gr b.Q (A.ended k s r C W lg).q (A.ended k s r C W lg) ⟨b.size, C, (b.put k u).T, [], lg⟩ [] hE ?_ rfl ?_
 ·refine ⟨h.size, rfl, ?_, fun j hj => ?_, fun j hj => ?_, ?_, rfl⟩
  ·show (b.T.set _ _).length = (A.ts.set _ _).length;rw [List.length_set, List.length_set, h.len]
  ·have hj' : A.has j := Bk.ended_has.1 hj;show ((⟨b.size, C, (b.put k u).T, [], lg⟩ : RB).tx j).st = ((A.ended k s r C W lg).tx j).st;rw [hb hj', Bk.ended_tx hk hj'];split
   ·exact hs
   ·exact h.st j hj'
  ·obtain ⟨hj1, hne⟩ := Bk.mem_ne.1 (show j ∈ A.rn.filter fun j => !decide (j = k) from hj);have hj' := hI.has hj1;show ((⟨b.size, C, (b.put k u).T, [], lg⟩ : RB).tx j).locks = ((A.ended k s r C W lg).tx j).locks ∧ ((⟨b.size, C, (b.put k u).T, [], lg⟩ : RB).tx j).ops = ((A.ended k s r C W lg).tx j).ops;rw [hb hj', Bk.ended_tx hk hj', if_neg hne, if_neg hne];exact h.run j hj1
  ·show [] ++ _ = _;rfl
 ·show (b.Q.filter fun x => !decide (x.tx = k)) = ((A.q.filter fun j => !decide (j = k)).map fun j => ((A.ended k s r C W lg).tx j).req);rw [h.Q, Bk.reqs, List.filter_map];have e1 : (A.q.filter ((fun x : Lk => !decide (x.tx = k)) ∘ fun j => (A.tx j).req)) = (A.q.filter fun j => !decide (j = k)) := List.filter_congr fun j hj => by
   show (!decide ((A.tx j).req.tx = k)) = _;rw [(hI.rq j hj).1]
  rw [e1];refine List.map_congr_left fun j hj => ?_;obtain ⟨hj1, hne⟩ := Bk.mem_ne.1 hj;rw [Bk.ended_tx hk (hI.qhas hj1), if_neg hne]
theorem abort (h : Sm A b) {k : Nat} (hk : A.has k) (hI : A.Inv m) : Sm (A.abort k) (b.end_ k 4) ∧ RB.EndOK k b.Q ⟨b.size, b.C, (b.put k ⟨4, (b.tx k).locks, (b.tx k).ops⟩).T, [], b.D⟩ := by
 rw [Bk.abort_eq hk];have := h.ended (C := A.C) (W := KL.un A.W (A.tx k).ops) (lg := A.log) (r := Lk.zero) (s := 4) (u := ⟨4, (b.tx k).locks, (b.tx k).ops⟩) hk rfl hI (hI.ab hk);rw [← h.C, ← h.D] at this ⊢;exact this
theorem commit (h : Sm A b) {k : Nat} (hr : k ∈ A.rn) (hI : A.Inv m) : Sm (A.commit k) (b.commit k) ∧ RB.EndOK k b.Q ⟨b.size, ap b.C (b.tx k).ops, (b.put k ⟨3, (b.tx k).locks, (b.tx k).ops⟩).T, [], b.D ++ [(k, (b.tx k).ops)]⟩ := by
 have hk := hI.has hr;rw [Bk.commit_eq hk];have := h.ended (C := ap A.C (A.tx k).ops) (W := A.W) (lg := A.log ++ [(k, (A.tx k).ops)]) (r := (A.tx k).req) (s := 3) (u := ⟨3, (b.tx k).locks, (b.tx k).ops⟩) hk rfl hI (hI.cm hk hr);rw [← h.C, ← h.D, ← (h.run k hr).2] at this ⊢;exact this
theorem begin (h : Sm A b) (hI : A.Inv m) : Sm A.begin b.begin := by
 have hl := h.len;have htb : ∀ {j}, A.has j → b.begin.tx j = b.tx j := fun {j} hj => by
  unfold Bk.has at hj;unfold RB.tx RB.begin;rw [List.getD_eq_getElem?_getD, List.getD_eq_getElem?_getD, List.getElem?_append_left (by omega)]
 have hnb : b.begin.tx (A.ts.length + 1) = ⟨1, [], []⟩ := by
  unfold RB.tx RB.begin;rw [List.getD_eq_getElem?_getD, List.getElem?_append_right (by omega), show A.ts.length + 1 - 1 - b.T.length = 0 from by omega];rfl
 refine ⟨h.size, h.C, by simp [RB.begin, Bk.begin, hl], fun j hj => ?_, fun j hj => ?_, ?_, h.D⟩
 ·rcases Bk.begin_has.1 hj with c | rfl
  ·rw [htb c, Bk.begin_tx c]; exact h.st j c
  ·rw [hnb, Bk.begin_new]; rfl
 ·rcases List.mem_append.1 (show j ∈ A.rn ++ [A.ts.length + 1] from hj) with c | c
  ·have := hI.has c;rw [htb this, Bk.begin_tx this];exact h.run j c
  ·rw [List.mem_singleton.1 c, hnb, Bk.begin_new];exact ⟨rfl, rfl⟩
 ·show b.Q = A.q.map fun j => (A.begin.tx j).req;rw [h.Q, Bk.reqs];exact List.map_congr_left fun j hj => by rw [Bk.begin_tx (hI.qhas hj)]
end Sm
end Go.KL
end

section
namespace Go.KL
open Go.Proofs Go.Proofs.Tryz
theorem K.mv2 {W w : World} {N G : List Chunk} {a b : Chunk} (h : K W (a :: b :: (N ++ G)) w) : K W (N ++ (a :: b :: G)) w := K.perm h fun x _ => by
 simp only [List.count_append, List.count_cons];omega
theorem K.mv2' {W w : World} {T N G : List Chunk} {a b : Chunk} (h : K W (T ++ (N ++ (a :: b :: G))) w) : K W (a :: b :: (T ++ (N ++ G))) w := K.perm h fun x _ => by
 simp only [List.count_append, List.count_cons];omega
def RB.Ab (b : RB) (k : Int) (b' : RB) (e : Nat) : Prop := (b.ref k false ≠ 0 ∧ b' = b ∧ e = b.ref k false) ∨ (b.ref k false = 0 ∧ e = 0 ∧ ∃ j : Nat, k = j ∧ b' = b.end_ j 4)
attribute [local irreducible] SC St Fin Sq Ylds Doos Sets Enters Spec CellIs CellsAre Then Ret Rnd Chn resOK ints bools recs arr
section
variable {W : World} {N G : List Chunk} {g : Rg}
theorem RAbort_spec (hV : RV (K W N) g) {k : Int} (h5 : g.rb.stI k < 5) (hq : g.Q.length < 100000) (hE0 : ∀ (j : Nat) (t : Dt), k = j → g.rb.ref k false = 0 → g.ts[j - 1]? = some t → RB.EndOK j g.Q ⟨g.size, g.C, (g.rb.put j ⟨4, t.locks, ops t.os⟩).T, [], g.rb.D⟩) : Spec prog 50 #[g.val, .int .i64 k] (K W (N ++ G))
  (X := { y : Rg × List Chunk × Nat // RV (K W (y.2.1 ++ N)) y.1 ∧ g.rb.Ab k y.1.rb y.2.2 }) (fun y => .tuple #[y.1.1.val, .int .i64 (y.1.2.2 : Nat)]) (fun y => K W (y.1.2.1 ++ (N ++ G))) := by
 have hVG : RV (K W (N ++ G)) g := hV.cls fun _ h => K.pre h;refine enter (args := [_, _]) func50 rfl ntmps50 rfl ?_;refine csr (sbx fun b2 => ?_);refine sal fun b4 => ?_;refine sa ?_;refine snf (csr (sy (y_loadA tab rfl rfl rfl rfl (cells_row0 1 rfl rfl)) ?_));refine sm ?_;refine sk call83 (refused_spec hVG.cons.cons h5) fun _ => ?_;obtain ⟨e, he⟩ : ∃ e, g.rb.ref k false = e := ⟨_, rfl⟩;rw [he];by_cases c : e = 0
 ·subst c;have hst : 1 ≤ k ∧ k ≤ g.ts.length := by
   refine Classical.byContradiction fun hc => ?_;have h0 : g.rb.stI k = 0 := by rw [RB.stI, if_neg (by simp only [Rg.rb, List.length_map]; exact hc)]
   rw [RB.ref, if_pos h0] at he;cases he
  obtain ⟨j, rfl⟩ : ∃ j : Nat, k = j := ⟨k.toNat, by omega⟩;obtain ⟨t, ht⟩ : ∃ t, g.ts[j - 1]? = some t := ⟨g.ts[j - 1]'(by omega), List.getElem?_eq_getElem (by omega)⟩;have hen := end_spec (W := W) (G := [(b4, row 42 z42)] :: [(b2, row 42 g.cells)] :: G) (s := 4) hV (by omega) ht hq (hE0 j t rfl he ht);refine sa ?_;refine snf (c_seq (csr (sm ?_)));refine sy (y_F (y_neq rfl rfl) (by omega)) ?_;refine snf (c_condF rfl (c_skip (f_then (csr (sy (y_loadA tab rfl rfl rfl rfl (cells_row0 1 rfl rfl)) ?_)))));refine sm ?_;refine St.cls (C' := K W (N ++ ([(b4, row 42 z42)] :: [(b2, row 42 g.cells)] :: G))) ?_ (fun w h => K.mv2 h);refine sk call87 hen fun y => ?_;obtain ⟨⟨g2, T⟩, hR2, hb2⟩ := y;dsimp only at hR2 hb2 ⊢;refine St.cls (C' := K W ([(b4, row 42 z42)] :: [(b2, row 42 g.cells)] :: (T ++ (N ++ G)))) ?_ (fun w h => K.mv2' h);refine ss (sB 0) ?_;refine sa ?_;refine snf (c_ret ?_);exact f_ret ⟨(g2, T, 0), hR2, .inr ⟨he, rfl, j, rfl, hb2⟩⟩ (resA1 tab rfl rfl rfl rfl rfl rfl (cells_row0 0 rfl rfl)) (fun w h => h.tail.tail)
 ·refine sa ?_;refine snf (c_seq (csr (sm ?_)));refine sy (y_T (y_neq rfl rfl) (by omega)) ?_;refine snf (c_condT rfl (csr (sy (y_loadA tab rfl rfl rfl rfl (cells_row0 1 rfl rfl)) ?_)));refine sm ?_;refine ss (sB 0) ?_;refine sa ?_;refine snf (c_ret (f_thenR ?_));exact f_ret ⟨(g, [], e), hV, .inl ⟨by rw [he]; exact c, rfl, he.symm⟩⟩ (resA1 tab rfl rfl rfl rfl rfl rfl (cells_row0 0 rfl rfl)) (fun w h => h.tail.tail)
end
end Go.KL
end

section
namespace Go.KL
open Go.Proofs Go.Proofs.Tryz
def Rg.setM (g : Rg) (C : Nat → Nat) (m : Wh) : Rg := ⟨g.size, C, m, g.ts, g.t, g.Q, g.q, g.ds, g.d⟩
def Rg.setD (g : Rg) (ds : List Lg) (d : Wh) : Rg := ⟨g.size, g.C, g.m, g.ts, g.t, g.Q, g.q, ds, d⟩
theorem RV.setM {C D : World → Prop} {g : Rg} {f : Nat → Nat} {u : Wh} (h : RV C g) (hD : ∀ w, D w → C w) (hm : RMp D (.slice u.p (rnl (rns f 0 g.size)).length u.c) g.size f) : RV D (g.setM f u) := ⟨hm, h.t.cls hD, fun t ht => (h.tx t ht).cls hD, h.q.cls hD, h.d.cls hD, fun x hx => ⟨(h.dx x hx).1.cls hD, fun o ho => ((h.dx x hx).2 o ho).cls hD⟩, h.n⟩
theorem RV.setD {C D : World → Prop} {g : Rg} {ds : List Lg} {u : Wh} (h : RV C g) (hD : ∀ w, D w → C w) (hv : EV D (.slice u.p (lgr ds).length u.c) 2 (lgr ds)) (hx : ∀ x ∈ ds, EV D x.2.1 6 (opl x.2.2) ∧ ∀ o ∈ x.2.2, EV D o.2 3 (rnl o.1.runs)) : RV D (g.setD ds u) := ⟨h.m.cls hD, h.t.cls hD, fun t ht => (h.tx t ht).cls hD, h.q.cls hD, hv, hx, h.n⟩
theorem lgr_one {C : World → Prop} {ds : List Lg} (h : ∀ x ∈ ds, EV C x.2.1 6 (opl x.2.2) ∧ ∀ o ∈ x.2.2, EV C o.2 3 (rnl o.1.runs)) : ∀ r ∈ lgr ds, r.all Value.oneCell' = true := fun r hr => by
 obtain ⟨x, hx, rfl⟩ := List.mem_map.1 hr;obtain ⟨pa, c, e, _, _⟩ := (h x hx).1.view;rw [e];rfl
theorem K.mv6 {W w : World} {T N G : List Chunk} {d e a b : Chunk} (h : K W (d :: e :: a :: b :: (T ++ (N ++ G))) w) : K W ((d :: (T ++ N)) ++ (a :: b :: G)) w := (K.perm (B := e :: ((d :: (T ++ N)) ++ (a :: b :: G))) h fun x _ => by
 simp only [List.count_append, List.count_cons];omega).tail
def RB.Cm (b : RB) (k : Int) (b' : RB) (n e : Nat) : Prop := (b.ref k true ≠ 0 ∧ b' = b ∧ n = 0 ∧ e = b.ref k true) ∨ (b.ref k true = 0 ∧ e = 0 ∧ n = b.D.length + 1 ∧ ∃ j : Nat, k = j ∧ b' = b.commit j)
attribute [local irreducible] SC St Fin Sq Ylds Doos Sets Enters Spec CellIs CellsAre Then Ret Rnd Chn resOK ints bools recs arr
section
variable {W : World} {N G : List Chunk} {g : Rg}
theorem RCommit_spec (hV : RV (K W N) g) {k : Int} (h5 : g.rb.stI k < 5) (hq : g.Q.length < 100000) (hds : g.ds.length < 100000)
  (hT : ∀ (j : Nat) (t : Dt), k = j → g.rb.ref k true = 0 → g.ts[j - 1]? = some t → Rep g.size g.C (ops t.os) ∧ (∀ i, nbd (ap g.C ((ops t.os).take i)) g.size ≤ 4096) ∧ t.os.length < 100000 ∧ RB.EndOK j g.Q ⟨g.size, ap g.C (ops t.os), (g.rb.put j ⟨3, t.locks, ops t.os⟩).T, [], g.rb.D ++ [(j, ops t.os)]⟩) : Spec prog 49 #[g.val, .int .i64 k] (K W (N ++ G))
  (X := { y : Rg × List Chunk × Nat × Nat // RV (K W (y.2.1 ++ N)) y.1 ∧ g.rb.Cm k y.1.rb y.2.2.1 y.2.2.2 }) (fun y => .tuple #[y.1.1.val, .int .i64 (y.1.2.2.1 : Nat), .int .i64 (y.1.2.2.2 : Nat)]) (fun y => K W (y.1.2.1 ++ (N ++ G))) := by
 have hVG : RV (K W (N ++ G)) g := hV.cls fun _ h => K.pre h;have hdl : (dtl g.ts).length = g.ts.length := List.length_map _;have hgl : (lgr g.ds).length = g.ds.length := List.length_map _;have hn := hV.n;refine enter (args := [_, _]) func49 rfl ntmps49 rfl ?_;refine csr (sbx fun b2 => ?_);refine sal fun b4 => ?_;refine sa ?_;refine sa ?_;refine snf (csr (sy (y_loadA tab rfl rfl rfl rfl (cells_row0 1 rfl rfl)) ?_));refine sm ?_;refine sk call83 (refused_spec hVG.cons.cons h5) fun _ => ?_;obtain ⟨e, he⟩ : ∃ e, g.rb.ref k true = e := ⟨_, rfl⟩;rw [he];by_cases c : e = 0
 ·subst c;have hst : 1 ≤ k ∧ k ≤ g.ts.length := by
   refine Classical.byContradiction fun hc => ?_;have h0 : g.rb.stI k = 0 := by rw [RB.stI, if_neg (by simp only [Rg.rb, List.length_map]; exact hc)]
   rw [RB.ref, if_pos h0] at he;cases he
  obtain ⟨j, rfl⟩ : ∃ j : Nat, k = j := ⟨k.toNat, by omega⟩;obtain ⟨jx, hjx⟩ : ∃ jx, jx = j - 1 := ⟨_, rfl⟩;obtain ⟨t, ht⟩ : ∃ t, g.ts[j - 1]? = some t := ⟨g.ts[j - 1]'(by omega), List.getElem?_eq_getElem (by omega)⟩;have htj := ht;rw [← hjx] at htj;have htm := List.mem_of_getElem? ht;obtain ⟨t1, t2, t3, t4⟩ := hT j t rfl he ht;have hvw := View_spec (W := W) (G := [(b4, row 42 z42)] :: [(b2, row 42 g.cells)] :: G) hV (k := j) (by omega) ht t1 t2 (by omega);refine sa ?_;refine snf (c_seq (csr (sm ?_)));refine sy (y_F (y_neq rfl rfl) (by omega)) ?_;refine snf (c_condF rfl (c_skip (f_then (csr (sy (y_loadA tab rfl rfl rfl rfl (cells_row0 1 rfl rfl)) ?_)))));refine sm ?_;refine St.cls (C' := K W (N ++ ([(b4, row 42 z42)] :: [(b2, row 42 g.cells)] :: G))) ?_ (fun w h => K.mv2 h);refine sk call85 hvw fun y => ?_;obtain ⟨⟨vm, T⟩, hRm⟩ := y;dsimp only at hRm ⊢;obtain ⟨pm, km, rfl, _, _⟩ := hRm.v.view;have hR1 : RV (K W (T ++ N)) (g.setM (ap g.C (ops t.os)) ⟨pm, km⟩) := hV.setM (fun w h => K.bck h) hRm;refine St.cls (C' := K W ([(b4, row 42 z42)] :: [(b2, row 42 g.cells)] :: (T ++ (N ++ G)))) ?_ (fun w h => K.mv2' h);refine sf0 ?_;refine ss (set_aggB tab 1 rfl rfl rfl rfl rfl rfl rfl) ?_;refine snf (c_seq ?_);obtain ⟨N0, hN0⟩ : ∃ N0, N0 = [(b4, row 42 z42)] :: [(b2, row 42 [.int .i64 (g.size : Nat), .slice pm (rnl (rns (ap g.C (ops t.os)) 0 g.size)).length km, g.tv, g.qv, g.dv])] :: (T ++ (N ++ G)) := ⟨_, rfl⟩;have hVc : RV (K W N0) g := by rw [hN0]; exact hV.cls fun w h => K.pre (K.bck h.tail.tail)
  obtain ⟨F, hF⟩ : ∃ F : Option Nat → List Chunk, F = flo (fun b => [(b, row 58 [.int .i64 (j : Nat), t.ov])]) := ⟨_, rfl⟩;have hD : ∀ (A : List Chunk) (y : Option Nat) (w : World), K W (A ++ (F y ++ N0)) w → K W N0 w := fun A y w h => K.bck (K.bck h);have hEy : ∀ (A : List Chunk) (y : Option Nat), EV (K W (A ++ (F y ++ N0))) g.dv 2 (lgr g.ds) := fun A y => hVc.d.cls (hD A y);have hE0 := hVc.t;have hrow0 := hE0.row (i := jx) (x := t.cells) (by simp [htj]);have hc2 : CellsAre (K W N0) ⟨b2, 0, none⟩ [.int .i64 (g.size : Nat), .slice pm (rnl (rns (ap g.C (ops t.os)) 0 g.size)).length km, g.tv, g.qv, g.dv] := by rw [hN0]; exact cells_row0 1 rfl rfl
  have hone := lgr_one hVc.dx;have hal : ∀ (A : List Chunk) {σ : Slots} {o : Oper}, Doos prog 41 σ (K W (A ++ N0)) o (fun b => Value.slice (some ⟨b, 0, none⟩) 1 1) (fun b => K W ([(b, row 58 [.int .i64 (j : Nat), t.ov])] :: (A ++ N0))) → Outs prog 41 σ (K W (A ++ (F none ++ N0))) o (fun b => Value.slice (some ⟨b, 0, none⟩) 1 1) (fun b => K W (A ++ (F (some b) ++ N0))) := fun A σ o h => by
   rw [hF];exact h.outs.conv fun b w hk => K.bckN (A := [[(b, row 58 [.int .i64 (j : Nat), t.ov])]]) (B := A) hk
  refine SC.cls (C' := K W ([] ++ (F none ++ N0))) ?_ (fun w h => by rw [hF, hN0]; exact h);refine c_planJL (Y := Nat) 13 32 (fun b => .slice (some ⟨b, 0, none⟩) 1 1) [.c 1, .c 2, .c 4, .c 5, .c 6, .c 7, .c 8, .c 9, .c 10, .c 11, .c 12, .s 0, .s 3] [.s 14, .s 15, .s 16] [16] (K W N0) (fun y => K W ([] ++ (F y ++ N0))) mixed (by kernel_rfl) rfl K.cl ?_;refine j_c rfl (Qui.ylds (yB 4)) rfl (fun _ => rfl) rfl rfl rfl rfl rfl (hD _) (fun _ => K.cl) ?_;refine j_c rfl (Qui.ylds (y_load tab rfl rfl (CellsAre.nth 4 hc2 rfl))) rfl (fun _ => rfl) rfl rfl rfl rfl rfl (hD _) (fun _ => K.cl) ?_;refine j_c rfl (Qui.ylds (y_move rfl)) rfl (fun _ => rfl) rfl rfl rfl rfl rfl (hD _) (fun _ => K.cl) ?_;refine j_c rfl (Qui.ylds (yB 2)) rfl (fun _ => rfl) rfl rfl rfl rfl rfl (hD _) (fun _ => K.cl) ?_;refine j_c rfl (Qui.ylds (y_load tab rfl rfl (CellsAre.nth 2 hc2 rfl))) rfl (fun _ => rfl) rfl rfl rfl rfl rfl (hD _) (fun _ => K.cl) ?_;refine j_c rfl (Qui.ylds (y_move rfl)) rfl (fun _ => rfl) rfl rfl rfl rfl rfl (hD _) (fun _ => K.cl) ?_;refine j_c rfl (Qui.ylds (y_sub rfl rfl (by omega))) rfl (fun _ => rfl) rfl rfl rfl rfl rfl (hD _) (fun _ => K.cl) ?_;refine j_c rfl (Qui.ylds (y_ixE tab rfl rfl rfl rfl hE0 jx (by omega) (by omega))) rfl (fun _ => rfl) rfl rfl rfl rfl rfl (hD _) (fun _ => K.cl) ?_;refine j_c rfl (Qui.ylds (yF 2)) rfl (fun _ => rfl) rfl rfl rfl rfl rfl (hD _) (fun _ => K.cl) ?_;refine j_c rfl (Qui.ylds (y_load tab rfl rfl (CellsAre.nth 2 hrow0 rfl))) rfl (fun _ => rfl) rfl rfl rfl rfl rfl (hD _) (fun _ => K.cl) ?_;refine j_c rfl (Qui.ylds yb) rfl (fun _ => rfl) rfl rfl rfl rfl rfl (hD _) (fun _ => K.cl) ?_;refine j_s (C' := fun b y => K W ([(b, row 58 [])] :: [] ++ (F y ++ N0))) rfl rfl (fun y => (do_buildSliceS (vs := []) (len := 0) (ps := []) tab ⟨rfl, rfl, rfl, rfl⟩ rfl rfl rfl rfl).outs) (hal [] (do_buildSliceS (vs := [.agg #[.int .i64 (j : Nat), t.ov]]) (len := 1) (ps := [_]) tab ⟨rfl, rfl, rfl, rfl⟩ rfl rfl rfl rfl)) rfl (fun _ => rfl) rfl rfl rfl rfl rfl rfl rfl (fun _ => K.cl) (fun _ _ => K.cl) (hD _) (fun b y => hD [_] y) (fun b => ?_);refine j_s (X := { u : Value × Chunk // BufR 58 2 u.1 u.2 ([] ++ lgr g.ds) }) (v := fun u => u.1.1) (C' := fun x y => K W ([x.1.2] ++ (F y ++ N0))) rfl rfl (fun y => (do_appendRV (by_ := 32) tab 0 rfl .lit rfl (hEy [_] y) ⟨rfl, rfl, rfl, rfl⟩ rfl (by omega) (Nat.lt_of_sub_eq_succ rfl) rfl hone (by simp only [List.length_nil]; omega) (by omega)).outs) (hal [_] (do_buildSliceS (vs := [.agg #[.int .i64 (j : Nat), t.ov]]) (len := 1) (ps := [_]) tab ⟨rfl, rfl, rfl, rfl⟩ rfl rfl rfl rfl)) rfl (fun _ => rfl) rfl rfl rfl rfl rfl rfl rfl (fun _ => K.cl) (fun _ _ => K.cl) (hD [_]) (fun x y => hD [_] y) (fun u => ?_);obtain ⟨⟨u, d⟩, hu⟩ := u;have hu : BufR 58 2 u d (lgr g.ds) := hu;refine j_j rfl (hal [_] (do_buildSliceS (vs := [.agg #[.int .i64 (j : Nat), t.ov]]) (len := 1) (ps := [_]) tab ⟨rfl, rfl, rfl, rfl⟩ rfl rfl rfl rfl)) rfl rfl rfl (fun _ => K.cl) (hD [_]) (fun b32 => ?_);refine Sd.cls (C' := K W (d :: [(b32, row 58 [.int .i64 (j : Nat), t.ov])] :: [(b4, row 42 z42)] :: [(b2, row 42 [.int .i64 (g.size : Nat), .slice pm (rnl (rns (ap g.C (ops t.os)) 0 g.size)).length km, g.tv, g.qv, g.dv])] :: (T ++ (N ++ G)))) ?_ (fun w h => by
   rw [hF, hN0] at h;exact h)
  refine d_s rfl (do_appendR (by_ := 32) (news := [.int .i64 (j : Nat), t.ov]) tab 0 rfl hu rfl ⟨rfl, rfl, rfl, rfl⟩ rfl (by simp) rfl (cells_row0 1 rfl rfl) rfl rfl (by omega) (by omega)) rfl rfl rfl (fun _ => K.cl) (fun _ _ w h => by rw [hN0]; exact h.tail.tail) (fun y => ?_);obtain ⟨⟨u2, d2⟩, hu2⟩ := y;have hu2 : BufR 58 2 u2 d2 (lgr (g.ds ++ [(j, t.ov, t.os)])) := hu2.of (by simp [lgr]);dsimp only;obtain ⟨pv, kv, rfl, _, _⟩ := (hu2.view (C := K W (d2 :: [])) (Hs.at 0 rfl)).view;refine d_sy rfl (yB 4) rfl rfl rfl K.cl (fun _ w h => by rw [hN0]; exact h.tail.tail) ?_;refine d_set rfl (set_rowB tab 3 rfl rfl rfl rfl rfl rfl) rfl rfl K.cl (fun h => by cases h) ?_;refine d_nil (f_then (c_seq ?_));obtain ⟨g2, hg2⟩ : ∃ g2, g2 = (g.setM (ap g.C (ops t.os)) ⟨pm, km⟩).setD (g.ds ++ [(j, t.ov, t.os)]) ⟨pv, kv⟩ := ⟨_, rfl⟩;have hR2 : RV (K W (d2 :: (T ++ N))) g2 := by
   rw [hg2];refine hR1.setD (fun w h => h.tail) (hu2.view (Hs.at 0 rfl)) (fun x hx => ?_);rcases List.mem_append.1 hx with hx | hx
   ·exact ⟨(hV.dx x hx).1.cls fun w h => K.bck h.tail, fun o ho => ((hV.dx x hx).2 o ho).cls fun w h => K.bck h.tail⟩
   ·rw [List.mem_singleton.1 hx];exact ⟨(hV.tx t htm).o.cls fun w h => K.bck h.tail, fun o ho => ((hV.tx t htm).r o ho).cls fun w h => K.bck h.tail⟩
  have hen := end_spec (W := W) (N := d2 :: (T ++ N)) (G := [(b4, row 42 z42)] :: [(b2, row 42 g2.cells)] :: G) (k := j) (s := 3) (t := t) hR2 (by rw [hg2]; exact ⟨by omega, by show j ≤ g.ts.length; omega⟩) (by rw [hg2]; exact ht) (by rw [hg2]; exact hq) (by
   rw [hg2];simpa [Rg.rb, Rg.setM, Rg.setD, RB.put] using t4)
  have hcm : g2.rb.end_ j 3 = g.rb.commit j := by
   rw [hg2, RB.commit, RB.view, rb_tx ht];simp [Rg.rb, Rg.setM, Rg.setD]
  have hl2 : (lgr g2.ds).length = g.rb.D.length + 1 := by rw [hg2]; simp [Rg.setM, Rg.setD, Rg.rb, lgr]
  refine SC.cls (C' := K W ((d2 :: (T ++ N)) ++ ([(b4, row 42 z42)] :: [(b2, row 42 g2.cells)] :: G))) ?_ (fun w h => by rw [hg2]; exact K.mv6 h);clear hD hal hEy hE0 hrow0 hc2 hone hVc;have hD := fun (w : World) (h : K W ((d2 :: (T ++ N)) ++ ([(b4, row 42 z42)] :: [(b2, row 42 g2.cells)] :: G)) w) => K.pre (A := [[(b2, row 42 g2.cells)]]) (B := G) (K.bck h).tail;refine c_plan [.c 0, .c 1, .c 3, .c 4, .c 5, .s 2, .s 6, .s 7, .s 8] [] (K W [[(b2, row 42 g2.cells)]]) mixed (by kernel_rfl) rfl K.cl ?_;refine dy rfl (y_loadA tab rfl rfl rfl rfl (cells_row0 0 rfl rfl)) hD ?_;refine dy rfl (y_move rfl) hD ?_;refine dy rfl (yB 4) hD ?_;refine dy rfl (y_load tab rfl rfl (cell_row 0 rfl rfl)) hD ?_;refine dy rfl (y_len tab rfl rfl) hD ?_;refine d_call rfl (en_f rfl call87) hen rfl rfl rfl (fun _ => K.cl) (fun _ _ w h => hD w (K.bck h)) (fun y => ?_);obtain ⟨⟨g3, T2⟩, hR3, hb3⟩ := y;dsimp only at hR3 hb3 ⊢;refine Sd.cls (C' := K W ([(b4, row 42 z42)] :: [(b2, row 42 g2.cells)] :: (T2 ++ ((d2 :: (T ++ N)) ++ G)))) ?_ (fun w h => K.mv2' h);have hD3 := fun (A : Chunk) (w : World) (h : K W (A :: [(b2, row 42 g2.cells)] :: (T2 ++ ((d2 :: (T ++ N)) ++ G))) w) => K.pre (A := [[(b2, row 42 g2.cells)]]) (B := T2 ++ ((d2 :: (T ++ N)) ++ G)) h.tail;refine d_set rfl (set_aggB tab 0 rfl rfl rfl rfl rfl rfl rfl) rfl rfl K.cl (fun _ => hD3 _) ?_;refine d_sy rfl (y_assign rfl) rfl rfl rfl K.cl (fun _ => hD3 _) ?_;refine d_sy rfl (y_assign rfl) rfl rfl rfl K.cl (fun _ => hD3 _) ?_;refine d_nil ?_;rw [hl2];refine f_then (c_ret ?_);exact f_ret ⟨(g3, T2 ++ (d2 :: T), g.rb.D.length + 1, 0), by rw [List.append_assoc]; exact hR3, .inr ⟨he, rfl, rfl, j, rfl, hb3.trans hcm⟩⟩ (resA12 tab rfl rfl rfl rfl rfl rfl rfl (cells_row0 0 rfl rfl)) (fun w h => K.perm h.tail.tail fun x _ => by
   simp only [List.count_append, List.count_cons];omega)
 ·refine sa ?_;refine snf (c_seq (csr (sm ?_)));refine sy (y_T (y_neq rfl rfl) (by omega)) ?_;refine snf (c_condT rfl (csr (sy (y_loadA tab rfl rfl rfl rfl (cells_row0 1 rfl rfl)) ?_)));refine sm ?_;refine ss (sB 0) ?_;refine sa ?_;refine sa ?_;refine snf (c_ret (f_thenR ?_));exact f_ret ⟨(g, [], 0, e), hV, .inl ⟨by rw [he]; exact c, rfl, rfl, he.symm⟩⟩ (resA12 tab rfl rfl rfl rfl rfl rfl rfl (cells_row0 0 rfl rfl)) (fun w h => h.tail.tail)
end
end Go.KL
end

section
namespace Go.KL
open Go.Proofs Go.Proofs.Tryz
theorem mvs_snoc (l : List Oa) (o : Oa) : mvs (l ++ [o]) = mvs l + if o.mv then 1 else 0 := by
 rw [mvs_app, mvs_cons, mvs_nil, Nat.add_zero]
def rmv (ts : List Dt) : Nat := ((ts.filter fun t => t.rt.inP).map fun t => mvs (ops t.os)).sum
theorem rmv_snoc (ts : List Dt) (t : Dt) : rmv (ts ++ [t]) = rmv ts + if t.rt.inP then mvs (ops t.os) else 0 := by
 unfold rmv;rw [List.filter_append, List.map_append, List.sum_append, List.filter_cons];split <;> simp
attribute [local irreducible] SC St Fin Sq Ylds Doos Sets Enters Spec CellIs CellsAre Then Ret Rnd Chn resOK ints bools recs arr
section
variable {W : World} {N : List Chunk} {g : Rg}
theorem RRoom_spec (hV : RV (K W N) g) (hl : ∀ t ∈ g.ts, t.rt.inP = true → t.os.length < 100000) (hmm : rmv g.ts < 1000000) : Spec prog 18 #[g.val] (K W N) (fun _ : Unit => .int .i64 (g.rb.room : Nat)) (fun _ => K W N) := by
 have hdl : (dtl g.ts).length = g.ts.length := List.length_map _;have hn := hV.n;have hrl : (rnl (rns g.C 0 g.size)).length = nbd g.C g.size := by rw [List.length_map, rns_len]
 have hnb := hV.m.nb;refine enter (args := [_]) func18 rfl ntmps18 rfl ?_;refine csr (sbx fun b1 => ?_);refine sa ?_;refine snf (csr (sf0 ?_));refine sf 1 ?_;refine slr 0 ?_;refine sy (y_len tab rfl rfl) ?_;refine sy (y_sub rfl rfl (by omega)) ?_;refine sa ?_;refine snf (c_seq (csr (sa ?_)));refine snf (c_block ?_);obtain ⟨A, hA⟩ : ∃ A : Nat, A = (rnl (rns g.C 0 g.size)).length := ⟨_, rfl⟩;have hE : EV (K W ([(b1, row 42 g.cells)] :: N)) g.tv 3 (dtl g.ts) := hV.t.cons;have hroom : g.rb.room = (4096 - A - 2 * rmv g.ts) / 2 := by
  rw [RB.room, hA, hrl, RB.moves, rmv, Rg.rb];simp [List.filter_map, Function.comp_def]
 rw [hroom];refine c_loopP (α := Nat) (fun z => [(1, .pointer (some ⟨b1, 0, none⟩)), (3, .int .i64 (4096 - (A : Int) - 2 * (rmv (g.ts.take z) : Nat))), (4, .int .i64 (z : Nat))]) (fun z => z ≤ g.ts.length) (fun _ => K W ([(b1, row 42 g.cells)] :: N)) (fun z => g.ts.length - z) 0 ⟨rfl, by
  show some (Value.int .i64 (4096 - ((rnl (rns g.C 0 g.size)).length : Int))) = some (Value.int .i64 (4096 - (A : Int) - 2 * ((0 : Nat) : Int)));rw [← hA];congr 2;omega, rfl, trivial⟩ (Nat.zero_le _) (fun w h => h) ?_
 rintro z hz;have hle : rmv (g.ts.take z) ≤ rmv g.ts := by
  conv => rhs; rw [← List.take_append_drop z g.ts]
  unfold rmv;rw [List.filter_append, List.map_append, List.sum_append];omega
 by_cases c : z < g.ts.length
 ·obtain ⟨t, ht⟩ : ∃ t, g.ts[z]? = some t := ⟨g.ts[z], List.getElem?_eq_getElem c⟩;have htm := List.mem_of_getElem? ht;have hlt := hl t htm;have hol : (opl t.os).length = t.os.length := List.length_map _;have hrow := hE.row (i := z) (x := t.cells) (by simp [ht]);have hO : EV (K W ([(b1, row 42 g.cells)] :: N)) t.ov 6 (opl t.os) := (hV.tx t htm).o.cons;have htk : rmv (g.ts.take (z + 1)) = rmv (g.ts.take z) + if t.rt.inP then mvs (ops t.os) else 0 := by
   rw [List.take_add_one, ht];exact rmv_snoc _ _
  obtain ⟨R, hR⟩ : ∃ R, R = rmv (g.ts.take z) := ⟨_, rfl⟩;rw [← hR] at hle htk ⊢;refine c_seq (csr (sm ?_));refine sf 2 ?_;refine slr 0 ?_;refine sy (y_lenE tab rfl (hE) rfl) ?_;refine sy (y_T (y_lss rfl rfl) (by omega)) ?_;refine snf (c_condT rfl (c_skip (f_then (c_seq (c_block (csr (sa ?_)))))));refine snf (c_block (c_loopP (α := Nat) (fun y => [(1, .pointer (some ⟨b1, 0, none⟩)), (3, .int .i64 (4096 - (A : Int) - 2 * ((R + mvs ((ops t.os).take y) : Nat) : Int))), (4, .int .i64 (z : Nat)), (5, .int .i64 (y : Nat))]) (fun y => y ≤ t.os.length ∧ (t.rt.inP = false → y = 0)) (fun _ => K W ([(b1, row 42 g.cells)] :: N)) (fun y => t.os.length - y) 0 ⟨rfl, rfl, rfl, rfl, trivial⟩ ⟨Nat.zero_le _, fun _ => rfl⟩ (fun w h => h) ?_));rintro y ⟨hy, hy0⟩;have hmy : mvs ((ops t.os).take y) ≤ y := Nat.le_trans (mvs_le _) (by rw [List.length_take]; omega);refine c_seq (csr (sf 2 ?_));refine slr 0 ?_;refine sm ?_;refine sy (y_ixE tab rfl rfl rfl rfl (hE) _ rfl (by omega)) ?_;refine sy (y_loadA tab rfl rfl rfl rfl hrow) ?_;refine sk call54 (In_spec (t := t)) fun _ => ?_;cases hp : t.rt.inP with
  | false =>
   obtain rfl := hy0 hp;rw [hp, if_neg (by decide), Nat.add_zero] at htk;refine sm ?_
   iterate 9 refine s_skip rfl rfl rfl ?_
   refine spF ?_;refine snf (c_condF rfl (c_exit (f_thenE (f_rndE (f_blockE (f_blockN (f_then (c_region (sm ?_)))))))));refine sy (y_add rfl rfl (by omega)) ?_;refine sa ?_;refine s_nil ?_;exact f_roundP (z + 1) c (by omega) ⟨rfl, by rw [htk]; rfl, rfl, trivial⟩ (fun w h => h)
  | true =>
   have hlt := hlt hp;rw [hp, if_pos rfl] at htk;by_cases cy : y < t.os.length
   ·obtain ⟨o, ho⟩ : ∃ o, t.os[y]? = some o := ⟨t.os[y], List.getElem?_eq_getElem cy⟩;have hro := hO.row (opl_get2 ho);have hmt : mvs ((ops t.os).take (y + 1)) = mvs ((ops t.os).take y) + if o.1.mv then 1 else 0 := by
     rw [List.take_add_one, show (ops t.os)[y]? = some o.1 by simp [ho]];exact mvs_snoc _ _
    obtain ⟨Y, hY⟩ : ∃ Y, Y = mvs ((ops t.os).take y) := ⟨_, rfl⟩;rw [← hY] at hmy hmt ⊢;refine sm ?_;refine sm ?_;refine sf 2 ?_;refine slr 0 ?_;refine sm ?_;refine sy (y_ixE tab rfl rfl rfl rfl (hE) _ rfl (by omega)) ?_;refine sy (yF 2) ?_;refine sl (CellsAre.nth 2 (hrow) rfl) ?_;refine sy (y_lenE tab rfl (hO) rfl) ?_;refine sy (y_T (y_lss rfl rfl) (by omega)) ?_;refine spT ?_;refine snf (c_condT rfl (c_skip (f_then (c_seq (c_block (csr (sf 2 ?_)))))));refine slr 0 ?_;refine sm ?_;refine sy (y_ixE tab rfl rfl rfl rfl (hE) _ rfl (by omega)) ?_;refine sy (yF 2) ?_;refine sl (CellsAre.nth 2 (hrow) rfl) ?_;refine sm ?_;refine sy (y_ixE tab rfl rfl rfl rfl (hO) _ rfl (by omega)) ?_;refine sf0 ?_;refine sl (CellsAre.at0 (hro) rfl) ?_;refine snf ?_;cases hm : o.1.mv with
    | false =>
     rw [hm, if_neg (by decide), Nat.add_zero] at hmt;refine c_condF rfl (c_skip (f_blockN (f_then (c_region (sm ?_)))));refine sy (y_add rfl rfl (by omega)) ?_;refine sa ?_;refine s_nil ?_;exact f_roundP (y + 1) ⟨cy, fun h => by cases h⟩ (by omega) ⟨rfl, by rw [hmt]; rfl, rfl, rfl, trivial⟩ (fun w h => h)
    | true =>
     rw [hm, if_pos rfl] at hmt;refine c_condT rfl (c_region (sm ?_));refine sy (y_sub rfl rfl (by omega)) ?_;refine sa ?_;refine s_nil (f_blockN (f_then (c_region (sm ?_))));refine sy (y_add rfl rfl (by omega)) ?_;refine sa ?_;refine s_nil (f_roundP (y + 1) ⟨cy, fun h => by cases h⟩ (by omega) ⟨rfl, ?_, rfl, rfl, trivial⟩ (fun w h => h));rw [hmt];show some (Value.int .i64 (4096 - (A : Int) - 2 * ((R + Y : Nat) : Int) - 2)) = _;congr 2;omega
   ·obtain rfl : y = t.os.length := by omega
    rw [List.take_of_length_le (by rw [List.length_map]; omega)];refine sm ?_;refine sm ?_;refine sf 2 ?_;refine slr 0 ?_;refine sm ?_;refine sy (y_ixE tab rfl rfl rfl rfl (hE) _ rfl (by omega)) ?_;refine sy (yF 2) ?_;refine sl (CellsAre.nth 2 (hrow) rfl) ?_;refine sy (y_lenE tab rfl (hO) rfl) ?_;refine sy (y_F (y_lss rfl rfl) (by omega)) ?_;refine spT ?_;refine snf (c_condF rfl (c_exit (f_thenE (f_rndE (f_blockE (f_blockN (f_then (c_region (sm ?_)))))))));refine sy (y_add rfl rfl (by omega)) ?_;refine sa ?_;refine s_nil ?_;exact f_roundP (z + 1) c (by omega) ⟨rfl, by rw [htk]; rfl, rfl, trivial⟩ (fun w h => h)
 ·obtain rfl : z = g.ts.length := by omega
  rw [List.take_length];refine c_seq (csr (sm ?_));refine sf 2 ?_;refine slr 0 ?_;refine sy (y_lenE tab rfl (hE) rfl) ?_;refine sy (y_F (y_lss rfl rfl) (by omega)) ?_;refine snf (c_condF rfl (c_exit (f_thenE (f_rndE (f_blockE (f_then (csr (sm ?_))))))));refine sy (y_max rfl rfl) ?_;refine sy (y_quo rfl rfl (by omega)) ?_;refine sa ?_;refine snf (c_ret ?_);have hx : max (0 : Int) (4096 - (A : Int) - 2 * ((rmv g.ts : Nat) : Int)) = ((4096 - A - 2 * rmv g.ts : Nat) : Int) := by omega
  refine f_ret () (res1 rfl ?_) (fun w h => h.tail);show some (Value.int .i64 (max (0 : Int) (4096 - (A : Int) - 2 * ((rmv g.ts : Nat) : Int)) / 2)) = _;rw [hx];rfl
end
end Go.KL
end
