/- The library of the proof, part 5: a program logic over the model, walks of functions, plain laws. No condition. -/
import Derived.Test.YtcbmmldkpicaiaaGreatAloL4
section
/- The little book, step by step; plain. No program in sight. -/
namespace Go.KL
namespace Bk
theorem st2 {A : Bk} {a b : Tx} (hA : A.ts = [a, b]) (ha : a.st = 1 ∨ a.st = 2 ∨ a.st = 3 ∨ a.st = 4) (hb : b.st = 1 ∨ b.st = 2 ∨ b.st = 3 ∨ b.st = 4) : ∀ k, A.has k → (A.tx k).st = 1 ∨ (A.tx k).st = 2 ∨ (A.tx k).st = 3 ∨ (A.tx k).st = 4 := by
  intro k hk
  have e1 : A.tx 1 = a := by unfold Bk.tx; rw [hA]; rfl
  have e2 : A.tx 2 = b := by unfold Bk.tx; rw [hA]; rfl
  rcases has2 hA hk with rfl | rfl
  · rw [e1]; exact ha
  · rw [e2]; exact hb
theorem pre1 : B0.Pre 1 0 5 false := pre_lit B0_lit (st2 rfl (by decide) (by decide)) fun k l m h1 h2 h3 => by
  obtain rfl : k = 1 := by omega
  obtain rfl : l = 0 := by omega
  obtain rfl : m = 5 := by omega
  exact prm_free (hold_no 0 (by decide) (by decide) (by decide)) (by decide) f1 B0'_lit (rn12 rfl rfl) rfl
theorem pl1 {B : Bk} {e : Nat} {rs : List Rn} (h : B0.Perf 1 false 0 5 0 0 B e rs) : e = 0 ∧ B = B1 := by
  cases h with
  | none h => exact absurd (by decide) h
  | aborted hk _ h => obtain rfl : _ = 1 := (Int.ofNat_inj.1 hk).symm; exact absurd h (by decide)
  | committed hk _ h => obtain rfl : _ = 1 := (Int.ofNat_inj.1 hk).symm; exact absurd h (by decide)
  | waiting hk _ h => obtain rfl : _ = 1 := (Int.ofNat_inj.1 hk).symm; exact absurd h (by decide)
  | range _ _ _ h => exact absurd h (by decide)
  | arg _ _ _ _ h => exact absurd h (by decide)
  | no hk _ _ hl hm _ _ _ _ ho he =>
    obtain rfl : _ = 1 := (Int.ofNat_inj.1 hk).symm
    obtain rfl : _ = 0 := (Int.ofNat_inj.1 hl).symm
    obtain rfl : _ = 5 := (Int.ofNat_inj.1 hm).symm
    exact absurd (obt_free ho (hold_no 0 (by decide) (by decide) (by decide)) (by decide) f1).1 he
  | look hk _ _ hl hm hf ht _ _ ho =>
    obtain rfl : _ = 1 := (Int.ofNat_inj.1 hk).symm
    obtain rfl : _ = 0 := (Int.ofNat_inj.1 hl).symm
    obtain rfl : _ = 5 := (Int.ofNat_inj.1 hm).symm
    obtain rfl : _ = 0 := (Int.ofNat_inj.1 hf).symm
    obtain rfl : _ = 0 := (Int.ofNat_inj.1 ht).symm
    obtain ⟨_, rfl⟩ := obt_free ho (hold_no 0 (by decide) (by decide) (by decide)) (by decide) f1
    exact ⟨rfl, rfl⟩
  | move _ _ _ _ _ _ _ _ _ _ h => cases h
theorem pre2 : B1.Pre 2 3 8 false := pre_lit B1_lit (st2 rfl (by decide) (by decide)) fun k l m h1 h2 h3 => by
  obtain rfl : k = 2 := by omega
  obtain rfl : l = 3 := by omega
  obtain rfl : m = 8 := by omega
  exact prm_free (hold_no 3 (by decide) (by decide) (by decide)) (by decide) f2 B1'_lit (rn12 rfl rfl) rfl
theorem pl2 {B : Bk} {e : Nat} {rs : List Rn} (h : B1.Perf 2 false 3 8 0 0 B e rs) : e = 0 ∧ B = B2 := by
  cases h with
  | none h => exact absurd (by decide) h
  | aborted hk _ h => obtain rfl : _ = 2 := (Int.ofNat_inj.1 hk).symm; exact absurd h (by decide)
  | committed hk _ h => obtain rfl : _ = 2 := (Int.ofNat_inj.1 hk).symm; exact absurd h (by decide)
  | waiting hk _ h => obtain rfl : _ = 2 := (Int.ofNat_inj.1 hk).symm; exact absurd h (by decide)
  | range _ _ _ h => exact absurd h (by decide)
  | arg _ _ _ _ h => exact absurd h (by decide)
  | no hk _ _ hl hm _ _ _ _ ho he =>
    obtain rfl : _ = 2 := (Int.ofNat_inj.1 hk).symm
    obtain rfl : _ = 3 := (Int.ofNat_inj.1 hl).symm
    obtain rfl : _ = 8 := (Int.ofNat_inj.1 hm).symm
    exact absurd (obt_free ho (hold_no 3 (by decide) (by decide) (by decide)) (by decide) f2).1 he
  | look hk _ _ hl hm hf ht _ _ ho =>
    obtain rfl : _ = 2 := (Int.ofNat_inj.1 hk).symm
    obtain rfl : _ = 3 := (Int.ofNat_inj.1 hl).symm
    obtain rfl : _ = 8 := (Int.ofNat_inj.1 hm).symm
    obtain rfl : _ = 0 := (Int.ofNat_inj.1 hf).symm
    obtain rfl : _ = 0 := (Int.ofNat_inj.1 ht).symm
    obtain ⟨_, rfl⟩ := obt_free ho (hold_no 3 (by decide) (by decide) (by decide)) (by decide) f2
    exact ⟨rfl, rfl⟩
  | move _ _ _ _ _ _ _ _ _ _ h => cases h
theorem B3_E {k j : Nat} (h : B3.E k j) : (k = 0 ∨ k = 1) ∧ j = 2 := by
  unfold Bk.E Bk.waits at h
  split at h
  · simp at h
  · rename_i hs
    have hk : k = 0 ∨ k = 1 := by
      rcases Nat.lt_or_ge k 3 with c | c
      · rcases (show k = 0 ∨ k = 1 ∨ k = 2 by omega) with rfl | rfl | rfl
        · exact .inl rfl
        · exact .inr rfl
        · exact absurd (by decide : (B3.tx 2).st ≠ 2) hs
      · refine absurd (?_ : (B3.tx k).st ≠ 2) hs
        have : B3.tx k = Tx.new := by
          unfold Bk.tx
          rw [List.getD_eq_getElem?_getD, List.getElem?_eq_none (by show 2 ≤ k - 1; omega)]
          rfl
        rw [this]
        decide
    have hreq : (B3.tx k).req = w1 := by rcases hk with rfl | rfl <;> rfl
    rw [hreq] at h
    refine ⟨hk, ?_⟩
    rcases List.mem_append.1 h with h | h
    · obtain ⟨h1, x, hx, hc⟩ := mem_owners.1 h
      simp at h1
      rcases h1 with rfl | rfl
      · exfalso
        have : x = l1 := by simpa [Bk.tx] using hx
        subst this
        exact absurd hc (by decide)
      · rfl
    · obtain ⟨h1, h2⟩ := mem_ahead.1 h
      have h3 : j = 1 := by simpa using (List.takeWhile_sublist _).subset h1
      subst h3
      exact absurd h2 (by decide)
theorem B3_R {k j : Nat} (h : B3.R k j) : (k = 0 ∨ k = 1) ∧ j = 2 := by
  induction h with
  | one h => exact B3_E h
  | more _ g ih => exact ⟨ih.1, by have := B3_E g; omega⟩
theorem B3_vic {v : Nat} (h : B3.IsVic 1 v) : v = 0 := by
  rcases h with h | ⟨_, h, _⟩
  · exact h.1
  · have h1 := B3_R h.1
    have h2 := B3_R h.2
    omega
theorem pre3 : B2.Pre 1 0 5 true := pre_lit B2_lit (st2 rfl (by decide) (by decide)) fun k l m h1 h2 h3 => by
  obtain rfl : k = 1 := by omega
  obtain rfl : l = 0 := by omega
  obtain rfl : m = 5 := by omega
  refine ⟨⟨fun A => A = B3, ?_, ?_, fun _ _ _ => rfl, ?_⟩, fun B hB => ?_⟩
  · rintro A rfl; exact B3_lit.good
  · rintro A v rfl _ hv h0; exact absurd (B3_vic hv) h0
  · rintro A rfl; decide
  · have hr : Res 1 B3 B 0 := obt_wait hB (hold_no 0 (by decide) (by decide) (by decide)) (by decide) f3
    cases hr with
    | free h => exact absurd h (by decide)
    | next _ hv h0 => exact absurd (B3_vic hv) h0
theorem pm1 {B : Bk} {e : Nat} {rs : List Rn} (h : B2.Perf 1 true 0 5 0 1 B e rs) : e = 83 ∧ B = B3 := by
  have key : ∀ {B : Bk} {e : Nat}, B2.Obt 1 0 5 true B e → e = 83 ∧ B = B3 := fun {B e} ho => by
    have hr : Res 1 B3 B e := obt_wait ho (hold_no 0 (by decide) (by decide) (by decide)) (by decide) f3
    cases hr with
    | free h => exact absurd h (by decide)
    | gone h => exact absurd h (by decide)
    | wait => exact ⟨rfl, rfl⟩
    | next _ hv h0 => exact absurd (B3_vic hv) h0
  cases h with
  | none h => exact absurd (by decide) h
  | aborted hk _ h => obtain rfl : _ = 1 := (Int.ofNat_inj.1 hk).symm; exact absurd h (by decide)
  | committed hk _ h => obtain rfl : _ = 1 := (Int.ofNat_inj.1 hk).symm; exact absurd h (by decide)
  | waiting hk _ h => obtain rfl : _ = 1 := (Int.ofNat_inj.1 hk).symm; exact absurd h (by decide)
  | range _ _ _ h => exact absurd h (by decide)
  | arg _ _ _ _ h => exact absurd h (by decide)
  | no hk _ _ hl hm _ _ _ _ ho he =>
    obtain rfl : _ = 1 := (Int.ofNat_inj.1 hk).symm
    obtain rfl : _ = 0 := (Int.ofNat_inj.1 hl).symm
    obtain rfl : _ = 5 := (Int.ofNat_inj.1 hm).symm
    exact key ho
  | look _ _ _ _ _ _ _ _ _ _ h => cases h
  | move hk _ _ hl hm _ _ _ _ ho =>
    obtain rfl : _ = 1 := (Int.ofNat_inj.1 hk).symm
    obtain rfl : _ = 0 := (Int.ofNat_inj.1 hl).symm
    obtain rfl : _ = 5 := (Int.ofNat_inj.1 hm).symm
    exact absurd (key ho).1 (by decide)
theorem B4_R : B4.R 2 2 := by
  refine .more (.one (j := 1) ?_) ?_
  · exact List.mem_append_left _ (mem_owners.2 ⟨by decide, l1, by decide, by decide⟩)
  · exact List.mem_append_left _ (mem_owners.2 ⟨by decide, l2, by decide, by decide⟩)
theorem B4_vic {v : Nat} (h : B4.IsVic 2 v) : v = 2 := by
  rcases h with h | ⟨_, h, hm⟩
  · exact absurd ⟨B4_R, B4_R⟩ (h.2 2)
  · have h1 := hm 2 ⟨B4_R, B4_R⟩
    have h2 : v = 1 ∨ v = 2 := by
      rcases Bk.R_mem h.1 with h | h <;> simpa using h
    omega
theorem B4_ab : B4.abort 2 = B5 := by
  have hf : Bk.free ((B4.setT 2 ⟨4, [l2], Lk.zero, []⟩).off 2) w1 [] = true := by
    rw [free_iff]
    decide
  have hg : Bk.gr ((B4.setT 2 ⟨4, [l2], Lk.zero, []⟩).off 2) [1] [] = (Bk.grant ((B4.setT 2 ⟨4, [l2], Lk.zero, []⟩).off 2) 1, []) := by
    rw [gr]
    rw [show (Bk.tx ((B4.setT 2 ⟨4, [l2], Lk.zero, []⟩).off 2) 1).req = w1 from rfl, hf, if_pos rfl]
    rfl
  unfold Bk.abort Bk.release
  show { (Bk.gr ((B4.setT 2 ⟨4, [l2], Lk.zero, []⟩).off 2) [1] []).1 with q := (Bk.gr ((B4.setT 2 ⟨4, [l2], Lk.zero, []⟩).off 2) [1] []).2 } = B5
  rw [hg]
  rfl
theorem pre4 : B3.Pre 2 3 8 true := pre_lit B3_lit (st2 rfl (by decide) (by decide)) fun k l m h1 h2 h3 => by
  obtain rfl : k = 2 := by omega
  obtain rfl : l = 3 := by omega
  obtain rfl : m = 8 := by omega
  refine ⟨⟨fun A => A = B4 ∨ A = B5, ?_, ?_, fun _ _ _ => .inl rfl, ?_⟩, fun B hB => ?_⟩
  · rintro A (rfl | rfl)
    · exact B4_lit.good
    · exact B5_lit.good
  · rintro A v (rfl | rfl) hs hv h0
    · rw [B4_vic hv, B4_ab]; exact .inr rfl
    · exact absurd hs (by decide)
  · rintro A (rfl | rfl) <;> decide
  · have hr : Res 2 B4 B 0 := obt_wait hB (hold_no 3 (by decide) (by decide) (by decide)) (by decide) f4
    cases hr with
    | free h => exact absurd h (by decide)
    | next _ hv h0 hn =>
      rw [B4_vic hv, B4_ab] at hn
      cases hn with
      | free h => exact absurd h (by decide)
      | next h => exact absurd h (by decide)
theorem pm2 {B : Bk} {e : Nat} {rs : List Rn} (h : B3.Perf 2 true 3 8 0 2 B e rs) : e = 84 ∧ B = B5 := by
  have key : ∀ {B : Bk} {e : Nat}, B3.Obt 2 3 8 true B e → e = 84 ∧ B = B5 := fun {B e} ho => by
    have hr : Res 2 B4 B e := obt_wait ho (hold_no 3 (by decide) (by decide) (by decide)) (by decide) f4
    cases hr with
    | free h => exact absurd h (by decide)
    | gone h => exact absurd h (by decide)
    | wait _ hv => exact absurd (B4_vic hv) (by decide)
    | next _ hv h0 hn =>
      rw [B4_vic hv, B4_ab] at hn
      cases hn with
      | free h => exact absurd h (by decide)
      | gone => exact ⟨rfl, rfl⟩
      | wait h => exact absurd h (by decide)
      | next h => exact absurd h (by decide)
  cases h with
  | none h => exact absurd (by decide) h
  | aborted hk _ h => obtain rfl : _ = 2 := (Int.ofNat_inj.1 hk).symm; exact absurd h (by decide)
  | committed hk _ h => obtain rfl : _ = 2 := (Int.ofNat_inj.1 hk).symm; exact absurd h (by decide)
  | waiting hk _ h => obtain rfl : _ = 2 := (Int.ofNat_inj.1 hk).symm; exact absurd h (by decide)
  | range _ _ _ h => exact absurd h (by decide)
  | arg _ _ _ _ h => exact absurd h (by decide)
  | no hk _ _ hl hm _ _ _ _ ho he =>
    obtain rfl : _ = 2 := (Int.ofNat_inj.1 hk).symm
    obtain rfl : _ = 3 := (Int.ofNat_inj.1 hl).symm
    obtain rfl : _ = 8 := (Int.ofNat_inj.1 hm).symm
    exact key ho
  | look _ _ _ _ _ _ _ _ _ _ h => cases h
  | move hk _ _ hl hm _ _ _ _ ho =>
    obtain rfl : _ = 2 := (Int.ofNat_inj.1 hk).symm
    obtain rfl : _ = 3 := (Int.ofNat_inj.1 hl).symm
    obtain rfl : _ = 8 := (Int.ofNat_inj.1 hm).symm
    exact absurd (key ho).1 (by decide)
end Bk
end Go.KL
end

section
/- Walks: awake. -/
namespace Go.KL
open Go.Proofs
attribute [local irreducible] SC St Fin Sq Ylds Doos Sets Enters Spec CellIs CellsAre Then Ret Rnd Chn resOK ints bools recs arr
set_option maxRecDepth 10000 in
set_option maxHeartbeats 16000000 in
theorem awake_spec {W : World} {N : List Chunk} : Spec Tryz.prog 13 #[] (K W N) (fun _ : Unit => .bool true) (fun _ => K W N) := by
  refine enter (args := []) Tryz.func13 rfl Tryz.ntmps13 rfl ?_
  refine csr ?_
  refine sa ?_
  refine snf ?_
  refine csr ?_
  refine St.cls (C' := K W ([] :: N)) ?_ (fun w h => h.addNil)
  refine s_call (en_f rfl Tryz.call25) (mnew_spec (n := 10) (R := N) (by decide) (by decide)) rfl rfl rfl (fun x => ?_)
  obtain ⟨⟨p, v⟩, hS, hM⟩ := x
  dsimp only at hS hM ⊢
  obtain ⟨a, rfl⟩ := hM.ptr
  refine sm ?_
  refine sx ?_
  refine sx ?_
  refine sal fun b1 => ?_
  refine ss (set_box Tryz.tab 0 rfl rfl rfl rfl rfl rfl rfl) ?_
  refine sa ?_
  refine snf ?_
  refine csr ?_
  refine sy (y_loadA Tryz.tab rfl rfl rfl rfl (cells_row0 0 rfl rfl)) ?_
  refine St.cls (C' := K W (p :: [(b1, row 29 [.pointer (some a)])] :: N)) ?_ (fun w h => K.front 1 h)
  refine sk Tryz.call15 (New_b (N := [(b1, row 29 [.pointer (some a)])] :: N) hM) fun x => ?_
  obtain ⟨g0, hB0, hb0, _⟩ := x
  dsimp only
  have hr0 : g0.rn = [] := congrArg Bk.rn hb0
  have ht0 : g0.ts.length = 0 := by
    have := congrArg (fun A : Bk => A.ts.length) hb0
    simpa [Bg.bk, Bk.fresh] using this
  refine sm ?_
  refine sx ?_
  refine sx ?_
  refine sa ?_
  refine sa ?_
  refine snf ?_
  refine csr ?_
  refine sm ?_
  refine s_call (en_f rfl Tryz.call26) (Begin_b (N := [(b1, row 29 [.pointer (some a)])] :: N) hB0 (by omega)) rfl rfl rfl (fun x => ?_)
  obtain ⟨⟨g1, n1, e1⟩, hB1, hbb1, hc1⟩ := x
  dsimp only at hB1 hbb1 hc1 ⊢
  rcases hc1 with ⟨h, _⟩ | ⟨_, hb1, he1⟩
  · rw [hr0] at h
    exact absurd h (by decide)
  obtain ⟨rfl, rfl⟩ := Prod.mk.inj he1
  rw [hb0] at hb1
  have hr1 : g1.rn.length = 1 := congrArg (fun A : Bk => A.rn.length) hb1
  have ht1 : g1.ts.length = 1 := by
    have := congrArg (fun A : Bk => A.ts.length) hb1
    simpa [Bg.bk, Bk.fresh, Bk.begin] using this
  have hB1b := Begin_b (W := W) (N := [(b1, row 29 [.pointer (some a)])] :: N) hB1 (by omega)
  rw [hbb1] at hB1b
  rw [ht0]
  refine sm ?_
  refine sx ?_
  refine sx ?_
  refine sa ?_
  refine sa ?_
  refine snf ?_
  refine csr ?_
  refine sm ?_
  refine sk Tryz.call26 hB1b fun x => ?_
  obtain ⟨⟨g2, n2, e2⟩, hB2, hbb2, hc2⟩ := x
  dsimp only at hB2 hbb2 hc2 ⊢
  rcases hc2 with ⟨h, _⟩ | ⟨_, hb2, he2⟩
  · omega
  obtain ⟨rfl, rfl⟩ := Prod.mk.inj he2
  rw [hb1] at hb2
  change g2.bk = Bk.B0 at hb2
  rw [ht1]
  have hL1 := Look_b (W := W) (N := [(b1, row 29 [.pointer (some a)])] :: N) (tx := 1) (lo := 0) (hi := 5) hB2 (by rw [hb2]; exact Bk.pre1)
  rw [hbb2] at hL1
  refine sm ?_
  refine sx ?_
  refine sx ?_
  refine sa ?_
  refine sa ?_
  refine snf ?_
  refine c_seq ?_
  refine csr ?_
  refine sm ?_
  refine sy (y_F (y_neq rfl rfl) (by omega)) ?_
  refine sm ?_
  refine sm ?_
  refine sy (y_F (y_neq rfl rfl) (by omega)) ?_
  refine spF ?_
  refine sm ?_
  refine sm ?_
  refine sy (y_F (y_neq rfl rfl) (by omega)) ?_
  refine spF ?_
  refine sm ?_
  refine sm ?_
  refine sy (y_F (y_neq rfl rfl) (by omega)) ?_
  refine spF ?_
  refine sm ?_
  refine sm ?_
  refine sy (y_F (y_neq rfl rfl) (by omega)) ?_
  refine spF ?_
  refine sm ?_
  refine sm ?_
  refine sy (y_F (y_neq rfl rfl) (by omega)) ?_
  refine spF ?_
  refine snf ?_
  refine c_condF rfl ?_
  refine c_skip ?_
  refine f_then ?_
  refine csr ?_
  refine sm ?_
  refine sk Tryz.call28 hL1 fun x => ?_
  obtain ⟨⟨g3, e3, r3, v3, c3⟩, hB3, hp3, hA3, _⟩ := x
  dsimp only at hB3 hp3 hA3 ⊢
  rw [hb2] at hp3
  obtain ⟨rfl, hb3⟩ := Bk.pl1 hp3
  refine St.cls (C' := K W (g3.L ++ (c3 :: [(b1, row 29 [.pointer (some a)])] :: N))) ?_ (fun w h => K.bckN (A := [c3]) (B := g3.L) h)
  have hL2 := Look_b (W := W) (N := c3 :: [(b1, row 29 [.pointer (some a)])] :: N) (tx := 2) (lo := 3) (hi := 8) hB3 (by rw [hb3]; exact Bk.pre2)
  rw [hA3.b, hbb2] at hL2
  refine sm ?_
  refine sx ?_
  refine sx ?_
  refine sa ?_
  refine snf ?_
  refine csr ?_
  refine sm ?_
  refine sk Tryz.call28 hL2 fun x => ?_
  obtain ⟨⟨g4, e4, r4, v4, c4⟩, hB4, hp4, hA4, _⟩ := x
  dsimp only at hB4 hp4 hA4 ⊢
  rw [hb3] at hp4
  obtain ⟨rfl, hb4⟩ := Bk.pl2 hp4
  refine St.cls (C' := K W (g4.L ++ (c4 :: c3 :: [(b1, row 29 [.pointer (some a)])] :: N))) ?_ (fun w h => K.bckN (A := [c4]) (B := g4.L) h)
  have hM1 := Move_b (W := W) (N := c4 :: c3 :: [(b1, row 29 [.pointer (some a)])] :: N) (tx := 1) (lo := 0) (hi := 5) (fr := 0) (to := 1) hB4 (by rw [hb4]; exact Bk.pre3)
  rw [hA4.b, hA3.b, hbb2] at hM1
  refine sm ?_
  refine sx ?_
  refine sx ?_
  refine sa ?_
  refine snf ?_
  refine c_seq ?_
  refine csr ?_
  refine sm ?_
  refine sy (y_F (y_neq rfl rfl) (by omega)) ?_
  refine sm ?_
  refine sm ?_
  refine sy (y_F (y_neq rfl rfl) (by omega)) ?_
  refine spF ?_
  refine sm ?_
  refine sm ?_
  refine sk Tryz.call27 hM1 fun x => ?_
  obtain ⟨⟨g5, e5, r5, v5, c5⟩, hB5, hp5, hA5, _⟩ := x
  dsimp only at hB5 hp5 hA5 ⊢
  rw [hb4] at hp5
  obtain ⟨rfl, hb5⟩ := Bk.pm1 hp5
  refine St.cls (C' := K W (g5.L ++ (c5 :: c4 :: c3 :: [(b1, row 29 [.pointer (some a)])] :: N))) ?_ (fun w h => K.bckN (A := [c5]) (B := g5.L) h)
  have hM2 := Move_b (W := W) (N := c5 :: c4 :: c3 :: [(b1, row 29 [.pointer (some a)])] :: N) (tx := 2) (lo := 3) (hi := 8) (fr := 0) (to := 2) hB5 (by rw [hb5]; exact Bk.pre4)
  rw [hA5.b, hA4.b, hA3.b, hbb2] at hM2
  refine sy (y_F (y_neq rfl rfl) (by omega)) ?_
  refine spF ?_
  refine sm ?_
  refine sm ?_
  refine sk Tryz.call27 hM2 fun x => ?_
  obtain ⟨⟨g6, e6, r6, v6, c6⟩, hB6, hp6, hA6, _⟩ := x
  dsimp only at hB6 hp6 hA6 ⊢
  rw [hb5] at hp6
  obtain ⟨rfl, hb6⟩ := Bk.pm2 hp6
  refine St.cls (C' := K W (g6.L ++ (c6 :: c5 :: c4 :: c3 :: [(b1, row 29 [.pointer (some a)])] :: N))) ?_ (fun w h => K.bckN (A := [c6]) (B := g6.L) h)
  have hS1 := State_b (W := W) (N := c6 :: c5 :: c4 :: c3 :: [(b1, row 29 [.pointer (some a)])] :: N) (tx := 1) hB6
  have hS2 := State_b (W := W) (N := c6 :: c5 :: c4 :: c3 :: [(b1, row 29 [.pointer (some a)])] :: N) (tx := 2) hB6
  rw [hA6.b, hA5.b, hA4.b, hA3.b, hbb2, hb6] at hS1 hS2
  refine sy (y_F (y_neq rfl rfl) (by omega)) ?_
  refine spF ?_
  refine sm ?_
  refine sm ?_
  refine sk Tryz.call38 hS1 fun _ => ?_
  rw [show Bk.stI Bk.B5 1 = 1 from rfl]
  refine sy (y_F (y_neq rfl rfl) (by omega)) ?_
  refine spF ?_
  refine sm ?_
  refine sm ?_
  refine sk Tryz.call38 hS2 fun _ => ?_
  rw [show Bk.stI Bk.B5 2 = 4 from rfl]
  refine sy (y_F (y_neq rfl rfl) (by omega)) ?_
  refine spF ?_
  refine snf ?_
  refine c_condF rfl ?_
  refine c_skip ?_
  refine f_then ?_
  refine csr ?_
  refine sa ?_
  refine snf ?_
  refine c_ret ?_
  exact f_ret () (res1 rfl rfl) (fun w h => by
    have h2 := K.bckN (A := g6.L ++ [c6, c5, c4, c3, [(b1, row 29 [.pointer (some a)])]]) (B := N) (N := []) (by simpa using h)
    have h3 : K W (N ++ ((g6.L ++ [c6, c5, c4, c3, [(b1, row 29 [.pointer (some a)])]]) ++ [])) w := h2
    exact h3.weak ((g6.L ++ [c6, c5, c4, c3, [(b1, row 29 [.pointer (some a)])]]) ++ []).flatten (by simp))
end Go.KL
end

section
/- Views appended; parts of views. No program in sight. -/
namespace Go.KL
section
variable {P : Program} {W w : World} {Ls : List Chunk} {n : Nat} {σ : Slots} {C D : World → Prop} {dst : Option Tmp} {ty : TypeId} {pos : String} {after : Array Edge} {guard : Option (Nat × Bool)} {e : TypeId} {s : Nat} {v : Value} {c p : Chunk} {rows rows' : List (List Value)}
def frv : Value → Nat → Nat → Value
  | .slice p m c, k, s => .slice (if c = k then p else p.map (·.add (k * s))) (m - k) (c - k)
  | x, _, _ => x
theorem EV.fr (h : EV C v s rows) {k : Nat} (hk : k ≤ rows.length) : EV C (frv v k s) s (rows.drop k) := by
  have hl := h.len
  obtain ⟨pa, c, rfl, hc, hv⟩ := h.view
  refine ⟨fun x hx => hl x (List.mem_of_mem_drop hx), ?_⟩
  rw [List.length_drop]
  refine ⟨_, _, rfl, by omega, fun h0 => ?_⟩
  obtain ⟨b, o, rfl, h3⟩ := hv (by omega)
  rw [if_neg (by omega)]
  refine ⟨b, o + k * s, by rw [Option.map_some, Go.WideShapes.add_plain], fun i hi j hj => ?_⟩
  have := h3 (k + i) (by omega) j hj
  rw [show o + (k + i) * s + j = o + k * s + i * s + j by rw [Nat.add_mul]; omega] at this
  simp only [rix, List.getD_eq_getElem?_getD] at this ⊢
  rw [List.getElem?_drop]
  exact this
theorem y_slFrE (T : Tab P) {x a1 : Operand} {t e : TypeId} {k : Nat} {z : Int} (hx : ev σ x = some v) (hh : ev σ a1 = some (.int .i64 z)) (ht : T.und t = some (.slice e)) (hs : T.size e = some s) (hV : EV C v s rows) (e2 : z = (k : Int)) (hk : k ≤ rows.length) :
    Ylds P n σ C ⟨dst, .slice t x (some a1) none none, ty, pos, after, guard⟩ (frv v k s) := by
  obtain ⟨pa, c, rfl, hc, _⟩ := hV.view
  exact y_sliceFrom T hx hh ht hs e2 hk hc
theorem do_appendRV (T : Tab P) (i : Nat) {x y : Operand} {t : TypeId} {by_ : Nat} {z : List Value} {u : Value} (hx : ev σ x = some v) (hB : BufR e s v c rows) (hy : ev σ y = some u) (hV : EV (K W Ls) u s rows')
    (hT : TabE T t e s by_ z) (hzs : z.length = s) (hs0 : 0 < s) (hl : i < Ls.length) (hi : Ls.getD i [] = c) (h1 : ∀ r ∈ rows', r.all Value.oneCell' = true) (hmax : rows.length + rows'.length < 1000000) (hby : by_ ≤ 1000) :
    Doos P n σ (K W Ls) ⟨dst, .call ⟨.builtin .append, #[x, y], #[t, t]⟩, ty, pos, after, guard⟩ (X := { u : Value × Chunk // BufR e s u.1 u.2 (rows ++ rows') }) (fun u => u.1.1) (fun u => K W (Ls.set i u.1.2)) := by
  have h2 : (rows.length + rows'.length) * by_ ≤ 1000000 * 1000 := Nat.mul_le_mul (by omega) hby
  have hlen := lens.app.2 ⟨hB.len, hV.len⟩
  have hfl := flat_len hV.len
  by_cases h0 : rows'.length = 0
  · obtain rfl : rows' = [] := List.eq_nil_of_length_eq_zero h0
    obtain ⟨pa, k, rfl, hk, hc⟩ := hV.view
    rcases hB.buf.ok with ⟨hz, hz2, rfl, rfl⟩ | ⟨o, rfl, rfl, ho, hp⟩
    · intro a w hE hw
      refine ⟨⟨(.slice none 0 0, []), by rw [List.append_nil]; exact hB⟩, w, ?_, ?_⟩
      · exact y_append_nn (C := K W Ls) T hx hy hT a w hE hw
      · show K W (Ls.set i []) w
        rw [set_same hl hi]; exact hw
    · intro a w hE hw
      obtain ⟨o', w', hr, hk'⟩ := do_append0 (W := W) (Ls := Ls) (n := n) (dst := dst) (ty := ty) (pos := pos) (after := after) (guard := guard) T i hx hy hT hi ho a w hE hw
      refine ⟨⟨(osl o'.1 (rows.length + 0), och e o'.1 (rows.flatten ++ [])), ⟨hlen, ⟨.inr ⟨o'.1, ?_, by simp, ?_, ?_⟩⟩⟩⟩, w', hr, hk'⟩
      · simp
      · simpa using o'.2.1
      · have := o'.2.2
        exact List.eq_nil_of_length_eq_zero (Nat.le_zero.1 (Nat.le_trans this (by rw [hp]; exact Nat.le_refl 0)))
  · obtain ⟨pa, k, rfl, hk, hc⟩ := hV.view
    obtain ⟨b, o2, rfl, h3⟩ := hc (by omega)
    have hn : CellsAre (K W Ls) ⟨b, o2, none⟩ rows'.flatten := fun w hw j hj => by
      have hj2 : j / s < rows'.length := by
        rw [hfl] at hj
        exact (Nat.div_lt_iff_lt_mul hs0).2 hj
      have h4 := hV.view.cell (i := j / s) (j := j % s) hj2 (Nat.mod_lt _ hs0) w hw
      obtain ⟨x, hx⟩ : ∃ x, rows'[j / s]? = some x := ⟨rows'[j / s], by simp [hj2]⟩
      have h5 := flat_get hV.len hx (j := j % s) (Nat.mod_lt _ hs0)
      have h6 : j / s * s + j % s = j := Nat.div_add_mod' j s
      rw [h6] at h5
      rw [addr_add]
      simp only [vblk, voff] at h4
      rw [show o2 + j / s * s + j % s = o2 + j by omega] at h4
      rw [h4, h5]
      have h7 : j % s < x.length := by rw [hV.len x (List.mem_of_getElem? hx)]; exact Nat.mod_lt _ hs0
      simp [rix, List.getD_eq_getElem?_getD, hx, h7]
    intro a w hE hw
    obtain ⟨u, w', hr, hk'⟩ := do_appendB (W := W) (n := n) (σ := σ) (dst := dst) (ty := ty) (pos := pos) (after := after) (guard := guard) (k := rows'.length) T i hx hB.buf hy hT hzs hl hi (by omega) hn hfl (fun v hv => by
      obtain ⟨r, hr, hv⟩ := List.mem_flatten.1 hv
      exact List.all_eq_true.1 (h1 r hr) v hv) (by unfold maxLen; omega) (by omega) a w hE hw
    exact ⟨⟨u.1, ⟨hlen, by
      have := u.2
      rw [List.length_append, List.flatten_append]
      exact this⟩⟩, w', hr, hk'⟩
theorem CellsAre.nth {b o : Nat} {l : List Value} {x : Value} (j : Nat) (h : CellsAre C ⟨b, o, none⟩ l) (hx : l[j]? = some x) : CellIs C ⟨b, o + j, none⟩ x := fun w hw => by
  have hj : j < l.length := by
    rcases Nat.lt_or_ge j l.length with c | c
    · exact c
    · rw [List.getElem?_eq_none c] at hx; cases hx
  have h1 := h w hw j hj
  rw [addr_add] at h1
  rw [h1, hx]
theorem BufR.lit {b : Nat} : BufR e s (.slice (some ⟨b, 0, none⟩) 0 0) [(b, row e [])] [] := ⟨lens.nil, ⟨.inr ⟨⟨b, 0, [], []⟩, rfl, rfl, ⟨Nat.le_refl _, by simp, by simp, by simp⟩, rfl⟩⟩⟩
end
end Go.KL
end

section
/- Walks: Join, Of. -/
namespace Go.KL
open Go.Proofs
theorem rnl_get {R : List Rn} {i : Nat} {x : Rn} (h : R[i]? = some x) : (rnl R)[i]? = some (rnc x) := by rw [List.getElem?_map, h]; rfl
theorem rnl_one {R : List Rn} : ∀ r ∈ rnl R, r.all Value.oneCell' = true := fun r hr => by
  obtain ⟨x, _, rfl⟩ := List.mem_map.1 hr
  rfl
attribute [local irreducible] SC St Fin Sq Ylds Doos Sets Enters Spec CellIs CellsAre Then Ret Rnd Chn resOK ints bools recs arr
set_option maxRecDepth 10000 in
set_option maxHeartbeats 4000000 in
theorem rjoin_spec {W : World} {N : List Chunk} {v : Value} {c : Chunk} {R : List Rn} {lo hi tag : Nat} (hB : BufR 26 3 v c (rnl R)) (hl : R.length < 100000) : Spec Tryz.prog 68 #[v, .agg #[.int .i64 (lo : Nat), .int .i64 (hi : Nat), .int .i64 (tag : Nat)]] (K W (c :: N))
    (X := { x : Value × Chunk // BufR 26 3 x.1 x.2 (rnl (jn R (lo, hi, tag))) }) (fun x => x.1.1) (fun x => K W (x.1.2 :: N)) := by
  have hrl : (rnl R).length = R.length := List.length_map _
  have h1 := hB.one
  refine enter (args := [_, _]) Tryz.func68 rfl Tryz.ntmps68 rfl ?_
  refine csr ?_
  refine sbx fun b3 => ?_
  by_cases c0 : hi ≤ lo
  · refine sa ?_
    refine snf ?_
    refine c_seq ?_
    refine csr ?_
    refine sf0 ?_
    refine slr 0 ?_
    refine sf 1 ?_
    refine slr 0 ?_
    refine sy (y_T (y_geq rfl rfl) (by omega)) ?_
    refine snf ?_
    refine c_condT rfl ?_
    refine csr ?_
    refine sm ?_
    refine sa ?_
    refine snf ?_
    refine c_ret ?_
    refine f_thenR ?_
    exact f_ret ⟨(v, c), hB.of (by rw [jn, if_pos c0])⟩ (res1 rfl rfl) (fun w h => h.tail)
  rcases List.eq_nil_or_concat R with e | ⟨R', y, e⟩
  · subst e
    refine sa ?_
    refine snf ?_
    refine c_seq ?_
    refine csr ?_
    refine sf0 ?_
    refine slr 0 ?_
    refine sf 1 ?_
    refine slr 0 ?_
    refine sy (y_F (y_geq rfl rfl) (by omega)) ?_
    refine snf ?_
    refine c_condF rfl ?_
    refine c_skip ?_
    refine f_then ?_
    refine csr ?_
    refine sm ?_
    refine sy (y_lenR' Tryz.tab rfl hB rfl) ?_
    refine sa ?_
    refine snf ?_
    refine c_seq ?_
    refine c_seq ?_
    refine c_quiet Tryz.mixed (by kernel_rfl) K.drew ?_
    refine q_y (y_move rfl) rfl rfl rfl ?_
    refine q_y (y_gtr rfl rfl) rfl rfl rfl ?_
    refine q_y (y_move rfl) rfl rfl rfl ?_
    iterate 9 refine q_skip rfl rfl rfl ?_
    refine q_y (y_pickF rfl rfl) rfl rfl rfl ?_
    refine q_nil ?_
    refine f_then ?_
    refine c_condF rfl ?_
    refine c_skip ?_
    refine f_then ?_
    refine csr ?_
    refine sm ?_
    refine sy (y_loadA Tryz.tab rfl rfl rfl rfl (cells_row0 0 rfl rfl)) ?_
    refine s_do (do_buildSliceS Tryz.tab ⟨rfl, rfl, rfl, rfl⟩ rfl rfl rfl rfl) rfl rfl rfl (fun b50 => ?_)
    refine s_do (do_appendR (by_ := 24) (news := rnc (lo, hi, tag)) Tryz.tab 2 rfl hB rfl ⟨rfl, rfl, rfl, rfl⟩ rfl (by simp) rfl (cells_row0 0 rfl rfl) rfl rfl (by omega) (by omega)) rfl rfl rfl (fun x => ?_)
    obtain ⟨⟨u, d⟩, hu⟩ := x
    dsimp only at hu ⊢
    refine sa ?_
    refine snf ?_
    refine c_ret ?_
    exact f_ret ⟨(u, d), hu.of (by rw [jn_nil _ (by show lo < hi; omega)]; rfl)⟩ (res1 rfl rfl) (fun w h => h.tail.tail)
  · rw [List.concat_eq_append] at e
    subst e
    have hE : EV (K W ([(b3, row 26 [.int .i64 (lo : Nat), .int .i64 (hi : Nat), .int .i64 (tag : Nat)])] :: c :: N)) v 3 (rnl (R' ++ [y])) := hB.view (Hs.at 1 rfl)
    have hl2 : (R' ++ [y]).length = R'.length + 1 := by simp
    have hcy : CellsAre (K W ([(b3, row 26 [.int .i64 (lo : Nat), .int .i64 (hi : Nat), .int .i64 (tag : Nat)])] :: c :: N)) ⟨vblk v, voff v + R'.length * 3, none⟩ [.int .i64 (y.1 : Nat), .int .i64 (y.2.1 : Nat), .int .i64 (y.2.2 : Nat)] := hE.row (rnl_get (i := R'.length) (x := y) (by simp))
    have hjn := jn_snoc R' y (lo, hi, tag) (by show lo < hi; omega)
    have e1 : ((rnl (R' ++ [y])).length : Int) - 1 = (R'.length : Nat) := by omega
    by_cases c1 : y.2.2 = tag
    · rw [if_pos c1] at hjn
      refine sa ?_
      refine snf ?_
      refine c_seq ?_
      refine csr ?_
      refine sf0 ?_
      refine slr 0 ?_
      refine sf 1 ?_
      refine slr 0 ?_
      refine sy (y_F (y_geq rfl rfl) (by omega)) ?_
      refine snf ?_
      refine c_condF rfl ?_
      refine c_skip ?_
      refine f_then ?_
      refine csr ?_
      refine sm ?_
      refine sy (y_lenE Tryz.tab rfl (hE) rfl) ?_
      refine sa ?_
      refine snf ?_
      refine c_seq ?_
      refine c_seq ?_
      refine c_quiet Tryz.mixed (by kernel_rfl) K.drew ?_
      refine q_y (y_move rfl) rfl rfl rfl ?_
      refine q_y (y_T (y_gtr rfl rfl) (by omega)) rfl rfl rfl ?_
      refine q_y (y_move rfl) rfl rfl rfl ?_
      refine q_y (y_move rfl) rfl rfl rfl ?_
      refine q_y (y_move rfl) rfl rfl rfl ?_
      refine q_y (y_sub rfl rfl (by omega)) rfl rfl rfl ?_
      refine q_y (y_ixE Tryz.tab rfl rfl rfl rfl hE R'.length e1 (by omega)) rfl rfl rfl ?_
      refine q_y (y_fieldAddr Tryz.tab 2 rfl rfl rfl rfl rfl) rfl rfl rfl ?_
      refine q_y (y_load Tryz.tab rfl rfl (CellsAre.nth 2 (hcy) rfl)) rfl rfl rfl ?_
      refine q_y (y_fieldAddrB Tryz.tab 2 rfl rfl rfl rfl rfl) rfl rfl rfl ?_
      refine q_y (y_load Tryz.tab rfl rfl (cell_row 0 rfl rfl)) rfl rfl rfl ?_
      refine q_y (y_T (y_eql rfl rfl) (by omega)) rfl rfl rfl ?_
      refine q_y (y_pickT rfl rfl) rfl rfl rfl ?_
      refine q_nil ?_
      refine f_then ?_
      refine c_condT rfl ?_
      refine csr ?_
      refine sa ?_
      refine snf ?_
      refine csr ?_
      refine sm ?_
      refine sm ?_
      refine sm ?_
      refine sy (y_sub rfl rfl (by omega)) ?_
      refine sy (y_toV Tryz.tab rfl rfl rfl rfl hE e1 (by omega)) ?_
      refine St.cls (C' := K W ([] :: [(b3, row 26 [.int .i64 (lo : Nat), .int .i64 (hi : Nat), .int .i64 (tag : Nat)])] :: c :: N)) ?_ (fun w h => h.addNil)
      refine s_do (do_appendRV (by_ := 24) Tryz.tab 0 rfl .nil rfl ((hE.to (k := R'.length) (by omega)).cons) ⟨rfl, rfl, rfl, rfl⟩ rfl (by omega) (Nat.lt_of_sub_eq_succ rfl) rfl (fun r hr => rnl_one r (List.mem_of_mem_take hr)) (by simp; omega) (by omega)) rfl rfl rfl (fun x => ?_)
      obtain ⟨⟨u, d⟩, hu⟩ := x
      have hu : BufR 26 3 u d (rnl R') := hu.of (by simp [rnl])
      dsimp only
      have hur : (rnl R').length = R'.length := List.length_map _
      have hE2 : EV (K W (d :: [(b3, row 26 [.int .i64 (lo : Nat), .int .i64 (hi : Nat), .int .i64 (tag : Nat)])] :: c :: N)) v 3 (rnl (R' ++ [y])) := hE.cons
      have hcy2 := hcy.cons (c := d)
      refine sa ?_
      refine snf ?_
      refine c_seq ?_
      refine c_plan [.c 0, .c 1, .c 2, .c 3, .c 4, .c 5, .c 6, .c 7, .c 8, .c 9, .c 10, .c 11, .s 12, .s 13, .c 14] [] ((K W ([(b3, row 26 [.int .i64 (lo : Nat), .int .i64 (hi : Nat), .int .i64 (tag : Nat)])] :: c :: N))) Tryz.mixed (by kernel_rfl) rfl K.cl ?_
      refine dy rfl (y_move rfl) (fun _ h => h.tail) ?_
      refine dy rfl (y_move rfl) (fun _ h => h.tail) ?_
      refine dy rfl (y_move rfl) (fun _ h => h.tail) ?_
      refine dy rfl (y_sub rfl rfl (by omega)) (fun _ h => h.tail) ?_
      refine dy rfl (y_ixE Tryz.tab rfl rfl rfl rfl hE R'.length e1 (by omega)) (fun w h => h.tail) ?_
      refine dy rfl (y_fieldAddr0 Tryz.tab rfl rfl rfl rfl rfl) (fun _ h => h.tail) ?_
      refine dy rfl (y_load Tryz.tab rfl rfl (CellsAre.at0 (hcy) rfl)) (fun _ h => h.tail) ?_
      refine dy rfl (y_fieldAddrB Tryz.tab 1 rfl rfl rfl rfl rfl) (fun _ h => h.tail) ?_
      refine dy rfl (y_load Tryz.tab rfl rfl (cell_row 0 rfl rfl)) (fun _ h => h.tail) ?_
      refine dy rfl (y_fieldAddrB Tryz.tab 2 rfl rfl rfl rfl rfl) (fun _ h => h.tail) ?_
      refine dy rfl (y_load Tryz.tab rfl rfl (cell_row 0 rfl rfl)) (fun _ h => h.tail) ?_
      refine dy rfl (y_build Tryz.tab rfl rfl rfl rfl rfl) (fun _ h => h.tail) ?_
      refine d_s rfl (do_buildSliceS Tryz.tab ⟨rfl, rfl, rfl, rfl⟩ rfl rfl rfl rfl) rfl rfl rfl (fun _ => K.cl) (fun _ _ _ h => h.tail.tail) (fun b46 => ?_)
      refine d_s rfl (do_appendR (by_ := 24) (news := rnc (y.1, hi, tag)) Tryz.tab 1 rfl hu rfl ⟨rfl, rfl, rfl, rfl⟩ rfl (Nat.lt_of_sub_eq_succ rfl) rfl (cells_row0 0 rfl rfl) rfl rfl (by omega) (by omega)) rfl rfl rfl (fun _ => K.cl) (fun _ _ _ h => h.tail.tail) (fun x => ?_)
      obtain ⟨⟨u', d'⟩, hu'⟩ := x
      dsimp only at hu' ⊢
      refine dy rfl (y_assign rfl) (fun _ h => h.tail.tail) ?_
      refine d_nil ?_
      refine f_then ?_
      refine c_ret ?_
      refine f_thenR ?_
      exact f_ret ⟨(u', d'), hu'.of (by rw [hjn]; simp [rnl])⟩ (res1 rfl rfl) (fun w h => (h.tail.dropAt 1).dropAt 1)
    · rw [if_neg c1] at hjn
      refine sa ?_
      refine snf ?_
      refine c_seq ?_
      refine csr ?_
      refine sf0 ?_
      refine slr 0 ?_
      refine sf 1 ?_
      refine slr 0 ?_
      refine sy (y_F (y_geq rfl rfl) (by omega)) ?_
      refine snf ?_
      refine c_condF rfl ?_
      refine c_skip ?_
      refine f_then ?_
      refine csr ?_
      refine sm ?_
      refine sy (y_lenE Tryz.tab rfl (hE) rfl) ?_
      refine sa ?_
      refine snf ?_
      refine c_seq ?_
      refine c_seq ?_
      refine c_quiet Tryz.mixed (by kernel_rfl) K.drew ?_
      refine q_y (y_move rfl) rfl rfl rfl ?_
      refine q_y (y_T (y_gtr rfl rfl) (by omega)) rfl rfl rfl ?_
      refine q_y (y_move rfl) rfl rfl rfl ?_
      refine q_y (y_move rfl) rfl rfl rfl ?_
      refine q_y (y_move rfl) rfl rfl rfl ?_
      refine q_y (y_sub rfl rfl (by omega)) rfl rfl rfl ?_
      refine q_y (y_ixE Tryz.tab rfl rfl rfl rfl hE R'.length e1 (by omega)) rfl rfl rfl ?_
      refine q_y (y_fieldAddr Tryz.tab 2 rfl rfl rfl rfl rfl) rfl rfl rfl ?_
      refine q_y (y_load Tryz.tab rfl rfl (CellsAre.nth 2 (hcy) rfl)) rfl rfl rfl ?_
      refine q_y (y_fieldAddrB Tryz.tab 2 rfl rfl rfl rfl rfl) rfl rfl rfl ?_
      refine q_y (y_load Tryz.tab rfl rfl (cell_row 0 rfl rfl)) rfl rfl rfl ?_
      refine q_y (y_F (y_eql rfl rfl) (by omega)) rfl rfl rfl ?_
      refine q_y (y_pickT rfl rfl) rfl rfl rfl ?_
      refine q_nil ?_
      refine f_then ?_
      refine c_condF rfl ?_
      refine c_skip ?_
      refine f_then ?_
      refine csr ?_
      refine sm ?_
      refine sy (y_loadA Tryz.tab rfl rfl rfl rfl (cells_row0 0 rfl rfl)) ?_
      refine s_do (do_buildSliceS Tryz.tab ⟨rfl, rfl, rfl, rfl⟩ rfl rfl rfl rfl) rfl rfl rfl (fun b50 => ?_)
      refine s_do (do_appendR (by_ := 24) (news := rnc (lo, hi, tag)) Tryz.tab 2 rfl hB rfl ⟨rfl, rfl, rfl, rfl⟩ rfl (Nat.lt_of_sub_eq_succ rfl) rfl (cells_row0 0 rfl rfl) rfl rfl (by omega) (by omega)) rfl rfl rfl (fun x => ?_)
      obtain ⟨⟨u, d⟩, hu⟩ := x
      dsimp only at hu ⊢
      refine sa ?_
      refine snf ?_
      refine c_ret ?_
      exact f_ret ⟨(u, d), hu.of (by rw [hjn]; simp [rnl])⟩ (res1 rfl rfl) (fun w h => h.tail.tail)
def tgf (f : Nat → Int) (i : Nat) : Nat := (f i % 16).toNat
theorem rnsK_len_le (f : Nat → Nat) (lo : Nat) : ∀ k, (rnsK f lo k).length ≤ k
  | 0 => Nat.le_refl _
  | k + 1 => by
    have ih := rnsK_len_le f lo k
    rw [rnsK, jn]
    split
    · omega
    · split
      · simp
      · split
        · rw [List.length_append, List.length_dropLast]
          simp
          omega
        · rw [List.length_append]
          simp
          omega
set_option maxRecDepth 10000 in
set_option maxHeartbeats 4000000 in
theorem of_spec {W : World} {N : List Chunk} {v : Value} {n : Nat} {f : Nat → Int} (hV : SlV (K W N) v n 1 (fun i _ => .int .u8 (f i))) (hn : n < 100000) (hf : ∀ i, i < n → 0 ≤ f i ∧ f i < 256) : Spec Tryz.prog 32 #[v] (K W N)
    (X := { x : Value × Chunk // BufR 26 3 x.1 x.2 (rnl (rns (tgf f) 0 n)) }) (fun x => .agg #[.int .i64 (n : Nat), x.1.1]) (fun x => K W (x.1.2 :: N)) := by
  refine enter (args := [_]) Tryz.func32 rfl Tryz.ntmps32 rfl ?_
  refine csr ?_
  refine sal fun b2 => ?_
  refine snf ?_
  refine csr ?_
  refine sa ?_
  refine snf ?_
  refine c_seq ?_
  refine csr ?_
  refine sa ?_
  refine snf ?_
  refine c_block ?_
  refine c_loopP (α := Nat × Value × Chunk) (fun z => [(0, v), (2, .pointer (some ⟨b2, 0, none⟩)), (3, z.2.1), (4, .int .i64 (z.1 : Nat))]) (fun z => z.1 ≤ n ∧ BufR 26 3 z.2.1 z.2.2 (rnl (rnsK (tgf f) 0 z.1))) (fun z => K W (z.2.2 :: [(b2, row 37 [.int .i64 0, .slice none 0 0])] :: N)) (fun z => n - z.1) (0, .slice none 0 0, [])
    ⟨rfl, rfl, rfl, rfl, trivial⟩ ⟨Nat.zero_le _, .nil⟩ (fun w h => h.addNil) ?_
  rintro ⟨i, u, d⟩ ⟨hi, hu⟩
  dsimp only at hi hu ⊢
  have hV' : SlV (K W (d :: [(b2, row 37 [.int .i64 0, .slice none 0 0])] :: N)) v n 1 (fun i _ => .int .u8 (f i)) := hV.cons.cons
  by_cases c : i < n
  · have hfi := hf i c
    have et : f i % 16 = (tgf f i : Nat) := by unfold tgf; omega
    have hj := rjoin_spec (W := W) (N := [(b2, row 37 [.int .i64 0, .slice none 0 0])] :: N) (lo := i) (hi := i + 1) (tag := tgf f i) hu (by have := rnsK_len_le (tgf f) 0 i; omega)
    rw [show ((i + 1 : Nat) : Int) = (i : Int) + 1 from rfl] at hj
    refine c_seq ?_
    refine csr ?_
    refine sm ?_
    refine sm ?_
    refine sy (y_lenV Tryz.tab rfl (hV') rfl) ?_
    refine sy (y_T (y_lss rfl rfl) (by omega)) ?_
    refine snf ?_
    refine c_condT rfl ?_
    refine c_skip ?_
    refine f_then ?_
    refine c_seq ?_
    refine c_block ?_
    refine c_region ?_
    refine sm ?_
    refine sm ?_
    refine sm ?_
    refine sy (y_add rfl rfl (by omega)) ?_
    refine sm ?_
    refine sm ?_
    refine sy (y_ixV Tryz.tab rfl rfl rfl rfl (hV') _ rfl (by omega)) ?_
    refine sl (SlV.cell1 (hV') (by omega)) ?_
    refine sy (y_remK rfl rfl (by omega)) ?_
    refine sy (y_toI Tryz.tab rfl rfl rfl (by omega)) ?_
    rw [et]
    refine sy (y_build Tryz.tab rfl rfl rfl rfl rfl) ?_
    refine sk Tryz.call68 hj fun x => ?_
    obtain ⟨⟨u', d'⟩, hu'⟩ := x
    dsimp only at hu' ⊢
    refine sa ?_
    refine s_nil ?_
    refine f_blockN ?_
    refine f_then ?_
    refine c_region ?_
    refine sm ?_
    refine sy (y_add rfl rfl (by omega)) ?_
    refine sa ?_
    refine s_nil ?_
    exact f_roundP (i + 1, u', d') ⟨c, hu'.of (by rw [rnsK, Nat.zero_add])⟩ (by dsimp only; omega) ⟨rfl, rfl, rfl, rfl, trivial⟩ (fun w h => h)
  · obtain rfl : i = n := by omega
    have hE := hu.view (C := K W (d :: [(b2, row 37 [.int .i64 0, .slice none 0 0])] :: N)) (Hs.at 0 rfl)
    obtain ⟨pa, k, rfl, _, _⟩ := hE.view
    refine c_seq ?_
    refine csr ?_
    refine sm ?_
    refine sm ?_
    refine sy (y_lenV Tryz.tab rfl (hV') rfl) ?_
    refine sy (y_F (y_lss rfl rfl) (by omega)) ?_
    refine snf ?_
    refine c_condF rfl ?_
    refine c_exit ?_
    refine f_thenE ?_
    refine f_rndE ?_
    refine f_blockE ?_
    refine f_then ?_
    refine csr ?_
    refine sm ?_
    refine sy (y_lenV Tryz.tab rfl (hV') rfl) ?_
    refine sm ?_
    refine sy (y_build Tryz.tab rfl rfl rfl rfl rfl) ?_
    refine ss (set_box Tryz.tab 1 rfl rfl rfl rfl rfl rfl rfl) ?_
    refine snf ?_
    refine c_ret ?_
    exact f_ret ⟨(_, d), hu⟩ (resA Tryz.tab rfl rfl rfl rfl rfl (cells_row0 1 rfl rfl)) (fun w h => h.dropAt 1)
end Go.KL
end

section
/- Runs of maps: parts, replaced tags, counts; plain. No program in sight. -/
namespace Go.KL
theorem jn_len (R : List Rn) (x : Rn) : (jn R x).length ≤ R.length + 1 := by
  unfold jn
  split
  · omega
  · split
    · simp
    · split
      · simp [List.length_dropLast]
      · simp
theorem jn_no {R : List Rn} {x : Rn} (h : x.2.1 ≤ x.1) : jn R x = R := by rw [jn, if_pos h]
theorem Rns.jn' {f : Nat → Nat} {R : List Rn} {lo m m' t : Nat} (h : Rns f lo m R) (ht : ∀ i, m ≤ i → i < m' → f i = t) : Rns f lo (max m m') (KL.jn R (m, m', t)) := by
  by_cases c : m' ≤ m
  · rw [jn_no c, show max m m' = m by omega]
    exact h
  · rw [show max m m' = m' by omega]
    exact h.jn (by omega) ht
theorem Rns.clip {f : Nat → Nat} {R : List Rn} {lo hi a b t : Nat} (h : Rns f lo (max lo (min hi a)) R) (hab : a < b) (ht : ∀ i, a ≤ i → i < b → f i = t) : Rns f lo (max lo (min hi b)) (KL.jn R (max lo a, min hi b, t)) := by
  by_cases c : min hi b ≤ max lo a
  · rw [jn_no c, show max lo (min hi b) = max lo (min hi a) by omega]
    exact h
  · rw [show max lo (min hi a) = max lo a by omega] at h
    rw [show max lo (min hi b) = min hi b by omega]
    exact h.jn (by omega) fun i h1 h2 => ht i (by omega) (by omega)
def swf (f : Nat → Nat) (lo hi fr to : Nat) : Nat → Nat := fun i => if (lo ≤ i ∧ i < hi) ∧ f i = fr then to else f i
theorem swf_setf {f : Nat → Nat} {lo hi fr to : Nat} (h : ∀ i, lo ≤ i → i < hi → f i = fr) : swf f lo hi fr to = setf f lo hi to := by
  funext i
  unfold swf setf
  by_cases c : lo ≤ i ∧ i < hi
  · rw [if_pos c, if_pos ⟨c, h i c.1 c.2⟩]
  · rw [if_neg c, if_neg fun d => c d.1]
abbrev swa (lo a b : Nat) : Nat := max a (min lo b)
abbrev swb (hi a b : Nat) : Nat := min b (max hi a)
theorem Rns.swap {f : Nat → Nat} {R : List Rn} {lo hi fr to a b t : Nat} (h : Rns (swf f lo hi fr to) 0 a R) (hab : a < b) (ht : ∀ i, a ≤ i → i < b → f i = t) :
    Rns (swf f lo hi fr to) 0 b (KL.jn (KL.jn (KL.jn R (a, swa lo a b, t)) (swa lo a b, swb hi a b, if t = fr then to else t)) (max (swa lo a b) (swb hi a b), b, t)) := by
  have hA : swa lo a b = max a (min lo b) := rfl
  have hB : swb hi a b = min b (max hi a) := rfl
  have h1 := h.jn' (m' := swa lo a b) (t := t) fun i h1 h2 => by
    unfold swf
    rw [ht i h1 (by omega), if_neg (by omega)]
  rw [show max a (swa lo a b) = swa lo a b by omega] at h1
  have h2 := h1.jn' (m' := swb hi a b) (t := if t = fr then to else t) fun i h1 h2 => by
    unfold swf
    rw [ht i (by omega) (by omega)]
    by_cases c : t = fr
    · rw [if_pos c, if_pos ⟨by omega, c⟩]
    · rw [if_neg c, if_neg fun d => c d.2]
  have h3 := h2.jn' (m' := b) (t := t) fun i h1 h2 => by
    unfold swf
    rw [ht i (by omega) h2, if_neg (by omega)]
  rw [show max (max (swa lo a b) (swb hi a b)) b = b by omega] at h3
  exact h3
def cntR (t : Nat) (R : List Rn) : Nat := (R.map fun x => if x.2.2 = t then x.2.1 - x.1 else 0).sum
theorem cntf_seg {f : Nat → Nat} {t u a b : Nat} (hab : a ≤ b) (h : ∀ i, a ≤ i → i < b → f i = u) : cntf f t b = cntf f t a + if u = t then b - a else 0 := by
  obtain ⟨k, rfl⟩ : ∃ k, b = a + k := ⟨b - a, by omega⟩
  rw [cntf_add, cntf_const (u := u) fun i hi => h (a + i) (by omega) (by omega), Nat.add_sub_cancel_left]
  by_cases c : t = u
  · rw [if_pos c, if_pos c.symm]
  · rw [if_neg c, if_neg fun d => c d.symm]
theorem Rns.cnt {f : Nat → Nat} {t : Nat} : ∀ {R : List Rn} {lo hi : Nat}, Rns f lo hi R → cntf f t hi = cntf f t lo + cntR t R
  | [], lo, hi, h => by
    have : lo = hi := h
    rw [this]
    rfl
  | x :: R, lo, hi, h => by
    have h1 := cntf_seg (t := t) (Nat.le_of_lt h.2.1) h.2.2.1
    rw [h.2.2.2.2.cnt, h1, ← h.1]
    unfold cntR
    rw [List.map_cons, List.sum_cons]
    omega
end Go.KL
end

section
/- Walks: the document's maps: Usable, valid, Tag, full, Runs, Count. -/
namespace Go.KL
open Go.Proofs
structure RMp (C : World → Prop) (lv : Value) (n : Nat) (f : Nat → Nat) : Prop where
  v : EV C lv 3 (rnl (rns f 0 n))
  pos : 1 ≤ n ∧ n ≤ 1099511627776
  nb : nbd f n ≤ 4096
theorem RMp.cls {C D : World → Prop} {lv : Value} {n : Nat} {f : Nat → Nat} (h : RMp C lv n f) (hD : ∀ w, D w → C w) : RMp D lv n f := ⟨h.v.cls hD, h.pos, h.nb⟩
theorem RMp.cons {W : World} {Ls : List Chunk} {d : Chunk} {lv : Value} {n : Nat} {f : Nat → Nat} (h : RMp (K W Ls) lv n f) : RMp (K W (d :: Ls)) lv n f := ⟨h.v.cons, h.pos, h.nb⟩
theorem drop_get' {α : Type} {l : List α} {i : Nat} {x : α} (h : l[i]? = some x) : l.drop i = x :: l.drop (i + 1) := by
  obtain ⟨hi, rfl⟩ := List.getElem?_eq_some_iff.1 h
  exact List.drop_eq_getElem_cons hi
theorem rns_pos {f : Nat → Nat} {n : Nat} (h : 1 ≤ n) : 0 < (rns f 0 n).length := by
  have hR := rns_ok (f := f) (lo := 0) (hi := n) (Nat.zero_le _)
  cases e : rns f 0 n with
  | nil =>
    rw [e] at hR
    have : 0 = n := hR
    omega
  | cons x r => simp
attribute [local irreducible] SC St Fin Sq Ylds Doos Sets Enters Spec CellIs CellsAre Then Ret Rnd Chn resOK ints bools recs arr
section
variable {W : World} {N : List Chunk} {lv : Value} {n : Nat} {f : Nat → Nat}
set_option maxRecDepth 10000 in
theorem rtag_spec {C : World → Prop} {z : Int} : Spec Tryz.prog 71 #[.int .i64 z] C (fun _ : Unit => .bool (decide (0 ≤ z ∧ z < 16))) (fun _ => C) := by
  refine enter (args := [_]) Tryz.func71 rfl Tryz.ntmps71 rfl ?_
  by_cases c : 0 ≤ z
  · by_cases c2 : z < 16
    · rw [decide_eq_true (show 0 ≤ z ∧ z < 16 from ⟨c, c2⟩)]
      refine csr ?_
      refine sa ?_
      refine snf ?_
      refine csr ?_
      refine sm ?_
      refine sy (y_T (y_geq rfl rfl) (by assumption)) ?_
      refine sm ?_
      refine sm ?_
      refine sy (y_T (y_lss rfl rfl) (by assumption)) ?_
      refine spT ?_
      refine sa ?_
      refine snf ?_
      refine c_ret ?_
      exact f_ret () (res1 rfl rfl) (fun w h => h)
    · rw [decide_eq_false (show ¬ (0 ≤ z ∧ z < 16) from fun h => c2 h.2)]
      refine csr ?_
      refine sa ?_
      refine snf ?_
      refine csr ?_
      refine sm ?_
      refine sy (y_T (y_geq rfl rfl) (by assumption)) ?_
      refine sm ?_
      refine sm ?_
      refine sy (y_F (y_lss rfl rfl) (by assumption)) ?_
      refine spT ?_
      refine sa ?_
      refine snf ?_
      refine c_ret ?_
      exact f_ret () (res1 rfl rfl) (fun w h => h)
  · rw [decide_eq_false (show ¬ (0 ≤ z ∧ z < 16) from fun h => c h.1)]
    refine csr ?_
    refine sa ?_
    refine snf ?_
    refine csr ?_
    refine sm ?_
    refine sy (y_F (y_geq rfl rfl) (by assumption)) ?_
    refine sm ?_
    iterate 2 refine s_skip rfl rfl rfl ?_
    refine spF ?_
    refine sa ?_
    refine snf ?_
    refine c_ret ?_
    exact f_ret () (res1 rfl rfl) (fun w h => h)
theorem rtagT {C : World → Prop} {z : Int} (h : 0 ≤ z ∧ z < 16) : Spec Tryz.prog 71 #[.int .i64 z] C (fun _ : Unit => .bool true) (fun _ => C) := by
  have := rtag_spec (C := C) (z := z)
  rwa [decide_eq_true h] at this
set_option maxRecDepth 10000 in
theorem usableM_spec (h : RMp (K W N) lv n f) : Spec Tryz.prog 69 #[.agg #[.int .i64 (n : Nat), lv]] (K W N) (fun _ : Unit => .bool true) (fun _ => K W N) := by
  have hp := rns_pos (f := f) h.pos.1
  have hl : (rnl (rns f 0 n)).length = (rns f 0 n).length := List.length_map _
  have hV := h.v
  obtain ⟨pa, k, rfl, _, _⟩ := hV.view
  refine enter (args := [_]) Tryz.func69 rfl Tryz.ntmps69 rfl ?_
  refine csr ?_
  refine sbx fun b1 => ?_
  refine sa ?_
  refine snf ?_
  refine csr ?_
  refine sf 1 ?_
  refine slr 0 ?_
  refine sy (y_lenE Tryz.tab rfl (hV.cons) rfl) ?_
  refine sy (y_T (y_gtr rfl rfl) (by omega)) ?_
  refine sa ?_
  refine snf ?_
  refine c_ret ?_
  exact f_ret () (res1 rfl rfl) (fun w h => h.tail)
set_option maxRecDepth 10000 in
theorem validM_spec (h : RMp (K W N) lv n f) {lo hi : Int} : Spec Tryz.prog 70 #[.agg #[.int .i64 (n : Nat), lv], .int .i64 lo, .int .i64 hi] (K W N) (fun _ : Unit => .bool (decide (0 ≤ lo ∧ lo ≤ hi ∧ hi ≤ n))) (fun _ => K W N) := by
  have hV := h.v
  obtain ⟨pa, k, rfl, _, _⟩ := hV.view
  refine enter (args := [_, _, _]) Tryz.func70 rfl Tryz.ntmps70 rfl ?_
  by_cases c1 : 0 ≤ lo
  · by_cases c2 : lo ≤ hi
    · by_cases c3 : hi ≤ n
      · rw [decide_eq_true (show 0 ≤ lo ∧ lo ≤ hi ∧ hi ≤ n from ⟨c1, c2, c3⟩)]
        refine csr ?_
        refine sbx fun b3 => ?_
        refine sa ?_
        refine snf ?_
        refine csr ?_
        refine sm ?_
        refine sy (y_T (y_leq rfl rfl) (by assumption)) ?_
        refine sm ?_
        refine sm ?_
        refine sm ?_
        refine sy (y_T (y_leq rfl rfl) (by assumption)) ?_
        refine spT ?_
        refine sm ?_
        refine sm ?_
        refine sf0 ?_
        refine slr 0 ?_
        refine sy (y_T (y_leq rfl rfl) (by assumption)) ?_
        refine spT ?_
        refine sa ?_
        refine snf ?_
        refine c_ret ?_
        exact f_ret () (res1 rfl rfl) (fun w h => h.tail)
      · rw [decide_eq_false (show ¬ (0 ≤ lo ∧ lo ≤ hi ∧ hi ≤ n) from fun h => c3 h.2.2)]
        refine csr ?_
        refine sbx fun b3 => ?_
        refine sa ?_
        refine snf ?_
        refine csr ?_
        refine sm ?_
        refine sy (y_T (y_leq rfl rfl) (by assumption)) ?_
        refine sm ?_
        refine sm ?_
        refine sm ?_
        refine sy (y_T (y_leq rfl rfl) (by assumption)) ?_
        refine spT ?_
        refine sm ?_
        refine sm ?_
        refine sf0 ?_
        refine slr 0 ?_
        refine sy (y_F (y_leq rfl rfl) (by assumption)) ?_
        refine spT ?_
        refine sa ?_
        refine snf ?_
        refine c_ret ?_
        exact f_ret () (res1 rfl rfl) (fun w h => h.tail)
    · rw [decide_eq_false (show ¬ (0 ≤ lo ∧ lo ≤ hi ∧ hi ≤ n) from fun h => c2 h.2.1)]
      refine csr ?_
      refine sbx fun b3 => ?_
      refine sa ?_
      refine snf ?_
      refine csr ?_
      refine sm ?_
      refine sy (y_T (y_leq rfl rfl) (by assumption)) ?_
      refine sm ?_
      refine sm ?_
      refine sm ?_
      refine sy (y_F (y_leq rfl rfl) (by assumption)) ?_
      refine spT ?_
      refine sm ?_
      iterate 4 refine s_skip rfl rfl rfl ?_
      refine spF ?_
      refine sa ?_
      refine snf ?_
      refine c_ret ?_
      exact f_ret () (res1 rfl rfl) (fun w h => h.tail)
  · rw [decide_eq_false (show ¬ (0 ≤ lo ∧ lo ≤ hi ∧ hi ≤ n) from fun h => c1 h.1)]
    refine csr ?_
    refine sbx fun b3 => ?_
    refine sa ?_
    refine snf ?_
    refine csr ?_
    refine sm ?_
    refine sy (y_F (y_leq rfl rfl) (by assumption)) ?_
    refine sm ?_
    iterate 3 refine s_skip rfl rfl rfl ?_
    refine spF ?_
    refine sm ?_
    iterate 4 refine s_skip rfl rfl rfl ?_
    refine spF ?_
    refine sa ?_
    refine snf ?_
    refine c_ret ?_
    exact f_ret () (res1 rfl rfl) (fun w h => h.tail)
theorem validT (h : RMp (K W N) lv n f) {lo hi : Nat} (h1 : lo ≤ hi) (h2 : hi ≤ n) : Spec Tryz.prog 70 #[.agg #[.int .i64 (n : Nat), lv], .int .i64 (lo : Nat), .int .i64 (hi : Nat)] (K W N) (fun _ : Unit => .bool true) (fun _ => K W N) := by
  have := validM_spec h (lo := lo) (hi := hi)
  rwa [decide_eq_true (show 0 ≤ (lo : Int) ∧ (lo : Int) ≤ hi ∧ (hi : Int) ≤ n by omega)] at this
end
end Go.KL
end

section
/- Walks: build, From, made. -/
namespace Go.KL
open Go.Proofs
def bld : Nat → List Rn → Tree
  | 0, _ => .nil
  | k + 1, R => match R[R.length / 2]? with
    | none => .nil
    | some x => .node (bld k (R.take (R.length / 2))) (x.2.1 - x.1) x.2.2 (bld k (R.drop (R.length / 2 + 1)))
theorem bld_node {k : Nat} {R : List Rn} {x : Rn} (h : R[R.length / 2]? = some x) : bld (k + 1) R = .node (bld k (R.take (R.length / 2))) (x.2.1 - x.1) x.2.2 (bld k (R.drop (R.length / 2 + 1))) := by
  rw [bld, h]
theorem bld_none {k : Nat} {R : List Rn} (h : R.length = 0) : bld k R = .nil := by
  cases k with
  | zero => rfl
  | succ k => rw [bld, List.getElem?_eq_none (by omega)]
abbrev rll (x : Rn) : Nat × Nat := (x.2.1 - x.1, x.2.2)
theorem mid_get {R : List Rn} (h : 0 < R.length) : ∃ x, R[R.length / 2]? = some x := ⟨R[R.length / 2], by rw [List.getElem?_eq_getElem]⟩
theorem mid_split {R : List Rn} {x : Rn} {i : Nat} (h : R[i]? = some x) : R = R.take i ++ x :: R.drop (i + 1) := by
  obtain ⟨hi, rfl⟩ := List.getElem?_eq_some_iff.1 h
  rw [← List.drop_eq_getElem_cons hi, List.take_append_drop]
theorem bld_toL : ∀ (k : Nat) (R : List Rn), R.length ≤ k → (bld k R).toL = R.map rll
  | 0, R, h => by
    have : R = [] := List.eq_nil_of_length_eq_zero (by omega)
    rw [this]; rfl
  | k + 1, R, h => by
    by_cases c : R.length = 0
    · have : R = [] := List.eq_nil_of_length_eq_zero c
      rw [this]; rfl
    · obtain ⟨x, hx⟩ := mid_get (R := R) (by omega)
      rw [bld_node hx, Tree.toL, bld_toL k _ (by rw [List.length_take]; omega), bld_toL k _ (by rw [List.length_drop]; omega)]
      conv => rhs; rw [mid_split hx]
      rw [List.map_append, List.map_cons]
theorem bld_hi : ∀ (k h : Nat) (R : List Rn), R.length < 2 ^ h → (bld k R).ht ≤ h
  | 0, _, _, _ => Nat.zero_le _
  | k + 1, h, R, hl => by
    by_cases c : R.length = 0
    · rw [bld_none c]; exact Nat.zero_le _
    · obtain ⟨x, hx⟩ := mid_get (R := R) (by omega)
      cases h with
      | zero => rw [Nat.pow_zero] at hl; omega
      | succ h =>
        rw [Nat.pow_succ] at hl
        have h1 := bld_hi k h (R.take (R.length / 2)) (by rw [List.length_take]; omega)
        have h2 := bld_hi k h (R.drop (R.length / 2 + 1)) (by rw [List.length_drop]; omega)
        rw [bld_node hx, Tree.ht]
        omega
theorem bld_lo : ∀ (k h : Nat) (R : List Rn), 2 ^ h ≤ R.length → R.length ≤ k → h + 1 ≤ (bld k R).ht
  | 0, h, R, h1, h2 => by
    have := Nat.two_pow_pos h
    omega
  | k + 1, h, R, h1, h2 => by
    have hp := Nat.two_pow_pos h
    obtain ⟨x, hx⟩ := mid_get (R := R) (by omega)
    rw [bld_node hx, Tree.ht]
    cases h with
    | zero => omega
    | succ h =>
      rw [Nat.pow_succ] at h1
      have h3 := bld_lo k h (R.take (R.length / 2)) (by rw [List.length_take]; omega) (by rw [List.length_take]; omega)
      omega
theorem bld_bal : ∀ (k : Nat) (R : List Rn), R.length ≤ k → (bld k R).Bal
  | 0, _, _ => trivial
  | k + 1, R, h => by
    by_cases c : R.length = 0
    · rw [bld_none c]; trivial
    · obtain ⟨x, hx⟩ := mid_get (R := R) (by omega)
      rw [bld_node hx]
      have l1 : (R.take (R.length / 2)).length = R.length / 2 := by rw [List.length_take]; omega
      have l2 : (R.drop (R.length / 2 + 1)).length = R.length - (R.length / 2 + 1) := by rw [List.length_drop]
      refine ⟨bld_bal k _ (by omega), bld_bal k _ (by omega), ?_, ?_⟩
      · refine bld_hi k _ _ ?_
        rw [Nat.pow_succ]
        rcases Nat.lt_or_ge (R.drop (R.length / 2 + 1)).length (2 ^ (bld k (R.drop (R.length / 2 + 1))).ht) with d | d
        · omega
        · have := bld_lo k _ _ d (by omega)
          omega
      · refine Nat.le_trans (bld_hi k (bld k (R.take (R.length / 2))).ht _ ?_) (Nat.le_succ _)
        rcases Nat.lt_or_ge (R.take (R.length / 2)).length (2 ^ (bld k (R.take (R.length / 2))).ht) with d | d
        · omega
        · have := bld_lo k _ _ d (by omega)
          omega
structure RnOK (R : List Rn) : Prop where
  ok : ∀ x ∈ R, x.1 ≤ x.2.1 ∧ x.2.2 < 16
  sz : szL (R.map rll) ≤ 1152921504606846976
  len : R.length ≤ 1000000
theorem RnOK.left {A B : List Rn} (h : RnOK (A ++ B)) : RnOK A := ⟨fun x hx => h.ok x (List.mem_append_left _ hx), by have := h.sz; rw [List.map_append, szL_app] at this; omega, by have := h.len; rw [List.length_append] at this; omega⟩
theorem RnOK.right {A B : List Rn} (h : RnOK (A ++ B)) : RnOK B := ⟨fun x hx => h.ok x (List.mem_append_right _ hx), by have := h.sz; rw [List.map_append, szL_app] at this; omega, by have := h.len; rw [List.length_append] at this; omega⟩
attribute [local irreducible] SC St Fin Sq Ylds Doos Sets Enters Spec CellIs CellsAre Then Ret Rnd Chn resOK ints bools recs arr
set_option maxRecDepth 10000 in
set_option maxHeartbeats 4000000 in
theorem build_spec {W : World} {R : List Chunk} : ∀ (k : Nat) {p : Chunk} {v : Value} {L : List Rn}, L.length ≤ k → EV (K W R) v 3 (rnl L) → RnOK L → Spec Tryz.prog 46 #[v] (K W (p :: R)) (X := TX p (bld k L)) (fun x => x.1.2) (fun x => K W (x.1.1 :: R)) := by
  intro k
  induction k with
  | zero =>
    intro p v L hl hV hR
    obtain rfl : L = [] := List.eq_nil_of_length_eq_zero (by omega)
    have hV' : EV (K W (p :: R)) v 3 (rnl []) := hV.cons
    refine enter (args := [_]) Tryz.func46 rfl Tryz.ntmps46 rfl ?_
    refine csr ?_
    refine sa ?_
    refine snf ?_
    refine c_seq ?_
    refine csr ?_
    refine sm ?_
    refine sy (y_lenE Tryz.tab rfl (hV') rfl) ?_
    refine sy (y_eql rfl rfl) ?_
    refine snf ?_
    refine c_condT rfl ?_
    refine csr ?_
    refine sa ?_
    refine snf ?_
    refine c_ret ?_
    refine f_thenR ?_
    exact f_ret ⟨(p, .pointer none), .refl _, .nil⟩ (res1 rfl rfl) (fun w h => h)
  | succ k ih =>
    intro p v L hl hV hR
    have hV' : EV (K W (p :: R)) v 3 (rnl L) := hV.cons
    have hll : (rnl L).length = L.length := List.length_map _
    have h1 := hR.len
    refine enter (args := [_]) Tryz.func46 rfl Tryz.ntmps46 rfl ?_
    by_cases c : L.length = 0
    · refine csr ?_
      refine sa ?_
      refine snf ?_
      refine c_seq ?_
      refine csr ?_
      refine sm ?_
      refine sy (y_lenE Tryz.tab rfl (hV') rfl) ?_
      refine sy (y_T (y_eql rfl rfl) (by omega)) ?_
      refine snf ?_
      refine c_condT rfl ?_
      refine csr ?_
      refine sa ?_
      refine snf ?_
      refine c_ret ?_
      refine f_thenR ?_
      exact f_ret ⟨(p, .pointer none), .refl _, by rw [bld_none c]; exact .nil⟩ (res1 rfl rfl) (fun w h => h)
    · obtain ⟨x, hx⟩ := mid_get (R := L) (by omega)
      have hsp := mid_split hx
      obtain ⟨m, hm⟩ : ∃ m, L.length / 2 = m := ⟨_, rfl⟩
      have e1 : ((rnl L).length : Int) / 2 = (m : Nat) := by omega
      have e2 : ((rnl L).length : Int) / 2 + 1 = (m + 1 : Nat) := by omega
      rw [hm] at hx hsp
      have hcx : CellsAre (K W R) ⟨vblk v, voff v + m * 3, none⟩ [.int .i64 (x.1 : Nat), .int .i64 (x.2.1 : Nat), .int .i64 (x.2.2 : Nat)] := hV.row (rnl_get hx)
      have hR' := hR
      rw [hsp] at hR'
      have hRl := hR'.left
      have hRr : RnOK (L.drop (m + 1)) := RnOK.right (A := [x]) hR'.right
      obtain ⟨hx1, hx2⟩ := hR.ok x (List.mem_of_getElem? hx)
      have hxs : x.2.1 - x.1 ≤ 1152921504606846976 := by
        have := hR'.sz
        rw [List.map_append, szL_app, List.map_cons] at this
        simp only [szL] at this
        omega
      have hVl : EV (K W R) (tov v m) 3 (rnl (L.take m)) := by
        have := hV.to (k := m) (by omega)
        rwa [rnl, ← List.map_take] at this
      have hVr : EV (K W R) (frv v (m + 1) 3) 3 (rnl (L.drop (m + 1))) := by
        have := hV.fr (k := m + 1) (by omega)
        rwa [rnl, ← List.map_drop] at this
      have i1 := fun {q : Chunk} => ih (p := q) (L := L.take m) (by rw [List.length_take]; omega) hVl hRl
      have i2 := fun {q : Chunk} => ih (p := q) (L := L.drop (m + 1)) (by rw [List.length_drop]; omega) hVr hRr
      have hb := bld_node (k := k) (R := L) (x := x) (by rw [hm]; exact hx)
      rw [hm] at hb
      have hbl : (bld k (L.take m)).toL = (L.take m).map rll := bld_toL k _ (by rw [List.length_take]; omega)
      have hbr : (bld k (L.drop (m + 1))).toL = (L.drop (m + 1)).map rll := bld_toL k _ (by rw [List.length_drop]; omega)
      have hpc : (Tree.node (bld k (L.take m)) (x.2.1 - x.1) x.2.2 (bld k (L.drop (m + 1)))).pcs ≤ 1152921504606846976 := by
        have := hR'.sz
        rw [List.map_append, szL_app, List.map_cons] at this
        simp only [szL] at this
        rw [Tree.pcs, Tree.pcs_toL, Tree.pcs_toL, hbl, hbr]
        omega
      have hrn : (Tree.node (bld k (L.take m)) (x.2.1 - x.1) x.2.2 (bld k (L.drop (m + 1)))).runs ≤ 1152921504606846976 := by
        rw [Tree.runs, Tree.runs_toL, Tree.runs_toL, hbl, hbr, List.length_map, List.length_map, List.length_take, List.length_drop]
        omega
      have hD := fun (q : Chunk) (w : World) (h : K W (q :: R) w) => h.tail
      refine csr ?_
      refine sa ?_
      refine snf ?_
      refine c_seq ?_
      refine csr ?_
      refine sm ?_
      refine sy (y_lenE Tryz.tab rfl (hV') rfl) ?_
      refine sy (y_F (y_eql rfl rfl) (by omega)) ?_
      refine snf ?_
      refine c_condF rfl ?_
      refine c_skip ?_
      refine f_then ?_
      refine csr ?_
      refine sm ?_
      refine sy (y_lenE Tryz.tab rfl (hV') rfl) ?_
      refine sy (y_quo rfl rfl (by omega)) ?_
      refine sa ?_
      refine snf ?_
      refine c_seq ?_
      refine c_plan [.c 0, .c 1, .c 2, .c 4, .c 5, .c 6, .c 7, .c 8, .c 9, .c 10, .c 11, .c 12, .c 13, .c 14, .c 15, .c 16, .c 17, .c 18, .c 19, .c 20, .c 21, .c 22, .c 23, .s 3, .s 24, .s 25, .c 26] [] ((K W R)) Tryz.mixed (by kernel_rfl) rfl K.cl ?_
      refine dy rfl (y_move rfl) (fun _ h => h.tail) ?_
      refine dy rfl (y_move rfl) (fun _ h => h.tail) ?_
      refine dy rfl (y_toV Tryz.tab rfl rfl rfl rfl hV e1 (by omega)) (fun _ h => h.tail) ?_
      refine dy rfl (y_move rfl) (fun _ h => h.tail) ?_
      refine dy rfl (y_move rfl) (fun _ h => h.tail) ?_
      refine dy rfl (y_ixE Tryz.tab rfl rfl rfl rfl hV m e1 (by omega)) (fun _ h => h.tail) ?_
      refine dy rfl (y_fieldAddr Tryz.tab 1 rfl rfl rfl rfl rfl) (fun _ h => h.tail) ?_
      refine dy rfl (y_load Tryz.tab rfl rfl (CellsAre.nth 1 (hcx) rfl)) (fun _ h => h.tail) ?_
      refine dy rfl (y_move rfl) (fun _ h => h.tail) ?_
      refine dy rfl (y_move rfl) (fun _ h => h.tail) ?_
      refine dy rfl (y_ixE Tryz.tab rfl rfl rfl rfl hV m e1 (by omega)) (fun _ h => h.tail) ?_
      refine dy rfl (y_fieldAddr0 Tryz.tab rfl rfl rfl rfl rfl) (fun _ h => h.tail) ?_
      refine dy rfl (y_load Tryz.tab rfl rfl (CellsAre.at0 (hcx) rfl)) (fun _ h => h.tail) ?_
      refine dy rfl (y_sub rfl rfl (by omega)) (fun _ h => h.tail) ?_
      refine dy rfl (y_move rfl) (fun _ h => h.tail) ?_
      refine dy rfl (y_move rfl) (fun _ h => h.tail) ?_
      refine dy rfl (y_ixE Tryz.tab rfl rfl rfl rfl hV m e1 (by omega)) (fun _ h => h.tail) ?_
      refine dy rfl (y_fieldAddr Tryz.tab 2 rfl rfl rfl rfl rfl) (fun _ h => h.tail) ?_
      refine dy rfl (y_load Tryz.tab rfl rfl (CellsAre.nth 2 (hcx) rfl)) (fun _ h => h.tail) ?_
      refine dy rfl (y_move rfl) (fun _ h => h.tail) ?_
      refine dy rfl (y_move rfl) (fun _ h => h.tail) ?_
      refine dy rfl (y_add rfl rfl (by omega)) (fun _ h => h.tail) ?_
      refine dy rfl (y_slFrE Tryz.tab rfl rfl rfl rfl hV e2 (by omega)) (fun _ h => h.tail) ?_
      rw [show ((x.2.1 : Int) - (x.1 : Int)) = ((x.2.1 - x.1 : Nat) : Int) by omega]
      refine d_call rfl (en_f rfl Tryz.call46) i1 rfl rfl rfl (fun _ => K.cl) (fun _ _ _ h => h.tail) (fun y => ?_)
      obtain ⟨⟨p1, v1⟩, hS1, hT1⟩ := y
      dsimp only at hS1 hT1 ⊢
      skip
      refine d_call rfl (en_f rfl Tryz.call46) i2 rfl rfl rfl (fun _ => K.cl) (fun _ _ _ h => h.tail) (fun y => ?_)
      obtain ⟨⟨p2, v2⟩, hS2, hT2⟩ := y
      dsimp only at hS2 hT2 ⊢
      skip
      refine d_call rfl (en_f rfl Tryz.call81) (link_spec (hT1.sub hS2) hT2 hx2 hpc hrn) rfl rfl rfl (fun _ => K.cl) (fun _ _ _ h => h.tail) (fun y => ?_)
      obtain ⟨⟨p3, v3⟩, hS3, hT3⟩ := y
      dsimp only at hS3 hT3 ⊢
      refine dy rfl (y_assign rfl) (fun _ h => h.tail) ?_
      refine d_nil ?_
      refine f_then ?_
      refine c_ret ?_
      exact f_ret ⟨(p3, v3), hS1.trans (hS2.trans hS3), by rw [hb]; exact hT3⟩ (res1 rfl rfl) (fun w h => h)
end Go.KL
end

section
/- Walks: From, made. -/
namespace Go.KL
open Go.Proofs
structure RunsOK (n : Nat) (f : Nat → Nat) : Prop where
  pos : 1 ≤ n ∧ n ≤ 1099511627776
  nb : nbd f n ≤ 4096
  tag : ∀ i, f i < 16
  out : ∀ i, n ≤ i → f i = 0
theorem rns_tags {f : Nat → Nat} : ∀ {R : List Rn} {lo hi : Nat}, Rns f lo hi R → (∀ i, f i < 16) → ∀ x ∈ R, x.1 < x.2.1 ∧ x.2.2 < 16 ∧ x.2.1 ≤ hi
  | [], _, _, _, _, x, hx => by simp at hx
  | y :: R, lo, hi, h, ht, x, hx => by
    rcases List.mem_cons.1 hx with rfl | hx
    · refine ⟨h.2.1, ?_, h.2.2.2.2.le⟩
      rw [← h.2.2.1 x.1 (Nat.le_refl _) h.2.1]
      exact ht _
    · exact rns_tags h.2.2.2.2 ht x hx
theorem rns_sz {f : Nat → Nat} : ∀ {R : List Rn} {lo hi : Nat}, Rns f lo hi R → szL (R.map rll) = hi - lo
  | [], lo, hi, h => by
    have : lo = hi := h
    simp [szL, this]
  | x :: R, lo, hi, h => by
    have h1 := h.2.2.2.2.le
    have h2 := rns_sz h.2.2.2.2
    have h3 := h.1
    have h4 := h.2.1
    rw [List.map_cons, szL, h2]
    show x.2.1 - x.1 + (hi - x.2.1) = hi - lo
    omega
theorem rns_can {f : Nat → Nat} : ∀ {R : List Rn} {lo hi : Nat}, Rns f lo hi R → Can (R.map rll)
  | [], _, _, _ => trivial
  | [x], lo, hi, h => ⟨by show 0 < x.2.1 - x.1; have := h.2.1; omega, by simp, trivial⟩
  | x :: y :: R, lo, hi, h => ⟨by show 0 < x.2.1 - x.1; have := h.2.1; omega, fun z hz => by
      simp at hz
      rw [← hz]
      exact h.2.2.2.1 y rfl, rns_can h.2.2.2.2⟩
theorem rns_tag {f : Nat → Nat} : ∀ {R : List Rn} {lo hi i : Nat}, Rns f lo hi R → lo + i < hi → tagL (R.map rll) i = f (lo + i)
  | [], lo, hi, i, h, hi' => by
    have : lo = hi := h
    omega
  | x :: R, lo, hi, i, h, hi' => by
    have h1 := h.1
    have h2 := h.2.1
    rw [List.map_cons, tagL]
    by_cases c : i < x.2.1 - x.1
    · rw [if_pos c, h.2.2.1 (lo + i) (by omega) (by omega)]
    · rw [if_neg c]
      show tagL (R.map rll) (i - (x.2.1 - x.1)) = _
      rw [rns_tag h.2.2.2.2 (by omega)]
      congr 1
      omega
theorem drop_get {α : Type} {l : List α} {i : Nat} {x : α} (h : l[i]? = some x) : l.drop i = x :: l.drop (i + 1) := by
  obtain ⟨hi, rfl⟩ := List.getElem?_eq_some_iff.1 h
  exact List.drop_eq_getElem_cons hi
attribute [local irreducible] SC St Fin Sq Ylds Doos Sets Enters Spec CellIs CellsAre Then Ret Rnd Chn resOK ints bools recs arr
theorem isTagT {C : World → Prop} {z : Int} (h : 0 ≤ z ∧ z < 16) : Spec Tryz.prog 45 #[.int .i64 z] C (fun _ : Unit => .bool true) (fun _ => C) := by
  have := isTag_spec (C := C) (z := z)
  rwa [decide_eq_true h] at this
set_option maxRecDepth 10000 in
set_option maxHeartbeats 8000000 in
theorem from_spec {W : World} {R : List Chunk} {p : Chunk} {v : Value} {n : Nat} {f : Nat → Nat} (hF : RunsOK n f) (hV : EV (K W R) v 3 (rnl (rns f 0 n))) : Spec Tryz.prog 14 #[.int .i64 (n : Nat), v] (K W (p :: R)) (X := MX p n f) (fun x => .tuple #[.agg #[x.1.2], .int .i64 0]) (fun x => K W (x.1.1 :: R)) := by
  have hR := rns_ok (f := f) (lo := 0) (hi := n) (Nat.zero_le _)
  have hlen := rns_len f n
  obtain ⟨L, hL⟩ : ∃ L, L = rns f 0 n := ⟨_, rfl⟩
  rw [← hL] at hR hlen hV
  have hlr : (rnl L).length = L.length := List.length_map _
  have hnb := hF.nb
  obtain ⟨hp1, hp2⟩ := hF.pos
  have hpos : 0 < L.length := by
    cases L with
    | nil =>
      have : 0 = n := hR
      omega
    | cons x r => simp
  have hok : RnOK L := ⟨fun x hx => by have := rns_tags hR hF.tag x hx; omega, by rw [rns_sz hR]; omega, by omega⟩
  refine enter (args := [_, _]) Tryz.func14 rfl Tryz.ntmps14 rfl ?_
  refine csr ?_
  refine sal fun b4 => ?_
  have hV4 : EV (K W ([(b4, row 29 [.pointer none])] :: p :: R)) v 3 (rnl L) := hV.cons.cons
  refine sa ?_
  refine snf ?_
  refine c_seq ?_
  refine csr ?_
  refine sm ?_
  refine sk Tryz.call44 sized_spec fun _ => ?_
  rw [show decide (1 ≤ (n : Int) ∧ (n : Int) ≤ 1099511627776) = true by rw [decide_eq_true_eq]; omega]
  refine sy (y_notT rfl) ?_
  refine sm ?_
  refine sm ?_
  refine sy (y_lenE Tryz.tab rfl (hV4) rfl) ?_
  refine sy (y_F (y_eql rfl rfl) (by omega)) ?_
  refine spF ?_
  refine snf ?_
  refine c_condF rfl ?_
  refine c_skip ?_
  refine f_then ?_
  refine csr ?_
  refine sy (y_build Tryz.tab rfl rfl rfl rfl rfl) ?_
  refine sal fun b6 => ?_
  refine ss (set_box Tryz.tab 0 rfl rfl rfl rfl rfl rfl rfl) ?_
  refine snf ?_
  refine c_seq ?_
  refine csr ?_
  refine sm ?_
  refine sy (y_lenE Tryz.tab rfl (hV4.cons) rfl) ?_
  refine sm ?_
  refine snf ?_
  refine c_block ?_
  refine c_loopP (α := Nat × Nat × Nat × Int) (fun z => [(0, .int .i64 (n : Nat)), (1, v), (4, .pointer (some ⟨b4, 0, none⟩)), (5, .int .i64 0), (6, .pointer (some ⟨b6, 0, none⟩)), (19, v), (20, .int .i64 ((rnl L).length : Nat)), (21, .int .i64 (z.1 : Nat))])
    (fun z => z.1 ≤ L.length ∧ Rns f z.2.2.1 n (L.drop z.1) ∧ ∀ y ∈ (L.drop z.1).head?, ((y.2.2 : Nat) : Int) ≠ z.2.2.2) (fun z => K W ([(b6, row 26 [.int .i64 (z.2.1 : Nat), .int .i64 (z.2.2.1 : Nat), .int .i64 z.2.2.2])] :: [(b4, row 29 [.pointer none])] :: p :: R)) (fun z => L.length - z.1) (0, 0, 0, -1)
    ⟨rfl, rfl, rfl, rfl, rfl, rfl, rfl, rfl, trivial⟩ ⟨Nat.zero_le _, by rw [List.drop_zero]; exact hR, fun y _ => by dsimp only; omega⟩ (fun w h => h) ?_
  rintro ⟨i, ll, lh, lt⟩ ⟨h1, h2, h3⟩
  dsimp only at h1 h2 h3 ⊢
  have hV6 : EV (K W ([(b6, row 26 [.int .i64 (ll : Nat), .int .i64 (lh : Nat), .int .i64 lt])] :: [(b4, row 29 [.pointer none])] :: p :: R)) v 3 (rnl L) := hV.cons.cons.cons
  by_cases c : i < L.length
  · obtain ⟨x, hx⟩ : ∃ x, L[i]? = some x := ⟨L[i], by simp [c]⟩
    have hcx : CellsAre (K W ([(b6, row 26 [.int .i64 (ll : Nat), .int .i64 (lh : Nat), .int .i64 lt])] :: [(b4, row 29 [.pointer none])] :: p :: R)) ⟨vblk v, voff v + i * 3, none⟩ [.int .i64 (x.1 : Nat), .int .i64 (x.2.1 : Nat), .int .i64 (x.2.2 : Nat)] := hV6.row (rnl_get hx)
    rw [drop_get hx] at h2 h3
    obtain ⟨g1, g2, _, g4, g5⟩ := h2
    have g3 := h3 x rfl
    have g6 := (rns_tags hR hF.tag x (List.mem_of_getElem? hx)).2
    refine csr ?_
    refine sy (y_T (y_lss rfl rfl) (by omega)) ?_
    refine snf ?_
    refine c_seq ?_
    refine c_condT rfl ?_
    refine c_skip ?_
    refine f_then ?_
    refine c_seq ?_
    refine c_block ?_
    refine csr ?_
    refine sy (y_ixE Tryz.tab rfl rfl rfl rfl (hV6) _ rfl (by omega)) ?_
    refine sy (y_loadA Tryz.tab rfl rfl rfl rfl hcx) ?_
    refine sal fun b8 => ?_
    refine ss (set_box Tryz.tab 0 rfl rfl rfl rfl rfl rfl rfl) ?_
    refine snf ?_
    refine c_seq ?_
    refine csr ?_
    refine sf0 ?_
    refine slr 0 ?_
    refine sf 1 ?_
    refine slr 1 ?_
    refine sy (y_F (y_neq rfl rfl) (by omega)) ?_
    refine sm ?_
    refine sf0 ?_
    refine slr 0 ?_
    refine sf 1 ?_
    refine slr 0 ?_
    refine sy (y_F (y_geq rfl rfl) (by omega)) ?_
    refine spF ?_
    refine sm ?_
    refine sf 1 ?_
    refine slr 0 ?_
    refine sm ?_
    refine sy (y_F (y_gtr rfl rfl) (by omega)) ?_
    refine spF ?_
    refine sm ?_
    refine sf 2 ?_
    refine slr 0 ?_
    refine s_call (en_f rfl Tryz.call45) ((isTagT (by omega))) rfl rfl rfl (fun _ => ?_)
    refine sy (y_notT rfl) ?_
    refine spF ?_
    refine sm ?_
    refine sf 2 ?_
    refine slr 0 ?_
    refine sf 2 ?_
    refine slr 1 ?_
    refine sy (y_F (y_eql rfl rfl) (by assumption)) ?_
    refine spF ?_
    refine snf ?_
    refine c_condF rfl ?_
    refine c_skip ?_
    refine f_then ?_
    refine c_region ?_
    refine sy (y_loadA Tryz.tab rfl rfl rfl rfl (cells_row0 0 rfl rfl)) ?_
    refine ss (set_box Tryz.tab 1 rfl rfl rfl rfl rfl rfl rfl) ?_
    refine s_nil ?_
    refine f_blockN ?_
    refine f_then ?_
    refine c_region ?_
    refine sy (y_add rfl rfl (by omega)) ?_
    refine sm ?_
    refine s_nil ?_
    exact f_roundP (i + 1, x.1, x.2.1, (x.2.2 : Nat)) ⟨c, g5, fun y hy => by have := g4 y hy; dsimp only; omega⟩ (by dsimp only; omega) ⟨rfl, rfl, rfl, rfl, rfl, rfl, rfl, rfl, trivial⟩ (fun w h => h.tail)
  · obtain rfl : i = L.length := by omega
    rw [List.drop_length] at h2
    have h2 : lh = n := h2
    subst h2
    refine csr ?_
    refine sy (y_F (y_lss rfl rfl) (by omega)) ?_
    refine snf ?_
    refine c_seq ?_
    refine c_condF rfl ?_
    refine c_exit ?_
    refine f_thenE ?_
    refine f_rndE ?_
    refine f_blockE ?_
    refine f_then ?_
    refine c_seq ?_
    refine c_block ?_
    refine csr ?_
    refine sf 1 ?_
    refine slr 0 ?_
    refine sm ?_
    refine sy (y_F (y_neq rfl rfl) (by omega)) ?_
    refine sa ?_
    refine snf ?_
    refine c_condF rfl ?_
    refine csr ?_
    refine sm ?_
    refine sy (y_lenE Tryz.tab rfl (hV6) rfl) ?_
    refine sy (y_F (y_gtr rfl rfl) (by omega)) ?_
    refine sa ?_
    refine snf ?_
    refine c_condF rfl ?_
    refine c_skip ?_
    refine f_blockN ?_
    refine f_then ?_
    refine csr ?_
    refine sm ?_
    have hbs := build_spec (W := W) (R := [(b4, row 29 [.pointer none])] :: R) L.length (p := p) (Nat.le_refl _) hV.cons hok
    have htl := bld_toL L.length L (Nat.le_refl _)
    have hne : bld L.length L ≠ .nil := fun e => by
      rw [e] at htl
      have := congrArg List.length htl
      rw [List.length_map] at this
      exact absurd this (by show 0 ≠ L.length; omega)
    refine St.cls (C' := K W (p :: [(b4, row 29 [.pointer none])] :: R)) ?_ (fun w h => (K.front 1 h.tail))
    refine sk Tryz.call46 hbs fun x => ?_
    obtain ⟨⟨p', v'⟩, hS, hT⟩ := x
    dsimp only at hS hT ⊢
    obtain ⟨a, rfl⟩ := hT.neC hne
    refine sy (y_build Tryz.tab rfl rfl rfl rfl rfl) ?_
    refine ss (set_box Tryz.tab 1 rfl rfl rfl rfl rfl rfl rfl) ?_
    refine sa ?_
    refine snf ?_
    refine c_ret ?_
    refine f_ret ⟨(p', .pointer (some a)), hS, _, hT, ⟨hne, bld_bal _ _ (Nat.le_refl _), ?_, ?_, ?_⟩, ?_, ?_, ?_⟩ (resA1 Tryz.tab rfl rfl rfl rfl rfl rfl (cells_row0 1 rfl rfl)) (fun w h => h.dropAt 1)
    · rw [htl]
      exact (rns_can hR).pos
    · rw [htl]
      intro y hy
      obtain ⟨z, hz, rfl⟩ := List.mem_map.1 hy
      exact (rns_tags hR hF.tag z hz).2.1
    · rw [Tree.pcs_toL, htl, rns_sz hR]
      exact hp2
    · rw [htl]
      exact rns_can hR
    · rw [Tree.pcs_toL, htl, rns_sz hR, Nat.sub_zero]
    · rw [htl]
      funext i
      by_cases ci : i < lh
      · rw [rns_tag hR (by omega), Nat.zero_add]
      · rw [hF.out i (by omega), tagL_out (by rw [rns_sz hR]; omega)]
end Go.KL
end

section
/- Drawn regions in which one operation may come at any time. No program in sight. -/
namespace Go.KL
section
variable {P : Program} {n : Nat} {σ : Slots} {D : World → Prop} {Q : Post} {ops : Array Oper} {dr : Nat → Bool}
theorem Env.swap {a : Act} {d e : Nat} {v u : Value} (hne : d ≠ e) (h : Env n ((d, v) :: (e, u) :: σ) a) : Env n ((e, u) :: (d, v) :: σ) a := by
  have hl : ∀ x, look ((e, u) :: (d, v) :: σ) x = look ((d, v) :: (e, u) :: σ) x := fun x => by
    by_cases c1 : d = x
    · subst c1
      rw [look_cons_ne (fun h => hne h.symm)]
      simp [look]
    · rw [look_cons_ne c1]
      by_cases c2 : e = x
      · subst c2
        simp [look]
      · rw [look_cons_ne c2, look_cons_ne c2, look_cons_ne c1]
  exact ⟨h.size, h.lt, by rw [hl]; exact h.defers, fun x w hx e' => h.at_ x w hx (by rw [← hl]; exact e')⟩
theorem Env.drop {a : Act} {d : Nat} {u : Value} (h : Env n ((d, u) :: σ) a) (hd : Nat.blt d n = true) (h0 : look σ d = none) : Env n σ a := by
  have hd' : d < n := by simpa [Nat.blt_eq] using hd
  have hM : d ≠ MK := by have := h.lt; omega
  refine ⟨h.size, h.lt, by rw [h.defers, look_cons_ne hM], fun x w hx e => h.at_ x w hx ?_⟩
  rw [look_cons_ne fun c => ?_]
  · exact e
  · subst c
    rw [h0] at e
    cases e
def planJ (ops : Array Oper) (dr : Nat → Bool) (j : Nat) : List PS → List PS → Array Bool → Bool
  | [], q, listed => (Region.ready .any ops listed) == [j] && planB ops dr q (listed.setIfInBounds j true)
  | .c k :: r, q, listed => (Region.ready .any ops listed).contains k && freeD ops dr listed k && planJ ops dr j r q (listed.setIfInBounds k true)
  | .s i :: r, q, listed => ((Region.ready .any ops listed) == [i, j] || (Region.ready .any ops listed) == [j, i]) && planJ ops dr j r q (listed.setIfInBounds i true) && planB ops dr (.s i :: r ++ q) (listed.setIfInBounds j true)
  | .t _ _ :: _, _, _ => false
variable {Y : Type} {u : Y → Value} {dj j : Nat}
structure SJ (P : Program) (n : Nat) (ops : Array Oper) (dr : Nat → Bool) (D : World → Prop) (Q : Post) (j dj : Nat) (u : Y → Value) (plan q : List PS) (σ : Slots) (C : Option Y → World → Prop) : Prop where
  s0 : ∀ listed a, Env n σ a → DC ops listed → planJ ops dr j plan q listed = true → (∀ (j : Nat) (o : Oper) cs b, ops[j]? = some o → o.op ≠ .select cs b) → AnyC P ops dr D Q (planLen (plan ++ q) + 1) listed a (C none)
  s1 : ∀ y, Sd P n ops dr D Q (plan ++ q) ((dj, u y) :: σ) (C (some y))
theorem c_planJ (j dj : Nat) (u : Y → Value) (plan q : List PS) (D : World → Prop) (C : Option Y → World → Prop) {id : Nat} {l : List Oper} (hm : P.follows .mixedOrders = true) (hsB : (Region.noSelect l.toArray && planJ l.toArray (drOf []) j plan q (Array.replicate l.toArray.size false)) = true) (hl : planLen (plan ++ q) + 1 = l.toArray.size)
    (hC : Cl (C none)) (h : SJ P n l.toArray (drOf []) D Q j dj u plan q σ C) : SC P n Q (.region id l.toArray true) σ (C none) := by
  obtain ⟨hs, hB⟩ := Bool.and_eq_true_iff.1 hsB
  intro a w hE hw
  refine wpIn_region_any hm ?_
  have h1 := h.s0 _ a hE (fun j hj => by simp [Array.getElem?_replicate] at hj; split at hj <;> simp at hj) hB (Region.noSelect_spec hs)
  rw [hl] at h1
  exact wpAny_of_AnyC _ _ _ _ h1 _ (hC _ _ hw (Ext.drew w))
theorem Qui.drop {o : Oper} {v x : Value} {d : Nat} (h : Qui P n σ D o v) (hd : Nat.blt d n = true) (h0 : look σ d = none) : Qui P n ((d, x) :: σ) D o v := fun a w hE hw => h a w (hE.drop hd h0) hw
theorem Sd.swap {plan : List PS} {C : World → Prop} {d e : Nat} {v x : Value} (h : Sd P n ops dr D Q plan ((d, v) :: (e, x) :: σ) C) (hne : Nat.beq d e = false) : Sd P n ops dr D Q plan ((e, x) :: (d, v) :: σ) C := fun listed a hE => h listed a (hE.swap fun c => Nat.ne_of_beq_eq_false hne c.symm)
def Outs (P : Program) (n : Nat) (σ : Slots) (C : World → Prop) (o : Oper) {X : Type} (v : X → Value) (C' : X → World → Prop) : Prop := ∀ a w, Env n σ a → C w → Out P o a w (fun u w' => ∃ x, u = v x ∧ C' x w')
theorem Outs.drop {o : Oper} {X : Type} {v : X → Value} {C : World → Prop} {C' : X → World → Prop} {x : Value} {d : Nat} (h : Outs P n σ C o v C') (hd : Nat.blt d n = true) (h0 : look σ d = none) : Outs P n ((d, x) :: σ) C o v C' := fun a w hE hw => h a w (hE.drop hd h0) hw
theorem Doos.outs {o : Oper} {X : Type} {v : X → Value} {C : World → Prop} {C' : X → World → Prop} (h : Doos P n σ C o v C') : Outs P n σ C o v C' := fun _ w hE hw => h.out hE w hw
theorem Outs.call {o : Oper} {f : FuncId} {args : Array Value} {X : Type} {v : X → Value} {C : World → Prop} {C' : X → World → Prop} (he : Enters P n σ C o f args) (hs : Spec P f args C v C') : Outs P n σ C o v C' := fun a w hE hw => by
  unfold Out
  rw [he a w hE hw]
  exact (hs w hw).mono fun e w' ⟨x, h1, h2⟩ => ⟨v x, h1, x, rfl, h2⟩
theorem Outs.conv {o : Oper} {X : Type} {v : X → Value} {C : World → Prop} {C' C'' : X → World → Prop} (h : Outs P n σ C o v C') (hc : ∀ x w, C' x w → C'' x w) : Outs P n σ C o v C'' := fun a w hE hw => (h a w hE hw).mono fun _ _ ⟨x, h1, h2⟩ => ⟨x, h1, hc x _ h2⟩
theorem Outs.cls {o : Oper} {X : Type} {v : X → Value} {C D : World → Prop} {C' : X → World → Prop} (h : Outs P n σ C o v C') (hc : ∀ w, D w → C w) : Outs P n σ D o v C' := fun a w hE hw => h a w hE (hc w hw)
theorem d_o {C : World → Prop} {i : Nat} {o : Oper} {plan : List PS} {X : Type} {v : X → Value} {C' : X → World → Prop} {d : Nat} (hi : ops[i]? = some o) (hy : Outs P n σ C o v C') (hg : gd ops σ o = some true) (hd : o.dst = some d) (hn : Nat.blt d n = true)
    (hCl : ∀ x, Cl (C' x)) (hD : dr i = true → ∀ x w, C' x w → D w) (k : ∀ x, Sd P n ops dr D Q plan ((d, v x) :: σ) (C' x)) : Sd P n ops dr D Q (.s i :: plan) σ C := by
  intro listed a hE hdc hB hs
  simp only [planB, Bool.and_eq_true, beq_iff_eq] at hB
  refine one_ready hi hB.1 (.inl ⟨gd_wanted hE hg, X, v, C', fun w hw => hy a w hE hw, fun x => ⟨hCl x, fun h => hD h x, ?_⟩⟩)
  rw [hd]
  exact k x _ _ (hE.put hn _) (hdc.set (ready_PL (by rw [hB.1]; simp))) hB.2 hs
theorem j_c {k d : Nat} {o : Oper} {v : Value} {plan q : List PS} {C : Option Y → World → Prop} (hi : ops[k]? = some o) (hy : Qui P n σ D o v) (hg : gd ops σ o = some true) (hg1 : ∀ y, gd ops ((dj, u y) :: σ) o = some true) (hd : o.dst = some d) (hn : Nat.blt d n = true) (hdj : Nat.blt dj n = true) (h0 : look σ dj = none) (hne : Nat.beq dj d = false)
    (hCD : ∀ y w, C y w → D w) (hCl : ∀ y, Cl (C y)) (r : SJ P n ops dr D Q j dj u plan q ((d, v) :: σ) C) : SJ P n ops dr D Q j dj u (.c k :: plan) q σ C := by
  refine ⟨fun listed a hE hdc hB hs => ?_, fun y => ?_⟩
  · simp only [planJ, Bool.and_eq_true] at hB
    obtain ⟨⟨h1, h2⟩, h3⟩ := hB
    refine AnyC_first hi hs _ _ _ _ (freeD_spec hi h2) hdc (by simpa using h1) (.inl ⟨gd_wanted hE hg, fun w hw => hy a w hE hw⟩) (hCD none) (hCl none) ?_
    rw [hd]
    exact r.s0 _ _ (hE.put hn v) (hdc.set (ready_PL (by simpa using h1))) h3 hs
  · exact d_c hi (hy.drop hdj h0) (hg1 y) hd hn (hCD _) (hCl _) ((r.s1 y).swap hne)
theorem j_s {i d : Nat} {o oj : Oper} {X : Type} {v : X → Value} {plan q : List PS} {C : Option Y → World → Prop} {C' : X → Option Y → World → Prop} (hi : ops[i]? = some o) (hj : ops[j]? = some oj) (hy : ∀ y, Outs P n σ (C y) o v (fun x => C' x y)) (hyj : Outs P n σ (C none) oj u (fun y => C (some y)))
    (hg : gd ops σ o = some true) (hg1 : ∀ y, gd ops ((dj, u y) :: σ) o = some true) (hgj : gd ops σ oj = some true) (hd : o.dst = some d) (hjd : oj.dst = some dj) (hn : Nat.blt d n = true) (hdj : Nat.blt dj n = true) (h0 : look σ dj = none) (hne : Nat.beq dj d = false)
    (hCl : ∀ y, Cl (C y)) (hCl' : ∀ x y, Cl (C' x y)) (hD : ∀ y w, C y w → D w) (hD' : ∀ x y w, C' x y w → D w) (r : ∀ x, SJ P n ops dr D Q j dj u plan q ((d, v x) :: σ) (C' x)) : SJ P n ops dr D Q j dj u (.s i :: plan) q σ C := by
  have s1 : ∀ y, Sd P n ops dr D Q (.s i :: (plan ++ q)) ((dj, u y) :: σ) (C (some y)) := fun y => d_o hi ((hy _).drop hdj h0) (hg1 y) hd hn (fun x => hCl' x _) (fun _ x => hD' x _) (fun x => ((r x).s1 y).swap hne)
  refine ⟨fun listed a hE hdc hB hs => ?_, s1⟩
  simp only [planJ, Bool.and_eq_true, Bool.or_eq_true, beq_iff_eq] at hB
  obtain ⟨⟨r1, b1⟩, b2⟩ := hB
  have hmem : ∀ m, m ∈ Region.ready .any ops listed ↔ m = i ∨ m = j := fun m => by
    rcases r1 with r1 | r1
    · rw [r1]; simp
    · rw [r1]; simp [or_comm]
  refine ⟨fun h => ?_, fun m hm o' ho => ?_⟩
  · have := (hmem i).2 (.inl rfl)
    rw [h] at this
    simp at this
  · rcases (hmem m).1 hm with rfl | rfl
    · rw [hi] at ho
      obtain rfl := Option.some.inj ho
      refine .inl ⟨gd_wanted hE hg, X, v, fun x => C' x none, fun w hw => hy none a w hE hw, fun x => ⟨hCl' x _, (fun _ => hD' x _), ?_⟩⟩
      rw [hd]
      exact (r x).s0 _ _ (hE.put hn _) (hdc.set (ready_PL hm)) b1 hs
    · rw [hj] at ho
      obtain rfl := Option.some.inj ho
      refine .inl ⟨gd_wanted hE hgj, Y, u, fun y => C (some y), fun w hw => hyj a w hE hw, fun y => ⟨hCl _, (fun _ => hD _), ?_⟩⟩
      rw [hjd]
      exact s1 y _ _ (hE.put hdj _) (hdc.set (ready_PL hm)) b2 hs
theorem j_j {oj : Oper} {q : List PS} {C : Option Y → World → Prop} (hj : ops[j]? = some oj) (hyj : Outs P n σ (C none) oj u (fun y => C (some y))) (hgj : gd ops σ oj = some true) (hjd : oj.dst = some dj) (hdj : Nat.blt dj n = true) (hCl : ∀ y, Cl (C y)) (hD : ∀ y w, C y w → D w)
    (r : ∀ y, Sd P n ops dr D Q q ((dj, u y) :: σ) (C (some y))) : SJ P n ops dr D Q j dj u [] q σ C := by
  refine ⟨fun listed a hE hdc hB hs => ?_, r⟩
  simp only [planJ, Bool.and_eq_true, beq_iff_eq] at hB
  refine one_ready hj hB.1 (.inl ⟨gd_wanted hE hgj, Y, u, fun y => C (some y), fun w hw => hyj a w hE hw, fun y => ⟨hCl _, (fun _ => hD _), ?_⟩⟩)
  rw [hjd]
  exact r y _ _ (hE.put hdj _) (hdc.set (ready_PL (by rw [hB.1]; simp))) hB.2 hs
end
end Go.KL
end

section
/- Walks: made. -/
namespace Go.KL
open Go.Proofs
theorem resA2 {P : Program} {n : Nat} {σ : Slots} {C : World → Prop} {fn : Func} {a a' u : Tmp} {t t' : TypeId} {p p' : Addr} {s s' : Nat} {l l' : List Value} {v : Value} (T : Tab P) (hr : fn.results = #[.cell a t, .cell a' t', .tmp u]) (ha : lookE σ a = some (.pointer (some p))) (ha' : lookE σ a' = some (.pointer (some p'))) (hu : lookE σ u = some v)
    (hg : T.agg t = some true) (hg' : T.agg t' = some true) (hs : T.size t = some s) (hs' : T.size t' = some s') (hl : l.length = s) (hl' : l'.length = s') (hc : CellsAre C p l) (hc' : CellsAre C p' l') : resOK P fn n σ C (.tuple #[.agg l.toArray, .agg l'.toArray, v]) := by
  intro act w hE hw
  have h1 := hE.atE ha
  have h1' := hE.atE ha'
  have h2 := hE.atE hu
  have h3 := run_loadVarA (P := P) T hg hs hl (hc w hw)
  have h3' := run_loadVarA (P := P) T hg' hs' hl' (hc' w hw)
  rw [Array.getD_eq_getD_getElem?] at h1 h1' h2
  simp [results, hr, h1, h1', h2, asAddr, h3, h3']
def tgs (n : Nat) (f : Nat → Int) (i : Nat) : Nat := if i < n then tgf f i else 0
theorem nbd_le (f : Nat → Nat) : ∀ n, nbd f n ≤ n
  | 0 => Nat.le_refl _
  | n + 1 => by
    have := nbd_le f n
    rw [nbd]
    split <;> omega
theorem tgs_ok {n : Nat} {f : Nat → Int} (h1 : 1 ≤ n) (h2 : n ≤ 200) : RunsOK n (tgs n f) := by
  refine ⟨⟨h1, by omega⟩, Nat.le_trans (nbd_le _ _) (by omega), fun i => ?_, fun i hi => ?_⟩
  · unfold tgs tgf
    split <;> omega
  · unfold tgs
    rw [if_neg (by omega)]
def flo (c : Nat → Chunk) : Option Nat → List Chunk
  | none => []
  | some y => [c y]
theorem tgs_rns {n : Nat} {f : Nat → Int} : rns (tgf f) 0 n = rns (tgs n f) 0 n := rns_congr (Nat.zero_le _) fun i _ hi => by
  unfold tgs
  rw [if_pos hi]
attribute [local irreducible] SC St Fin Sq Ylds Doos Sets Enters Spec CellIs CellsAre Then Ret Rnd Chn resOK ints bools recs arr
set_option maxRecDepth 10000 in
set_option maxHeartbeats 8000000 in
theorem made_no {W : World} {N : List Chunk} {v : Value} {n : Nat} {f : Nat → Int} (hV : SlV (K W N) v n 1 (fun i _ => .int .u8 (f i))) (h : n = 0 ∨ 200 < n) : Spec Tryz.prog 20 #[v] (K W N) (fun _ : Unit => .tuple #[.agg #[.pointer none], .agg #[.int .i64 0, .slice none 0 0], .bool false]) (fun _ => K W N) := by
  refine enter (args := [_]) Tryz.func20 rfl Tryz.ntmps20 rfl ?_
  refine csr ?_
  refine sal fun b2 => ?_
  refine sal fun b3 => ?_
  have hV' : SlV (K W ([(b3, row 37 [.int .i64 0, .slice none 0 0])] :: [(b2, row 29 [.pointer none])] :: N)) v n 1 (fun i _ => .int .u8 (f i)) := hV.cons.cons
  by_cases c : n = 0
  · refine sa ?_
    refine snf ?_
    refine c_seq ?_
    refine csr ?_
    refine sm ?_
    refine sy (y_lenV Tryz.tab rfl (hV') rfl) ?_
    refine sy (y_T (y_eql rfl rfl) (by omega)) ?_
    refine sm ?_
    iterate 3 refine s_skip rfl rfl rfl ?_
    refine spT ?_
    refine snf ?_
    refine c_condT rfl ?_
    refine csr ?_
    refine sy (y_build Tryz.tab rfl rfl rfl rfl rfl) ?_
    refine sy (y_build Tryz.tab rfl rfl rfl rfl rfl) ?_
    refine ss (set_box Tryz.tab 1 rfl rfl rfl rfl rfl rfl rfl) ?_
    refine ss (set_box Tryz.tab 0 rfl rfl rfl rfl rfl rfl rfl) ?_
    refine sa ?_
    refine snf ?_
    refine c_ret ?_
    refine f_thenR ?_
    exact f_ret () (resA2 Tryz.tab rfl rfl rfl rfl rfl rfl rfl rfl rfl rfl (cells_row0 1 rfl rfl) (cells_row0 0 rfl rfl)) (fun w h => h.tail.tail)
  · have c2 : 200 < n := by omega
    refine sa ?_
    refine snf ?_
    refine c_seq ?_
    refine csr ?_
    refine sm ?_
    refine sy (y_lenV Tryz.tab rfl (hV') rfl) ?_
    refine sy (y_F (y_eql rfl rfl) (by omega)) ?_
    refine sm ?_
    refine sm ?_
    refine sy (y_lenV Tryz.tab rfl (hV') rfl) ?_
    refine sy (y_T (y_gtr rfl rfl) (by omega)) ?_
    refine spF ?_
    refine snf ?_
    refine c_condT rfl ?_
    refine csr ?_
    refine sy (y_build Tryz.tab rfl rfl rfl rfl rfl) ?_
    refine sy (y_build Tryz.tab rfl rfl rfl rfl rfl) ?_
    refine ss (set_box Tryz.tab 1 rfl rfl rfl rfl rfl rfl rfl) ?_
    refine ss (set_box Tryz.tab 0 rfl rfl rfl rfl rfl rfl rfl) ?_
    refine sa ?_
    refine snf ?_
    refine c_ret ?_
    refine f_thenR ?_
    exact f_ret () (resA2 Tryz.tab rfl rfl rfl rfl rfl rfl rfl rfl rfl rfl (cells_row0 1 rfl rfl) (cells_row0 0 rfl rfl)) (fun w h => h.tail.tail)
set_option maxRecDepth 10000 in
set_option maxHeartbeats 8000000 in
theorem made_spec {W : World} {N : List Chunk} {v : Value} {n : Nat} {f : Nat → Int} (hV : SlV (K W N) v n 1 (fun i _ => .int .u8 (f i))) (h1 : 1 ≤ n) (h2 : n ≤ 200) (hf : ∀ i, i < n → 0 ≤ f i ∧ f i < 256) : Spec Tryz.prog 20 #[v] (K W N)
    (X := { x : Chunk × Value × Chunk × Value // MV x.1 x.2.1 n (tgs n f) ∧ BufR 26 3 x.2.2.2 x.2.2.1 (rnl (rns (tgs n f) 0 n)) }) (fun x => .tuple #[.agg #[x.1.2.1], .agg #[.int .i64 (n : Nat), x.1.2.2.2], .bool true]) (fun x => K W (x.1.1 :: x.1.2.2.1 :: N)) := by
  refine enter (args := [_]) Tryz.func20 rfl Tryz.ntmps20 rfl ?_
  refine csr ?_
  refine sal fun b2 => ?_
  refine sal fun b3 => ?_
  have hV' : SlV (K W ([(b3, row 37 [.int .i64 0, .slice none 0 0])] :: [(b2, row 29 [.pointer none])] :: N)) v n 1 (fun i _ => .int .u8 (f i)) := hV.cons.cons
  refine sa ?_
  refine snf ?_
  refine c_seq ?_
  refine csr ?_
  refine sm ?_
  refine sy (y_lenV Tryz.tab rfl (hV') rfl) ?_
  refine sy (y_F (y_eql rfl rfl) (by omega)) ?_
  refine sm ?_
  refine sm ?_
  refine sy (y_lenV Tryz.tab rfl (hV') rfl) ?_
  refine sy (y_F (y_gtr rfl rfl) (by omega)) ?_
  refine spF ?_
  refine snf ?_
  refine c_condF rfl ?_
  refine c_skip ?_
  refine f_then ?_
  refine csr ?_
  refine sm ?_
  refine s_call (en_f rfl Tryz.call32) (of_spec hV' (by omega) hf) rfl rfl rfl (fun x => ?_)
  obtain ⟨⟨lv, c⟩, hB⟩ := x
  dsimp only at hB ⊢
  rw [tgs_rns] at hB
  have hE := hB.view (C := K W (c :: [(b3, row 37 [.int .i64 0, .slice none 0 0])] :: [(b2, row 29 [.pointer none])] :: N)) (Hs.at 0 rfl)
  obtain ⟨pa, k, rfl, _, _⟩ := hE.view
  refine sal fun b5 => ?_
  refine ss (set_box Tryz.tab 0 rfl rfl rfl rfl rfl rfl rfl) ?_
  refine snf ?_
  refine c_seq ?_
  have hR := tgs_ok (f := f) h1 h2
  obtain ⟨N0, hN0⟩ : ∃ N0, N0 = [(b5, row 37 [.int .i64 (n : Nat), .slice pa (rnl (rns (tgs n f) 0 n)).length k])] :: c :: [(b3, row 37 [.int .i64 0, .slice none 0 0])] :: [(b2, row 29 [.pointer none])] :: N := ⟨_, rfl⟩
  obtain ⟨F, hF⟩ : ∃ F : Option Nat → List Chunk, F = flo (fun b => [(b, row 29 [.pointer none])]) := ⟨_, rfl⟩
  have hEy : ∀ (A : List Chunk) (y : Option Nat), EV (K W (A ++ (F y ++ N0))) (.slice pa (rnl (rns (tgs n f) 0 n)).length k) 3 (rnl (rns (tgs n f) 0 n)) := fun A y => hB.view (Hs.sub (c := N0.flatten) (fun w hw e he => (hw.own e (by simp [he])).2) fun e he => by rw [hN0]; simp [he])
  have hc5 : CellsAre (K W N0) ⟨b5, 0, none⟩ [.int .i64 (n : Nat), .slice pa (rnl (rns (tgs n f) 0 n)).length k] := by rw [hN0]; exact cells_row0 0 rfl rfl
  have hD : ∀ (A : List Chunk) (y : Option Nat) (w : World), K W (A ++ (F y ++ N0)) w → K W N0 w := fun A y w h => K.bck (K.bck h)
  have hal : ∀ (A : List Chunk) {σ : Slots} {o : Oper}, Doos Tryz.prog 34 σ (K W (A ++ N0)) o (fun b => Value.pointer (some ⟨b, 0, none⟩)) (fun b => K W ([(b, row 29 [.pointer none])] :: (A ++ N0))) → Outs Tryz.prog 34 σ (K W (A ++ (F none ++ N0))) o (fun b => Value.pointer (some ⟨b, 0, none⟩)) (fun b => K W (A ++ (F (some b) ++ N0))) := fun A σ o h => by
    rw [hF]
    exact h.outs.conv fun b w hk => K.bckN (A := [[(b, row 29 [.pointer none])]]) (B := A) hk
  refine SC.cls (C' := K W ([] ++ (F none ++ N0))) ?_ (fun w h => by rw [hF, hN0]; exact h)
  have hlen : (rnl (rns (tgs n f) 0 n)).length ≤ 200 := by
    rw [List.length_map, rns_len]
    exact Nat.le_trans (nbd_le _ _) h2
  refine c_planJ (Y := Nat) 10 6 (fun b => .pointer (some ⟨b, 0, none⟩)) [.c 0, .c 1, .c 3, .c 4, .s 2, .s 5, .s 6, .c 7, .c 8, .c 9] [.s 11, .s 12] (K W N0) (fun y => K W ([] ++ (F y ++ N0))) Tryz.mixed (by kernel_rfl) rfl K.cl ?_
  refine j_c rfl (Qui.ylds (y_fieldAddr0 Tryz.tab rfl rfl rfl rfl rfl)) rfl (fun _ => rfl) rfl rfl rfl rfl rfl (hD _) (fun _ => K.cl) ?_
  refine j_c rfl (Qui.ylds (y_load Tryz.tab rfl rfl (CellsAre.at0 hc5 rfl))) rfl (fun _ => rfl) rfl rfl rfl rfl rfl (hD _) (fun _ => K.cl) ?_
  refine j_c rfl (Qui.ylds (y_fieldAddrB Tryz.tab 1 rfl rfl rfl rfl rfl)) rfl (fun _ => rfl) rfl rfl rfl rfl rfl (hD _) (fun _ => K.cl) ?_
  refine j_c rfl (Qui.ylds (y_load Tryz.tab rfl rfl (CellsAre.nth 1 hc5 rfl))) rfl (fun _ => rfl) rfl rfl rfl rfl rfl (hD _) (fun _ => K.cl) ?_
  refine j_s (C' := fun b y => K W ([(b, row 26 [])] :: [] ++ (F y ++ N0))) rfl rfl (fun y => (do_buildSliceS (vs := []) (len := 0) (ps := []) Tryz.tab ⟨rfl, rfl, rfl, rfl⟩ rfl rfl rfl rfl).outs) (hal [] (do_alloc Tryz.tab rfl)) rfl (fun _ => rfl) rfl rfl rfl rfl rfl rfl rfl (fun _ => K.cl) (fun _ _ => K.cl) (hD _) (fun b y => hD [_] y) (fun b => ?_)
  have hrow : (rnl (rns (tgs n f) 0 n)).length = (rns (tgs n f) 0 n).length := List.length_map _
  refine j_s (X := { u : Value × Chunk // BufR 26 3 u.1 u.2 ([] ++ rnl (rns (tgs n f) 0 n)) }) (v := fun u => u.1.1) (C' := fun x y => K W ([x.1.2] ++ (F y ++ N0))) rfl rfl (fun y => (do_appendRV (by_ := 24) Tryz.tab 0 rfl .lit rfl (hEy [_] y) ⟨rfl, rfl, rfl, rfl⟩ rfl (by omega) (Nat.lt_of_sub_eq_succ rfl) rfl rnl_one (by simp only [List.length_nil]; omega) (by omega)).outs) (hal [_] (do_alloc Tryz.tab rfl)) rfl (fun _ => rfl) rfl rfl rfl rfl rfl rfl rfl (fun _ => K.cl) (fun _ _ => K.cl) (hD [_]) (fun x y => hD [_] y) (fun x => ?_)
  obtain ⟨⟨u, d⟩, hu⟩ := x
  have hu : BufR 26 3 u d (rnl (rns (tgs n f) 0 n)) := hu
  have hfr : ∀ y, Spec Tryz.prog 14 #[.int .i64 (n : Nat), u] (K W ([] :: ([d] ++ (F y ++ N0)))) (X := MX [] n (tgs n f)) (fun x => .tuple #[.agg #[x.1.2], .int .i64 0]) (fun x => K W (x.1.1 :: ([d] ++ (F y ++ N0)))) := fun y => from_spec hR (hu.view (Hs.at 0 rfl))
  refine j_s (X := MX [] n (tgs n f)) (v := fun x => .tuple #[.agg #[x.1.2], .int .i64 0]) (C' := fun x y => K W ([x.1.1, d] ++ (F y ++ N0))) rfl rfl (fun y => (Outs.call (en_f rfl Tryz.call14) (hfr y)).cls fun w h => h.addNil) (hal [_] (do_alloc Tryz.tab rfl)) rfl (fun _ => rfl) rfl rfl rfl rfl rfl rfl rfl (fun _ => K.cl) (fun _ _ => K.cl) (hD [_]) (fun x y => hD [_, _] y) (fun x => ?_)
  obtain ⟨⟨p', v'⟩, hS, hM⟩ := x
  dsimp only at hS hM ⊢
  obtain ⟨a, rfl⟩ := hM.ptr
  refine j_c rfl (Qui.ylds (y_move rfl)) rfl (fun _ => rfl) rfl rfl rfl rfl rfl (hD _) (fun _ => K.cl) ?_
  refine j_c rfl (Qui.ylds (y_extract rfl rfl)) rfl (fun _ => rfl) rfl rfl rfl rfl rfl (hD _) (fun _ => K.cl) ?_
  refine j_c rfl (Qui.ylds (y_extract rfl rfl)) rfl (fun _ => rfl) rfl rfl rfl rfl rfl (hD _) (fun _ => K.cl) ?_
  refine j_j rfl (hal [_, _] (do_alloc Tryz.tab rfl)) rfl rfl rfl (fun _ => K.cl) (hD [_, _]) (fun b6 => ?_)
  refine Sd.cls (C' := K W ([(b6, row 29 [.pointer none])] :: p' :: [(b5, row 37 [.int .i64 (n : Nat), .slice pa (rnl (rns (tgs n f) 0 n)).length k])] :: c :: [(b3, row 37 [.int .i64 0, .slice none 0 0])] :: [(b2, row 29 [.pointer none])] :: N)) ?_ (fun w h => by
    rw [hF, hN0] at h
    have h1 : K W (p' :: d :: [(b6, row 29 [.pointer none])] :: [(b5, row 37 [.int .i64 (n : Nat), .slice pa (rnl (rns (tgs n f) 0 n)).length k])] :: c :: [(b3, row 37 [.int .i64 0, .slice none 0 0])] :: [(b2, row 29 [.pointer none])] :: N) w := h
    exact (h1.dropAt 1).front 1)
  refine d_set rfl (set_box Tryz.tab 0 rfl rfl rfl rfl rfl rfl rfl) rfl rfl K.cl (fun _ w h => by rw [hN0]; exact h.tail.tail) ?_
  refine d_sy rfl (y_assign rfl) rfl rfl rfl K.cl (fun _ w h => by rw [hN0]; exact h.tail.tail) ?_
  refine d_nil ?_
  refine f_then ?_
  refine c_seq ?_
  clear hD
  refine SC.cls (C' := K W ([(b6, row 29 [.pointer (some a)])] :: p' :: [(b5, row 37 [.int .i64 (n : Nat), .slice pa (rnl (rns (tgs n f) 0 n)).length k])] :: c :: [(b3, row 37 [.int .i64 0, .slice none 0 0])] :: [(b2, row 29 [.pointer none])] :: N)) ?_ (fun w h => h)
  have hD := fun (w : World) (h : K W ([(b6, row 29 [.pointer (some a)])] :: p' :: [(b5, row 37 [.int .i64 (n : Nat), .slice pa (rnl (rns (tgs n f) 0 n)).length k])] :: c :: [(b3, row 37 [.int .i64 0, .slice none 0 0])] :: [(b2, row 29 [.pointer none])] :: N) w) => h.keep 3
  refine c_plan [.c 0, .c 1, .c 2, .c 3, .s 4, .s 5, .s 6] [] (K W [[(b6, row 29 [.pointer (some a)])], p', [(b5, row 37 [.int .i64 (n : Nat), .slice pa (rnl (rns (tgs n f) 0 n)).length k])]]) Tryz.mixed (by kernel_rfl) rfl K.cl ?_
  refine dy rfl (y_loadA Tryz.tab rfl rfl rfl rfl (cells_row0 0 rfl rfl)) hD ?_
  refine dy rfl (y_loadA Tryz.tab rfl rfl rfl rfl (cells_row0 2 rfl rfl)) hD ?_
  refine dy rfl (y_move rfl) hD ?_
  refine dy rfl (y_T (y_eql rfl rfl) (by omega)) hD ?_
  refine d_set rfl (set_box Tryz.tab 5 rfl rfl rfl rfl rfl rfl rfl) rfl rfl K.cl (fun _ w h => h.keep 3) ?_
  refine d_set rfl (set_box Tryz.tab 4 rfl rfl rfl rfl rfl rfl rfl) rfl rfl K.cl (fun _ w h => h.keep 3) ?_
  refine d_sy rfl (y_assign rfl) rfl rfl rfl K.cl (fun _ w h => h.keep 3) ?_
  refine d_nil ?_
  refine f_then ?_
  refine c_ret ?_
  exact f_ret ⟨(p', .pointer (some a), c, .slice pa (rnl (rns (tgs n f) 0 n)).length k), hM, hB⟩ (resA2 Tryz.tab rfl rfl rfl rfl rfl rfl rfl rfl rfl rfl (cells_row0 5 rfl rfl) (cells_row0 4 rfl rfl)) (fun w h => (((h.tail.dropAt 1).dropAt 2).dropAt 2))
end Go.KL
end

section
/- Walks: Commit. -/
namespace Go.KL
open Go.Proofs
def Bk.Cmt (A : Bk) (tx : Int) (B : Bk) (n e : Nat) : Prop := (¬ (1 ≤ tx ∧ tx ≤ A.ts.length) ∧ B = A ∧ n = 0 ∧ e = 80) ∨ ∃ k : Nat, tx = k ∧ A.has k ∧ (((A.tx k).st = 4 ∧ B = A ∧ n = 0 ∧ e = 81) ∨ ((A.tx k).st = 3 ∧ B = A ∧ n = 0 ∧ e = 82) ∨ ((A.tx k).st = 2 ∧ B = A ∧ n = 0 ∧ e = 83) ∨ ((A.tx k).st ≠ 2 ∧ (A.tx k).st ≠ 3 ∧ (A.tx k).st ≠ 4 ∧ B = A.commit k ∧ n = B.log.length ∧ e = 0))
structure ApOK (size : Nat) (C : Nat → Nat) (l : List Oa) : Prop where
  rng : ∀ o ∈ l, o.mv = true → o.lo ≤ o.hi ∧ o.hi ≤ size ∧ o.to < 16
  nb : ∀ n, nbd (ap C (l.take n)) size ≤ 4096
theorem ap_take {f : Nat → Nat} {os : List Ov} {i : Nat} {x : Ov} (h : os[i]? = some x) : ap f (ops (os.take (i + 1))) = if x.1.mv then setf (ap f (ops (os.take i))) x.1.lo x.1.hi x.1.to else ap f (ops (os.take i)) := by
  rw [List.take_add_one, h]
  unfold ap ops
  rw [List.map_append, List.foldl_append]
  rfl
theorem ops_take {os : List Ov} {i : Nat} : ops (os.take i) = (ops os).take i := by rw [ops, List.map_take]
attribute [local irreducible] SC St Fin Sq Ylds Doos Sets Enters Spec CellIs CellsAre Then Ret Rnd Chn resOK ints bools recs arr
set_option maxRecDepth 10000 in
set_option maxHeartbeats 16000000 in
theorem Commit_b {g : Bg} {W : World} {N : List Chunk} {tx : Int} (hB : g.OK) (hG : g.bk.Good) (hA : ∀ k : Nat, tx = k → g.bk.has k → (g.bk.tx k).st ≠ 3 → (g.bk.tx k).st ≠ 4 → ApOK g.size g.C (g.bk.tx k).ops) (hll : g.ls.length < 1000000) :
    Spec Tryz.prog 30 #[.pointer (some ⟨g.b, 0, none⟩), .int .i64 tx] (K W (g.L ++ N)) (X := { x : Bg × Nat × Nat // x.1.OK ∧ g.bk.Cmt tx x.1.bk x.2.1 x.2.2 ∧ g.Anc x.1 }) (fun x => .tuple #[.int .i64 (x.1.2.1 : Nat), .int .i64 (x.1.2.2 : Nat)]) (fun x => K W (x.1.1.L ++ N)) := by
  refine enter (args := [_, _]) Tryz.func30 rfl Tryz.ntmps30 rfl ?_
  refine csr ?_
  refine sa ?_
  refine sa ?_
  refine snf ?_
  refine csr ?_
  refine sm ?_
  refine sm ?_
  refine sk Tryz.call64 (find_b hB Hs.bk) fun _ => ?_
  by_cases c : 1 ≤ tx ∧ tx ≤ g.ts.length
  · obtain ⟨k, rfl⟩ : ∃ k : Nat, tx = k := ⟨tx.toNat, by omega⟩
    have hk : g.has k := ⟨by omega, by omega⟩
    have hkb : g.bk.has k := Bg.has_bk.2 hk
    rw [fnd_ptr hk]
    by_cases c4 : (g.bk.tx k).st = 4
    · rw [if_pos c4]
      refine sm ?_
      refine sx ?_
      refine sx ?_
      refine sa ?_
      refine sa ?_
      refine snf ?_
      refine c_seq ?_
      refine c_block ?_
      refine csr ?_
      refine sm ?_
      refine sy (y_T (y_neq rfl rfl) (by omega)) ?_
      refine sa ?_
      refine snf ?_
      refine c_condT rfl ?_
      refine csr ?_
      refine sm ?_
      refine sa ?_
      refine sa ?_
      refine snf ?_
      refine c_ret ?_
      refine f_blockR ?_
      refine f_thenR ?_
      exact f_ret ⟨(g, 0, 81), hB, .inr ⟨k, rfl, hkb, .inl ⟨c4, rfl, rfl, rfl⟩⟩, .refl _⟩ (res2 rfl rfl rfl) (fun w h => h)
    rw [if_neg c4]
    by_cases c3 : (g.bk.tx k).st = 3
    · rw [if_pos c3]
      refine sm ?_
      refine sx ?_
      refine sx ?_
      refine sa ?_
      refine sa ?_
      refine snf ?_
      refine c_seq ?_
      refine c_block ?_
      refine csr ?_
      refine sm ?_
      refine sy (y_T (y_neq rfl rfl) (by omega)) ?_
      refine sa ?_
      refine snf ?_
      refine c_condT rfl ?_
      refine csr ?_
      refine sm ?_
      refine sa ?_
      refine sa ?_
      refine snf ?_
      refine c_ret ?_
      refine f_blockR ?_
      refine f_thenR ?_
      exact f_ret ⟨(g, 0, 82), hB, .inr ⟨k, rfl, hkb, .inr (.inl ⟨c3, rfl, rfl, rfl⟩)⟩, .refl _⟩ (res2 rfl rfl rfl) (fun w h => h)
    rw [if_neg c3]
    have hap := hA k rfl hkb c3 c4
    obtain ⟨t, htm, hti, hid, hpb, htx⟩ := hB.at hk
    have hot := good_ol hG htm
    have hOt := hB.ok t htm
    rw [htx] at hap c3 c4
    change ApOK g.size g.C (ops t.os) at hap
    have ep : g.ptr k = .pointer (some ⟨t.b, 0, none⟩) := by rw [Bg.ptr, hpb]
    rw [ep]
    obtain ⟨e0, e1, e2, e3, e7, el, eo⟩ := hB.tf (C := K W (g.L ++ N)) Hs.bk htm
    clear e0 e2 e3 el
    have hl2 : (opl t.os).length = t.os.length := List.length_map _
    by_cases c2 : t.st = 2
    · rw [c2] at e1
      refine sm ?_
      refine sx ?_
      refine sx ?_
      refine sa ?_
      refine sa ?_
      refine snf ?_
      refine c_seq ?_
      refine c_block ?_
      refine csr ?_
      refine sm ?_
      refine sy (y_F (y_neq rfl rfl) (by omega)) ?_
      refine sa ?_
      refine snf ?_
      refine c_condF rfl ?_
      refine csr ?_
      refine sm ?_
      refine sn ?_
      refine sf 1 ?_
      refine sl e1 ?_
      refine sy (y_T (y_eql rfl rfl) (by omega)) ?_
      refine sa ?_
      refine snf ?_
      refine c_condT rfl ?_
      refine csr ?_
      refine sa ?_
      refine sa ?_
      refine snf ?_
      refine c_ret ?_
      refine f_blockR ?_
      refine f_thenR ?_
      exact f_ret ⟨(g, 0, 83), hB, .inr ⟨k, rfl, hkb, .inr (.inr (.inl ⟨by rw [htx]; exact c2, rfl, rfl, rfl⟩))⟩, .refl _⟩ (res2 rfl rfl rfl) (fun w h => h)
    refine sm ?_
    refine sx ?_
    refine sx ?_
    refine sa ?_
    refine sa ?_
    refine snf ?_
    refine c_seq ?_
    refine c_block ?_
    refine csr ?_
    refine sm ?_
    refine sy (y_F (y_neq rfl rfl) (by omega)) ?_
    refine sa ?_
    refine snf ?_
    refine c_condF rfl ?_
    refine csr ?_
    refine sm ?_
    refine sn ?_
    refine sf 1 ?_
    refine sl e1 ?_
    refine sy (y_F (y_eql rfl rfl) (by omega)) ?_
    refine sa ?_
    refine snf ?_
    refine c_condF rfl ?_
    refine c_skip ?_
    refine f_blockN ?_
    refine f_then ?_
    refine c_seq ?_
    refine csr ?_
    refine sm ?_
    refine sn ?_
    refine sf 7 ?_
    refine sl e7 ?_
    refine sy (y_lenE Tryz.tab rfl (eo) rfl) ?_
    refine sm ?_
    refine snf ?_
    refine c_block ?_
    refine c_loopP (α := Nat × Chunk × Value) (fun z => [(0, .pointer (some ⟨g.b, 0, none⟩)), (6, .pointer (some ⟨t.b, 0, none⟩)), (29, t.ov), (30, .int .i64 (opl t.os).length), (31, .int .i64 (z.1 : Nat))])
      (fun z => z.1 ≤ t.os.length ∧ Sub g.p z.2.1 ∧ MV z.2.1 z.2.2 g.size (ap g.C (ops (t.os.take z.1)))) (fun z => K W ((g.setC z.2.1 z.2.2 g.C).L ++ N)) (fun z => t.os.length - z.1) (0, g.p, g.cv)
      ⟨rfl, rfl, rfl, rfl, rfl, trivial⟩ ⟨Nat.zero_le _, .refl _, hB.mC⟩ (fun w h => h) ?_
    rintro ⟨i, p, cv⟩ ⟨hi, hS, hM⟩
    dsimp only at hi hS hM ⊢
    clear e1 e7 eo
    by_cases c1 : i < t.os.length
    · obtain ⟨x, hx⟩ : ∃ x, t.os[i]? = some x := ⟨t.os[i], by simp [c1]⟩
      have heo : EV (K W ((g.setC p cv g.C).L ++ N)) t.ov 6 (opl t.os) := hOt.o.view (Hs.sub (c := (g.setC p cv g.C).L.flatten) Hs.bk fun e he => Bg.mem_ts (g := g.setC p cv g.C) (c := t.oc) htm (by simp) he)
      have hcx := heo.row (opl_get hx)
      have hrv := (hOt.r x (List.mem_of_getElem? hx)).one
      have hat := ap_take (f := g.C) hx
      refine csr ?_
      refine sy (y_T (y_lss rfl rfl) (by omega)) ?_
      refine snf ?_
      refine c_seq ?_
      refine c_condT rfl ?_
      refine c_skip ?_
      refine f_then ?_
      refine c_seq ?_
      refine c_block ?_
      refine csr ?_
      refine sy (y_ixE Tryz.tab rfl rfl rfl rfl (heo) _ rfl (by omega)) ?_
      refine sy (y_loadA Tryz.tab rfl rfl rfl rfl hcx) ?_
      refine sal fun b9 => ?_
      refine ss (set_box Tryz.tab 0 rfl rfl (opc_one hrv) rfl rfl rfl rfl) ?_
      refine snf ?_
      refine csr ?_
      refine sf0 ?_
      refine slr 0 ?_
      refine snf ?_
      cases hmv : x.1.mv with
      | false =>
        rw [hmv, if_neg (by decide)] at hat
        refine c_condF rfl ?_
        refine c_skip ?_
        refine f_blockN ?_
        refine f_then ?_
        refine c_region ?_
        refine sy (y_add rfl rfl (by omega)) ?_
        refine sm ?_
        refine s_nil ?_
        exact f_roundP (i + 1, p, cv) ⟨c1, hS, by rw [hat]; exact hM⟩ (by dsimp only; omega) ⟨rfl, rfl, rfl, rfl, rfl, trivial⟩ (fun w h => h.tail)
      | true =>
        rw [hmv, if_pos rfl] at hat
        obtain ⟨r1, r2, r3⟩ := hap.rng x.1 (List.mem_map.2 ⟨x, List.mem_of_getElem? hx, rfl⟩) hmv
        have hnb := hap.nb (i + 1)
        rw [← ops_take, hat] at hnb
        refine c_condT rfl ?_
        refine SC.cls (C' := K W (p :: [(b9, row 60 (opc x.1 x.2))] :: [(g.b, row 96 [cv, g.wv, .map (some g.ba), .map (some g.br), g.qv, g.lv])] :: [(g.ba, mobj g.ea g.ca)] :: [(g.br, mobj g.er g.cr)] :: g.qc :: g.lc :: (g.ts.flatMap Tg.chunks ++ N))) ?_ (fun w h => K.front 1 h)
        have hwc : CellsAre (K W (p :: [(b9, row 60 (opc x.1 x.2))] :: [(g.b, row 96 [cv, g.wv, .map (some g.ba), .map (some g.br), g.qv, g.lv])] :: [(g.ba, mobj g.ea g.ca)] :: [(g.br, mobj g.er g.cr)] :: g.qc :: g.lc :: (g.ts.flatMap Tg.chunks ++ N))) ⟨g.b, 0, none⟩ [cv] := CellsAre.one (cell_row 2 rfl rfl)
        have hD := fun (w : World) (h : K W (p :: [(b9, row 60 (opc x.1 x.2))] :: [(g.b, row 96 [cv, g.wv, .map (some g.ba), .map (some g.br), g.qv, g.lv])] :: [(g.ba, mobj g.ea g.ca)] :: [(g.br, mobj g.er g.cr)] :: g.qc :: g.lc :: (g.ts.flatMap Tg.chunks ++ N)) w) => h.tail.keep 1
        refine c_plan [.c 0, .c 1, .c 2, .c 3, .c 5, .c 6, .c 7, .c 8, .c 9, .c 10, .s 4, .s 11, .s 12, .c 14, .c 13, .c 15, .c 16, .s 17] [] (K W [[(b9, row 60 (opc x.1 x.2))]]) Tryz.mixed (by kernel_rfl) rfl K.cl ?_
        refine dy rfl (y_move rfl) hD ?_
        refine dy rfl (y_move rfl) hD ?_
        refine dy rfl (y_nilP rfl) hD ?_
        refine dy rfl (y_fieldAddr0 Tryz.tab rfl rfl rfl rfl rfl) hD ?_
        refine dy rfl (y_fieldAddrB Tryz.tab 1 rfl rfl rfl rfl rfl) hD ?_
        refine dy rfl (y_load Tryz.tab rfl rfl (cell_row 0 rfl rfl)) hD ?_
        refine dy rfl (y_fieldAddrB Tryz.tab 2 rfl rfl rfl rfl rfl) hD ?_
        refine dy rfl (y_load Tryz.tab rfl rfl (cell_row 0 rfl rfl)) hD ?_
        refine dy rfl (y_fieldAddrB Tryz.tab 4 rfl rfl rfl rfl rfl) hD ?_
        refine dy rfl (y_load Tryz.tab rfl rfl (cell_row 0 rfl rfl)) hD ?_
        refine d_sy rfl (y_loadA Tryz.tab rfl rfl rfl rfl hwc) rfl rfl rfl K.cl (fun _ => hD) ?_
        refine d_call rfl (en_f rfl Tryz.call65) (mset_spec hM r1 r2 r3 hnb) rfl rfl rfl (fun _ => K.cl) (fun _ _ _ h => h.tail.keep 1) (fun y => ?_)
        obtain ⟨⟨p', cv'⟩, hS', hM'⟩ := y
        dsimp only at hS' hM' ⊢
        obtain ⟨a, rfl⟩ := hM'.ptr
        have hD1 := fun (w : World) (h : K W (p' :: [(b9, row 60 (opc x.1 x.2))] :: [(g.b, row 96 [cv, g.wv, .map (some g.ba), .map (some g.br), g.qv, g.lv])] :: [(g.ba, mobj g.ea g.ca)] :: [(g.br, mobj g.er g.cr)] :: g.qc :: g.lc :: (g.ts.flatMap Tg.chunks ++ N)) w) => h.tail.keep 1
        refine d_sy rfl (y_move rfl) rfl rfl rfl K.cl (fun _ => hD1) ?_
        refine dy rfl (y_extract rfl rfl) hD1 ?_
        refine dy rfl (y_extract rfl rfl) hD1 ?_
        refine dy rfl (y_nilP rfl) hD1 ?_
        refine dy rfl (y_fieldAddr0 Tryz.tab rfl rfl rfl rfl rfl) hD1 ?_
        refine d_set rfl (set_aggB Tryz.tab 2 rfl rfl rfl rfl rfl rfl rfl) rfl rfl K.cl (fun _ _ h => h.tail.keep 1) ?_
        refine d_nil ?_
        refine f_blockN ?_
        refine f_then ?_
        refine c_region ?_
        refine sy (y_add rfl rfl (by omega)) ?_
        refine sm ?_
        refine s_nil ?_
        exact f_roundP (i + 1, p', .pointer (some a)) ⟨c1, hS.trans hS', by rw [hat]; exact hM'⟩ (by dsimp only; omega) ⟨rfl, rfl, rfl, rfl, rfl, trivial⟩ (fun w h => K.dropAt 1 h)
    · obtain rfl : i = t.os.length := by omega
      rw [List.take_length] at hM
      refine csr ?_
      refine sy (y_F (y_lss rfl rfl) (by omega)) ?_
      refine snf ?_
      refine c_seq ?_
      refine c_condF rfl ?_
      refine c_exit ?_
      refine f_thenE ?_
      refine f_rndE ?_
      refine f_blockE ?_
      refine f_then ?_
      refine c_seq ?_
      have heo : EV (K W ((g.setC p cv g.C).L ++ N)) t.ov 6 (opl t.os) := hOt.o.view (Hs.sub (c := (g.setC p cv g.C).L.flatten) Hs.bk fun e he => Bg.mem_ts (g := g.setC p cv g.C) (c := t.oc) htm (by simp) he)
      obtain ⟨pa, cc, hov, _, _⟩ := heo.view
      obtain ⟨g1, hg1⟩ : ∃ g1 : Bg, g1 = g.setC p cv (ap g.C (ops t.os)) := ⟨_, rfl⟩
      have hB1 : g1.OK := by rw [hg1]; exact hB.setC hS hM
      have hA1 : g.Anc g1 := by rw [hg1]; exact ⟨rfl, rfl, rfl⟩
      have hti1 : g1.ts[k - 1]? = some t := by rw [hg1]; exact hti
      have hlB := hB1.lB
      have hls : g1.ls = g.ls := by rw [hg1]; rfl
      refine SC.cls (C' := K W ([(g.b, row 96 g1.cells)] :: [(t.b, row 113 t.cells)] :: t.lc :: t.oc :: g1.p :: [(g1.ba, mobj g1.ea g1.ca)] :: [(g1.br, mobj g1.er g1.cr)] :: g1.qc :: g1.lc :: (g1.rest k ++ N))) ?_ (fun w h => by
        have h2 : K W (g1.L ++ N) w := by rw [hg1]; exact h
        have h3 := (K.foc hti1 h2).front 4
        rw [← hA1.b]
        exact h3)
      refine c_plan [.c 0, .c 1, .c 2, .c 3, .c 4, .c 5, .c 6, .c 7, .c 8, .c 9, .c 10, .c 11, .c 12, .c 13, .s 14, .s 15, .c 16, .c 17, .s 18] [18] ((K W [[(g.b, row 96 g1.cells)], [(t.b, row 113 t.cells)]])) Tryz.mixed (by kernel_rfl) rfl K.cl ?_
      refine dy rfl (y_move rfl) (fun w h => h.keep 2) ?_
      refine dy rfl (y_move rfl) (fun w h => h.keep 2) ?_
      refine dy rfl (y_nilP rfl) (fun w h => h.keep 2) ?_
      refine dy rfl (y_fieldAddrB Tryz.tab 5 rfl rfl rfl rfl rfl) (fun w h => h.keep 2) ?_
      refine dy rfl (y_load Tryz.tab rfl rfl (cell_row 0 rfl rfl)) (fun w h => h.keep 2) ?_
      refine dy rfl (y_move rfl) (fun w h => h.keep 2) ?_
      refine dy rfl (y_nilP rfl) (fun w h => h.keep 2) ?_
      refine dy rfl (y_fieldAddr0 Tryz.tab rfl rfl rfl rfl rfl) (fun w h => h.keep 2) ?_
      refine dy rfl (y_load Tryz.tab rfl rfl (cell_row 1 rfl rfl)) (fun w h => h.keep 2) ?_
      refine dy rfl (y_move rfl) (fun w h => h.keep 2) ?_
      refine dy rfl (y_nilP rfl) (fun w h => h.keep 2) ?_
      refine dy rfl (y_fieldAddrB Tryz.tab 7 rfl rfl rfl rfl rfl) (fun w h => h.keep 2) ?_
      refine dy rfl (y_load Tryz.tab rfl rfl (cell_row 1 rfl rfl)) (fun w h => h.keep 2) ?_
      rw [hov]
      refine dy rfl (y_build Tryz.tab rfl rfl rfl rfl rfl) (fun w h => h.keep 2) ?_
      refine d_s rfl (do_buildSliceS Tryz.tab ⟨rfl, rfl, rfl, rfl⟩ rfl rfl rfl rfl) rfl rfl rfl (fun _ => K.cl) (fun _ _ _ h => h.tail.keep 2) (fun b69 => ?_)
      refine d_s rfl (do_appendR (by_ := 32) (news := [.int .i64 (t.id : Nat), .slice pa (opl t.os).length cc]) Tryz.tab 9 rfl hlB rfl ⟨rfl, rfl, rfl, rfl⟩ rfl (by simp) rfl (cells_row0 0 rfl rfl) rfl rfl (by rw [List.length_map, hls]; omega) (by omega)) rfl rfl rfl (fun _ => K.cl) (fun _ _ _ h => h.tail.keep 2) (fun y => ?_)
      obtain ⟨⟨lv', lc'⟩, hl'⟩ := y
      dsimp only at hl' ⊢
      refine dy rfl (y_nilP rfl) (fun w h => h.tail.keep 2) ?_
      refine dy rfl (y_fieldAddrB Tryz.tab 5 rfl rfl rfl rfl rfl) (fun w h => h.tail.keep 2) ?_
      refine d_set rfl (set_row Tryz.tab 1 rfl rfl hl'.one rfl rfl (Nat.lt_of_sub_eq_succ rfl)) rfl rfl K.cl (fun h => by cases h) ?_
      refine d_nil ?_
      refine f_then ?_
      refine csr ?_
      refine sm ?_
      refine sm ?_
      refine sn ?_
      refine sf 1 ?_
      refine ss (set_rowB Tryz.tab 2 rfl rfl rfl rfl rfl rfl) ?_
      refine sn ?_
      refine sf 7 ?_
      refine ss (set_rowB Tryz.tab 2 rfl rfl rfl rfl rfl rfl) ?_
      refine snf ?_
      refine csr ?_
      refine sm ?_
      refine sm ?_
      obtain ⟨t2, ht2⟩ : ∃ t2 : Tg, t2 = { t with st := 3, os := [], ov := .slice none 0 0, oc := [] } := ⟨_, rfl⟩
      have h2b : t2.b = t.b := by rw [ht2]
      obtain ⟨g2, hg2⟩ : ∃ g2 : Bg, g2 = (g1.setC (t.oc ++ g1.p) g1.cv g1.C).setL (g1.ls ++ [(k, t.ov, t.os)]) lv' lc' := ⟨_, rfl⟩
      have hS1 : Sub g1.p (t.oc ++ g1.p) := .app ..
      have hOt1 := hB1.ok t (List.mem_of_getElem? hti1)
      have hB2 : g2.OK := by
        rw [hg2]
        refine (hB1.setC hS1 (hB1.mC.sub hS1)).setL (hl'.of ?_) fun x hx => ?_
        · rw [List.map_append, ← hov, hid]; rfl
        · rcases List.mem_append.1 hx with hx | hx
          · exact ⟨Sub.pe (hB1.lO x hx).1 hS1, (hB1.lO x hx).2.sub hS1⟩
          · rw [List.mem_singleton.1 hx]
            exact ⟨hOt.o.pool g1.p, hOt1.r.sub hS1⟩
      have hA2 : g1.Anc g2 := by rw [hg2]; exact ⟨rfl, rfl, rfl⟩
      have hti2 : g2.ts[k - 1]? = some t := by rw [hg2]; exact hti1
      obtain ⟨g3, hg3⟩ : ∃ g3 : Bg, g3 = g2.setT k t2 := ⟨_, rfl⟩
      have hB3 : g3.OK := by
        rw [hg3]
        refine hB2.setT hti2 h2b (by rw [ht2]) ?_
        rw [ht2]
        exact ⟨hOt1.l, .nil, .nil⟩
      have hA3 : g2.Anc g3 := by rw [hg3]; exact setT_anc hti2 h2b
      refine St.cls (C' := K W (g3.L ++ N)) ?_ (fun w h => by
        rw [hg3]
        refine K.unfoc (t' := t2) (F := g2.fixed) hti2 ?_
        have h1 : K W ([(g.b, row 96 [g1.cv, g1.wv, .map (some g1.ba), .map (some g1.br), g1.qv, lv'])] :: [(t2.b, row 113 t2.cells)] :: t.lc :: t.oc :: g1.p :: [(g1.ba, mobj g1.ea g1.ca)] :: [(g1.br, mobj g1.er g1.cr)] :: g1.qc :: lc' :: (g1.rest k ++ N)) w := by rw [ht2]; exact K.tail h
        have h2 := (((h1.front 3).front 4).front 1).join
        have h3 := ((((h2.front 3).front 3).addNil).front 2).front 2
        have e2 : g2.fixed = [t.oc ++ g1.p, [(g.b, row 96 [g1.cv, g1.wv, .map (some g1.ba), .map (some g1.br), g1.qv, lv'])], [(g1.ba, mobj g1.ea g1.ca)], [(g1.br, mobj g1.er g1.cr)], g1.qc, lc'] := by rw [hg2, ← hA1.b]; rfl
        have e3 : g2.rest k = g1.rest k := by rw [hg2]; rfl
        have e4 : t2.chunks = [[(t2.b, row 113 t2.cells)], t.lc, []] := by rw [ht2]
        rw [e2, e3, e4]
        exact h3)
      have hrel := release_spec (W := W) (N := N) (k := k) hB3 ⟨fun u hu => ?_, by rw [hg3, hg2, hg1]; exact hG.rn, by rw [hg3, hg2, hg1]; exact hG.q⟩ (hA3.has (hA2.has (hA1.has hk)))
      rw [hA3.ptr, hA2.ptr, hA1.ptr, ep, hA3.b, hA2.b, hA1.b] at hrel
      skip
      refine sk Tryz.call66 hrel fun y => ?_
      obtain ⟨g4, hB4, hbk4, hA4⟩ := y
      dsimp only
      have hb4 : g4.b = g.b := by rw [hA4.b, hA3.b, hA2.b, hA1.b]
      obtain ⟨_, _, _, _, _, d5, _, dl, _, _⟩ := hB4.bf (C := K W (g4.L ++ N)) Hs.bk
      rw [hb4] at d5
      have hbk : g4.bk = g.bk.commit k := by
        rw [hbk4, hg3, setT_bk, hg2, hg1, Bk.commit, htx, ht2]
        simp only [Bg.setC, Bg.setL, Bg.bk, Bk.setT, List.map_append, List.map_cons, List.map_nil]
        rfl
      have hll4 : g4.bk.log.length = (g4.ls.map fun x => [Value.int .i64 (x.1 : Nat), x.2.1]).length := by simp [Bg.bk]
      refine snf ?_
      refine csr ?_
      refine sm ?_
      refine sn ?_
      refine sf 5 ?_
      refine sl d5 ?_
      refine sy (y_lenE Tryz.tab rfl (dl) rfl) ?_
      refine sa ?_
      refine sa ?_
      refine snf ?_
      refine c_ret ?_
      exact f_ret ⟨(g4, (g4.ls.map fun x => [Value.int .i64 (x.1 : Nat), x.2.1]).length, 0), hB4, .inr ⟨k, rfl, hkb, .inr (.inr (.inr ⟨by rw [htx]; exact c2, by rw [htx]; exact c3, by rw [htx]; exact c4, hbk, hll4.symm, rfl⟩))⟩, hA1.trans (hA2.trans (hA3.trans hA4))⟩ (res2 rfl rfl rfl) (fun w h => h)
      rw [hg3, hg2, hg1] at hu
      rcases List.mem_or_eq_of_mem_set hu with hu | rfl
      · exact (good_lo hG hu).1
      · rw [ht2]; exact (good_lo hG htm).1
  · rw [fnd_none c]
    refine sm ?_
    refine sx ?_
    refine sx ?_
    refine sa ?_
    refine sa ?_
    refine snf ?_
    refine c_seq ?_
    refine c_block ?_
    refine csr ?_
    refine sm ?_
    refine sy (y_T (y_neq rfl rfl) (by omega)) ?_
    refine sa ?_
    refine snf ?_
    refine c_condT rfl ?_
    refine csr ?_
    refine sm ?_
    refine sa ?_
    refine sa ?_
    refine snf ?_
    refine c_ret ?_
    refine f_blockR ?_
    refine f_thenR ?_
    exact f_ret ⟨(g, 0, 80), hB, .inl ⟨by simpa [Bg.bk] using c, rfl, rfl, rfl⟩, .refl _⟩ (res2 rfl rfl rfl) (fun w h => h)
end Go.KL
end

section
/- Operations of transactions, done again and undone; plain. No program in sight. -/
namespace Go.KL
abbrev stp (f : Nat → Nat) (o : Oa) : Nat → Nat := if o.mv then setf f o.lo o.hi o.to else f
theorem ap_cons (f : Nat → Nat) (o : Oa) (l : List Oa) : ap f (o :: l) = ap (stp f o) l := rfl
theorem ap_app (f : Nat → Nat) (l m : List Oa) : ap f (l ++ m) = ap (ap f l) m := List.foldl_append
theorem ap_snoc (f : Nat → Nat) (l : List Oa) (o : Oa) : ap f (l ++ [o]) = stp (ap f l) o := by rw [ap_app]; rfl
theorem un_cons (f : Nat → Nat) (o : Oa) (l : List Oa) : KL.un f (o :: l) = if o.mv then setf (KL.un f l) o.lo o.hi o.fr else KL.un f l := rfl
def tch (l : List Oa) (i : Nat) : Prop := ∃ o ∈ l, o.mv = true ∧ o.lo ≤ i ∧ i < o.hi
theorem tch.nil {i : Nat} : ¬ tch [] i := fun ⟨_, h, _⟩ => by simp at h
theorem tch.cons {o : Oa} {l : List Oa} {i : Nat} : tch (o :: l) i ↔ (o.mv = true ∧ o.lo ≤ i ∧ i < o.hi) ∨ tch l i := by
  unfold tch
  simp
theorem tch.app {l m : List Oa} {i : Nat} : tch (l ++ m) i ↔ tch l i ∨ tch m i := by
  unfold tch
  constructor
  · rintro ⟨o, ho, h⟩
    rcases List.mem_append.1 ho with ho | ho
    · exact .inl ⟨o, ho, h⟩
    · exact .inr ⟨o, ho, h⟩
  · rintro (⟨o, ho, h⟩ | ⟨o, ho, h⟩)
    · exact ⟨o, List.mem_append_left _ ho, h⟩
    · exact ⟨o, List.mem_append_right _ ho, h⟩
theorem setf_in {f : Nat → Nat} {lo hi t i : Nat} (h : lo ≤ i ∧ i < hi) : setf f lo hi t i = t := if_pos h
theorem setf_out {f : Nat → Nat} {lo hi t i : Nat} (h : ¬ (lo ≤ i ∧ i < hi)) : setf f lo hi t i = f i := if_neg h
theorem stp_out {f : Nat → Nat} {o : Oa} {i : Nat} (h : ¬ (o.mv = true ∧ o.lo ≤ i ∧ i < o.hi)) : stp f o i = f i := by
  unfold stp
  split
  · rename_i hm
    exact setf_out fun c => h ⟨hm, c⟩
  · rfl
theorem stp_in {f : Nat → Nat} {o : Oa} {i : Nat} (h : o.mv = true ∧ o.lo ≤ i ∧ i < o.hi) : stp f o i = o.to := by
  unfold stp
  rw [if_pos h.1, setf_in h.2]
theorem stp_congr {f g : Nat → Nat} {o : Oa} {i : Nat} (h : f i = g i) : stp f o i = stp g o i := by
  by_cases c : o.mv = true ∧ o.lo ≤ i ∧ i < o.hi
  · rw [stp_in c, stp_in c]
  · rw [stp_out c, stp_out c, h]
theorem ap_congr : ∀ {l : List Oa} {f g : Nat → Nat} {i : Nat}, f i = g i → ap f l i = ap g l i
  | [], _, _, _, h => h
  | o :: l, f, g, i, h => by
    rw [ap_cons, ap_cons]
    exact ap_congr (stp_congr h)
theorem ap_tch : ∀ {l : List Oa} {f g : Nat → Nat} {i : Nat}, tch l i → ap f l i = ap g l i
  | [], _, _, _, h => absurd h tch.nil
  | o :: l, f, g, i, h => by
    rw [ap_cons, ap_cons]
    by_cases c : o.mv = true ∧ o.lo ≤ i ∧ i < o.hi
    · exact ap_congr (by rw [stp_in c, stp_in c])
    · exact ap_tch ((tch.cons.1 h).resolve_left c)
theorem ap_not : ∀ {l : List Oa} {f : Nat → Nat} {i : Nat}, ¬ tch l i → ap f l i = f i
  | [], _, _, _ => rfl
  | o :: l, f, i, h => by
    rw [ap_cons, ap_not fun c => h (tch.cons.2 (.inr c)), stp_out fun c => h (tch.cons.2 (.inl c))]
structure Opk (n : Nat) (f : Nat → Nat) (o : Oa) : Prop where
  rng : o.lo ≤ o.hi ∧ o.hi ≤ n
  tag : o.fr < 16 ∧ o.to < 16
  look : o.mv = false → o.runs = rns f o.lo o.hi
  move : o.mv = true → ∀ i, o.lo ≤ i → i < o.hi → f i = o.fr
  no : o.mv = true → o.runs = []
theorem Opk.congr {n : Nat} {f g : Nat → Nat} {o : Oa} (h : Opk n f o) (e : ∀ i, o.lo ≤ i → i < o.hi → f i = g i) : Opk n g o :=
  ⟨h.rng, h.tag, fun c => by rw [h.look c]; exact rns_congr h.rng.1 e, fun c i h1 h2 => by rw [← e i h1 h2]; exact h.move c i h1 h2, h.no⟩
def Rep (n : Nat) : (Nat → Nat) → List Oa → Prop
  | _, [] => True
  | f, o :: l => Opk n f o ∧ Rep n (stp f o) l
theorem Rep.app {n : Nat} : ∀ {l m : List Oa} {f : Nat → Nat}, Rep n f (l ++ m) ↔ Rep n f l ∧ Rep n (ap f l) m
  | [], m, f => ⟨fun h => ⟨trivial, h⟩, fun h => h.2⟩
  | o :: l, m, f => by
    rw [List.cons_append, Rep, Rep, Rep.app, ap_cons, and_assoc]
theorem Rep.snoc {n : Nat} {l : List Oa} {o : Oa} {f : Nat → Nat} (h : Rep n f l) (ho : Opk n (ap f l) o) : Rep n f (l ++ [o]) := Rep.app.2 ⟨h, ho, trivial⟩
theorem Rep.congr {n : Nat} : ∀ {l : List Oa} {f g : Nat → Nat}, Rep n f l → (∀ o ∈ l, ∀ i, o.lo ≤ i → i < o.hi → f i = g i) → Rep n g l
  | [], _, _, _, _ => trivial
  | o :: _, _, _, h, e => ⟨h.1.congr (e o (List.mem_cons_self ..)), h.2.congr fun x hx i h1 h2 => stp_congr (e x (List.mem_cons_of_mem _ hx) i h1 h2)⟩
theorem Rep.mem {n : Nat} : ∀ {l : List Oa} {f : Nat → Nat} {o : Oa}, Rep n f l → o ∈ l → ∃ g, Opk n g o
  | [], _, _, _, h => by simp at h
  | x :: l, f, o, h, ho => by
    rcases List.mem_cons.1 ho with rfl | ho
    · exact ⟨f, h.1⟩
    · exact h.2.mem ho
theorem Rep.drop {n : Nat} {l : List Oa} {f : Nat → Nat} (h : Rep n f l) (k : Nat) : Rep n (ap f (l.take k)) (l.drop k) := by
  rw [← List.take_append_drop k l] at h
  exact (Rep.app.1 h).2
theorem un_not : ∀ {l : List Oa} {f : Nat → Nat} {i : Nat}, ¬ tch l i → KL.un f l i = f i
  | [], _, _, _ => rfl
  | o :: l, f, i, h => by
    rw [un_cons]
    have ih := un_not (f := f) fun c => h (tch.cons.2 (.inr c))
    split
    · rename_i hm
      rw [setf_out fun c => h (tch.cons.2 (.inl ⟨hm, c⟩)), ih]
    · exact ih
theorem Rep.un {n : Nat} : ∀ {l : List Oa} {f g : Nat → Nat} {i : Nat}, Rep n f l → tch l i → KL.un g l i = f i
  | [], _, _, _, _, h => absurd h tch.nil
  | o :: l, f, g, i, h, ht => by
    rw [un_cons]
    by_cases c : o.mv = true ∧ o.lo ≤ i ∧ i < o.hi
    · rw [if_pos c.1, setf_in c.2, h.1.move c.1 i c.2.1 c.2.2]
    · have ih := h.2.un (g := g) ((tch.cons.1 ht).resolve_left c)
      rw [stp_out c] at ih
      split
      · rename_i hm
        rw [setf_out fun d => c ⟨hm, d⟩, ih]
      · exact ih
theorem mvs_cons (o : Oa) (l : List Oa) : mvs (o :: l) = (if o.mv then 1 else 0) + mvs l := by
  unfold mvs
  rw [List.filter_cons]
  split
  · rw [List.length_cons]; omega
  · omega
theorem mvs_app (l m : List Oa) : mvs (l ++ m) = mvs l + mvs m := by
  unfold mvs
  rw [List.filter_append, List.length_append]
theorem mvs_tk (l : List Oa) (k : Nat) : mvs (l.take k) ≤ mvs l := by
  have := mvs_app (l.take k) (l.drop k)
  rw [List.take_append_drop] at this
  omega
theorem nbd_ap (n : Nat) : ∀ (l : List Oa) (f : Nat → Nat), nbd (ap f l) n ≤ nbd f n + 2 * mvs l
  | [], _ => Nat.le_refl _
  | o :: l, f => by
    rw [ap_cons, mvs_cons]
    have h := nbd_ap n l (stp f o)
    by_cases c : o.mv = true
    · have h2 := nbd_set2 f o.lo o.hi o.to n
      have e : stp f o = setf f o.lo o.hi o.to := if_pos c
      rw [e] at h ⊢
      rw [if_pos c]
      omega
    · have e : stp f o = f := if_neg c
      rw [e] at h ⊢
      rw [if_neg c]
      omega
def Wf (f : Nat → Nat) (ls : List (List Oa)) : Nat → Nat := ls.foldl ap f
theorem nbd_Wf (n : Nat) : ∀ (ls : List (List Oa)) (f : Nat → Nat), nbd (Wf f ls) n ≤ nbd f n + 2 * (ls.map mvs).sum
  | [], _ => by simp [Wf]
  | l :: ls, f => by
    have h1 := nbd_ap n l f
    have h2 := nbd_Wf n ls (ap f l)
    show nbd (Wf (ap f l) ls) n ≤ _
    rw [List.map_cons, List.sum_cons]
    omega
theorem Wf_not {i : Nat} : ∀ {ls : List (List Oa)} {f : Nat → Nat}, (∀ l ∈ ls, ¬ tch l i) → Wf f ls i = f i
  | [], _, _ => rfl
  | l :: ls, f, h => by
    show Wf (ap f l) ls i = _
    rw [Wf_not fun m hm => h m (List.mem_cons_of_mem _ hm), ap_not (h l (List.mem_cons_self ..))]
theorem Wf_tch {i : Nat} : ∀ {ls : List (List Oa)} {f : Nat → Nat} {l : List Oa}, ls.Pairwise (fun a b => ¬ (tch a i ∧ tch b i)) → l ∈ ls → tch l i → Wf f ls i = ap f l i
  | [], _, _, _, h, _ => by simp at h
  | m :: ls, f, l, hp, hl, ht => by
    obtain ⟨h1, h2⟩ := List.pairwise_cons.1 hp
    show Wf (ap f m) ls i = _
    rcases List.mem_cons.1 hl with rfl | hl
    · exact Wf_not fun x hx c => h1 x hx ⟨ht, c⟩
    · rw [Wf_tch h2 hl ht]
      exact ap_tch ht
end Go.KL
end

section
/- Walks: the document's maps: full, Swap, move, Alike; runs. -/
namespace Go.KL
open Go.Proofs
theorem resA12 {P : Program} {n : Nat} {σ : Slots} {C : World → Prop} {fn : Func} {a u u' : Tmp} {t : TypeId} {p : Addr} {s : Nat} {l : List Value} {v v' : Value} (T : Tab P) (hr : fn.results = #[.cell a t, .tmp u, .tmp u']) (ha : lookE σ a = some (.pointer (some p))) (hu : lookE σ u = some v) (hu' : lookE σ u' = some v')
    (hg : T.agg t = some true) (hs : T.size t = some s) (hl : l.length = s) (hc : CellsAre C p l) : resOK P fn n σ C (.tuple #[.agg l.toArray, v, v']) := by
  intro act w hE hw
  have h1 := hE.atE ha
  have h2 := hE.atE hu
  have h2' := hE.atE hu'
  have h3 := run_loadVarA (P := P) T hg hs hl (hc w hw)
  rw [Array.getD_eq_getD_getElem?] at h1 h2 h2'
  simp [results, hr, h1, h2, h2', asAddr, h3]
attribute [local irreducible] SC St Fin Sq Ylds Doos Sets Enters Spec CellIs CellsAre Then Ret Rnd Chn resOK ints bools recs arr
section
variable {W : World} {N : List Chunk} {lv : Value} {n : Nat} {f : Nat → Nat}
set_option maxRecDepth 10000 in
theorem full_spec {u : Value} {c : Chunk} {R : List Rn} (hB : BufR 26 3 u c (rnl R)) (hl : R.length ≤ 4096) {lv : Value} : Spec Tryz.prog 72 #[.agg #[.int .i64 (n : Nat), lv], u] (K W (c :: N)) (fun _ : Unit => .tuple #[.agg #[.int .i64 (n : Nat), u], .int .i64 0]) (fun _ => K W (c :: N)) := by
  have hlr : (rnl R).length = R.length := List.length_map _
  obtain ⟨pa, k, rfl, _, _⟩ := (hB.view (C := K W (c :: N)) (Hs.at 0 rfl)).view
  refine enter (args := [_, _]) Tryz.func72 rfl Tryz.ntmps72 rfl ?_
  refine csr ?_
  refine sbx fun b2 => ?_
  refine sal fun b4 => ?_
  refine sa ?_
  refine snf ?_
  refine c_seq ?_
  refine csr ?_
  refine sm ?_
  refine sy (y_lenR' Tryz.tab rfl hB rfl) ?_
  refine sy (y_F (y_gtr rfl rfl) (by omega)) ?_
  refine snf ?_
  refine c_condF rfl ?_
  refine c_skip ?_
  refine f_then ?_
  refine csr ?_
  refine sf0 ?_
  refine slr 1 ?_
  refine sm ?_
  refine sy (y_build Tryz.tab rfl rfl rfl rfl rfl) ?_
  refine ss (set_box Tryz.tab 0 rfl rfl rfl rfl rfl rfl rfl) ?_
  refine sa ?_
  refine snf ?_
  refine c_ret ?_
  exact f_ret () (resA1 Tryz.tab rfl rfl rfl rfl rfl rfl (cells_row0 0 rfl rfl)) (fun w h => h.tail.tail)
set_option maxRecDepth 10000 in
set_option maxHeartbeats 8000000 in
theorem rswap_spec (h : RMp (K W N) lv n f) {lo hi fr to : Nat} (h1 : lo ≤ hi) (h2 : hi ≤ n) (h3 : fr < 16) (h4 : to < 16) (h5 : nbd (swf f lo hi fr to) n ≤ 4096) : Spec Tryz.prog 33 #[.agg #[.int .i64 (n : Nat), lv], .int .i64 (lo : Nat), .int .i64 (hi : Nat), .int .i64 (fr : Nat), .int .i64 (to : Nat), .bool false] (K W N)
    (X := { x : Value × Chunk × Nat // BufR 26 3 x.1 x.2.1 (rnl (rns (swf f lo hi fr to) 0 n)) }) (fun x => .tuple #[.agg #[.int .i64 (n : Nat), x.1.1], .int .i64 (x.1.2.2 : Nat), .int .i64 0]) (fun x => K W (x.1.2.1 :: N)) := by
  have hR := rns_ok (f := f) (lo := 0) (hi := n) (Nat.zero_le _)
  have hlen := rns_len f n
  have hV := h.v
  have hnb := h.nb
  have hpos := h.pos
  obtain ⟨pa, k, rfl, _, _⟩ := hV.view
  have hlr : (rnl (rns f 0 n)).length = (rns f 0 n).length := List.length_map _
  refine enter (args := [_, _, _, _, _, _]) Tryz.func33 rfl Tryz.ntmps33 rfl ?_
  refine csr ?_
  refine sbx fun b6 => ?_
  refine sal fun b12 => ?_
  refine sa ?_
  refine sa ?_
  refine snf ?_
  refine c_seq ?_
  refine csr ?_
  refine sy (y_loadA Tryz.tab rfl rfl rfl rfl (cells_row0 1 rfl rfl)) ?_
  refine sk Tryz.call69 (usableM_spec h.cons.cons) fun _ => ?_
  refine sy (y_notT rfl) ?_
  refine snf ?_
  refine c_condF rfl ?_
  refine c_skip ?_
  refine f_then ?_
  refine c_seq ?_
  refine csr ?_
  refine sy (y_loadA Tryz.tab rfl rfl rfl rfl (cells_row0 1 rfl rfl)) ?_
  refine sm ?_
  refine sm ?_
  refine sk Tryz.call70 (validT h.cons.cons h1 h2) fun _ => ?_
  refine sy (y_notT rfl) ?_
  refine snf ?_
  refine c_condF rfl ?_
  refine c_skip ?_
  refine f_then ?_
  refine c_seq ?_
  refine csr ?_
  refine sm ?_
  refine sy (y_notF rfl) ?_
  refine sm ?_
  refine sm ?_
  refine s_call (en_f rfl Tryz.call71) (rtagT (by omega)) rfl rfl rfl (fun _ => ?_)
  refine sy (y_notT rfl) ?_
  refine spT ?_
  refine sm ?_
  refine sm ?_
  refine s_call (en_f rfl Tryz.call71) (rtagT (by omega)) rfl rfl rfl (fun _ => ?_)
  refine sy (y_notT rfl) ?_
  refine spF ?_
  refine snf ?_
  refine c_condF rfl ?_
  refine c_skip ?_
  refine f_then ?_
  refine csr ?_
  refine sa ?_
  refine snf ?_
  refine csr ?_
  refine sa ?_
  refine snf ?_
  refine c_seq ?_
  refine csr ?_
  refine sa ?_
  refine snf ?_
  refine c_block ?_
  refine c_loopP (α := Nat × Nat × Nat × Value × Chunk × List Rn) (fun z => [(1, .int .i64 (lo : Nat)), (2, .int .i64 (hi : Nat)), (3, .int .i64 (fr : Nat)), (4, .int .i64 (to : Nat)), (5, .bool false), (6, .pointer (some ⟨b6, 0, none⟩)), (12, .pointer (some ⟨b12, 0, none⟩)), (15, z.2.2.2.1), (16, .int .i64 (z.2.2.1 : Nat)), (17, .int .i64 (z.1 : Nat))])
    (fun z => z.1 ≤ (rns f 0 n).length ∧ Rns f z.2.1 n ((rns f 0 n).drop z.1) ∧ Rns (swf f lo hi fr to) 0 z.2.1 z.2.2.2.2.2 ∧ z.2.2.2.2.2.length ≤ 3 * z.1 ∧ BufR 26 3 z.2.2.2.1 z.2.2.2.2.1 (rnl z.2.2.2.2.2) ∧ z.2.2.1 ≤ z.2.1) (fun z => K W (z.2.2.2.2.1 :: [(b12, row 37 [.int .i64 0, .slice none 0 0])] :: [(b6, row 37 [.int .i64 (n : Nat), .slice pa (rnl (rns f 0 n)).length k])] :: N)) (fun z => (rns f 0 n).length - z.1) (0, 0, 0, .slice none 0 0, [], [])
    ⟨rfl, rfl, rfl, rfl, rfl, rfl, rfl, rfl, rfl, rfl, trivial⟩ ⟨Nat.zero_le _, by rw [List.drop_zero]; exact hR, rfl, Nat.le_refl _, .nil, Nat.le_refl _⟩ (fun w h => h.addNil) ?_
  rintro ⟨i, at_, m, u, d, R⟩ ⟨g1, g2, g3, g4, g5, g6⟩
  dsimp only at g1 g2 g3 g4 g5 g6 ⊢
  have hV2 : EV (K W (d :: [(b12, row 37 [.int .i64 0, .slice none 0 0])] :: [(b6, row 37 [.int .i64 (n : Nat), .slice pa (rnl (rns f 0 n)).length k])] :: N)) (.slice pa (rnl (rns f 0 n)).length k) 3 (rnl (rns f 0 n)) := hV.cons.cons.cons
  by_cases c : i < (rns f 0 n).length
  · obtain ⟨x, hx⟩ : ∃ x, (rns f 0 n)[i]? = some x := ⟨(rns f 0 n)[i], by rw [List.getElem?_eq_getElem]⟩
    have hcx : CellsAre (K W (d :: [(b12, row 37 [.int .i64 0, .slice none 0 0])] :: [(b6, row 37 [.int .i64 (n : Nat), .slice pa (rnl (rns f 0 n)).length k])] :: N)) ⟨vblk (.slice pa (rnl (rns f 0 n)).length k), voff (.slice pa (rnl (rns f 0 n)).length k) + i * 3, none⟩ [.int .i64 (x.1 : Nat), .int .i64 (x.2.1 : Nat), .int .i64 (x.2.2 : Nat)] := hV2.row (rnl_get hx)
    rw [drop_get' hx] at g2
    obtain ⟨rfl, q2, q3, _, q5⟩ := g2
    have hc := g3.swap q2 q3
    have hxn := q5.le
    have hA : swa lo x.1 x.2.1 = max x.1 (min lo x.2.1) := rfl
    have hB : swb hi x.1 x.2.1 = min x.2.1 (max hi x.1) := rfl
    have ea : max (x.1 : Int) (min (lo : Int) (x.2.1 : Int)) = ((swa lo x.1 x.2.1 : Nat) : Int) := by omega
    have eb : min (x.2.1 : Int) (max (hi : Int) (x.1 : Int)) = ((swb hi x.1 x.2.1 : Nat) : Int) := by omega
    have j1 := fun {A : List Chunk} => rjoin_spec (W := W) (N := A) (lo := x.1) (hi := swa lo x.1 x.2.1) (tag := x.2.2) g5 (by omega)
    have l1 := jn_len R (x.1, swa lo x.1 x.2.1, x.2.2)
    by_cases ct : x.2.2 = fr
    · rw [if_pos ct] at hc
      refine c_seq ?_
      refine csr ?_
      refine sm ?_
      refine sf 1 ?_
      refine slr 2 ?_
      refine sy (y_lenE Tryz.tab rfl (hV2) rfl) ?_
      refine sy (y_T (y_lss rfl rfl) (by omega)) ?_
      refine snf ?_
      refine c_condT rfl ?_
      refine c_skip ?_
      refine f_then ?_
      refine c_seq ?_
      refine c_block ?_
      refine csr ?_
      refine sf 1 ?_
      refine slr 2 ?_
      refine sm ?_
      refine sy (y_ixE Tryz.tab rfl rfl rfl rfl (hV2) _ rfl (by omega)) ?_
      refine sy (y_loadA Tryz.tab rfl rfl rfl rfl hcx) ?_
      refine sal fun b18 => ?_
      refine ss (set_box Tryz.tab 0 rfl rfl rfl rfl rfl rfl rfl) ?_
      refine snf ?_
      refine c_seq ?_
      refine c_quiet Tryz.mixed (by kernel_rfl) K.drew ?_
      refine q_y (y_fieldAddr0 Tryz.tab rfl rfl rfl rfl rfl) rfl rfl rfl ?_
      refine q_y (y_load Tryz.tab rfl rfl (cell_row 0 rfl rfl)) rfl rfl rfl ?_
      refine q_y (y_move rfl) rfl rfl rfl ?_
      refine q_y (y_fieldAddrB Tryz.tab 1 rfl rfl rfl rfl rfl) rfl rfl rfl ?_
      refine q_y (y_load Tryz.tab rfl rfl (cell_row 0 rfl rfl)) rfl rfl rfl ?_
      refine q_y (y_min rfl rfl) rfl rfl rfl ?_
      refine q_y (y_max rfl rfl) rfl rfl rfl ?_
      refine q_y (y_fieldAddrB Tryz.tab 1 rfl rfl rfl rfl rfl) rfl rfl rfl ?_
      refine q_y (y_load Tryz.tab rfl rfl (cell_row 0 rfl rfl)) rfl rfl rfl ?_
      refine q_y (y_move rfl) rfl rfl rfl ?_
      refine q_y (y_fieldAddr0 Tryz.tab rfl rfl rfl rfl rfl) rfl rfl rfl ?_
      refine q_y (y_load Tryz.tab rfl rfl (cell_row 0 rfl rfl)) rfl rfl rfl ?_
      refine q_y (y_max rfl rfl) rfl rfl rfl ?_
      refine q_y (y_min rfl rfl) rfl rfl rfl ?_
      refine q_y (y_assign rfl) rfl rfl rfl ?_
      refine q_y (y_assign rfl) rfl rfl rfl ?_
      refine q_nil ?_
      refine f_then ?_
      refine csr ?_
      refine sf 2 ?_
      refine slr 0 ?_
      refine sa ?_
      refine snf ?_
      refine c_seq ?_
      refine csr ?_
      refine sm ?_
      refine sm ?_
      refine sf 2 ?_
      refine slr 0 ?_
      refine sm ?_
      refine sy (y_T (y_eql rfl rfl) (by omega)) ?_
      refine spF ?_
      refine snf ?_
      refine c_condT rfl ?_
      refine csr ?_
      refine sm ?_
      refine sa ?_
      refine snf ?_
      refine c_region ?_
      refine sm ?_
      refine sm ?_
      refine sm ?_
      refine sy (y_sub rfl rfl (by omega)) ?_
      refine sy (y_max rfl rfl) ?_
      refine sy (y_add rfl rfl (by omega)) ?_
      refine sa ?_
      refine snf ?_
      refine csr ?_
      refine sm ?_
      refine sf0 ?_
      refine slr 0 ?_
      refine sm ?_
      refine sf 2 ?_
      refine slr 0 ?_
      refine sy (y_build Tryz.tab rfl rfl rfl rfl rfl) ?_
      rw [ea, eb]
      skip
      refine St.cls (C' := K W (d :: [(b18, row 26 [.int .i64 (x.1 : Nat), .int .i64 (x.2.1 : Nat), .int .i64 (x.2.2 : Nat)])] :: [(b12, row 37 [.int .i64 0, .slice none 0 0])] :: [(b6, row 37 [.int .i64 (n : Nat), .slice pa (rnl (rns f 0 n)).length k])] :: N)) ?_ (fun w h => K.front 1 h)
      refine sk Tryz.call68 j1 fun y => ?_
      obtain ⟨⟨u1, d1⟩, hu1⟩ := y
      dsimp only at hu1 ⊢
      have j2 := rjoin_spec (W := W) (N := [(b18, row 26 [.int .i64 (x.1 : Nat), .int .i64 (x.2.1 : Nat), .int .i64 (x.2.2 : Nat)])] :: [(b12, row 37 [.int .i64 0, .slice none 0 0])] :: [(b6, row 37 [.int .i64 (n : Nat), .slice pa (rnl (rns f 0 n)).length k])] :: N) (lo := swa lo x.1 x.2.1) (hi := swb hi x.1 x.2.1) (tag := to) hu1 (by omega)
      have l2 := jn_len (jn R (x.1, swa lo x.1 x.2.1, x.2.2)) (swa lo x.1 x.2.1, swb hi x.1 x.2.1, to)
      refine sa ?_
      refine snf ?_
      refine csr ?_
      refine sm ?_
      refine sm ?_
      refine sm ?_
      refine sm ?_
      refine sy (y_build Tryz.tab rfl rfl rfl rfl rfl) ?_
      refine sk Tryz.call68 j2 fun y => ?_
      obtain ⟨⟨u2, d2⟩, hu2⟩ := y
      dsimp only at hu2 ⊢
      have j3 := rjoin_spec (W := W) (N := [(b18, row 26 [.int .i64 (x.1 : Nat), .int .i64 (x.2.1 : Nat), .int .i64 (x.2.2 : Nat)])] :: [(b12, row 37 [.int .i64 0, .slice none 0 0])] :: [(b6, row 37 [.int .i64 (n : Nat), .slice pa (rnl (rns f 0 n)).length k])] :: N) (lo := max (swa lo x.1 x.2.1) (swb hi x.1 x.2.1)) (hi := x.2.1) (tag := x.2.2) hu2 (by omega)
      rw [show ((max (swa lo x.1 x.2.1) (swb hi x.1 x.2.1) : Nat) : Int) = max ((swa lo x.1 x.2.1 : Nat) : Int) ((swb hi x.1 x.2.1 : Nat) : Int) by omega] at j3
      have l3 := jn_len (jn (jn R (x.1, swa lo x.1 x.2.1, x.2.2)) (swa lo x.1 x.2.1, swb hi x.1 x.2.1, to)) (max (swa lo x.1 x.2.1) (swb hi x.1 x.2.1), x.2.1, x.2.2)
      refine sa ?_
      refine snf ?_
      refine c_region ?_
      refine sm ?_
      refine sm ?_
      refine sm ?_
      refine sy (y_max rfl rfl) ?_
      refine sf 1 ?_
      refine slr 1 ?_
      refine sf 2 ?_
      refine slr 1 ?_
      refine sy (y_build Tryz.tab rfl rfl rfl rfl rfl) ?_
      refine sk Tryz.call68 j3 fun y => ?_
      obtain ⟨⟨u3, d3⟩, hu3⟩ := y
      dsimp only at hu3 ⊢
      refine sa ?_
      refine s_nil ?_
      refine f_blockN ?_
      refine f_then ?_
      refine c_region ?_
      refine sm ?_
      refine sy (y_add rfl rfl (by omega)) ?_
      refine sa ?_
      refine s_nil ?_
      rw [show (m : Int) + max 0 (((swb hi x.1 x.2.1 : Nat) : Int) - ((swa lo x.1 x.2.1 : Nat) : Int)) = ((m + (swb hi x.1 x.2.1 - swa lo x.1 x.2.1) : Nat) : Int) by omega]
      exact f_roundP (i + 1, x.2.1, m + (swb hi x.1 x.2.1 - swa lo x.1 x.2.1), u3, d3, jn (jn (jn R (x.1, swa lo x.1 x.2.1, x.2.2)) (swa lo x.1 x.2.1, swb hi x.1 x.2.1, to)) (max (swa lo x.1 x.2.1) (swb hi x.1 x.2.1), x.2.1, x.2.2)) ⟨c, q5, hc, by dsimp only; omega, hu3, by dsimp only; omega⟩ (by dsimp only; omega) ⟨rfl, rfl, rfl, rfl, rfl, rfl, rfl, rfl, rfl, rfl, trivial⟩ (fun w h => h.dropAt 1)
    · rw [if_neg ct] at hc
      refine c_seq ?_
      refine csr ?_
      refine sm ?_
      refine sf 1 ?_
      refine slr 2 ?_
      refine sy (y_lenE Tryz.tab rfl (hV2) rfl) ?_
      refine sy (y_T (y_lss rfl rfl) (by omega)) ?_
      refine snf ?_
      refine c_condT rfl ?_
      refine c_skip ?_
      refine f_then ?_
      refine c_seq ?_
      refine c_block ?_
      refine csr ?_
      refine sf 1 ?_
      refine slr 2 ?_
      refine sm ?_
      refine sy (y_ixE Tryz.tab rfl rfl rfl rfl (hV2) _ rfl (by omega)) ?_
      refine sy (y_loadA Tryz.tab rfl rfl rfl rfl hcx) ?_
      refine sal fun b18 => ?_
      refine ss (set_box Tryz.tab 0 rfl rfl rfl rfl rfl rfl rfl) ?_
      refine snf ?_
      refine c_seq ?_
      refine c_quiet Tryz.mixed (by kernel_rfl) K.drew ?_
      refine q_y (y_fieldAddr0 Tryz.tab rfl rfl rfl rfl rfl) rfl rfl rfl ?_
      refine q_y (y_load Tryz.tab rfl rfl (cell_row 0 rfl rfl)) rfl rfl rfl ?_
      refine q_y (y_move rfl) rfl rfl rfl ?_
      refine q_y (y_fieldAddrB Tryz.tab 1 rfl rfl rfl rfl rfl) rfl rfl rfl ?_
      refine q_y (y_load Tryz.tab rfl rfl (cell_row 0 rfl rfl)) rfl rfl rfl ?_
      refine q_y (y_min rfl rfl) rfl rfl rfl ?_
      refine q_y (y_max rfl rfl) rfl rfl rfl ?_
      refine q_y (y_fieldAddrB Tryz.tab 1 rfl rfl rfl rfl rfl) rfl rfl rfl ?_
      refine q_y (y_load Tryz.tab rfl rfl (cell_row 0 rfl rfl)) rfl rfl rfl ?_
      refine q_y (y_move rfl) rfl rfl rfl ?_
      refine q_y (y_fieldAddr0 Tryz.tab rfl rfl rfl rfl rfl) rfl rfl rfl ?_
      refine q_y (y_load Tryz.tab rfl rfl (cell_row 0 rfl rfl)) rfl rfl rfl ?_
      refine q_y (y_max rfl rfl) rfl rfl rfl ?_
      refine q_y (y_min rfl rfl) rfl rfl rfl ?_
      refine q_y (y_assign rfl) rfl rfl rfl ?_
      refine q_y (y_assign rfl) rfl rfl rfl ?_
      refine q_nil ?_
      refine f_then ?_
      refine csr ?_
      refine sf 2 ?_
      refine slr 0 ?_
      refine sa ?_
      refine snf ?_
      refine c_seq ?_
      refine csr ?_
      refine sm ?_
      refine sm ?_
      refine sf 2 ?_
      refine slr 0 ?_
      refine sm ?_
      refine sy (y_F (y_eql rfl rfl) (by omega)) ?_
      refine spF ?_
      refine snf ?_
      refine c_condF rfl ?_
      refine c_skip ?_
      refine f_then ?_
      refine csr ?_
      refine sm ?_
      refine sf0 ?_
      refine slr 0 ?_
      refine sm ?_
      refine sf 2 ?_
      refine slr 0 ?_
      refine sy (y_build Tryz.tab rfl rfl rfl rfl rfl) ?_
      rw [ea, eb]
      skip
      refine St.cls (C' := K W (d :: [(b18, row 26 [.int .i64 (x.1 : Nat), .int .i64 (x.2.1 : Nat), .int .i64 (x.2.2 : Nat)])] :: [(b12, row 37 [.int .i64 0, .slice none 0 0])] :: [(b6, row 37 [.int .i64 (n : Nat), .slice pa (rnl (rns f 0 n)).length k])] :: N)) ?_ (fun w h => K.front 1 h)
      refine sk Tryz.call68 j1 fun y => ?_
      obtain ⟨⟨u1, d1⟩, hu1⟩ := y
      dsimp only at hu1 ⊢
      have j2 := rjoin_spec (W := W) (N := [(b18, row 26 [.int .i64 (x.1 : Nat), .int .i64 (x.2.1 : Nat), .int .i64 (x.2.2 : Nat)])] :: [(b12, row 37 [.int .i64 0, .slice none 0 0])] :: [(b6, row 37 [.int .i64 (n : Nat), .slice pa (rnl (rns f 0 n)).length k])] :: N) (lo := swa lo x.1 x.2.1) (hi := swb hi x.1 x.2.1) (tag := x.2.2) hu1 (by omega)
      have l2 := jn_len (jn R (x.1, swa lo x.1 x.2.1, x.2.2)) (swa lo x.1 x.2.1, swb hi x.1 x.2.1, x.2.2)
      refine sa ?_
      refine snf ?_
      refine csr ?_
      refine sm ?_
      refine sm ?_
      refine sm ?_
      refine sm ?_
      refine sy (y_build Tryz.tab rfl rfl rfl rfl rfl) ?_
      refine sk Tryz.call68 j2 fun y => ?_
      obtain ⟨⟨u2, d2⟩, hu2⟩ := y
      dsimp only at hu2 ⊢
      have j3 := rjoin_spec (W := W) (N := [(b18, row 26 [.int .i64 (x.1 : Nat), .int .i64 (x.2.1 : Nat), .int .i64 (x.2.2 : Nat)])] :: [(b12, row 37 [.int .i64 0, .slice none 0 0])] :: [(b6, row 37 [.int .i64 (n : Nat), .slice pa (rnl (rns f 0 n)).length k])] :: N) (lo := max (swa lo x.1 x.2.1) (swb hi x.1 x.2.1)) (hi := x.2.1) (tag := x.2.2) hu2 (by omega)
      rw [show ((max (swa lo x.1 x.2.1) (swb hi x.1 x.2.1) : Nat) : Int) = max ((swa lo x.1 x.2.1 : Nat) : Int) ((swb hi x.1 x.2.1 : Nat) : Int) by omega] at j3
      have l3 := jn_len (jn (jn R (x.1, swa lo x.1 x.2.1, x.2.2)) (swa lo x.1 x.2.1, swb hi x.1 x.2.1, x.2.2)) (max (swa lo x.1 x.2.1) (swb hi x.1 x.2.1), x.2.1, x.2.2)
      refine sa ?_
      refine snf ?_
      refine c_region ?_
      refine sm ?_
      refine sm ?_
      refine sm ?_
      refine sy (y_max rfl rfl) ?_
      refine sf 1 ?_
      refine slr 1 ?_
      refine sf 2 ?_
      refine slr 1 ?_
      refine sy (y_build Tryz.tab rfl rfl rfl rfl rfl) ?_
      refine sk Tryz.call68 j3 fun y => ?_
      obtain ⟨⟨u3, d3⟩, hu3⟩ := y
      dsimp only at hu3 ⊢
      refine sa ?_
      refine s_nil ?_
      refine f_blockN ?_
      refine f_then ?_
      refine c_region ?_
      refine sm ?_
      refine sy (y_add rfl rfl (by omega)) ?_
      refine sa ?_
      refine s_nil ?_
      exact f_roundP (i + 1, x.2.1, m, u3, d3, jn (jn (jn R (x.1, swa lo x.1 x.2.1, x.2.2)) (swa lo x.1 x.2.1, swb hi x.1 x.2.1, x.2.2)) (max (swa lo x.1 x.2.1) (swb hi x.1 x.2.1), x.2.1, x.2.2)) ⟨c, q5, hc, by dsimp only; omega, hu3, by dsimp only; omega⟩ (by dsimp only; omega) ⟨rfl, rfl, rfl, rfl, rfl, rfl, rfl, rfl, rfl, rfl, trivial⟩ (fun w h => h.dropAt 1)
  · obtain rfl : i = (rns f 0 n).length := by omega
    rw [List.drop_length] at g2
    obtain rfl : at_ = n := g2
    have hRl : R.length ≤ 4096 := by rw [g3.eq, rns_len]; exact h5
    obtain ⟨pu, ku, rfl, _, _⟩ := (g5.view (C := K W (d :: N)) (Hs.at 0 rfl)).view
    refine c_seq ?_
    refine csr ?_
    refine sm ?_
    refine sf 1 ?_
    refine slr 2 ?_
    refine sy (y_lenE Tryz.tab rfl (hV2) rfl) ?_
    refine sy (y_F (y_lss rfl rfl) (by omega)) ?_
    refine snf ?_
    refine c_condF rfl ?_
    refine c_exit ?_
    refine f_thenE ?_
    refine f_rndE ?_
    refine f_blockE ?_
    refine f_then ?_
    refine csr ?_
    refine sy (y_loadA Tryz.tab rfl rfl rfl rfl (cells_row0 2 rfl rfl)) ?_
    refine sm ?_
    refine sk Tryz.call72 (full_spec g5 hRl) fun _ => ?_
    refine sm ?_
    refine sx ?_
    refine sx ?_
    refine sal fun b22 => ?_
    refine ss (set_box Tryz.tab 0 rfl rfl rfl rfl rfl rfl rfl) ?_
    refine sa ?_
    refine snf ?_
    refine c_seq ?_
    refine csr ?_
    refine sm ?_
    refine sy (y_F (y_neq rfl rfl) (by omega)) ?_
    refine snf ?_
    refine c_condF rfl ?_
    refine c_skip ?_
    refine f_then ?_
    refine csr ?_
    refine sy (y_loadA Tryz.tab rfl rfl rfl rfl (cells_row0 0 rfl rfl)) ?_
    refine sm ?_
    refine ss (set_box Tryz.tab 2 rfl rfl rfl rfl rfl rfl rfl) ?_
    refine sa ?_
    refine sa ?_
    refine snf ?_
    refine c_ret ?_
    exact f_ret ⟨(_, d, m), g5.of (by rw [g3.eq])⟩ (resA12 Tryz.tab rfl rfl rfl rfl rfl rfl rfl (cells_row0 2 rfl rfl)) (fun w h => (h.tail.dropAt 1).dropAt 1)
end
section
variable {W : World} {N : List Chunk} {a b : Value} {R R' : List Rn}
theorem rnc_inj {x y : Rn} (h : rnc x = rnc y) : x = y := by
  unfold rnc at h
  simp only [List.cons.injEq, Value.int.injEq, true_and, and_true] at h
  exact Prod.ext (by omega) (Prod.ext (by omega) (by omega))
set_option maxRecDepth 10000 in
set_option maxHeartbeats 4000000 in
theorem alike_spec (hA : EV (K W N) a 3 (rnl R)) (hB : EV (K W N) b 3 (rnl R')) (hl : R.length < 1000000) : Spec Tryz.prog 34 #[a, b] (K W N) (fun _ : Unit => .bool (decide (R = R'))) (fun _ => K W N) := by
  have hla : (rnl R).length = R.length := List.length_map _
  have hlb : (rnl R').length = R'.length := List.length_map _
  refine enter (args := [_, _]) Tryz.func34 rfl Tryz.ntmps34 rfl ?_
  by_cases c0 : R.length = R'.length
  · refine csr ?_
    refine sa ?_
    refine snf ?_
    refine c_seq ?_
    refine csr ?_
    refine sm ?_
    refine sy (y_lenE Tryz.tab rfl (hA) rfl) ?_
    refine sm ?_
    refine sy (y_lenE Tryz.tab rfl (hB) rfl) ?_
    refine sy (y_F (y_neq rfl rfl) (by omega)) ?_
    refine snf ?_
    refine c_condF rfl ?_
    refine c_skip ?_
    refine f_then ?_
    refine c_seq ?_
    refine csr ?_
    refine sa ?_
    refine snf ?_
    refine c_block ?_
    refine c_loopP (α := Nat) (fun z => [(0, a), (1, b), (5, .int .i64 (z : Nat))]) (fun z => z ≤ R.length ∧ R.take z = R'.take z) (fun _ => K W N) (fun z => R.length - z) 0 ⟨rfl, rfl, rfl, trivial⟩ ⟨Nat.zero_le _, rfl⟩ (fun w h => h) ?_
    rintro i ⟨g1, g2⟩
    by_cases c : i < R.length
    · obtain ⟨x, hx⟩ : ∃ x, R[i]? = some x := ⟨R[i], by rw [List.getElem?_eq_getElem]⟩
      obtain ⟨y, hy⟩ : ∃ y, R'[i]? = some y := ⟨R'[i]'(by omega), by rw [List.getElem?_eq_getElem]⟩
      have hcx : CellsAre (K W N) ⟨vblk a, voff a + i * 3, none⟩ [.int .i64 (x.1 : Nat), .int .i64 (x.2.1 : Nat), .int .i64 (x.2.2 : Nat)] := hA.row (rnl_get hx)
      have hcy : CellsAre (K W N) ⟨vblk b, voff b + i * 3, none⟩ [.int .i64 (y.1 : Nat), .int .i64 (y.2.1 : Nat), .int .i64 (y.2.2 : Nat)] := hB.row (rnl_get hy)
      by_cases e : x = y
      · subst e
        refine c_seq ?_
        refine csr ?_
        refine sm ?_
        refine sm ?_
        refine sy (y_lenE Tryz.tab rfl (hA) rfl) ?_
        refine sy (y_T (y_lss rfl rfl) (by omega)) ?_
        refine snf ?_
        refine c_condT rfl ?_
        refine c_skip ?_
        refine f_then ?_
        refine c_seq ?_
        refine c_block ?_
        refine c_seq ?_
        refine c_quiet Tryz.mixed (by kernel_rfl) K.drew ?_
        refine q_y (y_move rfl) rfl rfl rfl ?_
        refine q_y (y_move rfl) rfl rfl rfl ?_
        refine q_y (y_ixE Tryz.tab rfl rfl rfl rfl (hA) _ rfl (by omega)) rfl rfl rfl ?_
        refine q_y (y_loadA Tryz.tab rfl rfl rfl rfl hcx) rfl rfl rfl ?_
        refine q_y (y_move rfl) rfl rfl rfl ?_
        refine q_y (y_move rfl) rfl rfl rfl ?_
        refine q_y (y_ixE Tryz.tab rfl rfl rfl rfl (hB) _ rfl (by omega)) rfl rfl rfl ?_
        refine q_y (y_loadA Tryz.tab rfl rfl rfl rfl hcy) rfl rfl rfl ?_
        refine q_y (y_neqS Tryz.tab rfl rfl rfl (by kernel_rfl) (by kernel_rfl) rfl rfl) rfl rfl rfl ?_
        refine q_nil ?_
        refine f_then ?_
        refine c_cond rfl (fun h => by simp at h) (fun _ => ?_)
        refine c_skip ?_
        refine f_blockN ?_
        refine f_then ?_
        refine c_region ?_
        refine sm ?_
        refine sy (y_add rfl rfl (by omega)) ?_
        refine sa ?_
        refine s_nil ?_
        exact f_roundP (i + 1) ⟨c, by rw [List.take_add_one, List.take_add_one, g2, hx, hy]⟩ (by omega) ⟨rfl, rfl, rfl, trivial⟩ (fun w h => h)
      · have hne : ¬ R = R' := fun h => by
          rw [h, hy] at hx
          exact e (Option.some.inj hx).symm
        rw [decide_eq_false hne]
        refine c_seq ?_
        refine csr ?_
        refine sm ?_
        refine sm ?_
        refine sy (y_lenE Tryz.tab rfl (hA) rfl) ?_
        refine sy (y_T (y_lss rfl rfl) (by omega)) ?_
        refine snf ?_
        refine c_condT rfl ?_
        refine c_skip ?_
        refine f_then ?_
        refine c_seq ?_
        refine c_block ?_
        refine c_seq ?_
        refine c_quiet Tryz.mixed (by kernel_rfl) K.drew ?_
        refine q_y (y_move rfl) rfl rfl rfl ?_
        refine q_y (y_move rfl) rfl rfl rfl ?_
        refine q_y (y_ixE Tryz.tab rfl rfl rfl rfl (hA) _ rfl (by omega)) rfl rfl rfl ?_
        refine q_y (y_loadA Tryz.tab rfl rfl rfl rfl hcx) rfl rfl rfl ?_
        refine q_y (y_move rfl) rfl rfl rfl ?_
        refine q_y (y_move rfl) rfl rfl rfl ?_
        refine q_y (y_ixE Tryz.tab rfl rfl rfl rfl (hB) _ rfl (by omega)) rfl rfl rfl ?_
        refine q_y (y_loadA Tryz.tab rfl rfl rfl rfl hcy) rfl rfl rfl ?_
        refine q_y (y_neqS Tryz.tab rfl rfl rfl (by kernel_rfl) (by kernel_rfl) rfl rfl) rfl rfl rfl ?_
        refine q_nil ?_
        refine f_then ?_
        refine c_cond rfl (fun _ => ?_) (fun h => absurd (show rnc x = rnc y by simpa [rnc] using h) fun h2 => e (rnc_inj h2))
        refine csr ?_
        refine sa ?_
        refine snf ?_
        refine c_ret ?_
        refine f_blockR ?_
        refine f_thenR ?_
        refine f_rndR ?_
        refine f_blockR ?_
        refine f_thenR ?_
        exact f_ret () (res1 rfl rfl) (fun w h => h)
    · have he : R = R' := by
        rw [List.take_of_length_le (by omega), List.take_of_length_le (by omega)] at g2
        exact g2
      rw [decide_eq_true he]
      refine c_seq ?_
      refine csr ?_
      refine sm ?_
      refine sm ?_
      refine sy (y_lenE Tryz.tab rfl (hA) rfl) ?_
      refine sy (y_F (y_lss rfl rfl) (by omega)) ?_
      refine snf ?_
      refine c_condF rfl ?_
      refine c_exit ?_
      refine f_thenE ?_
      refine f_rndE ?_
      refine f_blockE ?_
      refine f_then ?_
      refine csr ?_
      refine sa ?_
      refine snf ?_
      refine c_ret ?_
      exact f_ret () (res1 rfl rfl) (fun w h => h)
  · rw [decide_eq_false (show ¬ R = R' from fun e => c0 (by rw [e]))]
    refine csr ?_
    refine sa ?_
    refine snf ?_
    refine c_seq ?_
    refine csr ?_
    refine sm ?_
    refine sy (y_lenE Tryz.tab rfl (hA) rfl) ?_
    refine sm ?_
    refine sy (y_lenE Tryz.tab rfl (hB) rfl) ?_
    refine sy (y_T (y_neq rfl rfl) (by omega)) ?_
    refine snf ?_
    refine c_condT rfl ?_
    refine csr ?_
    refine sa ?_
    refine snf ?_
    refine c_ret ?_
    refine f_thenR ?_
    exact f_ret () (res1 rfl rfl) (fun w h => h)
set_option maxRecDepth 10000 in
set_option maxHeartbeats 4000000 in
theorem runsEq_spec {p : Chunk} {mv lv : Value} {n : Nat} {f : Nat → Nat} (hM : MV p mv n f) (hnb : nbd f n ≤ 4096) (h : RMp (K W N) lv n f) : Spec Tryz.prog 24 #[.agg #[mv], .agg #[.int .i64 (n : Nat), lv]] (K W (p :: N)) (fun _ : Unit => .bool true) (fun _ => K W (p :: N)) := by
  have hV := h.v
  have hpos := h.pos
  obtain ⟨pa, k, rfl, _, _⟩ := hV.view
  obtain ⟨a, rfl⟩ := hM.ptr
  refine enter (args := [_, _]) Tryz.func24 rfl Tryz.ntmps24 rfl ?_
  refine csr ?_
  refine sbx fun b2 => ?_
  refine sbx fun b3 => ?_
  refine sa ?_
  refine snf ?_
  refine c_seq ?_
  refine SC.cls (C' := K W (p :: [(b3, row 37 [.int .i64 (n : Nat), .slice pa (rnl (rns f 0 n)).length k])] :: [(b2, row 29 [.pointer (some a)])] :: N)) ?_ (fun w h => K.front 2 h)
  refine c_plan [.c 0, .c 1, .s 2, .s 3, .c 4, .c 5, .c 6, .c 7, .c 8] [] ((K W [[(b3, row 37 [.int .i64 (n : Nat), .slice pa (rnl (rns f 0 n)).length k])], [(b2, row 29 [.pointer (some a)])]])) Tryz.mixed (by kernel_rfl) rfl K.cl ?_
  have hD := fun (w : World) (h : K W (p :: [(b3, row 37 [.int .i64 (n : Nat), .slice pa (rnl (rns f 0 n)).length k])] :: [(b2, row 29 [.pointer (some a)])] :: N) w) => h.tail.keep 2
  refine dy rfl (y_loadA Tryz.tab rfl rfl rfl rfl (cells_row0 1 rfl rfl)) hD ?_
  refine dy rfl (y_loadA Tryz.tab rfl rfl rfl rfl (cells_row0 1 rfl rfl)) hD ?_
  refine d_call rfl (en_f rfl Tryz.call36) (msize_spec hM) rfl rfl rfl (fun _ => K.cl) (fun _ _ _ h => h.tail.keep 2) (fun _ => ?_)
  skip
  refine d_call rfl (en_f rfl Tryz.call60) (mruns_spec (lo := 0) (most := 1048576) hM (Nat.zero_le _) (Nat.le_refl _) (by omega) hnb) rfl rfl rfl (fun _ => K.cl) (fun _ _ _ h => h.tail.tail.keep 2) (fun y => ?_)
  obtain ⟨⟨u, d⟩, hu⟩ := y
  have hu := bufR_runs hu
  dsimp only at hu ⊢
  clear hD
  have hD := fun (w : World) (h : K W (d :: p :: [(b3, row 37 [.int .i64 (n : Nat), .slice pa (rnl (rns f 0 n)).length k])] :: [(b2, row 29 [.pointer (some a)])] :: N) w) => h.tail.tail.keep 2
  refine dy rfl (y_move rfl) hD ?_
  refine dy rfl (y_extract rfl rfl) hD ?_
  refine dy rfl (y_extract rfl rfl) hD ?_
  refine dy rfl (y_assign rfl) hD ?_
  refine dy rfl (y_assign rfl) hD ?_
  refine d_nil ?_
  refine f_then ?_
  refine c_seq ?_
  refine SC.cls (C' := K W (p :: d :: [(b3, row 37 [.int .i64 (n : Nat), .slice pa (rnl (rns f 0 n)).length k])] :: [(b2, row 29 [.pointer (some a)])] :: N)) ?_ (fun w h => K.front 1 h)
  have hEu : EV (K W (p :: d :: [(b3, row 37 [.int .i64 (n : Nat), .slice pa (rnl (rns f 0 n)).length k])] :: [(b2, row 29 [.pointer (some a)])] :: N)) u 3 (rnl (rns f 0 n)) := hu.view (Hs.at 1 rfl)
  have hEl : EV (K W (p :: d :: [(b3, row 37 [.int .i64 (n : Nat), .slice pa (rnl (rns f 0 n)).length k])] :: [(b2, row 29 [.pointer (some a)])] :: N)) (.slice pa (rnl (rns f 0 n)).length k) 3 (rnl (rns f 0 n)) := hV.cons.cons.cons.cons
  have hal := alike_spec hEu hEl (by rw [rns_len]; omega)
  rw [decide_eq_true rfl] at hal
  clear hD
  have hD := fun (w : World) (h : K W (p :: d :: [(b3, row 37 [.int .i64 (n : Nat), .slice pa (rnl (rns f 0 n)).length k])] :: [(b2, row 29 [.pointer (some a)])] :: N) w) => h.tail.tail.keep 2
  refine c_plan [.c 0, .c 2, .c 3, .s 1, .c 4, .c 5, .c 6, .c 7, .c 8, .c 9, .c 10, .c 11, .c 12, .s 13, .c 14, .c 15] [] ((K W [[(b3, row 37 [.int .i64 (n : Nat), .slice pa (rnl (rns f 0 n)).length k])], [(b2, row 29 [.pointer (some a)])]])) Tryz.mixed (by kernel_rfl) rfl K.cl ?_
  refine dy rfl (y_loadA Tryz.tab rfl rfl rfl rfl (cells_row0 1 rfl rfl)) hD ?_
  refine dy rfl (y_fieldAddr0 Tryz.tab rfl rfl rfl rfl rfl) hD ?_
  refine dy rfl (y_load Tryz.tab rfl rfl (cell_row 0 rfl rfl)) hD ?_
  refine d_call rfl (en_f rfl Tryz.call36) (msize_spec hM) rfl rfl rfl (fun _ => K.cl) (fun _ _ _ h => h.tail.tail.keep 2) (fun _ => ?_)
  refine dy rfl (y_T (y_eql rfl rfl) (by omega)) hD ?_
  refine dy rfl (y_move rfl) hD ?_
  refine dy rfl (y_move rfl) hD ?_
  refine dy rfl (y_T (y_eql rfl rfl) (by omega)) hD ?_
  refine dy rfl (y_pickT rfl rfl) hD ?_
  refine dy rfl (y_move rfl) hD ?_
  refine dy rfl (y_move rfl) hD ?_
  refine dy rfl (y_fieldAddrB Tryz.tab 1 rfl rfl rfl rfl rfl) hD ?_
  refine dy rfl (y_load Tryz.tab rfl rfl (cell_row 0 rfl rfl)) hD ?_
  refine d_call rfl (en_f rfl Tryz.call34) hal rfl rfl rfl (fun _ => K.cl) (fun _ _ _ h => h.tail.tail.keep 2) (fun _ => ?_)
  refine dy rfl (y_pickT rfl rfl) hD ?_
  refine dy rfl (y_assign rfl) hD ?_
  refine d_nil ?_
  refine f_then ?_
  refine c_ret ?_
  exact f_ret () (res1 rfl rfl) (fun w h => ((h.dropAt 1).dropAt 1).dropAt 1)
end
end Go.KL
end

section
/- What always holds of a book, and its changes; plain. No program in sight. -/
namespace Go.KL
theorem cfl_iff {a b : Lk} : cfl a b = true ↔ a.tx ≠ b.tx ∧ (a.wr = true ∨ b.wr = true) ∧ max a.lo b.lo < min a.hi b.hi := by
  simp [cfl]
theorem cfl_comm (a b : Lk) : cfl a b = cfl b a := by
  have : cfl a b = true ↔ cfl b a = true := by
    rw [cfl_iff, cfl_iff]
    constructor
    · rintro ⟨h1, h2, h3⟩; exact ⟨fun e => h1 e.symm, h2.symm, by omega⟩
    · rintro ⟨h1, h2, h3⟩; exact ⟨fun e => h1 e.symm, h2.symm, by omega⟩
  cases h : cfl a b with
  | true => exact (this.1 h).symm
  | false =>
    cases h2 : cfl b a with
    | true => exact absurd (this.2 h2) (by rw [h]; decide)
    | false => rfl
theorem cfl_self {a b : Lk} (h : a.tx = b.tx) : cfl a b = false := by
  cases c : cfl a b with
  | true => exact absurd h (cfl_iff.1 c).1
  | false => rfl
theorem Hold.mono {L M : List Lk} {lo hi : Nat} {wr : Bool} (h : Hold L lo hi wr) (hs : ∀ x ∈ L, x ∈ M) : Hold M lo hi wr := fun i h1 h2 => by
  obtain ⟨x, hx, hx2⟩ := h i h1 h2
  exact ⟨x, hs x hx, hx2⟩
theorem Hold.last {L : List Lk} {k lo hi : Nat} {wr : Bool} : Hold (L ++ [⟨k, lo, hi, wr⟩]) lo hi wr := fun i h1 h2 =>
  ⟨⟨k, lo, hi, wr⟩, List.mem_append_right _ (List.mem_singleton.2 rfl), by cases wr <;> simp, h1, h2⟩
theorem Hold.ne {L : List Lk} {lo hi : Nat} {wr : Bool} (h : ¬ Hold L lo hi wr) : lo < hi := by
  rcases Nat.lt_or_ge lo hi with c | c
  · exact c
  · exact absurd (fun i h1 h2 => by omega) h
theorem sum_filter {f : Nat → Nat} {k : Nat} : ∀ {l : List Nat}, ((l.filter fun j => !decide (j = k)).map f).sum ≤ (l.map f).sum ∧ (k ∈ l → ((l.filter fun j => !decide (j = k)).map f).sum + f k ≤ (l.map f).sum)
  | [] => by simp
  | a :: l => by
    obtain ⟨h1, h2⟩ := sum_filter (f := f) (k := k) (l := l)
    rw [List.filter_cons, List.map_cons, List.sum_cons]
    by_cases c : a = k
    · subst c
      simp only [decide_true, Bool.not_true, Bool.false_eq_true, if_false]
      exact ⟨by omega, fun _ => by omega⟩
    · rw [if_pos (by simp [c]), List.map_cons, List.sum_cons]
      refine ⟨by omega, fun h => ?_⟩
      rcases List.mem_cons.1 h with h | h
      · exact absurd h.symm c
      · have := h2 h
        omega
theorem sum_congr {f g : Nat → Nat} {l : List Nat} (h : ∀ k ∈ l, f k = g k) : (l.map f).sum = (l.map g).sum := by rw [List.map_congr_left h]
theorem sum_mem {f : Nat → Nat} {k : Nat} : ∀ {l : List Nat}, k ∈ l → f k ≤ (l.map f).sum
  | [], h => by simp at h
  | a :: l, h => by
    rw [List.map_cons, List.sum_cons]
    rcases List.mem_cons.1 h with rfl | h
    · omega
    · have := sum_mem (f := f) h
      omega
theorem nodup_len {l : List Nat} : ∀ {m : List Nat}, l.Nodup → (∀ x ∈ l, x ∈ m) → l.length ≤ m.length := by
  induction l with
  | nil => intro m _ _; exact Nat.zero_le _
  | cons a l ih =>
    intro m hn hs
    obtain ⟨n1, n2⟩ := List.nodup_cons.1 hn
    have h1 := ih (m := m.filter fun j => !decide (j = a)) n2 fun x hx => List.mem_filter.2 ⟨hs x (List.mem_cons_of_mem _ hx), by simp; exact fun e => n1 (e ▸ hx)⟩
    have h2 := Bk.filter_lt (hs a (List.mem_cons_self ..))
    rw [List.length_cons]
    omega
theorem sum_one {f g : Nat → Nat} {k d : Nat} : ∀ {l : List Nat}, l.Nodup → k ∈ l → g k = f k + d → (∀ j ∈ l, j ≠ k → g j = f j) → (l.map g).sum = (l.map f).sum + d
  | [], _, h, _, _ => by simp at h
  | a :: l, hn, h, e, h2 => by
    obtain ⟨n1, n2⟩ := List.nodup_cons.1 hn
    rw [List.map_cons, List.sum_cons, List.map_cons, List.sum_cons]
    rcases List.mem_cons.1 h with rfl | h
    · rw [e, sum_congr (f := g) (g := f) (l := l) fun j hj => h2 j (List.mem_cons_of_mem _ hj) fun c => n1 (c ▸ hj)]
      omega
    · rw [sum_one n2 h e fun j hj => h2 j (List.mem_cons_of_mem _ hj), h2 a (List.mem_cons_self ..) fun c => n1 (c ▸ h)]
      omega
namespace Bk
theorem has_set {A : Bk} {k j : Nat} {t : Tx} : (A.setT k t).has j ↔ A.has j := by
  unfold Bk.has Bk.setT
  simp
theorem tx_set {A : Bk} {k j : Nat} {t : Tx} (hk : A.has k) (hj : A.has j) : (A.setT k t).tx j = if j = k then t else A.tx j := by
  unfold Bk.has at hk hj
  unfold Bk.tx Bk.setT
  rw [List.getD_eq_getElem?_getD, List.getD_eq_getElem?_getD, List.getElem?_set]
  by_cases c : j = k
  · subst c
    rw [if_pos rfl, if_pos rfl, if_pos (by omega)]
    rfl
  · rw [if_neg (by omega), if_neg c]
theorem mem_tx {A : Bk} {t : Tx} (h : t ∈ A.ts) : ∃ k, A.has k ∧ A.tx k = t := by
  obtain ⟨i, hi, rfl⟩ := List.mem_iff_getElem.1 h
  refine ⟨i + 1, ⟨by omega, by omega⟩, ?_⟩
  unfold Bk.tx
  rw [List.getD_eq_getElem?_getD, Nat.add_sub_cancel, List.getElem?_eq_getElem hi]
  rfl
structure Inv (A : Bk) (b : Nat) : Prop where
  sz : 0 < A.size ∧ A.size ≤ 1099511627776
  rn : ∀ k, k ∈ A.rn ↔ A.has k ∧ ((A.tx k).st = 1 ∨ (A.tx k).st = 2)
  rnd : A.rn.Nodup
  rnl : A.rn.length ≤ 64
  q : ∀ k, k ∈ A.q ↔ A.has k ∧ (A.tx k).st = 2
  qnd : A.q.Nodup
  st : ∀ k, A.has k → (A.tx k).st = 1 ∨ (A.tx k).st = 2 ∨ (A.tx k).st = 3 ∨ (A.tx k).st = 4
  off : ∀ k, A.has k → k ∉ A.rn → (A.tx k).locks = [] ∧ (A.tx k).ops = []
  lk : ∀ k, A.has k → ∀ x ∈ (A.tx k).locks, x.tx = k ∧ x.lo < x.hi ∧ x.hi ≤ A.size
  rq : ∀ k ∈ A.q, (A.tx k).req.tx = k ∧ (A.tx k).req.lo < (A.tx k).req.hi ∧ (A.tx k).req.hi ≤ A.size
  cnt : A.count ≤ 1024
  fr : ∀ j ∈ A.rn, ∀ k ∈ A.rn, ∀ x ∈ (A.tx j).locks, ∀ y ∈ (A.tx k).locks, cfl x y = false
  held : ∀ k ∈ A.rn, ∀ o ∈ (A.tx k).ops, Hold (A.tx k).locks o.lo o.hi o.mv
  rep : ∀ k ∈ A.rn, Rep A.size A.C (A.tx k).ops
  wU : ∀ i, (∀ k ∈ A.rn, ¬ tch (A.tx k).ops i) → A.W i = A.C i
  wT : ∀ k ∈ A.rn, ∀ i, tch (A.tx k).ops i → A.W i = ap A.C (A.tx k).ops i
  rm : nbd A.C A.size + 2 * A.moves ≤ 4096
  ol : ∀ k, A.has k → (A.tx k).ops.length ≤ b
variable {A : Bk} {b : Nat}
theorem Inv.has (h : A.Inv b) {k : Nat} (hk : k ∈ A.rn) : A.has k := ((h.rn k).1 hk).1
theorem Inv.qhas (h : A.Inv b) {k : Nat} (hk : k ∈ A.q) : A.has k := ((h.q k).1 hk).1
theorem Inv.qrn (h : A.Inv b) {k : Nat} (hk : k ∈ A.q) : k ∈ A.rn := (h.rn k).2 ⟨h.qhas hk, .inr ((h.q k).1 hk).2⟩
theorem Inv.ql (h : A.Inv b) : A.q.length ≤ 64 := Nat.le_trans (nodup_len h.qnd fun _ hx => h.qrn hx) h.rnl
theorem Inv.mono (h : A.Inv b) {c : Nat} (hc : b ≤ c) : A.Inv c := { h with ol := fun k hk => Nat.le_trans (h.ol k hk) hc }
theorem Inv.tsz (h : A.Inv b) {k i : Nat} (hk : k ∈ A.rn) (ht : tch (A.tx k).ops i) : ∃ x ∈ (A.tx k).locks, x.wr = true ∧ x.lo ≤ i ∧ i < x.hi := by
  obtain ⟨o, ho, hm, h1, h2⟩ := ht
  obtain ⟨x, hx, h3, h4⟩ := h.held k hk o ho i h1 h2
  refine ⟨x, hx, ?_, h4⟩
  rw [hm] at h3
  simpa using h3
theorem Inv.apart (h : A.Inv b) {j k i : Nat} (hj : j ∈ A.rn) (hk : k ∈ A.rn) (hne : j ≠ k) (ht : tch (A.tx j).ops i) {x : Lk} (hx : x ∈ (A.tx k).locks) : ¬ (x.lo ≤ i ∧ i < x.hi) := fun hi => by
  obtain ⟨y, hy, hw, h1, h2⟩ := h.tsz hj ht
  have := h.fr j hj k hk y hy x hx
  rw [← Bool.not_eq_true, cfl_iff] at this
  refine this ⟨?_, .inl hw, by omega⟩
  rw [(h.lk j (h.has hj) y hy).1, (h.lk k (h.has hk) x hx).1]
  exact hne
theorem Inv.disj (h : A.Inv b) {j k i : Nat} (hj : j ∈ A.rn) (hk : k ∈ A.rn) (hne : j ≠ k) : ¬ (tch (A.tx j).ops i ∧ tch (A.tx k).ops i) := fun ⟨h1, h2⟩ => by
  obtain ⟨x, hx, _, h3⟩ := h.tsz hk h2
  exact h.apart hj hk hne h1 hx h3
theorem Inv.view (h : A.Inv b) {k i : Nat} (hk : k ∈ A.rn) {x : Lk} (hx : x ∈ (A.tx k).locks) (hi : x.lo ≤ i ∧ i < x.hi) : A.W i = ap A.C (A.tx k).ops i := by
  by_cases c : tch (A.tx k).ops i
  · exact h.wT k hk i c
  · rw [ap_not c]
    refine h.wU i fun j hj ht => ?_
    by_cases e : j = k
    · rw [e] at ht; exact c ht
    · exact h.apart hj hk e ht hx hi
theorem Inv.view' (h : A.Inv b) {k lo hi : Nat} {wr : Bool} (hk : k ∈ A.rn) (hh : Hold (A.tx k).locks lo hi wr) {i : Nat} (h1 : lo ≤ i) (h2 : i < hi) : A.W i = ap A.C (A.tx k).ops i := by
  obtain ⟨x, hx, _, h3⟩ := hh i h1 h2
  exact h.view hk hx h3
theorem Inv.pw (h : A.Inv b) (f : Nat → List Oa) (hf : ∀ k ∈ A.rn, ∀ i, tch (f k) i → tch (A.tx k).ops i) : (A.rn.map f).Pairwise (fun a b => ∀ i, ¬ (tch a i ∧ tch b i)) := by
  rw [List.pairwise_map]
  refine h.rnd.imp_of_mem fun {j k} hj hk hne i ⟨h1, h2⟩ => h.disj hj hk hne ⟨hf j hj i h1, hf k hk i h2⟩
theorem Inv.pw1 (h : A.Inv b) (f : Nat → List Oa) (hf : ∀ k ∈ A.rn, ∀ i, tch (f k) i → tch (A.tx k).ops i) (i : Nat) : (A.rn.map f).Pairwise (fun a b => ¬ (tch a i ∧ tch b i)) := (h.pw f hf).imp fun hx => hx i
theorem Inv.nbd (h : A.Inv b) (f : Nat → List Oa) (hf : ∀ k ∈ A.rn, ∀ i, tch (f k) i → tch (A.tx k).ops i) (hm : ∀ k ∈ A.rn, mvs (f k) ≤ mvs (A.tx k).ops) {V : Nat → Nat} (h1 : ∀ i, (∀ k ∈ A.rn, ¬ tch (f k) i) → V i = A.C i) (h2 : ∀ k ∈ A.rn, ∀ i, tch (f k) i → V i = ap A.C (f k) i) : KL.nbd V A.size ≤ KL.nbd A.C A.size + 2 * A.moves := by
  have e : V = Wf A.C (A.rn.map f) := by
    funext i
    by_cases c : ∀ k ∈ A.rn, ¬ tch (f k) i
    · rw [h1 i c, Wf_not fun l hl => by
        obtain ⟨k, hk, rfl⟩ := List.mem_map.1 hl
        exact c k hk]
    · obtain ⟨k, hk, ht⟩ : ∃ k, k ∈ A.rn ∧ tch (f k) i := by
        refine Classical.byContradiction fun hn => c fun k hk ht => hn ⟨k, hk, ht⟩
      rw [h2 k hk i ht, Wf_tch (h.pw1 f hf i) (List.mem_map.2 ⟨k, hk, rfl⟩) ht]
  rw [e]
  refine Nat.le_trans (nbd_Wf _ _ _) ?_
  have : ∀ l : List Nat, (∀ k ∈ l, mvs (f k) ≤ mvs (A.tx k).ops) → ((l.map f).map mvs).sum ≤ (l.map fun k => mvs (A.tx k).ops).sum := by
    intro l
    induction l with
    | nil => intro _; simp
    | cons a l ih =>
      intro hl
      have h3 := ih fun k hk => hl k (List.mem_cons_of_mem _ hk)
      have h4 := hl a (List.mem_cons_self ..)
      simp only [List.map_cons, List.sum_cons]
      omega
  have h5 := this A.rn hm
  unfold Bk.moves
  omega
theorem Inv.nbdW (h : A.Inv b) : KL.nbd A.W A.size ≤ KL.nbd A.C A.size + 2 * A.moves := h.nbd (fun k => (A.tx k).ops) (fun _ _ _ h => h) (fun _ _ => Nat.le_refl _) h.wU h.wT
theorem Inv.nbdU (h : A.Inv b) {k : Nat} (hk : A.has k) (n : Nat) : KL.nbd (KL.un A.W ((A.tx k).ops.drop n)) A.size ≤ 4096 := by
  by_cases hr : k ∈ A.rn
  · refine Nat.le_trans (h.nbd (fun j => if j = k then (A.tx k).ops.take n else (A.tx j).ops) (fun j _ i ht => ?_) (fun j _ => ?_) (fun i hi => ?_) (fun j hj i ht => ?_)) h.rm
    · by_cases e : j = k
      · subst e
        simp only [if_true] at ht
        obtain ⟨o, ho, h2⟩ := ht
        exact ⟨o, List.mem_of_mem_take ho, h2⟩
      · simp only [if_neg e] at ht
        exact ht
    · split
      · rename_i e
        subst e
        exact mvs_tk _ _
      · exact Nat.le_refl _
    · have h0 := hi k hr
      simp only [if_true] at h0
      by_cases c : tch ((A.tx k).ops.drop n) i
      · rw [((h.rep k hr).drop n).un c, ap_not h0]
      · rw [un_not c]
        refine h.wU i fun j hj ht => ?_
        by_cases e : j = k
        · subst e
          rw [← List.take_append_drop n (A.tx j).ops] at ht
          exact (tch.app.1 ht).elim h0 c
        · have := hi j hj
          simp only [if_neg e] at this
          exact this ht
    · by_cases e : j = k
      · subst e
        simp only [if_true] at ht ⊢
        by_cases c : tch ((A.tx j).ops.drop n) i
        · exact ((h.rep j hr).drop n).un c
        · rw [un_not c, h.wT j hr i (by rw [← List.take_append_drop n (A.tx j).ops]; exact tch.app.2 (.inl ht))]
          conv => lhs; rw [← List.take_append_drop n (A.tx j).ops, ap_app, ap_not c]
      · simp only [if_neg e] at ht ⊢
        rw [un_not fun c => ?_, h.wT j hj i ht]
        refine h.disj hj hr e ⟨ht, ?_⟩
        obtain ⟨o, ho, h2⟩ := c
        exact ⟨o, List.mem_of_mem_drop ho, h2⟩
  · rw [(h.off k hk hr).2, List.drop_nil]
    exact Nat.le_trans h.nbdW h.rm
theorem Inv.good (h : A.Inv b) (hb : b < 100000) : A.Good := by
  refine ⟨h.rnl, h.ql, fun k hk hs => (h.q k).2 ⟨hk, hs⟩, fun t ht => ?_, fun t ht => ?_, fun t ht => ?_⟩
  · obtain ⟨k, hk, rfl⟩ := mem_tx ht
    refine ⟨?_, fun x hx => ?_⟩
    · by_cases hr : k ∈ A.rn
      · have h1 := h.cnt
        have h2 := sum_mem (f := fun k => (A.tx k).locks.length) hr
        unfold Bk.count at h1
        omega
      · rw [(h.off k hk hr).1]
        exact Nat.zero_le _
    · have h1 := h.lk k hk x hx
      have h2 := h.sz
      omega
  · obtain ⟨k, hk, rfl⟩ := mem_tx ht
    have := h.ol k hk
    omega
  · obtain ⟨k, hk, rfl⟩ := mem_tx ht
    refine ⟨fun o ho _ => ?_, fun n => h.nbdU hk n⟩
    by_cases hr : k ∈ A.rn
    · obtain ⟨g, hg⟩ := (h.rep k hr).mem ho
      exact ⟨hg.rng.1, hg.rng.2, hg.tag.1⟩
    · rw [(h.off k hk hr).2] at ho
      simp at ho
theorem Inv.apOK (h : A.Inv b) {k : Nat} (hk : A.has k) : ApOK A.size A.C (A.tx k).ops := by
  by_cases hr : k ∈ A.rn
  · refine ⟨fun o ho _ => ?_, fun n => ?_⟩
    · obtain ⟨g, hg⟩ := (h.rep k hr).mem ho
      exact ⟨hg.rng.1, hg.rng.2, hg.tag.2⟩
    · have h1 := nbd_ap A.size ((A.tx k).ops.take n) A.C
      have h2 := mvs_tk (A.tx k).ops n
      have h3 := sum_mem (f := fun k => mvs (A.tx k).ops) hr
      have h4 := h.rm
      unfold Bk.moves at h4
      omega
  · rw [(h.off k hk hr).2]
    refine ⟨fun o ho => by simp at ho, fun n => ?_⟩
    have := h.rm
    rw [List.take_nil]
    show KL.nbd A.C A.size ≤ 4096
    omega
end Bk
end Go.KL
end

section
/- Ending a transaction and examining the queue keep what always holds; plain. No program in sight. -/
namespace Go.KL
theorem tw_in {i : Nat} {b : List Nat} : ∀ {a : List Nat}, i ∈ a → (a ++ b).takeWhile (fun j => !decide (j = i)) = a.takeWhile (fun j => !decide (j = i))
  | [], h => by simp at h
  | x :: a, h => by
    rw [List.cons_append, List.takeWhile_cons, List.takeWhile_cons]
    by_cases c : x = i
    · simp [c]
    · rw [if_pos (by simp [c]), if_pos (by simp [c]), tw_in ((List.mem_cons.1 h).resolve_left fun e => c e.symm)]
theorem tw_out {i : Nat} {b : List Nat} : ∀ {a : List Nat}, i ∉ a → (a ++ b).takeWhile (fun j => !decide (j = i)) = a ++ b.takeWhile (fun j => !decide (j = i))
  | [], _ => rfl
  | x :: a, h => by
    rw [List.cons_append, List.takeWhile_cons, if_pos (by simp; intro e; exact h (e ▸ List.mem_cons_self ..)), tw_out fun c => h (List.mem_cons_of_mem _ c)]
    rfl
theorem tw_filter {i k : Nat} (hne : i ≠ k) : ∀ {q : List Nat}, ∀ j ∈ (q.filter fun j => !decide (j = k)).takeWhile (fun j => !decide (j = i)), j ∈ q.takeWhile (fun j => !decide (j = i))
  | [], j, h => by simp at h
  | x :: q, j, h => by
    rw [List.filter_cons] at h
    rw [List.takeWhile_cons]
    by_cases c : x = k
    · rw [if_neg (by simp [c])] at h
      rw [if_pos (by simp [c]; exact fun e => hne e.symm)]
      exact List.mem_cons_of_mem _ (tw_filter hne j h)
    · rw [if_pos (by simp [c]), List.takeWhile_cons] at h
      by_cases d : x = i
      · rw [if_neg (by simp [d])] at h
        simp at h
      · rw [if_pos (by simp [d])] at h ⊢
        rcases List.mem_cons.1 h with h | h
        · exact h ▸ List.mem_cons_self ..
        · exact List.mem_cons_of_mem _ (tw_filter hne j h)
theorem nodup_mid {k : Nat} {l : List Nat} : ∀ {st : List Nat}, (st ++ k :: l).Nodup → k ∉ st ++ l ∧ (st ++ l).Nodup
  | [], h => List.nodup_cons.1 h
  | a :: st, h => by
    obtain ⟨h1, h2⟩ := List.nodup_cons.1 h
    obtain ⟨h3, h4⟩ := nodup_mid h2
    refine ⟨fun c => ?_, List.nodup_cons.2 ⟨fun c => h1 ?_, h4⟩⟩
    · rcases List.mem_cons.1 c with rfl | c
      · exact h1 (by simp)
      · exact h3 c
    · rcases List.mem_append.1 c with c | c
      · exact List.mem_append_left _ c
      · exact List.mem_append_right _ (List.mem_cons_of_mem _ c)
namespace Bk
variable {A : Bk} {b : Nat}
abbrev wq (A : Bk) (q : List Nat) : Bk := { A with q := q }
theorem mem_mid {st l : List Nat} {k j : Nat} : j ∈ st ++ k :: l ↔ j = k ∨ j ∈ st ++ l := by
  simp only [List.mem_append, List.mem_cons]
  constructor
  · rintro (h | h | h)
    · exact .inr (.inl h)
    · exact .inl h
    · exact .inr (.inr h)
  · rintro (h | h | h)
    · exact .inr (.inl h)
    · exact .inl h
    · exact .inr (.inr h)
theorem grant_tx {k j : Nat} (hk : A.has k) (hj : A.has j) : (A.grant k).tx j = if j = k then ⟨1, (A.tx k).locks ++ [(A.tx k).req], Lk.zero, (A.tx k).ops⟩ else A.tx j := tx_set hk hj
theorem grant_has {k j : Nat} : (A.grant k).has j ↔ A.has j := has_set
theorem grant_ops {k j : Nat} (hk : A.has k) (hj : A.has j) : ((A.grant k).tx j).ops = (A.tx j).ops := by
  rw [grant_tx hk hj]
  split
  · rename_i e; rw [e]
  · rfl
theorem grant_inv {k : Nat} {st l : List Nat} (h : (A.wq (st ++ k :: l)).Inv b) (hf : A.free (A.tx k).req st = true) : ((A.grant k).wq (st ++ l)).Inv b := by
  have hkq : k ∈ (A.wq (st ++ k :: l)).q := mem_mid.2 (.inl rfl)
  have hk : A.has k := h.qhas hkq
  have hr : k ∈ A.rn := h.qrn hkq
  have hs : (A.tx k).st = 2 := ((h.q k).1 hkq).2
  have hnd : (st ++ k :: l).Nodup := h.qnd
  obtain ⟨hnk, hnd2⟩ := nodup_mid hnd
  have hH : ∀ {j}, j ∈ A.rn → A.has j := fun hj => h.has hj
  have ho : ∀ j, A.has j → ((A.grant k).tx j).ops = (A.tx j).ops := fun j hj => grant_ops hk hj
  obtain ⟨hf1, hf2⟩ := free_iff.1 hf
  have hrq := h.rq k hkq
  have hsb : ∀ j, A.has j → ∀ x ∈ (A.tx j).locks, x ∈ ((A.grant k).tx j).locks := fun j hj x hx => by
    rw [grant_tx hk hj]
    split
    · rename_i e
      rw [e] at hx
      exact List.mem_append_left _ hx
    · exact hx
  have hlk : ∀ j, A.has j → ∀ x ∈ ((A.grant k).tx j).locks, x ∈ (A.tx j).locks ∨ (j = k ∧ x = (A.tx k).req) := fun j hj x hx => by
    rw [grant_tx hk hj] at hx
    split at hx
    · rename_i e
      rcases List.mem_append.1 hx with hx | hx
      · exact .inl (by rw [e]; exact hx)
      · exact .inr ⟨e, List.mem_singleton.1 hx⟩
    · exact .inl hx
  refine { sz := h.sz, rn := fun j => ?_, rnd := h.rnd, rnl := h.rnl, q := fun j => ?_, qnd := hnd2, st := fun j hj => ?_, off := fun j hj hn => ?_, lk := fun j hj x hx => ?_, rq := fun j hj => ?_, cnt := ?_, fr := fun i hi j hj x hx y hy => ?_, held := fun j hj o hoo => ?_, rep := fun j hj => ?_, wU := fun i hi => ?_, wT := fun j hj i ht => ?_, rm := ?_, ol := fun j hj => ?_ }
  · show j ∈ A.rn ↔ (A.grant k).has j ∧ (((A.grant k).tx j).st = 1 ∨ ((A.grant k).tx j).st = 2)
    have h1 : j ∈ A.rn ↔ A.has j ∧ ((A.tx j).st = 1 ∨ (A.tx j).st = 2) := h.rn j
    rw [h1, grant_has]
    refine and_congr_right fun hj => ?_
    rw [grant_tx hk hj]
    by_cases e : j = k
    · subst e
      rw [if_pos rfl, hs]
      simp
    · rw [if_neg e]
  · show j ∈ st ++ l ↔ (A.grant k).has j ∧ ((A.grant k).tx j).st = 2
    have h1 : j ∈ st ++ k :: l ↔ A.has j ∧ (A.tx j).st = 2 := h.q j
    rw [grant_has]
    by_cases e : j = k
    · subst e
      refine ⟨fun c => absurd c hnk, fun ⟨c1, c2⟩ => ?_⟩
      rw [grant_tx hk c1, if_pos rfl] at c2
      cases c2
    · have h2 : j ∈ st ++ k :: l ↔ j ∈ st ++ l := by rw [mem_mid]; exact or_iff_right e
      rw [← h2, h1]
      refine and_congr_right fun hj => ?_
      rw [grant_tx hk hj, if_neg e]
  · have hj' : A.has j := grant_has.1 hj
    show ((A.grant k).tx j).st = 1 ∨ _
    show ((A.grant k).tx j).st = 1 ∨ ((A.grant k).tx j).st = 2 ∨ ((A.grant k).tx j).st = 3 ∨ ((A.grant k).tx j).st = 4
    rw [grant_tx hk hj']
    split
    · exact .inl rfl
    · exact h.st j hj'
  · have hj' : A.has j := grant_has.1 hj
    have e : j ≠ k := fun e => hn (by rw [e]; exact hr)
    show ((A.grant k).tx j).locks = [] ∧ ((A.grant k).tx j).ops = []
    rw [grant_tx hk hj', if_neg e]
    exact h.off j hj' hn
  · have hj' : A.has j := grant_has.1 hj
    rcases hlk j hj' x hx with hx | ⟨e, hx⟩
    · exact h.lk j hj' x hx
    · rw [hx, e]; exact hrq
  · have hj' : j ∈ st ++ k :: l := mem_mid.2 (.inr hj)
    have e : j ≠ k := fun e => hnk (e ▸ hj)
    show ((A.grant k).tx j).req.tx = j ∧ ((A.grant k).tx j).req.lo < ((A.grant k).tx j).req.hi ∧ ((A.grant k).tx j).req.hi ≤ A.size
    rw [grant_tx hk (h.qhas hj'), if_neg e]
    exact h.rq j hj'
  · have h1 : (A.rn.map fun j => (A.tx j).locks.length).sum + (st ++ k :: l).length ≤ 1024 := h.cnt
    have h2 : (A.rn.map fun j => ((A.grant k).tx j).locks.length).sum = (A.rn.map fun j => (A.tx j).locks.length).sum + 1 := sum_one h.rnd hr (by rw [grant_tx hk hk, if_pos rfl]; simp) fun j hj e => by rw [grant_tx hk (hH hj), if_neg e]
    show (A.rn.map fun j => ((A.grant k).tx j).locks.length).sum + (st ++ l).length ≤ 1024
    simp only [List.length_append, List.length_cons] at h1 ⊢
    omega
  · rcases hlk i (hH hi) x hx with hx | ⟨e1, hx⟩ <;> rcases hlk j (hH hj) y hy with hy | ⟨e2, hy⟩
    · exact h.fr i hi j hj x hx y hy
    · rw [hy]; exact hf1 i hi x hx
    · rw [hx, cfl_comm]; exact hf1 j hj y hy
    · rw [hx, hy]; exact cfl_self rfl
  · have hoo' : o ∈ (A.tx j).ops := by rw [← ho j (hH hj)]; exact hoo
    exact (h.held j hj o hoo').mono (hsb j (hH hj))
  · show Rep A.size A.C ((A.grant k).tx j).ops
    rw [ho j (hH hj)]
    exact h.rep j hj
  · refine h.wU i fun j hj ht => hi j hj ?_
    show tch ((A.grant k).tx j).ops i
    rw [ho j (hH hj)]
    exact ht
  · change tch ((A.grant k).tx j).ops i at ht
    show A.W i = ap A.C ((A.grant k).tx j).ops i
    rw [ho j (hH hj)] at ht ⊢
    exact h.wT j hj i ht
  · have h1 : KL.nbd A.C A.size + 2 * (A.rn.map fun j => mvs (A.tx j).ops).sum ≤ 4096 := h.rm
    show KL.nbd A.C A.size + 2 * (A.rn.map fun j => mvs ((A.grant k).tx j).ops).sum ≤ 4096
    rw [sum_congr (g := fun j => mvs (A.tx j).ops) fun j hj => by rw [ho j (hH hj)]]
    exact h1
  · have hj' : A.has j := grant_has.1 hj
    show ((A.grant k).tx j).ops.length ≤ b
    rw [ho j hj']
    exact h.ol j hj'
theorem gr_inv : ∀ (l : List Nat) (A : Bk) (st : List Nat), (A.wq (st ++ l)).Inv b → ((gr A l st).1.wq (gr A l st).2).Inv b
  | [], A, st, h => by
    rw [List.append_nil] at h
    exact h
  | k :: l, A, st, h => by
    rw [gr]
    by_cases c : A.free (A.tx k).req st = true
    · rw [if_pos c]
      exact gr_inv l _ _ (grant_inv h c)
    · rw [if_neg c]
      refine gr_inv l _ _ ?_
      rw [List.append_assoc]
      exact h
def fin (A : Bk) : Bk := { (gr A A.q []).1 with q := (gr A A.q []).2 }
theorem fin_inv (h : A.Inv b) : A.fin.Inv b := gr_inv A.q A [] h
def ended (A : Bk) (k s : Nat) (r : Lk) (C W : Nat → Nat) (lg : List (Nat × List Oa)) : Bk := ⟨A.size, C, W, A.ts.set (k - 1) ⟨s, [], r, []⟩, A.rn.filter fun j => !decide (j = k), A.q.filter fun j => !decide (j = k), lg⟩
theorem off_eq {k s : Nat} {r : Lk} {L : List Lk} {C W : Nat → Nat} {lg : List (Nat × List Oa)} (hk : A.has k) : ({ A.setT k ⟨s, L, r, []⟩ with C := C, W := W, log := lg } : Bk).off k = A.ended k s r C W lg := by
  have e : ({ A.setT k ⟨s, L, r, []⟩ with C := C, W := W, log := lg } : Bk).tx k = ⟨s, L, r, []⟩ := by
    show (A.setT k ⟨s, L, r, []⟩).tx k = _
    rw [tx_set hk hk, if_pos rfl]
  unfold Bk.off
  rw [e]
  unfold Bk.setT ended
  simp only [List.set_set]
theorem abort_eq {k : Nat} (hk : A.has k) : A.abort k = (A.ended k 4 Lk.zero A.C (KL.un A.W (A.tx k).ops) A.log).fin := by
  unfold Bk.abort Bk.release fin
  rw [← off_eq (L := (A.tx k).locks) hk]
  rfl
theorem commit_eq {k : Nat} (hk : A.has k) : A.commit k = (A.ended k 3 (A.tx k).req (ap A.C (A.tx k).ops) A.W (A.log ++ [(k, (A.tx k).ops)])).fin := by
  unfold Bk.commit Bk.release fin
  rw [← off_eq (L := (A.tx k).locks) hk]
  rfl
section
variable {k s : Nat} {r : Lk} {C W : Nat → Nat} {lg : List (Nat × List Oa)}
theorem ended_has {j : Nat} : (A.ended k s r C W lg).has j ↔ A.has j := has_set (A := A) (t := ⟨s, [], r, []⟩)
theorem ended_tx {j : Nat} (hk : A.has k) (hj : A.has j) : (A.ended k s r C W lg).tx j = if j = k then ⟨s, [], r, []⟩ else A.tx j := tx_set hk hj
theorem ended_ne {j : Nat} (hk : A.has k) (hj : A.has j) (e : j ≠ k) : (A.ended k s r C W lg).tx j = A.tx j := by rw [ended_tx hk hj, if_neg e]
theorem mem_ne {l : List Nat} {k j : Nat} : j ∈ (l.filter fun j => !decide (j = k)) ↔ j ∈ l ∧ j ≠ k := by simp
theorem ended_inv (h : A.Inv b) (hk : A.has k) (hs : s = 3 ∨ s = 4) (h1 : ∀ j ∈ A.rn, j ≠ k → Rep A.size C (A.tx j).ops) (h2 : ∀ i, (∀ j ∈ A.rn, j ≠ k → ¬ tch (A.tx j).ops i) → W i = C i) (h3 : ∀ j ∈ A.rn, j ≠ k → ∀ i, tch (A.tx j).ops i → W i = ap C (A.tx j).ops i)
    (h4 : KL.nbd C A.size + 2 * ((A.rn.filter fun j => !decide (j = k)).map fun j => mvs (A.tx j).ops).sum ≤ 4096) : (A.ended k s r C W lg).Inv b := by
  have hN : ∀ {j}, j ∈ (A.ended k s r C W lg).rn → j ∈ A.rn ∧ j ≠ k ∧ (A.ended k s r C W lg).tx j = A.tx j := fun hj => by
    obtain ⟨a1, a2⟩ := mem_ne.1 hj
    exact ⟨a1, a2, ended_ne hk (h.has a1) a2⟩
  have hQ : ∀ {j}, j ∈ (A.ended k s r C W lg).q → j ∈ A.q ∧ j ≠ k ∧ (A.ended k s r C W lg).tx j = A.tx j := fun hj => by
    obtain ⟨a1, a2⟩ := mem_ne.1 hj
    exact ⟨a1, a2, ended_ne hk (h.qhas a1) a2⟩
  refine { sz := h.sz, rn := fun j => ?_, rnd := h.rnd.filter _, rnl := Nat.le_trans (List.length_filter_le ..) h.rnl, q := fun j => ?_, qnd := h.qnd.filter _, st := fun j hj => ?_, off := fun j hj hn => ?_, lk := fun j hj x hx => ?_, rq := fun j hj => ?_, cnt := ?_, fr := fun i hi j hj x hx y hy => ?_, held := fun j hj o hoo => ?_, rep := fun j hj => ?_, wU := fun i hi => ?_, wT := fun j hj i ht => ?_, rm := ?_, ol := fun j hj => ?_ }
  · rw [ended_has]
    show j ∈ A.rn.filter _ ↔ _
    rw [mem_ne]
    by_cases e : j = k
    · subst e
      refine ⟨fun c => absurd rfl c.2, fun c => ?_⟩
      rw [ended_tx hk hk, if_pos rfl] at c
      exact absurd c.2 (by dsimp only; omega)
    · rw [h.rn j]
      constructor
      · rintro ⟨⟨a1, a2⟩, _⟩
        rw [ended_ne hk a1 e]
        exact ⟨a1, a2⟩
      · rintro ⟨a1, a2⟩
        rw [ended_ne hk a1 e] at a2
        exact ⟨⟨a1, a2⟩, e⟩
  · rw [ended_has]
    show j ∈ A.q.filter _ ↔ _
    rw [mem_ne]
    by_cases e : j = k
    · subst e
      refine ⟨fun c => absurd rfl c.2, fun c => ?_⟩
      rw [ended_tx hk hk, if_pos rfl] at c
      exact absurd c.2 (by dsimp only; omega)
    · rw [h.q j]
      constructor
      · rintro ⟨⟨a1, a2⟩, _⟩
        rw [ended_ne hk a1 e]
        exact ⟨a1, a2⟩
      · rintro ⟨a1, a2⟩
        rw [ended_ne hk a1 e] at a2
        exact ⟨⟨a1, a2⟩, e⟩
  · rw [ended_tx hk (ended_has.1 hj)]
    split
    · dsimp only; omega
    · exact h.st j (ended_has.1 hj)
  · rw [ended_tx hk (ended_has.1 hj)]
    split
    · exact ⟨rfl, rfl⟩
    · rename_i e
      exact h.off j (ended_has.1 hj) fun c => hn (mem_ne.2 ⟨c, e⟩)
  · rw [ended_tx hk (ended_has.1 hj)] at hx
    split at hx
    · simp at hx
    · exact h.lk j (ended_has.1 hj) x hx
  · obtain ⟨a1, a2, a3⟩ := hQ hj
    rw [a3]
    exact h.rq j a1
  · have a1 := sum_filter (f := fun j => (A.tx j).locks.length) (k := k) (l := A.rn)
    have a2 := List.length_filter_le (fun j => !decide (j = k)) A.q
    have a3 := h.cnt
    have a4 : ((A.ended k s r C W lg).rn.map fun j => ((A.ended k s r C W lg).tx j).locks.length).sum = ((A.ended k s r C W lg).rn.map fun j => (A.tx j).locks.length).sum := sum_congr fun j hj => by rw [(hN hj).2.2]
    have a5 : ((A.ended k s r C W lg).rn.map fun j => (A.tx j).locks.length).sum = ((A.rn.filter fun j => !decide (j = k)).map fun j => (A.tx j).locks.length).sum := rfl
    have a6 : (A.ended k s r C W lg).q.length = (A.q.filter fun j => !decide (j = k)).length := rfl
    unfold Bk.count at a3 ⊢
    rw [a4, a5, a6]
    omega
  · obtain ⟨a1, _, a3⟩ := hN hi
    obtain ⟨b1, _, b3⟩ := hN hj
    rw [a3] at hx
    rw [b3] at hy
    exact h.fr i a1 j b1 x hx y hy
  · obtain ⟨a1, _, a3⟩ := hN hj
    rw [a3] at hoo ⊢
    exact h.held j a1 o hoo
  · obtain ⟨a1, a2, a3⟩ := hN hj
    rw [a3]
    exact h1 j a1 a2
  · refine h2 i fun j hj e ht => hi j (mem_ne.2 ⟨hj, e⟩) ?_
    rw [ended_ne hk (h.has hj) e]
    exact ht
  · obtain ⟨a1, a2, a3⟩ := hN hj
    rw [a3] at ht ⊢
    exact h3 j a1 a2 i ht
  · have a4 : (A.ended k s r C W lg).moves = ((A.rn.filter fun j => !decide (j = k)).map fun j => mvs (A.tx j).ops).sum := sum_congr (l := (A.ended k s r C W lg).rn) fun j hj => by rw [(hN hj).2.2]
    rw [a4]
    exact h4
  · rw [ended_tx hk (ended_has.1 hj)]
    split
    · exact Nat.zero_le _
    · exact h.ol j (ended_has.1 hj)
end
theorem Inv.ab (h : A.Inv b) {k : Nat} (hk : A.has k) : (A.ended k 4 Lk.zero A.C (KL.un A.W (A.tx k).ops) A.log).Inv b := by
  refine ended_inv h hk (.inr rfl) (fun j hj _ => h.rep j hj) (fun i hi => ?_) (fun j hj e i ht => ?_) ?_
  · by_cases hr : k ∈ A.rn
    · by_cases c : tch (A.tx k).ops i
      · exact (h.rep k hr).un c
      · rw [un_not c]
        refine h.wU i fun j hj ht => ?_
        by_cases e : j = k
        · rw [e] at ht; exact c ht
        · exact hi j hj e ht
    · rw [(h.off k hk hr).2]
      refine h.wU i fun j hj ht => hi j hj (fun e => hr (e ▸ hj)) ht
  · rw [un_not fun c => ?_]
    · exact h.wT j hj i ht
    · by_cases hr : k ∈ A.rn
      · exact h.disj hj hr e ⟨ht, c⟩
      · rw [(h.off k hk hr).2] at c
        exact tch.nil c
  · have h1 := (sum_filter (f := fun j => mvs (A.tx j).ops) (k := k) (l := A.rn)).1
    have h2 := h.rm
    unfold Bk.moves at h2
    omega
theorem Inv.abort (h : A.Inv b) {k : Nat} (hk : A.has k) : (A.abort k).Inv b := by
  rw [abort_eq hk]
  exact fin_inv (h.ab hk)
theorem Inv.cm (h : A.Inv b) {k : Nat} (hk : A.has k) (hr : k ∈ A.rn) : (A.ended k 3 (A.tx k).req (ap A.C (A.tx k).ops) A.W (A.log ++ [(k, (A.tx k).ops)])).Inv b := by
  refine ended_inv h hk (.inl rfl) (fun j hj e => ?_) (fun i hi => ?_) (fun j hj e i ht => ?_) ?_
  · refine (h.rep j hj).congr fun o ho i h1 h2 => ?_
    obtain ⟨x, hx, _, h3⟩ := h.held j hj o ho i h1 h2
    rw [ap_not fun c => h.apart hr hj (fun e' => e e'.symm) c hx h3]
  · by_cases c : tch (A.tx k).ops i
    · exact h.wT k hr i c
    · rw [ap_not c]
      refine h.wU i fun j hj ht => ?_
      by_cases e : j = k
      · rw [e] at ht; exact c ht
      · exact hi j hj e ht
  · rw [h.wT j hj i ht]
    exact ap_tch ht
  · have h1 := (sum_filter (f := fun j => mvs (A.tx j).ops) (k := k) (l := A.rn)).2 hr
    have h2 := h.rm
    have h3 := nbd_ap A.size (A.tx k).ops A.C
    unfold Bk.moves at h2
    omega
theorem Inv.commit (h : A.Inv b) {k : Nat} (hr : k ∈ A.rn) : (A.commit k).Inv b := by
  rw [commit_eq (h.has hr)]
  exact fin_inv (h.cm (h.has hr) hr)
end Bk
end Go.KL
end

section
/- Who waits for whom, kept by the changes of a book; plain. No program in sight. -/
namespace Go.KL
open Relation
namespace Bk
variable {A : Bk} {b : Nat}
theorem gr_has : ∀ (l : List Nat) (A : Bk) (st : List Nat) {j : Nat}, (gr A l st).1.has j ↔ A.has j
  | [], _, _, _ => Iff.rfl
  | k :: l, A, st, j => by
    rw [gr]
    split
    · rw [gr_has l]; exact grant_has
    · exact gr_has l _ _
theorem gr_same : ∀ (l : List Nat) (A : Bk) (st : List Nat), (gr A l st).1.size = A.size ∧ (gr A l st).1.C = A.C ∧ (gr A l st).1.W = A.W ∧ (gr A l st).1.log = A.log ∧ (gr A l st).1.ts.length = A.ts.length
  | [], _, _ => ⟨rfl, rfl, rfl, rfl, rfl⟩
  | k :: l, A, st => by
    rw [gr]
    split
    · obtain ⟨h1, h2, h3, h4, h5⟩ := gr_same l (A.grant k) st
      exact ⟨h1, h2, h3, h4, h5.trans (by simp [grant, setT])⟩
    · exact gr_same l _ _
theorem gr_old : ∀ (l : List Nat) (A : Bk) (st : List Nat) {j : Nat}, j ∈ st → j ∈ (gr A l st).2
  | [], _, _, _, h => h
  | k :: l, A, st, j, h => by
    rw [gr]
    split
    · exact gr_old l _ _ h
    · exact gr_old l _ _ (List.mem_append_left _ h)
theorem gr_sub : ∀ (l : List Nat) (A : Bk) (st : List Nat) {j : Nat}, j ∈ (gr A l st).2 → j ∈ st ++ l
  | [], _, _, _, h => by simpa [gr] using h
  | k :: l, A, st, j, h => by
    rw [gr] at h
    split at h
    · exact mem_mid.2 (.inr (gr_sub l _ _ h))
    · have := gr_sub l _ _ h
      simpa using this
theorem gr_tx : ∀ (l : List Nat) (A : Bk) (st : List Nat) {j : Nat}, (st ++ l).Nodup → (∀ k ∈ l, A.has k) → A.has j →
    ((gr A l st).1.tx j = A.tx j ∧ (j ∈ l → j ∈ (gr A l st).2)) ∨ (j ∈ l ∧ j ∉ (gr A l st).2 ∧ (gr A l st).1.tx j = ⟨1, (A.tx j).locks ++ [(A.tx j).req], Lk.zero, (A.tx j).ops⟩)
  | [], _, _, _, _, _, _ => .inl ⟨rfl, fun h => by simp at h⟩
  | k :: l, A, st, j, hn, hh, hj => by
    have hk : A.has k := hh k (List.mem_cons_self ..)
    obtain ⟨n1, n2⟩ := nodup_mid hn
    rw [gr]
    split
    · have ih := gr_tx l (A.grant k) st (j := j) n2 (fun m hm => grant_has.2 (hh m (List.mem_cons_of_mem _ hm))) (grant_has.2 hj)
      by_cases e : j = k
      · subst e
        rcases ih with ⟨h1, _⟩ | ⟨h1, _⟩
        · rw [grant_tx hk hk, if_pos rfl] at h1
          exact .inr ⟨List.mem_cons_self .., fun c => n1 (gr_sub l _ _ c), h1⟩
        · exact absurd (List.mem_append_right _ h1) n1
      · rw [grant_tx hk hj, if_neg e] at ih
        rcases ih with ⟨h1, h2⟩ | ⟨h1, h2⟩
        · exact .inl ⟨h1, fun c => h2 ((List.mem_cons.1 c).resolve_left e)⟩
        · exact .inr ⟨List.mem_cons_of_mem _ h1, h2⟩
    · rcases gr_tx l A (st ++ [k]) (j := j) (by simpa using hn) (fun m hm => hh m (List.mem_cons_of_mem _ hm)) hj with ⟨h1, h2⟩ | ⟨h1, h2⟩
      · refine .inl ⟨h1, fun c => ?_⟩
        rcases List.mem_cons.1 c with rfl | c
        · exact gr_old l _ _ (by simp)
        · exact h2 c
      · exact .inr ⟨List.mem_cons_of_mem _ h1, h2⟩
def BlkF (A : Bk) : List Nat → List Nat → Prop
  | _, [] => True
  | pre, k :: l => A.free (A.tx k).req pre = false ∧ BlkF A (pre ++ [k]) l
theorem BlkF.snoc {k : Nat} : ∀ {l pre : List Nat}, BlkF A pre (l ++ [k]) ↔ BlkF A pre l ∧ A.free (A.tx k).req (pre ++ l) = false
  | [], pre => by simp [BlkF]
  | a :: l, pre => by
    rw [List.cons_append, BlkF, BlkF, BlkF.snoc, and_assoc, List.append_assoc]
    rfl
theorem BlkF.mem {k : Nat} : ∀ {l pre : List Nat}, BlkF A pre l → k ∈ l → A.free (A.tx k).req (pre ++ l.takeWhile (fun j => !decide (j = k))) = false
  | [], _, _, h => by simp at h
  | a :: l, pre, h, hk => by
    rw [List.takeWhile_cons]
    by_cases c : a = k
    · rw [if_neg (by simp [c]), List.append_nil, ← c]
      exact h.1
    · rw [if_pos (by simp [c])]
      have := h.2.mem ((List.mem_cons.1 hk).resolve_left fun e => c e.symm)
      rw [List.append_assoc] at this
      exact this
theorem free_mono {B : Bk} {x : Lk} {pre : List Nat} (h : A.free x pre = false) (h1 : ∀ m ∈ A.rn, m ∈ B.rn ∧ ∀ y ∈ (A.tx m).locks, y ∈ (B.tx m).locks) (h2 : ∀ m ∈ pre, (B.tx m).req = (A.tx m).req) : B.free x pre = false := by
  cases c : B.free x pre with
  | false => rfl
  | true =>
    obtain ⟨c1, c2⟩ := free_iff.1 c
    have : A.free x pre = true := free_iff.2 ⟨fun m hm y hy => c1 m (h1 m hm).1 y ((h1 m hm).2 y hy), fun m hm => by rw [← h2 m hm]; exact c2 m hm⟩
    rw [h] at this
    cases this
theorem BlkF.mono {B : Bk} (h1 : ∀ m ∈ A.rn, m ∈ B.rn ∧ ∀ y ∈ (A.tx m).locks, y ∈ (B.tx m).locks) : ∀ {l pre : List Nat}, BlkF A pre l → (∀ m ∈ pre ++ l, (B.tx m).req = (A.tx m).req) → BlkF B pre l
  | [], _, _, _ => trivial
  | k :: l, pre, h, h2 => by
    refine ⟨?_, h.2.mono h1 fun m hm => h2 m (by simpa using hm)⟩
    rw [h2 k (by simp)]
    exact free_mono h.1 h1 fun m hm => h2 m (List.mem_append_left _ hm)
def Blk (A : Bk) : Prop := BlkF A [] A.q
theorem gr_blk : ∀ (l : List Nat) (A : Bk) (st : List Nat), (A.wq (st ++ l)).Inv b → BlkF A [] st → BlkF (gr A l st).1 [] (gr A l st).2
  | [], _, _, _, h => h
  | k :: l, A, st, hI, h => by
    have hkq : k ∈ (A.wq (st ++ k :: l)).q := mem_mid.2 (.inl rfl)
    have hk : A.has k := hI.qhas hkq
    have hnk := (nodup_mid hI.qnd).1
    rw [gr]
    by_cases c : A.free (A.tx k).req st = true
    · rw [if_pos c]
      refine gr_blk l _ _ (grant_inv hI c) (BlkF.mono (A := A) (B := A.grant k) (fun m hm => ⟨hm, fun y hy => ?_⟩) h fun m hm => ?_)
      · rw [grant_tx hk (hI.has hm)]
        split
        · rename_i e
          rw [e] at hy
          exact List.mem_append_left _ hy
        · exact hy
      · have hm' : m ∈ st := hm
        have hne : m ≠ k := fun e => hnk (by rw [← e]; exact List.mem_append_left _ hm')
        rw [grant_tx hk (hI.qhas (List.mem_append_left _ hm')), if_neg hne]
    · rw [if_neg c]
      refine gr_blk l _ _ (by rw [List.append_assoc]; exact hI) (BlkF.snoc.2 ⟨h, ?_⟩)
      simpa using c
theorem fin_blk (h : A.Inv b) : A.fin.Blk := BlkF.mono (A := (gr A A.q []).1) (B := A.fin) (fun _ hm => ⟨hm, fun _ hy => hy⟩) (gr_blk A.q A [] h trivial) fun _ _ => rfl
def EF (A : Bk) (q : List Nat) (k j : Nat) : Prop := (A.tx k).st = 2 ∧ ((j ∈ A.rn ∧ ∃ x ∈ (A.tx j).locks, cfl x (A.tx k).req = true) ∨ (j ∈ q.takeWhile (fun j => !decide (j = k)) ∧ cfl (A.tx j).req (A.tx k).req = true))
theorem E_iff {k j : Nat} : A.E k j ↔ EF A A.q k j := by
  unfold Bk.E Bk.waits EF Bk.before
  by_cases c : (A.tx k).st = 2
  · rw [if_neg (by simp [c]), List.mem_append, mem_owners, mem_ahead]
    exact ⟨fun h => ⟨c, h⟩, fun h => h.2⟩
  · rw [if_pos c]
    exact ⟨fun h => by simp at h, fun h => absurd h.1 c⟩
theorem grant_edge {k i j : Nat} {st l : List Nat} (h : (A.wq (st ++ k :: l)).Inv b) (hf : A.free (A.tx k).req st = true) (hi : A.has i) (he : EF (A.grant k) (st ++ l) i j) : EF A (st ++ k :: l) i j := by
  have hkq : k ∈ (A.wq (st ++ k :: l)).q := mem_mid.2 (.inl rfl)
  have hk : A.has k := h.qhas hkq
  have hnk := (nodup_mid h.qnd).1
  obtain ⟨hf1, hf2⟩ := free_iff.1 hf
  obtain ⟨hs, he⟩ := he
  have e : i ≠ k := fun e => by
    rw [e, grant_tx hk hk, if_pos rfl] at hs
    cases hs
  rw [grant_tx hk hi, if_neg e] at hs he
  have hiq : i ∈ st ++ l := (mem_mid.1 ((h.q i).2 ⟨hi, hs⟩ : i ∈ st ++ k :: l)).resolve_left e
  refine ⟨hs, ?_⟩
  rcases he with ⟨hj, x, hx, hc⟩ | ⟨hj, hc⟩
  · have hjh : A.has j := h.has hj
    rw [grant_tx hk hjh] at hx
    split at hx
    · rename_i e2
      subst e2
      rcases List.mem_append.1 hx with hx | hx
      · exact .inl ⟨hj, x, hx, hc⟩
      · rw [List.mem_singleton.1 hx] at hc
        refine .inr ⟨?_, hc⟩
        by_cases cs : i ∈ st
        · exact absurd (hf2 i cs) (by rw [cfl_comm, hc]; decide)
        · rw [tw_out cs, List.takeWhile_cons, if_pos (by simp; exact fun e' => e e'.symm)]
          simp
    · exact .inl ⟨hj, x, hx, hc⟩
  · have hjq : j ∈ st ++ l := (List.takeWhile_sublist _).subset hj
    have hne : j ≠ k := fun e' => hnk (e' ▸ hjq)
    rw [grant_tx hk (h.qhas (mem_mid.2 (.inr hjq) : j ∈ st ++ k :: l)), if_neg hne] at hc
    refine .inr ⟨?_, hc⟩
    by_cases cs : i ∈ st
    · rw [tw_in cs] at hj ⊢
      exact hj
    · rw [tw_out cs] at hj ⊢
      rw [List.takeWhile_cons, if_pos (by simp; exact fun e' => e e'.symm)]
      exact mem_mid.2 (.inr hj)
theorem gr_edge : ∀ (l : List Nat) (A : Bk) (st : List Nat) {i j : Nat}, (A.wq (st ++ l)).Inv b → A.has i → EF (gr A l st).1 (gr A l st).2 i j → EF A (st ++ l) i j
  | [], A, st, i, j, _, _, h => by
    rw [List.append_nil]
    exact h
  | k :: l, A, st, i, j, hI, hi, h => by
    rw [gr] at h
    by_cases c : A.free (A.tx k).req st = true
    · rw [if_pos c] at h
      exact grant_edge hI c hi (gr_edge l _ _ (grant_inv hI c) (grant_has.2 hi) h)
    · rw [if_neg c] at h
      have := gr_edge l A (st ++ [k]) (by rw [List.append_assoc]; exact hI) hi h
      rw [List.append_assoc] at this
      exact this
theorem fin_edge {i j : Nat} (h : A.Inv b) (hi : A.has i) (he : A.fin.E i j) : A.E i j := E_iff.2 (gr_edge A.q A [] h hi (E_iff.1 he))
theorem ended_edge {k s : Nat} {r : Lk} {C W : Nat → Nat} {lg : List (Nat × List Oa)} {i j : Nat} (h : A.Inv b) (hk : A.has k) (hs : s = 3 ∨ s = 4) (hi : A.has i) (he : (A.ended k s r C W lg).E i j) : A.E i j := by
  obtain ⟨h1, h2⟩ := E_iff.1 he
  have e : i ≠ k := fun e => by
    rw [e, ended_tx hk hk, if_pos rfl] at h1
    dsimp only at h1
    omega
  rw [ended_ne hk hi e] at h1 h2
  refine E_iff.2 ⟨h1, ?_⟩
  rcases h2 with ⟨hj, x, hx, hc⟩ | ⟨hj, hc⟩
  · obtain ⟨a1, a2⟩ := mem_ne.1 hj
    rw [ended_ne hk (h.has a1) a2] at hx
    exact .inl ⟨a1, x, hx, hc⟩
  · have hjq := (List.takeWhile_sublist _).subset hj
    obtain ⟨a1, a2⟩ := mem_ne.1 hjq
    rw [ended_ne hk (h.qhas a1) a2] at hc
    exact .inr ⟨tw_filter e j hj, hc⟩
theorem fin_has {j : Nat} : A.fin.has j ↔ A.has j := gr_has A.q A []
theorem abort_has {k j : Nat} (hk : A.has k) : (A.abort k).has j ↔ A.has j := by rw [abort_eq hk, fin_has, ended_has]
theorem commit_has {k j : Nat} (hk : A.has k) : (A.commit k).has j ↔ A.has j := by rw [commit_eq hk, fin_has, ended_has]
theorem abort_edge {k i j : Nat} (h : A.Inv b) (hk : A.has k) (hi : A.has i) (he : (A.abort k).E i j) : A.E i j := by
  rw [abort_eq hk] at he
  exact ended_edge h hk (.inr rfl) hi (fin_edge (h.ab hk) (ended_has.2 hi) he)
theorem commit_edge {k i j : Nat} (h : A.Inv b) (hr : k ∈ A.rn) (hi : A.has i) (he : (A.commit k).E i j) : A.E i j := by
  rw [commit_eq (h.has hr)] at he
  exact ended_edge h (h.has hr) (.inl rfl) hi (fin_edge (h.cm (h.has hr) hr) (ended_has.2 hi) he)
theorem E_has {i j : Nat} (h : A.Inv b) (he : A.E i j) : A.has j := by
  rcases (E_iff.1 he).2 with ⟨hj, _⟩ | ⟨hj, _⟩
  · exact h.has hj
  · exact h.qhas ((List.takeWhile_sublist _).subset hj)
theorem E_rn {i j : Nat} (h : A.Inv b) (he : A.E i j) : j ∈ A.rn := by
  rcases (E_iff.1 he).2 with ⟨hj, _⟩ | ⟨hj, _⟩
  · exact hj
  · exact h.qrn ((List.takeWhile_sublist _).subset hj)
theorem R_iff {k j : Nat} : A.R k j ↔ TransGen A.E k j := by
  constructor
  · intro h
    induction h with
    | one h => exact .single h
    | more _ h ih => exact .tail ih h
  · intro h
    induction h with
    | single h => exact .one h
    | tail _ h ih => exact .more ih h
def Ac (A : Bk) : Prop := ∀ k, A.has k → ¬ TransGen A.E k k
def AcW (A : Bk) (k : Nat) : Prop := ∀ j, A.has j → ¬ TransGen (fun i m => A.E i m ∧ i ≠ k) j j
theorem trans_sub {P Q : Nat → Nat → Prop} {H : Nat → Prop} (h1 : ∀ i m, P i m → H m) (h2 : ∀ i m, H i → P i m → Q i m) {i j : Nat} (hi : H i) (h : TransGen P i j) : TransGen Q i j ∧ H j := by
  induction h with
  | single h => exact ⟨.single (h2 _ _ hi h), h1 _ _ h⟩
  | tail _ h ih => exact ⟨.tail ih.1 (h2 _ _ ih.2 h), h1 _ _ h⟩
theorem Ac.sub {B : Bk} (h : A.Ac) (hB : B.Inv b) (hh : ∀ i, B.has i → A.has i) (he : ∀ i j, A.has i → B.E i j → A.E i j) : B.Ac := fun k hk hc =>
  h k (hh k hk) (trans_sub (H := A.has) (fun _ _ c => hh _ (E_has hB c)) he (hh k hk) hc).1
theorem AcW.sub {B : Bk} {k : Nat} (h : A.AcW k) (hB : B.Inv b) (hh : ∀ i, B.has i → A.has i) (he : ∀ i j, A.has i → B.E i j → A.E i j) : B.AcW k := fun j hj hc =>
  h j (hh j hj) (trans_sub (H := A.has) (fun _ _ c => hh _ (E_has hB c.1)) (fun i m hi c => ⟨he i m hi c.1, c.2⟩) (hh j hj) hc).1
theorem Ac.w (h : A.Ac) (k : Nat) : A.AcW k := fun j hj hc => h j hj (by
  have : ∀ {a c}, TransGen (fun i m => A.E i m ∧ i ≠ k) a c → TransGen A.E a c := fun h => by
    induction h with
    | single h => exact .single h.1
    | tail _ h ih => exact .tail ih h.1
  exact this hc)
theorem path_split {k j i : Nat} (h : TransGen A.E j i) : TransGen (fun i m => A.E i m ∧ i ≠ k) j i ∨ ((j = k ∨ TransGen A.E j k) ∧ TransGen A.E k i) := by
  induction h with
  | @single m h =>
    by_cases e : j = k
    · exact .inr ⟨.inl e, by rw [← e]; exact .single h⟩
    · exact .inl (.single ⟨h, e⟩)
  | @tail m n h h2 ih =>
    rcases ih with ih | ⟨h3, h4⟩
    · by_cases e : m = k
      · exact .inr ⟨.inr (by rw [← e]; exact h), by rw [← e]; exact .single h2⟩
      · exact .inl (.tail ih ⟨h2, e⟩)
    · exact .inr ⟨h3, .tail h4 h2⟩
theorem AcW.ac {k : Nat} (h : A.AcW k) (hk : ¬ TransGen A.E k k) : A.Ac := fun j hj hc => by
  rcases path_split (k := k) hc with c | ⟨c1, c2⟩
  · exact h j hj c
  · rcases c1 with rfl | c1
    · exact hk hc
    · exact hk (TransGen.trans c2 c1)
theorem AcW.ac' {k : Nat} (h : A.AcW k) (hk : (A.tx k).st ≠ 2) : A.Ac := h.ac fun c => by
  have : ∀ {i j}, TransGen A.E i j → ∃ m, A.E i m := fun h => by
    induction h with
    | single h => exact ⟨_, h⟩
    | tail _ _ ih => exact ih
  obtain ⟨m, hm⟩ := this c
  exact hk (E_iff.1 hm).1
end Bk
end Go.KL
end

section
/- All calls keep what always holds; plain. No program in sight. -/
namespace Go.KL
open Relation
theorem sum_swap {f g : Nat → Nat} {k : Nat} : ∀ {l : List Nat}, l.Nodup → k ∈ l → (∀ j ∈ l, j ≠ k → g j = f j) → (l.map g).sum + f k = (l.map f).sum + g k
  | [], _, h, _ => by simp at h
  | a :: l, hn, h, h2 => by
    obtain ⟨n1, n2⟩ := List.nodup_cons.1 hn
    rw [List.map_cons, List.sum_cons, List.map_cons, List.sum_cons]
    rcases List.mem_cons.1 h with rfl | h
    · rw [sum_congr (f := g) (g := f) (l := l) fun j hj => h2 j (List.mem_cons_of_mem _ hj) fun c => n1 (c ▸ hj)]
      omega
    · have := sum_swap n2 h fun j hj => h2 j (List.mem_cons_of_mem _ hj)
      rw [h2 a (List.mem_cons_self ..) fun c => n1 (c ▸ h)]
      omega
namespace Bk
variable {A : Bk} {b : Nat}
def up (A : Bk) (k : Nat) (t : Tx) (q : List Nat) (W : Nat → Nat) : Bk := ⟨A.size, A.C, W, A.ts.set (k - 1) t, A.rn, q, A.log⟩
theorem Inv.upd (h : A.Inv b) {k b' : Nat} {t : Tx} {q' : List Nat} {W' : Nat → Nat} (hr : k ∈ A.rn) (hst : t.st = 1 ∨ t.st = 2) (hq : ∀ j, j ∈ q' ↔ (j ∈ A.q ∧ j ≠ k) ∨ (j = k ∧ t.st = 2)) (hqn : q'.Nodup) (hb : b ≤ b')
    (hl : ∀ x ∈ t.locks, x.tx = k ∧ x.lo < x.hi ∧ x.hi ≤ A.size) (hrq : t.st = 2 → t.req.tx = k ∧ t.req.lo < t.req.hi ∧ t.req.hi ≤ A.size) (hc : t.locks.length + q'.length + A.count ≤ 1024 + (A.tx k).locks.length + A.q.length)
    (hfr : ∀ j ∈ A.rn, j ≠ k → ∀ x ∈ (A.tx j).locks, ∀ y ∈ t.locks, cfl x y = false) (hh : ∀ o ∈ t.ops, Hold t.locks o.lo o.hi o.mv) (hrep : Rep A.size A.C t.ops)
    (hU : ∀ i, (∀ j ∈ A.rn, j ≠ k → ¬ tch (A.tx j).ops i) → ¬ tch t.ops i → W' i = A.C i) (hT : ∀ i, tch t.ops i → W' i = ap A.C t.ops i) (hT' : ∀ j ∈ A.rn, j ≠ k → ∀ i, tch (A.tx j).ops i → W' i = ap A.C (A.tx j).ops i)
    (hm : KL.nbd A.C A.size + 2 * (A.moves + mvs t.ops) ≤ 4096 + 2 * mvs (A.tx k).ops) (hol : t.ops.length ≤ b') : (A.up k t q' W').Inv b' := by
  have hk : A.has k := h.has hr
  have hx : ∀ {j}, A.has j → (A.up k t q' W').tx j = if j = k then t else A.tx j := fun hj => tx_set hk hj
  have hH : ∀ {j}, (A.up k t q' W').has j ↔ A.has j := has_set
  refine { sz := h.sz, rn := fun j => ?_, rnd := h.rnd, rnl := h.rnl, q := fun j => ?_, qnd := hqn, st := fun j hj => ?_, off := fun j hj hn => ?_, lk := fun j hj x hxx => ?_, rq := fun j hj => ?_, cnt := ?_, fr := fun i hi j hj x hxx y hy => ?_, held := fun j hj o hoo => ?_, rep := fun j hj => ?_, wU := fun i hi => ?_, wT := fun j hj i ht => ?_, rm := ?_, ol := fun j hj => ?_ }
  · rw [hH]
    have h1 := h.rn j
    show j ∈ A.rn ↔ _
    rw [h1]
    refine and_congr_right fun hj => ?_
    rw [hx hj]
    by_cases e : j = k
    · rw [if_pos e, e]
      have h2 := (h.rn k).1 hr
      exact ⟨fun _ => hst, fun _ => h2.2⟩
    · rw [if_neg e]
  · rw [hH]
    show j ∈ q' ↔ _
    rw [hq j]
    by_cases e : j = k
    · subst e
      rw [hx hk, if_pos rfl]
      exact ⟨fun c => c.elim (fun c => absurd rfl c.2) fun c => ⟨hk, c.2⟩, fun c => .inr ⟨rfl, c.2⟩⟩
    · rw [h.q j]
      constructor
      · rintro (⟨⟨h1, h2⟩, _⟩ | ⟨h1, _⟩)
        · rw [hx h1, if_neg e]; exact ⟨h1, h2⟩
        · exact absurd h1 e
      · rintro ⟨h1, h2⟩
        rw [hx h1, if_neg e] at h2
        exact .inl ⟨⟨h1, h2⟩, e⟩
  · rw [hx (hH.1 hj)]
    split
    · omega
    · exact h.st j (hH.1 hj)
  · have e : j ≠ k := fun e => hn (by rw [e]; exact hr)
    rw [hx (hH.1 hj), if_neg e]
    exact h.off j (hH.1 hj) hn
  · rw [hx (hH.1 hj)] at hxx
    split at hxx
    · rename_i e
      rw [e]
      exact hl x hxx
    · exact h.lk j (hH.1 hj) x hxx
  · rcases (hq j).1 hj with ⟨h1, e⟩ | ⟨e, h1⟩
    · rw [hx (h.qhas h1), if_neg e]
      exact h.rq j h1
    · subst e
      rw [hx hk, if_pos rfl]
      exact hrq h1
  · have h1 := sum_swap (f := fun j => (A.tx j).locks.length) (g := fun j => ((A.up k t q' W').tx j).locks.length) h.rnd hr fun j hj e => by rw [hx (h.has hj), if_neg e]
    have h2 := h.cnt
    rw [hx hk, if_pos rfl] at h1
    unfold Bk.count at hc h2
    have h3 : (A.rn.map fun j => ((A.up k t q' W').tx j).locks.length).sum + q'.length ≤ 1024 := by omega
    exact h3
  · rw [hx (h.has hi)] at hxx
    rw [hx (h.has hj)] at hy
    split at hxx <;> split at hy
    · rename_i e1 e2
      exact cfl_self ((hl x hxx).1.trans (hl y hy).1.symm)
    · rename_i e1 e2
      rw [cfl_comm]
      exact hfr j hj e2 y hy x hxx
    · rename_i e1 e2
      exact hfr i hi e1 x hxx y hy
    · exact h.fr i hi j hj x hxx y hy
  · rw [hx (h.has hj)] at hoo ⊢
    split at hoo
    · rename_i e
      rw [if_pos e]
      exact hh o hoo
    · rename_i e
      rw [if_neg e]
      exact h.held j hj o hoo
  · rw [hx (h.has hj)]
    split
    · exact hrep
    · exact h.rep j hj
  · refine hU i (fun j hj e ht => hi j hj ?_) fun ht => hi k hr ?_
    · rw [hx (h.has hj), if_neg e]
      exact ht
    · rw [hx hk, if_pos rfl]
      exact ht
  · rw [hx (h.has hj)] at ht ⊢
    split at ht
    · rename_i e
      rw [if_pos e]
      exact hT i ht
    · rename_i e
      rw [if_neg e]
      exact hT' j hj e i ht
  · have h1 := sum_swap (f := fun j => mvs (A.tx j).ops) (g := fun j => mvs ((A.up k t q' W').tx j).ops) h.rnd hr fun j hj e => by rw [hx (h.has hj), if_neg e]
    have h4 : A.moves = (A.rn.map fun j => mvs (A.tx j).ops).sum := rfl
    have h5 := h.rm
    rw [hx hk, if_pos rfl] at h1
    have h3 : KL.nbd A.C A.size + 2 * (A.rn.map fun j => mvs ((A.up k t q' W').tx j).ops).sum ≤ 4096 := by omega
    exact h3
  · rw [hx (hH.1 hj)]
    split
    · exact hol
    · exact Nat.le_trans (h.ol j (hH.1 hj)) hb
section
variable {k : Nat}
theorem Inv.run (h : A.Inv b) (hk : A.has k) (hs : (A.tx k).st = 1) : k ∈ A.rn := (h.rn k).2 ⟨hk, .inl hs⟩
theorem Inv.noq (h : A.Inv b) (hs : (A.tx k).st = 1) : k ∉ A.q := fun c => by
  have := ((h.q k).1 c).2
  omega
theorem Inv.q1 (h : A.Inv b) (hs : (A.tx k).st = 1) {s : Nat} (h1 : s = 1) (j : Nat) : j ∈ A.q ↔ (j ∈ A.q ∧ j ≠ k) ∨ (j = k ∧ s = 2) := by
  constructor
  · exact fun c => .inl ⟨c, fun e => h.noq hs (e ▸ c)⟩
  · rintro (c | c)
    · exact c.1
    · omega
theorem Inv.got (h : A.Inv b) (hk : A.has k) (hs : (A.tx k).st = 1) {lo hi : Nat} {wr : Bool} (h1 : lo < hi) (h2 : hi ≤ A.size) (hc : A.count < 1024) (hf : A.free ⟨k, lo, hi, wr⟩ A.q = true) : (A.setT k { A.tx k with locks := (A.tx k).locks ++ [⟨k, lo, hi, wr⟩] }).Inv b := by
  have hr := h.run hk hs
  obtain ⟨f1, _⟩ := free_iff.1 hf
  refine h.upd (t := { A.tx k with locks := (A.tx k).locks ++ [⟨k, lo, hi, wr⟩] }) (q' := A.q) (W' := A.W) hr (.inl hs) (h.q1 hs hs) h.qnd (Nat.le_refl _) (fun x hx => ?_) (fun c => ?_) ?_ (fun j hj e x hx y hy => ?_) (fun o ho => ?_) (h.rep k hr) (fun i hi hn => h.wU i fun j hj => ?_) (h.wT k hr) (fun j hj _ => h.wT j hj) ?_ (h.ol k hk)
  · rcases List.mem_append.1 hx with hx | hx
    · exact h.lk k hk x hx
    · rw [List.mem_singleton.1 hx]
      exact ⟨rfl, h1, h2⟩
  · dsimp only at c; omega
  · dsimp only
    rw [List.length_append, List.length_singleton]
    omega
  · rcases List.mem_append.1 hy with hy | hy
    · exact h.fr j hj k hr x hx y hy
    · rw [List.mem_singleton.1 hy]
      exact f1 j hj x hx
  · exact (h.held k hr o ho).mono fun x hx => List.mem_append_left _ hx
  · by_cases e : j = k
    · rw [e]; exact hn
    · exact hi j hj e
  · have := h.rm
    dsimp only
    omega
theorem Inv.wait (h : A.Inv b) (hk : A.has k) (hs : (A.tx k).st = 1) {lo hi : Nat} {wr : Bool} (h1 : lo < hi) (h2 : hi ≤ A.size) (hc : A.count < 1024) : (A.wait k ⟨k, lo, hi, wr⟩).Inv b := by
  have hr := h.run hk hs
  refine h.upd (t := ⟨2, (A.tx k).locks, ⟨k, lo, hi, wr⟩, (A.tx k).ops⟩) (q' := A.q ++ [k]) (W' := A.W) hr (.inr rfl) (fun j => ?_) ?_ (Nat.le_refl _) (h.lk k hk) (fun _ => ⟨rfl, h1, h2⟩) ?_ (fun j hj _ x hx y hy => h.fr j hj k hr x hx y hy) (h.held k hr) (h.rep k hr) (fun i hi hn => h.wU i fun j hj => ?_) (h.wT k hr) (fun j hj _ => h.wT j hj) ?_ (h.ol k hk)
  · rw [List.mem_append, List.mem_singleton]
    constructor
    · rintro (c | c)
      · exact .inl ⟨c, fun e => h.noq hs (e ▸ c)⟩
      · exact .inr ⟨c, rfl⟩
    · rintro (c | c)
      · exact .inl c.1
      · exact .inr c.1
  · refine List.nodup_append.2 ⟨h.qnd, by simp, fun x hx y hy => ?_⟩
    rw [List.mem_singleton.1 hy]
    exact fun e => h.noq hs (e ▸ hx)
  · dsimp only
    rw [List.length_append, List.length_singleton]
    omega
  · by_cases e : j = k
    · rw [e]; exact hn
    · exact hi j hj e
  · have := h.rm
    dsimp only
    omega
theorem Inv.looked (h : A.Inv b) (hk : A.has k) (hs : (A.tx k).st = 1) {lo hi fr to : Nat} (h1 : lo ≤ hi) (h2 : hi ≤ A.size) (h3 : fr < 16 ∧ to < 16) (hh : Hold (A.tx k).locks lo hi false) : (A.done k ⟨false, lo, hi, fr, to, rns A.W lo hi⟩).Inv (b + 1) := by
  have hr := h.run hk hs
  have hnt : ∀ i, tch ((A.tx k).ops ++ [⟨false, lo, hi, fr, to, rns A.W lo hi⟩]) i → tch (A.tx k).ops i := fun i ht => by
    rcases tch.app.1 ht with c | ⟨o, ho, c, _⟩
    · exact c
    · rw [List.mem_singleton.1 ho] at c; cases c
  refine h.upd (t := { A.tx k with ops := (A.tx k).ops ++ [⟨false, lo, hi, fr, to, rns A.W lo hi⟩] }) (q' := A.q) (W' := A.W) hr (.inl hs) (h.q1 hs hs) h.qnd (Nat.le_succ _) (h.lk k hk) (fun c => ?_) ?_ (fun j hj _ x hx y hy => h.fr j hj k hr x hx y hy) (fun o ho => ?_) ?_ (fun i hi hn => h.wU i fun j hj => ?_) (fun i ht => ?_) (fun j hj _ => h.wT j hj) ?_ ?_
  · dsimp only at c; omega
  · have := h.cnt
    dsimp only
    omega
  · rcases List.mem_append.1 ho with ho | ho
    · exact h.held k hr o ho
    · rw [List.mem_singleton.1 ho]
      exact hh
  · exact (h.rep k hr).snoc ⟨⟨h1, h2⟩, h3, fun _ => rns_congr h1 fun i a1 a2 => h.view' hr hh a1 a2, fun c => (by cases c), fun c => (by cases c)⟩
  · by_cases e : j = k
    · rw [e]
      exact fun c => hn (tch.app.2 (.inl c))
    · exact hi j hj e
  · have := hnt i ht
    rw [h.wT k hr i this]
    dsimp only
    rw [ap_snoc]
    rfl
  · have := h.rm
    dsimp only
    rw [mvs_app]
    show _ + 2 * (_ + (_ + 0)) ≤ _
    omega
  · have := h.ol k hk
    dsimp only
    rw [List.length_append]
    simp
    omega
theorem Inv.room (hr : A.room ≠ 0) : KL.nbd A.C A.size + 2 * A.moves + 2 ≤ 4096 := by
  unfold Bk.room at hr
  omega
theorem Inv.moved (h : A.Inv b) (hk : A.has k) (hs : (A.tx k).st = 1) {lo hi fr to : Nat} (h1 : lo ≤ hi) (h2 : hi ≤ A.size) (h3 : fr < 16 ∧ to < 16) (hh : Hold (A.tx k).locks lo hi true) (ha : A.allT lo hi fr) (hro : A.room ≠ 0) : (({ A with W := setf A.W lo hi to } : Bk).done k ⟨true, lo, hi, fr, to, []⟩).Inv (b + 1) := by
  have hr := h.run hk hs
  have hin : ∀ i, lo ≤ i → i < hi → tch ((A.tx k).ops ++ [⟨true, lo, hi, fr, to, []⟩]) i := fun i a1 a2 => tch.app.2 (.inr ⟨_, List.mem_singleton.2 rfl, rfl, a1, a2⟩)
  refine h.upd (t := { A.tx k with ops := (A.tx k).ops ++ [⟨true, lo, hi, fr, to, []⟩] }) (q' := A.q) (W' := setf A.W lo hi to) hr (.inl hs) (h.q1 hs hs) h.qnd (Nat.le_succ _) (h.lk k hk) (fun c => ?_) ?_ (fun j hj _ x hx y hy => h.fr j hj k hr x hx y hy) (fun o ho => ?_) ?_ (fun i hi hn => ?_) (fun i ht => ?_) (fun j hj e i ht => ?_) ?_ ?_
  · dsimp only at c; omega
  · have := h.cnt
    dsimp only
    omega
  · rcases List.mem_append.1 ho with ho | ho
    · exact h.held k hr o ho
    · rw [List.mem_singleton.1 ho]
      exact hh
  · exact (h.rep k hr).snoc ⟨⟨h1, h2⟩, h3, fun c => (by cases c), fun _ i a1 a2 => (h.view' hr hh a1 a2).symm.trans (ha i a1 a2), fun _ => rfl⟩
  · rw [setf_out fun c => hn (hin i c.1 c.2)]
    refine h.wU i fun j hj => ?_
    by_cases e : j = k
    · rw [e]
      exact fun c => hn (tch.app.2 (.inl c))
    · exact hi j hj e
  · dsimp only at ht ⊢
    rw [ap_snoc]
    by_cases c : lo ≤ i ∧ i < hi
    · rw [setf_in c, stp_in (o := ⟨true, lo, hi, fr, to, []⟩) ⟨rfl, c⟩]
    · rw [setf_out c, stp_out (o := ⟨true, lo, hi, fr, to, []⟩) fun d => c d.2]
      refine h.wT k hr i ?_
      rcases tch.app.1 ht with d | ⟨o, ho, _, d⟩
      · exact d
      · rw [List.mem_singleton.1 ho] at d
        exact absurd d c
  · rw [setf_out fun c => ?_]
    · exact h.wT j hj i ht
    · obtain ⟨x, hx, _, h5⟩ := hh i c.1 c.2
      exact h.apart hj hr e ht hx h5
  · have := Inv.room hro
    dsimp only
    rw [mvs_app]
    show _ + 2 * (_ + (_ + 1)) ≤ _
    omega
  · have := h.ol k hk
    dsimp only
    rw [List.length_append]
    simp
    omega
end
end Bk
end Go.KL
end

section
/- All calls keep what always holds (end); what the walks ask; plain. No program in sight. -/
namespace Go.KL
open Relation
namespace Bk
variable {A : Bk} {b : Nat}
structure Ok (A : Bk) (b : Nat) : Prop where
  inv : A.Inv b
  blk : A.Blk
  ac : A.Ac
theorem Ok.mono (h : A.Ok b) {c : Nat} (hc : b ≤ c) : A.Ok c := ⟨h.inv.mono hc, h.blk, h.ac⟩
theorem fin_tx {j : Nat} (h : A.Inv b) (hj : A.has j) : (A.fin.tx j = A.tx j ∧ (j ∈ A.q → j ∈ A.fin.q)) ∨ (j ∈ A.q ∧ j ∉ A.fin.q ∧ A.fin.tx j = ⟨1, (A.tx j).locks ++ [(A.tx j).req], Lk.zero, (A.tx j).ops⟩) :=
  gr_tx A.q A [] h.qnd (fun _ hk => h.qhas hk) hj
theorem fin_same : A.fin.size = A.size ∧ A.fin.C = A.C ∧ A.fin.W = A.W ∧ A.fin.log = A.log ∧ A.fin.ts.length = A.ts.length := gr_same A.q A []
section
variable {k : Nat}
theorem abort_same (hk : A.has k) : (A.abort k).size = A.size ∧ (A.abort k).C = A.C ∧ (A.abort k).log = A.log ∧ (A.abort k).ts.length = A.ts.length := by
  rw [abort_eq hk]
  obtain ⟨h1, h2, _, h4, h5⟩ := fin_same (A := A.ended k 4 Lk.zero A.C (KL.un A.W (A.tx k).ops) A.log)
  exact ⟨h1, h2, h4, h5.trans (by simp [ended])⟩
theorem abort_me (h : A.Inv b) (hk : A.has k) : (A.abort k).tx k = ⟨4, [], Lk.zero, []⟩ := by
  rw [abort_eq hk]
  have e := ended_tx (s := 4) (r := Lk.zero) (C := A.C) (W := KL.un A.W (A.tx k).ops) (lg := A.log) hk hk
  rw [if_pos rfl] at e
  rcases fin_tx (h.ab hk) (ended_has.2 hk) with ⟨h1, _⟩ | ⟨h1, _⟩
  · rw [h1, e]
  · exact absurd rfl (mem_ne.1 h1).2
theorem abort_tx {j : Nat} (h : A.Inv b) (hk : A.has k) (hj : A.has j) (hne : j ≠ k) : ((A.abort k).tx j = A.tx j ∧ (j ∈ A.q → j ∈ (A.abort k).q)) ∨ (j ∈ A.q ∧ j ∉ (A.abort k).q ∧ (A.abort k).tx j = ⟨1, (A.tx j).locks ++ [(A.tx j).req], Lk.zero, (A.tx j).ops⟩) := by
  rw [abort_eq hk]
  have e := ended_ne (s := 4) (r := Lk.zero) (C := A.C) (W := KL.un A.W (A.tx k).ops) (lg := A.log) hk hj hne
  rcases fin_tx (h.ab hk) (ended_has.2 hj) with ⟨h1, h2⟩ | ⟨h1, h2, h3⟩
  · exact .inl ⟨h1.trans e, fun c => h2 (mem_ne.2 ⟨c, hne⟩)⟩
  · rw [e] at h3
    exact .inr ⟨(mem_ne.1 h1).1, h2, h3⟩
structure Rs (A0 : Bk) (b k : Nat) (l : Lk) (A : Bk) : Prop where
  inv : A.Inv b
  blk : A.Blk
  w : A.AcW k
  hk : A.has k
  sm : A.size = A0.size ∧ A.C = A0.C ∧ A.log = A0.log ∧ A.ts.length = A0.ts.length
  me : ((A.tx k).st = 2 ∧ (A.tx k).req = l ∧ (A.tx k).locks = (A0.tx k).locks ∧ (A.tx k).ops = (A0.tx k).ops) ∨ ((A.tx k).st = 1 ∧ (A.tx k).locks = (A0.tx k).locks ++ [l] ∧ (A.tx k).ops = (A0.tx k).ops) ∨ (A.tx k).st = 4
theorem Rs.abort {A0 : Bk} {l : Lk} {v : Nat} (h : Rs A0 b k l A) (hs : (A.tx k).st = 2) (hv : A.has v) : Rs A0 b k l (A.abort v) := by
  obtain ⟨s1, s2, s3, s4⟩ := h.sm
  obtain ⟨t1, t2, t3, t4⟩ := abort_same hv
  have hi := h.inv.abort hv
  refine ⟨hi, ?_, h.w.sub hi (fun i c => (abort_has hv).1 c) fun i j hi he => abort_edge h.inv hv hi he, (abort_has hv).2 h.hk, ⟨t1.trans s1, t2.trans s2, t3.trans s3, t4.trans s4⟩, ?_⟩
  · rw [abort_eq hv]
    exact fin_blk (h.inv.ab hv)
  · by_cases e : k = v
    · subst e
      rw [abort_me h.inv hv]
      exact .inr (.inr rfl)
    · obtain ⟨_, m2, m3, m4⟩ : (A.tx k).st = 2 ∧ (A.tx k).req = l ∧ (A.tx k).locks = (A0.tx k).locks ∧ (A.tx k).ops = (A0.tx k).ops := by
        rcases h.me with c | c | c
        · exact c
        · omega
        · omega
      rcases abort_tx h.inv hv h.hk e with ⟨h1, _⟩ | ⟨_, _, h1⟩
      · rw [h1]; exact .inl ⟨hs, m2, m3, m4⟩
      · rw [h1, m2, m3, m4]
        exact .inr (.inl ⟨rfl, rfl, rfl⟩)
theorem IsVic.has (h : A.Inv b) {v : Nat} (hv : A.IsVic k v) (h0 : v ≠ 0) : A.has v := by
  rcases hv with ⟨c, _⟩ | ⟨_, ⟨c, _⟩, _⟩
  · exact absurd c h0
  · rcases R.sub c with c | c
    · exact h.has c
    · exact h.qhas c
theorem before_app {q : List Nat} {i j : Nat} (h : i ∈ q) : (q ++ [j]).takeWhile (fun x => !decide (x = i)) = q.takeWhile (fun x => !decide (x = i)) := tw_in h
theorem wait_tx {l : Lk} {j : Nat} (hk : A.has k) (hj : A.has j) : (A.wait k l).tx j = if j = k then ⟨2, (A.tx k).locks, l, (A.tx k).ops⟩ else A.tx j := tx_set (t := ⟨2, (A.tx k).locks, l, (A.tx k).ops⟩) hk hj
theorem wait_has {l : Lk} {j : Nat} : (A.wait k l).has j ↔ A.has j := has_set (t := ⟨2, (A.tx k).locks, l, (A.tx k).ops⟩)
theorem Ok.rs (h : A.Ok b) (hk : A.has k) (hs : (A.tx k).st = 1) {lo hi : Nat} {wr : Bool} (h1 : lo < hi) (h2 : hi ≤ A.size) (hc : A.count < 1024) (hf : A.free ⟨k, lo, hi, wr⟩ A.q = false) : Rs A b k ⟨k, lo, hi, wr⟩ (A.wait k ⟨k, lo, hi, wr⟩) := by
  have hi' := h.inv.wait hk hs (wr := wr) h1 h2 hc
  have hlk : ∀ m ∈ A.rn, m ∈ (A.wait k ⟨k, lo, hi, wr⟩).rn ∧ ∀ y ∈ (A.tx m).locks, y ∈ ((A.wait k ⟨k, lo, hi, wr⟩).tx m).locks := fun m hm => ⟨hm, fun y hy => by
    rw [wait_tx hk (h.inv.has hm)]
    split
    · rename_i e; rw [e] at hy; exact hy
    · exact hy⟩
  have hrq : ∀ m ∈ A.q, (A.wait k ⟨k, lo, hi, wr⟩).tx m = A.tx m := fun m hm => by
    rw [wait_tx hk (h.inv.qhas hm), if_neg (show m ≠ k from fun e => h.inv.noq hs (e ▸ hm))]
  refine ⟨hi', BlkF.snoc.2 ⟨?_, ?_⟩, fun j hj hcy => ?_, wait_has.2 hk, ⟨rfl, rfl, rfl, by simp [Bk.wait, Bk.setT]⟩, ?_⟩
  · exact BlkF.mono (A := A) (B := A.wait k ⟨k, lo, hi, wr⟩) hlk h.blk fun m hm => by rw [hrq m hm]
  · rw [wait_tx hk hk, if_pos rfl]
    exact free_mono hf hlk fun m hm => by rw [hrq m hm]
  · refine h.ac j (wait_has.1 hj) (trans_sub (H := A.has) (fun _ _ c => wait_has.1 (E_has hi' c.1)) (fun i m hi c => ?_) (wait_has.1 hj) hcy).1
    obtain ⟨c1, c2⟩ := c
    obtain ⟨c3, c4⟩ := E_iff.1 c1
    rw [wait_tx hk hi, if_neg c2] at c3 c4
    have hiq : i ∈ A.q := (h.inv.q i).2 ⟨hi, c3⟩
    refine E_iff.2 ⟨c3, ?_⟩
    rcases c4 with ⟨hm, x, hx, hcf⟩ | ⟨hm, hcf⟩
    · refine .inl ⟨hm, x, ?_, hcf⟩
      rw [wait_tx hk (h.inv.has hm)] at hx
      split at hx
      · rename_i e; rw [e]; exact hx
      · exact hx
    · have hm2 : m ∈ (A.q ++ [k]).takeWhile (fun x => !decide (x = i)) := hm
      rw [before_app hiq] at hm2
      rw [hrq m ((List.takeWhile_sublist _).subset hm2)] at hcf
      exact .inr ⟨hm2, hcf⟩
  · rw [wait_tx hk hk, if_pos rfl]
    exact .inl ⟨rfl, rfl, rfl, rfl⟩
structure Got (A : Bk) (b k lo hi : Nat) (wr : Bool) (B : Bk) (e : Nat) : Prop where
  ok : B.Ok b
  hk : B.has k
  sm : B.size = A.size ∧ B.C = A.C ∧ B.log = A.log ∧ B.ts.length = A.ts.length
  z : e = 0 → (B.tx k).st = 1 ∧ Hold (B.tx k).locks lo hi wr ∧ (B.tx k).ops = (A.tx k).ops
theorem Rs.res {A0 B : Bk} {lo hi e : Nat} {wr : Bool} (hr : Res k A B e) : Rs A0 b k ⟨k, lo, hi, wr⟩ A → Got A0 b k lo hi wr B e := by
  induction hr with
  | @free A hs =>
    intro h
    refine ⟨⟨h.inv, h.blk, h.w.ac' (by omega)⟩, h.hk, h.sm, fun _ => ⟨hs, ?_⟩⟩
    rcases h.me with c | ⟨_, c2, c3⟩ | c
    · omega
    · rw [c2, c3]
      exact ⟨Hold.last, rfl⟩
    · omega
  | @gone A hs =>
    intro h
    exact ⟨⟨h.inv, h.blk, h.w.ac' (by omega)⟩, h.hk, h.sm, fun c => by cases c⟩
  | @wait A hs hv =>
    intro h
    refine ⟨⟨h.inv, h.blk, h.w.ac fun c => ?_⟩, h.hk, h.sm, fun c => by cases c⟩
    rcases hv with ⟨_, hv⟩ | ⟨h0, _⟩
    · exact hv k ⟨R_iff.2 c, R_iff.2 c⟩
    · exact absurd rfl h0
  | @next A B v e hs hv h0 _ ih =>
    intro h
    exact ih (h.abort hs (hv.has h.inv h0))
theorem Ok.obt (h : A.Ok b) (hk : A.has k) (hs : (A.tx k).st = 1) {lo hi e : Nat} {wr : Bool} {B : Bk} (h2 : hi ≤ A.size) (ho : A.Obt k lo hi wr B e) : Got A b k lo hi wr B e := by
  cases ho with
  | has hh => exact ⟨h, hk, ⟨rfl, rfl, rfl, rfl⟩, fun _ => ⟨hs, hh, rfl⟩⟩
  | full _ _ => exact ⟨h, hk, ⟨rfl, rfl, rfl, rfl⟩, fun c => by cases c⟩
  | got hn hc hf =>
    have hi' := h.inv.got hk hs (Hold.ne hn) h2 hc hf
    change Got A b k lo hi wr (A.setT k ⟨(A.tx k).st, (A.tx k).locks ++ [⟨k, lo, hi, wr⟩], (A.tx k).req, (A.tx k).ops⟩) 0
    change (A.setT k ⟨(A.tx k).st, (A.tx k).locks ++ [⟨k, lo, hi, wr⟩], (A.tx k).req, (A.tx k).ops⟩).Inv b at hi'
    obtain ⟨D, hD⟩ : ∃ D, D = A.setT k ⟨(A.tx k).st, (A.tx k).locks ++ [⟨k, lo, hi, wr⟩], (A.tx k).req, (A.tx k).ops⟩ := ⟨_, rfl⟩
    have hx : ∀ {j}, A.has j → D.tx j = if j = k then ⟨(A.tx k).st, (A.tx k).locks ++ [⟨k, lo, hi, wr⟩], (A.tx k).req, (A.tx k).ops⟩ else A.tx j := fun hj => by rw [hD]; exact tx_set hk hj
    have hH : ∀ {j}, D.has j ↔ A.has j := by rw [hD]; exact has_set
    have hDq : D.q = A.q := by rw [hD]; rfl
    have hDr : D.rn = A.rn := by rw [hD]; rfl
    have hDs : D.size = A.size ∧ D.C = A.C ∧ D.log = A.log ∧ D.ts.length = A.ts.length := by rw [hD]; exact ⟨rfl, rfl, rfl, by simp [Bk.setT]⟩
    rw [← hD] at hi' ⊢
    have hq : ∀ m ∈ A.q, D.tx m = A.tx m := fun m hm => by
      rw [hx (h.inv.qhas hm), if_neg (show m ≠ k from fun e => h.inv.noq hs (e ▸ hm))]
    obtain ⟨_, f2⟩ := free_iff.1 hf
    refine ⟨⟨hi', ?_, h.ac.sub hi' (fun i c => hH.1 c) fun i j hi he => ?_⟩, hH.2 hk, hDs, fun _ => ?_⟩
    · unfold Blk
      rw [hDq]
      refine BlkF.mono (A := A) (B := D) (fun m hm => ⟨by rw [hDr]; exact hm, fun y hy => ?_⟩) h.blk fun m hm => by rw [hq m hm]
      rw [hx (h.inv.has hm)]
      split
      · rename_i e; rw [e] at hy; exact List.mem_append_left _ hy
      · exact hy
    · obtain ⟨c3, c4⟩ := E_iff.1 he
      have hik : i ≠ k := fun e => by
        rw [e, hx hk, if_pos rfl] at c3
        dsimp only at c3
        omega
      rw [hDr, hDq] at c4
      rw [hx hi, if_neg hik] at c3 c4
      have hiq : i ∈ A.q := (h.inv.q i).2 ⟨hi, c3⟩
      refine E_iff.2 ⟨c3, ?_⟩
      rcases c4 with ⟨hm, x, hxx, hcf⟩ | ⟨hm, hcf⟩
      · rw [hx (h.inv.has hm)] at hxx
        split at hxx
        · rename_i e
          rcases List.mem_append.1 hxx with hxx | hxx
          · exact .inl ⟨hm, x, by rw [e]; exact hxx, hcf⟩
          · rw [List.mem_singleton.1 hxx, cfl_comm, f2 i hiq] at hcf
            cases hcf
        · exact .inl ⟨hm, x, hxx, hcf⟩
      · rw [hq j ((List.takeWhile_sublist _).subset hm)] at hcf
        exact .inr ⟨hm, hcf⟩
    · rw [hx hk, if_pos rfl]
      exact ⟨hs, Hold.last, rfl⟩
  | res hn hc hf hr => exact (h.rs hk hs (Hold.ne hn) h2 hc hf).res hr
theorem Ok.ops (h : A.Ok b) (hk : A.has k) {o : Oa} {W : Nat → Nat} (hI : (({ A with W := W } : Bk).done k o).Inv (b + 1)) : (({ A with W := W } : Bk).done k o).Ok (b + 1) := by
  have hx : ∀ {j}, A.has j → (({ A with W := W } : Bk).done k o).tx j = if j = k then { A.tx k with ops := (A.tx k).ops ++ [o] } else A.tx j := fun hj => tx_set (t := { A.tx k with ops := (A.tx k).ops ++ [o] }) hk hj
  have hl : ∀ {j}, A.has j → ((({ A with W := W } : Bk).done k o).tx j).locks = (A.tx j).locks ∧ ((({ A with W := W } : Bk).done k o).tx j).req = (A.tx j).req ∧ ((({ A with W := W } : Bk).done k o).tx j).st = (A.tx j).st := fun {j} hj => by
    rw [hx hj]
    split
    · rename_i e; rw [e]; exact ⟨rfl, rfl, rfl⟩
    · exact ⟨rfl, rfl, rfl⟩
  refine ⟨hI, ?_, h.ac.sub hI (fun i c => has_set.1 c) fun i j hi he => ?_⟩
  · exact BlkF.mono (A := A) (B := ({ A with W := W } : Bk).done k o) (fun m hm => ⟨hm, fun y hy => by rw [(hl (h.inv.has hm)).1]; exact hy⟩) h.blk fun m hm => (hl (h.inv.qhas hm)).2.1
  · obtain ⟨c3, c4⟩ := E_iff.1 he
    obtain ⟨_, e2, e3⟩ := hl hi
    rw [e3] at c3
    rw [e2] at c4
    refine E_iff.2 ⟨c3, ?_⟩
    rcases c4 with ⟨hm, x, hxx, hcf⟩ | ⟨hm, hcf⟩
    · rw [(hl (h.inv.has hm)).1] at hxx
      exact .inl ⟨hm, x, hxx, hcf⟩
    · rw [(hl (h.inv.qhas ((List.takeWhile_sublist _).subset hm))).2.1] at hcf
      exact .inr ⟨hm, hcf⟩
theorem Ok.looked (h : A.Ok b) (hk : A.has k) (hs : (A.tx k).st = 1) {lo hi fr to : Nat} (h1 : lo ≤ hi) (h2 : hi ≤ A.size) (h3 : fr < 16 ∧ to < 16) (hh : Hold (A.tx k).locks lo hi false) : (A.done k ⟨false, lo, hi, fr, to, rns A.W lo hi⟩).Ok (b + 1) := h.ops (W := A.W) hk (h.inv.looked hk hs h1 h2 h3 hh)
theorem Ok.moved (h : A.Ok b) (hk : A.has k) (hs : (A.tx k).st = 1) {lo hi fr to : Nat} (h1 : lo ≤ hi) (h2 : hi ≤ A.size) (h3 : fr < 16 ∧ to < 16) (hh : Hold (A.tx k).locks lo hi true) (ha : A.allT lo hi fr) (hro : A.room ≠ 0) : (({ A with W := setf A.W lo hi to } : Bk).done k ⟨true, lo, hi, fr, to, []⟩).Ok (b + 1) := h.ops hk (h.inv.moved hk hs h1 h2 h3 hh ha hro)
theorem Ok.perf (h : A.Ok b) {tx lo hi fr to : Int} {mv : Bool} {B : Bk} {e : Nat} {rs : List Rn} (hp : A.Perf tx mv lo hi fr to B e rs) : B.Ok (b + 1) ∧ B.size = A.size ∧ B.C = A.C ∧ B.log = A.log ∧ B.ts.length = A.ts.length := by
  cases hp with
  | none _ => exact ⟨h.mono (Nat.le_succ _), rfl, rfl, rfl, rfl⟩
  | aborted _ _ _ => exact ⟨h.mono (Nat.le_succ _), rfl, rfl, rfl, rfl⟩
  | committed _ _ _ => exact ⟨h.mono (Nat.le_succ _), rfl, rfl, rfl, rfl⟩
  | waiting _ _ _ => exact ⟨h.mono (Nat.le_succ _), rfl, rfl, rfl, rfl⟩
  | range _ _ _ _ => exact ⟨h.mono (Nat.le_succ _), rfl, rfl, rfl, rfl⟩
  | arg _ _ _ _ _ => exact ⟨h.mono (Nat.le_succ _), rfl, rfl, rfl, rfl⟩
  | no _ hh hs _ _ _ _ hr _ ho _ =>
    have g := h.obt hh hs hr.2 ho
    exact ⟨g.ok.mono (Nat.le_succ _), g.sm⟩
  | look _ hh hs _ _ _ _ hr ha ho hmv =>
    have g := h.obt hh hs hr.2 ho
    obtain ⟨g1, g2, _⟩ := g.z rfl
    obtain ⟨s1, s2, s3, s4⟩ := g.sm
    subst hmv
    refine ⟨g.ok.looked g.hk g1 hr.1 (by rw [s1]; exact hr.2) ha g2, s1, s2, s3, ?_⟩
    rw [← s4]
    simp [Bk.done, Bk.setT]
  | move _ hh hs _ _ _ _ hr ha ho hmv hd =>
    have g := h.obt hh hs hr.2 ho
    obtain ⟨g1, g2, _⟩ := g.z rfl
    obtain ⟨s1, s2, s3, s4⟩ := g.sm
    subst hmv
    rcases hd with ⟨_, rfl, _⟩ | ⟨_, _, rfl, _⟩ | ⟨ha1, hro, rfl, _⟩
    · exact ⟨g.ok.mono (Nat.le_succ _), g.sm⟩
    · exact ⟨g.ok.mono (Nat.le_succ _), g.sm⟩
    · refine ⟨g.ok.moved g.hk g1 hr.1 (by rw [s1]; exact hr.2) ha g2 ha1 hro, s1, s2, s3, ?_⟩
      rw [← s4]
      simp [Bk.done, Bk.setT]
theorem Ok.pre (h : A.Ok b) (hb : b < 100000) {tx lo hi : Int} {mv : Bool} : A.Pre tx lo hi mv := by
  refine ⟨h.inv.good hb, h.inv.st, fun k l m _ _ _ hk hs h1 h2 => ⟨⟨fun D => Rs A b k ⟨k, l, m, mv⟩ D, fun D hD => hD.inv.good hb, fun D v hD hs2 hv h0 => hD.abort hs2 (hv.has hD.inv h0), fun hn hc hf => h.rs hk hs (Hold.ne hn) h2 hc hf, fun D hD => ?_⟩, fun B hB => ?_⟩⟩
  · rcases hD.me with c | c | c
    · exact .inr (.inl c.1)
    · exact .inl c.1
    · exact .inr (.inr c)
  · have g := h.obt hk hs h2 hB
    have gi := g.ok.inv
    refine ⟨g.sm.1, gi.good hb, Nat.le_trans gi.nbdW gi.rm, gi.rm, fun hro to => ?_⟩
    have h3 := nbd_set2 B.W l m to B.size
    have h4 := gi.nbdW
    have h5 := Inv.room hro
    omega
theorem Ok.abort (h : A.Ok b) (hk : A.has k) : (A.abort k).Ok b := by
  have hi := h.inv.abort hk
  refine ⟨hi, ?_, h.ac.sub hi (fun i c => (abort_has hk).1 c) fun i j hi he => abort_edge h.inv hk hi he⟩
  rw [abort_eq hk]
  exact fin_blk (h.inv.ab hk)
theorem Ok.commit (h : A.Ok b) (hr : k ∈ A.rn) : (A.commit k).Ok b := by
  have hi := h.inv.commit hr
  refine ⟨hi, ?_, h.ac.sub hi (fun i c => (commit_has (h.inv.has hr)).1 c) fun i j hi he => commit_edge h.inv hr hi he⟩
  rw [commit_eq (h.inv.has hr)]
  exact fin_blk (h.inv.cm (h.inv.has hr) hr)
end
theorem begin_has {j : Nat} : A.begin.has j ↔ A.has j ∨ j = A.ts.length + 1 := by
  unfold Bk.has Bk.begin
  simp
  omega
theorem begin_tx {j : Nat} (hj : A.has j) : A.begin.tx j = A.tx j := by
  unfold Bk.has at hj
  unfold Bk.tx Bk.begin
  rw [List.getD_eq_getElem?_getD, List.getD_eq_getElem?_getD, List.getElem?_append_left (by omega)]
theorem begin_new : A.begin.tx (A.ts.length + 1) = Tx.new := by
  unfold Bk.tx Bk.begin
  rw [List.getD_eq_getElem?_getD, List.getElem?_append_right (by omega)]
  simp
theorem Inv.begin (h : A.Inv b) (hl : A.rn.length < 64) : A.begin.Inv b := by
  have hno : ¬ A.has (A.ts.length + 1) := fun c => by unfold Bk.has at c; omega
  have hR : ∀ {j}, j ∈ A.begin.rn ↔ j ∈ A.rn ∨ j = A.ts.length + 1 := by
    intro j
    show j ∈ A.rn ++ [A.ts.length + 1] ↔ _
    simp
  have hnr : A.ts.length + 1 ∉ A.rn := fun c => hno (h.has c)
  have hnq : A.ts.length + 1 ∉ A.q := fun c => hno (h.qhas c)
  have hO : ∀ {j}, j ∈ A.begin.rn → (j ∈ A.rn ∧ A.begin.tx j = A.tx j) ∨ (j = A.ts.length + 1 ∧ A.begin.tx j = Tx.new) := fun hj => by
    rcases hR.1 hj with c | c
    · exact .inl ⟨c, begin_tx (h.has c)⟩
    · exact .inr ⟨c, by rw [c]; exact begin_new⟩
  have hs : ∀ f : Tx → Nat, (A.begin.rn.map fun k => f (A.begin.tx k)).sum = (A.rn.map fun k => f (A.tx k)).sum + f Tx.new := fun f => by
    show ((A.rn ++ [A.ts.length + 1]).map _).sum = _
    rw [List.map_append, List.sum_append_nat, sum_congr (g := fun k => f (A.tx k)) fun j hj => by rw [begin_tx (h.has hj)]]
    simp [begin_new]
  refine { sz := h.sz, rn := fun j => ?_, rnd := ?_, rnl := ?_, q := fun j => ?_, qnd := h.qnd, st := fun j hj => ?_, off := fun j hj hn => ?_, lk := fun j hj x hx => ?_, rq := fun j hj => ?_, cnt := ?_, fr := fun i hi j hj x hx y hy => ?_, held := fun j hj o ho => ?_, rep := fun j hj => ?_, wU := fun i hi => ?_, wT := fun j hj i ht => ?_, rm := ?_, ol := fun j hj => ?_ }
  · rw [hR, begin_has]
    by_cases e : j = A.ts.length + 1
    · subst e
      rw [begin_new]
      simp [Tx.new]
    · rw [or_iff_left e, or_iff_left e, h.rn j]
      exact and_congr_right fun hj => by rw [begin_tx hj]
  · refine List.nodup_append.2 ⟨h.rnd, by simp, fun x hx y hy => ?_⟩
    rw [List.mem_singleton.1 hy]
    exact fun e => hnr (e ▸ hx)
  · show (A.rn ++ [_]).length ≤ 64
    rw [List.length_append]
    simp
    omega
  · show j ∈ A.q ↔ _
    rw [begin_has]
    by_cases e : j = A.ts.length + 1
    · subst e
      rw [begin_new]
      simp [Tx.new, hnq]
    · rw [or_iff_left e, h.q j]
      exact and_congr_right fun hj => by rw [begin_tx hj]
  · rcases begin_has.1 hj with c | c
    · rw [begin_tx c]; exact h.st j c
    · rw [c, begin_new]; exact .inl rfl
  · rcases begin_has.1 hj with c | c
    · rw [begin_tx c]
      exact h.off j c fun d => hn (hR.2 (.inl d))
    · rw [c, begin_new]; exact ⟨rfl, rfl⟩
  · rcases begin_has.1 hj with c | c
    · rw [begin_tx c] at hx
      exact h.lk j c x hx
    · rw [c, begin_new] at hx
      simp [Tx.new] at hx
  · rw [begin_tx (h.qhas hj)]
    exact h.rq j hj
  · have h1 := hs fun t => t.locks.length
    have h2 := h.cnt
    unfold Bk.count at h2 ⊢
    rw [h1]
    show _ + 0 + A.q.length ≤ 1024
    omega
  · rcases hO hi with ⟨a1, a2⟩ | ⟨_, a2⟩
    · rcases hO hj with ⟨b1, b2⟩ | ⟨_, b2⟩
      · rw [a2] at hx
        rw [b2] at hy
        exact h.fr i a1 j b1 x hx y hy
      · rw [b2] at hy
        simp [Tx.new] at hy
    · rw [a2] at hx
      simp [Tx.new] at hx
  · rcases hO hj with ⟨a1, a2⟩ | ⟨_, a2⟩
    · rw [a2] at ho ⊢
      exact h.held j a1 o ho
    · rw [a2] at ho
      simp [Tx.new] at ho
  · rcases hO hj with ⟨a1, a2⟩ | ⟨_, a2⟩
    · rw [a2]; exact h.rep j a1
    · rw [a2]; exact trivial
  · refine h.wU i fun j hj ht => hi j (hR.2 (.inl hj)) ?_
    rw [begin_tx (h.has hj)]
    exact ht
  · rcases hO hj with ⟨a1, a2⟩ | ⟨_, a2⟩
    · rw [a2] at ht ⊢
      exact h.wT j a1 i ht
    · rw [a2] at ht
      exact absurd ht tch.nil
  · have h1 := hs fun t => mvs t.ops
    have h2 := h.rm
    unfold Bk.moves at h2 ⊢
    rw [h1]
    show KL.nbd A.C A.size + 2 * (_ + 0) ≤ 4096
    exact h2
  · rcases begin_has.1 hj with c | c
    · rw [begin_tx c]; exact h.ol j c
    · rw [c, begin_new]; exact Nat.zero_le _
theorem Ok.begin (h : A.Ok b) (hl : A.rn.length < 64) : A.begin.Ok b := by
  have hi := h.inv.begin hl
  have hno : ¬ A.has (A.ts.length + 1) := fun c => by unfold Bk.has at c; omega
  refine ⟨hi, ?_, fun k hk hc => ?_⟩
  · refine BlkF.mono (A := A) (B := A.begin) (fun m hm => ⟨List.mem_append_left _ hm, fun y hy => ?_⟩) h.blk fun m hm => ?_
    · rw [begin_tx (h.inv.has hm)]; exact hy
    · have hm' : m ∈ A.q := hm
      rw [begin_tx (h.inv.qhas hm')]
  · have he : ∀ i j, A.begin.has i → A.begin.E i j → A.has i ∧ A.has j ∧ A.E i j := fun i j hi' he => by
      obtain ⟨c1, c2⟩ := E_iff.1 he
      have hia : A.has i := by
        rcases begin_has.1 hi' with c | c
        · exact c
        · rw [c, begin_new] at c1
          cases c1
      rw [begin_tx hia] at c1 c2
      rcases c2 with ⟨hm, x, hxx, hcf⟩ | ⟨hm, hcf⟩
      · rcases List.mem_append.1 (show j ∈ A.rn ++ [A.ts.length + 1] from hm) with c | c
        · rw [begin_tx (h.inv.has c)] at hxx
          exact ⟨hia, h.inv.has c, E_iff.2 ⟨c1, .inl ⟨c, x, hxx, hcf⟩⟩⟩
        · rw [List.mem_singleton.1 c, begin_new] at hxx
          simp [Tx.new] at hxx
      · have hmq : j ∈ A.q := (List.takeWhile_sublist _).subset hm
        rw [begin_tx (h.inv.qhas hmq)] at hcf
        exact ⟨hia, h.inv.qhas hmq, E_iff.2 ⟨c1, .inr ⟨hm, hcf⟩⟩⟩
    have hka : A.has k := by
      have : ∀ {i j}, TransGen A.begin.E i j → A.begin.has i → A.has i := fun c hi => by
        induction c with
        | single c => exact (he _ _ hi c).1
        | tail _ _ ih => exact ih
      exact this hc hk
    exact h.ac k hka (trans_sub (H := A.begin.has) (fun _ _ c => E_has hi c) (fun i j hi c => (he i j hi c).2.2) hk hc).1
theorem fresh_ok {n : Nat} {f : Nat → Nat} (h1 : 0 < n ∧ n ≤ 1099511627776) (h2 : KL.nbd f n ≤ 4096) : (fresh n f).Ok 0 := by
  have hno : ∀ k, ¬ (fresh n f).has k := fun k hk => by
    have h1 := hk.1
    have h2 : k ≤ 0 := hk.2
    omega
  refine ⟨{ sz := h1, rn := fun j => ⟨fun h => by simp [fresh] at h, fun h => absurd h.1 (hno j)⟩, rnd := List.nodup_nil, rnl := Nat.zero_le _, q := fun j => ⟨fun h => by simp [fresh] at h, fun h => absurd h.1 (hno j)⟩, qnd := List.nodup_nil, st := fun j hj => absurd hj (hno j), off := fun j hj => absurd hj (hno j), lk := fun j hj => absurd hj (hno j), rq := fun j hj => by simp [fresh] at hj, cnt := Nat.zero_le _, fr := fun j hj => by simp [fresh] at hj, held := fun j hj => by simp [fresh] at hj, rep := fun j hj => by simp [fresh] at hj, wU := fun _ _ => rfl, wT := fun j hj => by simp [fresh] at hj, rm := h2, ol := fun j hj => absurd hj (hno j) }, trivial, fun k hk => absurd hk (hno k)⟩
theorem Ok.abt (h : A.Ok b) {tx : Int} {B : Bk} {e : Nat} (ha : A.Abt tx B e) : B.Ok b := by
  rcases ha with ⟨_, rfl, _⟩ | ⟨k, _, hk, ⟨_, rfl, _⟩ | ⟨_, rfl, _⟩ | ⟨_, _, rfl, _⟩⟩
  · exact h
  · exact h
  · exact h
  · exact h.abort hk
theorem Ok.cmt (h : A.Ok b) {tx : Int} {B : Bk} {n e : Nat} (ha : A.Cmt tx B n e) : B.Ok b := by
  rcases ha with ⟨_, rfl, _⟩ | ⟨k, _, hk, ⟨_, rfl, _⟩ | ⟨_, rfl, _⟩ | ⟨_, rfl, _⟩ | ⟨c2, c3, c4, rfl, _⟩⟩
  · exact h
  · exact h
  · exact h
  · exact h
  · refine h.commit (h.inv.run hk ?_)
    have := h.inv.st k hk
    omega
end Bk
end Go.KL
end

section
/- Walks: Queue, begun, call. -/
namespace Go.KL
open Go.Proofs
theorem K.dropMid {W w : World} {A : List Chunk} {d : Chunk} {N : List Chunk} (h : K W (A ++ (d :: N)) w) : K W (A ++ N) w := (K.bckN (A := A) (B := [d]) (N := N) h).tail
attribute [local irreducible] SC St Fin Sq Ylds Doos Sets Enters Spec CellIs CellsAre Then Ret Rnd Chn resOK ints bools recs arr
section
variable {g : Bg} {W : World} {N : List Chunk}
def Bk.Cl (A : Bk) (f : Nat → Int) (B : Bk) : Prop :=
  (f 0 % 6 = 0 ∧ ((64 ≤ A.rn.length ∧ B = A) ∨ (A.rn.length < 64 ∧ B = A.begin))) ∨ ((f 0 % 6 = 1 ∨ f 0 % 6 = 2) ∧ ∃ e rs, A.Perf (f 1) false (f 2) (f 3) 0 0 B e rs) ∨ (f 0 % 6 = 3 ∧ ∃ e rs, A.Perf (f 1) true (f 2) (f 3) (f 4) (f 5) B e rs) ∨ (f 0 % 6 = 4 ∧ ∃ n e, A.Cmt (f 1) B n e) ∨ (f 0 % 6 = 5 ∧ ∃ e, A.Abt (f 1) B e)
theorem Bk.Ok.cl {A B : Bk} {b : Nat} {f : Nat → Int} (h : A.Ok b) (hc : A.Cl f B) : B.Ok (b + 1) := by
  rcases hc with ⟨_, ⟨_, rfl⟩ | ⟨h1, rfl⟩⟩ | ⟨_, e, rs, hp⟩ | ⟨_, e, rs, hp⟩ | ⟨_, n, e, hp⟩ | ⟨_, e, hp⟩
  · exact h.mono (Nat.le_succ _)
  · exact (h.begin h1).mono (Nat.le_succ _)
  · exact (h.perf hp).1
  · exact (h.perf hp).1
  · exact (h.cmt hp).mono (Nat.le_succ _)
  · exact (h.abt hp).mono (Nat.le_succ _)
end
end Go.KL
end

section
/- Walks: few; Log of a book that has committed nothing. -/
namespace Go.KL
open Go.Proofs
attribute [local irreducible] SC St Fin Sq Ylds Doos Sets Enters Spec CellIs CellsAre Then Ret Rnd Chn resOK ints bools recs arr
section
variable {g : Bg} {W : World} {N : List Chunk}
set_option maxRecDepth 10000 in
theorem fewC_spec {tv lv : Value} {nt nl s s' : Nat} {G G' : Nat → Nat → Value} (hT : SlV (K W N) tv nt s G) (hL : SlV (K W N) lv nl s' G') : Spec Tryz.prog 21 #[tv, lv] (K W N) (fun _ : Unit => .bool (decide (nt ≤ 60 ∧ nl ≤ 60))) (fun _ => K W N) := by
  refine enter (args := [_, _]) Tryz.func21 rfl Tryz.ntmps21 rfl ?_
  by_cases c1 : nt ≤ 60
  · by_cases c2 : nl ≤ 60
    · rw [decide_eq_true (show nt ≤ 60 ∧ nl ≤ 60 from ⟨c1, c2⟩)]
      refine csr ?_
      refine sa ?_
      refine snf ?_
      refine csr ?_
      refine sm ?_
      refine sy (y_lenV Tryz.tab rfl (hT) rfl) ?_
      refine sy (y_T (y_leq rfl rfl) (by omega)) ?_
      refine sm ?_
      refine sm ?_
      refine sy (y_lenV Tryz.tab rfl (hL) rfl) ?_
      refine sy (y_T (y_leq rfl rfl) (by omega)) ?_
      refine spT ?_
      refine sa ?_
      refine snf ?_
      refine c_ret ?_
      exact f_ret () (res1 rfl rfl) (fun w h => h)
    · rw [decide_eq_false (show ¬ (nt ≤ 60 ∧ nl ≤ 60) from fun h => c2 h.2)]
      refine csr ?_
      refine sa ?_
      refine snf ?_
      refine csr ?_
      refine sm ?_
      refine sy (y_lenV Tryz.tab rfl (hT) rfl) ?_
      refine sy (y_T (y_leq rfl rfl) (by omega)) ?_
      refine sm ?_
      refine sm ?_
      refine sy (y_lenV Tryz.tab rfl (hL) rfl) ?_
      refine sy (y_F (y_leq rfl rfl) (by omega)) ?_
      refine spT ?_
      refine sa ?_
      refine snf ?_
      refine c_ret ?_
      exact f_ret () (res1 rfl rfl) (fun w h => h)
  · rw [decide_eq_false (show ¬ (nt ≤ 60 ∧ nl ≤ 60) from fun h => c1 h.1)]
    refine csr ?_
    refine sa ?_
    refine snf ?_
    refine csr ?_
    refine sm ?_
    refine sy (y_lenV Tryz.tab rfl (hT) rfl) ?_
    refine sy (y_F (y_leq rfl rfl) (by omega)) ?_
    refine sm ?_
    iterate 3 refine s_skip rfl rfl rfl ?_
    refine spF ?_
    refine sa ?_
    refine snf ?_
    refine c_ret ?_
    exact f_ret () (res1 rfl rfl) (fun w h => h)
theorem runsNow {lv : Value} {n : Nat} {f : Nat → Nat} (hB : g.OK) (hz : g.size = n) (hC : g.C = f) (h : RMp (K W N) lv n f) : Spec Tryz.prog 24 #[.agg #[g.cv], .agg #[.int .i64 (n : Nat), lv]] (K W (g.L ++ N)) (fun _ : Unit => .bool true) (fun _ => K W (g.L ++ N)) := by
  have hM := hB.mC
  rw [hz, hC] at hM
  exact runsEq_spec (p := g.p) (N := g.L.tail ++ N) hM h.nb (h.cls fun w h => K.bck h)
end
end Go.KL
end

section
/- Some transaction can always go on; how many calls there are; plain. No program in sight. -/
namespace Go.KL
open Relation
open Classical in
theorem cyc {E : Nat → Nat → Prop} : ∀ (n : Nat) (l : List Nat), l.length ≤ n → l ≠ [] → (∀ x ∈ l, ∃ y ∈ l, E x y) → ∃ x ∈ l, TransGen E x x
  | 0, l, h, h0, _ => absurd (List.eq_nil_of_length_eq_zero (by omega)) h0
  | n + 1, l, h, h0, hE => by
    obtain ⟨x, hx⟩ : ∃ x, x ∈ l := by
      cases l with
      | nil => exact absurd rfl h0
      | cons x l => exact ⟨x, List.mem_cons_self ..⟩
    by_cases c : TransGen E x x
    · exact ⟨x, hx, c⟩
    · have hS : ∀ y, y ∈ l.filter (fun y => decide (TransGen E x y)) ↔ y ∈ l ∧ TransGen E x y := fun y => by simp
      obtain ⟨y, hy, hxy⟩ := hE x hx
      have hlt : (l.filter fun y => decide (TransGen E x y)).length < l.length := by
        have h1 := List.length_filter_le (fun y => decide (TransGen E x y)) l
        by_cases e : (l.filter fun y => decide (TransGen E x y)).length = l.length
        · have := List.length_filter_eq_length_iff.1 e x hx
          exact absurd (of_decide_eq_true this) c
        · omega
      obtain ⟨z, hz, hzz⟩ := cyc (E := E) n (l.filter fun y => decide (TransGen E x y)) (by omega) (fun e => by
        have := (hS y).2 ⟨hy, .single hxy⟩
        rw [e] at this
        simp at this) (fun z hz => by
        obtain ⟨hz1, hz2⟩ := (hS z).1 hz
        obtain ⟨u, hu, hzu⟩ := hE z hz1
        exact ⟨u, (hS u).2 ⟨hu, .tail hz2 hzu⟩, hzu⟩)
      exact ⟨z, ((hS z).1 hz).1, hzz⟩
namespace Bk
variable {A : Bk} {b : Nat}
theorem Ok.active (h : A.Ok b) (hr : A.rn ≠ []) : ∃ k, A.has k ∧ (A.tx k).st = 1 := by
  refine Classical.byContradiction fun hn => ?_
  have h2 : ∀ k ∈ A.rn, ∃ j ∈ A.rn, A.E k j := fun k hk => by
    have hs : (A.tx k).st = 2 := by
      rcases ((h.inv.rn k).1 hk).2 with c | c
      · exact absurd ⟨k, h.inv.has hk, c⟩ hn
      · exact c
    have hq : k ∈ A.q := (h.inv.q k).2 ⟨h.inv.has hk, hs⟩
    have hb := BlkF.mem h.blk hq
    rw [List.nil_append] at hb
    have : ∃ j, A.E k j := by
      refine Classical.byContradiction fun hne => ?_
      have : A.free (A.tx k).req (A.q.takeWhile (fun j => !decide (j = k))) = true := free_iff.2 ⟨fun m hm y hy => ?_, fun m hm => ?_⟩
      · rw [hb] at this
        cases this
      · cases c : cfl y (A.tx k).req with
        | false => rfl
        | true => exact absurd ⟨m, E_iff.2 ⟨hs, .inl ⟨hm, y, hy, c⟩⟩⟩ hne
      · cases c : cfl (A.tx m).req (A.tx k).req with
        | false => rfl
        | true => exact absurd ⟨m, E_iff.2 ⟨hs, .inr ⟨hm, c⟩⟩⟩ hne
    obtain ⟨j, hj⟩ := this
    exact ⟨j, E_rn h.inv hj, hj⟩
  obtain ⟨x, hx, hc⟩ := cyc A.rn.length A.rn (Nat.le_refl _) hr h2
  exact h.ac x (h.inv.has hx) hc
theorem abort_rn {k : Nat} : (A.abort k).rn = A.rn.filter fun j => !decide (j = k) := gr_rn _ _ _
theorem commit_same {k : Nat} (hk : A.has k) : (A.commit k).size = A.size ∧ (A.commit k).C = ap A.C (A.tx k).ops ∧ (A.commit k).log = A.log ++ [(k, (A.tx k).ops)] ∧ (A.commit k).ts.length = A.ts.length := by
  rw [commit_eq hk]
  obtain ⟨h1, h2, _, h4, h5⟩ := fin_same (A := A.ended k 3 (A.tx k).req (ap A.C (A.tx k).ops) A.W (A.log ++ [(k, (A.tx k).ops)]))
  exact ⟨h1, h2, h4, h5.trans (by simp [ended])⟩
theorem Ok.grow {B : Bk} {f : Nat → Int} (h : A.Ok b) (hc : A.Cl f B) : B.size = A.size ∧ A.ts.length ≤ B.ts.length ∧ B.ts.length ≤ A.ts.length + 1 ∧ B.log.length ≤ A.log.length + 1 := by
  rcases hc with ⟨_, ⟨_, rfl⟩ | ⟨_, rfl⟩⟩ | ⟨_, e, rs, hp⟩ | ⟨_, e, rs, hp⟩ | ⟨_, n, e, hp⟩ | ⟨_, e, hp⟩
  · exact ⟨rfl, by omega, by omega, by omega⟩
  · exact ⟨rfl, by simp [Bk.begin], by simp [Bk.begin], by show A.log.length ≤ _; omega⟩
  · obtain ⟨_, h1, _, h3, h4⟩ := h.perf hp
    exact ⟨h1, by omega, by omega, by rw [h3]; omega⟩
  · obtain ⟨_, h1, _, h3, h4⟩ := h.perf hp
    exact ⟨h1, by omega, by omega, by rw [h3]; omega⟩
  · rcases hp with ⟨_, rfl, _⟩ | ⟨k, _, hk, ⟨_, rfl, _⟩ | ⟨_, rfl, _⟩ | ⟨_, rfl, _⟩ | ⟨_, _, _, rfl, _⟩⟩
    · exact ⟨rfl, by omega, by omega, by omega⟩
    · exact ⟨rfl, by omega, by omega, by omega⟩
    · exact ⟨rfl, by omega, by omega, by omega⟩
    · exact ⟨rfl, by omega, by omega, by omega⟩
    · obtain ⟨h1, _, h3, h4⟩ := commit_same hk
      exact ⟨h1, by omega, by omega, by rw [h3, List.length_append]; simp⟩
  · rcases hp with ⟨_, rfl, _⟩ | ⟨k, _, hk, ⟨_, rfl, _⟩ | ⟨_, rfl, _⟩ | ⟨_, _, rfl, _⟩⟩
    · exact ⟨rfl, by omega, by omega, by omega⟩
    · exact ⟨rfl, by omega, by omega, by omega⟩
    · exact ⟨rfl, by omega, by omega, by omega⟩
    · obtain ⟨h1, _, h3, h4⟩ := abort_same hk
      exact ⟨h1, by omega, by omega, by rw [h3]; omega⟩
theorem Ok.rn_le (h : A.Ok b) : A.rn.length ≤ A.ts.length := by
  have := nodup_len (m := (List.range A.ts.length).map fun i => i + 1) h.inv.rnd fun k hk => by
    have := h.inv.has hk
    unfold Bk.has at this
    exact List.mem_map.2 ⟨k - 1, List.mem_range.2 (by omega), by omega⟩
  simpa using this
theorem Ok.cmt1 {k : Nat} {B : Bk} {n e : Nat} (hk : A.has k) (hs : (A.tx k).st = 1) (hc : A.Cmt k B n e) : e = 0 ∧ B = A.commit k ∧ n = B.log.length := by
  rcases hc with ⟨h, _⟩ | ⟨j, hj, _, h⟩
  · exact absurd (by unfold Bk.has at hk; omega) h
  · obtain rfl : k = j := by omega
    rcases h with ⟨h, _⟩ | ⟨h, _⟩ | ⟨h, _⟩ | ⟨_, _, _, h1, h2, h3⟩
    · omega
    · omega
    · omega
    · exact ⟨h3, h1, h2⟩
structure Turn (A : Bk) (b n t x : Nat) : Prop where
  ok : A.Ok b
  len : A.ts.length = n
  lg : A.log.length + A.rn.length ≤ 300
  le : A.rn.length + t ≤ n ∨ A.rn = []
  go : A.rn = [] ∨ A.rn.length + t + 1 ≤ n ∨ ∃ k, x ≤ k ∧ A.has k ∧ (A.tx k).st = 1
theorem Turn.start {n t : Nat} (ok : A.Ok b) (len : A.ts.length = n) (lg : A.log.length + A.rn.length ≤ 300) (le : A.rn.length + t ≤ n ∨ A.rn = []) : Turn A b n t 1 := by
  refine ⟨ok, len, lg, le, ?_⟩
  by_cases c : A.rn = []
  · exact .inl c
  · obtain ⟨k, hk, hs⟩ := ok.active c
    exact .inr (.inr ⟨k, hk.1, hk, hs⟩)
theorem Turn.skip {n t x : Nat} (h : Turn A b n t x) (hs : (A.tx x).st ≠ 1) : Turn A b n t (x + 1) := by
  refine ⟨h.ok, h.len, h.lg, h.le, ?_⟩
  rcases h.go with c | c | ⟨k, h1, h2, h3⟩
  · exact .inl c
  · exact .inr (.inl c)
  · refine .inr (.inr ⟨k, ?_, h2, h3⟩)
    rcases Nat.lt_or_ge x k with c | c
    · exact c
    · have : k = x := by omega
      rw [this] at h3
      exact absurd h3 hs
theorem Turn.fin {n t x : Nat} {B : Bk} (h : Turn A b n t x) (hx : A.has x) (hs : (A.tx x).st = 1) (hok : B.Ok b) (hlen : B.ts.length = A.ts.length) (hrn : B.rn = A.rn.filter fun j => !decide (j = x)) (hlg : B.log.length ≤ A.log.length + 1) : Turn B b n t (x + 1) := by
  have hr := h.ok.inv.run hx hs
  have h1 := filter_lt hr
  have h2 := h.lg
  have h3 : A.rn.length + t ≤ n := by
    rcases h.le with c | c
    · exact c
    · rw [c] at hr; simp at hr
  refine ⟨hok, hlen.trans h.len, by rw [hrn]; omega, .inl (by rw [hrn]; omega), .inr (.inl (by rw [hrn]; omega))⟩
theorem Turn.next {n t : Nat} (h : Turn A b n t (n + 1)) : A.rn.length + (t + 1) ≤ n ∨ A.rn = [] := by
  rcases h.go with c | c | ⟨k, h1, h2, _⟩
  · exact .inr c
  · exact .inl (by omega)
  · have := h2.2
    rw [h.len] at this
    omega
theorem Ok.none (h : A.Ok b) (hr : A.rn = []) : A.q = [] ∧ ∀ k, A.has k → ((A.tx k).st = 3 ∨ (A.tx k).st = 4) ∧ (A.tx k).locks = [] := by
  refine ⟨?_, fun k hk => ?_⟩
  · cases e : A.q with
    | nil => rfl
    | cons k l =>
      have : k ∈ A.q := by rw [e]; exact List.mem_cons_self ..
      have := h.inv.qrn this
      rw [hr] at this
      simp at this
  · have hn : k ∉ A.rn := by rw [hr]; simp
    refine ⟨?_, (h.inv.off k hk hn).1⟩
    have h1 := h.inv.st k hk
    have h2 : ¬ ((A.tx k).st = 1 ∨ (A.tx k).st = 2) := fun c => hn ((h.inv.rn k).2 ⟨hk, c⟩)
    omega
end Bk
end Go.KL
end

section
/- One transaction that locks many ranges of one piece; plain. No program in sight. -/
namespace Go.KL
namespace Bk
theorem Perf.ok {A B : Bk} {mv : Bool} {k l m a b e : Nat} {rs : List Rn} (h : A.Perf k mv l m a b B e rs) (hh : A.has k) (hs : (A.tx k).st = 1) (h1 : l ≤ m) (h2 : m ≤ A.size) (h3 : a < 16) (h4 : b < 16) :
    (e ≠ 0 ∧ A.Obt k l m mv B e) ∨ (mv = false ∧ e = 0 ∧ ∃ D, A.Obt k l m mv D 0 ∧ B = D.done k ⟨mv, l, m, a, b, rns D.W l m⟩ ∧ rs = rns D.W l m) ∨ (mv = true ∧ ∃ D, A.Obt k l m mv D 0 ∧ D.Mvd k ⟨mv, l, m, a, b, []⟩ B e) := by
  cases h with
  | none h => exact absurd (by unfold Bk.has at hh; omega) h
  | aborted hk _ h => obtain rfl := Int.ofNat_inj.1 hk; omega
  | committed hk _ h => obtain rfl := Int.ofNat_inj.1 hk; omega
  | waiting hk _ h => obtain rfl := Int.ofNat_inj.1 hk; omega
  | range _ _ _ h => omega
  | arg _ _ _ _ h => omega
  | no hk _ _ hl hm _ _ _ _ ho he =>
    obtain rfl := Int.ofNat_inj.1 hk
    obtain rfl := Int.ofNat_inj.1 hl
    obtain rfl := Int.ofNat_inj.1 hm
    exact .inl ⟨he, ho⟩
  | look hk _ _ hl hm hf ht _ _ ho hmv =>
    obtain rfl := Int.ofNat_inj.1 hk
    obtain rfl := Int.ofNat_inj.1 hl
    obtain rfl := Int.ofNat_inj.1 hm
    obtain rfl := Int.ofNat_inj.1 hf
    obtain rfl := Int.ofNat_inj.1 ht
    exact .inr (.inl ⟨hmv, rfl, _, ho, rfl, rfl⟩)
  | move hk _ _ hl hm hf ht _ _ ho hmv hd =>
    obtain rfl := Int.ofNat_inj.1 hk
    obtain rfl := Int.ofNat_inj.1 hl
    obtain rfl := Int.ofNat_inj.1 hm
    obtain rfl := Int.ofNat_inj.1 hf
    obtain rfl := Int.ofNat_inj.1 ht
    exact .inr (.inr ⟨hmv, _, ho, hd⟩)
theorem setf_z0 (lo hi : Nat) : setf z0 lo hi 0 = z0 := by
  funext i
  simp [setf]
theorem nbd_z (n : Nat) : nbd z0 (n + 1) = 1 := by
  induction n with
  | zero => decide
  | succ n ih =>
    rw [nbd, ih]
    simp
theorem un_z : ∀ {ops : List Oa}, (∀ o ∈ ops, o.fr = 0) → KL.un z0 ops = z0
  | [], _ => rfl
  | o :: r, h => by
    show (if o.mv then setf (KL.un z0 r) o.lo o.hi o.fr else KL.un z0 r) = z0
    rw [un_z fun x hx => h x (List.mem_cons_of_mem _ hx), h o (List.mem_cons_self ..), setf_z0]
    exact ite_self _
structure Big (A : Bk) : Prop where
  size : A.size = 3000
  C : A.C = z0
  W : A.W = z0
  ops : ∀ t ∈ A.ts, (∀ o ∈ t.ops, o.fr = 0 ∧ o.to = 0 ∧ o.lo ≤ o.hi ∧ o.hi ≤ 3000) ∧ t.ops.length ≤ 1100 ∧ t.locks.length ≤ 1100 ∧ ∀ x ∈ t.locks, x.lo ≤ 3000
  rn : A.rn.length ≤ 2
  q : A.q = []
  st : ∀ k, A.has k → (A.tx k).st = 1 ∨ (A.tx k).st = 3 ∨ (A.tx k).st = 4
  mv : A.moves ≤ 1024
theorem Big.good {A : Bk} (h : A.Big) : A.Good := by
  refine ⟨Nat.le_trans h.rn (by decide), by rw [h.q]; decide, fun k hk hs => by have := h.st k hk; omega, fun t ht => ⟨by have := (h.ops t ht).2.2.1; omega, fun x hx => Nat.le_trans ((h.ops t ht).2.2.2 x hx) (by decide)⟩, fun t ht => by have := (h.ops t ht).2.1; omega, fun t ht => ⟨fun o ho _ => ?_, fun n => ?_⟩⟩
  · have := (h.ops t ht).1 o ho
    rw [h.size]
    omega
  · rw [h.W, un_z fun o ho => ((h.ops t ht).1 o (List.mem_of_mem_drop ho)).1, h.size, nbd_z]
    decide
theorem Big.aft {A : Bk} (h : A.Big) : A.Good ∧ nbd A.W A.size ≤ 4096 ∧ nbd A.C A.size + 2 * A.moves ≤ 4096 ∧ (A.room ≠ 0 → ∀ lo hi to, nbd (setf A.W lo hi to) A.size ≤ 4096) := by
  have hm := h.mv
  refine ⟨h.good, by rw [h.W, h.size, nbd_z]; decide, by rw [h.C, h.size, nbd_z]; omega, fun _ lo hi to => ?_⟩
  have := nbd_set2 A.W lo hi to A.size
  rw [h.W, h.size, nbd_z] at this
  rw [h.W, h.size]
  omega
end Bk
end Go.KL
end

section
/- A transaction that is alone; plain. No program in sight. -/
namespace Go.KL
namespace Bk
variable {A : Bk} {c : Nat}
structure Solo (A : Bk) (c : Nat) : Prop where
  ok : A.Ok c
  one : A.ts.length = 1
  st : (A.tx 1).st = 1
  cnt : (A.tx 1).locks.length ≤ c
theorem Solo.has (h : A.Solo c) : A.has 1 := ⟨Nat.le_refl _, by rw [h.one]; exact Nat.le_refl _⟩
theorem Solo.rn (h : A.Solo c) : A.rn = [1] := by
  have h1 := h.ok.inv.run h.has h.st
  have h2 := h.ok.rn_le
  rw [h.one] at h2
  cases e : A.rn with
  | nil => rw [e] at h1; simp at h1
  | cons k l =>
    rw [e] at h1 h2
    simp at h2
    subst h2
    simp at h1
    rw [h1]
theorem Solo.q (h : A.Solo c) : A.q = [] := by
  cases e : A.q with
  | nil => rfl
  | cons k l =>
    have hk : k ∈ A.q := by rw [e]; exact List.mem_cons_self ..
    have hr := h.ok.inv.qrn hk
    rw [h.rn, List.mem_singleton] at hr
    subst hr
    exact absurd hk (h.ok.inv.noq h.st)
theorem Solo.free (h : A.Solo c) {lo hi : Nat} {wr : Bool} : A.free ⟨1, lo, hi, wr⟩ A.q = true := by
  rw [free_iff, h.rn, h.q]
  refine ⟨fun k hk x hx => ?_, fun k hk => by simp at hk⟩
  rw [List.mem_singleton] at hk
  subst hk
  exact cfl_self (h.ok.inv.lk 1 h.has x hx).1
theorem Solo.count (h : A.Solo c) : A.count ≤ c := by
  unfold Bk.count
  rw [h.rn, h.q]
  simpa using h.cnt
theorem Solo.obt (h : A.Solo c) {lo hi e : Nat} {wr : Bool} {B : Bk} (ho : A.Obt 1 lo hi wr B e) : B.W = A.W ∧ (B.tx 1).ops = (A.tx 1).ops ∧ (B.tx 1).locks.length ≤ c + 1 ∧ (B.tx 1).st = 1 ∧ (c < 1024 → e = 0) := by
  have hcnt := h.cnt
  cases ho with
  | has _ => exact ⟨rfl, rfl, by omega, h.st, fun _ => rfl⟩
  | full _ hc => exact ⟨rfl, rfl, by omega, h.st, fun hlt => by have := h.count; omega⟩
  | got _ _ _ =>
    refine ⟨rfl, ?_, ?_, ?_, fun _ => rfl⟩
    · rw [tx_set h.has h.has, if_pos rfl]
    · rw [tx_set h.has h.has, if_pos rfl]
      show ((A.tx 1).locks ++ [_]).length ≤ c + 1
      rw [List.length_append]
      simp
      omega
    · rw [tx_set h.has h.has, if_pos rfl]
      exact h.st
  | res _ _ hf _ => rw [h.free] at hf; cases hf
theorem done_tx {k j : Nat} {o : Oa} (hk : A.has k) (hj : A.has j) : (A.done k o).tx j = if j = k then ⟨(A.tx k).st, (A.tx k).locks, (A.tx k).req, (A.tx k).ops ++ [o]⟩ else A.tx j := tx_set hk hj
theorem Solo.perf (h : A.Solo c) {lo hi fr to : Int} {mv : Bool} {B : Bk} {e : Nat} {rs : List Rn} (hp : A.Perf 1 mv lo hi fr to B e rs) :
    B.Solo (c + 1) ∧ B.size = A.size ∧ B.C = A.C ∧ B.log = A.log ∧ ((e ≠ 0 ∧ B.W = A.W) ∨ (e = 0 ∧ ∃ l m : Nat, lo = l ∧ hi = m ∧ l ≤ m ∧ m ≤ A.size ∧ ((mv = false ∧ B.W = A.W ∧ rs = rns A.W l m) ∨ (mv = true ∧ ∃ a b : Nat, fr = a ∧ to = b ∧ a < 16 ∧ b < 16 ∧ A.allT l m a ∧ B.W = setf A.W l m b)))) := by
  obtain ⟨hok, hsz, hC, hlg, htl⟩ := h.ok.perf hp
  have hcnt := h.cnt
  have same : B = A → e ≠ 0 → B.Solo (c + 1) ∧ B.size = A.size ∧ B.C = A.C ∧ B.log = A.log ∧ ((e ≠ 0 ∧ B.W = A.W) ∨ (e = 0 ∧ ∃ l m : Nat, lo = l ∧ hi = m ∧ l ≤ m ∧ m ≤ A.size ∧ ((mv = false ∧ B.W = A.W ∧ rs = rns A.W l m) ∨ (mv = true ∧ ∃ a b : Nat, fr = a ∧ to = b ∧ a < 16 ∧ b < 16 ∧ A.allT l m a ∧ B.W = setf A.W l m b)))) := fun e1 e2 => by
    subst e1
    exact ⟨⟨hok, h.one, h.st, by omega⟩, rfl, rfl, rfl, .inl ⟨e2, rfl⟩⟩
  cases hp with
  | none hn => exact same rfl (by decide)
  | aborted _ _ _ => exact same rfl (by decide)
  | committed _ _ _ => exact same rfl (by decide)
  | waiting _ _ _ => exact same rfl (by decide)
  | range _ _ _ _ => exact same rfl (by decide)
  | arg _ _ _ _ _ => exact same rfl (by decide)
  | no hk _ _ hl hm _ _ hr _ ho he =>
    obtain rfl : _ = 1 := (Int.ofNat_inj.1 hk).symm
    obtain ⟨o1, _, o3, o4, _⟩ := h.obt ho
    exact ⟨⟨hok, htl.trans h.one, o4, o3⟩, hsz, hC, hlg, .inl ⟨he, o1⟩⟩
  | look hk hh hs hl hm hf ht hr ha ho hmv =>
    obtain rfl : _ = 1 := (Int.ofNat_inj.1 hk).symm
    obtain ⟨o1, _, o3, o4, _⟩ := h.obt ho
    have g := h.ok.obt hh hs hr.2 ho
    refine ⟨⟨hok, htl.trans h.one, ?_, ?_⟩, hsz, hC, hlg, .inr ⟨rfl, _, _, hl, hm, hr.1, hr.2, .inl ⟨hmv, o1, by rw [o1]⟩⟩⟩
    · rw [done_tx g.hk g.hk, if_pos rfl]; exact o4
    · rw [done_tx g.hk g.hk, if_pos rfl]; exact o3
  | @move k l m a b _ D _ hk hh hs hl hm hf ht hr ha ho hmv hd =>
    obtain rfl : _ = 1 := (Int.ofNat_inj.1 hk).symm
    obtain ⟨o1, _, o3, o4, _⟩ := h.obt ho
    have g := h.ok.obt hh hs hr.2 ho
    rcases hd with ⟨_, rfl, rfl⟩ | ⟨_, _, rfl, rfl⟩ | ⟨hal, _, rfl, rfl⟩
    · exact ⟨⟨hok, htl.trans h.one, o4, o3⟩, hsz, hC, hlg, .inl ⟨by decide, o1⟩⟩
    · exact ⟨⟨hok, htl.trans h.one, o4, o3⟩, hsz, hC, hlg, .inl ⟨by decide, o1⟩⟩
    · refine ⟨⟨hok, htl.trans h.one, ?_, ?_⟩, hsz, hC, hlg, .inr ⟨rfl, _, _, hl, hm, hr.1, hr.2, .inr ⟨hmv, _, _, hf, ht, ha.1, ha.2, ?_, ?_⟩⟩⟩
      · refine Eq.trans (congrArg Tx.st (done_tx (A := ({ D with W := setf D.W l m b } : Bk)) g.hk g.hk)) ?_
        rw [if_pos rfl]; exact o4
      · refine Nat.le_trans (Nat.le_of_eq (congrArg (fun t => t.locks.length) (done_tx (A := ({ D with W := setf D.W l m b } : Bk)) g.hk g.hk))) ?_
        rw [if_pos rfl]; exact o3
      · intro i h1 h2
        rw [← o1]
        exact hal i h1 h2
      · show setf _ _ _ _ = _
        rw [o1]
theorem Solo.sees (h : A.Solo c) : A.W = ap A.C (A.tx 1).ops := by
  funext i
  have hr : 1 ∈ A.rn := by rw [h.rn]; simp
  by_cases ct : tch (A.tx 1).ops i
  · exact h.ok.inv.wT 1 hr i ct
  · rw [ap_not ct]
    refine h.ok.inv.wU i fun k hk => ?_
    rw [h.rn, List.mem_singleton] at hk
    rw [hk]
    exact ct
theorem Solo.look (h : A.Solo c) (hc : c < 1024) {l m : Nat} (h1 : l ≤ m) (h2 : m ≤ A.size) {B : Bk} {e : Nat} {rs : List Rn} (hp : A.Perf 1 false l m 0 0 B e rs) : e = 0 ∧ rs = rns A.W l m ∧ B.W = A.W := by
  rcases Perf.ok (k := 1) (a := 0) (b := 0) hp h.has h.st h1 h2 (by decide) (by decide) with ⟨he, ho⟩ | ⟨_, he, D, ho, hB, hrs⟩ | ⟨hm, _⟩
  · exact absurd ((h.obt ho).2.2.2.2 hc) he
  · obtain ⟨o1, _⟩ := h.obt ho
    refine ⟨he, by rw [hrs, o1], ?_⟩
    rw [hB]
    exact o1
  · cases hm
theorem fresh_solo {n : Nat} {f : Nat → Nat} (h1 : 0 < n ∧ n ≤ 1099511627776) (h2 : KL.nbd f n ≤ 4096) : (fresh n f).begin.Solo 0 := ⟨(fresh_ok h1 h2).begin (by show 0 < 64; decide), rfl, rfl, Nat.le_refl _⟩
structure Two (A : Bk) (n : Nat) (f : Nat → Nat) : Prop where
  ok : A.Ok 100
  two : A.ts.length = 2
  st : (A.tx 1).st = 4
  st2 : (A.tx 2).st = 1
  lk2 : (A.tx 2).locks = []
  rn : A.rn = [2]
  q : A.q = []
  size : A.size = n
  C : A.C = f
  W : A.W = f
  lg : A.log = []
theorem Solo.two (h : A.Solo c) (hc : c ≤ 100) (hl : A.log = []) : (A.abort 1).begin.Two A.size A.C := by
  have hok := (h.ok.mono hc).abort h.has
  obtain ⟨s1, s2, s3, s4⟩ := abort_same h.has
  have hrn : (A.abort 1).rn = [] := by rw [abort_rn, h.rn]; rfl
  have hme := abort_me h.ok.inv h.has
  have h1 : (A.abort 1).has 1 := (abort_has h.has).2 h.has
  have hl2 : (A.abort 1).ts.length = 1 := s4.trans h.one
  have ht2 : (A.abort 1).begin.tx 2 = Tx.new := by
    have := begin_new (A := A.abort 1)
    rwa [hl2] at this
  refine ⟨hok.begin (by rw [hrn]; decide), by simp [Bk.begin, hl2], by rw [begin_tx h1, hme], by rw [ht2]; rfl, by rw [ht2]; rfl, ?_, (hok.none hrn).1, s1, s2, ?_, s3.trans hl⟩
  · show (A.abort 1).rn ++ [(A.abort 1).ts.length + 1] = [2]
    rw [hrn, hl2]
    rfl
  · show (A.abort 1).W = A.C
    funext i
    rw [hok.inv.wU i fun k hk => by rw [hrn] at hk; simp at hk, s2]
theorem Two.look {n : Nat} {f : Nat → Nat} (h : A.Two n f) (hn : 0 < n) {B : Bk} {e : Nat} {rs : List Rn} (hp : A.Perf 2 false 0 n 0 0 B e rs) : e = 0 ∧ rs = rns f 0 n ∧ B.size = n ∧ B.C = f ∧ B.log = [] ∧ B.ts.length = 2 ∧ (B.tx 1).st = 4 ∧ B.Ok 101 := by
  obtain ⟨hok, hsz, hC, hlg, htl⟩ := h.ok.perf hp
  have hh : A.has 2 := ⟨by decide, by rw [h.two]; exact Nat.le_refl _⟩
  have hh1 : A.has 1 := ⟨by decide, by rw [h.two]; decide⟩
  have hno : ¬ Hold (A.tx 2).locks 0 n false := hold_no 0 (Nat.le_refl _) hn fun x hx => by
    rw [h.lk2] at hx
    simp at hx
  have hc : A.count < 1024 := by
    unfold Bk.count
    rw [h.rn, h.q]
    simp [h.lk2]
  have hf : A.free ⟨2, 0, n, false⟩ A.q = true := by
    rw [free_iff, h.rn, h.q]
    refine ⟨fun k hk x hx => ?_, fun k hk => by simp at hk⟩
    rw [List.mem_singleton] at hk
    subst hk
    rw [h.lk2] at hx
    simp at hx
  rcases Perf.ok (k := 2) (l := 0) (a := 0) (b := 0) hp hh h.st2 (Nat.zero_le _) (by rw [h.size]; exact Nat.le_refl _) (by decide) (by decide) with ⟨he, ho⟩ | ⟨_, he, D, ho, hB, hrs⟩ | ⟨hm, _⟩
  · exact absurd (obt_free ho hno hc hf).1 he
  · obtain ⟨_, hD⟩ := obt_free ho hno hc hf
    have hDh : ∀ {k}, D.has k ↔ A.has k := by rw [hD]; exact has_set
    refine ⟨he, ?_, hsz.trans h.size, hC.trans h.C, hlg.trans h.lg, htl.trans h.two, ?_, hok⟩
    · rw [hrs, hD]
      show rns A.W 0 n = _
      rw [h.W]
    · rw [hB, done_tx (hDh.2 hh) (hDh.2 hh1), if_neg (by decide), hD, tx_set hh hh1, if_neg (by decide)]
      exact h.st
  · cases hm
end Bk
end Go.KL
end
