/- The library of the proof, part 7: a program logic over the model, walks of functions, plain laws. No condition. -/
import Derived.Test.YtcbmmldkpicaiaaGreatNobL6
section
/- Walks: Look, Move, Abort, State, Held, Now, Begin. -/
namespace Go.KL
open Go.Proofs
attribute [local irreducible] SC St Fin Sq Ylds Doos Sets Enters Spec CellIs CellsAre Then Ret Rnd Chn resOK ints bools recs arr
section
variable {g : Bg} {W : World} {N : List Chunk} {tx lo hi fr to : Int}
/-- What performing an operation gives. -/
abbrev PerfX (g : Bg) (tx : Int) (mv : Bool) (lo hi fr to : Int) := { x : Bg × Nat × List Rn × Value × Chunk // x.1.OK ∧ g.bk.Perf tx mv lo hi fr to x.1.bk x.2.1 x.2.2.1 ∧ g.Anc x.1 ∧ BufR 26 3 x.2.2.2.1 x.2.2.2.2 (rnl x.2.2.1) }
/-- What is asked of a book ahead of an operation. -/
structure Bk.Pre (A : Bk) (tx lo hi : Int) (mv : Bool) : Prop where
  good : A.Good
  st : ∀ k, A.has k → (A.tx k).st = 1 ∨ (A.tx k).st = 2 ∨ (A.tx k).st = 3 ∨ (A.tx k).st = 4
  prm : ∀ (k l m : Nat), tx = k → lo = l → hi = m → A.has k → (A.tx k).st = 1 → l ≤ m → m ≤ A.size → A.Prm k l m mv
set_option maxRecDepth 10000 in
set_option maxHeartbeats 4000000 in
theorem Look_b (hB : g.OK) (hP : g.bk.Pre tx lo hi false) : Spec Tryz.prog 28 #[.pointer (some ⟨g.b, 0, none⟩), .int .i64 tx, .int .i64 lo, .int .i64 hi] (K W (g.L ++ N)) (X := PerfX g tx false lo hi 0 0) (fun x => .tuple #[x.1.2.2.2.1, .int .i64 (x.1.2.1 : Nat)]) (fun x => K W (x.1.2.2.2.2 :: (x.1.1.L ++ N))) := by
  have hp := perform_b (W := W) (N := N) (tx := tx) (lo := lo) (hi := hi) (fr := 0) (to := 0) (mv := false) hB hP.good (fun k hk => hP.st k (Bg.has_bk.2 hk)) (fun k l m h1 h2 h3 hk => hP.prm k l m h1 h2 h3 (Bg.has_bk.2 hk))
  refine enter (args := [_, _, _, _]) Tryz.func28 rfl Tryz.ntmps28 rfl ?_
  refine c_seq ?_
  refine c_region ?_
  refine s_y (y_assign rfl) rfl rfl rfl ?_
  refine s_y (y_assign rfl) rfl rfl rfl ?_
  refine s_nil ?_
  refine f_then ?_
  refine c_seq ?_
  refine c_region ?_
  refine s_y (y_move rfl) rfl rfl rfl ?_
  refine s_y (y_move rfl) rfl rfl rfl ?_
  refine s_y (y_move rfl) rfl rfl rfl ?_
  refine s_y (y_move rfl) rfl rfl rfl ?_
  refine s_y (y_build Tryz.tab rfl rfl rfl rfl rfl) rfl rfl rfl ?_
  refine s_call (en_f rfl Tryz.call62) hp rfl rfl rfl (fun x => ?_)
  refine s_y (y_extract rfl rfl) rfl rfl rfl ?_
  refine s_y (y_extract rfl rfl) rfl rfl rfl ?_
  refine s_y (y_assign rfl) rfl rfl rfl ?_
  refine s_y (y_assign rfl) rfl rfl rfl ?_
  refine s_nil ?_
  refine f_then ?_
  refine c_ret ?_
  exact f_ret x (res2 rfl rfl rfl) (fun w h => h)
set_option maxRecDepth 10000 in
set_option maxHeartbeats 4000000 in
theorem Move_b (hB : g.OK) (hP : g.bk.Pre tx lo hi true) : Spec Tryz.prog 27 #[.pointer (some ⟨g.b, 0, none⟩), .int .i64 tx, .int .i64 lo, .int .i64 hi, .int .i64 fr, .int .i64 to] (K W (g.L ++ N)) (X := PerfX g tx true lo hi fr to) (fun x => .int .i64 (x.1.2.1 : Nat)) (fun x => K W (x.1.2.2.2.2 :: (x.1.1.L ++ N))) := by
  have hp := perform_b (W := W) (N := N) (tx := tx) (lo := lo) (hi := hi) (fr := fr) (to := to) (mv := true) hB hP.good (fun k hk => hP.st k (Bg.has_bk.2 hk)) (fun k l m h1 h2 h3 hk => hP.prm k l m h1 h2 h3 (Bg.has_bk.2 hk))
  refine enter (args := [_, _, _, _, _, _]) Tryz.func27 rfl Tryz.ntmps27 rfl ?_
  refine c_seq ?_
  refine c_region ?_
  refine s_y (y_assign rfl) rfl rfl rfl ?_
  refine s_nil ?_
  refine f_then ?_
  refine c_seq ?_
  refine c_region ?_
  refine s_y (y_move rfl) rfl rfl rfl ?_
  refine s_y (y_move rfl) rfl rfl rfl ?_
  refine s_y (y_move rfl) rfl rfl rfl ?_
  refine s_y (y_move rfl) rfl rfl rfl ?_
  refine s_y (y_move rfl) rfl rfl rfl ?_
  refine s_y (y_move rfl) rfl rfl rfl ?_
  refine s_y (y_build Tryz.tab rfl rfl rfl rfl rfl) rfl rfl rfl ?_
  refine s_call (en_f rfl Tryz.call62) hp rfl rfl rfl (fun x => ?_)
  refine s_y (y_move rfl) rfl rfl rfl ?_
  refine s_y (y_extract rfl rfl) rfl rfl rfl ?_
  refine s_y (y_extract rfl rfl) rfl rfl rfl ?_
  refine s_y (y_assign rfl) rfl rfl rfl ?_
  refine s_y (y_assign rfl) rfl rfl rfl ?_
  refine s_nil ?_
  refine f_then ?_
  refine c_seq ?_
  refine c_region ?_
  refine s_y (y_move rfl) rfl rfl rfl ?_
  refine s_y (y_assign rfl) rfl rfl rfl ?_
  refine s_nil ?_
  refine f_then ?_
  refine c_ret ?_
  exact f_ret x (res1 rfl rfl) (fun w h => h)
/-- What Abort does. -/
def Bk.Abt (A : Bk) (tx : Int) (B : Bk) (e : Nat) : Prop := (¬ (1 ≤ tx ∧ tx ≤ A.ts.length) ∧ B = A ∧ e = 80) ∨ ∃ k : Nat, tx = k ∧ A.has k ∧ (((A.tx k).st = 4 ∧ B = A ∧ e = 81) ∨ ((A.tx k).st = 3 ∧ B = A ∧ e = 82) ∨ ((A.tx k).st ≠ 3 ∧ (A.tx k).st ≠ 4 ∧ B = A.abort k ∧ e = 0))
theorem fnd_ptr {k : Nat} (hk : g.has k) : g.fnd k = if (g.bk.tx k).st = 4 then (.pointer none, 81) else if (g.bk.tx k).st = 3 then (.pointer none, 82) else (g.ptr k, 0) := by
  rw [Bg.fnd, if_pos (by unfold Bg.has at hk; omega), Int.toNat_natCast]
theorem fnd_none (h : ¬ (1 ≤ tx ∧ tx ≤ g.ts.length)) : g.fnd tx = (.pointer none, 80) := by rw [Bg.fnd, if_neg h]
set_option maxRecDepth 10000 in
set_option maxHeartbeats 4000000 in
theorem Abort_b (hB : g.OK) (hG : g.bk.Good) : Spec Tryz.prog 31 #[.pointer (some ⟨g.b, 0, none⟩), .int .i64 tx] (K W (g.L ++ N)) (X := { x : Bg × Nat // x.1.OK ∧ g.bk.Abt tx x.1.bk x.2 ∧ g.Anc x.1 }) (fun x => .int .i64 (x.1.2 : Nat)) (fun x => K W (x.1.1.L ++ N)) := by
  refine enter (args := [_, _]) Tryz.func31 rfl Tryz.ntmps31 rfl ?_
  refine c_seq ?_
  refine c_region ?_
  refine s_y (y_assign rfl) rfl rfl rfl ?_
  refine s_nil ?_
  refine f_then ?_
  refine c_seq ?_
  refine c_region ?_
  refine s_y (y_move rfl) rfl rfl rfl ?_
  refine s_y (y_move rfl) rfl rfl rfl ?_
  refine s_call (en_f rfl Tryz.call64) (find_b hB Hs.bk) rfl rfl rfl (fun _ => ?_)
  by_cases c : 1 ≤ tx ∧ tx ≤ g.ts.length
  · obtain ⟨k, rfl⟩ : ∃ k : Nat, tx = k := ⟨tx.toNat, by omega⟩
    have hk : g.has k := ⟨by omega, by omega⟩
    have hkb : g.bk.has k := Bg.has_bk.2 hk
    rw [fnd_ptr hk]
    by_cases c4 : (g.bk.tx k).st = 4
    · rw [if_pos c4]
      refine s_y (y_move rfl) rfl rfl rfl ?_
      refine s_y (y_extract rfl rfl) rfl rfl rfl ?_
      refine s_y (y_extract rfl rfl) rfl rfl rfl ?_
      refine s_y (y_assign rfl) rfl rfl rfl ?_
      refine s_y (y_assign rfl) rfl rfl rfl ?_
      refine s_nil ?_
      refine f_then ?_
      refine c_seq ?_
      refine c_seq ?_
      refine c_region ?_
      refine s_y (y_move rfl) rfl rfl rfl ?_
      refine s_y (y_T (y_neq rfl rfl) (by omega)) rfl rfl rfl ?_
      refine s_nil ?_
      refine f_then ?_
      refine c_condT rfl ?_
      refine c_seq ?_
      refine c_region ?_
      refine s_y (y_move rfl) rfl rfl rfl ?_
      refine s_y (y_assign rfl) rfl rfl rfl ?_
      refine s_nil ?_
      refine f_then ?_
      refine c_ret ?_
      refine f_thenR ?_
      exact f_ret ⟨(g, 81), hB, .inr ⟨k, rfl, hkb, .inl ⟨c4, rfl, rfl⟩⟩, .refl _⟩ (res1 rfl rfl) (fun w h => h)
    rw [if_neg c4]
    by_cases c3 : (g.bk.tx k).st = 3
    · rw [if_pos c3]
      refine s_y (y_move rfl) rfl rfl rfl ?_
      refine s_y (y_extract rfl rfl) rfl rfl rfl ?_
      refine s_y (y_extract rfl rfl) rfl rfl rfl ?_
      refine s_y (y_assign rfl) rfl rfl rfl ?_
      refine s_y (y_assign rfl) rfl rfl rfl ?_
      refine s_nil ?_
      refine f_then ?_
      refine c_seq ?_
      refine c_seq ?_
      refine c_region ?_
      refine s_y (y_move rfl) rfl rfl rfl ?_
      refine s_y (y_T (y_neq rfl rfl) (by omega)) rfl rfl rfl ?_
      refine s_nil ?_
      refine f_then ?_
      refine c_condT rfl ?_
      refine c_seq ?_
      refine c_region ?_
      refine s_y (y_move rfl) rfl rfl rfl ?_
      refine s_y (y_assign rfl) rfl rfl rfl ?_
      refine s_nil ?_
      refine f_then ?_
      refine c_ret ?_
      refine f_thenR ?_
      exact f_ret ⟨(g, 82), hB, .inr ⟨k, rfl, hkb, .inr (.inl ⟨c3, rfl, rfl⟩)⟩, .refl _⟩ (res1 rfl rfl) (fun w h => h)
    rw [if_neg c3]
    obtain ⟨t, htm, hti, _, _, _⟩ := hB.at hk
    have hab := abort_spec (W := W) (N := N) hB (good_lm hG) hk hti (good_un hG htm) (good_ol hG htm)
    refine s_y (y_move rfl) rfl rfl rfl ?_
    refine s_y (y_extract rfl rfl) rfl rfl rfl ?_
    refine s_y (y_extract rfl rfl) rfl rfl rfl ?_
    refine s_y (y_assign rfl) rfl rfl rfl ?_
    refine s_y (y_assign rfl) rfl rfl rfl ?_
    refine s_nil ?_
    refine f_then ?_
    refine c_seq ?_
    refine c_seq ?_
    refine c_region ?_
    refine s_y (y_move rfl) rfl rfl rfl ?_
    refine s_y (y_F (y_neq rfl rfl) (by omega)) rfl rfl rfl ?_
    refine s_nil ?_
    refine f_then ?_
    refine c_condF rfl ?_
    refine c_skip ?_
    refine f_then ?_
    refine c_seq ?_
    refine c_region ?_
    refine s_y (y_move rfl) rfl rfl rfl ?_
    refine s_y (y_move rfl) rfl rfl rfl ?_
    refine s_call (en_f rfl Tryz.call67) hab rfl rfl rfl (fun y => ?_)
    obtain ⟨g', hB', hbk', hA'⟩ := y
    dsimp only
    refine s_nil ?_
    refine f_then ?_
    refine c_seq ?_
    refine c_region ?_
    refine s_y (y_assign rfl) rfl rfl rfl ?_
    refine s_nil ?_
    refine f_then ?_
    refine c_ret ?_
    exact f_ret ⟨(g', 0), hB', .inr ⟨k, rfl, hkb, .inr (.inr ⟨c3, c4, hbk', rfl⟩)⟩, hA'⟩ (res1 rfl rfl) (fun w h => h)
  · rw [fnd_none c]
    refine s_y (y_move rfl) rfl rfl rfl ?_
    refine s_y (y_extract rfl rfl) rfl rfl rfl ?_
    refine s_y (y_extract rfl rfl) rfl rfl rfl ?_
    refine s_y (y_assign rfl) rfl rfl rfl ?_
    refine s_y (y_assign rfl) rfl rfl rfl ?_
    refine s_nil ?_
    refine f_then ?_
    refine c_seq ?_
    refine c_seq ?_
    refine c_region ?_
    refine s_y (y_move rfl) rfl rfl rfl ?_
    refine s_y (y_T (y_neq rfl rfl) (by omega)) rfl rfl rfl ?_
    refine s_nil ?_
    refine f_then ?_
    refine c_condT rfl ?_
    refine c_seq ?_
    refine c_region ?_
    refine s_y (y_move rfl) rfl rfl rfl ?_
    refine s_y (y_assign rfl) rfl rfl rfl ?_
    refine s_nil ?_
    refine f_then ?_
    refine c_ret ?_
    refine f_thenR ?_
    exact f_ret ⟨(g, 80), hB, .inl ⟨by simpa [Bg.bk] using c, rfl, rfl⟩, .refl _⟩ (res1 rfl rfl) (fun w h => h)
/-- The state of a transaction, or 0. -/
def Bk.stI (A : Bk) (tx : Int) : Nat := if 1 ≤ tx ∧ tx ≤ A.ts.length then (A.tx tx.toNat).st else 0
def Bk.lkI (A : Bk) (tx : Int) : List Lk := if 1 ≤ tx ∧ tx ≤ A.ts.length then (A.tx tx.toNat).locks else []
set_option maxRecDepth 10000 in
set_option maxHeartbeats 4000000 in
theorem State_b (hB : g.OK) : Spec Tryz.prog 38 #[.pointer (some ⟨g.b, 0, none⟩), .int .i64 tx] (K W (g.L ++ N)) (fun _ : Unit => .int .i64 (g.bk.stI tx : Nat)) (fun _ => K W (g.L ++ N)) := by
  have hus := usable_spec (hB.bf (C := K W (g.L ++ N)) Hs.bk)
  obtain ⟨_, _, f2, _, _, _, _, _, fea, _⟩ := hB.bf (C := K W (g.L ++ N)) Hs.bk
  refine enter (args := [_, _]) Tryz.func38 rfl Tryz.ntmps38 rfl ?_
  by_cases c : 1 ≤ tx ∧ tx ≤ g.ts.length
  · obtain ⟨k, rfl⟩ : ∃ k : Nat, tx = k := ⟨tx.toNat, by omega⟩
    have hk : g.has k := ⟨by omega, by omega⟩
    obtain ⟨t, htm, hti, hid, hpb, htx⟩ := hB.at hk
    have hget := hB.eaG k hk
    have e1 := (hB.tf (C := K W (g.L ++ N)) Hs.bk htm).c1
    have es : g.bk.stI k = t.st := by
      rw [Bk.stI, if_pos (by simpa [Bg.bk] using c), Int.toNat_natCast, htx]; rfl
    rw [es]
    rw [Bg.ptr, hpb] at hget
    refine c_seq ?_
    refine c_region ?_
    refine s_y (y_assign rfl) rfl rfl rfl ?_
    refine s_nil ?_
    refine f_then ?_
    refine c_seq ?_
    refine c_seq ?_
    refine c_region ?_
    refine s_y (y_move rfl) rfl rfl rfl ?_
    refine s_call (en_f rfl Tryz.call52) hus rfl rfl rfl (fun _ => ?_)
    refine s_y (y_notT rfl) rfl rfl rfl ?_
    refine s_y (y_move rfl) rfl rfl rfl ?_
    refine s_y (y_move rfl) rfl rfl rfl ?_
    refine s_y (y_nilP rfl) rfl rfl rfl ?_
    refine s_y (y_fieldAddrB Tryz.tab 2 rfl rfl rfl rfl rfl) rfl rfl rfl ?_
    refine s_y (y_load Tryz.tab rfl rfl f2) rfl rfl rfl ?_
    refine s_y (y_move rfl) rfl rfl rfl ?_
    refine s_y (y_lookupE Tryz.tab rfl rfl rfl rfl (fun _ => rfl) (fea) (by assumption)) rfl rfl rfl ?_
    refine s_y (y_eqlPN Tryz.tab rfl rfl) rfl rfl rfl ?_
    refine s_y (y_pickF rfl rfl) rfl rfl rfl ?_
    refine s_nil ?_
    refine f_then ?_
    refine c_condF rfl ?_
    refine c_skip ?_
    refine f_then ?_
    refine c_seq ?_
    refine c_region ?_
    refine s_y (y_move rfl) rfl rfl rfl ?_
    refine s_y (y_nilP rfl) rfl rfl rfl ?_
    refine s_y (y_fieldAddrB Tryz.tab 2 rfl rfl rfl rfl rfl) rfl rfl rfl ?_
    refine s_y (y_load Tryz.tab rfl rfl f2) rfl rfl rfl ?_
    refine s_y (y_move rfl) rfl rfl rfl ?_
    refine s_y (y_lookupE Tryz.tab rfl rfl rfl rfl (fun _ => rfl) (fea) (by assumption)) rfl rfl rfl ?_
    refine s_y (y_nilP rfl) rfl rfl rfl ?_
    refine s_y (y_fieldAddrB Tryz.tab 1 rfl rfl rfl rfl rfl) rfl rfl rfl ?_
    refine s_y (y_load Tryz.tab rfl rfl e1) rfl rfl rfl ?_
    refine s_y (y_assign rfl) rfl rfl rfl ?_
    refine s_nil ?_
    refine f_then ?_
    refine c_ret ?_
    exact f_ret () (res1 rfl rfl) (fun w h => h)
  · have hget : mget tx (.pointer none) g.ea = .pointer none := mget_out (by rw [hB.eaH]; exact decide_eq_false c)
    have es : g.bk.stI tx = 0 := by rw [Bk.stI, if_neg (by simpa [Bg.bk] using c)]
    rw [es]
    refine c_seq ?_
    refine c_region ?_
    refine s_y (y_assign rfl) rfl rfl rfl ?_
    refine s_nil ?_
    refine f_then ?_
    refine c_seq ?_
    refine c_seq ?_
    refine c_region ?_
    refine s_y (y_move rfl) rfl rfl rfl ?_
    refine s_call (en_f rfl Tryz.call52) hus rfl rfl rfl (fun _ => ?_)
    refine s_y (y_notT rfl) rfl rfl rfl ?_
    refine s_y (y_move rfl) rfl rfl rfl ?_
    refine s_y (y_move rfl) rfl rfl rfl ?_
    refine s_y (y_nilP rfl) rfl rfl rfl ?_
    refine s_y (y_fieldAddrB Tryz.tab 2 rfl rfl rfl rfl rfl) rfl rfl rfl ?_
    refine s_y (y_load Tryz.tab rfl rfl f2) rfl rfl rfl ?_
    refine s_y (y_move rfl) rfl rfl rfl ?_
    refine s_y (y_lookupE Tryz.tab rfl rfl rfl rfl (fun _ => rfl) (fea) (by assumption)) rfl rfl rfl ?_
    refine s_y (y_eqlPN Tryz.tab rfl rfl) rfl rfl rfl ?_
    refine s_y (y_pickF rfl rfl) rfl rfl rfl ?_
    refine s_nil ?_
    refine f_then ?_
    refine c_condT rfl ?_
    refine c_seq ?_
    refine c_region ?_
    refine s_y (y_assign rfl) rfl rfl rfl ?_
    refine s_nil ?_
    refine f_then ?_
    refine c_ret ?_
    refine f_thenR ?_
    exact f_ret () (res1 rfl rfl) (fun w h => h)
set_option maxRecDepth 10000 in
set_option maxHeartbeats 4000000 in
theorem Held_b (hB : g.OK) (hG : g.bk.Good) : Spec Tryz.prog 29 #[.pointer (some ⟨g.b, 0, none⟩), .int .i64 tx] (K W (g.L ++ N)) (X := { x : Value × Chunk // BufR 111 4 x.1 x.2 (lks (g.bk.lkI tx)) }) (fun x => x.1.1) (fun x => K W (x.1.2 :: (g.L ++ N))) := by
  have hus := usable_spec (hB.bf (C := K W (g.L ++ N)) Hs.bk)
  obtain ⟨_, _, f2, _, _, _, _, _, fea, _⟩ := hB.bf (C := K W (g.L ++ N)) Hs.bk
  refine enter (args := [_, _]) Tryz.func29 rfl Tryz.ntmps29 rfl ?_
  by_cases c : 1 ≤ tx ∧ tx ≤ g.ts.length
  · obtain ⟨k, rfl⟩ : ∃ k : Nat, tx = k := ⟨tx.toNat, by omega⟩
    have hk : g.has k := ⟨by omega, by omega⟩
    obtain ⟨t, htm, hti, hid, hpb, htx⟩ := hB.at hk
    have hget := hB.eaG k hk
    obtain ⟨_, _, e2, _, _, el, _⟩ := hB.tf (C := K W (g.L ++ N)) Hs.bk htm
    have hlk := (good_lo hG htm).1
    have es : g.bk.lkI k = t.locks := by
      rw [Bk.lkI, if_pos (by simpa [Bg.bk] using c), Int.toNat_natCast, htx]; rfl
    rw [es]
    rw [Bg.ptr, hpb] at hget
    refine c_seq ?_
    refine c_region ?_
    refine s_y (y_assign rfl) rfl rfl rfl ?_
    refine s_nil ?_
    refine f_then ?_
    refine c_seq ?_
    refine c_seq ?_
    refine c_region ?_
    refine s_y (y_move rfl) rfl rfl rfl ?_
    refine s_call (en_f rfl Tryz.call52) hus rfl rfl rfl (fun _ => ?_)
    refine s_y (y_notT rfl) rfl rfl rfl ?_
    refine s_y (y_move rfl) rfl rfl rfl ?_
    refine s_y (y_move rfl) rfl rfl rfl ?_
    refine s_y (y_nilP rfl) rfl rfl rfl ?_
    refine s_y (y_fieldAddrB Tryz.tab 2 rfl rfl rfl rfl rfl) rfl rfl rfl ?_
    refine s_y (y_load Tryz.tab rfl rfl f2) rfl rfl rfl ?_
    refine s_y (y_move rfl) rfl rfl rfl ?_
    refine s_y (y_lookupE Tryz.tab rfl rfl rfl rfl (fun _ => rfl) (fea) (by assumption)) rfl rfl rfl ?_
    refine s_y (y_eqlPN Tryz.tab rfl rfl) rfl rfl rfl ?_
    refine s_y (y_pickF rfl rfl) rfl rfl rfl ?_
    refine s_nil ?_
    refine f_then ?_
    refine c_condF rfl ?_
    refine c_skip ?_
    refine f_then ?_
    refine c_seq ?_
    refine c_region ?_
    refine s_y (y_move rfl) rfl rfl rfl ?_
    refine s_y (y_nilP rfl) rfl rfl rfl ?_
    refine s_y (y_fieldAddrB Tryz.tab 2 rfl rfl rfl rfl rfl) rfl rfl rfl ?_
    refine s_y (y_load Tryz.tab rfl rfl f2) rfl rfl rfl ?_
    refine s_y (y_move rfl) rfl rfl rfl ?_
    refine s_y (y_lookupE Tryz.tab rfl rfl rfl rfl (fun _ => rfl) (fea) (by assumption)) rfl rfl rfl ?_
    refine s_y (y_nilP rfl) rfl rfl rfl ?_
    refine s_y (y_fieldAddrB Tryz.tab 2 rfl rfl rfl rfl rfl) rfl rfl rfl ?_
    refine s_y (y_load Tryz.tab rfl rfl e2) rfl rfl rfl ?_
    refine s_call (en_f rfl Tryz.call63) (cloneL el (lks_ones _) (by rw [List.length_map]; omega)) rfl rfl rfl (fun y => ?_)
    obtain ⟨⟨v, d⟩, hR⟩ := y
    dsimp only at hR ⊢
    refine s_y (y_assign rfl) rfl rfl rfl ?_
    refine s_nil ?_
    refine f_then ?_
    refine c_ret ?_
    exact f_ret ⟨(v, d), hR⟩ (res1 rfl rfl) (fun w h => h)
  · have hget : mget tx (.pointer none) g.ea = .pointer none := mget_out (by rw [hB.eaH]; exact decide_eq_false c)
    have es : g.bk.lkI tx = [] := by rw [Bk.lkI, if_neg (by simpa [Bg.bk] using c)]
    rw [es]
    refine c_seq ?_
    refine c_region ?_
    refine s_y (y_assign rfl) rfl rfl rfl ?_
    refine s_nil ?_
    refine f_then ?_
    refine c_seq ?_
    refine c_seq ?_
    refine c_region ?_
    refine s_y (y_move rfl) rfl rfl rfl ?_
    refine s_call (en_f rfl Tryz.call52) hus rfl rfl rfl (fun _ => ?_)
    refine s_y (y_notT rfl) rfl rfl rfl ?_
    refine s_y (y_move rfl) rfl rfl rfl ?_
    refine s_y (y_move rfl) rfl rfl rfl ?_
    refine s_y (y_nilP rfl) rfl rfl rfl ?_
    refine s_y (y_fieldAddrB Tryz.tab 2 rfl rfl rfl rfl rfl) rfl rfl rfl ?_
    refine s_y (y_load Tryz.tab rfl rfl f2) rfl rfl rfl ?_
    refine s_y (y_move rfl) rfl rfl rfl ?_
    refine s_y (y_lookupE Tryz.tab rfl rfl rfl rfl (fun _ => rfl) (fea) (by assumption)) rfl rfl rfl ?_
    refine s_y (y_eqlPN Tryz.tab rfl rfl) rfl rfl rfl ?_
    refine s_y (y_pickF rfl rfl) rfl rfl rfl ?_
    refine s_nil ?_
    refine f_then ?_
    refine c_condT rfl ?_
    refine c_seq ?_
    refine c_region ?_
    refine s_y (y_assign rfl) rfl rfl rfl ?_
    refine s_nil ?_
    refine f_then ?_
    refine c_ret ?_
    refine f_thenR ?_
    exact f_ret ⟨(.slice none 0 0, []), .nil⟩ (res1 rfl rfl) (fun w h => h.addNil)
set_option maxRecDepth 10000 in
set_option maxHeartbeats 4000000 in
theorem Now_b (hB : g.OK) : Spec Tryz.prog 35 #[.pointer (some ⟨g.b, 0, none⟩)] (K W (g.L ++ N)) (fun _ : Unit => .agg #[g.cv]) (fun _ => K W (g.L ++ N)) := by
  obtain ⟨a, ha⟩ := hB.mC.ptr
  refine enter (args := [_]) Tryz.func35 rfl Tryz.ntmps35 rfl ?_
  rw [ha]
  refine c_seq ?_
  refine c_region ?_
  refine s_do (do_alloc Tryz.tab rfl) rfl rfl rfl (fun b2 => ?_)
  refine s_nil ?_
  refine f_then ?_
  refine c_seq ?_
  refine c_seq ?_
  refine c_region ?_
  refine s_y (y_move rfl) rfl rfl rfl ?_
  refine s_call (en_f rfl Tryz.call52) (usable_spec (hB.bf Hs.bk.cons)) rfl rfl rfl (fun _ => ?_)
  have hc : CellsAre (K W ([(b2, row 29 (Value.agg #[Value.pointer none]).cells.toList)] :: (g.L ++ N))) ⟨g.b, 0, none⟩ [.pointer (some a)] := by
    rw [← ha]
    exact CellsAre.one (hB.bf Hs.bk.cons).c0
  refine s_y (y_notT rfl) rfl rfl rfl ?_
  refine s_nil ?_
  refine f_then ?_
  refine c_condF rfl ?_
  refine c_skip ?_
  refine f_then ?_
  refine c_seq ?_
  refine c_region ?_
  refine s_y (y_move rfl) rfl rfl rfl ?_
  refine s_y (y_nilP rfl) rfl rfl rfl ?_
  refine s_y (y_fieldAddr0 Tryz.tab rfl rfl rfl rfl rfl) rfl rfl rfl ?_
  refine s_y (y_loadA Tryz.tab rfl rfl rfl rfl hc) rfl rfl rfl ?_
  refine s_set (set_box Tryz.tab 0 rfl rfl rfl rfl rfl rfl rfl) rfl rfl ?_
  refine s_nil ?_
  refine f_then ?_
  refine c_ret ?_
  exact f_ret () (resA Tryz.tab rfl rfl rfl rfl rfl (cells_row0 0 rfl rfl)) (fun w h => h.tail)
end
section
theorem MOK.snoc {es : List Ent} {c : Nat} (h : MOK es c) {k : Int} {v : Value} (hk : mhas k es = false) (hr : -9223372036854775808 ≤ k ∧ k ≤ 9223372036854775807) (hl : es.length < 1000000) : MOK (es ++ [(k, v, c)]) (c + 1) := by
  refine ⟨?_, ?_, fun e he => ?_, fun e he => ?_, by rw [List.length_append, List.length_singleton]; omega⟩
  · rw [List.map_append, List.nodup_append]
    refine ⟨h.keys, by simp, fun a ha b hb e => ?_⟩
    simp only [List.map_cons, List.map_nil, List.mem_singleton] at hb
    have h1 : mhas k es = true := mhas_mem.2 (by rw [← hb, ← e]; exact ha)
    rw [h1] at hk
    cases hk
  · rw [List.map_append, List.nodup_append]
    refine ⟨h.born, by simp, fun a ha b hb e => ?_⟩
    simp only [List.map_cons, List.map_nil, List.mem_singleton] at hb
    obtain ⟨x, hx, rfl⟩ := List.mem_map.1 ha
    have := h.old x hx
    omega
  · rcases List.mem_append.1 he with he | he
    · have := h.old e he; omega
    · rw [List.mem_singleton.1 he]; exact Nat.lt_succ_self _
  · rcases List.mem_append.1 he with he | he
    · exact h.rng e he
    · rw [List.mem_singleton.1 he]; exact hr
theorem mget_snoc {z x v : Value} {k : Int} {c : Nat} {j : Int} : ∀ {es : List Ent}, j ≠ k → mget j z es = x → mget j z (es ++ [(k, v, c)]) = x
  | [], hj, h => by
    rw [List.nil_append, mget, if_neg hj]
    exact h
  | e :: r, hj, h => by
    rw [List.cons_append, mget]
    rw [mget] at h
    by_cases c : j = e.1
    · rw [if_pos c] at h ⊢; exact h
    · rw [if_neg c] at h ⊢; exact mget_snoc hj h
theorem mget_last {z v : Value} {k : Int} {c : Nat} : ∀ {es : List Ent}, mhas k es = false → mget k z (es ++ [(k, v, c)]) = v
  | [], _ => by rw [List.nil_append, mget, if_pos rfl]
  | e :: r, h => by
    rw [List.cons_append, mget]
    simp only [mhas] at h
    by_cases c : k = e.1
    · simp [c] at h
    · rw [if_neg c] at h ⊢; exact mget_last h
theorem mhas_snoc {v : Value} {k z : Int} {c : Nat} : ∀ {es : List Ent}, mhas z (es ++ [(k, v, c)]) = (mhas z es || decide (z = k))
  | [] => by simp [mhas]
  | e :: r => by
    rw [List.cons_append]
    simp only [mhas]
    split
    · simp
    · exact mhas_snoc
variable {g : Bg} {W : World} {N : List Chunk}
abbrev Tg.new (g : Bg) (b : Nat) : Tg := { id := g.ts.length + 1, b := b, st := 1, locks := [], req := Lk.zero, os := [], lv := .slice none 0 0, lc := [], ov := .slice none 0 0, oc := [] }
/-- One more transaction. -/
def Bg.beg (g : Bg) (b : Nat) : Bg := { g with ts := g.ts ++ [Tg.new g b], rn := g.rn ++ [g.ts.length + 1], ea := g.ea ++ [(((g.ts.length + 1 : Nat) : Int), Value.pointer (some ⟨b, 0, none⟩), g.ca)], ca := g.ca + 1, er := g.er ++ [(((g.ts.length + 1 : Nat) : Int), Value.pointer (some ⟨b, 0, none⟩), g.cr)], cr := g.cr + 1 }
theorem beg_bk {b : Nat} : (g.beg b).bk = g.bk.begin := by
  simp [Bg.beg, Bg.bk, Bk.begin, Tg.tx, Tx.new]
theorem beg_pb {b k : Nat} (hk : g.has k) : (g.beg b).pb k = g.pb k := by
  unfold Bg.has at hk
  simp only [Bg.pb, Bg.beg]
  rw [List.getElem?_append_left (by omega)]
theorem beg_new {b : Nat} : (g.beg b).pb (g.ts.length + 1) = b := by
  simp [Bg.pb, Bg.beg]
theorem er_no (hB : g.OK) : mhas ((g.ts.length + 1 : Nat) : Int) g.er = false := by
  cases h : mhas ((g.ts.length + 1 : Nat) : Int) g.er with
  | false => rfl
  | true =>
    rw [mhas_mem, hB.er_keys] at h
    obtain ⟨k, hk, e⟩ := List.mem_map.1 h
    have := (hB.rnh k hk).2
    have : k = g.ts.length + 1 := Int.ofNat_inj.1 e
    omega
theorem ea_no (hB : g.OK) : mhas ((g.ts.length + 1 : Nat) : Int) g.ea = false := by
  rw [hB.eaH]
  exact decide_eq_false (by omega)
theorem beg_ok (hB : g.OK) {b : Nat} (hb : b ∉ g.ts.map (·.b)) (hl : g.ts.length < 1000000) : (g.beg b).OK := by
  have hlen : (g.beg b).ts.length = g.ts.length + 1 := by simp [Bg.beg]
  have hrl : g.er.length ≤ g.ts.length := by
    rw [hB.er_len]
    have h1 : g.rn.Subset ((List.range g.ts.length).map (· + 1)) := fun k hk => by
      have h2 := hB.rnh k hk
      exact List.mem_map.2 ⟨k - 1, List.mem_range.2 (by unfold Bg.has at h2; omega), by unfold Bg.has at h2; omega⟩
    have h3 := Bk.nodup_le hB.rn_nd h1
    simpa using h3
  refine { mC := hB.mC, mW := hB.mW, id := fun i t ht => ?_, ok := fun t ht => ?_, nd := ?_, eaM := hB.eaM.snoc (ea_no hB) (by omega) (by rw [hB.eaL]; exact hl), eaG := fun k hk => ?_, eaH := fun z => ?_, eaL := ?_, erM := hB.erM.snoc (er_no hB) (by omega) (by omega), erE := ?_, rnh := fun k hk => ?_, qB := ?_, qh := fun k hk => ?_, lB := hB.lB, lO := hB.lO }
  · change (g.ts ++ [Tg.new g b])[i]? = some t at ht
    rcases Nat.lt_or_ge i g.ts.length with c | c
    · rw [List.getElem?_append_left c] at ht
      exact hB.id i t ht
    · rw [List.getElem?_append_right c] at ht
      have : i - g.ts.length = 0 := by
        rcases Nat.eq_zero_or_pos (i - g.ts.length) with h | h
        · exact h
        · rw [List.getElem?_eq_none (by rw [List.length_singleton]; omega)] at ht
          cases ht
      rw [this] at ht
      rw [← Option.some.inj ht]
      show g.ts.length + 1 = i + 1
      omega
  · rcases List.mem_append.1 ht with ht | ht
    · exact hB.ok t ht
    · rw [List.mem_singleton.1 ht]
      exact ⟨.nil, .nil, .nil⟩
  · show ((g.ts ++ [Tg.new g b]).map (·.b)).Nodup
    rw [List.map_append, List.nodup_append]
    refine ⟨hB.nd, by simp, fun x hx y hy e => ?_⟩
    simp only [List.map_cons, List.map_nil, List.mem_singleton] at hy
    exact hb (by rw [← hy, ← e]; exact hx)
  · by_cases c : k = g.ts.length + 1
    · subst c
      rw [Bg.ptr, beg_new]
      exact mget_last (ea_no hB)
    · have hk' : g.has k := by unfold Bg.has at hk ⊢; rw [hlen] at hk; omega
      rw [Bg.ptr, beg_pb hk']
      exact mget_snoc (by omega) (hB.eaG k hk')
  · rw [hlen]
    show mhas z (g.ea ++ _) = _
    rw [mhas_snoc, hB.eaH]
    by_cases c1 : 1 ≤ z ∧ z ≤ (g.ts.length : Int)
    · rw [decide_eq_true c1, Bool.true_or]
      exact (decide_eq_true (by omega)).symm
    · rw [decide_eq_false c1, Bool.false_or]
      exact decide_eq_decide.2 (by omega)
  · show (g.ea ++ _).length = (g.ts ++ _).length
    rw [List.length_append, List.length_append, hB.eaL]
    rfl
  · show (g.er ++ _).map (fun e => (e.1, e.2.1)) = (g.rn ++ _).map fun k : Nat => ((k : Int), (g.beg b).ptr k)
    rw [List.map_append, List.map_append, hB.erE]
    congr 1
    · refine List.map_congr_left fun k hk => ?_
      rw [Bg.ptr, Bg.ptr, beg_pb (hB.rnh k hk)]
    · simp only [List.map_cons, List.map_nil, Bg.ptr, beg_new]
  · rcases List.mem_append.1 hk with hk | hk
    · have := hB.rnh k hk
      unfold Bg.has at this ⊢
      rw [hlen]; omega
    · rw [List.mem_singleton.1 hk]
      unfold Bg.has
      rw [hlen]; omega
  · have : (g.q.map fun k => [(g.beg b).ptr k]) = g.q.map fun k => [g.ptr k] := List.map_congr_left fun k hk => by rw [Bg.ptr, Bg.ptr, beg_pb (hB.qh k hk)]
    show BufR 105 1 g.qv g.qc (g.q.map fun k => [(g.beg b).ptr k])
    rw [this]
    exact hB.qB
  · have := hB.qh k hk
    unfold Bg.has at this ⊢
    rw [hlen]; omega
set_option maxRecDepth 10000 in
set_option maxHeartbeats 8000000 in
theorem Begin_b (hB : g.OK) (hl : g.ts.length < 1000000) : Spec Tryz.prog 26 #[.pointer (some ⟨g.b, 0, none⟩)] (K W (g.L ++ N))
    (X := { x : Bg × Nat × Nat // x.1.OK ∧ x.1.b = g.b ∧ ((64 ≤ g.rn.length ∧ x.1.bk = g.bk ∧ x.2 = (0, 5)) ∨ (g.rn.length < 64 ∧ x.1.bk = g.bk.begin ∧ x.2 = (g.ts.length + 1, 0))) }) (fun x => .tuple #[.int .i64 (x.1.2.1 : Nat), .int .i64 (x.1.2.2 : Nat)]) (fun x => K W (x.1.1.L ++ N)) := by
  have hus := usable_spec (hB.bf (C := K W (g.L ++ N)) Hs.bk)
  obtain ⟨_, _, f2, f3, _, _, _, _, fea, fer⟩ := hB.bf (C := K W (g.L ++ N)) Hs.bk
  have hel := hB.eaL
  have hrl := hB.er_len
  have hem := hB.erM
  refine enter (args := [_]) Tryz.func26 rfl Tryz.ntmps26 rfl ?_
  refine c_seq ?_
  refine c_region ?_
  refine s_y (y_assign rfl) rfl rfl rfl ?_
  refine s_y (y_assign rfl) rfl rfl rfl ?_
  refine s_nil ?_
  refine f_then ?_
  refine c_seq ?_
  refine c_block ?_
  refine c_seq ?_
  refine c_region ?_
  refine s_y (y_move rfl) rfl rfl rfl ?_
  refine s_call (en_f rfl Tryz.call52) hus rfl rfl rfl (fun _ => ?_)
  by_cases c : 64 ≤ g.rn.length
  · refine s_y (y_notT rfl) rfl rfl rfl ?_
    refine s_y (y_assign rfl) rfl rfl rfl ?_
    refine s_nil ?_
    refine f_then ?_
    refine c_condF rfl ?_
    refine c_seq ?_
    refine c_region ?_
    refine s_y (y_move rfl) rfl rfl rfl ?_
    refine s_y (y_nilP rfl) rfl rfl rfl ?_
    refine s_y (y_fieldAddrB Tryz.tab 3 rfl rfl rfl rfl rfl) rfl rfl rfl ?_
    refine s_y (y_load Tryz.tab rfl rfl f3) rfl rfl rfl ?_
    refine s_y (y_lenMH Tryz.tab rfl rfl (fer)) rfl rfl rfl ?_
    refine s_y (y_T (y_geq rfl rfl) (by omega)) rfl rfl rfl ?_
    refine s_y (y_assign rfl) rfl rfl rfl ?_
    refine s_nil ?_
    refine f_then ?_
    refine c_condT rfl ?_
    refine c_seq ?_
    refine c_region ?_
    refine s_y (y_assign rfl) rfl rfl rfl ?_
    refine s_y (y_assign rfl) rfl rfl rfl ?_
    refine s_nil ?_
    refine f_then ?_
    refine c_ret ?_
    refine f_blockR ?_
    refine f_thenR ?_
    exact f_ret ⟨(g, 0, 5), hB, rfl, .inl ⟨c, rfl, rfl⟩⟩ (res2 rfl rfl rfl) (fun w h => h)
  · refine s_y (y_notT rfl) rfl rfl rfl ?_
    refine s_y (y_assign rfl) rfl rfl rfl ?_
    refine s_nil ?_
    refine f_then ?_
    refine c_condF rfl ?_
    refine c_seq ?_
    refine c_region ?_
    refine s_y (y_move rfl) rfl rfl rfl ?_
    refine s_y (y_nilP rfl) rfl rfl rfl ?_
    refine s_y (y_fieldAddrB Tryz.tab 3 rfl rfl rfl rfl rfl) rfl rfl rfl ?_
    refine s_y (y_load Tryz.tab rfl rfl f3) rfl rfl rfl ?_
    refine s_y (y_lenMH Tryz.tab rfl rfl (fer)) rfl rfl rfl ?_
    refine s_y (y_F (y_geq rfl rfl) (by omega)) rfl rfl rfl ?_
    refine s_y (y_assign rfl) rfl rfl rfl ?_
    refine s_nil ?_
    refine f_then ?_
    refine c_condF rfl ?_
    refine c_skip ?_
    refine f_blockN ?_
    refine f_then ?_
    refine c_seq ?_
    refine c_region ?_
    refine s_y (y_move rfl) rfl rfl rfl ?_
    refine s_y (y_nilP rfl) rfl rfl rfl ?_
    refine s_y (y_fieldAddrB Tryz.tab 2 rfl rfl rfl rfl rfl) rfl rfl rfl ?_
    refine s_y (y_load Tryz.tab rfl rfl f2) rfl rfl rfl ?_
    refine s_y (y_lenMH Tryz.tab rfl rfl (fea)) rfl rfl rfl ?_
    refine s_y (y_add rfl rfl (by omega)) rfl rfl rfl ?_
    refine s_y (y_build Tryz.tab rfl rfl rfl rfl rfl) rfl rfl rfl ?_
    refine s_do (do_box rfl) rfl rfl rfl (fun b23 => ?_)
    refine s_y (y_assign rfl) rfl rfl rfl ?_
    refine s_nil ?_
    refine f_then ?_
    refine c_seq ?_
    rw [hel]
    refine SC.cls (C' := K W ([(b23, row 113 (Tg.new g b23).cells)] :: [(g.b, row 96 g.cells)] :: g.p :: [(g.ba, mobj g.ea g.ca)] :: [(g.br, mobj g.er g.cr)] :: g.qc :: g.lc :: (g.ts.flatMap Tg.chunks ++ N))) ?_ (fun w h => by
      have h2 : K W ([(b23, row 113 (Tg.new g b23).cells)] :: g.p :: [(g.b, row 96 g.cells)] :: [(g.ba, mobj g.ea g.ca)] :: [(g.br, mobj g.er g.cr)] :: g.qc :: g.lc :: (g.ts.flatMap Tg.chunks ++ N)) w := h
      exact (h2.front 2).front 1)
    have hn1 := ea_no hB
    have hn2 := er_no hB
    have hold1 := hB.eaM.old
    have hold2 := hB.erM.old
    clear f2 f3 fea fer
    refine c_plan [.c 0, .c 1, .c 2, .c 3, .c 4, .c 5, .c 6, .c 7, .c 8, .c 9, .c 10, .c 11, .c 12, .c 13, .c 14, .c 15, .c 16, .c 17, .s 18, .c 19, .s 20, .s 21, .c 22, .s 23] [] (K W [[(b23, row 113 (Tg.new g b23).cells)], [(g.b, row 96 g.cells)]]) Tryz.mixed (by kernel_rfl) rfl K.cl ?_
    refine d_c rfl (Qui.ylds (y_move rfl)) rfl rfl rfl (fun w h => h.keep 2) K.cl ?_
    refine d_c rfl (Qui.ylds (y_nilP rfl)) rfl rfl rfl (fun w h => h.keep 2) K.cl ?_
    refine d_c rfl (Qui.ylds (y_fieldAddrB Tryz.tab 2 rfl rfl rfl rfl rfl)) rfl rfl rfl (fun w h => h.keep 2) K.cl ?_
    refine d_c rfl (Qui.ylds (y_load Tryz.tab rfl rfl (cell_row 1 rfl rfl))) rfl rfl rfl (fun w h => h.keep 2) K.cl ?_
    refine d_c rfl (Qui.ylds (y_move rfl)) rfl rfl rfl (fun w h => h.keep 2) K.cl ?_
    refine d_c rfl (Qui.ylds (y_nilP rfl)) rfl rfl rfl (fun w h => h.keep 2) K.cl ?_
    refine d_c rfl (Qui.ylds (y_fieldAddr0 Tryz.tab rfl rfl rfl rfl rfl)) rfl rfl rfl (fun w h => h.keep 2) K.cl ?_
    refine d_c rfl (Qui.ylds (y_load Tryz.tab rfl rfl (cell_row 0 rfl rfl))) rfl rfl rfl (fun w h => h.keep 2) K.cl ?_
    refine d_c rfl (Qui.ylds (y_move rfl)) rfl rfl rfl (fun w h => h.keep 2) K.cl ?_
    refine d_c rfl (Qui.ylds (y_nilP rfl)) rfl rfl rfl (fun w h => h.keep 2) K.cl ?_
    refine d_c rfl (Qui.ylds (y_fieldAddrB Tryz.tab 3 rfl rfl rfl rfl rfl)) rfl rfl rfl (fun w h => h.keep 2) K.cl ?_
    refine d_c rfl (Qui.ylds (y_load Tryz.tab rfl rfl (cell_row 1 rfl rfl))) rfl rfl rfl (fun w h => h.keep 2) K.cl ?_
    refine d_c rfl (Qui.ylds (y_move rfl)) rfl rfl rfl (fun w h => h.keep 2) K.cl ?_
    refine d_c rfl (Qui.ylds (y_nilP rfl)) rfl rfl rfl (fun w h => h.keep 2) K.cl ?_
    refine d_c rfl (Qui.ylds (y_fieldAddr0 Tryz.tab rfl rfl rfl rfl rfl)) rfl rfl rfl (fun w h => h.keep 2) K.cl ?_
    refine d_c rfl (Qui.ylds (y_load Tryz.tab rfl rfl (cell_row 0 rfl rfl))) rfl rfl rfl (fun w h => h.keep 2) K.cl ?_
    refine d_c rfl (Qui.ylds (y_move rfl)) rfl rfl rfl (fun w h => h.keep 2) K.cl ?_
    refine d_c rfl (Qui.ylds (y_move rfl)) rfl rfl rfl (fun w h => h.keep 2) K.cl ?_
    refine d_s rfl (do_mapEntry Tryz.tab 3 rfl rfl rfl rfl (fun _ => rfl) rfl hn1) rfl rfl rfl (fun _ => K.cl) (fun _ _ _ h => h.keep 2) (fun _ => ?_)
    refine d_c rfl (Qui.ylds (y_extract rfl rfl)) rfl rfl rfl (fun w h => h.keep 2) K.cl ?_
    refine d_set rfl (set_entryStore 3 rfl rfl rfl rfl hold1) rfl rfl K.cl (fun _ _ h => h.keep 2) ?_
    skip
    refine d_s rfl (do_mapEntry Tryz.tab 4 rfl rfl rfl rfl (fun _ => rfl) rfl hn2) rfl rfl rfl (fun _ => K.cl) (fun _ _ _ h => h.keep 2) (fun _ => ?_)
    refine d_c rfl (Qui.ylds (y_extract rfl rfl)) rfl rfl rfl (fun w h => h.keep 2) K.cl ?_
    refine d_set rfl (set_entryStore 4 rfl rfl rfl rfl hold2) rfl rfl K.cl (fun _ _ h => h.keep 2) ?_
    refine d_nil ?_
    refine f_then ?_
    refine c_seq ?_
    refine c_region ?_
    refine s_y (y_move rfl) rfl rfl rfl ?_
    refine s_y (y_nilP rfl) rfl rfl rfl ?_
    refine s_y (y_fieldAddr0 Tryz.tab rfl rfl rfl rfl rfl) rfl rfl rfl ?_
    refine s_y (y_load Tryz.tab rfl rfl (cell_row 0 rfl rfl)) rfl rfl rfl ?_
    refine s_y (y_assign rfl) rfl rfl rfl ?_
    refine s_y (y_assign rfl) rfl rfl rfl ?_
    refine s_nil ?_
    refine f_then ?_
    refine c_ret ?_
    have hk : ∀ w, K W ([(b23, row 113 (Tg.new g b23).cells)] :: [(g.b, row 96 g.cells)] :: g.p :: [(g.ba, mobj (g.beg b23).ea (g.beg b23).ca)] :: [(g.br, mobj (g.beg b23).er (g.beg b23).cr)] :: g.qc :: g.lc :: (g.ts.flatMap Tg.chunks ++ N)) w → b23 ∉ g.ts.map (·.b) := fun w h hm => by
      have hnd := (List.nodup_cons.1 h.nd).1
      obtain ⟨t, ht, e⟩ := List.mem_map.1 hm
      exact hnd (List.mem_map.2 ⟨(t.b, row 113 t.cells), List.mem_flatten.2 ⟨[(t.b, row 113 t.cells)], List.mem_cons_of_mem _ (List.mem_cons_of_mem _ (List.mem_cons_of_mem _ (List.mem_cons_of_mem _ (List.mem_cons_of_mem _ (List.mem_cons_of_mem _ (List.mem_append_left _ (List.mem_flatMap.2 ⟨t, ht, by simp⟩))))))), by simp⟩, e⟩)
    refine Fin.cls (C' := K W ([(b23, row 113 (Tg.new g b23).cells)] :: [(g.b, row 96 g.cells)] :: g.p :: [(g.ba, mobj (g.beg b23).ea (g.beg b23).ca)] :: [(g.br, mobj (g.beg b23).er (g.beg b23).cr)] :: g.qc :: g.lc :: (g.ts.flatMap Tg.chunks ++ N))) ?_ (fun w h => h)
    refine Fin.fact hk (fun hb => ?_)
    refine f_ret ⟨(g.beg b23, g.ts.length + 1, 0), beg_ok hB hb hl, rfl, .inr ⟨by omega, beg_bk, rfl⟩⟩ (res2 rfl rfl rfl) (fun w h => ?_)
    have h2 : K W ((Tg.new g b23).chunks ++ ((g.p :: [(g.b, row 96 g.cells)] :: [(g.ba, mobj (g.beg b23).ea (g.beg b23).ca)] :: [(g.br, mobj (g.beg b23).er (g.beg b23).cr)] :: g.qc :: g.lc :: (g.ts.flatMap Tg.chunks)) ++ N)) w := by
      have h3 : K W ([(b23, row 113 (Tg.new g b23).cells)] :: g.p :: [(g.b, row 96 g.cells)] :: [(g.ba, mobj (g.beg b23).ea (g.beg b23).ca)] :: [(g.br, mobj (g.beg b23).er (g.beg b23).cr)] :: g.qc :: g.lc :: (g.ts.flatMap Tg.chunks ++ N)) w := (h.front 2).front 1
      exact h3.weak [] (by simp)
    have h4 := K.bckN (A := (Tg.new g b23).chunks) (B := g.p :: [(g.b, row 96 g.cells)] :: [(g.ba, mobj (g.beg b23).ea (g.beg b23).ca)] :: [(g.br, mobj (g.beg b23).er (g.beg b23).cr)] :: g.qc :: g.lc :: (g.ts.flatMap Tg.chunks)) h2
    exact h4.weak [] (by simp [Bg.L, Bg.fixed, Bg.beg])
end
end Go.KL
end

section
/- Walks: without a book; New. -/
namespace Go.KL
open Go.Proofs
attribute [local irreducible] SC St Fin Sq Ylds Doos Sets Enters Spec CellIs CellsAre Then Ret Rnd Chn resOK ints bools recs arr
section
variable {W : World} {N : List Chunk} {tx lo hi fr to : Int}
set_option maxRecDepth 10000 in
set_option maxHeartbeats 4000000 in
theorem find_nil : Spec Tryz.prog 64 #[.pointer none, .int .i64 tx] (K W N) (fun _ : Unit => .tuple #[.pointer none, .int .i64 1]) (fun _ => K W N) := by
  refine enter (args := [_, _]) Tryz.func64 rfl Tryz.ntmps64 rfl ?_
  refine c_seq ?_
  refine c_region ?_
  refine s_y (y_assign rfl) rfl rfl rfl ?_
  refine s_y (y_assign rfl) rfl rfl rfl ?_
  refine s_nil ?_
  refine f_then ?_
  refine c_seq ?_
  refine c_seq ?_
  refine c_region ?_
  refine s_y (y_move rfl) rfl rfl rfl ?_
  refine s_call (en_f rfl Tryz.call52) usable_nil rfl rfl rfl (fun _ => ?_)
  refine s_y (y_notF rfl) rfl rfl rfl ?_
  refine s_nil ?_
  refine f_then ?_
  refine c_condT rfl ?_
  refine c_seq ?_
  refine c_region ?_
  refine s_y (y_assign rfl) rfl rfl rfl ?_
  refine s_y (y_assign rfl) rfl rfl rfl ?_
  refine s_nil ?_
  refine f_then ?_
  refine c_ret ?_
  refine f_thenR ?_
  exact f_ret () (res2 rfl rfl rfl) (fun w h => h)
set_option maxRecDepth 10000 in
set_option maxHeartbeats 4000000 in
theorem perform_nil {mv : Bool} : Spec Tryz.prog 62 #[.pointer none, .int .i64 tx, .agg #[.bool mv, .int .i64 lo, .int .i64 hi, .int .i64 fr, .int .i64 to, .slice none 0 0]] (K W N) (fun _ : Unit => .tuple #[.slice none 0 0, .int .i64 1]) (fun _ => K W N) := by
  refine enter (args := [_, _, _]) Tryz.func62 rfl Tryz.ntmps62 rfl ?_
  refine c_seq ?_
  refine c_region ?_
  refine s_do (do_box rfl) rfl rfl rfl (fun b5 => ?_)
  refine s_y (y_assign rfl) rfl rfl rfl ?_
  refine s_y (y_assign rfl) rfl rfl rfl ?_
  refine s_nil ?_
  refine f_then ?_
  refine c_seq ?_
  refine c_region ?_
  refine s_y (y_move rfl) rfl rfl rfl ?_
  refine s_y (y_move rfl) rfl rfl rfl ?_
  refine s_call (en_f rfl Tryz.call64) find_nil rfl rfl rfl (fun _ => ?_)
  refine s_y (y_move rfl) rfl rfl rfl ?_
  refine s_y (y_extract rfl rfl) rfl rfl rfl ?_
  refine s_y (y_extract rfl rfl) rfl rfl rfl ?_
  refine s_y (y_assign rfl) rfl rfl rfl ?_
  refine s_y (y_assign rfl) rfl rfl rfl ?_
  refine s_nil ?_
  refine f_then ?_
  refine c_seq ?_
  refine c_block ?_
  refine c_seq ?_
  refine c_region ?_
  refine s_y (y_move rfl) rfl rfl rfl ?_
  refine s_y (y_T (y_neq rfl rfl) (by omega)) rfl rfl rfl ?_
  refine s_y (y_assign rfl) rfl rfl rfl ?_
  refine s_nil ?_
  refine f_then ?_
  refine c_condT rfl ?_
  refine c_seq ?_
  refine c_region ?_
  refine s_y (y_move rfl) rfl rfl rfl ?_
  refine s_y (y_assign rfl) rfl rfl rfl ?_
  refine s_y (y_assign rfl) rfl rfl rfl ?_
  refine s_nil ?_
  refine f_then ?_
  refine c_ret ?_
  refine f_blockR ?_
  refine f_thenR ?_
  exact f_ret () (res2 rfl rfl rfl) (fun w h => h.tail)
set_option maxRecDepth 10000 in
set_option maxHeartbeats 4000000 in
theorem Look_nil : Spec Tryz.prog 28 #[.pointer none, .int .i64 tx, .int .i64 lo, .int .i64 hi] (K W N) (fun _ : Unit => .tuple #[.slice none 0 0, .int .i64 1]) (fun _ => K W N) := by
  refine enter (args := [_, _, _, _]) Tryz.func28 rfl Tryz.ntmps28 rfl ?_
  refine c_seq ?_
  refine c_region ?_
  refine s_y (y_assign rfl) rfl rfl rfl ?_
  refine s_y (y_assign rfl) rfl rfl rfl ?_
  refine s_nil ?_
  refine f_then ?_
  refine c_seq ?_
  refine c_region ?_
  refine s_y (y_move rfl) rfl rfl rfl ?_
  refine s_y (y_move rfl) rfl rfl rfl ?_
  refine s_y (y_move rfl) rfl rfl rfl ?_
  refine s_y (y_move rfl) rfl rfl rfl ?_
  refine s_y (y_build Tryz.tab rfl rfl rfl rfl rfl) rfl rfl rfl ?_
  refine s_call (en_f rfl Tryz.call62) perform_nil rfl rfl rfl (fun _ => ?_)
  refine s_y (y_extract rfl rfl) rfl rfl rfl ?_
  refine s_y (y_extract rfl rfl) rfl rfl rfl ?_
  refine s_y (y_assign rfl) rfl rfl rfl ?_
  refine s_y (y_assign rfl) rfl rfl rfl ?_
  refine s_nil ?_
  refine f_then ?_
  refine c_ret ?_
  exact f_ret () (res2 rfl rfl rfl) (fun w h => h)
set_option maxRecDepth 10000 in
set_option maxHeartbeats 4000000 in
theorem Move_nil : Spec Tryz.prog 27 #[.pointer none, .int .i64 tx, .int .i64 lo, .int .i64 hi, .int .i64 fr, .int .i64 to] (K W N) (fun _ : Unit => .int .i64 1) (fun _ => K W N) := by
  refine enter (args := [_, _, _, _, _, _]) Tryz.func27 rfl Tryz.ntmps27 rfl ?_
  refine c_seq ?_
  refine c_region ?_
  refine s_y (y_assign rfl) rfl rfl rfl ?_
  refine s_nil ?_
  refine f_then ?_
  refine c_seq ?_
  refine c_region ?_
  refine s_y (y_move rfl) rfl rfl rfl ?_
  refine s_y (y_move rfl) rfl rfl rfl ?_
  refine s_y (y_move rfl) rfl rfl rfl ?_
  refine s_y (y_move rfl) rfl rfl rfl ?_
  refine s_y (y_move rfl) rfl rfl rfl ?_
  refine s_y (y_move rfl) rfl rfl rfl ?_
  refine s_y (y_build Tryz.tab rfl rfl rfl rfl rfl) rfl rfl rfl ?_
  refine s_call (en_f rfl Tryz.call62) perform_nil rfl rfl rfl (fun _ => ?_)
  refine s_y (y_move rfl) rfl rfl rfl ?_
  refine s_y (y_extract rfl rfl) rfl rfl rfl ?_
  refine s_y (y_extract rfl rfl) rfl rfl rfl ?_
  refine s_y (y_assign rfl) rfl rfl rfl ?_
  refine s_y (y_assign rfl) rfl rfl rfl ?_
  refine s_nil ?_
  refine f_then ?_
  refine c_seq ?_
  refine c_region ?_
  refine s_y (y_move rfl) rfl rfl rfl ?_
  refine s_y (y_assign rfl) rfl rfl rfl ?_
  refine s_nil ?_
  refine f_then ?_
  refine c_ret ?_
  exact f_ret () (res1 rfl rfl) (fun w h => h)
set_option maxRecDepth 10000 in
set_option maxHeartbeats 4000000 in
theorem Commit_nil : Spec Tryz.prog 30 #[.pointer none, .int .i64 tx] (K W N) (fun _ : Unit => .tuple #[.int .i64 0, .int .i64 1]) (fun _ => K W N) := by
  refine enter (args := [_, _]) Tryz.func30 rfl Tryz.ntmps30 rfl ?_
  refine c_seq ?_
  refine c_region ?_
  refine s_y (y_assign rfl) rfl rfl rfl ?_
  refine s_y (y_assign rfl) rfl rfl rfl ?_
  refine s_nil ?_
  refine f_then ?_
  refine c_seq ?_
  refine c_region ?_
  refine s_y (y_move rfl) rfl rfl rfl ?_
  refine s_y (y_move rfl) rfl rfl rfl ?_
  refine s_call (en_f rfl Tryz.call64) find_nil rfl rfl rfl (fun _ => ?_)
  refine s_y (y_move rfl) rfl rfl rfl ?_
  refine s_y (y_extract rfl rfl) rfl rfl rfl ?_
  refine s_y (y_extract rfl rfl) rfl rfl rfl ?_
  refine s_y (y_assign rfl) rfl rfl rfl ?_
  refine s_y (y_assign rfl) rfl rfl rfl ?_
  refine s_nil ?_
  refine f_then ?_
  refine c_seq ?_
  refine c_block ?_
  refine c_seq ?_
  refine c_region ?_
  refine s_y (y_move rfl) rfl rfl rfl ?_
  refine s_y (y_T (y_neq rfl rfl) (by omega)) rfl rfl rfl ?_
  refine s_y (y_assign rfl) rfl rfl rfl ?_
  refine s_nil ?_
  refine f_then ?_
  refine c_condT rfl ?_
  refine c_seq ?_
  refine c_region ?_
  refine s_y (y_move rfl) rfl rfl rfl ?_
  refine s_y (y_assign rfl) rfl rfl rfl ?_
  refine s_y (y_assign rfl) rfl rfl rfl ?_
  refine s_nil ?_
  refine f_then ?_
  refine c_ret ?_
  refine f_blockR ?_
  refine f_thenR ?_
  exact f_ret () (res2 rfl rfl rfl) (fun w h => h)
set_option maxRecDepth 10000 in
set_option maxHeartbeats 4000000 in
theorem Abort_nil : Spec Tryz.prog 31 #[.pointer none, .int .i64 tx] (K W N) (fun _ : Unit => .int .i64 1) (fun _ => K W N) := by
  refine enter (args := [_, _]) Tryz.func31 rfl Tryz.ntmps31 rfl ?_
  refine c_seq ?_
  refine c_region ?_
  refine s_y (y_assign rfl) rfl rfl rfl ?_
  refine s_nil ?_
  refine f_then ?_
  refine c_seq ?_
  refine c_region ?_
  refine s_y (y_move rfl) rfl rfl rfl ?_
  refine s_y (y_move rfl) rfl rfl rfl ?_
  refine s_call (en_f rfl Tryz.call64) find_nil rfl rfl rfl (fun _ => ?_)
  refine s_y (y_move rfl) rfl rfl rfl ?_
  refine s_y (y_extract rfl rfl) rfl rfl rfl ?_
  refine s_y (y_extract rfl rfl) rfl rfl rfl ?_
  refine s_y (y_assign rfl) rfl rfl rfl ?_
  refine s_y (y_assign rfl) rfl rfl rfl ?_
  refine s_nil ?_
  refine f_then ?_
  refine c_seq ?_
  refine c_seq ?_
  refine c_region ?_
  refine s_y (y_move rfl) rfl rfl rfl ?_
  refine s_y (y_T (y_neq rfl rfl) (by omega)) rfl rfl rfl ?_
  refine s_nil ?_
  refine f_then ?_
  refine c_condT rfl ?_
  refine c_seq ?_
  refine c_region ?_
  refine s_y (y_move rfl) rfl rfl rfl ?_
  refine s_y (y_assign rfl) rfl rfl rfl ?_
  refine s_nil ?_
  refine f_then ?_
  refine c_ret ?_
  refine f_thenR ?_
  exact f_ret () (res1 rfl rfl) (fun w h => h)
set_option maxRecDepth 10000 in
set_option maxHeartbeats 4000000 in
theorem State_nil : Spec Tryz.prog 38 #[.pointer none, .int .i64 tx] (K W N) (fun _ : Unit => .int .i64 0) (fun _ => K W N) := by
  refine enter (args := [_, _]) Tryz.func38 rfl Tryz.ntmps38 rfl ?_
  refine c_seq ?_
  refine c_region ?_
  refine s_y (y_assign rfl) rfl rfl rfl ?_
  refine s_nil ?_
  refine f_then ?_
  refine c_seq ?_
  refine c_seq ?_
  refine c_region ?_
  refine s_y (y_move rfl) rfl rfl rfl ?_
  refine s_call (en_f rfl Tryz.call52) usable_nil rfl rfl rfl (fun _ => ?_)
  refine s_y (y_notF rfl) rfl rfl rfl ?_
  refine s_y (y_move rfl) rfl rfl rfl ?_
  iterate 7 refine s_skip rfl rfl rfl ?_
  refine s_y (y_pickT rfl rfl) rfl rfl rfl ?_
  refine s_nil ?_
  refine f_then ?_
  refine c_condT rfl ?_
  refine c_seq ?_
  refine c_region ?_
  refine s_y (y_assign rfl) rfl rfl rfl ?_
  refine s_nil ?_
  refine f_then ?_
  refine c_ret ?_
  refine f_thenR ?_
  exact f_ret () (res1 rfl rfl) (fun w h => h)
set_option maxRecDepth 10000 in
set_option maxHeartbeats 4000000 in
theorem Held_nil : Spec Tryz.prog 29 #[.pointer none, .int .i64 tx] (K W N) (fun _ : Unit => .slice none 0 0) (fun _ => K W N) := by
  refine enter (args := [_, _]) Tryz.func29 rfl Tryz.ntmps29 rfl ?_
  refine c_seq ?_
  refine c_region ?_
  refine s_y (y_assign rfl) rfl rfl rfl ?_
  refine s_nil ?_
  refine f_then ?_
  refine c_seq ?_
  refine c_seq ?_
  refine c_region ?_
  refine s_y (y_move rfl) rfl rfl rfl ?_
  refine s_call (en_f rfl Tryz.call52) usable_nil rfl rfl rfl (fun _ => ?_)
  refine s_y (y_notF rfl) rfl rfl rfl ?_
  refine s_y (y_move rfl) rfl rfl rfl ?_
  iterate 7 refine s_skip rfl rfl rfl ?_
  refine s_y (y_pickT rfl rfl) rfl rfl rfl ?_
  refine s_nil ?_
  refine f_then ?_
  refine c_condT rfl ?_
  refine c_seq ?_
  refine c_region ?_
  refine s_y (y_assign rfl) rfl rfl rfl ?_
  refine s_nil ?_
  refine f_then ?_
  refine c_ret ?_
  refine f_thenR ?_
  exact f_ret () (res1 rfl rfl) (fun w h => h)
set_option maxRecDepth 10000 in
set_option maxHeartbeats 4000000 in
theorem Queue_nil : Spec Tryz.prog 39 #[.pointer none] (K W N) (fun _ : Unit => .slice none 0 0) (fun _ => K W N) := by
  refine enter (args := [_]) Tryz.func39 rfl Tryz.ntmps39 rfl ?_
  refine c_seq ?_
  refine c_region ?_
  refine s_y (y_assign rfl) rfl rfl rfl ?_
  refine s_nil ?_
  refine f_then ?_
  refine c_seq ?_
  refine c_seq ?_
  refine c_region ?_
  refine s_y (y_move rfl) rfl rfl rfl ?_
  refine s_call (en_f rfl Tryz.call52) usable_nil rfl rfl rfl (fun _ => ?_)
  refine s_y (y_notF rfl) rfl rfl rfl ?_
  refine s_nil ?_
  refine f_then ?_
  refine c_condT rfl ?_
  refine c_seq ?_
  refine c_region ?_
  refine s_y (y_assign rfl) rfl rfl rfl ?_
  refine s_nil ?_
  refine f_then ?_
  refine c_ret ?_
  refine f_thenR ?_
  exact f_ret () (res1 rfl rfl) (fun w h => h)
set_option maxRecDepth 10000 in
set_option maxHeartbeats 4000000 in
theorem Room_nil : Spec Tryz.prog 17 #[.pointer none] (K W N) (fun _ : Unit => .int .i64 0) (fun _ => K W N) := by
  refine enter (args := [_]) Tryz.func17 rfl Tryz.ntmps17 rfl ?_
  refine c_seq ?_
  refine c_region ?_
  refine s_y (y_assign rfl) rfl rfl rfl ?_
  refine s_nil ?_
  refine f_then ?_
  refine c_seq ?_
  refine c_seq ?_
  refine c_region ?_
  refine s_y (y_move rfl) rfl rfl rfl ?_
  refine s_call (en_f rfl Tryz.call52) usable_nil rfl rfl rfl (fun _ => ?_)
  refine s_y (y_notF rfl) rfl rfl rfl ?_
  refine s_nil ?_
  refine f_then ?_
  refine c_condT rfl ?_
  refine c_seq ?_
  refine c_region ?_
  refine s_y (y_assign rfl) rfl rfl rfl ?_
  refine s_nil ?_
  refine f_then ?_
  refine c_ret ?_
  refine f_thenR ?_
  exact f_ret () (res1 rfl rfl) (fun w h => h)
set_option maxRecDepth 10000 in
set_option maxHeartbeats 4000000 in
theorem Log_nil : Spec Tryz.prog 22 #[.pointer none] (K W N) (fun _ : Unit => .slice none 0 0) (fun _ => K W N) := by
  refine enter (args := [_]) Tryz.func22 rfl Tryz.ntmps22 rfl ?_
  refine c_seq ?_
  refine c_region ?_
  refine s_y (y_assign rfl) rfl rfl rfl ?_
  refine s_nil ?_
  refine f_then ?_
  refine c_seq ?_
  refine c_seq ?_
  refine c_region ?_
  refine s_y (y_move rfl) rfl rfl rfl ?_
  refine s_call (en_f rfl Tryz.call52) usable_nil rfl rfl rfl (fun _ => ?_)
  refine s_y (y_notF rfl) rfl rfl rfl ?_
  refine s_nil ?_
  refine f_then ?_
  refine c_condT rfl ?_
  refine c_seq ?_
  refine c_region ?_
  refine s_y (y_assign rfl) rfl rfl rfl ?_
  refine s_nil ?_
  refine f_then ?_
  refine c_ret ?_
  refine f_thenR ?_
  exact f_ret () (res1 rfl rfl) (fun w h => h)
set_option maxRecDepth 10000 in
set_option maxHeartbeats 4000000 in
theorem Begin_nil : Spec Tryz.prog 26 #[.pointer none] (K W N) (fun _ : Unit => .tuple #[.int .i64 0, .int .i64 1]) (fun _ => K W N) := by
  refine enter (args := [_]) Tryz.func26 rfl Tryz.ntmps26 rfl ?_
  refine c_seq ?_
  refine c_region ?_
  refine s_y (y_assign rfl) rfl rfl rfl ?_
  refine s_y (y_assign rfl) rfl rfl rfl ?_
  refine s_nil ?_
  refine f_then ?_
  refine c_seq ?_
  refine c_block ?_
  refine c_seq ?_
  refine c_region ?_
  refine s_y (y_move rfl) rfl rfl rfl ?_
  refine s_call (en_f rfl Tryz.call52) usable_nil rfl rfl rfl (fun _ => ?_)
  refine s_y (y_notF rfl) rfl rfl rfl ?_
  refine s_y (y_assign rfl) rfl rfl rfl ?_
  refine s_nil ?_
  refine f_then ?_
  refine c_condT rfl ?_
  refine c_seq ?_
  refine c_region ?_
  refine s_y (y_assign rfl) rfl rfl rfl ?_
  refine s_y (y_assign rfl) rfl rfl rfl ?_
  refine s_nil ?_
  refine f_then ?_
  refine c_ret ?_
  refine f_blockR ?_
  refine f_thenR ?_
  exact f_ret () (res2 rfl rfl rfl) (fun w h => h)
set_option maxRecDepth 10000 in
set_option maxHeartbeats 4000000 in
theorem Now_nil : Spec Tryz.prog 35 #[.pointer none] (K W N) (fun _ : Unit => .agg #[.pointer none]) (fun _ => K W N) := by
  refine enter (args := [_]) Tryz.func35 rfl Tryz.ntmps35 rfl ?_
  refine c_seq ?_
  refine c_region ?_
  refine s_do (do_alloc Tryz.tab rfl) rfl rfl rfl (fun b2 => ?_)
  refine s_nil ?_
  refine f_then ?_
  refine c_seq ?_
  refine c_seq ?_
  refine c_region ?_
  refine s_y (y_move rfl) rfl rfl rfl ?_
  refine s_call (en_f rfl Tryz.call52) usable_nil rfl rfl rfl (fun _ => ?_)
  refine s_y (y_notF rfl) rfl rfl rfl ?_
  refine s_nil ?_
  refine f_then ?_
  refine c_condT rfl ?_
  refine c_seq ?_
  refine c_region ?_
  refine s_y (y_build Tryz.tab rfl rfl rfl rfl rfl) rfl rfl rfl ?_
  refine s_set (set_box Tryz.tab 0 rfl rfl rfl rfl rfl rfl rfl) rfl rfl ?_
  refine s_nil ?_
  refine f_then ?_
  refine c_ret ?_
  refine f_thenR ?_
  exact f_ret () (resA Tryz.tab rfl rfl rfl rfl rfl (cells_row0 0 rfl rfl)) (fun w h => h.tail)
set_option maxRecDepth 10000 in
theorem ln_nil : Spec Tryz.prog 74 #[.pointer none] (K W N) (fun _ : Unit => .tuple #[.int .i64 0, .int .i64 0, .int .i64 0]) (fun _ => K W N) := by
  refine enter (args := [_]) Tryz.func74 rfl Tryz.ntmps74 rfl ?_
  refine c_seq ?_
  refine c_region ?_
  refine s_y (y_assign rfl) rfl rfl rfl ?_
  refine s_y (y_assign rfl) rfl rfl rfl ?_
  refine s_y (y_assign rfl) rfl rfl rfl ?_
  refine s_nil ?_
  refine f_then ?_
  refine c_seq ?_
  refine c_seq ?_
  refine c_region ?_
  refine s_y (y_move rfl) rfl rfl rfl ?_
  refine s_y (y_eqlPN Tryz.tab rfl rfl) rfl rfl rfl ?_
  refine s_nil ?_
  refine f_then ?_
  refine c_condT rfl ?_
  refine c_seq ?_
  refine c_region ?_
  refine s_y (y_assign rfl) rfl rfl rfl ?_
  refine s_y (y_assign rfl) rfl rfl rfl ?_
  refine s_y (y_assign rfl) rfl rfl rfl ?_
  refine s_nil ?_
  refine f_then ?_
  refine c_ret ?_
  refine f_thenR ?_
  exact f_ret () (res3 rfl rfl rfl rfl) (fun w h => h)
set_option maxRecDepth 10000 in
theorem sz_nil : Spec Tryz.prog 73 #[.pointer none] (K W N) (fun _ : Unit => .int .i64 0) (fun _ => K W N) := by
  refine enter (args := [_]) Tryz.func73 rfl Tryz.ntmps73 rfl ?_
  refine c_seq ?_
  refine c_region ?_
  refine s_y (y_assign rfl) rfl rfl rfl ?_
  refine s_nil ?_
  refine f_then ?_
  refine c_seq ?_
  refine c_region ?_
  refine s_y (y_move rfl) rfl rfl rfl ?_
  refine s_call (en_f rfl Tryz.call74) ln_nil rfl rfl rfl (fun _ => ?_)
  refine s_y (y_move rfl) rfl rfl rfl ?_
  refine s_y (y_extract rfl rfl) rfl rfl rfl ?_
  refine s_y (y_extract rfl rfl) rfl rfl rfl ?_
  refine s_y (y_extract rfl rfl) rfl rfl rfl ?_
  refine s_y (y_assign rfl) rfl rfl rfl ?_
  refine s_y (y_assign rfl) rfl rfl rfl ?_
  refine s_y (y_assign rfl) rfl rfl rfl ?_
  refine s_nil ?_
  refine f_then ?_
  refine c_seq ?_
  refine c_region ?_
  refine s_y (y_move rfl) rfl rfl rfl ?_
  refine s_y (y_assign rfl) rfl rfl rfl ?_
  refine s_nil ?_
  refine f_then ?_
  refine c_ret ?_
  exact f_ret () (res1 rfl rfl) (fun w h => h)
set_option maxRecDepth 10000 in
theorem size_nil : Spec Tryz.prog 36 #[.agg #[.pointer none]] (K W N) (fun _ : Unit => .int .i64 0) (fun _ => K W N) := by
  refine enter (args := [_]) Tryz.func36 rfl Tryz.ntmps36 rfl ?_
  refine c_seq ?_
  refine c_region ?_
  refine s_do (do_box rfl) rfl rfl rfl (fun b1 => ?_)
  refine s_y (y_assign rfl) rfl rfl rfl ?_
  refine s_nil ?_
  refine f_then ?_
  refine c_seq ?_
  refine c_region ?_
  refine s_y (y_fieldAddr0 Tryz.tab rfl rfl rfl rfl rfl) rfl rfl rfl ?_
  refine s_y (y_load Tryz.tab rfl rfl (cell_row 0 rfl rfl)) rfl rfl rfl ?_
  refine s_call (en_f rfl Tryz.call73) sz_nil rfl rfl rfl (fun _ => ?_)
  refine s_y (y_assign rfl) rfl rfl rfl ?_
  refine s_nil ?_
  refine f_then ?_
  refine c_ret ?_
  exact f_ret () (res1 rfl rfl) (fun w h => h.tail)
set_option maxRecDepth 10000 in
theorem len_nil : Spec Tryz.prog 37 #[.agg #[.pointer none]] (K W N) (fun _ : Unit => .int .i64 0) (fun _ => K W N) := by
  refine enter (args := [_]) Tryz.func37 rfl Tryz.ntmps37 rfl ?_
  refine c_seq ?_
  refine c_region ?_
  refine s_do (do_box rfl) rfl rfl rfl (fun b1 => ?_)
  refine s_y (y_assign rfl) rfl rfl rfl ?_
  refine s_nil ?_
  refine f_then ?_
  refine c_seq ?_
  refine c_region ?_
  refine s_y (y_fieldAddr0 Tryz.tab rfl rfl rfl rfl rfl) rfl rfl rfl ?_
  refine s_y (y_load Tryz.tab rfl rfl (cell_row 0 rfl rfl)) rfl rfl rfl ?_
  refine s_call (en_f rfl Tryz.call74) ln_nil rfl rfl rfl (fun _ => ?_)
  refine s_y (y_move rfl) rfl rfl rfl ?_
  refine s_y (y_extract rfl rfl) rfl rfl rfl ?_
  refine s_y (y_extract rfl rfl) rfl rfl rfl ?_
  refine s_y (y_extract rfl rfl) rfl rfl rfl ?_
  refine s_y (y_assign rfl) rfl rfl rfl ?_
  refine s_y (y_assign rfl) rfl rfl rfl ?_
  refine s_y (y_assign rfl) rfl rfl rfl ?_
  refine s_nil ?_
  refine f_then ?_
  refine c_seq ?_
  refine c_region ?_
  refine s_y (y_move rfl) rfl rfl rfl ?_
  refine s_y (y_assign rfl) rfl rfl rfl ?_
  refine s_nil ?_
  refine f_then ?_
  refine c_ret ?_
  exact f_ret () (res1 rfl rfl) (fun w h => h.tail)
set_option maxRecDepth 10000 in
theorem New_nil : Spec Tryz.prog 15 #[.agg #[.pointer none]] (K W N) (fun _ : Unit => .tuple #[.pointer none, .int .i64 1]) (fun _ => K W N) := by
  refine enter (args := [_]) Tryz.func15 rfl Tryz.ntmps15 rfl ?_
  refine c_seq ?_
  refine c_region ?_
  refine s_do (do_box rfl) rfl rfl rfl (fun b1 => ?_)
  refine s_y (y_assign rfl) rfl rfl rfl ?_
  refine s_y (y_assign rfl) rfl rfl rfl ?_
  refine s_nil ?_
  refine f_then ?_
  refine c_seq ?_
  refine c_seq ?_
  refine c_region ?_
  refine s_y (y_loadA Tryz.tab rfl rfl rfl rfl (cells_row0 0 rfl rfl)) rfl rfl rfl ?_
  refine s_call (en_f rfl Tryz.call36) size_nil rfl rfl rfl (fun _ => ?_)
  refine s_y (y_T (y_eql rfl rfl) (by omega)) rfl rfl rfl ?_
  refine s_nil ?_
  refine f_then ?_
  refine c_condT rfl ?_
  refine c_seq ?_
  refine c_region ?_
  refine s_y (y_assign rfl) rfl rfl rfl ?_
  refine s_y (y_assign rfl) rfl rfl rfl ?_
  refine s_nil ?_
  refine f_then ?_
  refine c_ret ?_
  refine f_thenR ?_
  exact f_ret () (res2 rfl rfl rfl) (fun w h => h.tail)
/-- A book that nobody has used. -/
def Bk.fresh (n : Nat) (f : Nat → Nat) : Bk := ⟨n, f, f, [], [], [], []⟩
set_option maxRecDepth 10000 in
set_option maxHeartbeats 4000000 in
theorem New_b {p : Chunk} {v : Value} {n : Nat} {f : Nat → Nat} (hM : MV p v n f) : Spec Tryz.prog 15 #[.agg #[v]] (K W (p :: N)) (X := { g : Bg // g.OK ∧ g.bk = Bk.fresh n f ∧ g.p = p }) (fun g => .tuple #[.pointer (some ⟨g.1.b, 0, none⟩), .int .i64 0]) (fun g => K W (g.1.L ++ N)) := by
  obtain ⟨a, rfl⟩ := hM.ptr
  have hpos := hM.pos
  refine enter (args := [_]) Tryz.func15 rfl Tryz.ntmps15 rfl ?_
  refine c_seq ?_
  refine c_region ?_
  refine s_do (do_box rfl) rfl rfl rfl (fun b1 => ?_)
  refine s_y (y_assign rfl) rfl rfl rfl ?_
  refine s_y (y_assign rfl) rfl rfl rfl ?_
  refine s_nil ?_
  refine f_then ?_
  refine c_seq ?_
  refine c_seq ?_
  refine c_region ?_
  refine s_y (y_loadA Tryz.tab rfl rfl rfl rfl (cells_row0 0 rfl rfl)) rfl rfl rfl ?_
  refine St.cls (C' := K W (p :: [(b1, row 29 [.pointer (some a)])] :: N)) ?_ (fun w h => K.front 1 h)
  refine s_call (en_f rfl Tryz.call36) (msize_spec hM) rfl rfl rfl (fun _ => ?_)
  refine s_y (y_F (y_eql rfl rfl) (by omega)) rfl rfl rfl ?_
  refine s_nil ?_
  refine f_then ?_
  refine c_condF rfl ?_
  refine c_skip ?_
  refine f_then ?_
  refine c_seq ?_
  refine c_region ?_
  refine s_y (y_loadA Tryz.tab rfl rfl rfl rfl (cells_row0 1 rfl rfl)) rfl rfl rfl ?_
  refine s_y (y_loadA Tryz.tab rfl rfl rfl rfl (cells_row0 1 rfl rfl)) rfl rfl rfl ?_
  refine s_do do_makeMap rfl rfl rfl (fun ba => ?_)
  skip
  refine s_do do_makeMap rfl rfl rfl (fun br => ?_)
  refine s_y (y_build Tryz.tab rfl rfl rfl rfl rfl) rfl rfl rfl ?_
  refine s_do (do_box rfl) rfl rfl rfl (fun b12 => ?_)
  refine s_y (y_assign rfl) rfl rfl rfl ?_
  refine s_y (y_assign rfl) rfl rfl rfl ?_
  refine s_nil ?_
  refine f_then ?_
  refine c_ret ?_
  refine Fin.cls (C' := K W ([(b12, row 96 [.pointer (some a), .pointer (some a), .map (some ba), .map (some br), .slice none 0 0, .slice none 0 0])] :: [(br, mobj [] 0)] :: [(ba, mobj [] 0)] :: p :: [(b1, row 29 [.pointer (some a)])] :: N)) ?_ (fun w h => h)
  obtain ⟨g, hg⟩ : ∃ g : Bg, g = ⟨p, b12, ba, br, .pointer (some a), .pointer (some a), .slice none 0 0, .slice none 0 0, 0, 0, n, f, f, [], [], [], [], [], [], [], []⟩ := ⟨_, rfl⟩
  have hb : g.b = b12 := by rw [hg]
  refine f_ret ⟨g, ?_, by rw [hg]; rfl, by rw [hg]⟩ (res2 rfl (by rw [hb]; rfl) rfl) (fun w h => ?_)
  · rw [hg]
    exact { mC := hM, mW := hM, id := fun i t h => by simp at h, ok := fun t h => by simp at h, nd := List.nodup_nil, eaM := .empty, eaG := fun k h => by simp [Bg.has] at h; omega, eaH := fun z => by simp [mhas]; omega, eaL := rfl, erM := .empty, erE := rfl, rnh := fun k h => by simp at h, qB := .nil, qh := fun k h => by simp at h, lB := .nil, lO := fun x h => by simp at h }
  · have h1 : K W (p :: [(b12, row 96 [.pointer (some a), .pointer (some a), .map (some ba), .map (some br), .slice none 0 0, .slice none 0 0])] :: [(ba, mobj [] 0)] :: [(br, mobj [] 0)] :: [(b1, row 29 [.pointer (some a)])] :: N) w := (((h.front 1).front 2).front 2).front 3
    have h2 := h1.dropAt 4
    show K W (g.L ++ N) w
    rw [hg]
    exact h2.weak [] (by simp [Bg.L, Bg.fixed])
end
end Go.KL
end

section
/- The little book that every statement asks after its own question; plain. No program in sight. -/
namespace Go.KL
namespace Bk
theorem owners_nil {A : Bk} {l : Lk} : A.owners l = [] ↔ ∀ k ∈ A.rn, ∀ x ∈ (A.tx k).locks, cfl x l = false := by
  unfold owners
  rw [List.filter_eq_nil_iff]
  constructor
  · intro h k hk x hx
    have := h k (mem_srt.2 hk)
    simp only [List.any_eq_true, not_exists, not_and] at this
    exact Bool.eq_false_iff.2 (this x hx)
  · intro h k hk
    simp only [List.any_eq_true, not_exists, not_and]
    exact fun x hx => Bool.eq_false_iff.1 (h k (mem_srt.1 hk) x hx)
theorem ahead_nil {A : Bk} {l : Lk} {fr : List Nat} : A.ahead l fr = [] ↔ ∀ k ∈ fr, cfl (A.tx k).req l = false := by
  unfold ahead
  rw [List.filter_eq_nil_iff]
  exact ⟨fun h k hk => Bool.eq_false_iff.2 (h k hk), fun h k hk => Bool.eq_false_iff.1 (h k hk)⟩
theorem free_iff {A : Bk} {l : Lk} {fr : List Nat} : A.free l fr = true ↔ (∀ k ∈ A.rn, ∀ x ∈ (A.tx k).locks, cfl x l = false) ∧ ∀ k ∈ fr, cfl (A.tx k).req l = false := by
  rw [free, Bool.and_eq_true, List.isEmpty_iff, List.isEmpty_iff, owners_nil, ahead_nil]
theorem mem_owners {A : Bk} {l : Lk} {k : Nat} : k ∈ A.owners l ↔ k ∈ A.rn ∧ ∃ x ∈ (A.tx k).locks, cfl x l = true := by
  rw [owners, List.mem_filter, mem_srt, List.any_eq_true]
theorem mem_ahead {A : Bk} {l : Lk} {fr : List Nat} {k : Nat} : k ∈ A.ahead l fr ↔ k ∈ fr ∧ cfl (A.tx k).req l = true := by
  rw [ahead, List.mem_filter]
/-- Nothing was moved. -/
abbrev z0 : Nat → Nat := fun _ => 0
theorem un_look {W : Nat → Nat} : ∀ {ops : List Oa}, (∀ o ∈ ops, o.mv = false) → KL.un W ops = W
  | [], _ => rfl
  | o :: r, h => by
    show (if o.mv then _ else KL.un W r) = W
    rw [h o (List.mem_cons_self ..), if_neg (by decide)]
    exact un_look fun x hx => h x (List.mem_cons_of_mem _ hx)
structure Lit (A : Bk) : Prop where
  size : A.size = 10
  C : A.C = z0
  W : A.W = z0
  ops : ∀ t ∈ A.ts, (∀ o ∈ t.ops, o.mv = false) ∧ t.ops.length < 100 ∧ t.locks.length ≤ 10 ∧ ∀ x ∈ t.locks, x.lo ≤ 10
  rn : A.rn.length ≤ 64
  q : A.q.length ≤ 64
  w : ∀ k, A.has k → (A.tx k).st = 2 → k ∈ A.q
theorem nbd_z0 : nbd z0 10 = 1 := by decide
theorem Lit.good {A : Bk} (h : A.Lit) : A.Good := by
  refine ⟨h.rn, h.q, h.w, fun t ht => ⟨by have := (h.ops t ht).2.2.1; omega, fun x hx => Nat.le_trans ((h.ops t ht).2.2.2 x hx) (by decide)⟩, fun t ht => by have := (h.ops t ht).2.1; omega, fun t ht => ⟨fun o ho hm => ?_, fun n => ?_⟩⟩
  · rw [(h.ops t ht).1 o ho] at hm
    cases hm
  · rw [un_look fun o ho => (h.ops t ht).1 o (List.mem_of_mem_drop ho), h.W, h.size, nbd_z0]
    decide
theorem Lit.moves {A : Bk} (h : A.Lit) (hr : ∀ k ∈ A.rn, A.has k) : A.moves = 0 := by
  unfold Bk.moves
  apply List.sum_eq_zero_iff_forall_eq_nat.2
  intro x hx
  obtain ⟨k, hk, rfl⟩ := List.mem_map.1 hx
  have hh := hr k hk
  have hm : A.tx k ∈ A.ts := by
    unfold Bk.has at hh
    unfold Bk.tx
    rw [List.getD_eq_getElem?_getD, List.getElem?_eq_getElem (by omega)]
    exact List.getElem_mem _
  unfold mvs
  rw [List.filter_eq_nil_iff.2 fun o ho => by rw [(h.ops _ hm).1 o ho]; decide]
  rfl
/-- The books. -/
abbrev l1 : Lk := ⟨1, 0, 5, false⟩
abbrev l2 : Lk := ⟨2, 3, 8, false⟩
abbrev w1 : Lk := ⟨1, 0, 5, true⟩
abbrev w2 : Lk := ⟨2, 3, 8, true⟩
abbrev o1 : Oa := ⟨false, 0, 5, 0, 0, rns z0 0 5⟩
abbrev o2 : Oa := ⟨false, 3, 8, 0, 0, rns z0 3 8⟩
abbrev B0 : Bk := ⟨10, z0, z0, [Tx.new, Tx.new], [1, 2], [], []⟩
abbrev B0' : Bk := ⟨10, z0, z0, [⟨1, [l1], Lk.zero, []⟩, Tx.new], [1, 2], [], []⟩
abbrev B1 : Bk := ⟨10, z0, z0, [⟨1, [l1], Lk.zero, [o1]⟩, Tx.new], [1, 2], [], []⟩
abbrev B1' : Bk := ⟨10, z0, z0, [⟨1, [l1], Lk.zero, [o1]⟩, ⟨1, [l2], Lk.zero, []⟩], [1, 2], [], []⟩
abbrev B2 : Bk := ⟨10, z0, z0, [⟨1, [l1], Lk.zero, [o1]⟩, ⟨1, [l2], Lk.zero, [o2]⟩], [1, 2], [], []⟩
abbrev B3 : Bk := ⟨10, z0, z0, [⟨2, [l1], w1, [o1]⟩, ⟨1, [l2], Lk.zero, [o2]⟩], [1, 2], [1], []⟩
abbrev B4 : Bk := ⟨10, z0, z0, [⟨2, [l1], w1, [o1]⟩, ⟨2, [l2], w2, [o2]⟩], [1, 2], [1, 2], []⟩
abbrev B5 : Bk := ⟨10, z0, z0, [⟨1, [l1, w1], Lk.zero, [o1]⟩, ⟨4, [], Lk.zero, []⟩], [1], [], []⟩
theorem hold_no {L : List Lk} {lo hi : Nat} {wr : Bool} (i : Nat) (h1 : lo ≤ i) (h2 : i < hi) (h : ∀ x ∈ L, ¬ ((x.wr = true ∨ wr = false) ∧ x.lo ≤ i ∧ i < x.hi)) : ¬ Hold L lo hi wr := fun hh => by
  obtain ⟨x, hx, hx2⟩ := hh i h1 h2
  exact h x hx hx2
theorem has2 {A : Bk} {a b : Tx} {k : Nat} (hA : A.ts = [a, b]) (h : A.has k) : k = 1 ∨ k = 2 := by
  have := h.2
  rw [hA] at this
  have h1 := h.1
  simp at this
  omega
theorem B0_lit : B0.Lit := ⟨rfl, rfl, rfl, by simp [Tx.new], by decide, by decide, fun k hk => by rcases has2 rfl hk with rfl | rfl <;> decide⟩
theorem B0'_lit : B0'.Lit := ⟨rfl, rfl, rfl, by simp [Tx.new], by decide, by decide, fun k hk => by rcases has2 rfl hk with rfl | rfl <;> decide⟩
theorem B1_lit : B1.Lit := ⟨rfl, rfl, rfl, by simp [Tx.new], by decide, by decide, fun k hk => by rcases has2 rfl hk with rfl | rfl <;> decide⟩
theorem B1'_lit : B1'.Lit := ⟨rfl, rfl, rfl, by simp, by decide, by decide, fun k hk => by rcases has2 rfl hk with rfl | rfl <;> decide⟩
theorem B2_lit : B2.Lit := ⟨rfl, rfl, rfl, by simp, by decide, by decide, fun k hk => by rcases has2 rfl hk with rfl | rfl <;> decide⟩
theorem B3_lit : B3.Lit := ⟨rfl, rfl, rfl, by simp, by decide, by decide, fun k hk => by rcases has2 rfl hk with rfl | rfl <;> decide⟩
theorem B4_lit : B4.Lit := ⟨rfl, rfl, rfl, by simp, by decide, by decide, fun k hk => by rcases has2 rfl hk with rfl | rfl <;> decide⟩
theorem B5_lit : B5.Lit := ⟨rfl, rfl, rfl, by simp, by decide, by decide, fun k hk => by rcases has2 rfl hk with rfl | rfl <;> decide⟩
/-- What is got, without more, where it is free. -/
theorem obt_free {A B : Bk} {k lo hi e : Nat} {wr : Bool} (h : A.Obt k lo hi wr B e) (h1 : ¬ Hold (A.tx k).locks lo hi wr) (h2 : A.count < 1024) (h3 : A.free ⟨k, lo, hi, wr⟩ A.q = true) : e = 0 ∧ B = A.setT k { A.tx k with locks := (A.tx k).locks ++ [⟨k, lo, hi, wr⟩] } := by
  cases h with
  | has h => exact absurd h h1
  | full _ h => omega
  | got => exact ⟨rfl, rfl⟩
  | res _ _ h => rw [h3] at h; cases h
theorem obt_wait {A B : Bk} {k lo hi e : Nat} {wr : Bool} (h : A.Obt k lo hi wr B e) (h1 : ¬ Hold (A.tx k).locks lo hi wr) (h2 : A.count < 1024) (h3 : A.free ⟨k, lo, hi, wr⟩ A.q = false) : Res k (A.wait k ⟨k, lo, hi, wr⟩) B e := by
  cases h with
  | has h => exact absurd h h1
  | full _ h => omega
  | got _ _ h => rw [h3] at h; cases h
  | res _ _ _ h => exact h
theorem aft_lit {A : Bk} (h : A.Lit) (hr : ∀ k ∈ A.rn, A.has k) : A.size = 10 ∧ A.Good ∧ nbd A.W A.size ≤ 4096 ∧ nbd A.C A.size + 2 * A.moves ≤ 4096 ∧ (A.room ≠ 0 → ∀ lo hi to, nbd (setf A.W lo hi to) A.size ≤ 4096) := by
  refine ⟨h.size, h.good, by rw [h.W, h.size, nbd_z0]; decide, by rw [h.C, h.size, nbd_z0, h.moves hr]; decide, fun _ lo hi to => ?_⟩
  have := nbd_set2 A.W lo hi to A.size
  rw [h.W, h.size, nbd_z0] at this
  rw [h.W, h.size]
  omega
theorem f1 : B0.free l1 [] = true := by
  rw [free_iff]
  decide
theorem f2 : B1.free l2 [] = true := by
  rw [free_iff]
  decide
theorem f3 : B2.free w1 [] = false := by
  cases h : B2.free w1 [] with
  | false => rfl
  | true =>
    rw [free_iff] at h
    exact absurd (h.1 2 (by decide) l2 (by decide)) (by decide)
theorem f4 : B3.free w2 [1] = false := by
  cases h : B3.free w2 [1] with
  | false => rfl
  | true =>
    rw [free_iff] at h
    exact absurd (h.1 1 (by decide) l1 (by decide)) (by decide)
theorem rn12 {A : Bk} {a b : Tx} (h1 : A.rn = [1, 2]) (h2 : A.ts = [a, b]) : ∀ k ∈ A.rn, A.has k := by
  intro k hk
  rw [h1] at hk
  unfold Bk.has
  rw [h2]
  simp at hk ⊢
  omega
/-- One operation on a little book. -/
theorem pre_lit {A : Bk} {tx lo hi : Int} {mv : Bool} (h : A.Lit) (hs : ∀ k, A.has k → (A.tx k).st = 1 ∨ (A.tx k).st = 2 ∨ (A.tx k).st = 3 ∨ (A.tx k).st = 4) (hp : ∀ k l m : Nat, tx = k → lo = l → hi = m → A.Prm k l m mv) : A.Pre tx lo hi mv :=
  ⟨h.good, hs, fun k l m h1 h2 h3 _ _ _ _ => hp k l m h1 h2 h3⟩
theorem prm_free {A : Bk} {k lo hi : Nat} {wr : Bool} (h1 : ¬ Hold (A.tx k).locks lo hi wr) (h2 : A.count < 1024) (h3 : A.free ⟨k, lo, hi, wr⟩ A.q = true) (h4 : (A.setT k { A.tx k with locks := (A.tx k).locks ++ [⟨k, lo, hi, wr⟩] }).Lit) (h5 : ∀ j ∈ A.rn, A.has j) (h6 : A.size = 10) : A.Prm k lo hi wr := by
  refine ⟨⟨fun _ => False, fun _ h => h.elim, fun _ _ h => h.elim, fun _ _ h => (by rw [h3] at h; cases h), fun _ h => h.elim⟩, fun B hB => ?_⟩
  obtain ⟨_, rfl⟩ := obt_free hB h1 h2 h3
  obtain ⟨a1, a2, a3, a4, a5⟩ := aft_lit h4 (fun j hj => by
    have := h5 j hj
    simpa [Bk.has, Bk.setT] using this)
  exact ⟨a1.trans h6.symm, a2, a3, a4, fun h to => a5 h lo hi to⟩
end Bk
end Go.KL
end

section
/- The little book, step by step; plain. No program in sight. -/
namespace Go.KL
namespace Bk
theorem st2 {A : Bk} {a b : Tx} (hA : A.ts = [a, b]) (ha : a.st = 1 ∨ a.st = 2 ∨ a.st = 3 ∨ a.st = 4) (hb : b.st = 1 ∨ b.st = 2 ∨ b.st = 3 ∨ b.st = 4) : ∀ k, A.has k → (A.tx k).st = 1 ∨ (A.tx k).st = 2 ∨ (A.tx k).st = 3 ∨ (A.tx k).st = 4 := by
  intro k hk
  have e1 : A.tx 1 = a := by unfold Bk.tx; rw [hA]; rfl
  have e2 : A.tx 2 = b := by unfold Bk.tx; rw [hA]; rfl
  rcases has2 hA hk with rfl | rfl
  · rw [e1]; exact ha
  · rw [e2]; exact hb
theorem pre1 : B0.Pre 1 0 5 false := pre_lit B0_lit (st2 rfl (by decide) (by decide)) fun k l m h1 h2 h3 => by
  obtain rfl : k = 1 := by omega
  obtain rfl : l = 0 := by omega
  obtain rfl : m = 5 := by omega
  exact prm_free (hold_no 0 (by decide) (by decide) (by decide)) (by decide) f1 B0'_lit (rn12 rfl rfl) rfl
theorem pl1 {B : Bk} {e : Nat} {rs : List Rn} (h : B0.Perf 1 false 0 5 0 0 B e rs) : e = 0 ∧ B = B1 := by
  cases h with
  | none h => exact absurd (by decide) h
  | aborted hk _ h => obtain rfl : _ = 1 := (Int.ofNat_inj.1 hk).symm; exact absurd h (by decide)
  | committed hk _ h => obtain rfl : _ = 1 := (Int.ofNat_inj.1 hk).symm; exact absurd h (by decide)
  | waiting hk _ h => obtain rfl : _ = 1 := (Int.ofNat_inj.1 hk).symm; exact absurd h (by decide)
  | range _ _ _ h => exact absurd h (by decide)
  | arg _ _ _ _ h => exact absurd h (by decide)
  | no hk _ _ hl hm _ _ _ _ ho he =>
    obtain rfl : _ = 1 := (Int.ofNat_inj.1 hk).symm
    obtain rfl : _ = 0 := (Int.ofNat_inj.1 hl).symm
    obtain rfl : _ = 5 := (Int.ofNat_inj.1 hm).symm
    exact absurd (obt_free ho (hold_no 0 (by decide) (by decide) (by decide)) (by decide) f1).1 he
  | look hk _ _ hl hm hf ht _ _ ho =>
    obtain rfl : _ = 1 := (Int.ofNat_inj.1 hk).symm
    obtain rfl : _ = 0 := (Int.ofNat_inj.1 hl).symm
    obtain rfl : _ = 5 := (Int.ofNat_inj.1 hm).symm
    obtain rfl : _ = 0 := (Int.ofNat_inj.1 hf).symm
    obtain rfl : _ = 0 := (Int.ofNat_inj.1 ht).symm
    obtain ⟨_, rfl⟩ := obt_free ho (hold_no 0 (by decide) (by decide) (by decide)) (by decide) f1
    exact ⟨rfl, rfl⟩
  | move _ _ _ _ _ _ _ _ _ _ h => cases h
theorem pre2 : B1.Pre 2 3 8 false := pre_lit B1_lit (st2 rfl (by decide) (by decide)) fun k l m h1 h2 h3 => by
  obtain rfl : k = 2 := by omega
  obtain rfl : l = 3 := by omega
  obtain rfl : m = 8 := by omega
  exact prm_free (hold_no 3 (by decide) (by decide) (by decide)) (by decide) f2 B1'_lit (rn12 rfl rfl) rfl
theorem pl2 {B : Bk} {e : Nat} {rs : List Rn} (h : B1.Perf 2 false 3 8 0 0 B e rs) : e = 0 ∧ B = B2 := by
  cases h with
  | none h => exact absurd (by decide) h
  | aborted hk _ h => obtain rfl : _ = 2 := (Int.ofNat_inj.1 hk).symm; exact absurd h (by decide)
  | committed hk _ h => obtain rfl : _ = 2 := (Int.ofNat_inj.1 hk).symm; exact absurd h (by decide)
  | waiting hk _ h => obtain rfl : _ = 2 := (Int.ofNat_inj.1 hk).symm; exact absurd h (by decide)
  | range _ _ _ h => exact absurd h (by decide)
  | arg _ _ _ _ h => exact absurd h (by decide)
  | no hk _ _ hl hm _ _ _ _ ho he =>
    obtain rfl : _ = 2 := (Int.ofNat_inj.1 hk).symm
    obtain rfl : _ = 3 := (Int.ofNat_inj.1 hl).symm
    obtain rfl : _ = 8 := (Int.ofNat_inj.1 hm).symm
    exact absurd (obt_free ho (hold_no 3 (by decide) (by decide) (by decide)) (by decide) f2).1 he
  | look hk _ _ hl hm hf ht _ _ ho =>
    obtain rfl : _ = 2 := (Int.ofNat_inj.1 hk).symm
    obtain rfl : _ = 3 := (Int.ofNat_inj.1 hl).symm
    obtain rfl : _ = 8 := (Int.ofNat_inj.1 hm).symm
    obtain rfl : _ = 0 := (Int.ofNat_inj.1 hf).symm
    obtain rfl : _ = 0 := (Int.ofNat_inj.1 ht).symm
    obtain ⟨_, rfl⟩ := obt_free ho (hold_no 3 (by decide) (by decide) (by decide)) (by decide) f2
    exact ⟨rfl, rfl⟩
  | move _ _ _ _ _ _ _ _ _ _ h => cases h
/-- The first waits for the second, and for no other. -/
theorem B3_E {k j : Nat} (h : B3.E k j) : (k = 0 ∨ k = 1) ∧ j = 2 := by
  unfold Bk.E Bk.waits at h
  split at h
  · simp at h
  · rename_i hs
    have hk : k = 0 ∨ k = 1 := by
      rcases Nat.lt_or_ge k 3 with c | c
      · rcases (show k = 0 ∨ k = 1 ∨ k = 2 by omega) with rfl | rfl | rfl
        · exact .inl rfl
        · exact .inr rfl
        · exact absurd (by decide : (B3.tx 2).st ≠ 2) hs
      · refine absurd (?_ : (B3.tx k).st ≠ 2) hs
        have : B3.tx k = Tx.new := by
          unfold Bk.tx
          rw [List.getD_eq_getElem?_getD, List.getElem?_eq_none (by show 2 ≤ k - 1; omega)]
          rfl
        rw [this]
        decide
    have hreq : (B3.tx k).req = w1 := by rcases hk with rfl | rfl <;> rfl
    rw [hreq] at h
    refine ⟨hk, ?_⟩
    rcases List.mem_append.1 h with h | h
    · obtain ⟨h1, x, hx, hc⟩ := mem_owners.1 h
      simp at h1
      rcases h1 with rfl | rfl
      · exfalso
        have : x = l1 := by simpa [Bk.tx] using hx
        subst this
        exact absurd hc (by decide)
      · rfl
    · obtain ⟨h1, h2⟩ := mem_ahead.1 h
      have h3 : j = 1 := by simpa using (List.takeWhile_sublist _).subset h1
      subst h3
      exact absurd h2 (by decide)
theorem B3_R {k j : Nat} (h : B3.R k j) : (k = 0 ∨ k = 1) ∧ j = 2 := by
  induction h with
  | one h => exact B3_E h
  | more _ g ih => exact ⟨ih.1, by have := B3_E g; omega⟩
theorem B3_vic {v : Nat} (h : B3.IsVic 1 v) : v = 0 := by
  rcases h with h | ⟨_, h, _⟩
  · exact h.1
  · have h1 := B3_R h.1
    have h2 := B3_R h.2
    omega
theorem pre3 : B2.Pre 1 0 5 true := pre_lit B2_lit (st2 rfl (by decide) (by decide)) fun k l m h1 h2 h3 => by
  obtain rfl : k = 1 := by omega
  obtain rfl : l = 0 := by omega
  obtain rfl : m = 5 := by omega
  refine ⟨⟨fun A => A = B3, ?_, ?_, fun _ _ _ => rfl, ?_⟩, fun B hB => ?_⟩
  · rintro A rfl; exact B3_lit.good
  · rintro A v rfl _ hv h0; exact absurd (B3_vic hv) h0
  · rintro A rfl; decide
  · have hr : Res 1 B3 B 0 := obt_wait hB (hold_no 0 (by decide) (by decide) (by decide)) (by decide) f3
    cases hr with
    | free h => exact absurd h (by decide)
    | next _ hv h0 => exact absurd (B3_vic hv) h0
theorem pm1 {B : Bk} {e : Nat} {rs : List Rn} (h : B2.Perf 1 true 0 5 0 1 B e rs) : e = 83 ∧ B = B3 := by
  have key : ∀ {B : Bk} {e : Nat}, B2.Obt 1 0 5 true B e → e = 83 ∧ B = B3 := fun {B e} ho => by
    have hr : Res 1 B3 B e := obt_wait ho (hold_no 0 (by decide) (by decide) (by decide)) (by decide) f3
    cases hr with
    | free h => exact absurd h (by decide)
    | gone h => exact absurd h (by decide)
    | wait => exact ⟨rfl, rfl⟩
    | next _ hv h0 => exact absurd (B3_vic hv) h0
  cases h with
  | none h => exact absurd (by decide) h
  | aborted hk _ h => obtain rfl : _ = 1 := (Int.ofNat_inj.1 hk).symm; exact absurd h (by decide)
  | committed hk _ h => obtain rfl : _ = 1 := (Int.ofNat_inj.1 hk).symm; exact absurd h (by decide)
  | waiting hk _ h => obtain rfl : _ = 1 := (Int.ofNat_inj.1 hk).symm; exact absurd h (by decide)
  | range _ _ _ h => exact absurd h (by decide)
  | arg _ _ _ _ h => exact absurd h (by decide)
  | no hk _ _ hl hm _ _ _ _ ho he =>
    obtain rfl : _ = 1 := (Int.ofNat_inj.1 hk).symm
    obtain rfl : _ = 0 := (Int.ofNat_inj.1 hl).symm
    obtain rfl : _ = 5 := (Int.ofNat_inj.1 hm).symm
    exact key ho
  | look _ _ _ _ _ _ _ _ _ _ h => cases h
  | move hk _ _ hl hm _ _ _ _ ho =>
    obtain rfl : _ = 1 := (Int.ofNat_inj.1 hk).symm
    obtain rfl : _ = 0 := (Int.ofNat_inj.1 hl).symm
    obtain rfl : _ = 5 := (Int.ofNat_inj.1 hm).symm
    exact absurd (key ho).1 (by decide)
theorem B4_R : B4.R 2 2 := by
  refine .more (.one (j := 1) ?_) ?_
  · exact List.mem_append_left _ (mem_owners.2 ⟨by decide, l1, by decide, by decide⟩)
  · exact List.mem_append_left _ (mem_owners.2 ⟨by decide, l2, by decide, by decide⟩)
theorem B4_vic {v : Nat} (h : B4.IsVic 2 v) : v = 2 := by
  rcases h with h | ⟨_, h, hm⟩
  · exact absurd ⟨B4_R, B4_R⟩ (h.2 2)
  · have h1 := hm 2 ⟨B4_R, B4_R⟩
    have h2 : v = 1 ∨ v = 2 := by
      rcases Bk.R_mem h.1 with h | h <;> simpa using h
    omega
theorem B4_ab : B4.abort 2 = B5 := by
  have hf : Bk.free ((B4.setT 2 ⟨4, [l2], Lk.zero, []⟩).off 2) w1 [] = true := by
    rw [free_iff]
    decide
  have hg : Bk.gr ((B4.setT 2 ⟨4, [l2], Lk.zero, []⟩).off 2) [1] [] = (Bk.grant ((B4.setT 2 ⟨4, [l2], Lk.zero, []⟩).off 2) 1, []) := by
    rw [gr]
    rw [show (Bk.tx ((B4.setT 2 ⟨4, [l2], Lk.zero, []⟩).off 2) 1).req = w1 from rfl, hf, if_pos rfl]
    rfl
  unfold Bk.abort Bk.release
  show { (Bk.gr ((B4.setT 2 ⟨4, [l2], Lk.zero, []⟩).off 2) [1] []).1 with q := (Bk.gr ((B4.setT 2 ⟨4, [l2], Lk.zero, []⟩).off 2) [1] []).2 } = B5
  rw [hg]
  rfl
theorem pre4 : B3.Pre 2 3 8 true := pre_lit B3_lit (st2 rfl (by decide) (by decide)) fun k l m h1 h2 h3 => by
  obtain rfl : k = 2 := by omega
  obtain rfl : l = 3 := by omega
  obtain rfl : m = 8 := by omega
  refine ⟨⟨fun A => A = B4 ∨ A = B5, ?_, ?_, fun _ _ _ => .inl rfl, ?_⟩, fun B hB => ?_⟩
  · rintro A (rfl | rfl)
    · exact B4_lit.good
    · exact B5_lit.good
  · rintro A v (rfl | rfl) hs hv h0
    · rw [B4_vic hv, B4_ab]; exact .inr rfl
    · exact absurd hs (by decide)
  · rintro A (rfl | rfl) <;> decide
  · have hr : Res 2 B4 B 0 := obt_wait hB (hold_no 3 (by decide) (by decide) (by decide)) (by decide) f4
    cases hr with
    | free h => exact absurd h (by decide)
    | next _ hv h0 hn =>
      rw [B4_vic hv, B4_ab] at hn
      cases hn with
      | free h => exact absurd h (by decide)
      | next h => exact absurd h (by decide)
theorem pm2 {B : Bk} {e : Nat} {rs : List Rn} (h : B3.Perf 2 true 3 8 0 2 B e rs) : e = 84 ∧ B = B5 := by
  have key : ∀ {B : Bk} {e : Nat}, B3.Obt 2 3 8 true B e → e = 84 ∧ B = B5 := fun {B e} ho => by
    have hr : Res 2 B4 B e := obt_wait ho (hold_no 3 (by decide) (by decide) (by decide)) (by decide) f4
    cases hr with
    | free h => exact absurd h (by decide)
    | gone h => exact absurd h (by decide)
    | wait _ hv => exact absurd (B4_vic hv) (by decide)
    | next _ hv h0 hn =>
      rw [B4_vic hv, B4_ab] at hn
      cases hn with
      | free h => exact absurd h (by decide)
      | gone => exact ⟨rfl, rfl⟩
      | wait h => exact absurd h (by decide)
      | next h => exact absurd h (by decide)
  cases h with
  | none h => exact absurd (by decide) h
  | aborted hk _ h => obtain rfl : _ = 2 := (Int.ofNat_inj.1 hk).symm; exact absurd h (by decide)
  | committed hk _ h => obtain rfl : _ = 2 := (Int.ofNat_inj.1 hk).symm; exact absurd h (by decide)
  | waiting hk _ h => obtain rfl : _ = 2 := (Int.ofNat_inj.1 hk).symm; exact absurd h (by decide)
  | range _ _ _ h => exact absurd h (by decide)
  | arg _ _ _ _ h => exact absurd h (by decide)
  | no hk _ _ hl hm _ _ _ _ ho he =>
    obtain rfl : _ = 2 := (Int.ofNat_inj.1 hk).symm
    obtain rfl : _ = 3 := (Int.ofNat_inj.1 hl).symm
    obtain rfl : _ = 8 := (Int.ofNat_inj.1 hm).symm
    exact key ho
  | look _ _ _ _ _ _ _ _ _ _ h => cases h
  | move hk _ _ hl hm _ _ _ _ ho =>
    obtain rfl : _ = 2 := (Int.ofNat_inj.1 hk).symm
    obtain rfl : _ = 3 := (Int.ofNat_inj.1 hl).symm
    obtain rfl : _ = 8 := (Int.ofNat_inj.1 hm).symm
    exact absurd (key ho).1 (by decide)
end Bk
end Go.KL
end

section
/- Walks: awake. -/
namespace Go.KL
open Go.Proofs
attribute [local irreducible] SC St Fin Sq Ylds Doos Sets Enters Spec CellIs CellsAre Then Ret Rnd Chn resOK ints bools recs arr
set_option maxRecDepth 10000 in
set_option maxHeartbeats 16000000 in
theorem awake_spec {W : World} {N : List Chunk} : Spec Tryz.prog 13 #[] (K W N) (fun _ : Unit => .bool true) (fun _ => K W N) := by
  refine enter (args := []) Tryz.func13 rfl Tryz.ntmps13 rfl ?_
  refine c_seq ?_
  refine c_region ?_
  refine s_y (y_assign rfl) rfl rfl rfl ?_
  refine s_nil ?_
  refine f_then ?_
  refine c_seq ?_
  refine c_region ?_
  refine St.cls (C' := K W ([] :: N)) ?_ (fun w h => h.addNil)
  refine s_call (en_f rfl Tryz.call25) (mnew_spec (n := 10) (R := N) (by decide) (by decide)) rfl rfl rfl (fun x => ?_)
  obtain ⟨⟨p, v⟩, hS, hM⟩ := x
  dsimp only at hS hM ⊢
  obtain ⟨a, rfl⟩ := hM.ptr
  refine s_y (y_move rfl) rfl rfl rfl ?_
  refine s_y (y_extract rfl rfl) rfl rfl rfl ?_
  refine s_y (y_extract rfl rfl) rfl rfl rfl ?_
  refine s_do (do_alloc Tryz.tab rfl) rfl rfl rfl (fun b1 => ?_)
  refine s_set (set_box Tryz.tab 0 rfl rfl rfl rfl rfl rfl rfl) rfl rfl ?_
  refine s_y (y_assign rfl) rfl rfl rfl ?_
  refine s_nil ?_
  refine f_then ?_
  refine c_seq ?_
  refine c_region ?_
  refine s_y (y_loadA Tryz.tab rfl rfl rfl rfl (cells_row0 0 rfl rfl)) rfl rfl rfl ?_
  refine St.cls (C' := K W (p :: [(b1, row 29 [.pointer (some a)])] :: N)) ?_ (fun w h => K.front 1 h)
  refine s_call (en_f rfl Tryz.call15) (New_b (N := [(b1, row 29 [.pointer (some a)])] :: N) hM) rfl rfl rfl (fun x => ?_)
  obtain ⟨g0, hB0, hb0, _⟩ := x
  dsimp only
  have hr0 : g0.rn = [] := congrArg Bk.rn hb0
  have ht0 : g0.ts.length = 0 := by
    have := congrArg (fun A : Bk => A.ts.length) hb0
    simpa [Bg.bk, Bk.fresh] using this
  refine s_y (y_move rfl) rfl rfl rfl ?_
  refine s_y (y_extract rfl rfl) rfl rfl rfl ?_
  refine s_y (y_extract rfl rfl) rfl rfl rfl ?_
  refine s_y (y_assign rfl) rfl rfl rfl ?_
  refine s_y (y_assign rfl) rfl rfl rfl ?_
  refine s_nil ?_
  refine f_then ?_
  refine c_seq ?_
  refine c_region ?_
  refine s_y (y_move rfl) rfl rfl rfl ?_
  refine s_call (en_f rfl Tryz.call26) (Begin_b (N := [(b1, row 29 [.pointer (some a)])] :: N) hB0 (by omega)) rfl rfl rfl (fun x => ?_)
  obtain ⟨⟨g1, n1, e1⟩, hB1, hbb1, hc1⟩ := x
  dsimp only at hB1 hbb1 hc1 ⊢
  rcases hc1 with ⟨h, _⟩ | ⟨_, hb1, he1⟩
  · rw [hr0] at h
    exact absurd h (by decide)
  obtain ⟨rfl, rfl⟩ := Prod.mk.inj he1
  rw [hb0] at hb1
  have hr1 : g1.rn.length = 1 := congrArg (fun A : Bk => A.rn.length) hb1
  have ht1 : g1.ts.length = 1 := by
    have := congrArg (fun A : Bk => A.ts.length) hb1
    simpa [Bg.bk, Bk.fresh, Bk.begin] using this
  have hB1b := Begin_b (W := W) (N := [(b1, row 29 [.pointer (some a)])] :: N) hB1 (by omega)
  rw [hbb1] at hB1b
  rw [ht0]
  refine s_y (y_move rfl) rfl rfl rfl ?_
  refine s_y (y_extract rfl rfl) rfl rfl rfl ?_
  refine s_y (y_extract rfl rfl) rfl rfl rfl ?_
  refine s_y (y_assign rfl) rfl rfl rfl ?_
  refine s_y (y_assign rfl) rfl rfl rfl ?_
  refine s_nil ?_
  refine f_then ?_
  refine c_seq ?_
  refine c_region ?_
  refine s_y (y_move rfl) rfl rfl rfl ?_
  refine s_call (en_f rfl Tryz.call26) hB1b rfl rfl rfl (fun x => ?_)
  obtain ⟨⟨g2, n2, e2⟩, hB2, hbb2, hc2⟩ := x
  dsimp only at hB2 hbb2 hc2 ⊢
  rcases hc2 with ⟨h, _⟩ | ⟨_, hb2, he2⟩
  · omega
  obtain ⟨rfl, rfl⟩ := Prod.mk.inj he2
  rw [hb1] at hb2
  change g2.bk = Bk.B0 at hb2
  rw [ht1]
  have hL1 := Look_b (W := W) (N := [(b1, row 29 [.pointer (some a)])] :: N) (tx := 1) (lo := 0) (hi := 5) hB2 (by rw [hb2]; exact Bk.pre1)
  rw [hbb2] at hL1
  refine s_y (y_move rfl) rfl rfl rfl ?_
  refine s_y (y_extract rfl rfl) rfl rfl rfl ?_
  refine s_y (y_extract rfl rfl) rfl rfl rfl ?_
  refine s_y (y_assign rfl) rfl rfl rfl ?_
  refine s_y (y_assign rfl) rfl rfl rfl ?_
  refine s_nil ?_
  refine f_then ?_
  refine c_seq ?_
  refine c_seq ?_
  refine c_region ?_
  refine s_y (y_move rfl) rfl rfl rfl ?_
  refine s_y (y_F (y_neq rfl rfl) (by omega)) rfl rfl rfl ?_
  refine s_y (y_move rfl) rfl rfl rfl ?_
  refine s_y (y_move rfl) rfl rfl rfl ?_
  refine s_y (y_F (y_neq rfl rfl) (by omega)) rfl rfl rfl ?_
  refine s_y (y_pickF rfl rfl) rfl rfl rfl ?_
  refine s_y (y_move rfl) rfl rfl rfl ?_
  refine s_y (y_move rfl) rfl rfl rfl ?_
  refine s_y (y_F (y_neq rfl rfl) (by omega)) rfl rfl rfl ?_
  refine s_y (y_pickF rfl rfl) rfl rfl rfl ?_
  refine s_y (y_move rfl) rfl rfl rfl ?_
  refine s_y (y_move rfl) rfl rfl rfl ?_
  refine s_y (y_F (y_neq rfl rfl) (by omega)) rfl rfl rfl ?_
  refine s_y (y_pickF rfl rfl) rfl rfl rfl ?_
  refine s_y (y_move rfl) rfl rfl rfl ?_
  refine s_y (y_move rfl) rfl rfl rfl ?_
  refine s_y (y_F (y_neq rfl rfl) (by omega)) rfl rfl rfl ?_
  refine s_y (y_pickF rfl rfl) rfl rfl rfl ?_
  refine s_y (y_move rfl) rfl rfl rfl ?_
  refine s_y (y_move rfl) rfl rfl rfl ?_
  refine s_y (y_F (y_neq rfl rfl) (by omega)) rfl rfl rfl ?_
  refine s_y (y_pickF rfl rfl) rfl rfl rfl ?_
  refine s_nil ?_
  refine f_then ?_
  refine c_condF rfl ?_
  refine c_skip ?_
  refine f_then ?_
  refine c_seq ?_
  refine c_region ?_
  refine s_y (y_move rfl) rfl rfl rfl ?_
  refine s_call (en_f rfl Tryz.call28) hL1 rfl rfl rfl (fun x => ?_)
  obtain ⟨⟨g3, e3, r3, v3, c3⟩, hB3, hp3, hA3, _⟩ := x
  dsimp only at hB3 hp3 hA3 ⊢
  rw [hb2] at hp3
  obtain ⟨rfl, hb3⟩ := Bk.pl1 hp3
  refine St.cls (C' := K W (g3.L ++ (c3 :: [(b1, row 29 [.pointer (some a)])] :: N))) ?_ (fun w h => K.bckN (A := [c3]) (B := g3.L) h)
  have hL2 := Look_b (W := W) (N := c3 :: [(b1, row 29 [.pointer (some a)])] :: N) (tx := 2) (lo := 3) (hi := 8) hB3 (by rw [hb3]; exact Bk.pre2)
  rw [hA3.b, hbb2] at hL2
  refine s_y (y_move rfl) rfl rfl rfl ?_
  refine s_y (y_extract rfl rfl) rfl rfl rfl ?_
  refine s_y (y_extract rfl rfl) rfl rfl rfl ?_
  refine s_y (y_assign rfl) rfl rfl rfl ?_
  refine s_nil ?_
  refine f_then ?_
  refine c_seq ?_
  refine c_region ?_
  refine s_y (y_move rfl) rfl rfl rfl ?_
  refine s_call (en_f rfl Tryz.call28) hL2 rfl rfl rfl (fun x => ?_)
  obtain ⟨⟨g4, e4, r4, v4, c4⟩, hB4, hp4, hA4, _⟩ := x
  dsimp only at hB4 hp4 hA4 ⊢
  rw [hb3] at hp4
  obtain ⟨rfl, hb4⟩ := Bk.pl2 hp4
  refine St.cls (C' := K W (g4.L ++ (c4 :: c3 :: [(b1, row 29 [.pointer (some a)])] :: N))) ?_ (fun w h => K.bckN (A := [c4]) (B := g4.L) h)
  have hM1 := Move_b (W := W) (N := c4 :: c3 :: [(b1, row 29 [.pointer (some a)])] :: N) (tx := 1) (lo := 0) (hi := 5) (fr := 0) (to := 1) hB4 (by rw [hb4]; exact Bk.pre3)
  rw [hA4.b, hA3.b, hbb2] at hM1
  refine s_y (y_move rfl) rfl rfl rfl ?_
  refine s_y (y_extract rfl rfl) rfl rfl rfl ?_
  refine s_y (y_extract rfl rfl) rfl rfl rfl ?_
  refine s_y (y_assign rfl) rfl rfl rfl ?_
  refine s_nil ?_
  refine f_then ?_
  refine c_seq ?_
  refine c_seq ?_
  refine c_region ?_
  refine s_y (y_move rfl) rfl rfl rfl ?_
  refine s_y (y_F (y_neq rfl rfl) (by omega)) rfl rfl rfl ?_
  refine s_y (y_move rfl) rfl rfl rfl ?_
  refine s_y (y_move rfl) rfl rfl rfl ?_
  refine s_y (y_F (y_neq rfl rfl) (by omega)) rfl rfl rfl ?_
  refine s_y (y_pickF rfl rfl) rfl rfl rfl ?_
  refine s_y (y_move rfl) rfl rfl rfl ?_
  refine s_y (y_move rfl) rfl rfl rfl ?_
  refine s_call (en_f rfl Tryz.call27) hM1 rfl rfl rfl (fun x => ?_)
  obtain ⟨⟨g5, e5, r5, v5, c5⟩, hB5, hp5, hA5, _⟩ := x
  dsimp only at hB5 hp5 hA5 ⊢
  rw [hb4] at hp5
  obtain ⟨rfl, hb5⟩ := Bk.pm1 hp5
  refine St.cls (C' := K W (g5.L ++ (c5 :: c4 :: c3 :: [(b1, row 29 [.pointer (some a)])] :: N))) ?_ (fun w h => K.bckN (A := [c5]) (B := g5.L) h)
  have hM2 := Move_b (W := W) (N := c5 :: c4 :: c3 :: [(b1, row 29 [.pointer (some a)])] :: N) (tx := 2) (lo := 3) (hi := 8) (fr := 0) (to := 2) hB5 (by rw [hb5]; exact Bk.pre4)
  rw [hA5.b, hA4.b, hA3.b, hbb2] at hM2
  refine s_y (y_F (y_neq rfl rfl) (by omega)) rfl rfl rfl ?_
  refine s_y (y_pickF rfl rfl) rfl rfl rfl ?_
  refine s_y (y_move rfl) rfl rfl rfl ?_
  refine s_y (y_move rfl) rfl rfl rfl ?_
  refine s_call (en_f rfl Tryz.call27) hM2 rfl rfl rfl (fun x => ?_)
  obtain ⟨⟨g6, e6, r6, v6, c6⟩, hB6, hp6, hA6, _⟩ := x
  dsimp only at hB6 hp6 hA6 ⊢
  rw [hb5] at hp6
  obtain ⟨rfl, hb6⟩ := Bk.pm2 hp6
  refine St.cls (C' := K W (g6.L ++ (c6 :: c5 :: c4 :: c3 :: [(b1, row 29 [.pointer (some a)])] :: N))) ?_ (fun w h => K.bckN (A := [c6]) (B := g6.L) h)
  have hS1 := State_b (W := W) (N := c6 :: c5 :: c4 :: c3 :: [(b1, row 29 [.pointer (some a)])] :: N) (tx := 1) hB6
  have hS2 := State_b (W := W) (N := c6 :: c5 :: c4 :: c3 :: [(b1, row 29 [.pointer (some a)])] :: N) (tx := 2) hB6
  rw [hA6.b, hA5.b, hA4.b, hA3.b, hbb2, hb6] at hS1 hS2
  refine s_y (y_F (y_neq rfl rfl) (by omega)) rfl rfl rfl ?_
  refine s_y (y_pickF rfl rfl) rfl rfl rfl ?_
  refine s_y (y_move rfl) rfl rfl rfl ?_
  refine s_y (y_move rfl) rfl rfl rfl ?_
  refine s_call (en_f rfl Tryz.call38) hS1 rfl rfl rfl (fun _ => ?_)
  rw [show Bk.stI Bk.B5 1 = 1 from rfl]
  refine s_y (y_F (y_neq rfl rfl) (by omega)) rfl rfl rfl ?_
  refine s_y (y_pickF rfl rfl) rfl rfl rfl ?_
  refine s_y (y_move rfl) rfl rfl rfl ?_
  refine s_y (y_move rfl) rfl rfl rfl ?_
  refine s_call (en_f rfl Tryz.call38) hS2 rfl rfl rfl (fun _ => ?_)
  rw [show Bk.stI Bk.B5 2 = 4 from rfl]
  refine s_y (y_F (y_neq rfl rfl) (by omega)) rfl rfl rfl ?_
  refine s_y (y_pickF rfl rfl) rfl rfl rfl ?_
  refine s_nil ?_
  refine f_then ?_
  refine c_condF rfl ?_
  refine c_skip ?_
  refine f_then ?_
  refine c_seq ?_
  refine c_region ?_
  refine s_y (y_assign rfl) rfl rfl rfl ?_
  refine s_nil ?_
  refine f_then ?_
  refine c_ret ?_
  exact f_ret () (res1 rfl rfl) (fun w h => by
    have h2 := K.bckN (A := g6.L ++ [c6, c5, c4, c3, [(b1, row 29 [.pointer (some a)])]]) (B := N) (N := []) (by simpa using h)
    have h3 : K W (N ++ ((g6.L ++ [c6, c5, c4, c3, [(b1, row 29 [.pointer (some a)])]]) ++ [])) w := h2
    exact h3.weak ((g6.L ++ [c6, c5, c4, c3, [(b1, row 29 [.pointer (some a)])]]) ++ []).flatten (by simp))
end Go.KL
end
