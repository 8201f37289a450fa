/- SampleOdd: for every input the law returns true, and its arguments read as they did. No condition. -/
import Derived.Shelf.SortM.Plain
import Derived.Shelf.SortM.SortNone
import Derived.Test.YtdknafhaphadiaaRows
import Derived.JoinedOf
import Derived.Handed
import Derived.Test.YtdknafhaphadiaaL6
section
/- The generator and what it draws below a bound, plain. No program in sight. -/
namespace Go.KL
def M64 : Nat := 18446744073709551616
def G64 : Nat := 11400714819323198485
/-- The inverse of the step. -/
def I64 : Nat := 17428512612931826493
theorem inv64 : G64 * I64 % M64 = 1 := by decide +kernel
def mixA (z : Nat) : Nat := (z ^^^ (z / 1073741824)) * 13787848793156543929 % M64
def mixB (z : Nat) : Nat := (z ^^^ (z / 134217728)) * 10723151780598845931 % M64
def mixC (z : Nat) : Nat := z ^^^ (z / 2147483648)
def mix (z : Nat) : Nat := mixC (mixB (mixA z))
def nxt (s : Nat) : Nat := (s + G64) % M64
theorem mix_zero : mix 0 = 0 := by decide +kernel
/-- How many steps are left until the state is 0, behind the next one. -/
def left (s : Nat) : Nat := (M64 - nxt s) * I64 % M64
theorem nxt_lt (s : Nat) : nxt s < M64 := Nat.mod_lt _ (by decide)
theorem left_zero {s : Nat} (h : left s = 0) : nxt s = 0 := by
  obtain ⟨t, ht⟩ : ∃ t, t = nxt s := ⟨_, rfl⟩
  have hlt := nxt_lt s
  unfold left at h
  rw [← ht] at h hlt ⊢
  have h1 : (M64 - t) * I64 * G64 % M64 = 0 := by
    rw [Nat.mul_mod, h, Nat.zero_mul, Nat.zero_mod]
  have h2 : (M64 - t) * I64 * G64 % M64 = (M64 - t) % M64 := by
    rw [Nat.mul_assoc, Nat.mul_comm I64, Nat.mul_mod, inv64, Nat.mul_one, Nat.mod_mod]
  rw [h2] at h1
  unfold M64 at *
  omega
theorem left_step {s : Nat} (h : nxt s ≠ 0) : left (nxt s) < left s := by
  obtain ⟨t, ht⟩ : ∃ t, t = nxt s := ⟨_, rfl⟩
  have hlt := nxt_lt s
  unfold left
  rw [← ht] at h hlt ⊢
  obtain ⟨a, ha⟩ : ∃ a, a = (M64 - t) * I64 % M64 := ⟨_, rfl⟩
  obtain ⟨b, hb⟩ : ∃ b, b = (M64 - nxt t) * I64 % M64 := ⟨_, rfl⟩
  have hal : a < M64 := ha ▸ Nat.mod_lt _ (by decide)
  have hbl : b < M64 := hb ▸ Nat.mod_lt _ (by decide)
  -- b + 1 and a agree modulo 2^64
  have e1 : (b + 1) % M64 = a % M64 := by
    have h1 : (M64 - nxt t + G64) % M64 = (M64 - t) % M64 := by
      unfold nxt M64 G64 at *
      omega
    have h2 : ((M64 - nxt t) * I64 + G64 * I64) % M64 = ((M64 - t) * I64) % M64 := by
      rw [← Nat.add_mul, Nat.mul_mod, h1, ← Nat.mul_mod]
    rw [hb, ha, Nat.mod_mod, ← h2, Nat.add_mod, Nat.mod_mod, Nat.add_mod ((M64 - nxt t) * I64), inv64]
    rfl
  have ha0 : a ≠ 0 := by
    intro h0
    have := left_zero (s := s) (by unfold left; rw [← ht, ← ha, h0])
    exact h (ht.trans this)
  rw [← ha, ← hb]
  unfold M64 at *
  omega
/-- Drawing below m: d is the remainder of 2^64. -/
def drw (m d : Nat) : Nat → Nat → Nat × Nat
  | 0, s => (nxt s, mix (nxt s) % m)
  | f + 1, s => if d = 0 ∨ mix (nxt s) < M64 - d then (nxt s, mix (nxt s) % m) else drw m d f (nxt s)
theorem drw_stop {m d f s : Nat} (h : d = 0 ∨ mix (nxt s) < M64 - d) : drw m d f s = (nxt s, mix (nxt s) % m) := by
  cases f with
  | zero => rfl
  | succ f => exact if_pos h
theorem mixC_lt {z : Nat} (h : z < M64) : mixC z < M64 := Nat.xor_lt_two_pow (n := 64) h (Nat.lt_of_le_of_lt (Nat.div_le_self _ _) h)
theorem mix_lt (z : Nat) : mix z < M64 := mixC_lt (Nat.mod_lt _ (by decide))
theorem drw_lt {m d : Nat} (hm : 0 < m) : ∀ {f s : Nat}, (drw m d f s).2 < m ∧ (drw m d f s).1 < M64
  | 0, s => ⟨Nat.mod_lt _ hm, nxt_lt s⟩
  | f + 1, s => by
    rw [drw]
    split
    · exact ⟨Nat.mod_lt _ hm, nxt_lt s⟩
    · exact drw_lt hm
def below (m s : Nat) : Nat × Nat := drw m ((M64 - m) % M64 % m) (left s) s
end Go.KL
end

section
/- Walks: the generator, and what it draws below a bound. -/
namespace Go.KL
open Go.Proofs
theorem cast_nxt {s : Nat} : ((s : Int) + 11400714819323198485) % 18446744073709551616 = ((nxt s : Nat) : Int) := by
  unfold nxt M64 G64
  omega
theorem cast_mixA {z : Nat} : (((z ^^^ (z / 1073741824) : Nat) : Int) * 13787848793156543929) % 18446744073709551616 = ((mixA z : Nat) : Int) := by
  unfold mixA M64
  omega
theorem cast_mixB {z : Nat} : (((z ^^^ (z / 134217728) : Nat) : Int) * 10723151780598845931) % 18446744073709551616 = ((mixB z : Nat) : Int) := by
  unfold mixB M64
  omega
theorem div_lt64 {z k : Nat} (h : z < 18446744073709551616) : z / k < 18446744073709551616 := Nat.lt_of_le_of_lt (Nat.div_le_self _ _) h
theorem cast_neg {m : Nat} (h : 0 < m) (h2 : m < 18446744073709551616) : (-(m : Int)) % 18446744073709551616 = (((M64 - m) % M64 : Nat) : Int) := by
  unfold M64
  omega
theorem cast_neg2 {m : Nat} (h : 0 < m) (h2 : m < 18446744073709551616) : (-(m : Int)) % 18446744073709551616 = ((M64 - m : Nat) : Int) := by
  unfold M64
  omega
theorem neg_pos64 {m : Nat} (h2 : m < 18446744073709551616) : 0 < M64 - m := by
  unfold M64
  omega
attribute [local irreducible] SC St Fin Sq Ylds Doos Sets Enters Spec CellIs CellsAre Then Ret Rnd Chn resOK ints bools recs arr
theorem words_spec2 {W : World} {N : List Chunk} {s : Nat} : Spec Try.prog 84 #[.int .u64 (s : Int)] (K W N) (fun b : Nat => .func (.func 123) #[] #[.pointer (some ⟨b, 0, none⟩)]) (fun b => K W ([(b, row 63 [.int .u64 (s : Int)])] :: N)) := by
  refine enter (args := [_]) Try.func84 rfl Try.ntmps84 rfl ?_
  refine c_seq ?_
  refine c_region ?_
  refine s_do (do_box rfl) rfl rfl rfl (fun b1 => ?_)
  refine s_y (y_assign rfl) rfl rfl rfl ?_
  refine s_nil ?_
  refine f_then ?_
  refine c_seq ?_
  refine c_region ?_
  refine s_y (y_makeFunc rfl rfl) rfl rfl rfl ?_
  refine s_y (y_assign rfl) rfl rfl rfl ?_
  refine s_nil ?_
  refine f_then ?_
  refine c_ret ?_
  exact f_ret b1 (res1 rfl rfl) (fun w h => h)
theorem gen_spec {W : World} {N : List Chunk} {b s : Nat} : Spec Try.prog 123 #[.pointer (some ⟨b, 0, none⟩)] (K W ([(b, row 63 [.int .u64 (s : Int)])] :: N)) (fun _ : Unit => .int .u64 (mix (nxt s) : Nat)) (fun _ => K W ([(b, row 63 [.int .u64 (nxt s : Nat)])] :: N)) := by
  have h0 := nxt_lt s
  refine enter (args := [_]) Try.func123 rfl Try.ntmps123 rfl ?_
  refine c_seq ?_
  refine c_region ?_
  refine s_y (y_assign rfl) rfl rfl rfl ?_
  refine s_nil ?_
  refine f_then ?_
  refine c_seq ?_
  refine c_region ?_
  refine s_y (y_load Try.tab rfl rfl (cell_row 0 rfl rfl)) rfl rfl rfl ?_
  refine s_y (y_addM rfl rfl) rfl rfl rfl ?_
  rw [cast_nxt]
  refine s_set (set_box1 Try.tab 0 rfl rfl rfl rfl rfl) rfl rfl ?_
  refine s_nil ?_
  refine f_then ?_
  refine c_seq ?_
  refine c_region ?_
  refine s_y (y_load Try.tab rfl rfl (cell_row 0 rfl rfl)) rfl rfl rfl ?_
  refine s_y (y_assign rfl) rfl rfl rfl ?_
  refine s_nil ?_
  refine f_then ?_
  refine c_seq ?_
  refine c_region ?_
  refine s_y (y_move rfl) rfl rfl rfl ?_
  refine s_y (y_move rfl) rfl rfl rfl ?_
  refine s_y (y_shrU (d := 1073741824) rfl rfl (by decide) rfl) rfl rfl rfl ?_
  obtain ⟨t, ht⟩ : ∃ t, t = nxt s := ⟨_, rfl⟩
  rw [← ht] at h0 ⊢
  unfold M64 at h0
  rw [show (t : Int) / 1073741824 = ((t / 1073741824 : Nat) : Int) by omega]
  refine s_y (y_xorU rfl rfl ⟨h0, div_lt64 h0⟩) rfl rfl rfl ?_
  refine s_y (y_mulM rfl rfl) rfl rfl rfl ?_
  rw [cast_mixA]
  have h1 : mixA t < 18446744073709551616 := Nat.mod_lt _ (by decide)
  refine s_y (y_assign rfl) rfl rfl rfl ?_
  refine s_nil ?_
  refine f_then ?_
  refine c_seq ?_
  refine c_region ?_
  refine s_y (y_move rfl) rfl rfl rfl ?_
  refine s_y (y_move rfl) rfl rfl rfl ?_
  refine s_y (y_shrU (d := 134217728) rfl rfl (by decide) rfl) rfl rfl rfl ?_
  rw [show (mixA t : Int) / 134217728 = ((mixA t / 134217728 : Nat) : Int) by omega]
  refine s_y (y_xorU rfl rfl ⟨h1, div_lt64 h1⟩) rfl rfl rfl ?_
  refine s_y (y_mulM rfl rfl) rfl rfl rfl ?_
  rw [cast_mixB]
  have h2 : mixB (mixA t) < 18446744073709551616 := Nat.mod_lt _ (by decide)
  refine s_y (y_assign rfl) rfl rfl rfl ?_
  refine s_nil ?_
  refine f_then ?_
  refine c_seq ?_
  refine c_region ?_
  refine s_y (y_move rfl) rfl rfl rfl ?_
  refine s_y (y_move rfl) rfl rfl rfl ?_
  refine s_y (y_shrU (d := 2147483648) rfl rfl (by decide) rfl) rfl rfl rfl ?_
  rw [show (mixB (mixA t) : Int) / 2147483648 = ((mixB (mixA t) / 2147483648 : Nat) : Int) by omega]
  refine s_y (y_xorU rfl rfl ⟨h2, div_lt64 h2⟩) rfl rfl rfl ?_
  refine s_y (y_assign rfl) rfl rfl rfl ?_
  refine s_nil ?_
  refine f_then ?_
  refine c_ret ?_
  exact f_ret () (res1 rfl rfl) (fun w h => h)
set_option maxRecDepth 20000 in
theorem below_spec {W : World} {N : List Chunk} {b s m : Nat} (hm : 0 < m) (hm2 : m < 18446744073709551616) : Spec Try.prog 85 #[.func (.func 123) #[] #[.pointer (some ⟨b, 0, none⟩)], .int .u64 (m : Int)] (K W ([(b, row 63 [.int .u64 (s : Int)])] :: N)) (fun _ : Unit => .int .u64 ((below m s).2 : Nat)) (fun _ => K W ([(b, row 63 [.int .u64 ((below m s).1 : Nat)])] :: N)) := by
  refine enter (args := [_, _]) Try.func85 rfl Try.ntmps85 rfl ?_
  refine c_seq ?_
  refine c_region ?_
  refine s_y (y_assign rfl) rfl rfl rfl ?_
  refine s_nil ?_
  refine f_then ?_
  refine c_seq ?_
  refine c_region ?_
  refine s_y (y_move rfl) rfl rfl rfl ?_
  refine s_y (y_negU rfl) rfl rfl rfl ?_
  rw [cast_neg hm hm2]
  refine s_y (y_move rfl) rfl rfl rfl ?_
  refine s_y (y_remK rfl rfl (by omega)) rfl rfl rfl ?_
  refine s_y (y_assign rfl) rfl rfl rfl ?_
  refine s_nil ?_
  refine f_then ?_
  refine c_block ?_
  rw [(Int.natCast_emod ((M64 - m) % M64) m).symm]
  obtain ⟨d, hd⟩ : ∃ d, d = (M64 - m) % M64 % m := ⟨_, rfl⟩
  have hdm : d < m := by rw [hd]; exact Nat.mod_lt _ hm
  have hbel : below m s = drw m d (left s) s := by rw [below, ← hd]
  rw [← hd, hbel]
  clear hd hbel
  refine c_loopP (α := Nat × Nat) (fun z => [(0, .func (.func 123) #[] #[.pointer (some ⟨b, 0, none⟩)]), (1, .int .u64 (m : Int)), (5, .int .u64 (d : Int))])
    (fun z => left z.2 ≤ z.1 ∧ drw m d z.1 z.2 = drw m d (left s) s) (fun z => K W ([(b, row 63 [.int .u64 (z.2 : Int)])] :: N)) (fun z => z.1) (left s, s)
    ⟨rfl, rfl, rfl, trivial⟩ ⟨Nat.le_refl _, rfl⟩ (fun w h => h) ?_
  rintro ⟨f, t⟩ ⟨hf, hdr⟩
  dsimp only at hf hdr ⊢
  rw [← hdr]
  refine c_block ?_
  refine c_seq ?_
  refine c_region ?_
  refine s_y (y_move rfl) rfl rfl rfl ?_
  have hd64 : d < 18446744073709551616 := by omega
  refine s_call (en_v rfl rfl Try.call123) gen_spec rfl rfl rfl (fun _ => ?_)
  by_cases hz : d = 0
  · have hstop : drw m d f t = (nxt t, mix (nxt t) % m) := drw_stop (.inl hz)
    rw [hstop]
    refine s_y (y_assign rfl) rfl rfl rfl ?_
    refine s_nil ?_
    refine f_then ?_
    refine c_seq ?_
    refine c_region ?_
    refine s_y (y_move rfl) rfl rfl rfl ?_
    refine s_y (y_T (y_eql rfl rfl) (by omega)) rfl rfl rfl ?_
    refine s_y (y_move rfl) rfl rfl rfl ?_
    iterate 4 refine s_skip rfl rfl rfl ?_
    refine s_y (y_pickT rfl rfl) rfl rfl rfl ?_
    refine s_nil ?_
    refine f_then ?_
    refine c_condT rfl ?_
    refine c_seq ?_
    refine c_region ?_
    refine s_y (y_move rfl) rfl rfl rfl ?_
    refine s_y (y_move rfl) rfl rfl rfl ?_
    refine s_y (y_remK rfl rfl (by omega)) rfl rfl rfl ?_
    refine s_y (y_assign rfl) rfl rfl rfl ?_
    refine s_nil ?_
    refine f_then ?_
    refine c_ret ?_
    refine f_blockR ?_
    refine f_rndR ?_
    refine f_blockR ?_
    exact f_retE () (res1 rfl rfl) (congrArg (Value.int .u64) (Int.natCast_emod _ _).symm) (fun w h => h)
  have hneg := cast_neg2 (m := d) (by omega) hd64
  have hpos : 0 < M64 - d := neg_pos64 hd64
  obtain ⟨q, hq⟩ : ∃ q, q = M64 - d := ⟨_, rfl⟩
  rw [← hq] at hneg hpos
  by_cases hw : mix (nxt t) < q
  · have hstop : drw m d f t = (nxt t, mix (nxt t) % m) := drw_stop (.inr (by rw [← hq]; exact hw))
    rw [hstop]
    clear hq
    refine s_y (y_assign rfl) rfl rfl rfl ?_
    refine s_nil ?_
    refine f_then ?_
    refine c_seq ?_
    refine c_region ?_
    refine s_y (y_move rfl) rfl rfl rfl ?_
    refine s_y (y_F (y_eql rfl rfl) (by omega)) rfl rfl rfl ?_
    refine s_y (y_move rfl) rfl rfl rfl ?_
    refine s_y (y_move rfl) rfl rfl rfl ?_
    refine s_y (y_move rfl) rfl rfl rfl ?_
    refine s_y (y_negU rfl) rfl rfl rfl ?_
    rw [hneg]
    refine s_y (y_T (y_lss rfl rfl) (by omega)) rfl rfl rfl ?_
    refine s_y (y_pickF rfl rfl) rfl rfl rfl ?_
    refine s_nil ?_
    refine f_then ?_
    refine c_condT rfl ?_
    refine c_seq ?_
    refine c_region ?_
    refine s_y (y_move rfl) rfl rfl rfl ?_
    refine s_y (y_move rfl) rfl rfl rfl ?_
    refine s_y (y_remK rfl rfl (by omega)) rfl rfl rfl ?_
    refine s_y (y_assign rfl) rfl rfl rfl ?_
    refine s_nil ?_
    refine f_then ?_
    refine c_ret ?_
    refine f_blockR ?_
    refine f_rndR ?_
    refine f_blockR ?_
    exact f_retE () (res1 rfl rfl) (congrArg (Value.int .u64) (Int.natCast_emod _ _).symm) (fun w h => h)
  · have hgo : ¬ (d = 0 ∨ mix (nxt t) < M64 - d) := fun h => h.elim hz (fun h => hw (by rw [hq]; exact h))
    clear hq
    have hn : nxt t ≠ 0 := fun h => hw (by rw [h, mix_zero]; exact hpos)
    have hls := left_step hn
    cases f with
    | zero =>
      clear hgo
      omega
    | succ f =>
      have hdr2 : drw m d (f + 1) t = drw m d f (nxt t) := if_neg hgo
      rw [hdr2] at hdr ⊢
      have hle : left (nxt t) ≤ f := Nat.le_of_lt_succ (Nat.lt_of_lt_of_le hls hf)
      clear hgo hls hn hf hdr2
      obtain ⟨T, hT⟩ : ∃ T, T = nxt t := ⟨_, rfl⟩
      rw [← hT] at hle hdr hw ⊢
      clear hT
      obtain ⟨Y, hY⟩ : ∃ Y, Y = left T := ⟨_, rfl⟩
      obtain ⟨X, hX⟩ : ∃ X, X = mix T := ⟨_, rfl⟩
      rw [← hX] at hw ⊢
      have hYf : Y ≤ f := by rw [hY]; exact hle
      clear hle hX
      refine s_y (y_assign rfl) rfl rfl rfl ?_
      refine s_nil ?_
      refine f_then ?_
      refine c_seq ?_
      refine c_region ?_
      refine s_y (y_move rfl) rfl rfl rfl ?_
      refine s_y (y_F (y_eql rfl rfl) (by omega)) rfl rfl rfl ?_
      refine s_y (y_move rfl) rfl rfl rfl ?_
      refine s_y (y_move rfl) rfl rfl rfl ?_
      refine s_y (y_move rfl) rfl rfl rfl ?_
      refine s_y (y_negU rfl) rfl rfl rfl ?_
      rw [hneg]
      refine s_y (y_F (y_lss rfl rfl) (by omega)) rfl rfl rfl ?_
      refine s_y (y_pickF rfl rfl) rfl rfl rfl ?_
      refine s_nil ?_
      refine f_then ?_
      refine c_condF rfl ?_
      refine c_skip ?_
      refine f_blockN ?_
      exact f_roundP (f, T) ⟨by dsimp only; rw [← hY]; exact hYf, by dsimp only <;> exact hdr⟩ (by simp only [Nat.lt_succ_self]) ⟨rfl, rfl, rfl, trivial⟩ (fun w h => h)
end Go.KL
end

section
/- Walks: the reference's Word and Below. -/
namespace Go.KL
open Go.Proofs
attribute [local irreducible] SC St Fin Sq Ylds Doos Sets Enters Spec CellIs CellsAre Then Ret Rnd Chn resOK ints bools recs arr
set_option maxRecDepth 20000 in
theorem rword_spec {W : World} {N : List Chunk} {s : Nat} : Spec Try.prog 126 #[.agg #[.int .u64 (s : Int)]] (K W N) (fun _ : Unit => .tuple #[.agg #[.int .u64 (nxt s : Nat)], .int .u64 (mix (nxt s) : Nat)]) (fun _ => K W N) := by
  have h0 := nxt_lt s
  refine enter (args := [_]) Try.func126 rfl Try.ntmps126 rfl ?_
  refine c_seq ?_
  refine c_region ?_
  refine s_do (do_box rfl) rfl rfl rfl (fun b1 => ?_)
  refine s_do (do_alloc Try.tab rfl) rfl rfl rfl (fun b2 => ?_)
  refine s_y (y_assign rfl) rfl rfl rfl ?_
  refine s_nil ?_
  refine f_then ?_
  refine c_seq ?_
  refine c_region ?_
  refine s_y (y_fieldAddr0 Try.tab rfl rfl rfl rfl rfl) rfl rfl rfl ?_
  refine s_y (y_load Try.tab rfl rfl (cell_row 1 rfl rfl)) rfl rfl rfl ?_
  refine s_y (y_addM rfl rfl) rfl rfl rfl ?_
  rw [cast_nxt]
  obtain ⟨t, ht⟩ : ∃ t, t = nxt s := ⟨_, rfl⟩
  rw [← ht] at h0 ⊢
  clear ht
  unfold M64 at h0
  refine s_y (y_fieldAddr0 Try.tab rfl rfl rfl rfl rfl) rfl rfl rfl ?_
  refine s_set (set_box1 Try.tab 1 rfl rfl rfl rfl rfl) rfl rfl ?_
  refine s_nil ?_
  refine f_then ?_
  refine c_seq ?_
  refine c_region ?_
  refine s_y (y_fieldAddr0 Try.tab rfl rfl rfl rfl rfl) rfl rfl rfl ?_
  refine s_y (y_load Try.tab rfl rfl (cell_row 1 rfl rfl)) rfl rfl rfl ?_
  refine s_y (y_assign rfl) rfl rfl rfl ?_
  refine s_nil ?_
  refine f_then ?_
  refine c_seq ?_
  refine c_region ?_
  refine s_y (y_move rfl) rfl rfl rfl ?_
  refine s_y (y_move rfl) rfl rfl rfl ?_
  refine s_y (y_shrU (d := 1073741824) rfl rfl (by decide) rfl) rfl rfl rfl ?_
  rw [show (t : Int) / 1073741824 = ((t / 1073741824 : Nat) : Int) by omega]
  refine s_y (y_xorU rfl rfl ⟨h0, div_lt64 h0⟩) rfl rfl rfl ?_
  refine s_y (y_mulM rfl rfl) rfl rfl rfl ?_
  rw [cast_mixA]
  have h1 : mixA t < 18446744073709551616 := Nat.mod_lt _ (by decide)
  refine s_y (y_assign rfl) rfl rfl rfl ?_
  refine s_nil ?_
  refine f_then ?_
  refine c_seq ?_
  refine c_region ?_
  refine s_y (y_move rfl) rfl rfl rfl ?_
  refine s_y (y_move rfl) rfl rfl rfl ?_
  refine s_y (y_shrU (d := 134217728) rfl rfl (by decide) rfl) rfl rfl rfl ?_
  rw [show (mixA t : Int) / 134217728 = ((mixA t / 134217728 : Nat) : Int) by omega]
  refine s_y (y_xorU rfl rfl ⟨h1, div_lt64 h1⟩) rfl rfl rfl ?_
  refine s_y (y_mulM rfl rfl) rfl rfl rfl ?_
  rw [cast_mixB]
  have h2 : mixB (mixA t) < 18446744073709551616 := Nat.mod_lt _ (by decide)
  refine s_y (y_assign rfl) rfl rfl rfl ?_
  refine s_nil ?_
  refine f_then ?_
  refine c_seq ?_
  refine c_region ?_
  refine s_y (y_loadA Try.tab rfl rfl rfl rfl (cells_row0 1 rfl rfl)) rfl rfl rfl ?_
  refine s_y (y_move rfl) rfl rfl rfl ?_
  refine s_y (y_move rfl) rfl rfl rfl ?_
  refine s_y (y_shrU (d := 2147483648) rfl rfl (by decide) rfl) rfl rfl rfl ?_
  rw [show (mixB (mixA t) : Int) / 2147483648 = ((mixB (mixA t) / 2147483648 : Nat) : Int) by omega]
  refine s_y (y_xorU rfl rfl ⟨h2, div_lt64 h2⟩) rfl rfl rfl ?_
  refine s_set (set_box Try.tab 0 rfl rfl rfl rfl rfl rfl rfl) rfl rfl ?_
  refine s_y (y_assign rfl) rfl rfl rfl ?_
  refine s_nil ?_
  refine f_then ?_
  refine c_ret ?_
  exact f_ret () (resA1 Try.tab rfl rfl rfl rfl rfl rfl (cells_row0 0 rfl rfl)) (fun w h => h.tail.tail)
set_option maxRecDepth 20000 in
set_option maxHeartbeats 8000000 in
theorem rbelow_spec {W : World} {N : List Chunk} {s m : Nat} (hm : 0 < m) (hm2 : m < 9223372036854775808) : Spec Try.prog 87 #[.agg #[.int .u64 (s : Int)], .int .i64 (m : Int)] (K W N) (fun _ : Unit => .tuple #[.agg #[.int .u64 ((below m s).1 : Nat)], .int .i64 ((below m s).2 : Nat)]) (fun _ => K W N) := by
  refine enter (args := [_, _]) Try.func87 rfl Try.ntmps87 rfl ?_
  have e2 : ∀ z : Nat, (Value.agg #[.int .u64 (z : Int)]).cells.toList = [.int .u64 (z : Int)] := fun z => by simp [Value.cells]
  have e4 : (Value.agg #[.int .u64 0]).cells.toList = [.int .u64 0] := by simp [Value.cells]
  refine c_seq ?_
  refine c_region ?_
  refine s_do (do_box rfl) rfl rfl rfl (fun b2 => ?_)
  refine s_do (do_alloc Try.tab rfl) rfl rfl rfl (fun b4 => ?_)
  refine s_y (y_assign rfl) rfl rfl rfl ?_
  refine s_nil ?_
  refine f_then ?_
  refine c_seq ?_
  refine c_region ?_
  refine s_y (y_move rfl) rfl rfl rfl ?_
  refine s_y (y_to64 Try.tab rfl rfl rfl (by omega)) rfl rfl rfl ?_
  rw [e2, e4]
  refine s_y (y_negU rfl) rfl rfl rfl ?_
  rw [cast_neg hm (by omega)]
  refine s_y (y_move rfl) rfl rfl rfl ?_
  refine s_y (y_to64 Try.tab rfl rfl rfl (by omega)) rfl rfl rfl ?_
  refine s_y (y_remK rfl rfl (by omega)) rfl rfl rfl ?_
  refine s_y (y_assign rfl) rfl rfl rfl ?_
  refine s_nil ?_
  refine f_then ?_
  refine c_block ?_
  rw [(Int.natCast_emod ((M64 - m) % M64) m).symm]
  obtain ⟨d, hd⟩ : ∃ d, d = (M64 - m) % M64 % m := ⟨_, rfl⟩
  have hdm : d < m := by rw [hd]; exact Nat.mod_lt _ hm
  have hbel : below m s = drw m d (left s) s := by rw [below, ← hd]
  rw [← hd, hbel]
  clear hd hbel
  refine c_loopP (α := Nat × Nat) (fun z => [(1, .int .i64 (m : Int)), (2, .pointer (some ⟨b2, 0, none⟩)), (4, .pointer (some ⟨b4, 0, none⟩)), (5, .int .i64 0), (6, .int .u64 (d : Int))])
    (fun z => left z.2 ≤ z.1 ∧ drw m d z.1 z.2 = drw m d (left s) s) (fun z => K W ([(b4, row 110 [.int .u64 0])] :: [(b2, row 110 [.int .u64 (z.2 : Int)])] :: N)) (fun z => z.1) (left s, s)
    ⟨rfl, rfl, rfl, rfl, rfl, trivial⟩ ⟨Nat.le_refl _, rfl⟩ (fun w h => h) ?_
  rintro ⟨f, t⟩ ⟨hf, hdr⟩
  dsimp only at hf hdr ⊢
  rw [← hdr]
  have hd64 : d < 18446744073709551616 := by omega
  refine c_block ?_
  refine c_seq ?_
  refine c_region ?_
  refine s_y (y_loadA Try.tab rfl rfl rfl rfl (cells_row0 1 rfl rfl)) rfl rfl rfl ?_
  refine s_call (en_f rfl Try.call126) rword_spec rfl rfl rfl (fun _ => ?_)
  by_cases hz : d = 0
  · have hstop : drw m d f t = (nxt t, mix (nxt t) % m) := drw_stop (.inl hz)
    rw [hstop]
    obtain ⟨r, hr⟩ : ∃ r, r = mix (nxt t) % m := ⟨_, rfl⟩
    have hrm : r < m := by rw [hr]; exact Nat.mod_lt _ hm
    have hr2 : ((mix (nxt t) : Nat) : Int) % (m : Int) = (r : Int) := by rw [hr]; exact (Int.natCast_emod _ _).symm
    rw [← hr]
    clear hr
    refine s_y (y_move rfl) rfl rfl rfl ?_
    refine s_y (y_extract rfl rfl) rfl rfl rfl ?_
    refine s_y (y_extract rfl rfl) rfl rfl rfl ?_
    refine s_do (do_alloc Try.tab rfl) rfl rfl rfl (fun b7 => ?_)
    refine s_set (set_box Try.tab 0 rfl rfl rfl rfl rfl rfl rfl) rfl rfl ?_
    refine s_y (y_assign rfl) rfl rfl rfl ?_
    refine s_nil ?_
    refine f_then ?_
    refine c_seq ?_
    refine c_region ?_
    refine s_y (y_loadA Try.tab rfl rfl rfl rfl (cells_row0 0 rfl rfl)) rfl rfl rfl ?_
    refine s_set (set_box Try.tab 2 rfl rfl rfl rfl rfl rfl rfl) rfl rfl ?_
    refine s_nil ?_
    refine f_then ?_
    refine c_seq ?_
    refine c_region ?_
    refine s_y (y_move rfl) rfl rfl rfl ?_
    refine s_y (y_T (y_eql rfl rfl) (by omega)) rfl rfl rfl ?_
    refine s_y (y_move rfl) rfl rfl rfl ?_
    iterate 4 refine s_skip rfl rfl rfl ?_
    refine s_y (y_pickT rfl rfl) rfl rfl rfl ?_
    refine s_nil ?_
    refine f_then ?_
    refine c_condT rfl ?_
    refine c_seq ?_
    refine SC.cls (C' := K W ([(b4, row 110 [.int .u64 0])] :: [(b2, row 110 [.int .u64 (nxt t : Nat)])] :: N)) ?_ (fun w h => h.tail)
    refine c_drawn [(1, .int .i64 (m : Int)), (2, .pointer (some ⟨b2, 0, none⟩)), (4, .pointer (some ⟨b4, 0, none⟩)), (8, .int .u64 (mix (nxt t) : Nat))] [[], [], [], [(2, 31)], [(1, 30), (3, 32)], [(4, 33)], [(0, 29)], [(5, 34)]] [(7, 5)] (fun s => [bxO (s 6) [(b4, row 110 [.int .u64 0])], [(b2, row 110 [.int .u64 (nxt t : Nat)])]])
      [fun _ v _ => .agg #[.int .u64 (nxt t : Nat)] = v, fun _ v _ => .int .u64 (mix (nxt t) : Nat) = v, fun _ v _ => .int .i64 (m : Int) = v, fun _ v _ => .int .u64 (m : Int) = v, fun _ v _ => .int .u64 (r : Int) = v, fun _ v _ => .int .i64 (r : Int) = v, fun _ _ c => c = [(b4, row 110 [.int .u64 (nxt t : Nat)])], fun _ v _ => .int .i64 (r : Int) = v]
      N (fun N' => ∃ M, N' = M ++ N) ⟨[], rfl⟩ (fun M N' ⟨M2, e⟩ => ⟨M ++ M2, by rw [e, List.append_assoc]⟩) Try.mixed (by kernel_rfl) rfl ⟨rfl, rfl, rfl, rfl, trivial⟩ (fun w h => h)
      ⟨fun _ _ _ _ h => h, fun _ _ _ _ h => h, fun _ _ _ _ h => h, fun _ _ _ _ h => h, fun _ _ _ _ h => h, fun _ _ _ _ h => h, fun _ _ _ _ h => h, fun _ _ _ _ h => h, trivial⟩
      ⟨?_, ?_, ?_, ?_, ?_, ?_, ?_, ?_, trivial⟩ ?_
    · intro s N' gN h0 hn0
      show Acts _ _ _ (K W (bxO (s 6) [(b4, row 110 [.int .u64 0])] :: [(b2, row 110 [.int .u64 (nxt t : Nat)])] :: N')) _ _
      exact a_y (y_loadA Try.tab rfl rfl rfl rfl (cells_row0 1 rfl rfl)) fun w h => ⟨[], [], h, rfl⟩
    · intro s N' gN h0 hn0
      show Acts _ _ _ (K W (bxO (s 6) [(b4, row 110 [.int .u64 0])] :: [(b2, row 110 [.int .u64 (nxt t : Nat)])] :: N')) _ _
      exact a_y (y_move rfl) fun w h => ⟨[], [], h, rfl⟩
    · intro s N' gN h0 hn0
      show Acts _ _ _ (K W (bxO (s 6) [(b4, row 110 [.int .u64 0])] :: [(b2, row 110 [.int .u64 (nxt t : Nat)])] :: N')) _ _
      exact a_y (y_move rfl) fun w h => ⟨[], [], h, rfl⟩
    · rintro s N' gN h0 hn0 v2 d2 e2 rfl
      show Acts _ _ _ (K W (bxO (s 6) [(b4, row 110 [.int .u64 0])] :: [(b2, row 110 [.int .u64 (nxt t : Nat)])] :: N')) _ _
      exact a_y (y_to64 Try.tab rfl rfl rfl ⟨by omega, by omega⟩) fun w h => ⟨[], [], h, rfl⟩
    · rintro s N' gN h0 hn0 v1 d1 e1 rfl v3 d3 e3 rfl
      show Acts _ _ _ (K W (bxO (s 6) [(b4, row 110 [.int .u64 0])] :: [(b2, row 110 [.int .u64 (nxt t : Nat)])] :: N')) _ _
      exact a_y (y_val (y_remK rfl rfl ⟨Int.natCast_nonneg _, by omega⟩) (congrArg (Value.int .u64) hr2)) fun w h => ⟨[], [], h, rfl⟩
    · rintro s N' gN h0 hn0 v4 d4 e4 rfl
      show Acts _ _ _ (K W (bxO (s 6) [(b4, row 110 [.int .u64 0])] :: [(b2, row 110 [.int .u64 (nxt t : Nat)])] :: N')) _ _
      exact a_y (y_toI Try.tab rfl rfl rfl ⟨by omega, by omega⟩) fun w h => ⟨[], [], h, rfl⟩
    · rintro s N' gN h0 hn0 v0 d0 e0 rfl
      show Acts _ _ _ (K W (bxO (s 6) [(b4, row 110 [.int .u64 0])] :: [(b2, row 110 [.int .u64 (nxt t : Nat)])] :: N')) _ _
      have hz : s 6 = none := h0
      rw [hz]
      show Acts _ _ _ (K W ([(b4, row 110 [.int .u64 0])] :: [(b2, row 110 [.int .u64 (nxt t : Nat)])] :: N')) _ _
      exact a_set (set_box Try.tab 0 (vs := [.int .u64 (nxt t : Nat)]) rfl rfl rfl rfl rfl rfl rfl) fun w h => ⟨[], [(b4, row 110 [.int .u64 (nxt t : Nat)])], h, rfl⟩
    · rintro s N' gN h0 hn0 v5 d5 e5 rfl
      show Acts _ _ _ (K W (bxO (s 6) [(b4, row 110 [.int .u64 0])] :: [(b2, row 110 [.int .u64 (nxt t : Nat)])] :: N')) _ _
      exact a_y (y_assign rfl) fun w h => ⟨[], [], h, rfl⟩
    · intro s N' gN hall v7 d7 e7 f7
      obtain ⟨v, z, hv⟩ := hall 6 (by decide)
      subst f7
      obtain ⟨M, hM⟩ := gN
      subst hM
      show Fin _ _ _ _ (K W (bxO (s 6) [(b4, row 110 [.int .u64 0])] :: [(b2, row 110 [.int .u64 (nxt t : Nat)])] :: (M ++ N)))
      rw [z]
      show Fin _ _ _ _ (K W (v.2 :: [(b2, row 110 [.int .u64 (nxt t : Nat)])] :: (M ++ N)))
      rw [hv]
      refine f_then ?_
      refine c_ret ?_
      refine f_blockR ?_
      refine f_rndR ?_
      refine f_blockR ?_
      exact f_ret () (resA1 Try.tab rfl rfl rfl rfl rfl rfl (cells_row0 0 rfl rfl)) (fun w h => h.tail.tail.bck)
  have hneg := cast_neg2 (m := d) (by omega) hd64
  have hpos : 0 < M64 - d := neg_pos64 hd64
  obtain ⟨q, hq⟩ : ∃ q, q = M64 - d := ⟨_, rfl⟩
  rw [← hq] at hneg hpos
  by_cases hw : mix (nxt t) < q
  · have hstop : drw m d f t = (nxt t, mix (nxt t) % m) := drw_stop (.inr (by rw [← hq]; exact hw))
    rw [hstop]
    clear hq
    refine s_y (y_move rfl) rfl rfl rfl ?_
    refine s_y (y_extract rfl rfl) rfl rfl rfl ?_
    refine s_y (y_extract rfl rfl) rfl rfl rfl ?_
    refine s_do (do_alloc Try.tab rfl) rfl rfl rfl (fun b7 => ?_)
    refine s_set (set_box Try.tab 0 rfl rfl rfl rfl rfl rfl rfl) rfl rfl ?_
    refine s_y (y_assign rfl) rfl rfl rfl ?_
    refine s_nil ?_
    refine f_then ?_
    refine c_seq ?_
    refine c_region ?_
    refine s_y (y_loadA Try.tab rfl rfl rfl rfl (cells_row0 0 rfl rfl)) rfl rfl rfl ?_
    refine s_set (set_box Try.tab 2 rfl rfl rfl rfl rfl rfl rfl) rfl rfl ?_
    refine s_nil ?_
    refine f_then ?_
    refine c_seq ?_
    refine c_region ?_
    refine s_y (y_move rfl) rfl rfl rfl ?_
    refine s_y (y_F (y_eql rfl rfl) (by omega)) rfl rfl rfl ?_
    refine s_y (y_move rfl) rfl rfl rfl ?_
    refine s_y (y_move rfl) rfl rfl rfl ?_
    refine s_y (y_move rfl) rfl rfl rfl ?_
    refine s_y (y_negU rfl) rfl rfl rfl ?_
    rw [hneg]
    obtain ⟨r, hr⟩ : ∃ r, r = mix (nxt t) % m := ⟨_, rfl⟩
    have hrm : r < m := by rw [hr]; exact Nat.mod_lt _ hm
    have hr2 : ((mix (nxt t) : Nat) : Int) % (m : Int) = (r : Int) := by rw [hr]; exact (Int.natCast_emod _ _).symm
    rw [← hr]
    clear hr
    refine s_y (y_T (y_lss rfl rfl) (by omega)) rfl rfl rfl ?_
    refine s_y (y_pickF rfl rfl) rfl rfl rfl ?_
    refine s_nil ?_
    refine f_then ?_
    refine c_condT rfl ?_
    refine c_seq ?_
    refine SC.cls (C' := K W ([(b4, row 110 [.int .u64 0])] :: [(b2, row 110 [.int .u64 (nxt t : Nat)])] :: N)) ?_ (fun w h => h.tail)
    refine c_drawn [(1, .int .i64 (m : Int)), (2, .pointer (some ⟨b2, 0, none⟩)), (4, .pointer (some ⟨b4, 0, none⟩)), (8, .int .u64 (mix (nxt t) : Nat))] [[], [], [], [(2, 31)], [(1, 30), (3, 32)], [(4, 33)], [(0, 29)], [(5, 34)]] [(7, 5)] (fun s => [bxO (s 6) [(b4, row 110 [.int .u64 0])], [(b2, row 110 [.int .u64 (nxt t : Nat)])]])
      [fun _ v _ => .agg #[.int .u64 (nxt t : Nat)] = v, fun _ v _ => .int .u64 (mix (nxt t) : Nat) = v, fun _ v _ => .int .i64 (m : Int) = v, fun _ v _ => .int .u64 (m : Int) = v, fun _ v _ => .int .u64 (r : Int) = v, fun _ v _ => .int .i64 (r : Int) = v, fun _ _ c => c = [(b4, row 110 [.int .u64 (nxt t : Nat)])], fun _ v _ => .int .i64 (r : Int) = v]
      N (fun N' => ∃ M, N' = M ++ N) ⟨[], rfl⟩ (fun M N' ⟨M2, e⟩ => ⟨M ++ M2, by rw [e, List.append_assoc]⟩) Try.mixed (by kernel_rfl) rfl ⟨rfl, rfl, rfl, rfl, trivial⟩ (fun w h => h)
      ⟨fun _ _ _ _ h => h, fun _ _ _ _ h => h, fun _ _ _ _ h => h, fun _ _ _ _ h => h, fun _ _ _ _ h => h, fun _ _ _ _ h => h, fun _ _ _ _ h => h, fun _ _ _ _ h => h, trivial⟩
      ⟨?_, ?_, ?_, ?_, ?_, ?_, ?_, ?_, trivial⟩ ?_
    · intro s N' gN h0 hn0
      show Acts _ _ _ (K W (bxO (s 6) [(b4, row 110 [.int .u64 0])] :: [(b2, row 110 [.int .u64 (nxt t : Nat)])] :: N')) _ _
      exact a_y (y_loadA Try.tab rfl rfl rfl rfl (cells_row0 1 rfl rfl)) fun w h => ⟨[], [], h, rfl⟩
    · intro s N' gN h0 hn0
      show Acts _ _ _ (K W (bxO (s 6) [(b4, row 110 [.int .u64 0])] :: [(b2, row 110 [.int .u64 (nxt t : Nat)])] :: N')) _ _
      exact a_y (y_move rfl) fun w h => ⟨[], [], h, rfl⟩
    · intro s N' gN h0 hn0
      show Acts _ _ _ (K W (bxO (s 6) [(b4, row 110 [.int .u64 0])] :: [(b2, row 110 [.int .u64 (nxt t : Nat)])] :: N')) _ _
      exact a_y (y_move rfl) fun w h => ⟨[], [], h, rfl⟩
    · rintro s N' gN h0 hn0 v2 d2 e2 rfl
      show Acts _ _ _ (K W (bxO (s 6) [(b4, row 110 [.int .u64 0])] :: [(b2, row 110 [.int .u64 (nxt t : Nat)])] :: N')) _ _
      exact a_y (y_to64 Try.tab rfl rfl rfl ⟨by omega, by omega⟩) fun w h => ⟨[], [], h, rfl⟩
    · rintro s N' gN h0 hn0 v1 d1 e1 rfl v3 d3 e3 rfl
      show Acts _ _ _ (K W (bxO (s 6) [(b4, row 110 [.int .u64 0])] :: [(b2, row 110 [.int .u64 (nxt t : Nat)])] :: N')) _ _
      exact a_y (y_val (y_remK rfl rfl ⟨Int.natCast_nonneg _, by omega⟩) (congrArg (Value.int .u64) hr2)) fun w h => ⟨[], [], h, rfl⟩
    · rintro s N' gN h0 hn0 v4 d4 e4 rfl
      show Acts _ _ _ (K W (bxO (s 6) [(b4, row 110 [.int .u64 0])] :: [(b2, row 110 [.int .u64 (nxt t : Nat)])] :: N')) _ _
      exact a_y (y_toI Try.tab rfl rfl rfl ⟨by omega, by omega⟩) fun w h => ⟨[], [], h, rfl⟩
    · rintro s N' gN h0 hn0 v0 d0 e0 rfl
      show Acts _ _ _ (K W (bxO (s 6) [(b4, row 110 [.int .u64 0])] :: [(b2, row 110 [.int .u64 (nxt t : Nat)])] :: N')) _ _
      have hz : s 6 = none := h0
      rw [hz]
      show Acts _ _ _ (K W ([(b4, row 110 [.int .u64 0])] :: [(b2, row 110 [.int .u64 (nxt t : Nat)])] :: N')) _ _
      exact a_set (set_box Try.tab 0 (vs := [.int .u64 (nxt t : Nat)]) rfl rfl rfl rfl rfl rfl rfl) fun w h => ⟨[], [(b4, row 110 [.int .u64 (nxt t : Nat)])], h, rfl⟩
    · rintro s N' gN h0 hn0 v5 d5 e5 rfl
      show Acts _ _ _ (K W (bxO (s 6) [(b4, row 110 [.int .u64 0])] :: [(b2, row 110 [.int .u64 (nxt t : Nat)])] :: N')) _ _
      exact a_y (y_assign rfl) fun w h => ⟨[], [], h, rfl⟩
    · intro s N' gN hall v7 d7 e7 f7
      obtain ⟨v, z, hv⟩ := hall 6 (by decide)
      subst f7
      obtain ⟨M, hM⟩ := gN
      subst hM
      show Fin _ _ _ _ (K W (bxO (s 6) [(b4, row 110 [.int .u64 0])] :: [(b2, row 110 [.int .u64 (nxt t : Nat)])] :: (M ++ N)))
      rw [z]
      show Fin _ _ _ _ (K W (v.2 :: [(b2, row 110 [.int .u64 (nxt t : Nat)])] :: (M ++ N)))
      rw [hv]
      refine f_then ?_
      refine c_ret ?_
      refine f_blockR ?_
      refine f_rndR ?_
      refine f_blockR ?_
      exact f_ret () (resA1 Try.tab rfl rfl rfl rfl rfl rfl (cells_row0 0 rfl rfl)) (fun w h => h.tail.tail.bck)
  · have hgo : ¬ (d = 0 ∨ mix (nxt t) < M64 - d) := fun h => h.elim hz (fun h => hw (by rw [hq]; exact h))
    clear hq
    have hn : nxt t ≠ 0 := fun h => hw (by rw [h, mix_zero]; exact hpos)
    have hls := left_step hn
    cases f with
    | zero =>
      clear hgo
      omega
    | succ f =>
      have hdr2 : drw m d (f + 1) t = drw m d f (nxt t) := if_neg hgo
      rw [hdr2] at hdr ⊢
      have hle : left (nxt t) ≤ f := Nat.le_of_lt_succ (Nat.lt_of_lt_of_le hls hf)
      clear hgo hls hn hf hdr2
      obtain ⟨T, hT⟩ : ∃ T, T = nxt t := ⟨_, rfl⟩
      rw [← hT] at hle hdr hw ⊢
      clear hT
      obtain ⟨Y, hY⟩ : ∃ Y, Y = left T := ⟨_, rfl⟩
      obtain ⟨X, hX⟩ : ∃ X, X = mix T := ⟨_, rfl⟩
      rw [← hX] at hw ⊢
      have hYf : Y ≤ f := by rw [hY]; exact hle
      clear hle hX
      refine s_y (y_move rfl) rfl rfl rfl ?_
      refine s_y (y_extract rfl rfl) rfl rfl rfl ?_
      refine s_y (y_extract rfl rfl) rfl rfl rfl ?_
      refine s_do (do_alloc Try.tab rfl) rfl rfl rfl (fun b7 => ?_)
      refine s_set (set_box Try.tab 0 rfl rfl rfl rfl rfl rfl rfl) rfl rfl ?_
      refine s_y (y_assign rfl) rfl rfl rfl ?_
      refine s_nil ?_
      refine f_then ?_
      refine c_seq ?_
      refine c_region ?_
      refine s_y (y_loadA Try.tab rfl rfl rfl rfl (cells_row0 0 rfl rfl)) rfl rfl rfl ?_
      refine s_set (set_box Try.tab 2 rfl rfl rfl rfl rfl rfl rfl) rfl rfl ?_
      refine s_nil ?_
      refine f_then ?_
      refine c_seq ?_
      refine c_region ?_
      refine s_y (y_move rfl) rfl rfl rfl ?_
      refine s_y (y_F (y_eql rfl rfl) (by omega)) rfl rfl rfl ?_
      refine s_y (y_move rfl) rfl rfl rfl ?_
      refine s_y (y_move rfl) rfl rfl rfl ?_
      refine s_y (y_move rfl) rfl rfl rfl ?_
      refine s_y (y_negU rfl) rfl rfl rfl ?_
      rw [hneg]
      refine s_y (y_F (y_lss rfl rfl) (by omega)) rfl rfl rfl ?_
      refine s_y (y_pickF rfl rfl) rfl rfl rfl ?_
      refine s_nil ?_
      refine f_then ?_
      refine c_condF rfl ?_
      refine c_skip ?_
      refine f_blockN ?_
      exact f_roundP (f, T) ⟨by dsimp only; rw [← hY]; exact hYf, by dsimp only <;> exact hdr⟩ (by simp only [Nat.lt_succ_self]) ⟨rfl, rfl, rfl, rfl, rfl, trivial⟩ (fun w h => h.tail)
end Go.KL
end

section
/- What a draw picks, plain. No program in sight. -/
namespace Go.KL
/-- u rounds from b on: the generator's state, and the numbers in the order drawn. -/
def drS (s b : Nat) : Nat → Nat × List Nat
  | 0 => (s, [])
  | u + 1 => ((below (b + u + 1) (drS s b u).1).1, (drS s b u).2 ++ [if (below (b + u + 1) (drS s b u).1).2 ∈ (drS s b u).2 then b + u else (below (b + u + 1) (drS s b u).1).2])
def zN (l : List Nat) : List Int := l.map fun x : Nat => (x : Int)
theorem below_lt {m s : Nat} (hm : 0 < m) : (below m s).2 < m := (drw_lt hm).1
theorem zN_mem {l : List Nat} {x : Nat} : ((x : Int) ∈ zN l) ↔ x ∈ l := by
  simp only [zN, List.mem_map]
  exact ⟨fun ⟨a, ha, e⟩ => by rw [← Int.ofNat_inj.1 e]; exact ha, fun h => ⟨x, h, rfl⟩⟩
theorem drS_succ {s b u : Nat} {S : Nat × List Nat} {r : Nat × Nat} (hS : drS s b u = S) (hr : below (b + u + 1) S.1 = r) : drS s b (u + 1) = (r.1, S.2 ++ [if r.2 ∈ S.2 then b + u else r.2]) := by
  subst hS hr
  rw [drS]
theorem drS_len (s b : Nat) : ∀ u, (drS s b u).2.length = u
  | 0 => rfl
  | u + 1 => by rw [drS, List.length_append, drS_len s b u]; rfl
theorem drS_lt (s b : Nat) : ∀ u, ∀ x ∈ (drS s b u).2, x < b + u
  | 0, x, h => by cases h
  | u + 1, x, h => by
    rw [drS] at h
    rcases List.mem_append.1 h with h | h
    · have := drS_lt s b u x h; omega
    · rw [List.mem_singleton] at h
      subst h
      split
      · omega
      · exact below_lt (by omega)
theorem drS_nodup (s b : Nat) : ∀ u, (drS s b u).2.Nodup
  | 0 => List.nodup_nil
  | u + 1 => by
    rw [drS, List.nodup_append]
    refine ⟨drS_nodup s b u, by simp, fun x hx y hy => ?_⟩
    rw [List.mem_singleton] at hy
    subst hy
    have h1 := drS_lt s b u x hx
    generalize (below (b + u + 1) (drS s b u).1).2 = y
    split
    · omega
    · rename_i h
      intro e
      exact h (e ▸ hx)
theorem mget_mset {q k : Int} {v z : Value} {c : Nat} : ∀ {es : List Ent}, mget q z (mset k v c es) = if q = k then v else mget q z es
  | [] => by simp only [mset, mget]
  | e :: r => by
    simp only [mset]
    by_cases h : k = e.1
    · rw [if_pos h]
      simp only [mget]
      by_cases hq : q = k
      · simp only [hq, if_true]
      · simp only [if_neg hq]
        rw [if_neg (by omega)]
    · rw [if_neg h]
      simp only [mget]
      by_cases hq : q = e.1
      · rw [if_pos hq, if_pos hq, if_neg (by omega)]
      · rw [if_neg hq, if_neg hq, mget_mset]
end Go.KL
end

section
/- The library's sort of ints at this program: numbers of functions and types (printed by a tool of the kit). -/
namespace Go.Proofs
open Go.Shelf
def Try.sortA_ren : Go.Shelf.Ren := ⟨fun | 5 => 86 | 8 => 125 | 7 => 124 | 19 => 129 | 20 => 136 | 10 => 139 | 11 => 140 | 12 => 141 | 13 => 142 | 14 => 143 | 15 => 144 | 16 => 145 | 17 => 146 | 18 => 147 | 30 => 150 | 31 => 151 | 32 => 152 | 33 => 153 | 34 => 154 | 35 => 155 | 40 => 157 | n => n, fun | 23 => 32 | 25 => 3 | 3 => 3 | 32 => 140 | 22 => 32 | 0 => 0 | 44 => 123 | 46 => 63 | 4 => 4 | 36 => 164 | 35 => 163 | 41 => 58 | 5 => 5 | 9 => 9 | 53 => 171 | 57 => 174 | 63 => 176 | 64 => 39 | n => n, fun | n => n⟩
theorem Try.sortA : Go.Proofs.SlLaysM.n5 Try.prog Try.sortA_ren := {
  mixed := by kernel_rfl
  f5 := ⟨Try.f86.name, by decide, Try.func86.trans (congrArg some (by kernel_rfl))⟩
  f7 := ⟨Try.f124.name, by decide, Try.func124.trans (congrArg some (by kernel_rfl))⟩
  f8 := Try.func125.trans (congrArg some (by kernel_rfl))
  f10 := ⟨Try.f139.name, by decide, Try.func139.trans (congrArg some (by kernel_rfl))⟩
  f11 := ⟨Try.f140.name, by decide, Try.func140.trans (congrArg some (by kernel_rfl))⟩
  f12 := ⟨Try.f141.name, by decide, Try.func141.trans (congrArg some (by kernel_rfl))⟩
  f13 := ⟨Try.f142.name, by decide, Try.func142.trans (congrArg some (by kernel_rfl))⟩
  f14 := ⟨Try.f143.name, by decide, Try.func143.trans (congrArg some (by kernel_rfl))⟩
  f15 := ⟨Try.f144.name, by decide, Try.func144.trans (congrArg some (by kernel_rfl))⟩
  f16 := ⟨Try.f145.name, by decide, Try.func145.trans (congrArg some (by kernel_rfl))⟩
  f17 := ⟨Try.f146.name, by decide, Try.func146.trans (congrArg some (by kernel_rfl))⟩
  f18 := ⟨Try.f147.name, by decide, Try.func147.trans (congrArg some (by kernel_rfl))⟩
  f19 := Try.func129.trans (congrArg some (by kernel_rfl))
  f20 := Try.func136.trans (congrArg some (by kernel_rfl))
  f30 := ⟨Try.f150.name, by decide, Try.func150.trans (congrArg some (by kernel_rfl))⟩
  f31 := Try.func151.trans (congrArg some (by kernel_rfl))
  f32 := Try.func152.trans (congrArg some (by kernel_rfl))
  f33 := ⟨Try.f153.name, by decide, Try.func153.trans (congrArg some (by kernel_rfl))⟩
  f34 := ⟨Try.f154.name, by decide, Try.func154.trans (congrArg some (by kernel_rfl))⟩
  f35 := ⟨Try.f155.name, by decide, Try.func155.trans (congrArg some (by kernel_rfl))⟩
  f40 := ⟨Try.f157.name, by decide, Try.func157.trans (congrArg some (by kernel_rfl))⟩
  t0 := Try.underlying0
  a0 := Try.isAgg0
  z0 := Try.sizeOf0
  v0 := Try.zeroValue0
  t3 := Try.underlying3
  a3 := Try.isAgg3
  z3 := Try.sizeOf3
  v3 := Try.zeroValue3
  t4 := Try.underlying4
  a4 := Try.isAgg4
  z4 := Try.sizeOf4
  v4 := Try.zeroValue4
  t5 := Try.underlying5
  a5 := Try.isAgg5
  z5 := Try.sizeOf5
  v5 := Try.zeroValue5
  t9 := Try.underlying9
  a9 := Try.isAgg9
  z9 := Try.sizeOf9
  v9 := Try.zeroValue9
  t22 := Try.underlying32
  a22 := Try.isAgg32
  z22 := Try.sizeOf32
  v22 := Try.zeroValue32
  t23 := Try.underlying32
  a23 := Try.isAgg32
  z23 := Try.sizeOf32
  v23 := Try.zeroValue32
  t25 := Try.underlying3
  a25 := Try.isAgg3
  z25 := Try.sizeOf3
  v25 := Try.zeroValue3
  t32 := Try.underlying140
  a32 := Try.isAgg140
  z32 := Try.sizeOf140
  v32 := Try.zeroValue140
  t35 := Try.underlying163
  a35 := Try.isAgg163
  z35 := Try.sizeOf163
  v35 := Try.zeroValue163
  t36 := Try.underlying164
  a36 := Try.isAgg164
  z36 := Try.sizeOf164
  v36 := Try.zeroValue164
  t41 := Try.underlying58
  a41 := Try.isAgg58
  z41 := Try.sizeOf58
  v41 := Try.zeroValue58
  t44 := Try.underlying123
  a44 := Try.isAgg123
  z44 := Try.sizeOf123
  v44 := Try.zeroValue123
  t46 := Try.underlying63
  a46 := Try.isAgg63
  z46 := Try.sizeOf63
  v46 := Try.zeroValue63
  t53 := Try.underlying171
  a53 := Try.isAgg171
  z53 := Try.sizeOf171
  v53 := Try.zeroValue171
  t57 := Try.underlying174
  a57 := Try.isAgg174
  z57 := Try.sizeOf174
  v57 := Try.zeroValue174
  t63 := Try.underlying176
  a63 := Try.isAgg176
  z63 := Try.sizeOf176
  v63 := Try.zeroValue176
  t64 := Try.underlying39
  a64 := Try.isAgg39
  z64 := Try.sizeOf39
  v64 := Try.zeroValue39 }

end Go.Proofs
end

section
/- Contracts: slices.Sort on ints. -/
namespace Go.KL
open Go.Proofs Go.RowKit Go.Sort Go.Shelf
def ivals (l : List Int) : List Value := l.map fun z => .int .i64 z
def leJ (x y : Int) : Bool := decide (x ≤ y)
theorem putCells_mid (pre xs rest : List Value) (ts : List Int) (h : ts.length = xs.length) : putCells (Value.int .i64) pre.length ts.toArray (pre ++ xs ++ rest).toArray = (pre ++ ivals ts ++ rest).toArray := by
  apply Array.ext_getElem?
  intro k
  simp only [putCells, Array.getElem?_mapIdx, List.getElem?_toArray, ivals]
  by_cases h1 : k < pre.length
  · have h2 : ¬ (pre.length ≤ k ∧ k < pre.length + ts.toArray.size) := by omega
    rw [List.append_assoc, List.append_assoc, List.getElem?_append_left h1, List.getElem?_append_left h1]
    simp only [if_neg h2, Option.map_id']
  · by_cases h2 : k < pre.length + ts.length
    · have h3 : pre.length ≤ k ∧ k < pre.length + ts.toArray.size := by simp; omega
      have h4 : k - pre.length < xs.length := by omega
      have h5 : k - pre.length < ts.length := by omega
      have a1 : (pre ++ xs ++ rest)[k]? = some xs[k - pre.length] := by
        rw [List.getElem?_append_left (by rw [List.length_append]; omega), List.getElem?_append_right (by omega), List.getElem?_eq_getElem h4]
      have a2 : (pre ++ ts.map (fun z => Value.int .i64 z) ++ rest)[k]? = some (.int .i64 ts[k - pre.length]) := by
        rw [List.getElem?_append_left (by rw [List.length_append, List.length_map]; omega), List.getElem?_append_right (by omega), List.getElem?_map, List.getElem?_eq_getElem h5]
        rfl
      rw [a1, a2]
      simp only [Option.map_some, if_pos h3]
      simp [h5]
    · have h3 : ¬ (pre.length ≤ k ∧ k < pre.length + ts.toArray.size) := by simp; omega
      rw [List.getElem?_append_right (by simp; omega), List.getElem?_append_right (by simp; omega)]
      simp only [if_neg h3, Option.map_id', List.length_append, List.length_map, h]
theorem sort_spec (W : World) (Ls : List Chunk) (i : Nat) (o : Own) (zs : List Int) (hi : Ls.getD i [] = och 3 o (ivals zs)) (hn : zs.length < 4611686018427387904) :
    Spec Try.prog 86 #[osl o zs.length] (K W Ls) (fun _ : Unit => .tuple #[]) (fun _ => K W (Ls.set i (och 3 o (ivals (zs.mergeSort leJ))))) := by
  intro w hw
  have hb := hw.at (c := []) hi
  have hH : Holds (Value.int .i64) w o.b o.pre.length zs.toArray := by
    intro j hj
    have hj' : j < zs.length := by simpa using hj
    refine ⟨?_, frozen_row hb⟩
    have : (o.pre ++ ivals zs ++ o.rest)[o.pre.length + j]? = some (.int .i64 zs[j]) := by
      rw [och_get (by simp [ivals]; exact hj')]
      simp [ivals, hj']
    simp only [World.cell?, hb, row, List.getElem?_toArray, this]
    simp [hj']
  refine (AnyM.slices_Sort_int Try.sortA o.b o.pre.length o.cap zs w hH (heap_lt hb) hn).mono ?_
  rintro e w' ⟨rfl, n, os, rfl⟩
  refine ⟨(), rfl, ?_⟩
  have hl : (zs.mergeSort fun x y => decide (x ≤ y)).length = (ivals zs).length := by simp [ivals]
  have h1 : K W (Ls.set i [(o.b, row 3 (o.pre ++ ivals (zs.mergeSort leJ) ++ o.rest))]) (putRow (Value.int .i64) (Sort.ahead w n) o.b o.pre.length (zs.mergeSort fun x y => decide (x ≤ y)).toArray) := by
    refine hw.put hi rfl rfl rfl (by simp [Sort.ahead]) ?_ ?_
    · intro c hc
      simp [putRow, mapBlock, Array.getElem?_modify, Ne.symm hc, Sort.ahead]
    · simp only [putRow, mapBlock, Array.getElem?_modify, if_true, Sort.ahead, hb, Option.map_some, row, onCells]
      rw [putCells_mid _ _ _ _ hl]
      rfl
  refine h1.ext ⟨rfl, rfl, rfl, by simp [grow], fun b hb' => ?_⟩
  simp only [grow]
  rw [Array.getElem?_append_left hb']
theorem sort0_spec (C : World → Prop) (p : Option Addr) (c : Nat) : Spec Try.prog 86 #[.slice p 0 c] C (fun _ : Unit => .tuple #[]) (fun _ => C) := by
  intro w hw
  refine (AnyM.slices_Sort_int_none Try.sortA p c w).mono ?_
  rintro e w' ⟨rfl, rfl⟩
  exact ⟨(), rfl, hw⟩
/-- A row that grew from nil, sorted. -/
theorem sortB_spec (W : World) (Ls : List Chunk) (i : Nat) {v : Value} {c : Chunk} {m : Nat} {zs : List Int} (hB : Buf 3 1 v c m (ivals zs)) (hm : m = zs.length) (hi : Ls.getD i [] = c) (hn : zs.length < 4611686018427387904) :
    Spec Try.prog 86 #[v] (K W Ls) (X := { c' : Chunk // Buf 3 1 v c' m (ivals (zs.mergeSort leJ)) }) (fun _ => .tuple #[]) (fun x => K W (Ls.set i x.1)) := by
  subst hm
  rcases hB.ok with ⟨h0, h1, rfl, rfl⟩ | ⟨o, rfl, rfl, ho, hp⟩
  · have hz : zs = [] := List.eq_nil_of_length_eq_zero h0
    subst hz
    intro w hw
    refine (sort0_spec (K W Ls) none 0 w hw).mono ?_
    rintro e w' ⟨_, rfl, hk⟩
    refine ⟨⟨[], ⟨.inl ⟨rfl, by simp [ivals], rfl, rfl⟩⟩⟩, rfl, ?_⟩
    refine hk.weak [] ?_
    have h1 := front_perm i Ls
    by_cases hil : i < Ls.length
    · have e : Ls[i] = [] := by
        rw [List.getD_eq_getElem?_getD, List.getElem?_eq_getElem hil] at hi
        exact hi
      show Ls.flatten.Perm ((Ls.set i []).flatten ++ [])
      rw [List.append_nil, ← e, List.set_getElem_self hil]
    · show Ls.flatten.Perm ((Ls.set i []).flatten ++ [])
      rw [List.append_nil, List.set_eq_of_length_le (by omega)]
  · have hl : (zs.mergeSort leJ).length = zs.length := by simp
    refine ((sort_spec W Ls i o zs hi hn).map (fun _ => ⟨och 3 o (ivals (zs.mergeSort leJ)), ⟨.inr ⟨o, rfl, rfl, ⟨ho.le, ho.max, by rw [show (ivals (zs.mergeSort leJ)).length = zs.length by simp [ivals], Nat.mul_one], ho.room⟩, hp⟩⟩⟩) (fun _ => rfl) (fun _ _ h => h))
end Go.KL
end

section
/- Walks: Draw. -/
namespace Go.KL
open Go.Proofs
theorem ivals_len {l : List Int} : (ivals l).length = l.length := by simp [ivals]
theorem ivals_app {a b : List Int} : ivals (a ++ b) = ivals a ++ ivals b := by simp [ivals]
theorem zN_len {l : List Nat} : (zN l).length = l.length := by simp [zN]
theorem zN_app {a b : List Nat} : zN (a ++ b) = zN a ++ zN b := by simp [zN]
/-- The map knows which numbers were chosen. -/
def Knows (es : List Ent) (l : List Nat) : Prop := ∀ x : Nat, mget (x : Int) (.bool false) es = .bool (decide (x ∈ l))
theorem Knows.nil : Knows [] [] := fun x => by simp [mget]
theorem Knows.add {es : List Ent} {l : List Nat} {y c : Nat} (h : Knows es l) : Knows (mset (y : Int) (.bool true) c es) (l ++ [y]) := by
  intro x
  rw [mget_mset, h x]
  by_cases e : x = y
  · rw [if_pos (by omega), decide_eq_true (by simp [e])]
  · rw [if_neg (by omega)]
    simp [e]
/-- What Draw gives. -/
def drawF (s lot n : Nat) : List Int := (zN (drS s (lot - n) n).2).mergeSort leJ
attribute [local irreducible] SC St Fin Sq Ylds Doos Sets Enters Spec CellIs CellsAre Then Ret Rnd Chn resOK ints bools recs arr
theorem below_spec3 {W : World} {N : List Chunk} {b s m : Nat} {r : Nat × Nat} (hr : below m s = r) (hm : 0 < m) (hm2 : m < 18446744073709551616) : Spec Try.prog 85 #[.func (.func 123) #[] #[.pointer (some ⟨b, 0, none⟩)], .int .u64 (m : Int)] (K W ([(b, row 63 [.int .u64 (s : Int)])] :: N)) (fun _ : Unit => .int .u64 (r.2 : Nat)) (fun _ => K W ([(b, row 63 [.int .u64 (r.1 : Nat)])] :: N)) := by
  subst hr
  exact below_spec hm hm2
structure DrSt (s b : Nat) where
  u : Nat
  v : Value
  c : Chunk
  es : List Ent
  cl : Nat
  buf : Buf 3 1 v c u (ivals (zN (drS s b u).2))
  kn : Knows es (drS s b u).2
set_option maxRecDepth 10000 in
set_option maxHeartbeats 8000000 in
theorem draw_spec {W : World} {N : List Chunk} {s lot n : Nat} (h1 : lot ≤ 1099511627776) (h2 : n ≤ lot) (h3 : n ≤ 4096) :
    Spec Try.prog 46 #[.int .u64 (s : Int), .int .i64 (lot : Int), .int .i64 (n : Int)] (K W N) (X := { x : Value × Chunk // Buf 3 1 x.1 x.2 n (ivals (drawF s lot n)) }) (fun x => .tuple #[x.1.1, .int .i64 0]) (fun x => K W (x.1.2 :: N)) := by
  refine enter (args := [_, _, _]) Try.func46 rfl Try.ntmps46 rfl ?_
  have e1 : decide ((0 : Int) ≤ (lot : Int) ∧ (lot : Int) ≤ 1099511627776) = true := decide_eq_true (by omega)
  have e2 : decide ((0 : Int) ≤ (n : Int) ∧ (n : Int) ≤ min (lot : Int) 4096) = true := decide_eq_true (by omega)
  have hn4 : lot < 18446744073709551615 := by omega
  refine c_seq ?_
  refine c_region ?_
  refine s_y (y_assign rfl) rfl rfl rfl ?_
  refine s_y (y_assign rfl) rfl rfl rfl ?_
  refine s_nil ?_
  refine f_then ?_
  refine c_seq ?_
  refine c_seq ?_
  refine c_region ?_
  refine s_y (y_move rfl) rfl rfl rfl ?_
  refine s_call (en_f rfl Try.call49) inside_spec rfl rfl rfl (fun _ => ?_)
  rw [e1]
  refine s_y (y_notT rfl) rfl rfl rfl ?_
  refine s_y (y_move rfl) rfl rfl rfl ?_
  refine s_y (y_move rfl) rfl rfl rfl ?_
  refine s_y (y_move rfl) rfl rfl rfl ?_
  refine s_y (y_min rfl rfl) rfl rfl rfl ?_
  refine s_call (en_f rfl Try.call49) inside_spec rfl rfl rfl (fun _ => ?_)
  rw [e2]
  refine s_y (y_notT rfl) rfl rfl rfl ?_
  refine s_y (y_pickF rfl rfl) rfl rfl rfl ?_
  refine s_nil ?_
  refine f_then ?_
  refine c_condF rfl ?_
  refine c_skip ?_
  refine f_then ?_
  refine c_seq ?_
  refine c_region ?_
  refine s_y (y_move rfl) rfl rfl rfl ?_
  refine s_call (en_f rfl Try.call84) words_spec2 rfl rfl rfl (fun b => ?_)
  refine s_y (y_assign rfl) rfl rfl rfl ?_
  refine s_nil ?_
  refine f_then ?_
  refine c_seq ?_
  refine c_region ?_
  refine s_do do_makeMap rfl rfl rfl (fun bm => ?_)
  refine s_y (y_assign rfl) rfl rfl rfl ?_
  refine s_nil ?_
  refine f_then ?_
  refine c_seq ?_
  refine c_region ?_
  refine s_y (y_assign rfl) rfl rfl rfl ?_
  refine s_nil ?_
  refine f_then ?_
  refine c_seq ?_
  refine c_seq ?_
  refine c_region ?_
  refine s_y (y_move rfl) rfl rfl rfl ?_
  refine s_y (y_move rfl) rfl rfl rfl ?_
  refine s_y (y_sub rfl rfl (by omega)) rfl rfl rfl ?_
  refine s_y (y_assign rfl) rfl rfl rfl ?_
  refine s_nil ?_
  refine f_then ?_
  refine c_block ?_
  rw [show (lot : Int) - (n : Int) = ((lot - n + 0 : Nat) : Int) by omega]
  refine SC.cls (C' := K W ([(b, row 63 [.int .u64 (s : Int)])] :: [(bm, mobj [] 0)] :: [] :: N)) ?_ (fun w h => h.weak [] (by simpa using List.Perm.swap _ _ _))
  obtain ⟨q, hq⟩ : ∃ q, q = lot - n := ⟨_, rfl⟩
  have hql : q + n = lot := by omega
  rw [← hq]
  refine c_loopP (α := DrSt s q) (fun z => [(1, .int .i64 (lot : Int)), (8, .func (.func 123) #[] #[.pointer (some ⟨b, 0, none⟩)]), (9, .map (some bm)), (10, z.v), (11, .int .i64 ((q + z.u : Nat) : Int))]) (fun z => z.u ≤ n)
    (fun z => K W ([(b, row 63 [.int .u64 ((drS s q z.u).1 : Nat)])] :: [(bm, mobj z.es z.cl)] :: z.c :: N)) (fun z => n - z.u) ⟨0, .slice none 0 0, [], [], 0, .nil, .nil⟩ ⟨rfl, rfl, rfl, rfl, rfl, trivial⟩ (Nat.zero_le _) (fun w h => h) ?_
  rintro ⟨u, v, c, es, cl, hB, hK⟩ hu
  dsimp only at hu ⊢
  by_cases hul : u < n
  · have hlt : q + u < lot := by omega
    obtain ⟨r, hr⟩ : ∃ r, below (q + u + 1) (drS s q u).1 = r := ⟨_, rfl⟩
    have hS := drS_succ rfl hr
    have hbl : r.2 < q + u + 1 := by rw [← hr]; exact below_lt (by omega)
    have b1 : u + 1 ≤ maxLen := by unfold maxLen; omega
    have b2 : (u + 1) * 8 ≤ 140737488355328 := by omega
    have b3 : n - (u + 1) < n - u := by omega
    refine c_seq ?_
    refine c_seq ?_
    refine c_region ?_
    refine s_y (y_move rfl) rfl rfl rfl ?_
    refine s_y (y_move rfl) rfl rfl rfl ?_
    refine s_y (y_T (y_lss rfl rfl) (by omega)) rfl rfl rfl ?_
    refine s_nil ?_
    refine f_then ?_
    refine c_condT rfl ?_
    refine c_skip ?_
    refine f_then ?_
    refine c_seq ?_
    refine c_block ?_
    refine c_seq ?_
    refine c_region ?_
    refine s_y (y_move rfl) rfl rfl rfl ?_
    refine s_y (y_move rfl) rfl rfl rfl ?_
    refine s_y (y_add rfl rfl (by omega)) rfl rfl rfl ?_
    refine s_y (y_to64 Try.tab rfl rfl rfl (by omega)) rfl rfl rfl ?_
    rw [show ((q + u : Nat) : Int) + 1 = ((q + u + 1 : Nat) : Int) by omega]
    refine s_call (en_f rfl Try.call85) (below_spec3 (m := q + u + 1) hr (by omega) (by omega)) rfl rfl rfl (fun _ => ?_)
    obtain ⟨s1, y⟩ := r
    dsimp only at hbl hS ⊢
    have hS1 : (drS s q (u + 1)).1 = s1 := by rw [hS]
    clear hr
    refine s_y (y_toI Try.tab rfl rfl rfl (by omega)) rfl rfl rfl ?_
    refine s_y (y_assign rfl) rfl rfl rfl ?_
    refine s_nil ?_
    refine f_then ?_
    refine c_seq ?_
    refine c_seq ?_
    refine c_region ?_
    refine s_y (y_move rfl) rfl rfl rfl ?_
    refine s_y (y_move rfl) rfl rfl rfl ?_
    refine s_y (y_lookup Try.tab 1 rfl rfl rfl rfl Try.zeroValue4 rfl) rfl rfl rfl ?_
    rw [hK y]
    by_cases hm : y ∈ (drS s q u).2
    · rw [decide_eq_true hm]
      rw [if_pos hm] at hS
      refine s_nil ?_
      refine f_then ?_
      refine c_condT rfl ?_
      refine c_region ?_
      refine s_y (y_move rfl) rfl rfl rfl ?_
      refine s_y (y_assign rfl) rfl rfl rfl ?_
      refine s_nil ?_
      refine f_then ?_
      refine c_seq ?_
      refine c_region ?_
      refine s_y (y_move rfl) rfl rfl rfl ?_
      refine s_y (y_move rfl) rfl rfl rfl ?_
      refine s_set (set_map Try.tab 1 rfl rfl rfl rfl rfl rfl) rfl rfl ?_
      refine St.cls (C' := K W ([(b, row 63 [.int .u64 ((drS s q (u + 1)).1 : Nat)])] :: [(bm, mobj (mset ((q + u : Nat) : Int) (.bool true) cl es) (mclk ((q + u : Nat) : Int) cl es))] :: c :: N)) ?_ (fun w h => by rw [hS1]; exact h)
      have hK2 : Knows (mset ((q + u : Nat) : Int) (.bool true) cl es) (drS s q (u + 1)).2 := by
        rw [hS]
        exact hK.add
      clear hS1
      have hi2 : ivals (zN (drS s q (u + 1)).2) = ivals (zN (drS s q u).2) ++ [.int .i64 ((q + u : Nat) : Int)] := by
        rw [hS, zN_app, ivals_app]
        rfl
      clear hS
      refine s_nil ?_
      refine f_then ?_
      refine c_region ?_
      refine s_y (y_move rfl) rfl rfl rfl ?_
      refine s_y (y_move rfl) rfl rfl rfl ?_
      refine s_do (do_buildSlice1 Try.tab ⟨rfl, rfl, rfl, rfl⟩ rfl rfl rfl rfl) rfl rfl rfl (fun b48 => ?_)
      refine s_do (do_appendB (by_ := 8) Try.tab 3 rfl hB rfl ⟨rfl, rfl, rfl, rfl⟩ rfl (by simp) rfl (by omega) (cells_row0 0 rfl rfl) rfl (by simp [Value.oneCell']) (by exact b1) (by exact b2)) rfl rfl rfl (fun r => ?_)
      refine s_y (y_assign rfl) rfl rfl rfl ?_
      refine s_nil ?_
      refine f_blockN ?_
      refine f_then ?_
      refine c_region ?_
      refine s_y (y_move rfl) rfl rfl rfl ?_
      refine s_y (y_add rfl rfl (by omega)) rfl rfl rfl ?_
      refine s_y (y_assign rfl) rfl rfl rfl ?_
      refine s_nil ?_
      exact f_roundP ⟨u + 1, r.1.1, r.1.2, _, _, by rw [hi2]; exact r.2, hK2⟩ (Nat.succ_le_of_lt hul) b3 ⟨rfl, rfl, rfl, rfl, rfl, trivial⟩ (fun w h => h.tail)
    · rw [decide_eq_false hm]
      rw [if_neg hm] at hS
      refine s_nil ?_
      refine f_then ?_
      refine c_condF rfl ?_
      refine c_skip ?_
      refine f_then ?_
      refine c_seq ?_
      refine c_region ?_
      refine s_y (y_move rfl) rfl rfl rfl ?_
      refine s_y (y_move rfl) rfl rfl rfl ?_
      refine s_set (set_map Try.tab 1 rfl rfl rfl rfl rfl rfl) rfl rfl ?_
      refine St.cls (C' := K W ([(b, row 63 [.int .u64 ((drS s q (u + 1)).1 : Nat)])] :: [(bm, mobj (mset ((y : Nat) : Int) (.bool true) cl es) (mclk ((y : Nat) : Int) cl es))] :: c :: N)) ?_ (fun w h => by rw [hS1]; exact h)
      have hK2 : Knows (mset ((y : Nat) : Int) (.bool true) cl es) (drS s q (u + 1)).2 := by
        rw [hS]
        exact hK.add
      clear hS1
      have hi2 : ivals (zN (drS s q (u + 1)).2) = ivals (zN (drS s q u).2) ++ [.int .i64 ((y : Nat) : Int)] := by
        rw [hS, zN_app, ivals_app]
        rfl
      clear hS
      refine s_nil ?_
      refine f_then ?_
      refine c_region ?_
      refine s_y (y_move rfl) rfl rfl rfl ?_
      refine s_y (y_move rfl) rfl rfl rfl ?_
      refine s_do (do_buildSlice1 Try.tab ⟨rfl, rfl, rfl, rfl⟩ rfl rfl rfl rfl) rfl rfl rfl (fun b48 => ?_)
      refine s_do (do_appendB (by_ := 8) Try.tab 3 rfl hB rfl ⟨rfl, rfl, rfl, rfl⟩ rfl (by simp) rfl (by omega) (cells_row0 0 rfl rfl) rfl (by simp [Value.oneCell']) (by exact b1) (by exact b2)) rfl rfl rfl (fun r => ?_)
      refine s_y (y_assign rfl) rfl rfl rfl ?_
      refine s_nil ?_
      refine f_blockN ?_
      refine f_then ?_
      refine c_region ?_
      refine s_y (y_move rfl) rfl rfl rfl ?_
      refine s_y (y_add rfl rfl (by omega)) rfl rfl rfl ?_
      refine s_y (y_assign rfl) rfl rfl rfl ?_
      refine s_nil ?_
      exact f_roundP ⟨u + 1, r.1.1, r.1.2, _, _, by rw [hi2]; exact r.2, hK2⟩ (Nat.succ_le_of_lt hul) b3 ⟨rfl, rfl, rfl, rfl, rfl, trivial⟩ (fun w h => h.tail)
  · have hun : u = n := by omega
    subst hun
    refine c_seq ?_
    refine c_seq ?_
    refine c_region ?_
    refine s_y (y_move rfl) rfl rfl rfl ?_
    refine s_y (y_move rfl) rfl rfl rfl ?_
    refine s_y (y_F (y_lss rfl rfl) (by omega)) rfl rfl rfl ?_
    refine s_nil ?_
    refine f_then ?_
    refine c_condF rfl ?_
    refine c_exit ?_
    refine f_thenE ?_
    refine f_rndE ?_
    refine f_blockE ?_
    refine f_then ?_
    refine c_seq ?_
    refine c_region ?_
    refine s_y (y_move rfl) rfl rfl rfl ?_
    refine s_call (en_f rfl Try.call86) (sortB_spec W ([(b, row 63 [.int .u64 ((drS s q u).1 : Nat)])] :: [(bm, mobj es cl)] :: c :: N) 2 hB (by rw [zN_len, drS_len]) rfl (by rw [zN_len, drS_len]; omega)) rfl rfl rfl (fun r => ?_)
    refine s_nil ?_
    refine f_then ?_
    refine c_seq ?_
    refine c_region ?_
    refine s_y (y_move rfl) rfl rfl rfl ?_
    refine s_y (y_assign rfl) rfl rfl rfl ?_
    refine s_y (y_assign rfl) rfl rfl rfl ?_
    refine s_nil ?_
    refine f_then ?_
    refine c_ret ?_
    exact f_ret ⟨(v, r.1), by have h := r.2; rw [drawF, ← hq]; exact h⟩ (res2 rfl rfl rfl) (fun w h => h.tail.tail)
end Go.KL
end

section
/- A number set into a sorted list, plain. No program in sight. -/
namespace Go.KL
def insAt (l : List Int) (i : Nat) (x : Int) : List Int := l.take i ++ x :: l.drop i
theorem insAt_len {l : List Int} {i : Nat} {x : Int} (h : i ≤ l.length) : (insAt l i x).length = l.length + 1 := by
  simp [insAt]; omega
theorem insAt_get {l : List Int} {i k : Nat} {x : Int} (h : i ≤ l.length) : (insAt l i x).getD k 0 = if k < i then l.getD k 0 else if k = i then x else l.getD (k - 1) 0 := by
  simp only [insAt, List.getD_eq_getElem?_getD]
  by_cases h1 : k < i
  · rw [if_pos h1, List.getElem?_append_left (by rw [List.length_take]; omega), List.getElem?_take_of_lt h1]
  · rw [if_neg h1, List.getElem?_append_right (by rw [List.length_take]; omega), List.length_take, Nat.min_eq_left h]
    by_cases h2 : k = i
    · subst h2
      simp
    · rw [if_neg h2]
      obtain ⟨d, rfl⟩ : ∃ d, k = i + 1 + d := ⟨k - (i + 1), by omega⟩
      rw [show i + 1 + d - i = d + 1 by omega, List.getElem?_cons_succ, List.getElem?_drop, show i + 1 + d - 1 = i + d by omega]
theorem leJ_sorted (l : List Int) : (l.mergeSort leJ).Pairwise (· ≤ ·) := by
  have h := List.pairwise_mergeSort (le := leJ) (fun a b c => by simp only [leJ, decide_eq_true_iff]; exact Int.le_trans) (fun a b => by simp only [leJ, Bool.or_eq_true, decide_eq_true_iff]; exact Int.le_total a b) l
  exact h.imp fun {a b} h => by simpa [leJ] using h
theorem sort_eq {l m : List Int} (hp : m.Perm l) (hs : m.Pairwise (· ≤ ·)) : m = l.mergeSort leJ :=
  List.Perm.eq_of_pairwise (fun _ _ _ _ h1 h2 => Int.le_antisymm h1 h2) hs (leJ_sorted l) (hp.trans (List.mergeSort_perm l leJ).symm)
theorem pw_get {l : List Int} (hs : l.Pairwise (· ≤ ·)) {i j : Nat} (hij : i ≤ j) (hj : j < l.length) : l.getD i 0 ≤ l.getD j 0 := by
  rw [List.getD_eq_getElem?_getD, List.getD_eq_getElem?_getD, List.getElem?_eq_getElem hj, List.getElem?_eq_getElem (by omega)]
  rcases Nat.lt_or_ge i j with h | h
  · exact List.pairwise_iff_getElem.1 hs i j (by omega) hj h
  · obtain rfl : i = j := by omega
    exact Int.le_refl _
theorem sort_ins {l l' : List Int} {i : Nat} {x : Int} (h : l = l'.mergeSort leJ) (hi : i ≤ l.length) (hlo : ∀ j, j < i → l.getD j 0 < x) (hhi : i < l.length → x ≤ l.getD i 0) : insAt l i x = (l' ++ [x]).mergeSort leJ := by
  have hs : l.Pairwise (· ≤ ·) := h ▸ leJ_sorted l'
  refine sort_eq ?_ ?_
  · have h1 : (insAt l i x).Perm (x :: l) := by
      unfold insAt
      refine List.perm_middle.trans ?_
      rw [List.take_append_drop]
    refine h1.trans ?_
    have h2 : l.Perm l' := by rw [h]; exact List.mergeSort_perm _ _
    refine (List.Perm.cons x h2).trans ?_
    exact (List.perm_append_comm (l₁ := [x]) (l₂ := l'))
  · rw [List.pairwise_iff_getElem]
    intro a b ha hb hab
    have e : ∀ k (hk : k < (insAt l i x).length), (insAt l i x)[k] = (insAt l i x).getD k 0 := fun k hk => by
      rw [List.getD_eq_getElem?_getD, List.getElem?_eq_getElem hk]; rfl
    rw [e a ha, e b hb, insAt_get hi, insAt_get hi]
    rw [insAt_len hi] at ha hb
    split
    · rename_i h1
      split
      · exact pw_get hs (by omega) (by omega)
      · split
        · exact Int.le_of_lt (hlo a h1)
        · exact pw_get hs (by omega) (by omega)
    · split
      · rw [if_neg (by omega), if_neg (by omega)]
        exact Int.le_trans (hhi (by omega)) (pw_get hs (by omega) (by omega))
      · rw [if_neg (by omega), if_neg (by omega)]
        exact pw_get hs (by omega) (by omega)
theorem place_mem {l : List Int} {i : Nat} {x : Int} (hs : l.Pairwise (· ≤ ·)) (hlo : ∀ j, j < i → l.getD j 0 < x) (hhi : i < l.length → x ≤ l.getD i 0) : (i < l.length ∧ l.getD i 0 = x) ↔ x ∈ l := by
  constructor
  · rintro ⟨h1, h2⟩
    rw [List.getD_eq_getElem?_getD, List.getElem?_eq_getElem h1] at h2
    exact h2 ▸ List.getElem_mem h1
  · intro h
    obtain ⟨k, hk, e⟩ := List.mem_iff_getElem.1 h
    have e2 : l.getD k 0 = x := by rw [List.getD_eq_getElem?_getD, List.getElem?_eq_getElem hk]; exact e
    have hki : i ≤ k := by
      refine Nat.le_of_not_lt fun hl => ?_
      have := hlo k hl
      omega
    have h1 : i < l.length := by omega
    refine ⟨h1, ?_⟩
    have h2 := pw_get hs hki hk
    have h3 := hhi h1
    omega
theorem sort_len {l : List Int} : (l.mergeSort leJ).length = l.length := (List.mergeSort_perm _ _).length_eq
theorem sort_mem {l : List Int} {x : Int} : x ∈ l.mergeSort leJ ↔ x ∈ l := List.mem_mergeSort
/-- No number twice: strictly ascending. -/
theorem sort_strict {l : List Int} (hn : l.Nodup) {i j : Nat} (hij : i < j) (hj : j < l.length) : (l.mergeSort leJ).getD i 0 < (l.mergeSort leJ).getD j 0 := by
  have h1 := pw_get (leJ_sorted l) (Nat.le_of_lt hij) (by rw [sort_len]; exact hj)
  have h2 : (l.mergeSort leJ).Nodup := (List.mergeSort_perm l leJ).nodup_iff.2 hn
  have hj' : j < (l.mergeSort leJ).length := by rw [sort_len]; exact hj
  have h3 : (l.mergeSort leJ).getD i 0 ≠ (l.mergeSort leJ).getD j 0 := by
    rw [List.getD_eq_getElem?_getD, List.getD_eq_getElem?_getD, List.getElem?_eq_getElem hj', List.getElem?_eq_getElem (Nat.lt_trans hij hj')]
    exact List.pairwise_iff_getElem.1 h2 i j (Nat.lt_trans hij hj') hj' hij
  omega
theorem ivals_getD {l : List Int} : ivals l = (List.range l.length).map fun i => .int .i64 (l.getD i 0) := by
  apply List.ext_getElem?
  intro k
  simp only [ivals, List.getElem?_map]
  by_cases h : k < l.length
  · rw [List.getElem?_eq_getElem h, List.getElem?_range h, Option.map_some, Option.map_some, List.getD_eq_getElem?_getD, List.getElem?_eq_getElem h]
    rfl
  · rw [List.getElem?_eq_none (by omega), List.getElem?_eq_none (by simp; omega)]
    rfl
theorem Buf.sli {W : World} {Ls : List Chunk} {v : Value} {c : Chunk} {m : Nat} {l : List Int} (i : Nat) (h : Buf 3 1 v c m (ivals l)) (hi : Ls.getD i [] = c) (hm : m = l.length) : SlI (K W Ls) v m (fun k => l.getD k 0) := by
  rcases h.ok with ⟨h0, h1, rfl, rfl⟩ | ⟨o, rfl, rfl, ho, hp⟩
  · rw [h0]
    exact SlV.empty
  · refine SlV.grown i hi ho fun k hk j hj => ?_
    obtain rfl : j = 0 := by omega
    rw [Nat.mul_one, Nat.add_zero, ivals_getD, List.getElem?_map, List.getElem?_range (by omega)]
    rfl
end Go.KL
end

section
/- Walks: the reference's Drawn, place, Same. -/
namespace Go.KL
open Go.Proofs
attribute [local irreducible] SC St Fin Sq Ylds Doos Sets Enters Spec CellIs CellsAre Then Ret Rnd Chn resOK ints bools recs arr
set_option maxRecDepth 10000 in
theorem drawn_spec {C : World → Prop} {lot n : Int} : Spec Try.prog 47 #[.int .i64 lot, .int .i64 n] C (fun _ : Unit => .bool (decide (0 ≤ lot ∧ lot ≤ 1099511627776 ∧ 0 ≤ n ∧ n ≤ lot ∧ n ≤ 4096))) (fun _ => C) := by
  refine enter (args := [_, _]) Try.func47 rfl Try.ntmps47 rfl ?_
  by_cases h1 : lot ≥ 0
  · by_cases h2 : lot ≤ 1099511627776
    · by_cases h3 : n ≥ 0
      · by_cases h4 : n ≤ lot
        · by_cases h5 : n ≤ 4096
          · rw [decide_eq_true (by omega)]
            refine c_seq ?_
            refine c_region ?_
            refine s_y (y_assign rfl) rfl rfl rfl ?_
            refine s_nil ?_
            refine f_then ?_
            refine c_seq ?_
            refine c_region ?_
            refine s_y (y_move rfl) rfl rfl rfl ?_
            refine s_y (y_T (y_geq rfl rfl) (by assumption)) rfl rfl rfl ?_
            refine s_y (y_move rfl) rfl rfl rfl ?_
            refine s_y (y_move rfl) rfl rfl rfl ?_
            refine s_y (y_T (y_leq rfl rfl) (by assumption)) rfl rfl rfl ?_
            refine s_y (y_pickT rfl rfl) rfl rfl rfl ?_
            refine s_y (y_move rfl) rfl rfl rfl ?_
            refine s_y (y_move rfl) rfl rfl rfl ?_
            refine s_y (y_T (y_geq rfl rfl) (by assumption)) rfl rfl rfl ?_
            refine s_y (y_pickT rfl rfl) rfl rfl rfl ?_
            refine s_y (y_move rfl) rfl rfl rfl ?_
            refine s_y (y_move rfl) rfl rfl rfl ?_
            refine s_y (y_move rfl) rfl rfl rfl ?_
            refine s_y (y_T (y_leq rfl rfl) (by assumption)) rfl rfl rfl ?_
            refine s_y (y_pickT rfl rfl) rfl rfl rfl ?_
            refine s_y (y_move rfl) rfl rfl rfl ?_
            refine s_y (y_move rfl) rfl rfl rfl ?_
            refine s_y (y_T (y_leq rfl rfl) (by assumption)) rfl rfl rfl ?_
            refine s_y (y_pickT rfl rfl) rfl rfl rfl ?_
            refine s_y (y_assign rfl) rfl rfl rfl ?_
            refine s_nil ?_
            refine f_then ?_
            refine c_ret ?_
            exact f_ret () (res1 rfl rfl) (fun w h => h)
          · rw [decide_eq_false (by omega)]
            refine c_seq ?_
            refine c_region ?_
            refine s_y (y_assign rfl) rfl rfl rfl ?_
            refine s_nil ?_
            refine f_then ?_
            refine c_seq ?_
            refine c_region ?_
            refine s_y (y_move rfl) rfl rfl rfl ?_
            refine s_y (y_T (y_geq rfl rfl) (by assumption)) rfl rfl rfl ?_
            refine s_y (y_move rfl) rfl rfl rfl ?_
            refine s_y (y_move rfl) rfl rfl rfl ?_
            refine s_y (y_T (y_leq rfl rfl) (by assumption)) rfl rfl rfl ?_
            refine s_y (y_pickT rfl rfl) rfl rfl rfl ?_
            refine s_y (y_move rfl) rfl rfl rfl ?_
            refine s_y (y_move rfl) rfl rfl rfl ?_
            refine s_y (y_T (y_geq rfl rfl) (by assumption)) rfl rfl rfl ?_
            refine s_y (y_pickT rfl rfl) rfl rfl rfl ?_
            refine s_y (y_move rfl) rfl rfl rfl ?_
            refine s_y (y_move rfl) rfl rfl rfl ?_
            refine s_y (y_move rfl) rfl rfl rfl ?_
            refine s_y (y_T (y_leq rfl rfl) (by assumption)) rfl rfl rfl ?_
            refine s_y (y_pickT rfl rfl) rfl rfl rfl ?_
            refine s_y (y_move rfl) rfl rfl rfl ?_
            refine s_y (y_move rfl) rfl rfl rfl ?_
            refine s_y (y_F (y_leq rfl rfl) (by assumption)) rfl rfl rfl ?_
            refine s_y (y_pickT rfl rfl) rfl rfl rfl ?_
            refine s_y (y_assign rfl) rfl rfl rfl ?_
            refine s_nil ?_
            refine f_then ?_
            refine c_ret ?_
            exact f_ret () (res1 rfl rfl) (fun w h => h)
        · rw [decide_eq_false (by omega)]
          refine c_seq ?_
          refine c_region ?_
          refine s_y (y_assign rfl) rfl rfl rfl ?_
          refine s_nil ?_
          refine f_then ?_
          refine c_seq ?_
          refine c_region ?_
          refine s_y (y_move rfl) rfl rfl rfl ?_
          refine s_y (y_T (y_geq rfl rfl) (by assumption)) rfl rfl rfl ?_
          refine s_y (y_move rfl) rfl rfl rfl ?_
          refine s_y (y_move rfl) rfl rfl rfl ?_
          refine s_y (y_T (y_leq rfl rfl) (by assumption)) rfl rfl rfl ?_
          refine s_y (y_pickT rfl rfl) rfl rfl rfl ?_
          refine s_y (y_move rfl) rfl rfl rfl ?_
          refine s_y (y_move rfl) rfl rfl rfl ?_
          refine s_y (y_T (y_geq rfl rfl) (by assumption)) rfl rfl rfl ?_
          refine s_y (y_pickT rfl rfl) rfl rfl rfl ?_
          refine s_y (y_move rfl) rfl rfl rfl ?_
          refine s_y (y_move rfl) rfl rfl rfl ?_
          refine s_y (y_move rfl) rfl rfl rfl ?_
          refine s_y (y_F (y_leq rfl rfl) (by assumption)) rfl rfl rfl ?_
          refine s_y (y_pickT rfl rfl) rfl rfl rfl ?_
          refine s_y (y_move rfl) rfl rfl rfl ?_
          iterate 2 refine s_skip rfl rfl rfl ?_
          refine s_y (y_pickF rfl rfl) rfl rfl rfl ?_
          refine s_y (y_assign rfl) rfl rfl rfl ?_
          refine s_nil ?_
          refine f_then ?_
          refine c_ret ?_
          exact f_ret () (res1 rfl rfl) (fun w h => h)
      · rw [decide_eq_false (by omega)]
        refine c_seq ?_
        refine c_region ?_
        refine s_y (y_assign rfl) rfl rfl rfl ?_
        refine s_nil ?_
        refine f_then ?_
        refine c_seq ?_
        refine c_region ?_
        refine s_y (y_move rfl) rfl rfl rfl ?_
        refine s_y (y_T (y_geq rfl rfl) (by assumption)) rfl rfl rfl ?_
        refine s_y (y_move rfl) rfl rfl rfl ?_
        refine s_y (y_move rfl) rfl rfl rfl ?_
        refine s_y (y_T (y_leq rfl rfl) (by assumption)) rfl rfl rfl ?_
        refine s_y (y_pickT rfl rfl) rfl rfl rfl ?_
        refine s_y (y_move rfl) rfl rfl rfl ?_
        refine s_y (y_move rfl) rfl rfl rfl ?_
        refine s_y (y_F (y_geq rfl rfl) (by assumption)) rfl rfl rfl ?_
        refine s_y (y_pickT rfl rfl) rfl rfl rfl ?_
        refine s_y (y_move rfl) rfl rfl rfl ?_
        iterate 3 refine s_skip rfl rfl rfl ?_
        refine s_y (y_pickF rfl rfl) rfl rfl rfl ?_
        refine s_y (y_move rfl) rfl rfl rfl ?_
        iterate 2 refine s_skip rfl rfl rfl ?_
        refine s_y (y_pickF rfl rfl) rfl rfl rfl ?_
        refine s_y (y_assign rfl) rfl rfl rfl ?_
        refine s_nil ?_
        refine f_then ?_
        refine c_ret ?_
        exact f_ret () (res1 rfl rfl) (fun w h => h)
    · rw [decide_eq_false (by omega)]
      refine c_seq ?_
      refine c_region ?_
      refine s_y (y_assign rfl) rfl rfl rfl ?_
      refine s_nil ?_
      refine f_then ?_
      refine c_seq ?_
      refine c_region ?_
      refine s_y (y_move rfl) rfl rfl rfl ?_
      refine s_y (y_T (y_geq rfl rfl) (by assumption)) rfl rfl rfl ?_
      refine s_y (y_move rfl) rfl rfl rfl ?_
      refine s_y (y_move rfl) rfl rfl rfl ?_
      refine s_y (y_F (y_leq rfl rfl) (by assumption)) rfl rfl rfl ?_
      refine s_y (y_pickT rfl rfl) rfl rfl rfl ?_
      refine s_y (y_move rfl) rfl rfl rfl ?_
      iterate 2 refine s_skip rfl rfl rfl ?_
      refine s_y (y_pickF rfl rfl) rfl rfl rfl ?_
      refine s_y (y_move rfl) rfl rfl rfl ?_
      iterate 3 refine s_skip rfl rfl rfl ?_
      refine s_y (y_pickF rfl rfl) rfl rfl rfl ?_
      refine s_y (y_move rfl) rfl rfl rfl ?_
      iterate 2 refine s_skip rfl rfl rfl ?_
      refine s_y (y_pickF rfl rfl) rfl rfl rfl ?_
      refine s_y (y_assign rfl) rfl rfl rfl ?_
      refine s_nil ?_
      refine f_then ?_
      refine c_ret ?_
      exact f_ret () (res1 rfl rfl) (fun w h => h)
  · rw [decide_eq_false (by omega)]
    refine c_seq ?_
    refine c_region ?_
    refine s_y (y_assign rfl) rfl rfl rfl ?_
    refine s_nil ?_
    refine f_then ?_
    refine c_seq ?_
    refine c_region ?_
    refine s_y (y_move rfl) rfl rfl rfl ?_
    refine s_y (y_F (y_geq rfl rfl) (by assumption)) rfl rfl rfl ?_
    refine s_y (y_move rfl) rfl rfl rfl ?_
    iterate 2 refine s_skip rfl rfl rfl ?_
    refine s_y (y_pickF rfl rfl) rfl rfl rfl ?_
    refine s_y (y_move rfl) rfl rfl rfl ?_
    iterate 2 refine s_skip rfl rfl rfl ?_
    refine s_y (y_pickF rfl rfl) rfl rfl rfl ?_
    refine s_y (y_move rfl) rfl rfl rfl ?_
    iterate 3 refine s_skip rfl rfl rfl ?_
    refine s_y (y_pickF rfl rfl) rfl rfl rfl ?_
    refine s_y (y_move rfl) rfl rfl rfl ?_
    iterate 2 refine s_skip rfl rfl rfl ?_
    refine s_y (y_pickF rfl rfl) rfl rfl rfl ?_
    refine s_y (y_assign rfl) rfl rfl rfl ?_
    refine s_nil ?_
    refine f_then ?_
    refine c_ret ?_
    exact f_ret () (res1 rfl rfl) (fun w h => h)
def Plc (f : Nat → Int) (m : Nat) (x : Int) := { i : Nat // i ≤ m ∧ (∀ j, j < i → f j < x) ∧ (i < m → x ≤ f i) }
set_option maxRecDepth 10000 in
theorem place_spec {W : World} {N : List Chunk} {v : Value} {m : Nat} {f : Nat → Int} {x : Int} (hv : SlI (K W N) v m f) (hm : m < 9223372036854775807) : Spec Try.prog 88 #[v, .int .i64 x] (K W N) (X := Plc f m x) (fun i => .tuple #[.int .i64 (i.1 : Nat), .bool (decide (i.1 < m ∧ f i.1 = x))]) (fun _ => K W N) := by
  obtain ⟨pa, c, rfl, hc, hcell⟩ := SlV.open1 hv
  refine enter (args := [_, _]) Try.func88 rfl Try.ntmps88 rfl ?_
  refine c_seq ?_
  refine c_region ?_
  refine s_y (y_assign rfl) rfl rfl rfl ?_
  refine s_y (y_assign rfl) rfl rfl rfl ?_
  refine s_nil ?_
  refine f_then ?_
  refine c_seq ?_
  refine c_region ?_
  refine s_y (y_assign rfl) rfl rfl rfl ?_
  refine s_nil ?_
  refine f_then ?_
  refine c_seq ?_
  refine c_block ?_
  refine c_loopP (α := Nat) (fun z => [(0, .slice pa m c), (1, .int .i64 x), (6, .int .i64 (z : Nat))]) (fun z => z ≤ m ∧ ∀ j, j < z → f j < x)
    (fun _ => K W N) (fun z => m - z) 0 ⟨rfl, rfl, rfl, trivial⟩ ⟨Nat.zero_le _, fun j h => by omega⟩ (fun w h => h) ?_
  rintro i ⟨hi, hlo⟩
  by_cases h1 : i < m
  · obtain ⟨b, o, rfl, hcl⟩ := hcell (by omega)
    have hci := hcl i h1
    obtain ⟨z, hz⟩ : ∃ z, z = f i := ⟨_, rfl⟩
    rw [← hz] at hci
    by_cases h2 : z < x
    · refine c_seq ?_
      refine c_seq ?_
      refine c_region ?_
      refine s_y (y_move rfl) rfl rfl rfl ?_
      refine s_y (y_move rfl) rfl rfl rfl ?_
      refine s_y (y_len Try.tab rfl rfl) rfl rfl rfl ?_
      refine s_y (y_T (y_lss rfl rfl) (by omega)) rfl rfl rfl ?_
      refine s_y (y_move rfl) rfl rfl rfl ?_
      refine s_y (y_move rfl) rfl rfl rfl ?_
      refine s_y (y_move rfl) rfl rfl rfl ?_
      refine s_y (y_indexAddr1o Try.tab rfl rfl rfl rfl _ rfl (by omega)) rfl rfl rfl ?_
      refine s_y (y_load Try.tab rfl rfl hci) rfl rfl rfl ?_
      refine s_y (y_move rfl) rfl rfl rfl ?_
      refine s_y (y_T (y_lss rfl rfl) (by assumption)) rfl rfl rfl ?_
      refine s_y (y_pickT rfl rfl) rfl rfl rfl ?_
      refine s_nil ?_
      refine f_then ?_
      refine c_condT rfl ?_
      refine c_skip ?_
      refine f_then ?_
      refine c_block ?_
      refine c_region ?_
      refine s_y (y_move rfl) rfl rfl rfl ?_
      refine s_y (y_add rfl rfl (by omega)) rfl rfl rfl ?_
      refine s_y (y_assign rfl) rfl rfl rfl ?_
      refine s_nil ?_
      refine f_blockN ?_
      refine f_roundP (i + 1) ⟨h1, fun j hj => ?_⟩ (by omega) ⟨rfl, rfl, rfl, trivial⟩ (fun w h => h)
      rcases Nat.lt_or_ge j i with h | h
      · exact hlo j h
      · obtain rfl : j = i := by omega
        rw [← hz]; exact h2
    · have hP : i ≤ m ∧ (∀ j, j < i → f j < x) ∧ (i < m → x ≤ f i) := ⟨hi, hlo, fun _ => by omega⟩
      by_cases h3 : z = x
      · have e : decide (i < m ∧ f i = x) = true := decide_eq_true ⟨h1, by omega⟩
        subst h3
        refine c_seq ?_
        refine c_seq ?_
        refine c_region ?_
        refine s_y (y_move rfl) rfl rfl rfl ?_
        refine s_y (y_move rfl) rfl rfl rfl ?_
        refine s_y (y_len Try.tab rfl rfl) rfl rfl rfl ?_
        refine s_y (y_T (y_lss rfl rfl) (by omega)) rfl rfl rfl ?_
        refine s_y (y_move rfl) rfl rfl rfl ?_
        refine s_y (y_move rfl) rfl rfl rfl ?_
        refine s_y (y_move rfl) rfl rfl rfl ?_
        refine s_y (y_indexAddr1o Try.tab rfl rfl rfl rfl _ rfl (by omega)) rfl rfl rfl ?_
        refine s_y (y_load Try.tab rfl rfl hci) rfl rfl rfl ?_
        refine s_y (y_move rfl) rfl rfl rfl ?_
        refine s_y (y_F (y_lss rfl rfl) (by assumption)) rfl rfl rfl ?_
        refine s_y (y_pickT rfl rfl) rfl rfl rfl ?_
        refine s_nil ?_
        refine f_then ?_
        refine c_condF rfl ?_
        refine c_exit ?_
        refine f_thenE ?_
        refine f_rndE ?_
        refine f_blockE ?_
        refine f_then ?_
        refine c_seq ?_
        refine c_quiet Try.mixed (by kernel_rfl) K.drew ?_
        refine q_y (y_move rfl) rfl rfl rfl ?_
        refine q_y (y_move rfl) rfl rfl rfl ?_
        refine q_y (y_move rfl) rfl rfl rfl ?_
        refine q_y (y_len Try.tab rfl rfl) rfl rfl rfl ?_
        refine q_y (y_T (y_lss rfl rfl) (by omega)) rfl rfl rfl ?_
        refine q_y (y_move rfl) rfl rfl rfl ?_
        refine q_y (y_move rfl) rfl rfl rfl ?_
        refine q_y (y_move rfl) rfl rfl rfl ?_
        refine q_y (y_indexAddr1o Try.tab rfl rfl rfl rfl _ rfl (by omega)) rfl rfl rfl ?_
        refine q_y (y_load Try.tab rfl rfl hci) rfl rfl rfl ?_
        refine q_y (y_move rfl) rfl rfl rfl ?_
        refine q_y (y_T (y_eql rfl rfl) (by omega)) rfl rfl rfl ?_
        refine q_y (y_pickT rfl rfl) rfl rfl rfl ?_
        refine q_y (y_assign rfl) rfl rfl rfl ?_
        refine q_y (y_assign rfl) rfl rfl rfl ?_
        refine q_nil ?_
        refine f_then ?_
        refine c_ret ?_
        exact f_ret ⟨i, hP⟩ (by rw [e]; exact res2 rfl rfl rfl) (fun w h => h)
      · have e : decide (i < m ∧ f i = x) = false := decide_eq_false (by omega)
        refine c_seq ?_
        refine c_seq ?_
        refine c_region ?_
        refine s_y (y_move rfl) rfl rfl rfl ?_
        refine s_y (y_move rfl) rfl rfl rfl ?_
        refine s_y (y_len Try.tab rfl rfl) rfl rfl rfl ?_
        refine s_y (y_T (y_lss rfl rfl) (by omega)) rfl rfl rfl ?_
        refine s_y (y_move rfl) rfl rfl rfl ?_
        refine s_y (y_move rfl) rfl rfl rfl ?_
        refine s_y (y_move rfl) rfl rfl rfl ?_
        refine s_y (y_indexAddr1o Try.tab rfl rfl rfl rfl _ rfl (by omega)) rfl rfl rfl ?_
        refine s_y (y_load Try.tab rfl rfl hci) rfl rfl rfl ?_
        refine s_y (y_move rfl) rfl rfl rfl ?_
        refine s_y (y_F (y_lss rfl rfl) (by assumption)) rfl rfl rfl ?_
        refine s_y (y_pickT rfl rfl) rfl rfl rfl ?_
        refine s_nil ?_
        refine f_then ?_
        refine c_condF rfl ?_
        refine c_exit ?_
        refine f_thenE ?_
        refine f_rndE ?_
        refine f_blockE ?_
        refine f_then ?_
        refine c_seq ?_
        refine c_quiet Try.mixed (by kernel_rfl) K.drew ?_
        refine q_y (y_move rfl) rfl rfl rfl ?_
        refine q_y (y_move rfl) rfl rfl rfl ?_
        refine q_y (y_move rfl) rfl rfl rfl ?_
        refine q_y (y_len Try.tab rfl rfl) rfl rfl rfl ?_
        refine q_y (y_T (y_lss rfl rfl) (by omega)) rfl rfl rfl ?_
        refine q_y (y_move rfl) rfl rfl rfl ?_
        refine q_y (y_move rfl) rfl rfl rfl ?_
        refine q_y (y_move rfl) rfl rfl rfl ?_
        refine q_y (y_indexAddr1o Try.tab rfl rfl rfl rfl _ rfl (by omega)) rfl rfl rfl ?_
        refine q_y (y_load Try.tab rfl rfl hci) rfl rfl rfl ?_
        refine q_y (y_move rfl) rfl rfl rfl ?_
        refine q_y (y_F (y_eql rfl rfl) (by assumption)) rfl rfl rfl ?_
        refine q_y (y_pickT rfl rfl) rfl rfl rfl ?_
        refine q_y (y_assign rfl) rfl rfl rfl ?_
        refine q_y (y_assign rfl) rfl rfl rfl ?_
        refine q_nil ?_
        refine f_then ?_
        refine c_ret ?_
        exact f_ret ⟨i, hP⟩ (by rw [e]; exact res2 rfl rfl rfl) (fun w h => h)
  · have hP : i ≤ m ∧ (∀ j, j < i → f j < x) ∧ (i < m → x ≤ f i) := ⟨hi, hlo, fun h => absurd h h1⟩
    have e : decide (i < m ∧ f i = x) = false := decide_eq_false (by omega)
    refine c_seq ?_
    refine c_seq ?_
    refine c_region ?_
    refine s_y (y_move rfl) rfl rfl rfl ?_
    refine s_y (y_move rfl) rfl rfl rfl ?_
    refine s_y (y_len Try.tab rfl rfl) rfl rfl rfl ?_
    refine s_y (y_F (y_lss rfl rfl) (by omega)) rfl rfl rfl ?_
    refine s_y (y_move rfl) rfl rfl rfl ?_
    iterate 6 refine s_skip rfl rfl rfl ?_
    refine s_y (y_pickF rfl rfl) rfl rfl rfl ?_
    refine s_nil ?_
    refine f_then ?_
    refine c_condF rfl ?_
    refine c_exit ?_
    refine f_thenE ?_
    refine f_rndE ?_
    refine f_blockE ?_
    refine f_then ?_
    refine c_seq ?_
    refine c_quiet Try.mixed (by kernel_rfl) K.drew ?_
    refine q_y (y_move rfl) rfl rfl rfl ?_
    refine q_y (y_move rfl) rfl rfl rfl ?_
    refine q_y (y_move rfl) rfl rfl rfl ?_
    refine q_y (y_len Try.tab rfl rfl) rfl rfl rfl ?_
    refine q_y (y_F (y_lss rfl rfl) (by omega)) rfl rfl rfl ?_
    refine q_y (y_move rfl) rfl rfl rfl ?_
    iterate 6 refine q_skip rfl rfl rfl ?_
    refine q_y (y_pickF rfl rfl) rfl rfl rfl ?_
    refine q_y (y_assign rfl) rfl rfl rfl ?_
    refine q_y (y_assign rfl) rfl rfl rfl ?_
    refine q_nil ?_
    refine f_then ?_
    refine c_ret ?_
    exact f_ret ⟨i, hP⟩ (by rw [e]; exact res2 rfl rfl rfl) (fun w h => h)
set_option maxRecDepth 10000 in
theorem same_spec {W : World} {N : List Chunk} {v u : Value} {m k : Nat} {f g : Nat → Int} {t : Bool} (hv : SlI (K W N) v m f) (hu : SlI (K W N) u k g) (hm : m < 9223372036854775807) (ht : t = true ↔ (m = k ∧ ∀ i, i < m → f i = g i)) : Spec Try.prog 44 #[v, u] (K W N) (fun _ : Unit => .bool t) (fun _ => K W N) := by
  obtain ⟨pa, c, rfl, hc, hcell⟩ := SlV.open1 hv
  obtain ⟨pb, c2, rfl, hc2, hcell2⟩ := SlV.open1 hu
  refine enter (args := [_, _]) Try.func44 rfl Try.ntmps44 rfl ?_
  by_cases hk : m = k
  · subst hk
    refine c_seq ?_
    refine c_region ?_
    refine s_y (y_assign rfl) rfl rfl rfl ?_
    refine s_nil ?_
    refine f_then ?_
    refine c_seq ?_
    refine c_seq ?_
    refine c_region ?_
    refine s_y (y_move rfl) rfl rfl rfl ?_
    refine s_y (y_len Try.tab rfl rfl) rfl rfl rfl ?_
    refine s_y (y_move rfl) rfl rfl rfl ?_
    refine s_y (y_len Try.tab rfl rfl) rfl rfl rfl ?_
    refine s_y (y_F (y_neq rfl rfl) (by omega)) rfl rfl rfl ?_
    refine s_nil ?_
    refine f_then ?_
    refine c_condF rfl ?_
    refine c_skip ?_
    refine f_then ?_
    refine c_seq ?_
    refine c_seq ?_
    refine c_region ?_
    refine s_y (y_assign rfl) rfl rfl rfl ?_
    refine s_nil ?_
    refine f_then ?_
    refine c_block ?_
    refine c_loopP (α := Nat) (fun z => [(0, .slice pa m c), (1, .slice pb m c2), (5, .int .i64 (z : Nat))]) (fun z => z ≤ m ∧ ∀ j, j < z → f j = g j)
      (fun _ => K W N) (fun z => m - z) 0 ⟨rfl, rfl, rfl, trivial⟩ ⟨Nat.zero_le _, fun j h => by omega⟩ (fun w h => h) ?_
    rintro i ⟨hi, hlo⟩
    by_cases h1 : i < m
    · obtain ⟨b, o, rfl, hcl⟩ := hcell (by omega)
      obtain ⟨b2, o2, rfl, hcl2⟩ := hcell2 (by omega)
      have hci := hcl i h1
      have hci2 := hcl2 i h1
      obtain ⟨z, hz⟩ : ∃ z, z = f i := ⟨_, rfl⟩
      obtain ⟨y, hy⟩ : ∃ y, y = g i := ⟨_, rfl⟩
      rw [← hz] at hci
      rw [← hy] at hci2
      by_cases h2 : z = y
      · subst h2
        refine c_seq ?_
        refine c_seq ?_
        refine c_region ?_
        refine s_y (y_move rfl) rfl rfl rfl ?_
        refine s_y (y_move rfl) rfl rfl rfl ?_
        refine s_y (y_len Try.tab rfl rfl) rfl rfl rfl ?_
        refine s_y (y_T (y_lss rfl rfl) (by omega)) rfl rfl rfl ?_
        refine s_nil ?_
        refine f_then ?_
        refine c_condT rfl ?_
        refine c_skip ?_
        refine f_then ?_
        refine c_seq ?_
        refine c_block ?_
        refine c_seq ?_
        refine c_quiet Try.mixed (by kernel_rfl) K.drew ?_
        refine q_y (y_move rfl) rfl rfl rfl ?_
        refine q_y (y_move rfl) rfl rfl rfl ?_
        refine q_y (y_indexAddr1o Try.tab rfl rfl rfl rfl _ rfl (by omega)) rfl rfl rfl ?_
        refine q_y (y_load Try.tab rfl rfl hci) rfl rfl rfl ?_
        refine q_y (y_move rfl) rfl rfl rfl ?_
        refine q_y (y_move rfl) rfl rfl rfl ?_
        refine q_y (y_indexAddr1o Try.tab rfl rfl rfl rfl _ rfl (by omega)) rfl rfl rfl ?_
        refine q_y (y_load Try.tab rfl rfl hci2) rfl rfl rfl ?_
        refine q_y (y_F (y_neq rfl rfl) (by omega)) rfl rfl rfl ?_
        refine q_nil ?_
        refine f_then ?_
        refine c_condF rfl ?_
        refine c_skip ?_
        refine f_blockN ?_
        refine f_then ?_
        refine c_region ?_
        refine s_y (y_move rfl) rfl rfl rfl ?_
        refine s_y (y_add rfl rfl (by omega)) rfl rfl rfl ?_
        refine s_y (y_assign rfl) rfl rfl rfl ?_
        refine s_nil ?_
        refine f_roundP (i + 1) ⟨h1, fun j hj => ?_⟩ (by omega) ⟨rfl, rfl, rfl, trivial⟩ (fun w h => h)
        rcases Nat.lt_or_ge j i with h | h
        · exact hlo j h
        · obtain rfl : j = i := by omega
          omega
      · have e : t = false := Bool.eq_false_iff.2 fun h => h2 (by rw [hz, hy]; exact (ht.1 h).2 i h1)
        refine c_seq ?_
        refine c_seq ?_
        refine c_region ?_
        refine s_y (y_move rfl) rfl rfl rfl ?_
        refine s_y (y_move rfl) rfl rfl rfl ?_
        refine s_y (y_len Try.tab rfl rfl) rfl rfl rfl ?_
        refine s_y (y_T (y_lss rfl rfl) (by omega)) rfl rfl rfl ?_
        refine s_nil ?_
        refine f_then ?_
        refine c_condT rfl ?_
        refine c_skip ?_
        refine f_then ?_
        refine c_seq ?_
        refine c_block ?_
        refine c_seq ?_
        refine c_quiet Try.mixed (by kernel_rfl) K.drew ?_
        refine q_y (y_move rfl) rfl rfl rfl ?_
        refine q_y (y_move rfl) rfl rfl rfl ?_
        refine q_y (y_indexAddr1o Try.tab rfl rfl rfl rfl _ rfl (by omega)) rfl rfl rfl ?_
        refine q_y (y_load Try.tab rfl rfl hci) rfl rfl rfl ?_
        refine q_y (y_move rfl) rfl rfl rfl ?_
        refine q_y (y_move rfl) rfl rfl rfl ?_
        refine q_y (y_indexAddr1o Try.tab rfl rfl rfl rfl _ rfl (by omega)) rfl rfl rfl ?_
        refine q_y (y_load Try.tab rfl rfl hci2) rfl rfl rfl ?_
        refine q_y (y_T (y_neq rfl rfl) (by assumption)) rfl rfl rfl ?_
        refine q_nil ?_
        refine f_then ?_
        refine c_condT rfl ?_
        refine c_seq ?_
        refine c_region ?_
        refine s_y (y_assign rfl) rfl rfl rfl ?_
        refine s_nil ?_
        refine f_then ?_
        refine c_ret ?_
        refine f_blockR ?_
        refine f_thenR ?_
        refine f_rndR ?_
        refine f_blockR ?_
        refine f_thenR ?_
        exact f_ret () (by rw [e]; exact res1 rfl rfl) (fun w h => h)
    · have e : t = true := ht.2 ⟨rfl, fun j hj => hlo j (by omega)⟩
      refine c_seq ?_
      refine c_seq ?_
      refine c_region ?_
      refine s_y (y_move rfl) rfl rfl rfl ?_
      refine s_y (y_move rfl) rfl rfl rfl ?_
      refine s_y (y_len Try.tab rfl rfl) rfl rfl rfl ?_
      refine s_y (y_F (y_lss rfl rfl) (by omega)) rfl rfl rfl ?_
      refine s_nil ?_
      refine f_then ?_
      refine c_condF rfl ?_
      refine c_exit ?_
      refine f_thenE ?_
      refine f_rndE ?_
      refine f_blockE ?_
      refine f_then ?_
      refine c_seq ?_
      refine c_region ?_
      refine s_y (y_assign rfl) rfl rfl rfl ?_
      refine s_nil ?_
      refine f_then ?_
      refine c_ret ?_
      exact f_ret () (by rw [e]; exact res1 rfl rfl) (fun w h => h)
  · have e : t = false := Bool.eq_false_iff.2 fun h => hk (ht.1 h).1
    refine c_seq ?_
    refine c_region ?_
    refine s_y (y_assign rfl) rfl rfl rfl ?_
    refine s_nil ?_
    refine f_then ?_
    refine c_seq ?_
    refine c_seq ?_
    refine c_region ?_
    refine s_y (y_move rfl) rfl rfl rfl ?_
    refine s_y (y_len Try.tab rfl rfl) rfl rfl rfl ?_
    refine s_y (y_move rfl) rfl rfl rfl ?_
    refine s_y (y_len Try.tab rfl rfl) rfl rfl rfl ?_
    refine s_y (y_T (y_neq rfl rfl) (by omega)) rfl rfl rfl ?_
    refine s_nil ?_
    refine f_then ?_
    refine c_condT rfl ?_
    refine c_seq ?_
    refine c_region ?_
    refine s_y (y_assign rfl) rfl rfl rfl ?_
    refine s_nil ?_
    refine f_then ?_
    refine c_ret ?_
    refine f_thenR ?_
    exact f_ret () (by rw [e]; exact res1 rfl rfl) (fun w h => h)
end Go.KL
end

section
/- Walks: the reference's Draw. -/
namespace Go.KL
open Go.Proofs
attribute [local irreducible] SC St Fin Sq Ylds Doos Sets Enters Spec CellIs CellsAre Then Ret Rnd Chn resOK ints bools recs arr
theorem rbelow_spec3 {W : World} {N : List Chunk} {s m a b : Nat} (hr : ∀ _ : Unit, below m s = (a, b)) (hm : 0 < m) (hm2 : m < 9223372036854775808) : Spec Try.prog 87 #[.agg #[.int .u64 (s : Int)], .int .i64 (m : Int)] (K W N) (fun _ : Unit => .tuple #[.agg #[.int .u64 (a : Int)], .int .i64 (b : Int)]) (fun _ => K W N) := by
  have h := rbelow_spec (W := W) (N := N) (s := s) hm hm2
  rw [hr ()] at h
  exact h
theorem mergeSort_u {s b u : Nat} : ((zN (drS s b u).2).mergeSort leJ).length = u := by rw [sort_len, zN_len, drS_len]
structure RdSt (s b : Nat) where
  u : Nat
  v : Value
  c : Chunk
  buf : Buf 3 1 v c u (ivals ((zN (drS s b u).2).mergeSort leJ))
/-- A sorted list of u numbers, the last k of them moved on by one. -/
def shf (l : List Int) (j k : Nat) : Int := if k ≤ j then l.getD k 0 else l.getD (k - 1) 0
theorem shf_upd {l : List Int} {j : Nat} (hj : 0 < j) : upd (shf l j) j (l.getD (j - 1) 0) = shf l (j - 1) := by
  funext k
  unfold upd shf
  by_cases h : k = j
  · subst h
    rw [if_pos rfl, if_neg (by omega)]
  · rw [if_neg h]
    by_cases h2 : k ≤ j
    · rw [if_pos h2, if_pos (by omega)]
    · rw [if_neg h2, if_neg (by omega)]
theorem shf_ins {l : List Int} {j : Nat} {x : Int} (hj : j ≤ l.length) : ((List.range (l.length + 1)).map fun k => Value.int .i64 (upd (shf l j) j x k)) = ivals (insAt l j x) := by
  rw [ivals_getD, insAt_len hj]
  refine List.map_congr_left fun k _ => ?_
  rw [insAt_get hj]
  unfold upd shf
  by_cases h : k = j
  · subst h
    rw [if_pos rfl, if_neg (by omega), if_pos rfl]
  · rw [if_neg h, if_neg h]
    by_cases h2 : k ≤ j
    · rw [if_pos h2, if_pos (by omega)]
    · rw [if_neg h2, if_neg (by omega)]
theorem shf_app {l : List Int} : ivals l ++ [.int .i64 0] = (List.range (l.length + 1)).map fun k => .int .i64 (shf l l.length k) := by
  rw [List.range_succ, List.map_append, ivals_getD]
  congr 1
  · refine List.map_congr_left fun k hk => ?_
    rw [List.mem_range] at hk
    unfold shf
    rw [if_pos (by omega)]
  · simp [shf]
set_option maxRecDepth 10000 in
set_option maxHeartbeats 8000000 in
theorem rdraw_spec {W : World} {N : List Chunk} {s lot n : Nat} (h1 : lot ≤ 1099511627776) (h2 : n ≤ lot) (h3 : n ≤ 4096) :
    Spec Try.prog 48 #[.int .u64 (s : Int), .int .i64 (lot : Int), .int .i64 (n : Int)] (K W N) (X := { x : Value × Chunk // Buf 3 1 x.1 x.2 n (ivals (drawF s lot n)) }) (fun x => x.1.1) (fun x => K W (x.1.2 :: N)) := by
  refine enter (args := [_, _, _]) Try.func48 rfl Try.ntmps48 rfl ?_
  have e2 : ∀ z : Nat, (Value.agg #[.int .u64 (z : Int)]).cells.toList = [.int .u64 (z : Int)] := fun z => by simp [Value.cells]
  have hn4 : lot < 9223372036854775807 := by omega
  refine c_seq ?_
  refine c_region ?_
  refine s_y (y_assign rfl) rfl rfl rfl ?_
  refine s_nil ?_
  refine f_then ?_
  refine c_seq ?_
  refine c_region ?_
  refine s_y (y_move rfl) rfl rfl rfl ?_
  refine s_y (y_build Try.tab rfl rfl rfl rfl rfl) rfl rfl rfl ?_
  refine s_do (do_alloc Try.tab rfl) rfl rfl rfl (fun b7 => ?_)
  refine s_set (set_box Try.tab 0 rfl rfl rfl rfl rfl rfl rfl) rfl rfl ?_
  refine s_nil ?_
  refine f_then ?_
  refine c_seq ?_
  refine c_region ?_
  refine s_y (y_assign rfl) rfl rfl rfl ?_
  refine s_nil ?_
  refine f_then ?_
  refine c_seq ?_
  refine c_seq ?_
  refine c_region ?_
  refine s_y (y_move rfl) rfl rfl rfl ?_
  refine s_y (y_move rfl) rfl rfl rfl ?_
  refine s_y (y_sub rfl rfl (by omega)) rfl rfl rfl ?_
  refine s_y (y_assign rfl) rfl rfl rfl ?_
  refine s_nil ?_
  refine f_then ?_
  refine c_block ?_
  rw [show (lot : Int) - (n : Int) = ((lot - n + 0 : Nat) : Int) by omega]
  have e4 : (Value.agg #[.int .u64 0]).cells.toList = [.int .u64 0] := by simp [Value.cells]
  refine SC.cls (C' := K W ([(b7, row 110 [.int .u64 (s : Int)])] :: [] :: N)) ?_ (fun w h => by
    rw [e4] at h
    have h2 : K W ([(b7, row 110 [.int .u64 (s : Int)])] :: N) w := h
    exact h2.weak [] (by simp))
  have eb : Buf 3 1 (.slice none 0 0) [] 0 (ivals ((zN (drS s (lot - n) 0).2).mergeSort leJ)) := by
    have h : ivals ((zN (drS s (lot - n) 0).2).mergeSort leJ) = [] := by simp [drS, zN, ivals]
    rw [h]
    exact .nil
  obtain ⟨q, hq⟩ : ∃ q, q = lot - n := ⟨_, rfl⟩
  have hql : q + n = lot := by omega
  rw [← hq] at eb ⊢
  refine c_loopP (α := RdSt s q) (fun z => [(1, .int .i64 (lot : Int)), (7, .pointer (some ⟨b7, 0, none⟩)), (8, z.v), (9, .int .i64 ((q + z.u : Nat) : Int))]) (fun z => z.u ≤ n)
    (fun z => K W ([(b7, row 110 [.int .u64 ((drS s q z.u).1 : Nat)])] :: z.c :: N)) (fun z => n - z.u) ⟨0, .slice none 0 0, [], eb⟩ ⟨rfl, rfl, rfl, rfl, trivial⟩ (Nat.zero_le _) (fun w h => h) ?_
  rintro ⟨u, v, c, hB⟩ hu
  dsimp only at hu ⊢
  by_cases hul : u < n
  · have hlt : q + u < lot := by omega
    have b1 : u + 1 ≤ maxLen := by unfold maxLen; omega
    have b2 : (u + 1) * 8 ≤ 140737488355328 := by omega
    have b3 : n - (u + 1) < n - u := by omega
    clear eb
    refine c_seq ?_
    refine c_seq ?_
    refine c_region ?_
    refine s_y (y_move rfl) rfl rfl rfl ?_
    refine s_y (y_move rfl) rfl rfl rfl ?_
    refine s_y (y_T (y_lss rfl rfl) (by omega)) rfl rfl rfl ?_
    refine s_nil ?_
    refine f_then ?_
    refine c_condT rfl ?_
    refine c_skip ?_
    refine f_then ?_
    refine c_seq ?_
    refine c_block ?_
    refine c_seq ?_
    refine c_region ?_
    refine s_y (y_loadA Try.tab rfl rfl rfl rfl (cells_row0 0 rfl rfl)) rfl rfl rfl ?_
    refine s_y (y_move rfl) rfl rfl rfl ?_
    refine s_y (y_add rfl rfl (by omega)) rfl rfl rfl ?_
    rw [show ((q + u : Nat) : Int) + 1 = ((q + u + 1 : Nat) : Int) by omega]
    obtain ⟨⟨s1, y⟩, hr0⟩ : ∃ r, below (q + u + 1) (drS s q u).1 = r := ⟨_, rfl⟩
    have hr : ∀ _ : Unit, below (q + u + 1) (drS s q u).1 = (s1, y) := fun _ => hr0
    clear hr0
    refine s_call (en_f rfl Try.call87) (rbelow_spec3 (m := q + u + 1) hr (by omega) (by omega)) rfl rfl rfl (fun _ => ?_)
    refine s_y (y_move rfl) rfl rfl rfl ?_
    refine s_y (y_extract rfl rfl) rfl rfl rfl ?_
    refine s_y (y_extract rfl rfl) rfl rfl rfl ?_
    refine s_do (do_alloc Try.tab rfl) rfl rfl rfl (fun b10 => ?_)
    refine s_set (set_box Try.tab 0 rfl rfl rfl rfl rfl rfl rfl) rfl rfl ?_
    refine s_y (y_assign rfl) rfl rfl rfl ?_
    refine s_nil ?_
    refine f_then ?_
    refine c_seq ?_
    refine c_region ?_
    refine s_y (y_loadA Try.tab rfl rfl rfl rfl (cells_row0 0 rfl rfl)) rfl rfl rfl ?_
    refine s_set (set_box Try.tab 1 rfl rfl rfl rfl rfl rfl rfl) rfl rfl ?_
    refine s_nil ?_
    refine f_then ?_
    refine c_seq ?_
    refine c_region ?_
    refine s_y (y_move rfl) rfl rfl rfl ?_
    refine s_y (y_move rfl) rfl rfl rfl ?_
    have hL := mergeSort_u (s := s) (b := q) (u := u)
    refine s_call (en_f rfl Try.call88) (place_spec (x := (y : Int)) (hB.sli 2 rfl hL.symm) (by omega)) rfl rfl rfl (fun p1 => ?_)
    obtain ⟨p, hp1, hp2, hp3⟩ := p1
    have hdec : decide (p < u ∧ ((zN (drS s q u).2).mergeSort leJ).getD p 0 = (y : Int)) = decide (y ∈ (drS s q u).2) := by
      refine decide_eq_decide.2 ?_
      have h := place_mem (leJ_sorted (zN (drS s q u).2)) hp2 (fun h => hp3 (by rw [hL] at h; exact h))
      rw [hL] at h
      exact h.trans (sort_mem.trans zN_mem)
    dsimp only
    rw [hdec]
    refine St.cls (C' := K W ([(b7, row 110 [.int .u64 (s1 : Int)])] :: c :: N)) ?_ (fun w h => by
      rw [e4] at h
      have h2 : K W ([(b10, row 110 [.int .u64 (s1 : Int)])] :: [(b7, row 110 [.int .u64 (s1 : Int)])] :: c :: N) w := h
      exact h2.tail)
    have hS : ∀ _ : Unit, drS s q (u + 1) = (s1, (drS s q u).2 ++ [if y ∈ (drS s q u).2 then q + u else y]) := fun _ => drS_succ rfl (hr ())
    by_cases hm : y ∈ (drS s q u).2
    · rw [decide_eq_true hm]
      simp only [if_pos hm] at hS
      refine s_y (y_move rfl) rfl rfl rfl ?_
      refine s_y (y_extract rfl rfl) rfl rfl rfl ?_
      refine s_y (y_extract rfl rfl) rfl rfl rfl ?_
      refine s_y (y_assign rfl) rfl rfl rfl ?_
      refine s_y (y_assign rfl) rfl rfl rfl ?_
      refine s_nil ?_
      refine f_then ?_
      refine c_seq ?_
      refine c_seq ?_
      refine c_region ?_
      refine s_y (y_move rfl) rfl rfl rfl ?_
      refine s_nil ?_
      refine f_then ?_
      refine c_condT rfl ?_
      refine c_seq ?_
      refine c_region ?_
      refine s_y (y_move rfl) rfl rfl rfl ?_
      refine s_y (y_assign rfl) rfl rfl rfl ?_
      refine s_nil ?_
      refine f_then ?_
      refine c_region ?_
      refine s_y (y_move rfl) rfl rfl rfl ?_
      refine s_y (y_move rfl) rfl rfl rfl ?_
      clear hp1 hp2 hp3 hdec
      refine s_call (en_f rfl Try.call88) (place_spec (x := ((q + u : Nat) : Int)) (hB.sli 1 rfl hL.symm) (by omega)) rfl rfl rfl (fun p2 => ?_)
      obtain ⟨p2, hp1, hp2, hp3⟩ := p2
      have hins := sort_ins (l := (zN (drS s q u).2).mergeSort leJ) (x := (((q + u) : Nat) : Int)) rfl (by rw [hL]; exact hp1) hp2 (fun h => hp3 (by rw [hL] at h; exact h))
      refine s_y (y_move rfl) rfl rfl rfl ?_
      refine s_y (y_extract rfl rfl) rfl rfl rfl ?_
      refine s_y (y_extract rfl rfl) rfl rfl rfl ?_
      refine s_y (y_assign rfl) rfl rfl rfl ?_
      refine s_nil ?_
      refine f_then ?_
      refine c_seq ?_
      refine c_region ?_
      refine s_y (y_move rfl) rfl rfl rfl ?_
      refine s_do (do_buildSlice1 Try.tab ⟨rfl, rfl, rfl, rfl⟩ rfl rfl rfl rfl) rfl rfl rfl (fun b48 => ?_)
      refine s_do (do_appendB (by_ := 8) Try.tab 2 rfl hB rfl ⟨rfl, rfl, rfl, rfl⟩ rfl (by simp) rfl (by omega) (cells_row0 0 rfl rfl) rfl (by simp [Value.oneCell']) (by exact b1) (by exact b2)) rfl rfl rfl (fun r => ?_)
      obtain ⟨⟨v2, c2⟩, hB2⟩ := r
      rcases hB2.ok with ⟨h0, _⟩ | ⟨⟨ob, oc, op, orest⟩, rfl, rfl, ho, hop⟩
      · omega
      obtain rfl : op = [] := hop
      refine s_y (y_assign rfl) rfl rfl rfl ?_
      refine s_nil ?_
      refine f_then ?_
      refine c_seq ?_
      refine c_seq ?_
      refine c_region ?_
      refine s_y (y_move rfl) rfl rfl rfl ?_
      refine s_y (y_len Try.tab rfl rfl) rfl rfl rfl ?_
      refine s_y (y_sub rfl rfl (by omega)) rfl rfl rfl ?_
      refine s_y (y_assign rfl) rfl rfl rfl ?_
      refine s_nil ?_
      refine f_then ?_
      refine c_block ?_
      rw [show ((u + 1 : Nat) : Int) - 1 = (u : Int) by omega]
      refine SC.cls (C' := K W ([(b7, row 110 [.int .u64 (s1 : Int)])] :: [(ob, ints 3 (u + 1) (shf ((zN (drS s q u).2).mergeSort leJ) u) orest)] :: N)) ?_ (fun w h => by
        have e5 : och 3 ⟨ob, oc, [], orest⟩ (ivals ((zN (drS s q u).2).mergeSort leJ) ++ [.int .i64 0]) = [(ob, ints 3 (u + 1) (shf ((zN (drS s q u).2).mergeSort leJ) u) orest)] := by
          have e6 := shf_app (l := (zN (drS s q u).2).mergeSort leJ)
          rw [hL] at e6
          rw [e6]
          exact och_ints 3 _ _ _ (Nat.le_refl 0)
        rw [← e5]
        exact h.tail)
      refine c_loopP (α := Nat) (fun z => [(1, .int .i64 (lot : Int)), (7, .pointer (some ⟨b7, 0, none⟩)), (8, .slice (some ⟨ob, 0, none⟩) (u + 1) oc), (9, .int .i64 ((q + u : Nat) : Int)), (11, .int .i64 (((q + u) : Nat) : Int)), (12, .int .i64 (p2 : Nat)), (14, .int .i64 (z : Int))]) (fun z => p2 ≤ z ∧ z ≤ u)
          (fun z => K W ([(b7, row 110 [.int .u64 (s1 : Int)])] :: [(ob, ints 3 (u + 1) (shf ((zN (drS s q u).2).mergeSort leJ) z) orest)] :: N)) (fun z => z) u ⟨rfl, rfl, rfl, rfl, rfl, rfl, rfl, trivial⟩ ⟨hp1, Nat.le_refl _⟩ (fun w h => h) ?_
      rintro j ⟨hj1, hj2⟩
      by_cases hj : p2 < j
      · have hsh : shf ((zN (drS s q u).2).mergeSort leJ) j (j - 1) = ((zN (drS s q u).2).mergeSort leJ).getD (j - 1) 0 := if_pos (by omega)
        have e8 : (j : Int) - 1 = ((j - 1 : Nat) : Int) := by omega
        refine c_seq ?_
        refine c_seq ?_
        refine c_region ?_
        refine s_y (y_move rfl) rfl rfl rfl ?_
        refine s_y (y_move rfl) rfl rfl rfl ?_
        refine s_y (y_T (y_gtr rfl rfl) (by omega)) rfl rfl rfl ?_
        refine s_nil ?_
        refine f_then ?_
        refine c_condT rfl ?_
        refine c_skip ?_
        refine f_then ?_
        refine c_seq ?_
        refine c_block ?_
        refine c_region ?_
        refine s_y (y_move rfl) rfl rfl rfl ?_
        refine s_y (y_move rfl) rfl rfl rfl ?_
        refine s_y (y_move rfl) rfl rfl rfl ?_
        refine s_y (y_move rfl) rfl rfl rfl ?_
        refine s_y (y_sub rfl rfl (by omega)) rfl rfl rfl ?_
        refine s_y (y_indexAddr1 Try.tab rfl rfl rfl rfl _ (Int.toNat_of_nonneg (by omega)).symm (by omega)) rfl rfl rfl ?_
        refine s_y (y_load Try.tab rfl rfl (cell_ints 1 rfl (by omega))) rfl rfl rfl ?_
        refine s_y (y_indexAddr1 Try.tab rfl rfl rfl rfl _ rfl (by omega)) rfl rfl rfl ?_
        refine s_set (set_ints Try.tab 1 rfl rfl rfl rfl (by omega)) rfl rfl ?_
        refine s_nil ?_
        refine f_blockN ?_
        refine f_then ?_
        refine c_region ?_
        refine s_y (y_move rfl) rfl rfl rfl ?_
        refine s_y (y_sub rfl rfl (by omega)) rfl rfl rfl ?_
        refine s_y (y_assign rfl) rfl rfl rfl ?_
        refine s_nil ?_
        rw [show ((j : Int) - 1).toNat = j - 1 by omega, hsh, shf_upd (by omega), e8]
        exact f_roundP (j - 1) ⟨by omega, by omega⟩ (by omega) ⟨rfl, rfl, rfl, rfl, rfl, rfl, rfl, trivial⟩ (fun w h => h)
      · obtain rfl : j = p2 := by omega
        refine c_seq ?_
        refine c_seq ?_
        refine c_region ?_
        refine s_y (y_move rfl) rfl rfl rfl ?_
        refine s_y (y_move rfl) rfl rfl rfl ?_
        refine s_y (y_F (y_gtr rfl rfl) (by omega)) rfl rfl rfl ?_
        refine s_nil ?_
        refine f_then ?_
        refine c_condF rfl ?_
        refine c_exit ?_
        refine f_thenE ?_
        refine f_rndE ?_
        refine f_blockE ?_
        refine f_then ?_
        refine c_region ?_
        refine s_y (y_move rfl) rfl rfl rfl ?_
        refine s_y (y_move rfl) rfl rfl rfl ?_
        refine s_y (y_move rfl) rfl rfl rfl ?_
        refine s_y (y_indexAddr1 Try.tab rfl rfl rfl rfl _ rfl (by omega)) rfl rfl rfl ?_
        refine s_set (set_ints Try.tab 1 rfl rfl rfl rfl (by omega)) rfl rfl ?_
        refine s_nil ?_
        refine f_blockN ?_
        refine f_then ?_
        refine c_region ?_
        refine s_y (y_move rfl) rfl rfl rfl ?_
        refine s_y (y_add rfl rfl (by omega)) rfl rfl rfl ?_
        refine s_y (y_assign rfl) rfl rfl rfl ?_
        refine s_nil ?_
        have hlen2 : (ivals (insAt ((zN (drS s q u).2).mergeSort leJ) j (((q + u) : Nat) : Int))).length = u + 1 := by rw [ivals_len, insAt_len (by omega), hL]
        have hB3 : Buf 3 1 (.slice (some ⟨ob, 0, none⟩) (u + 1) oc) [(ob, ints 3 (u + 1) (upd (shf ((zN (drS s q u).2).mergeSort leJ) j) j (((q + u) : Nat) : Int)) orest)] (u + 1) (ivals ((zN (drS s q (u + 1)).2).mergeSort leJ)) := by
          have hz : zN (drS s q (u + 1)).2 = zN (drS s q u).2 ++ [(((q + u) : Nat) : Int)] := by rw [hS (), zN_app]; rfl
          rw [hz, ← hins]
          refine ⟨.inr ⟨⟨ob, oc, [], orest⟩, rfl, ?_, ?_, rfl⟩⟩
          · have h := shf_ins (l := (zN (drS s q u).2).mergeSort leJ) (j := j) (x := (((q + u) : Nat) : Int)) (by omega)
            rw [hL] at h
            rw [← h]
            exact (och_ints 3 ⟨ob, oc, [], orest⟩ _ _ (Nat.le_refl 0)).symm
          · exact ⟨ho.le, ho.max, by rw [hlen2, Nat.mul_one], ho.room⟩
        rw [show ((q + u : Nat) : Int) + 1 = ((q + (u + 1) : Nat) : Int) by omega]
        exact f_roundP ⟨u + 1, _, _, hB3⟩ (Nat.succ_le_of_lt hul) b3 ⟨rfl, rfl, rfl, rfl, trivial⟩ (fun w h => by rw [hS ()]; exact h)
    · rw [decide_eq_false hm]
      simp only [if_neg hm] at hS
      have hins := sort_ins (l := (zN (drS s q u).2).mergeSort leJ) (x := (((y) : Nat) : Int)) rfl (by rw [hL]; exact hp1) hp2 (fun h => hp3 (by rw [hL] at h; exact h))
      refine s_y (y_move rfl) rfl rfl rfl ?_
      refine s_y (y_extract rfl rfl) rfl rfl rfl ?_
      refine s_y (y_extract rfl rfl) rfl rfl rfl ?_
      refine s_y (y_assign rfl) rfl rfl rfl ?_
      refine s_y (y_assign rfl) rfl rfl rfl ?_
      refine s_nil ?_
      refine f_then ?_
      refine c_seq ?_
      refine c_seq ?_
      refine c_region ?_
      refine s_y (y_move rfl) rfl rfl rfl ?_
      refine s_nil ?_
      refine f_then ?_
      refine c_condF rfl ?_
      refine c_skip ?_
      refine f_then ?_
      refine c_seq ?_
      refine c_region ?_
      refine s_y (y_move rfl) rfl rfl rfl ?_
      refine s_do (do_buildSlice1 Try.tab ⟨rfl, rfl, rfl, rfl⟩ rfl rfl rfl rfl) rfl rfl rfl (fun b48 => ?_)
      refine s_do (do_appendB (by_ := 8) Try.tab 2 rfl hB rfl ⟨rfl, rfl, rfl, rfl⟩ rfl (by simp) rfl (by omega) (cells_row0 0 rfl rfl) rfl (by simp [Value.oneCell']) (by exact b1) (by exact b2)) rfl rfl rfl (fun r => ?_)
      obtain ⟨⟨v2, c2⟩, hB2⟩ := r
      rcases hB2.ok with ⟨h0, _⟩ | ⟨⟨ob, oc, op, orest⟩, rfl, rfl, ho, hop⟩
      · omega
      obtain rfl : op = [] := hop
      refine s_y (y_assign rfl) rfl rfl rfl ?_
      refine s_nil ?_
      refine f_then ?_
      refine c_seq ?_
      refine c_seq ?_
      refine c_region ?_
      refine s_y (y_move rfl) rfl rfl rfl ?_
      refine s_y (y_len Try.tab rfl rfl) rfl rfl rfl ?_
      refine s_y (y_sub rfl rfl (by omega)) rfl rfl rfl ?_
      refine s_y (y_assign rfl) rfl rfl rfl ?_
      refine s_nil ?_
      refine f_then ?_
      refine c_block ?_
      rw [show ((u + 1 : Nat) : Int) - 1 = (u : Int) by omega]
      refine SC.cls (C' := K W ([(b7, row 110 [.int .u64 (s1 : Int)])] :: [(ob, ints 3 (u + 1) (shf ((zN (drS s q u).2).mergeSort leJ) u) orest)] :: N)) ?_ (fun w h => by
        have e5 : och 3 ⟨ob, oc, [], orest⟩ (ivals ((zN (drS s q u).2).mergeSort leJ) ++ [.int .i64 0]) = [(ob, ints 3 (u + 1) (shf ((zN (drS s q u).2).mergeSort leJ) u) orest)] := by
          have e6 := shf_app (l := (zN (drS s q u).2).mergeSort leJ)
          rw [hL] at e6
          rw [e6]
          exact och_ints 3 _ _ _ (Nat.le_refl 0)
        rw [← e5]
        exact h.tail)
      refine c_loopP (α := Nat) (fun z => [(1, .int .i64 (lot : Int)), (7, .pointer (some ⟨b7, 0, none⟩)), (8, .slice (some ⟨ob, 0, none⟩) (u + 1) oc), (9, .int .i64 ((q + u : Nat) : Int)), (11, .int .i64 (((y) : Nat) : Int)), (12, .int .i64 (p : Nat)), (14, .int .i64 (z : Int))]) (fun z => p ≤ z ∧ z ≤ u)
          (fun z => K W ([(b7, row 110 [.int .u64 (s1 : Int)])] :: [(ob, ints 3 (u + 1) (shf ((zN (drS s q u).2).mergeSort leJ) z) orest)] :: N)) (fun z => z) u ⟨rfl, rfl, rfl, rfl, rfl, rfl, rfl, trivial⟩ ⟨hp1, Nat.le_refl _⟩ (fun w h => h) ?_
      rintro j ⟨hj1, hj2⟩
      by_cases hj : p < j
      · have hsh : shf ((zN (drS s q u).2).mergeSort leJ) j (j - 1) = ((zN (drS s q u).2).mergeSort leJ).getD (j - 1) 0 := if_pos (by omega)
        have e8 : (j : Int) - 1 = ((j - 1 : Nat) : Int) := by omega
        refine c_seq ?_
        refine c_seq ?_
        refine c_region ?_
        refine s_y (y_move rfl) rfl rfl rfl ?_
        refine s_y (y_move rfl) rfl rfl rfl ?_
        refine s_y (y_T (y_gtr rfl rfl) (by omega)) rfl rfl rfl ?_
        refine s_nil ?_
        refine f_then ?_
        refine c_condT rfl ?_
        refine c_skip ?_
        refine f_then ?_
        refine c_seq ?_
        refine c_block ?_
        refine c_region ?_
        refine s_y (y_move rfl) rfl rfl rfl ?_
        refine s_y (y_move rfl) rfl rfl rfl ?_
        refine s_y (y_move rfl) rfl rfl rfl ?_
        refine s_y (y_move rfl) rfl rfl rfl ?_
        refine s_y (y_sub rfl rfl (by omega)) rfl rfl rfl ?_
        refine s_y (y_indexAddr1 Try.tab rfl rfl rfl rfl _ (Int.toNat_of_nonneg (by omega)).symm (by omega)) rfl rfl rfl ?_
        refine s_y (y_load Try.tab rfl rfl (cell_ints 1 rfl (by omega))) rfl rfl rfl ?_
        refine s_y (y_indexAddr1 Try.tab rfl rfl rfl rfl _ rfl (by omega)) rfl rfl rfl ?_
        refine s_set (set_ints Try.tab 1 rfl rfl rfl rfl (by omega)) rfl rfl ?_
        refine s_nil ?_
        refine f_blockN ?_
        refine f_then ?_
        refine c_region ?_
        refine s_y (y_move rfl) rfl rfl rfl ?_
        refine s_y (y_sub rfl rfl (by omega)) rfl rfl rfl ?_
        refine s_y (y_assign rfl) rfl rfl rfl ?_
        refine s_nil ?_
        rw [show ((j : Int) - 1).toNat = j - 1 by omega, hsh, shf_upd (by omega), e8]
        exact f_roundP (j - 1) ⟨by omega, by omega⟩ (by omega) ⟨rfl, rfl, rfl, rfl, rfl, rfl, rfl, trivial⟩ (fun w h => h)
      · obtain rfl : j = p := by omega
        refine c_seq ?_
        refine c_seq ?_
        refine c_region ?_
        refine s_y (y_move rfl) rfl rfl rfl ?_
        refine s_y (y_move rfl) rfl rfl rfl ?_
        refine s_y (y_F (y_gtr rfl rfl) (by omega)) rfl rfl rfl ?_
        refine s_nil ?_
        refine f_then ?_
        refine c_condF rfl ?_
        refine c_exit ?_
        refine f_thenE ?_
        refine f_rndE ?_
        refine f_blockE ?_
        refine f_then ?_
        refine c_region ?_
        refine s_y (y_move rfl) rfl rfl rfl ?_
        refine s_y (y_move rfl) rfl rfl rfl ?_
        refine s_y (y_move rfl) rfl rfl rfl ?_
        refine s_y (y_indexAddr1 Try.tab rfl rfl rfl rfl _ rfl (by omega)) rfl rfl rfl ?_
        refine s_set (set_ints Try.tab 1 rfl rfl rfl rfl (by omega)) rfl rfl ?_
        refine s_nil ?_
        refine f_blockN ?_
        refine f_then ?_
        refine c_region ?_
        refine s_y (y_move rfl) rfl rfl rfl ?_
        refine s_y (y_add rfl rfl (by omega)) rfl rfl rfl ?_
        refine s_y (y_assign rfl) rfl rfl rfl ?_
        refine s_nil ?_
        have hlen2 : (ivals (insAt ((zN (drS s q u).2).mergeSort leJ) j (((y) : Nat) : Int))).length = u + 1 := by rw [ivals_len, insAt_len (by omega), hL]
        have hB3 : Buf 3 1 (.slice (some ⟨ob, 0, none⟩) (u + 1) oc) [(ob, ints 3 (u + 1) (upd (shf ((zN (drS s q u).2).mergeSort leJ) j) j (((y) : Nat) : Int)) orest)] (u + 1) (ivals ((zN (drS s q (u + 1)).2).mergeSort leJ)) := by
          have hz : zN (drS s q (u + 1)).2 = zN (drS s q u).2 ++ [(((y) : Nat) : Int)] := by rw [hS (), zN_app]; rfl
          rw [hz, ← hins]
          refine ⟨.inr ⟨⟨ob, oc, [], orest⟩, rfl, ?_, ?_, rfl⟩⟩
          · have h := shf_ins (l := (zN (drS s q u).2).mergeSort leJ) (j := j) (x := (((y) : Nat) : Int)) (by omega)
            rw [hL] at h
            rw [← h]
            exact (och_ints 3 ⟨ob, oc, [], orest⟩ _ _ (Nat.le_refl 0)).symm
          · exact ⟨ho.le, ho.max, by rw [hlen2, Nat.mul_one], ho.room⟩
        rw [show ((q + u : Nat) : Int) + 1 = ((q + (u + 1) : Nat) : Int) by omega]
        exact f_roundP ⟨u + 1, _, _, hB3⟩ (Nat.succ_le_of_lt hul) b3 ⟨rfl, rfl, rfl, rfl, trivial⟩ (fun w h => by rw [hS ()]; exact h)
  · have hun : u = n := by omega
    subst hun
    refine c_seq ?_
    refine c_seq ?_
    refine c_region ?_
    refine s_y (y_move rfl) rfl rfl rfl ?_
    refine s_y (y_move rfl) rfl rfl rfl ?_
    refine s_y (y_F (y_lss rfl rfl) (by omega)) rfl rfl rfl ?_
    refine s_nil ?_
    refine f_then ?_
    refine c_condF rfl ?_
    refine c_exit ?_
    refine f_thenE ?_
    refine f_rndE ?_
    refine f_blockE ?_
    refine f_then ?_
    refine c_seq ?_
    refine c_region ?_
    refine s_y (y_move rfl) rfl rfl rfl ?_
    refine s_y (y_assign rfl) rfl rfl rfl ?_
    refine s_nil ?_
    refine f_then ?_
    refine c_ret ?_
    exact f_ret ⟨(v, c), by rw [drawF, ← hq]; exact hB⟩ (res1 rfl rfl) (fun w h => h.tail)
end Go.KL
end

section
/- Walks: Draw on arguments that are not valid. -/
namespace Go.KL
open Go.Proofs
attribute [local irreducible] SC St Fin Sq Ylds Doos Sets Enters Spec CellIs CellsAre Then Ret Rnd Chn resOK ints bools recs arr
def DrawnP (lot n : Int) : Prop := 0 ≤ lot ∧ lot ≤ 1099511627776 ∧ 0 ≤ n ∧ n ≤ lot ∧ n ≤ 4096
instance (lot n : Int) : Decidable (DrawnP lot n) := by unfold DrawnP; infer_instance
theorem drawn_yes {C : World → Prop} {lot n : Int} (h : DrawnP lot n) : Spec Try.prog 47 #[.int .i64 lot, .int .i64 n] C (fun _ : Unit => .bool true) (fun _ => C) := by
  have h2 := drawn_spec (C := C) (lot := lot) (n := n)
  unfold DrawnP at h
  rwa [decide_eq_true h] at h2
theorem drawn_no {C : World → Prop} {lot n : Int} (h : ¬ DrawnP lot n) : Spec Try.prog 47 #[.int .i64 lot, .int .i64 n] C (fun _ : Unit => .bool false) (fun _ => C) := by
  have h2 := drawn_spec (C := C) (lot := lot) (n := n)
  unfold DrawnP at h
  rwa [decide_eq_false h] at h2
set_option maxRecDepth 10000 in
theorem draw_err {W : World} {N : List Chunk} {s lot n : Int} (h : ¬ DrawnP lot n) :
    Spec Try.prog 46 #[.int .u64 s, .int .i64 lot, .int .i64 n] (K W N) (fun _ : Unit => .tuple #[.slice none 0 0, .int .i64 2]) (fun _ => K W N) := by
  unfold DrawnP at h
  refine enter (args := [_, _, _]) Try.func46 rfl Try.ntmps46 rfl ?_
  refine c_seq ?_
  refine c_region ?_
  refine s_y (y_assign rfl) rfl rfl rfl ?_
  refine s_y (y_assign rfl) rfl rfl rfl ?_
  refine s_nil ?_
  refine f_then ?_
  refine c_seq ?_
  refine c_seq ?_
  refine c_region ?_
  refine s_y (y_move rfl) rfl rfl rfl ?_
  refine s_call (en_f rfl Try.call49) inside_spec rfl rfl rfl (fun _ => ?_)
  by_cases h1 : 0 ≤ lot ∧ lot ≤ 1099511627776
  · have e2 : ¬ (0 ≤ n ∧ n ≤ min lot 4096) := by omega
    rw [decide_eq_true h1]
    refine s_y (y_notT rfl) rfl rfl rfl ?_
    refine s_y (y_move rfl) rfl rfl rfl ?_
    refine s_y (y_move rfl) rfl rfl rfl ?_
    refine s_y (y_move rfl) rfl rfl rfl ?_
    refine s_y (y_min rfl rfl) rfl rfl rfl ?_
    refine s_call (en_f rfl Try.call49) inside_spec rfl rfl rfl (fun _ => ?_)
    rw [decide_eq_false e2]
    refine s_y (y_notF rfl) rfl rfl rfl ?_
    refine s_y (y_pickF rfl rfl) rfl rfl rfl ?_
    refine s_nil ?_
    refine f_then ?_
    refine c_condT rfl ?_
    refine c_seq ?_
    refine c_region ?_
    refine s_y (y_assign rfl) rfl rfl rfl ?_
    refine s_y (y_assign rfl) rfl rfl rfl ?_
    refine s_nil ?_
    refine f_then ?_
    refine c_ret ?_
    refine f_thenR ?_
    exact f_ret () (res2 rfl rfl rfl) (fun w h => h)
  · rw [decide_eq_false h1]
    refine s_y (y_notF rfl) rfl rfl rfl ?_
    refine s_y (y_move rfl) rfl rfl rfl ?_
    iterate 5 refine s_skip rfl rfl rfl ?_
    refine s_y (y_pickT rfl rfl) rfl rfl rfl ?_
    refine s_nil ?_
    refine f_then ?_
    refine c_condT rfl ?_
    refine c_seq ?_
    refine c_region ?_
    refine s_y (y_assign rfl) rfl rfl rfl ?_
    refine s_y (y_assign rfl) rfl rfl rfl ?_
    refine s_nil ?_
    refine f_then ?_
    refine c_ret ?_
    refine f_thenR ?_
    exact f_ret () (res2 rfl rfl rfl) (fun w h => h)
end Go.KL
end

section
/- Walks: SampleOdd. -/
namespace Go.KL
open Go.Proofs
theorem zN_getD {l : List Nat} {P : Int → Prop} (h : ∀ x ∈ l, P (x : Int)) {z : Int} (hz : z ∈ zN l) : P z := by
  simp only [zN, List.mem_map] at hz
  obtain ⟨a, ha, rfl⟩ := hz
  exact h a ha
theorem drawF_get {s lot n i : Nat} (h2 : n ≤ lot) (hi : i < n) : 0 ≤ (drawF s lot n).getD i 0 ∧ (drawF s lot n).getD i 0 < (lot : Int) := by
  have hL : (drawF s lot n).length = n := mergeSort_u
  have hm : (drawF s lot n).getD i 0 ∈ drawF s lot n := by
    rw [List.getD_eq_getElem?_getD, List.getElem?_eq_getElem (by omega)]
    exact List.getElem_mem _
  have hm2 := sort_mem.1 hm
  exact zN_getD (P := fun z => 0 ≤ z ∧ z < (lot : Int)) (fun x hx => by have := drS_lt s (lot - n) n x hx; omega) hm2
theorem drawF_lt {s lot n i : Nat} (hi : i + 1 < n) : (drawF s lot n).getD i 0 < (drawF s lot n).getD (i + 1) 0 := by
  refine sort_strict ?_ (Nat.lt_succ_self i) (by rw [zN_len, drS_len]; exact hi)
  refine List.Pairwise.map _ ?_ (drS_nodup s (lot - n) n)
  intro a b h
  omega
attribute [local irreducible] SC St Fin Sq Ylds Doos Sets Enters Spec CellIs CellsAre Then Ret Rnd Chn resOK ints bools recs arr
set_option maxRecDepth 10000 in
set_option maxHeartbeats 8000000 in
theorem sampleOdd_walk (W : World) (s : Nat) (lot n : Int) (_ : s < 18446744073709551616) (hl : i64 lot) (hn : i64 n) : Spec Try.prog 18 #[.int .u64 (s : Int), .int .i64 lot, .int .i64 n] (K W []) (fun _ : Unit => .bool true) (fun _ => K W []) := by
  unfold i64 at hl hn
  refine enter (args := [_, _, _]) Try.func18 rfl Try.ntmps18 rfl ?_
  by_cases hd : DrawnP lot n
  · have hd0 := hd
    obtain ⟨g1, g2, g3, g4, g5⟩ := hd
    obtain ⟨lot, rfl⟩ : ∃ k : Nat, lot = (k : Int) := ⟨lot.toNat, by omega⟩
    obtain ⟨n, rfl⟩ : ∃ k : Nat, n = (k : Int) := ⟨n.toNat, by omega⟩
    refine c_seq ?_
    refine c_region ?_
    refine s_y (y_assign rfl) rfl rfl rfl ?_
    refine s_nil ?_
    refine f_then ?_
    refine c_seq ?_
    refine c_region ?_
    refine s_y (y_move rfl) rfl rfl rfl ?_
    refine s_y (y_move rfl) rfl rfl rfl ?_
    refine s_y (y_move rfl) rfl rfl rfl ?_
    refine s_call (en_f rfl Try.call46) (draw_spec (by omega) (by omega) (by omega)) rfl rfl rfl (fun r1 => ?_)
    obtain ⟨⟨v1, c1⟩, hB1⟩ := r1
    refine s_y (y_move rfl) rfl rfl rfl ?_
    refine s_y (y_extract rfl rfl) rfl rfl rfl ?_
    refine s_y (y_extract rfl rfl) rfl rfl rfl ?_
    refine s_y (y_assign rfl) rfl rfl rfl ?_
    refine s_y (y_assign rfl) rfl rfl rfl ?_
    refine s_nil ?_
    refine f_then ?_
    refine c_seq ?_
    refine c_region ?_
    refine s_y (y_move rfl) rfl rfl rfl ?_
    refine s_y (y_move rfl) rfl rfl rfl ?_
    refine s_y (y_move rfl) rfl rfl rfl ?_
    refine s_call (en_f rfl Try.call46) (draw_spec (by omega) (by omega) (by omega)) rfl rfl rfl (fun r2 => ?_)
    obtain ⟨⟨v2, c2⟩, hB2⟩ := r2
    refine s_y (y_move rfl) rfl rfl rfl ?_
    refine s_y (y_extract rfl rfl) rfl rfl rfl ?_
    refine s_y (y_extract rfl rfl) rfl rfl rfl ?_
    refine s_y (y_assign rfl) rfl rfl rfl ?_
    refine s_y (y_assign rfl) rfl rfl rfl ?_
    refine s_nil ?_
    refine f_then ?_
    refine c_seq ?_
    refine c_seq ?_
    refine c_region ?_
    refine s_y (y_move rfl) rfl rfl rfl ?_
    refine s_y (y_move rfl) rfl rfl rfl ?_
    refine s_call (en_f rfl Try.call47) (drawn_yes hd0) rfl rfl rfl (fun _ => ?_)
    have hL : (drawF s lot n).length = n := mergeSort_u
    have hS1 := hB1.sli (W := W) (Ls := [c2, c1]) 1 rfl hL.symm
    have hS2 := hB2.sli (W := W) (Ls := [c2, c1]) 0 rfl hL.symm
    obtain ⟨f, hf⟩ : ∃ f : Nat → Int, f = fun k => (drawF s lot n).getD k 0 := ⟨_, rfl⟩
    have hP : ∀ i, i < n → 0 ≤ f i ∧ f i < (lot : Int) := fun i hi => by rw [hf]; exact drawF_get (by omega) hi
    have hQ : ∀ i, i + 1 < n → f i < f (i + 1) := fun i hi => by rw [hf]; exact drawF_lt hi
    rw [← hf] at hS1 hS2
    clear hL hf
    obtain ⟨pa, ca, hva, hc, hcell⟩ := SlV.open1 hS1
    dsimp only at hva
    subst hva
    refine s_y (y_notT rfl) rfl rfl rfl ?_
    refine s_nil ?_
    refine f_then ?_
    refine c_condF rfl ?_
    refine c_skip ?_
    refine f_then ?_
    refine c_seq ?_
    refine c_region ?_
    refine s_y (y_assign rfl) rfl rfl rfl ?_
    refine s_nil ?_
    refine f_then ?_
    refine c_seq ?_
    refine c_seq ?_
    refine c_region ?_
    refine s_y (y_move rfl) rfl rfl rfl ?_
    refine s_y (y_len Try.tab rfl rfl) rfl rfl rfl ?_
    refine s_y (y_move rfl) rfl rfl rfl ?_
    refine s_nil ?_
    refine f_then ?_
    refine c_block ?_
    refine c_loopP (α := Nat) (fun z => [(1, .int .i64 (lot : Int)), (2, .int .i64 (n : Int)), (7, .slice pa n ca), (8, .int .i64 0), (9, v2), (10, .int .i64 0), (11, .int .i64 (if z = 0 then -1 else f (z - 1))), (41, .slice pa n ca), (42, .int .i64 (n : Int)), (43, .int .i64 (z : Int))]) (fun z => z ≤ n)
      (fun _ => K W [c2, c1]) (fun z => n - z) 0 ⟨rfl, rfl, rfl, rfl, rfl, rfl, rfl, rfl, rfl, rfl, trivial⟩ (Nat.zero_le _) (fun w h => h) ?_
    intro i hi
    by_cases hin : i < n
    · obtain ⟨b, o, rfl, hcl⟩ := hcell (by omega)
      have hci := hcl i hin
      have hp := hP i hin
      have hlast : (if i = 0 then -1 else f (i - 1)) < f i := by
        by_cases h0 : i = 0
        · rw [if_pos h0]; omega
        · rw [if_neg h0]
          have := hQ (i - 1) (by omega)
          rwa [show i - 1 + 1 = i by omega] at this
      obtain ⟨y, hy⟩ : ∃ y, y = f i := ⟨_, rfl⟩
      rw [← hy] at hci hp hlast
      obtain ⟨x, hx⟩ : ∃ x, x = (if i = 0 then -1 else f (i - 1)) := ⟨_, rfl⟩
      rw [← hx] at hlast ⊢
      clear hx
      refine c_seq ?_
      refine c_region ?_
      refine s_y (y_T (y_lss rfl rfl) (by omega)) rfl rfl rfl ?_
      refine s_nil ?_
      refine f_then ?_
      refine c_seq ?_
      refine c_condT rfl ?_
      refine c_skip ?_
      refine f_then ?_
      refine c_seq ?_
      refine c_block ?_
      refine c_seq ?_
      refine c_region ?_
      refine s_y (y_indexAddr1o Try.tab rfl rfl rfl rfl _ rfl (by omega)) rfl rfl rfl ?_
      refine s_y (y_load Try.tab rfl rfl hci) rfl rfl rfl ?_
      refine s_y (y_assign rfl) rfl rfl rfl ?_
      refine s_nil ?_
      refine f_then ?_
      refine c_seq ?_
      refine c_seq ?_
      refine c_region ?_
      refine s_y (y_move rfl) rfl rfl rfl ?_
      refine s_y (y_move rfl) rfl rfl rfl ?_
      refine s_y (y_F (y_leq rfl rfl) (by omega)) rfl rfl rfl ?_
      refine s_y (y_move rfl) rfl rfl rfl ?_
      refine s_y (y_move rfl) rfl rfl rfl ?_
      refine s_y (y_move rfl) rfl rfl rfl ?_
      refine s_y (y_F (y_geq rfl rfl) (by omega)) rfl rfl rfl ?_
      refine s_y (y_pickF rfl rfl) rfl rfl rfl ?_
      refine s_nil ?_
      refine f_then ?_
      refine c_condF rfl ?_
      refine c_skip ?_
      refine f_then ?_
      refine c_region ?_
      refine s_y (y_move rfl) rfl rfl rfl ?_
      refine s_y (y_assign rfl) rfl rfl rfl ?_
      refine s_nil ?_
      refine f_blockN ?_
      refine f_then ?_
      refine c_region ?_
      refine s_y (y_add rfl rfl (by omega)) rfl rfl rfl ?_
      refine s_y (y_move rfl) rfl rfl rfl ?_
      refine s_nil ?_
      exact f_roundP (i + 1) hin (by omega) ⟨rfl, rfl, rfl, rfl, rfl, rfl, by rw [if_neg (by omega), Nat.add_sub_cancel, ← hy]; rfl, rfl, rfl, rfl, trivial⟩ (fun w h => h)
    · obtain rfl : i = n := by omega
      refine c_seq ?_
      refine c_region ?_
      refine s_y (y_F (y_lss rfl rfl) (by omega)) rfl rfl rfl ?_
      refine s_nil ?_
      refine f_then ?_
      refine c_seq ?_
      refine c_condF rfl ?_
      refine c_exit ?_
      refine f_thenE ?_
      refine f_rndE ?_
      refine f_blockE ?_
      refine f_then ?_
      refine c_seq ?_
      refine c_region ?_
      refine s_y (y_move rfl) rfl rfl rfl ?_
      refine s_y (y_T (y_eql rfl rfl) (by omega)) rfl rfl rfl ?_
      refine s_y (y_move rfl) rfl rfl rfl ?_
      refine s_y (y_move rfl) rfl rfl rfl ?_
      refine s_y (y_T (y_eql rfl rfl) (by omega)) rfl rfl rfl ?_
      refine s_y (y_pickT rfl rfl) rfl rfl rfl ?_
      refine s_y (y_move rfl) rfl rfl rfl ?_
      refine s_y (y_move rfl) rfl rfl rfl ?_
      refine s_y (y_len Try.tab rfl rfl) rfl rfl rfl ?_
      refine s_y (y_move rfl) rfl rfl rfl ?_
      refine s_y (y_T (y_eql rfl rfl) (by omega)) rfl rfl rfl ?_
      refine s_y (y_pickT rfl rfl) rfl rfl rfl ?_
      refine s_y (y_move rfl) rfl rfl rfl ?_
      refine s_y (y_move rfl) rfl rfl rfl ?_
      refine s_y (y_move rfl) rfl rfl rfl ?_
      refine s_call (en_f rfl Try.call44) (same_spec (t := true) hS1 hS2 (by omega) ⟨fun _ => ⟨rfl, fun _ _ => rfl⟩, fun _ => rfl⟩) rfl rfl rfl (fun _ => ?_)
      refine s_y (y_pickT rfl rfl) rfl rfl rfl ?_
      refine s_y (y_move rfl) rfl rfl rfl ?_
      refine s_call (en_f rfl Try.call19) awake_spec rfl rfl rfl (fun _ => ?_)
      refine s_y (y_pickT rfl rfl) rfl rfl rfl ?_
      refine s_y (y_assign rfl) rfl rfl rfl ?_
      refine s_nil ?_
      refine f_then ?_
      refine c_ret ?_
      exact f_ret () (res1 rfl rfl) (fun w h => h.tail.tail)
  · refine c_seq ?_
    refine c_region ?_
    refine s_y (y_assign rfl) rfl rfl rfl ?_
    refine s_nil ?_
    refine f_then ?_
    refine c_seq ?_
    refine c_region ?_
    refine s_y (y_move rfl) rfl rfl rfl ?_
    refine s_y (y_move rfl) rfl rfl rfl ?_
    refine s_y (y_move rfl) rfl rfl rfl ?_
    refine s_call (en_f rfl Try.call46) (draw_err hd) rfl rfl rfl (fun _ => ?_)
    refine s_y (y_move rfl) rfl rfl rfl ?_
    refine s_y (y_extract rfl rfl) rfl rfl rfl ?_
    refine s_y (y_extract rfl rfl) rfl rfl rfl ?_
    refine s_y (y_assign rfl) rfl rfl rfl ?_
    refine s_y (y_assign rfl) rfl rfl rfl ?_
    refine s_nil ?_
    refine f_then ?_
    refine c_seq ?_
    refine c_region ?_
    refine s_y (y_move rfl) rfl rfl rfl ?_
    refine s_y (y_move rfl) rfl rfl rfl ?_
    refine s_y (y_move rfl) rfl rfl rfl ?_
    refine s_call (en_f rfl Try.call46) (draw_err hd) rfl rfl rfl (fun _ => ?_)
    refine s_y (y_move rfl) rfl rfl rfl ?_
    refine s_y (y_extract rfl rfl) rfl rfl rfl ?_
    refine s_y (y_extract rfl rfl) rfl rfl rfl ?_
    refine s_y (y_assign rfl) rfl rfl rfl ?_
    refine s_y (y_assign rfl) rfl rfl rfl ?_
    refine s_nil ?_
    refine f_then ?_
    refine c_seq ?_
    refine c_seq ?_
    refine c_region ?_
    refine s_y (y_move rfl) rfl rfl rfl ?_
    refine s_y (y_move rfl) rfl rfl rfl ?_
    refine s_call (en_f rfl Try.call47) (drawn_no hd) rfl rfl rfl (fun _ => ?_)
    refine s_y (y_notF rfl) rfl rfl rfl ?_
    refine s_nil ?_
    refine f_then ?_
    refine c_condT rfl ?_
    refine c_seq ?_
    refine c_region ?_
    refine s_y (y_move rfl) rfl rfl rfl ?_
    refine s_y (y_T (y_eql rfl rfl) (by omega)) rfl rfl rfl ?_
    refine s_y (y_move rfl) rfl rfl rfl ?_
    refine s_y (y_move rfl) rfl rfl rfl ?_
    refine s_y (y_T (y_eql rfl rfl) (by omega)) rfl rfl rfl ?_
    refine s_y (y_pickT rfl rfl) rfl rfl rfl ?_
    refine s_y (y_move rfl) rfl rfl rfl ?_
    refine s_call (en_f rfl Try.call19) awake_spec rfl rfl rfl (fun _ => ?_)
    refine s_y (y_pickT rfl rfl) rfl rfl rfl ?_
    refine s_y (y_assign rfl) rfl rfl rfl ?_
    refine s_nil ?_
    refine f_then ?_
    refine c_ret ?_
    refine f_thenR ?_
    exact f_ret () (res1 rfl rfl) (fun w h => h)
end Go.KL
end

section
/- SampleOdd: for every input the law returns true, and its arguments read as they did. No condition. -/
namespace Go.Proofs.Ytdknafhaphadiaa
open Go.ChangeShapes Go.WideShapes Go.RowKit Go.KL
set_option linter.unusedVariables false
theorem own : ownKnob Try.prog.godebug = none := by kernel_rfl
set_option maxRecDepth 100000 in
theorem sampleOdd_lifted (os : Os) (started : os.Started) (H : Type) (enc : TypeId × Value → H) :
    ReturnsInHanded {} Try.checked os 18 .any (Rows.sampleOddSpec.pre6 enc Try.prog Try.f18 Rows.sampleOddRow.domain false) (Rows.sampleOddSpec.post enc Try.prog Try.f18 false true false false) := by
  refine returnsInHanded_of_change (C := Try.checked) own started (by kernel_rfl) Try.func18
    (ChangeSpec.witness6 (enc := enc) (C := Try.checked) false ⟨#[], #[.int .u64 0, .int .i64 0, .int .i64 0], []⟩ 8 (by kernel_rfl) (by kernel_rfl) (by kernel_rfl) (by kernel_rfl)) ?_
  intro W base args ds gs before hval hW hcnd _
  obtain ⟨p, q, hA, hV, rfl, hfz, hnd⟩ := id hW
  obtain ⟨rfl, rfl⟩ := trodVars_none hV
  obtain ⟨v0, vs0, d0, ds0, p0, q0, e0, rfl, rfl, h0, r0⟩ := trodAll_cons hA
  obtain ⟨v1, vs1, d1, ds1, p1, q1, rfl, rfl, rfl, h1, r1⟩ := trodAll_cons r0
  obtain ⟨v2, vs2, d2, ds2, p2, q2, rfl, rfl, rfl, h2, r2⟩ := trodAll_cons r1
  obtain ⟨rfl, rfl, rfl⟩ := trodAll_nil r2
  obtain rfl : args = #[v0, v1, v2] := by cases args; simp_all
  obtain ⟨k0, rfl, hk0⟩ := arg63 (hval 0 63 _ rfl rfl) h0
  obtain ⟨k1, rfl, hk1⟩ := arg3 (hval 1 3 _ rfl rfl) h1
  obtain ⟨k2, rfl, hk2⟩ := arg3 (hval 2 3 _ rfl rfl) h2
  refine ((sampleOdd_walk W k0 k1 k2 hk0 hk1 hk2) W (K.refl W)).mono ?_
  rintro e W' ⟨x, rfl, hk⟩
  exact ⟨_, rfl, law_post (t := 4) laidOut (by decide +kernel) rfl rfl u4 hW rfl hk.toExt⟩
theorem joined : joinedFacts Try.pinned.checked.prog 18 Try.f18 Rows.sampleOddSpec Rows.sampleOddRow = true := by
  show joinedFacts Try.prog 18 Try.f18 Rows.sampleOddSpec Rows.sampleOddRow = true
  unfold joinedFacts
  rw [Go.KL.may_enter, Go.KL.lifts_final, Go.KL.make_cut]
  kernel_rfl
/-- The statement. -/
theorem sampleOdd_holds : Rows.SampleOddSaid :=
  OpenClaim.holds_of_wide 18 Try.f18 rfl rfl rfl rfl rfl rfl rfl ⟨rfl, rfl, rfl, rfl, rfl⟩ rfl rfl rfl rfl rfl (by kernel_rfl) Try.func18 joined
    (of_decide_eq_true (by kernel_rfl)) (by unfold Func.isWrapper; first | (rw [if_pos (by decide +kernel)]; kernel_rfl) | (rw [if_neg (by decide +kernel)]; exact ⟨rfl, rfl⟩))
    (fun os started H enc _ => sampleOdd_lifted os started H enc)
end Go.Proofs.Ytdknafhaphadiaa
end
