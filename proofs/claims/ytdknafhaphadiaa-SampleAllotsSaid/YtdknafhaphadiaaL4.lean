/- The library of the proof, part 4: a program logic over the model, walks of functions, plain laws. -/
import Derived.Test.YtdknafhaphadiaaChecked
import Derived.Lib.ItoaNum
import Derived.Test.YtdknafhaphadiaaL3
section
/- The types of the seat's program, as a table. -/
namespace Go.KL
def Tab.empty (P : Program) : Tab P := ⟨[], by simp⟩
theorem Tab.add_ok {P : Program} (T : Tab P) (t : Nat) (i : TypeInfo) (h : P.info? t = some i) : ∀ e ∈ (t, i) :: T.tab, P.info? e.1 = some e.2 := by
  intro e he
  rcases List.mem_cons.1 he with he | he
  · subst he; exact h
  · exact T.ok e he
def Tab.add {P : Program} (T : Tab P) (t : Nat) (i : TypeInfo) (h : P.info? t = some i) : Tab P := ⟨(t, i) :: T.tab, T.add_ok t i h⟩
end Go.KL
namespace Go.Proofs
open Go.KL
noncomputable def Try.tab : Tab Try.prog := Tab.empty Try.prog
  |>.add 0 Try.t0 (by kernel_rfl)
  |>.add 1 Try.t1 (by kernel_rfl)
  |>.add 2 Try.t2 (by kernel_rfl)
  |>.add 6 Try.t6 (by kernel_rfl)
  |>.add 7 Try.t7 (by kernel_rfl)
  |>.add 8 Try.t8 (by kernel_rfl)
  |>.add 10 Try.t10 (by kernel_rfl)
  |>.add 11 Try.t11 (by kernel_rfl)
  |>.add 12 Try.t12 (by kernel_rfl)
  |>.add 13 Try.t13 (by kernel_rfl)
  |>.add 14 Try.t14 (by kernel_rfl)
  |>.add 15 Try.t15 (by kernel_rfl)
  |>.add 16 Try.t16 (by kernel_rfl)
  |>.add 17 Try.t17 (by kernel_rfl)
  |>.add 18 Try.t18 (by kernel_rfl)
  |>.add 19 Try.t19 (by kernel_rfl)
  |>.add 20 Try.t20 (by kernel_rfl)
  |>.add 21 Try.t21 (by kernel_rfl)
  |>.add 22 Try.t22 (by kernel_rfl)
  |>.add 24 Try.t24 (by kernel_rfl)
  |>.add 27 Try.t27 (by kernel_rfl)
  |>.add 28 Try.t28 (by kernel_rfl)
  |>.add 29 Try.t29 (by kernel_rfl)
  |>.add 30 Try.t30 (by kernel_rfl)
  |>.add 31 Try.t31 (by kernel_rfl)
  |>.add 33 Try.t33 (by kernel_rfl)
  |>.add 35 Try.t35 (by kernel_rfl)
  |>.add 36 Try.t36 (by kernel_rfl)
  |>.add 37 Try.t37 (by kernel_rfl)
  |>.add 38 Try.t38 (by kernel_rfl)
  |>.add 39 Try.t39 (by kernel_rfl)
  |>.add 40 Try.t40 (by kernel_rfl)
  |>.add 42 Try.t42 (by kernel_rfl)
  |>.add 43 Try.t43 (by kernel_rfl)
  |>.add 44 Try.t44 (by kernel_rfl)
  |>.add 45 Try.t45 (by kernel_rfl)
  |>.add 46 Try.t46 (by kernel_rfl)
  |>.add 47 Try.t47 (by kernel_rfl)
  |>.add 48 Try.t48 (by kernel_rfl)
  |>.add 49 Try.t49 (by kernel_rfl)
  |>.add 50 Try.t50 (by kernel_rfl)
  |>.add 51 Try.t51 (by kernel_rfl)
  |>.add 52 Try.t52 (by kernel_rfl)
  |>.add 53 Try.t53 (by kernel_rfl)
  |>.add 54 Try.t54 (by kernel_rfl)
  |>.add 55 Try.t55 (by kernel_rfl)
  |>.add 56 Try.t56 (by kernel_rfl)
  |>.add 57 Try.t57 (by kernel_rfl)
  |>.add 58 Try.t58 (by kernel_rfl)
  |>.add 59 Try.t59 (by kernel_rfl)
  |>.add 60 Try.t60 (by kernel_rfl)
  |>.add 61 Try.t61 (by kernel_rfl)
  |>.add 62 Try.t62 (by kernel_rfl)
  |>.add 64 Try.t64 (by kernel_rfl)
  |>.add 65 Try.t65 (by kernel_rfl)
  |>.add 66 Try.t66 (by kernel_rfl)
  |>.add 67 Try.t67 (by kernel_rfl)
  |>.add 68 Try.t68 (by kernel_rfl)
  |>.add 69 Try.t69 (by kernel_rfl)
  |>.add 70 Try.t70 (by kernel_rfl)
  |>.add 72 Try.t72 (by kernel_rfl)
  |>.add 73 Try.t73 (by kernel_rfl)
  |>.add 74 Try.t74 (by kernel_rfl)
  |>.add 75 Try.t75 (by kernel_rfl)
  |>.add 76 Try.t76 (by kernel_rfl)
  |>.add 77 Try.t77 (by kernel_rfl)
  |>.add 78 Try.t78 (by kernel_rfl)
  |>.add 79 Try.t79 (by kernel_rfl)
  |>.add 80 Try.t80 (by kernel_rfl)
  |>.add 81 Try.t81 (by kernel_rfl)
  |>.add 82 Try.t82 (by kernel_rfl)
  |>.add 83 Try.t83 (by kernel_rfl)
  |>.add 84 Try.t84 (by kernel_rfl)
  |>.add 85 Try.t85 (by kernel_rfl)
  |>.add 86 Try.t86 (by kernel_rfl)
  |>.add 87 Try.t87 (by kernel_rfl)
  |>.add 88 Try.t88 (by kernel_rfl)
  |>.add 89 Try.t89 (by kernel_rfl)
  |>.add 90 Try.t90 (by kernel_rfl)
  |>.add 91 Try.t91 (by kernel_rfl)
  |>.add 92 Try.t92 (by kernel_rfl)
  |>.add 93 Try.t93 (by kernel_rfl)
  |>.add 94 Try.t94 (by kernel_rfl)
  |>.add 95 Try.t95 (by kernel_rfl)
  |>.add 96 Try.t96 (by kernel_rfl)
  |>.add 97 Try.t97 (by kernel_rfl)
  |>.add 98 Try.t98 (by kernel_rfl)
  |>.add 99 Try.t99 (by kernel_rfl)
  |>.add 100 Try.t100 (by kernel_rfl)
  |>.add 101 Try.t101 (by kernel_rfl)
  |>.add 102 Try.t102 (by kernel_rfl)
  |>.add 103 Try.t103 (by kernel_rfl)
  |>.add 104 Try.t104 (by kernel_rfl)
  |>.add 105 Try.t105 (by kernel_rfl)
  |>.add 106 Try.t106 (by kernel_rfl)
  |>.add 107 Try.t107 (by kernel_rfl)
  |>.add 108 Try.t108 (by kernel_rfl)
  |>.add 109 Try.t109 (by kernel_rfl)
  |>.add 111 Try.t111 (by kernel_rfl)
  |>.add 112 Try.t112 (by kernel_rfl)
  |>.add 113 Try.t113 (by kernel_rfl)
  |>.add 114 Try.t114 (by kernel_rfl)
  |>.add 115 Try.t115 (by kernel_rfl)
  |>.add 116 Try.t116 (by kernel_rfl)
  |>.add 117 Try.t117 (by kernel_rfl)
  |>.add 118 Try.t118 (by kernel_rfl)
  |>.add 119 Try.t119 (by kernel_rfl)
  |>.add 120 Try.t120 (by kernel_rfl)
  |>.add 121 Try.t121 (by kernel_rfl)
  |>.add 122 Try.t122 (by kernel_rfl)
  |>.add 124 Try.t124 (by kernel_rfl)
  |>.add 125 Try.t125 (by kernel_rfl)
  |>.add 126 Try.t126 (by kernel_rfl)
  |>.add 127 Try.t127 (by kernel_rfl)
  |>.add 128 Try.t128 (by kernel_rfl)
  |>.add 129 Try.t129 (by kernel_rfl)
  |>.add 131 Try.t131 (by kernel_rfl)
  |>.add 132 Try.t132 (by kernel_rfl)
  |>.add 133 Try.t133 (by kernel_rfl)
  |>.add 134 Try.t134 (by kernel_rfl)
  |>.add 135 Try.t135 (by kernel_rfl)
  |>.add 136 Try.t136 (by kernel_rfl)
  |>.add 137 Try.t137 (by kernel_rfl)
  |>.add 138 Try.t138 (by kernel_rfl)
  |>.add 139 Try.t139 (by kernel_rfl)
  |>.add 141 Try.t141 (by kernel_rfl)
  |>.add 142 Try.t142 (by kernel_rfl)
  |>.add 143 Try.t143 (by kernel_rfl)
  |>.add 144 Try.t144 (by kernel_rfl)
  |>.add 145 Try.t145 (by kernel_rfl)
  |>.add 146 Try.t146 (by kernel_rfl)
  |>.add 147 Try.t147 (by kernel_rfl)
  |>.add 148 Try.t148 (by kernel_rfl)
  |>.add 149 Try.t149 (by kernel_rfl)
  |>.add 150 Try.t150 (by kernel_rfl)
  |>.add 151 Try.t151 (by kernel_rfl)
  |>.add 152 Try.t152 (by kernel_rfl)
  |>.add 153 Try.t153 (by kernel_rfl)
  |>.add 154 Try.t154 (by kernel_rfl)
  |>.add 155 Try.t155 (by kernel_rfl)
  |>.add 156 Try.t156 (by kernel_rfl)
  |>.add 157 Try.t157 (by kernel_rfl)
  |>.add 158 Try.t158 (by kernel_rfl)
  |>.add 159 Try.t159 (by kernel_rfl)
  |>.add 160 Try.t160 (by kernel_rfl)
  |>.add 161 Try.t161 (by kernel_rfl)
  |>.add 162 Try.t162 (by kernel_rfl)
  |>.add 163 Try.t163 (by kernel_rfl)
  |>.add 164 Try.t164 (by kernel_rfl)
  |>.add 165 Try.t165 (by kernel_rfl)
  |>.add 166 Try.t166 (by kernel_rfl)
  |>.add 167 Try.t167 (by kernel_rfl)
  |>.add 168 Try.t168 (by kernel_rfl)
  |>.add 169 Try.t169 (by kernel_rfl)
  |>.add 170 Try.t170 (by kernel_rfl)
  |>.add 172 Try.t172 (by kernel_rfl)
  |>.add 173 Try.t173 (by kernel_rfl)
  |>.add 174 Try.t174 (by kernel_rfl)
  |>.add 175 Try.t175 (by kernel_rfl)
  |>.add 176 Try.t176 (by kernel_rfl)
  |>.add 177 Try.t177 (by kernel_rfl)
  |>.add 178 Try.t178 (by kernel_rfl)
  |>.add 179 Try.t179 (by kernel_rfl)
  |>.add 180 Try.t180 (by kernel_rfl)
  |>.add 181 Try.t181 (by kernel_rfl)
  |>.add 182 Try.t182 (by kernel_rfl)
  |>.add 183 Try.t183 (by kernel_rfl)
  |>.add 184 Try.t184 (by kernel_rfl)
  |>.add 185 Try.t185 (by kernel_rfl)
  |>.add 186 Try.t186 (by kernel_rfl)
  |>.add 187 Try.t187 (by kernel_rfl)
  |>.add 188 Try.t188 (by kernel_rfl)
  |>.add 189 Try.t189 (by kernel_rfl)
  |>.add 190 Try.t190 (by kernel_rfl)
  |>.add 191 Try.t191 (by kernel_rfl)
  |>.add 192 Try.t192 (by kernel_rfl)
  |>.add 9 Try.t9 (by kernel_rfl)
  |>.add 5 Try.t5 (by kernel_rfl)
  |>.add 41 Try.t41 (by kernel_rfl)
  |>.add 171 Try.t171 (by kernel_rfl)
  |>.add 130 Try.t130 (by kernel_rfl)
  |>.add 140 Try.t140 (by kernel_rfl)
  |>.add 110 Try.t110 (by kernel_rfl)
  |>.add 26 Try.t26 (by kernel_rfl)
  |>.add 4 Try.t4 (by kernel_rfl)
  |>.add 34 Try.t34 (by kernel_rfl)
  |>.add 123 Try.t123 (by kernel_rfl)
  |>.add 71 Try.t71 (by kernel_rfl)
  |>.add 23 Try.t23 (by kernel_rfl)
  |>.add 25 Try.t25 (by kernel_rfl)
  |>.add 63 Try.t63 (by kernel_rfl)
  |>.add 32 Try.t32 (by kernel_rfl)
  |>.add 3 Try.t3 (by kernel_rfl)
theorem Try.mixed : Try.prog.follows .mixedOrders = true := by kernel_rfl
end Go.Proofs
end

section
/- Plain: numbers by their digits to the base 2^32. No program in sight. -/
namespace Go.KL
abbrev B : Nat := 4294967296
def dg (x i : Nat) : Nat := x / B ^ i % B
def val (g : Nat → Nat) : Nat → Nat
  | 0 => 0
  | n + 1 => val g n + g n * B ^ n
theorem B_pos (n : Nat) : 0 < B ^ n := Nat.pow_pos (by decide)
theorem dg_lt (x i : Nat) : dg x i < B := Nat.mod_lt _ (by decide)
theorem B_succ (n : Nat) : B ^ (n + 1) = B ^ n * B := Nat.pow_succ ..
theorem B_le {m n : Nat} (h : m ≤ n) : B ^ m ≤ B ^ n := Nat.pow_le_pow_right (by decide) h
theorem B_lt {m n : Nat} (h : m < n) : B ^ m < B ^ n := Nat.pow_lt_pow_right (by decide) h
def Dig (g : Nat → Nat) (n : Nat) : Prop := ∀ i, i < n → g i < B
theorem Dig.dg (x n : Nat) : Dig (dg x) n := fun i _ => dg_lt x i
theorem Dig.less {g : Nat → Nat} {m n : Nat} (h : Dig g n) (hm : m ≤ n) : Dig g m := fun i hi => h i (by omega)
theorem Dig.upd {g : Nat → Nat} {n k x : Nat} (h : Dig g n) (hx : x < B) : Dig (fun j => if j = k then x else g j) n := fun i hi => by
  show (if i = k then x else g i) < B
  split
  · exact hx
  · exact h i hi
theorem val_lt {g : Nat → Nat} : ∀ {n : Nat}, Dig g n → val g n < B ^ n
  | 0, _ => by simp [val]
  | n + 1, h => by
    have h1 := val_lt (h.less (Nat.le_succ n))
    have h2 : g n + 1 ≤ B := h n (Nat.lt_succ_self n)
    have h3 := Nat.mul_le_mul_right (B ^ n) h2
    rw [B_succ, Nat.mul_comm (B ^ n) B]
    simp only [val]
    rw [Nat.add_mul] at h3
    omega
theorem val_congr {g g' : Nat → Nat} : ∀ {n : Nat}, (∀ i, i < n → g i = g' i) → val g n = val g' n
  | 0, _ => rfl
  | n + 1, h => by simp only [val]; rw [val_congr (fun i hi => h i (by omega)), h n (by omega)]
theorem val_dg (x : Nat) : ∀ n, val (dg x) n = x % B ^ n
  | 0 => by simp [val, Nat.mod_one]
  | n + 1 => by
    simp only [val]
    rw [val_dg x n, B_succ, Nat.mod_mul, dg, Nat.mul_comm]
theorem val_split (g : Nat → Nat) (m : Nat) : ∀ n, val g (m + n) = val g m + B ^ m * val (fun i => g (m + i)) n
  | 0 => by simp [val]
  | n + 1 => by
    rw [← Nat.add_assoc]
    simp only [val]
    rw [val_split g m n, Nat.pow_add]
    grind
theorem val_zero {g : Nat → Nat} : ∀ {n : Nat}, (∀ i, i < n → g i = 0) → val g n = 0
  | 0, _ => rfl
  | n + 1, h => by simp only [val]; rw [val_zero (fun i hi => h i (by omega)), h n (by omega)]; simp
theorem dg_val {g : Nat → Nat} {n i : Nat} (h : Dig g n) (hi : i < n) : dg (val g n) i = g i := by
  have e : n = i + (1 + (n - i - 1)) := by omega
  rw [e, val_split, val_split]
  have h1 : val g i < B ^ i := val_lt (h.less (by omega))
  have h2 : g i < B := h i hi
  unfold dg
  rw [Nat.add_mul_div_left _ _ (B_pos i), Nat.div_eq_of_lt h1, Nat.zero_add]
  have h3 : val (fun k => g (i + k)) 1 = g i := by simp [val]
  rw [h3, Nat.pow_one, Nat.add_mul_mod_self_left, Nat.mod_eq_of_lt h2]
/-- How many digits. -/
def wl (x : Nat) : Nat := if h : x = 0 then 0 else wl (x / B) + 1
termination_by x
decreasing_by exact Nat.div_lt_self (Nat.pos_of_ne_zero h) (by decide)
theorem wl_zero : wl 0 = 0 := by rw [wl]; simp
theorem wl_pos {x : Nat} (h : x ≠ 0) : wl x = wl (x / B) + 1 := by rw [wl]; simp [h]
theorem wl_le : ∀ {n x : Nat}, wl x ≤ n ↔ x < B ^ n
  | 0, x => by
    by_cases h : x = 0
    · subst h; simp [wl_zero]
    · rw [wl_pos h]; simp [h]
  | n + 1, x => by
    by_cases h : x = 0
    · subst h; simp [wl_zero, B_pos]
    · rw [wl_pos h, Nat.add_le_add_iff_right, wl_le, B_succ, Nat.div_lt_iff_lt_mul (by decide)]
theorem lt_wl (x : Nat) : x < B ^ wl x := wl_le.1 (Nat.le_refl _)
theorem wl_ge {x n : Nat} (h : n < wl x) : B ^ n ≤ x := by
  rcases Nat.lt_or_ge x (B ^ n) with h1 | h1
  · have := wl_le.2 h1; omega
  · exact h1
theorem val_wl (x : Nat) : val (dg x) (wl x) = x := by rw [val_dg, Nat.mod_eq_of_lt (lt_wl x)]
theorem val_of_le {x n : Nat} (h : wl x ≤ n) : val (dg x) n = x := by rw [val_dg, Nat.mod_eq_of_lt (wl_le.1 h)]
theorem dg_out {x i : Nat} (h : wl x ≤ i) : dg x i = 0 := by
  unfold dg
  rw [Nat.div_eq_of_lt (wl_le.1 h), Nat.zero_mod]
theorem wl_val {g : Nat → Nat} {n : Nat} (h : Dig g n) (ht : 0 < n → g (n - 1) ≠ 0) : wl (val g n) = n := by
  apply Nat.le_antisymm
  · exact wl_le.2 (val_lt h)
  · rcases Nat.eq_zero_or_pos n with h0 | h0
    · omega
    · rcases Nat.lt_or_ge (wl (val g n)) n with h1 | h1
      · have h2 : val g n < B ^ (n - 1) := wl_le.1 (by omega)
        obtain ⟨k, rfl⟩ : ∃ k, n = k + 1 := ⟨n - 1, by omega⟩
        simp only [val, Nat.add_sub_cancel] at h2 ht
        have h3 : 1 * B ^ k ≤ g k * B ^ k := Nat.mul_le_mul_right _ (Nat.pos_of_ne_zero (ht (by omega)))
        omega
      · exact h1
theorem dg_top {x : Nat} (h : 0 < wl x) : dg x (wl x - 1) ≠ 0 := by
  intro e
  have h1 : val (dg x) (wl x - 1 + 1) = x := by rw [Nat.sub_add_cancel h]; exact val_wl x
  simp only [val, e, Nat.zero_mul, Nat.add_zero] at h1
  have h2 := val_lt (Dig.dg x (wl x - 1))
  rw [h1] at h2
  have := wl_le.2 h2
  omega
theorem wl_eq_zero {x : Nat} : wl x = 0 ↔ x = 0 := by
  constructor
  · intro h
    have := lt_wl x
    rw [h] at this
    simpa using this
  · intro h; subst h; exact wl_zero
theorem wl_one : wl 1 = 1 := by rw [wl_pos (by decide), Nat.div_eq_of_lt (by decide), wl_zero]
theorem wl_mono {x y : Nat} (h : x ≤ y) : wl x ≤ wl y := wl_le.2 (Nat.lt_of_le_of_lt h (lt_wl y))
theorem dg_zero (x : Nat) : dg x 0 = x % B := by simp [dg]
/-- One digit anew. -/
theorem val_upd {g : Nat → Nat} {k x : Nat} : ∀ {n : Nat}, k < n → val (fun j => if j = k then x else g j) n + g k * B ^ k = val g n + x * B ^ k
  | 0, h => absurd h (Nat.not_lt_zero _)
  | n + 1, h => by
    simp only [val]
    by_cases hk : k = n
    · subst hk
      rw [val_congr (g' := g) (fun i hi => by simp [show i ≠ k by omega])]
      simp
      omega
    · have := val_upd (g := g) (x := x) (n := n) (k := k) (by omega)
      simp only [show n ≠ k by omega, if_false]
      omega
/-- Comparing from the top. -/
theorem val_lt_of {f g : Nat → Nat} {n k : Nat} (hf : Dig f n) (hk : k < n) (he : ∀ i, k < i → i < n → f i = g i) (hlt : f k < g k) : val f n < val g n := by
  have e : n = k + (1 + (n - k - 1)) := by omega
  rw [e, val_split f, val_split g, val_split (fun i => f (k + i)), val_split (fun i => g (k + i))]
  have h1 : val f k < B ^ k := val_lt (hf.less (by omega))
  have h2 : val (fun i => f (k + (1 + i))) (n - k - 1) = val (fun i => g (k + (1 + i))) (n - k - 1) := val_congr fun i hi => he _ (by omega) (by omega)
  rw [h2]
  have h3 : val (fun i => f (k + i)) 1 = f k := by simp [val]
  have h4 : val (fun i => g (k + i)) 1 = g k := by simp [val]
  rw [h3, h4, Nat.mul_add, Nat.mul_add]
  have h5 : B ^ k * (f k + 1) ≤ B ^ k * g k := Nat.mul_le_mul_left _ hlt
  rw [Nat.mul_add, Nat.mul_one] at h5
  omega
end Go.KL
end

section
/- Numbers as words in memory: views, and how they last. No program in sight. -/
namespace Go.KL
def blk : Value → Nat
  | .slice (some a) _ _ => a.block
  | _ => 0
def off : Value → Nat
  | .slice (some a) _ _ => a.off
  | _ => 0
/-- Words in memory. -/
class RawV (C : World → Prop) (v : Value) (n : outParam Nat) (g : outParam (Nat → Nat)) : Prop where
  ok : ∃ pa c, v = .slice pa n c ∧ n ≤ c ∧ c ≤ maxLen ∧ (0 < n → ∃ b o, pa = some ⟨b, o, none⟩ ∧ ∀ w, C w → ∃ l, w.heap[b]? = some (row 123 l) ∧ ∀ i, i < n → l[o + i]? = some (.int .u32 (g i : Int)))
/-- A number. -/
class NatV (C : World → Prop) (v : Value) (x : outParam Nat) : Prop where
  raw : RawV C v (wl x) (dg x)
theorem RawV.cls {C D : World → Prop} {v : Value} {n : Nat} {g : Nat → Nat} (h : RawV C v n g) (hC : ∀ w, D w → C w) : RawV D v n g := by
  obtain ⟨pa, c, h1, h2, h3, h4⟩ := h.ok
  refine ⟨pa, c, h1, h2, h3, fun hn => ?_⟩
  obtain ⟨b, o, h5, h6⟩ := h4 hn
  exact ⟨b, o, h5, fun w hw => h6 w (hC w hw)⟩
theorem RawV.congr {C : World → Prop} {v : Value} {n : Nat} {g g' : Nat → Nat} (h : RawV C v n g) (hg : ∀ i, i < n → g i = g' i) : RawV C v n g' := by
  obtain ⟨pa, c, h1, h2, h3, h4⟩ := h.ok
  refine ⟨pa, c, h1, h2, h3, fun hn => ?_⟩
  obtain ⟨b, o, h5, h6⟩ := h4 hn
  refine ⟨b, o, h5, fun w hw => ?_⟩
  obtain ⟨l, h7, h8⟩ := h6 w hw
  exact ⟨l, h7, fun i hi => by rw [h8 i hi, hg i hi]⟩
theorem NatV.cls {C D : World → Prop} {v : Value} {x : Nat} (h : NatV C v x) (hC : ∀ w, D w → C w) : NatV D v x := ⟨h.raw.cls hC⟩
theorem NatV.of {C : World → Prop} {v : Value} {x y : Nat} (h : NatV C v x) (e : x = y) : NatV C v y := e ▸ h
section
variable {W : World} {Ls N : List Chunk} {C : World → Prop} {v : Value} {x n : Nat} {g : Nat → Nat}
instance NatV.rawI [h : NatV C v x] : RawV C v (wl x) (dg x) := h.raw
instance RawV.cons {c : Chunk} [h : RawV (K W Ls) v n g] : RawV (K W (c :: Ls)) v n g := h.cls fun _ h => h.tail
instance NatV.cons {c : Chunk} [h : NatV (K W Ls) v x] : NatV (K W (c :: Ls)) v x := h.cls fun _ h => h.tail
theorem K.front_of {F : List Chunk} {w : World} (h : K W (N ++ F) w) : K W N w := h.weak F.flatten (by simp)
instance NatV.app {F : List Chunk} [h : NatV (K W N) v x] : NatV (K W (N ++ F)) v x := h.cls fun _ h => h.front_of
instance RawV.app {F : List Chunk} [h : RawV (K W N) v n g] : RawV (K W (N ++ F)) v n g := h.cls fun _ h => h.front_of
theorem NatV.nil {pa : Option Addr} {c : Nat} (hc : c ≤ maxLen) : NatV C (.slice pa 0 c) 0 := by
  constructor
  rw [wl_zero]
  exact ⟨pa, c, rfl, Nat.zero_le _, hc, fun h => absurd h (Nat.lt_irrefl 0)⟩
instance NatV.nilI : NatV C (.slice none 0 0) 0 := NatV.nil (Nat.zero_le _)
theorem NatV.ofRaw (h : RawV C v n g) (hd : Dig g n) (ht : 0 < n → g (n - 1) ≠ 0) : NatV C v (val g n) := by
  constructor
  rw [wl_val hd ht]
  exact h.congr fun i hi => (dg_val hd hi).symm
/-- A row of words of one's own. -/
abbrev u32s (n : Nat) (g : Nat → Nat) (rest : List Value) : Obj := arr 123 n (fun i => .int .u32 (g i : Int)) rest
theorem RawV.own {b c : Nat} {rest : List Value} {ch : Chunk} (hc : n ≤ c) (hm : c ≤ maxLen) : RawV (K W (((b, u32s n g rest) :: ch) :: Ls)) (.slice (some ⟨b, 0, none⟩) n c) n g := by
  refine ⟨_, _, rfl, hc, hm, fun hn => ⟨b, 0, rfl, fun w hw => ⟨_, hw.at (i := 0) rfl, fun i hi => ?_⟩⟩⟩
  rw [Nat.zero_add]
  exact arr_get hi
end

/-! ### Reading -/
section
variable {P : Program} {m : Nat} {σ : Slots} {C : World → Prop} {v : Value} {n : Nat} {g : Nat → Nat} {dst : Option Tmp} {ty : TypeId} {pos : String} {after : Array Edge} {guard : Option (Nat × Bool)}
theorem y_lenR (T : Tab P) {x : Operand} {t e : TypeId} (hx : ev σ x = some v) (ht : T.und t = some (.slice e)) [h : RawV C v n g] :
    Ylds P m σ C ⟨dst, .call ⟨.builtin .len, #[x], #[t]⟩, ty, pos, after, guard⟩ (.int .i64 n) := by
  obtain ⟨pa, c, h1, _⟩ := h.ok
  subst h1
  exact y_len T hx ht
theorem y_ixR (T : Tab P) {x i : Operand} {t e : TypeId} {k : IntKind} {z : Int} (hx : ev σ x = some v) (hi : ev σ i = some (.int k z)) (ht : T.und t = some (.slice e)) (hs : T.size e = some 1) [h : RawV C v n g] (j : Nat) (hj : z = (j : Int)) (hlt : j < n) :
    Ylds P m σ C ⟨dst, .indexAddr t x i, ty, pos, after, guard⟩ (.pointer (some ⟨blk v, off v + j, none⟩)) := by
  obtain ⟨pa, c, h1, _, _, h4⟩ := h.ok
  obtain ⟨b, o, h5, _⟩ := h4 (by omega)
  subst h5
  subst h1
  have := y_indexAddr (n := m) (C := C) (dst := dst) (ty := ty) (pos := pos) (after := after) (guard := guard) T hx hi ht hs j hj hlt
  rwa [Nat.mul_one] at this
theorem cell_R [h : RawV C v n g] {j : Nat} (hj : j < n) : CellIs C ⟨blk v, off v + j, none⟩ (.int .u32 (g j : Int)) := by
  obtain ⟨pa, c, h1, _, _, h4⟩ := h.ok
  obtain ⟨b, o, h5, h6⟩ := h4 (by omega)
  subst h5
  subst h1
  intro w hw
  obtain ⟨l, h7, h8⟩ := h6 w hw
  show w.cell? ⟨b, o + j, none⟩ = _
  simp [World.cell?, h7, h8 j hj]
theorem y_ldR (T : Tab P) {x : Operand} {t : TypeId} {j : Nat} (hx : ev σ x = some (.pointer (some ⟨blk v, off v + j, none⟩))) (ha : T.agg t = some false) [h : RawV C v n g] (hj : j < n) :
    Ylds P m σ C ⟨dst, .load t x, ty, pos, after, guard⟩ (.int .u32 (g j : Int)) := y_load T hx ha (cell_R hj)
/-- The first k, with this room. -/
def vto : Value → Nat → Nat → Value
  | .slice pa _ _, k, c => .slice pa k c
  | v, _, _ => v
def vfrom : Value → Nat → Value
  | .slice pa n c, k => .slice (if c = k then pa else pa.map (·.add (k * 1))) (n - k) (c - k)
  | v, _ => v
theorem RawV.to (h : RawV C v n g) {k c : Nat} (hk : k ≤ n) (hc : k ≤ c) (hm : c ≤ maxLen) : RawV C (vto v k c) k g := by
  obtain ⟨pa, c', h1, h2, h3, h4⟩ := h.ok
  subst h1
  refine ⟨pa, c, rfl, hc, hm, fun hn => ?_⟩
  obtain ⟨b, o, h5, h6⟩ := h4 (by omega)
  refine ⟨b, o, h5, fun w hw => ?_⟩
  obtain ⟨l, h7, h8⟩ := h6 w hw
  exact ⟨l, h7, fun i hi => h8 i (by omega)⟩
theorem RawV.from (h : RawV C v n g) {k : Nat} (hk : k ≤ n) : RawV C (vfrom v k) (n - k) (fun i => g (k + i)) := by
  obtain ⟨pa, c', h1, h2, h3, h4⟩ := h.ok
  subst h1
  refine ⟨_, _, rfl, by omega, by omega, fun hn => ?_⟩
  obtain ⟨b, o, h5, h6⟩ := h4 (by omega)
  subst h5
  rw [if_neg (by omega)]
  refine ⟨b, o + k, by simp [addr_add], fun w hw => ?_⟩
  obtain ⟨l, h7, h8⟩ := h6 w hw
  exact ⟨l, h7, fun i hi => by rw [Nat.add_assoc]; exact h8 _ (by omega)⟩
theorem y_sl3R (T : Tab P) {x a2 a3 : Operand} {t e : TypeId} {s hi mx : Nat} {z2 z3 : Int} (hx : ev σ x = some v) (hh : ev σ a2 = some (.int .i64 z2)) (hm : ev σ a3 = some (.int .i64 z3)) (ht : T.und t = some (.slice e)) (hs : T.size e = some s) [h : RawV C v n g]
    (e2 : z2 = (hi : Int)) (e3 : z3 = (mx : Int)) (h2 : hi ≤ mx) (h3 : mx ≤ n) :
    Ylds P m σ C ⟨dst, .slice t x none (some a2) (some a3), ty, pos, after, guard⟩ (vto v hi mx) := by
  obtain ⟨pa, c', h1, h4, _, _⟩ := h.ok
  subst h1
  exact y_slice3To T hx hh hm ht hs e2 e3 h2 (by omega)
theorem y_slFromR (T : Tab P) {x a1 : Operand} {t e : TypeId} {lo : Nat} {z1 : Int} (hx : ev σ x = some v) (hl : ev σ a1 = some (.int .i64 z1)) (ht : T.und t = some (.slice e)) (hs : T.size e = some 1) [h : RawV C v n g]
    (e1 : z1 = (lo : Int)) (h1 : lo ≤ n) : Ylds P m σ C ⟨dst, .slice t x (some a1) none none, ty, pos, after, guard⟩ (vfrom v lo) := by
  obtain ⟨pa, c', h2, h4, _, _⟩ := h.ok
  subst h2
  exact y_sliceFrom T hx hl ht hs e1 h1 (by omega)
def vcap : Value → Nat
  | .slice _ _ c => c
  | _ => 0
theorem RawV.cap (h : RawV C v n g) : n ≤ vcap v ∧ vcap v ≤ maxLen := by
  obtain ⟨pa, c', h2, h4, h5, _⟩ := h.ok
  subst h2
  exact ⟨h4, h5⟩
theorem y_slToR (T : Tab P) {x a2 : Operand} {t e : TypeId} {s hi : Nat} {z2 : Int} (hx : ev σ x = some v) (hh : ev σ a2 = some (.int .i64 z2)) (ht : T.und t = some (.slice e)) (hs : T.size e = some s) [h : RawV C v n g]
    (e2 : z2 = (hi : Int)) (h2 : hi ≤ n) : Ylds P m σ C ⟨dst, .slice t x none (some a2) none, ty, pos, after, guard⟩ (vto v hi (vcap v)) := by
  obtain ⟨pa, c', h3, h4, _, _⟩ := h.ok
  subst h3
  exact y_sliceTo T hx hh ht hs e2 (by show hi ≤ c'; omega)
end

/-! ### Results -/
/-- A number that a call has made, and what it has made besides. -/
structure Res (W : World) (N : List Chunk) (z : Nat) where
  L : Chunk
  v : Value
  ok : NatV (K W (L :: N)) v z
structure Res2 (W : World) (N : List Chunk) (z1 z2 : Nat) where
  L : Chunk
  v1 : Value
  v2 : Value
  ok1 : NatV (K W (L :: N)) v1 z1
  ok2 : NatV (K W (L :: N)) v2 z2
instance Res.inst {W : World} {N : List Chunk} {z : Nat} (r : Res W N z) : NatV (K W (r.L :: N)) r.v z := r.ok
instance Res2.inst1 {W : World} {N : List Chunk} {z1 z2 : Nat} (r : Res2 W N z1 z2) : NatV (K W (r.L :: N)) r.v1 z1 := r.ok1
instance Res2.inst2 {W : World} {N : List Chunk} {z1 z2 : Nat} (r : Res2 W N z1 z2) : NatV (K W (r.L :: N)) r.v2 z2 := r.ok2
/-- A part of what was there. -/
structure Prt (C : World → Prop) (z : Nat) where
  v : Value
  ok : NatV C v z
instance Prt.inst {C : World → Prop} {z : Nat} (r : Prt C z) : NatV C r.v z := r.ok

/-! ### What holds beside boxes holds without them -/
def notU : Obj → Bool
  | .cells _ t => !(Nat.beq t 123)
  | _ => true
def boxes (F : List Chunk) : Bool := F.all fun c => c.all fun e => notU e.2
/-- The world with a block put in. -/
def putAt (w : World) (b : Nat) (o : Obj) : World :=
  { w with heap := ((List.range (max w.heap.size (b + 1))).map fun k => if k = b then o else (w.heap[k]?).getD (.deferred none)).toArray }
theorem putAt_size (w : World) (b : Nat) (o : Obj) : (putAt w b o).heap.size = max w.heap.size (b + 1) := by simp [putAt]
theorem putAt_same (w : World) (b : Nat) (o : Obj) : (putAt w b o).heap[b]? = some o := by
  have : b < max w.heap.size (b + 1) := by omega
  simp [putAt, this]
theorem putAt_other (w : World) {b k : Nat} (o : Obj) (h : k ≠ b) (hk : k < w.heap.size) : (putAt w b o).heap[k]? = w.heap[k]? := by
  have : k < max w.heap.size (b + 1) := by omega
  simp [putAt, this, h, hk]
theorem putAt_beyond (w : World) {b k : Nat} (o : Obj) {l : List Value} (h : k ≠ b) (hk : (putAt w b o).heap[k]? = some (row 123 l)) : w.heap[k]? = some (row 123 l) := by
  rcases Nat.lt_or_ge k w.heap.size with h1 | h1
  · rwa [putAt_other w o h h1] at hk
  · exfalso
    rcases Nat.lt_or_ge k (max w.heap.size (b + 1)) with h2 | h2
    · simp [putAt, h2, h, Array.getElem?_eq_none h1, row] at hk
    · rw [Array.getElem?_eq_none (by rw [putAt_size]; omega)] at hk
      cases hk
theorem unframe1 {W : World} {Ls : List Chunk} {b : Nat} {o : Obj} {v : Value} {x : Nat} {w0 : World} (hw0 : K W (Ls ++ [[(b, o)]]) w0) (ho : notU o = true) (h : NatV (K W (Ls ++ [[(b, o)]])) v x) : NatV (K W Ls) v x := by
  have hfl : (Ls ++ [[(b, o)]]).flatten = Ls.flatten ++ [(b, o)] := by simp
  have hnd := hw0.nd
  rw [hfl, List.map_append, List.nodup_append] at hnd
  obtain ⟨nd1, _, nd3⟩ := hnd
  have hbW := (hw0.own (b, o) (by rw [hfl]; simp)).1
  have key : ∀ w, K W Ls w → K W (Ls ++ [[(b, o)]]) (putAt w b o) := by
    intro w hw
    refine ⟨hw.os, hw.tape, hw.output, by rw [putAt_size]; have := hw.size; omega, ?_, ?_, ?_⟩
    · intro k hk
      rw [putAt_other w o (by simp at hbW; omega) (by have := hw.size; omega)]
      exact hw.base k hk
    · intro e he
      rw [hfl] at he
      rcases List.mem_append.1 he with he | he
      · have h1 := hw.own e he
        have hne : e.1 ≠ b := nd3 e.1 (List.mem_map.2 ⟨e, he, rfl⟩) b (by simp)
        exact ⟨h1.1, by rw [putAt_other w o hne (heap_lt h1.2)]; exact h1.2⟩
      · simp only [List.mem_singleton] at he
        subst he
        exact ⟨hbW, putAt_same w b o⟩
    · rw [hfl, List.map_append, List.nodup_append]
      exact ⟨nd1, by simp, nd3⟩
  constructor
  obtain ⟨pa, c, h1, h2, h3, h4⟩ := h.raw.ok
  refine ⟨pa, c, h1, h2, h3, fun hn => ?_⟩
  obtain ⟨b', o', h5, h6⟩ := h4 hn
  refine ⟨b', o', h5, fun w hw => ?_⟩
  obtain ⟨l, h7, h8⟩ := h6 _ (key w hw)
  refine ⟨l, putAt_beyond w o ?_ h7, h8⟩
  intro e
  subst e
  rw [putAt_same] at h7
  simp only [Option.some.injEq] at h7
  subst h7
  simp [notU, row] at ho
theorem flat1 : ∀ c : Chunk, (c.map fun e => [e]).flatten = c
  | [] => rfl
  | e :: r => by simp only [List.map_cons, List.flatten_cons, flat1 r, List.singleton_append]
theorem K.unflat {W w : World} {Ls : List Chunk} {c : Chunk} (h : K W (Ls ++ [c]) w) : K W (Ls ++ c.map fun e => [e]) w := h.weak [] (by simp [flat1 c])
theorem K.reflat {W w : World} {Ls : List Chunk} {c : Chunk} (h : K W (Ls ++ c.map fun e => [e]) w) : K W (Ls ++ [c]) w := h.weak [] (by simp [flat1 c])
theorem unframeS {W : World} {v : Value} {x : Nat} {w0 : World} : ∀ (c : Chunk) {Ls : List Chunk}, K W (Ls ++ c.map fun e => [e]) w0 → c.all (fun e => notU e.2) = true → NatV (K W (Ls ++ c.map fun e => [e])) v x → NatV (K W Ls) v x
  | [], Ls, _, _, h => by simpa using h
  | e :: r, Ls, hw0, ho, h => by
    simp only [List.all_cons, Bool.and_eq_true] at ho
    have e1 : Ls ++ (e :: r).map (fun e => [e]) = (Ls ++ [[e]]) ++ r.map fun e => [e] := by simp
    rw [e1] at hw0 h
    exact unframe1 (b := e.1) (o := e.2) hw0.front_of ho.1 (unframeS r hw0 ho.2 h)
theorem unframe {W : World} {v : Value} {x : Nat} {w0 : World} : ∀ (F : List Chunk) {Ls : List Chunk}, boxes F = true → K W (Ls ++ F) w0 → NatV (K W (Ls ++ F)) v x → NatV (K W Ls) v x
  | [], Ls, _, _, h => by simpa using h
  | c :: F, Ls, hF, hw0, h => by
    simp only [boxes, List.all_cons, Bool.and_eq_true] at hF
    have e1 : Ls ++ c :: F = (Ls ++ [c]) ++ F := by simp
    rw [e1] at hw0 h
    have h1 := unframe F hF.2 hw0 h
    exact unframeS c hw0.front_of.unflat hF.1 (h1.cls fun _ hw => hw.reflat)

/-! ### Calls beside boxes -/
section
variable {P : Program} {W : World} {N : List Chunk} {n : Nat} {σ : Slots} {Q : Post} {ops : Array Oper} {o : Oper} {rest : List Oper} {d : Nat} {f : FuncId} {args : Array Value} {z z1 z2 : Nat}
theorem Spec.boxed (F : List Chunk) {u : Value → Value} (hF : boxes F = true) (hs : Spec P f args (K W (N ++ F)) (X := Res W (N ++ F) z) (fun r => u r.v) (fun r => K W (r.L :: (N ++ F)))) :
    Spec P f args (K W (F ++ N)) (X := Res W N z) (fun r => u r.v) (fun r => K W (F ++ r.L :: N)) := by
  intro w hw
  have hw' : K W (N ++ F) w := hw.weak [] (by simp [List.perm_append_comm])
  refine (hs w hw').mono ?_
  rintro e w' ⟨r, rfl, hk⟩
  have hk' : K W ((r.L :: N) ++ F) w' := hk
  refine ⟨⟨r.L, r.v, unframe F hF hk' r.ok⟩, rfl, hk'.weak [] ?_⟩
  simp only [List.flatten_append, List.append_nil]
  exact List.perm_append_comm
theorem Spec.boxed2 (F : List Chunk) {u : Value → Value → Value} (hF : boxes F = true) (hs : Spec P f args (K W (N ++ F)) (X := Res2 W (N ++ F) z1 z2) (fun r => u r.v1 r.v2) (fun r => K W (r.L :: (N ++ F)))) :
    Spec P f args (K W (F ++ N)) (X := Res2 W N z1 z2) (fun r => u r.v1 r.v2) (fun r => K W (F ++ r.L :: N)) := by
  intro w hw
  have hw' : K W (N ++ F) w := hw.weak [] (by simp [List.perm_append_comm])
  refine (hs w hw').mono ?_
  rintro e w' ⟨r, rfl, hk⟩
  have hk' : K W ((r.L :: N) ++ F) w' := hk
  refine ⟨⟨r.L, r.v1, r.v2, unframe F hF hk' r.ok1, unframe F hF hk' r.ok2⟩, rfl, hk'.weak [] ?_⟩
  simp only [List.flatten_append, List.append_nil]
  exact List.perm_append_comm
variable {c1 c2 c3 c4 : Chunk} {u : Value → Value} {u2 : Value → Value → Value}
theorem bx1 (hs : Spec P f args (K W (N ++ [c1])) (X := Res W (N ++ [c1]) z) (fun r => u r.v) (fun r => K W (r.L :: (N ++ [c1])))) (hF : boxes [c1] = true) :
    Spec P f args (K W (c1 :: N)) (X := Res W N z) (fun r => u r.v) (fun r => K W (c1 :: r.L :: N)) := Spec.boxed [c1] hF hs
theorem bx2 (hs : Spec P f args (K W (N ++ [c1, c2])) (X := Res W (N ++ [c1, c2]) z) (fun r => u r.v) (fun r => K W (r.L :: (N ++ [c1, c2])))) (hF : boxes [c1, c2] = true) :
    Spec P f args (K W (c1 :: c2 :: N)) (X := Res W N z) (fun r => u r.v) (fun r => K W (c1 :: c2 :: r.L :: N)) := Spec.boxed [c1, c2] hF hs
theorem bx3 (hs : Spec P f args (K W (N ++ [c1, c2, c3])) (X := Res W (N ++ [c1, c2, c3]) z) (fun r => u r.v) (fun r => K W (r.L :: (N ++ [c1, c2, c3])))) (hF : boxes [c1, c2, c3] = true) :
    Spec P f args (K W (c1 :: c2 :: c3 :: N)) (X := Res W N z) (fun r => u r.v) (fun r => K W (c1 :: c2 :: c3 :: r.L :: N)) := Spec.boxed [c1, c2, c3] hF hs
theorem bx4 (hs : Spec P f args (K W (N ++ [c1, c2, c3, c4])) (X := Res W (N ++ [c1, c2, c3, c4]) z) (fun r => u r.v) (fun r => K W (r.L :: (N ++ [c1, c2, c3, c4])))) (hF : boxes [c1, c2, c3, c4] = true) :
    Spec P f args (K W (c1 :: c2 :: c3 :: c4 :: N)) (X := Res W N z) (fun r => u r.v) (fun r => K W (c1 :: c2 :: c3 :: c4 :: r.L :: N)) := Spec.boxed [c1, c2, c3, c4] hF hs
theorem by1 (hs : Spec P f args (K W (N ++ [c1])) (X := Res2 W (N ++ [c1]) z1 z2) (fun r => u2 r.v1 r.v2) (fun r => K W (r.L :: (N ++ [c1])))) (hF : boxes [c1] = true) :
    Spec P f args (K W (c1 :: N)) (X := Res2 W N z1 z2) (fun r => u2 r.v1 r.v2) (fun r => K W (c1 :: r.L :: N)) := Spec.boxed2 [c1] hF hs
theorem by2 (hs : Spec P f args (K W (N ++ [c1, c2])) (X := Res2 W (N ++ [c1, c2]) z1 z2) (fun r => u2 r.v1 r.v2) (fun r => K W (r.L :: (N ++ [c1, c2])))) (hF : boxes [c1, c2] = true) :
    Spec P f args (K W (c1 :: c2 :: N)) (X := Res2 W N z1 z2) (fun r => u2 r.v1 r.v2) (fun r => K W (c1 :: c2 :: r.L :: N)) := Spec.boxed2 [c1, c2] hF hs
theorem by3 (hs : Spec P f args (K W (N ++ [c1, c2, c3])) (X := Res2 W (N ++ [c1, c2, c3]) z1 z2) (fun r => u2 r.v1 r.v2) (fun r => K W (r.L :: (N ++ [c1, c2, c3])))) (hF : boxes [c1, c2, c3] = true) :
    Spec P f args (K W (c1 :: c2 :: c3 :: N)) (X := Res2 W N z1 z2) (fun r => u2 r.v1 r.v2) (fun r => K W (c1 :: c2 :: c3 :: r.L :: N)) := Spec.boxed2 [c1, c2, c3] hF hs
end
end Go.KL
end

section
/- Rows of words of one's own: reading, writing, making. No program in sight. -/
namespace Go.KL
section
variable {P : Program} {W w : World} {Ls : List Chunk} {n : Nat} {σ : Slots} {dst : Option Tmp} {ty : TypeId} {pos : String} {after : Array Edge} {guard : Option (Nat × Bool)}
theorem cell_u32 (i : Nat) {b k m : Nat} {g : Nat → Nat} {rest : List Value} {c : Chunk} (hi : Ls.getD i [] = (b, u32s m g rest) :: c) (hk : k < m) : CellIs (K W Ls) ⟨b, k, none⟩ (.int .u32 (g k : Int)) := cell_arr i hi hk
theorem set_u32 (T : Tab P) (i : Nat) {x y : Operand} {t : TypeId} {b k m : Nat} {g : Nat → Nat} {rest : List Value} {z : Int} (u : Nat) (hx : ev σ x = some (.pointer (some ⟨b, k, none⟩))) (hy : ev σ y = some (.int .u32 z))
    (hs : T.size t = some 1) (hi : Ls.getD i [] = [(b, u32s m g rest)]) (hz : z = (u : Int)) (hk : k < m) :
    Sets P n σ (K W Ls) ⟨dst, .store t x y, ty, pos, after, guard⟩ (K W (Ls.set i [(b, u32s m (upd g k u) rest)])) := by
  subst hz
  have := set_arr (W := W) (Ls := Ls) (n := n) (σ := σ) (dst := dst) (ty := ty) (pos := pos) (after := after) (guard := guard) T i hx hy rfl hs hi hk
  rw [upd_map (fun (a : Nat) => Value.int .u32 (a : Int))] at this
  exact this
theorem make_u32 (T : Tab P) {t : TypeId} {x : Operand} {by_ m : Nat} {q : Int} (hx : ev σ x = some (.int .i64 q)) (ht : T.und t = some (.slice 123)) (hz : T.zero 123 = some [.int .u32 0]) (hs : T.size 123 = some 1) (hb : T.bytes 123 = some by_)
    (hq : q = (m : Int)) (hm : by_ * m ≤ 281474976710656 ∧ m ≤ 9223372036854775807) :
    Doos P n σ (K W Ls) ⟨dst, .makeSlice t x x, ty, pos, after, guard⟩ (X := Nat) (fun b => .slice (some ⟨b, 0, none⟩) m m) (fun b => K W ([(b, u32s m (fun _ => 0) [])] :: Ls)) := makes T hx ht hz hs hb hq hm
/-- A row of two words. -/
theorem RawV.two {b : Nat} {p q : Nat} {ch : Chunk} : RawV (K W (((b, row 123 [.int .u32 (p : Int), .int .u32 (q : Int)]) :: ch) :: Ls)) (.slice (some ⟨b, 0, none⟩) 2 2) 2 (fun i => if i = 0 then p else q) := by
  refine ⟨_, _, rfl, Nat.le_refl _, by decide, fun _ => ⟨b, 0, rfl, fun w hw => ⟨_, hw.at (i := 0) rfl, fun i hi => ?_⟩⟩⟩
  rcases i with _ | _ | i
  · rfl
  · rfl
  · omega
theorem upd_get {α : Type} (g : Nat → α) (k j : Nat) (x : α) : upd g k x j = if j = k then x else g j := rfl
theorem Dig.updU {g : Nat → Nat} {n k x : Nat} (h : Dig g n) (hx : x < B) : Dig (KL.upd g k x) n := h.upd hx
theorem val_updU {g : Nat → Nat} {k x n : Nat} (h : k < n) : val (upd g k x) n + g k * B ^ k = val g n + x * B ^ k := val_upd h
/-- As long as its content is not told. -/
theorem RawV.ownT {b m c : Nat} {g : Nat → Nat} {rest : List Value} (i : Nat) {ch : Chunk} (hi : Ls.getD i [] = (b, u32s m g rest) :: ch) (hc : m ≤ c) (hm : c ≤ maxLen) : RawV (K W Ls) (.slice (some ⟨b, 0, none⟩) m c) m g := by
  refine ⟨_, _, rfl, hc, hm, fun hn => ⟨b, 0, rfl, fun w hw => ⟨_, hw.at (i := i) hi, fun j hj => ?_⟩⟩⟩
  rw [Nat.zero_add]
  exact arr_get hj
end
end Go.KL
end

section
/- Copying words. No program in sight. -/
namespace Go.KL
section
variable {P : Program} {W w : World} {Ls : List Chunk} {n : Nat} {σ : Slots} {dst : Option Tmp} {ty : TypeId} {pos : String} {after : Array Edge} {guard : Option (Nat × Bool)}
theorem over_get (vs L : List Value) (off j : Nat) (h : off + vs.length ≤ L.length) : (over L off vs)[j]? = if off ≤ j ∧ j < off + vs.length then vs[j - off]? else L[j]? := by
  have h1 := over_app vs (L.take off) (L.drop off) (by simp; omega)
  rw [List.take_append_drop, List.length_take, Nat.min_eq_left (by omega)] at h1
  rw [h1]
  rcases Nat.lt_or_ge j off with q | q
  · rw [if_neg (by omega), List.append_assoc, List.getElem?_append_left (by simp; omega), List.getElem?_take, if_pos q]
  · rcases Nat.lt_or_ge j (off + vs.length) with q2 | q2
    · rw [if_pos ⟨q, q2⟩, List.append_assoc, List.getElem?_append_right (by simp; omega), List.length_take, Nat.min_eq_left (by omega), List.getElem?_append_left (by omega)]
    · rw [if_neg (by omega), List.getElem?_append_right (by simp; omega), List.length_append, List.length_take, Nat.min_eq_left (by omega), List.drop_drop, List.getElem?_drop]
      congr 1
      omega
/-- What lies there after a copy. -/
def cpy (g : Nat → Nat) (off k : Nat) (g' : Nat → Nat) : Nat → Nat := fun j => if off ≤ j ∧ j < off + k then g' (j - off) else g j
theorem over_u32 {m off k : Nat} {g g' : Nat → Nat} {rest : List Value} (h : off + k ≤ m) :
    over ((List.range m).map (fun i => Value.int .u32 (g i : Int)) ++ rest) off ((List.range k).map fun i => Value.int .u32 (g' i : Int)) = (List.range m).map (fun i => Value.int .u32 (cpy g off k g' i : Int)) ++ rest := by
  apply List.ext_getElem?
  intro j
  rw [over_get _ _ _ _ (by simp; omega)]
  simp only [List.length_map, List.length_range]
  rcases Nat.lt_or_ge j m with q | q
  · rw [List.getElem?_append_left (by simpa using q), List.getElem?_append_left (by simpa using q)]
    simp only [List.getElem?_map, List.getElem?_range q, Option.map_some, cpy]
    by_cases hb : off ≤ j ∧ j < off + k
    · rw [if_pos hb, if_pos hb, List.getElem?_range (by omega)]
      rfl
    · rw [if_neg hb, if_neg hb]
  · rw [if_neg (by omega), List.getElem?_append_right (by simpa using q), List.getElem?_append_right (by simpa using q)]
    simp
theorem do_copyR (T : Tab P) (i : Nat) {x y : Operand} {t t2 e : TypeId} {b off dl dc m k : Nat} {g g' : Nat → Nat} {rest : List Value} {v : Value} (hx : ev σ x = some (.slice (some ⟨b, off, none⟩) dl dc)) (hy : ev σ y = some v) (ht : T.und t = some (.slice e)) (hs : T.size e = some 1)
    [h : RawV (K W Ls) v k g'] (hle : k ≤ dl) (hi : Ls.getD i [] = [(b, u32s m g rest)]) (hoff : off + k ≤ m) :
    Doos P n σ (K W Ls) ⟨dst, .call ⟨.builtin .copy, #[x, y], #[t, t2]⟩, ty, pos, after, guard⟩ (X := Unit) (fun _ => .int .i64 (k : Int)) (fun _ => K W (Ls.set i [(b, u32s m (cpy g off k g') rest)])) := by
  intro a w hE hw
  obtain ⟨pa, c, rfl, hkc, _, hcell⟩ := h.ok
  have hrun : ∀ r, (execOp a.eval ⟨dst, .call ⟨.builtin .copy, #[x, y], #[t, t2]⟩, ty, pos, after, guard⟩).run P w = r ↔ ((Builtin.copy_ #[t, t2] ty #[.slice (some ⟨b, off, none⟩) dl dc, .slice pa k c]).run P w).andThen (fun v w' => .ok (.value v) w') = r := by
    intro r
    simp [execOp, resolve, invoke, builtin, ev_eval hE hx, ev_eval hE hy]
  have hcells : (Builtin.firstCells 1 k (.slice pa k c)).run P w = .ok ((List.range k).map fun i => Value.int .u32 (g' i : Int)).toArray w := by
    rcases Nat.eq_zero_or_pos k with h0 | h0
    · subst h0
      cases pa with
      | none => simp [Builtin.firstCells]
      | some p => exact run_firstCells_at (l := []) (by simp) (by simp)
    · obtain ⟨b2, o2, rfl, h6⟩ := hcell h0
      obtain ⟨l, h7, h8⟩ := h6 w hw
      refine run_firstCells_at (by simp) fun j hj => ?_
      simp only [List.length_map, List.length_range] at hj
      rw [addr_add]
      simp [World.cell?, h7, h8 j hj, hj]
  obtain ⟨w', hr, hk⟩ := storeCells_over (P := P) (W := W) b 123 ((List.range k).map fun i => Value.int .u32 (g' i : Int)) i Ls _ off 0 w hi hw (fun u hu => by
    obtain ⟨j, _, rfl⟩ := List.mem_map.1 hu
    rfl) (by simp; omega)
  rw [Nat.add_zero, over_u32 hoff] at hk
  refine ⟨(), w', ?_, hk⟩
  rw [hrun]
  have hmin : Nat.min k dl = k := Nat.min_eq_left hle
  simp [Builtin.copy_, run_und T ht, run_sizeOf T hs, Builtin.lenOf, hmin, hcells, hr, goInt]
theorem val_cpy {g g' : Nat → Nat} {off k : Nat} (h0 : ∀ j, j < off → g j = 0) : val (cpy g off k g') (off + k) = B ^ off * val g' k := by
  rw [val_split, val_zero (g := cpy g off k g') (fun i hi => by unfold cpy; rw [if_neg (by omega)]; exact h0 i hi), Nat.zero_add]
  congr 1
  refine val_congr fun i hi => ?_
  unfold cpy
  rw [if_pos (by omega), Nat.add_sub_cancel_left]
theorem y_orW {C : World → Prop} {x y : Operand} {t t' : TypeId} {p q : Nat} (hx : ev σ x = some (.int .u64 ((p : Int) * 4294967296))) (hy : ev σ y = some (.int .u64 (q : Int))) (hb : p < 4294967296 ∧ q < 4294967296) :
    Ylds P n σ C ⟨dst, .binOp .or t x y t', ty, pos, after, guard⟩ (.int .u64 ((p * 4294967296 + q : Nat) : Int)) := by
  have h := y_orU (C := C) (P := P) (n := n) (dst := dst) (ty := ty) (pos := pos) (after := after) (guard := guard) (t := t) (t' := t') (p := p * 4294967296) (q := q) (by rw [hx]; simp) hy ⟨by omega, by omega⟩
  have e : (p * 4294967296) ||| q = p * 4294967296 + q := or_add (k := 32) hb.2
  rwa [e] at h
theorem y_orWr {C : World → Prop} {x y : Operand} {t t' : TypeId} {p q : Nat} (hx : ev σ x = some (.int .u64 (q : Int))) (hy : ev σ y = some (.int .u64 ((p : Int) * 4294967296))) (hb : p < 4294967296 ∧ q < 4294967296) :
    Ylds P n σ C ⟨dst, .binOp .or t x y t', ty, pos, after, guard⟩ (.int .u64 ((q + p * 4294967296 : Nat) : Int)) := by
  have h := y_orU (C := C) (P := P) (n := n) (dst := dst) (ty := ty) (pos := pos) (after := after) (guard := guard) (t := t) (t' := t') (p := q) (q := p * 4294967296) hx (by rw [hy]; simp) ⟨by omega, by omega⟩
  have e : q ||| (p * 4294967296) = q + p * 4294967296 := by rw [Nat.or_comm, Nat.add_comm]; exact or_add (k := 32) hb.2
  rwa [e] at h
end
end Go.KL
end

section
/- Walks: norm, words. -/
namespace Go.KL
open Go.Proofs
attribute [local irreducible] SC St Fin Sq Ylds Doos Sets Enters Spec CellIs CellsAre Then Ret Rnd Chn resOK ints bools recs arr
theorem val_cut {g : Nat → Nat} {k n : Nat} (hk : k ≤ n) (h : ∀ i, k ≤ i → i < n → g i = 0) : val g n = val g k := by
  have e : n = k + (n - k) := by omega
  rw [e, val_split, val_zero (g := fun i => g (k + i)) (fun i hi => h _ (by omega) (by omega)), Nat.mul_zero, Nat.add_zero]
theorem norm_spec {C : World → Prop} {v : Value} {n : Nat} {g : Nat → Nat} [hr : RawV C v n g] (hd : Dig g n) : Spec Try.prog 101 #[v] C (X := Prt C (val g n)) (fun r => r.v) (fun _ => C) := by
  have hcap := hr.cap
  have hmx : maxLen = 9223372036854775807 := rfl
  refine enter (args := [_]) Try.func101 rfl Try.ntmps101 rfl ?_
  refine c_seq ?_
  refine c_region ?_
  refine s_y (y_assign rfl) rfl rfl rfl ?_
  refine s_nil ?_
  refine f_then ?_
  refine c_seq ?_
  refine c_region ?_
  refine s_y (y_move rfl) rfl rfl rfl ?_
  refine s_y (y_lenR Try.tab rfl rfl) rfl rfl rfl ?_
  refine s_y (y_assign rfl) rfl rfl rfl ?_
  refine s_nil ?_
  refine f_then ?_
  refine c_seq ?_
  refine c_block ?_
  refine c_loopP (α := Nat) (fun k => [(0, v), (3, .int .i64 k)]) (fun k => k ≤ n ∧ ∀ i, k ≤ i → i < n → g i = 0) (fun _ => C) (fun k => k) n ⟨rfl, rfl, trivial⟩ ⟨Nat.le_refl _, fun i h1 h2 => by omega⟩ (fun w h => h) ?_
  rintro k ⟨hk, h0⟩
  by_cases hk0 : k = 0
  · subst hk0
    refine c_seq ?_
    refine c_seq ?_
    refine c_region ?_
    refine s_y (y_move rfl) rfl rfl rfl ?_
    refine s_y (y_F (y_gtr rfl rfl) (by omega)) rfl rfl rfl ?_
    refine s_y (y_move rfl) rfl rfl rfl ?_
    iterate 6 refine s_skip rfl rfl rfl ?_
    refine s_y (y_pickF rfl rfl) rfl rfl rfl ?_
    refine s_nil ?_
    refine f_then ?_
    refine c_condF rfl ?_
    refine c_exit ?_
    refine f_thenE ?_
    refine f_rndE ?_
    refine f_blockE ?_
    refine f_then ?_
    refine c_seq ?_
    refine c_region ?_
    refine s_y (y_move rfl) rfl rfl rfl ?_
    refine s_y (y_move rfl) rfl rfl rfl ?_
    refine s_y (y_move rfl) rfl rfl rfl ?_
    refine s_y (y_sl3R Try.tab rfl rfl rfl rfl rfl rfl rfl (by omega) (by omega)) rfl rfl rfl ?_
    refine s_y (y_assign rfl) rfl rfl rfl ?_
    refine s_nil ?_
    refine f_then ?_
    refine c_ret ?_
    refine f_ret ⟨vto v 0 0, ?_⟩ (res1 rfl rfl) (fun w h => h)
    have := val_cut hk h0
    rw [this]
    exact NatV.ofRaw (hr.to hk (Nat.le_refl _) (by omega)) (hd.less hk) (fun h => absurd h (by omega))
  refine c_seq ?_
  refine c_seq ?_
  refine c_region ?_
  refine s_y (y_move rfl) rfl rfl rfl ?_
  refine s_y (y_T (y_gtr rfl rfl) (by omega)) rfl rfl rfl ?_
  refine s_y (y_move rfl) rfl rfl rfl ?_
  refine s_y (y_move rfl) rfl rfl rfl ?_
  refine s_y (y_move rfl) rfl rfl rfl ?_
  refine s_y (y_sub rfl rfl (by omega)) rfl rfl rfl ?_
  refine s_y (y_ixR Try.tab rfl rfl rfl rfl _ (Int.toNat_of_nonneg (by omega)).symm (by omega)) rfl rfl rfl ?_
  refine s_y (y_ldR Try.tab rfl rfl (by omega)) rfl rfl rfl ?_
  refine s_y (y_eql rfl rfl) rfl rfl rfl ?_
  refine s_y (y_pickT rfl rfl) rfl rfl rfl ?_
  refine s_nil ?_
  refine f_then ?_
  have e1 : ((k : Int) - 1).toNat = k - 1 := by omega
  refine c_condD rfl (fun hz => ?_) (fun hz => ?_)
  · refine c_skip ?_
    refine f_then ?_
    refine c_block ?_
    refine c_region ?_
    refine s_y (y_move rfl) rfl rfl rfl ?_
    refine s_y (y_sub rfl rfl (by omega)) rfl rfl rfl ?_
    refine s_y (y_assign rfl) rfl rfl rfl ?_
    refine s_nil ?_
    refine f_blockN ?_
    refine f_roundP (k - 1) ⟨by omega, fun i h1 h2 => ?_⟩ (by omega) ⟨rfl, ?_, trivial⟩ (fun w h => h)
    · rcases Nat.lt_or_ge i k with h3 | h3
      · have : i = k - 1 := by omega
        subst this
        rw [e1] at hz
        omega
      · exact h0 i h3 h2
    · show some (Value.int .i64 ((k : Int) - 1)) = _
      congr 2
      omega
  · refine c_exit ?_
    refine f_thenE ?_
    refine f_rndE ?_
    refine f_blockE ?_
    refine f_then ?_
    refine c_seq ?_
    refine c_region ?_
    refine s_y (y_move rfl) rfl rfl rfl ?_
    refine s_y (y_move rfl) rfl rfl rfl ?_
    refine s_y (y_move rfl) rfl rfl rfl ?_
    refine s_y (y_sl3R Try.tab rfl rfl rfl rfl rfl rfl rfl (by omega) (by omega)) rfl rfl rfl ?_
    refine s_y (y_assign rfl) rfl rfl rfl ?_
    refine s_nil ?_
    refine f_then ?_
    refine c_ret ?_
    refine f_ret ⟨vto v k k, ?_⟩ (res1 rfl rfl) (fun w h => h)
    have := val_cut hk h0
    rw [this]
    refine NatV.ofRaw (hr.to hk (Nat.le_refl _) (by omega)) (hd.less hk) (fun _ => ?_)
    rw [e1] at hz
    omega
theorem words_spec {W : World} {N : List Chunk} {x : Nat} (hx : x < 18446744073709551616) : Spec Try.prog 104 #[.int .u64 (x : Int)] (K W N) (X := Res W N x) (fun r => r.v) (fun r => K W (r.L :: N)) := by
  refine enter (args := [_]) Try.func104 rfl Try.ntmps104 rfl ?_
  refine c_seq ?_
  refine c_region ?_
  refine s_y (y_assign rfl) rfl rfl rfl ?_
  refine s_nil ?_
  refine f_then ?_
  refine c_seq ?_
  refine c_region ?_
  refine s_y (y_move rfl) rfl rfl rfl ?_
  refine s_y (y_to32 Try.tab rfl rfl rfl) rfl rfl rfl ?_
  refine s_y (y_move rfl) rfl rfl rfl ?_
  refine s_y (y_shrU (d := 4294967296) rfl rfl (by decide) rfl) rfl rfl rfl ?_
  refine s_y (y_to32 Try.tab rfl rfl rfl) rfl rfl rfl ?_
  refine s_do (do_buildSlice1 Try.tab ⟨rfl, rfl, rfl, rfl⟩ rfl rfl rfl rfl) rfl rfl rfl (fun b8 => ?_)
  have e1 : (x : Int) % 4294967296 = ((x % 4294967296 : Nat) : Int) := by omega
  have e2 : (x : Int) / 4294967296 % 4294967296 = ((x / 4294967296 : Nat) : Int) := by omega
  rw [e1, e2]
  have hd : Dig (fun i => if i = 0 then x % 4294967296 else x / 4294967296) 2 := fun i hi => by
    have h1 : x / 4294967296 < 4294967296 := by omega
    have h2 : x % 4294967296 < 4294967296 := by omega
    dsimp only
    split <;> assumption
  have hv : val (fun i => if i = 0 then x % 4294967296 else x / 4294967296) 2 = x := by
    simp [val, B]
    omega
  haveI hr : RawV (K W ([(b8, row 123 [.int .u32 ((x % 4294967296 : Nat) : Int), .int .u32 ((x / 4294967296 : Nat) : Int)])] :: N)) (.slice (some ⟨b8, 0, none⟩) 2 2) 2 (fun i => if i = 0 then x % 4294967296 else x / 4294967296) := RawV.two
  refine s_call (en_f rfl Try.call101) (norm_spec hd) rfl rfl rfl (fun r9 => ?_)
  refine s_y (y_assign rfl) rfl rfl rfl ?_
  refine s_nil ?_
  refine f_then ?_
  refine c_ret ?_
  exact f_ret ⟨_, r9.v, r9.ok.of hv⟩ (res1 rfl rfl) (fun w h => h)
theorem bitw {x : Nat} (h : x < 18446744073709551616) : wl x ≤ 2 := wl_le.2 (by rw [show B ^ 2 = 18446744073709551616 from rfl]; exact h)
theorem cmp_up {x y k : Nat} (hk : k < wl x) (hl : wl x = wl y) (he : ∀ i, k < i → i < wl x → dg x i = dg y i) (hlt : dg x k < dg y k) : x < y := by
  have := val_lt_of (Dig.dg x (wl x)) hk he hlt
  rw [val_wl, val_of_le (by omega)] at this
  exact this
theorem cmp_spec {W : World} {Ls : List Chunk} {a b : Value} {x y : Nat} [ha : NatV (K W Ls) a x] [hb : NatV (K W Ls) b y] : Spec Try.prog 62 #[a, b] (K W Ls) (fun _ : Unit => .int .i64 (if x < y then -1 else if y < x then 1 else 0)) (fun _ => K W Ls) := by
  have q1 := ha.raw.cap
  have q2 := hb.raw.cap
  have hmx : maxLen = 9223372036854775807 := rfl
  refine enter (args := [_, _]) Try.func62 rfl Try.ntmps62 rfl ?_
  refine c_seq ?_
  refine c_region ?_
  refine s_y (y_assign rfl) rfl rfl rfl ?_
  refine s_nil ?_
  refine f_then ?_
  refine c_seq ?_
  refine c_block ?_
  refine c_seq ?_
  refine c_region ?_
  refine s_y (y_move rfl) rfl rfl rfl ?_
  refine s_y (y_lenR Try.tab rfl rfl) rfl rfl rfl ?_
  refine s_y (y_move rfl) rfl rfl rfl ?_
  refine s_y (y_lenR Try.tab rfl rfl) rfl rfl rfl ?_
  refine s_y (y_lss rfl rfl) rfl rfl rfl ?_
  refine s_y (y_assign rfl) rfl rfl rfl ?_
  refine s_nil ?_
  refine f_then ?_
  refine c_condD rfl (fun c1 => ?_) (fun c1 => ?_)
  · have h1 : x < y := by
      rcases Nat.lt_or_ge x y with h | h
      · exact h
      · have := wl_mono h; omega
    refine c_seq ?_
    refine c_region ?_
    refine s_y (y_assign rfl) rfl rfl rfl ?_
    refine s_nil ?_
    refine f_then ?_
    refine c_ret ?_
    refine f_blockR ?_
    refine f_thenR ?_
    exact f_ret () (res1 rfl (by simp [h1]; rfl)) (fun w h => h)
  refine c_seq ?_
  refine c_region ?_
  refine s_y (y_move rfl) rfl rfl rfl ?_
  refine s_y (y_lenR Try.tab rfl rfl) rfl rfl rfl ?_
  refine s_y (y_move rfl) rfl rfl rfl ?_
  refine s_y (y_lenR Try.tab rfl rfl) rfl rfl rfl ?_
  refine s_y (y_gtr rfl rfl) rfl rfl rfl ?_
  refine s_y (y_assign rfl) rfl rfl rfl ?_
  refine s_nil ?_
  refine f_then ?_
  refine c_condD rfl (fun c2 => ?_) (fun c2 => ?_)
  · have h1 : y < x := by
      rcases Nat.lt_or_ge y x with h | h
      · exact h
      · have := wl_mono h; omega
    have h2 : ¬ x < y := by omega
    refine c_seq ?_
    refine c_region ?_
    refine s_y (y_assign rfl) rfl rfl rfl ?_
    refine s_nil ?_
    refine f_then ?_
    refine c_ret ?_
    refine f_blockR ?_
    refine f_thenR ?_
    exact f_ret () (res1 rfl (by simp [h1, h2]; rfl)) (fun w h => h)
  have hl : wl x = wl y := by omega
  refine c_skip ?_
  refine f_blockN ?_
  refine f_then ?_
  refine c_seq ?_
  refine c_seq ?_
  refine c_region ?_
  refine s_y (y_move rfl) rfl rfl rfl ?_
  refine s_y (y_lenR Try.tab rfl rfl) rfl rfl rfl ?_
  refine s_y (y_sub rfl rfl (by omega)) rfl rfl rfl ?_
  refine s_y (y_assign rfl) rfl rfl rfl ?_
  refine s_nil ?_
  refine f_then ?_
  refine c_block ?_
  refine c_loopP (α := Nat) (fun k => [(0, a), (1, b), (5, .int .i64 ((k : Int) - 1))]) (fun k => k ≤ wl x ∧ ∀ i, k ≤ i → i < wl x → dg x i = dg y i) (fun _ => K W Ls) (fun k => k) (wl x) ⟨rfl, rfl, rfl, trivial⟩ ⟨Nat.le_refl _, fun i h1 h2 => by omega⟩ (fun w h => h) ?_
  rintro k ⟨hk, h0⟩
  by_cases hk0 : k = 0
  · subst hk0
    have h1 : x = y := by
      rw [← val_wl x, ← val_wl y, ← hl]
      exact val_congr fun i hi => h0 i (by omega) hi
    have h2 : ¬ x < y := by omega
    have h3 : ¬ y < x := by omega
    refine c_seq ?_
    refine c_seq ?_
    refine c_region ?_
    refine s_y (y_move rfl) rfl rfl rfl ?_
    refine s_y (y_F (y_geq rfl rfl) (by omega)) rfl rfl rfl ?_
    refine s_nil ?_
    refine f_then ?_
    refine c_condF rfl ?_
    refine c_exit ?_
    refine f_thenE ?_
    refine f_rndE ?_
    refine f_blockE ?_
    refine f_then ?_
    refine c_seq ?_
    refine c_region ?_
    refine s_y (y_assign rfl) rfl rfl rfl ?_
    refine s_nil ?_
    refine f_then ?_
    refine c_ret ?_
    exact f_ret () (res1 rfl (by simp only [h2, h3, if_false]; rfl)) (fun w h => h)
  have e1 : ((k : Int) - 1).toNat = k - 1 := by omega
  refine c_seq ?_
  refine c_seq ?_
  refine c_region ?_
  refine s_y (y_move rfl) rfl rfl rfl ?_
  refine s_y (y_T (y_geq rfl rfl) (by omega)) rfl rfl rfl ?_
  refine s_nil ?_
  refine f_then ?_
  refine c_condT rfl ?_
  refine c_skip ?_
  refine f_then ?_
  refine c_seq ?_
  refine c_block ?_
  refine c_seq ?_
  refine c_quiet Try.mixed (by kernel_rfl) K.drew ?_
  refine q_y (y_move rfl) rfl rfl rfl ?_
  refine q_y (y_move rfl) rfl rfl rfl ?_
  refine q_y (y_ixR Try.tab rfl rfl rfl rfl _ (Int.toNat_of_nonneg (by omega)).symm (by omega)) rfl rfl rfl ?_
  refine q_y (y_ldR Try.tab rfl rfl (by omega)) rfl rfl rfl ?_
  refine q_y (y_move rfl) rfl rfl rfl ?_
  refine q_y (y_move rfl) rfl rfl rfl ?_
  refine q_y (y_ixR Try.tab rfl rfl rfl rfl _ (Int.toNat_of_nonneg (by omega)).symm (by omega)) rfl rfl rfl ?_
  refine q_y (y_ldR Try.tab rfl rfl (by omega)) rfl rfl rfl ?_
  refine q_y (y_neq rfl rfl) rfl rfl rfl ?_
  refine q_nil ?_
  refine f_then ?_
  refine c_condD rfl (fun hne => ?_) (fun hne => ?_)
  · rw [e1] at hne
    refine c_seq ?_
    refine c_seq ?_
    refine c_quiet Try.mixed (by kernel_rfl) K.drew ?_
    refine q_y (y_move rfl) rfl rfl rfl ?_
    refine q_y (y_move rfl) rfl rfl rfl ?_
    refine q_y (y_ixR Try.tab rfl rfl rfl rfl _ (Int.toNat_of_nonneg (by omega)).symm (by omega)) rfl rfl rfl ?_
    refine q_y (y_ldR Try.tab rfl rfl (by omega)) rfl rfl rfl ?_
    refine q_y (y_move rfl) rfl rfl rfl ?_
    refine q_y (y_move rfl) rfl rfl rfl ?_
    refine q_y (y_ixR Try.tab rfl rfl rfl rfl _ (Int.toNat_of_nonneg (by omega)).symm (by omega)) rfl rfl rfl ?_
    refine q_y (y_ldR Try.tab rfl rfl (by omega)) rfl rfl rfl ?_
    refine q_y (y_lss rfl rfl) rfl rfl rfl ?_
    refine q_nil ?_
    refine f_then ?_
    refine c_condD rfl (fun hlt => ?_) (fun hlt => ?_)
    · rw [e1] at hlt
      have h1 : x < y := cmp_up (k := k - 1) (by omega) hl (fun i h1 h2 => h0 i (by omega) h2) (by omega)
      refine c_seq ?_
      refine c_region ?_
      refine s_y (y_assign rfl) rfl rfl rfl ?_
      refine s_nil ?_
      refine f_then ?_
      refine c_ret ?_
      refine f_thenR ?_
      refine f_blockR ?_
      refine f_thenR ?_
      refine f_rndR ?_
      refine f_blockR ?_
      refine f_thenR ?_
      exact f_ret () (res1 rfl (by simp only [h1, if_true]; rfl)) (fun w h => h)
    · rw [e1] at hlt
      have h1 : y < x := cmp_up (k := k - 1) (by omega) hl.symm (fun i h1 h2 => (h0 i (by omega) (by omega)).symm) (by omega)
      have h2 : ¬ x < y := by omega
      refine c_skip ?_
      refine f_then ?_
      refine c_seq ?_
      refine c_region ?_
      refine s_y (y_assign rfl) rfl rfl rfl ?_
      refine s_nil ?_
      refine f_then ?_
      refine c_ret ?_
      refine f_blockR ?_
      refine f_thenR ?_
      refine f_rndR ?_
      refine f_blockR ?_
      refine f_thenR ?_
      exact f_ret () (res1 rfl (by simp only [h1, h2, if_true, if_false]; rfl)) (fun w h => h)
  · rw [e1] at hne
    refine c_skip ?_
    refine f_blockN ?_
    refine f_then ?_
    refine c_region ?_
    refine s_y (y_move rfl) rfl rfl rfl ?_
    refine s_y (y_sub rfl rfl (by omega)) rfl rfl rfl ?_
    refine s_y (y_assign rfl) rfl rfl rfl ?_
    refine s_nil ?_
    refine f_roundP (k - 1) ⟨by omega, fun i h1 h2 => ?_⟩ (by omega) ⟨rfl, rfl, ?_, trivial⟩ (fun w h => h)
    · rcases Nat.lt_or_ge i k with h3 | h3
      · have : i = k - 1 := by omega
        subst this
        omega
      · exact h0 i h3 h2
    · show some (Value.int .i64 ((k : Int) - 1 - 1)) = _
      congr 2
      omega
end Go.KL
end

section
/- Walks: add, sub. -/
namespace Go.KL
open Go.Proofs
theorem carry_step (V s i : Nat) : V + s % 4294967296 * B ^ i + s / 4294967296 * B ^ (i + 1) = V + s * B ^ i := by
  have h := Nat.div_add_mod s 4294967296
  rw [B_succ]
  generalize s % 4294967296 = r at *
  generalize s / 4294967296 = q at *
  subst h
  have : B = 4294967296 := rfl
  rw [this]
  grind
theorem carry_end {V s i : Nat} : V + s % 4294967296 * B ^ i + s / 4294967296 * B ^ (i + 1) = V + s * B ^ i := carry_step V s i
theorem val_push (g : Nat → Nat) (i u : Nat) : val (upd g i u) (i + 1) = val g i + u * B ^ i := by
  simp only [val]
  rw [val_congr (g' := g) (fun j hj => by simp [upd, show j ≠ i by omega])]
  simp [upd]
theorem dg_lt' (x i : Nat) : dg x i < 4294967296 := dg_lt x i
theorem Dig.updL {g : Nat → Nat} {n k x : Nat} (h : Dig g n) (hx : x < 4294967296) : Dig (KL.upd g k x) n := h.updU hx
theorem Dig.zero (n : Nat) : Dig (fun _ => 0) n := fun _ _ => B_pos 1
theorem toNat_mod (s m : Nat) : ((s : Int) % (m : Int)).toNat = s % m := by rw [← Int.natCast_emod]; rfl
theorem toNat_mod32 (s : Nat) : ((s : Int) % 4294967296).toNat = s % 4294967296 := toNat_mod s 4294967296
theorem val_0 (g : Nat → Nat) : val g 0 = 0 := rfl
attribute [local irreducible] SC St Fin Sq Ylds Doos Sets Enters Spec CellIs CellsAre Then Ret Rnd Chn resOK ints bools recs arr
set_option maxRecDepth 10000 in
set_option maxHeartbeats 4000000 in
theorem add_spec {W : World} {N : List Chunk} {a b : Value} {x y : Nat} [ha : NatV (K W N) a x] [hb : NatV (K W N) b y] (hx : wl x ≤ 1000000) (hy : wl y ≤ 1000000) : Spec Try.prog 71 #[a, b] (K W N) (X := Res W N (x + y)) (fun r => r.v) (fun r => K W (r.L :: N)) := by
  refine enter (args := [_, _]) Try.func71 rfl Try.ntmps71 rfl ?_
  refine c_seq ?_
  refine c_region ?_
  refine s_y (y_assign rfl) rfl rfl rfl ?_
  refine s_nil ?_
  refine f_then ?_
  refine c_seq ?_
  refine c_seq ?_
  refine c_region ?_
  refine s_y (y_move rfl) rfl rfl rfl ?_
  refine s_y (y_lenR Try.tab rfl rfl) rfl rfl rfl ?_
  refine s_y (y_move rfl) rfl rfl rfl ?_
  refine s_y (y_lenR Try.tab rfl rfl) rfl rfl rfl ?_
  refine s_y (y_lss rfl rfl) rfl rfl rfl ?_
  refine s_nil ?_
  refine f_then ?_
  refine c_then_cut (α := Value × Value × Nat × Nat) (fun z => [(0, z.1), (1, z.2.1)]) (fun z => NatV (K W N) z.1 z.2.2.1 ∧ NatV (K W N) z.2.1 z.2.2.2 ∧ wl z.2.2.2 ≤ wl z.2.2.1 ∧ wl z.2.2.1 ≤ 1000000 ∧ z.2.2.1 + z.2.2.2 = x + y) (fun _ => K W N) ?_ ?_
  · refine c_condD rfl (fun hlt => ?_) (fun hge => ?_)
    · refine c_region ?_
      refine s_y (y_move rfl) rfl rfl rfl ?_
      refine s_y (y_move rfl) rfl rfl rfl ?_
      refine s_y (y_assign rfl) rfl rfl rfl ?_
      refine s_y (y_assign rfl) rfl rfl rfl ?_
      refine s_nil ?_
      exact f_cutP (b, a, y, x) ⟨hb, ha, by dsimp only; omega, hy, Nat.add_comm _ _⟩ ⟨rfl, rfl, trivial⟩ (fun w h => h)
    · refine c_skip ?_
      exact f_cutP (a, b, x, y) ⟨ha, hb, by dsimp only; omega, hx, rfl⟩ ⟨rfl, rfl, trivial⟩ (fun w h => h)
  clear ha hb hx hy
  rintro ⟨a, b, x', y'⟩ ⟨ha, hb, hyx, hx, hsum⟩
  dsimp only at ha hb hyx hx hsum ⊢
  refine c_seq ?_
  refine c_region ?_
  refine s_y (y_move rfl) rfl rfl rfl ?_
  refine s_y (y_lenR Try.tab rfl rfl) rfl rfl rfl ?_
  refine s_y (y_add rfl rfl (by omega)) rfl rfl rfl ?_
  refine s_do (make_u32 (by_ := 4) (m := wl x' + 1) Try.tab rfl rfl rfl rfl rfl (by omega) (by omega)) rfl rfl rfl (fun b5 => ?_)
  refine s_y (y_assign rfl) rfl rfl rfl ?_
  refine s_nil ?_
  refine f_then ?_
  refine c_seq ?_
  refine c_region ?_
  refine s_y (y_assign rfl) rfl rfl rfl ?_
  refine s_nil ?_
  refine f_then ?_
  refine c_seq ?_
  refine c_seq ?_
  refine c_region ?_
  refine s_y (y_move rfl) rfl rfl rfl ?_
  refine s_y (y_lenR Try.tab rfl rfl) rfl rfl rfl ?_
  refine s_y (y_move rfl) rfl rfl rfl ?_
  refine s_nil ?_
  refine f_then ?_
  refine c_block ?_
  refine c_loopP (α := Nat × Nat × (Nat → Nat)) (fun z => [(0, a), (1, b), (5, .slice (some ⟨b5, 0, none⟩) (wl x' + 1) (wl x' + 1)), (6, .int .u64 (z.2.1 : Int)), (21, .int .i64 (wl x')), (22, .int .i64 z.1)])
    (fun z => z.1 ≤ wl x' ∧ z.2.1 ≤ 1 ∧ Dig z.2.2 (wl x' + 1) ∧ val z.2.2 z.1 + z.2.1 * B ^ z.1 = val (dg x') z.1 + val (dg y') z.1) (fun z => K W ([(b5, u32s (wl x' + 1) z.2.2 [])] :: N)) (fun z => wl x' - z.1) (0, 0, fun _ => 0)
    ⟨rfl, rfl, rfl, rfl, rfl, rfl, trivial⟩ ⟨Nat.zero_le _, by decide, Dig.zero _, by simp [val_0]⟩ (fun w h => h) ?_
  rintro ⟨i, c, g⟩ ⟨hi, hc, hg, hv⟩
  dsimp only at hi hc hg hv ⊢
  have dx := dg_lt' x' i
  have dy := dg_lt' y' i
  refine c_seq ?_
  refine c_region ?_
  refine s_y (y_lss rfl rfl) rfl rfl rfl ?_
  refine s_nil ?_
  refine f_then ?_
  refine c_seq ?_
  refine c_condD rfl (fun hlt => ?_) (fun hge => ?_)
  · have hilt : i < wl x' := by omega
    have step := carry_end (V := val g i) (s := dg x' i + c + dg y' i) (i := i)
    have hs : val g i + (dg x' i + c + dg y' i) * B ^ i = val (dg x') (i + 1) + val (dg y') (i + 1) := by
      simp only [val]
      rw [Nat.add_mul, Nat.add_mul]
      omega
    refine c_skip ?_
    refine f_then ?_
    refine c_seq ?_
    refine c_block ?_
    refine c_seq ?_
    refine c_region ?_
    refine s_y (y_move rfl) rfl rfl rfl ?_
    refine s_y (y_assign rfl) rfl rfl rfl ?_
    refine s_nil ?_
    refine f_then ?_
    refine c_seq ?_
    refine c_region ?_
    refine s_y (y_move rfl) rfl rfl rfl ?_
    refine s_y (y_move rfl) rfl rfl rfl ?_
    refine s_y (y_ixR Try.tab rfl rfl rfl rfl _ rfl (by omega)) rfl rfl rfl ?_
    refine s_y (y_ldR Try.tab rfl rfl (by omega)) rfl rfl rfl ?_
    refine s_y (y_to64 Try.tab rfl rfl rfl (by omega)) rfl rfl rfl ?_
    refine s_y (y_move rfl) rfl rfl rfl ?_
    refine s_y (y_addU rfl rfl (by omega)) rfl rfl rfl ?_
    refine s_y (y_assign rfl) rfl rfl rfl ?_
    refine s_nil ?_
    refine f_then ?_
    refine c_seq ?_
    refine c_seq ?_
    refine c_region ?_
    refine s_y (y_move rfl) rfl rfl rfl ?_
    refine s_y (y_move rfl) rfl rfl rfl ?_
    refine s_y (y_lenR Try.tab rfl rfl) rfl rfl rfl ?_
    refine s_y (y_lss rfl rfl) rfl rfl rfl ?_
    refine s_nil ?_
    refine f_then ?_
    refine c_then_cut (α := Unit) (fun _ => [(0, a), (1, b), (5, .slice (some ⟨b5, 0, none⟩) (wl x' + 1) (wl x' + 1)), (7, .int .i64 i), (8, .int .u64 ((dg x' i + c + dg y' i : Nat) : Int)), (21, .int .i64 (wl x')), (22, .int .i64 i)]) (fun _ => True) (fun _ => K W ([(b5, u32s (wl x' + 1) g [])] :: N)) ?_ ?_
    · refine c_condD rfl (fun hlt2 => ?_) (fun hge2 => ?_)
      · refine c_region ?_
        refine s_y (y_move rfl) rfl rfl rfl ?_
        refine s_y (y_move rfl) rfl rfl rfl ?_
        refine s_y (y_move rfl) rfl rfl rfl ?_
        refine s_y (y_ixR Try.tab rfl rfl rfl rfl _ rfl (by omega)) rfl rfl rfl ?_
        refine s_y (y_ldR Try.tab rfl rfl (by omega)) rfl rfl rfl ?_
        refine s_y (y_to64 Try.tab rfl rfl rfl (by omega)) rfl rfl rfl ?_
        refine s_y (y_addU rfl rfl (by omega)) rfl rfl rfl ?_
        refine s_y (y_assign rfl) rfl rfl rfl ?_
        refine s_nil ?_
        exact f_cutP () trivial ⟨rfl, rfl, rfl, rfl, congrArg (fun z => some (Value.int .u64 z)) (by omega), rfl, rfl, trivial⟩ (fun w h => h)
      · have h0 : dg y' i = 0 := dg_out (by omega)
        refine c_skip ?_
        exact f_cutP () trivial ⟨rfl, rfl, rfl, rfl, congrArg (fun z => some (Value.int .u64 z)) (by omega), rfl, rfl, trivial⟩ (fun w h => h)
    rintro _ _
    have hsb : dg x' i + c + dg y' i < 8589934592 := by omega
    have h5 := val_push g i ((dg x' i + c + dg y' i) % 4294967296)
    generalize dg x' i + c + dg y' i = t at *
    refine c_seq ?_
    refine c_region ?_
    refine s_y (y_move rfl) rfl rfl rfl ?_
    refine s_y (y_move rfl) rfl rfl rfl ?_
    refine s_y (y_move rfl) rfl rfl rfl ?_
    refine s_y (y_to32 Try.tab rfl rfl rfl) rfl rfl rfl ?_
    refine s_y (y_indexAddr1 Try.tab rfl rfl rfl rfl _ rfl (by omega)) rfl rfl rfl ?_
    refine s_set (set_u32 Try.tab 0 _ rfl rfl rfl rfl (Int.toNat_of_nonneg (by omega)).symm (by omega)) rfl rfl ?_
    refine s_nil ?_
    refine f_then ?_
    refine c_region ?_
    refine s_y (y_move rfl) rfl rfl rfl ?_
    refine s_y (y_shrU (d := 4294967296) rfl rfl (by decide) rfl) rfl rfl rfl ?_
    refine s_y (y_assign rfl) rfl rfl rfl ?_
    refine s_nil ?_
    refine f_blockN ?_
    refine f_then ?_
    refine c_region ?_
    refine s_y (y_add rfl rfl (by omega)) rfl rfl rfl ?_
    refine s_y (y_move rfl) rfl rfl rfl ?_
    refine s_nil ?_
    have e1 := toNat_mod32 t
    refine f_roundP (i + 1, t / 4294967296, upd g i (t % 4294967296)) ⟨by dsimp only; omega, by dsimp only; omega, hg.updL (by omega), ?_⟩ (by dsimp only; omega) ⟨rfl, rfl, rfl, rfl, rfl, rfl, trivial⟩ (fun w h => by dsimp only; rw [← e1]; exact h)
    dsimp only
    rw [h5, ← hs]
    exact step
  · obtain rfl : i = wl x' := by omega
    have h5 := val_push g (wl x') c
    rw [hv, val_wl, val_of_le hyx, hsum] at h5
    have e1 : ((c : Int) % 4294967296).toNat = c := by omega
    refine c_exit ?_
    refine f_thenE ?_
    refine f_rndE ?_
    refine f_blockE ?_
    refine f_then ?_
    refine c_seq ?_
    refine c_region ?_
    refine s_y (y_move rfl) rfl rfl rfl ?_
    refine s_y (y_move rfl) rfl rfl rfl ?_
    refine s_y (y_lenR Try.tab rfl rfl) rfl rfl rfl ?_
    refine s_y (y_move rfl) rfl rfl rfl ?_
    refine s_y (y_to32 Try.tab rfl rfl rfl) rfl rfl rfl ?_
    refine s_y (y_indexAddr1 Try.tab rfl rfl rfl rfl _ rfl (by omega)) rfl rfl rfl ?_
    refine s_set (set_u32 Try.tab 0 _ rfl rfl rfl rfl (Int.toNat_of_nonneg (by omega)).symm (by omega)) rfl rfl ?_
    refine s_nil ?_
    refine f_then ?_
    refine c_seq ?_
    refine c_region ?_
    refine s_y (y_move rfl) rfl rfl rfl ?_
    rw [e1]
    refine St.cls (C' := K W ([(b5, u32s (wl x' + 1) (upd g (wl x') c) [])] :: N)) ?_ (fun w h => h)
    have hd : Dig (upd g (wl x') c) (wl x' + 1) := hg.updL (by omega)
    haveI hr : RawV (K W ([(b5, u32s (wl x' + 1) (upd g (wl x') c) [])] :: N)) (.slice (some ⟨b5, 0, none⟩) (wl x' + 1) (wl x' + 1)) (wl x' + 1) (upd g (wl x') c) := RawV.ownT 0 rfl (Nat.le_refl _) (by unfold maxLen; omega)
    refine s_call (en_f rfl Try.call101) (norm_spec hd) rfl rfl rfl (fun r9 => ?_)
    refine s_y (y_assign rfl) rfl rfl rfl ?_
    refine s_nil ?_
    refine f_then ?_
    refine c_ret ?_
    exact f_ret ⟨_, r9.v, r9.ok.of h5⟩ (res1 rfl rfl) (fun w h => h)
theorem sub_eq {V Vy Vx o dy c dx c' i : Nat} (h : o + dy + c = dx + c' * 4294967296) (hv : V + Vy = Vx + c * B ^ i) : V + o * B ^ i + (Vy + dy * B ^ i) = Vx + dx * B ^ i + c' * B ^ (i + 1) := by
  have h2 := congrArg (· * B ^ i) h
  simp only [Nat.add_mul] at h2
  rw [B_succ, show B ^ i * B = 4294967296 * B ^ i from Nat.mul_comm _ _, ← Nat.mul_assoc]
  omega
set_option maxRecDepth 10000 in
set_option maxHeartbeats 4000000 in
theorem sub_spec {W : World} {N : List Chunk} {a b : Value} {x y : Nat} [ha : NatV (K W N) a x] [hb : NatV (K W N) b y] (hx : wl x ≤ 1000000) (hyx : y ≤ x) : Spec Try.prog 102 #[a, b] (K W N) (X := Res W N (x - y)) (fun r => r.v) (fun r => K W (r.L :: N)) := by
  have hyl := wl_mono hyx
  refine enter (args := [_, _]) Try.func102 rfl Try.ntmps102 rfl ?_
  refine c_seq ?_
  refine c_region ?_
  refine s_y (y_assign rfl) rfl rfl rfl ?_
  refine s_nil ?_
  refine f_then ?_
  refine c_seq ?_
  refine c_region ?_
  refine s_y (y_move rfl) rfl rfl rfl ?_
  refine s_y (y_lenR Try.tab rfl rfl) rfl rfl rfl ?_
  refine s_do (make_u32 (by_ := 4) Try.tab rfl rfl rfl rfl rfl rfl (by omega)) rfl rfl rfl (fun b11 => ?_)
  refine s_y (y_assign rfl) rfl rfl rfl ?_
  refine s_nil ?_
  refine f_then ?_
  refine c_seq ?_
  refine c_region ?_
  refine s_y (y_assign rfl) rfl rfl rfl ?_
  refine s_nil ?_
  refine f_then ?_
  refine c_seq ?_
  refine c_seq ?_
  refine c_region ?_
  refine s_y (y_move rfl) rfl rfl rfl ?_
  refine s_y (y_lenR Try.tab rfl rfl) rfl rfl rfl ?_
  refine s_y (y_move rfl) rfl rfl rfl ?_
  refine s_nil ?_
  refine f_then ?_
  refine c_block ?_
  refine c_loopP (α := Nat × Nat × (Nat → Nat)) (fun z => [(0, a), (1, b), (5, .slice (some ⟨b11, 0, none⟩) (wl x) (wl x)), (6, .int .u64 (z.2.1 : Int)), (13, .int .i64 (wl x)), (14, .int .i64 z.1)])
    (fun z => z.1 ≤ wl x ∧ z.2.1 ≤ 1 ∧ Dig z.2.2 (wl x) ∧ val z.2.2 z.1 + val (dg y) z.1 = val (dg x) z.1 + z.2.1 * B ^ z.1) (fun z => K W ([(b11, u32s (wl x) z.2.2 [])] :: N)) (fun z => wl x - z.1) (0, 0, fun _ => 0)
    ⟨rfl, rfl, rfl, rfl, rfl, rfl, trivial⟩ ⟨Nat.zero_le _, by decide, Dig.zero _, by simp [val_0]⟩ (fun w h => h) ?_
  rintro ⟨i, c, g⟩ ⟨hi, hc, hg, hv⟩
  dsimp only at hi hc hg hv ⊢
  have dx := dg_lt' x i
  have dy := dg_lt' y i
  refine c_seq ?_
  refine c_region ?_
  refine s_y (y_lss rfl rfl) rfl rfl rfl ?_
  refine s_nil ?_
  refine f_then ?_
  refine c_seq ?_
  refine c_condD rfl (fun hlt => ?_) (fun hge => ?_)
  · have hilt : i < wl x := by omega
    obtain ⟨t, ht⟩ : ∃ t, t = (18446744073709551616 + dg x i - c - dg y i) % 18446744073709551616 := ⟨_, rfl⟩
    refine c_skip ?_
    refine f_then ?_
    refine c_seq ?_
    refine c_block ?_
    refine c_seq ?_
    refine c_region ?_
    refine s_y (y_move rfl) rfl rfl rfl ?_
    refine s_y (y_assign rfl) rfl rfl rfl ?_
    refine s_nil ?_
    refine f_then ?_
    refine c_seq ?_
    refine c_region ?_
    refine s_y (y_move rfl) rfl rfl rfl ?_
    refine s_y (y_move rfl) rfl rfl rfl ?_
    refine s_y (y_ixR Try.tab rfl rfl rfl rfl _ rfl (by omega)) rfl rfl rfl ?_
    refine s_y (y_ldR Try.tab rfl rfl (by omega)) rfl rfl rfl ?_
    refine s_y (y_to64 Try.tab rfl rfl rfl (by omega)) rfl rfl rfl ?_
    refine s_y (y_move rfl) rfl rfl rfl ?_
    refine s_y (y_subM rfl rfl) rfl rfl rfl ?_
    refine s_y (y_assign rfl) rfl rfl rfl ?_
    refine s_nil ?_
    refine f_then ?_
    refine c_seq ?_
    refine c_seq ?_
    refine c_region ?_
    refine s_y (y_move rfl) rfl rfl rfl ?_
    refine s_y (y_move rfl) rfl rfl rfl ?_
    refine s_y (y_lenR Try.tab rfl rfl) rfl rfl rfl ?_
    refine s_y (y_lss rfl rfl) rfl rfl rfl ?_
    refine s_nil ?_
    refine f_then ?_
    refine c_then_cut (α := Unit) (fun _ => [(0, a), (1, b), (5, .slice (some ⟨b11, 0, none⟩) (wl x) (wl x)), (7, .int .i64 i), (8, .int .u64 (t : Int)), (13, .int .i64 (wl x)), (14, .int .i64 i)]) (fun _ => True) (fun _ => K W ([(b11, u32s (wl x) g [])] :: N)) ?_ ?_
    · refine c_condD rfl (fun hlt2 => ?_) (fun hge2 => ?_)
      · refine c_region ?_
        refine s_y (y_move rfl) rfl rfl rfl ?_
        refine s_y (y_move rfl) rfl rfl rfl ?_
        refine s_y (y_move rfl) rfl rfl rfl ?_
        refine s_y (y_ixR Try.tab rfl rfl rfl rfl _ rfl (by omega)) rfl rfl rfl ?_
        refine s_y (y_ldR Try.tab rfl rfl (by omega)) rfl rfl rfl ?_
        refine s_y (y_to64 Try.tab rfl rfl rfl (by omega)) rfl rfl rfl ?_
        refine s_y (y_subM rfl rfl) rfl rfl rfl ?_
        refine s_y (y_assign rfl) rfl rfl rfl ?_
        refine s_nil ?_
        exact f_cutP () trivial ⟨rfl, rfl, rfl, rfl, congrArg (fun z => some (Value.int .u64 z)) (by omega), rfl, rfl, trivial⟩ (fun w h => h)
      · have h0 : dg y i = 0 := dg_out (by omega)
        refine c_skip ?_
        exact f_cutP () trivial ⟨rfl, rfl, rfl, rfl, congrArg (fun z => some (Value.int .u64 z)) (by omega), rfl, rfl, trivial⟩ (fun w h => h)
    rintro _ _
    have h5 := val_push g i (t % 4294967296)
    have hq : t % 4294967296 + dg y i + c = dg x i + t / 9223372036854775808 * 4294967296 := by omega
    have htb : t < 18446744073709551616 := by omega
    have h6 := sub_eq hq hv
    refine c_seq ?_
    refine c_region ?_
    refine s_y (y_move rfl) rfl rfl rfl ?_
    refine s_y (y_move rfl) rfl rfl rfl ?_
    refine s_y (y_move rfl) rfl rfl rfl ?_
    refine s_y (y_to32 Try.tab rfl rfl rfl) rfl rfl rfl ?_
    refine s_y (y_indexAddr1 Try.tab rfl rfl rfl rfl _ rfl (by omega)) rfl rfl rfl ?_
    refine s_set (set_u32 Try.tab 0 _ rfl rfl rfl rfl (Int.toNat_of_nonneg (by omega)).symm (by omega)) rfl rfl ?_
    refine s_nil ?_
    refine f_then ?_
    refine c_region ?_
    refine s_y (y_move rfl) rfl rfl rfl ?_
    refine s_y (y_shrU (d := 9223372036854775808) rfl rfl (by decide) rfl) rfl rfl rfl ?_
    refine s_y (y_assign rfl) rfl rfl rfl ?_
    refine s_nil ?_
    refine f_blockN ?_
    refine f_then ?_
    refine c_region ?_
    refine s_y (y_add rfl rfl (by omega)) rfl rfl rfl ?_
    refine s_y (y_move rfl) rfl rfl rfl ?_
    refine s_nil ?_
    have e1 := toNat_mod32 t
    refine f_roundP (i + 1, t / 9223372036854775808, upd g i (t % 4294967296)) ⟨by dsimp only; omega, by dsimp only; omega, hg.updL (by omega), ?_⟩ (by dsimp only; omega) ⟨rfl, rfl, rfl, rfl, rfl, rfl, trivial⟩ (fun w h => by dsimp only; rw [← e1]; exact h)
    dsimp only
    rw [h5]
    exact h6
  · obtain rfl : i = wl x := by omega
    rw [val_wl, val_of_le hyl] at hv
    have hb2 := val_lt hg
    have h5 : val g (wl x) = x - y := by
      rcases Nat.eq_zero_or_pos c with z | z
      · subst z
        omega
      · obtain rfl : c = 1 := by omega
        omega
    refine c_exit ?_
    refine f_thenE ?_
    refine f_rndE ?_
    refine f_blockE ?_
    refine f_then ?_
    refine c_seq ?_
    refine c_region ?_
    refine s_y (y_move rfl) rfl rfl rfl ?_
    haveI hr : RawV (K W ([(b11, u32s (wl x) g [])] :: N)) (.slice (some ⟨b11, 0, none⟩) (wl x) (wl x)) (wl x) g := RawV.ownT 0 rfl (Nat.le_refl _) (by unfold maxLen; omega)
    refine s_call (en_f rfl Try.call101) (norm_spec hg) rfl rfl rfl (fun r9 => ?_)
    refine s_y (y_assign rfl) rfl rfl rfl ?_
    refine s_nil ?_
    refine f_then ?_
    refine c_ret ?_
    exact f_ret ⟨_, r9.v, r9.ok.of h5⟩ (res1 rfl rfl) (fun w h => h)
end Go.KL
end

section
/- Walks: mulPlain. -/
namespace Go.KL
open Go.Proofs
theorem val_set {g : Nat → Nat} {p u n : Nat} (h : p < n) : val (upd g p u) n + g p * B ^ p = val g n + u * B ^ p := val_updU h
theorem mp_step {H H' V hp xi yk c i k s P : Nat} (hs : s = xi * yk + hp + c) (h1 : H' + hp * P = H + s % 4294967296 * P) (hP : P = B ^ i * B ^ k) (hv : H + c * P = V) :
    H' + s / 4294967296 * (P * B) = V + xi * B ^ i * (yk * B ^ k) := by
  have hd := Nat.div_add_mod s 4294967296
  have e : B = 4294967296 := rfl
  have e1 : xi * B ^ i * (yk * B ^ k) = xi * yk * P := by rw [hP]; grind
  rw [e1]
  have e2 : s / 4294967296 * (P * B) + s % 4294967296 * P = s * P := by
    rw [e]
    conv => rhs; rw [← hd]
    grind
  have e3 : s * P = xi * yk * P + hp * P + c * P := by rw [hs]; grind
  omega
theorem prod_bd {p q : Nat} (hp : p < 4294967296) (hq : q < 4294967296) : 0 ≤ (p : Int) * (q : Int) ∧ (p : Int) * (q : Int) ≤ 18446744065119617025 := by
  have h1 : p * q ≤ 4294967295 * 4294967295 := Nat.mul_le_mul (by omega) (by omega)
  rw [← Int.natCast_mul]
  omega
attribute [local irreducible] SC St Fin Sq Ylds Doos Sets Enters Spec CellIs CellsAre Then Ret Rnd Chn resOK ints bools recs arr
set_option maxRecDepth 10000 in
set_option maxHeartbeats 8000000 in
theorem mulPlain_spec {W : World} {N : List Chunk} {a b : Value} {x y : Nat} [ha : NatV (K W N) a x] [hb : NatV (K W N) b y] (hx : wl x ≤ 1000000) (hy : wl y ≤ 1000000) : Spec Try.prog 100 #[a, b] (K W N) (X := Res W N (x * y)) (fun r => r.v) (fun r => K W (r.L :: N)) := by
  refine enter (args := [_, _]) Try.func100 rfl Try.ntmps100 rfl ?_
  refine c_seq ?_
  refine c_region ?_
  refine s_y (y_assign rfl) rfl rfl rfl ?_
  refine s_nil ?_
  refine f_then ?_
  refine c_seq ?_
  refine c_region ?_
  refine s_y (y_move rfl) rfl rfl rfl ?_
  refine s_y (y_lenR Try.tab rfl rfl) rfl rfl rfl ?_
  refine s_y (y_move rfl) rfl rfl rfl ?_
  refine s_y (y_lenR Try.tab rfl rfl) rfl rfl rfl ?_
  refine s_y (y_add rfl rfl (by omega)) rfl rfl rfl ?_
  refine s_do (make_u32 (by_ := 4) Try.tab rfl rfl rfl rfl rfl rfl (by omega)) rfl rfl rfl (fun b15 => ?_)
  refine s_y (y_assign rfl) rfl rfl rfl ?_
  refine s_nil ?_
  refine f_then ?_
  refine c_seq ?_
  refine c_seq ?_
  refine c_region ?_
  refine s_y (y_move rfl) rfl rfl rfl ?_
  refine s_y (y_lenR Try.tab rfl rfl) rfl rfl rfl ?_
  refine s_y (y_move rfl) rfl rfl rfl ?_
  refine s_nil ?_
  refine f_then ?_
  refine c_block ?_
  obtain ⟨T, hT⟩ : ∃ T, T = wl x + wl y := ⟨_, rfl⟩
  rw [← hT]
  refine c_loopP (α := Nat × (Nat → Nat)) (fun z => [(0, a), (1, b), (5, .slice (some ⟨b15, 0, none⟩) T T), (17, .int .i64 (wl x)), (18, .int .i64 z.1)])
    (fun z => z.1 ≤ wl x ∧ Dig z.2 T ∧ (∀ j, z.1 + wl y ≤ j → j < T → z.2 j = 0) ∧ val z.2 T = val (dg x) z.1 * y) (fun z => K W ([(b15, u32s T z.2 [])] :: N)) (fun z => wl x - z.1) (0, fun _ => 0)
    ⟨rfl, rfl, rfl, rfl, rfl, trivial⟩ ⟨Nat.zero_le _, Dig.zero _, fun _ _ _ => rfl, by rw [val_0, Nat.zero_mul]; exact val_zero fun _ _ => rfl⟩ (fun w h => h) ?_
  rintro ⟨i, g⟩ ⟨hi, hg, hz, hv⟩
  dsimp only at hi hg hz hv ⊢
  have dx := dg_lt' x i
  refine c_seq ?_
  refine c_region ?_
  refine s_y (y_lss rfl rfl) rfl rfl rfl ?_
  refine s_nil ?_
  refine f_then ?_
  refine c_seq ?_
  refine c_condD rfl (fun hlt => ?_) (fun hge => ?_)
  · have hilt : i < wl x := by omega
    refine c_skip ?_
    refine f_then ?_
    refine c_seq ?_
    refine c_block ?_
    refine c_seq ?_
    refine c_region ?_
    refine s_y (y_move rfl) rfl rfl rfl ?_
    refine s_y (y_assign rfl) rfl rfl rfl ?_
    refine s_nil ?_
    refine f_then ?_
    refine c_seq ?_
    refine c_region ?_
    refine s_y (y_assign rfl) rfl rfl rfl ?_
    refine s_nil ?_
    refine f_then ?_
    refine c_seq ?_
    refine c_seq ?_
    refine c_region ?_
    refine s_y (y_move rfl) rfl rfl rfl ?_
    refine s_y (y_lenR Try.tab rfl rfl) rfl rfl rfl ?_
    refine s_y (y_move rfl) rfl rfl rfl ?_
    refine s_nil ?_
    refine f_then ?_
    refine c_block ?_
    refine c_loopP (α := Nat × Nat × (Nat → Nat)) (fun z => [(0, a), (1, b), (5, .slice (some ⟨b15, 0, none⟩) T T), (6, .int .i64 i), (7, .int .u64 (z.2.1 : Int)), (17, .int .i64 (wl x)), (18, .int .i64 i), (22, .int .i64 (wl y)), (23, .int .i64 z.1)])
      (fun z => z.1 ≤ wl y ∧ z.2.1 < 4294967296 ∧ Dig z.2.2 T ∧ (∀ j, i + wl y ≤ j → j < T → z.2.2 j = 0) ∧ val z.2.2 T + z.2.1 * (B ^ i * B ^ z.1) = val (dg x) i * y + dg x i * B ^ i * val (dg y) z.1) (fun z => K W ([(b15, u32s T z.2.2 [])] :: N)) (fun z => wl y - z.1) (0, 0, g)
      ⟨rfl, rfl, rfl, rfl, rfl, rfl, rfl, rfl, rfl, trivial⟩ ⟨Nat.zero_le _, B_pos 1, hg, hz, by dsimp only; rw [hv, val_0]; simp⟩ (fun w h => h) ?_
    rintro ⟨k, c, h⟩ ⟨hk, hc, hh, hzz, hvv⟩
    dsimp only at hk hc hh hzz hvv ⊢
    have dy := dg_lt' y k
    have hpb := prod_bd dx dy
    refine c_seq ?_
    refine c_region ?_
    refine s_y (y_lss rfl rfl) rfl rfl rfl ?_
    refine s_nil ?_
    refine f_then ?_
    refine c_seq ?_
    refine c_condD rfl (fun hlt2 => ?_) (fun hge2 => ?_)
    · have hklt : k < wl y := by omega
      have hpT : i + k < T := by omega
      have dh : h (i + k) < 4294967296 := hh (i + k) hpT
      have hpb2 : (0 : Int) ≤ (dg x i : Int) * (dg y k : Int) ∧ (dg x i : Int) * (dg y k : Int) < 18446744073709551616 := by omega
      obtain ⟨t, ht⟩ : ∃ t, t = dg x i * dg y k + h (i + k) + c := ⟨_, rfl⟩
      have hti : (dg x i : Int) * (dg y k : Int) + (h (i + k) : Int) + (c : Int) = (t : Int) := by rw [ht]; simp
      have htb : t < 18446744073709551616 := by omega
      have hset := val_set (g := h) (p := i + k) (u := t % 4294967296) hpT
      have hstep := mp_step (k := k) (i := i) ht hset (Nat.pow_add B i k) (by rw [Nat.pow_add])
      rw [hvv] at hstep
      refine c_skip ?_
      refine f_then ?_
      refine c_seq ?_
      refine c_block ?_
      refine c_seq ?_
      refine c_region ?_
      refine s_y (y_move rfl) rfl rfl rfl ?_
      refine s_y (y_assign rfl) rfl rfl rfl ?_
      refine s_nil ?_
      refine f_then ?_
      refine c_seq ?_
      refine c_quiet Try.mixed (by kernel_rfl) K.drew ?_
      refine q_y (y_move rfl) rfl rfl rfl ?_
      refine q_y (y_move rfl) rfl rfl rfl ?_
      refine q_y (y_ixR Try.tab rfl rfl rfl rfl _ rfl (by omega)) rfl rfl rfl ?_
      refine q_y (y_ldR Try.tab rfl rfl (by omega)) rfl rfl rfl ?_
      refine q_y (y_to64 Try.tab rfl rfl rfl (by omega)) rfl rfl rfl ?_
      refine q_y (y_move rfl) rfl rfl rfl ?_
      refine q_y (y_move rfl) rfl rfl rfl ?_
      refine q_y (y_ixR Try.tab rfl rfl rfl rfl _ rfl (by omega)) rfl rfl rfl ?_
      refine q_y (y_ldR Try.tab rfl rfl (by omega)) rfl rfl rfl ?_
      refine q_y (y_to64 Try.tab rfl rfl rfl (by omega)) rfl rfl rfl ?_
      refine q_y (y_mulU rfl rfl (by assumption)) rfl rfl rfl ?_
      refine q_y (y_move rfl) rfl rfl rfl ?_
      refine q_y (y_move rfl) rfl rfl rfl ?_
      refine q_y (y_move rfl) rfl rfl rfl ?_
      refine q_y (y_add rfl rfl (by omega)) rfl rfl rfl ?_
      refine q_y (y_indexAddr1 Try.tab rfl rfl rfl rfl _ rfl (by omega)) rfl rfl rfl ?_
      refine q_y (y_load Try.tab rfl rfl (cell_u32 0 rfl (by omega))) rfl rfl rfl ?_
      refine q_y (y_to64 Try.tab rfl rfl rfl (by omega)) rfl rfl rfl ?_
      refine q_y (y_addU rfl rfl (by omega)) rfl rfl rfl ?_
      refine q_y (y_move rfl) rfl rfl rfl ?_
      refine q_y (y_addU rfl rfl (by omega)) rfl rfl rfl ?_
      refine q_y (y_assign rfl) rfl rfl rfl ?_
      refine q_nil ?_
      refine f_then ?_
      refine c_seq ?_
      refine c_region ?_
      refine s_y (y_move rfl) rfl rfl rfl ?_
      refine s_y (y_move rfl) rfl rfl rfl ?_
      refine s_y (y_move rfl) rfl rfl rfl ?_
      refine s_y (y_add rfl rfl (by omega)) rfl rfl rfl ?_
      refine s_y (y_move rfl) rfl rfl rfl ?_
      refine s_y (y_to32 Try.tab rfl rfl rfl) rfl rfl rfl ?_
      refine s_y (y_indexAddr1 Try.tab rfl rfl rfl rfl _ rfl (by omega)) rfl rfl rfl ?_
      refine s_set (set_u32 Try.tab 0 _ rfl rfl rfl rfl (Int.toNat_of_nonneg (by omega)).symm (by omega)) rfl rfl ?_
      refine s_nil ?_
      refine f_then ?_
      refine c_region ?_
      refine s_y (y_move rfl) rfl rfl rfl ?_
      refine s_y (y_shrU (d := 4294967296) rfl rfl (by decide) rfl) rfl rfl rfl ?_
      refine s_y (y_assign rfl) rfl rfl rfl ?_
      refine s_nil ?_
      refine f_blockN ?_
      refine f_then ?_
      refine c_region ?_
      refine s_y (y_add rfl rfl (by omega)) rfl rfl rfl ?_
      refine s_y (y_move rfl) rfl rfl rfl ?_
      refine s_nil ?_
      have e1 := toNat_mod32 t
      refine f_roundP (k + 1, t / 4294967296, upd h (i + k) (t % 4294967296)) ⟨by dsimp only; omega, by dsimp only; omega, hh.updL (by omega), ?_, ?_⟩ (by dsimp only; omega) ⟨rfl, rfl, rfl, rfl, congrArg (fun z => some (Value.int .u64 z)) (by rw [hti]; rfl), rfl, rfl, rfl, rfl, trivial⟩ (fun w q => by dsimp only; rw [← e1, ← hti]; exact q)
      · intro j h1 h2
        dsimp only
        rw [upd_get, if_neg (by omega)]
        exact hzz j h1 h2
      · dsimp only [val]
        rw [B_succ, ← Nat.mul_assoc (B ^ i), ← Nat.pow_add, Nat.mul_add, ← Nat.add_assoc]
        exact hstep
    · obtain rfl : k = wl y := by omega
      rw [val_wl] at hvv
      have e1 : ((c : Int) % 4294967296).toNat = c := by omega
      have hset := val_set (g := h) (p := i + wl y) (u := c) (n := T) (by omega)
      rw [hzz _ (Nat.le_refl _) (by omega), Nat.zero_mul, Nat.add_zero, Nat.pow_add, hvv] at hset
      refine c_exit ?_
      refine f_thenE ?_
      refine f_rndE ?_
      refine f_blockE ?_
      refine f_then ?_
      refine c_region ?_
      refine s_y (y_move rfl) rfl rfl rfl ?_
      refine s_y (y_move rfl) rfl rfl rfl ?_
      refine s_y (y_move rfl) rfl rfl rfl ?_
      refine s_y (y_lenR Try.tab rfl rfl) rfl rfl rfl ?_
      refine s_y (y_add rfl rfl (by omega)) rfl rfl rfl ?_
      refine s_y (y_move rfl) rfl rfl rfl ?_
      refine s_y (y_to32 Try.tab rfl rfl rfl) rfl rfl rfl ?_
      refine s_y (y_indexAddr1 Try.tab rfl rfl rfl rfl _ rfl (by omega)) rfl rfl rfl ?_
      refine s_set (set_u32 Try.tab 0 _ rfl rfl rfl rfl (Int.toNat_of_nonneg (by omega)).symm (by omega)) rfl rfl ?_
      refine s_nil ?_
      refine f_blockN ?_
      refine f_then ?_
      refine c_region ?_
      refine s_y (y_add rfl rfl (by omega)) rfl rfl rfl ?_
      refine s_y (y_move rfl) rfl rfl rfl ?_
      refine s_nil ?_
      refine f_roundP (i + 1, upd h (i + wl y) c) ⟨by dsimp only; omega, hh.updL hc, ?_, ?_⟩ (by dsimp only; omega) ⟨rfl, rfl, rfl, rfl, rfl, trivial⟩ (fun w q => by dsimp only; rw [← e1]; exact q)
      · intro j h1 h2
        dsimp only at h1 ⊢
        rw [upd_get, if_neg (by omega)]
        exact hzz j (by omega) h2
      · dsimp only [val]
        rw [hset, Nat.add_mul]
  · obtain rfl : i = wl x := by omega
    rw [val_wl] at hv
    refine c_exit ?_
    refine f_thenE ?_
    refine f_rndE ?_
    refine f_blockE ?_
    refine f_then ?_
    refine c_seq ?_
    refine c_region ?_
    refine s_y (y_move rfl) rfl rfl rfl ?_
    haveI hr : RawV (K W ([(b15, u32s T g [])] :: N)) (.slice (some ⟨b15, 0, none⟩) T T) T g := RawV.ownT 0 rfl (Nat.le_refl _) (by unfold maxLen; omega)
    refine s_call (en_f rfl Try.call101) (norm_spec hg) rfl rfl rfl (fun r9 => ?_)
    refine s_y (y_assign rfl) rfl rfl rfl ?_
    refine s_nil ?_
    refine f_then ?_
    refine c_ret ?_
    exact f_ret ⟨_, r9.v, r9.ok.of hv⟩ (res1 rfl rfl) (fun w h => h)
end Go.KL
end

section
/- Walks: up, mul. -/
namespace Go.KL
open Go.Proofs
theorem wl_mul {x y a b : Nat} (hx : wl x ≤ a) (hy : wl y ≤ b) : wl (x * y) ≤ a + b := by
  rw [wl_le] at *
  rw [Nat.pow_add]
  exact Nat.mul_lt_mul'' hx hy
theorem wl_add {x y a : Nat} (hx : wl x ≤ a) (hy : wl y ≤ a) : wl (x + y) ≤ a + 1 := by
  rw [wl_le] at *
  rw [B_succ]
  show x + y < B ^ a * 4294967296
  omega
theorem wl_shift {x a : Nat} (n : Nat) (hx : wl x ≤ a) : wl (B ^ n * x) ≤ n + a := by
  rw [wl_le] at *
  rw [Nat.pow_add]
  exact Nat.mul_lt_mul_of_pos_left hx (B_pos n)
theorem val_hi (x n : Nat) : val (fun i => dg x (n + i)) (wl x - n) = x / B ^ n := by
  rcases Nat.lt_or_ge (wl x) n with h | h
  · rw [show wl x - n = 0 by omega, val_0, Nat.div_eq_of_lt (wl_le.1 (by omega))]
  · have h1 := val_split (dg x) n (wl x - n)
    rw [show n + (wl x - n) = wl x by omega, val_wl, val_dg] at h1
    have h2 := Nat.mod_add_div x (B ^ n)
    have h3 : B ^ n * val (fun i => dg x (n + i)) (wl x - n) = B ^ n * (x / B ^ n) := by omega
    exact Nat.eq_of_mul_eq_mul_left (B_pos n) h3
theorem kar {x0 x1 y0 y1 P : Nat} : (x0 + P * x1) * (y0 + P * y1) = x0 * y0 + P * ((x0 + x1) * (y0 + y1) - x0 * y0 - x1 * y1) + P * P * (x1 * y1) := by
  have h : (x0 + x1) * (y0 + y1) - x0 * y0 - x1 * y1 = x0 * y1 + x1 * y0 := by
    have : (x0 + x1) * (y0 + y1) = x0 * y0 + (x0 * y1 + x1 * y0) + x1 * y1 := by grind
    omega
  rw [h]
  grind
attribute [local irreducible] SC St Fin Sq Ylds Doos Sets Enters Spec CellIs CellsAre Then Ret Rnd Chn resOK ints bools recs arr
set_option maxRecDepth 10000 in
theorem up_spec {W : World} {N : List Chunk} {a : Value} {x n : Nat} [ha : NatV (K W N) a x] (hx : wl x ≤ 1000000) (hn : n ≤ 1000000) : Spec Try.prog 103 #[a, .int .i64 n] (K W N) (X := Res W N (B ^ n * x)) (fun r => r.v) (fun r => K W (r.L :: N)) := by
  refine enter (args := [_, _]) Try.func103 rfl Try.ntmps103 rfl ?_
  by_cases h0 : x = 0
  · have hw : wl x = 0 := wl_eq_zero.2 h0
    refine c_seq ?_
    refine c_region ?_
    refine s_y (y_assign rfl) rfl rfl rfl ?_
    refine s_nil ?_
    refine f_then ?_
    refine c_seq ?_
    refine c_seq ?_
    refine c_region ?_
    refine s_y (y_move rfl) rfl rfl rfl ?_
    refine s_y (y_lenR Try.tab rfl rfl) rfl rfl rfl ?_
    refine s_y (y_T (y_eql rfl rfl) (by omega)) rfl rfl rfl ?_
    refine s_nil ?_
    refine f_then ?_
    refine c_condT rfl ?_
    refine c_seq ?_
    refine c_region ?_
    refine s_y (y_assign rfl) rfl rfl rfl ?_
    refine s_nil ?_
    refine f_then ?_
    refine c_ret ?_
    refine f_thenR ?_
    exact f_ret ⟨[], .slice none 0 0, NatV.nilI.of (by rw [h0]; rfl)⟩ (res1 rfl rfl) (fun w h => h.addNil)
  · have hw : wl x ≠ 0 := fun e => h0 (wl_eq_zero.1 e)
    refine c_seq ?_
    refine c_region ?_
    refine s_y (y_assign rfl) rfl rfl rfl ?_
    refine s_nil ?_
    refine f_then ?_
    refine c_seq ?_
    refine c_seq ?_
    refine c_region ?_
    refine s_y (y_move rfl) rfl rfl rfl ?_
    refine s_y (y_lenR Try.tab rfl rfl) rfl rfl rfl ?_
    refine s_y (y_F (y_eql rfl rfl) (by omega)) rfl rfl rfl ?_
    refine s_nil ?_
    refine f_then ?_
    refine c_condF rfl ?_
    refine c_skip ?_
    refine f_then ?_
    refine c_seq ?_
    refine c_region ?_
    refine s_y (y_move rfl) rfl rfl rfl ?_
    refine s_y (y_move rfl) rfl rfl rfl ?_
    refine s_y (y_lenR Try.tab rfl rfl) rfl rfl rfl ?_
    refine s_y (y_add rfl rfl (by omega)) rfl rfl rfl ?_
    refine s_do (make_u32 (by_ := 4) Try.tab rfl rfl rfl rfl rfl rfl (by omega)) rfl rfl rfl (fun b13 => ?_)
    refine s_y (y_assign rfl) rfl rfl rfl ?_
    refine s_nil ?_
    refine f_then ?_
    refine c_seq ?_
    refine c_region ?_
    refine s_y (y_move rfl) rfl rfl rfl ?_
    refine s_y (y_move rfl) rfl rfl rfl ?_
    refine s_y (y_sliceFrom Try.tab rfl rfl rfl rfl rfl (by omega) (by omega)) rfl rfl rfl ?_
    refine s_y (y_move rfl) rfl rfl rfl ?_
    have hs : Value.slice (if n + wl x = n then some ⟨b13, 0, none⟩ else (some (⟨b13, 0, none⟩ : Addr)).map (·.add (n * 1))) (n + wl x - n) (n + wl x - n) = .slice (some ⟨b13, n, none⟩) (wl x) (wl x) := by
      rw [if_neg (by omega)]
      simp [addr_add]
    refine s_do (do_copyR Try.tab 0 (congrArg some hs) rfl rfl rfl (Nat.le_refl _) rfl (Nat.le_refl _)) rfl rfl rfl (fun _ => ?_)
    refine s_nil ?_
    refine f_then ?_
    refine c_seq ?_
    refine c_region ?_
    refine s_y (y_move rfl) rfl rfl rfl ?_
    refine s_y (y_assign rfl) rfl rfl rfl ?_
    refine s_nil ?_
    refine f_then ?_
    refine c_ret ?_
    have hv := val_cpy (g := fun _ => 0) (g' := dg x) (off := n) (k := wl x) (fun _ _ => rfl)
    rw [val_wl] at hv
    have hd : Dig (cpy (fun _ => 0) n (wl x) (dg x)) (n + wl x) := fun i hi => by
      unfold cpy
      split
      · exact dg_lt x _
      · exact B_pos 1
    haveI hr : RawV (K W ([(b13, u32s (n + wl x) (cpy (fun _ => 0) n (wl x) (dg x)) [])] :: N)) (.slice (some ⟨b13, 0, none⟩) (n + wl x) (n + wl x)) (n + wl x) (cpy (fun _ => 0) n (wl x) (dg x)) := RawV.ownT 0 rfl (Nat.le_refl _) (by unfold maxLen; omega)
    refine f_ret ⟨[(b13, u32s (n + wl x) (cpy (fun _ => 0) n (wl x) (dg x)) [])], .slice (some ⟨b13, 0, none⟩) (n + wl x) (n + wl x), (NatV.ofRaw hr hd fun _ => ?_).of hv⟩ (res1 rfl rfl) (fun w h => h)
    unfold cpy
    rw [if_pos (by omega), show n + wl x - 1 - n = wl x - 1 by omega]
    exact dg_top (by omega)
/-- What has been made, as one. -/
def Res.of {W : World} {N M : List Chunk} {v : Value} {z : Nat} (h : NatV (K W (M ++ N)) v z) : Res W N z := ⟨M.flatten, v, h.cls fun _ k => k.weak [] (by simp)⟩
theorem Res.of_cls {W w : World} {N M : List Chunk} {v : Value} {z : Nat} (h : NatV (K W (M ++ N)) v z) (hw : K W (M ++ N) w) : K W ((Res.of h).L :: N) w := hw.weak [] (by simp [Res.of])
/-- Two numbers lie there. -/
structure Ab (W : World) (a : Value) (x : Nat) (b : Value) (y : Nat) (N : List Chunk) : Prop where
  a : NatV (K W N) a x
  b : NatV (K W N) b y
theorem Ab.mono {W : World} {a b : Value} {x y : Nat} {M N : List Chunk} (h : Ab W a x b y N) : Ab W a x b y (M ++ N) := ⟨h.a.cls fun _ k => k.bck, h.b.cls fun _ k => k.bck⟩
set_option maxRecDepth 10000 in
set_option maxHeartbeats 8000000 in
theorem mul_spec : ∀ (m : Nat) {W : World} {N : List Chunk} {a b : Value} {x y : Nat} [NatV (K W N) a x] [NatV (K W N) b y], wl x ≤ 100000 → wl y ≤ 100000 → min (wl x) (wl y) ≤ m → Spec Try.prog 63 #[a, b] (K W N) (X := Res W N (x * y)) (fun r => r.v) (fun r => K W (r.L :: N)) := by
  intro m
  induction m using Nat.strongRecOn with
  | _ m ih =>
  intro W N a b x y ha hb hx hy hm
  refine enter (args := [_, _]) Try.func63 rfl Try.ntmps63 rfl ?_
  refine c_seq ?_
  refine c_region ?_
  refine s_y (y_assign rfl) rfl rfl rfl ?_
  refine s_nil ?_
  refine f_then ?_
  refine c_seq ?_
  refine c_region ?_
  refine s_y (y_move rfl) rfl rfl rfl ?_
  refine s_y (y_lenR Try.tab rfl rfl) rfl rfl rfl ?_
  refine s_y (y_move rfl) rfl rfl rfl ?_
  refine s_y (y_lenR Try.tab rfl rfl) rfl rfl rfl ?_
  refine s_y (y_min rfl rfl) rfl rfl rfl ?_
  refine s_y (y_assign rfl) rfl rfl rfl ?_
  refine s_nil ?_
  refine f_then ?_
  refine c_seq ?_
  refine c_seq ?_
  refine c_region ?_
  refine s_y (y_move rfl) rfl rfl rfl ?_
  refine s_y (y_lss rfl rfl) rfl rfl rfl ?_
  refine s_nil ?_
  refine f_then ?_
  refine c_condD rfl (fun hlt => ?_) (fun hge => ?_)
  · refine c_seq ?_
    refine c_region ?_
    refine s_y (y_move rfl) rfl rfl rfl ?_
    refine s_y (y_move rfl) rfl rfl rfl ?_
    refine s_call (en_f rfl Try.call100) (mulPlain_spec (by omega) (by omega)) rfl rfl rfl (fun r => ?_)
    refine s_y (y_assign rfl) rfl rfl rfl ?_
    refine s_nil ?_
    refine f_then ?_
    refine c_ret ?_
    refine f_thenR ?_
    exact f_ret r (res1 rfl rfl) (fun w h => h)
  refine c_skip ?_
  refine f_then ?_
  refine c_seq ?_
  refine c_region ?_
  refine s_y (y_move rfl) rfl rfl rfl ?_
  refine s_y (y_add rfl rfl (by omega)) rfl rfl rfl ?_
  refine s_y (y_quo rfl rfl (by omega)) rfl rfl rfl ?_
  refine s_y (y_assign rfl) rfl rfl rfl ?_
  refine s_nil ?_
  refine f_then ?_
  refine c_seq ?_
  obtain ⟨n, hn⟩ : ∃ n, n = (min (wl x) (wl y) + 1) / 2 := ⟨_, rfl⟩
  have hnI : (min (wl x : Int) (wl y : Int) + 1) / 2 = (n : Int) := by omega
  rw [hnI]
  have hGm : ∀ M N', (Ab W a x b y N' ∧ ∃ M, N' = M ++ N) → (Ab W a x b y (M ++ N') ∧ ∃ M', M ++ N' = M' ++ N) := fun M N' ⟨h, M2, e⟩ => ⟨h.mono, M ++ M2, by rw [e, List.append_assoc]⟩
  refine c_then_cut (α := List Chunk × Value × Value) (fun z => [(0, a), (1, b), (5, .int .i64 n), (6, z.2.1), (7, z.2.2)]) (fun z => (Ab W a x b y z.1 ∧ ∃ M, z.1 = M ++ N) ∧ NatV (K W z.1) z.2.1 (x % B ^ n) ∧ NatV (K W z.1) z.2.2 (x / B ^ n)) (fun z => K W z.1) ?_ ?_
  · refine c_drawn [(0, a), (1, b), (5, .int .i64 n)] [[], [], [(0, 26), (1, 27)], [(2, 28)], [], [], [(4, 30), (5, 31)], [(6, 32)], [(3, 29)], [(7, 33)]] [(8, 6), (9, 7)] (fun _ => [])
      [fun _ v _ => v = a, fun _ v _ => v = .int .i64 n, fun N v _ => RawV (K W N) v n (dg x), fun N v _ => NatV (K W N) v (x % B ^ n), fun _ v _ => v = a, fun _ v _ => v = .int .i64 n, fun N v _ => RawV (K W N) v (wl x - n) (fun i => dg x (n + i)), fun N v _ => NatV (K W N) v (x / B ^ n), fun N v _ => NatV (K W N) v (x % B ^ n), fun N v _ => NatV (K W N) v (x / B ^ n)]
      N (fun N' => Ab W a x b y N' ∧ ∃ M, N' = M ++ N) ⟨⟨ha, hb⟩, [], rfl⟩ hGm Try.mixed (by kernel_rfl) rfl ⟨rfl, rfl, rfl, trivial⟩ (fun w h => h)
      ⟨fun _ _ _ _ h => h, fun _ _ _ _ h => h, fun _ _ _ _ h => h.cls fun _ k => k.bck, fun _ _ _ _ h => h.cls fun _ k => k.bck, fun _ _ _ _ h => h, fun _ _ _ _ h => h, fun _ _ _ _ h => h.cls fun _ k => k.bck, fun _ _ _ _ h => h.cls fun _ k => k.bck, fun _ _ _ _ h => h.cls fun _ k => k.bck, fun _ _ _ _ h => h.cls fun _ k => k.bck, trivial⟩
      ⟨?_, ?_, ?_, ?_, ?_, ?_, ?_, ?_, ?_, ?_, trivial⟩ ?_
    · intro s N' gN h0 hn0
      show Acts _ _ _ (K W N') _ _
      exact a_y (y_move rfl) fun w h => ⟨[], [], h, rfl⟩
    · intro s N' gN h0 hn0
      show Acts _ _ _ (K W N') _ _
      exact a_y (y_move rfl) fun w h => ⟨[], [], h, rfl⟩
    · rintro s N' gN h0 hn0 v0 d0 e0 rfl v1 d1 e1 rfl
      show Acts _ _ _ (K W N') _ _
      haveI := gN.1.a
      refine a_y (y_slToR Try.tab rfl rfl rfl rfl rfl (by omega)) fun w h => ⟨[], [], h, ?_⟩
      exact gN.1.a.raw.to (by omega) (by have := gN.1.a.raw.cap; omega) gN.1.a.raw.cap.2
    · rintro s N' gN h0 hn0 v2 d2 e2 f2
      show Acts _ _ _ (K W N') _ _
      haveI : RawV (K W N') v2 n (dg x) := f2
      refine a_call (en_f rfl Try.call101) (norm_spec (Dig.dg x n)) fun r w h => ⟨[], [], h, ?_⟩
      exact r.ok.of (val_dg x n)
    · intro s N' gN h0 hn0
      show Acts _ _ _ (K W N') _ _
      exact a_y (y_move rfl) fun w h => ⟨[], [], h, rfl⟩
    · intro s N' gN h0 hn0
      show Acts _ _ _ (K W N') _ _
      exact a_y (y_move rfl) fun w h => ⟨[], [], h, rfl⟩
    · rintro s N' gN h0 hn0 v0 d0 e0 rfl v1 d1 e1 rfl
      show Acts _ _ _ (K W N') _ _
      haveI := gN.1.a
      refine a_y (y_slFromR Try.tab rfl rfl rfl rfl rfl (by omega)) fun w h => ⟨[], [], h, ?_⟩
      exact gN.1.a.raw.from (by omega)
    · rintro s N' gN h0 hn0 v2 d2 e2 f2
      show Acts _ _ _ (K W N') _ _
      haveI : RawV (K W N') v2 (wl x - n) (fun i => dg x (n + i)) := f2
      refine a_call (en_f rfl Try.call101) (norm_spec fun i _ => dg_lt x (n + i)) fun r w h => ⟨[], [], h, ?_⟩
      exact r.ok.of (val_hi x n)
    · rintro s N' gN h0 hn0 v3 d3 e3 f3
      show Acts _ _ _ (K W N') _ _
      exact a_y (y_assign rfl) fun w h => ⟨[], [], h, f3⟩
    · rintro s N' gN h0 hn0 v3 d3 e3 f3
      show Acts _ _ _ (K W N') _ _
      exact a_y (y_assign rfl) fun w h => ⟨[], [], h, f3⟩
    · intro s N' gN hall v8 d8 e8 f8 v9 d9 e9 f9
      exact f_cutP (N', v8, v9) ⟨gN, f8, f9⟩ ⟨rfl, rfl, rfl, rfl, rfl, trivial⟩ (fun w h => h)
  clear ha hb
  rintro ⟨N1, a0, a1⟩ ⟨⟨hab, M1, hN1⟩, h6, h7⟩
  dsimp only at hab hN1 h6 h7 ⊢
  refine c_seq ?_
  refine c_then_cut (α := List Chunk × Value × Value) (fun z => [(5, .int .i64 n), (6, a0), (7, a1), (8, z.2.1), (9, z.2.2)]) (fun z => (∃ M, z.1 = M ++ N) ∧ NatV (K W z.1) a0 (x % B ^ n) ∧ NatV (K W z.1) a1 (x / B ^ n) ∧ NatV (K W z.1) z.2.1 (y % B ^ n) ∧ NatV (K W z.1) z.2.2 (y / B ^ n)) (fun z => K W z.1) ?_ ?_
  · refine c_drawn [(0, a), (1, b), (5, .int .i64 n), (6, a0), (7, a1)] [[], [], [(0, 34), (1, 35)], [(2, 36)], [], [], [(4, 38), (5, 39)], [(6, 40)], [(3, 37)], [(7, 41)]] [(8, 8), (9, 9)] (fun _ => [])
      [fun _ v _ => v = b, fun _ v _ => v = .int .i64 n, fun N v _ => RawV (K W N) v n (dg y), fun N v _ => NatV (K W N) v (y % B ^ n), fun _ v _ => v = b, fun _ v _ => v = .int .i64 n, fun N v _ => RawV (K W N) v (wl y - n) (fun i => dg y (n + i)), fun N v _ => NatV (K W N) v (y / B ^ n), fun N v _ => NatV (K W N) v (y % B ^ n), fun N v _ => NatV (K W N) v (y / B ^ n)]
      N1 (fun N' => Ab W a0 (x % B ^ n) a1 (x / B ^ n) N' ∧ NatV (K W N') b y ∧ ∃ M, N' = M ++ N) ⟨⟨h6, h7⟩, hab.b, M1, hN1⟩ (fun M N' ⟨h, h2, M2, e⟩ => ⟨h.mono, h2.cls fun _ k => k.bck, M ++ M2, by rw [e, List.append_assoc]⟩) Try.mixed (by kernel_rfl) rfl ⟨rfl, rfl, rfl, rfl, rfl, trivial⟩ (fun w h => h)
      ⟨fun _ _ _ _ h => h, fun _ _ _ _ h => h, fun _ _ _ _ h => h.cls fun _ k => k.bck, fun _ _ _ _ h => h.cls fun _ k => k.bck, fun _ _ _ _ h => h, fun _ _ _ _ h => h, fun _ _ _ _ h => h.cls fun _ k => k.bck, fun _ _ _ _ h => h.cls fun _ k => k.bck, fun _ _ _ _ h => h.cls fun _ k => k.bck, fun _ _ _ _ h => h.cls fun _ k => k.bck, trivial⟩
      ⟨?_, ?_, ?_, ?_, ?_, ?_, ?_, ?_, ?_, ?_, trivial⟩ ?_
    · intro s N' gN h0 hn0
      show Acts _ _ _ (K W N') _ _
      exact a_y (y_move rfl) fun w h => ⟨[], [], h, rfl⟩
    · intro s N' gN h0 hn0
      show Acts _ _ _ (K W N') _ _
      exact a_y (y_move rfl) fun w h => ⟨[], [], h, rfl⟩
    · rintro s N' gN h0 hn0 v0 d0 e0 rfl v1 d1 e1 rfl
      show Acts _ _ _ (K W N') _ _
      haveI := gN.2.1
      refine a_y (y_slToR Try.tab rfl rfl rfl rfl rfl (by omega)) fun w h => ⟨[], [], h, ?_⟩
      exact gN.2.1.raw.to (by omega) (by have := gN.2.1.raw.cap; omega) gN.2.1.raw.cap.2
    · rintro s N' gN h0 hn0 v2 d2 e2 f2
      show Acts _ _ _ (K W N') _ _
      haveI : RawV (K W N') v2 n (dg y) := f2
      refine a_call (en_f rfl Try.call101) (norm_spec (Dig.dg y n)) fun r w h => ⟨[], [], h, ?_⟩
      exact r.ok.of (val_dg y n)
    · intro s N' gN h0 hn0
      show Acts _ _ _ (K W N') _ _
      exact a_y (y_move rfl) fun w h => ⟨[], [], h, rfl⟩
    · intro s N' gN h0 hn0
      show Acts _ _ _ (K W N') _ _
      exact a_y (y_move rfl) fun w h => ⟨[], [], h, rfl⟩
    · rintro s N' gN h0 hn0 v0 d0 e0 rfl v1 d1 e1 rfl
      show Acts _ _ _ (K W N') _ _
      haveI := gN.2.1
      refine a_y (y_slFromR Try.tab rfl rfl rfl rfl rfl (by omega)) fun w h => ⟨[], [], h, ?_⟩
      exact gN.2.1.raw.from (by omega)
    · rintro s N' gN h0 hn0 v2 d2 e2 f2
      show Acts _ _ _ (K W N') _ _
      haveI : RawV (K W N') v2 (wl y - n) (fun i => dg y (n + i)) := f2
      refine a_call (en_f rfl Try.call101) (norm_spec fun i _ => dg_lt y (n + i)) fun r w h => ⟨[], [], h, ?_⟩
      exact r.ok.of (val_hi y n)
    · rintro s N' gN h0 hn0 v3 d3 e3 f3
      show Acts _ _ _ (K W N') _ _
      exact a_y (y_assign rfl) fun w h => ⟨[], [], h, f3⟩
    · rintro s N' gN h0 hn0 v3 d3 e3 f3
      show Acts _ _ _ (K W N') _ _
      exact a_y (y_assign rfl) fun w h => ⟨[], [], h, f3⟩
    · intro s N' gN hall v8 d8 e8 f8 v9 d9 e9 f9
      exact f_cutP (N', v8, v9) ⟨gN.2.2, gN.1.a, gN.1.b, f8, f9⟩ ⟨rfl, rfl, rfl, rfl, rfl, trivial⟩ (fun w h => h)
  clear hab h6 h7
  rintro ⟨N2, b0, b1⟩ ⟨⟨M2, hN2⟩, ha0, ha1, hb0, hb1⟩
  dsimp only at hN2 ha0 ha1 hb0 hb1 ⊢
  have hn1 : n ≤ wl x ∧ n ≤ wl y ∧ 24 ≤ n := by omega
  have l0 : wl (x % B ^ n) ≤ n := wl_le.2 (Nat.mod_lt _ (B_pos n))
  have k0 : wl (y % B ^ n) ≤ n := wl_le.2 (Nat.mod_lt _ (B_pos n))
  have l1 : wl (x / B ^ n) ≤ wl x - n := by
    rw [wl_le, Nat.div_lt_iff_lt_mul (B_pos n), ← Nat.pow_add, Nat.sub_add_cancel hn1.1]
    exact lt_wl x
  have k1 : wl (y / B ^ n) ≤ wl y - n := by
    rw [wl_le, Nat.div_lt_iff_lt_mul (B_pos n), ← Nat.pow_add, Nat.sub_add_cancel hn1.2.1]
    exact lt_wl y
  have hkar := kar (x0 := x % B ^ n) (x1 := x / B ^ n) (y0 := y % B ^ n) (y1 := y / B ^ n) (P := B ^ n)
  rw [Nat.mod_add_div, Nat.mod_add_div] at hkar
  rw [hkar]
  generalize x % B ^ n = x0 at *
  generalize x / B ^ n = x1 at *
  generalize y % B ^ n = y0 at *
  generalize y / B ^ n = y1 at *
  have hge2 : 48 ≤ min (wl x) (wl y) := by omega
  have l2 : wl (x0 + x1) ≤ max n (wl x - n) + 1 := wl_add (by omega) (by omega)
  have k2 : wl (y0 + y1) ≤ max n (wl y - n) + 1 := wl_add (by omega) (by omega)
  have m1 : min (wl x1) (wl y1) < m := by omega
  have m2 : min (wl (x0 + x1)) (wl (y0 + y1)) < m := by omega
  have t1 : wl (x0 * y0) ≤ 2 * n := by have := wl_mul l0 k0; omega
  have t2 : wl (x1 * y1) ≤ (wl x - n) + (wl y - n) := wl_mul l1 k1
  have t3 : wl ((x0 + x1) * (y0 + y1)) ≤ 500000 := by have := wl_mul l2 k2; omega
  have t4 : x0 * y0 ≤ (x0 + x1) * (y0 + y1) := Nat.mul_le_mul (by omega) (by omega)
  have t5 : x1 * y1 ≤ (x0 + x1) * (y0 + y1) - x0 * y0 := by
    have : (x0 + x1) * (y0 + y1) = x0 * y0 + (x0 * y1 + x1 * y0) + x1 * y1 := by grind
    omega
  have t6 : wl ((x0 + x1) * (y0 + y1) - x0 * y0) ≤ 500000 := Nat.le_trans (wl_mono (Nat.sub_le _ _)) t3
  have t7 : wl ((x0 + x1) * (y0 + y1) - x0 * y0 - x1 * y1) ≤ 500000 := Nat.le_trans (wl_mono (Nat.sub_le _ _)) t6
  have t8 := wl_shift n t7
  have t9 := wl_shift (2 * n) t2
  have t10 : wl (x0 * y0 + B ^ n * ((x0 + x1) * (y0 + y1) - x0 * y0 - x1 * y1)) ≤ 700001 := wl_add (by omega) (by omega)
  have hPP : B ^ n * B ^ n * (x1 * y1) = B ^ (2 * n) * (x1 * y1) := by rw [Nat.two_mul, Nat.pow_add]
  rw [hPP]
  clear hkar hPP
  refine c_seq ?_
  refine c_region ?_
  refine s_y (y_move rfl) rfl rfl rfl ?_
  refine s_y (y_move rfl) rfl rfl rfl ?_
  refine s_call (en_f rfl Try.call63) (ih (min (wl x0) (wl y0)) (by omega) (by omega) (by omega) (Nat.le_refl _)) rfl rfl rfl (fun r1 => ?_)
  refine s_y (y_move rfl) rfl rfl rfl ?_
  refine s_y (y_move rfl) rfl rfl rfl ?_
  refine s_call (en_f rfl Try.call63) (ih (min (wl x1) (wl y1)) m1 (by omega) (by omega) (Nat.le_refl _)) rfl rfl rfl (fun r2 => ?_)
  refine s_y (y_assign rfl) rfl rfl rfl ?_
  refine s_y (y_assign rfl) rfl rfl rfl ?_
  refine s_nil ?_
  refine f_then ?_
  refine c_seq ?_
  refine c_region ?_
  refine s_y (y_move rfl) rfl rfl rfl ?_
  refine s_y (y_move rfl) rfl rfl rfl ?_
  refine s_call (en_f rfl Try.call71) (add_spec (x := x0) (y := x1) (by omega) (by omega)) rfl rfl rfl (fun r3 => ?_)
  refine s_y (y_move rfl) rfl rfl rfl ?_
  refine s_y (y_move rfl) rfl rfl rfl ?_
  refine s_call (en_f rfl Try.call71) (add_spec (x := y0) (y := y1) (by omega) (by omega)) rfl rfl rfl (fun r4 => ?_)
  skip
  refine s_call (en_f rfl Try.call63) (ih (min (wl (x0 + x1)) (wl (y0 + y1))) m2 (by omega) (by omega) (Nat.le_refl _)) rfl rfl rfl (fun r5 => ?_)
  refine s_y (y_move rfl) rfl rfl rfl ?_
  refine s_call (en_f rfl Try.call102) (sub_spec (x := (x0 + x1) * (y0 + y1)) (y := x0 * y0) (by omega) t4) rfl rfl rfl (fun r6 => ?_)
  refine s_y (y_move rfl) rfl rfl rfl ?_
  refine s_call (en_f rfl Try.call102) (sub_spec (x := (x0 + x1) * (y0 + y1) - x0 * y0) (y := x1 * y1) (by omega) t5) rfl rfl rfl (fun r7 => ?_)
  refine s_y (y_assign rfl) rfl rfl rfl ?_
  refine s_nil ?_
  refine f_then ?_
  refine c_seq ?_
  refine c_region ?_
  refine s_y (y_move rfl) rfl rfl rfl ?_
  refine s_y (y_move rfl) rfl rfl rfl ?_
  refine s_y (y_move rfl) rfl rfl rfl ?_
  refine s_call (en_f rfl Try.call103) (up_spec (n := n) (by omega) (by omega)) rfl rfl rfl (fun r8 => ?_)
  skip
  refine s_call (en_f rfl Try.call71) (add_spec (x := x0 * y0) (by omega) (by omega)) rfl rfl rfl (fun r9 => ?_)
  refine s_y (y_move rfl) rfl rfl rfl ?_
  refine s_y (y_move rfl) rfl rfl rfl ?_
  refine s_y (y_mul rfl rfl (by omega)) rfl rfl rfl ?_
  refine s_call (en_f rfl Try.call103) (up_spec (n := 2 * n) (by omega) (by omega)) rfl rfl rfl (fun r10 => ?_)
  skip
  refine s_call (en_f rfl Try.call71) (add_spec (x := x0 * y0 + B ^ n * ((x0 + x1) * (y0 + y1) - x0 * y0 - x1 * y1)) (by omega) (by omega)) rfl rfl rfl (fun r11 => ?_)
  refine s_y (y_assign rfl) rfl rfl rfl ?_
  refine s_nil ?_
  refine f_then ?_
  refine c_ret ?_
  subst hN2
  exact f_ret (Res.of (M := r11.L :: r10.L :: r9.L :: r8.L :: r7.L :: r6.L :: r5.L :: r4.L :: r3.L :: r2.L :: r1.L :: M2) r11.ok) (res1 rfl rfl) (fun w h => Res.of_cls (M := r11.L :: r10.L :: r9.L :: r8.L :: r7.L :: r6.L :: r5.L :: r4.L :: r3.L :: r2.L :: r1.L :: M2) r11.ok h)
end Go.KL
end

section
/- Walks: bitLen, LeadingZeros32, divWord. -/
namespace Go.KL
open Go.Proofs
/-! ### How many bits -/
def bl (x : Nat) : Nat := if x = 0 then 0 else (wl x - 1) * 32 + Lib.bitLen (dg x (wl x - 1))
theorem B_two (n : Nat) : B ^ n = 2 ^ (n * 32) := by
  rw [show B = 2 ^ 32 from rfl, ← Nat.pow_mul, Nat.mul_comm]
theorem top_eq {x : Nat} : dg x (wl x - 1) = x / B ^ (wl x - 1) := by
  unfold dg
  apply Nat.mod_eq_of_lt
  rw [Nat.div_lt_iff_lt_mul (B_pos _), Nat.mul_comm, ← B_succ]
  rcases Nat.eq_zero_or_pos (wl x) with h | h
  · rw [wl_eq_zero.1 h]
    exact B_pos _
  · rw [show wl x - 1 + 1 = wl x by omega]
    exact lt_wl x
theorem bl_bounds {x : Nat} (h : x ≠ 0) : 1 ≤ bl x ∧ 2 ^ (bl x - 1) ≤ x ∧ x < 2 ^ bl x := by
  have hw : 0 < wl x := Nat.pos_of_ne_zero fun e => h (wl_eq_zero.1 e)
  have ht := dg_top hw
  have hb := Lib.bitLenAux_bounds 64 (dg x (wl x - 1)) (Nat.lt_trans (dg_lt x _) (by decide)) ht
  have e : bl x = (wl x - 1) * 32 + Lib.bitLen (dg x (wl x - 1)) := by unfold bl; rw [if_neg h]
  rw [top_eq] at hb ht
  rw [top_eq] at e
  rw [show Lib.bitLenAux 64 (x / B ^ (wl x - 1)) = Lib.bitLen (x / B ^ (wl x - 1)) from rfl] at hb
  generalize Lib.bitLen (x / B ^ (wl x - 1)) = q at *
  obtain ⟨h1, h2, h3⟩ := hb
  refine ⟨by omega, ?_, ?_⟩
  · rw [e, show (wl x - 1) * 32 + q - 1 = (wl x - 1) * 32 + (q - 1) by omega, Nat.pow_add, ← B_two, Nat.mul_comm]
    exact (Nat.le_div_iff_mul_le (B_pos _)).1 h2
  · rw [e, Nat.pow_add, ← B_two, Nat.mul_comm]
    exact (Nat.div_lt_iff_lt_mul (B_pos _)).1 h3
theorem bl_le {x k : Nat} : bl x ≤ k ↔ x < 2 ^ k := by
  by_cases h : x = 0
  · subst h
    simp [bl, Nat.pow_pos]
  · obtain ⟨h1, h2, h3⟩ := bl_bounds h
    constructor
    · intro hk
      exact Nat.lt_of_lt_of_le h3 (Nat.pow_le_pow_right (by decide) hk)
    · intro hk
      rcases Nat.lt_or_ge k (bl x) with q | q
      · have := Nat.pow_le_pow_right (n := 2) (by decide) (show k ≤ bl x - 1 by omega)
        omega
      · exact q
/-! ### Division by a word -/
theorem val_down (g : Nat → Nat) (m : Nat) : val g (m + 1) = g 0 + B * val (fun i => g (1 + i)) m := by
  have := val_split g 1 m
  rw [Nat.add_comm 1 m] at this
  simpa [val] using this
theorem div_dg (x k : Nat) : x / B ^ k = x / B ^ (k + 1) * 4294967296 + dg x k := by
  unfold dg
  rw [B_succ, ← Nat.div_div_eq_div_mul, Nat.mul_comm]
  exact (Nat.div_add_mod (x / B ^ k) 4294967296).symm
attribute [local irreducible] SC St Fin Sq Ylds Doos Sets Enters Spec CellIs CellsAre Then Ret Rnd Chn resOK ints bools recs arr
theorem len32_spec {C : World → Prop} {x : Nat} (h : x < 4294967296) : Spec Try.prog 129 #[.int .u32 (x : Int)] C (fun _ : Unit => .int .i64 (Lib.bitLen x : Nat)) (fun _ => C) := by
  refine spec_of_calls fun w hw => ?_
  refine (Try.bits_Len32 (x : Int) w (by omega) (by omega)).mono ?_
  rintro e w' ⟨rfl, rfl⟩
  exact ⟨(), by simp, hw⟩
theorem zeros32_spec {C : World → Prop} {x : Nat} (h : x < 4294967296) : Spec Try.prog 130 #[.int .u32 (x : Int)] C (fun _ : Unit => .int .i64 (32 - (Lib.bitLen x : Nat))) (fun _ => C) := by
  refine spec_of_calls fun w hw => ?_
  refine (Try.bits_LeadingZeros32 (x : Int) w (by omega) (by omega)).mono ?_
  rintro e w' ⟨rfl, rfl⟩
  exact ⟨(), by simp, hw⟩
theorem bitLen_spec {W : World} {N : List Chunk} {a : Value} {x : Nat} [ha : NatV (K W N) a x] (hx : wl x ≤ 1000000) : Spec Try.prog 109 #[a] (K W N) (fun _ : Unit => .int .i64 (bl x)) (fun _ => K W N) := by
  refine enter (args := [_]) Try.func109 rfl Try.ntmps109 rfl ?_
  by_cases h0 : x = 0
  · have hw : wl x = 0 := wl_eq_zero.2 h0
    have hb : bl x = 0 := by unfold bl; rw [if_pos h0]
    rw [hb]
    refine c_seq ?_
    refine c_region ?_
    refine s_y (y_assign rfl) rfl rfl rfl ?_
    refine s_nil ?_
    refine f_then ?_
    refine c_seq ?_
    refine c_seq ?_
    refine c_region ?_
    refine s_y (y_move rfl) rfl rfl rfl ?_
    refine s_y (y_lenR Try.tab rfl rfl) rfl rfl rfl ?_
    refine s_y (y_T (y_eql rfl rfl) (by omega)) rfl rfl rfl ?_
    refine s_nil ?_
    refine f_then ?_
    refine c_condT rfl ?_
    refine c_seq ?_
    refine c_region ?_
    refine s_y (y_assign rfl) rfl rfl rfl ?_
    refine s_nil ?_
    refine f_then ?_
    refine c_ret ?_
    refine f_thenR ?_
    exact f_ret () (res1 rfl rfl) (fun w h => h)
  · have hw : wl x ≠ 0 := fun e => h0 (wl_eq_zero.1 e)
    have hb : bl x = (wl x - 1) * 32 + Lib.bitLen (dg x (wl x - 1)) := by unfold bl; rw [if_neg h0]
    refine c_seq ?_
    refine c_region ?_
    refine s_y (y_assign rfl) rfl rfl rfl ?_
    refine s_nil ?_
    refine f_then ?_
    refine c_seq ?_
    refine c_seq ?_
    refine c_region ?_
    refine s_y (y_move rfl) rfl rfl rfl ?_
    refine s_y (y_lenR Try.tab rfl rfl) rfl rfl rfl ?_
    refine s_y (y_F (y_eql rfl rfl) (by omega)) rfl rfl rfl ?_
    refine s_nil ?_
    refine f_then ?_
    refine c_condF rfl ?_
    refine c_skip ?_
    refine f_then ?_
    refine c_seq ?_
    refine c_region ?_
    refine s_y (y_move rfl) rfl rfl rfl ?_
    refine s_y (y_lenR Try.tab rfl rfl) rfl rfl rfl ?_
    refine s_y (y_sub rfl rfl (by omega)) rfl rfl rfl ?_
    refine s_y (y_mul rfl rfl (by omega)) rfl rfl rfl ?_
    refine s_y (y_move rfl) rfl rfl rfl ?_
    refine s_y (y_move rfl) rfl rfl rfl ?_
    refine s_y (y_lenR Try.tab rfl rfl) rfl rfl rfl ?_
    refine s_y (y_sub rfl rfl (by omega)) rfl rfl rfl ?_
    refine s_y (y_ixR Try.tab rfl rfl rfl rfl _ (Int.toNat_of_nonneg (by omega)).symm (by omega)) rfl rfl rfl ?_
    refine s_y (y_ldR Try.tab rfl rfl (by omega)) rfl rfl rfl ?_
    have hb2 := Lib.bitLen_le (dg x (wl x - 1)) 32 (by decide) (dg_lt' x _)
    have e1 : ((wl x : Int) - 1).toNat = wl x - 1 := by omega
    rw [e1]
    refine s_call (en_f rfl Try.call129) (len32_spec (dg_lt' x (wl x - 1))) rfl rfl rfl (fun _ => ?_)
    refine s_y (y_add rfl rfl (by omega)) rfl rfl rfl ?_
    refine s_y (y_assign rfl) rfl rfl rfl ?_
    refine s_nil ?_
    refine f_then ?_
    refine c_ret ?_
    exact f_retE () (res1 rfl rfl) (congrArg (Value.int .i64) (by rw [hb]; omega)) (fun w h => h)
set_option maxRecDepth 10000 in
theorem divWord_spec {W : World} {N : List Chunk} {a : Value} {x d : Nat} [ha : NatV (K W N) a x] (hx : wl x ≤ 1000000) (hd : 1 ≤ d) (hd2 : d < 4294967296) :
    Spec Try.prog 105 #[a, .int .u32 (d : Int)] (K W N) (X := Res W N (x / d)) (fun r => .tuple #[r.v, .int .u32 ((x % d : Nat) : Int)]) (fun r => K W (r.L :: N)) := by
  refine enter (args := [_, _]) Try.func105 rfl Try.ntmps105 rfl ?_
  refine c_seq ?_
  refine c_region ?_
  refine s_y (y_assign rfl) rfl rfl rfl ?_
  refine s_y (y_assign rfl) rfl rfl rfl ?_
  refine s_nil ?_
  refine f_then ?_
  refine c_seq ?_
  refine c_region ?_
  refine s_y (y_move rfl) rfl rfl rfl ?_
  refine s_y (y_lenR Try.tab rfl rfl) rfl rfl rfl ?_
  refine s_do (make_u32 (by_ := 4) Try.tab rfl rfl rfl rfl rfl rfl (by omega)) rfl rfl rfl (fun b12 => ?_)
  refine s_y (y_assign rfl) rfl rfl rfl ?_
  refine s_nil ?_
  refine f_then ?_
  refine c_seq ?_
  refine c_region ?_
  refine s_y (y_assign rfl) rfl rfl rfl ?_
  refine s_nil ?_
  refine f_then ?_
  refine c_seq ?_
  refine c_seq ?_
  refine c_region ?_
  refine s_y (y_move rfl) rfl rfl rfl ?_
  refine s_y (y_lenR Try.tab rfl rfl) rfl rfl rfl ?_
  refine s_y (y_sub rfl rfl (by omega)) rfl rfl rfl ?_
  refine s_y (y_assign rfl) rfl rfl rfl ?_
  refine s_nil ?_
  refine f_then ?_
  refine c_block ?_
  refine c_loopP (α := Nat × Nat × (Nat → Nat)) (fun z => [(0, a), (1, .int .u32 (d : Int)), (6, .slice (some ⟨b12, 0, none⟩) (wl x) (wl x)), (7, .int .u64 (z.2.1 : Int)), (8, .int .i64 ((z.1 : Int) - 1))])
    (fun z => z.1 ≤ wl x ∧ z.2.1 < d ∧ Dig z.2.2 (wl x) ∧ x / B ^ z.1 = d * val (fun i => z.2.2 (z.1 + i)) (wl x - z.1) + z.2.1) (fun z => K W ([(b12, u32s (wl x) z.2.2 [])] :: N)) (fun z => z.1) (wl x, 0, fun _ => 0)
    ⟨rfl, rfl, rfl, rfl, rfl, trivial⟩ ⟨Nat.le_refl _, hd, Dig.zero _, by dsimp only; rw [Nat.sub_self, val_0, Nat.div_eq_of_lt (lt_wl x)]; rfl⟩ (fun w h => h) ?_
  rintro ⟨k, r, g⟩ ⟨hk, hr, hg, hv⟩
  dsimp only at hk hr hg hv ⊢
  by_cases hk0 : k = 0
  · subst hk0
    have hv2 : x = d * val g (wl x) + r := by simpa using hv
    have hq : val g (wl x) = x / d := by
      rw [hv2, Nat.mul_add_div (by omega), Nat.div_eq_of_lt hr, Nat.add_zero]
      rw [← hv2]
    have hm : x % d = r := by rw [hv2, Nat.mul_add_mod, Nat.mod_eq_of_lt hr]
    refine c_seq ?_
    refine c_seq ?_
    refine c_region ?_
    refine s_y (y_move rfl) rfl rfl rfl ?_
    refine s_y (y_F (y_geq rfl rfl) (by omega)) rfl rfl rfl ?_
    refine s_nil ?_
    refine f_then ?_
    refine c_condF rfl ?_
    refine c_exit ?_
    refine f_thenE ?_
    refine f_rndE ?_
    refine f_blockE ?_
    refine f_then ?_
    refine c_seq ?_
    refine c_region ?_
    refine s_y (y_move rfl) rfl rfl rfl ?_
    haveI hr2 : RawV (K W ([(b12, u32s (wl x) g [])] :: N)) (.slice (some ⟨b12, 0, none⟩) (wl x) (wl x)) (wl x) g := RawV.ownT 0 rfl (Nat.le_refl _) (by unfold maxLen; omega)
    refine s_call (en_f rfl Try.call101) (norm_spec hg) rfl rfl rfl (fun r9 => ?_)
    refine s_y (y_move rfl) rfl rfl rfl ?_
    refine s_y (y_to32 Try.tab rfl rfl rfl) rfl rfl rfl ?_
    refine s_y (y_assign rfl) rfl rfl rfl ?_
    refine s_y (y_assign rfl) rfl rfl rfl ?_
    refine s_nil ?_
    refine f_then ?_
    refine c_ret ?_
    exact f_retE ⟨_, r9.v, r9.ok.of hq⟩ (res2 rfl rfl rfl) (by rw [hm, show ((r : Int) % 4294967296) = r by omega]) (fun w h => h)
  · have dx := dg_lt' x (k - 1)
    have e1 : ((k : Int) - 1).toNat = k - 1 := by omega
    have hstep := div_dg x (k - 1)
    rw [Nat.sub_add_cancel (by omega)] at hstep
    refine c_seq ?_
    refine c_seq ?_
    refine c_region ?_
    refine s_y (y_move rfl) rfl rfl rfl ?_
    refine s_y (y_T (y_geq rfl rfl) (by omega)) rfl rfl rfl ?_
    refine s_nil ?_
    refine f_then ?_
    refine c_condT rfl ?_
    refine c_skip ?_
    refine f_then ?_
    refine c_seq ?_
    refine c_block ?_
    refine c_seq ?_
    refine c_region ?_
    refine s_y (y_move rfl) rfl rfl rfl ?_
    refine s_y (y_shlV (d := 4294967296) rfl rfl (by decide) rfl (by omega)) rfl rfl rfl ?_
    refine s_y (y_move rfl) rfl rfl rfl ?_
    refine s_y (y_move rfl) rfl rfl rfl ?_
    refine s_y (y_ixR Try.tab rfl rfl rfl rfl _ (Int.toNat_of_nonneg (by omega)).symm (by omega)) rfl rfl rfl ?_
    refine s_y (y_ldR Try.tab rfl rfl (by omega)) rfl rfl rfl ?_
    rw [e1]
    obtain ⟨t, ht⟩ : ∃ t, t = r * 4294967296 + dg x (k - 1) := ⟨_, rfl⟩
    have htd : t < d * 4294967296 := by
      have : (r + 1) * 4294967296 ≤ d * 4294967296 := Nat.mul_le_mul_right _ hr
      omega
    have hq : t / d < 4294967296 := by rw [Nat.div_lt_iff_lt_mul (by omega), Nat.mul_comm]; exact htd
    have hdm := Nat.div_add_mod t d
    have hrd : t % d < d := Nat.mod_lt _ (by omega)
    refine s_y (y_to64 Try.tab rfl rfl rfl (by omega)) rfl rfl rfl ?_
    refine s_y (y_orW rfl rfl (by omega)) rfl rfl rfl ?_
    refine s_y (y_assign rfl) rfl rfl rfl ?_
    refine s_nil ?_
    refine f_then ?_
    refine c_seq ?_
    refine c_region ?_
    refine s_y (y_move rfl) rfl rfl rfl ?_
    refine s_y (y_move rfl) rfl rfl rfl ?_
    refine s_y (y_move rfl) rfl rfl rfl ?_
    refine s_y (y_move rfl) rfl rfl rfl ?_
    refine s_y (y_to64 Try.tab rfl rfl rfl (by omega)) rfl rfl rfl ?_
    refine s_y (y_quoU rfl rfl (by omega)) rfl rfl rfl ?_
    refine s_y (y_to32 Try.tab rfl rfl rfl) rfl rfl rfl ?_
    refine s_y (y_indexAddr1 Try.tab rfl rfl rfl rfl _ (Int.toNat_of_nonneg (by omega)).symm (by omega)) rfl rfl rfl ?_
    refine s_set (set_u32 Try.tab 0 _ rfl rfl rfl rfl (Int.toNat_of_nonneg (by omega)).symm (by omega)) rfl rfl ?_
    refine s_nil ?_
    refine f_then ?_
    refine c_region ?_
    refine s_y (y_move rfl) rfl rfl rfl ?_
    refine s_y (y_move rfl) rfl rfl rfl ?_
    refine s_y (y_to64 Try.tab rfl rfl rfl (by omega)) rfl rfl rfl ?_
    refine s_y (y_remK rfl rfl (by omega)) rfl rfl rfl ?_
    refine s_y (y_assign rfl) rfl rfl rfl ?_
    refine s_nil ?_
    refine f_blockN ?_
    refine f_then ?_
    refine c_region ?_
    refine s_y (y_move rfl) rfl rfl rfl ?_
    refine s_y (y_sub rfl rfl (by omega)) rfl rfl rfl ?_
    refine s_y (y_assign rfl) rfl rfl rfl ?_
    refine s_nil ?_
    rw [← ht, e1]
    have e2 : ((t : Int) / (d : Int) % 4294967296).toNat = t / d := by
      rw [← Int.natCast_ediv, toNat_mod32, Nat.mod_eq_of_lt hq]
    rw [e2]
    refine f_roundP (k - 1, t % d, upd g (k - 1) (t / d)) ⟨by dsimp only; omega, hrd, hg.updL hq, ?_⟩ (by dsimp only; omega) ⟨rfl, rfl, rfl, rfl, congrArg (fun z => some (Value.int .i64 z)) (by omega), trivial⟩ (fun w h => h)
    dsimp only
    rw [hstep, hv, show wl x - (k - 1) = (wl x - k) + 1 by omega, val_down]
    have h1 : upd g (k - 1) (t / d) (k - 1 + 0) = t / d := by simp [upd]
    have h2 : val (fun i => upd g (k - 1) (t / d) (k - 1 + (1 + i))) (wl x - k) = val (fun i => g (k + i)) (wl x - k) := val_congr fun i _ => by rw [upd_get, if_neg (by omega)]; congr 1; omega
    rw [h1, h2]
    show _ = d * (t / d + 4294967296 * _) + t % d
    generalize val (fun i => g (k + i)) (wl x - k) = V
    have h3 : d * (t / d + 4294967296 * V) = d * (t / d) + d * V * 4294967296 := by rw [Nat.mul_add]; congr 1; rw [Nat.mul_comm 4294967296, Nat.mul_assoc]
    rw [h3, Nat.add_mul]
    omega
end Go.KL
end

section
/- Walks: shifts by less than a word. -/
namespace Go.KL
open Go.Proofs
theorem two_le32 {n : Nat} (h : n < 32) : 2 ^ n ≤ 2147483648 ∧ 0 < 2 ^ n := ⟨Nat.pow_le_pow_right (n := 2) (by decide) (show n ≤ 31 by omega), Nat.pow_pos (by decide)⟩
theorem two_split {n : Nat} (h : n < 32) : 2 ^ n * 2 ^ (32 - n) = 4294967296 := by rw [← Nat.pow_add, show n + (32 - n) = 32 by omega]
theorem lsh_low {n d : Nat} (h : n < 32) : ∃ p, d * 2 ^ n % 4294967296 = p * 2 ^ n := by
  refine ⟨d % 2 ^ (32 - n), ?_⟩
  rw [← two_split h, Nat.mul_comm (2 ^ n), Nat.mul_mod_mul_right]
theorem lsh_fit {n c p : Nat} (h : n < 32) (hc : c < 2 ^ n) (hp : p * 2 ^ n < 4294967296) : c + p * 2 ^ n < 4294967296 := by
  have h1 := two_split h
  rw [Nat.mul_comm] at h1
  rw [← h1] at hp ⊢
  have h2 : p < 2 ^ (32 - n) := Nat.lt_of_mul_lt_mul_right hp
  have h3 : (p + 1) * 2 ^ n ≤ 2 ^ (32 - n) * 2 ^ n := Nat.mul_le_mul_right _ h2
  rw [Nat.add_mul] at h3
  omega
theorem or_low {n c p : Nat} (hc : c < 2 ^ n) : c ||| (p * 2 ^ n) = c + p * 2 ^ n := by
  rw [Nat.or_comm, or_add hc, Nat.add_comm]
attribute [local irreducible] SC St Fin Sq Ylds Doos Sets Enters Spec CellIs CellsAre Then Ret Rnd Chn resOK ints bools recs arr
set_option maxRecDepth 10000 in
set_option maxHeartbeats 4000000 in
theorem lsh_spec {W : World} {N : List Chunk} {a : Value} {x n : Nat} [ha : NatV (K W N) a x] (hx : wl x ≤ 1000000) (hn : n < 32) :
    Spec Try.prog 131 #[a, .int .i64 (n : Int)] (K W N) (X := Res W N (x * 2 ^ n)) (fun r => r.v) (fun r => K W (r.L :: N)) := by
  refine enter (args := [_, _]) Try.func131 rfl Try.ntmps131 rfl ?_
  have q0 : (n : Int) / 32 = 0 := by omega
  have q1 : (n : Int) % 32 = n := by omega
  obtain ⟨p1, p2⟩ := two_le32 hn
  by_cases h0 : x = 0
  · have hw : wl x = 0 := wl_eq_zero.2 h0
    refine c_seq ?_
    refine c_region ?_
    refine s_y (y_assign rfl) rfl rfl rfl ?_
    refine s_nil ?_
    refine f_then ?_
    refine c_seq ?_
    refine c_seq ?_
    refine c_region ?_
    refine s_y (y_move rfl) rfl rfl rfl ?_
    refine s_y (y_lenR Try.tab rfl rfl) rfl rfl rfl ?_
    refine s_y (y_T (y_eql rfl rfl) (by omega)) rfl rfl rfl ?_
    refine s_nil ?_
    refine f_then ?_
    refine c_condT rfl ?_
    refine c_seq ?_
    refine c_region ?_
    refine s_y (y_assign rfl) rfl rfl rfl ?_
    refine s_nil ?_
    refine f_then ?_
    refine c_ret ?_
    refine f_thenR ?_
    exact f_ret ⟨[], .slice none 0 0, NatV.nilI.of (by rw [h0, Nat.zero_mul])⟩ (res1 rfl rfl) (fun w h => h.addNil)
  have hw : wl x ≠ 0 := fun e => h0 (wl_eq_zero.1 e)
  refine c_seq ?_
  refine c_region ?_
  refine s_y (y_assign rfl) rfl rfl rfl ?_
  refine s_nil ?_
  refine f_then ?_
  refine c_seq ?_
  refine c_seq ?_
  refine c_region ?_
  refine s_y (y_move rfl) rfl rfl rfl ?_
  refine s_y (y_lenR Try.tab rfl rfl) rfl rfl rfl ?_
  refine s_y (y_F (y_eql rfl rfl) (by omega)) rfl rfl rfl ?_
  refine s_nil ?_
  refine f_then ?_
  refine c_condF rfl ?_
  refine c_skip ?_
  refine f_then ?_
  refine c_seq ?_
  refine c_region ?_
  refine s_y (y_move rfl) rfl rfl rfl ?_
  refine s_y (y_quo rfl rfl (by omega)) rfl rfl rfl ?_
  refine s_y (y_move rfl) rfl rfl rfl ?_
  refine s_y (y_rem rfl rfl (by omega)) rfl rfl rfl ?_
  refine s_y (y_to64 Try.tab rfl rfl rfl (by omega)) rfl rfl rfl ?_
  refine s_y (y_assign rfl) rfl rfl rfl ?_
  refine s_y (y_assign rfl) rfl rfl rfl ?_
  refine s_nil ?_
  refine f_then ?_
  refine c_seq ?_
  refine c_region ?_
  refine s_y (y_move rfl) rfl rfl rfl ?_
  refine s_y (y_lenR Try.tab rfl rfl) rfl rfl rfl ?_
  refine s_y (y_move rfl) rfl rfl rfl ?_
  refine s_y (y_add rfl rfl (by omega)) rfl rfl rfl ?_
  refine s_y (y_add rfl rfl (by omega)) rfl rfl rfl ?_
  rw [q0, q1]
  obtain ⟨P, hP⟩ : ∃ P, P = 2 ^ n := ⟨_, rfl⟩
  refine s_do (make_u32 (by_ := 4) (m := wl x + 1) Try.tab rfl rfl rfl rfl rfl (by omega) (by omega)) rfl rfl rfl (fun b5 => ?_)
  refine s_y (y_assign rfl) rfl rfl rfl ?_
  refine s_nil ?_
  refine f_then ?_
  refine c_seq ?_
  refine c_seq ?_
  refine c_region ?_
  refine s_y (y_move rfl) rfl rfl rfl ?_
  refine s_y (y_lenR Try.tab rfl rfl) rfl rfl rfl ?_
  refine s_y (y_move rfl) rfl rfl rfl ?_
  refine s_nil ?_
  refine f_then ?_
  refine c_block ?_
  refine c_loopP (α := Nat × (Nat → Nat)) (fun z => [(0, a), (5, .int .i64 0), (6, .int .u64 (n : Int)), (7, .slice (some ⟨b5, 0, none⟩) (wl x + 1) (wl x + 1)), (25, .int .i64 (wl x)), (26, .int .i64 z.1)])
    (fun z => z.1 ≤ wl x ∧ Dig z.2 (wl x + 1) ∧ z.2 z.1 < 2 ^ n ∧ (∀ j, z.1 < j → j < wl x + 1 → z.2 j = 0) ∧ val z.2 (z.1 + 1) = val (dg x) z.1 * 2 ^ n) (fun z => K W ([(b5, u32s (wl x + 1) z.2 [])] :: N)) (fun z => wl x - z.1) (0, fun _ => 0)
    ⟨rfl, rfl, rfl, rfl, rfl, rfl, trivial⟩ ⟨Nat.zero_le _, Dig.zero _, p2, fun _ _ _ => rfl, by dsimp only; rw [val_0, Nat.zero_mul]; exact val_zero fun _ _ => rfl⟩ (fun w h => h) ?_
  rintro ⟨i, g⟩ ⟨hi, hg, hc, hz, hv⟩
  dsimp only at hi hg hc hz hv ⊢
  have dx := dg_lt' x i
  refine c_seq ?_
  refine c_region ?_
  refine s_y (y_lss rfl rfl) rfl rfl rfl ?_
  refine s_nil ?_
  refine f_then ?_
  refine c_seq ?_
  refine c_condD rfl (fun hlt => ?_) (fun hge => ?_)
  · have hilt : i < wl x := by omega
    obtain ⟨t, ht⟩ : ∃ t, t = dg x i * 2 ^ n := ⟨_, rfl⟩
    have htb : t < 4294967296 * 2 ^ n := by rw [ht]; exact Nat.mul_lt_mul_of_pos_right dx p2
    have hti : (dg x i : Int) * ((2 ^ n : Nat) : Int) = (t : Int) := by rw [ht]; simp
    have htb2 : t < 9223372036854775808 := by omega
    obtain ⟨p, hp⟩ := lsh_low (d := dg x i) hn
    rw [← ht] at hp
    have hor := or_low (p := p) hc
    rw [← hp] at hor
    have hfit := lsh_fit (p := p) hn hc (by rw [← hp]; omega)
    rw [← hp] at hfit
    have hgi : g i < 4294967296 := by omega
    refine c_skip ?_
    refine f_then ?_
    refine c_seq ?_
    refine c_block ?_
    refine c_seq ?_
    refine c_region ?_
    refine s_y (y_move rfl) rfl rfl rfl ?_
    refine s_y (y_assign rfl) rfl rfl rfl ?_
    refine s_nil ?_
    refine f_then ?_
    refine c_seq ?_
    refine c_region ?_
    refine s_y (y_move rfl) rfl rfl rfl ?_
    refine s_y (y_move rfl) rfl rfl rfl ?_
    refine s_y (y_ixR Try.tab rfl rfl rfl rfl _ rfl (by omega)) rfl rfl rfl ?_
    refine s_y (y_ldR Try.tab rfl rfl (by omega)) rfl rfl rfl ?_
    refine s_y (y_to64 Try.tab rfl rfl rfl (by omega)) rfl rfl rfl ?_
    refine s_y (y_move rfl) rfl rfl rfl ?_
    refine s_y (y_shlV (d := ((2 ^ n : Nat) : Int)) rfl rfl (by omega) (by simp) (by rw [hti]; omega)) rfl rfl rfl ?_
    rw [hti]
    refine s_y (y_assign rfl) rfl rfl rfl ?_
    refine s_nil ?_
    refine f_then ?_
    refine c_seq ?_
    refine c_region ?_
    refine s_y (y_move rfl) rfl rfl rfl ?_
    refine s_y (y_move rfl) rfl rfl rfl ?_
    refine s_y (y_move rfl) rfl rfl rfl ?_
    refine s_y (y_add rfl rfl (by omega)) rfl rfl rfl ?_
    refine s_y (y_indexAddr1 Try.tab rfl rfl rfl rfl _ (Int.toNat_of_nonneg (by omega)).symm (by omega)) rfl rfl rfl ?_
    refine s_y (y_load Try.tab rfl rfl (cell_u32 0 rfl (by omega))) rfl rfl rfl ?_
    refine s_y (y_move rfl) rfl rfl rfl ?_
    refine s_y (y_to32 Try.tab rfl rfl rfl) rfl rfl rfl ?_
    rw [show ((i : Int) + 0).toNat = i by omega]
    refine s_y (y_or32 (p := g i) (q := t % 4294967296) rfl rfl (by omega)) rfl rfl rfl ?_
    rw [hor]
    have e3 : ((i : Int) + 0).toNat = i := by omega
    refine s_y (y_indexAddr1 Try.tab rfl rfl rfl rfl _ (Int.toNat_of_nonneg (by omega)).symm (by omega)) rfl rfl rfl ?_
    refine s_set (set_u32 Try.tab 0 _ rfl rfl rfl rfl (Int.toNat_of_nonneg (by omega)).symm (by omega)) rfl rfl ?_
    refine s_nil ?_
    refine f_then ?_
    refine c_region ?_
    refine s_y (y_move rfl) rfl rfl rfl ?_
    refine s_y (y_move rfl) rfl rfl rfl ?_
    refine s_y (y_move rfl) rfl rfl rfl ?_
    refine s_y (y_add rfl rfl (by omega)) rfl rfl rfl ?_
    refine s_y (y_add rfl rfl (by omega)) rfl rfl rfl ?_
    refine s_y (y_move rfl) rfl rfl rfl ?_
    refine s_y (y_shrU (d := 4294967296) rfl rfl (by decide) rfl) rfl rfl rfl ?_
    refine s_y (y_to32 Try.tab rfl rfl rfl) rfl rfl rfl ?_
    refine s_y (y_indexAddr1 Try.tab rfl rfl rfl rfl _ (Int.toNat_of_nonneg (by omega)).symm (by omega)) rfl rfl rfl ?_
    refine s_set (set_u32 Try.tab 0 _ rfl rfl rfl rfl (Int.toNat_of_nonneg (by omega)).symm (by omega)) rfl rfl ?_
    refine s_nil ?_
    refine f_blockN ?_
    refine f_then ?_
    refine c_region ?_
    refine s_y (y_add rfl rfl (by omega)) rfl rfl rfl ?_
    refine s_y (y_move rfl) rfl rfl rfl ?_
    refine s_nil ?_
    have e4 : ((i : Int) + 0 + 1).toNat = i + 1 := by omega
    have e5 : ((g i + t % 4294967296 : Nat) : Int).toNat = g i + t % 4294967296 := rfl
    have htd : t / 4294967296 < 2 ^ n := by rw [Nat.div_lt_iff_lt_mul (by decide), Nat.mul_comm]; exact htb
    have e6 : ((t : Int) / 4294967296 % 4294967296).toNat = t / 4294967296 := by omega
    rw [e3, e4, e5, e6]
    have v1 := val_push g i (g i + t % 4294967296)
    have v2 := val_push (upd g i (g i + t % 4294967296)) (i + 1) (t / 4294967296)
    have v3 := carry_step (val g (i + 1)) t i
    refine f_roundP (i + 1, upd (upd g i (g i + t % 4294967296)) (i + 1) (t / 4294967296)) ⟨by dsimp only; omega, (hg.updL (by omega)).updL (by omega), ?_, ?_, ?_⟩ (by dsimp only; omega) ⟨rfl, rfl, rfl, rfl, rfl, rfl, trivial⟩ (fun w h => h)
    · dsimp only
      rw [upd_get, if_pos rfl]
      exact htd
    · intro j h1 h2
      dsimp only at h1 ⊢
      rw [upd_get, if_neg (by omega), upd_get, if_neg (by omega)]
      exact hz j (by omega) h2
    · dsimp only
      rw [v2, v1]
      have v4 : val g (i + 1) = val g i + g i * B ^ i := rfl
      have v5 : val (dg x) (i + 1) * 2 ^ n = val (dg x) i * 2 ^ n + t * B ^ i := by
        show (val (dg x) i + dg x i * B ^ i) * 2 ^ n = _
        rw [ht, Nat.add_mul]
        congr 1
        rw [Nat.mul_assoc, Nat.mul_assoc, Nat.mul_comm (B ^ i)]
      rw [v5, ← hv, ← v3, v4, Nat.add_mul]
      omega
  · obtain rfl : i = wl x := by omega
    rw [val_wl] at hv
    refine c_exit ?_
    refine f_thenE ?_
    refine f_rndE ?_
    refine f_blockE ?_
    refine f_then ?_
    refine c_seq ?_
    refine c_region ?_
    refine s_y (y_move rfl) rfl rfl rfl ?_
    haveI hr : RawV (K W ([(b5, u32s (wl x + 1) g [])] :: N)) (.slice (some ⟨b5, 0, none⟩) (wl x + 1) (wl x + 1)) (wl x + 1) g := RawV.ownT 0 rfl (Nat.le_refl _) (by unfold maxLen; omega)
    refine s_call (en_f rfl Try.call101) (norm_spec hg) rfl rfl rfl (fun r9 => ?_)
    refine s_y (y_assign rfl) rfl rfl rfl ?_
    refine s_nil ?_
    refine f_then ?_
    refine c_ret ?_
    exact f_ret ⟨_, r9.v, r9.ok.of hv⟩ (res1 rfl rfl) (fun w h => h)
theorem rsh_dig {x n i : Nat} (h : n < 32) : (dg x i + dg x (i + 1) * 4294967296) / 2 ^ n % 4294967296 = dg (x / 2 ^ n) i := by
  have h1 := two_split h
  unfold dg
  rw [Nat.div_div_eq_div_mul, Nat.mul_comm (2 ^ n), ← Nat.div_div_eq_div_mul, B_succ, ← Nat.div_div_eq_div_mul]
  generalize x / B ^ i = m
  show (m % 4294967296 + m / 4294967296 % 4294967296 * 4294967296) / 2 ^ n % 4294967296 = m / 2 ^ n % 4294967296
  have h2 : m % (4294967296 * 4294967296) = m % 4294967296 + m / 4294967296 % 4294967296 * 4294967296 := by rw [Nat.mod_mul, Nat.mul_comm 4294967296 (m / 4294967296 % 4294967296)]
  rw [← h2]
  have h3 := Nat.div_add_mod m (4294967296 * 4294967296)
  generalize m % (4294967296 * 4294967296) = r at *
  generalize m / (4294967296 * 4294967296) = q at *
  rw [← h3]
  have h4 : 4294967296 * 4294967296 * q = 2 ^ n * (4294967296 * (2 ^ (32 - n) * q)) := by rw [← h1]; grind
  rw [h4, Nat.mul_add_div (Nat.pow_pos (by decide)), Nat.mul_add_mod]
set_option maxRecDepth 10000 in
set_option maxHeartbeats 4000000 in
theorem rsh_spec {W : World} {N : List Chunk} {a : Value} {x n : Nat} [ha : NatV (K W N) a x] (hx : wl x ≤ 1000000) (hn : n < 32) :
    Spec Try.prog 134 #[a, .int .i64 (n : Int)] (K W N) (X := Res W N (x / 2 ^ n)) (fun r => r.v) (fun r => K W (r.L :: N)) := by
  refine enter (args := [_, _]) Try.func134 rfl Try.ntmps134 rfl ?_
  have q0 : (n : Int) / 32 = 0 := by omega
  have q1 : (n : Int) % 32 = n := by omega
  obtain ⟨p1, p2⟩ := two_le32 hn
  by_cases h0 : x = 0
  · have hw : wl x = 0 := wl_eq_zero.2 h0
    refine c_seq ?_
    refine c_region ?_
    refine s_y (y_assign rfl) rfl rfl rfl ?_
    refine s_nil ?_
    refine f_then ?_
    refine c_seq ?_
    refine c_region ?_
    refine s_y (y_move rfl) rfl rfl rfl ?_
    refine s_y (y_quo rfl rfl (by omega)) rfl rfl rfl ?_
    refine s_y (y_move rfl) rfl rfl rfl ?_
    refine s_y (y_rem rfl rfl (by omega)) rfl rfl rfl ?_
    refine s_y (y_to64 Try.tab rfl rfl rfl (by omega)) rfl rfl rfl ?_
    refine s_y (y_assign rfl) rfl rfl rfl ?_
    refine s_y (y_assign rfl) rfl rfl rfl ?_
    refine s_nil ?_
    refine f_then ?_
    refine c_seq ?_
    refine c_seq ?_
    refine c_region ?_
    refine s_y (y_move rfl) rfl rfl rfl ?_
    refine s_y (y_move rfl) rfl rfl rfl ?_
    refine s_y (y_lenR Try.tab rfl rfl) rfl rfl rfl ?_
    refine s_y (y_T (y_geq rfl rfl) (by omega)) rfl rfl rfl ?_
    refine s_nil ?_
    refine f_then ?_
    refine c_condT rfl ?_
    refine c_seq ?_
    refine c_region ?_
    refine s_y (y_assign rfl) rfl rfl rfl ?_
    refine s_nil ?_
    refine f_then ?_
    refine c_ret ?_
    refine f_thenR ?_
    exact f_ret ⟨[], .slice none 0 0, NatV.nilI.of (by rw [h0, Nat.zero_div])⟩ (res1 rfl rfl) (fun w h => h.addNil)
  have hw : wl x ≠ 0 := fun e => h0 (wl_eq_zero.1 e)
  refine c_seq ?_
  refine c_region ?_
  refine s_y (y_assign rfl) rfl rfl rfl ?_
  refine s_nil ?_
  refine f_then ?_
  refine c_seq ?_
  refine c_region ?_
  refine s_y (y_move rfl) rfl rfl rfl ?_
  refine s_y (y_quo rfl rfl (by omega)) rfl rfl rfl ?_
  refine s_y (y_move rfl) rfl rfl rfl ?_
  refine s_y (y_rem rfl rfl (by omega)) rfl rfl rfl ?_
  refine s_y (y_to64 Try.tab rfl rfl rfl (by omega)) rfl rfl rfl ?_
  refine s_y (y_assign rfl) rfl rfl rfl ?_
  refine s_y (y_assign rfl) rfl rfl rfl ?_
  refine s_nil ?_
  refine f_then ?_
  refine c_seq ?_
  refine c_seq ?_
  refine c_region ?_
  refine s_y (y_move rfl) rfl rfl rfl ?_
  refine s_y (y_move rfl) rfl rfl rfl ?_
  refine s_y (y_lenR Try.tab rfl rfl) rfl rfl rfl ?_
  refine s_y (y_F (y_geq rfl rfl) (by omega)) rfl rfl rfl ?_
  refine s_nil ?_
  refine f_then ?_
  refine c_condF rfl ?_
  refine c_skip ?_
  refine f_then ?_
  refine c_seq ?_
  refine c_region ?_
  refine s_y (y_move rfl) rfl rfl rfl ?_
  refine s_y (y_lenR Try.tab rfl rfl) rfl rfl rfl ?_
  refine s_y (y_move rfl) rfl rfl rfl ?_
  refine s_y (y_sub rfl rfl (by omega)) rfl rfl rfl ?_
  rw [q0, q1]
  refine s_do (make_u32 (by_ := 4) (m := wl x) Try.tab rfl rfl rfl rfl rfl (by omega) (by omega)) rfl rfl rfl (fun b5 => ?_)
  refine s_y (y_assign rfl) rfl rfl rfl ?_
  refine s_nil ?_
  refine f_then ?_
  refine c_seq ?_
  refine c_seq ?_
  refine c_region ?_
  refine s_y (y_move rfl) rfl rfl rfl ?_
  refine s_y (y_len Try.tab rfl rfl) rfl rfl rfl ?_
  refine s_y (y_move rfl) rfl rfl rfl ?_
  refine s_nil ?_
  refine f_then ?_
  refine c_block ?_
  refine c_loopP (α := Nat × (Nat → Nat)) (fun z => [(0, a), (5, .int .i64 0), (6, .int .u64 (n : Int)), (7, .slice (some ⟨b5, 0, none⟩) (wl x) (wl x)), (25, .int .i64 (wl x)), (26, .int .i64 z.1)])
    (fun z => z.1 ≤ wl x ∧ Dig z.2 (wl x) ∧ ∀ j, j < z.1 → z.2 j = dg (x / 2 ^ n) j) (fun z => K W ([(b5, u32s (wl x) z.2 [])] :: N)) (fun z => wl x - z.1) (0, fun _ => 0)
    ⟨rfl, rfl, rfl, rfl, rfl, rfl, trivial⟩ ⟨Nat.zero_le _, Dig.zero _, fun j h => absurd h (Nat.not_lt_zero j)⟩ (fun w h => h) ?_
  rintro ⟨i, g⟩ ⟨hi, hg, hv⟩
  dsimp only at hi hg hv ⊢
  have dx := dg_lt' x i
  have dx1 := dg_lt' x (i + 1)
  refine c_seq ?_
  refine c_region ?_
  refine s_y (y_lss rfl rfl) rfl rfl rfl ?_
  refine s_nil ?_
  refine f_then ?_
  refine c_seq ?_
  refine c_condD rfl (fun hlt => ?_) (fun hge => ?_)
  · have hilt : i < wl x := by omega
    obtain ⟨t, ht⟩ : ∃ t, t = dg x i + dg x (i + 1) * 4294967296 := ⟨_, rfl⟩
    have htb : t < 18446744073709551616 := by omega
    have e0 : ((i : Int) + 0).toNat = i := by omega
    have e1 : ((i : Int) + 0 + 1).toNat = i + 1 := by omega
    refine c_skip ?_
    refine f_then ?_
    refine c_seq ?_
    refine c_block ?_
    refine c_seq ?_
    refine c_region ?_
    refine s_y (y_move rfl) rfl rfl rfl ?_
    refine s_y (y_assign rfl) rfl rfl rfl ?_
    refine s_nil ?_
    refine f_then ?_
    refine c_seq ?_
    refine c_region ?_
    refine s_y (y_move rfl) rfl rfl rfl ?_
    refine s_y (y_move rfl) rfl rfl rfl ?_
    refine s_y (y_move rfl) rfl rfl rfl ?_
    refine s_y (y_add rfl rfl (by omega)) rfl rfl rfl ?_
    refine s_y (y_ixR Try.tab rfl rfl rfl rfl _ rfl (by omega)) rfl rfl rfl ?_
    refine s_y (y_ldR Try.tab rfl rfl (by omega)) rfl rfl rfl ?_
    rw [Nat.add_zero]
    refine s_y (y_to64 Try.tab rfl rfl rfl (by omega)) rfl rfl rfl ?_
    refine s_y (y_assign rfl) rfl rfl rfl ?_
    refine s_nil ?_
    refine f_then ?_
    refine c_seq ?_
    refine c_seq ?_
    refine c_region ?_
    refine s_y (y_move rfl) rfl rfl rfl ?_
    refine s_y (y_move rfl) rfl rfl rfl ?_
    refine s_y (y_add rfl rfl (by omega)) rfl rfl rfl ?_
    refine s_y (y_add rfl rfl (by omega)) rfl rfl rfl ?_
    refine s_y (y_move rfl) rfl rfl rfl ?_
    refine s_y (y_lenR Try.tab rfl rfl) rfl rfl rfl ?_
    refine s_y (y_lss rfl rfl) rfl rfl rfl ?_
    refine s_nil ?_
    refine f_then ?_
    refine c_then_cut (α := Unit) (fun _ => [(0, a), (5, .int .i64 0), (6, .int .u64 (n : Int)), (7, .slice (some ⟨b5, 0, none⟩) (wl x) (wl x)), (8, .int .i64 i), (9, .int .u64 (t : Int)), (25, .int .i64 (wl x)), (26, .int .i64 i)]) (fun _ => True) (fun _ => K W ([(b5, u32s (wl x) g [])] :: N)) ?_ ?_
    · refine c_condD rfl (fun hlt2 => ?_) (fun hge2 => ?_)
      · refine c_region ?_
        refine s_y (y_move rfl) rfl rfl rfl ?_
        refine s_y (y_move rfl) rfl rfl rfl ?_
        refine s_y (y_move rfl) rfl rfl rfl ?_
        refine s_y (y_move rfl) rfl rfl rfl ?_
        refine s_y (y_add rfl rfl (by omega)) rfl rfl rfl ?_
        refine s_y (y_add rfl rfl (by omega)) rfl rfl rfl ?_
        refine s_y (y_ixR Try.tab rfl rfl rfl rfl _ (Int.toNat_of_nonneg (by omega)).symm (by omega)) rfl rfl rfl ?_
        refine s_y (y_ldR Try.tab rfl rfl (by omega)) rfl rfl rfl ?_
        rw [e1]
        refine s_y (y_to64 Try.tab rfl rfl rfl (by omega)) rfl rfl rfl ?_
        refine s_y (y_shlV (d := 4294967296) rfl rfl (by decide) rfl (by omega)) rfl rfl rfl ?_
        refine s_y (y_orWr rfl rfl (by omega)) rfl rfl rfl ?_
        refine s_y (y_assign rfl) rfl rfl rfl ?_
        refine s_nil ?_
        exact f_cutP () trivial ⟨rfl, rfl, rfl, rfl, rfl, congrArg (fun z => some (Value.int .u64 z)) (by rw [ht]), rfl, rfl, trivial⟩ (fun w h => h)
      · have hz : dg x (i + 1) = 0 := dg_out (by omega)
        refine c_skip ?_
        exact f_cutP () trivial ⟨rfl, rfl, rfl, rfl, rfl, congrArg (fun z => some (Value.int .u64 z)) (by omega), rfl, rfl, trivial⟩ (fun w h => h)
    rintro _ _
    have hr := rsh_dig (x := x) (i := i) hn
    rw [← ht] at hr
    have hpi : (2 : Int) ^ n = ((2 ^ n : Nat) : Int) := by simp
    have hdb := dg_lt' (x / 2 ^ n) i
    refine c_region ?_
    refine s_y (y_move rfl) rfl rfl rfl ?_
    refine s_y (y_move rfl) rfl rfl rfl ?_
    refine s_y (y_move rfl) rfl rfl rfl ?_
    refine s_y (y_move rfl) rfl rfl rfl ?_
    refine s_y (y_shrU (d := ((2 ^ n : Nat) : Int)) rfl rfl ⟨by omega, by show (n : Int) < 64; omega⟩ (by simp)) rfl rfl rfl ?_
    refine s_y (y_to32 Try.tab rfl rfl rfl) rfl rfl rfl ?_
    refine s_y (y_indexAddr1 Try.tab rfl rfl rfl rfl _ rfl (by omega)) rfl rfl rfl ?_
    refine s_set (set_u32 Try.tab 0 _ rfl rfl rfl rfl (Int.toNat_of_nonneg (by omega)).symm (by omega)) rfl rfl ?_
    refine s_nil ?_
    refine f_blockN ?_
    refine f_then ?_
    refine c_region ?_
    refine s_y (y_add rfl rfl (by omega)) rfl rfl rfl ?_
    refine s_y (y_move rfl) rfl rfl rfl ?_
    refine s_nil ?_
    have e2 : ((t : Int) / ((2 ^ n : Nat) : Int) % 4294967296).toNat = dg (x / 2 ^ n) i := by rw [← Int.natCast_ediv, toNat_mod32, hr]
    rw [e2]
    refine f_roundP (i + 1, upd g i (dg (x / 2 ^ n) i)) ⟨by dsimp only; omega, hg.updL hdb, fun j hj => ?_⟩ (by dsimp only; omega) ⟨rfl, rfl, rfl, rfl, rfl, rfl, trivial⟩ (fun w h => h)
    dsimp only at hj ⊢
    rw [upd_get]
    split
    · rename_i q; rw [q]
    · exact hv j (by omega)
  · obtain rfl : i = wl x := by omega
    have hv2 : val g (wl x) = x / 2 ^ n := by
      rw [val_congr hv]
      exact val_of_le (wl_mono (Nat.div_le_self _ _))
    refine c_exit ?_
    refine f_thenE ?_
    refine f_rndE ?_
    refine f_blockE ?_
    refine f_then ?_
    refine c_seq ?_
    refine c_region ?_
    refine s_y (y_move rfl) rfl rfl rfl ?_
    haveI hr : RawV (K W ([(b5, u32s (wl x) g [])] :: N)) (.slice (some ⟨b5, 0, none⟩) (wl x) (wl x)) (wl x) g := RawV.ownT 0 rfl (Nat.le_refl _) (by unfold maxLen; omega)
    refine s_call (en_f rfl Try.call101) (norm_spec hg) rfl rfl rfl (fun r9 => ?_)
    refine s_y (y_assign rfl) rfl rfl rfl ?_
    refine s_nil ?_
    refine f_then ?_
    refine c_ret ?_
    exact f_ret ⟨_, r9.v, r9.ok.of hv2⟩ (res1 rfl rfl) (fun w h => h)
end Go.KL
end

section
/- Walks: estimate. -/
namespace Go.KL
open Go.Proofs
/-- A digit of the quotient: by three words and two. -/
def est (u2 u1 u0 v1 v0 : Nat) : Nat := min ((u2 * 4294967296 * 4294967296 + u1 * 4294967296 + u0) / (v1 * 4294967296 + v0)) 4294967295
theorem est_lt {u2 u1 u0 v1 v0 : Nat} : est u2 u1 u0 v1 v0 ≤ 4294967295 := by
  unfold est
  exact Nat.min_le_right _ _
section
variable {u2 u1 u0 v1 v0 q r t : Nat} (ht : t = u2 * 4294967296 + u1) (h : q * v1 + r = t)
include ht h
theorem est_start (h0 : u0 < 4294967296) (hv1 : 1 ≤ v1) (hr : r < v1) : est u2 u1 u0 v1 v0 ≤ q := by
  unfold est
  refine Nat.le_trans (Nat.min_le_left _ _) (Nat.le_of_lt_succ ?_)
  rw [Nat.div_lt_iff_lt_mul (by omega)]
  have e1 : (q + 1) * (v1 * 4294967296 + v0) = (q * v1 + v1) * 4294967296 + (q + 1) * v0 := by grind
  rw [e1]
  generalize (q + 1) * v0 = z
  generalize q * v1 = y at *
  omega
theorem est_dec (hq : 4294967296 ≤ q ∨ r * 4294967296 + u0 < q * v0) (hle : est u2 u1 u0 v1 v0 ≤ q) (hv1 : 1 ≤ v1) : est u2 u1 u0 v1 v0 ≤ q - 1 ∧ 1 ≤ q := by
  rcases hq with hq | hq
  · have := est_lt (u2 := u2) (u1 := u1) (u0 := u0) (v1 := v1) (v0 := v0)
    omega
  · have hq1 : 1 ≤ q := by
      rcases Nat.eq_zero_or_pos q with z | z
      · subst z; simp at hq
      · exact z
    refine ⟨?_, hq1⟩
    unfold est
    refine Nat.le_trans (Nat.min_le_left _ _) (Nat.le_sub_one_of_lt ?_)
    rw [Nat.div_lt_iff_lt_mul (by omega)]
    have e1 : q * (v1 * 4294967296 + v0) = q * v1 * 4294967296 + q * v0 := by grind
    have e2 : u2 * 4294967296 * 4294967296 + u1 * 4294967296 = q * v1 * 4294967296 + r * 4294967296 := by rw [← Nat.add_mul, ← Nat.add_mul, h, ht]
    rw [e1, e2, Nat.add_assoc]
    exact Nat.add_lt_add_left hq _
theorem est_out (hq : q < 4294967296) (hz : q * v0 ≤ r * 4294967296 + u0) (hle : est u2 u1 u0 v1 v0 ≤ q) (hv1 : 1 ≤ v1) : est u2 u1 u0 v1 v0 = q := by
  refine Nat.le_antisymm hle ?_
  unfold est
  rw [Nat.le_min]
  refine ⟨?_, by omega⟩
  rw [Nat.le_div_iff_mul_le (by omega)]
  have e1 : q * (v1 * 4294967296 + v0) = q * v1 * 4294967296 + q * v0 := by grind
  rw [e1]
  generalize q * v0 = z at *
  generalize q * v1 = y at *
  omega
theorem est_brk (h2 : u2 ≤ v1) (h1 : u1 < 4294967296) (hv0 : v0 < 4294967296) (hr : 4294967296 ≤ r) (hle : est u2 u1 u0 v1 v0 ≤ q) (hv1 : 1 ≤ v1) : est u2 u1 u0 v1 v0 = q := by
  have hq : q < 4294967296 := by
    rcases Nat.lt_or_ge q 4294967296 with z | z
    · exact z
    · have := Nat.mul_le_mul_right v1 z
      omega
  refine est_out ht h hq ?_ hle hv1
  have : q * v0 ≤ 4294967295 * 4294967295 := Nat.mul_le_mul (by omega) (by omega)
  omega
end
attribute [local irreducible] SC St Fin Sq Ylds Doos Sets Enters Spec CellIs CellsAre Then Ret Rnd Chn resOK ints bools recs arr
set_option maxRecDepth 10000 in
set_option maxHeartbeats 4000000 in
theorem estimate_spec {W : World} {N : List Chunk} {u2 u1 u0 v1 v0 : Nat} (h2 : u2 ≤ v1) (h1 : u1 < 4294967296) (h0 : u0 < 4294967296) (hv1 : 1 ≤ v1 ∧ v1 < 4294967296) (hv0 : v0 < 4294967296) :
    Spec Try.prog 132 #[.int .u64 (u2 : Int), .int .u64 (u1 : Int), .int .u64 (u0 : Int), .int .u64 (v1 : Int), .int .u64 (v0 : Int)] (K W N) (fun _ : Unit => .int .u64 (est u2 u1 u0 v1 v0 : Nat)) (fun _ => K W N) := by
  refine enter (args := [_, _, _, _, _]) Try.func132 rfl Try.ntmps132 rfl ?_
  obtain ⟨t, ht⟩ : ∃ t, t = u2 * 4294967296 + u1 := ⟨_, rfl⟩
  have htb : t < 18446744073709551616 := by omega
  refine c_seq ?_
  refine c_region ?_
  refine s_y (y_assign rfl) rfl rfl rfl ?_
  refine s_nil ?_
  refine f_then ?_
  refine c_scope ?_
  refine c_seq ?_
  refine c_region ?_
  refine s_y (y_move rfl) rfl rfl rfl ?_
  refine s_y (y_shlV (d := 4294967296) rfl rfl (by decide) rfl (by omega)) rfl rfl rfl ?_
  refine s_y (y_move rfl) rfl rfl rfl ?_
  refine s_y (y_orW rfl rfl (by omega)) rfl rfl rfl ?_
  refine s_y (y_assign rfl) rfl rfl rfl ?_
  refine s_nil ?_
  refine f_then ?_
  refine c_seq ?_
  refine c_quiet Try.mixed (by kernel_rfl) K.drew ?_
  refine q_y (y_move rfl) rfl rfl rfl ?_
  refine q_y (y_move rfl) rfl rfl rfl ?_
  refine q_y (y_quoU rfl rfl (by omega)) rfl rfl rfl ?_
  refine q_y (y_move rfl) rfl rfl rfl ?_
  refine q_y (y_move rfl) rfl rfl rfl ?_
  refine q_y (y_remK rfl rfl (by omega)) rfl rfl rfl ?_
  refine q_y (y_assign rfl) rfl rfl rfl ?_
  refine q_y (y_assign rfl) rfl rfl rfl ?_
  refine q_nil ?_
  refine f_then ?_
  refine c_seq ?_
  refine c_label ?_
  refine f_then ?_
  refine c_seq ?_
  refine c_block ?_
  rw [← ht]
  skip
  have hdm := Nat.div_add_mod t v1
  have hml := Nat.mod_lt t (show 0 < v1 by omega)
  rw [Nat.mul_comm] at hdm
  have hst := est_start (v0 := v0) ht hdm h0 hv1.1 hml
  refine c_loopP (α := Nat × Nat) (fun z => [(2, .int .u64 (u0 : Int)), (3, .int .u64 (v1 : Int)), (4, .int .u64 (v0 : Int)), (12, .int .u64 (z.1 : Int)), (13, .int .u64 (z.2 : Int))])
    (fun z => z.1 * v1 + z.2 = t ∧ z.2 < 4294967296 ∧ est u2 u1 u0 v1 v0 ≤ z.1) (fun _ => K W N) (fun z => z.1) (t / v1, t % v1) ⟨rfl, rfl, rfl, rfl, rfl, trivial⟩ ⟨hdm, by dsimp only; omega, hst⟩ (fun w h => h) ?_
  clear hdm hml hst
  rintro ⟨q, r⟩ ⟨hqr, hr, hle⟩
  dsimp only at hqr hr hle ⊢
  have hqt : q ≤ t := by
    have := Nat.le_mul_of_pos_right q (show 0 < v1 by omega)
    omega
  by_cases hq : 4294967296 ≤ q
  · obtain ⟨hd1, hd2⟩ := est_dec ht hqr (.inl hq) hle hv1.1
    have hqr2 : (q - 1) * v1 + (r + v1) = t := by
      rw [Nat.sub_mul]
      have := Nat.mul_le_mul_right v1 hd2
      omega
    refine c_seq ?_
    refine c_seq ?_
    refine c_region ?_
    refine s_y (y_move rfl) rfl rfl rfl ?_
    refine s_y (y_T (y_geq rfl rfl) (by omega)) rfl rfl rfl ?_
    refine s_y (y_move rfl) rfl rfl rfl ?_
    iterate 8 refine s_skip rfl rfl rfl ?_
    refine s_y (y_pickT rfl rfl) rfl rfl rfl ?_
    refine s_nil ?_
    refine f_then ?_
    refine c_condT rfl ?_
    refine c_skip ?_
    refine f_then ?_
    refine c_block ?_
    refine c_seq ?_
    refine c_region ?_
    refine s_y (y_move rfl) rfl rfl rfl ?_
    refine s_y (y_subU rfl rfl (by omega)) rfl rfl rfl ?_
    refine s_y (y_assign rfl) rfl rfl rfl ?_
    refine s_nil ?_
    refine f_then ?_
    refine c_seq ?_
    refine c_region ?_
    refine s_y (y_move rfl) rfl rfl rfl ?_
    refine s_y (y_move rfl) rfl rfl rfl ?_
    refine s_y (y_addU rfl rfl (by omega)) rfl rfl rfl ?_
    refine s_y (y_assign rfl) rfl rfl rfl ?_
    refine s_nil ?_
    refine f_then ?_
    refine c_seq ?_
    refine c_region ?_
    refine s_y (y_move rfl) rfl rfl rfl ?_
    refine s_y (y_geq rfl rfl) rfl rfl rfl ?_
    refine s_nil ?_
    refine f_then ?_
    refine c_condD rfl (fun hb => ?_) (fun hb => ?_)
    · have heq := est_brk ht hqr2 h2 h1 hv0 (by omega) hd1 hv1.1
      refine c_exit ?_
      refine f_blockX rfl ?_
      refine f_rndE ?_
      refine f_blockE ?_
      refine f_then ?_
      refine c_seq ?_
      refine c_region ?_
      refine s_y (y_move rfl) rfl rfl rfl ?_
      refine s_y (y_assign rfl) rfl rfl rfl ?_
      refine s_nil ?_
      refine f_then ?_
      refine c_ret ?_
      refine f_noR ?_
      exact f_retE () (res1 rfl rfl) (congrArg (Value.int .u64) (by rw [heq]; omega)) (fun w h => h)
    · refine c_skip ?_
      refine f_blockN ?_
      exact f_roundP (q - 1, r + v1) ⟨hqr2, by dsimp only; omega, hd1⟩ (by dsimp only; omega) ⟨rfl, rfl, rfl, congrArg (fun z => some (Value.int .u64 z)) (by omega), rfl, trivial⟩ (fun w h => h)
  · have hzb : q * v0 < 18446744073709551616 := by
      have : q * v0 ≤ 4294967295 * 4294967295 := Nat.mul_le_mul (by omega) (by omega)
      omega
    have hzi : (q : Int) * (v0 : Int) = ((q * v0 : Nat) : Int) := by simp
    have hzb2 : (0 : Int) ≤ (q : Int) * (v0 : Int) ∧ (q : Int) * (v0 : Int) < 18446744073709551616 := by rw [hzi]; omega
    by_cases hz : r * 4294967296 + u0 < q * v0
    · obtain ⟨hd1, hd2⟩ := est_dec ht hqr (.inr hz) hle hv1.1
      have hqr2 : (q - 1) * v1 + (r + v1) = t := by
        rw [Nat.sub_mul]
        have := Nat.mul_le_mul_right v1 hd2
        omega
      refine c_seq ?_
      refine c_seq ?_
      refine c_region ?_
      refine s_y (y_move rfl) rfl rfl rfl ?_
      refine s_y (y_F (y_geq rfl rfl) (by omega)) rfl rfl rfl ?_
      refine s_y (y_move rfl) rfl rfl rfl ?_
      refine s_y (y_move rfl) rfl rfl rfl ?_
      refine s_y (y_move rfl) rfl rfl rfl ?_
      refine s_y (y_mulU rfl rfl (by assumption)) rfl rfl rfl ?_
      refine s_y (y_move rfl) rfl rfl rfl ?_
      refine s_y (y_shlV (d := 4294967296) rfl rfl (by decide) rfl (by omega)) rfl rfl rfl ?_
      refine s_y (y_move rfl) rfl rfl rfl ?_
      refine s_y (y_orW rfl rfl (by omega)) rfl rfl rfl ?_
      refine s_y (y_T (y_gtr rfl rfl) (by omega)) rfl rfl rfl ?_
      refine s_y (y_pickF rfl rfl) rfl rfl rfl ?_
      refine s_nil ?_
      refine f_then ?_
      refine c_condT rfl ?_
      refine c_skip ?_
      refine f_then ?_
      refine c_block ?_
      refine c_seq ?_
      refine c_region ?_
      refine s_y (y_move rfl) rfl rfl rfl ?_
      refine s_y (y_subU rfl rfl (by omega)) rfl rfl rfl ?_
      refine s_y (y_assign rfl) rfl rfl rfl ?_
      refine s_nil ?_
      refine f_then ?_
      refine c_seq ?_
      refine c_region ?_
      refine s_y (y_move rfl) rfl rfl rfl ?_
      refine s_y (y_move rfl) rfl rfl rfl ?_
      refine s_y (y_addU rfl rfl (by omega)) rfl rfl rfl ?_
      refine s_y (y_assign rfl) rfl rfl rfl ?_
      refine s_nil ?_
      refine f_then ?_
      refine c_seq ?_
      refine c_region ?_
      refine s_y (y_move rfl) rfl rfl rfl ?_
      refine s_y (y_geq rfl rfl) rfl rfl rfl ?_
      refine s_nil ?_
      refine f_then ?_
      refine c_condD rfl (fun hb => ?_) (fun hb => ?_)
      · have heq := est_brk ht hqr2 h2 h1 hv0 (by omega) hd1 hv1.1
        refine c_exit ?_
        refine f_blockX rfl ?_
        refine f_rndE ?_
        refine f_blockE ?_
        refine f_then ?_
        refine c_seq ?_
        refine c_region ?_
        refine s_y (y_move rfl) rfl rfl rfl ?_
        refine s_y (y_assign rfl) rfl rfl rfl ?_
        refine s_nil ?_
        refine f_then ?_
        refine c_ret ?_
        refine f_noR ?_
        exact f_retE () (res1 rfl rfl) (congrArg (Value.int .u64) (by rw [heq]; omega)) (fun w h => h)
      · refine c_skip ?_
        refine f_blockN ?_
        exact f_roundP (q - 1, r + v1) ⟨hqr2, by dsimp only; omega, hd1⟩ (by dsimp only; omega) ⟨rfl, rfl, rfl, congrArg (fun z => some (Value.int .u64 z)) (by omega), rfl, trivial⟩ (fun w h => h)
    · have heq := est_out ht hqr (by omega) (by omega) hle hv1.1
      rw [heq]
      refine c_seq ?_
      refine c_seq ?_
      refine c_region ?_
      refine s_y (y_move rfl) rfl rfl rfl ?_
      refine s_y (y_F (y_geq rfl rfl) (by omega)) rfl rfl rfl ?_
      refine s_y (y_move rfl) rfl rfl rfl ?_
      refine s_y (y_move rfl) rfl rfl rfl ?_
      refine s_y (y_move rfl) rfl rfl rfl ?_
      refine s_y (y_mulU rfl rfl (by assumption)) rfl rfl rfl ?_
      refine s_y (y_move rfl) rfl rfl rfl ?_
      refine s_y (y_shlV (d := 4294967296) rfl rfl (by decide) rfl (by omega)) rfl rfl rfl ?_
      refine s_y (y_move rfl) rfl rfl rfl ?_
      refine s_y (y_orW rfl rfl (by omega)) rfl rfl rfl ?_
      refine s_y (y_F (y_gtr rfl rfl) (by omega)) rfl rfl rfl ?_
      refine s_y (y_pickF rfl rfl) rfl rfl rfl ?_
      refine s_nil ?_
      refine f_then ?_
      refine c_condF rfl ?_
      refine c_exit ?_
      refine f_thenE ?_
      refine f_rndE ?_
      refine f_blockE ?_
      refine f_then ?_
      refine c_seq ?_
      refine c_region ?_
      refine s_y (y_move rfl) rfl rfl rfl ?_
      refine s_y (y_assign rfl) rfl rfl rfl ?_
      refine s_nil ?_
      refine f_then ?_
      refine c_ret ?_
      refine f_noR ?_
      exact f_ret () (res1 rfl rfl) (fun w h => h)
end Go.KL
end

section
/- Walks: reduce. -/
namespace Go.KL
open Go.Proofs
theorem val_succ (g : Nat → Nat) (n : Nat) : val g (n + 1) = val g n + g n * B ^ n := rfl
theorem off_upd (w : Nat → Nat) (i k x : Nat) : (fun j => upd w (i + k) x (i + j)) = upd (fun j => w (i + j)) k x := by
  funext j
  by_cases h : j = k
  · subst h; simp [upd]
  · rw [upd_get, upd_get, if_neg h, if_neg (by omega)]
theorem val_off (w : Nat → Nat) (i k x : Nat) : val (fun j => upd w (i + k) x (i + j)) (k + 1) = val (fun j => w (i + j)) k + x * B ^ k := by
  rw [off_upd, val_push]
theorem red_step {Vw Vh Vg q c b w' hk gk P c' plow b' Bk : Nat} (h1 : P = q * hk + c) (h2 : P = c' * 4294967296 + plow) (h3 : w' + plow + b = gk + b' * 4294967296) (hv : Vw + q * Vh = Vg + (c + b) * Bk) :
    Vw + w' * Bk + q * (Vh + hk * Bk) = Vg + gk * Bk + (c' + b') * (Bk * 4294967296) := by
  have e1 := congrArg (· * Bk) h3
  have e2 := congrArg (· * Bk) (h1.symm.trans h2)
  simp only [Nat.add_mul] at e1 e2 hv
  have e3 : q * (Vh + hk * Bk) = q * Vh + q * hk * Bk := by rw [Nat.mul_add, Nat.mul_assoc]
  have e4 : (c' + b') * (Bk * 4294967296) = c' * 4294967296 * Bk + b' * 4294967296 * Bk := by rw [Nat.add_mul]; grind
  rw [e3, e4]
  omega
theorem add_step {Vw V' Vh c hk wk t Bk : Nat} (h1 : t = wk + hk + c) (hv : Vw + c * Bk = V' + Vh) : Vw + t % 4294967296 * Bk + t / 4294967296 * (Bk * 4294967296) = V' + wk * Bk + (Vh + hk * Bk) := by
  have hd := Nat.div_add_mod t 4294967296
  have e1 : t / 4294967296 * (Bk * 4294967296) + t % 4294967296 * Bk = t * Bk := by
    conv => rhs; rw [← hd]
    grind
  have e2 : t * Bk = wk * Bk + hk * Bk + c * Bk := by rw [h1]; grind
  omega
theorem red_pos {Vn V U q g c b Vg Bn : Nat} (hval : Vn + q * V = Vg + (c + b) * Bn) (hU : U = Vg + g * Bn) (h : c + b ≤ g) (hq1 : U / V ≤ q) (hV0 : 0 < V) : q = U / V ∧ Vn + (g - c - b) * Bn = U % V := by
  have e1 : (g - c - b) * Bn + (c + b) * Bn = g * Bn := by rw [← Nat.add_mul]; congr 1; omega
  have e2 : q * V ≤ U := by omega
  have e3 : q ≤ U / V := (Nat.le_div_iff_mul_le hV0).mpr e2
  have e4 : q = U / V := by omega
  have e5 := Nat.div_add_mod U V
  rw [← e4, Nat.mul_comm] at e5
  exact ⟨e4, by omega⟩
theorem red_neg {Vn V U q g c b Vg Bn : Nat} (hval : Vn + q * V = Vg + (c + b) * Bn) (hU : U = Vg + g * Bn) (h : g < c + b) (hVn : Vn < Bn) (hVB : V < Bn) (hq2 : q ≤ U / V + 1) (hV0 : 0 < V) : q = U / V + 1 ∧ c + b = g + 1 ∧ Vn + V = U % V + Bn := by
  obtain ⟨d, hd⟩ : ∃ d, c + b = g + (d + 1) := ⟨c + b - g - 1, by omega⟩
  rw [hd] at hval
  have e1 : (g + (d + 1)) * Bn = g * Bn + (d * Bn + Bn) := by rw [Nat.add_mul, Nat.add_mul, Nat.one_mul]
  have e2 : U < q * V := by omega
  have e3 : U / V < q := (Nat.div_lt_iff_lt_mul hV0).mpr e2
  have e4 : q = U / V + 1 := by omega
  have e5 := Nat.div_add_mod U V
  have e6 : q * V = V * (U / V) + V := by rw [e4, Nat.add_mul, Nat.one_mul, Nat.mul_comm]
  have hd0 : d = 0 := by
    apply Classical.byContradiction
    intro h0
    have := Nat.le_mul_of_pos_left Bn (show 0 < d by omega)
    omega
  subst hd0
  exact ⟨e4, hd, by omega⟩
theorem red_top {Wn r cy Bn : Nat} (h : Wn + cy * Bn = r + Bn) (hW : Wn < Bn) (hcy : cy ≤ 1) : cy = 1 ∧ Wn = r := by
  rcases Nat.lt_or_ge cy 1 with h0 | h0
  · obtain rfl : cy = 0 := by omega
    omega
  · obtain rfl : cy = 1 := by omega
    omega
attribute [local irreducible] SC St Fin Sq Ylds Doos Sets Enters Spec CellIs CellsAre Then Ret Rnd Chn resOK ints bools recs arr
set_option maxRecDepth 10000 in
set_option maxHeartbeats 8000000 in
theorem reduce_spec {W : World} {N : List Chunk} {vv : Value} {bu m n i q U V : Nat} {g h : Nat → Nat} [hv : RawV (K W N) vv n h] (hg : Dig g m) (hh : Dig h n) (hin : i + n < m) (hm : m ≤ 1000000) (hq : q < 4294967296)
    (hV : V = val h n) (hU : U = val (fun j => g (i + j)) (n + 1)) (hV0 : 0 < V) (hq1 : U / V ≤ q) (hq2 : q ≤ U / V + 1) :
    Spec Try.prog 133 #[.slice (some ⟨bu, 0, none⟩) m m, vv, .int .i64 (i : Int), .int .u64 (q : Int)] (K W ([(bu, u32s m g [])] :: N))
      (X := { g' : Nat → Nat // Dig g' m ∧ (∀ j, j < i ∨ i + n < j → g' j = g j) ∧ val (fun j => g' (i + j)) (n + 1) = U % V }) (fun _ => .int .u32 ((U / V : Nat) : Int)) (fun g' => K W ([(bu, u32s m g'.1 [])] :: N)) := by
  refine enter (args := [_, _, _, _]) Try.func133 rfl Try.ntmps133 rfl ?_
  refine c_seq ?_
  refine c_region ?_
  refine s_y (y_assign rfl) rfl rfl rfl ?_
  refine s_nil ?_
  refine f_then ?_
  refine c_seq ?_
  refine c_region ?_
  refine s_y (y_assign rfl) rfl rfl rfl ?_
  refine s_y (y_assign rfl) rfl rfl rfl ?_
  refine s_nil ?_
  refine f_then ?_
  refine c_seq ?_
  refine c_seq ?_
  refine c_region ?_
  refine s_y (y_move rfl) rfl rfl rfl ?_
  refine s_y (y_lenR Try.tab rfl rfl) rfl rfl rfl ?_
  refine s_y (y_move rfl) rfl rfl rfl ?_
  refine s_nil ?_
  refine f_then ?_
  refine c_block ?_
  refine c_loopP (α := Nat × Nat × Nat × (Nat → Nat)) (fun z => [(0, .slice (some ⟨bu, 0, none⟩) m m), (1, vv), (2, .int .i64 (i : Int)), (3, .int .u64 (q : Int)), (9, .int .u64 (z.2.1 : Int)), (10, .int .u64 (z.2.2.1 : Int)), (18, .int .i64 (n : Int)), (19, .int .i64 (z.1 : Int))])
    (fun z => z.1 ≤ n ∧ z.2.1 < 4294967296 ∧ z.2.2.1 ≤ 1 ∧ Dig z.2.2.2 m ∧ (∀ j, j < i ∨ i + z.1 ≤ j → z.2.2.2 j = g j) ∧ val (fun j => z.2.2.2 (i + j)) z.1 + q * val h z.1 = val (fun j => g (i + j)) z.1 + (z.2.1 + z.2.2.1) * B ^ z.1) (fun z => K W ([(bu, u32s m z.2.2.2 [])] :: N)) (fun z => n - z.1) (0, 0, 0, g)
    ⟨rfl, rfl, rfl, rfl, rfl, rfl, rfl, rfl, trivial⟩ ⟨Nat.zero_le _, B_pos 1, Nat.zero_le _, hg, fun _ _ => rfl, by simp [val]⟩ (fun w h => h) ?_
  rintro ⟨k, c, b, w⟩ ⟨hk, hc, hb, hw, hsame, hval⟩
  dsimp only at hk hc hb hw hsame hval ⊢
  refine c_seq ?_
  refine c_region ?_
  refine s_y (y_lss rfl rfl) rfl rfl rfl ?_
  refine s_nil ?_
  refine f_then ?_
  refine c_seq ?_
  refine c_condD rfl (fun hlt => ?_) (fun hge => ?_)
  · have hkn : k < n := by omega
    have dh : h k < 4294967296 := hh k hkn
    have dg' : w (i + k) < 4294967296 := hw (i + k) (by omega)
    have hpb := prod_bd hq dh
    have hpb2 : (0 : Int) ≤ (q : Int) * (h k : Int) ∧ (q : Int) * (h k : Int) < 18446744073709551616 := by omega
    obtain ⟨P, hP⟩ : ∃ P, P = q * h k + c := ⟨_, rfl⟩
    have hPi : (q : Int) * (h k : Int) + (c : Int) = (P : Int) := by rw [hP]; simp
    have hPb : P < 18446744073709551616 := by omega
    obtain ⟨t, ht⟩ : ∃ t, t = (18446744073709551616 + w (i + k) - P % 4294967296 - b) % 18446744073709551616 := ⟨_, rfl⟩
    have hti : ((((w (i + k) : Nat) : Int) - ((q : Int) * (h k : Int) + (c : Int)) % 4294967296) % 18446744073709551616 - (b : Int)) % 18446744073709551616 = (t : Int) := by rw [hPi]; omega
    have htn : ((t : Int) % 4294967296).toNat = t % 4294967296 := by omega
    have hgw : w (i + k) = g (i + k) := hsame (i + k) (.inr (Nat.le_refl _))
    have h3 : t % 4294967296 + P % 4294967296 + b = g (i + k) + t / 9223372036854775808 * 4294967296 := by rw [← hgw]; omega
    have stp := red_step hP (show P = P / 4294967296 * 4294967296 + P % 4294967296 by omega) h3 hval
    refine c_skip ?_
    refine f_then ?_
    refine c_seq ?_
    refine c_block ?_
    refine c_seq ?_
    refine c_region ?_
    refine s_y (y_move rfl) rfl rfl rfl ?_
    refine s_y (y_assign rfl) rfl rfl rfl ?_
    refine s_nil ?_
    refine f_then ?_
    refine c_seq ?_
    refine c_region ?_
    refine s_y (y_move rfl) rfl rfl rfl ?_
    refine s_y (y_move rfl) rfl rfl rfl ?_
    refine s_y (y_move rfl) rfl rfl rfl ?_
    refine s_y (y_ixR Try.tab rfl rfl rfl rfl _ rfl (by omega)) rfl rfl rfl ?_
    refine s_y (y_ldR Try.tab rfl rfl (by omega)) rfl rfl rfl ?_
    refine s_y (y_to64 Try.tab rfl rfl rfl (by omega)) rfl rfl rfl ?_
    refine s_y (y_mulU rfl rfl (by assumption)) rfl rfl rfl ?_
    refine s_y (y_move rfl) rfl rfl rfl ?_
    refine s_y (y_addU rfl rfl (by omega)) rfl rfl rfl ?_
    refine s_y (y_assign rfl) rfl rfl rfl ?_
    refine s_nil ?_
    refine f_then ?_
    refine c_seq ?_
    refine c_region ?_
    refine s_y (y_move rfl) rfl rfl rfl ?_
    refine s_y (y_shrU (d := 4294967296) rfl rfl (by decide) rfl) rfl rfl rfl ?_
    refine s_y (y_assign rfl) rfl rfl rfl ?_
    refine s_nil ?_
    refine f_then ?_
    refine c_seq ?_
    refine c_region ?_
    refine s_y (y_move rfl) rfl rfl rfl ?_
    refine s_y (y_move rfl) rfl rfl rfl ?_
    refine s_y (y_move rfl) rfl rfl rfl ?_
    refine s_y (y_add rfl rfl (by omega)) rfl rfl rfl ?_
    refine s_y (y_indexAddr1 Try.tab rfl rfl rfl rfl _ rfl (by omega)) rfl rfl rfl ?_
    refine s_y (y_load Try.tab rfl rfl (cell_u32 0 rfl (by omega))) rfl rfl rfl ?_
    refine s_y (y_to64 Try.tab rfl rfl rfl (by omega)) rfl rfl rfl ?_
    refine s_y (y_move rfl) rfl rfl rfl ?_
    refine s_y (y_to32 Try.tab rfl rfl rfl) rfl rfl rfl ?_
    refine s_y (y_to64 Try.tab rfl rfl rfl (by omega)) rfl rfl rfl ?_
    refine s_y (y_subM rfl rfl) rfl rfl rfl ?_
    refine s_y (y_move rfl) rfl rfl rfl ?_
    refine s_y (y_subM rfl rfl) rfl rfl rfl ?_
    refine s_y (y_assign rfl) rfl rfl rfl ?_
    refine s_nil ?_
    refine f_then ?_
    refine c_seq ?_
    refine c_region ?_
    refine s_y (y_move rfl) rfl rfl rfl ?_
    refine s_y (y_move rfl) rfl rfl rfl ?_
    refine s_y (y_move rfl) rfl rfl rfl ?_
    refine s_y (y_add rfl rfl (by omega)) rfl rfl rfl ?_
    refine s_y (y_move rfl) rfl rfl rfl ?_
    refine s_y (y_to32 Try.tab rfl rfl rfl) rfl rfl rfl ?_
    refine s_y (y_indexAddr1 Try.tab rfl rfl rfl rfl _ rfl (by omega)) rfl rfl rfl ?_
    refine s_set (set_u32 Try.tab 0 _ rfl rfl rfl rfl (Int.toNat_of_nonneg (by omega)).symm (by omega)) rfl rfl ?_
    refine s_nil ?_
    refine f_then ?_
    refine c_region ?_
    refine s_y (y_move rfl) rfl rfl rfl ?_
    refine s_y (y_shrU (d := 9223372036854775808) rfl rfl (by decide) rfl) rfl rfl rfl ?_
    refine s_y (y_assign rfl) rfl rfl rfl ?_
    refine s_nil ?_
    refine f_blockN ?_
    refine f_then ?_
    refine c_region ?_
    refine s_y (y_add rfl rfl (by omega)) rfl rfl rfl ?_
    refine s_y (y_move rfl) rfl rfl rfl ?_
    refine s_nil ?_
    refine f_roundP (k + 1, P / 4294967296, t / 9223372036854775808, upd w (i + k) (t % 4294967296)) ⟨hkn, by dsimp only; omega, by dsimp only; omega, hw.updL (by omega), ?_, ?_⟩ (by dsimp only; omega) ⟨rfl, rfl, rfl, rfl, congrArg (fun z => some (Value.int .u64 z)) (by rw [hPi]; dsimp only; omega), congrArg (fun z => some (Value.int .u64 z)) (by rw [hti]; dsimp only; omega), rfl, congrArg (fun z => some (Value.int .i64 z)) (by dsimp only; omega), trivial⟩ ?_
    · intro j hj
      dsimp only at hj ⊢
      rw [upd_get, if_neg (by omega)]
      exact hsame j (by omega)
    · dsimp only
      rw [val_off, val_succ, val_succ, B_succ]
      exact stp
    · rw [hti, htn]
      exact fun w h => h
  · obtain rfl : k = n := by omega
    have hgw : w (i + k) = g (i + k) := hsame (i + k) (.inr (Nat.le_refl _))
    have dg' : w (i + k) < 4294967296 := hw (i + k) (by omega)
    rw [val_succ] at hU
    rw [← hV] at hval
    have hVB : V < B ^ k := by rw [hV]; exact val_lt hh
    have hWB : val (fun j => w (i + j)) k < B ^ k := val_lt (fun j hj => hw _ (by omega))
    by_cases hcb : c + b ≤ w (i + k)
    · obtain ⟨hqe, hve⟩ := red_pos hval hU (hgw ▸ hcb) hq1 hV0
      have hsi : ((((w (i + k) : Nat) : Int) - (c : Int)) % 18446744073709551616 - (b : Int)) % 18446744073709551616 = ((w (i + k) - c - b : Nat) : Int) := by omega
      have hsn : (((w (i + k) - c - b : Nat) : Int) % 4294967296).toNat = w (i + k) - c - b := by omega
      refine c_exit ?_
      refine f_thenE ?_
      refine f_rndE ?_
      refine f_blockE ?_
      refine f_then ?_
      refine c_seq ?_
      refine c_region ?_
      refine s_y (y_move rfl) rfl rfl rfl ?_
      refine s_y (y_move rfl) rfl rfl rfl ?_
      refine s_y (y_move rfl) rfl rfl rfl ?_
      refine s_y (y_lenR Try.tab rfl rfl) rfl rfl rfl ?_
      refine s_y (y_add rfl rfl (by omega)) rfl rfl rfl ?_
      refine s_y (y_indexAddr1 Try.tab rfl rfl rfl rfl _ rfl (by omega)) rfl rfl rfl ?_
      refine s_y (y_load Try.tab rfl rfl (cell_u32 0 rfl (by omega))) rfl rfl rfl ?_
      refine s_y (y_to64 Try.tab rfl rfl rfl (by omega)) rfl rfl rfl ?_
      refine s_y (y_move rfl) rfl rfl rfl ?_
      refine s_y (y_subU rfl rfl (by omega)) rfl rfl rfl ?_
      refine s_y (y_move rfl) rfl rfl rfl ?_
      refine s_y (y_subU rfl rfl (by omega)) rfl rfl rfl ?_
      refine s_y (y_assign rfl) rfl rfl rfl ?_
      refine s_nil ?_
      refine f_then ?_
      refine c_seq ?_
      refine c_region ?_
      refine s_y (y_move rfl) rfl rfl rfl ?_
      refine s_y (y_move rfl) rfl rfl rfl ?_
      refine s_y (y_move rfl) rfl rfl rfl ?_
      refine s_y (y_lenR Try.tab rfl rfl) rfl rfl rfl ?_
      refine s_y (y_add rfl rfl (by omega)) rfl rfl rfl ?_
      refine s_y (y_move rfl) rfl rfl rfl ?_
      refine s_y (y_to32 Try.tab rfl rfl rfl) rfl rfl rfl ?_
      refine s_y (y_indexAddr1 Try.tab rfl rfl rfl rfl _ rfl (by omega)) rfl rfl rfl ?_
      refine s_set (set_u32 Try.tab 0 _ rfl rfl rfl rfl (Int.toNat_of_nonneg (by omega)).symm (by omega)) rfl rfl ?_
      refine s_nil ?_
      refine f_then ?_
      refine c_seq ?_
      refine c_seq ?_
      refine c_region ?_
      refine s_y (y_move rfl) rfl rfl rfl ?_
      refine s_y (y_shrU (d := 9223372036854775808) rfl rfl (by decide) rfl) rfl rfl rfl ?_
      refine s_y (y_T (y_eql rfl rfl) (by omega)) rfl rfl rfl ?_
      refine s_nil ?_
      refine f_then ?_
      refine c_condT rfl ?_
      refine c_seq ?_
      refine c_region ?_
      refine s_y (y_move rfl) rfl rfl rfl ?_
      refine s_y (y_to32 Try.tab rfl rfl rfl) rfl rfl rfl ?_
      refine s_y (y_assign rfl) rfl rfl rfl ?_
      refine s_nil ?_
      refine f_then ?_
      refine c_ret ?_
      refine f_thenR ?_
      refine f_retE ⟨upd w (i + k) (w (i + k) - c - b), hw.updL (by omega), fun j hj => ?_, ?_⟩ (res1 rfl rfl) (congrArg (Value.int .u32) (by omega)) ?_
      · rw [upd_get, if_neg (by omega)]
        exact hsame j (by omega)
      · rw [val_off, hgw]
        exact hve
      · rw [show (((w (i + k) : Nat) : Int) - (c : Int) - (b : Int)) % 4294967296 = ((w (i + k) - c - b : Nat) : Int) by omega, Int.toNat_natCast]
        exact fun w h => h
    · obtain ⟨hqe, hge2, hve⟩ := red_neg hval hU (hgw ▸ (show w (i + k) < c + b by omega)) hWB hVB hq2 hV0
      have htop : ((((w (i + k) : Nat) : Int) - (c : Int)) % 18446744073709551616 - (b : Int)) % 18446744073709551616 % 4294967296 = ((4294967295 : Nat) : Int) := by omega
      haveI hvs : ∀ x, RawV (K W (([(bu, u32s m w [])] :: N).set 0 [(bu, u32s m x [])])) vv k h := fun x => (inferInstanceAs (RawV (K W ([(bu, u32s m x [])] :: N)) vv k h))
      refine c_exit ?_
      refine f_thenE ?_
      refine f_rndE ?_
      refine f_blockE ?_
      refine f_then ?_
      refine c_seq ?_
      refine c_region ?_
      refine s_y (y_move rfl) rfl rfl rfl ?_
      refine s_y (y_move rfl) rfl rfl rfl ?_
      refine s_y (y_move rfl) rfl rfl rfl ?_
      refine s_y (y_lenR Try.tab rfl rfl) rfl rfl rfl ?_
      refine s_y (y_add rfl rfl (by omega)) rfl rfl rfl ?_
      refine s_y (y_indexAddr1 Try.tab rfl rfl rfl rfl _ rfl (by omega)) rfl rfl rfl ?_
      refine s_y (y_load Try.tab rfl rfl (cell_u32 0 rfl (by omega))) rfl rfl rfl ?_
      refine s_y (y_to64 Try.tab rfl rfl rfl (by omega)) rfl rfl rfl ?_
      refine s_y (y_move rfl) rfl rfl rfl ?_
      refine s_y (y_subM rfl rfl) rfl rfl rfl ?_
      refine s_y (y_move rfl) rfl rfl rfl ?_
      refine s_y (y_subM rfl rfl) rfl rfl rfl ?_
      refine s_y (y_assign rfl) rfl rfl rfl ?_
      refine s_nil ?_
      refine f_then ?_
      refine c_seq ?_
      refine c_region ?_
      refine s_y (y_move rfl) rfl rfl rfl ?_
      refine s_y (y_move rfl) rfl rfl rfl ?_
      refine s_y (y_move rfl) rfl rfl rfl ?_
      refine s_y (y_lenR Try.tab rfl rfl) rfl rfl rfl ?_
      refine s_y (y_add rfl rfl (by omega)) rfl rfl rfl ?_
      refine s_y (y_move rfl) rfl rfl rfl ?_
      refine s_y (y_to32 Try.tab rfl rfl rfl) rfl rfl rfl ?_
      refine s_y (y_indexAddr1 Try.tab rfl rfl rfl rfl _ rfl (by omega)) rfl rfl rfl ?_
      refine s_set (set_u32 Try.tab 0 _ rfl rfl rfl rfl (Int.toNat_of_nonneg (by omega)).symm (by omega)) rfl rfl ?_
      refine s_nil ?_
      refine f_then ?_
      refine c_seq ?_
      refine c_seq ?_
      refine c_region ?_
      refine s_y (y_move rfl) rfl rfl rfl ?_
      refine s_y (y_shrU (d := 9223372036854775808) rfl rfl (by decide) rfl) rfl rfl rfl ?_
      refine s_y (y_F (y_eql rfl rfl) (by omega)) rfl rfl rfl ?_
      refine s_nil ?_
      refine f_then ?_
      refine c_condF rfl ?_
      refine c_skip ?_
      refine f_then ?_
      refine c_seq ?_
      refine c_region ?_
      refine s_y (y_assign rfl) rfl rfl rfl ?_
      refine s_nil ?_
      refine f_then ?_
      refine c_seq ?_
      refine c_seq ?_
      refine c_region ?_
      refine s_y (y_move rfl) rfl rfl rfl ?_
      refine s_y (y_lenR Try.tab rfl rfl) rfl rfl rfl ?_
      refine s_y (y_move rfl) rfl rfl rfl ?_
      refine s_nil ?_
      refine f_then ?_
      refine c_block ?_
      rw [htop, Int.toNat_natCast]
      refine c_loopP (α := Nat × Nat × (Nat → Nat)) (fun z => [(0, .slice (some ⟨bu, 0, none⟩) m m), (1, vv), (2, .int .i64 (i : Int)), (3, .int .u64 (q : Int)), (9, .int .u64 (z.2.1 : Int)), (82, .int .i64 (k : Int)), (83, .int .i64 (z.1 : Int))])
        (fun z => z.1 ≤ k ∧ z.2.1 ≤ 1 ∧ Dig z.2.2 m ∧ (∀ j, j < i ∨ i + z.1 ≤ j → z.2.2 j = upd w (i + k) 4294967295 j) ∧ val (fun j => z.2.2 (i + j)) z.1 + z.2.1 * B ^ z.1 = val (fun j => w (i + j)) z.1 + val h z.1) (fun z => K W ([(bu, u32s m z.2.2 [])] :: N)) (fun z => k - z.1) (0, 0, upd w (i + k) 4294967295)
        ⟨rfl, rfl, rfl, rfl, rfl, rfl, rfl, trivial⟩ ⟨Nat.zero_le _, Nat.zero_le _, hw.updL (by omega), fun _ _ => rfl, by simp [val]⟩ (fun w h => h) ?_
      rintro ⟨j, cy, r⟩ ⟨hj, hcy, hr, hrs, hrv⟩
      dsimp only at hj hcy hr hrs hrv ⊢
      refine c_seq ?_
      refine c_region ?_
      refine s_y (y_lss rfl rfl) rfl rfl rfl ?_
      refine s_nil ?_
      refine f_then ?_
      refine c_seq ?_
      refine c_condD rfl (fun hlt => ?_) (fun hge => ?_)
      · have hjk : j < k := by omega
        have dh : h j < 4294967296 := hh j hjk
        have dr : r (i + j) < 4294967296 := hr (i + j) (by omega)
        have hrw : r (i + j) = w (i + j) := by
          rw [hrs (i + j) (.inr (Nat.le_refl _)), upd_get, if_neg (by omega)]
        refine c_skip ?_
        refine f_then ?_
        refine c_seq ?_
        refine c_block ?_
        refine c_seq ?_
        refine c_region ?_
        refine s_y (y_move rfl) rfl rfl rfl ?_
        refine s_y (y_assign rfl) rfl rfl rfl ?_
        refine s_nil ?_
        refine f_then ?_
        refine c_seq ?_
        refine c_quiet Try.mixed (by kernel_rfl) K.drew ?_
        refine q_y (y_move rfl) rfl rfl rfl ?_
        refine q_y (y_move rfl) rfl rfl rfl ?_
        refine q_y (y_move rfl) rfl rfl rfl ?_
        refine q_y (y_add rfl rfl (by omega)) rfl rfl rfl ?_
        refine q_y (y_indexAddr1 Try.tab rfl rfl rfl rfl _ rfl (by omega)) rfl rfl rfl ?_
        refine q_y (y_load Try.tab rfl rfl (cell_u32 0 rfl (by omega))) rfl rfl rfl ?_
        refine q_y (y_to64 Try.tab rfl rfl rfl (by omega)) rfl rfl rfl ?_
        refine q_y (y_move rfl) rfl rfl rfl ?_
        refine q_y (y_move rfl) rfl rfl rfl ?_
        refine q_y (y_ixR Try.tab rfl rfl rfl rfl _ rfl (by omega)) rfl rfl rfl ?_
        refine q_y (y_ldR Try.tab rfl rfl (by omega)) rfl rfl rfl ?_
        refine q_y (y_to64 Try.tab rfl rfl rfl (by omega)) rfl rfl rfl ?_
        refine q_y (y_addU rfl rfl (by omega)) rfl rfl rfl ?_
        refine q_y (y_move rfl) rfl rfl rfl ?_
        refine q_y (y_addU rfl rfl (by omega)) rfl rfl rfl ?_
        refine q_y (y_assign rfl) rfl rfl rfl ?_
        refine q_nil ?_
        refine f_then ?_
        refine c_seq ?_
        refine c_region ?_
        refine s_y (y_move rfl) rfl rfl rfl ?_
        refine s_y (y_move rfl) rfl rfl rfl ?_
        refine s_y (y_move rfl) rfl rfl rfl ?_
        refine s_y (y_add rfl rfl (by omega)) rfl rfl rfl ?_
        refine s_y (y_move rfl) rfl rfl rfl ?_
        refine s_y (y_to32 Try.tab rfl rfl rfl) rfl rfl rfl ?_
        refine s_y (y_indexAddr1 Try.tab rfl rfl rfl rfl _ rfl (by omega)) rfl rfl rfl ?_
        refine s_set (set_u32 Try.tab 0 _ rfl rfl rfl rfl (Int.toNat_of_nonneg (by omega)).symm (by omega)) rfl rfl ?_
        refine s_nil ?_
        refine f_then ?_
        refine c_region ?_
        refine s_y (y_move rfl) rfl rfl rfl ?_
        refine s_y (y_shrU (d := 4294967296) rfl rfl (by decide) rfl) rfl rfl rfl ?_
        refine s_y (y_assign rfl) rfl rfl rfl ?_
        refine s_nil ?_
        refine f_blockN ?_
        refine f_then ?_
        refine c_region ?_
        refine s_y (y_add rfl rfl (by omega)) rfl rfl rfl ?_
        refine s_y (y_move rfl) rfl rfl rfl ?_
        refine s_nil ?_
        have stp := add_step (t := r (i + j) + h j + cy) (hk := h j) (wk := w (i + j)) (by rw [hrw]) hrv
        refine f_roundP (j + 1, (r (i + j) + h j + cy) / 4294967296, upd r (i + j) ((r (i + j) + h j + cy) % 4294967296)) ⟨hjk, by dsimp only; omega, hr.updL (by omega), ?_, ?_⟩ (by dsimp only; omega) ⟨rfl, rfl, rfl, rfl, congrArg (fun z => some (Value.int .u64 z)) (by dsimp only; omega), rfl, congrArg (fun z => some (Value.int .i64 z)) (by dsimp only; omega), trivial⟩ ?_
        · intro x hx
          dsimp only at hx ⊢
          rw [upd_get, if_neg (by omega)]
          exact hrs x (by omega)
        · dsimp only
          rw [val_off, val_succ, val_succ, B_succ]
          exact stp
        · rw [show (((r (i + j) : Nat) : Int) + (h j : Int) + (cy : Int)) % 4294967296 = (((r (i + j) + h j + cy) % 4294967296 : Nat) : Int) by omega, Int.toNat_natCast]
          exact fun w h => h
      · obtain rfl : j = k := by omega
        rw [← hV] at hrv
        have hRB : val (fun x => r (i + x)) j < B ^ j := val_lt (fun x hx => hr _ (by omega))
        obtain ⟨hc1, hres⟩ := red_top (hrv.trans hve) hRB hcy
        have hrt : r (i + j) = 4294967295 := by rw [hrs (i + j) (.inr (Nat.le_refl _)), upd_get, if_pos rfl]
        have drt : r (i + j) < 4294967296 := by omega
        have hqn : U / V = q - 1 := by rw [hqe]; rfl
        have hq0 : 1 ≤ q := by rw [hqe]; exact Nat.le_add_left _ _
        refine c_exit ?_
        refine f_thenE ?_
        refine f_rndE ?_
        refine f_blockE ?_
        refine f_then ?_
        refine c_seq ?_
        refine c_region ?_
        refine s_y (y_move rfl) rfl rfl rfl ?_
        refine s_y (y_move rfl) rfl rfl rfl ?_
        refine s_y (y_move rfl) rfl rfl rfl ?_
        refine s_y (y_lenR Try.tab rfl rfl) rfl rfl rfl ?_
        refine s_y (y_add rfl rfl (by omega)) rfl rfl rfl ?_
        refine s_y (y_indexAddr1 Try.tab rfl rfl rfl rfl _ rfl (by omega)) rfl rfl rfl ?_
        refine s_y (y_load Try.tab rfl rfl (cell_u32 0 rfl (by omega))) rfl rfl rfl ?_
        refine s_y (y_move rfl) rfl rfl rfl ?_
        refine s_y (y_to32 Try.tab rfl rfl rfl) rfl rfl rfl ?_
        refine s_y (y_addU32 rfl rfl) rfl rfl rfl ?_
        refine s_y (y_indexAddr1 Try.tab rfl rfl rfl rfl _ rfl (by omega)) rfl rfl rfl ?_
        refine s_set (set_u32 Try.tab 0 _ rfl rfl rfl rfl (Int.toNat_of_nonneg (by omega)).symm (by omega)) rfl rfl ?_
        refine s_nil ?_
        refine f_then ?_
        refine c_seq ?_
        refine c_region ?_
        refine s_y (y_move rfl) rfl rfl rfl ?_
        refine s_y (y_subU rfl rfl (by omega)) rfl rfl rfl ?_
        refine s_y (y_to32 Try.tab rfl rfl rfl) rfl rfl rfl ?_
        refine s_y (y_assign rfl) rfl rfl rfl ?_
        refine s_nil ?_
        refine f_then ?_
        refine c_ret ?_
        refine f_retE ⟨upd r (i + j) 0, hr.updL (B_pos 1), fun x hx => ?_, ?_⟩ (res1 rfl rfl) (congrArg (Value.int .u32) (by rw [hqn]; omega)) ?_
        · rw [upd_get, if_neg (by omega), hrs x (by omega), upd_get, if_neg (by omega)]
          exact hsame x (by omega)
        · rw [val_off, Nat.zero_mul, Nat.add_zero]
          exact hres
        · rw [show (((r (i + j) : Nat) : Int) + (cy : Int) % 4294967296) % 4294967296 = ((0 : Nat) : Int) by omega, Int.toNat_natCast]
          exact fun w h => h
end Go.KL
end

section
/- Laws of division. No program in sight. -/
namespace Go.KL
open Go.Proofs
theorem dm_norm {y : Nat} (hy : y ≠ 0) : 1 ≤ Lib.bitLen (dg y (wl y - 1)) ∧ Lib.bitLen (dg y (wl y - 1)) ≤ 32 ∧ y * 2 ^ (32 - Lib.bitLen (dg y (wl y - 1))) < B ^ wl y ∧ B ^ wl y ≤ 2 * (y * 2 ^ (32 - Lib.bitLen (dg y (wl y - 1)))) := by
  have e : bl y = (wl y - 1) * 32 + Lib.bitLen (dg y (wl y - 1)) := by unfold bl; rw [if_neg hy]
  obtain ⟨p1, p2, p3⟩ := bl_bounds hy
  have hw : 0 < wl y := Nat.pos_of_ne_zero fun e => hy (wl_eq_zero.1 e)
  have hle : bl y ≤ wl y * 32 := bl_le.2 (by rw [← B_two]; exact lt_wl y)
  generalize Lib.bitLen (dg y (wl y - 1)) = b at *
  have hb1 : 1 ≤ b := by
    rcases Nat.eq_zero_or_pos b with h | h
    · subst h
      rw [e, Nat.add_zero, ← B_two] at p3
      have := wl_le.2 p3
      omega
    · exact h
  have hb2 : b ≤ 32 := by omega
  refine ⟨hb1, hb2, ?_, ?_⟩
  · have h := Nat.mul_lt_mul_of_pos_right p3 (Nat.pow_pos (n := 32 - b) (show 0 < 2 by decide))
    rw [← Nat.pow_add, show bl y + (32 - b) = wl y * 32 by omega, ← B_two] at h
    exact h
  · have h := Nat.mul_le_mul_right (2 ^ (32 - b)) p2
    rw [← Nat.pow_add] at h
    rw [B_two, show wl y * 32 = 1 + (bl y - 1 + (32 - b)) by omega, Nat.pow_add, Nat.pow_one]
    exact Nat.mul_le_mul_left 2 h
theorem est_ok {k U V : Nat} {u v : Nat → Nat} (hu : Dig u (k + 3)) (hv : Dig v (k + 2)) (hU : U = val u (k + 3)) (hV : V = val v (k + 2)) (hlt : U < V * 4294967296) (hn : B ^ (k + 2) ≤ 2 * V) :
    u (k + 2) ≤ v (k + 1) ∧ 1 ≤ v (k + 1) ∧ U / V ≤ est (u (k + 2)) (u (k + 1)) (u k) (v (k + 1)) (v k) ∧ est (u (k + 2)) (u (k + 1)) (u k) (v (k + 1)) (v k) ≤ U / V + 1 := by
  have hU' : val u k < B ^ k := val_lt fun i hi => hu i (by omega)
  have hV' : val v k < B ^ k := val_lt fun i hi => hv i (by omega)
  have hvk : v k < 4294967296 := hv k (by omega)
  rw [val_succ, val_succ, val_succ, B_succ, B_succ] at hU
  rw [val_succ, val_succ, B_succ] at hV
  rw [B_succ, B_succ] at hn
  have hP := B_pos k
  obtain ⟨T, hT⟩ : ∃ T, T = u (k + 2) * 4294967296 * 4294967296 + u (k + 1) * 4294967296 + u k := ⟨_, rfl⟩
  obtain ⟨D, hD⟩ : ∃ D, D = v (k + 1) * 4294967296 + v k := ⟨_, rfl⟩
  have eU : U = val u k + T * B ^ k := by
    rw [hU, hT, B_succ, show (4294967296 : Nat) = B from rfl]
    generalize B ^ k = P
    generalize B = b
    grind
  have eV : V = val v k + D * B ^ k := by
    rw [hV, hD, show (4294967296 : Nat) = B from rfl]
    generalize B ^ k = P
    generalize B = b
    grind
  unfold est
  rw [← hT, ← hD]
  change B ^ k * 4294967296 * 4294967296 ≤ _ at hn
  generalize val u k = U' at *
  generalize val v k = V' at *
  generalize B ^ k = P at *
  clear hU hV
  have hV2 : V < (D + 1) * P := by rw [Nat.add_mul]; omega
  have hU2 : U < (T + 1) * P := by rw [Nat.add_mul]; omega
  have hD2 : 9223372036854775808 ≤ D := by
    have h1 : 18446744073709551616 * P < (2 * (D + 1)) * P := by rw [Nat.mul_assoc]; omega
    have h2 := Nat.lt_of_mul_lt_mul_right h1
    omega
  have hV0 : 0 < V := by
    have := Nat.mul_le_mul_right P hD2
    omega
  have z1 : U / V * V ≤ U := Nat.div_mul_le_self U V
  have z2 : ∀ f, f * V ≤ U → f ≤ U / V := fun f => (Nat.le_div_iff_mul_le hV0).2
  have q2 : U / V < 4294967296 := by rw [Nat.div_lt_iff_lt_mul hV0, Nat.mul_comm]; exact hlt
  generalize U / V = Z at *
  have q1 : Z * D ≤ T := by
    have h2 : Z * D * P ≤ Z * V := by rw [Nat.mul_assoc]; exact Nat.mul_le_mul_left _ (by omega)
    have h3 := Nat.lt_of_mul_lt_mul_right (show Z * D * P < (T + 1) * P by omega)
    omega
  refine ⟨?_, by omega, ?_, ?_⟩
  · obtain ⟨c, hc⟩ : ∃ c, c = 4294967296 := ⟨_, rfl⟩
    have h1' : D + 1 ≤ (v (k + 1) + 1) * c := by rw [hc]; omega
    have h1 : (D + 1) * P ≤ (v (k + 1) + 1) * c * P := Nat.mul_le_mul_right P h1'
    have h2' : u (k + 2) * c * c ≤ T := by
      have e := Nat.le_add_right (u (k + 2) * c * c) (u (k + 1) * c + u k)
      have e2 : T = u (k + 2) * c * c + u (k + 1) * c + u k := by rw [hc]; exact hT
      rw [← Nat.add_assoc, ← e2] at e
      exact e
    have h2 : u (k + 2) * c * c * P ≤ T * P := Nat.mul_le_mul_right P h2'
    have h4 : V * c ≤ (v (k + 1) + 1) * c * P * c := Nat.mul_le_mul_right c (by omega)
    have h5 : (v (k + 1) + 1) * c * P * c = (v (k + 1) + 1) * (c * c * P) := by grind
    have h6 : u (k + 2) * c * c * P = u (k + 2) * (c * c * P) := by grind
    have h3 : u (k + 2) * (c * c * P) < (v (k + 1) + 1) * (c * c * P) := by
      rw [← hc] at hlt
      omega
    have := Nat.lt_of_mul_lt_mul_right h3
    omega
  · exact Nat.le_min.2 ⟨(Nat.le_div_iff_mul_le (by omega)).2 q1, by omega⟩
  · generalize he : min (T / D) 4294967295 = e
    have e1 : e ≤ T / D := by rw [← he]; exact Nat.min_le_left _ _
    have e3 : e ≤ 4294967295 := by rw [← he]; exact Nat.min_le_right _ _
    have e2 := (Nat.le_div_iff_mul_le (show 0 < D by omega)).1 e1
    rcases Nat.eq_zero_or_pos e with h | h
    · omega
    obtain ⟨f, rfl⟩ : ∃ f, e = f + 1 := ⟨e - 1, by omega⟩
    have h1 : f * V ≤ (f + 1) * D * P := by
      have h2 : f * V ≤ f * ((D + 1) * P) := Nat.mul_le_mul_left f (by omega)
      have h3 : f * ((D + 1) * P) = (f * D + f) * P := by grind
      have h4 : (f * D + f) * P ≤ (f + 1) * D * P := Nat.mul_le_mul_right P (by rw [Nat.add_mul]; omega)
      omega
    have h2 := Nat.mul_le_mul_right P e2
    have := z2 f (by omega)
    omega
theorem dm_step {X V Q R U k : Nat} (h : X / B ^ (k + 1) = V * Q + R) (hR : R < V) (hU : U = dg X k + B * R) : U < V * 4294967296 ∧ X / B ^ k = V * (U / V + B * Q) + U % V := by
  have h1 := div_dg X k
  have h2 := dg_lt' X k
  have h3 := Nat.div_add_mod U V
  change U = dg X k + 4294967296 * R at hU
  constructor
  · have : (R + 1) * 4294967296 ≤ V * 4294967296 := Nat.mul_le_mul_right _ hR
    omega
  · rw [h1, h]
    show _ = V * (U / V + 4294967296 * Q) + U % V
    have e : V * (U / V + 4294967296 * Q) = V * (U / V) + V * Q * 4294967296 := by grind
    rw [e, Nat.add_mul]
    omega
theorem dm_init {x y s V X t n m : Nat} (hV : V = y * 2 ^ s) (hX : X = x * 2 ^ s) (hy : B ^ (n - 1) ≤ y) (hx : x < B ^ m) (hm : m = n - 1 + t) : X / B ^ t < V := by
  rw [Nat.div_lt_iff_lt_mul (B_pos t), hV, hX]
  have h1 : y * 2 ^ s * B ^ t = y * B ^ t * 2 ^ s := by grind
  rw [h1]
  refine Nat.mul_lt_mul_of_pos_right (Nat.lt_of_lt_of_le hx ?_) (Nat.pow_pos (by decide))
  rw [hm, Nat.pow_add]
  exact Nat.mul_le_mul_right _ hy
theorem dm_end {X V Q R x y s : Nat} (h : X = V * Q + R) (hR : R < V) (hV : V = y * 2 ^ s) (hX : X = x * 2 ^ s) : Q = x / y ∧ R / 2 ^ s = x % y := by
  have p := Nat.pow_pos (n := s) (show 0 < 2 by decide)
  have q1 : X / V = Q := by
    rw [h, Nat.mul_add_div (by omega), Nat.div_eq_of_lt hR, Nat.add_zero]
  have q2 : X % V = R := by rw [h, Nat.mul_add_mod, Nat.mod_eq_of_lt hR]
  constructor
  · rw [← q1, hX, hV, Nat.mul_div_mul_right _ _ p]
  · rw [← q2, hX, hV, Nat.mul_mod_mul_right, Nat.mul_div_cancel _ p]
/-- Two results, and what has been made for them. -/
def Res2.of {W : World} {N M : List Chunk} {v1 v2 : Value} {z1 z2 : Nat} (h1 : NatV (K W (M ++ N)) v1 z1) (h2 : NatV (K W (M ++ N)) v2 z2) : Res2 W N z1 z2 := ⟨M.flatten, v1, v2, h1.cls fun _ k => k.weak [] (by simp), h2.cls fun _ k => k.weak [] (by simp)⟩
theorem Res2.of_cls {W w : World} {N M : List Chunk} {v1 v2 : Value} {z1 z2 : Nat} (h1 : NatV (K W (M ++ N)) v1 z1) (h2 : NatV (K W (M ++ N)) v2 z2) (hw : K W (M ++ N) w) : K W ((Res2.of h1 h2).L :: N) w := hw.weak [] (by simp [Res2.of])
end Go.KL
end

section
/- Walks: divMod. -/
namespace Go.KL
open Go.Proofs
theorem dg_sh (X t i : Nat) : dg X (t + i) = dg (X / B ^ t) i := by
  unfold dg
  rw [Nat.pow_add, ← Nat.div_div_eq_div_mul]
theorem val_shift {X t n : Nat} (h : wl X ≤ t + n) : val (fun i => dg X (t + i)) n = X / B ^ t := by
  rw [show (fun i => dg X (t + i)) = dg (X / B ^ t) from funext fun i => dg_sh X t i]
  apply val_of_le
  rw [wl_le, Nat.div_lt_iff_lt_mul (B_pos t), ← Nat.pow_add, Nat.add_comm]
  exact wl_le.1 h
theorem top_zero {g : Nat → Nat} {n P : Nat} (h : val g (n + 1) = P) (hP : P < B ^ n) : g n = 0 ∧ val g n = P := by
  rw [val_succ] at h
  rcases Nat.eq_zero_or_pos (g n) with z | z
  · rw [z, Nat.zero_mul, Nat.add_zero] at h
    exact ⟨z, h⟩
  · have := Nat.le_mul_of_pos_left (B ^ n) z
    omega
attribute [local irreducible] SC St Fin Sq Ylds Doos Sets Enters Spec CellIs CellsAre Then Ret Rnd Chn resOK ints bools recs arr
theorem lsh_spec' {W : World} {N : List Chunk} {a : Value} {x n z : Nat} [ha : NatV (K W N) a x] (hz : z = x * 2 ^ n) (hx : wl x ≤ 1000000) (hn : n < 32) :
    Spec Try.prog 131 #[a, .int .i64 (n : Int)] (K W N) (X := Res W N z) (fun r => r.v) (fun r => K W (r.L :: N)) := by
  subst hz
  exact lsh_spec hx hn
set_option maxRecDepth 10000 in
set_option maxHeartbeats 16000000 in
theorem divMod_spec {W : World} {N : List Chunk} {a b : Value} {x y : Nat} [ha : NatV (K W N) a x] [hb : NatV (K W N) b y] (hx : wl x ≤ 900000) (hy : y ≠ 0) :
    Spec Try.prog 111 #[a, b] (K W N) (X := Res2 W N (x / y) (x % y)) (fun r => .tuple #[r.v1, r.v2]) (fun r => K W (r.L :: N)) := by
  refine enter (args := [_, _]) Try.func111 rfl Try.ntmps111 rfl ?_
  refine c_seq ?_
  refine c_region ?_
  refine s_y (y_assign rfl) rfl rfl rfl ?_
  refine s_y (y_assign rfl) rfl rfl rfl ?_
  refine s_nil ?_
  refine f_then ?_
  refine c_seq ?_
  refine c_seq ?_
  refine c_region ?_
  refine s_y (y_move rfl) rfl rfl rfl ?_
  refine s_y (y_move rfl) rfl rfl rfl ?_
  refine s_call (en_f rfl Try.call62) cmp_spec rfl rfl rfl (fun _ => ?_)
  by_cases hlt : x < y
  · rw [if_pos hlt]
    refine s_y (y_T (y_lss rfl rfl) (by omega)) rfl rfl rfl ?_
    refine s_nil ?_
    refine f_then ?_
    refine c_condT rfl ?_
    refine c_seq ?_
    refine c_region ?_
    refine s_y (y_move rfl) rfl rfl rfl ?_
    refine s_y (y_assign rfl) rfl rfl rfl ?_
    refine s_y (y_assign rfl) rfl rfl rfl ?_
    refine s_nil ?_
    refine f_then ?_
    refine c_ret ?_
    refine f_thenR ?_
    exact f_ret (Res2.of (M := [[]]) (v1 := .slice none 0 0) (v2 := a) (z1 := x / y) (z2 := x % y) (NatV.nilI.of (Nat.div_eq_of_lt hlt).symm) ((show NatV (K W ([[]] ++ N)) a x from (inferInstance : NatV (K W ([] :: N)) a x)).of (Nat.mod_eq_of_lt hlt).symm)) (res2 rfl rfl rfl) (fun w h => Res2.of_cls (M := [[]]) _ _ h.addNil)
  have hwy : wl y ≠ 0 := fun e => hy (wl_eq_zero.1 e)
  have hwxy : wl y ≤ wl x := wl_mono (by omega)
  obtain ⟨c, hc⟩ : ∃ c : Int, c = (if x < y then -1 else if y < x then 1 else 0) := ⟨_, rfl⟩
  have hc0 : 0 ≤ c := by rw [hc, if_neg hlt]; split <;> decide
  rw [← hc]
  clear hc
  by_cases h1 : wl y = 1
  · have hy1 : y = dg y 0 := by
      have := val_wl y
      rw [h1] at this
      simpa [val] using this.symm
    have dy := dg_lt' y 0
    refine s_y (y_F (y_lss rfl rfl) (by omega)) rfl rfl rfl ?_
    refine s_nil ?_
    refine f_then ?_
    refine c_condF rfl ?_
    refine c_skip ?_
    refine f_then ?_
    refine c_seq ?_
    refine c_seq ?_
    refine c_region ?_
    refine s_y (y_move rfl) rfl rfl rfl ?_
    refine s_y (y_lenR Try.tab rfl rfl) rfl rfl rfl ?_
    refine s_y (y_T (y_eql rfl rfl) (by omega)) rfl rfl rfl ?_
    refine s_nil ?_
    refine f_then ?_
    refine c_condT rfl ?_
    refine c_seq ?_
    refine c_region ?_
    refine s_y (y_move rfl) rfl rfl rfl ?_
    refine s_y (y_move rfl) rfl rfl rfl ?_
    refine s_y (y_ixR Try.tab rfl rfl rfl rfl 0 rfl (by omega)) rfl rfl rfl ?_
    refine s_y (y_ldR Try.tab rfl rfl (by omega)) rfl rfl rfl ?_
    refine s_call (en_f rfl Try.call105) (divWord_spec (by omega) (show 1 ≤ dg y 0 by omega) dy) rfl rfl rfl (fun r1 => ?_)
    have hmb : x % dg y 0 < 4294967296 := Nat.lt_trans (Nat.mod_lt _ (by omega)) dy
    refine s_y (y_move rfl) rfl rfl rfl ?_
    refine s_y (y_extract rfl rfl) rfl rfl rfl ?_
    refine s_y (y_extract rfl rfl) rfl rfl rfl ?_
    refine s_y (y_assign rfl) rfl rfl rfl ?_
    refine s_y (y_assign rfl) rfl rfl rfl ?_
    refine s_nil ?_
    refine f_then ?_
    refine c_seq ?_
    refine c_region ?_
    refine s_y (y_move rfl) rfl rfl rfl ?_
    refine s_y (y_move rfl) rfl rfl rfl ?_
    refine s_y (y_to64 Try.tab rfl rfl rfl (by omega)) rfl rfl rfl ?_
    refine s_call (en_f rfl Try.call104) (words_spec (x := x % dg y 0) (by omega)) rfl rfl rfl (fun r2 => ?_)
    refine s_y (y_assign rfl) rfl rfl rfl ?_
    refine s_y (y_assign rfl) rfl rfl rfl ?_
    refine s_nil ?_
    refine f_then ?_
    refine c_ret ?_
    refine f_thenR ?_
    have k1 : NatV (K W ([r2.L, r1.L] ++ N)) r1.v (x / y) := (show NatV (K W ([r2.L, r1.L] ++ N)) r1.v (x / dg y 0) from (inferInstance : NatV (K W (r2.L :: r1.L :: N)) r1.v _)).of (by rw [← hy1])
    have k2 : NatV (K W ([r2.L, r1.L] ++ N)) r2.v (x % y) := r2.ok.of (by rw [← hy1])
    exact f_retE (Res2.of k1 k2) (res2 rfl rfl rfl) rfl (fun w h => Res2.of_cls (M := [r2.L, r1.L]) _ _ h)
  have dt := dg_lt' y (wl y - 1)
  obtain ⟨n1, n2, n3, n4⟩ := dm_norm hy
  have e1 : ((wl y : Int) - 1).toNat = wl y - 1 := by omega
  refine s_y (y_F (y_lss rfl rfl) (by omega)) rfl rfl rfl ?_
  refine s_nil ?_
  refine f_then ?_
  refine c_condF rfl ?_
  refine c_skip ?_
  refine f_then ?_
  refine c_seq ?_
  refine c_seq ?_
  refine c_region ?_
  refine s_y (y_move rfl) rfl rfl rfl ?_
  refine s_y (y_lenR Try.tab rfl rfl) rfl rfl rfl ?_
  refine s_y (y_F (y_eql rfl rfl) (by omega)) rfl rfl rfl ?_
  refine s_nil ?_
  refine f_then ?_
  refine c_condF rfl ?_
  refine c_skip ?_
  refine f_then ?_
  refine c_seq ?_
  refine c_region ?_
  refine s_y (y_move rfl) rfl rfl rfl ?_
  refine s_y (y_move rfl) rfl rfl rfl ?_
  refine s_y (y_lenR Try.tab rfl rfl) rfl rfl rfl ?_
  refine s_y (y_sub rfl rfl (by omega)) rfl rfl rfl ?_
  refine s_y (y_ixR Try.tab rfl rfl rfl rfl _ (Int.toNat_of_nonneg (by omega)).symm (by omega)) rfl rfl rfl ?_
  refine s_y (y_ldR Try.tab rfl rfl (by omega)) rfl rfl rfl ?_
  rw [e1]
  refine s_call (en_f rfl Try.call130) (zeros32_spec dt) rfl rfl rfl (fun _ => ?_)
  generalize Lib.bitLen (dg y (wl y - 1)) = bb at *
  obtain ⟨s, hs⟩ : ∃ s, s = 32 - bb := ⟨_, rfl⟩
  rw [← hs] at n3 n4
  have hsI : (32 : Int) - (bb : Int) = (s : Int) := by omega
  rw [hsI]
  have hs32 : s < 32 := by omega
  obtain ⟨V, hV⟩ : ∃ V, V = y * 2 ^ s := ⟨_, rfl⟩
  obtain ⟨X, hX⟩ : ∃ X, X = x * 2 ^ s := ⟨_, rfl⟩
  rw [← hV] at n3 n4
  have hVn : wl V = wl y := by
    apply Nat.le_antisymm (wl_le.2 n3)
    rw [hV]
    exact wl_mono (Nat.le_mul_of_pos_right _ (Nat.pow_pos (by decide)))
  have hXm : wl X ≤ wl x + 1 := by
    rw [wl_le, hX, B_succ]
    have := two_le32 hs32
    exact Nat.mul_lt_mul'' (lt_wl x) (Nat.lt_of_le_of_lt this.1 (by decide))
  have hinit := dm_init (t := wl x + 1 - wl V) (m := wl x) (n := wl y) hV hX (wl_ge (by omega)) (lt_wl x) (by omega)
  have hy2 : 2 ≤ wl y := by omega
  rw [← hVn] at hwxy hy2 n4
  refine s_y (y_assign rfl) rfl rfl rfl ?_
  refine s_nil ?_
  refine f_then ?_
  refine c_seq ?_
  refine c_region ?_
  refine s_y (y_move rfl) rfl rfl rfl ?_
  refine s_y (y_move rfl) rfl rfl rfl ?_
  refine s_call (en_f rfl Try.call131) (lsh_spec' hV (by omega) hs32) rfl rfl rfl (fun r1 => ?_)
  refine s_y (y_assign rfl) rfl rfl rfl ?_
  refine s_nil ?_
  refine f_then ?_
  refine c_seq ?_
  refine c_region ?_
  refine s_y (y_move rfl) rfl rfl rfl ?_
  refine s_y (y_lenR Try.tab rfl rfl) rfl rfl rfl ?_
  refine s_y (y_add rfl rfl (by omega)) rfl rfl rfl ?_
  obtain ⟨m, hm⟩ : ∃ m, m = wl x + 1 := ⟨_, rfl⟩
  have hmI : (wl x : Int) + 1 = (m : Int) := by omega
  rw [← hm] at hXm
  rw [hmI]
  refine s_do (make_u32 (by_ := 4) (m := m) Try.tab rfl rfl rfl rfl rfl (by omega) (by omega)) rfl rfl rfl (fun b10 => ?_)
  refine s_y (y_assign rfl) rfl rfl rfl ?_
  refine s_nil ?_
  refine f_then ?_
  refine c_seq ?_
  refine c_region ?_
  refine s_y (y_move rfl) rfl rfl rfl ?_
  refine s_y (y_move rfl) rfl rfl rfl ?_
  refine s_y (y_move rfl) rfl rfl rfl ?_
  refine s_call (en_f rfl Try.call131) (lsh_spec' hX (by omega) hs32) rfl rfl rfl (fun r2 => ?_)
  skip
  haveI hvs : NatV (K W ((r2.L :: [(b10, u32s m (fun _ => 0) [])] :: r1.L :: N).set 1 [(b10, u32s m (cpy (fun _ => 0) 0 (wl X) (dg X)) [])])) r1.v V := (inferInstance : NatV (K W (r2.L :: [(b10, u32s m (cpy (fun _ => 0) 0 (wl X) (dg X)) [])] :: r1.L :: N)) r1.v V)
  refine s_do (do_copyR (k := wl X) (g' := dg X) Try.tab 1 rfl rfl rfl rfl hXm rfl (by omega)) rfl rfl rfl (fun _ => ?_)
  refine s_nil ?_
  refine f_then ?_
  refine c_seq ?_
  refine c_region ?_
  refine s_y (y_move rfl) rfl rfl rfl ?_
  refine s_y (y_lenR Try.tab rfl rfl) rfl rfl rfl ?_
  refine s_y (y_assign rfl) rfl rfl rfl ?_
  refine s_nil ?_
  refine f_then ?_
  refine c_seq ?_
  refine c_region ?_
  refine s_y (y_move rfl) rfl rfl rfl ?_
  refine s_y (y_len Try.tab rfl rfl) rfl rfl rfl ?_
  refine s_y (y_move rfl) rfl rfl rfl ?_
  refine s_y (y_sub rfl rfl (by omega)) rfl rfl rfl ?_
  obtain ⟨t, ht⟩ : ∃ t, t = m - wl V := ⟨_, rfl⟩
  have e2 : ((m : Nat) : Int) - (wl V : Int) = (t : Int) := by omega
  rw [e2]
  refine s_do (make_u32 (by_ := 4) (m := t) Try.tab rfl rfl rfl rfl rfl (by omega) (by omega)) rfl rfl rfl (fun b12 => ?_)
  refine s_y (y_assign rfl) rfl rfl rfl ?_
  refine s_nil ?_
  refine f_then ?_
  refine c_seq ?_
  refine c_seq ?_
  refine c_region ?_
  refine s_y (y_move rfl) rfl rfl rfl ?_
  refine s_y (y_len Try.tab rfl rfl) rfl rfl rfl ?_
  refine s_y (y_move rfl) rfl rfl rfl ?_
  refine s_y (y_sub rfl rfl (by omega)) rfl rfl rfl ?_
  refine s_y (y_sub rfl rfl (by omega)) rfl rfl rfl ?_
  refine s_y (y_assign rfl) rfl rfl rfl ?_
  refine s_nil ?_
  refine f_then ?_
  refine c_block ?_
  have hV0 : 0 < V := Nat.lt_of_le_of_lt (Nat.zero_le _) hinit
  have hVd : Dig (dg V) (wl V) := Dig.dg V (wl V)
  rw [← hm, ← ht] at hinit
  have hmt : m = t + wl V := by omega
  have hcp : ∀ j, cpy (fun _ => 0) 0 (wl X) (dg X) j = dg X j := by
    intro j
    unfold cpy
    split
    · rfl
    · exact (dg_out (by omega)).symm
  clear hvs
  refine c_loopP (α := Nat × (Nat → Nat) × (Nat → Nat)) (fun z => [(8, .int .i64 s), (9, r1.v), (10, .slice (some ⟨b10, 0, none⟩) m m), (11, .int .i64 (wl V)), (12, .slice (some ⟨b12, 0, none⟩) t t), (13, .int .i64 ((z.1 : Int) - 1))])
    (fun z => z.1 ≤ t ∧ Dig z.2.1 m ∧ Dig z.2.2 t ∧ (∀ j, j < z.1 → z.2.1 j = dg X j) ∧ (∀ j, z.1 + wl V ≤ j → j < m → z.2.1 j = 0) ∧ val (fun i => z.2.1 (z.1 + i)) (wl V) < V ∧ X / B ^ z.1 = V * val (fun i => z.2.2 (z.1 + i)) (t - z.1) + val (fun i => z.2.1 (z.1 + i)) (wl V)) (fun z => K W ([(b10, u32s m z.2.1 [])] :: [(b12, u32s t z.2.2 [])] :: r2.L :: r1.L :: N)) (fun z => z.1) (t, cpy (fun _ => 0) 0 (wl X) (dg X), fun _ => 0)
    ⟨rfl, rfl, rfl, rfl, rfl, congrArg (fun z => some (Value.int .i64 z)) (by dsimp only; omega), trivial⟩ ⟨Nat.le_refl _, fun j _ => by dsimp only; rw [hcp]; exact dg_lt' X j, Dig.zero _, fun j _ => hcp j, fun j h1 h2 => by dsimp only at h1; omega, ?_, ?_⟩ (fun w h => K.toM (M := [[(b12, u32s t (fun _ => 0) [])], r2.L]) (B := [_]) h) ?_
  · dsimp only
    rw [val_congr fun i _ => hcp (t + i)]
    rw [val_shift (by omega)]
    exact hinit
  · dsimp only
    rw [val_congr fun i _ => hcp (t + i), Nat.sub_self, val_0, val_shift (by omega), Nat.mul_zero, Nat.zero_add]
  rintro ⟨k, w, q⟩ ⟨hk, hw, hq, hlo, hhi, hltR, hval⟩
  dsimp only at hk hw hq hlo hhi hltR hval ⊢
  refine c_seq ?_
  refine c_seq ?_
  refine c_region ?_
  refine s_y (y_move rfl) rfl rfl rfl ?_
  refine s_y (y_geq rfl rfl) rfl rfl rfl ?_
  refine s_nil ?_
  refine f_then ?_
  refine c_condD rfl (fun hc1 => ?_) (fun hc2 => ?_)
  · obtain ⟨p, rfl⟩ : ∃ p, k = p + 1 := ⟨k - 1, by omega⟩
    have hpI : ((p + 1 : Nat) : Int) - 1 = (p : Int) := by omega
    rw [hpI]
    obtain ⟨e, he⟩ : ∃ e, wl V = e + 2 := ⟨wl V - 2, by omega⟩
    obtain ⟨U, hU⟩ : ∃ U, U = val (fun i => w (p + i)) (wl V + 1) := ⟨_, rfl⟩
    have hU2 : U = dg X p + B * val (fun i => w (p + 1 + i)) (wl V) := by
      rw [hU, val_down, Nat.add_zero, hlo p (by omega), show (fun i => w (p + (1 + i))) = fun i => w (p + 1 + i) from funext fun i => by rw [Nat.add_assoc]]
    obtain ⟨hUV, hstep⟩ := dm_step hval hltR hU2
    have hVv : V = val (dg V) (e + 2) := by rw [← he]; exact (val_wl V).symm
    obtain ⟨o1, o2, o3, o4⟩ := est_ok (k := e) (u := fun i => w (p + i)) (v := dg V) (fun i hi => hw _ (by omega)) (he ▸ hVd) (by rw [hU, he]) hVv hUV (he ▸ n4)
    have T0 : p + wl V = p + (e + 2) := by omega
    have T1 : ((p : Int) + (wl V : Int) - 1).toNat = p + (e + 1) := by omega
    have T2 : ((p : Int) + (wl V : Int) - 2).toNat = p + e := by omega
    have T3 : ((wl V : Int) - 1).toNat = e + 1 := by omega
    have T4 : ((wl V : Int) - 2).toNat = e := by omega
    have d0 : w (p + wl V) < 4294967296 := hw _ (by omega)
    have d1 : w (p + (e + 1)) < 4294967296 := hw _ (by omega)
    have d2 : w (p + e) < 4294967296 := hw _ (by omega)
    have d1' : w ((p : Int) + (wl V : Int) - 1).toNat < 4294967296 := by rw [T1]; exact d1
    have d2' : w ((p : Int) + (wl V : Int) - 2).toNat < 4294967296 := by rw [T2]; exact d2
    have d3 := dg_lt' V ((wl V : Int) - 1).toNat
    have d4 := dg_lt' V ((wl V : Int) - 2).toNat
    refine c_skip ?_
    refine f_then ?_
    refine c_seq ?_
    refine c_block ?_
    refine c_seq ?_
    refine c_quiet Try.mixed (by kernel_rfl) K.drew ?_
    refine q_y (y_move rfl) rfl rfl rfl ?_
    refine q_y (y_move rfl) rfl rfl rfl ?_
    refine q_y (y_move rfl) rfl rfl rfl ?_
    refine q_y (y_add rfl rfl (by omega)) rfl rfl rfl ?_
    refine q_y (y_indexAddr1 Try.tab rfl rfl rfl rfl _ rfl (by omega)) rfl rfl rfl ?_
    refine q_y (y_load Try.tab rfl rfl (cell_u32 0 rfl (by omega))) rfl rfl rfl ?_
    refine q_y (y_to64 Try.tab rfl rfl rfl (by omega)) rfl rfl rfl ?_
    refine q_y (y_move rfl) rfl rfl rfl ?_
    refine q_y (y_move rfl) rfl rfl rfl ?_
    refine q_y (y_move rfl) rfl rfl rfl ?_
    refine q_y (y_add rfl rfl (by omega)) rfl rfl rfl ?_
    refine q_y (y_sub rfl rfl (by omega)) rfl rfl rfl ?_
    refine q_y (y_indexAddr1 Try.tab rfl rfl rfl rfl _ (Int.toNat_of_nonneg (by omega)).symm (by omega)) rfl rfl rfl ?_
    refine q_y (y_load Try.tab rfl rfl (cell_u32 0 rfl (by omega))) rfl rfl rfl ?_
    refine q_y (y_to64 Try.tab rfl rfl rfl (by omega)) rfl rfl rfl ?_
    refine q_y (y_move rfl) rfl rfl rfl ?_
    refine q_y (y_move rfl) rfl rfl rfl ?_
    refine q_y (y_move rfl) rfl rfl rfl ?_
    refine q_y (y_add rfl rfl (by omega)) rfl rfl rfl ?_
    refine q_y (y_sub rfl rfl (by omega)) rfl rfl rfl ?_
    refine q_y (y_indexAddr1 Try.tab rfl rfl rfl rfl _ (Int.toNat_of_nonneg (by omega)).symm (by omega)) rfl rfl rfl ?_
    refine q_y (y_load Try.tab rfl rfl (cell_u32 0 rfl (by omega))) rfl rfl rfl ?_
    refine q_y (y_to64 Try.tab rfl rfl rfl (by omega)) rfl rfl rfl ?_
    refine q_y (y_move rfl) rfl rfl rfl ?_
    refine q_y (y_move rfl) rfl rfl rfl ?_
    refine q_y (y_sub rfl rfl (by omega)) rfl rfl rfl ?_
    refine q_y (y_ixR Try.tab rfl rfl rfl rfl _ (Int.toNat_of_nonneg (by omega)).symm (by omega)) rfl rfl rfl ?_
    refine q_y (y_ldR Try.tab rfl rfl (by omega)) rfl rfl rfl ?_
    refine q_y (y_to64 Try.tab rfl rfl rfl (by omega)) rfl rfl rfl ?_
    refine q_y (y_move rfl) rfl rfl rfl ?_
    refine q_y (y_move rfl) rfl rfl rfl ?_
    refine q_y (y_sub rfl rfl (by omega)) rfl rfl rfl ?_
    refine q_y (y_ixR Try.tab rfl rfl rfl rfl _ (Int.toNat_of_nonneg (by omega)).symm (by omega)) rfl rfl rfl ?_
    refine q_y (y_ldR Try.tab rfl rfl (by omega)) rfl rfl rfl ?_
    refine q_y (y_to64 Try.tab rfl rfl rfl (by omega)) rfl rfl rfl ?_
    refine q_call (en_f rfl Try.call132) (estimate_spec (by rw [T0, T3]; exact o1) (by rw [T1]; exact d1) (by rw [T2]; exact d2) (by rw [T3]; exact ⟨o2, dg_lt' _ _⟩) (dg_lt' _ _)) rfl rfl rfl ?_
    refine q_y (y_assign rfl) rfl rfl rfl ?_
    refine q_nil ?_
    refine f_then ?_
    refine c_region ?_
    refine s_y (y_move rfl) rfl rfl rfl ?_
    refine s_y (y_move rfl) rfl rfl rfl ?_
    refine s_y (y_move rfl) rfl rfl rfl ?_
    refine s_y (y_move rfl) rfl rfl rfl ?_
    refine s_y (y_move rfl) rfl rfl rfl ?_
    refine s_y (y_move rfl) rfl rfl rfl ?_
    obtain ⟨qd, hqd⟩ : ∃ z, z = est (w (p + wl V)) (w ((p : Int) + (wl V : Int) - 1).toNat) (w ((p : Int) + (wl V : Int) - 2).toNat) (dg V ((wl V : Int) - 1).toNat) (dg V ((wl V : Int) - 2).toNat) := ⟨_, rfl⟩
    rw [← hqd]
    rw [T0, T1, T2, T3, T4] at hqd
    rw [← hqd] at o3 o4
    have hqd2 : qd < 4294967296 := by
      have := @est_lt (w (p + (e + 2))) (w (p + (e + 1))) (w (p + e)) (dg V (e + 1)) (dg V e)
      omega
    refine s_call (en_f rfl Try.call133) (reduce_spec (i := p) (q := qd) (U := U) (V := V) hw hVd (by omega) (by omega) hqd2 (val_wl V).symm hU hV0 o3 o4) rfl rfl rfl (fun g => ?_)
    obtain ⟨g, hg1, hg2, hg3⟩ := g
    obtain ⟨z1, z2⟩ := top_zero hg3 (Nat.lt_trans (Nat.mod_lt U hV0) (hVn ▸ n3))
    dsimp only
    have hUb : U / V < 4294967296 := by rw [Nat.div_lt_iff_lt_mul hV0, Nat.mul_comm]; exact hUV
    obtain ⟨Z, hZ⟩ : ∃ Z, Z = U / V := ⟨_, rfl⟩
    rw [← hZ] at hUb hstep ⊢
    refine s_y (y_indexAddr1 Try.tab rfl rfl rfl rfl _ rfl (by omega)) rfl rfl rfl ?_
    refine s_set (set_u32 Try.tab 1 _ rfl rfl rfl rfl (Int.toNat_of_nonneg (by omega)).symm (by omega)) rfl rfl ?_
    refine s_nil ?_
    refine f_blockN ?_
    refine f_then ?_
    refine c_region ?_
    refine s_y (y_move rfl) rfl rfl rfl ?_
    refine s_y (y_sub rfl rfl (by omega)) rfl rfl rfl ?_
    refine s_y (y_assign rfl) rfl rfl rfl ?_
    refine s_nil ?_
    refine f_roundP (p, g, upd q p Z) ⟨by dsimp only; omega, hg1, hq.updL hUb, fun j hj => ?_, fun j h1 h2 => ?_, ?_, ?_⟩ (by dsimp only; omega) ⟨rfl, rfl, rfl, rfl, rfl, rfl, trivial⟩ (fun w h => h)
    · dsimp only at hj ⊢
      rw [hg2 j (by omega)]
      exact hlo j (by omega)
    · dsimp only at h1 ⊢
      rcases Nat.lt_or_ge (p + wl V) j with h3 | h3
      · rw [hg2 j (.inr h3)]
        exact hhi j (by omega) h2
      · obtain rfl : j = p + wl V := by omega
        exact z1
    · dsimp only
      rw [z2]
      exact Nat.mod_lt U hV0
    · dsimp only
      rw [z2, hstep, show t - p = (t - (p + 1)) + 1 by omega, val_down, upd_get, if_pos (Nat.add_zero p), show (fun i => upd q p Z (p + (1 + i))) = fun i => q (p + 1 + i) from funext fun i => by rw [upd_get, if_neg (by omega), Nat.add_assoc]]
  · obtain rfl : k = 0 := by omega
    have hlt0 : val w (wl V) < V := by simpa using hltR
    have hval0 : X = V * val q t + val w (wl V) := by simpa using hval
    obtain ⟨f1, f2⟩ := dm_end hval0 hlt0 hV hX
    have hwn : wl (val w (wl V)) ≤ wl V := wl_le.2 (val_lt fun i hi => hw i (by omega))
    have R10 : RawV (K W ([(b10, u32s m w [])] :: [(b12, u32s t q [])] :: r2.L :: r1.L :: N)) (.slice (some ⟨b10, 0, none⟩) m m) m w := RawV.ownT 0 rfl (Nat.le_refl _) (by unfold maxLen; omega)
    have R12 : RawV (K W ([(b10, u32s m w [])] :: [(b12, u32s t q [])] :: r2.L :: r1.L :: N)) (.slice (some ⟨b12, 0, none⟩) t t) t q := RawV.ownT 1 rfl (Nat.le_refl _) (by unfold maxLen; omega)
    refine c_exit ?_
    refine f_thenE ?_
    refine f_rndE ?_
    refine f_blockE ?_
    refine f_then ?_
    refine c_seq ?_
    refine c_then_cut (α := List Chunk × Value × Value) (fun z => [(4, z.2.1), (5, z.2.2)]) (fun z => (∃ M, z.1 = M ++ N) ∧ NatV (K W z.1) z.2.1 (x / y) ∧ NatV (K W z.1) z.2.2 (x % y)) (fun z => K W z.1) ?_ ?_
    · refine c_drawn [(8, .int .i64 s), (10, .slice (some ⟨b10, 0, none⟩) m m), (11, .int .i64 (wl V)), (12, .slice (some ⟨b12, 0, none⟩) t t)] [[], [(0, 114)], [], [], [(2, 116), (3, 117)], [(4, 118)], [], [(5, 119), (6, 120)], [(1, 115)], [(7, 121)]] [(8, 4), (9, 5)] (fun _ => [])
        [fun _ v _ => v = .slice (some ⟨b12, 0, none⟩) t t, fun N v _ => NatV (K W N) v (x / y), fun _ v _ => v = .slice (some ⟨b10, 0, none⟩) m m, fun _ v _ => v = .int .i64 (wl V), fun N v _ => RawV (K W N) v (wl V) w, fun N v _ => NatV (K W N) v (val w (wl V)), fun _ v _ => v = .int .i64 s, fun N v _ => NatV (K W N) v (x % y), fun N v _ => NatV (K W N) v (x / y), fun N v _ => NatV (K W N) v (x % y)]
        ([(b10, u32s m w [])] :: [(b12, u32s t q [])] :: r2.L :: r1.L :: N) (fun N' => RawV (K W N') (.slice (some ⟨b10, 0, none⟩) m m) m w ∧ RawV (K W N') (.slice (some ⟨b12, 0, none⟩) t t) t q ∧ ∃ M, N' = M ++ N) ⟨R10, R12, [_, _, _, _], rfl⟩ (fun M N' ⟨h, h2, M2, e⟩ => ⟨h.cls fun _ k => k.bck, h2.cls fun _ k => k.bck, M ++ M2, by rw [e, List.append_assoc]⟩) Try.mixed (by kernel_rfl) rfl ⟨rfl, rfl, rfl, rfl, trivial⟩ (fun w h => h)
        ⟨fun _ _ _ _ h => h, fun _ _ _ _ h => h.cls fun _ k => k.bck, fun _ _ _ _ h => h, fun _ _ _ _ h => h, fun _ _ _ _ h => h.cls fun _ k => k.bck, fun _ _ _ _ h => h.cls fun _ k => k.bck, fun _ _ _ _ h => h, fun _ _ _ _ h => h.cls fun _ k => k.bck, fun _ _ _ _ h => h.cls fun _ k => k.bck, fun _ _ _ _ h => h.cls fun _ k => k.bck, trivial⟩
        ⟨?_, ?_, ?_, ?_, ?_, ?_, ?_, ?_, ?_, ?_, trivial⟩ ?_
      · intro s N' gN h0 hn0
        show Acts _ _ _ (K W N') _ _
        exact a_y (y_move rfl) fun w h => ⟨[], [], h, rfl⟩
      · rintro s N' gN h0 hn0 v0 d0 e0 rfl
        show Acts _ _ _ (K W N') _ _
        haveI := gN.2.1
        exact a_call (en_f rfl Try.call101) (norm_spec hq) fun r w h => ⟨[], [], h, r.ok.of f1⟩
      · intro s N' gN h0 hn0
        show Acts _ _ _ (K W N') _ _
        exact a_y (y_move rfl) fun w h => ⟨[], [], h, rfl⟩
      · intro s N' gN h0 hn0
        show Acts _ _ _ (K W N') _ _
        exact a_y (y_move rfl) fun w h => ⟨[], [], h, rfl⟩
      · rintro s N' gN h0 hn0 v0 d0 e0 rfl v1 d1 e1 rfl
        show Acts _ _ _ (K W N') _ _
        haveI := gN.1
        refine a_y (y_slToR (hi := wl V) Try.tab rfl rfl rfl rfl rfl (by omega)) fun w h => ⟨[], [], h, ?_⟩
        exact gN.1.to (by omega) (by show wl V ≤ m; omega) (by show m ≤ maxLen; unfold maxLen; omega)
      · rintro s N' gN h0 hn0 v2 d2 e2 f2
        show Acts _ _ _ (K W N') _ _
        haveI : RawV (K W N') v2 (wl V) w := f2
        exact a_call (en_f rfl Try.call101) (norm_spec fun i hi => hw i (by omega)) fun r w h => ⟨[], [], h, r.ok⟩
      · intro s N' gN h0 hn0
        show Acts _ _ _ (K W N') _ _
        exact a_y (y_move rfl) fun w h => ⟨[], [], h, rfl⟩
      · rintro s' N' gN h0 hn0 v2 d2 e2 k2 v3 d3 e3 rfl
        show Acts _ _ _ (K W N') _ _
        haveI : NatV (K W N') v2 (val w (wl V)) := k2
        exact a_call (en_f rfl Try.call134) (rsh_spec (by omega) hs32) fun r w h => ⟨[r.L], [], h, r.ok.of f2⟩
      · rintro s N' gN h0 hn0 v3 d3 e3 f3
        show Acts _ _ _ (K W N') _ _
        exact a_y (y_assign rfl) fun w h => ⟨[], [], h, f3⟩
      · rintro s N' gN h0 hn0 v3 d3 e3 f3
        show Acts _ _ _ (K W N') _ _
        exact a_y (y_assign rfl) fun w h => ⟨[], [], h, f3⟩
      · intro s N' gN hall v8 d8 e8 f8 v9 d9 e9 f9
        exact f_cutP (N', v8, v9) ⟨gN.2.2, f8, f9⟩ ⟨rfl, rfl, trivial⟩ (fun w h => h)
    rintro ⟨N1, v4, v5⟩ ⟨⟨M1, hN1⟩, k4, k5⟩
    dsimp only at hN1 k4 k5 ⊢
    subst hN1
    refine c_ret ?_
    exact f_ret (Res2.of k4 k5) (res2 rfl rfl rfl) (fun w h => Res2.of_cls k4 k5 h)
end Go.KL
end

section
/- Walks: gcd. -/
namespace Go.KL
open Go.Proofs
theorem gcd_step (x y : Nat) : Nat.gcd y (x % y) = Nat.gcd x y := by
  rw [Nat.gcd_comm x y, Nat.gcd_rec y x, Nat.gcd_comm]
attribute [local irreducible] SC St Fin Sq Ylds Doos Sets Enters Spec CellIs CellsAre Then Ret Rnd Chn resOK ints bools recs arr
set_option maxRecDepth 10000 in
set_option maxHeartbeats 8000000 in
theorem gcd_spec {W : World} {N : List Chunk} {a b : Value} {x y : Nat} [ha : NatV (K W N) a x] [hb : NatV (K W N) b y] (hx : wl x ≤ 900000) (hy : wl y ≤ 900000) :
    Spec Try.prog 110 #[a, b] (K W N) (X := Res W N (Nat.gcd x y)) (fun r => r.v) (fun r => K W (r.L :: N)) := by
  refine enter (args := [_, _]) Try.func110 rfl Try.ntmps110 rfl ?_
  refine c_seq ?_
  refine c_region ?_
  refine s_y (y_assign rfl) rfl rfl rfl ?_
  refine s_nil ?_
  refine f_then ?_
  refine c_seq ?_
  refine c_block ?_
  refine c_loopP (α := List Chunk × Value × Value × Nat × Nat) (fun z => [(0, z.2.1), (1, z.2.2.1)])
    (fun z => NatV (K W (z.1 ++ N)) z.2.1 z.2.2.2.1 ∧ NatV (K W (z.1 ++ N)) z.2.2.1 z.2.2.2.2 ∧ wl z.2.2.2.1 ≤ 900000 ∧ wl z.2.2.2.2 ≤ 900000 ∧ Nat.gcd z.2.2.2.1 z.2.2.2.2 = Nat.gcd x y) (fun z => K W (z.1 ++ N)) (fun z => z.2.2.2.2) ([], a, b, x, y)
    ⟨rfl, rfl, trivial⟩ ⟨ha, hb, hx, hy, rfl⟩ (fun w h => h) ?_
  clear ha hb hx hy
  rintro ⟨M, va, vb, x', y'⟩ ⟨ha, hb, hx, hy, hg⟩
  dsimp only at ha hb hx hy hg ⊢
  by_cases h0 : y' = 0
  · have hw : wl y' = 0 := wl_eq_zero.2 h0
    have k : NatV (K W (M ++ N)) va (Nat.gcd x y) := ha.of (by rw [← hg, h0, Nat.gcd_zero_right])
    refine c_seq ?_
    refine c_seq ?_
    refine c_region ?_
    refine s_y (y_move rfl) rfl rfl rfl ?_
    refine s_y (y_lenR Try.tab rfl rfl) rfl rfl rfl ?_
    refine s_y (y_F (y_gtr rfl rfl) (by omega)) rfl rfl rfl ?_
    refine s_nil ?_
    refine f_then ?_
    refine c_condF rfl ?_
    refine c_exit ?_
    refine f_thenE ?_
    refine f_rndE ?_
    refine f_blockE ?_
    refine f_then ?_
    refine c_seq ?_
    refine c_region ?_
    refine s_y (y_move rfl) rfl rfl rfl ?_
    refine s_y (y_assign rfl) rfl rfl rfl ?_
    refine s_nil ?_
    refine f_then ?_
    refine c_ret ?_
    exact f_ret (Res.of k) (res1 rfl rfl) (fun w h => Res.of_cls k h)
  · have hw : wl y' ≠ 0 := fun e => h0 (wl_eq_zero.1 e)
    refine c_seq ?_
    refine c_seq ?_
    refine c_region ?_
    refine s_y (y_move rfl) rfl rfl rfl ?_
    refine s_y (y_lenR Try.tab rfl rfl) rfl rfl rfl ?_
    refine s_y (y_T (y_gtr rfl rfl) (by omega)) rfl rfl rfl ?_
    refine s_nil ?_
    refine f_then ?_
    refine c_condT rfl ?_
    refine c_skip ?_
    refine f_then ?_
    refine c_block ?_
    refine c_seq ?_
    refine c_region ?_
    refine s_y (y_move rfl) rfl rfl rfl ?_
    refine s_y (y_move rfl) rfl rfl rfl ?_
    refine s_call (en_f rfl Try.call111) (divMod_spec hx h0) rfl rfl rfl (fun r => ?_)
    refine s_y (y_move rfl) rfl rfl rfl ?_
    refine s_y (y_extract rfl rfl) rfl rfl rfl ?_
    refine s_y (y_extract rfl rfl) rfl rfl rfl ?_
    refine s_y (y_assign rfl) rfl rfl rfl ?_
    refine s_y (y_assign rfl) rfl rfl rfl ?_
    refine s_nil ?_
    refine f_then ?_
    refine c_region ?_
    refine s_y (y_move rfl) rfl rfl rfl ?_
    refine s_y (y_move rfl) rfl rfl rfl ?_
    refine s_y (y_assign rfl) rfl rfl rfl ?_
    refine s_y (y_assign rfl) rfl rfl rfl ?_
    refine s_nil ?_
    refine f_blockN ?_
    exact f_roundP (r.L :: M, vb, r.v2, y', x' % y') ⟨(inferInstance : NatV (K W (r.L :: (M ++ N))) vb y'), r.ok2, hy, Nat.le_trans (wl_mono (Nat.le_of_lt (Nat.mod_lt _ (Nat.pos_of_ne_zero h0)))) hy, by dsimp only; rw [gcd_step, hg]⟩ (by dsimp only; exact Nat.mod_lt _ (Nat.pos_of_ne_zero h0)) ⟨rfl, rfl, trivial⟩ (fun w h => h)
end Go.KL
end

section
/- Walks: the denominator. -/
namespace Go.KL
open Go.Proofs
attribute [local irreducible] SC St Fin Sq Ylds Doos Sets Enters Spec CellIs CellsAre Then Ret Rnd Chn resOK ints bools recs arr
theorem words1 {W : World} {N : List Chunk} : Spec Try.prog 104 #[.int .u64 1] (K W N) (X := Res W N 1) (fun r => r.v) (fun r => K W (r.L :: N)) := words_spec (x := 1) (by omega)
set_option maxRecDepth 10000 in
set_option maxHeartbeats 8000000 in
theorem den_spec {W : World} {N : List Chunk} {a b : Value} {d : Nat} [hb : NatV (K W N) b d] (hd : wl d ≤ 900000) :
    Spec Try.prog 64 #[.agg #[a, b]] (K W N) (X := Res W N (d + 1)) (fun r => r.v) (fun r => K W (r.L :: N)) := by
  refine enter (args := [_]) Try.func64 rfl Try.ntmps64 rfl ?_
  refine c_seq ?_
  refine c_region ?_
  refine s_do (do_box rfl) rfl rfl rfl (fun b1 => ?_)
  refine s_y (y_assign rfl) rfl rfl rfl ?_
  refine s_nil ?_
  refine f_then ?_
  refine c_seq ?_
  refine c_then_cut (α := List Chunk × Value) (fun z => [(2, z.2)]) (fun z => (∃ M, z.1 = M ++ N) ∧ NatV (K W z.1) z.2 (d + 1)) (fun z => K W ([(b1, row 25 [a, b])] :: z.1)) ?_ ?_
  · refine c_drawn [(1, .pointer (some ⟨b1, 0, none⟩))] [[], [(0, 3)], [], [(1, 4), (2, 5)], [(3, 6)]] [(4, 2)] (fun _ => [[(b1, row 25 [a, b])]])
      [fun _ v _ => .pointer (some ⟨b1, 1, none⟩) = v, fun _ v _ => b = v, fun N v _ => NatV (K W N) v (1), fun N v _ => NatV (K W N) v (d + 1), fun N v _ => NatV (K W N) v (d + 1)]
      N (fun N' => NatV (K W N') b (d) ∧ ∃ M, N' = M ++ N) ⟨inferInstance, [], rfl⟩ (fun M N' ⟨h0, M2, e⟩ => ⟨h0.cls fun _ k => k.bck, M ++ M2, by rw [e, List.append_assoc]⟩) Try.mixed (by kernel_rfl) rfl ⟨rfl, trivial⟩ (fun w h => h)
      ⟨fun _ _ _ _ h => h, fun _ _ _ _ h => h, fun _ _ _ _ h => h.cls fun _ k => k.bck, fun _ _ _ _ h => h.cls fun _ k => k.bck, fun _ _ _ _ h => h.cls fun _ k => k.bck, trivial⟩
      ⟨?_, ?_, ?_, ?_, ?_, trivial⟩ ?_
    · intro s N' gN h0 hn0
      show Acts _ _ _ (K W ([(b1, row 25 [a, b])] :: N')) _ _
      exact a_y (y_fieldAddrB Try.tab 1 rfl rfl rfl rfl rfl) fun w h => ⟨[], [], h, rfl⟩
    · rintro s N' gN h0 hn0 v0 d0 e0 rfl
      show Acts _ _ _ (K W ([(b1, row 25 [a, b])] :: N')) _ _
      exact a_y (y_load Try.tab rfl rfl (cell_row 0 rfl rfl)) fun w h => ⟨[], [], h, rfl⟩
    · intro s N' gN h0 hn0
      show Acts _ _ _ (K W ([(b1, row 25 [a, b])] :: N')) _ _
      haveI := gN.1
      exact a_call (en_f rfl Try.call104) (bx1 (u := fun v => v) (words1) rfl) fun r w h => ⟨[r.L], [], h, r.ok⟩
    · rintro s N' gN h0 hn0 v1 d1 e1 rfl v2 d2 e2 f2
      show Acts _ _ _ (K W ([(b1, row 25 [a, b])] :: N')) _ _
      haveI := gN.1
      haveI : NatV (K W N') v2 (1) := f2
      exact a_call (en_f rfl Try.call71) (bx1 (u := fun v => v) (add_spec (by omega) (by rw [wl_one]; omega)) rfl) fun r w h => ⟨[r.L], [], h, r.ok⟩
    · rintro s N' gN h0 hn0 v3 d3 e3 f3
      show Acts _ _ _ (K W ([(b1, row 25 [a, b])] :: N')) _ _
      exact a_y (y_assign rfl) fun w h => ⟨[], [], h, f3⟩
    · intro s N' gN hall v4 d4 e4 f4
      exact f_cutP (N', v4) ⟨gN.2, f4⟩ ⟨rfl, trivial⟩ (fun w h => h)
  rintro ⟨N1, v⟩ ⟨⟨M1, hN1⟩, k⟩
  dsimp only at hN1 k ⊢
  subst hN1
  refine c_ret ?_
  exact f_ret (Res.of k) (res1 rfl rfl) (fun w h => Res.of_cls k h.tail)
end Go.KL
end

section
/- Structs of numbers. -/
namespace Go.KL
open Go.Proofs
instance NatV.t0 {C : World → Prop} {v u : Value} {x : Nat} {h0 : 0 < #[v, u].size} [h : NatV C v x] : NatV C (#[v, u][0]'h0) x := h
instance NatV.t1 {C : World → Prop} {v u : Value} {x : Nat} {h0 : 1 < #[v, u].size} [h : NatV C u x] : NatV C (#[v, u][1]'h0) x := h
instance RawV.set0 {W : World} {Ls : List Chunk} {v : Value} {n : Nat} {g : Nat → Nat} {c d : Chunk} [h : RawV (K W Ls) v n g] : RawV (K W ((c :: Ls).set 0 d)) v n g := (inferInstance : RawV (K W (d :: Ls)) v n g)
instance RawV.set1 {W : World} {Ls : List Chunk} {v : Value} {n : Nat} {g : Nat → Nat} {c c1 d : Chunk} [h : RawV (K W Ls) v n g] : RawV (K W ((c :: c1 :: Ls).set 1 d)) v n g := (inferInstance : RawV (K W (c :: d :: Ls)) v n g)
instance RawV.set2 {W : World} {Ls : List Chunk} {v : Value} {n : Nat} {g : Nat → Nat} {c c1 c2 d : Chunk} [h : RawV (K W Ls) v n g] : RawV (K W ((c :: c1 :: c2 :: Ls).set 2 d)) v n g := (inferInstance : RawV (K W (c :: c1 :: d :: Ls)) v n g)
instance NatV.set0 {W : World} {Ls : List Chunk} {v : Value} {x : Nat} {c d : Chunk} [h : NatV (K W Ls) v x] : NatV (K W ((c :: Ls).set 0 d)) v x := (inferInstance : NatV (K W (d :: Ls)) v x)
instance NatV.set1 {W : World} {Ls : List Chunk} {v : Value} {x : Nat} {c c1 d : Chunk} [h : NatV (K W Ls) v x] : NatV (K W ((c :: c1 :: Ls).set 1 d)) v x := (inferInstance : NatV (K W (c :: d :: Ls)) v x)
instance NatV.set2 {W : World} {Ls : List Chunk} {v : Value} {x : Nat} {c c1 c2 d : Chunk} [h : NatV (K W Ls) v x] : NatV (K W ((c :: c1 :: c2 :: Ls).set 2 d)) v x := (inferInstance : NatV (K W (c :: c1 :: d :: Ls)) v x)
theorem RawV.one {C : World → Prop} {v : Value} {n : Nat} {g : Nat → Nat} (h : RawV C v n g) : v.oneCell' = true := by
  obtain ⟨pa, c, rfl, _⟩ := h.ok
  rfl
section
variable {W : World} {Ls : List Chunk} {C : World → Prop} {σ : Slots} {k n m : Nat} {g h : Nat → Nat} {v u : Value} {x y : Operand} {dst : Option Tmp} {ty : TypeId} {pos : String} {after : Array Edge} {guard : Option (Nat × Bool)}
theorem y_build25 (hx : ev σ x = some v) (hy : ev σ y = some u) [hv : RawV C v n g] [hu : RawV C u m h] : Ylds Try.prog k σ C ⟨dst, .build 25 #[(0, x), (1, y)], ty, pos, after, guard⟩ (.agg #[v, u]) := by
  obtain ⟨pa, c, h1, _⟩ := hv.ok
  obtain ⟨pb, d, h2, _⟩ := hu.ok
  clear hv hu
  subst h1 h2
  exact y_build Try.tab (ps := [(0, x), (1, y)]) (pvs := [(0, .slice pa n c), (1, .slice pb m d)]) (by simp [partsV, hx, hy]) rfl rfl rfl rfl
theorem y_build71 (hx : ev σ x = some v) [hv : RawV C v n g] : Ylds Try.prog k σ C ⟨dst, .build 71 #[(0, x)], ty, pos, after, guard⟩ (.agg #[v]) := by
  obtain ⟨pa, c, h1, _⟩ := hv.ok
  clear hv
  subst h1
  exact y_build Try.tab (ps := [(0, x)]) (pvs := [(0, .slice pa n c)]) (by simp [partsV, hx]) rfl rfl rfl rfl
theorem set_25 (i : Nat) {b : Nat} {e : TypeId} {l : List Value} (hx : ev σ x = some (.pointer (some ⟨b, 0, none⟩))) (hy : ev σ y = some (.agg #[v, u])) (hi : Ls.getD i [] = [(b, row e l)]) (hl : l.length = 2) [hv : RawV (K W Ls) v n g] [hu : RawV (K W Ls) u m h] :
    Sets Try.prog k σ (K W Ls) ⟨dst, .store 25 x y, ty, pos, after, guard⟩ (K W (Ls.set i [(b, row e [v, u])])) :=
  set_box Try.tab i (vs := [v, u]) hx hy (by simp [hv.one, hu.one]) rfl rfl hi hl
theorem set_71 (i : Nat) {b : Nat} {e : TypeId} {l : List Value} (hx : ev σ x = some (.pointer (some ⟨b, 0, none⟩))) (hy : ev σ y = some (.agg #[v])) (hi : Ls.getD i [] = [(b, row e l)]) (hl : l.length = 1) [hv : RawV (K W Ls) v n g] :
    Sets Try.prog k σ (K W Ls) ⟨dst, .store 71 x y, ty, pos, after, guard⟩ (K W (Ls.set i [(b, row e [v])])) :=
  set_box Try.tab i (vs := [v]) hx hy (by simp [hv.one]) rfl rfl hi hl
end
end Go.KL
end

section
/- Walks: lowest terms. -/
namespace Go.KL
open Go.Proofs
attribute [local irreducible] SC St Fin Sq Ylds Doos Sets Enters Spec CellIs CellsAre Then Ret Rnd Chn resOK ints bools recs arr
theorem gcd_spec' {W : World} {N : List Chunk} {a b : Value} {x y z : Nat} [ha : NatV (K W N) a x] [hb : NatV (K W N) b y] (hz : z = Nat.gcd x y) (hx : wl x ≤ 900000) (hy : wl y ≤ 900000) :
    Spec Try.prog 110 #[a, b] (K W N) (X := Res W N z) (fun r => r.v) (fun r => K W (r.L :: N)) := by
  subst hz
  exact gcd_spec hx hy
set_option maxRecDepth 10000 in
set_option maxHeartbeats 8000000 in
theorem lowest_spec {W : World} {N : List Chunk} {a b : Value} {x y : Nat} [ha : NatV (K W N) a x] [hb : NatV (K W N) b y] (hx : wl x ≤ 900000) (hy : wl y ≤ 900000) (hy0 : y ≠ 0) :
    Spec Try.prog 70 #[a, b] (K W N) (X := Res2 W N (x / Nat.gcd x y) (y / Nat.gcd x y - 1)) (fun r => .agg #[r.v1, r.v2]) (fun r => K W (r.L :: N)) := by
  obtain ⟨g, hg⟩ : ∃ g, g = Nat.gcd x y := ⟨_, rfl⟩
  rw [← hg]
  refine enter (args := [_, _]) Try.func70 rfl Try.ntmps70 rfl ?_
  refine c_seq ?_
  refine c_region ?_
  refine s_do (do_alloc Try.tab rfl) rfl rfl rfl (fun b4 => ?_)
  refine s_nil ?_
  refine f_then ?_
  refine c_seq ?_
  refine c_seq ?_
  refine c_region ?_
  refine s_y (y_move rfl) rfl rfl rfl ?_
  refine s_y (y_move rfl) rfl rfl rfl ?_
  refine s_call (en_f rfl Try.call110) (bx1 (u := fun v => v) (gcd_spec' hg hx hy) rfl) rfl rfl rfl (fun r1 => ?_)
  refine s_y (y_assign rfl) rfl rfl rfl ?_
  refine s_nil ?_
  refine f_then ?_
  refine c_seq ?_
  refine c_region ?_
  refine s_y (y_move rfl) rfl rfl rfl ?_
  refine s_call (en_f rfl Try.call104) (bx1 (u := fun v => v) words1 rfl) rfl rfl rfl (fun r2 => ?_)
  skip
  refine s_call (en_f rfl Try.call62) cmp_spec rfl rfl rfl (fun _ => ?_)
  have hg0 : 0 < Nat.gcd x y := Nat.gcd_pos_of_pos_right x (Nat.pos_of_ne_zero hy0)
  rw [← hg] at hg0
  rw [if_neg (show ¬ g < 1 by omega)]
  by_cases g1 : g = 1
  · have hc : (if 1 < g then (1 : Int) else 0) = 0 := if_neg (by omega)
    rw [hc]
    refine s_y (y_F (y_neq rfl rfl) (by omega)) rfl rfl rfl ?_
    refine s_nil ?_
    refine f_then ?_
    refine c_condF rfl ?_
    refine c_skip ?_
    refine f_then ?_
    refine c_seq ?_
    refine c_region ?_
    refine s_y (y_move rfl) rfl rfl rfl ?_
    refine s_y (y_move rfl) rfl rfl rfl ?_
    refine s_call (en_f rfl Try.call104) (bx1 (u := fun v => v) words1 rfl) rfl rfl rfl (fun r3 => ?_)
    skip
    refine s_call (en_f rfl Try.call102) (bx1 (u := fun v => v) (sub_spec (x := y) (y := 1) (by omega) (by omega)) rfl) rfl rfl rfl (fun r4 => ?_)
    refine s_y (y_build25 rfl rfl) rfl rfl rfl ?_
    refine s_set (set_25 0 rfl rfl rfl rfl) rfl rfl ?_
    refine s_nil ?_
    refine f_then ?_
    refine c_ret ?_
    have k1 : NatV (K W ([r4.L, r3.L, r2.L, r1.L] ++ N)) a (x / g) := (inferInstance : NatV (K W (r4.L :: r3.L :: r2.L :: r1.L :: N)) a x).of (by rw [g1, Nat.div_one])
    have k2 : NatV (K W ([r4.L, r3.L, r2.L, r1.L] ++ N)) r4.v (y / g - 1) := r4.ok.of (by rw [g1, Nat.div_one])
    exact f_ret (Res2.of k1 k2) (resA Try.tab rfl rfl rfl rfl rfl (cells_row0 0 rfl rfl)) (fun w h => Res2.of_cls k1 k2 h.tail)
  · have hc : (if 1 < g then (1 : Int) else 0) = 1 := if_pos (by omega)
    rw [hc]
    refine s_y (y_T (y_neq rfl rfl) (by omega)) rfl rfl rfl ?_
    refine s_nil ?_
    refine f_then ?_
    refine c_condT rfl ?_
    refine c_seq ?_
    refine c_region ?_
    refine s_y (y_move rfl) rfl rfl rfl ?_
    refine s_y (y_move rfl) rfl rfl rfl ?_
    refine s_call (en_f rfl Try.call111) (by1 (u2 := fun v w => .tuple #[v, w]) (divMod_spec hx (by omega)) rfl) rfl rfl rfl (fun q1 => ?_)
    refine s_y (y_move rfl) rfl rfl rfl ?_
    refine s_y (y_extract rfl rfl) rfl rfl rfl ?_
    refine s_y (y_extract rfl rfl) rfl rfl rfl ?_
    refine s_y (y_assign rfl) rfl rfl rfl ?_
    refine s_nil ?_
    refine f_then ?_
    refine c_region ?_
    refine s_y (y_move rfl) rfl rfl rfl ?_
    refine s_y (y_move rfl) rfl rfl rfl ?_
    refine s_call (en_f rfl Try.call111) (by1 (u2 := fun v w => .tuple #[v, w]) (divMod_spec hy (by omega)) rfl) rfl rfl rfl (fun q2 => ?_)
    refine s_y (y_move rfl) rfl rfl rfl ?_
    refine s_y (y_extract rfl rfl) rfl rfl rfl ?_
    refine s_y (y_extract rfl rfl) rfl rfl rfl ?_
    refine s_y (y_assign rfl) rfl rfl rfl ?_
    refine s_nil ?_
    refine f_then ?_
    refine c_seq ?_
    refine c_region ?_
    refine s_y (y_move rfl) rfl rfl rfl ?_
    refine s_y (y_move rfl) rfl rfl rfl ?_
    refine s_call (en_f rfl Try.call104) (bx1 (u := fun v => v) words1 rfl) rfl rfl rfl (fun r3 => ?_)
    skip
    have hyg : 1 ≤ y / g := by
      rw [Nat.le_div_iff_mul_le hg0, Nat.one_mul, hg]
      exact Nat.gcd_le_right x (Nat.pos_of_ne_zero hy0)
    have hwyg : wl (y / g) ≤ wl y := wl_mono (Nat.div_le_self _ _)
    refine s_call (en_f rfl Try.call102) (bx1 (u := fun v => v) (sub_spec (x := y / g) (y := 1) (by omega) hyg) rfl) rfl rfl rfl (fun r4 => ?_)
    refine s_y (y_build25 rfl rfl) rfl rfl rfl ?_
    refine s_set (set_25 0 rfl rfl rfl rfl) rfl rfl ?_
    refine s_nil ?_
    refine f_then ?_
    refine c_ret ?_
    have k1 : NatV (K W ([r4.L, r3.L, q2.L, q1.L, r2.L, r1.L] ++ N)) q1.v1 (x / g) := (inferInstance : NatV (K W (r4.L :: r3.L :: q2.L :: q1.L :: r2.L :: r1.L :: N)) q1.v1 (x / g))
    have k2 : NatV (K W ([r4.L, r3.L, q2.L, q1.L, r2.L, r1.L] ++ N)) r4.v (y / g - 1) := r4.ok
    exact f_ret (Res2.of k1 k2) (resA Try.tab rfl rfl rfl rfl rfl (cells_row0 0 rfl rfl)) (fun w h => Res2.of_cls k1 k2 h.tail)
end Go.KL
end
