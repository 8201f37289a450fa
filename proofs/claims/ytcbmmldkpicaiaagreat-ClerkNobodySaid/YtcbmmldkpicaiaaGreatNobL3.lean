/- The library of the proof, part 3: a program logic over the model, walks of functions, plain laws. No condition. -/
import Derived.Test.YtcbmmldkpicaiaaGreatChecked
import Derived.SizedLaws
import Derived.Test.YtcbmmldkpicaiaaGreatRows
import Derived.JoinedOf
import Derived.LaidEqlPtr
import Derived.Laws.Cover3
import Derived.Lib.SlKeysI
import Derived.Maps.Own
import Derived.Maps.RangeRun
import Derived.Test.YtcbmmldkpicaiaaGreatNobL2
section
/- The types of the seat's program, as a table. -/
namespace Go.KL
def Tab.empty (P : Program) : Tab P := ⟨[], by simp⟩
theorem Tab.add_ok {P : Program} (T : Tab P) (t : Nat) (i : TypeInfo) (h : P.info? t = some i) : ∀ e ∈ (t, i) :: T.tab, P.info? e.1 = some e.2 := by
  intro e he
  rcases List.mem_cons.1 he with he | he
  · subst he; exact h
  · exact T.ok e he
def Tab.add {P : Program} (T : Tab P) (t : Nat) (i : TypeInfo) (h : P.info? t = some i) : Tab P := ⟨(t, i) :: T.tab, T.add_ok t i h⟩
end Go.KL
namespace Go.Proofs
open Go.KL
noncomputable def Tryz.tab : Tab Tryz.prog := Tab.empty Tryz.prog
  |>.add 0 Tryz.t0 (by kernel_rfl)
  |>.add 1 Tryz.t1 (by kernel_rfl)
  |>.add 2 Tryz.t2 (by kernel_rfl)
  |>.add 3 Tryz.t3 (by kernel_rfl)
  |>.add 4 Tryz.t4 (by kernel_rfl)
  |>.add 5 Tryz.t5 (by kernel_rfl)
  |>.add 6 Tryz.t6 (by kernel_rfl)
  |>.add 7 Tryz.t7 (by kernel_rfl)
  |>.add 8 Tryz.t8 (by kernel_rfl)
  |>.add 9 Tryz.t9 (by kernel_rfl)
  |>.add 10 Tryz.t10 (by kernel_rfl)
  |>.add 11 Tryz.t11 (by kernel_rfl)
  |>.add 12 Tryz.t12 (by kernel_rfl)
  |>.add 13 Tryz.t13 (by kernel_rfl)
  |>.add 14 Tryz.t14 (by kernel_rfl)
  |>.add 15 Tryz.t15 (by kernel_rfl)
  |>.add 16 Tryz.t16 (by kernel_rfl)
  |>.add 17 Tryz.t17 (by kernel_rfl)
  |>.add 18 Tryz.t18 (by kernel_rfl)
  |>.add 19 Tryz.t19 (by kernel_rfl)
  |>.add 20 Tryz.t20 (by kernel_rfl)
  |>.add 21 Tryz.t21 (by kernel_rfl)
  |>.add 22 Tryz.t22 (by kernel_rfl)
  |>.add 23 Tryz.t23 (by kernel_rfl)
  |>.add 24 Tryz.t24 (by kernel_rfl)
  |>.add 25 Tryz.t25 (by kernel_rfl)
  |>.add 26 Tryz.t26 (by kernel_rfl)
  |>.add 27 Tryz.t27 (by kernel_rfl)
  |>.add 28 Tryz.t28 (by kernel_rfl)
  |>.add 29 Tryz.t29 (by kernel_rfl)
  |>.add 30 Tryz.t30 (by kernel_rfl)
  |>.add 31 Tryz.t31 (by kernel_rfl)
  |>.add 32 Tryz.t32 (by kernel_rfl)
  |>.add 33 Tryz.t33 (by kernel_rfl)
  |>.add 34 Tryz.t34 (by kernel_rfl)
  |>.add 35 Tryz.t35 (by kernel_rfl)
  |>.add 36 Tryz.t36 (by kernel_rfl)
  |>.add 37 Tryz.t37 (by kernel_rfl)
  |>.add 38 Tryz.t38 (by kernel_rfl)
  |>.add 39 Tryz.t39 (by kernel_rfl)
  |>.add 40 Tryz.t40 (by kernel_rfl)
  |>.add 41 Tryz.t41 (by kernel_rfl)
  |>.add 42 Tryz.t42 (by kernel_rfl)
  |>.add 43 Tryz.t43 (by kernel_rfl)
  |>.add 44 Tryz.t44 (by kernel_rfl)
  |>.add 45 Tryz.t45 (by kernel_rfl)
  |>.add 46 Tryz.t46 (by kernel_rfl)
  |>.add 47 Tryz.t47 (by kernel_rfl)
  |>.add 48 Tryz.t48 (by kernel_rfl)
  |>.add 49 Tryz.t49 (by kernel_rfl)
  |>.add 50 Tryz.t50 (by kernel_rfl)
  |>.add 51 Tryz.t51 (by kernel_rfl)
  |>.add 52 Tryz.t52 (by kernel_rfl)
  |>.add 53 Tryz.t53 (by kernel_rfl)
  |>.add 54 Tryz.t54 (by kernel_rfl)
  |>.add 55 Tryz.t55 (by kernel_rfl)
  |>.add 56 Tryz.t56 (by kernel_rfl)
  |>.add 57 Tryz.t57 (by kernel_rfl)
  |>.add 58 Tryz.t58 (by kernel_rfl)
  |>.add 59 Tryz.t59 (by kernel_rfl)
  |>.add 60 Tryz.t60 (by kernel_rfl)
  |>.add 61 Tryz.t61 (by kernel_rfl)
  |>.add 62 Tryz.t62 (by kernel_rfl)
  |>.add 63 Tryz.t63 (by kernel_rfl)
  |>.add 64 Tryz.t64 (by kernel_rfl)
  |>.add 65 Tryz.t65 (by kernel_rfl)
  |>.add 66 Tryz.t66 (by kernel_rfl)
  |>.add 67 Tryz.t67 (by kernel_rfl)
  |>.add 68 Tryz.t68 (by kernel_rfl)
  |>.add 69 Tryz.t69 (by kernel_rfl)
  |>.add 70 Tryz.t70 (by kernel_rfl)
  |>.add 71 Tryz.t71 (by kernel_rfl)
  |>.add 72 Tryz.t72 (by kernel_rfl)
  |>.add 73 Tryz.t73 (by kernel_rfl)
  |>.add 74 Tryz.t74 (by kernel_rfl)
  |>.add 75 Tryz.t75 (by kernel_rfl)
  |>.add 76 Tryz.t76 (by kernel_rfl)
  |>.add 77 Tryz.t77 (by kernel_rfl)
  |>.add 78 Tryz.t78 (by kernel_rfl)
  |>.add 79 Tryz.t79 (by kernel_rfl)
  |>.add 80 Tryz.t80 (by kernel_rfl)
  |>.add 81 Tryz.t81 (by kernel_rfl)
  |>.add 82 Tryz.t82 (by kernel_rfl)
  |>.add 83 Tryz.t83 (by kernel_rfl)
  |>.add 84 Tryz.t84 (by kernel_rfl)
  |>.add 85 Tryz.t85 (by kernel_rfl)
  |>.add 86 Tryz.t86 (by kernel_rfl)
  |>.add 87 Tryz.t87 (by kernel_rfl)
  |>.add 88 Tryz.t88 (by kernel_rfl)
  |>.add 89 Tryz.t89 (by kernel_rfl)
  |>.add 90 Tryz.t90 (by kernel_rfl)
  |>.add 91 Tryz.t91 (by kernel_rfl)
  |>.add 92 Tryz.t92 (by kernel_rfl)
  |>.add 93 Tryz.t93 (by kernel_rfl)
  |>.add 94 Tryz.t94 (by kernel_rfl)
  |>.add 95 Tryz.t95 (by kernel_rfl)
  |>.add 96 Tryz.t96 (by kernel_rfl)
  |>.add 97 Tryz.t97 (by kernel_rfl)
  |>.add 98 Tryz.t98 (by kernel_rfl)
  |>.add 99 Tryz.t99 (by kernel_rfl)
  |>.add 100 Tryz.t100 (by kernel_rfl)
  |>.add 101 Tryz.t101 (by kernel_rfl)
  |>.add 102 Tryz.t102 (by kernel_rfl)
  |>.add 103 Tryz.t103 (by kernel_rfl)
  |>.add 104 Tryz.t104 (by kernel_rfl)
  |>.add 105 Tryz.t105 (by kernel_rfl)
  |>.add 106 Tryz.t106 (by kernel_rfl)
  |>.add 107 Tryz.t107 (by kernel_rfl)
  |>.add 108 Tryz.t108 (by kernel_rfl)
  |>.add 109 Tryz.t109 (by kernel_rfl)
  |>.add 110 Tryz.t110 (by kernel_rfl)
  |>.add 111 Tryz.t111 (by kernel_rfl)
  |>.add 112 Tryz.t112 (by kernel_rfl)
  |>.add 113 Tryz.t113 (by kernel_rfl)
  |>.add 114 Tryz.t114 (by kernel_rfl)
  |>.add 115 Tryz.t115 (by kernel_rfl)
  |>.add 116 Tryz.t116 (by kernel_rfl)
  |>.add 117 Tryz.t117 (by kernel_rfl)
  |>.add 118 Tryz.t118 (by kernel_rfl)
  |>.add 119 Tryz.t119 (by kernel_rfl)
  |>.add 120 Tryz.t120 (by kernel_rfl)
  |>.add 121 Tryz.t121 (by kernel_rfl)
  |>.add 122 Tryz.t122 (by kernel_rfl)
  |>.add 123 Tryz.t123 (by kernel_rfl)
  |>.add 124 Tryz.t124 (by kernel_rfl)
  |>.add 125 Tryz.t125 (by kernel_rfl)
  |>.add 126 Tryz.t126 (by kernel_rfl)
  |>.add 127 Tryz.t127 (by kernel_rfl)
  |>.add 128 Tryz.t128 (by kernel_rfl)
  |>.add 129 Tryz.t129 (by kernel_rfl)
  |>.add 130 Tryz.t130 (by kernel_rfl)
  |>.add 131 Tryz.t131 (by kernel_rfl)
  |>.add 132 Tryz.t132 (by kernel_rfl)
  |>.add 133 Tryz.t133 (by kernel_rfl)
  |>.add 134 Tryz.t134 (by kernel_rfl)
  |>.add 135 Tryz.t135 (by kernel_rfl)
  |>.add 136 Tryz.t136 (by kernel_rfl)
  |>.add 137 Tryz.t137 (by kernel_rfl)
  |>.add 138 Tryz.t138 (by kernel_rfl)
  |>.add 139 Tryz.t139 (by kernel_rfl)
  |>.add 140 Tryz.t140 (by kernel_rfl)
  |>.add 141 Tryz.t141 (by kernel_rfl)
  |>.add 142 Tryz.t142 (by kernel_rfl)
  |>.add 143 Tryz.t143 (by kernel_rfl)
  |>.add 144 Tryz.t144 (by kernel_rfl)
  |>.add 145 Tryz.t145 (by kernel_rfl)
  |>.add 146 Tryz.t146 (by kernel_rfl)
  |>.add 147 Tryz.t147 (by kernel_rfl)
  |>.add 148 Tryz.t148 (by kernel_rfl)
  |>.add 149 Tryz.t149 (by kernel_rfl)
  |>.add 150 Tryz.t150 (by kernel_rfl)
  |>.add 151 Tryz.t151 (by kernel_rfl)
  |>.add 152 Tryz.t152 (by kernel_rfl)
  |>.add 153 Tryz.t153 (by kernel_rfl)
  |>.add 154 Tryz.t154 (by kernel_rfl)
  |>.add 155 Tryz.t155 (by kernel_rfl)
  |>.add 156 Tryz.t156 (by kernel_rfl)
  |>.add 157 Tryz.t157 (by kernel_rfl)
  |>.add 158 Tryz.t158 (by kernel_rfl)
  |>.add 159 Tryz.t159 (by kernel_rfl)
  |>.add 160 Tryz.t160 (by kernel_rfl)
  |>.add 161 Tryz.t161 (by kernel_rfl)
  |>.add 162 Tryz.t162 (by kernel_rfl)
  |>.add 163 Tryz.t163 (by kernel_rfl)
  |>.add 164 Tryz.t164 (by kernel_rfl)
  |>.add 165 Tryz.t165 (by kernel_rfl)
  |>.add 166 Tryz.t166 (by kernel_rfl)
  |>.add 167 Tryz.t167 (by kernel_rfl)
  |>.add 168 Tryz.t168 (by kernel_rfl)
  |>.add 169 Tryz.t169 (by kernel_rfl)
  |>.add 170 Tryz.t170 (by kernel_rfl)
  |>.add 171 Tryz.t171 (by kernel_rfl)
  |>.add 172 Tryz.t172 (by kernel_rfl)
  |>.add 173 Tryz.t173 (by kernel_rfl)
  |>.add 174 Tryz.t174 (by kernel_rfl)
  |>.add 175 Tryz.t175 (by kernel_rfl)
  |>.add 176 Tryz.t176 (by kernel_rfl)
  |>.add 177 Tryz.t177 (by kernel_rfl)
  |>.add 178 Tryz.t178 (by kernel_rfl)
  |>.add 179 Tryz.t179 (by kernel_rfl)
  |>.add 180 Tryz.t180 (by kernel_rfl)
  |>.add 181 Tryz.t181 (by kernel_rfl)
  |>.add 182 Tryz.t182 (by kernel_rfl)
  |>.add 183 Tryz.t183 (by kernel_rfl)
  |>.add 184 Tryz.t184 (by kernel_rfl)
  |>.add 185 Tryz.t185 (by kernel_rfl)
  |>.add 186 Tryz.t186 (by kernel_rfl)
  |>.add 187 Tryz.t187 (by kernel_rfl)
  |>.add 188 Tryz.t188 (by kernel_rfl)
  |>.add 189 Tryz.t189 (by kernel_rfl)
  |>.add 190 Tryz.t190 (by kernel_rfl)
  |>.add 191 Tryz.t191 (by kernel_rfl)
  |>.add 192 Tryz.t192 (by kernel_rfl)
  |>.add 193 Tryz.t193 (by kernel_rfl)
  |>.add 194 Tryz.t194 (by kernel_rfl)
  |>.add 195 Tryz.t195 (by kernel_rfl)
  |>.add 196 Tryz.t196 (by kernel_rfl)
  |>.add 197 Tryz.t197 (by kernel_rfl)
  |>.add 198 Tryz.t198 (by kernel_rfl)
  |>.add 199 Tryz.t199 (by kernel_rfl)
  |>.add 200 Tryz.t200 (by kernel_rfl)
  |>.add 201 Tryz.t201 (by kernel_rfl)
  |>.add 202 Tryz.t202 (by kernel_rfl)
  |>.add 203 Tryz.t203 (by kernel_rfl)
  |>.add 204 Tryz.t204 (by kernel_rfl)
  |>.add 205 Tryz.t205 (by kernel_rfl)
  |>.add 206 Tryz.t206 (by kernel_rfl)
  |>.add 207 Tryz.t207 (by kernel_rfl)
  |>.add 208 Tryz.t208 (by kernel_rfl)
  |>.add 209 Tryz.t209 (by kernel_rfl)
  |>.add 210 Tryz.t210 (by kernel_rfl)
  |>.add 211 Tryz.t211 (by kernel_rfl)
  |>.add 212 Tryz.t212 (by kernel_rfl)
  |>.add 213 Tryz.t213 (by kernel_rfl)
  |>.add 214 Tryz.t214 (by kernel_rfl)
  |>.add 215 Tryz.t215 (by kernel_rfl)
  |>.add 216 Tryz.t216 (by kernel_rfl)
  |>.add 217 Tryz.t217 (by kernel_rfl)
  |>.add 218 Tryz.t218 (by kernel_rfl)
  |>.add 219 Tryz.t219 (by kernel_rfl)
  |>.add 220 Tryz.t220 (by kernel_rfl)
  |>.add 221 Tryz.t221 (by kernel_rfl)
  |>.add 222 Tryz.t222 (by kernel_rfl)
  |>.add 223 Tryz.t223 (by kernel_rfl)
  |>.add 224 Tryz.t224 (by kernel_rfl)
  |>.add 225 Tryz.t225 (by kernel_rfl)
  |>.add 226 Tryz.t226 (by kernel_rfl)
  |>.add 227 Tryz.t227 (by kernel_rfl)
  |>.add 228 Tryz.t228 (by kernel_rfl)
  |>.add 229 Tryz.t229 (by kernel_rfl)
  |>.add 230 Tryz.t230 (by kernel_rfl)
  |>.add 231 Tryz.t231 (by kernel_rfl)
  |>.add 232 Tryz.t232 (by kernel_rfl)
  |>.add 233 Tryz.t233 (by kernel_rfl)
  |>.add 234 Tryz.t234 (by kernel_rfl)
  |>.add 235 Tryz.t235 (by kernel_rfl)
  |>.add 236 Tryz.t236 (by kernel_rfl)
  |>.add 237 Tryz.t237 (by kernel_rfl)
  |>.add 238 Tryz.t238 (by kernel_rfl)
  |>.add 239 Tryz.t239 (by kernel_rfl)
  |>.add 240 Tryz.t240 (by kernel_rfl)
  |>.add 241 Tryz.t241 (by kernel_rfl)
theorem Tryz.mixed : Tryz.prog.follows .mixedOrders = true := by kernel_rfl
end Go.Proofs
end

section
/- The arguments of the clerk's laws, opened. -/
namespace Go.KL
open Go.ChangeShapes Go.WideShapes Go.RowKit Go.WideElems
open Go.Proofs
theorem u3 : Tryz.prog.underlying 3 = some (.int .i64) := by kernel_rfl
theorem u4 : Tryz.prog.underlying 4 = some .bool := by kernel_rfl
def fs46 : Array Field := #[⟨ "Kind", 5, 0, false, "", "", 0⟩, ⟨ "Tx", 3, 1, false, "", "", 8⟩, ⟨ "Lo", 3, 2, false, "", "", 16⟩, ⟨ "Hi", 3, 3, false, "", "", 24⟩, ⟨ "From", 3, 4, false, "", "", 32⟩, ⟨ "To", 3, 5, false, "", "", 40⟩]
theorem u5 : Tryz.prog.underlying 5 = some (.int .u8) := by kernel_rfl
theorem z5 : Tryz.prog.cellsOf 5 = 1 := by kernel_rfl
theorem u46 : Tryz.prog.underlying 46 = some (.struct fs46) := by kernel_rfl
theorem z3 : Tryz.prog.cellsOf 3 = 1 := by kernel_rfl
theorem z46 : Tryz.prog.cellsOf 46 = 6 := by kernel_rfl
theorem laidOut : laidOutB Tryz.prog = true := by kernel_rfl
section
variable {H : Type} {enc : TypeId × Value → H} {W : World} {sp : Nat → Bool} {held : Bool} {fuel : Nat} {cs : List Value} {x : DataW H × List MemPlace}
theorem fld {t : TypeId} {fs : Array Field} (ht : Tryz.prog.underlying t = some (.struct fs)) (h : DataW.trod enc Tryz.prog W 0 sp held fuel t cs = some x) (i : Nat) {f : Field} (hf : fs[i]? = some f) (hc : Tryz.prog.cellsOf f.type = 1) {v : Value} (hv : (cs.drop f.offset).take 1 = [v]) :
    ∃ m z, DataW.trod enc Tryz.prog W 0 sp held m f.type [v] = some z := by
  obtain ⟨xs, n, _, _, _, h4, h5⟩ := DataW.trod_struct ht h
  have hi : i < fs.size := by
    rcases Nat.lt_or_ge i fs.size with hi | hi
    · exact hi
    · rw [Array.getElem?_eq_none hi] at hf; cases hf
  have h6 := h5 i f hf
  rw [hc, hv, List.getElem?_eq_getElem (by omega)] at h6
  exact ⟨n, _, h6⟩
theorem trod_u8 {P : Program} {t : TypeId} {v : Value} (ht : P.underlying t = some (.int .u8)) (h : DataW.trod enc P W 0 sp held fuel t [v] = some x) : v = .int .u8 (vI v) := by
  obtain ⟨k, h1, _, _⟩ := DataW.trod_int ht h
  injection h1 with h1
  subst h1
  rfl
theorem six {cs : Array Value} (h : cs.size = 6) : ∃ a b c d e f, cs = #[a, b, c, d, e, f] := by
  obtain ⟨l⟩ := cs
  match l, h with
  | [a, b, c, d, e, f], _ => exact ⟨a, b, c, d, e, f, rfl⟩
section
variable {r : Reach} {b0 : Nat} {v : Value} {d : DataW H} {ps : List MemPlace}
set_option maxRecDepth 100000 in
/-- Of the type Call. -/
theorem arg46 (hval : Value.okWide Tryz.prog W r b0 46 v) (hd : DataW.Trod enc Tryz.prog W 0 sp held 46 v d ps) : ∃ a b c d e f : Int, v = .agg #[.int .u8 a, .int .i64 b, .int .i64 c, .int .i64 d, .int .i64 e, .int .i64 f] ∧ i64 b ∧ i64 c ∧ i64 d ∧ i64 e ∧ i64 f := by
  obtain ⟨cs, rfl, hcs⟩ := okWide_struct u46 hval
  rw [z46] at hcs
  obtain ⟨a, b, c, d, e, f, rfl⟩ := six hcs
  obtain ⟨fuel, h⟩ := hd
  have h : DataW.trod enc Tryz.prog W 0 sp held fuel 46 [a, b, c, d, e, f] = _ := h
  obtain ⟨m0, x0, h0⟩ := fld u46 h 0 rfl z5 (v := a) rfl
  obtain ⟨m1, x1, h1⟩ := fld u46 h 1 rfl z3 (v := b) rfl
  obtain ⟨m2, x2, h2⟩ := fld u46 h 2 rfl z3 (v := c) rfl
  obtain ⟨m3, x3, h3⟩ := fld u46 h 3 rfl z3 (v := d) rfl
  obtain ⟨m4, x4, h4⟩ := fld u46 h 4 rfl z3 (v := e) rfl
  obtain ⟨m5, x5, h5⟩ := fld u46 h 5 rfl z3 (v := f) rfl
  have g0 := trod_u8 u5 h0
  have g1 := trod_i64 u3 h1
  have g2 := trod_i64 u3 h2
  have g3 := trod_i64 u3 h3
  have g4 := trod_i64 u3 h4
  have g5 := trod_i64 u3 h5
  refine ⟨vI a, vI b, vI c, vI d, vI e, vI f, ?_, g1.2, g2.2, g3.2, g4.2, g5.2⟩
  rw [← g0, ← g1.1, ← g2.1, ← g3.1, ← g4.1, ← g5.1]
end
end
end Go.KL
end

section
/- What the form of a claim asks of the program as a whole, reckoned once. No condition. -/
namespace Go.KL
open Go.Proofs
theorem ws_word : ∀ {w r : List Char}, (∀ c ∈ w, c ≠ Char.ofNat 32) → wordsSigns (w ++ Char.ofNat 32 :: r) = w :: wordsSigns r
  | [], r, _ => rfl
  | c :: w, r, h => by
    have hc : c ≠ Char.ofNat 32 := h c (by simp)
    have ih := ws_word (w := w) (r := r) fun x hx => h x (by simp [hx])
    rw [List.cons_append, wordsSigns, ih]
    exact hc
/-- The signs of the first three words of the program's own word, and of the rest, by their numbers. -/
def sg1 : List Nat := [104, 97, 114, 110, 101, 115, 115]
def sg2 : List Nat := [101, 102, 98, 102, 99, 51, 50, 52, 102, 51, 100, 99, 50, 53, 57, 50, 53, 51, 56, 49, 54, 54, 56, 53, 101, 54, 52, 48, 99, 99, 101, 102, 55, 51, 50, 98, 54, 51, 101, 56, 57, 102, 101, 55, 101, 56, 48, 98, 101, 52, 57, 100, 97, 56, 49, 99, 102, 55, 99, 48, 52, 55, 51, 102]
def sg3 : List Nat := [99, 117, 116]
def sg4 : List Nat := [97, 116, 32, 103, 117, 105, 108, 108, 111, 99, 104, 101, 47, 103, 117, 105, 108, 108, 111, 99, 104, 101, 108, 97, 119, 48, 56, 46, 67, 108, 101, 114, 107, 82, 111, 111, 109, 32, 103, 117, 105, 108, 108, 111, 99, 104, 101, 47, 103, 117, 105, 108, 108, 111, 99, 104, 101, 108, 97, 119, 48, 56, 46, 67, 108, 101, 114, 107, 80, 108, 97, 121, 115, 32, 103, 117, 105, 108, 108, 111, 99, 104, 101, 47, 103, 117, 105, 108, 108, 111, 99, 104, 101, 108, 97, 119, 48, 56, 46, 67, 108, 101, 114, 107, 76, 111, 99, 107, 115, 32, 103, 117, 105, 108, 108, 111, 99, 104, 101, 47, 103, 117, 105, 108, 108, 111, 99, 104, 101, 108, 97, 119, 48, 56, 46, 67, 108, 101, 114, 107, 70, 117, 108, 108, 32, 103, 117, 105, 108, 108, 111, 99, 104, 101, 47, 103, 117, 105, 108, 108, 111, 99, 104, 101, 108, 97, 119, 48, 56, 46, 67, 108, 101, 114, 107, 65, 108, 111, 110, 101, 32, 103, 117, 105, 108, 108, 111, 99, 104, 101, 47, 103, 117, 105, 108, 108, 111, 99, 104, 101, 108, 97, 119, 48, 56, 46, 67, 108, 101, 114, 107, 85, 110, 100, 111, 110, 101, 32, 103, 117, 105, 108, 108, 111, 99, 104, 101, 47, 103, 117, 105, 108, 108, 111, 99, 104, 101, 108, 97, 119, 48, 56, 46, 67, 108, 101, 114, 107, 78, 111, 98, 111, 100, 121, 32, 103, 117, 105, 108, 108, 111, 99, 104, 101, 47, 103, 117, 105, 108, 108, 111, 99, 104, 101, 108, 97, 119, 48, 56, 46, 67, 108, 101, 114, 107, 83, 111, 117, 110, 100, 32, 103, 117, 105, 108, 108, 111, 99, 104, 101, 47, 103, 117, 105, 108, 108, 111, 99, 104, 101, 108, 97, 119, 48, 56, 46, 67, 108, 101, 114, 107, 69, 110, 100, 115, 32, 103, 117, 105, 108, 108, 111, 99, 104, 101, 47, 103, 117, 105, 108, 108, 111, 99, 104, 101, 108, 97, 119, 48, 56, 46, 67, 108, 101, 114, 107, 83, 101, 114, 105, 97, 108]
def chs (l : List Nat) : List Char := l.map Char.ofNat
theorem order_signs : Tryz.prog.initOrder = String.ofList (chs sg1 ++ Char.ofNat 32 :: (chs sg2 ++ Char.ofNat 32 :: (chs sg3 ++ Char.ofNat 32 :: chs sg4))) := by kernel_rfl
theorem order_words : wordsSigns Tryz.prog.initOrder.toList = chs sg1 :: chs sg2 :: chs sg3 :: wordsSigns (chs sg4) := by
  rw [order_signs, String.toList_ofList, ws_word (by decide +kernel), ws_word (by decide +kernel), ws_word (by decide +kernel)]
theorem behind_words (R : List (List Char)) : behindMainWord (chs sg1 :: chs sg2 :: chs sg3 :: R) = chs sg3 :: R := by kernel_rfl
theorem words_signs : ∃ R, behindMainWord (wordsSigns Tryz.prog.initOrder.toList) = chs sg3 :: R := ⟨_, by rw [order_words, behind_words]⟩
theorem strip_words (R : List (List Char)) : stripLifts liftWords (chs sg3 :: R) = ([], chs sg3 :: R) := by kernel_rfl
theorem lays_later : Tryz.prog.laysLater = false := by kernel_rfl
theorem bears_reflect : Tryz.prog.bearsReflect = false := by kernel_rfl
theorem door_fits : Tryz.prog.doorFits [] = true := by kernel_rfl
theorem cut_word : chs sg3 = "cut".toList := by kernel_rfl
theorem may_of {P : Program} {c : List Char} {R : List (List Char)} (h : behindMainWord (wordsSigns P.initOrder.toList) = c :: R) (h1 : stripLifts liftWords (c :: R) = ([], c :: R)) (h2 : P.laysLater = false) (h3 : P.bearsReflect = false) (h4 : P.doorFits [] = true) (h5 : c = "cut".toList) :
    P.mayEnter = true := by
  unfold Program.mayEnter
  rw [h]
  simp [h1, h2, h3, h4]
  exact Or.inr (h5.trans (by decide +kernel))
theorem make_of {P : Program} {c : List Char} {R : List (List Char)} (h : behindMainWord (wordsSigns P.initOrder.toList) = c :: R) (h1 : (c == "gc".toList || c == "spec".toList) = false) (h2 : (c == "cut".toList) = true) : P.make = some .cut := by
  unfold Program.make
  rw [h]
  simp only [h1, h2, Bool.true_or, if_true, Bool.false_eq_true, if_false]
theorem may_enter : Tryz.prog.mayEnter = true := by
  obtain ⟨R, h⟩ := words_signs
  exact may_of h (strip_words R) lays_later bears_reflect door_fits cut_word
theorem lifts_final : Tryz.prog.liftsFinal = false := by
  obtain ⟨R, h⟩ := words_signs
  unfold Program.liftsFinal Program.headLifts
  rw [h]
  kernel_rfl
theorem gc_word : (chs sg3 == "gc".toList || chs sg3 == "spec".toList) = false := by kernel_rfl
theorem cut_word2 : (chs sg3 == "cut".toList) = true := by kernel_rfl
theorem make_cut : Tryz.prog.make = some .cut := by
  obtain ⟨R, h⟩ := words_signs
  exact make_of h gc_word cut_word2
end Go.KL
end

section
/- A program logic over the model, of our own: drawn regions whose operations i, j, .. read no memory and may wait: they go first. No program in sight. -/
namespace Go.KL
section
variable {P : Program} {n : Nat} {σ : Slots} {C D : World → Prop} {Q : Post} {ops : Array Oper} {dr : Nat → Bool}
def planMs (ops : Array Oper) (dr : Nat → Bool) (plan : List PS) : List Nat → Array Bool → Bool
  | [], listed => planB ops dr plan listed
  | i :: r, listed => (!dr i) && (Region.ready .any ops listed).contains i && freeM ops listed i && planMs ops dr plan r (listed.setIfInBounds i true)
def lenMs (plan : List PS) : List Nat → Nat
  | [] => planLen plan
  | _ :: r => lenMs plan r + 1
def Sdm (P : Program) (n : Nat) (ops : Array Oper) (dr : Nat → Bool) (D : World → Prop) (Q : Post) (ms : List Nat) (plan : List PS) (σ : Slots) (C : World → Prop) : Prop :=
  ∀ listed a, Env n σ a → DC ops listed → planMs ops dr plan ms listed = true → (∀ (j : Nat) (o : Oper) cs b, ops[j]? = some o → o.op ≠ .select cs b) → AnyC P ops dr D Q (lenMs plan ms) listed a C
theorem m_nil {plan : List PS} (h : Sd P n ops dr D Q plan σ C) : Sdm P n ops dr D Q [] plan σ C := fun listed a hE hdc hB hs => h listed a hE hdc hB hs
theorem m_cons {i : Nat} {o : Oper} {v : Value} {d : Nat} {ms : List Nat} {plan : List PS} (hi : ops[i]? = some o) (hy : Qui P n σ (fun _ => True) o v) (hg : gd ops σ o = some true) (hd : o.dst = some d) (hn : Nat.blt d n = true) (hC : Cl C)
    (k : Sdm P n ops dr D Q ms plan ((d, v) :: σ) C) : Sdm P n ops dr D Q (i :: ms) plan σ C := by
  intro listed a hE hdc hB hs
  simp only [planMs, Bool.and_eq_true, Bool.not_eq_true'] at hB
  obtain ⟨⟨⟨hdi, hr⟩, hf⟩, hB⟩ := hB
  have hri : i ∈ Region.ready .any ops listed := by simpa using hr
  have h1 := k (listed.setIfInBounds i true) (a.put o.dst v) (by rw [hd]; exact Env.put hE hn v) (hdc.set (ready_PL hri)) hB hs
  exact AnyC_any (P := P) (D := D) (Q := Q) (dr := dr) (v := v) hi hdi hs _ _ _ _ (freeM_spec hi hf) hdc hri (.inl ⟨gd_wanted hE hg, fun w hw => hy _ w hE trivial⟩) hC h1
theorem c_planMs (ms : List Nat) (plan : List PS) (last : List Nat) (D : World → Prop) {id : Nat} {l : List Oper} (hm : P.follows .mixedOrders = true)
    (hsB : (Region.noSelect l.toArray && planMs l.toArray (drOf last) plan ms (Array.replicate l.toArray.size false)) = true) (hl : lenMs plan ms = l.toArray.size)
    (hC : Cl C) (h : Sdm P n l.toArray (drOf last) D Q ms plan σ C) : SC P n Q (.region id l.toArray true) σ C := by
  obtain ⟨hs, hB⟩ := Bool.and_eq_true_iff.1 hsB
  intro a w hE hw
  refine wpIn_region_any hm ?_
  have h1 := h _ a hE (fun j hj => by simp [Array.getElem?_replicate] at hj; split at hj <;> simp at hj) hB (Region.noSelect_spec hs)
  rw [hl] at h1
  exact wpAny_of_AnyC _ _ _ _ h1 _ (hC _ _ hw (Ext.drew w))
end
end Go.KL
end

section
/- A program logic over the model, of our own: pointers compared, elements of arrays that are values. No program in sight. -/
namespace Go.KL
section
variable {P : Program} {n : Nat} {σ : Slots} {C : World → Prop} {W w : World} {Ls : List Chunk} {dst : Option Tmp} {ty : TypeId} {pos : String} {after : Array Edge} {guard : Option (Nat × Bool)}
theorem y_eqlPN (T : Tab P) {x : Operand} {t e t' : TypeId} {p : Option Addr} (hx : ev σ x = some (.pointer p)) (ht : T.und t = some (.pointer e)) :
    Ylds P n σ C ⟨dst, .binOp .eql t x (.const (.pointer none)) t', ty, pos, after, guard⟩ (.bool p.isNone) := by
  intro a w hE _
  have h : ∀ d : Nat, (Op.equalIn (d + 1) t (.pointer p) (.pointer none)).run P w = .ok p.isNone w := fun d => by
    cases p <;> simp [Op.equalIn, run_und T ht]
  have h2 : (binOp .eql t (.pointer p) (.pointer none)).run P w = .ok (.bool p.isNone) w := by
    simp only [binOp]
    simp [Op.equal, Op.maxDepth, h 9999]
  have h3 : a.eval (.const (.pointer none)) = .pointer none := rfl
  simp [execOp, ev_eval hE hx, h3, eqGuard, h2]
theorem y_neqPN (T : Tab P) {x : Operand} {t e t' : TypeId} {p : Option Addr} (hx : ev σ x = some (.pointer p)) (ht : T.und t = some (.pointer e)) :
    Ylds P n σ C ⟨dst, .binOp .neq t x (.const (.pointer none)) t', ty, pos, after, guard⟩ (.bool p.isSome) := by
  intro a w hE _
  have h : ∀ d : Nat, (Op.equalIn (d + 1) t (.pointer p) (.pointer none)).run P w = .ok p.isNone w := fun d => by
    cases p <;> simp [Op.equalIn, run_und T ht]
  have h2 : (binOp .neq t (.pointer p) (.pointer none)).run P w = .ok (.bool p.isSome) w := by
    simp only [binOp]
    simp [Op.equal, Op.maxDepth, h 9999]
  have h3 : a.eval (.const (.pointer none)) = .pointer none := rfl
  simp [execOp, ev_eval hE hx, h3, eqGuard, h2]
/-- One pointer twice. -/
theorem y_eqlPS (T : Tab P) {x y : Operand} {t e t' : TypeId} {p : Addr} {s : Nat} (hx : ev σ x = some (.pointer (some p))) (hy : ev σ y = some (.pointer (some p))) (ht : T.und t = some (.pointer e)) (hs : T.size e = some s) :
    Ylds P n σ C ⟨dst, .binOp .eql t x y t', ty, pos, after, guard⟩ (.bool true) := by
  intro a w hE _
  obtain ⟨j, hj, _⟩ := T.size_ok hs
  have h := run_eql_ptr_same (P := P) w p (T.und_ok ht) hj
  simp [execOp, ev_eval hE hx, ev_eval hE hy, eqGuard, h]
/-- Two pointers to different places that are there. -/
theorem y_eqlPO (T : Tab P) {x y : Operand} {t e t' : TypeId} {p q : Addr} {s : Nat} (hx : ev σ x = some (.pointer (some p))) (hy : ev σ y = some (.pointer (some q))) (ht : T.und t = some (.pointer e)) (hs : T.size e = some (s + 1)) (hne : p ≠ q)
    (hp : ∀ w, C w → ∃ ca ta, w.heap[p.block]? = some (.cells ca ta (0, 0))) (hq : ∀ w, C w → ∃ ca ta, w.heap[q.block]? = some (.cells ca ta (0, 0))) :
    Ylds P n σ C ⟨dst, .binOp .eql t x y t', ty, pos, after, guard⟩ (.bool false) := by
  intro a w hE hw
  obtain ⟨j, hj, hj2⟩ := T.size_ok hs
  obtain ⟨ca, ta, h1⟩ := hp w hw
  obtain ⟨cb, tb, h2⟩ := hq w hw
  have h := run_eql_ptr_other (P := P) w (T.und_ok ht) hj (by omega) hne h1 h2
  simp [execOp, ev_eval hE hx, ev_eval hE hy, eqGuard, h]
/-- An element of an array that is a value. -/
theorem y_index (T : Tab P) {x i : Operand} {t e : TypeId} {len : Nat} {k : IntKind} {z : Int} {cs : Array Value} {v : Value} (j : Nat) (hx : ev σ x = some (.agg cs)) (hi : ev σ i = some (.int k z)) (ht : T.und t = some (.array len e)) (hs : T.size e = some 1) (ha : T.agg e = some false)
    (hz : z = (j : Int)) (hj : j < len) (hv : cs[j]? = some v) : Ylds P n σ C ⟨dst, .index t x i, ty, pos, after, guard⟩ v := by
  subst hz
  intro a w hE _
  simp [execOp, ev_eval hE hx, ev_eval hE hi, Instr.index, asIntOf, run_und T ht, part, run_isAgg T ha, run_sizeOf T hs, hv, hj]
/-- A call that changes nothing, at whatever class that drawing does not leave. -/
theorem Qui.callD {D : World → Prop} {o : Oper} {v : Value} {f : FuncId} {args : Array Value} (hD : Cl D) (he : Enters P n σ D o f args) (hs : ∀ C' : World → Prop, Drew C' → (∀ w, C' w → D w) → Spec P f args C' (fun _ : Unit => v) (fun _ => C')) : Qui P n σ D o v := by
  refine Qui.call he fun w hw => ?_
  have h := hs (fun w' => Ext w w') (fun w' hw' => hw'.trans (Ext.drew w')) (fun w' hw' => hD _ _ hw hw') w (Ext.refl w)
  exact h.mono fun e w' ⟨_, h1, h2⟩ => ⟨h1, h2⟩
end
end Go.KL
end

section
/- A program logic over the model, of our own: bound methods, tests on maps and on pairs, ranges over maps, deletes. No program in sight. -/
namespace Go.KL
section
variable {P : Program} {n : Nat} {σ : Slots} {C : World → Prop} {W w : World} {Ls : List Chunk} {dst : Option Tmp} {ty : TypeId} {pos : String} {after : Array Edge} {guard : Option (Nat × Bool)}

/-- A call of a bound function: what it is bound to comes first. -/
theorem en_m {fid : FuncId} {f : Operand} {xs : List Operand} {vs fst cap : List Value} {ats : Array TypeId} (hfv : ev σ f = some (.func (.func fid) fst.toArray cap.toArray)) (hx : evs σ xs = some vs) (hf : ∀ (args : Array Value) (w : World), (callFunc fid args).run P w = .ok (.enter fid args) w) :
    Enters P n σ C ⟨dst, .call ⟨.value f, xs.toArray, ats⟩, ty, pos, after, guard⟩ fid (fst ++ vs ++ cap).toArray := by
  intro a w hE _
  have h1 := evs_eval hE hx
  have h2 : Array.map a.eval xs.toArray = vs.toArray := by simp [h1]
  simp [execOp, resolve, invoke, Deferred.ofValue, h2, hf, ev_eval hE hfv]

theorem y_lenM (T : Tab P) (i : Nat) {x : Operand} {t kt e : TypeId} {b c : Nat} {es : List Ent} {R : Chunk} (hx : ev σ x = some (.map (some b))) (ht : T.und t = some (.map kt e)) (hi : Ls.getD i [] = (b, mobj es c) :: R) :
    Ylds P n σ (K W Ls) ⟨dst, .call ⟨.builtin .len, #[x], #[t]⟩, ty, pos, after, guard⟩ (.int .i64 (es.length : Nat)) := by
  intro a w hE hw
  have hb := hw.at hi
  have h1 : (getObj b).run P w = .ok (mobj es c) w := MapKept.run_getObj_map hb
  simp [execOp, resolve, invoke, ev_eval hE hx, builtin, Builtin.len_, run_und T ht, h1, mobj, goInt]

theorem y_eqlM0 (T : Tab P) {x : Operand} {t kt e : TypeId} {m : Option Nat} {t' : TypeId} (hx : ev σ x = some (.map m)) (ht : T.und t = some (.map kt e)) :
    Ylds P n σ C ⟨dst, .binOp .eql t x (.const (.map none)) t', ty, pos, after, guard⟩ (.bool m.isNone) := by
  intro a w hE _
  have h := run_equal_map_nil w t kt e m (T.und_ok ht)
  have h2 : (binOp .eql t (.map m) (.map none)).run P w = .ok (.bool m.isNone) w := by
    simp only [binOp, Sem.run_bind, h, Result.andThen]
    rfl
  have h3 : eqGuard .eql t x (.const (.map none)) (.map m) (.map none) = pure () := by cases m <;> rfl
  have h4 : a.eval (.const (.map none)) = .map none := rfl
  simp only [execOp, ev_eval hE hx, h4, h3, Sem.run_bind, Sem.run_pure, Result.andThen, h2]
end
end Go.KL
end

section
/- A program logic over the model, of our own: maps keyed by ints, as the library's contracts want them. No program in sight. -/
namespace Go.KL
open Go.Maps

structure MOK (es : List Ent) (c : Nat) : Prop where
  keys : (es.map (·.1)).Nodup
  born : (es.map (·.2.2)).Nodup
  old : ∀ e ∈ es, e.2.2 < c
  rng : ∀ e ∈ es, -9223372036854775808 ≤ e.1 ∧ e.1 ≤ 9223372036854775807
  len : es.length ≤ 1000000

theorem MOK.empty : MOK [] 0 := ⟨by simp, by simp, by simp, by simp, by simp⟩
theorem mset_keys (k : Int) (v : Value) (c : Nat) : ∀ (es : List Ent), mhas k es = true → (mset k v c es).map (·.1) = es.map (·.1)
  | [], h => by simp [mhas] at h
  | e :: r, h => by
    simp only [mhas] at h
    by_cases hk : k = e.1
    · simp [mset, hk]
    · simp only [if_neg hk] at h
      simp [mset, hk, mset_keys k v c r h]
theorem mset_born (k : Int) (v : Value) (c : Nat) : ∀ (es : List Ent), mhas k es = true → (mset k v c es).map (·.2.2) = es.map (·.2.2)
  | [], h => by simp [mhas] at h
  | e :: r, h => by
    simp only [mhas] at h
    by_cases hk : k = e.1
    · simp [mset, hk]
    · simp only [if_neg hk] at h
      simp [mset, hk, mset_born k v c r h]
theorem mhas_mem {k : Int} : ∀ {es : List Ent}, mhas k es = true ↔ k ∈ es.map (·.1)
  | [] => by simp [mhas]
  | e :: r => by
    simp only [mhas, List.map_cons, List.mem_cons]
    by_cases hk : k = e.1
    · simp [hk]
    · simp only [if_neg hk]
      rw [mhas_mem]
      simp [hk]
theorem MOK.set {es : List Ent} {c : Nat} (h : MOK es c) (k : Int) (v : Value) (hk : -9223372036854775808 ≤ k ∧ k ≤ 9223372036854775807) (hl : es.length < 1000000) : MOK (mset k v c es) (mclk k c es) := by
  cases hh : mhas k es with
  | false =>
    have hn : k ∉ es.map (·.1) := fun q => by rw [mhas_mem.2 q] at hh; cases hh
    rw [mset_new hh]
    simp only [mclk, hh, Bool.false_eq_true, if_false]
    refine ⟨?_, ?_, ?_, ?_, ?_⟩
    · rw [List.map_append, List.nodup_append]
      refine ⟨h.keys, by simp, ?_⟩
      intro a ha b hb
      simp at hb
      subst hb
      intro e
      subst e
      exact hn ha
    · rw [List.map_append, List.nodup_append]
      refine ⟨h.born, by simp, ?_⟩
      intro a ha b hb
      simp at hb
      subst hb
      obtain ⟨e, he, rfl⟩ := List.mem_map.1 ha
      have := h.old e he
      omega
    · intro e he
      rcases List.mem_append.1 he with he | he
      · have := h.old e he; omega
      · simp at he; subst he; simp
    · intro e he
      rcases List.mem_append.1 he with he | he
      · exact h.rng e he
      · simp at he; subst he; exact hk
    · simp; omega
  | true =>
    simp only [mclk, hh, if_true]
    have hk1 := mset_keys k v c es hh
    have hb1 := mset_born k v c es hh
    refine ⟨by rw [hk1]; exact h.keys, by rw [hb1]; exact h.born, fun e he => ?_, fun e he => ?_, ?_⟩
    · have : e.2.2 ∈ (mset k v c es).map (·.2.2) := List.mem_map.2 ⟨e, he, rfl⟩
      rw [hb1] at this
      obtain ⟨e', he', h1⟩ := List.mem_map.1 this
      have := h.old e' he'
      omega
    · have : e.1 ∈ (mset k v c es).map (·.1) := List.mem_map.2 ⟨e, he, rfl⟩
      rw [hk1] at this
      obtain ⟨e', he', h1⟩ := List.mem_map.1 this
      have := h.rng e' he'
      omega
    · have : ((mset k v c es).map (·.1)).length = (es.map (·.1)).length := by rw [hk1]
      simp at this
      rw [this]; exact h.len

/-- How an element reads, where nobody asks. -/
abbrev noE : Value → Option (DataW Unit × List MemPlace) := fun _ => some (.nil, [])
theorem ownsMap_of {P : Program} {k : TypeId} {w : World} {b c : Nat} {es : List Ent} (h : MOK es c) (hk : P.underlying k = some (.int .i64)) (hb : w.heap[b]? = some (mobj es c)) :
    ∃ D : DataW Unit, w.ownsMap P k noE b es.length D ∧ (intKeys D).Perm (es.map (·.1)) ∧ Maps.size D = es.length := by
  have hrd : ∀ e ∈ es, WideElems.rd P k noE (ment e) = some (.int .i64 e.1, .nil) := fun e he => by
    have hw : (Lit.int .i64 e.1).wf = true := by
      have := h.rng e he
      simp only [Lit.wf, decide_eq_true_eq, Bool.and_eq_true]
      have e1 : IntKind.i64.min = -9223372036854775808 := rfl
      have e2 : IntKind.i64.max = 9223372036854775807 := rfl
      omega
    simp [WideElems.rd, ment, Maps.keyOf_int_mk hk hw]
  have hmap : (es.map ment).map (WideElems.rg P k noE) = es.map fun e => (.int .i64 e.1, .nil) := by
    rw [List.map_map]
    apply List.map_congr_left
    intro e he
    simp [WideElems.rg, hrd e he]
  have hperm : ∀ l : List (Lit × DataW Unit), (l.foldr DataW.insert []).Perm l := fun l => by
    induction l with
    | nil => exact .refl _
    | cons x r ih => exact (WideShapes.insert_perm x _).trans (ih.cons x)
  refine ⟨_, ⟨(es.map ment).toArray, c, hb, ⟨?_, ⟨?_, ?_, ?_⟩, ?_⟩, by simp, rfl⟩, ?_, ?_⟩
  · have := h.len; simp [maxLen]; omega
  · intro x hx
    simp at hx
    obtain ⟨a, b', c', he, rfl⟩ := hx
    exact h.old _ he
  · have : (es.map ment).map (·.born) = es.map (·.2.2) := by simp [ment]
    simpa [this] using h.born
  · have e1 : (es.map ment).map (·.key) = (es.map (·.1)).map encZ := by simp [ment]
    have : ((es.map ment).map (·.key)).Nodup := by
      rw [e1]
      exact List.Pairwise.map _ (fun a b hne e => hne (encZ_inj e)) h.keys
    simpa using this
  · intro x hx
    simp at hx
    obtain ⟨a, b', c', he, rfl⟩ := hx
    exact ⟨_, hrd _ he⟩
  · simp only [intKeys, hmap]
    refine ((hperm _).map _).trans ?_
    rw [List.map_map]
    exact .of_eq (List.map_congr_left fun e _ => rfl)
  · simp only [Maps.size, hmap]
    rw [(hperm _).length_eq]
    simp
end Go.KL
end

section
/- A program logic over the model, of our own: ranges over maps, deletes. No program in sight. -/
namespace Go.KL
open Go.ChangeMaps
/-- What a step of an iterator may hand out. -/
def nextOK (es : List Ent) (seen : Array Nat) : Option Ent → Prop
  | none => ∀ e ∈ es, e.2.2 ∈ seen
  | some e => e ∈ es ∧ e.2.2 ∉ seen
def nextV : Option Ent → Value
  | none => .tuple #[.bool false]
  | some e => .tuple #[.bool true, .int .i64 e.1, e.2.1]
abbrev mit (b c : Nat) (seen : Array Nat) : Obj := .mapIter (some b) c seen c
def nextLs (Ls : List Chunk) (i r b c : Nat) (seen : Array Nat) : Option Ent → List Chunk
  | none => Ls
  | some e => Ls.set i [(r, mit b c (seen.push e.2.2))]
theorem leftOf_mem {es : List Ent} {seen : Array Nat} {x : MapEntry} (h : x ∈ (leftOf (es.map ment).toArray seen).toList) : ∃ e ∈ es, x = ment e ∧ e.2.2 ∉ seen := by
  unfold leftOf at h
  have h1 : x ∈ es.map ment ∧ x.born ∉ seen := by
    have := Array.mem_toList_iff.1 h
    rw [Array.mem_filter] at this
    simpa using this
  obtain ⟨e, he, rfl⟩ := List.mem_map.1 h1.1
  exact ⟨e, he, rfl, h1.2⟩
theorem leftOf_none {es : List Ent} {seen : Array Nat} (h : (leftOf (es.map ment).toArray seen).size = 0) : ∀ e ∈ es, e.2.2 ∈ seen := by
  intro e he
  by_cases hs : e.2.2 ∈ seen
  · exact hs
  · have h1 : leftOf (es.map ment).toArray seen = #[] := Array.eq_empty_of_size_eq_zero h
    unfold leftOf at h1
    rw [Array.filter_eq_empty_iff] at h1
    have h2 : ment e ∈ (es.map ment).toArray := by simpa using List.mem_map.2 ⟨e, he, rfl⟩
    have := h1 _ h2
    simp [ment] at this
    exact this
section
variable {P : Program} {n : Nat} {σ : Slots} {C : World → Prop} {W w : World} {Ls : List Chunk} {dst : Option Tmp} {ty : TypeId} {pos : String} {after : Array Edge} {guard : Option (Nat × Bool)} {Q : Post}
theorem do_range (T : Tab P) (j : Nat) {x : Operand} {t kt e : TypeId} {b c : Nat} {es : List Ent} {R : Chunk} (hx : ev σ x = some (.map (some b))) (ht : T.und t = some (.map kt e)) (hj : Ls.getD j [] = (b, mobj es c) :: R) :
    Doos P n σ (K W Ls) ⟨dst, .range t x, ty, pos, after, guard⟩ (X := Nat) (fun r => .pointer (some ⟨r, 0, none⟩)) (fun r => K W ([(r, mit b c #[])] :: Ls)) := by
  intro a w hE hw
  refine ⟨w.heap.size, w.alloc (mit b c #[]), ?_, hw.alloc _⟩
  have := run_range_map w t kt e b _ _ (T.und_ok ht) (hw.at hj)
  simp [execOp, ev_eval hE hx, this]
theorem do_next (i j : Nat) {x : Operand} {r b c : Nat} {seen : Array Nat} {es : List Ent} {R : Chunk} (hx : ev σ x = some (.pointer (some ⟨r, 0, none⟩))) (hi : Ls.getD i [] = [(r, mit b c seen)]) (hj : Ls.getD j [] = (b, mobj es c) :: R) (hold : ∀ e ∈ es, e.2.2 < c) :
    Doos P n σ (K W Ls) ⟨dst, .next x false, ty, pos, after, guard⟩ (X := { o : Option Ent // nextOK es seen o }) (fun o => nextV o.1) (fun o => K W (nextLs Ls i r b c seen o.1)) := by
  intro a w hE hw
  have hr := hw.at (c := []) hi
  have hb := hw.at hj
  have hold' : ∀ x ∈ (es.map ment).toArray.toList, x.born < c := by
    intro x hx
    rw [List.toList_toArray] at hx
    obtain ⟨e, he, rfl⟩ := List.mem_map.1 hx
    exact hold e he
  rcases run_next_at (P := P) w ty r b c c seen (es.map ment).toArray c hr hb hold' (Nat.le_refl _) with ⟨h1, h2⟩ | ⟨x, hx1, w1, hw1, h2⟩
  · refine ⟨⟨none, leftOf_none h1⟩, w, ?_, hw⟩
    simp [execOp, ev_eval hE hx, h2, nextV]
  · obtain ⟨e, he, rfl, hne⟩ := leftOf_mem hx1
    refine ⟨⟨some e, he, hne⟩, _, by simp [execOp, ev_eval hE hx, h2, nextV, ment]; rfl, ?_⟩
    have hk1 : K W Ls w1 := by
      rcases hw1 with rfl | rfl
      · exact hw
      · exact hw.ext (Ext.drew w)
    have hr1 := hk1.at (c := []) hi
    refine hk1.put hi rfl rfl rfl (by simp [setBlock]) ?_ ?_
    · intro c' hc'
      simp [setBlock, Ne.symm hc']
    · have := heap_lt hr1
      simp [setBlock, this]
theorem y_entry (i j : Nat) {x : Operand} {r b c : Nat} {seen : Array Nat} {es : List Ent} {e : Ent} {R R' : Chunk} (hx : ev σ x = some (.pointer (some ⟨r, 0, none⟩))) (hi : Ls.getD i [] = (r, mit b c (seen.push e.2.2)) :: R') (hj : Ls.getD j [] = (b, mobj es c) :: R)
    (he : e ∈ es) (hn : (es.map (·.2.2)).Nodup) : Ylds P n σ (K W Ls) ⟨dst, .entry x, ty, pos, after, guard⟩ (.tuple #[.int .i64 e.1, e.2.1]) := by
  intro a w hE hw
  have hn' : ((es.map ment).toArray.toList.map (·.born)).Nodup := by
    have : (es.map ment).map (·.born) = es.map (·.2.2) := by simp [ment]
    simpa [this] using hn
  have := run_entry_at (P := P) w r b c seen (es.map ment).toArray c (ment e) (hw.at hi) (hw.at hj) (by simpa using List.mem_map.2 ⟨e, he, rfl⟩) hn'
  simp [execOp, ev_eval hE hx, this, ment]
/-- An operation whose value nobody takes. -/
theorem s_do0 {ops : Array Oper} {o : Oper} {rest : List Oper} {X : Type} {v : X → Value} {C' : X → World → Prop} (hy : Doos P n σ C o v C') (hg : gd ops σ o = some true) (hd : o.dst = none)
    (k : ∀ x, St P n ops Q rest σ (C' x)) : St P n ops Q (o :: rest) σ C := by
  intro a w hE hw
  obtain ⟨x, w', hr, hC'⟩ := hy a w hE hw
  unfold wpListIn
  rw [if_pos (gd_wanted hE hg)]
  refine wpIn_of_ok hr (fun _ e => by cases e) ?_
  rw [Oper.uponIn_value, hd]
  exact k x _ _ hE hC'
theorem do_delete (T : Tab P) (j : Nat) {x y : Operand} {t kt e tk : TypeId} {b c : Nat} {es : List Ent} {k : Int} (hx : ev σ x = some (.map (some b))) (hy : ev σ y = some (.int .i64 k)) (ht : T.und t = some (.map kt e)) (hkt : T.und kt = some (.int .i64)) (hj : Ls.getD j [] = [(b, mobj es c)]) :
    Doos P n σ (K W Ls) ⟨dst, .call ⟨.builtin .delete, #[x, y], #[t, tk]⟩, ty, pos, after, guard⟩ (X := Unit) (fun _ => .tuple #[]) (fun _ => K W (Ls.set j [(b, mobj (mdel k es) c)])) := by
  intro a w hE hw
  have hb := hw.at (c := []) hj
  have hf : (Instr.findKey kt (.int .i64 k) (es.map ment)).run P w = .ok (mfind k es 0) w := MapKept.run_findKey (T.und_ok hkt) (findNow_mfind k es 0)
  have hrun : (Builtin.delete_ #[t, tk] ty #[.map (some b), .int .i64 k]).run P w = .ok (.tuple #[]) { w with heap := w.heap.setIfInBounds b (mobj (mdel k es) c) } := by
    simp only [Builtin.delete_, Sem.run_bind, run_und T ht, Result.andThen, MapKept.run_getObj_map hb, run_checkInt (T.und_ok hkt), hf, List.getElem?_toArray, List.getElem?_cons_zero, List.getElem?_cons_succ]
    cases hm : mfind k es 0 with
    | none =>
      simp only [Sem.run_bind, Result.andThen, MapKept.run_setObj_map _ hb, mdel_none (mfind_none.1 hm)]
      rfl
    | some q =>
      obtain ⟨q, u⟩ := q
      have h1 := mdel_old hm
      have h2 : mobj (mdel k es) c = .map ((es.map ment).toArray.eraseIdxIfInBounds q) c := by
        simp only [mobj]
        rw [h1, Nat.sub_zero]
        congr 1
        apply Array.ext'
        simp
      simp only [Sem.run_bind, Result.andThen, MapKept.run_setObj_map _ hb, h2]
      rfl
  refine ⟨(), _, ?_, hw.put hj (w' := { w with heap := w.heap.setIfInBounds b (mobj (mdel k es) c) }) rfl rfl rfl (by simp) ?_ ?_⟩
  · simp [execOp, resolve, invoke, builtin, ev_eval hE hx, ev_eval hE hy, hrun]
  · intro c hc
    simp [Ne.symm hc]
  · have := heap_lt hb
    simp [this]
end
end Go.KL
end

section
/- A program logic over the model, of our own: conversions between integers, shifts. No program in sight. -/
namespace Go.KL
section
variable {P : Program} {n : Nat} {σ : Slots} {C : World → Prop} {dst : Option Tmp} {ty : TypeId} {pos : String} {after : Array Edge} {guard : Option (Nat × Bool)}
theorem y_shr {x y : Operand} {t t' : TypeId} {k k' : IntKind} {z m : Int} (hx : ev σ x = some (.int k z)) (hy : ev σ y = some (.int k' m)) (hm : 0 ≤ m ∧ m < k.bits) :
    Ylds P n σ C ⟨dst, .binOp .shr t x y t', ty, pos, after, guard⟩ (.int k (z.fdiv (2 ^ m.toNat))) := by
  intro a w hE _
  have h1 : ¬ m < 0 := by omega
  have h2 : min m.toNat k.bits = m.toNat := by omega
  simp [execOp, ev_eval hE hx, ev_eval hE hy, binOp, eqGuard, Op.shift, h1, h2]
theorem y_shr1 {x y : Operand} {t t' : TypeId} {k k' : IntKind} {z v : Int} (hx : ev σ x = some (.int k z)) (hy : ev σ y = some (.int k' 1)) (hm : 1 < k.bits) (hz : z / 2 = v) :
    Ylds P n σ C ⟨dst, .binOp .shr t x y t', ty, pos, after, guard⟩ (.int k v) := by
  have := y_shr (P := P) (n := n) (C := C) (dst := dst) (ty := ty) (pos := pos) (after := after) (guard := guard) (t := t) (t' := t') hx hy ⟨by omega, by omega⟩
  have e : z.fdiv (2 ^ (1 : Int).toNat) = v := by
    rw [← hz]
    show z.fdiv (2 ^ 1) = _
    rw [Int.fdiv_eq_ediv_of_nonneg _ (by decide)]
    rfl
  rwa [e] at this
end
end Go.KL
end

section
/- Rows that grow from nil; chunks that are there; rows as views. No program in sight. -/
namespace Go.KL
section
variable {P : Program} {W w : World} {Ls : List Chunk} {n : Nat} {σ : Slots} {C : World → Prop} {dst : Option Tmp} {ty : TypeId} {pos : String} {after : Array Edge} {guard : Option (Nat × Bool)}
def blkOf : Value → Nat
  | .slice (some a) _ _ => a.block
  | _ => 0
/-- A row that begins as nil, and grows. -/
structure Buf (e : TypeId) (s : Nat) (v : Value) (c : Chunk) (m : Nat) (xs : List Value) : Prop where
  ok : (m = 0 ∧ xs = [] ∧ v = .slice none 0 0 ∧ c = []) ∨ ∃ o : Own, v = osl o m ∧ c = och e o xs ∧ owf s o m xs ∧ o.pre = []
theorem Buf.nil {e : TypeId} {s : Nat} : Buf e s (.slice none 0 0) [] 0 [] := ⟨.inl ⟨rfl, rfl, rfl, rfl⟩⟩
theorem K.putNil {c : Chunk} {i : Nat} (hi : i < Ls.length) (h0 : Ls.getD i [] = []) (h : K W (c :: Ls) w) : K W (Ls.set i c) w := by
  refine h.weak [] ?_
  have h1 := front_perm i Ls
  have h2 := front_perm i (Ls.set i c)
  have e1 : KL.front i Ls = [] :: Ls.eraseIdx i := by rw [KL.front, h0]
  have e2 : KL.front i (Ls.set i c) = c :: Ls.eraseIdx i := by
    rw [KL.front]
    congr 1
    · rw [List.getD_eq_getElem?_getD, List.getElem?_set_self hi]; rfl
    · rw [List.eraseIdx_set_eq]
  rw [e1] at h1
  rw [e2] at h2
  rw [List.append_nil, List.flatten_cons]
  refine List.Perm.trans (List.Perm.append_left c ?_) h2.symm
  simpa using h1
/-- One more element. -/
theorem do_appendB (T : Tab P) (i : Nat) {x y : Operand} {t e : TypeId} {s by_ m k c2 : Nat} {z xs news : List Value} {v : Value} {c : Chunk} {p : Addr} (hx : ev σ x = some v) (hB : Buf e s v c m xs) (hy : ev σ y = some (.slice (some p) k c2))
    (hT : TabE T t e s by_ z) (hzs : z.length = s) (hl : i < Ls.length) (hi : Ls.getD i [] = c) (hk : 0 < k)
    (hn : CellsAre (K W Ls) p news) (hnl : news.length = k * s) (h1 : ∀ v ∈ news, v.oneCell' = true) (hmax : m + k ≤ maxLen) (hby : (m + k) * by_ ≤ 140737488355328) :
    Doos P n σ (K W Ls) ⟨dst, .call ⟨.builtin .append, #[x, y], #[t, t]⟩, ty, pos, after, guard⟩ (X := { u : Value × Chunk // Buf e s u.1 u.2 (m + k) (xs ++ news) }) (fun u => u.1.1) (fun u => K W (Ls.set i u.1.2)) := by
  rcases hB.ok with ⟨rfl, rfl, rfl, rfl⟩ | ⟨o, rfl, rfl, ho, hp⟩
  · intro a w hE hw
    obtain ⟨o', w', hr, hk'⟩ := do_append_nil (W := W) (Ls := Ls) (n := n) (dst := dst) (ty := ty) (pos := pos) (after := after) (guard := guard) T hx hy hT hzs hn hnl hk (by omega) (by rw [Nat.zero_add] at hby; exact hby) a w hE hw
    refine ⟨⟨(osl o'.1 k, och e o'.1 news), ⟨.inr ⟨o'.1, by rw [Nat.zero_add], rfl, by rw [Nat.zero_add]; exact o'.2.1, ?_⟩⟩⟩, w', hr, K.putNil hl hi hk'⟩
    exact List.eq_nil_of_length_eq_zero (Nat.le_zero.1 o'.2.2)
  · intro a w hE hw
    obtain ⟨o', w', hr, hk'⟩ := do_append (W := W) (Ls := Ls) (n := n) (dst := dst) (ty := ty) (pos := pos) (after := after) (guard := guard) T i hx hy hT hzs hi ho hn hnl h1 hmax hby a w hE hw
    refine ⟨⟨(osl o'.1 (m + k), och e o'.1 (xs ++ news)), ⟨.inr ⟨o'.1, rfl, rfl, o'.2.1, ?_⟩⟩⟩, w', hr, hk'⟩
    have := o'.2.2
    exact List.eq_nil_of_length_eq_zero (Nat.le_zero.1 (Nat.le_trans this (by rw [hp]; exact Nat.le_refl 0)))
theorem y_lenBuf (T : Tab P) {x : Operand} {t e : TypeId} {s m : Nat} {xs : List Value} {v : Value} {c : Chunk} (hx : ev σ x = some v) (hB : Buf e s v c m xs) (ht : T.und t = some (.slice e)) :
    Ylds P n σ C ⟨dst, .call ⟨.builtin .len, #[x], #[t]⟩, ty, pos, after, guard⟩ (.int .i64 m) := by
  rcases hB.ok with ⟨rfl, rfl, rfl, rfl⟩ | ⟨o, rfl, rfl, ho, hp⟩
  · exact y_len T hx ht
  · exact y_len T hx ht
theorem Buf.one {e : TypeId} {s m : Nat} {xs : List Value} {v : Value} {c : Chunk} (h : Buf e s v c m xs) : v.oneCell' = true := by
  rcases h.ok with ⟨_, _, rfl, _⟩ | ⟨o, rfl, _⟩ <;> rfl
theorem Buf.len {e : TypeId} {s m : Nat} {xs : List Value} {v : Value} {c : Chunk} (h : Buf e s v c m xs) : xs.length = m * s := by
  rcases h.ok with ⟨rfl, rfl, _, _⟩ | ⟨o, _, _, ho, _⟩
  · simp
  · exact ho.len
/-- A chunk is there. -/
def Hs (C : World → Prop) (c : Chunk) : Prop := ∀ w, C w → ∀ e ∈ c, w.heap[e.1]? = some e.2
theorem Hs.cls {D : World → Prop} {c : Chunk} (h : Hs C c) (hD : ∀ w, D w → C w) : Hs D c := fun w hw => h w (hD w hw)
theorem Hs.cons {c d : Chunk} (h : Hs (K W Ls) c) : Hs (K W (d :: Ls)) c := fun w hw => h w hw.tail
theorem Hs.at (i : Nat) {c : Chunk} (hi : Ls.getD i [] = c) : Hs (K W Ls) c := fun w hw e he => by
  have := hw.front i
  rw [KL.front, hi] at this
  exact (this.own e (by simp [he])).2
theorem Hs.all : Hs (K W Ls) Ls.flatten := fun _ hw e he => (hw.own e he).2
theorem Hs.sub {c d : Chunk} (h : Hs C c) (hd : ∀ e ∈ d, e ∈ c) : Hs C d := fun w hw e he => h w hw e (hd e he)
theorem Hs.mem {c : Chunk} {e : Nat × Obj} (h : Hs C c) (he : e ∈ c) : ∀ w, C w → w.heap[e.1]? = some e.2 := fun w hw => h w hw e he
/-- What is there in the world in which a call begins stays there. -/
theorem Hs.base {c : Chunk} (h : ∀ e ∈ c, W.heap[e.1]? = some e.2) : Hs (K W Ls) c := fun w hw e he => by
  have h1 := h e he
  rw [hw.base e.1 (heap_lt h1)]
  exact h1
theorem Hs.cell {c : Chunk} {b k : Nat} {e : TypeId} {l : List Value} {v : Value} (h : Hs C c) (he : (b, row e l) ∈ c) (hk : l[k]? = some v) : CellIs C ⟨b, k, none⟩ v := by
  intro w hw
  have h1 := h.mem he w hw
  simp [World.cell?, h1, row, hk]
theorem Hs.cellsAre {c : Chunk} {b o : Nat} {e : TypeId} {l vs : List Value} (h : Hs C c) (he : (b, row e l) ∈ c) (hk : ∀ j, j < vs.length → l[o + j]? = vs[j]?) : CellsAre C ⟨b, o, none⟩ vs := by
  intro w hw j hj
  have h1 := h.mem he w hw
  rw [addr_add]
  simp [World.cell?, h1, row, hk j hj]
/-- The cells of a row, by their numbers. -/
abbrev ixs (s : Nat) (xs : List Value) : Nat → Nat → Value := fun i j => xs.getD (i * s + j) undef
theorem Buf.view {e : TypeId} {s m : Nat} {xs : List Value} {v : Value} {c : Chunk} (h : Buf e s v c m xs) (hc : Hs C c) : SlV C v m s (ixs s xs) := by
  rcases h.ok with ⟨rfl, rfl, rfl, rfl⟩ | ⟨o, rfl, rfl, ho, hp⟩
  · exact SlV.empty
  · refine ⟨_, _, rfl, ho.le, fun _ => ⟨o.b, o.pre.length, rfl, fun i hi j hj => ?_⟩⟩
    have hlt : i * s + j < xs.length := by
      rw [ho.len]
      have : (i + 1) * s ≤ m * s := Nat.mul_le_mul_right s hi
      rw [Nat.add_mul] at this
      omega
    refine hc.cell (e := e) List.mem_cons_self ?_
    rw [hp, List.nil_append, List.length_nil, Nat.zero_add, List.getElem?_append_left hlt]
    simp [ixs, List.getD_eq_getElem?_getD, hlt]
def vblk : Value → Nat
  | .slice (some a) _ _ => a.block
  | _ => 0
def voff : Value → Nat
  | .slice (some a) _ _ => a.off
  | _ => 0
section
variable {v : Value} {m s : Nat} {g : Nat → Nat → Value}
theorem y_lenV (T : Tab P) {x : Operand} {t e : TypeId} (hx : ev σ x = some v) (hV : SlV C v m s g) (ht : T.und t = some (.slice e)) :
    Ylds P n σ C ⟨dst, .call ⟨.builtin .len, #[x], #[t]⟩, ty, pos, after, guard⟩ (.int .i64 m) := by
  obtain ⟨pa, c, rfl, _⟩ := hV
  exact y_len T hx ht
theorem y_ixV (T : Tab P) {x i : Operand} {t e : TypeId} {k : IntKind} {z : Int} (hx : ev σ x = some v) (hi : ev σ i = some (.int k z)) (ht : T.und t = some (.slice e)) (hs : T.size e = some s) (hV : SlV C v m s g) (j : Nat) (hj : z = (j : Int)) (hlt : j < m) :
    Ylds P n σ C ⟨dst, .indexAddr t x i, ty, pos, after, guard⟩ (.pointer (some ⟨vblk v, voff v + j * s, none⟩)) := by
  obtain ⟨pa, c, rfl, hc, h⟩ := hV
  obtain ⟨b, o, rfl, _⟩ := h (by omega)
  exact y_indexAddr T hx hi ht hs j hj hlt
theorem SlV.cell (hV : SlV C v m s g) {i j : Nat} (hi : i < m) (hj : j < s) : CellIs C ⟨vblk v, voff v + i * s + j, none⟩ (g i j) := by
  obtain ⟨pa, c, rfl, hc, h⟩ := hV
  obtain ⟨b, o, rfl, h2⟩ := h (by omega)
  exact h2 i hi j hj
theorem SlV.cell1 {g : Nat → Nat → Value} (hV : SlV C v m 1 g) {i : Nat} (hi : i < m) : CellIs C ⟨vblk v, voff v + i * 1, none⟩ (g i 0) := by
  have := hV.cell hi (j := 0) (by omega)
  rw [Nat.add_zero] at this
  exact this
theorem SlV.rowAt (hV : SlV C v m s g) {i : Nat} (hi : i < m) : CellsAre C ⟨vblk v, voff v + i * s, none⟩ ((List.range s).map (g i)) := by
  intro w hw j hj
  simp only [List.length_map, List.length_range] at hj
  rw [addr_add, hV.cell hi hj w hw]
  simp [hj]
theorem SlV.cons {c : Chunk} (hV : SlV (K W Ls) v m s g) : SlV (K W (c :: Ls)) v m s g := hV.cls fun _ h => h.tail
end
/-- A view in a pool. -/
def PV (p : Chunk) (v : Value) (m s : Nat) (g : Nat → Nat → Value) : Prop :=
  ∃ pa c, v = .slice pa m c ∧ m ≤ c ∧ (0 < m → ∃ b o e l, pa = some ⟨b, o, none⟩ ∧ (b, row e l) ∈ p ∧ ∀ i, i < m → ∀ j, j < s → l[o + i * s + j]? = some (g i j))
theorem PV.view {p : Chunk} {v : Value} {m s : Nat} {g : Nat → Nat → Value} (h : PV p v m s g) (hp : Hs C p) : SlV C v m s g := by
  obtain ⟨pa, c, rfl, hc, h⟩ := h
  refine ⟨pa, c, rfl, hc, fun h0 => ?_⟩
  obtain ⟨b, o, e, l, rfl, hb, hl⟩ := h h0
  exact ⟨b, o, rfl, fun i hi j hj => hp.cell hb (hl i hi j hj)⟩
theorem PV.app {p : Chunk} {v : Value} {m s : Nat} {g : Nat → Nat → Value} (h : PV p v m s g) (c : Chunk) : PV (c ++ p) v m s g := by
  obtain ⟨pa, k, rfl, hc, h⟩ := h
  refine ⟨pa, k, rfl, hc, fun h0 => ?_⟩
  obtain ⟨b, o, e, l, rfl, hb, hl⟩ := h h0
  exact ⟨b, o, e, l, rfl, List.mem_append_right c hb, hl⟩
theorem PV.none {p : Chunk} {s : Nat} {g : Nat → Nat → Value} : PV p (.slice none 0 0) 0 s g := ⟨_, _, rfl, Nat.le_refl _, fun h => absurd h (by omega)⟩
theorem PV.congr {p : Chunk} {v : Value} {m s : Nat} {g g' : Nat → Nat → Value} (h : PV p v m s g) (hg : ∀ i, i < m → ∀ j, j < s → g i j = g' i j) : PV p v m s g' := by
  obtain ⟨pa, k, rfl, hc, h⟩ := h
  refine ⟨pa, k, rfl, hc, fun h0 => ?_⟩
  obtain ⟨b, o, e, l, rfl, hb, hl⟩ := h h0
  exact ⟨b, o, e, l, rfl, hb, fun i hi j hj => by rw [← hg i hi j hj]; exact hl i hi j hj⟩
theorem Buf.pool {e : TypeId} {s m : Nat} {xs : List Value} {v : Value} {c : Chunk} (h : Buf e s v c m xs) (p : Chunk) : PV (c ++ p) v m s (ixs s xs) := by
  rcases h.ok with ⟨rfl, rfl, rfl, rfl⟩ | ⟨o, rfl, rfl, ho, hp⟩
  · exact PV.none
  · refine ⟨_, _, rfl, ho.le, fun _ => ⟨o.b, o.pre.length, e, o.pre ++ xs ++ o.rest, rfl, List.mem_cons_self, fun i hi j hj => ?_⟩⟩
    have hlt : i * s + j < xs.length := by
      rw [ho.len]
      have : (i + 1) * s ≤ m * s := Nat.mul_le_mul_right s hi
      rw [Nat.add_mul] at this
      omega
    rw [hp, List.nil_append, List.length_nil, Nat.zero_add, List.getElem?_append_left hlt]
    simp [ixs, List.getD_eq_getElem?_getD, hlt]
/-- A call that makes at most new memory, wherever it may begin. -/
theorem Spec.any {f : FuncId} {args : Array Value} {v : Value} {D : World → Prop} (hD : Cl D) (h : ∀ w, D w → Spec P f args (K w []) (fun _ : Unit => v) (fun _ => K w [])) : Spec P f args D (fun _ : Unit => v) (fun _ => D) := fun w hw =>
  (h w hw w (K.refl w)).mono fun _ _ ⟨x, h1, h2⟩ => ⟨x, h1, hD w _ hw h2.toExt⟩
theorem Qui.any {o : Oper} {f : FuncId} {args : Array Value} {v : Value} {D : World → Prop} (he : Enters P n σ D o f args) (h : ∀ w, D w → Spec P f args (K w []) (fun _ : Unit => v) (fun _ => K w [])) : Qui P n σ D o v :=
  Qui.call he fun w hw => (h w hw w (K.refl w)).mono fun _ _ ⟨_, h1, h2⟩ => ⟨h1, h2.toExt⟩
theorem Spec.anyL {f : FuncId} {args : Array Value} {X : Type} {v : X → Value} {L : X → Chunk} (h : ∀ w, K W Ls w → Spec P f args (K w []) v (fun x => K w [L x])) : Spec P f args (K W Ls) v (fun x => K W (L x :: Ls)) :=
  Spec.rebase (L := fun x => [L x]) h
end
end Go.KL
end

section
/- Rows of elements of several cells: one's own, in a pool, as views. No program in sight. -/
namespace Go.KL
def lens (s : Nat) (rows : List (List Value)) : Prop := ∀ x ∈ rows, x.length = s
theorem lens.nil {s : Nat} : lens s [] := fun x hx => by simp at hx
theorem lens.app {s : Nat} {A B : List (List Value)} : lens s (A ++ B) ↔ lens s A ∧ lens s B := by
  unfold lens
  constructor
  · intro h
    exact ⟨fun x hx => h x (by simp [hx]), fun x hx => h x (by simp [hx])⟩
  · rintro ⟨h1, h2⟩ x hx
    exact (List.mem_append.1 hx).elim (h1 x) (h2 x)
theorem lens.map {α : Type} {s : Nat} {f : α → List Value} {L : List α} (h : ∀ x, (f x).length = s) : lens s (L.map f) := fun x hx => by
  obtain ⟨y, _, rfl⟩ := List.mem_map.1 hx
  exact h y
theorem flat_len {s : Nat} : ∀ {rows : List (List Value)}, lens s rows → rows.flatten.length = rows.length * s
  | [], _ => by simp
  | x :: r, h => by
    have := flat_len (rows := r) fun y hy => h y (by simp [hy])
    rw [List.flatten_cons, List.length_append, this, h x (by simp), List.length_cons, Nat.add_mul]
    omega
theorem flat_get {s : Nat} : ∀ {rows : List (List Value)} {i j : Nat} {x : List Value}, lens s rows → rows[i]? = some x → j < s → rows.flatten[i * s + j]? = x[j]?
  | [], i, j, x, _, h, _ => by simp at h
  | y :: r, 0, j, x, h, hx, hj => by
    simp at hx
    subst hx
    rw [List.flatten_cons, List.getElem?_append_left (by rw [h y (by simp)]; omega), Nat.zero_mul, Nat.zero_add]
  | y :: r, i + 1, j, x, h, hx, hj => by
    rw [List.flatten_cons, List.getElem?_append_right (by rw [h y (by simp), Nat.add_mul]; omega), h y (by simp)]
    rw [show (i + 1) * s + j - s = i * s + j by rw [Nat.add_mul]; omega]
    exact flat_get (fun z hz => h z (by simp [hz])) (by simpa using hx) hj
/-- A row of one's own that grew from nil. -/
structure BufR (e : TypeId) (s : Nat) (v : Value) (c : Chunk) (rows : List (List Value)) : Prop where
  len : lens s rows
  buf : Buf e s v c rows.length rows.flatten
theorem BufR.nil {e : TypeId} {s : Nat} : BufR e s (.slice none 0 0) [] [] := ⟨lens.nil, .nil⟩
theorem BufR.one {e : TypeId} {s : Nat} {v : Value} {c : Chunk} {rows : List (List Value)} (h : BufR e s v c rows) : v.oneCell' = true := h.buf.one
theorem BufR.of {e : TypeId} {s : Nat} {v : Value} {c : Chunk} {rows rows' : List (List Value)} (h : BufR e s v c rows) (e' : rows = rows') : BufR e s v c rows' := e' ▸ h
/-- The view. -/
abbrev rix (rows : List (List Value)) : Nat → Nat → Value := fun i j => (rows.getD i []).getD j undef
structure EV (C : World → Prop) (v : Value) (s : Nat) (rows : List (List Value)) : Prop where
  len : lens s rows
  view : SlV C v rows.length s (rix rows)
/-- In a pool. -/
structure PE (p : Chunk) (v : Value) (s : Nat) (rows : List (List Value)) : Prop where
  len : lens s rows
  view : PV p v rows.length s (rix rows)
theorem ixs_flat {s : Nat} {rows : List (List Value)} (h : lens s rows) {i j : Nat} (hi : i < rows.length) (hj : j < s) : ixs s rows.flatten i j = rix rows i j := by
  obtain ⟨x, hx⟩ : ∃ x, rows[i]? = some x := ⟨rows[i], by simp [hi]⟩
  have h1 := flat_get h hx hj
  simp only [ixs, rix, List.getD_eq_getElem?_getD, h1, hx, Option.getD_some]
section
variable {P : Program} {W w : World} {Ls : List Chunk} {n : Nat} {σ : Slots} {C D : World → Prop} {dst : Option Tmp} {ty : TypeId} {pos : String} {after : Array Edge} {guard : Option (Nat × Bool)} {e : TypeId} {s : Nat} {v : Value} {c p : Chunk} {rows : List (List Value)}
theorem BufR.view (h : BufR e s v c rows) (hc : Hs C c) : EV C v s rows := ⟨h.len, (h.buf.view hc).congr fun _ hi _ hj => ixs_flat h.len hi hj⟩
theorem BufR.pool (h : BufR e s v c rows) (p : Chunk) : PE (c ++ p) v s rows := ⟨h.len, (h.buf.pool p).congr fun _ hi _ hj => ixs_flat h.len hi hj⟩
theorem PE.ev (h : PE p v s rows) (hp : Hs C p) : EV C v s rows := ⟨h.len, h.view.view hp⟩
theorem PE.app (h : PE p v s rows) (c : Chunk) : PE (c ++ p) v s rows := ⟨h.len, h.view.app c⟩
theorem PE.empty : PE p (.slice none 0 0) s [] := ⟨lens.nil, PV.none⟩
theorem PE.one (h : PE p v s rows) : v.oneCell' = true := by
  obtain ⟨pa, k, rfl, _⟩ := h.view
  rfl
theorem EV.cls (h : EV C v s rows) (hD : ∀ w, D w → C w) : EV D v s rows := ⟨h.len, h.view.cls hD⟩
theorem EV.cons {d : Chunk} (h : EV (K W Ls) v s rows) : EV (K W (d :: Ls)) v s rows := h.cls fun _ h => h.tail
theorem EV.empty : EV C (.slice none 0 0) s [] := ⟨lens.nil, SlV.empty⟩
theorem EV.row {i : Nat} {x : List Value} (h : EV C v s rows) (hx : rows[i]? = some x) : CellsAre C ⟨vblk v, voff v + i * s, none⟩ x := by
  have hi : i < rows.length := (List.getElem?_eq_some_iff.1 hx).1
  have hl : x.length = s := h.len x (List.mem_of_getElem? hx)
  have e1 : (List.range s).map (rix rows i) = x := by
    apply List.ext_getElem?
    intro j
    by_cases c : j < s
    · have hj : j < x.length := by omega
      simp [c, rix, List.getD_eq_getElem?_getD, hx, List.getElem?_eq_getElem hj]
    · have : x.length ≤ j := by omega
      simp [c, this]
  have := h.view.rowAt hi
  rw [e1] at this
  exact this
theorem EV.cell {i : Nat} {x : Value} (h : EV C v 1 rows) (hx : rows[i]? = some [x]) : CellIs C ⟨vblk v, voff v + i * 1, none⟩ x := (h.row hx).at0 rfl
theorem y_lenE (T : Tab P) {x : Operand} {t e : TypeId} (hx : ev σ x = some v) (hV : EV C v s rows) (ht : T.und t = some (.slice e)) :
    Ylds P n σ C ⟨dst, .call ⟨.builtin .len, #[x], #[t]⟩, ty, pos, after, guard⟩ (.int .i64 rows.length) := y_lenV T hx hV.view ht
theorem y_lenR' (T : Tab P) {x : Operand} {t : TypeId} (hx : ev σ x = some v) (hB : BufR e s v c rows) (ht : T.und t = some (.slice e)) :
    Ylds P n σ C ⟨dst, .call ⟨.builtin .len, #[x], #[t]⟩, ty, pos, after, guard⟩ (.int .i64 rows.length) := y_lenBuf T hx hB.buf ht
theorem y_ixE (T : Tab P) {x i : Operand} {t e : TypeId} {k : IntKind} {z : Int} (hx : ev σ x = some v) (hi : ev σ i = some (.int k z)) (ht : T.und t = some (.slice e)) (hs : T.size e = some s) (hV : EV C v s rows) (j : Nat) (hj : z = (j : Int)) (hlt : j < rows.length) :
    Ylds P n σ C ⟨dst, .indexAddr t x i, ty, pos, after, guard⟩ (.pointer (some ⟨vblk v, voff v + j * s, none⟩)) := y_ixV T hx hi ht hs hV.view j hj hlt
/-- One more element. -/
theorem do_appendR (T : Tab P) (i : Nat) {x y : Operand} {t : TypeId} {by_ c2 : Nat} {z news : List Value} {q : Addr} (hx : ev σ x = some v) (hB : BufR e s v c rows) (hy : ev σ y = some (.slice (some q) 1 c2))
    (hT : TabE T t e s by_ z) (hzs : z.length = s) (hl : i < Ls.length) (hi : Ls.getD i [] = c)
    (hn : CellsAre (K W Ls) q news) (hnl : news.length = s) (h1 : news.all Value.oneCell' = true) (hmax : rows.length < 1000000) (hby : by_ ≤ 1000) :
    Doos P n σ (K W Ls) ⟨dst, .call ⟨.builtin .append, #[x, y], #[t, t]⟩, ty, pos, after, guard⟩ (X := { u : Value × Chunk // BufR e s u.1 u.2 (rows ++ [news]) }) (fun u => u.1.1) (fun u => K W (Ls.set i u.1.2)) := by
  have h2 : (rows.length + 1) * by_ ≤ 1000000 * 1000 := Nat.mul_le_mul (by omega) hby
  have := do_appendB (W := W) (n := n) (σ := σ) (dst := dst) (ty := ty) (pos := pos) (after := after) (guard := guard) (k := 1) T i hx hB.buf hy hT hzs hl hi (by omega) hn (by omega) (List.all_eq_true.1 h1) (by unfold maxLen; omega) (by omega)
  intro a w hE hw
  obtain ⟨u, w', hr, hk⟩ := this a w hE hw
  exact ⟨⟨u.1, lens.app.2 ⟨hB.len, fun x hx => by rw [List.mem_singleton.1 hx]; exact hnl⟩, by
    have := u.2
    rw [List.length_append, List.flatten_append]
    simpa using this⟩, w', hr, hk⟩
end
end Go.KL
end

section
/- Balanced trees of runs; plain. No program in sight. -/
namespace Go.KL
/-- A tree of runs: each has a length and a tag. -/
inductive Tree where
  | nil : Tree
  | node (l : Tree) (n t : Nat) (r : Tree) : Tree
namespace Tree
def ht : Tree → Nat
  | nil => 0
  | node l _ _ r => max l.ht r.ht + 1
def runs : Tree → Nat
  | nil => 0
  | node l _ _ r => l.runs + r.runs + 1
def pcs : Tree → Nat
  | nil => 0
  | node l n _ r => l.pcs + r.pcs + n
def cnt (k : Nat) : Tree → Nat
  | nil => 0
  | node l n t r => (if k = t then n else 0) + l.cnt k + r.cnt k
/-- Its runs. -/
def toL : Tree → List (Nat × Nat)
  | nil => []
  | node l n t r => l.toL ++ (n, t) :: r.toL
def Bal : Tree → Prop
  | nil => True
  | node l _ _ r => l.Bal ∧ r.Bal ∧ l.ht ≤ r.ht + 1 ∧ r.ht ≤ l.ht + 1
def turnL : Tree → Tree
  | node l n t (node rl rn rt rr) => node (node l n t rl) rn rt rr
  | x => x
def turnR : Tree → Tree
  | node (node ll ln lt lr) n t r => node ll ln lt (node lr n t r)
  | x => x
def joinR : Tree → Nat → Nat → Tree → Tree
  | nil, n, t, r => node nil n t r
  | node ll ln lt lr, n, t, r =>
    if lr.ht ≤ r.ht + 1 then
      if (node lr n t r).ht ≤ ll.ht + 1 then node ll ln lt (node lr n t r) else turnL (node ll ln lt (turnR (node lr n t r)))
    else
      if (joinR lr n t r).ht ≤ ll.ht + 1 then node ll ln lt (joinR lr n t r) else turnL (node ll ln lt (joinR lr n t r))
def joinL (l : Tree) (n t : Nat) : Tree → Tree
  | nil => node l n t nil
  | node rl rn rt rr =>
    if rl.ht ≤ l.ht + 1 then
      if (node l n t rl).ht ≤ rr.ht + 1 then node (node l n t rl) rn rt rr else turnR (node (turnL (node l n t rl)) rn rt rr)
    else
      if (joinL l n t rl).ht ≤ rr.ht + 1 then node (joinL l n t rl) rn rt rr else turnR (node (joinL l n t rl) rn rt rr)
def join (l : Tree) (n t : Nat) (r : Tree) : Tree :=
  if r.ht + 1 < l.ht then joinR l n t r else if l.ht + 1 < r.ht then joinL l n t r else node l n t r
def split : Tree → Nat → Tree × Tree
  | nil, _ => (nil, nil)
  | node l n t r, k =>
    if k ≤ l.pcs then ((split l k).1, join (split l k).2 n t r)
    else if l.pcs + n ≤ k then (join l n t (split r (k - l.pcs - n)).1, (split r (k - l.pcs - n)).2)
    else (join l (k - l.pcs) t nil, join nil (l.pcs + n - k) t r)
def takeLast : Tree → Tree × Nat × Nat
  | nil => (nil, 0, 0)
  | node l n t nil => (l, n, t)
  | node l n t r => (join l n t (takeLast r).1, (takeLast r).2)
def first : Tree → Nat
  | nil => 0
  | node nil _ t _ => t
  | node l _ _ _ => first l
def grow : Tree → Nat → Tree
  | nil, _ => nil
  | node nil n t r, k => node nil (n + k) t r
  | node l n t r, k => node (grow l k) n t r
def leaf (n t : Nat) : Tree := if n = 0 then nil else node nil n t nil
def concat (a b : Tree) : Tree :=
  match a, b with
  | nil, b => b
  | a, nil => a
  | a, b =>
    if (takeLast a).2.2 = first b then
      if (takeLast a).1.runs = 0 then grow b (takeLast a).2.1
      else join (takeLast (takeLast a).1).1 (takeLast (takeLast a).1).2.1 (takeLast (takeLast a).1).2.2 (grow b (takeLast a).2.1)
    else join (takeLast a).1 (takeLast a).2.1 (takeLast a).2.2 b
theorem toL_turnL (x : Tree) : x.turnL.toL = x.toL := by
  cases x with
  | nil => rfl
  | node l n t r => cases r <;> simp [turnL, toL]
theorem toL_turnR (x : Tree) : x.turnR.toL = x.toL := by
  cases x with
  | nil => rfl
  | node l n t r => cases l <;> simp [turnR, toL]
theorem toL_joinR : ∀ (l : Tree) (n t : Nat) (r : Tree), (joinR l n t r).toL = l.toL ++ (n, t) :: r.toL
  | nil, n, t, r => rfl
  | node ll ln lt lr, n, t, r => by
    have ih := toL_joinR lr n t r
    rw [joinR]
    split
    · split
      · simp [toL]
      · rw [toL_turnL, toL, toL_turnR]
        simp [toL]
    · split
      · simp [toL, ih]
      · rw [toL_turnL, toL, ih]
        simp [toL]
theorem toL_joinL (l : Tree) (n t : Nat) : ∀ (r : Tree), (joinL l n t r).toL = l.toL ++ (n, t) :: r.toL
  | nil => rfl
  | node rl rn rt rr => by
    have ih := toL_joinL l n t rl
    rw [joinL]
    split
    · split
      · simp [toL]
      · rw [toL_turnR, toL, toL_turnL]
        simp [toL]
    · split
      · simp [toL, ih]
      · rw [toL_turnR, toL, ih]
        simp [toL]
theorem toL_join (l : Tree) (n t : Nat) (r : Tree) : (join l n t r).toL = l.toL ++ (n, t) :: r.toL := by
  unfold join
  split
  · exact toL_joinR l n t r
  · split
    · exact toL_joinL l n t r
    · rfl
def lf : Tree → Tree
  | nil => nil
  | node l _ _ _ => l
def rg : Tree → Tree
  | nil => nil
  | node _ _ _ r => r
theorem joinR_bal : ∀ (l : Tree) (n t : Nat) (r : Tree), l.Bal → r.Bal → r.ht + 1 < l.ht → (joinR l n t r).Bal ∧ l.ht ≤ (joinR l n t r).ht ∧ (joinR l n t r).ht ≤ l.ht + 1 ∧ ((joinR l n t r).ht = l.ht + 1 → (joinR l n t r).lf.ht < (joinR l n t r).rg.ht)
  | nil, n, t, r, _, _, h => by simp [ht] at h
  | node ll ln lt lr, n, t, r, hl, hr, h => by
    obtain ⟨b1, b2, b3, b4⟩ := hl
    have ih := fun h3 => joinR_bal lr n t r b2 hr h3
    rw [joinR]
    simp only [ht] at h
    by_cases c1 : lr.ht ≤ r.ht + 1
    · rw [if_pos c1]
      by_cases c2 : (node lr n t r).ht ≤ ll.ht + 1
      · rw [if_pos c2]
        simp only [ht, Bal, lf, rg] at c2 ⊢
        refine ⟨⟨b1, ⟨b2, hr, ?_, ?_⟩, ?_, ?_⟩, ?_, ?_, ?_⟩ <;> omega
      · rw [if_neg c2]
        simp only [ht] at c2
        cases lr with
        | nil => simp only [ht] at *; omega
        | node a an at_ b =>
          obtain ⟨e1, e2, e3, e4⟩ := b2
          simp only [turnR, turnL, ht, Bal, lf, rg] at *
          refine ⟨⟨⟨b1, e1, ?_, ?_⟩, ⟨e2, hr, ?_, ?_⟩, ?_, ?_⟩, ?_, ?_, ?_⟩ <;> omega
    · rw [if_neg c1]
      obtain ⟨i1, i2, i3, i4⟩ := ih (by omega)
      by_cases c2 : (joinR lr n t r).ht ≤ ll.ht + 1
      · rw [if_pos c2]
        simp only [ht, Bal, lf, rg]
        refine ⟨⟨b1, i1, ?_, ?_⟩, ?_, ?_, ?_⟩ <;> omega
      · rw [if_neg c2]
        generalize joinR lr n t r = x at *
        cases x with
        | nil => simp only [ht] at *; omega
        | node a an at_ b =>
          obtain ⟨e1, e2, e3, e4⟩ := i1
          simp only [turnL, ht, Bal, lf, rg] at *
          refine ⟨⟨⟨b1, e1, ?_, ?_⟩, e2, ?_, ?_⟩, ?_, ?_, ?_⟩ <;> omega
theorem joinL_bal (l : Tree) (n t : Nat) : ∀ (r : Tree), l.Bal → r.Bal → l.ht + 1 < r.ht → (joinL l n t r).Bal ∧ r.ht ≤ (joinL l n t r).ht ∧ (joinL l n t r).ht ≤ r.ht + 1 ∧ ((joinL l n t r).ht = r.ht + 1 → (joinL l n t r).rg.ht < (joinL l n t r).lf.ht)
  | nil, _, _, h => by simp [ht] at h
  | node rl rn rt rr, hl, hr, h => by
    obtain ⟨b1, b2, b3, b4⟩ := hr
    have ih := fun h3 => joinL_bal l n t rl hl b1 h3
    rw [joinL]
    simp only [ht] at h
    by_cases c1 : rl.ht ≤ l.ht + 1
    · rw [if_pos c1]
      by_cases c2 : (node l n t rl).ht ≤ rr.ht + 1
      · rw [if_pos c2]
        simp only [ht, Bal, lf, rg] at c2 ⊢
        refine ⟨⟨⟨hl, b1, ?_, ?_⟩, b2, ?_, ?_⟩, ?_, ?_, ?_⟩ <;> omega
      · rw [if_neg c2]
        simp only [ht] at c2
        cases rl with
        | nil => simp only [ht] at *; omega
        | node a an at_ b =>
          obtain ⟨e1, e2, e3, e4⟩ := b1
          simp only [turnR, turnL, ht, Bal, lf, rg] at *
          refine ⟨⟨⟨hl, e1, ?_, ?_⟩, ⟨e2, b2, ?_, ?_⟩, ?_, ?_⟩, ?_, ?_, ?_⟩ <;> omega
    · rw [if_neg c1]
      obtain ⟨i1, i2, i3, i4⟩ := ih (by omega)
      by_cases c2 : (joinL l n t rl).ht ≤ rr.ht + 1
      · rw [if_pos c2]
        simp only [ht, Bal, lf, rg]
        refine ⟨⟨i1, b2, ?_, ?_⟩, ?_, ?_, ?_⟩ <;> omega
      · rw [if_neg c2]
        generalize joinL l n t rl = x at *
        cases x with
        | nil => simp only [ht] at *; omega
        | node a an at_ b =>
          obtain ⟨e1, e2, e3, e4⟩ := i1
          simp only [turnR, ht, Bal, lf, rg] at *
          refine ⟨⟨e1, ⟨e2, b2, ?_, ?_⟩, ?_, ?_⟩, ?_, ?_, ?_⟩ <;> omega
theorem join_bal {l r : Tree} (n t : Nat) (hl : l.Bal) (hr : r.Bal) : (join l n t r).Bal ∧ max l.ht r.ht ≤ (join l n t r).ht ∧ (join l n t r).ht ≤ max l.ht r.ht + 1 := by
  unfold join
  split
  · obtain ⟨h1, h2, h3, _⟩ := joinR_bal l n t r hl hr (by assumption)
    exact ⟨h1, by omega, by omega⟩
  · split
    · obtain ⟨h1, h2, h3, _⟩ := joinL_bal l n t r hl hr (by assumption)
      exact ⟨h1, by omega, by omega⟩
    · simp only [Bal, ht]
      refine ⟨⟨hl, hr, ?_, ?_⟩, ?_, ?_⟩ <;> omega
end Tree
end Go.KL
end

section
/- Splitting and joining of trees, as lists of runs; plain. No program in sight. -/
namespace Go.KL
/-- The pieces of runs. -/
def szL : List (Nat × Nat) → Nat
  | [] => 0
  | x :: L => x.1 + szL L
theorem szL_app (A B : List (Nat × Nat)) : szL (A ++ B) = szL A + szL B := by
  induction A with
  | nil => simp [szL]
  | cons x A ih => simp [szL, ih, Nat.add_assoc]
def PosL (L : List (Nat × Nat)) : Prop := ∀ x ∈ L, 0 < x.1
theorem PosL.app {A B : List (Nat × Nat)} : PosL (A ++ B) ↔ PosL A ∧ PosL B := by
  unfold PosL
  simp only [List.mem_append]
  exact ⟨fun h => ⟨fun x hx => h x (.inl hx), fun x hx => h x (.inr hx)⟩, fun h x hx => hx.elim (h.1 x) (h.2 x)⟩
theorem PosL.cons {x : Nat × Nat} {B : List (Nat × Nat)} : PosL (x :: B) ↔ 0 < x.1 ∧ PosL B := by
  unfold PosL
  simp
/-- The first k pieces; the others. -/
def takeP : Nat → List (Nat × Nat) → List (Nat × Nat)
  | _, [] => []
  | k, x :: L => if k = 0 then [] else if k < x.1 then [(k, x.2)] else x :: takeP (k - x.1) L
def dropP : Nat → List (Nat × Nat) → List (Nat × Nat)
  | _, [] => []
  | k, x :: L => if k < x.1 then (x.1 - k, x.2) :: L else dropP (k - x.1) L
theorem takeP_zero (L : List (Nat × Nat)) : takeP 0 L = [] := by cases L <;> simp [takeP]
theorem dropP_zero {L : List (Nat × Nat)} (h : PosL L) : dropP 0 L = L := by
  cases L with
  | nil => rfl
  | cons x L =>
    have := (PosL.cons.1 h).1
    rw [dropP, if_pos this]
    rfl
theorem takeP_app {B : List (Nat × Nat)} : ∀ {A : List (Nat × Nat)} {k : Nat}, PosL A → takeP k (A ++ B) = if k ≤ szL A then takeP k A else A ++ takeP (k - szL A) B
  | [], k, _ => by
    by_cases c : k = 0
    · subst c; simp [szL, takeP_zero, takeP]
    · rw [if_neg (by simp [szL, c])]
      simp [szL]
  | x :: A, k, h => by
    obtain ⟨h1, h2⟩ := PosL.cons.1 h
    have ih := takeP_app (B := B) (A := A) (k := k - x.1) h2
    rw [List.cons_append, takeP, takeP, ih]
    by_cases c0 : k = 0
    · subst c0; simp
    · by_cases c1 : k < x.1
      · rw [if_neg c0, if_pos c1, if_neg c0, if_pos c1, if_pos (by simp only [szL]; omega)]
      · rw [if_neg c0, if_neg c1, if_neg c0, if_neg c1]
        by_cases c2 : k - x.1 ≤ szL A
        · rw [if_pos c2, if_pos (by simp only [szL]; omega)]
        · rw [if_neg c2, if_neg (by simp only [szL]; omega)]
          simp only [szL, List.cons_append]
          rw [show k - x.1 - szL A = k - (x.1 + szL A) by omega]
theorem dropP_app {B : List (Nat × Nat)} : ∀ {A : List (Nat × Nat)} {k : Nat}, dropP k (A ++ B) = if k < szL A then dropP k A ++ B else dropP (k - szL A) B
  | [], k => by simp [szL]
  | x :: A, k => by
    have ih := dropP_app (B := B) (A := A) (k := k - x.1)
    rw [List.cons_append, dropP, dropP, ih]
    by_cases c1 : k < x.1
    · rw [if_pos c1, if_pos (by simp only [szL]; omega), if_pos c1, List.cons_append]
    · rw [if_neg c1]
      by_cases c2 : k - x.1 < szL A
      · rw [if_pos c2, if_pos (by simp only [szL]; omega), if_neg c1]
      · rw [if_neg c2, if_neg (by simp only [szL]; omega)]
        simp only [szL]
        rw [show k - x.1 - szL A = k - (x.1 + szL A) by omega]
theorem takeP_all : ∀ {L : List (Nat × Nat)} {k : Nat}, PosL L → szL L ≤ k → takeP k L = L
  | [], _, _, _ => rfl
  | x :: L, k, h, hk => by
    obtain ⟨h1, h2⟩ := PosL.cons.1 h
    simp only [szL] at hk
    rw [takeP, if_neg (by omega), if_neg (by omega), takeP_all h2 (by omega)]
theorem dropP_all : ∀ {L : List (Nat × Nat)} {k : Nat}, szL L ≤ k → dropP k L = []
  | [], _, _ => rfl
  | x :: L, k, hk => by
    simp only [szL] at hk
    rw [dropP]
    by_cases c : k < x.1
    · omega
    · rw [if_neg c, dropP_all (by omega)]
/-- Runs that the machine can count, with tags that are tags. -/
structure LOk (L : List (Nat × Nat)) : Prop where
  tags : ∀ x ∈ L, x.2 < 16
  sz : szL L ≤ 1152921504606846976
  len : L.length ≤ 1152921504606846976
theorem LOk.left {A B : List (Nat × Nat)} (h : LOk (A ++ B)) : LOk A := by
  obtain ⟨h1, h2, h3⟩ := h
  rw [szL_app] at h2
  rw [List.length_append] at h3
  exact ⟨fun x hx => h1 x (List.mem_append_left _ hx), by omega, by omega⟩
theorem LOk.right {A B : List (Nat × Nat)} (h : LOk (A ++ B)) : LOk B := by
  obtain ⟨h1, h2, h3⟩ := h
  rw [szL_app] at h2
  rw [List.length_append] at h3
  exact ⟨fun x hx => h1 x (List.mem_append_right _ hx), by omega, by omega⟩
theorem LOk.eq {A B : List (Nat × Nat)} (h : LOk A) (e : A = B) : LOk B := e ▸ h
namespace Tree
theorem pcs_toL (t : Tree) : t.pcs = szL t.toL := by
  induction t with
  | nil => rfl
  | node l n t r ih1 ih2 =>
    rw [toL, szL_app, szL, pcs, ih1, ih2]
    dsimp only
    omega
theorem runs_toL (t : Tree) : t.runs = t.toL.length := by
  induction t with
  | nil => rfl
  | node l n t r ih1 ih2 =>
    rw [toL, List.length_append, List.length_cons, runs, ih1, ih2]
    omega
theorem LOk.node {l r : Tree} {n t : Nat} (h : LOk (Tree.node l n t r).toL) : t < 16 ∧ (Tree.node l n t r).pcs ≤ 1152921504606846976 ∧ (Tree.node l n t r).runs ≤ 1152921504606846976 :=
  ⟨h.tags (n, t) (by rw [Tree.toL]; simp), by rw [pcs_toL]; exact h.sz, by rw [runs_toL]; exact h.len⟩
theorem runs_zero {t : Tree} (h : t.runs = 0) : t = nil := by
  cases t with
  | nil => rfl
  | node l n t r => simp [runs] at h
theorem ht_le_runs (t : Tree) : t.ht ≤ t.runs := by
  induction t with
  | nil => exact Nat.le_refl _
  | node l n t r ih1 ih2 =>
    simp only [ht, runs]
    omega
theorem runs_le_pcs {t : Tree} (h : PosL t.toL) : t.runs ≤ t.pcs := by
  induction t with
  | nil => exact Nat.le_refl _
  | node l n t r ih1 ih2 =>
    rw [toL, PosL.app, PosL.cons] at h
    have h1 := ih1 h.1
    have h2 := ih2 h.2.2
    have h3 := h.2.1
    simp only [runs, pcs] at *
    omega
theorem cnt_le (k : Nat) (t : Tree) : t.cnt k ≤ t.pcs := by
  induction t with
  | nil => exact Nat.le_refl _
  | node l n t r ih1 ih2 =>
    simp only [cnt, pcs]
    split <;> omega
theorem split_toL : ∀ (t : Tree) (k : Nat), PosL t.toL → (split t k).1.toL = takeP k t.toL ∧ (split t k).2.toL = dropP k t.toL
  | nil, k, _ => ⟨rfl, rfl⟩
  | node l n t r, k, h => by
    have h' := h
    rw [toL, PosL.app, PosL.cons] at h'
    obtain ⟨h1, h2, h3⟩ := h'
    obtain ⟨i1, i2⟩ := split_toL l k h1
    obtain ⟨j1, j2⟩ := split_toL r (k - l.pcs - n) h3
    have hp := pcs_toL l
    rw [split, toL, takeP_app h1, dropP_app]
    dsimp only at h2
    by_cases c1 : k ≤ l.pcs
    · rw [if_pos c1, if_pos (by omega)]
      dsimp only
      refine ⟨i1, ?_⟩
      rw [toL_join, i2]
      by_cases c2 : k < szL l.toL
      · rw [if_pos c2]
      · rw [if_neg c2, dropP_all (by omega), show k - szL l.toL = 0 by omega, dropP, if_pos h2]
        rfl
    · rw [if_neg c1]
      by_cases c2 : l.pcs + n ≤ k
      · rw [if_pos c2, if_neg (by omega), if_neg (by omega)]
        dsimp only
        rw [toL_join, j1, j2, takeP, if_neg (by omega), if_neg (by dsimp only; omega), dropP, if_neg (by dsimp only; omega), hp]
        exact ⟨rfl, rfl⟩
      · rw [if_neg c2, if_neg (by omega), if_neg (by omega)]
        dsimp only
        rw [toL_join, toL_join, takeP, if_neg (by omega), if_pos (by dsimp only; omega), dropP, if_pos (by dsimp only; omega), hp]
        refine ⟨rfl, ?_⟩
        rw [show szL l.toL + n - k = n - (k - szL l.toL) by omega]
        rfl
theorem split_bal : ∀ (t : Tree) (k : Nat), t.Bal → (split t k).1.Bal ∧ (split t k).2.Bal
  | nil, k, _ => ⟨trivial, trivial⟩
  | node l n t r, k, h => by
    obtain ⟨b1, b2, b3, b4⟩ := h
    obtain ⟨i1, i2⟩ := split_bal l k b1
    obtain ⟨j1, j2⟩ := split_bal r (k - l.pcs - n) b2
    rw [split]
    split
    · exact ⟨i1, (join_bal n t i2 b2).1⟩
    · split
      · exact ⟨(join_bal n t b1 j1).1, j2⟩
      · exact ⟨(join_bal _ t b1 (show Bal nil from trivial)).1, (join_bal _ t (show Bal nil from trivial) b2).1⟩
theorem takeLast_node {l : Tree} {n t : Nat} {r : Tree} (h : r ≠ nil) : takeLast (node l n t r) = (join l n t (takeLast r).1, (takeLast r).2) := by
  cases r with
  | nil => exact absurd rfl h
  | node a b c d => rfl
theorem takeLast_toL : ∀ (t : Tree), t ≠ nil → t.toL = (takeLast t).1.toL ++ [(takeLast t).2]
  | nil, h => absurd rfl h
  | node l n t r, _ => by
    by_cases c : r = nil
    · subst c
      simp [takeLast, toL]
    · have ih := takeLast_toL r c
      rw [takeLast_node c]
      dsimp only
      rw [toL_join, toL]
      conv => lhs; rw [ih]
      simp
theorem takeLast_bal : ∀ (t : Tree), t ≠ nil → t.Bal → (takeLast t).1.Bal
  | nil, h, _ => absurd rfl h
  | node l n t r, _, hb => by
    obtain ⟨b1, b2, b3, b4⟩ := hb
    by_cases c : r = nil
    · subst c
      exact b1
    · rw [takeLast_node c]
      exact (join_bal n t b1 (takeLast_bal r c b2)).1
theorem first_node {l : Tree} {n t : Nat} {r : Tree} (h : l ≠ nil) : first (node l n t r) = first l := by
  cases l with
  | nil => exact absurd rfl h
  | node a b c d => rfl
theorem first_toL : ∀ (t : Tree), t ≠ nil → ∃ n L, t.toL = (n, first t) :: L
  | nil, h => absurd rfl h
  | node l n t r, _ => by
    by_cases c : l = nil
    · subst c
      exact ⟨n, r.toL, rfl⟩
    · obtain ⟨m, L, ih⟩ := first_toL l c
      rw [first_node c, toL, ih]
      exact ⟨m, _, rfl⟩
theorem grow_node {l : Tree} {n t : Nat} {r : Tree} {k : Nat} (h : l ≠ nil) : grow (node l n t r) k = node (grow l k) n t r := by
  cases l with
  | nil => exact absurd rfl h
  | node a b c d => rfl
theorem grow_toL {k : Nat} : ∀ (t : Tree) {n u : Nat} {L : List (Nat × Nat)}, t.toL = (n, u) :: L → (grow t k).toL = (n + k, u) :: L
  | nil, _, _, _, h => by simp [toL] at h
  | node l n t r, m, u, L, h => by
    by_cases c : l = nil
    · subst c
      simp only [toL, List.nil_append, List.cons.injEq, Prod.mk.injEq] at h
      obtain ⟨⟨rfl, rfl⟩, rfl⟩ := h
      simp [grow, toL]
    · obtain ⟨m', L', e⟩ := first_toL l c
      rw [toL, e] at h
      simp only [List.cons_append, List.cons.injEq, Prod.mk.injEq] at h
      obtain ⟨⟨rfl, rfl⟩, rfl⟩ := h
      rw [grow_node c, toL, grow_toL l e]
      rfl
theorem grow_ht {k : Nat} : ∀ (t : Tree), (grow t k).ht = t.ht
  | nil => rfl
  | node l n t r => by
    by_cases c : l = nil
    · subst c; rfl
    · rw [grow_node c, ht, ht, grow_ht l]
theorem grow_bal {k : Nat} : ∀ (t : Tree), t.Bal → (grow t k).Bal
  | nil, _ => trivial
  | node l n t r, h => by
    obtain ⟨b1, b2, b3, b4⟩ := h
    by_cases c : l = nil
    · subst c; exact ⟨b1, b2, b3, b4⟩
    · rw [grow_node c]
      exact ⟨grow_bal l b1, b2, by rw [grow_ht]; exact b3, by rw [grow_ht]; exact b4⟩
theorem leaf_toL (n t : Nat) : (leaf n t).toL = if n = 0 then [] else [(n, t)] := by
  unfold leaf
  split <;> rfl
theorem leaf_bal (n t : Nat) : (leaf n t).Bal := by
  unfold leaf
  split
  · trivial
  · exact ⟨trivial, trivial, by simp [ht], by simp [ht]⟩
end Tree
/-- Runs behind runs; those of one tag that meet become one. -/
def catL (A B : List (Nat × Nat)) : List (Nat × Nat) :=
  match A.getLast? with
  | none => B
  | some x => match B with
    | [] => A
    | y :: B' => if x.2 = y.2 then A.dropLast ++ (y.1 + x.1, y.2) :: B' else A ++ y :: B'
theorem catL_nil (A : List (Nat × Nat)) : catL A [] = A := by
  unfold catL
  cases h : A.getLast? with
  | none => exact (List.getLast?_eq_none_iff.1 h).symm
  | some x => rfl
theorem catL_snoc (A : List (Nat × Nat)) (x y : Nat × Nat) (B : List (Nat × Nat)) : catL (A ++ [x]) (y :: B) = if x.2 = y.2 then A ++ (y.1 + x.1, y.2) :: B else A ++ [x] ++ y :: B := by
  unfold catL
  rw [List.getLast?_concat]
  dsimp only
  rw [List.dropLast_concat]
namespace Tree
theorem concat_nil (a : Tree) : concat a nil = a := by cases a <;> rfl
theorem concat_eq {a b : Tree} (ha : a ≠ nil) (hb : b ≠ nil) : concat a b = if (takeLast a).2.2 = first b then
      if (takeLast a).1.runs = 0 then grow b (takeLast a).2.1
      else join (takeLast (takeLast a).1).1 (takeLast (takeLast a).1).2.1 (takeLast (takeLast a).1).2.2 (grow b (takeLast a).2.1)
    else join (takeLast a).1 (takeLast a).2.1 (takeLast a).2.2 b := by
  cases a with
  | nil => exact absurd rfl ha
  | node _ _ _ _ =>
    cases b with
    | nil => exact absurd rfl hb
    | node _ _ _ _ => rfl
theorem concat_toL (a b : Tree) : (concat a b).toL = catL a.toL b.toL := by
  by_cases ca : a = nil
  · subst ca
    rfl
  by_cases cb : b = nil
  · subst cb
    rw [concat_nil]
    exact (catL_nil _).symm
  rw [concat_eq ca cb]
  obtain ⟨n, L, hf⟩ := first_toL b cb
  have hl := takeLast_toL a ca
  have e : catL a.toL b.toL = if (takeLast a).2.2 = first b then (takeLast a).1.toL ++ (n + (takeLast a).2.1, first b) :: L else a.toL ++ b.toL := by
    rw [hf, hl, catL_snoc]
  rw [e]
  by_cases c : (takeLast a).2.2 = first b
  · rw [if_pos c, if_pos c]
    by_cases c2 : (takeLast a).1.runs = 0
    · rw [if_pos c2, runs_zero c2, grow_toL b hf]
      rfl
    · rw [if_neg c2, toL_join, grow_toL b hf]
      have hl2 := takeLast_toL (takeLast a).1 (fun z => c2 (by rw [z]; rfl))
      conv => rhs; rw [hl2]
      rw [List.append_assoc]
      rfl
  · rw [if_neg c, if_neg c, toL_join]
    conv => rhs; rw [hl]
    rw [List.append_assoc]
    rfl
theorem concat_bal {a b : Tree} (ha : a.Bal) (hb : b.Bal) : (concat a b).Bal := by
  by_cases ca : a = nil
  · subst ca
    exact hb
  by_cases cb : b = nil
  · subst cb
    rw [concat_nil]; exact ha
  rw [concat_eq ca cb]
  have h1 := takeLast_bal a ca ha
  split
  · split
    · exact grow_bal b hb
    · rename_i c2
      have h2 := takeLast_bal (takeLast a).1 (fun z => c2 (by rw [z]; rfl)) h1
      exact (join_bal _ _ h2 (grow_bal b hb)).1
  · exact (join_bal _ _ h1 hb).1
end Tree
end Go.KL
end

section
/- Runs that can be counted stay so; plain. No program in sight. -/
namespace Go.KL
theorem takeP_ok : ∀ {L : List (Nat × Nat)} {k : Nat}, szL (takeP k L) ≤ szL L ∧ (takeP k L).length ≤ L.length ∧ ∀ x ∈ takeP k L, ∃ y ∈ L, x.2 = y.2
  | [], k => ⟨Nat.le_refl _, Nat.le_refl _, fun x hx => by simp [takeP] at hx⟩
  | a :: L, k => by
    obtain ⟨i1, i2, i3⟩ := takeP_ok (L := L) (k := k - a.1)
    rw [takeP]
    split
    · exact ⟨Nat.zero_le _, Nat.zero_le _, fun x hx => by simp at hx⟩
    · split
      · refine ⟨by simp only [szL]; omega, by simp, fun x hx => ?_⟩
        rw [List.mem_singleton.1 hx]
        exact ⟨a, List.mem_cons_self, rfl⟩
      · refine ⟨by simp only [szL]; omega, by simp only [List.length_cons]; omega, fun x hx => ?_⟩
        rcases List.mem_cons.1 hx with rfl | hx
        · exact ⟨x, List.mem_cons_self, rfl⟩
        · obtain ⟨y, h1, h2⟩ := i3 x hx
          exact ⟨y, List.mem_cons_of_mem _ h1, h2⟩
theorem dropP_ok : ∀ {L : List (Nat × Nat)} {k : Nat}, szL (dropP k L) ≤ szL L ∧ (dropP k L).length ≤ L.length ∧ ∀ x ∈ dropP k L, ∃ y ∈ L, x.2 = y.2
  | [], k => ⟨Nat.le_refl _, Nat.le_refl _, fun x hx => by simp [dropP] at hx⟩
  | a :: L, k => by
    obtain ⟨i1, i2, i3⟩ := dropP_ok (L := L) (k := k - a.1)
    rw [dropP]
    split
    · refine ⟨by simp only [szL]; omega, by simp, fun x hx => ?_⟩
      rcases List.mem_cons.1 hx with rfl | hx
      · exact ⟨a, List.mem_cons_self, rfl⟩
      · exact ⟨x, List.mem_cons_of_mem _ hx, rfl⟩
    · refine ⟨by simp only [szL]; omega, by simp only [List.length_cons]; omega, fun x hx => ?_⟩
      obtain ⟨y, h1, h2⟩ := i3 x hx
      exact ⟨y, List.mem_cons_of_mem _ h1, h2⟩
theorem LOk.take {L : List (Nat × Nat)} (h : LOk L) (k : Nat) : LOk (takeP k L) := by
  obtain ⟨h1, h2, h3⟩ := takeP_ok (L := L) (k := k)
  refine ⟨fun x hx => ?_, Nat.le_trans h1 h.sz, Nat.le_trans h2 h.len⟩
  obtain ⟨y, hy, e⟩ := h3 x hx
  rw [e]; exact h.tags y hy
theorem LOk.drop {L : List (Nat × Nat)} (h : LOk L) (k : Nat) : LOk (dropP k L) := by
  obtain ⟨h1, h2, h3⟩ := dropP_ok (L := L) (k := k)
  refine ⟨fun x hx => ?_, Nat.le_trans h1 h.sz, Nat.le_trans h2 h.len⟩
  obtain ⟨y, hy, e⟩ := h3 x hx
  rw [e]; exact h.tags y hy
theorem takeP_pos : ∀ {L : List (Nat × Nat)} {k : Nat}, PosL L → PosL (takeP k L)
  | [], k, _ => fun x hx => by simp [takeP] at hx
  | a :: L, k, h => by
    obtain ⟨h1, h2⟩ := PosL.cons.1 h
    have ih := takeP_pos (k := k - a.1) h2
    rw [takeP]
    split
    · exact fun x hx => by simp at hx
    · split
      · exact PosL.cons.2 ⟨by dsimp only; omega, fun x hx => by simp at hx⟩
      · exact PosL.cons.2 ⟨h1, ih⟩
theorem dropP_pos : ∀ {L : List (Nat × Nat)} {k : Nat}, PosL L → PosL (dropP k L)
  | [], k, _ => fun x hx => by simp [dropP] at hx
  | a :: L, k, h => by
    obtain ⟨h1, h2⟩ := PosL.cons.1 h
    have ih := dropP_pos (k := k - a.1) h2
    rw [dropP]
    split
    · exact PosL.cons.2 ⟨by dsimp only; omega, h2⟩
    · exact ih
theorem szL_take : ∀ {L : List (Nat × Nat)} {k : Nat}, k ≤ szL L → szL (takeP k L) = k
  | [], k, h => by simp only [szL] at h; simp only [takeP, szL]; omega
  | a :: L, k, h => by
    simp only [szL] at h
    rw [takeP]
    split
    · simp only [szL]; omega
    · split
      · simp only [szL]; omega
      · simp only [szL]
        rw [szL_take (by omega)]
        omega
theorem szL_drop : ∀ {L : List (Nat × Nat)} {k : Nat}, szL (dropP k L) = szL L - k
  | [], k => by simp [dropP, szL]
  | a :: L, k => by
    rw [dropP]
    split
    · simp only [szL]; omega
    · rw [szL_drop]
      simp only [szL]; omega
theorem catL_nil0 (B : List (Nat × Nat)) : catL [] B = B := rfl
theorem list_snoc {α : Type} (A : List α) : A = [] ∨ ∃ A' x, A = A' ++ [x] := by
  rcases List.eq_nil_or_concat A with h | ⟨L, b, h⟩
  · exact .inl h
  · exact .inr ⟨L, b, by rw [h, List.concat_eq_append]⟩
theorem szL_cat (A B : List (Nat × Nat)) : szL (catL A B) = szL A + szL B := by
  rcases list_snoc A with rfl | ⟨A', x, rfl⟩
  · rw [catL_nil0]; simp [szL]
  cases B with
  | nil => rw [catL_nil]; simp [szL]
  | cons y B =>
    rw [catL_snoc]
    split <;> simp only [szL_app, szL] <;> omega
theorem LOk.cat {A B : List (Nat × Nat)} (h : LOk (A ++ B)) : LOk (catL A B) := by
  rcases list_snoc A with rfl | ⟨A', x, rfl⟩
  · exact h
  cases B with
  | nil => rw [catL_nil]; rw [List.append_nil] at h; exact h
  | cons y B =>
    obtain ⟨h1, h2, h3⟩ := h
    rw [catL_snoc]
    split
    · refine ⟨fun z hz => ?_, ?_, ?_⟩
      · rcases List.mem_append.1 hz with hz | hz
        · exact h1 z (by simp [hz])
        · rcases List.mem_cons.1 hz with rfl | hz
          · exact h1 y (by simp)
          · exact h1 z (by simp [hz])
      · simp only [szL_app, szL] at h2 ⊢; omega
      · simp only [List.length_append, List.length_cons, List.length_nil] at h3 ⊢; omega
    · exact ⟨h1, h2, h3⟩
theorem cat_pos {A B : List (Nat × Nat)} (hA : PosL A) (hB : PosL B) : PosL (catL A B) := by
  rcases list_snoc A with rfl | ⟨A', x, rfl⟩
  · exact hB
  cases B with
  | nil => rw [catL_nil]; exact hA
  | cons y B =>
    rw [catL_snoc]
    obtain ⟨h1, h2⟩ := PosL.app.1 hA
    obtain ⟨h3, h4⟩ := PosL.cons.1 hB
    split
    · exact PosL.app.2 ⟨h1, PosL.cons.2 ⟨by dsimp only; omega, h4⟩⟩
    · exact PosL.app.2 ⟨hA, hB⟩
end Go.KL
end

section
/- Counts of tags; plain. No program in sight. -/
namespace Go.KL
/-- How many pieces have a tag. -/
def cntL (k : Nat) : List (Nat × Nat) → Nat
  | [] => 0
  | x :: L => (if k = x.2 then x.1 else 0) + cntL k L
theorem cntL_app (k : Nat) (A B : List (Nat × Nat)) : cntL k (A ++ B) = cntL k A + cntL k B := by
  induction A with
  | nil => simp [cntL]
  | cons x A ih => simp only [List.cons_append, cntL, ih]; omega
theorem cntL_le (k : Nat) (A : List (Nat × Nat)) : cntL k A ≤ szL A := by
  induction A with
  | nil => exact Nat.le_refl _
  | cons x A ih =>
    simp only [cntL, szL]
    split <;> omega
namespace Tree
theorem cnt_toL (k : Nat) (t : Tree) : t.cnt k = cntL k t.toL := by
  induction t with
  | nil => rfl
  | node l n t r ih1 ih2 =>
    rw [toL, cntL_app, cntL, cnt, ih1, ih2]
    dsimp only
    omega
def bef (tag : Nat) : Tree → Nat → Nat
  | nil, _ => 0
  | node l n t r, k => if k ≤ l.pcs then bef tag l k else l.cnt tag + (if tag = t then min (k - l.pcs) n else 0) + bef tag r (k - l.pcs - n)
theorem bef_toL (tag : Nat) : ∀ (t : Tree) (k : Nat), PosL t.toL → bef tag t k = cntL tag (takeP k t.toL)
  | nil, k, _ => rfl
  | node l n t r, k, h => by
    have h' := h
    rw [toL, PosL.app, PosL.cons] at h'
    obtain ⟨h1, h2, h3⟩ := h'
    dsimp only at h2
    have hp := pcs_toL l
    rw [bef, toL, takeP_app h1]
    by_cases c : k ≤ l.pcs
    · rw [if_pos c, if_pos (by omega), bef_toL tag l k h1]
    · rw [if_neg c, if_neg (show ¬ k ≤ szL l.toL by omega), cntL_app, ← cnt_toL, bef_toL tag r _ h3, takeP, if_neg (show ¬ k - szL l.toL = 0 by omega)]
      dsimp only
      by_cases c2 : k - szL l.toL < n
      · rw [if_pos c2, show k - l.pcs - n = 0 by omega, takeP_zero]
        simp only [cntL]
        split <;> omega
      · rw [if_neg c2, show k - l.pcs - n = k - szL l.toL - n by omega]
        simp only [cntL]
        split <;> omega
theorem bef_zero (tag : Nat) : ∀ (t : Tree), bef tag t 0 = 0
  | nil => rfl
  | node l n t r => by
    rw [bef, if_pos (Nat.zero_le _)]
    exact bef_zero tag l
theorem bef_le (tag : Nat) : ∀ (t : Tree) (k : Nat), bef tag t k ≤ t.pcs
  | nil, _ => Nat.le_refl _
  | node l n t r, k => by
    have h1 := bef_le tag l k
    have h2 := bef_le tag r (k - l.pcs - n)
    have h3 := cnt_le tag l
    rw [bef, pcs]
    split
    · omega
    · split <;> omega
end Tree
end Go.KL
end

section
/- The runs of a range of a tree, clipped; plain. No program in sight. -/
namespace Go.KL
abbrev Rn := Nat × Nat × Nat
namespace Tree
/-- The runs within a range, of a tree that begins at a piece. -/
def clip (lo hi : Nat) : Tree → Nat → List Rn
  | nil, _ => []
  | node l n t r, o => if hi ≤ o ∨ o + (node l n t r).pcs ≤ lo then [] else clip lo hi l o ++ ((if max (o + l.pcs) lo < min (o + l.pcs + n) hi then [(max (o + l.pcs) lo, min (o + l.pcs + n) hi, t)] else []) ++ clip lo hi r (o + l.pcs + n))
theorem clip_len {lo hi : Nat} : ∀ (t : Tree) (o : Nat), (clip lo hi t o).length ≤ t.runs
  | nil, _ => Nat.le_refl _
  | node l n t r, o => by
    have h1 := clip_len (lo := lo) (hi := hi) l o
    have h2 := clip_len (lo := lo) (hi := hi) r (o + l.pcs + n)
    rw [clip, runs]
    split
    · exact Nat.zero_le _
    · rw [List.length_append, List.length_append]
      split
      · simp only [List.length_cons, List.length_nil]; omega
      · simp only [List.length_nil]; omega
end Tree
/-- The runs of a list within a range, clipped; the list begins at a piece. -/
def clipL (lo hi : Nat) : List (Nat × Nat) → Nat → List Rn
  | [], _ => []
  | x :: L, o => (if max o lo < min (o + x.1) hi then [(max o lo, min (o + x.1) hi, x.2)] else []) ++ clipL lo hi L (o + x.1)
theorem clipL_app {lo hi : Nat} {B : List (Nat × Nat)} : ∀ {A : List (Nat × Nat)} {o : Nat}, clipL lo hi (A ++ B) o = clipL lo hi A o ++ clipL lo hi B (o + szL A)
  | [], o => by simp [clipL, szL]
  | x :: A, o => by
    rw [List.cons_append, clipL, clipL, clipL_app (A := A)]
    simp only [szL, List.append_assoc]
    rw [show o + x.1 + szL A = o + (x.1 + szL A) by omega]
theorem clipL_out {lo hi : Nat} : ∀ {L : List (Nat × Nat)} {o : Nat}, (hi ≤ o ∨ o + szL L ≤ lo) → clipL lo hi L o = []
  | [], o, _ => rfl
  | x :: L, o, h => by
    simp only [szL] at h
    rw [clipL, if_neg (by omega), clipL_out (by omega)]
    rfl
theorem Tree.clip_toL {lo hi : Nat} : ∀ (t : Tree) (o : Nat), clip lo hi t o = clipL lo hi t.toL o
  | nil, o => rfl
  | node l n t r, o => by
    have hp := pcs_toL l
    by_cases c : hi ≤ o ∨ o + (node l n t r).pcs ≤ lo
    · rw [clip, if_pos c, clipL_out (by rw [← pcs_toL]; exact c)]
    · rw [clip, if_neg c, toL, clipL_app, clipL, clip_toL l, clip_toL r, hp]
end Go.KL
end

section
/- Runs as functions from pieces to tags; plain. No program in sight. -/
namespace Go.KL
/-- The tag of a piece. -/
def tagL : List (Nat × Nat) → Nat → Nat
  | [], _ => 0
  | x :: L, i => if i < x.1 then x.2 else tagL L (i - x.1)
theorem tagL_app {B : List (Nat × Nat)} : ∀ {A : List (Nat × Nat)} {i : Nat}, tagL (A ++ B) i = if i < szL A then tagL A i else tagL B (i - szL A)
  | [], i => by simp [szL]
  | x :: A, i => by
    rw [List.cons_append, tagL, tagL, szL, tagL_app (A := A)]
    by_cases h : i < x.1
    · rw [if_pos h, if_pos h, if_pos (by omega)]
    · rw [if_neg h, if_neg h]
      by_cases h2 : i - x.1 < szL A
      · rw [if_pos h2, if_pos (by omega)]
      · rw [if_neg h2, if_neg (by omega), Nat.sub_sub]
theorem tagL_out : ∀ {L : List (Nat × Nat)} {i : Nat}, szL L ≤ i → tagL L i = 0
  | [], i, _ => rfl
  | x :: L, i, h => by
    simp only [szL] at h
    rw [tagL, if_neg (by omega), tagL_out (by omega)]
theorem tagL_take : ∀ {L : List (Nat × Nat)} {k i : Nat}, i < k → tagL (takeP k L) i = tagL L i
  | [], k, i, _ => rfl
  | x :: L, k, i, h => by
    rw [takeP, if_neg (by omega)]
    by_cases h1 : k < x.1
    · rw [if_pos h1]
      show (if i < k then x.2 else tagL [] (i - k)) = (if i < x.1 then x.2 else tagL L (i - x.1))
      rw [if_pos h, if_pos (by omega)]
    · rw [if_neg h1, tagL, tagL]
      by_cases h2 : i < x.1
      · rw [if_pos h2, if_pos h2]
      · rw [if_neg h2, if_neg h2, tagL_take (by omega)]
theorem tagL_drop : ∀ {L : List (Nat × Nat)} {k i : Nat}, tagL (dropP k L) i = tagL L (k + i)
  | [], k, i => rfl
  | x :: L, k, i => by
    rw [dropP, tagL]
    by_cases h1 : k < x.1
    · rw [if_pos h1, tagL]
      simp only
      by_cases h2 : i < x.1 - k
      · rw [if_pos h2, if_pos (by omega)]
      · rw [if_neg h2, if_neg (by omega)]
        congr 1
        omega
    · rw [if_neg h1, if_neg (by omega), tagL_drop]
      congr 1
      omega
theorem tagL_cat (A B : List (Nat × Nat)) (i : Nat) : tagL (catL A B) i = if i < szL A then tagL A i else tagL B (i - szL A) := by
  rcases list_snoc A with rfl | ⟨A', x, rfl⟩
  · rw [catL_nil0]; simp [szL]
  cases B with
  | nil =>
    rw [catL_nil]
    split
    · rfl
    · rw [tagL_out (by omega)]; rfl
  | cons y B =>
    rw [catL_snoc]
    have hs : szL (A' ++ [x]) = szL A' + x.1 := by rw [szL_app]; simp [szL]
    by_cases h : x.2 = y.2
    · have e1 : ∀ j, tagL ((y.1 + x.1, y.2) :: B) j = if j < y.1 + x.1 then y.2 else tagL B (j - (y.1 + x.1)) := fun j => rfl
      have e2 : ∀ j, tagL [x] j = if j < x.1 then x.2 else 0 := fun j => rfl
      have e3 : ∀ j, tagL (y :: B) j = if j < y.1 then y.2 else tagL B (j - y.1) := fun j => rfl
      rw [if_pos h, tagL_app, tagL_app, hs, e1, e2, e3]
      by_cases h1 : i < szL A'
      · rw [if_pos h1, if_pos h1, if_pos (by omega)]
      · rw [if_neg h1, if_neg h1]
        by_cases h2 : i < szL A' + x.1
        · rw [if_pos h2, if_pos (by omega), if_pos (by omega), h]
        · rw [if_neg h2]
          by_cases h3 : i - (szL A' + x.1) < y.1
          · rw [if_pos h3, if_pos (by omega)]
          · rw [if_neg h3, if_neg (by omega)]
            congr 1
            omega
    · rw [if_neg h, tagL_app]
/-- Neighbors differ. -/
def Can : List (Nat × Nat) → Prop
  | [] => True
  | x :: L => 0 < x.1 ∧ (∀ y ∈ L.head?, y.2 ≠ x.2) ∧ Can L
theorem Can.pos : ∀ {L : List (Nat × Nat)}, Can L → PosL L
  | [], _ => fun x hx => by simp at hx
  | x :: L, h => PosL.cons.2 ⟨h.1, h.2.2.pos⟩
theorem Can.app : ∀ {A B : List (Nat × Nat)}, Can (A ++ B) ↔ Can A ∧ Can B ∧ ∀ x ∈ A.getLast?, ∀ y ∈ B.head?, y.2 ≠ x.2
  | [], B => by simp [Can]
  | [x], B => by
    simp only [List.singleton_append, Can, List.head?_nil, Option.mem_def, reduceCtorEq, false_implies, implies_true, and_true, List.getLast?_singleton, Option.some.injEq, forall_eq']
    constructor
    · rintro ⟨h1, h2, h3⟩; exact ⟨h1, h3, h2⟩
    · rintro ⟨h1, h3, h2⟩; exact ⟨h1, h2, h3⟩
  | x :: x' :: A, B => by
    have ih := Can.app (A := x' :: A) (B := B)
    simp only [List.cons_append] at ih ⊢
    rw [Can, ih, Can]
    simp only [List.head?_cons, List.getLast?_cons_cons]
    constructor
    · rintro ⟨h1, h2, h3, h4, h5⟩; exact ⟨⟨h1, h2, h3⟩, h4, h5⟩
    · rintro ⟨⟨h1, h2, h3⟩, h4, h5⟩; exact ⟨h1, h2, h3, h4, h5⟩
theorem takeP_head {L : List (Nat × Nat)} {k : Nat} : ∀ y ∈ (takeP k L).head?, ∃ z ∈ L.head?, y.2 = z.2 := by
  cases L with
  | nil => intro y hy; simp [takeP] at hy
  | cons x L =>
    intro y hy
    refine ⟨x, rfl, ?_⟩
    rw [takeP] at hy
    split at hy
    · simp at hy
    · split at hy <;> simp at hy <;> rw [← hy]
theorem Can.take : ∀ {L : List (Nat × Nat)} {k : Nat}, Can L → Can (takeP k L)
  | [], k, _ => trivial
  | x :: L, k, h => by
    rw [takeP]
    split
    · trivial
    · split
      · exact ⟨by dsimp only; omega, by simp, trivial⟩
      · refine ⟨h.1, fun y hy => ?_, h.2.2.take⟩
        obtain ⟨z, hz, e⟩ := takeP_head y hy
        rw [e]
        exact h.2.1 z hz
theorem Can.drop : ∀ {L : List (Nat × Nat)} {k : Nat}, Can L → Can (dropP k L)
  | [], k, _ => trivial
  | x :: L, k, h => by
    rw [dropP]
    split
    · exact ⟨by dsimp only; omega, h.2.1, h.2.2⟩
    · exact h.2.2.drop
theorem Can.cat {A B : List (Nat × Nat)} (hA : Can A) (hB : Can B) : Can (catL A B) := by
  rcases list_snoc A with rfl | ⟨A', x, rfl⟩
  · exact hB
  cases B with
  | nil => rw [catL_nil]; exact hA
  | cons y B =>
    rw [catL_snoc]
    obtain ⟨h1, h2, h3⟩ := Can.app.1 hA
    split
    · rename_i h
      refine Can.app.2 ⟨h1, ⟨by have := hB.1; dsimp only; omega, hB.2.1, hB.2.2⟩, fun z hz u hu => ?_⟩
      simp at hu
      rw [← hu]
      simp only
      rw [← h]
      exact h3 z hz x rfl
    · rename_i h
      refine Can.app.2 ⟨hA, hB, fun z hz u hu => ?_⟩
      simp at hz hu
      rw [← hu, ← hz]
      exact fun e => h e.symm
/-- The runs of a function on a range. -/
def Rns (f : Nat → Nat) : Nat → Nat → List Rn → Prop
  | lo, hi, [] => lo = hi
  | lo, hi, x :: R => x.1 = lo ∧ x.1 < x.2.1 ∧ (∀ i, x.1 ≤ i → i < x.2.1 → f i = x.2.2) ∧ (∀ y ∈ R.head?, y.2.2 ≠ x.2.2) ∧ Rns f x.2.1 hi R
theorem Rns.le {f : Nat → Nat} : ∀ {R : List Rn} {lo hi : Nat}, Rns f lo hi R → lo ≤ hi
  | [], lo, hi, h => Nat.le_of_eq h
  | x :: R, lo, hi, h => by
    have := h.2.2.2.2.le
    have h1 := h.1
    have h2 := h.2.1
    omega
theorem Rns.congr {f g : Nat → Nat} : ∀ {R : List Rn} {lo hi : Nat}, Rns f lo hi R → (∀ i, lo ≤ i → i < hi → f i = g i) → Rns g lo hi R
  | [], lo, hi, h, _ => h
  | x :: R, lo, hi, h, e => by
    have hl := h.2.2.2.2.le
    have h1 := h.1
    have h2 := h.2.1
    exact ⟨h.1, h.2.1, fun i hi1 hi2 => by rw [← e i (by omega) (by omega)]; exact h.2.2.1 i hi1 hi2, h.2.2.2.1, h.2.2.2.2.congr fun i hi1 hi2 => e i (by omega) hi2⟩
theorem Rns.uniq {f : Nat → Nat} : ∀ {R R' : List Rn} {lo hi : Nat}, Rns f lo hi R → Rns f lo hi R' → R = R'
  | [], [], _, _, _, _ => rfl
  | [], y :: R', lo, hi, h, k => by
    have h1 : lo = hi := h
    have := k.2.2.2.2.le
    have k1 := k.1
    have k2 := k.2.1
    omega
  | x :: R, [], lo, hi, h, k => by
    have h1 : lo = hi := k
    have := h.2.2.2.2.le
    have k1 := h.1
    have k2 := h.2.1
    omega
  | x :: R, y :: R', lo, hi, h, k => by
    have key : ∀ {x y : Rn} {R R' : List Rn}, Rns f lo hi (x :: R) → Rns f lo hi (y :: R') → x.2.1 < y.2.1 → False := by
      intro x y R R' h k hlt
      have h1 := h.1
      have h2 := h.2.1
      have k1 := k.1
      have k2 := k.2.2.1 x.2.1 (by omega) hlt
      have k3 := k.2.2.1 x.1 (by omega) (by omega)
      have h3 := h.2.2.1 x.1 (Nat.le_refl _) h2
      have hle := k.2.2.2.2.le
      cases R with
      | nil =>
        have : x.2.1 = hi := h.2.2.2.2
        omega
      | cons z R =>
        have h4 := h.2.2.2.1 z rfl
        have h5 := h.2.2.2.2
        have h6 := h5.2.2.1 z.1 (Nat.le_refl _) h5.2.1
        rw [h5.1] at h6
        exact h4 (by rw [← h6, k2, ← k3, h3])
    have e : x.2.1 = y.2.1 := by
      rcases Nat.lt_trichotomy x.2.1 y.2.1 with c | c | c
      · exact absurd (key h k c) id
      · exact c
      · exact absurd (key k h c) id
    have e1 : x.1 = y.1 := by rw [h.1, k.1]
    have e2 : x.2.2 = y.2.2 := by
      rw [← h.2.2.1 x.1 (Nat.le_refl _) h.2.1, ← k.2.2.1 y.1 (Nat.le_refl _) k.2.1, e1]
    have e3 : x = y := Prod.ext e1 (Prod.ext e e2)
    have h5 := h.2.2.2.2
    rw [e] at h5
    rw [e3, h5.uniq k.2.2.2.2]
/-- Runs with one behind them. -/
def jn (R : List Rn) (x : Rn) : List Rn :=
  if x.2.1 ≤ x.1 then R else match R.getLast? with
    | none => [x]
    | some y => if y.2.2 = x.2.2 then R.dropLast ++ [(y.1, x.2.1, x.2.2)] else R ++ [x]
theorem jn_nil (x : Rn) (h : x.1 < x.2.1) : jn [] x = [x] := by
  rw [jn, if_neg (by omega)]
  rfl
theorem jn_snoc (R : List Rn) (y x : Rn) (h : x.1 < x.2.1) : jn (R ++ [y]) x = if y.2.2 = x.2.2 then R ++ [(y.1, x.2.1, x.2.2)] else R ++ [y] ++ [x] := by
  rw [jn, if_neg (by omega)]
  simp
theorem Rns.app {f : Nat → Nat} : ∀ {A B : List Rn} {lo m hi : Nat}, Rns f lo m A → Rns f m hi B → (∀ x ∈ A.getLast?, ∀ y ∈ B.head?, y.2.2 ≠ x.2.2) → Rns f lo hi (A ++ B)
  | [], B, lo, m, hi, h, k, _ => by
    have h1 : lo = m := h
    rw [h1]
    exact k
  | [x], B, lo, m, hi, h, k, d => by
    have h1 : x.2.1 = m := h.2.2.2.2
    refine ⟨h.1, h.2.1, h.2.2.1, fun y hy => d x rfl y hy, ?_⟩
    rw [h1]
    exact k
  | x :: x' :: A, B, lo, m, hi, h, k, d => by
    refine ⟨h.1, h.2.1, h.2.2.1, h.2.2.2.1, ?_⟩
    exact (h.2.2.2.2.app k (by simpa [List.getLast?_cons_cons] using d) : Rns f x.2.1 hi ((x' :: A) ++ B))
theorem Rns.left {f : Nat → Nat} : ∀ {A B : List Rn} {lo hi : Nat}, Rns f lo hi (A ++ B) → ∃ m, Rns f lo m A ∧ Rns f m hi B ∧ ∀ x ∈ A.getLast?, ∀ y ∈ B.head?, y.2.2 ≠ x.2.2
  | [], B, lo, hi, h => ⟨lo, rfl, h, by simp⟩
  | [x], B, lo, hi, h => ⟨x.2.1, ⟨h.1, h.2.1, h.2.2.1, by simp, rfl⟩, h.2.2.2.2, fun z hz y hy => by
      simp at hz
      subst hz
      exact h.2.2.2.1 y hy⟩
  | x :: x' :: A, B, lo, hi, h => by
    obtain ⟨m, h1, h2, h3⟩ := Rns.left (A := x' :: A) h.2.2.2.2
    exact ⟨m, ⟨h.1, h.2.1, h.2.2.1, h.2.2.2.1, h1⟩, h2, by simpa [List.getLast?_cons_cons] using h3⟩
theorem Rns.jn {f : Nat → Nat} {R : List Rn} {lo m m' t : Nat} (h : Rns f lo m R) (hm : m ≤ m') (ht : ∀ i, m ≤ i → i < m' → f i = t) : Rns f lo m' (KL.jn R (m, m', t)) := by
  by_cases c : m = m'
  · subst c
    rw [KL.jn, if_pos (Nat.le_refl _)]
    exact h
  · have hlt : m < m' := by omega
    rcases List.eq_nil_or_concat R with e | ⟨R', y, e⟩
    · subst e
      have h1 : lo = m := h
      rw [jn_nil _ hlt]
      exact ⟨h1.symm, hlt, ht, by simp, rfl⟩
    · rw [List.concat_eq_append] at e
      subst e
      rw [jn_snoc _ _ _ hlt]
      obtain ⟨k, h1, h2, h3⟩ := h.left
      have h4 : y.2.1 = m := h2.2.2.2.2
      split
      · rename_i c2
        refine h1.app (B := [(y.1, m', t)]) ⟨h2.1, by have := h2.2.1; dsimp only; omega, fun i hi1 hi2 => ?_, by simp, rfl⟩ (fun x hx z hz => ?_)
        · by_cases c3 : i < m
          · rw [h2.2.2.1 i hi1 (by omega)]; exact c2
          · exact ht i (by omega) hi2
        · have c3 : y.2.2 = t := c2
          simp at hz
          subst hz
          simp only
          rw [← c3]
          exact h3 x hx y rfl
      · rename_i c2
        refine h.app (B := [(m, m', t)]) ⟨rfl, hlt, ht, by simp, rfl⟩ (fun x hx z hz => ?_)
        simp at hx hz
        subst hx hz
        exact fun e => c2 e.symm
/-- The runs, by their pieces. -/
def rnsK (f : Nat → Nat) (lo : Nat) : Nat → List Rn
  | 0 => []
  | k + 1 => jn (rnsK f lo k) (lo + k, lo + k + 1, f (lo + k))
def rns (f : Nat → Nat) (lo hi : Nat) : List Rn := rnsK f lo (hi - lo)
theorem rnsK_ok (f : Nat → Nat) (lo : Nat) : ∀ k, Rns f lo (lo + k) (rnsK f lo k)
  | 0 => rfl
  | k + 1 => (rnsK_ok f lo k).jn (by omega) fun i h1 h2 => by rw [show i = lo + k by omega]
theorem rns_ok {f : Nat → Nat} {lo hi : Nat} (h : lo ≤ hi) : Rns f lo hi (rns f lo hi) := by
  have := rnsK_ok f lo (hi - lo)
  rw [show lo + (hi - lo) = hi by omega] at this
  exact this
theorem Rns.eq {f : Nat → Nat} {lo hi : Nat} {R : List Rn} (h : Rns f lo hi R) : R = rns f lo hi := h.uniq (rns_ok h.le)
theorem rns_congr {f g : Nat → Nat} {lo hi : Nat} (h : lo ≤ hi) (e : ∀ i, lo ≤ i → i < hi → f i = g i) : rns f lo hi = rns g lo hi := ((rns_ok h).congr e).eq
/-- How many runs there are. -/
def nbd (f : Nat → Nat) : Nat → Nat
  | 0 => 0
  | k + 1 => nbd f k + if k = 0 ∨ f (k - 1) ≠ f k then 1 else 0
theorem rnsK_len (f : Nat → Nat) : ∀ k, (rnsK f 0 k).length = nbd f k ∧ ∀ x ∈ (rnsK f 0 k).getLast?, k ≠ 0 ∧ x.2.2 = f (k - 1)
  | 0 => ⟨rfl, by simp [rnsK]⟩
  | k + 1 => by
    obtain ⟨h1, h2⟩ := rnsK_len f k
    rw [rnsK, nbd]
    have hlt : (0 + k, 0 + k + 1, f (0 + k)).1 < (0 + k, 0 + k + 1, f (0 + k)).2.1 := by simp
    rcases List.eq_nil_or_concat (rnsK f 0 k) with e | ⟨R', y, e⟩
    · have hk : k = 0 := by
        by_cases c : k = 0
        · exact c
        · have := rnsK_ok f 0 k
          rw [e] at this
          have h3 : 0 = 0 + k := this
          omega
      subst hk
      rw [e, jn_nil _ hlt]
      rw [e] at h1
      simp [← h1]
    · rw [List.concat_eq_append] at e
      rw [e] at h1 h2 ⊢
      obtain ⟨h3, h4⟩ := h2 y (by simp)
      rw [jn_snoc _ _ _ hlt]
      simp only [Nat.zero_add]
      by_cases c : y.2.2 = f k
      · rw [if_pos c, if_neg (by rw [← h4]; simp [h3, c]), ← h1]
        simp
      · rw [if_neg c, if_pos (by rw [← h4]; exact .inr c), ← h1]
        simp
theorem rns_len (f : Nat → Nat) (n : Nat) : (rns f 0 n).length = nbd f n := by
  rw [rns, Nat.sub_zero]
  exact (rnsK_len f n).1
/-- A range has a tag. -/
def setf (f : Nat → Nat) (lo hi t : Nat) : Nat → Nat := fun i => if lo ≤ i ∧ i < hi then t else f i
theorem nbd_set (f : Nat → Nat) (lo hi t : Nat) : ∀ n, nbd (setf f lo hi t) n ≤ nbd f n + (if lo < n then 1 else 0) + (if hi < n then 1 else 0)
  | 0 => by simp [nbd]
  | n + 1 => by
    have ih := nbd_set f lo hi t n
    rw [nbd, nbd]
    by_cases c0 : n = 0
    · subst c0
      simp only [true_or, if_true] at *
      (repeat' split at ih) <;> (repeat' split) <;> omega
    by_cases c1 : n = lo
    · rw [if_pos (show lo < n + 1 by omega)]
      rw [if_neg (show ¬ lo < n by omega)] at ih
      (repeat' split at ih) <;> (repeat' split) <;> omega
    by_cases c2 : n = hi
    · rw [if_pos (show hi < n + 1 by omega)]
      rw [if_neg (show ¬ hi < n by omega)] at ih
      (repeat' split at ih) <;> (repeat' split) <;> omega
    have e : (if n = 0 ∨ setf f lo hi t (n - 1) ≠ setf f lo hi t n then 1 else 0) ≤ (if n = 0 ∨ f (n - 1) ≠ f n then 1 else 0) := by
      unfold setf
      by_cases c3 : lo ≤ n ∧ n < hi
      · rw [if_pos c3, if_pos (show lo ≤ n - 1 ∧ n - 1 < hi by omega)]
        simp [c0]
      · rw [if_neg c3, if_neg (show ¬ (lo ≤ n - 1 ∧ n - 1 < hi) by omega)]
        exact Nat.le_refl _
    (repeat' split at ih) <;> (repeat' split) <;> (repeat' split at e) <;> omega
theorem nbd_set2 (f : Nat → Nat) (lo hi t n : Nat) : nbd (setf f lo hi t) n ≤ nbd f n + 2 := by
  have := nbd_set f lo hi t n
  (repeat' split at this) <;> omega
/-- How many of the first pieces have a tag. -/
def cntf (f : Nat → Nat) (t : Nat) : Nat → Nat
  | 0 => 0
  | k + 1 => cntf f t k + if f k = t then 1 else 0
theorem cntf_add (f : Nat → Nat) (t a : Nat) : ∀ b, cntf f t (a + b) = cntf f t a + cntf (fun i => f (a + i)) t b
  | 0 => rfl
  | b + 1 => by
    rw [← Nat.add_assoc, cntf, cntf_add f t a b, cntf, Nat.add_assoc]
theorem cntf_const {f : Nat → Nat} {t u : Nat} : ∀ {k : Nat}, (∀ i, i < k → f i = u) → cntf f t k = if t = u then k else 0
  | 0, _ => by simp [cntf]
  | k + 1, h => by
    rw [cntf, cntf_const (k := k) (fun i hi => h i (by omega)), h k (by omega)]
    by_cases c : t = u
    · subst c; simp
    · rw [if_neg c, if_neg c, if_neg (fun e => c e.symm)]
theorem cntf_congr {f g : Nat → Nat} {t : Nat} : ∀ {k : Nat}, (∀ i, i < k → f i = g i) → cntf f t k = cntf g t k
  | 0, _ => rfl
  | k + 1, h => by rw [cntf, cntf, cntf_congr (k := k) (fun i hi => h i (by omega)), h k (by omega)]
theorem cntf_le (f : Nat → Nat) (t : Nat) : ∀ k, cntf f t k ≤ k
  | 0 => Nat.le_refl _
  | k + 1 => by
    have := cntf_le f t k
    rw [cntf]
    split <;> omega
theorem cntf_full (f : Nat → Nat) (t : Nat) : ∀ k, cntf f t k = k ↔ ∀ i, i < k → f i = t
  | 0 => ⟨fun _ i h => absurd h (by omega), fun _ => rfl⟩
  | k + 1 => by
    have := cntf_le f t k
    have ih := cntf_full f t k
    rw [cntf]
    constructor
    · intro h i hi
      split at h
      · rename_i c
        by_cases e : i = k
        · rw [e]; exact c
        · exact ih.1 (by omega) i (by omega)
      · omega
    · intro h
      rw [if_pos (h k (by omega)), ih.2 fun i hi => h i (by omega)]
theorem cntf_range (f : Nat → Nat) (t : Nat) {lo hi : Nat} (h : lo ≤ hi) : ((cntf f t hi : Int) - (cntf f t lo : Int) = (hi : Int) - (lo : Int)) ↔ ∀ i, lo ≤ i → i < hi → f i = t := by
  obtain ⟨k, rfl⟩ : ∃ k, hi = lo + k := ⟨hi - lo, by omega⟩
  rw [cntf_add]
  have := cntf_full (fun i => f (lo + i)) t k
  constructor
  · intro e i h1 h2
    have := this.1 (by omega) (i - lo) (by omega)
    rw [show lo + (i - lo) = i by omega] at this
    exact this
  · intro e
    have := this.2 fun i hi => e (lo + i) (by omega) (by omega)
    omega
theorem cntL_take (t : Nat) : ∀ {L : List (Nat × Nat)} {k : Nat}, k ≤ szL L → cntL t (takeP k L) = cntf (tagL L) t k
  | [], k, h => by
    simp only [szL] at h
    obtain rfl : k = 0 := by omega
    rfl
  | x :: L, k, h => by
    simp only [szL] at h
    rw [takeP]
    by_cases c0 : k = 0
    · subst c0; rfl
    rw [if_neg c0]
    by_cases c1 : k < x.1
    · rw [if_pos c1, cntf_const (u := x.2) (fun i hi => by rw [tagL, if_pos (by omega)])]
      simp [cntL]
    · rw [if_neg c1, cntL, cntL_take t (by omega)]
      obtain ⟨j, rfl⟩ : ∃ j, k = x.1 + j := ⟨k - x.1, by omega⟩
      rw [cntf_add, cntf_const (f := tagL (x :: L)) (u := x.2) (fun i hi => by rw [tagL, if_pos hi]), Nat.add_sub_cancel_left]
      congr 1
      refine cntf_congr fun i _ => ?_
      rw [tagL, if_neg (by omega), Nat.add_sub_cancel_left]
theorem clipL_none {lo hi : Nat} : ∀ {L : List (Nat × Nat)} {o : Nat}, hi ≤ max o lo → clipL lo hi L o = []
  | [], _, _ => rfl
  | x :: L, o, h => by
    rw [clipL, if_neg (by omega), clipL_none (by omega)]
    rfl
theorem clipL_head {lo hi : Nat} {L : List (Nat × Nat)} {o : Nat} (hc : Can L) (h : lo ≤ o) : ∀ y ∈ (clipL lo hi L o).head?, ∃ z ∈ L.head?, y.2.2 = z.2 := by
  cases L with
  | nil => intro y hy; simp [clipL] at hy
  | cons x L =>
    intro y hy
    refine ⟨x, rfl, ?_⟩
    have := hc.1
    by_cases c : o < hi
    · rw [clipL, if_pos (by omega)] at hy
      simp at hy
      rw [← hy]
    · rw [clipL_none (by omega)] at hy
      simp at hy
theorem clipL_rns {lo hi : Nat} : ∀ {L : List (Nat × Nat)} {o : Nat} {f : Nat → Nat}, Can L → (∀ i, o ≤ i → i < o + szL L → f i = tagL L (i - o)) → Rns f (max o lo) (max (max o lo) (min (o + szL L) hi)) (clipL lo hi L o)
  | [], o, f, _, _ => by
    rw [clipL]
    show max o lo = _
    simp only [szL]
    omega
  | x :: L, o, f, hc, hf => by
    have hx := hc.1
    have ih := clipL_rns (lo := lo) (hi := hi) (L := L) (o := o + x.1) (f := f) hc.2.2 (fun i h1 h2 => by
      rw [hf i (by omega) (by simp only [szL]; omega), tagL, if_neg (by omega), Nat.sub_sub])
    rw [clipL]
    by_cases c : max o lo < min (o + x.1) hi
    · rw [if_pos c]
      simp only [szL, List.singleton_append]
      refine ⟨rfl, c, fun i h1 h2 => ?_, fun y hy => ?_, ?_⟩
      · dsimp only at h1 h2 ⊢
        rw [hf i (by omega) (by simp only [szL]; omega), tagL, if_pos (by omega)]
      · obtain ⟨z, hz, e⟩ := clipL_head hc.2.2 (by omega) y hy
        rw [e]
        exact hc.2.1 z hz
      · dsimp only
        by_cases c2 : hi ≤ o + x.1
        · rw [clipL_none (by omega)]
          show _ = _
          omega
        · rw [show min (o + x.1) hi = max (o + x.1) lo by omega, show max (max o lo) (min (o + (x.1 + szL L)) hi) = max (max (o + x.1) lo) (min (o + x.1 + szL L) hi) by omega]
          exact ih
    · rw [if_neg c, List.nil_append]
      simp only [szL]
      by_cases c2 : hi ≤ max o lo
      · rw [clipL_none (by omega)]
        show _ = _
        omega
      · rw [show max o lo = max (o + x.1) lo by omega, show o + (x.1 + szL L) = o + x.1 + szL L by omega]
        exact ih
theorem clipL_len {hi : Nat} : ∀ {L : List (Nat × Nat)} {o : Nat}, PosL L → o + szL L ≤ hi → (clipL 0 hi L o).length = L.length
  | [], _, _, _ => rfl
  | x :: L, o, hp, h => by
    obtain ⟨h1, h2⟩ := PosL.cons.1 hp
    simp only [szL] at h
    rw [clipL, if_pos (by omega), List.length_append, clipL_len h2 (by omega)]
    simp only [List.length_cons, List.length_nil]
    omega
/-- The runs of a tree's range, and their number. -/
theorem Tree.clip_rns {t : Tree} {lo hi : Nat} (hc : Can t.toL) (h1 : lo ≤ hi) (h2 : hi ≤ t.pcs) : t.clip lo hi 0 = rns (tagL t.toL) lo hi := by
  rw [Tree.clip_toL]
  have := clipL_rns (lo := lo) (hi := hi) (o := 0) (f := tagL t.toL) hc (fun i _ _ => by rw [Nat.sub_zero])
  rw [Tree.pcs_toL] at h2
  rw [show max 0 lo = lo by omega, show max lo (min (0 + szL t.toL) hi) = hi by omega] at this
  exact this.eq
theorem Tree.runs_rns {t : Tree} (hc : Can t.toL) : t.runs = nbd (tagL t.toL) t.pcs := by
  rw [← rns_len, ← Tree.clip_rns hc (Nat.zero_le _) (Nat.le_refl _), Tree.clip_toL, clipL_len hc.pos (by rw [Tree.pcs_toL]; omega), Tree.runs_toL]
theorem Tree.bef_cntf {t : Tree} {tag k : Nat} (hc : Can t.toL) (hk : k ≤ t.pcs) : t.bef tag k = cntf (tagL t.toL) tag k := by
  rw [Tree.bef_toL _ _ _ hc.pos, cntL_take _ (by rw [← Tree.pcs_toL]; exact hk)]
end Go.KL
end

section
/- Books of transactions, as functions; plain. No program in sight. -/
namespace Go.KL
/-- A lock, or a request for one. -/
structure Lk where
  tx : Nat
  lo : Nat
  hi : Nat
  wr : Bool
deriving DecidableEq
def Lk.zero : Lk := ⟨0, 0, 0, false⟩
/-- An operation: a look or a move. -/
structure Oa where
  mv : Bool
  lo : Nat
  hi : Nat
  fr : Nat
  to : Nat
  runs : List Rn
/-- A transaction. -/
structure Tx where
  st : Nat
  locks : List Lk
  req : Lk
  ops : List Oa
def Tx.new : Tx := ⟨1, [], Lk.zero, []⟩
/-- A book; the transaction with the number k is the one at k - 1; rn: those in progress. -/
structure Bk where
  size : Nat
  C : Nat → Nat
  W : Nat → Nat
  ts : List Tx
  rn : List Nat
  q : List Nat
  log : List (Nat × List Oa)
/-- Whether two locks conflict. -/
def cfl (a b : Lk) : Bool := decide (a.tx ≠ b.tx) && ((a.wr || b.wr) && decide (max a.lo b.lo < min a.hi b.hi))
/-- Whether a range is held. -/
def Hold (L : List Lk) (lo hi : Nat) (wr : Bool) : Prop := ∀ i, lo ≤ i → i < hi → ∃ x ∈ L, (x.wr = true ∨ wr = false) ∧ x.lo ≤ i ∧ i < x.hi
noncomputable instance (L : List Lk) (lo hi : Nat) (wr : Bool) : Decidable (Hold L lo hi wr) := Classical.propDecidable _
/-- Ascending. -/
def srt (l : List Nat) : List Nat := l.mergeSort (fun x y => decide (x ≤ y))
theorem mem_srt {l : List Nat} {k : Nat} : k ∈ srt l ↔ k ∈ l := List.mem_mergeSort
def mvs (ops : List Oa) : Nat := (ops.filter (·.mv)).length
/-- The tags behind operations. -/
def ap (f : Nat → Nat) (ops : List Oa) : Nat → Nat := ops.foldl (fun f o => if o.mv then setf f o.lo o.hi o.to else f) f
/-- The tags before operations. -/
def un (f : Nat → Nat) (ops : List Oa) : Nat → Nat := ops.foldr (fun o f => if o.mv then setf f o.lo o.hi o.fr else f) f
namespace Bk
variable (A : Bk)
def tx (k : Nat) : Tx := A.ts.getD (k - 1) Tx.new
def setT (k : Nat) (t : Tx) : Bk := { A with ts := A.ts.set (k - 1) t }
/-- There is such a transaction. -/
def has (k : Nat) : Prop := 1 ≤ k ∧ k ≤ A.ts.length
instance (k : Nat) : Decidable (A.has k) := inferInstanceAs (Decidable (1 ≤ k ∧ k ≤ A.ts.length))
def state (k : Nat) : Nat := if A.has k then (A.tx k).st else 0
def owners (l : Lk) : List Nat := (srt A.rn).filter fun k => (A.tx k).locks.any fun x => cfl x l
def ahead (l : Lk) (front : List Nat) : List Nat := front.filter fun k => cfl (A.tx k).req l
def free (l : Lk) (front : List Nat) : Bool := (A.owners l).isEmpty && (A.ahead l front).isEmpty
/-- Those in the queue before one. -/
def before (k : Nat) : List Nat := A.q.takeWhile (fun j => !decide (j = k))
def waits (k : Nat) : List Nat := if (A.tx k).st ≠ 2 then [] else A.owners (A.tx k).req ++ A.ahead (A.tx k).req (A.before k)
def E (k j : Nat) : Prop := j ∈ A.waits k
/-- One waits for the other, directly or by way of others. -/
inductive R (k : Nat) : Nat → Prop
  | one {j : Nat} (h : A.E k j) : R k j
  | more {j i : Nat} (h : R k j) (g : A.E j i) : R k i
/-- In the deadlock of k. -/
def dead (k j : Nat) : Prop := A.R k j ∧ A.R j k
/-- v is the greatest number in the deadlock of k, or 0. -/
def IsVic (k v : Nat) : Prop := (v = 0 ∧ ∀ j, ¬ A.dead k j) ∨ (v ≠ 0 ∧ A.dead k v ∧ ∀ j, A.dead k j → j ≤ v)
/-- A waiting request is granted. -/
def grant (k : Nat) : Bk := A.setT k ⟨1, (A.tx k).locks ++ [(A.tx k).req], Lk.zero, (A.tx k).ops⟩
/-- The queue is examined. -/
def gr (A : Bk) : List Nat → List Nat → Bk × List Nat
  | [], still => (A, still)
  | k :: l, still => if A.free (A.tx k).req still then gr (A.grant k) l still else gr A l (still ++ [k])
/-- What an ended transaction leaves. -/
def off (k : Nat) : Bk := { A.setT k { A.tx k with locks := [] } with q := A.q.filter (fun j => !decide (j = k)), rn := A.rn.filter (fun j => !decide (j = k)) }
def release (k : Nat) : Bk := { ((A.off k).gr (A.off k).q []).1 with q := ((A.off k).gr (A.off k).q []).2 }
def abort (k : Nat) : Bk := ({ A.setT k ⟨4, (A.tx k).locks, Lk.zero, []⟩ with W := un A.W (A.tx k).ops }).release k
def commit (k : Nat) : Bk := ({ A.setT k ⟨3, (A.tx k).locks, (A.tx k).req, []⟩ with C := ap A.C (A.tx k).ops, log := A.log ++ [(k, (A.tx k).ops)] }).release k
def begin : Bk := { A with ts := A.ts ++ [Tx.new], rn := A.rn ++ [A.ts.length + 1] }
/-- How many locks and requests there are. -/
def count : Nat := (A.rn.map fun k => (A.tx k).locks.length).sum + A.q.length
def moves : Nat := (A.rn.map fun k => mvs (A.tx k).ops).sum
def room : Nat := (4096 - nbd A.C A.size - 2 * A.moves) / 2
/-- The request of a transaction waits. -/
def wait (k : Nat) (l : Lk) : Bk := { A.setT k ⟨2, (A.tx k).locks, l, (A.tx k).ops⟩ with q := A.q ++ [k] }
/-- Deadlocks are resolved: a run of it. -/
inductive Res (k : Nat) : Bk → Bk → Nat → Prop
  | free {A : Bk} (h : (A.tx k).st = 1) : Res k A A 0
  | gone {A : Bk} (h : (A.tx k).st = 4) : Res k A A 84
  | wait {A : Bk} (h : (A.tx k).st = 2) (hv : A.IsVic k 0) : Res k A A 83
  | next {A B : Bk} {v e : Nat} (h : (A.tx k).st = 2) (hv : A.IsVic k v) (h0 : v ≠ 0) (hn : Res k (A.abort v) B e) : Res k A B e
/-- Obtaining a range. -/
inductive Obt (A : Bk) (k : Nat) (lo hi : Nat) (wr : Bool) : Bk → Nat → Prop
  | has (h : Hold (A.tx k).locks lo hi wr) : Obt A k lo hi wr A 0
  | full (h : ¬ Hold (A.tx k).locks lo hi wr) (hc : 1024 ≤ A.count) : Obt A k lo hi wr A 5
  | got (h : ¬ Hold (A.tx k).locks lo hi wr) (hc : A.count < 1024) (hf : A.free ⟨k, lo, hi, wr⟩ A.q = true) : Obt A k lo hi wr (A.setT k { A.tx k with locks := (A.tx k).locks ++ [⟨k, lo, hi, wr⟩] }) 0
  | res {B : Bk} {e : Nat} (h : ¬ Hold (A.tx k).locks lo hi wr) (hc : A.count < 1024) (hf : A.free ⟨k, lo, hi, wr⟩ A.q = false) (hr : Res k (A.wait k ⟨k, lo, hi, wr⟩) B e) : Obt A k lo hi wr B e
/-- An operation that is done. -/
def done (k : Nat) (o : Oa) : Bk := A.setT k { A.tx k with ops := (A.tx k).ops ++ [o] }
def looked (lo hi : Nat) : Oa := ⟨false, lo, hi, 0, 0, rns A.W lo hi⟩
/-- Whether all pieces of a range have a tag. -/
def allT (lo hi fr : Nat) : Prop := ∀ i, lo ≤ i → i < hi → A.W i = fr
/-- The error of a transaction that is not in progress. -/
def gone (k : Nat) : Nat := if ¬ A.has k then 80 else if (A.tx k).st = 4 then 81 else if (A.tx k).st = 3 then 82 else 0
end Bk
end Go.KL
end

section
/- Trees in memory: nodes that never change, in a pool that grows. No program in sight. -/
namespace Go.KL
/-- Cells, then numbers. -/
def tl (hd : List Value) (m : Nat) (g : Nat → Nat) : List Value := hd ++ (List.range m).map fun k => .int .i64 (g k : Nat)
theorem tl_get {hd : List Value} {m k off : Nat} {g : Nat → Nat} (ho : off = hd.length + k) (hk : k < m) : (tl hd m g)[off]? = some (.int .i64 (g k : Nat)) := by
  subst ho
  unfold tl
  rw [List.getElem?_append_right (by omega)]
  simp [hk]
theorem tl_set {hd : List Value} {m k off : Nat} {g : Nat → Nat} {z : Nat} (ho : off = hd.length + k) : (tl hd m g).set off (.int .i64 (z : Nat)) = tl hd m (upd g k z) := by
  subst ho
  unfold tl
  rw [List.set_append_right _ _ (by omega)]
  congr 1
  apply List.ext_getElem?
  intro i
  rw [List.getElem?_set]
  by_cases h : i < m
  · by_cases c : k = i
    · subst c
      simp [h]
    · simp [h, c, upd_ne _ _ (Ne.symm c)]
  · have : (List.range m)[i]? = none := by simp; omega
    simp [this]
    intro h1
    omega
theorem tl_congr {hd : List Value} {m : Nat} {g g' : Nat → Nat} (h : ∀ k, k < m → g k = g' k) : tl hd m g = tl hd m g' := by
  unfold tl
  congr 1
  refine List.map_congr_left fun i hi => ?_
  rw [h i (List.mem_range.1 hi)]
section
variable {P : Program} {n : Nat} {σ : Slots} {W : World} {Ls : List Chunk} {dst : Option Tmp} {ty : TypeId} {pos : String} {after : Array Edge} {guard : Option (Nat × Bool)}
theorem cell_tl (i : Nat) {b off k m : Nat} {e : TypeId} {hd : List Value} {g : Nat → Nat} {c : Chunk} (hi : Ls.getD i [] = (b, row e (tl hd m g)) :: c) (ho : off = hd.length + k) (hk : k < m) : CellIs (K W Ls) ⟨b, off, none⟩ (.int .i64 (g k : Nat)) := cell_row i hi (tl_get ho hk)
theorem set_tl (T : Tab P) (i : Nat) {x y : Operand} {t : TypeId} {b off k m : Nat} {zi : Int} {e : TypeId} {hd : List Value} {g : Nat → Nat} (z : Nat) (hx : ev σ x = some (.pointer (some ⟨b, off, none⟩))) (hy : ev σ y = some (.int .i64 zi)) (hz : zi = ((z : Nat) : Int))
    (hs : T.size t = some 1) (hi : Ls.getD i [] = [(b, row e (tl hd m g))]) (ho : off = hd.length + k) (hk : k < m) :
    Sets P n σ (K W Ls) ⟨dst, .store t x y, ty, pos, after, guard⟩ (K W (Ls.set i [(b, row e (tl hd m (upd g k z)))])) := by
  subst hz
  have := set_row (W := W) (Ls := Ls) (n := n) (σ := σ) (dst := dst) (ty := ty) (pos := pos) (after := after) (guard := guard) T i hx hy rfl hs hi (off := off) (by subst ho; simp [tl]; omega)
  rw [tl_set ho] at this
  exact this
end
/-- The cells of a node. -/
def ndc (lv rv : Value) (l : Tree) (n t : Nat) (r : Tree) : List Value :=
  tl [lv, rv, .int .i64 (n : Nat), .int .i64 (t : Nat), .int .i64 ((Tree.node l n t r).ht : Nat), .int .i64 ((Tree.node l n t r).runs : Nat), .int .i64 ((Tree.node l n t r).pcs : Nat)] 16 (fun k => (Tree.node l n t r).cnt k)
/-- A tree in a pool. -/
inductive Tr (p : Chunk) : Value → Tree → Prop
  | nil : Tr p (.pointer none) .nil
  | node {b : Nat} {lv rv : Value} {l r : Tree} {n t : Nat} (hb : (b, row 162 (ndc lv rv l n t r)) ∈ p) (hl : Tr p lv l) (hr : Tr p rv r) : Tr p (.pointer (some ⟨b, 0, none⟩)) (.node l n t r)
/-- A pool that has grown. -/
def Sub (p q : Chunk) : Prop := ∃ c, q = c ++ p
theorem Sub.refl (p : Chunk) : Sub p p := ⟨[], rfl⟩
theorem Sub.trans {p q r : Chunk} (h : Sub p q) (k : Sub q r) : Sub p r := by
  obtain ⟨c, rfl⟩ := h
  obtain ⟨d, rfl⟩ := k
  exact ⟨d ++ c, by rw [List.append_assoc]⟩
theorem Sub.app (c p : Chunk) : Sub p (c ++ p) := ⟨c, rfl⟩
theorem Sub.mem {p q : Chunk} (h : Sub p q) {e : Nat × Obj} (he : e ∈ p) : e ∈ q := by
  obtain ⟨c, rfl⟩ := h
  exact List.mem_append_right c he
theorem Tr.sub {p q : Chunk} {v : Value} {t : Tree} (h : Tr p v t) (hS : Sub p q) : Tr q v t := by
  induction h with
  | nil => exact .nil
  | node hb _ _ ih1 ih2 => exact .node (hS.mem hb) ih1 ih2
section
variable {W w : World} {p q : Chunk} {R : List Chunk}
theorem K.sub (hS : Sub p q) (h : K W (q :: R) w) : K W (p :: R) w := by
  obtain ⟨c, rfl⟩ := hS
  exact h.split.tail
theorem cell_pool {b k : Nat} {cells : List Value} {e : TypeId} {v : Value} (hb : (b, row e cells) ∈ p) (hk : cells[k]? = some v) : CellIs (K W (p :: R)) ⟨b, k, none⟩ v := by
  intro w hw
  have h1 := (hw.own (b, row e cells) (by simp [hb])).2
  simp [World.cell?, h1, row, hk]
/-- What is known of a node that is there. -/
structure NdF (C : World → Prop) (b : Nat) (lv rv : Value) (l : Tree) (n t : Nat) (r : Tree) : Prop where
  f0 : CellIs C ⟨b, 0, none⟩ lv
  f1 : CellIs C ⟨b, 1, none⟩ rv
  f2 : CellIs C ⟨b, 2, none⟩ (.int .i64 (n : Nat))
  f3 : CellIs C ⟨b, 3, none⟩ (.int .i64 (t : Nat))
  f4 : CellIs C ⟨b, 4, none⟩ (.int .i64 ((Tree.node l n t r).ht : Nat))
  f5 : CellIs C ⟨b, 5, none⟩ (.int .i64 ((Tree.node l n t r).runs : Nat))
  f6 : CellIs C ⟨b, 6, none⟩ (.int .i64 ((Tree.node l n t r).pcs : Nat))
  f7 : ∀ k, k < 16 → CellIs C ⟨b, 7 + k, none⟩ (.int .i64 ((Tree.node l n t r).cnt k : Nat))
theorem ndf {b : Nat} {lv rv : Value} {l r : Tree} {n t : Nat} (hb : (b, row 162 (ndc lv rv l n t r)) ∈ p) : NdF (K W (p :: R)) b lv rv l n t r := by
  exact ⟨cell_pool hb rfl, cell_pool hb rfl, cell_pool hb rfl, cell_pool hb rfl, cell_pool hb rfl, cell_pool hb rfl, cell_pool hb rfl, fun k hk => cell_pool hb (tl_get rfl hk)⟩
theorem NdF.cls {C D : World → Prop} {b : Nat} {lv rv : Value} {l r : Tree} {n t : Nat} (h : NdF C b lv rv l n t r) (hC : ∀ w, D w → C w) : NdF D b lv rv l n t r :=
  ⟨h.f0.cls hC, h.f1.cls hC, h.f2.cls hC, h.f3.cls hC, h.f4.cls hC, h.f5.cls hC, h.f6.cls hC, fun k hk => (h.f7 k hk).cls hC⟩
end
/-- The pool is there. -/
def PoolD (W : World) (p : Chunk) (w : World) : Prop := ∃ R, K W (p :: R) w
theorem ndp {W : World} {p : Chunk} {b : Nat} {lv rv : Value} {l r : Tree} {n t : Nat} (hb : (b, row 162 (ndc lv rv l n t r)) ∈ p) : NdF (PoolD W p) b lv rv l n t r := by
  have h := fun R => ndf (W := W) (R := R) hb
  exact ⟨fun w ⟨R, hw⟩ => (h R).f0 w hw, fun w ⟨R, hw⟩ => (h R).f1 w hw, fun w ⟨R, hw⟩ => (h R).f2 w hw, fun w ⟨R, hw⟩ => (h R).f3 w hw, fun w ⟨R, hw⟩ => (h R).f4 w hw, fun w ⟨R, hw⟩ => (h R).f5 w hw, fun w ⟨R, hw⟩ => (h R).f6 w hw, fun k hk w ⟨R, hw⟩ => (h R).f7 k hk w hw⟩
/-- A tree that a call returns: in the pool, which may have grown. -/
def TX (p : Chunk) (t : Tree) := { x : Chunk × Value // Sub p x.1 ∧ Tr x.1 x.2 t }
def TX2 (p : Chunk) (t u : Tree) := { x : Chunk × Value × Value // Sub p x.1 ∧ Tr x.1 x.2.1 t ∧ Tr x.1 x.2.2 u }
theorem Tr.ptr {p : Chunk} {v : Value} {t : Tree} (h : Tr p v t) : ∃ q, v = .pointer q := by
  cases h with
  | nil => exact ⟨none, rfl⟩
  | node => exact ⟨_, rfl⟩
theorem Tr.cases {p : Chunk} {v : Value} {t : Tree} (h : Tr p v t) : (t = .nil ∧ v = .pointer none) ∨ ∃ b lv rv l n k r, t = .node l n k r ∧ v = .pointer (some ⟨b, 0, none⟩) ∧ (b, row 162 (ndc lv rv l n k r)) ∈ p ∧ Tr p lv l ∧ Tr p rv r := by
  cases h with
  | nil => exact .inl ⟨rfl, rfl⟩
  | node hb hl hr => exact .inr ⟨_, _, _, _, _, _, _, rfl, rfl, hb, hl, hr⟩
end Go.KL
end

section
/- Locks and operations as values. No program in sight. -/
namespace Go.KL
/-- A lock's cells. -/
def lkc (a : Lk) : List Value := [.int .i64 (a.tx : Nat), .int .i64 (a.lo : Nat), .int .i64 (a.hi : Nat), .bool a.wr]
abbrev lkv (a : Lk) : Value := .agg #[.int .i64 (a.tx : Nat), .int .i64 (a.lo : Nat), .int .i64 (a.hi : Nat), .bool a.wr]
theorem lkc_len (a : Lk) : (lkc a).length = 4 := rfl
theorem lkv_eq (a : Lk) : Value.agg (lkc a).toArray = lkv a := rfl
/-- Locks in memory. -/
abbrev lks (L : List Lk) : List (List Value) := L.map lkc
theorem lks_len (L : List Lk) : lens 4 (lks L) := lens.map lkc_len
theorem lks_get {L : List Lk} {i : Nat} {x : Lk} (h : L[i]? = some x) : (lks L)[i]? = some (lkc x) := by simp [h]
/-- A run's cells; an operation's. -/
def rnc (r : Rn) : List Value := [.int .i64 (r.1 : Nat), .int .i64 (r.2.1 : Nat), .int .i64 (r.2.2 : Nat)]
abbrev rnl (R : List Rn) : List (List Value) := R.map rnc
theorem rnc_len (r : Rn) : (rnc r).length = 3 := rfl
def opc (o : Oa) (rv : Value) : List Value := [.bool o.mv, .int .i64 (o.lo : Nat), .int .i64 (o.hi : Nat), .int .i64 (o.fr : Nat), .int .i64 (o.to : Nat), rv]
theorem opc_len (o : Oa) (rv : Value) : (opc o rv).length = 6 := rfl
/-- An operation with the slice of its runs. -/
abbrev Ov := Oa × Value
abbrev opl (os : List Ov) : List (List Value) := os.map fun x => opc x.1 x.2
abbrev ops (os : List Ov) : List Oa := os.map (·.1)
/-- The runs of operations, in a pool. -/
def OpsV (p : Chunk) (os : List Ov) : Prop := ∀ x ∈ os, PE p x.2 3 (rnl x.1.runs)
theorem OpsV.app {p : Chunk} {os : List Ov} (h : OpsV p os) (c : Chunk) : OpsV (c ++ p) os := fun x hx => (h x hx).app c
theorem OpsV.nil {p : Chunk} : OpsV p [] := fun x hx => by simp at hx
theorem OpsV.snoc {p : Chunk} {os : List Ov} {x : Ov} (h : OpsV p os) (hx : PE p x.2 3 (rnl x.1.runs)) : OpsV p (os ++ [x]) := fun y hy => by
  rcases List.mem_append.1 hy with hy | hy
  · exact h y hy
  · rw [List.mem_singleton.1 hy]; exact hx
theorem Sub.pe {p q : Chunk} {v : Value} {s : Nat} {rows : List (List Value)} (h : PE p v s rows) (hS : Sub p q) : PE q v s rows := by
  obtain ⟨c, rfl⟩ := hS
  exact h.app c
theorem OpsV.sub {p q : Chunk} {os : List Ov} (h : OpsV p os) (hS : Sub p q) : OpsV q os := fun x hx => Sub.pe (h x hx) hS
end Go.KL
end

section
/- Walks: sums, pieces, high. -/
namespace Go.KL
open Go.Proofs
attribute [local irreducible] SC St Fin Sq Ylds Doos Sets Enters Spec CellIs CellsAre Then Ret Rnd Chn resOK ints bools recs arr
section
variable {W : World} {p : Chunk} {R : List Chunk} {v : Value} {t : Tree}
set_option maxRecDepth 10000 in
theorem sums_p (ht : Tr p v t) : ∀ C : World → Prop, Drew C → (∀ w, C w → PoolD W p w) → Spec Tryz.prog 74 #[v] C (fun _ : Unit => .tuple #[.int .i64 (t.ht : Nat), .int .i64 (t.runs : Nat), .int .i64 (t.pcs : Nat)]) (fun _ => C) := by
  intro C hdr hC
  refine enter (args := [_]) Tryz.func74 rfl Tryz.ntmps74 rfl ?_
  rcases ht.cases with ⟨rfl, rfl⟩ | ⟨b, lv, rv, l, n, k, r, rfl, rfl, hb, hl, hr⟩
  · refine c_seq ?_
    refine c_region ?_
    refine s_y (y_assign rfl) rfl rfl rfl ?_
    refine s_y (y_assign rfl) rfl rfl rfl ?_
    refine s_y (y_assign rfl) rfl rfl rfl ?_
    refine s_nil ?_
    refine f_then ?_
    refine c_seq ?_
    refine c_seq ?_
    refine c_region ?_
    refine s_y (y_move rfl) rfl rfl rfl ?_
    refine s_y (y_eqlPN Tryz.tab rfl rfl) rfl rfl rfl ?_
    refine s_nil ?_
    refine f_then ?_
    refine c_condT rfl ?_
    refine c_seq ?_
    refine c_region ?_
    refine s_y (y_assign rfl) rfl rfl rfl ?_
    refine s_y (y_assign rfl) rfl rfl rfl ?_
    refine s_y (y_assign rfl) rfl rfl rfl ?_
    refine s_nil ?_
    refine f_then ?_
    refine c_ret ?_
    refine f_thenR ?_
    exact f_ret () (res3 rfl rfl rfl rfl) (fun w h => h)
  · obtain ⟨f0, f1, f2, f3, f4, f5, f6, f7⟩ := (ndp (W := W) hb).cls hC
    refine c_seq ?_
    refine c_region ?_
    refine s_y (y_assign rfl) rfl rfl rfl ?_
    refine s_y (y_assign rfl) rfl rfl rfl ?_
    refine s_y (y_assign rfl) rfl rfl rfl ?_
    refine s_nil ?_
    refine f_then ?_
    refine c_seq ?_
    refine c_seq ?_
    refine c_region ?_
    refine s_y (y_move rfl) rfl rfl rfl ?_
    refine s_y (y_eqlPN Tryz.tab rfl rfl) rfl rfl rfl ?_
    refine s_nil ?_
    refine f_then ?_
    refine c_condF rfl ?_
    refine c_skip ?_
    refine f_then ?_
    refine c_seq ?_
    refine c_quiet Tryz.mixed (by kernel_rfl) (by assumption) ?_
    refine q_y (y_move rfl) rfl rfl rfl ?_
    refine q_y (y_nilP rfl) rfl rfl rfl ?_
    refine q_y (y_fieldAddrB Tryz.tab 4 rfl rfl rfl rfl rfl) rfl rfl rfl ?_
    refine q_y (y_load Tryz.tab rfl rfl f4) rfl rfl rfl ?_
    refine q_y (y_move rfl) rfl rfl rfl ?_
    refine q_y (y_nilP rfl) rfl rfl rfl ?_
    refine q_y (y_fieldAddrB Tryz.tab 5 rfl rfl rfl rfl rfl) rfl rfl rfl ?_
    refine q_y (y_load Tryz.tab rfl rfl f5) rfl rfl rfl ?_
    refine q_y (y_move rfl) rfl rfl rfl ?_
    refine q_y (y_nilP rfl) rfl rfl rfl ?_
    refine q_y (y_fieldAddrB Tryz.tab 6 rfl rfl rfl rfl rfl) rfl rfl rfl ?_
    refine q_y (y_load Tryz.tab rfl rfl f6) rfl rfl rfl ?_
    refine q_y (y_assign rfl) rfl rfl rfl ?_
    refine q_y (y_assign rfl) rfl rfl rfl ?_
    refine q_y (y_assign rfl) rfl rfl rfl ?_
    refine q_nil ?_
    refine f_then ?_
    refine c_ret ?_
    exact f_ret () (res3 rfl rfl rfl rfl) (fun w h => h)
set_option maxRecDepth 10000 in
theorem pieces_p (ht : Tr p v t) : ∀ C : World → Prop, Drew C → (∀ w, C w → PoolD W p w) → Spec Tryz.prog 73 #[v] C (fun _ : Unit => .int .i64 (t.pcs : Nat)) (fun _ => C) := by
  intro C hdr hC
  refine enter (args := [_]) Tryz.func73 rfl Tryz.ntmps73 rfl ?_
  refine c_seq ?_
  refine c_region ?_
  refine s_y (y_assign rfl) rfl rfl rfl ?_
  refine s_nil ?_
  refine f_then ?_
  refine c_seq ?_
  refine c_region ?_
  refine s_y (y_move rfl) rfl rfl rfl ?_
  refine s_call (en_f rfl Tryz.call74) (sums_p ht _ hdr hC) rfl rfl rfl (fun _ => ?_)
  refine s_y (y_move rfl) rfl rfl rfl ?_
  refine s_y (y_extract rfl rfl) rfl rfl rfl ?_
  refine s_y (y_extract rfl rfl) rfl rfl rfl ?_
  refine s_y (y_extract rfl rfl) rfl rfl rfl ?_
  refine s_y (y_assign rfl) rfl rfl rfl ?_
  refine s_y (y_assign rfl) rfl rfl rfl ?_
  refine s_y (y_assign rfl) rfl rfl rfl ?_
  refine s_nil ?_
  refine f_then ?_
  refine c_seq ?_
  refine c_region ?_
  refine s_y (y_move rfl) rfl rfl rfl ?_
  refine s_y (y_assign rfl) rfl rfl rfl ?_
  refine s_nil ?_
  refine f_then ?_
  refine c_ret ?_
  exact f_ret () (res1 rfl rfl) (fun w h => h)
set_option maxRecDepth 10000 in
theorem high_p (ht : Tr p v t) : ∀ C : World → Prop, Drew C → (∀ w, C w → PoolD W p w) → Spec Tryz.prog 128 #[v] C (fun _ : Unit => .int .i64 (t.ht : Nat)) (fun _ => C) := by
  intro C hdr hC
  refine enter (args := [_]) Tryz.func128 rfl Tryz.ntmps128 rfl ?_
  refine c_seq ?_
  refine c_region ?_
  refine s_y (y_assign rfl) rfl rfl rfl ?_
  refine s_nil ?_
  refine f_then ?_
  refine c_seq ?_
  refine c_region ?_
  refine s_y (y_move rfl) rfl rfl rfl ?_
  refine s_call (en_f rfl Tryz.call74) (sums_p ht _ hdr hC) rfl rfl rfl (fun _ => ?_)
  refine s_y (y_move rfl) rfl rfl rfl ?_
  refine s_y (y_extract rfl rfl) rfl rfl rfl ?_
  refine s_y (y_extract rfl rfl) rfl rfl rfl ?_
  refine s_y (y_extract rfl rfl) rfl rfl rfl ?_
  refine s_y (y_assign rfl) rfl rfl rfl ?_
  refine s_y (y_assign rfl) rfl rfl rfl ?_
  refine s_y (y_assign rfl) rfl rfl rfl ?_
  refine s_nil ?_
  refine f_then ?_
  refine c_seq ?_
  refine c_region ?_
  refine s_y (y_move rfl) rfl rfl rfl ?_
  refine s_y (y_assign rfl) rfl rfl rfl ?_
  refine s_nil ?_
  refine f_then ?_
  refine c_ret ?_
  exact f_ret () (res1 rfl rfl) (fun w h => h)
theorem sums_q (ht : Tr p v t) : ∀ C : World → Prop, Drew C → (∀ w, C w → K W (p :: R) w) → Spec Tryz.prog 74 #[v] C (fun _ : Unit => .tuple #[.int .i64 (t.ht : Nat), .int .i64 (t.runs : Nat), .int .i64 (t.pcs : Nat)]) (fun _ => C) := fun C hdr hC => sums_p ht C hdr (fun w h => ⟨R, hC w h⟩)
theorem pieces_q (ht : Tr p v t) : ∀ C : World → Prop, Drew C → (∀ w, C w → K W (p :: R) w) → Spec Tryz.prog 73 #[v] C (fun _ : Unit => .int .i64 (t.pcs : Nat)) (fun _ => C) := fun C hdr hC => pieces_p ht C hdr (fun w h => ⟨R, hC w h⟩)
theorem high_q (ht : Tr p v t) : ∀ C : World → Prop, Drew C → (∀ w, C w → K W (p :: R) w) → Spec Tryz.prog 128 #[v] C (fun _ : Unit => .int .i64 (t.ht : Nat)) (fun _ => C) := fun C hdr hC => high_p ht C hdr (fun w h => ⟨R, hC w h⟩)
theorem sums_spec (ht : Tr p v t) : Spec Tryz.prog 74 #[v] (K W (p :: R)) (fun _ : Unit => .tuple #[.int .i64 (t.ht : Nat), .int .i64 (t.runs : Nat), .int .i64 (t.pcs : Nat)]) (fun _ => K W (p :: R)) := sums_q ht _ K.drew (fun _ h => h)
theorem pieces_spec (ht : Tr p v t) : Spec Tryz.prog 73 #[v] (K W (p :: R)) (fun _ : Unit => .int .i64 (t.pcs : Nat)) (fun _ => K W (p :: R)) := pieces_q ht _ K.drew (fun _ h => h)
theorem high_spec (ht : Tr p v t) : Spec Tryz.prog 128 #[v] (K W (p :: R)) (fun _ : Unit => .int .i64 (t.ht : Nat)) (fun _ => K W (p :: R)) := high_q ht _ K.drew (fun _ h => h)
end
end Go.KL
end

section
/- Walks: link. -/
namespace Go.KL
open Go.Proofs
/-- The counts of a node while they are summed up: side 0 is done up to k. -/
def cntS (l : Tree) (n t : Nat) (r : Tree) (i k j : Nat) : Nat :=
  (if j = t then n else 0) + (if 0 < i ∨ j < k then l.cnt j else 0) + (if 1 < i ∨ (i = 1 ∧ j < k) then r.cnt j else 0)
theorem cntS_step0 {l r : Tree} {n t k : Nat} : upd (cntS l n t r 0 k) k (cntS l n t r 0 k k + l.cnt k) = cntS l n t r 0 (k + 1) := by
  funext j
  unfold upd cntS
  by_cases c : j = k
  · subst c
    simp
  · have : (j < k + 1) = (j < k) := propext ⟨fun h => by omega, fun h => by omega⟩
    simp [c, this]
theorem cntS_step1 {l r : Tree} {n t k : Nat} : upd (cntS l n t r 1 k) k (cntS l n t r 1 k k + r.cnt k) = cntS l n t r 1 (k + 1) := by
  funext j
  unfold upd cntS
  by_cases c : j = k
  · subst c
    simp
  · have : (j < k + 1) = (j < k) := propext ⟨fun h => by omega, fun h => by omega⟩
    simp [c, this]
/-- An empty side adds nothing. -/
theorem hnx0 {l r : Tree} {n t z : Nat} (hst : ∀ k, k < 16 → upd (cntS l n t r z k) k (cntS l n t r z k k + Tree.nil.cnt k) = cntS l n t r z (k + 1)) (hnx : ∀ j, j < 16 → cntS l n t r z 16 j = cntS l n t r (z + 1) 0 j) : ∀ j, j < 16 → cntS l n t r z 0 j = cntS l n t r (z + 1) 0 j := by
  have h : ∀ k, k ≤ 16 → cntS l n t r z k = cntS l n t r z 0 := by
    intro k
    induction k with
    | zero => intro _; rfl
    | succ k ih =>
      intro hk
      rw [← hst k (by omega), ih (by omega)]
      funext j
      unfold upd
      split
      · rename_i h; rw [h]; rfl
      · rfl
  intro j hj
  rw [← hnx j hj, h 16 (Nat.le_refl _)]
theorem cntS_le {l r : Tree} {n t z k j : Nat} : cntS l n t r z k j ≤ n + l.pcs + r.pcs := by
  have h1 := Tree.cnt_le j l
  have h2 := Tree.cnt_le j r
  unfold cntS
  (repeat' split) <;> omega
attribute [local irreducible] SC St Fin Sq Ylds Doos Sets Enters Spec CellIs CellsAre Then Ret Rnd Chn resOK ints bools recs arr
set_option maxRecDepth 10000 in
set_option maxHeartbeats 4000000 in
theorem link_spec {W : World} {p : Chunk} {R : List Chunk} {lv rv : Value} {l r : Tree} {n t : Nat} (hl : Tr p lv l) (hr : Tr p rv r) (ht : t < 16) (hp : (Tree.node l n t r).pcs ≤ 1152921504606846976) (hn : (Tree.node l n t r).runs ≤ 1152921504606846976) :
    Spec Tryz.prog 81 #[lv, .int .i64 (n : Nat), .int .i64 (t : Nat), rv] (K W (p :: R)) (X := TX p (.node l n t r)) (fun x => x.1.2) (fun x => K W (x.1.1 :: R)) := by
  have h1 := Tree.ht_le_runs l
  have h2 := Tree.ht_le_runs r
  simp only [Tree.pcs, Tree.runs] at hp hn
  obtain ⟨lq, rfl⟩ := hl.ptr
  obtain ⟨rq, rfl⟩ := hr.ptr
  refine enter (args := [_, _, _, _]) Tryz.func81 rfl Tryz.ntmps81 rfl ?_
  refine c_seq ?_
  refine c_region ?_
  refine s_y (y_assign rfl) rfl rfl rfl ?_
  refine s_nil ?_
  refine f_then ?_
  refine c_seq ?_
  refine c_region ?_
  refine s_y (y_move rfl) rfl rfl rfl ?_
  refine s_call (en_f rfl Tryz.call74) (sums_spec hl) rfl rfl rfl (fun _ => ?_)
  refine s_y (y_move rfl) rfl rfl rfl ?_
  refine s_y (y_extract rfl rfl) rfl rfl rfl ?_
  refine s_y (y_extract rfl rfl) rfl rfl rfl ?_
  refine s_y (y_extract rfl rfl) rfl rfl rfl ?_
  refine s_y (y_assign rfl) rfl rfl rfl ?_
  refine s_y (y_assign rfl) rfl rfl rfl ?_
  refine s_y (y_assign rfl) rfl rfl rfl ?_
  refine s_nil ?_
  refine f_then ?_
  refine c_seq ?_
  refine c_region ?_
  refine s_y (y_move rfl) rfl rfl rfl ?_
  refine s_call (en_f rfl Tryz.call74) (sums_spec hr) rfl rfl rfl (fun _ => ?_)
  refine s_y (y_move rfl) rfl rfl rfl ?_
  refine s_y (y_extract rfl rfl) rfl rfl rfl ?_
  refine s_y (y_extract rfl rfl) rfl rfl rfl ?_
  refine s_y (y_extract rfl rfl) rfl rfl rfl ?_
  refine s_y (y_assign rfl) rfl rfl rfl ?_
  refine s_y (y_assign rfl) rfl rfl rfl ?_
  refine s_y (y_assign rfl) rfl rfl rfl ?_
  refine s_nil ?_
  refine f_then ?_
  refine c_seq ?_
  refine c_region ?_
  refine s_y (y_move rfl) rfl rfl rfl ?_
  refine s_y (y_move rfl) rfl rfl rfl ?_
  refine s_y (y_move rfl) rfl rfl rfl ?_
  refine s_y (y_move rfl) rfl rfl rfl ?_
  refine s_y (y_move rfl) rfl rfl rfl ?_
  refine s_y (y_move rfl) rfl rfl rfl ?_
  refine s_y (y_max rfl rfl) rfl rfl rfl ?_
  refine s_y (y_add rfl rfl (by omega)) rfl rfl rfl ?_
  refine s_y (y_move rfl) rfl rfl rfl ?_
  refine s_y (y_move rfl) rfl rfl rfl ?_
  refine s_y (y_add rfl rfl (by omega)) rfl rfl rfl ?_
  refine s_y (y_add rfl rfl (by omega)) rfl rfl rfl ?_
  refine s_y (y_move rfl) rfl rfl rfl ?_
  refine s_y (y_move rfl) rfl rfl rfl ?_
  refine s_y (y_add rfl rfl (by omega)) rfl rfl rfl ?_
  refine s_y (y_move rfl) rfl rfl rfl ?_
  refine s_y (y_add rfl rfl (by omega)) rfl rfl rfl ?_
  refine s_y (y_build Tryz.tab rfl rfl rfl rfl rfl) rfl rfl rfl ?_
  refine s_do (do_box rfl) rfl rfl rfl (fun b49 => ?_)
  refine s_y (y_assign rfl) rfl rfl rfl ?_
  refine s_nil ?_
  refine f_then ?_
  refine c_seq ?_
  refine c_region ?_
  refine s_y (y_move rfl) rfl rfl rfl ?_
  refine s_y (y_move rfl) rfl rfl rfl ?_
  refine s_y (y_move rfl) rfl rfl rfl ?_
  refine s_y (y_nilP rfl) rfl rfl rfl ?_
  refine s_y (y_fieldAddrB Tryz.tab 7 rfl rfl rfl rfl rfl) rfl rfl rfl ?_
  refine s_y (y_indexArr1 Tryz.tab rfl rfl rfl rfl _ rfl (by omega)) rfl rfl rfl ?_
  have eh : ((Tree.node l n t r).ht : Int) = max (l.ht : Int) (r.ht : Int) + 1 := by simp only [Tree.ht]; omega
  have er : ((Tree.node l n t r).runs : Int) = (l.runs : Int) + (r.runs : Int) + 1 := by simp only [Tree.runs]; omega
  have ep : ((Tree.node l n t r).pcs : Int) = (l.pcs : Int) + (r.pcs : Int) + (n : Int) := by simp only [Tree.pcs]; omega
  obtain ⟨hd, hhd⟩ : ∃ hd : List Value, hd = [.pointer lq, .pointer rq, .int .i64 (n : Nat), .int .i64 (t : Nat), .int .i64 ((Tree.node l n t r).ht : Nat), .int .i64 ((Tree.node l n t r).runs : Nat), .int .i64 ((Tree.node l n t r).pcs : Nat)] := ⟨_, rfl⟩
  have hlen : hd.length = 7 := by rw [hhd]; rfl
  refine St.cls (C' := K W ([(b49, row 162 (tl hd 16 (fun _ => 0)))] :: p :: R)) ?_ (fun w h => by
    rw [hhd, eh, er, ep]
    exact h)
  refine s_set (set_tl Tryz.tab 0 (k := t) n rfl rfl rfl rfl rfl (by rw [hlen]) ht) rfl rfl ?_
  have e0 : upd (fun _ => 0) t n = cntS l n t r 0 0 := by
    funext j
    simp [cntS, upd]
  refine St.cls (C' := K W ([(b49, row 162 (tl hd 16 (cntS l n t r 0 0)))] :: p :: R)) ?_ (fun w h => by
    rw [← e0]
    exact h)
  refine s_nil ?_
  refine f_then ?_
  refine c_seq ?_
  refine c_seq ?_
  refine c_region ?_
  refine s_y (y_move rfl) rfl rfl rfl ?_
  refine s_y (y_move rfl) rfl rfl rfl ?_
  refine s_y (y_buildArr Tryz.tab rfl rfl rfl rfl rfl) rfl rfl rfl ?_
  refine s_y (y_move rfl) rfl rfl rfl ?_
  refine s_nil ?_
  refine f_then ?_
  refine c_block ?_
  refine c_loopP (α := Nat) (fun z => [(15, .pointer (some ⟨b49, 0, none⟩)), (58, .agg #[.pointer lq, .pointer rq]), (59, .int .i64 (z : Nat))]) (fun z => z ≤ 2) (fun z => K W ([(b49, row 162 (tl hd 16 (cntS l n t r z 0)))] :: p :: R)) (fun z => 2 - z) 0
    ⟨rfl, rfl, rfl, trivial⟩ (Nat.zero_le _) (fun w h => h) ?_
  intro z hz
  by_cases h2z : z < 2
  · obtain ⟨s, sq, hs, hix, hst, hnx, hsl⟩ : ∃ (s : Tree) (sq : Option Addr), Tr p (.pointer sq) s ∧ (#[Value.pointer lq, Value.pointer rq] : Array Value)[z]? = some (.pointer sq) ∧ (∀ k, k < 16 → upd (cntS l n t r z k) k (cntS l n t r z k k + s.cnt k) = cntS l n t r z (k + 1)) ∧ (∀ j, j < 16 → cntS l n t r z 16 j = cntS l n t r (z + 1) 0 j) ∧ s.pcs ≤ l.pcs + r.pcs := by
      rcases (show z = 0 ∨ z = 1 by omega) with rfl | rfl
      · exact ⟨l, lq, hl, rfl, fun k hk => cntS_step0, fun j hj => by simp [cntS, hj], by omega⟩
      · exact ⟨r, rq, hr, rfl, fun k hk => cntS_step1, fun j hj => by simp [cntS, hj], by omega⟩
    refine c_seq ?_
    refine c_region ?_
    refine s_y (y_T (y_lss rfl rfl) (by omega)) rfl rfl rfl ?_
    refine s_nil ?_
    refine f_then ?_
    refine c_seq ?_
    refine c_condT rfl ?_
    refine c_skip ?_
    refine f_then ?_
    refine c_seq ?_
    refine c_block ?_
    refine c_seq ?_
    refine c_region ?_
    refine s_y (y_index Tryz.tab z rfl rfl rfl rfl rfl rfl h2z hix) rfl rfl rfl ?_
    rcases hs.cases with ⟨rfl, hv⟩ | ⟨b, lv, rv, l2, n2, t2, r2, rfl, hv, hb, hl2, hr2⟩
    · obtain rfl : sq = none := Value.pointer.inj hv
      refine s_y (y_assign rfl) rfl rfl rfl ?_
      refine s_nil ?_
      refine f_then ?_
      refine c_seq ?_
      refine c_seq ?_
      refine c_region ?_
      refine s_y (y_move rfl) rfl rfl rfl ?_
      refine s_y (y_eqlPN Tryz.tab rfl rfl) rfl rfl rfl ?_
      refine s_nil ?_
      refine f_then ?_
      refine c_condT rfl ?_
      refine c_exit ?_
      refine f_thenE ?_
      refine f_blockE ?_
      refine f_then ?_
      refine c_region ?_
      refine s_y (y_add rfl rfl (by omega)) rfl rfl rfl ?_
      refine s_y (y_move rfl) rfl rfl rfl ?_
      refine s_nil ?_
      exact f_roundP (z + 1) h2z (by omega) ⟨rfl, rfl, rfl, trivial⟩ (fun w h => by
        rw [← tl_congr (hnx0 hst hnx)]
        exact h)
    · obtain rfl : sq = some ⟨b, 0, none⟩ := Value.pointer.inj hv
      have f7 := (ndf (W := W) (R := R) hb).f7
      refine s_y (y_assign rfl) rfl rfl rfl ?_
      refine s_nil ?_
      refine f_then ?_
      refine c_seq ?_
      refine c_seq ?_
      refine c_region ?_
      refine s_y (y_move rfl) rfl rfl rfl ?_
      refine s_y (y_eqlPN Tryz.tab rfl rfl) rfl rfl rfl ?_
      refine s_nil ?_
      refine f_then ?_
      refine c_condF rfl ?_
      refine c_skip ?_
      refine f_then ?_
      refine c_seq ?_
      refine c_region ?_
      refine s_y (y_move rfl) rfl rfl rfl ?_
      refine s_nil ?_
      refine f_then ?_
      refine c_block ?_
      refine c_loopP (α := Nat) (fun k => [(15, .pointer (some ⟨b49, 0, none⟩)), (17, .pointer (some ⟨b, 0, none⟩)), (58, .agg #[.pointer lq, .pointer rq]), (59, .int .i64 (z : Nat)), (64, .int .i64 (k : Nat))]) (fun k => k ≤ 16) (fun k => K W ([(b49, row 162 (tl hd 16 (cntS l n t r z k)))] :: p :: R)) (fun k => 16 - k) 0
        ⟨rfl, rfl, rfl, rfl, rfl, trivial⟩ (Nat.zero_le _) (fun w h => h) ?_
      intro k hk
      by_cases hkl : k < 16
      · have fk := f7 k hkl
        have hc : CellIs (K W ([(b49, row 162 (tl hd 16 (cntS l n t r z k)))] :: p :: R)) ⟨b49, 7 + k, none⟩ (.int .i64 (cntS l n t r z k k : Nat)) := cell_tl 0 rfl (by rw [hlen]) hkl
        have hb1 := cntS_le (l := l) (r := r) (n := n) (t := t) (z := z) (k := k) (j := k)
        have hb2 := Tree.cnt_le k (Tree.node l2 n2 t2 r2)
        have hst1 := hst k hkl
        generalize (Tree.node l2 n2 t2 r2).cnt k = ck at *
        clear hst hnx f7 hb eh er ep e0
        refine c_seq ?_
        refine c_region ?_
        refine s_y (y_T (y_lss rfl rfl) (by omega)) rfl rfl rfl ?_
        refine s_nil ?_
        refine f_then ?_
        refine c_seq ?_
        refine c_condT rfl ?_
        refine c_skip ?_
        refine f_then ?_
        refine c_seq ?_
        refine c_block ?_
        refine c_seq ?_
        refine c_region ?_
        refine s_y (y_move rfl) rfl rfl rfl ?_
        refine s_y (y_assign rfl) rfl rfl rfl ?_
        refine s_nil ?_
        refine f_then ?_
        refine c_plan [.c 0, .c 1, .c 2, .c 3, .c 4, .c 5, .c 6, .c 7, .c 8, .c 9, .c 10, .c 11, .c 12, .c 13, .c 14, .c 15, .s 16] [16] ((K W ([(b49, row 162 (tl hd 16 (cntS l n t r z k)))] :: p :: R))) Tryz.mixed (by kernel_rfl) rfl K.cl ?_
        refine d_c rfl (Qui.ylds (y_move rfl)) rfl rfl rfl (fun _ h => h) K.cl ?_
        refine d_c rfl (Qui.ylds (y_move rfl)) rfl rfl rfl (fun _ h => h) K.cl ?_
        refine d_c rfl (Qui.ylds (y_nilP rfl)) rfl rfl rfl (fun _ h => h) K.cl ?_
        refine d_c rfl (Qui.ylds (y_fieldAddrB Tryz.tab 7 rfl rfl rfl rfl rfl)) rfl rfl rfl (fun _ h => h) K.cl ?_
        refine d_c rfl (Qui.ylds (y_indexArr1 Tryz.tab rfl rfl rfl rfl _ rfl (by omega))) rfl rfl rfl (fun _ h => h) K.cl ?_
        refine d_c rfl (Qui.ylds (y_load Tryz.tab rfl rfl hc)) rfl rfl rfl (fun _ h => h) K.cl ?_
        refine d_c rfl (Qui.ylds (y_move rfl)) rfl rfl rfl (fun _ h => h) K.cl ?_
        refine d_c rfl (Qui.ylds (y_move rfl)) rfl rfl rfl (fun _ h => h) K.cl ?_
        refine d_c rfl (Qui.ylds (y_nilP rfl)) rfl rfl rfl (fun _ h => h) K.cl ?_
        refine d_c rfl (Qui.ylds (y_fieldAddrB Tryz.tab 7 rfl rfl rfl rfl rfl)) rfl rfl rfl (fun _ h => h) K.cl ?_
        refine d_c rfl (Qui.ylds (y_indexArr1 Tryz.tab rfl rfl rfl rfl _ rfl (by omega))) rfl rfl rfl (fun _ h => h) K.cl ?_
        refine d_c rfl (Qui.ylds (y_load Tryz.tab rfl rfl fk.cons)) rfl rfl rfl (fun _ h => h) K.cl ?_
        refine d_c rfl (Qui.ylds (y_add rfl rfl (by omega))) rfl rfl rfl (fun _ h => h) K.cl ?_
        refine d_c rfl (Qui.ylds (y_nilP rfl)) rfl rfl rfl (fun _ h => h) K.cl ?_
        refine d_c rfl (Qui.ylds (y_fieldAddrB Tryz.tab 7 rfl rfl rfl rfl rfl)) rfl rfl rfl (fun _ h => h) K.cl ?_
        refine d_c rfl (Qui.ylds (y_indexArr1 Tryz.tab rfl rfl rfl rfl _ rfl (by omega))) rfl rfl rfl (fun _ h => h) K.cl ?_
        refine d_set rfl (set_tl Tryz.tab 0 (k := k) (cntS l n t r z k k + ck) rfl rfl (by omega) rfl rfl (by rw [hlen]) hkl) rfl rfl K.cl (fun h => by cases h) ?_
        refine d_nil ?_
        refine f_blockN ?_
        refine f_then ?_
        refine c_region ?_
        refine s_y (y_add rfl rfl (by omega)) rfl rfl rfl ?_
        refine s_y (y_move rfl) rfl rfl rfl ?_
        refine s_nil ?_
        exact f_roundP (k + 1) hkl (by omega) ⟨rfl, rfl, rfl, rfl, rfl, trivial⟩ (fun w h => by
          rw [← hst1]
          exact h)
      · obtain rfl : k = 16 := by omega
        refine c_seq ?_
        refine c_region ?_
        refine s_y (y_F (y_lss rfl rfl) (by omega)) rfl rfl rfl ?_
        refine s_nil ?_
        refine f_then ?_
        refine c_seq ?_
        refine c_condF rfl ?_
        refine c_exit ?_
        refine f_thenE ?_
        refine f_rndE ?_
        refine f_blockE ?_
        refine f_blockN ?_
        refine f_then ?_
        refine c_region ?_
        refine s_y (y_add rfl rfl (by omega)) rfl rfl rfl ?_
        refine s_y (y_move rfl) rfl rfl rfl ?_
        refine s_nil ?_
        exact f_roundP (z + 1) h2z (by omega) ⟨rfl, rfl, rfl, trivial⟩ (fun w h => by
          rw [← tl_congr hnx]
          exact h)
  · obtain rfl : z = 2 := by omega
    refine c_seq ?_
    refine c_region ?_
    refine s_y (y_F (y_lss rfl rfl) (by omega)) rfl rfl rfl ?_
    refine s_nil ?_
    refine f_then ?_
    refine c_seq ?_
    refine c_condF rfl ?_
    refine c_exit ?_
    refine f_thenE ?_
    refine f_rndE ?_
    refine f_blockE ?_
    refine f_then ?_
    refine c_seq ?_
    refine c_region ?_
    refine s_y (y_move rfl) rfl rfl rfl ?_
    refine s_y (y_assign rfl) rfl rfl rfl ?_
    refine s_nil ?_
    refine f_then ?_
    refine c_ret ?_
    exact f_ret ⟨([(b49, row 162 (tl hd 16 (cntS l n t r 2 0)))] ++ p, .pointer (some ⟨b49, 0, none⟩)), Sub.app _ _, .node (by
      rw [ndc, ← hhd, show (tl hd 16 fun k => Tree.cnt k (l.node n t r)) = tl hd 16 (cntS l n t r 2 0) from tl_congr fun k _ => by simp [Tree.cnt, cntS]]
      exact List.mem_cons_self) (hl.sub (Sub.app _ _)) (hr.sub (Sub.app _ _))⟩ (res1 rfl rfl) (fun w h => h.join)
end Go.KL
end

section
/- Walks: turnLeft, turnRight, joinRight, joinLeft, join. -/
namespace Go.KL
open Go.Proofs
theorem link_ok {W : World} {p : Chunk} {R : List Chunk} {lv rv : Value} {l r : Tree} {n t : Nat} (hl : Tr p lv l) (hr : Tr p rv r) (hk : LOk (Tree.node l n t r).toL) :
    Spec Tryz.prog 81 #[lv, .int .i64 (n : Nat), .int .i64 (t : Nat), rv] (K W (p :: R)) (X := TX p (.node l n t r)) (fun x => x.1.2) (fun x => K W (x.1.1 :: R)) := by
  obtain ⟨h1, h2, h3⟩ := Tree.LOk.node hk
  exact link_spec hl hr h1 h2 h3
attribute [local irreducible] SC St Fin Sq Ylds Doos Sets Enters Spec CellIs CellsAre Then Ret Rnd Chn resOK ints bools recs arr
set_option maxRecDepth 10000 in
set_option maxHeartbeats 4000000 in
theorem turnL_spec {W : World} {p : Chunk} {R : List Chunk} {v : Value} {l rl rr : Tree} {n t rn rt : Nat} (ht : Tr p v (.node l n t (.node rl rn rt rr))) (hk : LOk (Tree.node l n t (.node rl rn rt rr)).toL) :
    Spec Tryz.prog 141 #[v] (K W (p :: R)) (X := TX p (.turnL (.node l n t (.node rl rn rt rr)))) (fun x => x.1.2) (fun x => K W (x.1.1 :: R)) := by
  have hk2 : LOk (Tree.node (.node l n t rl) rn rt rr).toL := hk.eq (by simp [Tree.toL])
  have hk1 : LOk (Tree.node l n t rl).toL := (hk2.eq (B := (Tree.node l n t rl).toL ++ ((rn, rt) :: rr.toL)) rfl).left
  rcases ht.cases with ⟨h, _⟩ | ⟨b, lv, rv, l', n', t', r', h, rfl, hb, hl, hr⟩
  · cases h
  cases h
  rcases hr.cases with ⟨h, _⟩ | ⟨b', lv', rv', l', n', t', r', h, rfl, hb', hl', hr'⟩
  · cases h
  cases h
  obtain ⟨f0, f1, f2, f3, f4, f5, f6, f7⟩ := ndf (W := W) (R := R) hb
  obtain ⟨g0, g1, g2, g3, g4, g5, g6, g7⟩ := ndf (W := W) (R := R) hb'
  clear f4 f5 f6 f7 g4 g5 g6 g7
  refine enter (args := [_]) Tryz.func141 rfl Tryz.ntmps141 rfl ?_
  refine c_seq ?_
  refine c_region ?_
  refine s_y (y_assign rfl) rfl rfl rfl ?_
  refine s_nil ?_
  refine f_then ?_
  refine c_seq ?_
  refine c_region ?_
  refine s_y (y_move rfl) rfl rfl rfl ?_
  refine s_y (y_nilP rfl) rfl rfl rfl ?_
  refine s_y (y_fieldAddrB Tryz.tab 1 rfl rfl rfl rfl rfl) rfl rfl rfl ?_
  refine s_y (y_load Tryz.tab rfl rfl f1) rfl rfl rfl ?_
  refine s_y (y_assign rfl) rfl rfl rfl ?_
  refine s_nil ?_
  refine f_then ?_
  refine c_seq ?_
  refine c_plan [.c 0, .c 1, .c 2, .c 3, .c 4, .c 5, .c 6, .c 7, .c 8, .c 9, .c 10, .c 11, .c 12, .c 13, .c 14, .c 15, .c 17, .c 18, .c 19, .c 20, .c 21, .c 22, .c 23, .c 24, .c 25, .c 26, .c 27, .c 28, .s 16, .s 29, .c 30] [] ((K W (p :: R))) Tryz.mixed (by kernel_rfl) rfl K.cl ?_
  refine d_c rfl (Qui.ylds (y_move rfl)) rfl rfl rfl (fun _ h => h) K.cl ?_
  refine d_c rfl (Qui.ylds (y_nilP rfl)) rfl rfl rfl (fun _ h => h) K.cl ?_
  refine d_c rfl (Qui.ylds (y_fieldAddr0 Tryz.tab rfl rfl rfl rfl rfl)) rfl rfl rfl (fun _ h => h) K.cl ?_
  refine d_c rfl (Qui.ylds (y_load Tryz.tab rfl rfl f0)) rfl rfl rfl (fun _ h => h) K.cl ?_
  refine d_c rfl (Qui.ylds (y_move rfl)) rfl rfl rfl (fun _ h => h) K.cl ?_
  refine d_c rfl (Qui.ylds (y_nilP rfl)) rfl rfl rfl (fun _ h => h) K.cl ?_
  refine d_c rfl (Qui.ylds (y_fieldAddrB Tryz.tab 2 rfl rfl rfl rfl rfl)) rfl rfl rfl (fun _ h => h) K.cl ?_
  refine d_c rfl (Qui.ylds (y_load Tryz.tab rfl rfl f2)) rfl rfl rfl (fun _ h => h) K.cl ?_
  refine d_c rfl (Qui.ylds (y_move rfl)) rfl rfl rfl (fun _ h => h) K.cl ?_
  refine d_c rfl (Qui.ylds (y_nilP rfl)) rfl rfl rfl (fun _ h => h) K.cl ?_
  refine d_c rfl (Qui.ylds (y_fieldAddrB Tryz.tab 3 rfl rfl rfl rfl rfl)) rfl rfl rfl (fun _ h => h) K.cl ?_
  refine d_c rfl (Qui.ylds (y_load Tryz.tab rfl rfl f3)) rfl rfl rfl (fun _ h => h) K.cl ?_
  refine d_c rfl (Qui.ylds (y_move rfl)) rfl rfl rfl (fun _ h => h) K.cl ?_
  refine d_c rfl (Qui.ylds (y_nilP rfl)) rfl rfl rfl (fun _ h => h) K.cl ?_
  refine d_c rfl (Qui.ylds (y_fieldAddr0 Tryz.tab rfl rfl rfl rfl rfl)) rfl rfl rfl (fun _ h => h) K.cl ?_
  refine d_c rfl (Qui.ylds (y_load Tryz.tab rfl rfl g0)) rfl rfl rfl (fun _ h => h) K.cl ?_
  refine d_c rfl (Qui.ylds (y_move rfl)) rfl rfl rfl (fun _ h => h) K.cl ?_
  refine d_c rfl (Qui.ylds (y_nilP rfl)) rfl rfl rfl (fun _ h => h) K.cl ?_
  refine d_c rfl (Qui.ylds (y_fieldAddrB Tryz.tab 2 rfl rfl rfl rfl rfl)) rfl rfl rfl (fun _ h => h) K.cl ?_
  refine d_c rfl (Qui.ylds (y_load Tryz.tab rfl rfl g2)) rfl rfl rfl (fun _ h => h) K.cl ?_
  refine d_c rfl (Qui.ylds (y_move rfl)) rfl rfl rfl (fun _ h => h) K.cl ?_
  refine d_c rfl (Qui.ylds (y_nilP rfl)) rfl rfl rfl (fun _ h => h) K.cl ?_
  refine d_c rfl (Qui.ylds (y_fieldAddrB Tryz.tab 3 rfl rfl rfl rfl rfl)) rfl rfl rfl (fun _ h => h) K.cl ?_
  refine d_c rfl (Qui.ylds (y_load Tryz.tab rfl rfl g3)) rfl rfl rfl (fun _ h => h) K.cl ?_
  refine d_c rfl (Qui.ylds (y_move rfl)) rfl rfl rfl (fun _ h => h) K.cl ?_
  refine d_c rfl (Qui.ylds (y_nilP rfl)) rfl rfl rfl (fun _ h => h) K.cl ?_
  refine d_c rfl (Qui.ylds (y_fieldAddrB Tryz.tab 1 rfl rfl rfl rfl rfl)) rfl rfl rfl (fun _ h => h) K.cl ?_
  refine d_c rfl (Qui.ylds (y_load Tryz.tab rfl rfl g1)) rfl rfl rfl (fun _ h => h) K.cl ?_
  refine d_call rfl (en_f rfl Tryz.call81) (link_ok hl hl' hk1) rfl rfl rfl (fun _ => K.cl) (fun _ x w h => K.sub x.2.1 h) (fun x => ?_)
  obtain ⟨⟨p1, v1⟩, hs1, ht1⟩ := x
  dsimp only
  skip
  refine d_call rfl (en_f rfl Tryz.call81) (link_ok ht1 (hr'.sub hs1) hk2) rfl rfl rfl (fun _ => K.cl) (fun _ x w h => K.sub (hs1.trans x.2.1) h) (fun x => ?_)
  obtain ⟨⟨p2, v2⟩, hs2, ht2⟩ := x
  dsimp only
  have hD : ∀ w, K W (p2 :: R) w → K W (p :: R) w := fun w h => K.sub (hs1.trans hs2) h
  refine d_c rfl (Qui.ylds (y_assign rfl)) rfl rfl rfl hD K.cl ?_
  refine d_nil ?_
  refine f_then ?_
  refine c_ret ?_
  exact f_ret ⟨(p2, v2), hs1.trans hs2, ht2⟩ (res1 rfl rfl) (fun w h => h)
set_option maxRecDepth 10000 in
set_option maxHeartbeats 4000000 in
theorem turnR_spec {W : World} {p : Chunk} {R : List Chunk} {v : Value} {ll lr r : Tree} {n t ln lt : Nat} (ht : Tr p v (.node (.node ll ln lt lr) n t r)) (hk : LOk (Tree.node (.node ll ln lt lr) n t r).toL) :
    Spec Tryz.prog 142 #[v] (K W (p :: R)) (X := TX p (.turnR (.node (.node ll ln lt lr) n t r))) (fun x => x.1.2) (fun x => K W (x.1.1 :: R)) := by
  have hk2 : LOk (Tree.node ll ln lt (.node lr n t r)).toL := hk.eq (by simp [Tree.toL])
  have hk1 : LOk (Tree.node lr n t r).toL := (hk2.eq (B := (ll.toL ++ [(ln, lt)]) ++ (Tree.node lr n t r).toL) (by simp [Tree.toL])).right
  rcases ht.cases with ⟨h, _⟩ | ⟨b, lv, rv, l', n', t', r', h, rfl, hb, hl, hr⟩
  · cases h
  cases h
  rcases hl.cases with ⟨h, _⟩ | ⟨b', lv', rv', l', n', t', r', h, rfl, hb', hl', hr'⟩
  · cases h
  cases h
  obtain ⟨f0, f1, f2, f3, f4, f5, f6, f7⟩ := ndf (W := W) (R := R) hb
  obtain ⟨g0, g1, g2, g3, g4, g5, g6, g7⟩ := ndf (W := W) (R := R) hb'
  clear f4 f5 f6 f7 g4 g5 g6 g7
  refine enter (args := [_]) Tryz.func142 rfl Tryz.ntmps142 rfl ?_
  refine c_seq ?_
  refine c_region ?_
  refine s_y (y_assign rfl) rfl rfl rfl ?_
  refine s_nil ?_
  refine f_then ?_
  refine c_seq ?_
  refine c_region ?_
  refine s_y (y_move rfl) rfl rfl rfl ?_
  refine s_y (y_nilP rfl) rfl rfl rfl ?_
  refine s_y (y_fieldAddr0 Tryz.tab rfl rfl rfl rfl rfl) rfl rfl rfl ?_
  refine s_y (y_load Tryz.tab rfl rfl f0) rfl rfl rfl ?_
  refine s_y (y_assign rfl) rfl rfl rfl ?_
  refine s_nil ?_
  refine f_then ?_
  refine c_seq ?_
  refine c_plan [.c 0, .c 1, .c 2, .c 3, .c 4, .c 5, .c 6, .c 7, .c 8, .c 9, .c 10, .c 11, .c 12, .c 13, .c 14, .c 15, .c 16, .c 17, .c 18, .c 19, .c 20, .c 21, .c 22, .c 23, .c 24, .c 25, .c 26, .c 27, .s 28, .s 29, .c 30] [] ((K W (p :: R))) Tryz.mixed (by kernel_rfl) rfl K.cl ?_
  refine d_c rfl (Qui.ylds (y_move rfl)) rfl rfl rfl (fun _ h => h) K.cl ?_
  refine d_c rfl (Qui.ylds (y_nilP rfl)) rfl rfl rfl (fun _ h => h) K.cl ?_
  refine d_c rfl (Qui.ylds (y_fieldAddr0 Tryz.tab rfl rfl rfl rfl rfl)) rfl rfl rfl (fun _ h => h) K.cl ?_
  refine d_c rfl (Qui.ylds (y_load Tryz.tab rfl rfl g0)) rfl rfl rfl (fun _ h => h) K.cl ?_
  refine d_c rfl (Qui.ylds (y_move rfl)) rfl rfl rfl (fun _ h => h) K.cl ?_
  refine d_c rfl (Qui.ylds (y_nilP rfl)) rfl rfl rfl (fun _ h => h) K.cl ?_
  refine d_c rfl (Qui.ylds (y_fieldAddrB Tryz.tab 2 rfl rfl rfl rfl rfl)) rfl rfl rfl (fun _ h => h) K.cl ?_
  refine d_c rfl (Qui.ylds (y_load Tryz.tab rfl rfl g2)) rfl rfl rfl (fun _ h => h) K.cl ?_
  refine d_c rfl (Qui.ylds (y_move rfl)) rfl rfl rfl (fun _ h => h) K.cl ?_
  refine d_c rfl (Qui.ylds (y_nilP rfl)) rfl rfl rfl (fun _ h => h) K.cl ?_
  refine d_c rfl (Qui.ylds (y_fieldAddrB Tryz.tab 3 rfl rfl rfl rfl rfl)) rfl rfl rfl (fun _ h => h) K.cl ?_
  refine d_c rfl (Qui.ylds (y_load Tryz.tab rfl rfl g3)) rfl rfl rfl (fun _ h => h) K.cl ?_
  refine d_c rfl (Qui.ylds (y_move rfl)) rfl rfl rfl (fun _ h => h) K.cl ?_
  refine d_c rfl (Qui.ylds (y_nilP rfl)) rfl rfl rfl (fun _ h => h) K.cl ?_
  refine d_c rfl (Qui.ylds (y_fieldAddrB Tryz.tab 1 rfl rfl rfl rfl rfl)) rfl rfl rfl (fun _ h => h) K.cl ?_
  refine d_c rfl (Qui.ylds (y_load Tryz.tab rfl rfl g1)) rfl rfl rfl (fun _ h => h) K.cl ?_
  refine d_c rfl (Qui.ylds (y_move rfl)) rfl rfl rfl (fun _ h => h) K.cl ?_
  refine d_c rfl (Qui.ylds (y_nilP rfl)) rfl rfl rfl (fun _ h => h) K.cl ?_
  refine d_c rfl (Qui.ylds (y_fieldAddrB Tryz.tab 2 rfl rfl rfl rfl rfl)) rfl rfl rfl (fun _ h => h) K.cl ?_
  refine d_c rfl (Qui.ylds (y_load Tryz.tab rfl rfl f2)) rfl rfl rfl (fun _ h => h) K.cl ?_
  refine d_c rfl (Qui.ylds (y_move rfl)) rfl rfl rfl (fun _ h => h) K.cl ?_
  refine d_c rfl (Qui.ylds (y_nilP rfl)) rfl rfl rfl (fun _ h => h) K.cl ?_
  refine d_c rfl (Qui.ylds (y_fieldAddrB Tryz.tab 3 rfl rfl rfl rfl rfl)) rfl rfl rfl (fun _ h => h) K.cl ?_
  refine d_c rfl (Qui.ylds (y_load Tryz.tab rfl rfl f3)) rfl rfl rfl (fun _ h => h) K.cl ?_
  refine d_c rfl (Qui.ylds (y_move rfl)) rfl rfl rfl (fun _ h => h) K.cl ?_
  refine d_c rfl (Qui.ylds (y_nilP rfl)) rfl rfl rfl (fun _ h => h) K.cl ?_
  refine d_c rfl (Qui.ylds (y_fieldAddrB Tryz.tab 1 rfl rfl rfl rfl rfl)) rfl rfl rfl (fun _ h => h) K.cl ?_
  refine d_c rfl (Qui.ylds (y_load Tryz.tab rfl rfl f1)) rfl rfl rfl (fun _ h => h) K.cl ?_
  refine d_call rfl (en_f rfl Tryz.call81) (link_ok hr' hr hk1) rfl rfl rfl (fun _ => K.cl) (fun _ x w h => K.sub x.2.1 h) (fun x => ?_)
  obtain ⟨⟨p1, v1⟩, hs1, ht1⟩ := x
  dsimp only
  skip
  refine d_call rfl (en_f rfl Tryz.call81) (link_ok (hl'.sub hs1) ht1 hk2) rfl rfl rfl (fun _ => K.cl) (fun _ x w h => K.sub (hs1.trans x.2.1) h) (fun x => ?_)
  obtain ⟨⟨p2, v2⟩, hs2, ht2⟩ := x
  dsimp only
  have hD : ∀ w, K W (p2 :: R) w → K W (p :: R) w := fun w h => K.sub (hs1.trans hs2) h
  refine d_c rfl (Qui.ylds (y_assign rfl)) rfl rfl rfl hD K.cl ?_
  refine d_nil ?_
  refine f_then ?_
  refine c_ret ?_
  exact f_ret ⟨(p2, v2), hs1.trans hs2, ht2⟩ (res1 rfl rfl) (fun w h => h)
end Go.KL
end

section
/- Walks: joinRight, joinLeft, join. -/
namespace Go.KL
open Go.Proofs
attribute [local irreducible] SC St Fin Sq Ylds Doos Sets Enters Spec CellIs CellsAre Then Ret Rnd Chn resOK ints bools recs arr
set_option maxRecDepth 10000 in
set_option maxHeartbeats 8000000 in
theorem joinR_spec : ∀ (l : Tree) {W : World} {p : Chunk} {R : List Chunk} {lv rv : Value} {r : Tree} {n t : Nat} (_ : Tr p lv l) (_ : Tr p rv r) (_ : l.Bal) (_ : r.Bal) (_ : r.ht + 1 < l.ht) (_ : LOk (l.toL ++ (n, t) :: r.toL)),
    Spec Tryz.prog 129 #[lv, .int .i64 (n : Nat), .int .i64 (t : Nat), rv] (K W (p :: R)) (X := TX p (.joinR l n t r)) (fun x => x.1.2) (fun x => K W (x.1.1 :: R))
  | .nil, _, _, _, _, _, _, _, _, _, _, _, _, h, _ => absurd h (by simp [Tree.ht])
  | .node ll ln lt lr, W, p, R, lv, rv, r, n, t, hl, hr, bl, br, hht, hk => by
    have ih := fun (p1 : Chunk) (lv' : Value) (h1 : Tr p1 lv' lr) (h2 : Tr p1 rv r) (h3 : r.ht + 1 < lr.ht) (h4 : LOk (lr.toL ++ (n, t) :: r.toL)) => joinR_spec lr (W := W) (R := R) h1 h2 bl.2.1 br h3 h4
    have hkw : LOk (Tree.node ll ln lt (.node lr n t r)).toL := hk.eq (by simp [Tree.toL])
    have hkx : LOk (Tree.node lr n t r).toL := (hkw.eq (B := (ll.toL ++ [(ln, lt)]) ++ (Tree.node lr n t r).toL) (by simp [Tree.toL])).right
    have hky : LOk (Tree.node ll ln lt (.joinR lr n t r)).toL := hkw.eq (by simp [Tree.toL, Tree.toL_joinR])
    obtain ⟨bll, blr, b3, b4⟩ := bl
    have ht1 := Tree.ht_le_runs lr
    have ht2 := Tree.ht_le_runs r
    have ht3 := Tree.ht_le_runs ll
    have hb1 : lr.runs ≤ 1152921504606846976 ∧ r.runs ≤ 1152921504606846976 := by
      have := (Tree.LOk.node hkx).2.2
      simp only [Tree.runs] at this
      omega
    have hb2 : ll.runs ≤ 1152921504606846976 := by
      have := (Tree.LOk.node hkw).2.2
      simp only [Tree.runs] at this
      omega
    simp only [Tree.ht] at hht
    rcases hl.cases with ⟨h, _⟩ | ⟨b, lv0, lv1, l', n', t', r', h, rfl, hb, hll, hlr⟩
    · cases h
    cases h
    obtain ⟨f0, f1, f2, f3, f4, f5, f6, f7⟩ := ndf (W := W) (R := R) hb
    clear f4 f5 f6 f7
    refine enter (args := [_, _, _, _]) Tryz.func129 rfl Tryz.ntmps129 rfl ?_
    refine c_seq ?_
    refine c_region ?_
    refine s_y (y_assign rfl) rfl rfl rfl ?_
    refine s_nil ?_
    refine f_then ?_
    refine c_seq ?_
    refine c_seq ?_
    refine c_region ?_
    refine s_y (y_move rfl) rfl rfl rfl ?_
    refine s_y (y_nilP rfl) rfl rfl rfl ?_
    refine s_y (y_fieldAddrB Tryz.tab 1 rfl rfl rfl rfl rfl) rfl rfl rfl ?_
    refine s_y (y_load Tryz.tab rfl rfl f1) rfl rfl rfl ?_
    refine s_call (en_f rfl Tryz.call128) (high_spec hlr) rfl rfl rfl (fun _ => ?_)
    refine s_y (y_move rfl) rfl rfl rfl ?_
    refine s_call (en_f rfl Tryz.call128) (high_spec hr) rfl rfl rfl (fun _ => ?_)
    by_cases c1 : lr.ht ≤ r.ht + 1
    · by_cases c2 : (Tree.node lr n t r).ht ≤ ll.ht + 1
      · rw [Tree.joinR, if_pos c1, if_pos c2]
        clear ih
        refine s_y (y_add rfl rfl (by omega)) rfl rfl rfl ?_
        refine s_y (y_T (y_leq rfl rfl) (by omega)) rfl rfl rfl ?_
        refine s_nil ?_
        refine f_then ?_
        refine c_condT rfl ?_
        refine c_seq ?_
        refine c_region ?_
        refine s_y (y_move rfl) rfl rfl rfl ?_
        refine s_y (y_nilP rfl) rfl rfl rfl ?_
        refine s_y (y_fieldAddrB Tryz.tab 1 rfl rfl rfl rfl rfl) rfl rfl rfl ?_
        refine s_y (y_load Tryz.tab rfl rfl f1) rfl rfl rfl ?_
        refine s_y (y_move rfl) rfl rfl rfl ?_
        refine s_y (y_move rfl) rfl rfl rfl ?_
        refine s_y (y_move rfl) rfl rfl rfl ?_
        refine s_call (en_f rfl Tryz.call81) (link_ok hlr hr hkx) rfl rfl rfl (fun x => ?_)
        obtain ⟨⟨p1, v9⟩, hs1, ht9⟩ := x
        dsimp only at hs1 ht9 ⊢
        have hll1 := hll.sub hs1
        refine s_y (y_assign rfl) rfl rfl rfl ?_
        refine s_nil ?_
        refine f_then ?_
        refine c_seq ?_
        refine c_seq ?_
        refine c_plan [.c 0, .c 1, .c 2, .c 3, .c 4, .c 5, .c 6, .c 7, .c 8] [] ((K W (p1 :: R))) Tryz.mixed (by kernel_rfl) rfl K.cl ?_
        refine d_c rfl (Qui.ylds (y_move rfl)) rfl rfl rfl (fun _ h => h) K.cl ?_
        refine d_c rfl (Qui.callD K.cl (en_f rfl Tryz.call128) (high_q (by assumption))) rfl rfl rfl (fun _ h => h) K.cl ?_
        refine d_c rfl (Qui.ylds (y_move rfl)) rfl rfl rfl (fun _ h => h) K.cl ?_
        refine d_c rfl (Qui.ylds (y_nilP rfl)) rfl rfl rfl (fun _ h => h) K.cl ?_
        refine d_c rfl (Qui.ylds (y_fieldAddr0 Tryz.tab rfl rfl rfl rfl rfl)) rfl rfl rfl (fun _ h => h) K.cl ?_
        refine d_c rfl (Qui.ylds (y_load Tryz.tab rfl rfl (f0.cls (fun _ => K.sub (by assumption))))) rfl rfl rfl (fun _ h => h) K.cl ?_
        refine d_c rfl (Qui.callD K.cl (en_f rfl Tryz.call128) (high_q (by assumption))) rfl rfl rfl (fun _ h => h) K.cl ?_
        refine d_c rfl (Qui.ylds (y_add rfl rfl (by omega))) rfl rfl rfl (fun _ h => h) K.cl ?_
        refine d_c rfl (Qui.ylds (y_T (y_leq rfl rfl) (by omega))) rfl rfl rfl (fun _ h => h) K.cl ?_
        refine d_nil ?_
        refine f_then ?_
        refine c_condT rfl ?_
        refine c_seq ?_
        refine c_plan [.c 0, .c 1, .c 2, .c 3, .c 4, .c 5, .c 6, .c 7, .c 8, .c 9, .c 10, .c 11, .c 12, .s 13, .c 14] [] ((K W (p1 :: R))) Tryz.mixed (by kernel_rfl) rfl K.cl ?_
        refine d_c rfl (Qui.ylds (y_move rfl)) rfl rfl rfl (fun _ h => h) K.cl ?_
        refine d_c rfl (Qui.ylds (y_nilP rfl)) rfl rfl rfl (fun _ h => h) K.cl ?_
        refine d_c rfl (Qui.ylds (y_fieldAddr0 Tryz.tab rfl rfl rfl rfl rfl)) rfl rfl rfl (fun _ h => h) K.cl ?_
        refine d_c rfl (Qui.ylds (y_load Tryz.tab rfl rfl (f0.cls (fun _ => K.sub (by assumption))))) rfl rfl rfl (fun _ h => h) K.cl ?_
        refine d_c rfl (Qui.ylds (y_move rfl)) rfl rfl rfl (fun _ h => h) K.cl ?_
        refine d_c rfl (Qui.ylds (y_nilP rfl)) rfl rfl rfl (fun _ h => h) K.cl ?_
        refine d_c rfl (Qui.ylds (y_fieldAddrB Tryz.tab 2 rfl rfl rfl rfl rfl)) rfl rfl rfl (fun _ h => h) K.cl ?_
        refine d_c rfl (Qui.ylds (y_load Tryz.tab rfl rfl (f2.cls (fun _ => K.sub (by assumption))))) rfl rfl rfl (fun _ h => h) K.cl ?_
        refine d_c rfl (Qui.ylds (y_move rfl)) rfl rfl rfl (fun _ h => h) K.cl ?_
        refine d_c rfl (Qui.ylds (y_nilP rfl)) rfl rfl rfl (fun _ h => h) K.cl ?_
        refine d_c rfl (Qui.ylds (y_fieldAddrB Tryz.tab 3 rfl rfl rfl rfl rfl)) rfl rfl rfl (fun _ h => h) K.cl ?_
        refine d_c rfl (Qui.ylds (y_load Tryz.tab rfl rfl (f3.cls (fun _ => K.sub (by assumption))))) rfl rfl rfl (fun _ h => h) K.cl ?_
        refine d_c rfl (Qui.ylds (y_move rfl)) rfl rfl rfl (fun _ h => h) K.cl ?_
        refine d_call rfl (en_f rfl Tryz.call81) (link_ok hll1 ht9 hkw) rfl rfl rfl (fun _ => K.cl) (fun _ x w h => K.sub x.2.1 h) (fun x => ?_)
        obtain ⟨⟨p2, v2⟩, hs2, ht2⟩ := x
        dsimp only at hs2 ht2 ⊢
        have hD : ∀ w, K W (p2 :: R) w → K W (p1 :: R) w := fun w h => K.sub hs2 h
        refine d_c rfl (Qui.ylds (y_assign rfl)) rfl rfl rfl hD K.cl ?_
        refine d_nil ?_
        refine f_then ?_
        refine c_ret ?_
        refine f_thenR ?_
        refine f_thenR ?_
        exact f_ret ⟨(p2, v2), hs1.trans hs2, ht2⟩ (res1 rfl rfl) (fun w h => h)
      · rw [Tree.joinR, if_pos c1, if_neg c2]
        cases lr with
        | nil => simp only [Tree.ht] at c2 b3 b4 c1 hht; omega
        | node a an at_ b =>
          clear ih
          have hkz : LOk (Tree.node ll ln lt (.turnR (.node (.node a an at_ b) n t r))).toL := hkw.eq (by simp [Tree.toL, Tree.turnR])
          refine s_y (y_add rfl rfl (by omega)) rfl rfl rfl ?_
          refine s_y (y_T (y_leq rfl rfl) (by omega)) rfl rfl rfl ?_
          refine s_nil ?_
          refine f_then ?_
          refine c_condT rfl ?_
          refine c_seq ?_
          refine c_region ?_
          refine s_y (y_move rfl) rfl rfl rfl ?_
          refine s_y (y_nilP rfl) rfl rfl rfl ?_
          refine s_y (y_fieldAddrB Tryz.tab 1 rfl rfl rfl rfl rfl) rfl rfl rfl ?_
          refine s_y (y_load Tryz.tab rfl rfl f1) rfl rfl rfl ?_
          refine s_y (y_move rfl) rfl rfl rfl ?_
          refine s_y (y_move rfl) rfl rfl rfl ?_
          refine s_y (y_move rfl) rfl rfl rfl ?_
          refine s_call (en_f rfl Tryz.call81) (link_ok hlr hr hkx) rfl rfl rfl (fun x => ?_)
          obtain ⟨⟨p1, v9⟩, hs1, ht9⟩ := x
          dsimp only at hs1 ht9 ⊢
          have hll1 := hll.sub hs1
          refine s_y (y_assign rfl) rfl rfl rfl ?_
          refine s_nil ?_
          refine f_then ?_
          refine c_seq ?_
          refine c_seq ?_
          refine c_plan [.c 0, .c 1, .c 2, .c 3, .c 4, .c 5, .c 6, .c 7, .c 8] [] ((K W (p1 :: R))) Tryz.mixed (by kernel_rfl) rfl K.cl ?_
          refine d_c rfl (Qui.ylds (y_move rfl)) rfl rfl rfl (fun _ h => h) K.cl ?_
          refine d_c rfl (Qui.callD K.cl (en_f rfl Tryz.call128) (high_q (by assumption))) rfl rfl rfl (fun _ h => h) K.cl ?_
          refine d_c rfl (Qui.ylds (y_move rfl)) rfl rfl rfl (fun _ h => h) K.cl ?_
          refine d_c rfl (Qui.ylds (y_nilP rfl)) rfl rfl rfl (fun _ h => h) K.cl ?_
          refine d_c rfl (Qui.ylds (y_fieldAddr0 Tryz.tab rfl rfl rfl rfl rfl)) rfl rfl rfl (fun _ h => h) K.cl ?_
          refine d_c rfl (Qui.ylds (y_load Tryz.tab rfl rfl (f0.cls (fun _ => K.sub (by assumption))))) rfl rfl rfl (fun _ h => h) K.cl ?_
          refine d_c rfl (Qui.callD K.cl (en_f rfl Tryz.call128) (high_q (by assumption))) rfl rfl rfl (fun _ h => h) K.cl ?_
          refine d_c rfl (Qui.ylds (y_add rfl rfl (by omega))) rfl rfl rfl (fun _ h => h) K.cl ?_
          refine d_c rfl (Qui.ylds (y_F (y_leq rfl rfl) (by omega))) rfl rfl rfl (fun _ h => h) K.cl ?_
          refine d_nil ?_
          refine f_then ?_
          refine c_condF rfl ?_
          refine c_skip ?_
          refine f_then ?_
          refine c_seq ?_
          refine c_plan [.c 0, .c 1, .c 2, .c 3, .c 4, .c 5, .c 6, .c 7, .c 8, .c 9, .c 10, .c 11, .c 12, .s 13, .s 14, .s 15, .c 16] [] ((K W (p1 :: R))) Tryz.mixed (by kernel_rfl) rfl K.cl ?_
          refine d_c rfl (Qui.ylds (y_move rfl)) rfl rfl rfl (fun _ h => h) K.cl ?_
          refine d_c rfl (Qui.ylds (y_nilP rfl)) rfl rfl rfl (fun _ h => h) K.cl ?_
          refine d_c rfl (Qui.ylds (y_fieldAddr0 Tryz.tab rfl rfl rfl rfl rfl)) rfl rfl rfl (fun _ h => h) K.cl ?_
          refine d_c rfl (Qui.ylds (y_load Tryz.tab rfl rfl (f0.cls (fun _ => K.sub (by assumption))))) rfl rfl rfl (fun _ h => h) K.cl ?_
          refine d_c rfl (Qui.ylds (y_move rfl)) rfl rfl rfl (fun _ h => h) K.cl ?_
          refine d_c rfl (Qui.ylds (y_nilP rfl)) rfl rfl rfl (fun _ h => h) K.cl ?_
          refine d_c rfl (Qui.ylds (y_fieldAddrB Tryz.tab 2 rfl rfl rfl rfl rfl)) rfl rfl rfl (fun _ h => h) K.cl ?_
          refine d_c rfl (Qui.ylds (y_load Tryz.tab rfl rfl (f2.cls (fun _ => K.sub (by assumption))))) rfl rfl rfl (fun _ h => h) K.cl ?_
          refine d_c rfl (Qui.ylds (y_move rfl)) rfl rfl rfl (fun _ h => h) K.cl ?_
          refine d_c rfl (Qui.ylds (y_nilP rfl)) rfl rfl rfl (fun _ h => h) K.cl ?_
          refine d_c rfl (Qui.ylds (y_fieldAddrB Tryz.tab 3 rfl rfl rfl rfl rfl)) rfl rfl rfl (fun _ h => h) K.cl ?_
          refine d_c rfl (Qui.ylds (y_load Tryz.tab rfl rfl (f3.cls (fun _ => K.sub (by assumption))))) rfl rfl rfl (fun _ h => h) K.cl ?_
          refine d_c rfl (Qui.ylds (y_move rfl)) rfl rfl rfl (fun _ h => h) K.cl ?_
          refine d_call rfl (en_f rfl Tryz.call142) (turnR_spec ht9 hkx) rfl rfl rfl (fun _ => K.cl) (fun _ x w h => K.sub x.2.1 h) (fun x => ?_)
          obtain ⟨⟨p2, v2⟩, hs2, ht2⟩ := x
          dsimp only at hs2 ht2 ⊢
          have hD : ∀ w, K W (p2 :: R) w → K W (p1 :: R) w := fun w h => K.sub hs2 h
          skip
          refine d_call rfl (en_f rfl Tryz.call81) (link_ok (hll1.sub hs2) ht2 hkz) rfl rfl rfl (fun _ => K.cl) (fun _ x w h => K.sub (hs2.trans x.2.1) h) (fun x => ?_)
          obtain ⟨⟨p3, v3⟩, hs3, ht3⟩ := x
          dsimp only at hs3 ht3 ⊢
          have hD1 : ∀ w, K W (p3 :: R) w → K W (p1 :: R) w := fun w h => K.sub (hs2.trans hs3) h
          skip
          refine d_call rfl (en_f rfl Tryz.call141) (turnL_spec ht3 hkz) rfl rfl rfl (fun _ => K.cl) (fun _ x w h => K.sub ((hs2.trans hs3).trans x.2.1) h) (fun x => ?_)
          obtain ⟨⟨p4, v4⟩, hs4, ht4⟩ := x
          dsimp only at hs4 ht4 ⊢
          have hD2 : ∀ w, K W (p4 :: R) w → K W (p1 :: R) w := fun w h => K.sub ((hs2.trans hs3).trans hs4) h
          refine d_c rfl (Qui.ylds (y_assign rfl)) rfl rfl rfl hD2 K.cl ?_
          refine d_nil ?_
          refine f_then ?_
          refine c_ret ?_
          refine f_thenR ?_
          exact f_ret ⟨(p4, v4), ((hs1.trans hs2).trans hs3).trans hs4, ht4⟩ (res1 rfl rfl) (fun w h => h)
    · obtain ⟨bx, bx1, bx2, _⟩ := Tree.joinR_bal lr n t r blr br (by omega)
      have hxr := Tree.ht_le_runs (Tree.joinR lr n t r)
      have hxb : (Tree.joinR lr n t r).runs ≤ 1152921504606846976 := by
        have := (Tree.LOk.node hky).2.2
        simp only [Tree.runs] at this
        omega
      by_cases c2 : (Tree.joinR lr n t r).ht ≤ ll.ht + 1
      · rw [Tree.joinR, if_neg c1, if_pos c2]
        refine s_y (y_add rfl rfl (by omega)) rfl rfl rfl ?_
        refine s_y (y_F (y_leq rfl rfl) (by omega)) rfl rfl rfl ?_
        refine s_nil ?_
        refine f_then ?_
        refine c_condF rfl ?_
        refine c_skip ?_
        refine f_then ?_
        refine c_seq ?_
        refine c_region ?_
        refine s_y (y_move rfl) rfl rfl rfl ?_
        refine s_y (y_nilP rfl) rfl rfl rfl ?_
        refine s_y (y_fieldAddrB Tryz.tab 1 rfl rfl rfl rfl rfl) rfl rfl rfl ?_
        refine s_y (y_load Tryz.tab rfl rfl f1) rfl rfl rfl ?_
        refine s_y (y_move rfl) rfl rfl rfl ?_
        refine s_y (y_move rfl) rfl rfl rfl ?_
        refine s_y (y_move rfl) rfl rfl rfl ?_
        refine s_call (en_f rfl Tryz.call129) (ih p lv1 hlr hr (by omega) (hk.eq (B := (ll.toL ++ [(ln, lt)]) ++ (lr.toL ++ (n, t) :: r.toL)) (by simp [Tree.toL])).right) rfl rfl rfl (fun x => ?_)
        obtain ⟨⟨p1, v9⟩, hs1, ht9⟩ := x
        dsimp only at hs1 ht9 ⊢
        have hll1 := hll.sub hs1
        clear ih
        generalize Tree.joinR lr n t r = xt at *
        refine s_y (y_assign rfl) rfl rfl rfl ?_
        refine s_nil ?_
        refine f_then ?_
        refine c_seq ?_
        refine c_plan [.c 0, .c 1, .c 2, .c 3, .c 4, .c 5, .c 6, .c 7, .c 8, .c 9, .c 10, .c 11, .c 12, .s 13, .c 14] [] ((K W (p1 :: R))) Tryz.mixed (by kernel_rfl) rfl K.cl ?_
        refine d_c rfl (Qui.ylds (y_move rfl)) rfl rfl rfl (fun _ h => h) K.cl ?_
        refine d_c rfl (Qui.ylds (y_nilP rfl)) rfl rfl rfl (fun _ h => h) K.cl ?_
        refine d_c rfl (Qui.ylds (y_fieldAddr0 Tryz.tab rfl rfl rfl rfl rfl)) rfl rfl rfl (fun _ h => h) K.cl ?_
        refine d_c rfl (Qui.ylds (y_load Tryz.tab rfl rfl (f0.cls (fun _ => K.sub (by assumption))))) rfl rfl rfl (fun _ h => h) K.cl ?_
        refine d_c rfl (Qui.ylds (y_move rfl)) rfl rfl rfl (fun _ h => h) K.cl ?_
        refine d_c rfl (Qui.ylds (y_nilP rfl)) rfl rfl rfl (fun _ h => h) K.cl ?_
        refine d_c rfl (Qui.ylds (y_fieldAddrB Tryz.tab 2 rfl rfl rfl rfl rfl)) rfl rfl rfl (fun _ h => h) K.cl ?_
        refine d_c rfl (Qui.ylds (y_load Tryz.tab rfl rfl (f2.cls (fun _ => K.sub (by assumption))))) rfl rfl rfl (fun _ h => h) K.cl ?_
        refine d_c rfl (Qui.ylds (y_move rfl)) rfl rfl rfl (fun _ h => h) K.cl ?_
        refine d_c rfl (Qui.ylds (y_nilP rfl)) rfl rfl rfl (fun _ h => h) K.cl ?_
        refine d_c rfl (Qui.ylds (y_fieldAddrB Tryz.tab 3 rfl rfl rfl rfl rfl)) rfl rfl rfl (fun _ h => h) K.cl ?_
        refine d_c rfl (Qui.ylds (y_load Tryz.tab rfl rfl (f3.cls (fun _ => K.sub (by assumption))))) rfl rfl rfl (fun _ h => h) K.cl ?_
        refine d_c rfl (Qui.ylds (y_move rfl)) rfl rfl rfl (fun _ h => h) K.cl ?_
        refine d_call rfl (en_f rfl Tryz.call81) (link_ok hll1 ht9 hky) rfl rfl rfl (fun _ => K.cl) (fun _ x w h => K.sub x.2.1 h) (fun x => ?_)
        obtain ⟨⟨p2, v2⟩, hs2, ht2⟩ := x
        dsimp only at hs2 ht2 ⊢
        have hD : ∀ w, K W (p2 :: R) w → K W (p1 :: R) w := fun w h => K.sub hs2 h
        have hll2 := hll1.sub hs2
        have ht92 := ht9.sub hs2
        have hs12 := hs1.trans hs2
        refine d_c rfl (Qui.ylds (y_assign rfl)) rfl rfl rfl hD K.cl ?_
        refine d_nil ?_
        refine f_then ?_
        refine c_seq ?_
        refine c_seq ?_
        refine c_plan [.c 0, .c 1, .c 2, .c 3, .c 4, .c 5, .c 6, .c 7, .c 8] [] ((K W (p2 :: R))) Tryz.mixed (by kernel_rfl) rfl K.cl ?_
        refine d_c rfl (Qui.ylds (y_move rfl)) rfl rfl rfl (fun _ h => h) K.cl ?_
        refine d_c rfl (Qui.callD K.cl (en_f rfl Tryz.call128) (high_q (by assumption))) rfl rfl rfl (fun _ h => h) K.cl ?_
        refine d_c rfl (Qui.ylds (y_move rfl)) rfl rfl rfl (fun _ h => h) K.cl ?_
        refine d_c rfl (Qui.ylds (y_nilP rfl)) rfl rfl rfl (fun _ h => h) K.cl ?_
        refine d_c rfl (Qui.ylds (y_fieldAddr0 Tryz.tab rfl rfl rfl rfl rfl)) rfl rfl rfl (fun _ h => h) K.cl ?_
        refine d_c rfl (Qui.ylds (y_load Tryz.tab rfl rfl (f0.cls (fun _ => K.sub (by assumption))))) rfl rfl rfl (fun _ h => h) K.cl ?_
        refine d_c rfl (Qui.callD K.cl (en_f rfl Tryz.call128) (high_q (by assumption))) rfl rfl rfl (fun _ h => h) K.cl ?_
        refine d_c rfl (Qui.ylds (y_add rfl rfl (by omega))) rfl rfl rfl (fun _ h => h) K.cl ?_
        refine d_c rfl (Qui.ylds (y_T (y_leq rfl rfl) (by omega))) rfl rfl rfl (fun _ h => h) K.cl ?_
        refine d_nil ?_
        refine f_then ?_
        refine c_condT rfl ?_
        refine c_seq ?_
        refine c_region ?_
        refine s_y (y_move rfl) rfl rfl rfl ?_
        refine s_y (y_assign rfl) rfl rfl rfl ?_
        refine s_nil ?_
        refine f_then ?_
        refine c_ret ?_
        refine f_thenR ?_
        exact f_ret ⟨(p2, v2), hs1.trans hs2, ht2⟩ (res1 rfl rfl) (fun w h => h)
      · rw [Tree.joinR, if_neg c1, if_neg c2]
        refine s_y (y_add rfl rfl (by omega)) rfl rfl rfl ?_
        refine s_y (y_F (y_leq rfl rfl) (by omega)) rfl rfl rfl ?_
        refine s_nil ?_
        refine f_then ?_
        refine c_condF rfl ?_
        refine c_skip ?_
        refine f_then ?_
        refine c_seq ?_
        refine c_region ?_
        refine s_y (y_move rfl) rfl rfl rfl ?_
        refine s_y (y_nilP rfl) rfl rfl rfl ?_
        refine s_y (y_fieldAddrB Tryz.tab 1 rfl rfl rfl rfl rfl) rfl rfl rfl ?_
        refine s_y (y_load Tryz.tab rfl rfl f1) rfl rfl rfl ?_
        refine s_y (y_move rfl) rfl rfl rfl ?_
        refine s_y (y_move rfl) rfl rfl rfl ?_
        refine s_y (y_move rfl) rfl rfl rfl ?_
        refine s_call (en_f rfl Tryz.call129) (ih p lv1 hlr hr (by omega) (hk.eq (B := (ll.toL ++ [(ln, lt)]) ++ (lr.toL ++ (n, t) :: r.toL)) (by simp [Tree.toL])).right) rfl rfl rfl (fun x => ?_)
        obtain ⟨⟨p1, v9⟩, hs1, ht9⟩ := x
        dsimp only at hs1 ht9 ⊢
        have hll1 := hll.sub hs1
        clear ih
        generalize Tree.joinR lr n t r = xt at *
        refine s_y (y_assign rfl) rfl rfl rfl ?_
        refine s_nil ?_
        refine f_then ?_
        refine c_seq ?_
        refine c_plan [.c 0, .c 1, .c 2, .c 3, .c 4, .c 5, .c 6, .c 7, .c 8, .c 9, .c 10, .c 11, .c 12, .s 13, .c 14] [] ((K W (p1 :: R))) Tryz.mixed (by kernel_rfl) rfl K.cl ?_
        refine d_c rfl (Qui.ylds (y_move rfl)) rfl rfl rfl (fun _ h => h) K.cl ?_
        refine d_c rfl (Qui.ylds (y_nilP rfl)) rfl rfl rfl (fun _ h => h) K.cl ?_
        refine d_c rfl (Qui.ylds (y_fieldAddr0 Tryz.tab rfl rfl rfl rfl rfl)) rfl rfl rfl (fun _ h => h) K.cl ?_
        refine d_c rfl (Qui.ylds (y_load Tryz.tab rfl rfl (f0.cls (fun _ => K.sub (by assumption))))) rfl rfl rfl (fun _ h => h) K.cl ?_
        refine d_c rfl (Qui.ylds (y_move rfl)) rfl rfl rfl (fun _ h => h) K.cl ?_
        refine d_c rfl (Qui.ylds (y_nilP rfl)) rfl rfl rfl (fun _ h => h) K.cl ?_
        refine d_c rfl (Qui.ylds (y_fieldAddrB Tryz.tab 2 rfl rfl rfl rfl rfl)) rfl rfl rfl (fun _ h => h) K.cl ?_
        refine d_c rfl (Qui.ylds (y_load Tryz.tab rfl rfl (f2.cls (fun _ => K.sub (by assumption))))) rfl rfl rfl (fun _ h => h) K.cl ?_
        refine d_c rfl (Qui.ylds (y_move rfl)) rfl rfl rfl (fun _ h => h) K.cl ?_
        refine d_c rfl (Qui.ylds (y_nilP rfl)) rfl rfl rfl (fun _ h => h) K.cl ?_
        refine d_c rfl (Qui.ylds (y_fieldAddrB Tryz.tab 3 rfl rfl rfl rfl rfl)) rfl rfl rfl (fun _ h => h) K.cl ?_
        refine d_c rfl (Qui.ylds (y_load Tryz.tab rfl rfl (f3.cls (fun _ => K.sub (by assumption))))) rfl rfl rfl (fun _ h => h) K.cl ?_
        refine d_c rfl (Qui.ylds (y_move rfl)) rfl rfl rfl (fun _ h => h) K.cl ?_
        refine d_call rfl (en_f rfl Tryz.call81) (link_ok hll1 ht9 hky) rfl rfl rfl (fun _ => K.cl) (fun _ x w h => K.sub x.2.1 h) (fun x => ?_)
        obtain ⟨⟨p2, v2⟩, hs2, ht2⟩ := x
        dsimp only at hs2 ht2 ⊢
        have hD : ∀ w, K W (p2 :: R) w → K W (p1 :: R) w := fun w h => K.sub hs2 h
        have hll2 := hll1.sub hs2
        have ht92 := ht9.sub hs2
        have hs12 := hs1.trans hs2
        refine d_c rfl (Qui.ylds (y_assign rfl)) rfl rfl rfl hD K.cl ?_
        refine d_nil ?_
        refine f_then ?_
        refine c_seq ?_
        refine c_seq ?_
        refine c_plan [.c 0, .c 1, .c 2, .c 3, .c 4, .c 5, .c 6, .c 7, .c 8] [] ((K W (p2 :: R))) Tryz.mixed (by kernel_rfl) rfl K.cl ?_
        refine d_c rfl (Qui.ylds (y_move rfl)) rfl rfl rfl (fun _ h => h) K.cl ?_
        refine d_c rfl (Qui.callD K.cl (en_f rfl Tryz.call128) (high_q (by assumption))) rfl rfl rfl (fun _ h => h) K.cl ?_
        refine d_c rfl (Qui.ylds (y_move rfl)) rfl rfl rfl (fun _ h => h) K.cl ?_
        refine d_c rfl (Qui.ylds (y_nilP rfl)) rfl rfl rfl (fun _ h => h) K.cl ?_
        refine d_c rfl (Qui.ylds (y_fieldAddr0 Tryz.tab rfl rfl rfl rfl rfl)) rfl rfl rfl (fun _ h => h) K.cl ?_
        refine d_c rfl (Qui.ylds (y_load Tryz.tab rfl rfl (f0.cls (fun _ => K.sub (by assumption))))) rfl rfl rfl (fun _ h => h) K.cl ?_
        refine d_c rfl (Qui.callD K.cl (en_f rfl Tryz.call128) (high_q (by assumption))) rfl rfl rfl (fun _ h => h) K.cl ?_
        refine d_c rfl (Qui.ylds (y_add rfl rfl (by omega))) rfl rfl rfl (fun _ h => h) K.cl ?_
        refine d_c rfl (Qui.ylds (y_F (y_leq rfl rfl) (by omega))) rfl rfl rfl (fun _ h => h) K.cl ?_
        refine d_nil ?_
        refine f_then ?_
        refine c_condF rfl ?_
        refine c_skip ?_
        refine f_then ?_
        refine c_seq ?_
        refine c_region ?_
        refine s_y (y_move rfl) rfl rfl rfl ?_
        cases xt with
        | nil => simp only [Tree.ht] at c2; omega
        | node a an at_ b =>
          refine s_call (en_f rfl Tryz.call141) (turnL_spec ht2 hky) rfl rfl rfl (fun x => ?_)
          obtain ⟨⟨p3, v3⟩, hs3, ht3⟩ := x
          dsimp only at hs3 ht3 ⊢
          refine s_y (y_assign rfl) rfl rfl rfl ?_
          refine s_nil ?_
          refine f_then ?_
          refine c_ret ?_
          exact f_ret ⟨(p3, v3), hs12.trans hs3, ht3⟩ (res1 rfl rfl) (fun w h => h)
end Go.KL
end

section
/- Walks: joinLeft, join. -/
namespace Go.KL
open Go.Proofs
attribute [local irreducible] SC St Fin Sq Ylds Doos Sets Enters Spec CellIs CellsAre Then Ret Rnd Chn resOK ints bools recs arr
set_option maxRecDepth 10000 in
set_option maxHeartbeats 8000000 in
theorem joinL_spec {l : Tree} {n t : Nat} : ∀ (r : Tree) {W : World} {p : Chunk} {R : List Chunk} {lv rv : Value} (_ : Tr p lv l) (_ : Tr p rv r) (_ : l.Bal) (_ : r.Bal) (_ : l.ht + 1 < r.ht) (_ : LOk (l.toL ++ (n, t) :: r.toL)),
    Spec Tryz.prog 130 #[lv, .int .i64 (n : Nat), .int .i64 (t : Nat), rv] (K W (p :: R)) (X := TX p (.joinL l n t r)) (fun x => x.1.2) (fun x => K W (x.1.1 :: R))
  | .nil, _, _, _, _, _, _, _, _, _, h, _ => absurd h (by simp [Tree.ht])
  | .node rl rn rt rr, W, p, R, lv, rv, hl, hr, bl, br, hht, hk => by
    have ih := fun (p1 : Chunk) (rv' : Value) (h1 : Tr p1 lv l) (h2 : Tr p1 rv' rl) (h3 : l.ht + 1 < rl.ht) (h4 : LOk (l.toL ++ (n, t) :: rl.toL)) => joinL_spec rl (W := W) (R := R) h1 h2 bl br.1 h3 h4
    have hkw : LOk (Tree.node (.node l n t rl) rn rt rr).toL := hk.eq (by simp [Tree.toL])
    have hkx : LOk (Tree.node l n t rl).toL := (hkw.eq (B := (Tree.node l n t rl).toL ++ ((rn, rt) :: rr.toL)) (by simp [Tree.toL])).left
    have hky : LOk (Tree.node (.joinL l n t rl) rn rt rr).toL := hkw.eq (by simp [Tree.toL, Tree.toL_joinL])
    obtain ⟨bll, blr, b3, b4⟩ := br
    have ht1 := Tree.ht_le_runs rl
    have ht2 := Tree.ht_le_runs l
    have ht3 := Tree.ht_le_runs rr
    have hb1 : rl.runs ≤ 1152921504606846976 ∧ l.runs ≤ 1152921504606846976 := by
      have := (Tree.LOk.node hkx).2.2
      simp only [Tree.runs] at this
      omega
    have hb2 : rr.runs ≤ 1152921504606846976 := by
      have := (Tree.LOk.node hkw).2.2
      simp only [Tree.runs] at this
      omega
    simp only [Tree.ht] at hht
    rcases hr.cases with ⟨h, _⟩ | ⟨b, lv0, lv1, l', n', t', r', h, rfl, hb, hll, hlr⟩
    · cases h
    cases h
    obtain ⟨f0, f1, f2, f3, f4, f5, f6, f7⟩ := ndf (W := W) (R := R) hb
    clear f4 f5 f6 f7
    refine enter (args := [_, _, _, _]) Tryz.func130 rfl Tryz.ntmps130 rfl ?_
    refine c_seq ?_
    refine c_region ?_
    refine s_y (y_assign rfl) rfl rfl rfl ?_
    refine s_nil ?_
    refine f_then ?_
    refine c_seq ?_
    refine c_seq ?_
    refine c_region ?_
    refine s_y (y_move rfl) rfl rfl rfl ?_
    refine s_y (y_nilP rfl) rfl rfl rfl ?_
    refine s_y (y_fieldAddr0 Tryz.tab rfl rfl rfl rfl rfl) rfl rfl rfl ?_
    refine s_y (y_load Tryz.tab rfl rfl f0) rfl rfl rfl ?_
    refine s_call (en_f rfl Tryz.call128) (high_spec hll) rfl rfl rfl (fun _ => ?_)
    refine s_y (y_move rfl) rfl rfl rfl ?_
    refine s_call (en_f rfl Tryz.call128) (high_spec hl) rfl rfl rfl (fun _ => ?_)
    by_cases c1 : rl.ht ≤ l.ht + 1
    · by_cases c2 : (Tree.node l n t rl).ht ≤ rr.ht + 1
      · rw [Tree.joinL, if_pos c1, if_pos c2]
        clear ih
        refine s_y (y_add rfl rfl (by omega)) rfl rfl rfl ?_
        refine s_y (y_T (y_leq rfl rfl) (by omega)) rfl rfl rfl ?_
        refine s_nil ?_
        refine f_then ?_
        refine c_condT rfl ?_
        refine c_seq ?_
        refine c_region ?_
        refine s_y (y_move rfl) rfl rfl rfl ?_
        refine s_y (y_move rfl) rfl rfl rfl ?_
        refine s_y (y_move rfl) rfl rfl rfl ?_
        refine s_y (y_move rfl) rfl rfl rfl ?_
        refine s_y (y_nilP rfl) rfl rfl rfl ?_
        refine s_y (y_fieldAddr0 Tryz.tab rfl rfl rfl rfl rfl) rfl rfl rfl ?_
        refine s_y (y_load Tryz.tab rfl rfl f0) rfl rfl rfl ?_
        refine s_call (en_f rfl Tryz.call81) (link_ok hl hll hkx) rfl rfl rfl (fun x => ?_)
        obtain ⟨⟨p1, v9⟩, hs1, ht9⟩ := x
        dsimp only at hs1 ht9 ⊢
        have hll1 := hlr.sub hs1
        refine s_y (y_assign rfl) rfl rfl rfl ?_
        refine s_nil ?_
        refine f_then ?_
        refine c_seq ?_
        refine c_seq ?_
        refine c_plan [.c 0, .c 1, .c 2, .c 3, .c 4, .c 5, .c 6, .c 7, .c 8] [] ((K W (p1 :: R))) Tryz.mixed (by kernel_rfl) rfl K.cl ?_
        refine d_c rfl (Qui.ylds (y_move rfl)) rfl rfl rfl (fun _ h => h) K.cl ?_
        refine d_c rfl (Qui.callD K.cl (en_f rfl Tryz.call128) (high_q (by assumption))) rfl rfl rfl (fun _ h => h) K.cl ?_
        refine d_c rfl (Qui.ylds (y_move rfl)) rfl rfl rfl (fun _ h => h) K.cl ?_
        refine d_c rfl (Qui.ylds (y_nilP rfl)) rfl rfl rfl (fun _ h => h) K.cl ?_
        refine d_c rfl (Qui.ylds (y_fieldAddrB Tryz.tab 1 rfl rfl rfl rfl rfl)) rfl rfl rfl (fun _ h => h) K.cl ?_
        refine d_c rfl (Qui.ylds (y_load Tryz.tab rfl rfl (f1.cls (fun _ => K.sub (by assumption))))) rfl rfl rfl (fun _ h => h) K.cl ?_
        refine d_c rfl (Qui.callD K.cl (en_f rfl Tryz.call128) (high_q (by assumption))) rfl rfl rfl (fun _ h => h) K.cl ?_
        refine d_c rfl (Qui.ylds (y_add rfl rfl (by omega))) rfl rfl rfl (fun _ h => h) K.cl ?_
        refine d_c rfl (Qui.ylds (y_T (y_leq rfl rfl) (by omega))) rfl rfl rfl (fun _ h => h) K.cl ?_
        refine d_nil ?_
        refine f_then ?_
        refine c_condT rfl ?_
        refine c_seq ?_
        refine c_plan [.c 0, .c 1, .c 2, .c 3, .c 4, .c 5, .c 6, .c 7, .c 8, .c 9, .c 10, .c 11, .c 12, .s 13, .c 14] [] ((K W (p1 :: R))) Tryz.mixed (by kernel_rfl) rfl K.cl ?_
        refine d_c rfl (Qui.ylds (y_move rfl)) rfl rfl rfl (fun _ h => h) K.cl ?_
        refine d_c rfl (Qui.ylds (y_move rfl)) rfl rfl rfl (fun _ h => h) K.cl ?_
        refine d_c rfl (Qui.ylds (y_nilP rfl)) rfl rfl rfl (fun _ h => h) K.cl ?_
        refine d_c rfl (Qui.ylds (y_fieldAddrB Tryz.tab 2 rfl rfl rfl rfl rfl)) rfl rfl rfl (fun _ h => h) K.cl ?_
        refine d_c rfl (Qui.ylds (y_load Tryz.tab rfl rfl (f2.cls (fun _ => K.sub (by assumption))))) rfl rfl rfl (fun _ h => h) K.cl ?_
        refine d_c rfl (Qui.ylds (y_move rfl)) rfl rfl rfl (fun _ h => h) K.cl ?_
        refine d_c rfl (Qui.ylds (y_nilP rfl)) rfl rfl rfl (fun _ h => h) K.cl ?_
        refine d_c rfl (Qui.ylds (y_fieldAddrB Tryz.tab 3 rfl rfl rfl rfl rfl)) rfl rfl rfl (fun _ h => h) K.cl ?_
        refine d_c rfl (Qui.ylds (y_load Tryz.tab rfl rfl (f3.cls (fun _ => K.sub (by assumption))))) rfl rfl rfl (fun _ h => h) K.cl ?_
        refine d_c rfl (Qui.ylds (y_move rfl)) rfl rfl rfl (fun _ h => h) K.cl ?_
        refine d_c rfl (Qui.ylds (y_nilP rfl)) rfl rfl rfl (fun _ h => h) K.cl ?_
        refine d_c rfl (Qui.ylds (y_fieldAddrB Tryz.tab 1 rfl rfl rfl rfl rfl)) rfl rfl rfl (fun _ h => h) K.cl ?_
        refine d_c rfl (Qui.ylds (y_load Tryz.tab rfl rfl (f1.cls (fun _ => K.sub (by assumption))))) rfl rfl rfl (fun _ h => h) K.cl ?_
        refine d_call rfl (en_f rfl Tryz.call81) (link_ok ht9 hll1 hkw) rfl rfl rfl (fun _ => K.cl) (fun _ x w h => K.sub x.2.1 h) (fun x => ?_)
        obtain ⟨⟨p2, v2⟩, hs2, ht2⟩ := x
        dsimp only at hs2 ht2 ⊢
        have hD : ∀ w, K W (p2 :: R) w → K W (p1 :: R) w := fun w h => K.sub hs2 h
        refine d_c rfl (Qui.ylds (y_assign rfl)) rfl rfl rfl hD K.cl ?_
        refine d_nil ?_
        refine f_then ?_
        refine c_ret ?_
        refine f_thenR ?_
        refine f_thenR ?_
        exact f_ret ⟨(p2, v2), hs1.trans hs2, ht2⟩ (res1 rfl rfl) (fun w h => h)
      · rw [Tree.joinL, if_pos c1, if_neg c2]
        cases rl with
        | nil => simp only [Tree.ht] at c2 b3 b4 c1 hht; omega
        | node a an at_ b =>
          clear ih
          have hkz : LOk (Tree.node (.turnL (.node l n t (.node a an at_ b))) rn rt rr).toL := hkw.eq (by simp [Tree.toL, Tree.turnL])
          refine s_y (y_add rfl rfl (by omega)) rfl rfl rfl ?_
          refine s_y (y_T (y_leq rfl rfl) (by omega)) rfl rfl rfl ?_
          refine s_nil ?_
          refine f_then ?_
          refine c_condT rfl ?_
          refine c_seq ?_
          refine c_region ?_
          refine s_y (y_move rfl) rfl rfl rfl ?_
          refine s_y (y_move rfl) rfl rfl rfl ?_
          refine s_y (y_move rfl) rfl rfl rfl ?_
          refine s_y (y_move rfl) rfl rfl rfl ?_
          refine s_y (y_nilP rfl) rfl rfl rfl ?_
          refine s_y (y_fieldAddr0 Tryz.tab rfl rfl rfl rfl rfl) rfl rfl rfl ?_
          refine s_y (y_load Tryz.tab rfl rfl f0) rfl rfl rfl ?_
          refine s_call (en_f rfl Tryz.call81) (link_ok hl hll hkx) rfl rfl rfl (fun x => ?_)
          obtain ⟨⟨p1, v9⟩, hs1, ht9⟩ := x
          dsimp only at hs1 ht9 ⊢
          have hll1 := hlr.sub hs1
          refine s_y (y_assign rfl) rfl rfl rfl ?_
          refine s_nil ?_
          refine f_then ?_
          refine c_seq ?_
          refine c_seq ?_
          refine c_plan [.c 0, .c 1, .c 2, .c 3, .c 4, .c 5, .c 6, .c 7, .c 8] [] ((K W (p1 :: R))) Tryz.mixed (by kernel_rfl) rfl K.cl ?_
          refine d_c rfl (Qui.ylds (y_move rfl)) rfl rfl rfl (fun _ h => h) K.cl ?_
          refine d_c rfl (Qui.callD K.cl (en_f rfl Tryz.call128) (high_q (by assumption))) rfl rfl rfl (fun _ h => h) K.cl ?_
          refine d_c rfl (Qui.ylds (y_move rfl)) rfl rfl rfl (fun _ h => h) K.cl ?_
          refine d_c rfl (Qui.ylds (y_nilP rfl)) rfl rfl rfl (fun _ h => h) K.cl ?_
          refine d_c rfl (Qui.ylds (y_fieldAddrB Tryz.tab 1 rfl rfl rfl rfl rfl)) rfl rfl rfl (fun _ h => h) K.cl ?_
          refine d_c rfl (Qui.ylds (y_load Tryz.tab rfl rfl (f1.cls (fun _ => K.sub (by assumption))))) rfl rfl rfl (fun _ h => h) K.cl ?_
          refine d_c rfl (Qui.callD K.cl (en_f rfl Tryz.call128) (high_q (by assumption))) rfl rfl rfl (fun _ h => h) K.cl ?_
          refine d_c rfl (Qui.ylds (y_add rfl rfl (by omega))) rfl rfl rfl (fun _ h => h) K.cl ?_
          refine d_c rfl (Qui.ylds (y_F (y_leq rfl rfl) (by omega))) rfl rfl rfl (fun _ h => h) K.cl ?_
          refine d_nil ?_
          refine f_then ?_
          refine c_condF rfl ?_
          refine c_skip ?_
          refine f_then ?_
          refine c_seq ?_
          refine c_plan [.c 0, .c 2, .c 3, .c 4, .c 5, .c 6, .c 7, .c 8, .c 9, .c 10, .c 11, .c 12, .c 13, .s 1, .s 14, .s 15, .c 16] [] ((K W (p1 :: R))) Tryz.mixed (by kernel_rfl) rfl K.cl ?_
          refine d_c rfl (Qui.ylds (y_move rfl)) rfl rfl rfl (fun _ h => h) K.cl ?_
          refine d_c rfl (Qui.ylds (y_move rfl)) rfl rfl rfl (fun _ h => h) K.cl ?_
          refine d_c rfl (Qui.ylds (y_nilP rfl)) rfl rfl rfl (fun _ h => h) K.cl ?_
          refine d_c rfl (Qui.ylds (y_fieldAddrB Tryz.tab 2 rfl rfl rfl rfl rfl)) rfl rfl rfl (fun _ h => h) K.cl ?_
          refine d_c rfl (Qui.ylds (y_load Tryz.tab rfl rfl (f2.cls (fun _ => K.sub (by assumption))))) rfl rfl rfl (fun _ h => h) K.cl ?_
          refine d_c rfl (Qui.ylds (y_move rfl)) rfl rfl rfl (fun _ h => h) K.cl ?_
          refine d_c rfl (Qui.ylds (y_nilP rfl)) rfl rfl rfl (fun _ h => h) K.cl ?_
          refine d_c rfl (Qui.ylds (y_fieldAddrB Tryz.tab 3 rfl rfl rfl rfl rfl)) rfl rfl rfl (fun _ h => h) K.cl ?_
          refine d_c rfl (Qui.ylds (y_load Tryz.tab rfl rfl (f3.cls (fun _ => K.sub (by assumption))))) rfl rfl rfl (fun _ h => h) K.cl ?_
          refine d_c rfl (Qui.ylds (y_move rfl)) rfl rfl rfl (fun _ h => h) K.cl ?_
          refine d_c rfl (Qui.ylds (y_nilP rfl)) rfl rfl rfl (fun _ h => h) K.cl ?_
          refine d_c rfl (Qui.ylds (y_fieldAddrB Tryz.tab 1 rfl rfl rfl rfl rfl)) rfl rfl rfl (fun _ h => h) K.cl ?_
          refine d_c rfl (Qui.ylds (y_load Tryz.tab rfl rfl (f1.cls (fun _ => K.sub (by assumption))))) rfl rfl rfl (fun _ h => h) K.cl ?_
          refine d_call rfl (en_f rfl Tryz.call141) (turnL_spec ht9 hkx) rfl rfl rfl (fun _ => K.cl) (fun _ x w h => K.sub x.2.1 h) (fun x => ?_)
          obtain ⟨⟨p2, v2⟩, hs2, ht2⟩ := x
          dsimp only at hs2 ht2 ⊢
          have hD : ∀ w, K W (p2 :: R) w → K W (p1 :: R) w := fun w h => K.sub hs2 h
          skip
          refine d_call rfl (en_f rfl Tryz.call81) (link_ok ht2 (hll1.sub hs2) hkz) rfl rfl rfl (fun _ => K.cl) (fun _ x w h => K.sub (hs2.trans x.2.1) h) (fun x => ?_)
          obtain ⟨⟨p3, v3⟩, hs3, ht3⟩ := x
          dsimp only at hs3 ht3 ⊢
          have hD1 : ∀ w, K W (p3 :: R) w → K W (p1 :: R) w := fun w h => K.sub (hs2.trans hs3) h
          skip
          refine d_call rfl (en_f rfl Tryz.call142) (turnR_spec ht3 hkz) rfl rfl rfl (fun _ => K.cl) (fun _ x w h => K.sub ((hs2.trans hs3).trans x.2.1) h) (fun x => ?_)
          obtain ⟨⟨p4, v4⟩, hs4, ht4⟩ := x
          dsimp only at hs4 ht4 ⊢
          have hD2 : ∀ w, K W (p4 :: R) w → K W (p1 :: R) w := fun w h => K.sub ((hs2.trans hs3).trans hs4) h
          refine d_c rfl (Qui.ylds (y_assign rfl)) rfl rfl rfl hD2 K.cl ?_
          refine d_nil ?_
          refine f_then ?_
          refine c_ret ?_
          refine f_thenR ?_
          exact f_ret ⟨(p4, v4), ((hs1.trans hs2).trans hs3).trans hs4, ht4⟩ (res1 rfl rfl) (fun w h => h)
    · obtain ⟨bx, bx1, bx2, _⟩ := Tree.joinL_bal l n t rl bl bll (by omega)
      have hxr := Tree.ht_le_runs (Tree.joinL l n t rl)
      have hxb : (Tree.joinL l n t rl).runs ≤ 1152921504606846976 := by
        have := (Tree.LOk.node hky).2.2
        simp only [Tree.runs] at this
        omega
      have hk1 : LOk (l.toL ++ (n, t) :: rl.toL) := hkx
      by_cases c2 : (Tree.joinL l n t rl).ht ≤ rr.ht + 1
      · rw [Tree.joinL, if_neg c1, if_pos c2]
        refine s_y (y_add rfl rfl (by omega)) rfl rfl rfl ?_
        refine s_y (y_F (y_leq rfl rfl) (by omega)) rfl rfl rfl ?_
        refine s_nil ?_
        refine f_then ?_
        refine c_condF rfl ?_
        refine c_skip ?_
        refine f_then ?_
        refine c_seq ?_
        refine c_region ?_
        refine s_y (y_move rfl) rfl rfl rfl ?_
        refine s_y (y_move rfl) rfl rfl rfl ?_
        refine s_y (y_move rfl) rfl rfl rfl ?_
        refine s_y (y_move rfl) rfl rfl rfl ?_
        refine s_y (y_nilP rfl) rfl rfl rfl ?_
        refine s_y (y_fieldAddr0 Tryz.tab rfl rfl rfl rfl rfl) rfl rfl rfl ?_
        refine s_y (y_load Tryz.tab rfl rfl f0) rfl rfl rfl ?_
        refine s_call (en_f rfl Tryz.call130) (ih p lv0 hl hll (by omega) hk1) rfl rfl rfl (fun x => ?_)
        obtain ⟨⟨p1, v9⟩, hs1, ht9⟩ := x
        dsimp only at hs1 ht9 ⊢
        have hll1 := hlr.sub hs1
        clear ih
        generalize Tree.joinL l n t rl = xt at *
        refine s_y (y_assign rfl) rfl rfl rfl ?_
        refine s_nil ?_
        refine f_then ?_
        refine c_seq ?_
        refine c_plan [.c 0, .c 1, .c 2, .c 3, .c 4, .c 5, .c 6, .c 7, .c 8, .c 9, .c 10, .c 11, .c 12, .s 13, .c 14] [] ((K W (p1 :: R))) Tryz.mixed (by kernel_rfl) rfl K.cl ?_
        refine d_c rfl (Qui.ylds (y_move rfl)) rfl rfl rfl (fun _ h => h) K.cl ?_
        refine d_c rfl (Qui.ylds (y_move rfl)) rfl rfl rfl (fun _ h => h) K.cl ?_
        refine d_c rfl (Qui.ylds (y_nilP rfl)) rfl rfl rfl (fun _ h => h) K.cl ?_
        refine d_c rfl (Qui.ylds (y_fieldAddrB Tryz.tab 2 rfl rfl rfl rfl rfl)) rfl rfl rfl (fun _ h => h) K.cl ?_
        refine d_c rfl (Qui.ylds (y_load Tryz.tab rfl rfl (f2.cls (fun _ => K.sub (by assumption))))) rfl rfl rfl (fun _ h => h) K.cl ?_
        refine d_c rfl (Qui.ylds (y_move rfl)) rfl rfl rfl (fun _ h => h) K.cl ?_
        refine d_c rfl (Qui.ylds (y_nilP rfl)) rfl rfl rfl (fun _ h => h) K.cl ?_
        refine d_c rfl (Qui.ylds (y_fieldAddrB Tryz.tab 3 rfl rfl rfl rfl rfl)) rfl rfl rfl (fun _ h => h) K.cl ?_
        refine d_c rfl (Qui.ylds (y_load Tryz.tab rfl rfl (f3.cls (fun _ => K.sub (by assumption))))) rfl rfl rfl (fun _ h => h) K.cl ?_
        refine d_c rfl (Qui.ylds (y_move rfl)) rfl rfl rfl (fun _ h => h) K.cl ?_
        refine d_c rfl (Qui.ylds (y_nilP rfl)) rfl rfl rfl (fun _ h => h) K.cl ?_
        refine d_c rfl (Qui.ylds (y_fieldAddrB Tryz.tab 1 rfl rfl rfl rfl rfl)) rfl rfl rfl (fun _ h => h) K.cl ?_
        refine d_c rfl (Qui.ylds (y_load Tryz.tab rfl rfl (f1.cls (fun _ => K.sub (by assumption))))) rfl rfl rfl (fun _ h => h) K.cl ?_
        refine d_call rfl (en_f rfl Tryz.call81) (link_ok ht9 hll1 hky) rfl rfl rfl (fun _ => K.cl) (fun _ x w h => K.sub x.2.1 h) (fun x => ?_)
        obtain ⟨⟨p2, v2⟩, hs2, ht2⟩ := x
        dsimp only at hs2 ht2 ⊢
        have hD : ∀ w, K W (p2 :: R) w → K W (p1 :: R) w := fun w h => K.sub hs2 h
        have hll2 := hll1.sub hs2
        have ht92 := ht9.sub hs2
        have hs12 := hs1.trans hs2
        refine d_c rfl (Qui.ylds (y_assign rfl)) rfl rfl rfl hD K.cl ?_
        refine d_nil ?_
        refine f_then ?_
        refine c_seq ?_
        refine c_seq ?_
        refine c_plan [.c 0, .c 1, .c 2, .c 3, .c 4, .c 5, .c 6, .c 7, .c 8] [] ((K W (p2 :: R))) Tryz.mixed (by kernel_rfl) rfl K.cl ?_
        refine d_c rfl (Qui.ylds (y_move rfl)) rfl rfl rfl (fun _ h => h) K.cl ?_
        refine d_c rfl (Qui.callD K.cl (en_f rfl Tryz.call128) (high_q (by assumption))) rfl rfl rfl (fun _ h => h) K.cl ?_
        refine d_c rfl (Qui.ylds (y_move rfl)) rfl rfl rfl (fun _ h => h) K.cl ?_
        refine d_c rfl (Qui.ylds (y_nilP rfl)) rfl rfl rfl (fun _ h => h) K.cl ?_
        refine d_c rfl (Qui.ylds (y_fieldAddrB Tryz.tab 1 rfl rfl rfl rfl rfl)) rfl rfl rfl (fun _ h => h) K.cl ?_
        refine d_c rfl (Qui.ylds (y_load Tryz.tab rfl rfl (f1.cls (fun _ => K.sub (by assumption))))) rfl rfl rfl (fun _ h => h) K.cl ?_
        refine d_c rfl (Qui.callD K.cl (en_f rfl Tryz.call128) (high_q (by assumption))) rfl rfl rfl (fun _ h => h) K.cl ?_
        refine d_c rfl (Qui.ylds (y_add rfl rfl (by omega))) rfl rfl rfl (fun _ h => h) K.cl ?_
        refine d_c rfl (Qui.ylds (y_T (y_leq rfl rfl) (by omega))) rfl rfl rfl (fun _ h => h) K.cl ?_
        refine d_nil ?_
        refine f_then ?_
        refine c_condT rfl ?_
        refine c_seq ?_
        refine c_region ?_
        refine s_y (y_move rfl) rfl rfl rfl ?_
        refine s_y (y_assign rfl) rfl rfl rfl ?_
        refine s_nil ?_
        refine f_then ?_
        refine c_ret ?_
        refine f_thenR ?_
        exact f_ret ⟨(p2, v2), hs1.trans hs2, ht2⟩ (res1 rfl rfl) (fun w h => h)
      · rw [Tree.joinL, if_neg c1, if_neg c2]
        refine s_y (y_add rfl rfl (by omega)) rfl rfl rfl ?_
        refine s_y (y_F (y_leq rfl rfl) (by omega)) rfl rfl rfl ?_
        refine s_nil ?_
        refine f_then ?_
        refine c_condF rfl ?_
        refine c_skip ?_
        refine f_then ?_
        refine c_seq ?_
        refine c_region ?_
        refine s_y (y_move rfl) rfl rfl rfl ?_
        refine s_y (y_move rfl) rfl rfl rfl ?_
        refine s_y (y_move rfl) rfl rfl rfl ?_
        refine s_y (y_move rfl) rfl rfl rfl ?_
        refine s_y (y_nilP rfl) rfl rfl rfl ?_
        refine s_y (y_fieldAddr0 Tryz.tab rfl rfl rfl rfl rfl) rfl rfl rfl ?_
        refine s_y (y_load Tryz.tab rfl rfl f0) rfl rfl rfl ?_
        refine s_call (en_f rfl Tryz.call130) (ih p lv0 hl hll (by omega) hk1) rfl rfl rfl (fun x => ?_)
        obtain ⟨⟨p1, v9⟩, hs1, ht9⟩ := x
        dsimp only at hs1 ht9 ⊢
        have hll1 := hlr.sub hs1
        clear ih
        generalize Tree.joinL l n t rl = xt at *
        refine s_y (y_assign rfl) rfl rfl rfl ?_
        refine s_nil ?_
        refine f_then ?_
        refine c_seq ?_
        refine c_plan [.c 0, .c 1, .c 2, .c 3, .c 4, .c 5, .c 6, .c 7, .c 8, .c 9, .c 10, .c 11, .c 12, .s 13, .c 14] [] ((K W (p1 :: R))) Tryz.mixed (by kernel_rfl) rfl K.cl ?_
        refine d_c rfl (Qui.ylds (y_move rfl)) rfl rfl rfl (fun _ h => h) K.cl ?_
        refine d_c rfl (Qui.ylds (y_move rfl)) rfl rfl rfl (fun _ h => h) K.cl ?_
        refine d_c rfl (Qui.ylds (y_nilP rfl)) rfl rfl rfl (fun _ h => h) K.cl ?_
        refine d_c rfl (Qui.ylds (y_fieldAddrB Tryz.tab 2 rfl rfl rfl rfl rfl)) rfl rfl rfl (fun _ h => h) K.cl ?_
        refine d_c rfl (Qui.ylds (y_load Tryz.tab rfl rfl (f2.cls (fun _ => K.sub (by assumption))))) rfl rfl rfl (fun _ h => h) K.cl ?_
        refine d_c rfl (Qui.ylds (y_move rfl)) rfl rfl rfl (fun _ h => h) K.cl ?_
        refine d_c rfl (Qui.ylds (y_nilP rfl)) rfl rfl rfl (fun _ h => h) K.cl ?_
        refine d_c rfl (Qui.ylds (y_fieldAddrB Tryz.tab 3 rfl rfl rfl rfl rfl)) rfl rfl rfl (fun _ h => h) K.cl ?_
        refine d_c rfl (Qui.ylds (y_load Tryz.tab rfl rfl (f3.cls (fun _ => K.sub (by assumption))))) rfl rfl rfl (fun _ h => h) K.cl ?_
        refine d_c rfl (Qui.ylds (y_move rfl)) rfl rfl rfl (fun _ h => h) K.cl ?_
        refine d_c rfl (Qui.ylds (y_nilP rfl)) rfl rfl rfl (fun _ h => h) K.cl ?_
        refine d_c rfl (Qui.ylds (y_fieldAddrB Tryz.tab 1 rfl rfl rfl rfl rfl)) rfl rfl rfl (fun _ h => h) K.cl ?_
        refine d_c rfl (Qui.ylds (y_load Tryz.tab rfl rfl (f1.cls (fun _ => K.sub (by assumption))))) rfl rfl rfl (fun _ h => h) K.cl ?_
        refine d_call rfl (en_f rfl Tryz.call81) (link_ok ht9 hll1 hky) rfl rfl rfl (fun _ => K.cl) (fun _ x w h => K.sub x.2.1 h) (fun x => ?_)
        obtain ⟨⟨p2, v2⟩, hs2, ht2⟩ := x
        dsimp only at hs2 ht2 ⊢
        have hD : ∀ w, K W (p2 :: R) w → K W (p1 :: R) w := fun w h => K.sub hs2 h
        have hll2 := hll1.sub hs2
        have ht92 := ht9.sub hs2
        have hs12 := hs1.trans hs2
        refine d_c rfl (Qui.ylds (y_assign rfl)) rfl rfl rfl hD K.cl ?_
        refine d_nil ?_
        refine f_then ?_
        refine c_seq ?_
        refine c_seq ?_
        refine c_plan [.c 0, .c 1, .c 2, .c 3, .c 4, .c 5, .c 6, .c 7, .c 8] [] ((K W (p2 :: R))) Tryz.mixed (by kernel_rfl) rfl K.cl ?_
        refine d_c rfl (Qui.ylds (y_move rfl)) rfl rfl rfl (fun _ h => h) K.cl ?_
        refine d_c rfl (Qui.callD K.cl (en_f rfl Tryz.call128) (high_q (by assumption))) rfl rfl rfl (fun _ h => h) K.cl ?_
        refine d_c rfl (Qui.ylds (y_move rfl)) rfl rfl rfl (fun _ h => h) K.cl ?_
        refine d_c rfl (Qui.ylds (y_nilP rfl)) rfl rfl rfl (fun _ h => h) K.cl ?_
        refine d_c rfl (Qui.ylds (y_fieldAddrB Tryz.tab 1 rfl rfl rfl rfl rfl)) rfl rfl rfl (fun _ h => h) K.cl ?_
        refine d_c rfl (Qui.ylds (y_load Tryz.tab rfl rfl (f1.cls (fun _ => K.sub (by assumption))))) rfl rfl rfl (fun _ h => h) K.cl ?_
        refine d_c rfl (Qui.callD K.cl (en_f rfl Tryz.call128) (high_q (by assumption))) rfl rfl rfl (fun _ h => h) K.cl ?_
        refine d_c rfl (Qui.ylds (y_add rfl rfl (by omega))) rfl rfl rfl (fun _ h => h) K.cl ?_
        refine d_c rfl (Qui.ylds (y_F (y_leq rfl rfl) (by omega))) rfl rfl rfl (fun _ h => h) K.cl ?_
        refine d_nil ?_
        refine f_then ?_
        refine c_condF rfl ?_
        refine c_skip ?_
        refine f_then ?_
        refine c_seq ?_
        refine c_region ?_
        refine s_y (y_move rfl) rfl rfl rfl ?_
        cases xt with
        | nil => simp only [Tree.ht] at c2; omega
        | node a an at_ b =>
          refine s_call (en_f rfl Tryz.call142) (turnR_spec ht2 hky) rfl rfl rfl (fun x => ?_)
          obtain ⟨⟨p3, v3⟩, hs3, ht3⟩ := x
          dsimp only at hs3 ht3 ⊢
          refine s_y (y_assign rfl) rfl rfl rfl ?_
          refine s_nil ?_
          refine f_then ?_
          refine c_ret ?_
          exact f_ret ⟨(p3, v3), hs12.trans hs3, ht3⟩ (res1 rfl rfl) (fun w h => h)
set_option maxRecDepth 10000 in
set_option maxHeartbeats 4000000 in
theorem join_spec {W : World} {p : Chunk} {R : List Chunk} {lv rv : Value} {l r : Tree} {n t : Nat} (hl : Tr p lv l) (hr : Tr p rv r) (bl : l.Bal) (br : r.Bal) (hk : LOk (l.toL ++ (n, t) :: r.toL)) :
    Spec Tryz.prog 112 #[lv, .int .i64 (n : Nat), .int .i64 (t : Nat), rv] (K W (p :: R)) (X := TX p (.join l n t r)) (fun x => x.1.2) (fun x => K W (x.1.1 :: R)) := by
  have h1 := Tree.ht_le_runs l
  have h2 := Tree.ht_le_runs r
  have h3 : l.runs ≤ 1152921504606846976 ∧ r.runs ≤ 1152921504606846976 := by
    have := (Tree.LOk.node (l := l) (r := r) hk).2.2
    simp only [Tree.runs] at this
    omega
  refine enter (args := [_, _, _, _]) Tryz.func112 rfl Tryz.ntmps112 rfl ?_
  refine c_seq ?_
  refine c_region ?_
  refine s_y (y_assign rfl) rfl rfl rfl ?_
  refine s_nil ?_
  refine f_then ?_
  refine c_seq ?_
  refine c_block ?_
  refine c_seq ?_
  refine c_region ?_
  refine s_y (y_move rfl) rfl rfl rfl ?_
  refine s_call (en_f rfl Tryz.call128) (high_spec hl) rfl rfl rfl (fun _ => ?_)
  refine s_y (y_move rfl) rfl rfl rfl ?_
  refine s_call (en_f rfl Tryz.call128) (high_spec hr) rfl rfl rfl (fun _ => ?_)
  unfold Tree.join
  by_cases c1 : r.ht + 1 < l.ht
  · rw [if_pos c1]
    refine s_y (y_add rfl rfl (by omega)) rfl rfl rfl ?_
    refine s_y (y_T (y_gtr rfl rfl) (by omega)) rfl rfl rfl ?_
    refine s_y (y_assign rfl) rfl rfl rfl ?_
    refine s_nil ?_
    refine f_then ?_
    refine c_condT rfl ?_
    refine c_seq ?_
    refine c_region ?_
    refine s_y (y_move rfl) rfl rfl rfl ?_
    refine s_y (y_move rfl) rfl rfl rfl ?_
    refine s_y (y_move rfl) rfl rfl rfl ?_
    refine s_y (y_move rfl) rfl rfl rfl ?_
    refine s_call (en_f rfl Tryz.call129) (joinR_spec l hl hr bl br c1 hk) rfl rfl rfl (fun x => ?_)
    refine s_y (y_assign rfl) rfl rfl rfl ?_
    refine s_nil ?_
    refine f_then ?_
    refine c_ret ?_
    refine f_blockR ?_
    refine f_thenR ?_
    exact f_ret x (res1 rfl rfl) (fun w h => h)
  · rw [if_neg c1]
    refine s_y (y_add rfl rfl (by omega)) rfl rfl rfl ?_
    refine s_y (y_F (y_gtr rfl rfl) (by omega)) rfl rfl rfl ?_
    refine s_y (y_assign rfl) rfl rfl rfl ?_
    refine s_nil ?_
    refine f_then ?_
    refine c_condF rfl ?_
    refine c_seq ?_
    refine c_region ?_
    refine s_y (y_move rfl) rfl rfl rfl ?_
    refine s_call (en_f rfl Tryz.call128) (high_spec hr) rfl rfl rfl (fun _ => ?_)
    refine s_y (y_move rfl) rfl rfl rfl ?_
    refine s_call (en_f rfl Tryz.call128) (high_spec hl) rfl rfl rfl (fun _ => ?_)
    by_cases c2 : l.ht + 1 < r.ht
    · rw [if_pos c2]
      refine s_y (y_add rfl rfl (by omega)) rfl rfl rfl ?_
      refine s_y (y_T (y_gtr rfl rfl) (by omega)) rfl rfl rfl ?_
      refine s_y (y_assign rfl) rfl rfl rfl ?_
      refine s_nil ?_
      refine f_then ?_
      refine c_condT rfl ?_
      refine c_seq ?_
      refine c_region ?_
      refine s_y (y_move rfl) rfl rfl rfl ?_
      refine s_y (y_move rfl) rfl rfl rfl ?_
      refine s_y (y_move rfl) rfl rfl rfl ?_
      refine s_y (y_move rfl) rfl rfl rfl ?_
      refine s_call (en_f rfl Tryz.call130) (joinL_spec r hl hr bl br c2 hk) rfl rfl rfl (fun x => ?_)
      refine s_y (y_assign rfl) rfl rfl rfl ?_
      refine s_nil ?_
      refine f_then ?_
      refine c_ret ?_
      refine f_blockR ?_
      refine f_thenR ?_
      exact f_ret x (res1 rfl rfl) (fun w h => h)
    · rw [if_neg c2]
      refine s_y (y_add rfl rfl (by omega)) rfl rfl rfl ?_
      refine s_y (y_F (y_gtr rfl rfl) (by omega)) rfl rfl rfl ?_
      refine s_y (y_assign rfl) rfl rfl rfl ?_
      refine s_nil ?_
      refine f_then ?_
      refine c_condF rfl ?_
      refine c_skip ?_
      refine f_blockN ?_
      refine f_then ?_
      refine c_seq ?_
      refine c_region ?_
      refine s_y (y_move rfl) rfl rfl rfl ?_
      refine s_y (y_move rfl) rfl rfl rfl ?_
      refine s_y (y_move rfl) rfl rfl rfl ?_
      refine s_y (y_move rfl) rfl rfl rfl ?_
      refine s_call (en_f rfl Tryz.call81) (link_ok hl hr hk) rfl rfl rfl (fun x => ?_)
      refine s_y (y_assign rfl) rfl rfl rfl ?_
      refine s_nil ?_
      refine f_then ?_
      refine c_ret ?_
      exact f_ret x (res1 rfl rfl) (fun w h => h)
end Go.KL
end

section
/- Walks: takeLast, first, grow, leaf, concat. -/
namespace Go.KL
open Go.Proofs
theorem Tr.nodeC {p : Chunk} {v : Value} {l r : Tree} {n t : Nat} (h : Tr p v (.node l n t r)) : ∃ b lv rv, v = .pointer (some ⟨b, 0, none⟩) ∧ (b, row 162 (ndc lv rv l n t r)) ∈ p ∧ Tr p lv l ∧ Tr p rv r := by
  cases h with
  | node hb hl hr => exact ⟨_, _, _, rfl, hb, hl, hr⟩
theorem Tr.nilC {p : Chunk} {v : Value} (h : Tr p v .nil) : v = .pointer none := by cases h; rfl
theorem Tr.neC {p : Chunk} {v : Value} {t : Tree} (h : Tr p v t) (hn : t ≠ .nil) : ∃ a, v = .pointer (some a) := by
  cases h with
  | nil => exact absurd rfl hn
  | node => exact ⟨_, rfl⟩
attribute [local irreducible] SC St Fin Sq Ylds Doos Sets Enters Spec CellIs CellsAre Then Ret Rnd Chn resOK ints bools recs arr
set_option maxRecDepth 10000 in
set_option maxHeartbeats 4000000 in
theorem takeLast_spec : ∀ (t : Tree) {W : World} {p : Chunk} {R : List Chunk} {v : Value} (_ : Tr p v t) (_ : t ≠ .nil) (_ : t.Bal) (_ : LOk t.toL),
    Spec Tryz.prog 113 #[v] (K W (p :: R)) (X := TX p t.takeLast.1) (fun x => .tuple #[x.1.2, .int .i64 (t.takeLast.2.1 : Nat), .int .i64 (t.takeLast.2.2 : Nat)]) (fun x => K W (x.1.1 :: R))
  | .nil, _, _, _, _, _, h, _, _ => absurd rfl h
  | .node l n t r, W, p, R, v, ht, _, hb, hk => by
    obtain ⟨b, lv, rv, rfl, hbm, hl, hr⟩ := ht.nodeC
    obtain ⟨f0, f1, f2, f3, f4, f5, f6, f7⟩ := ndf (W := W) (R := R) hbm
    clear f4 f5 f6 f7
    refine enter (args := [_]) Tryz.func113 rfl Tryz.ntmps113 rfl ?_
    by_cases c : r = .nil
    · subst c
      obtain rfl := hr.nilC
      refine c_seq ?_
      refine c_region ?_
      refine s_y (y_assign rfl) rfl rfl rfl ?_
      refine s_y (y_assign rfl) rfl rfl rfl ?_
      refine s_y (y_assign rfl) rfl rfl rfl ?_
      refine s_nil ?_
      refine f_then ?_
      refine c_seq ?_
      refine c_seq ?_
      refine c_region ?_
      refine s_y (y_move rfl) rfl rfl rfl ?_
      refine s_y (y_nilP rfl) rfl rfl rfl ?_
      refine s_y (y_fieldAddrB Tryz.tab 1 rfl rfl rfl rfl rfl) rfl rfl rfl ?_
      refine s_y (y_load Tryz.tab rfl rfl f1) rfl rfl rfl ?_
      refine s_y (y_eqlPN Tryz.tab rfl rfl) rfl rfl rfl ?_
      refine s_nil ?_
      refine f_then ?_
      refine c_condT rfl ?_
      refine c_seq ?_
      refine c_quiet Tryz.mixed (by kernel_rfl) K.drew ?_
      refine q_y (y_move rfl) rfl rfl rfl ?_
      refine q_y (y_nilP rfl) rfl rfl rfl ?_
      refine q_y (y_fieldAddr0 Tryz.tab rfl rfl rfl rfl rfl) rfl rfl rfl ?_
      refine q_y (y_load Tryz.tab rfl rfl f0) rfl rfl rfl ?_
      refine q_y (y_move rfl) rfl rfl rfl ?_
      refine q_y (y_nilP rfl) rfl rfl rfl ?_
      refine q_y (y_fieldAddrB Tryz.tab 2 rfl rfl rfl rfl rfl) rfl rfl rfl ?_
      refine q_y (y_load Tryz.tab rfl rfl f2) rfl rfl rfl ?_
      refine q_y (y_move rfl) rfl rfl rfl ?_
      refine q_y (y_nilP rfl) rfl rfl rfl ?_
      refine q_y (y_fieldAddrB Tryz.tab 3 rfl rfl rfl rfl rfl) rfl rfl rfl ?_
      refine q_y (y_load Tryz.tab rfl rfl f3) rfl rfl rfl ?_
      refine q_y (y_assign rfl) rfl rfl rfl ?_
      refine q_y (y_assign rfl) rfl rfl rfl ?_
      refine q_y (y_assign rfl) rfl rfl rfl ?_
      refine q_nil ?_
      refine f_then ?_
      refine c_ret ?_
      refine f_thenR ?_
      exact f_ret ⟨(p, lv), Sub.refl _, hl⟩ (res3 rfl rfl rfl rfl) (fun w h => h)
    · have ih := takeLast_spec r (W := W) (R := R) hr c hb.2.1 (hk.eq (B := (l.toL ++ [(n, t)]) ++ r.toL) (by simp [Tree.toL])).right
      have hkj : LOk (l.toL ++ (n, t) :: r.takeLast.1.toL) := by
        have h := hk.eq (B := (l.toL ++ (n, t) :: r.takeLast.1.toL) ++ [r.takeLast.2]) (by rw [Tree.toL]; conv => lhs; rw [Tree.takeLast_toL r c]
                                                                                           simp)
        exact h.left
      have hbj := Tree.takeLast_bal r c hb.2.1
      rw [Tree.takeLast_node c]
      obtain ⟨ra, rfl⟩ := hr.neC c
      refine c_seq ?_
      refine c_region ?_
      refine s_y (y_assign rfl) rfl rfl rfl ?_
      refine s_y (y_assign rfl) rfl rfl rfl ?_
      refine s_y (y_assign rfl) rfl rfl rfl ?_
      refine s_nil ?_
      refine f_then ?_
      refine c_seq ?_
      refine c_seq ?_
      refine c_region ?_
      refine s_y (y_move rfl) rfl rfl rfl ?_
      refine s_y (y_nilP rfl) rfl rfl rfl ?_
      refine s_y (y_fieldAddrB Tryz.tab 1 rfl rfl rfl rfl rfl) rfl rfl rfl ?_
      refine s_y (y_load Tryz.tab rfl rfl f1) rfl rfl rfl ?_
      refine s_y (y_eqlPN Tryz.tab rfl rfl) rfl rfl rfl ?_
      refine s_nil ?_
      refine f_then ?_
      refine c_condF rfl ?_
      refine c_skip ?_
      refine f_then ?_
      refine c_seq ?_
      refine c_region ?_
      refine s_y (y_move rfl) rfl rfl rfl ?_
      refine s_y (y_nilP rfl) rfl rfl rfl ?_
      refine s_y (y_fieldAddrB Tryz.tab 1 rfl rfl rfl rfl rfl) rfl rfl rfl ?_
      refine s_y (y_load Tryz.tab rfl rfl f1) rfl rfl rfl ?_
      refine s_call (en_f rfl Tryz.call113) ih rfl rfl rfl (fun x => ?_)
      obtain ⟨⟨p1, v1⟩, hs1, ht1⟩ := x
      dsimp only at hs1 ht1 ⊢
      refine s_y (y_move rfl) rfl rfl rfl ?_
      refine s_y (y_extract rfl rfl) rfl rfl rfl ?_
      refine s_y (y_extract rfl rfl) rfl rfl rfl ?_
      refine s_y (y_extract rfl rfl) rfl rfl rfl ?_
      refine s_y (y_assign rfl) rfl rfl rfl ?_
      refine s_y (y_assign rfl) rfl rfl rfl ?_
      refine s_y (y_assign rfl) rfl rfl rfl ?_
      refine s_nil ?_
      refine f_then ?_
      refine c_seq ?_
      refine c_plan [.c 0, .c 1, .c 2, .c 3, .c 4, .c 5, .c 6, .c 7, .c 8, .c 9, .c 10, .c 11, .c 12, .c 14, .c 15, .s 13, .c 16, .c 17, .c 18] [] ((K W (p1 :: R))) Tryz.mixed (by kernel_rfl) rfl K.cl ?_
      refine d_c rfl (Qui.ylds (y_move rfl)) rfl rfl rfl (fun _ h => h) K.cl ?_
      refine d_c rfl (Qui.ylds (y_nilP rfl)) rfl rfl rfl (fun _ h => h) K.cl ?_
      refine d_c rfl (Qui.ylds (y_fieldAddr0 Tryz.tab rfl rfl rfl rfl rfl)) rfl rfl rfl (fun _ h => h) K.cl ?_
      refine d_c rfl (Qui.ylds (y_load Tryz.tab rfl rfl (f0.cls (fun _ => K.sub (by assumption))))) rfl rfl rfl (fun _ h => h) K.cl ?_
      refine d_c rfl (Qui.ylds (y_move rfl)) rfl rfl rfl (fun _ h => h) K.cl ?_
      refine d_c rfl (Qui.ylds (y_nilP rfl)) rfl rfl rfl (fun _ h => h) K.cl ?_
      refine d_c rfl (Qui.ylds (y_fieldAddrB Tryz.tab 2 rfl rfl rfl rfl rfl)) rfl rfl rfl (fun _ h => h) K.cl ?_
      refine d_c rfl (Qui.ylds (y_load Tryz.tab rfl rfl (f2.cls (fun _ => K.sub (by assumption))))) rfl rfl rfl (fun _ h => h) K.cl ?_
      refine d_c rfl (Qui.ylds (y_move rfl)) rfl rfl rfl (fun _ h => h) K.cl ?_
      refine d_c rfl (Qui.ylds (y_nilP rfl)) rfl rfl rfl (fun _ h => h) K.cl ?_
      refine d_c rfl (Qui.ylds (y_fieldAddrB Tryz.tab 3 rfl rfl rfl rfl rfl)) rfl rfl rfl (fun _ h => h) K.cl ?_
      refine d_c rfl (Qui.ylds (y_load Tryz.tab rfl rfl (f3.cls (fun _ => K.sub (by assumption))))) rfl rfl rfl (fun _ h => h) K.cl ?_
      refine d_c rfl (Qui.ylds (y_move rfl)) rfl rfl rfl (fun _ h => h) K.cl ?_
      refine d_c rfl (Qui.ylds (y_move rfl)) rfl rfl rfl (fun _ h => h) K.cl ?_
      refine d_c rfl (Qui.ylds (y_move rfl)) rfl rfl rfl (fun _ h => h) K.cl ?_
      refine d_call rfl (en_f rfl Tryz.call112) (join_spec (hl.sub hs1) ht1 hb.1 hbj hkj) rfl rfl rfl (fun _ => K.cl) (fun _ x w h => K.sub x.2.1 h) (fun x => ?_)
      obtain ⟨⟨p2, v2⟩, hs2, ht2⟩ := x
      dsimp only at hs2 ht2 ⊢
      have hD : ∀ w, K W (p2 :: R) w → K W (p1 :: R) w := fun w h => K.sub hs2 h
      refine d_c rfl (Qui.ylds (y_assign rfl)) rfl rfl rfl hD K.cl ?_
      refine d_c rfl (Qui.ylds (y_assign rfl)) rfl rfl rfl hD K.cl ?_
      refine d_c rfl (Qui.ylds (y_assign rfl)) rfl rfl rfl hD K.cl ?_
      refine d_nil ?_
      refine f_then ?_
      refine c_ret ?_
      exact f_ret ⟨(p2, v2), hs1.trans hs2, ht2⟩ (res3 rfl rfl rfl rfl) (fun w h => h)
set_option maxRecDepth 10000 in
theorem first_spec {W : World} {p : Chunk} {R : List Chunk} {v : Value} {t : Tree} (ht : Tr p v t) (hn : t ≠ .nil) : Spec Tryz.prog 114 #[v] (K W (p :: R)) (fun _ : Unit => .int .i64 (t.first : Nat)) (fun _ => K W (p :: R)) := by
  refine enter (args := [_]) Tryz.func114 rfl Tryz.ntmps114 rfl ?_
  refine c_seq ?_
  refine c_region ?_
  refine s_y (y_assign rfl) rfl rfl rfl ?_
  refine s_nil ?_
  refine f_then ?_
  refine c_seq ?_
  refine c_block ?_
  refine c_loopP (α := Tree × Value) (fun z => [(0, z.2)]) (fun z => Tr p z.2 z.1 ∧ z.1 ≠ .nil ∧ z.1.first = t.first) (fun _ => K W (p :: R)) (fun z => z.1.runs) (t, v) ⟨rfl, trivial⟩ ⟨ht, hn, rfl⟩ (fun w h => h) ?_
  rintro ⟨u, vu⟩ ⟨hu, hun, huf⟩
  dsimp only at hu hun huf ⊢
  cases u with
  | nil => exact absurd rfl hun
  | node l n k r =>
    obtain ⟨b, lv, rv, rfl, hbm, hl, hr⟩ := hu.nodeC
    obtain ⟨f0, f1, f2, f3, f4, f5, f6, f7⟩ := ndf (W := W) (R := R) hbm
    clear f4 f5 f6 f7
    by_cases c : l = .nil
    · subst c
      obtain rfl := hl.nilC
      have e : t.first = k := huf.symm
      rw [e]
      refine c_seq ?_
      refine c_seq ?_
      refine c_region ?_
      refine s_y (y_move rfl) rfl rfl rfl ?_
      refine s_y (y_nilP rfl) rfl rfl rfl ?_
      refine s_y (y_fieldAddr0 Tryz.tab rfl rfl rfl rfl rfl) rfl rfl rfl ?_
      refine s_y (y_load Tryz.tab rfl rfl f0) rfl rfl rfl ?_
      refine s_y (y_neqPN Tryz.tab rfl rfl) rfl rfl rfl ?_
      refine s_nil ?_
      refine f_then ?_
      refine c_condF rfl ?_
      refine c_exit ?_
      refine f_thenE ?_
      refine f_rndE ?_
      refine f_blockE ?_
      refine f_then ?_
      refine c_seq ?_
      refine c_region ?_
      refine s_y (y_move rfl) rfl rfl rfl ?_
      refine s_y (y_nilP rfl) rfl rfl rfl ?_
      refine s_y (y_fieldAddrB Tryz.tab 3 rfl rfl rfl rfl rfl) rfl rfl rfl ?_
      refine s_y (y_load Tryz.tab rfl rfl f3) rfl rfl rfl ?_
      refine s_y (y_assign rfl) rfl rfl rfl ?_
      refine s_nil ?_
      refine f_then ?_
      refine c_ret ?_
      exact f_ret () (res1 rfl rfl) (fun w h => h)
    · rw [Tree.first_node c] at huf
      obtain ⟨la, rfl⟩ := hl.neC c
      refine c_seq ?_
      refine c_seq ?_
      refine c_region ?_
      refine s_y (y_move rfl) rfl rfl rfl ?_
      refine s_y (y_nilP rfl) rfl rfl rfl ?_
      refine s_y (y_fieldAddr0 Tryz.tab rfl rfl rfl rfl rfl) rfl rfl rfl ?_
      refine s_y (y_load Tryz.tab rfl rfl f0) rfl rfl rfl ?_
      refine s_y (y_neqPN Tryz.tab rfl rfl) rfl rfl rfl ?_
      refine s_nil ?_
      refine f_then ?_
      refine c_condT rfl ?_
      refine c_skip ?_
      refine f_then ?_
      refine c_block ?_
      refine c_region ?_
      refine s_y (y_move rfl) rfl rfl rfl ?_
      refine s_y (y_nilP rfl) rfl rfl rfl ?_
      refine s_y (y_fieldAddr0 Tryz.tab rfl rfl rfl rfl rfl) rfl rfl rfl ?_
      refine s_y (y_load Tryz.tab rfl rfl f0) rfl rfl rfl ?_
      refine s_y (y_assign rfl) rfl rfl rfl ?_
      refine s_nil ?_
      refine f_blockN ?_
      exact f_roundP (l, .pointer (some la)) ⟨hl, c, huf⟩ (by simp only [Tree.runs]; omega) ⟨rfl, trivial⟩ (fun w h => h)
set_option maxRecDepth 10000 in
set_option maxHeartbeats 4000000 in
theorem grow_spec {k : Nat} : ∀ (t : Tree) {W : World} {p : Chunk} {R : List Chunk} {v : Value} (_ : Tr p v t) (_ : t ≠ .nil) (_ : LOk (t.grow k).toL),
    Spec Tryz.prog 115 #[v, .int .i64 (k : Nat)] (K W (p :: R)) (X := TX p (t.grow k)) (fun x => x.1.2) (fun x => K W (x.1.1 :: R))
  | .nil, _, _, _, _, _, h, _ => absurd rfl h
  | .node l n t r, W, p, R, v, ht, _, hk => by
    obtain ⟨b, lv, rv, rfl, hbm, hl, hr⟩ := ht.nodeC
    obtain ⟨f0, f1, f2, f3, f4, f5, f6, f7⟩ := ndf (W := W) (R := R) hbm
    clear f4 f5 f6 f7
    refine enter (args := [_, _]) Tryz.func115 rfl Tryz.ntmps115 rfl ?_
    by_cases c : l = .nil
    · subst c
      obtain rfl := hl.nilC
      have e : Tree.grow (.node .nil n t r) k = .node .nil (n + k) t r := rfl
      rw [e] at hk ⊢
      have hb := (Tree.LOk.node hk).2.1
      simp only [Tree.pcs] at hb
      have en : (n : Int) + (k : Int) = ((n + k : Nat) : Int) := (Int.natCast_add n k).symm
      refine c_seq ?_
      refine c_region ?_
      refine s_y (y_assign rfl) rfl rfl rfl ?_
      refine s_nil ?_
      refine f_then ?_
      refine c_seq ?_
      refine c_seq ?_
      refine c_region ?_
      refine s_y (y_move rfl) rfl rfl rfl ?_
      refine s_y (y_nilP rfl) rfl rfl rfl ?_
      refine s_y (y_fieldAddr0 Tryz.tab rfl rfl rfl rfl rfl) rfl rfl rfl ?_
      refine s_y (y_load Tryz.tab rfl rfl f0) rfl rfl rfl ?_
      refine s_y (y_eqlPN Tryz.tab rfl rfl) rfl rfl rfl ?_
      refine s_nil ?_
      refine f_then ?_
      refine c_condT rfl ?_
      refine c_seq ?_
      refine c_plan [.c 0, .c 1, .c 2, .c 3, .c 4, .c 5, .c 6, .c 7, .c 8, .c 9, .c 10, .c 11, .c 12, .c 13, .s 14, .c 15] [] ((K W (p :: R))) Tryz.mixed (by kernel_rfl) rfl K.cl ?_
      refine d_c rfl (Qui.ylds (y_move rfl)) rfl rfl rfl (fun _ h => h) K.cl ?_
      refine d_c rfl (Qui.ylds (y_nilP rfl)) rfl rfl rfl (fun _ h => h) K.cl ?_
      refine d_c rfl (Qui.ylds (y_fieldAddrB Tryz.tab 2 rfl rfl rfl rfl rfl)) rfl rfl rfl (fun _ h => h) K.cl ?_
      refine d_c rfl (Qui.ylds (y_load Tryz.tab rfl rfl f2)) rfl rfl rfl (fun _ h => h) K.cl ?_
      refine d_c rfl (Qui.ylds (y_move rfl)) rfl rfl rfl (fun _ h => h) K.cl ?_
      refine d_c rfl (Qui.ylds (y_add rfl rfl (by omega))) rfl rfl rfl (fun _ h => h) K.cl ?_
      refine d_c rfl (Qui.ylds (y_move rfl)) rfl rfl rfl (fun _ h => h) K.cl ?_
      refine d_c rfl (Qui.ylds (y_nilP rfl)) rfl rfl rfl (fun _ h => h) K.cl ?_
      refine d_c rfl (Qui.ylds (y_fieldAddrB Tryz.tab 3 rfl rfl rfl rfl rfl)) rfl rfl rfl (fun _ h => h) K.cl ?_
      refine d_c rfl (Qui.ylds (y_load Tryz.tab rfl rfl f3)) rfl rfl rfl (fun _ h => h) K.cl ?_
      refine d_c rfl (Qui.ylds (y_move rfl)) rfl rfl rfl (fun _ h => h) K.cl ?_
      refine d_c rfl (Qui.ylds (y_nilP rfl)) rfl rfl rfl (fun _ h => h) K.cl ?_
      refine d_c rfl (Qui.ylds (y_fieldAddrB Tryz.tab 1 rfl rfl rfl rfl rfl)) rfl rfl rfl (fun _ h => h) K.cl ?_
      refine d_c rfl (Qui.ylds (y_load Tryz.tab rfl rfl f1)) rfl rfl rfl (fun _ h => h) K.cl ?_
      rw [en]
      refine d_call rfl (en_f rfl Tryz.call81) (link_ok Tr.nil hr hk) rfl rfl rfl (fun _ => K.cl) (fun _ x w h => K.sub x.2.1 h) (fun x => ?_)
      obtain ⟨⟨p2, v2⟩, hs2, ht2⟩ := x
      dsimp only at hs2 ht2 ⊢
      have hD : ∀ w, K W (p2 :: R) w → K W (p :: R) w := fun w h => K.sub hs2 h
      refine d_c rfl (Qui.ylds (y_assign rfl)) rfl rfl rfl hD K.cl ?_
      refine d_nil ?_
      refine f_then ?_
      refine c_ret ?_
      refine f_thenR ?_
      exact f_ret ⟨(p2, v2), hs2, ht2⟩ (res1 rfl rfl) (fun w h => h)
    · rw [Tree.grow_node c] at hk ⊢
      have ih := grow_spec l (W := W) (R := R) (k := k) hl c (hk.eq (B := (l.grow k).toL ++ ((n, t) :: r.toL)) rfl).left
      obtain ⟨la, rfl⟩ := hl.neC c
      refine c_seq ?_
      refine c_region ?_
      refine s_y (y_assign rfl) rfl rfl rfl ?_
      refine s_nil ?_
      refine f_then ?_
      refine c_seq ?_
      refine c_seq ?_
      refine c_region ?_
      refine s_y (y_move rfl) rfl rfl rfl ?_
      refine s_y (y_nilP rfl) rfl rfl rfl ?_
      refine s_y (y_fieldAddr0 Tryz.tab rfl rfl rfl rfl rfl) rfl rfl rfl ?_
      refine s_y (y_load Tryz.tab rfl rfl f0) rfl rfl rfl ?_
      refine s_y (y_eqlPN Tryz.tab rfl rfl) rfl rfl rfl ?_
      refine s_nil ?_
      refine f_then ?_
      refine c_condF rfl ?_
      refine c_skip ?_
      refine f_then ?_
      refine c_seq ?_
      refine c_plan [.c 0, .c 1, .c 2, .c 3, .c 4, .c 6, .c 7, .c 8, .c 9, .c 10, .c 11, .c 12, .c 13, .c 14, .c 15, .c 16, .c 17, .s 5, .s 18, .c 19] [] ((K W (p :: R))) Tryz.mixed (by kernel_rfl) rfl K.cl ?_
      refine d_c rfl (Qui.ylds (y_move rfl)) rfl rfl rfl (fun _ h => h) K.cl ?_
      refine d_c rfl (Qui.ylds (y_nilP rfl)) rfl rfl rfl (fun _ h => h) K.cl ?_
      refine d_c rfl (Qui.ylds (y_fieldAddr0 Tryz.tab rfl rfl rfl rfl rfl)) rfl rfl rfl (fun _ h => h) K.cl ?_
      refine d_c rfl (Qui.ylds (y_load Tryz.tab rfl rfl f0)) rfl rfl rfl (fun _ h => h) K.cl ?_
      refine d_c rfl (Qui.ylds (y_move rfl)) rfl rfl rfl (fun _ h => h) K.cl ?_
      refine d_c rfl (Qui.ylds (y_move rfl)) rfl rfl rfl (fun _ h => h) K.cl ?_
      refine d_c rfl (Qui.ylds (y_nilP rfl)) rfl rfl rfl (fun _ h => h) K.cl ?_
      refine d_c rfl (Qui.ylds (y_fieldAddrB Tryz.tab 2 rfl rfl rfl rfl rfl)) rfl rfl rfl (fun _ h => h) K.cl ?_
      refine d_c rfl (Qui.ylds (y_load Tryz.tab rfl rfl f2)) rfl rfl rfl (fun _ h => h) K.cl ?_
      refine d_c rfl (Qui.ylds (y_move rfl)) rfl rfl rfl (fun _ h => h) K.cl ?_
      refine d_c rfl (Qui.ylds (y_nilP rfl)) rfl rfl rfl (fun _ h => h) K.cl ?_
      refine d_c rfl (Qui.ylds (y_fieldAddrB Tryz.tab 3 rfl rfl rfl rfl rfl)) rfl rfl rfl (fun _ h => h) K.cl ?_
      refine d_c rfl (Qui.ylds (y_load Tryz.tab rfl rfl f3)) rfl rfl rfl (fun _ h => h) K.cl ?_
      refine d_c rfl (Qui.ylds (y_move rfl)) rfl rfl rfl (fun _ h => h) K.cl ?_
      refine d_c rfl (Qui.ylds (y_nilP rfl)) rfl rfl rfl (fun _ h => h) K.cl ?_
      refine d_c rfl (Qui.ylds (y_fieldAddrB Tryz.tab 1 rfl rfl rfl rfl rfl)) rfl rfl rfl (fun _ h => h) K.cl ?_
      refine d_c rfl (Qui.ylds (y_load Tryz.tab rfl rfl f1)) rfl rfl rfl (fun _ h => h) K.cl ?_
      refine d_call rfl (en_f rfl Tryz.call115) ih rfl rfl rfl (fun _ => K.cl) (fun _ x w h => K.sub x.2.1 h) (fun x => ?_)
      obtain ⟨⟨p1, v1⟩, hs1, ht1⟩ := x
      dsimp only at hs1 ht1 ⊢
      have hD : ∀ w, K W (p1 :: R) w → K W (p :: R) w := fun w h => K.sub hs1 h
      skip
      refine d_call rfl (en_f rfl Tryz.call81) (link_ok ht1 (hr.sub hs1) hk) rfl rfl rfl (fun _ => K.cl) (fun _ x w h => K.sub (hs1.trans x.2.1) h) (fun x => ?_)
      obtain ⟨⟨p2, v2⟩, hs2, ht2⟩ := x
      dsimp only at hs2 ht2 ⊢
      have hD1 : ∀ w, K W (p2 :: R) w → K W (p :: R) w := fun w h => K.sub (hs1.trans hs2) h
      refine d_c rfl (Qui.ylds (y_assign rfl)) rfl rfl rfl hD1 K.cl ?_
      refine d_nil ?_
      refine f_then ?_
      refine c_ret ?_
      exact f_ret ⟨(p2, v2), hs1.trans hs2, ht2⟩ (res1 rfl rfl) (fun w h => h)
set_option maxRecDepth 10000 in
theorem leaf_spec {W : World} {p : Chunk} {R : List Chunk} {n t : Nat} (ht : t < 16) (hn : n ≤ 1152921504606846976) : Spec Tryz.prog 61 #[.int .i64 (n : Nat), .int .i64 (t : Nat)] (K W (p :: R)) (X := TX p (.leaf n t)) (fun x => x.1.2) (fun x => K W (x.1.1 :: R)) := by
  refine enter (args := [_, _]) Tryz.func61 rfl Tryz.ntmps61 rfl ?_
  unfold Tree.leaf
  by_cases c : n = 0
  · rw [if_pos c]
    refine c_seq ?_
    refine c_region ?_
    refine s_y (y_assign rfl) rfl rfl rfl ?_
    refine s_nil ?_
    refine f_then ?_
    refine c_seq ?_
    refine c_seq ?_
    refine c_region ?_
    refine s_y (y_move rfl) rfl rfl rfl ?_
    refine s_y (y_T (y_eql rfl rfl) (by omega)) rfl rfl rfl ?_
    refine s_nil ?_
    refine f_then ?_
    refine c_condT rfl ?_
    refine c_seq ?_
    refine c_region ?_
    refine s_y (y_assign rfl) rfl rfl rfl ?_
    refine s_nil ?_
    refine f_then ?_
    refine c_ret ?_
    refine f_thenR ?_
    exact f_ret ⟨(p, .pointer none), Sub.refl _, Tr.nil⟩ (res1 rfl rfl) (fun w h => h)
  · rw [if_neg c]
    refine c_seq ?_
    refine c_region ?_
    refine s_y (y_assign rfl) rfl rfl rfl ?_
    refine s_nil ?_
    refine f_then ?_
    refine c_seq ?_
    refine c_seq ?_
    refine c_region ?_
    refine s_y (y_move rfl) rfl rfl rfl ?_
    refine s_y (y_F (y_eql rfl rfl) (by omega)) rfl rfl rfl ?_
    refine s_nil ?_
    refine f_then ?_
    refine c_condF rfl ?_
    refine c_skip ?_
    refine f_then ?_
    refine c_seq ?_
    refine c_region ?_
    refine s_y (y_move rfl) rfl rfl rfl ?_
    refine s_y (y_move rfl) rfl rfl rfl ?_
    refine s_call (en_f rfl Tryz.call81) (link_spec Tr.nil Tr.nil ht (by simp only [Tree.pcs]; omega) (by simp only [Tree.runs]; omega)) rfl rfl rfl (fun x => ?_)
    refine s_y (y_assign rfl) rfl rfl rfl ?_
    refine s_nil ?_
    refine f_then ?_
    refine c_ret ?_
    exact f_ret x (res1 rfl rfl) (fun w h => h)
end Go.KL
end
