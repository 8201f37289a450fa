/- The library of the proof, part 3: a program logic over the model, walks of functions, plain laws. No condition. -/
import Derived.Shelf.SlIterI.Nil
import Derived.Shelf.SortM.Plain
import Derived.Shelf.SortM.SortNone
import Derived.Laws.Cover3
import Derived.Test.YtcbmmldkpicaiaaGreatSouL2
set_option maxRecDepth 10000
set_option maxHeartbeats 16000000
section
/- Walks: conflict, its closure, ContainsFunc. -/
namespace Go.KL
open Go.Proofs Go.Proofs.Tryz
attribute [local irreducible] SC St Fin Sq Ylds Doos Sets Enters Spec CellIs CellsAre Then Ret Rnd Chn resOK ints bools recs arr
theorem cf_spec' {W : World} {Ls : List Chunk} {a1 a2 a3 q1 q2 q3 : Nat} {a4 q4 : Bool} : Spec prog 133 #[.agg #[.int .i64 (a1 : Nat), .int .i64 (a2 : Nat), .int .i64 (a3 : Nat), .bool a4], .agg #[.int .i64 (q1 : Nat), .int .i64 (q2 : Nat), .int .i64 (q3 : Nat), .bool q4]] (K W Ls)
    (fun _ : Unit => .bool (decide (a1 ≠ q1) && ((a4 || q4) && decide (max a2 q2 < min a3 q3)))) (fun _ => K W Ls) := by
  refine enter (args := [_, _]) func133 rfl ntmps133 rfl ?_;by_cases h1 : a1 = q1
  · simp only [h1, ne_eq, not_true_eq_false, decide_false, Bool.false_and];refine csr (sbx fun b2 => ?_);refine sbx fun b3 => ?_;refine sa ?_;refine snf (csr (sf0 ?_));refine slr 1 ?_;refine sf0 ?_;refine slr 0 ?_;refine sy (y_F (y_neq rfl rfl) (by omega)) ?_;refine sm ?_
    iterate 6 refine s_skip rfl rfl rfl ?_
    refine spF ?_;refine sm ?_
    iterate 11 refine s_skip rfl rfl rfl ?_
    refine spF ?_;refine sa ?_;refine snf (c_ret ?_);exact f_ret () (res1 rfl rfl) (fun w h => h.tail.tail)
  · simp only [h1, ne_eq, not_false_eq_true, decide_true, Bool.true_and];by_cases h2 : max a2 q2 < min a3 q3
    · simp only [h2, decide_true, Bool.and_true];cases a4
      · cases q4
        · refine csr (sbx fun b2 => ?_);refine sbx fun b3 => ?_;refine sa ?_;refine snf (csr (sf0 ?_));refine slr 1 ?_;refine sf0 ?_;refine slr 0 ?_;refine sy (y_T (y_neq rfl rfl) (by omega)) ?_;refine sm ?_;refine sf 3 ?_;refine slr 1 ?_;refine sm ?_;refine sf 3 ?_;refine slr 0 ?_;refine spF ?_;refine spT ?_;refine sm ?_
          iterate 11 refine s_skip rfl rfl rfl ?_
          refine spF ?_;refine sa ?_;refine snf (c_ret ?_);exact f_ret () (res1 rfl rfl) (fun w h => h.tail.tail)
        · refine csr (sbx fun b2 => ?_);refine sbx fun b3 => ?_;refine sa ?_;refine snf (csr (sf0 ?_));refine slr 1 ?_;refine sf0 ?_;refine slr 0 ?_;refine sy (y_T (y_neq rfl rfl) (by omega)) ?_;refine sm ?_;refine sf 3 ?_;refine slr 1 ?_;refine sm ?_;refine sf 3 ?_;refine slr 0 ?_;refine spF ?_;refine spT ?_;refine sm ?_;refine sf 1 ?_;refine slr 1 ?_;refine sf 1 ?_;refine slr 0 ?_;refine sy (y_max rfl rfl) ?_;refine sf 2 ?_;refine slr 1 ?_;refine sf 2 ?_;refine slr 0 ?_;refine sy (y_min rfl rfl) ?_;refine sy (y_T (y_lss rfl rfl) (by omega)) ?_;refine spT ?_;refine sa ?_;refine snf (c_ret ?_);exact f_ret () (res1 rfl rfl) (fun w h => h.tail.tail)
      · refine csr (sbx fun b2 => ?_);refine sbx fun b3 => ?_;refine sa ?_;refine snf (csr (sf0 ?_));refine slr 1 ?_;refine sf0 ?_;refine slr 0 ?_;refine sy (y_T (y_neq rfl rfl) (by omega)) ?_;refine sm ?_;refine sf 3 ?_;refine slr 1 ?_;refine sm ?_
        iterate 2 refine s_skip rfl rfl rfl ?_
        refine spT ?_;refine spT ?_;refine sm ?_;refine sf 1 ?_;refine slr 1 ?_;refine sf 1 ?_;refine slr 0 ?_;refine sy (y_max rfl rfl) ?_;refine sf 2 ?_;refine slr 1 ?_;refine sf 2 ?_;refine slr 0 ?_;refine sy (y_min rfl rfl) ?_;refine sy (y_T (y_lss rfl rfl) (by omega)) ?_;refine spT ?_;refine sa ?_;refine snf (c_ret ?_);exact f_ret () (res1 rfl rfl) (fun w h => h.tail.tail)
    · simp only [h2, decide_false, Bool.and_false];cases a4
      · cases q4
        · refine csr (sbx fun b2 => ?_);refine sbx fun b3 => ?_;refine sa ?_;refine snf (csr (sf0 ?_));refine slr 1 ?_;refine sf0 ?_;refine slr 0 ?_;refine sy (y_T (y_neq rfl rfl) (by omega)) ?_;refine sm ?_;refine sf 3 ?_;refine slr 1 ?_;refine sm ?_;refine sf 3 ?_;refine slr 0 ?_;refine spF ?_;refine spT ?_;refine sm ?_
          iterate 11 refine s_skip rfl rfl rfl ?_
          refine spF ?_;refine sa ?_;refine snf (c_ret ?_);exact f_ret () (res1 rfl rfl) (fun w h => h.tail.tail)
        · refine csr (sbx fun b2 => ?_);refine sbx fun b3 => ?_;refine sa ?_;refine snf (csr (sf0 ?_));refine slr 1 ?_;refine sf0 ?_;refine slr 0 ?_;refine sy (y_T (y_neq rfl rfl) (by omega)) ?_;refine sm ?_;refine sf 3 ?_;refine slr 1 ?_;refine sm ?_;refine sf 3 ?_;refine slr 0 ?_;refine spF ?_;refine spT ?_;refine sm ?_;refine sf 1 ?_;refine slr 1 ?_;refine sf 1 ?_;refine slr 0 ?_;refine sy (y_max rfl rfl) ?_;refine sf 2 ?_;refine slr 1 ?_;refine sf 2 ?_;refine slr 0 ?_;refine sy (y_min rfl rfl) ?_;refine sy (y_F (y_lss rfl rfl) (by omega)) ?_;refine spT ?_;refine sa ?_;refine snf (c_ret ?_);exact f_ret () (res1 rfl rfl) (fun w h => h.tail.tail)
      · refine csr (sbx fun b2 => ?_);refine sbx fun b3 => ?_;refine sa ?_;refine snf (csr (sf0 ?_));refine slr 1 ?_;refine sf0 ?_;refine slr 0 ?_;refine sy (y_T (y_neq rfl rfl) (by omega)) ?_;refine sm ?_;refine sf 3 ?_;refine slr 1 ?_;refine sm ?_
        iterate 2 refine s_skip rfl rfl rfl ?_
        refine spT ?_;refine spT ?_;refine sm ?_;refine sf 1 ?_;refine slr 1 ?_;refine sf 1 ?_;refine slr 0 ?_;refine sy (y_max rfl rfl) ?_;refine sf 2 ?_;refine slr 1 ?_;refine sf 2 ?_;refine slr 0 ?_;refine sy (y_min rfl rfl) ?_;refine sy (y_F (y_lss rfl rfl) (by omega)) ?_;refine spT ?_;refine sa ?_;refine snf (c_ret ?_);exact f_ret () (res1 rfl rfl) (fun w h => h.tail.tail)
theorem cf_spec {W : World} {Ls : List Chunk} {a b : Lk} : Spec prog 133 #[lkv a, lkv b] (K W Ls) (fun _ : Unit => .bool (cfl a b)) (fun _ => K W Ls) := cf_spec'
theorem cfc_spec {W : World} {Ls : List Chunk} {a l : Lk} {b : Nat} (hb : CellsAre (K W Ls) ⟨b, 0, none⟩ (lkc l)) : Spec prog 132 #[lkv a, .pointer (some ⟨b, 0, none⟩)] (K W Ls) (fun _ : Unit => .bool (cfl a l)) (fun _ => K W Ls) := by
  refine enter (args := [_, _]) func132 rfl ntmps132 rfl ?_;refine csr (sbx fun b2 => ?_);refine sa ?_;refine snf (csr (sy (y_loadA tab rfl rfl rfl rfl (cells_row0 0 rfl rfl)) ?_));refine sy (y_loadA tab rfl rfl rfl rfl hb.cons) ?_;refine sk call133 (cf_spec (a := a) (b := l)) fun _ => ?_;refine sa ?_;refine snf (c_ret ?_);exact f_ret () (res1 rfl rfl) (fun w h => h.tail)
theorem index_spec {W : World} {Ls : List Chunk} {v : Value} {L : List Lk} {l : Lk} {b : Nat} (hv : EV (K W Ls) v 4 (lks L)) (hb : CellsAre (K W Ls) ⟨b, 0, none⟩ (lkc l)) (hl : L.length ≤ 1000000) :
    Spec prog 143 #[v, .func (.func 132) #[] #[.pointer (some ⟨b, 0, none⟩)]] (K W Ls) (X := { z : Int // (0 ≤ z ↔ (L.any fun x => cfl x l) = true) }) (fun z => .int .i64 z.1) (fun _ => K W Ls) := by
  refine enter (args := [_, _]) func143 rfl ntmps143 rfl ?_;refine csr (sa ?_);refine snf (c_seq (csr (sm ?_)));refine sy (y_lenE tab rfl (hv) rfl) ?_;refine sm ?_;refine snf (c_block ?_);refine c_loopP (α := Nat) (fun z => [(0, v), (1, .func (.func 132) #[] #[.pointer (some ⟨b, 0, none⟩)]), (7, .int .i64 (lks L).length), (8, .int .i64 (z : Nat))]) (fun z => z ≤ L.length ∧ ∀ i x, i < z → L[i]? = some x → cfl x l = false) (fun _ => K W Ls) (fun z => L.length - z) 0
    ⟨rfl, rfl, rfl, rfl, trivial⟩ ⟨Nat.zero_le _, fun i x h => absurd h (by omega)⟩ (fun w h => h) ?_
  rintro z ⟨hz, hno⟩;have hlen : (lks L).length = L.length := List.length_map _;by_cases c : z < L.length
  · obtain ⟨x, hx⟩ : ∃ x, L[z]? = some x := ⟨L[z], by simp [c]⟩;have hc := hv.row (lks_get hx);refine csr (sy (y_T (y_lss rfl rfl) (by omega)) ?_);refine snf (c_seq (c_condT rfl (c_skip (f_then (c_seq (c_block (csr (sm ?_))))))));refine sa ?_;refine snf (csr (sm ?_));refine sm ?_;refine sm ?_;refine sy (y_ixE tab rfl rfl rfl rfl (hv) _ rfl (by omega)) ?_;refine sy (y_loadA tab rfl rfl rfl rfl hc) ?_;refine s_call (en_v rfl rfl call132) (cfc_spec (a := x) hb) rfl rfl rfl (fun _ => ?_);cases hcf : cfl x l with
    | true =>
      refine snf (c_condT rfl (csr (sm ?_)));refine sa ?_;refine snf (c_ret (f_blockR (f_thenR (f_rndR (f_blockR (f_thenR ?_))))));exact f_ret ⟨(z : Int), ⟨fun _ => List.any_eq_true.2 ⟨x, List.mem_of_getElem? hx, hcf⟩, fun _ => by omega⟩⟩ (res1 rfl rfl) (fun w h => h)
    | false =>
      refine snf (c_condF rfl (c_skip (f_blockN (f_then (c_region (sy (y_add rfl rfl (by omega)) ?_))))));refine sm ?_;refine s_nil ?_;exact f_roundP (z + 1) ⟨c, fun i y hi hy => by
        by_cases e : i = z
        · subst e;rw [hx] at hy;rw [← Option.some.inj hy]; exact hcf
        · exact hno i y (by omega) hy⟩ (by omega) ⟨rfl, rfl, rfl, rfl, trivial⟩ (fun w h => h)
  · obtain rfl : z = L.length := by omega
    refine csr (sy (y_F (y_lss rfl rfl) (by omega)) ?_);refine snf (c_seq (c_condF rfl (c_exit (f_thenE (f_rndE (f_blockE (f_then (csr (sa ?_)))))))));refine snf (c_ret (f_ret ⟨-1, ⟨fun h => absurd h (by omega), fun h => ?_⟩⟩ (res1 rfl rfl) (fun w h => h)));obtain ⟨x, hx, hcf⟩ := List.any_eq_true.1 h;obtain ⟨i, hi⟩ := List.getElem?_of_mem hx;have := hno i x (List.getElem?_eq_some_iff.1 hi).1 hi;rw [this] at hcf;cases hcf
theorem contains_spec {W : World} {Ls : List Chunk} {v : Value} {L : List Lk} {l : Lk} {b : Nat} (hv : EV (K W Ls) v 4 (lks L)) (hb : CellsAre (K W Ls) ⟨b, 0, none⟩ (lkc l)) (hl : L.length ≤ 1000000) :
    Spec prog 131 #[v, .func (.func 132) #[] #[.pointer (some ⟨b, 0, none⟩)]] (K W Ls) (fun _ : Unit => .bool (L.any fun x => cfl x l)) (fun _ => K W Ls) := by
  refine enter (args := [_, _]) func131 rfl ntmps131 rfl ?_;refine csr (sa ?_);refine snf (csr (sm ?_));refine sm ?_;refine sk call143 (index_spec hv hb hl) fun x => ?_;obtain ⟨z, hz⟩ := x;dsimp only;cases h : L.any fun x => cfl x l with
  | true =>
    have := hz.2 h;refine sy (y_T (y_geq rfl rfl) (by assumption)) ?_;refine sa ?_;refine snf (c_ret ?_);exact f_ret () (res1 rfl rfl) (fun w h => h)
  | false =>
    have : ¬ 0 ≤ z := fun c => by rw [hz.1 c] at h; cases h
    refine sy (y_F (y_geq rfl rfl) (by assumption)) ?_;refine sa ?_;refine snf (c_ret ?_);exact f_ret () (res1 rfl rfl) (fun w h => h)
end Go.KL
end

section
/- The library's contracts at this program: numbers of functions and types (printed by a tool of the kit). -/
namespace Go.Proofs
open Go.Shelf
def Tryz.keysA_ren : Go.Shelf.Ren := ⟨fun | 7 => 126 | 10 => 139 | n => n, fun | 23 => 93 | 26 => 3 | 3 => 105 | 28 => 189 | 0 => 0 | 27 => 188 | 33 => 91 | 4 => 4 | n => n, fun | n => n⟩
theorem Tryz.keysA : Go.Proofs.SlLaysZI.n7 Tryz.prog Tryz.keysA_ren := {
  mixed := by kernel_rfl
  f7 := ⟨Tryz.f126.name, by decide, Tryz.func126.trans (congrArg some (by kernel_rfl))⟩
  f10 := ⟨Tryz.f139.name, by decide, Tryz.func139.trans (congrArg some (by kernel_rfl))⟩
  t0 := Tryz.underlying0
  a0 := Tryz.isAgg0
  z0 := Tryz.sizeOf0
  v0 := Tryz.zeroValue0
  t4 := Tryz.underlying4
  a4 := Tryz.isAgg4
  z4 := Tryz.sizeOf4
  v4 := Tryz.zeroValue4
  t23 := Tryz.underlying93
  a23 := Tryz.isAgg93
  z23 := Tryz.sizeOf93
  v23 := Tryz.zeroValue93
  t26 := Tryz.underlying3
  a26 := Tryz.isAgg3
  z26 := Tryz.sizeOf3
  v26 := Tryz.zeroValue3
  t27 := Tryz.underlying188
  a27 := Tryz.isAgg188
  z27 := Tryz.sizeOf188
  v27 := Tryz.zeroValue188
  t28 := Tryz.underlying189
  a28 := Tryz.isAgg189
  z28 := Tryz.sizeOf189
  v28 := Tryz.zeroValue189
  t33 := Tryz.underlying91
  a33 := Tryz.isAgg91
  z33 := Tryz.sizeOf91
  v33 := Tryz.zeroValue91 }
def Tryz.sortedA_ren : Go.Shelf.Ren := ⟨fun | 6 => 125 | 8 => 137 | 9 => 138 | 11 => 146 | 13 => 148 | 12 => 147 | 23 => 160 | 24 => 161 | 14 => 151 | 15 => 152 | 16 => 153 | 17 => 154 | 18 => 155 | 19 => 156 | 20 => 157 | 21 => 158 | 22 => 159 | 25 => 163 | 26 => 164 | 27 => 165 | 28 => 166 | 29 => 167 | 30 => 136 | 31 => 168 | n => n, fun | 26 => 3 | 28 => 189 | 24 => 179 | 0 => 0 | 3 => 3 | 37 => 205 | 48 => 216 | 50 => 218 | 4 => 4 | 40 => 209 | 39 => 208 | 45 => 213 | 5 => 5 | 9 => 9 | 51 => 219 | 55 => 223 | 57 => 225 | 58 => 130 | 33 => 91 | n => n, fun | n => n⟩
theorem Tryz.sortedA : Go.Proofs.SlLaysZI.n6 Tryz.prog Tryz.sortedA_ren := {
  mixed := by kernel_rfl
  f6 := ⟨Tryz.f125.name, by decide, Tryz.func125.trans (congrArg some (by kernel_rfl))⟩
  f8 := ⟨Tryz.f137.name, by decide, Tryz.func137.trans (congrArg some (by kernel_rfl))⟩
  f11 := ⟨Tryz.f146.name, by decide, Tryz.func146.trans (congrArg some (by kernel_rfl))⟩
  t0 := Tryz.underlying0
  a0 := Tryz.isAgg0
  z0 := Tryz.sizeOf0
  v0 := Tryz.zeroValue0
  t24 := Tryz.underlying179
  a24 := Tryz.isAgg179
  z24 := Tryz.sizeOf179
  v24 := Tryz.zeroValue179
  t26 := Tryz.underlying3
  a26 := Tryz.isAgg3
  z26 := Tryz.sizeOf3
  v26 := Tryz.zeroValue3
  t28 := Tryz.underlying189
  a28 := Tryz.isAgg189
  z28 := Tryz.sizeOf189
  v28 := Tryz.zeroValue189
  i26 := by kernel_rfl }
def Tryz.sortA_ren : Go.Shelf.Ren := ⟨fun | 5 => 138 | 8 => 148 | 7 => 147 | 19 => 160 | 20 => 161 | 10 => 151 | 11 => 152 | 12 => 153 | 13 => 154 | 14 => 155 | 15 => 156 | 16 => 157 | 17 => 158 | 18 => 159 | 30 => 163 | 31 => 164 | 32 => 165 | 33 => 166 | 34 => 167 | 35 => 136 | 40 => 168 | n => n, fun | 23 => 179 | 25 => 3 | 3 => 3 | 32 => 205 | 22 => 179 | 0 => 0 | 44 => 216 | 46 => 218 | 4 => 4 | 36 => 209 | 35 => 208 | 41 => 213 | 5 => 5 | 9 => 9 | 53 => 219 | 57 => 223 | 63 => 225 | 64 => 130 | n => n, fun | n => n⟩
theorem Tryz.sortA : Go.Proofs.SlLaysM.n5 Tryz.prog Tryz.sortA_ren := {
  mixed := by kernel_rfl
  f5 := ⟨Tryz.f138.name, by decide, Tryz.func138.trans (congrArg some (by kernel_rfl))⟩
  f7 := ⟨Tryz.f147.name, by decide, Tryz.func147.trans (congrArg some (by kernel_rfl))⟩
  f8 := Tryz.func148.trans (congrArg some (by kernel_rfl))
  f10 := ⟨Tryz.f151.name, by decide, Tryz.func151.trans (congrArg some (by kernel_rfl))⟩
  f11 := ⟨Tryz.f152.name, by decide, Tryz.func152.trans (congrArg some (by kernel_rfl))⟩
  f12 := ⟨Tryz.f153.name, by decide, Tryz.func153.trans (congrArg some (by kernel_rfl))⟩
  f13 := ⟨Tryz.f154.name, by decide, Tryz.func154.trans (congrArg some (by kernel_rfl))⟩
  f14 := ⟨Tryz.f155.name, by decide, Tryz.func155.trans (congrArg some (by kernel_rfl))⟩
  f15 := ⟨Tryz.f156.name, by decide, Tryz.func156.trans (congrArg some (by kernel_rfl))⟩
  f16 := ⟨Tryz.f157.name, by decide, Tryz.func157.trans (congrArg some (by kernel_rfl))⟩
  f17 := ⟨Tryz.f158.name, by decide, Tryz.func158.trans (congrArg some (by kernel_rfl))⟩
  f18 := ⟨Tryz.f159.name, by decide, Tryz.func159.trans (congrArg some (by kernel_rfl))⟩
  f19 := Tryz.func160.trans (congrArg some (by kernel_rfl))
  f20 := Tryz.func161.trans (congrArg some (by kernel_rfl))
  f30 := ⟨Tryz.f163.name, by decide, Tryz.func163.trans (congrArg some (by kernel_rfl))⟩
  f31 := Tryz.func164.trans (congrArg some (by kernel_rfl))
  f32 := Tryz.func165.trans (congrArg some (by kernel_rfl))
  f33 := ⟨Tryz.f166.name, by decide, Tryz.func166.trans (congrArg some (by kernel_rfl))⟩
  f34 := ⟨Tryz.f167.name, by decide, Tryz.func167.trans (congrArg some (by kernel_rfl))⟩
  f35 := ⟨Tryz.f136.name, by decide, Tryz.func136.trans (congrArg some (by kernel_rfl))⟩
  f40 := ⟨Tryz.f168.name, by decide, Tryz.func168.trans (congrArg some (by kernel_rfl))⟩
  t0 := Tryz.underlying0
  a0 := Tryz.isAgg0
  z0 := Tryz.sizeOf0
  v0 := Tryz.zeroValue0
  t3 := Tryz.underlying3
  a3 := Tryz.isAgg3
  z3 := Tryz.sizeOf3
  v3 := Tryz.zeroValue3
  t4 := Tryz.underlying4
  a4 := Tryz.isAgg4
  z4 := Tryz.sizeOf4
  v4 := Tryz.zeroValue4
  t5 := Tryz.underlying5
  a5 := Tryz.isAgg5
  z5 := Tryz.sizeOf5
  v5 := Tryz.zeroValue5
  t9 := Tryz.underlying9
  a9 := Tryz.isAgg9
  z9 := Tryz.sizeOf9
  v9 := Tryz.zeroValue9
  t22 := Tryz.underlying179
  a22 := Tryz.isAgg179
  z22 := Tryz.sizeOf179
  v22 := Tryz.zeroValue179
  t23 := Tryz.underlying179
  a23 := Tryz.isAgg179
  z23 := Tryz.sizeOf179
  v23 := Tryz.zeroValue179
  t25 := Tryz.underlying3
  a25 := Tryz.isAgg3
  z25 := Tryz.sizeOf3
  v25 := Tryz.zeroValue3
  t32 := Tryz.underlying205
  a32 := Tryz.isAgg205
  z32 := Tryz.sizeOf205
  v32 := Tryz.zeroValue205
  t35 := Tryz.underlying208
  a35 := Tryz.isAgg208
  z35 := Tryz.sizeOf208
  v35 := Tryz.zeroValue208
  t36 := Tryz.underlying209
  a36 := Tryz.isAgg209
  z36 := Tryz.sizeOf209
  v36 := Tryz.zeroValue209
  t41 := Tryz.underlying213
  a41 := Tryz.isAgg213
  z41 := Tryz.sizeOf213
  v41 := Tryz.zeroValue213
  t44 := Tryz.underlying216
  a44 := Tryz.isAgg216
  z44 := Tryz.sizeOf216
  v44 := Tryz.zeroValue216
  t46 := Tryz.underlying218
  a46 := Tryz.isAgg218
  z46 := Tryz.sizeOf218
  v46 := Tryz.zeroValue218
  t53 := Tryz.underlying219
  a53 := Tryz.isAgg219
  z53 := Tryz.sizeOf219
  v53 := Tryz.zeroValue219
  t57 := Tryz.underlying223
  a57 := Tryz.isAgg223
  z57 := Tryz.sizeOf223
  v57 := Tryz.zeroValue223
  t63 := Tryz.underlying225
  a63 := Tryz.isAgg225
  z63 := Tryz.sizeOf225
  v63 := Tryz.zeroValue225
  t64 := Tryz.underlying130
  a64 := Tryz.isAgg130
  z64 := Tryz.sizeOf130
  v64 := Tryz.zeroValue130 }
end Go.Proofs
end

section
/- Contracts: the keys of a map, sorted. -/
namespace Go.KL
open Go.Proofs Go.RowKit Go.Maps Go.Sort Go.Shelf
theorem Below.ext {w w' : World} (h : Below w.heap.size w w') : Ext w w' := ⟨h.os, h.tape, h.output, h.size, h.block⟩
theorem sortsA (m : Nat) : AnyZI.SortsIn Tryz.prog Tryz.sortedA_ren Fence.wide m :=
  ⟨fun blk off cap ss W hH hblk hsz => callsIn_wide.2 (AnyM.slices_Sort_int Tryz.sortA blk off cap ss W hH hblk hsz),
   fun p cap W => callsIn_wide.2 (AnyM.slices_Sort_int_none Tryz.sortA p cap W)⟩
def leI (x y : Int) : Bool := decide (x ≤ y)
def skeys (es : List Ent) : List Int := (es.map (·.1)).mergeSort leI
def ivals (l : List Int) : List Value := l.map fun z => .int .i64 z
theorem K.newRow {W w w' : World} {Ls : List Chunk} (h : K W Ls w) {v : Value} {n : Nat} {xs : List Value} (hr : w'.ownsRow w.heap.size 3 1 v n xs) (hn : v = .slice none 0 0 ↔ n = 0) (he : Ext w w') :
    ∃ c : Chunk, Buf 3 1 v c n xs ∧ K W (c :: Ls) w' := by
  obtain ⟨hl, hr⟩ := hr;by_cases h0 : n = 0
  · subst h0;have : xs = [] := List.eq_nil_of_length_eq_zero (by simpa using hl);subst this;exact ⟨[], ⟨.inl ⟨rfl, rfl, hn.2 rfl, rfl⟩⟩, (h.ext he).addNil⟩
  · rcases hr with ⟨_, h1⟩ | ⟨g, cap, cur, rfl, hb, hg, h1, h2, h3, h4⟩
    · exact absurd h1 h0
    · have e1 : cur = ([] ++ xs ++ cur.toList.drop n).toArray := by
        apply Array.ext';simp only [List.nil_append];rw [← h4, Nat.mul_one, List.take_append_drop]
      refine ⟨och 3 ⟨g, cap, [], cur.toList.drop n⟩ xs, ⟨.inr ⟨⟨g, cap, [], cur.toList.drop n⟩, rfl, rfl, ⟨h1, h2, by simpa using hl, ?_⟩, rfl⟩⟩, ?_⟩
      · simp at h3 ⊢;omega
      · have hk : K w [och 3 ⟨g, cap, [], cur.toList.drop n⟩ xs] w' := by
          refine ⟨he.os, he.tape, he.output, he.size, he.block, ?_, by simp [och]⟩;intro e hm;simp only [och, List.flatten_cons, List.flatten_nil, List.append_nil, List.mem_singleton] at hm;subst hm;refine ⟨hb, ?_⟩;show _ = some (Obj.cells ([] ++ xs ++ List.drop n cur.toList).toArray 3 (0, 0));rw [← e1];exact hg
        exact h.compose hk
theorem keys_spec {W : World} {Ls : List Chunk} {m : Option Nat} : Spec Tryz.prog 126 #[.map m] (K W Ls) (fun B : Nat => .func (.func 139) #[] #[.pointer (some ⟨B, 0, none⟩)]) (fun B => K W ([(B, row 93 [.map m])] :: Ls)) := by
  refine enter (args := [_]) Tryz.func126 rfl Tryz.ntmps126 rfl ?_;refine csr (sbx fun b1 => ?_);refine sa ?_;refine snf (csr (sy (y_makeFunc rfl rfl) ?_));refine sa ?_;refine snf (c_ret ?_);exact f_ret b1 (res1 rfl rfl) (fun w h => h)
theorem sorted_spec {W : World} {Ls : List Chunk} {i B b c : Nat} {es : List Ent} {R : Chunk} (hB : Ls.getD i [] = (B, row 93 [.map (some b)]) :: R) (hb : Hs (K W Ls) [(b, mobj es c)]) (hm : MOK es c) :
    Spec Tryz.prog 125 #[.func (.func 139) #[] #[.pointer (some ⟨B, 0, none⟩)]] (K W Ls) (X := { x : Value × Chunk // Buf 3 1 x.1 x.2 es.length (ivals (skeys es)) }) (fun x => x.1.1) (fun x => K W (x.1.2 :: Ls)) := by
  intro w hw;have h1 := hw.at hB;have h2 := hb w hw _ (List.mem_singleton.2 rfl);obtain ⟨D, ho, hp, hs⟩ := ownsMap_of hm Tryz.underlying3 h2;have hcell : w.cell? ⟨B, 0, none⟩ = some (.map (some b)) := by simp [World.cell?, h1, row]
  have hlen := hm.len;have hseq : SeqGives Fence.wide 3 Tryz.prog 139 #[.pointer (some ⟨B, 0, none⟩)] encZ (fun ss => ss.Perm (intKeys D)) (Maps.size D) w :=
    AnyZI.keys_gives (ρ := Tryz.keysA_ren) { Tryz.keysA with } Fence.wide _ trivial rfl (by omega) B b es.length D w (heap_lt h1) hcell ho
  have cS := AnyZI.sorted_in Tryz.sortedA Fence.wide 6 trivial trivial trivial trivial rfl (by omega) (sortsA _) (enters_of Tryz.func138 (by kernel_rfl) rfl) 139 #[.pointer (some ⟨B, 0, none⟩)] trivial (enters_of Tryz.func139 (by kernel_rfl) rfl) _ _ (by rw [hs]; simp [maxLen]; omega) (by rw [hs]; omega) _ hseq;change CallsIn _ _ Tryz.prog 125 _ _ _ at cS;refine (callsIn_wide.1 cS).mono ?_;rintro e w' ⟨v, ss, rfl, hS, hrow, hnil, hbel⟩;have hp2 : ss.Perm (es.map (·.1)) := hS.trans hp;have e1 : ss.mergeSort (fun x y => decide (x ≤ y)) = skeys es := mergeSort_of_perm_i hp2;have e2 : ss.length = es.length := by rw [hp2.length_eq]; simp
  rw [e1, e2] at hrow;obtain ⟨o, h3, h4⟩ := K.newRow hw hrow (by rw [hnil, ← e2]; exact List.length_eq_zero_iff.symm) (Below.ext hbel);exact ⟨⟨(v, o), h3⟩, rfl, h4⟩
end Go.KL
end

section
/- Maps that are there. No program in sight. -/
namespace Go.KL
section
variable {P : Program} {n : Nat} {σ : Slots} {C : World → Prop} {dst : Option Tmp} {ty : TypeId} {pos : String} {after : Array Edge} {guard : Option (Nat × Bool)}
theorem y_lookupH (T : Tab P) {x k : Operand} {t kt e : TypeId} {b c : Nat} {es : List Ent} {q : Int} {z : Value} (hx : ev σ x = some (.map (some b))) (hk : ev σ k = some (.int .i64 q)) (ht : T.und t = some (.map kt e)) (hkt : T.und kt = some (.int .i64))
    (hz : ∀ w, (zeroValue e).run P w = .ok z w) (hb : Hs C [(b, mobj es c)]) : Ylds P n σ C ⟨dst, .lookup t x k false, ty, pos, after, guard⟩ (mget q z es) := by
  intro a w hE hw;have := run_lookupM (ok := false) (k := q) w (T.und_ok ht) (T.und_ok hkt) (hz w) (hb w hw _ (List.mem_singleton.2 rfl));simp [execOp, ev_eval hE hx, ev_eval hE hk, this]
theorem y_lookupE (T : Tab P) {x k : Operand} {t kt e : TypeId} {b c : Nat} {es : List Ent} {q : Int} {z v : Value} (hx : ev σ x = some (.map (some b))) (hk : ev σ k = some (.int .i64 q)) (ht : T.und t = some (.map kt e)) (hkt : T.und kt = some (.int .i64))
    (hz : ∀ w, (zeroValue e).run P w = .ok z w) (hb : Hs C [(b, mobj es c)]) (hv : mget q z es = v) : Ylds P n σ C ⟨dst, .lookup t x k false, ty, pos, after, guard⟩ v := hv ▸ y_lookupH T hx hk ht hkt hz hb
theorem y_lenMH (T : Tab P) {x : Operand} {t kt e : TypeId} {b c : Nat} {es : List Ent} (hx : ev σ x = some (.map (some b))) (ht : T.und t = some (.map kt e)) (hb : Hs C [(b, mobj es c)]) :
    Ylds P n σ C ⟨dst, .call ⟨.builtin .len, #[x], #[t]⟩, ty, pos, after, guard⟩ (.int .i64 (es.length : Nat)) := fun a w hE hw => by
  have hb' := hb w hw _ (List.mem_singleton.2 rfl);have h1 : (getObj b).run P w = .ok (mobj es c) w := MapKept.run_getObj_map hb';simp [execOp, resolve, invoke, ev_eval hE hx, builtin, Builtin.len_, run_und T ht, h1, mobj, goInt]
theorem y_neqM0 (T : Tab P) {x : Operand} {t kt e : TypeId} {m : Option Nat} {t' : TypeId} (hx : ev σ x = some (.map m)) (ht : T.und t = some (.map kt e)) :
    Ylds P n σ C ⟨dst, .binOp .neq t x (.const (.map none)) t', ty, pos, after, guard⟩ (.bool m.isSome) := by
  intro a w hE _;have h := run_equal_map_nil w t kt e m (T.und_ok ht);have h2 : (binOp .neq t (.map m) (.map none)).run P w = .ok (.bool m.isSome) w := by
    simp only [binOp, Sem.run_bind, h, Result.andThen];cases m <;> rfl
  have h3 : eqGuard .neq t x (.const (.map none)) (.map m) (.map none) = pure () := by cases m <;> rfl
  have h4 : a.eval (.const (.map none)) = .map none := rfl;simp only [execOp, ev_eval hE hx, h4, h3, Sem.run_bind, Sem.run_pure, Result.andThen, h2]
end
end Go.KL
end

section
/- A book in memory. No program in sight. -/
namespace Go.KL
structure Tg where
  id : Nat
  b : Nat
  st : Nat
  locks : List Lk
  req : Lk
  os : List Ov
  lv : Value
  lc : Chunk
  ov : Value
  oc : Chunk
def Tg.tx (t : Tg) : Tx := ⟨t.st, t.locks, t.req, ops t.os⟩
abbrev Tg.cells (t : Tg) : List Value := [.int .i64 (t.id : Nat), .int .i64 (t.st : Nat), t.lv, .int .i64 (t.req.tx : Nat), .int .i64 (t.req.lo : Nat), .int .i64 (t.req.hi : Nat), .bool t.req.wr, t.ov]
abbrev Tg.chunks (t : Tg) : List Chunk := [[(t.b, row 113 t.cells)], t.lc, t.oc]
abbrev Tg.ptr (t : Tg) : Value := .pointer (some ⟨t.b, 0, none⟩)
structure Tg.OK (p : Chunk) (t : Tg) : Prop where
  l : BufR 111 4 t.lv t.lc (lks t.locks)
  o : BufR 60 6 t.ov t.oc (opl t.os)
  r : OpsV p t.os
theorem Tg.OK.sub {p q : Chunk} {t : Tg} (h : t.OK p) (hS : Sub p q) : t.OK q := ⟨h.l, h.o, h.r.sub hS⟩
abbrev Lg := Nat × Value × List Ov
structure Bg where
  p : Chunk
  b : Nat
  ba : Nat
  br : Nat
  cv : Value
  wv : Value
  qv : Value
  lv : Value
  ca : Nat
  cr : Nat
  size : Nat
  C : Nat → Nat
  W : Nat → Nat
  rn : List Nat
  q : List Nat
  qc : Chunk
  lc : Chunk
  ls : List Lg
  ea : List Ent
  er : List Ent
  ts : List Tg
namespace Bg
variable (g : Bg)
def bk : Bk := ⟨g.size, g.C, g.W, g.ts.map Tg.tx, g.rn, g.q, g.ls.map fun x => (x.1, ops x.2.2)⟩
def pb (k : Nat) : Nat := (g.ts[k - 1]?).elim 0 (·.b)
abbrev ptr (k : Nat) : Value := .pointer (some ⟨g.pb k, 0, none⟩)
abbrev cells : List Value := [g.cv, g.wv, .map (some g.ba), .map (some g.br), g.qv, g.lv]
abbrev fixed : List Chunk := [g.p, [(g.b, row 96 g.cells)], [(g.ba, mobj g.ea g.ca)], [(g.br, mobj g.er g.cr)], g.qc, g.lc]
abbrev L : List Chunk := g.fixed ++ g.ts.flatMap Tg.chunks
abbrev has (k : Nat) : Prop := 1 ≤ k ∧ k ≤ g.ts.length
structure OK : Prop where
  mC : MV g.p g.cv g.size g.C
  mW : MV g.p g.wv g.size g.W
  id : ∀ (i : Nat) (t : Tg), g.ts[i]? = some t → t.id = i + 1
  ok : ∀ t ∈ g.ts, t.OK g.p
  nd : (g.ts.map (·.b)).Nodup
  eaM : MOK g.ea g.ca
  eaG : ∀ k : Nat, g.has k → mget (k : Int) (.pointer none) g.ea = g.ptr k
  eaH : ∀ z : Int, mhas z g.ea = decide (1 ≤ z ∧ z ≤ g.ts.length)
  eaL : g.ea.length = g.ts.length
  erM : MOK g.er g.cr
  erE : g.er.map (fun e => (e.1, e.2.1)) = g.rn.map (fun k : Nat => ((k : Int), g.ptr k))
  rnh : ∀ k ∈ g.rn, g.has k
  qB : BufR 105 1 g.qv g.qc (g.q.map fun k => [g.ptr k])
  qh : ∀ k ∈ g.q, g.has k
  lB : BufR 58 2 g.lv g.lc (g.ls.map fun x => [.int .i64 (x.1 : Nat), x.2.1])
  lO : ∀ x ∈ g.ls, PE g.p x.2.1 6 (opl x.2.2) ∧ OpsV g.p x.2.2
end Bg
theorem mget_out {k : Int} {z : Value} : ∀ {es : List Ent}, mhas k es = false → mget k z es = z
  | [], _ => rfl
  | e :: r, h => by
    simp only [mhas] at h;simp only [mget];by_cases c : k = e.1
    · simp [c] at h
    · simp only [if_neg c] at h ⊢;exact mget_out h
theorem mget_mem {k : Int} {z v : Value} : ∀ {es : List Ent}, (es.map (·.1)).Nodup → (∃ c, (k, v, c) ∈ es) → mget k z es = v
  | [], _, h => by obtain ⟨c, h⟩ := h; simp at h
  | e :: r, hn, h => by
    simp only [mget];obtain ⟨c, h⟩ := h;simp only [List.map_cons, List.nodup_cons] at hn;rcases List.mem_cons.1 h with h | h
    · rw [← h]; simp
    · have hne : k ≠ e.1 := fun e' => hn.1 (by rw [← e']; exact List.mem_map.2 ⟨_, h, rfl⟩);rw [if_neg hne];exact mget_mem hn.2 ⟨c, h⟩
section
variable {g : Bg}
theorem Bg.OK.at (h : g.OK) {k : Nat} (hk : g.has k) : ∃ t, t ∈ g.ts ∧ g.ts[k - 1]? = some t ∧ t.id = k ∧ g.pb k = t.b ∧ g.bk.tx k = t.tx := by
  have hlt : k - 1 < g.ts.length := by omega
  refine ⟨g.ts[k - 1], List.getElem_mem _, by simp [hlt], ?_, by simp [Bg.pb, hlt], ?_⟩
  · have := h.id (k - 1) g.ts[k - 1] (by simp [hlt]);omega
  · simp [Bk.tx, Bg.bk, List.getD_eq_getElem?_getD, hlt]
theorem Bg.OK.pb_inj (h : g.OK) {j k : Nat} (hj : g.has j) (hk : g.has k) (e : g.pb j = g.pb k) : j = k := by
  obtain ⟨t, _, ht, hi, hp, _⟩ := h.at hj;obtain ⟨u, _, hu, hi', hp', _⟩ := h.at hk;rw [hp, hp'] at e;have h1 : (g.ts.map (·.b))[j - 1]? = some t.b := by simp [ht]
  have h2 : (g.ts.map (·.b))[k - 1]? = some t.b := by simp [hu, e]
  have hlt : j - 1 < (g.ts.map (·.b)).length := by simp; omega
  have := (List.getElem?_inj hlt h.nd).1 (h1.trans h2.symm);omega
theorem Bg.OK.rn_nd (h : g.OK) : g.rn.Nodup := by
  have h1 := h.erM.keys;have h2 : g.er.map (·.1) = g.rn.map (fun k : Nat => (k : Int)) := by
    have := congrArg (List.map Prod.fst) h.erE;simpa [List.map_map, Function.comp_def] using this
  rw [h2] at h1;exact (List.pairwise_map.1 h1).imp fun hne e => hne (by rw [e])
theorem Bg.OK.er_keys (h : g.OK) : g.er.map (·.1) = g.rn.map (fun k : Nat => (k : Int)) := by
  have := congrArg (List.map Prod.fst) h.erE;simpa [List.map_map, Function.comp_def] using this
theorem Bg.OK.er_len (h : g.OK) : g.er.length = g.rn.length := by
  have := congrArg List.length h.er_keys;simpa using this
theorem Bg.OK.er_get (h : g.OK) {k : Nat} (hk : k ∈ g.rn) : mget (k : Int) (.pointer none) g.er = g.ptr k := by
  refine mget_mem h.erM.keys ?_;have : ((k : Int), g.ptr k) ∈ g.er.map (fun e => (e.1, e.2.1)) := by
    rw [h.erE];exact List.mem_map.2 ⟨k, hk, rfl⟩
  obtain ⟨e, he, e2⟩ := List.mem_map.1 this;simp only [Prod.mk.injEq] at e2;exact ⟨e.2.2, by rw [← e2.1, ← e2.2]; exact he⟩
theorem skeys_srt (h : g.OK) : skeys g.er = (srt g.rn).map (fun k : Nat => (k : Int)) := by
  unfold skeys srt;rw [h.er_keys, ← List.map_mergeSort];intro a _ b _;simp [leI]
def BIn (w : World) (g : Bg) : Prop := ∀ e ∈ g.L.flatten, w.heap[e.1]? = some e.2
theorem K.bin {W w : World} {N : List Chunk} (h : K W (g.L ++ N) w) : BIn w g := fun e he => (h.own e (by simp only [List.flatten_append, List.mem_append] at he ⊢; exact .inl he)).2
theorem BIn.hs {w : World} {N : List Chunk} (h : BIn w g) : Hs (K w N) g.L.flatten := Hs.base h
structure TF (C : World → Prop) (t : Tg) : Prop where
  c0 : CellIs C ⟨t.b, 0, none⟩ (.int .i64 (t.id : Nat))
  c1 : CellIs C ⟨t.b, 1, none⟩ (.int .i64 (t.st : Nat))
  c2 : CellIs C ⟨t.b, 2, none⟩ t.lv
  c3 : CellsAre C ⟨t.b, 3, none⟩ (lkc t.req)
  c7 : CellIs C ⟨t.b, 7, none⟩ t.ov
  l : EV C t.lv 4 (lks t.locks)
  o : EV C t.ov 6 (opl t.os)
structure BF (C : World → Prop) (g : Bg) : Prop where
  c0 : CellIs C ⟨g.b, 0, none⟩ g.cv
  c1 : CellIs C ⟨g.b, 1, none⟩ g.wv
  c2 : CellIs C ⟨g.b, 2, none⟩ (.map (some g.ba))
  c3 : CellIs C ⟨g.b, 3, none⟩ (.map (some g.br))
  c4 : CellIs C ⟨g.b, 4, none⟩ g.qv
  c5 : CellIs C ⟨g.b, 5, none⟩ g.lv
  q : EV C g.qv 1 (g.q.map fun k => [g.ptr k])
  l : EV C g.lv 2 (g.ls.map fun x => [.int .i64 (x.1 : Nat), x.2.1])
  ea : Hs C [(g.ba, mobj g.ea g.ca)]
  er : Hs C [(g.br, mobj g.er g.cr)]
theorem Bg.mem_fix {c : Chunk} {e : Nat × Obj} (hc : c ∈ g.fixed) (he : e ∈ c) : e ∈ g.L.flatten := by
  rw [List.flatten_append];exact List.mem_append_left _ (List.mem_flatten.2 ⟨c, hc, he⟩)
theorem Bg.mem_ts {t : Tg} {c : Chunk} {e : Nat × Obj} (ht : t ∈ g.ts) (hc : c ∈ t.chunks) (he : e ∈ c) : e ∈ g.L.flatten := by
  rw [List.flatten_append];exact List.mem_append_right _ (List.mem_flatten.2 ⟨c, List.mem_flatMap.2 ⟨t, ht, hc⟩, he⟩)
variable {C : World → Prop}
theorem Bg.OK.tf (h : g.OK) (hC : Hs C g.L.flatten) {t : Tg} (ht : t ∈ g.ts) : TF C t := by
  have hb : (t.b, row 113 t.cells) ∈ g.L.flatten := Bg.mem_ts ht (c := [(t.b, row 113 t.cells)]) (by simp) (by simp)
  exact ⟨hC.cell hb rfl, hC.cell hb rfl, hC.cell hb rfl, hC.cellsAre hb (fun j hj => by
      have : j < 4 := hj;rcases (show j = 0 ∨ j = 1 ∨ j = 2 ∨ j = 3 by omega) with rfl | rfl | rfl | rfl <;> rfl), hC.cell hb rfl,
    (h.ok t ht).l.view (hC.sub fun e he => Bg.mem_ts ht (c := t.lc) (by simp) he), (h.ok t ht).o.view (hC.sub fun e he => Bg.mem_ts ht (c := t.oc) (by simp) he)⟩
theorem Bg.OK.bf (h : g.OK) (hC : Hs C g.L.flatten) : BF C g := by
  have hb : (g.b, row 96 g.cells) ∈ g.L.flatten := Bg.mem_fix (c := [(g.b, row 96 g.cells)]) (by simp) (by simp);exact ⟨hC.cell hb rfl, hC.cell hb rfl, hC.cell hb rfl, hC.cell hb rfl, hC.cell hb rfl, hC.cell hb rfl,
    h.qB.view (hC.sub fun e he => Bg.mem_fix (c := g.qc) (by simp) he), h.lB.view (hC.sub fun e he => Bg.mem_fix (c := g.lc) (by simp) he),
    hC.sub fun e he => Bg.mem_fix (c := [(g.ba, mobj g.ea g.ca)]) (by simp) he, hC.sub fun e he => Bg.mem_fix (c := [(g.br, mobj g.er g.cr)]) (by simp) he⟩
theorem Bg.OK.pool (hC : Hs C g.L.flatten) : Hs C g.p := hC.sub fun e he => Bg.mem_fix (c := g.p) (by simp) he
end
end Go.KL
end

section
/- Walks: usable, progress. -/
namespace Go.KL
open Go.Proofs Go.Proofs.Tryz
abbrev ptrs (g : Bg) (l : List Nat) : List (List Value) := l.map fun k => [g.ptr k]
abbrev nums (l : List Nat) : List (List Value) := l.map fun k => [Value.int .i64 (k : Nat)]
theorem ptrs_len (g : Bg) (l : List Nat) : lens 1 (ptrs g l) := lens.map fun _ => rfl
theorem nums_len (l : List Nat) : lens 1 (nums l) := lens.map fun _ => rfl
theorem nums_flat (l : List Nat) : (nums l).flatten = l.map fun k => Value.int .i64 (k : Nat) := by
  induction l with
  | nil => rfl
  | cons a l ih => simp [nums] at ih ⊢; exact ih
attribute [local irreducible] SC St Fin Sq Ylds Doos Sets Enters Spec CellIs CellsAre Then Ret Rnd Chn resOK ints bools recs arr
theorem usable_spec {g : Bg} {C : World → Prop} (hF : BF C g) : Spec prog 52 #[.pointer (some ⟨g.b, 0, none⟩)] C (fun _ : Unit => .bool true) (fun _ => C) := by
  obtain ⟨f0, f1, f2, f3, f4, f5, f6, f7, f8, f9⟩ := hF;refine enter (args := [_]) func52 rfl ntmps52 rfl ?_;refine csr (sa ?_);refine snf (csr (sm ?_));refine sy (y_neqPN tab rfl rfl) ?_;refine sm ?_;refine sm ?_;refine sn ?_;refine sf 2 ?_;refine sl f2 ?_;refine sy (y_neqM0 tab rfl rfl) ?_;refine spT ?_;refine sa ?_;refine snf (c_ret ?_);exact f_ret () (res1 rfl rfl) (fun w h => h)
theorem progress_b {g : Bg} {w : World} {N : List Chunk} (hB : g.OK) (hH : Hs (K w N) g.L.flatten) : Spec prog 110 #[.pointer (some ⟨g.b, 0, none⟩)] (K w N)
    (X := { x : Value × Chunk // BufR 105 1 x.1 x.2 (ptrs g (srt g.rn)) }) (fun x => x.1.1) (fun x => K w (x.1.2 :: N)) := by
  obtain ⟨f0, f1, f2, f3, f4, f5, f6, f7, f8, f9⟩ := hB.bf hH;have hlen : (srt g.rn).length = g.er.length := by rw [hB.er_len]; exact List.length_mergeSort _
  have hml := hB.erM.len;refine enter (args := [_]) func110 rfl ntmps110 rfl ?_;refine csr (sa ?_);refine snf (csr (sa ?_));refine snf (c_seq (csr (sm ?_)));refine sn ?_;refine sf 3 ?_;refine sl f3 ?_;refine sk call126 keys_spec fun B => ?_;refine sk call125 (sorted_spec (i := 0) rfl f9.cons hB.erM) fun x => ?_;obtain ⟨⟨v, c⟩, hv⟩ := x;dsimp only at hv ⊢;have hR : BufR 3 1 v c (nums (srt g.rn)) := ⟨nums_len _, by
    rw [nums_flat, List.length_map, hlen];rw [skeys_srt hB] at hv;simpa [ivals, List.map_map, Function.comp_def] using hv⟩
  have hE := hR.view (C := K w (c :: [(B, row 93 [.map (some g.br)])] :: N)) (Hs.at 0 rfl);refine sy (y_lenE tab rfl (hE) rfl) ?_;refine sm ?_;refine snf (c_block ?_);have hl2 : (nums (srt g.rn)).length = (srt g.rn).length := List.length_map _;refine c_loopP (α := Nat × Value × Chunk) (fun z => [(0, .pointer (some ⟨g.b, 0, none⟩)), (3, z.2.1), (11, v), (12, .int .i64 (nums (srt g.rn)).length), (13, .int .i64 (z.1 : Nat))]) (fun z => z.1 ≤ (srt g.rn).length ∧ BufR 105 1 z.2.1 z.2.2 (ptrs g ((srt g.rn).take z.1))) (fun z => K w (z.2.2 :: c :: [(B, row 93 [.map (some g.br)])] :: N)) (fun z => (srt g.rn).length - z.1) (0, .slice none 0 0, [])
    ⟨rfl, rfl, rfl, rfl, rfl, trivial⟩ ⟨Nat.zero_le _, .nil⟩ (fun w h => h.addNil) ?_
  rintro ⟨i, u, d⟩ ⟨hi, hu⟩;dsimp only at hi hu ⊢;by_cases c1 : i < (srt g.rn).length
  · obtain ⟨k, hk⟩ : ∃ k, (srt g.rn)[i]? = some k := ⟨(srt g.rn)[i], by simp [c1]⟩;have hkm : k ∈ g.rn := mem_srt.1 (List.mem_of_getElem? hk);have hcell := hE.cell (i := i) (x := .int .i64 (k : Nat)) (by simp [hk]);have hget := hB.er_get hkm;refine csr (sy (y_T (y_lss rfl rfl) (by omega)) ?_);refine snf (c_seq (c_condT rfl (c_skip (f_then (c_seq (c_block (csr (sy (y_ixE tab rfl rfl rfl rfl (hE.cons) _ rfl (by omega)) ?_))))))));refine sl hcell.cons ?_;refine sa ?_;refine snf (c_region (sm ?_));refine sm ?_;refine sn ?_;refine sf 3 ?_;refine sl f3.cons.cons.cons ?_;refine sm ?_;refine sy (y_lookupE tab rfl rfl rfl rfl (fun _ => rfl) (f9.cons.cons.cons) (by assumption)) ?_;refine s_do (do_buildSlice1 tab ⟨rfl, rfl, rfl, rfl⟩ rfl rfl rfl rfl) rfl rfl rfl (fun b24 => ?_);refine s_do (do_appendR (by_ := 8) tab 1 rfl hu rfl ⟨rfl, rfl, rfl, rfl⟩ rfl (by simp) rfl (cells_row0 0 rfl rfl) rfl rfl (by simp; omega) (by omega)) rfl rfl rfl (fun x => ?_);obtain ⟨⟨u', d'⟩, hu'⟩ := x;dsimp only at hu' ⊢;refine sa ?_;refine s_nil (f_blockN (f_then (c_region (sy (y_add rfl rfl (by omega)) ?_))));refine sm ?_;refine s_nil ?_;exact f_roundP (i + 1, u', d') ⟨c1, by
      rw [List.take_add_one, hk];simpa [ptrs] using hu'⟩ (by dsimp only; omega) ⟨rfl, rfl, rfl, rfl, rfl, trivial⟩ (fun w h => h.tail)
  · obtain rfl : i = (srt g.rn).length := by omega
    rw [List.take_length] at hu;refine csr (sy (y_F (y_lss rfl rfl) (by omega)) ?_);refine snf (c_seq (c_condF rfl (c_exit (f_thenE (f_rndE (f_blockE (f_then (csr (sm ?_)))))))));refine sa ?_;refine snf (c_ret ?_);exact f_ret ⟨(u, d), hu⟩ (res1 rfl rfl) (fun w h => (h.dropAt 1).dropAt 1)
theorem filter_snoc {α : Type} {p : α → Bool} {l : List α} {i : Nat} {x : α} (h : l[i]? = some x) : (l.take (i + 1)).filter p = (l.take i).filter p ++ (if p x then [x] else []) := by
  rw [List.take_add_one, h, Option.toList_some, List.filter_append];congr 1;simp only [List.filter_cons, List.filter_nil]
structure Lim (g : Bg) : Prop where
  lk : ∀ t ∈ g.ts, t.locks.length ≤ 1000000
  rn : g.rn.length < 1000000
  q : g.q.length < 1000000
theorem owners_b {g : Bg} {W : World} {N : List Chunk} {l : Lk} (hB : g.OK) (hL : Lim g) (hH : Hs (K W N) g.L.flatten) : Spec prog 117 #[.pointer (some ⟨g.b, 0, none⟩), lkv l] (K W N)
    (X := { x : Value × Chunk // BufR 3 1 x.1 x.2 (nums (g.bk.owners l)) }) (fun x => x.1.1) (fun x => K W (x.1.2 :: N)) := by
  refine enter (args := [_, _]) func117 rfl ntmps117 rfl ?_;refine csr (sbx fun b3 => ?_);refine sa ?_;refine snf (csr (sa ?_));refine snf (c_seq (csr (sm ?_)));refine sk call110 (progress_b hB hH.cons) fun x => ?_;obtain ⟨⟨v, c⟩, hR⟩ := x;dsimp only at hR ⊢;have hE := hR.view (C := K W (c :: [(b3, row 111 (lkc l))] :: N)) (Hs.at 0 rfl);refine sy (y_lenE tab rfl (hE) rfl) ?_;refine sm ?_;refine snf (c_block ?_);have hl2 : (ptrs g (srt g.rn)).length = (srt g.rn).length := List.length_map _;have hrl : (srt g.rn).length = g.rn.length := List.length_mergeSort _;have hrb := hL.rn;refine c_loopP (α := Nat × Value × Chunk) (fun z => [(0, .pointer (some ⟨g.b, 0, none⟩)), (3, .pointer (some ⟨b3, 0, none⟩)), (5, z.2.1), (9, v), (10, .int .i64 (ptrs g (srt g.rn)).length), (11, .int .i64 (z.1 : Nat))])
    (fun z => z.1 ≤ (srt g.rn).length ∧ BufR 3 1 z.2.1 z.2.2 (nums (((srt g.rn).take z.1).filter fun k => (g.bk.tx k).locks.any fun x => cfl x l))) (fun z => K W (z.2.2 :: c :: [(b3, row 111 (lkc l))] :: N)) (fun z => (srt g.rn).length - z.1) (0, .slice none 0 0, [])
    ⟨rfl, rfl, rfl, rfl, rfl, rfl, trivial⟩ ⟨Nat.zero_le _, .nil⟩ (fun w h => h.addNil) ?_
  rintro ⟨i, u, d⟩ ⟨hi, hu⟩;dsimp only at hi hu ⊢;by_cases c1 : i < (srt g.rn).length
  · obtain ⟨k, hk⟩ : ∃ k, (srt g.rn)[i]? = some k := ⟨(srt g.rn)[i], by simp [c1]⟩;have hkm : k ∈ g.rn := mem_srt.1 (List.mem_of_getElem? hk);obtain ⟨t, htm, _, hid, hpb, htx⟩ := hB.at (hB.rnh k hkm);have hcell := hE.cell (i := i) (x := .pointer (some ⟨t.b, 0, none⟩)) (by simp [hk, Bg.ptr, hpb]);obtain ⟨t0, t1, t2, t3, t7, tl, to⟩ := hB.tf hH htm;have hfl : ∀ n, (((srt g.rn).take i).filter n).length < 1000000 := fun n => by
      have h1 := List.length_filter_le n ((srt g.rn).take i);have h2 := List.length_take_le i (srt g.rn);omega
    have hfs := filter_snoc (p := fun k => (g.bk.tx k).locks.any fun x => cfl x l) hk;rw [htx] at hfs;clear to t3 t7 t1;refine csr (sy (y_T (y_lss rfl rfl) (by omega)) ?_);refine snf (c_seq (c_condT rfl (c_skip (f_then (c_seq (c_block (csr (sy (y_ixE tab rfl rfl rfl rfl (hE.cons) _ rfl (by omega)) ?_))))))));refine sl hcell.cons ?_;refine sa ?_;refine snf (csr (sm ?_));refine sn ?_;refine sf 2 ?_;refine sl t2.cons.cons.cons ?_;refine sy (y_makeFunc rfl rfl) ?_;refine sk call131 (contains_spec (L := t.locks) (l := l) tl.cons.cons.cons (cells_row0 2 rfl rfl) (hL.lk t htm)) fun _ => ?_;cases hc : t.locks.any fun x => cfl x l with
    | true =>
      rw [show (Tg.tx t).locks = t.locks from rfl, hc, if_pos rfl] at hfs;refine snf (c_condT rfl (c_region (sm ?_)));refine sm ?_;refine sn ?_;refine sf0 ?_;refine sl t0.cons.cons.cons ?_;refine s_do (do_buildSlice1 tab ⟨rfl, rfl, rfl, rfl⟩ rfl rfl rfl rfl) rfl rfl rfl (fun b26 => ?_);rw [hid];refine s_do (do_appendR (by_ := 8) tab 1 rfl hu rfl ⟨rfl, rfl, rfl, rfl⟩ rfl (by simp) rfl (cells_row0 0 rfl rfl) rfl rfl (by rw [List.length_map]; exact hfl _) (by omega)) rfl rfl rfl (fun x => ?_);obtain ⟨⟨u', d'⟩, hu'⟩ := x;dsimp only at hu' ⊢;refine sa ?_;refine s_nil (f_blockN (f_then (c_region (sy (y_add rfl rfl (by omega)) ?_))));refine sm ?_;refine s_nil ?_;exact f_roundP (i + 1, u', d') ⟨c1, by
        rw [hfs];simpa [nums] using hu'⟩ (by dsimp only; omega) ⟨rfl, rfl, rfl, rfl, rfl, rfl, trivial⟩ (fun w h => h.tail)
    | false =>
      rw [show (Tg.tx t).locks = t.locks from rfl, hc, if_neg (by decide), List.append_nil] at hfs;refine snf (c_condF rfl (c_skip (f_blockN (f_then (c_region (sy (y_add rfl rfl (by omega)) ?_))))));refine sm ?_;refine s_nil ?_;exact f_roundP (i + 1, u, d) ⟨c1, by rw [hfs]; exact hu⟩ (by dsimp only; omega) ⟨rfl, rfl, rfl, rfl, rfl, rfl, trivial⟩ (fun w h => h)
  · obtain rfl : i = (srt g.rn).length := by omega
    rw [List.take_length] at hu;refine csr (sy (y_F (y_lss rfl rfl) (by omega)) ?_);refine snf (c_seq (c_condF rfl (c_exit (f_thenE (f_rndE (f_blockE (f_then (csr (sm ?_)))))))));refine sa ?_;refine snf (c_ret ?_);exact f_ret ⟨(u, d), hu⟩ (res1 rfl rfl) (fun w h => (h.dropAt 1).dropAt 1)
end Go.KL
end

section
/- Walks: ahead, free. -/
namespace Go.KL
open Go.Proofs Go.Proofs.Tryz
attribute [local irreducible] SC St Fin Sq Ylds Doos Sets Enters Spec CellIs CellsAre Then Ret Rnd Chn resOK ints bools recs arr
theorem ahead_b {g : Bg} {W : World} {N : List Chunk} {l : Lk} {fr : List Nat} {fv bv : Value} (hB : g.OK) (hH : Hs (K W N) g.L.flatten) (hf : EV (K W N) fv 1 (ptrs g fr)) (hfh : ∀ k ∈ fr, g.has k) (hfl : fr.length < 1000000) : Spec prog 118 #[bv, lkv l, fv] (K W N)
    (X := { x : Value × Chunk // BufR 3 1 x.1 x.2 (nums (g.bk.ahead l fr)) }) (fun x => x.1.1) (fun x => K W (x.1.2 :: N)) := by
  refine enter (args := [_, _, _]) func118 rfl ntmps118 rfl ?_;refine csr (sbx fun b4 => ?_);refine sa ?_;refine snf (csr (sa ?_));refine snf (c_seq (csr (sm ?_)));refine sy (y_lenE tab rfl (hf.cons) rfl) ?_;refine sm ?_;refine snf (c_block ?_);have hl2 : (ptrs g fr).length = fr.length := List.length_map _;refine c_loopP (α := Nat × Value × Chunk) (fun z => [(4, .pointer (some ⟨b4, 0, none⟩)), (7, z.2.1), (10, fv), (11, .int .i64 (ptrs g fr).length), (12, .int .i64 (z.1 : Nat))])
    (fun z => z.1 ≤ fr.length ∧ BufR 3 1 z.2.1 z.2.2 (nums ((fr.take z.1).filter fun k => cfl (g.bk.tx k).req l))) (fun z => K W (z.2.2 :: [(b4, row 111 (lkc l))] :: N)) (fun z => fr.length - z.1) (0, .slice none 0 0, [])
    ⟨rfl, rfl, rfl, rfl, rfl, trivial⟩ ⟨Nat.zero_le _, .nil⟩ (fun w h => h.addNil) ?_
  rintro ⟨i, u, d⟩ ⟨hi, hu⟩;dsimp only at hi hu ⊢;by_cases c1 : i < fr.length
  · obtain ⟨k, hk⟩ : ∃ k, fr[i]? = some k := ⟨fr[i], by simp [c1]⟩;have hkm : k ∈ fr := List.mem_of_getElem? hk;obtain ⟨t, htm, _, hid, hpb, htx⟩ := hB.at (hfh k hkm);have hcell := hf.cell (i := i) (x := .pointer (some ⟨t.b, 0, none⟩)) (by simp [hk, Bg.ptr, hpb]);obtain ⟨t0, t1, t2, t3, t7, tl, to⟩ := hB.tf hH htm;have hfl : ∀ n, ((fr.take i).filter n).length < 1000000 := fun n => by
      have h1 := List.length_filter_le n (fr.take i);have h2 := List.length_take_le i fr;omega
    have hfs := filter_snoc (p := fun k => cfl (g.bk.tx k).req l) hk;rw [htx] at hfs;clear to t7 t1 tl;refine csr (sy (y_T (y_lss rfl rfl) (by omega)) ?_);refine snf (c_seq (c_condT rfl (c_skip (f_then (c_seq (c_block (csr (sy (y_ixE tab rfl rfl rfl rfl (hf.cons.cons) _ rfl (by omega)) ?_))))))));refine sl hcell.cons.cons ?_;refine sa ?_;refine snf (c_seq (c_plan [.c 0, .c 1, .c 2, .c 3, .c 4, .c 5] [] ((K W (d :: [(b4, row 111 (lkc l))] :: N))) mixed (by kernel_rfl) rfl K.cl ?_));refine dy rfl (y_move rfl) (fun _ h => h) ?_;refine dy rfl (y_nilP rfl) (fun _ h => h) ?_;refine dy rfl (y_fieldAddrB tab 3 rfl rfl rfl rfl rfl) (fun _ h => h) ?_;refine dy rfl (y_loadA tab rfl rfl rfl rfl t3.cons.cons) (fun _ h => h) ?_;refine dy rfl (y_loadA tab rfl rfl rfl rfl (cells_row0 1 rfl rfl)) (fun _ h => h) ?_;refine d_c rfl ((Qui.any (en_f rfl call133) (fun _ _ => cf_spec))) rfl rfl rfl (fun _ h => h) K.cl ?_;refine d_nil (f_then ?_);cases hc : cfl t.req l with
    | true =>
      rw [show (Tg.tx t).req = t.req from rfl, hc, if_pos rfl] at hfs;refine c_condT rfl (c_region (sm ?_));refine sm ?_;refine sn ?_;refine sf0 ?_;refine sl t0.cons.cons ?_;refine s_do (do_buildSlice1 tab ⟨rfl, rfl, rfl, rfl⟩ rfl rfl rfl rfl) rfl rfl rfl (fun b27 => ?_);rw [hid];refine s_do (do_appendR (by_ := 8) tab 1 rfl hu rfl ⟨rfl, rfl, rfl, rfl⟩ rfl (by simp) rfl (cells_row0 0 rfl rfl) rfl rfl (by rw [List.length_map]; exact hfl _) (by omega)) rfl rfl rfl (fun x => ?_);obtain ⟨⟨u', d'⟩, hu'⟩ := x;dsimp only at hu' ⊢;refine sa ?_;refine s_nil (f_blockN (f_then (c_region (sy (y_add rfl rfl (by omega)) ?_))));refine sm ?_;refine s_nil ?_;exact f_roundP (i + 1, u', d') ⟨c1, by
        rw [hfs];simpa [nums] using hu'⟩ (by dsimp only; omega) ⟨rfl, rfl, rfl, rfl, rfl, trivial⟩ (fun w h => h.tail)
    | false =>
      rw [show (Tg.tx t).req = t.req from rfl, hc, if_neg (by decide), List.append_nil] at hfs;refine c_condF rfl (c_skip (f_blockN (f_then (c_region (sy (y_add rfl rfl (by omega)) ?_)))));refine sm ?_;refine s_nil ?_;exact f_roundP (i + 1, u, d) ⟨c1, by rw [hfs]; exact hu⟩ (by dsimp only; omega) ⟨rfl, rfl, rfl, rfl, rfl, trivial⟩ (fun w h => h)
  · obtain rfl : i = fr.length := by omega
    rw [List.take_length] at hu;refine csr (sy (y_F (y_lss rfl rfl) (by omega)) ?_);refine snf (c_seq (c_condF rfl (c_exit (f_thenE (f_rndE (f_blockE (f_then (csr (sm ?_)))))))));refine sa ?_;refine snf (c_ret ?_);exact f_ret ⟨(u, d), hu⟩ (res1 rfl rfl) (fun w h => h.dropAt 1)
theorem free_b {g : Bg} {W : World} {N : List Chunk} {l : Lk} {fr : List Nat} {fv : Value} (hB : g.OK) (hL : Lim g) (hH : Hs (K W N) g.L.flatten) (hf : EV (K W N) fv 1 (ptrs g fr)) (hfh : ∀ k ∈ fr, g.has k) (hfl : fr.length < 1000000) : Spec prog 98 #[.pointer (some ⟨g.b, 0, none⟩), lkv l, fv] (K W N)
    (fun _ : Unit => .bool (g.bk.free l fr)) (fun _ => K W N) := by
  refine enter (args := [_, _, _]) func98 rfl ntmps98 rfl ?_;refine csr (sbx fun b4 => ?_);refine sa ?_;refine snf (csr (sm ?_));refine sy (y_loadA tab rfl rfl rfl rfl (cells_row0 0 rfl rfl)) ?_;refine sk call117 (owners_b (l := l) hB hL hH.cons) fun x => ?_;obtain ⟨⟨v, c⟩, hR⟩ := x;dsimp only at hR ⊢;have hl2 : (nums (g.bk.owners l)).length = (g.bk.owners l).length := List.length_map _;unfold Bk.free;cases ho : (g.bk.owners l).isEmpty with
  | true =>
    have h0 : (g.bk.owners l).length = 0 := by rw [List.isEmpty_iff] at ho; rw [ho]; rfl
    refine sy (y_lenR' tab rfl hR rfl) ?_;refine sy (y_T (y_eql rfl rfl) (by omega)) ?_;refine sm ?_;refine sm ?_;refine sy (y_loadA tab rfl rfl rfl rfl (cells_row0 1 rfl rfl)) ?_;refine sm ?_;refine sk call118 (ahead_b (l := l) hB hH.cons.cons hf.cons.cons hfh hfl) fun x => ?_;obtain ⟨⟨v2, c2⟩, hR2⟩ := x;dsimp only at hR2 ⊢;have hl3 : (nums (g.bk.ahead l fr)).length = (g.bk.ahead l fr).length := List.length_map _;cases ha : (g.bk.ahead l fr).isEmpty with
    | true =>
      have h1 : (g.bk.ahead l fr).length = 0 := by rw [List.isEmpty_iff] at ha; rw [ha]; rfl
      refine sy (y_lenR' tab rfl hR2 rfl) ?_;refine sy (y_T (y_eql rfl rfl) (by omega)) ?_;refine spT ?_;refine sa ?_;refine snf (c_ret ?_);exact f_ret () (res1 rfl rfl) (fun w h => h.tail.tail.tail)
    | false =>
      have h1 : ¬ (g.bk.ahead l fr).length = 0 := fun e => by rw [List.isEmpty_iff.2 (List.eq_nil_of_length_eq_zero e)] at ha; cases ha
      refine sy (y_lenR' tab rfl hR2 rfl) ?_;refine sy (y_F (y_eql rfl rfl) (by omega)) ?_;refine spT ?_;refine sa ?_;refine snf (c_ret ?_);exact f_ret () (res1 rfl rfl) (fun w h => h.tail.tail.tail)
  | false =>
    have h0 : ¬ (g.bk.owners l).length = 0 := fun e => by rw [List.isEmpty_iff.2 (List.eq_nil_of_length_eq_zero e)] at ho; cases ho
    refine sy (y_lenR' tab rfl hR rfl) ?_;refine sy (y_F (y_eql rfl rfl) (by omega)) ?_;refine sm ?_
    iterate 6 refine s_skip rfl rfl rfl ?_
    refine spF ?_;refine sa ?_;refine snf (c_ret ?_);exact f_ret () (res1 rfl rfl) (fun w h => h.tail.tail)
end Go.KL
end

section
/- Who waits for whom: searching; plain. No program in sight. -/
namespace Go.KL
theorem tw_take {q : List Nat} {k : Nat} : ∀ {i : Nat}, (∀ j, j < i → q[j]? ≠ some k) → q[i]? = some k → q.takeWhile (fun j => !decide (j = k)) = q.take i := by
  induction q with
  | nil => intro i _ h; simp at h
  | cons a q ih =>
    intro i h1 h2;cases i with
    | zero =>
      simp at h2;simp [h2]
    | succ i =>
      have ha : a ≠ k := fun e => h1 0 (by omega) (by simp [e]);rw [List.takeWhile_cons, if_pos (by simp [ha]), List.take_succ_cons, ih (i := i) (fun j hj => by simpa using h1 (j + 1) (by omega)) (by simpa using h2)]
namespace Bk
variable {A : Bk}
theorem R.mem {k j : Nat} (h : A.R k j) : ∃ i, j ∈ A.waits i := by
  cases h with
  | one h => exact ⟨_, h⟩
  | more _ h => exact ⟨_, h⟩
theorem waits_sub {k j : Nat} (h : j ∈ A.waits k) : j ∈ A.rn ∨ j ∈ A.q := by
  unfold waits at h;split at h
  · simp at h
  · rcases List.mem_append.1 h with h | h
    · exact .inl (mem_srt.1 (List.mem_filter.1 h).1)
    · exact .inr ((List.takeWhile_sublist _).subset (List.mem_filter.1 h).1)
theorem R.sub {k j : Nat} (h : A.R k j) : j ∈ A.rn ∨ j ∈ A.q := by
  obtain ⟨i, h⟩ := h.mem;exact waits_sub h
theorem waits_len (k : Nat) : (A.waits k).length ≤ A.rn.length + A.q.length := by
  unfold waits;split
  · simp
  · rw [List.length_append];have h1 := List.length_filter_le (fun j => (A.tx j).locks.any fun x => cfl x (A.tx k).req) (srt A.rn);have h2 := List.length_filter_le (fun j => cfl (A.tx j).req (A.tx k).req) (A.before k);have h3 := (List.takeWhile_sublist (fun j => !decide (j = k)) (l := A.q)).length_le;have h4 : (srt A.rn).length = A.rn.length := List.length_mergeSort _;unfold owners ahead before at *;omega
structure Srch (A : Bk) (k : Nat) (S l : List Nat) : Prop where
  nd : S.Nodup
  hs : ∀ x ∈ S, A.R k x
  hl : ∀ x ∈ l, A.R k x
  o : ∀ x ∈ A.waits k, x ∈ S ∨ x ∈ l
  c : ∀ s ∈ S, ∀ x ∈ A.waits s, x ∈ S ∨ x ∈ l
theorem Srch.begin (k : Nat) : Srch A k [] (A.waits k) := ⟨List.nodup_nil, fun x h => by simp at h, fun x h => .one h, fun x h => .inr h, fun s h => by simp at h⟩
theorem Srch.skip {k a : Nat} {S l : List Nat} (h : Srch A k S (a :: l)) (ha : a ∈ S) : Srch A k S l :=
  ⟨h.nd, h.hs, fun x hx => h.hl x (by simp [hx]), fun x hx => by
    rcases h.o x hx with h1 | h1
    · exact .inl h1
    · rcases List.mem_cons.1 h1 with rfl | h1
      · exact .inl ha
      · exact .inr h1, fun s hs x hx => by
    rcases h.c s hs x hx with h1 | h1
    · exact .inl h1
    · rcases List.mem_cons.1 h1 with rfl | h1
      · exact .inl ha
      · exact .inr h1⟩
theorem Srch.step {k a : Nat} {S l : List Nat} (h : Srch A k S (a :: l)) (ha : a ∉ S) : Srch A k (S ++ [a]) (l ++ A.waits a) := by
  have hra := h.hl a (by simp);refine ⟨List.nodup_append.2 ⟨h.nd, by simp, fun x hx y hy => ?_⟩, fun x hx => ?_, fun x hx => ?_, fun x hx => ?_, fun s hs x hx => ?_⟩
  · rw [List.mem_singleton.1 hy];rintro rfl;exact ha hx
  · rcases List.mem_append.1 hx with hx | hx
    · exact h.hs x hx
    · rw [List.mem_singleton.1 hx]; exact hra
  · rcases List.mem_append.1 hx with hx | hx
    · exact h.hl x (by simp [hx])
    · exact .more hra hx
  · rcases h.o x hx with h1 | h1
    · exact .inl (by simp [h1])
    · rcases List.mem_cons.1 h1 with rfl | h1
      · exact .inl (by simp)
      · exact .inr (by simp [h1])
  · rcases List.mem_append.1 hs with hs | hs
    · rcases h.c s hs x hx with h1 | h1
      · exact .inl (by simp [h1])
      · rcases List.mem_cons.1 h1 with rfl | h1
        · exact .inl (by simp)
        · exact .inr (by simp [h1])
    · rw [List.mem_singleton.1 hs] at hx;exact .inr (by simp [hx])
theorem Srch.all {k : Nat} {S : List Nat} (h : Srch A k S []) {j : Nat} (hj : A.R k j) : j ∈ S := by
  induction hj with
  | one g => exact (h.o _ g).elim id fun h => by simp at h
  | more _ g ih => exact (h.c _ ih _ g).elim id fun h => by simp at h
theorem Srch.iff {k : Nat} {S : List Nat} (h : Srch A k S []) {j : Nat} : j ∈ S ↔ A.R k j := ⟨h.hs j, h.all⟩
theorem nodup_le : ∀ {S L : List Nat}, S.Nodup → (∀ x ∈ S, x ∈ L) → S.length ≤ L.length
  | [], L, _, _ => Nat.zero_le _
  | a :: S, L, hn, h => by
    obtain ⟨h1, h2⟩ := List.nodup_cons.1 hn;have ha := h a (by simp);have := nodup_le (S := S) (L := L.erase a) h2 fun x hx => (List.mem_erase_of_ne (fun e => h1 (by rw [← e]; exact hx))).2 (h x (by simp [hx]));rw [List.length_erase_of_mem ha] at this;have := List.length_pos_of_mem ha;simp only [List.length_cons];omega
theorem Srch.len {k : Nat} {S l : List Nat} (h : Srch A k S l) : S.length ≤ A.rn.length + A.q.length := by
  rw [← List.length_append];exact nodup_le h.nd fun x hx => List.mem_append.2 (h.hs x hx).sub
end Bk
end Go.KL
end

section
/- Rows of numbers that shrink at the front and grow at the end. No program in sight. -/
namespace Go.KL
structure BufP (e : TypeId) (v : Value) (c : Chunk) (xs : List Value) : Prop where
  ok : (xs = [] ∧ v = .slice none 0 0 ∧ c = []) ∨ ∃ o : Own, v = osl o xs.length ∧ c = och e o xs ∧ owf 1 o xs.length xs
def shv : Value → Value
  | .slice p l c => .slice (if c = 1 then p else p.map (·.add (1 * 1))) (l - 1) (c - 1)
  | v => v
section
variable {P : Program} {W w : World} {Ls : List Chunk} {n : Nat} {σ : Slots} {C D : World → Prop} {dst : Option Tmp} {ty : TypeId} {pos : String} {after : Array Edge} {guard : Option (Nat × Bool)} {e : TypeId} {v : Value} {c : Chunk} {xs : List Value}
theorem BufR.p {rows : List (List Value)} (h : BufR e 1 v c rows) : BufP e v c rows.flatten := by
  have hl := flat_len h.len;rw [Nat.mul_one] at hl;rcases h.buf.ok with ⟨h1, h2, h3, h4⟩ | ⟨o, h1, h2, h3, _⟩
  · exact ⟨.inl ⟨h2, h3, h4⟩⟩
  · exact ⟨.inr ⟨o, by rw [hl]; exact h1, h2, by rw [hl]; exact h3⟩⟩
theorem BufP.view (h : BufP e v c xs) (hc : Hs C c) : EV C v 1 (xs.map fun x => [x]) := by
  refine ⟨lens.map fun _ => rfl, ?_⟩;rw [List.length_map];rcases h.ok with ⟨rfl, rfl, rfl⟩ | ⟨o, rfl, rfl, ho⟩
  · exact SlV.empty
  · refine ⟨_, _, rfl, ho.le, fun _ => ⟨o.b, o.pre.length, rfl, fun i hi j hj => ?_⟩⟩;obtain rfl : j = 0 := by omega
    refine hc.cell (e := e) List.mem_cons_self ?_;rw [show o.pre.length + i * 1 + 0 = o.pre.length + i by omega, och_get (by omega)];simp [rix, List.getD_eq_getElem?_getD, hi]
theorem y_lenP (T : Tab P) {x : Operand} {t : TypeId} (hx : ev σ x = some v) (hB : BufP e v c xs) (ht : T.und t = some (.slice e)) :
    Ylds P n σ C ⟨dst, .call ⟨.builtin .len, #[x], #[t]⟩, ty, pos, after, guard⟩ (.int .i64 xs.length) := by
  rcases hB.ok with ⟨rfl, rfl, rfl⟩ | ⟨o, rfl, rfl, ho⟩
  · exact y_len T hx ht
  · exact y_len T hx ht
theorem y_shiftP (T : Tab P) {x a1 : Operand} {t : TypeId} {y : Value} (hx : ev σ x = some v) (hl : ev σ a1 = some (.int .i64 1)) (hB : BufP e v c (y :: xs)) (ht : T.und t = some (.slice e)) (hs : T.size e = some 1) :
    Ylds P n σ C ⟨dst, .slice t x (some a1) none none, ty, pos, after, guard⟩ (shv v) := by
  rcases hB.ok with ⟨h, _⟩ | ⟨o, rfl, rfl, ho⟩
  · cases h
  · exact y_sliceFrom T hx hl ht hs (lo := 1) rfl (by simp) ho.le
theorem BufP.shift {y : Value} (hB : BufP e v c (y :: xs)) : BufP e (shv v) c xs := by
  rcases hB.ok with ⟨h, _⟩ | ⟨o, rfl, rfl, ho⟩
  · cases h
  · have h1 : owf 1 o (xs.length + 1) (y :: xs) := ho;refine ⟨.inr ⟨o.shift y, ?_, och_shift e h1, owf_shift h1⟩⟩;have := osl_shift o xs.length y;simpa [shv] using this
theorem y_append_nn (T : Tab P) {x y : Operand} {t e : TypeId} {s by_ c2 : Nat} {z : List Value} {pa : Option Addr} (hx : ev σ x = some (.slice none 0 0)) (hy : ev σ y = some (.slice pa 0 c2)) (hT : TabE T t e s by_ z) :
    Ylds P n σ C ⟨dst, .call ⟨.builtin .append, #[x, y], #[t, t]⟩, ty, pos, after, guard⟩ (.slice none 0 0) := by
  intro a w hE hw;obtain ⟨inf, zv, i1, i2, i3, i4, i5⟩ := hT.info;have hf := run_firstCells_zero (P := P) (s := s) (c := c2) (pa := pa) w;have hres : ∀ r, (execOp a.eval ⟨dst, .call ⟨.builtin .append, #[x, y], #[t, t]⟩, ty, pos, after, guard⟩).run P w = r ↔ ((Builtin.append_ #[t, t] ty #[.slice none 0 0, .slice pa 0 c2]).run P w).andThen (fun v w' => .ok (.value v) w') = r := by
    intro r;simp [execOp, resolve, invoke, builtin, ev_eval hE hx, ev_eval hE hy]
  rw [hres];simp [Builtin.append_, run_und T hT.und, sizeOf, typeInfo, i1, i2, Builtin.lenOf, hf]
theorem set_same {i : Nat} {c : Chunk} (hl : i < Ls.length) (hi : Ls.getD i [] = c) : Ls.set i c = Ls := by
  apply List.ext_getElem?;intro k;rw [List.getElem?_set];split
  · rename_i h; subst h;rw [← hi, List.getD_eq_getElem?_getD, List.getElem?_eq_getElem hl];simp
  · rfl
theorem do_appendP (T : Tab P) (i : Nat) {x y : Operand} {t : TypeId} {by_ : Nat} {z : List Value} {u : Value} {ys : List Value} (hx : ev σ x = some v) (hB : BufP e v c xs) (hy : ev σ y = some u) (hV : EV (K W Ls) u 1 (ys.map fun x => [x]))
    (hT : TabE T t e 1 by_ z) (hzs : z.length = 1) (hl : i < Ls.length) (hi : Ls.getD i [] = c) (h1 : ys.all Value.oneCell' = true) (hmax : xs.length + ys.length < 1000000) (hby : by_ ≤ 1000) :
    Doos P n σ (K W Ls) ⟨dst, .call ⟨.builtin .append, #[x, y], #[t, t]⟩, ty, pos, after, guard⟩ (X := { u : Value × Chunk // BufP e u.1 u.2 (xs ++ ys) }) (fun u => u.1.1) (fun u => K W (Ls.set i u.1.2)) := by
  have h2 : (xs.length + ys.length) * by_ ≤ 1000000 * 1000 := Nat.mul_le_mul (by omega) hby
  have hV' := hV.view;obtain ⟨pa, k, rfl, hk, hc⟩ := hV.view;rw [List.length_map] at hy hk hc hV';by_cases h0 : ys.length = 0
  · have hys : ys = [] := List.eq_nil_of_length_eq_zero h0;subst hys;rcases hB.ok with ⟨rfl, rfl, rfl⟩ | ⟨o, rfl, rfl, ho⟩
    · intro a w hE hw;refine ⟨⟨(.slice none 0 0, []), ⟨.inl ⟨rfl, rfl, rfl⟩⟩⟩, w, ?_, ?_⟩
      · exact y_append_nn (C := K W Ls) T hx hy hT a w hE hw
      · show K W (Ls.set i []) w;rw [set_same hl hi]; exact hw
    · intro a w hE hw;obtain ⟨o', w', hr, hk'⟩ := do_append0 (W := W) (Ls := Ls) (n := n) (dst := dst) (ty := ty) (pos := pos) (after := after) (guard := guard) T i hx hy hT hi ho a w hE hw;refine ⟨⟨(osl o'.1 xs.length, och e o'.1 (xs ++ [])), ⟨.inr ⟨o'.1, by simp, rfl, by simpa using o'.2.1⟩⟩⟩, w', hr, hk'⟩
  · obtain ⟨b, o2, rfl, _⟩ := hc (by omega);have hn : CellsAre (K W Ls) ⟨b, o2, none⟩ ys := by
      intro w hw j hj;have h3 := hV'.cell (i := j) (j := 0) (by omega) (by omega) w hw;rw [addr_add];simp only [vblk, voff, Nat.mul_one, Nat.add_zero] at h3;rw [h3];simp [rix, List.getD_eq_getElem?_getD, hj]
    rcases hB.ok with ⟨rfl, rfl, rfl⟩ | ⟨o, rfl, rfl, ho⟩
    · intro a w hE hw;obtain ⟨o', w', hr, hk'⟩ := do_append_nil (W := W) (Ls := Ls) (n := n) (dst := dst) (ty := ty) (pos := pos) (after := after) (guard := guard) T hx hy hT hzs hn (by omega) (by omega) (by unfold maxLen; simp at hmax; omega) (by simp at h2; omega) a w hE hw;refine ⟨⟨(osl o'.1 ys.length, och e o'.1 ys), ⟨.inr ⟨o'.1, by simp, by simp, by simpa using o'.2.1⟩⟩⟩, w', hr, K.putNil hl hi hk'⟩
    · intro a w hE hw;obtain ⟨o', w', hr, hk'⟩ := do_append (W := W) (Ls := Ls) (n := n) (dst := dst) (ty := ty) (pos := pos) (after := after) (guard := guard) T i hx hy hT hzs hi ho hn (by omega) (List.all_eq_true.1 h1) (by unfold maxLen; omega) (by omega) a w hE hw;refine ⟨⟨(osl o'.1 (xs.length + ys.length), och e o'.1 (xs ++ ys)), ⟨.inr ⟨o'.1, by simp, rfl, by simpa using o'.2.1⟩⟩⟩, w', hr, hk'⟩
end
section
variable {P : Program} {n : Nat} {σ : Slots} {C D : World → Prop} {Q : Post} {ops : Array Oper} {dr : Nat → Bool}
theorem d_sskip {i : Nat} {o : Oper} {plan : List PS} {d : Nat} (hi : ops[i]? = some o) (hg : gd ops σ o = some false) (hd : o.dst = some d) (hn : Nat.blt d n = true) (hD : dr i = true → ∀ w, C w → D w)
    (k : Sd P n ops dr D Q plan ((d, undef) :: σ) C) : Sd P n ops dr D Q (.s i :: plan) σ C := by
  intro listed a hE hdc hB hs;simp only [planB, Bool.and_eq_true, beq_iff_eq] at hB;refine one_ready hi hB.1 (.inr ⟨gd_wanted hE hg, hD, ?_⟩);rw [hd];exact k _ _ (hE.put hn undef) (hdc.set (ready_PL (by rw [hB.1]; simp))) hB.2 hs
end
end Go.KL
end

section
/- Walks: Index, waitsFor. -/
namespace Go.KL
open Go.Proofs Go.Proofs.Tryz
section
variable {P : Program} {n : Nat} {σ : Slots} {C D : World → Prop} {Q : Post} {ops : Array Oper} {dr : Nat → Bool}
theorem Hs.obj {g : Bg} {t : Tg} (hH : Hs C g.L.flatten) (ht : t ∈ g.ts) : ∀ w, C w → ∃ ca ta, w.heap[t.b]? = some (.cells ca ta (0, 0)) := fun w hw =>
  ⟨_, _, hH w hw (t.b, row 113 t.cells) (Bg.mem_ts ht (c := [(t.b, row 113 t.cells)]) (by simp) (by simp))⟩
theorem EV.take {v : Value} {s : Nat} {rows : List (List Value)} {pa : Option Addr} {m c : Nat} (h : EV C v s rows) (e : v = .slice pa m c) {k : Nat} (hk : k ≤ rows.length) : EV C (.slice pa k c) s (rows.take k) := by
  subst e;have hl := h.len;obtain ⟨pa', c', e, hc, hv⟩ := h.view;injection e with e1 e2 e3;subst e1 e3;refine ⟨fun x hx => hl x (List.mem_of_mem_take hx), ?_⟩;rw [List.length_take, Nat.min_eq_left hk];refine ⟨_, _, rfl, by omega, fun h0 => ?_⟩;obtain ⟨b, o, e4, hx⟩ := hv (by omega);refine ⟨b, o, e4, fun i hi j hj => ?_⟩;have := hx i (by omega) j hj;simp only [rix, List.getD_eq_getElem?_getD] at this ⊢;rw [List.getElem?_take_of_lt hi];exact this
end
def tov : Value → Nat → Value
  | .slice p _ c, k => .slice p k c
  | v, _ => v
theorem EV.to {C : World → Prop} {v : Value} {s : Nat} {rows : List (List Value)} (h : EV C v s rows) {k : Nat} (hk : k ≤ rows.length) : EV C (tov v k) s (rows.take k) := by
  obtain ⟨pa, c, e, hc, hv⟩ := h.view;have := h.take e hk;rw [e];exact this
theorem y_toV {P : Program} {n : Nat} {σ : Slots} {C : World → Prop} {dst : Option Tmp} {ty : TypeId} {pos : String} {after : Array Edge} {guard : Option (Nat × Bool)} (T : Tab P) {x a2 : Operand} {t e : TypeId} {s hi : Nat} {z2 : Int} {v : Value} {rows : List (List Value)} (hx : ev σ x = some v) (hh : ev σ a2 = some (.int .i64 z2)) (ht : T.und t = some (.slice e)) (hs : T.size e = some s)
    (hV : EV C v s rows) (e2 : z2 = (hi : Int)) (h2 : hi ≤ rows.length) :
    Ylds P n σ C ⟨dst, .slice t x none (some a2) none, ty, pos, after, guard⟩ (tov v hi) := by
  obtain ⟨pa, c, e, hc, hv⟩ := hV.view;subst e;exact y_sliceTo T hx hh ht hs e2 (by omega)
theorem ev_nums {C : World → Prop} {v : Value} {l : List Nat} (h : EV C v 1 (nums l)) : EV C v 1 ((l.map fun k => Value.int .i64 (k : Nat)).map fun x => [x]) := by
  rw [List.map_map];exact h
theorem mk_waits {A : Bk} {k : Nat} (h : (A.tx k).st = 2) : A.waits k = A.owners (A.tx k).req ++ A.ahead (A.tx k).req (A.before k) := by
  unfold Bk.waits;rw [if_neg (by simp [h])]
attribute [local irreducible] SC St Fin Sq Ylds Doos Sets Enters Spec CellIs CellsAre Then Ret Rnd Chn resOK ints bools recs arr
theorem ix_b {g : Bg} {W : World} {N : List Chunk} {t : Tg} {l : List Nat} {v : Value} (hB : g.OK) (hH : Hs (K W N) g.L.flatten) (hv : EV (K W N) v 1 (ptrs g l)) (hlh : ∀ k ∈ l, g.has k) (hll : l.length < 1000000) (ht : t ∈ g.ts) (htl : t.id ∈ l) (hth : g.has t.id) (htp : g.pb t.id = t.b) :
    Spec prog 149 #[v, .pointer (some ⟨t.b, 0, none⟩)] (K W N) (X := { z : Nat // z ≤ l.length ∧ l.take z = l.takeWhile fun j => !decide (j = t.id) }) (fun z => .int .i64 (z.1 : Nat)) (fun _ => K W N) := by
  have hl2 : (ptrs g l).length = l.length := List.length_map _;refine enter (args := [_, _]) func149 rfl ntmps149 rfl ?_;refine csr (sa ?_);refine snf (c_seq (csr (sm ?_)));refine sy (y_lenE tab rfl (hv) rfl) ?_;refine sm ?_;refine snf (c_block ?_);refine c_loopP (α := Nat) (fun z => [(0, v), (1, .pointer (some ⟨t.b, 0, none⟩)), (7, .int .i64 (ptrs g l).length), (8, .int .i64 (z : Nat))]) (fun z => z ≤ l.length ∧ ∀ i, i < z → l[i]? ≠ some t.id) (fun _ => K W N) (fun z => l.length - z) 0
    ⟨rfl, rfl, rfl, rfl, trivial⟩ ⟨Nat.zero_le _, fun i h => absurd h (by omega)⟩ (fun w h => h) ?_
  rintro z ⟨hz, hno⟩;by_cases c : z < l.length
  · obtain ⟨k, hk⟩ : ∃ k, l[z]? = some k := ⟨l[z], by simp [c]⟩;have hkh := hlh k (List.mem_of_getElem? hk);obtain ⟨u, hum, _, hid, hpb, hux⟩ := hB.at hkh;by_cases e : k = t.id
    · subst e;have hcell := hv.cell (i := z) (x := .pointer (some ⟨t.b, 0, none⟩)) (by simp [hk, Bg.ptr, htp]);refine csr (sy (y_T (y_lss rfl rfl) (by omega)) ?_);refine snf (c_seq (c_condT rfl (c_skip (f_then (c_seq (c_block (csr (sm ?_))))))));refine sa ?_;refine snf (csr (sm ?_));refine sm ?_;refine sm ?_;refine sy (y_ixE tab rfl rfl rfl rfl (hv) _ rfl (by omega)) ?_;refine sl hcell ?_;refine sy (y_eqlPS tab rfl rfl rfl rfl) ?_;refine snf (c_condT rfl (csr (sm ?_)));refine sa ?_;refine snf (c_ret (f_blockR (f_thenR (f_rndR (f_blockR (f_thenR ?_))))));exact f_ret ⟨z, by omega, (tw_take hno hk).symm⟩ (res1 rfl rfl) (fun w h => h)
    · have hcell := hv.cell (i := z) (x := .pointer (some ⟨u.b, 0, none⟩)) (by simp [hk, Bg.ptr, hpb]);have hne : (⟨t.b, 0, none⟩ : Addr) ≠ ⟨u.b, 0, none⟩ := fun h => by
        simp only [Addr.mk.injEq, and_true] at h;exact e (hB.pb_inj hkh hth (by rw [hpb, htp, h]))
      have ho1 := hH.obj ht;have ho2 := hH.obj hum;refine csr (sy (y_T (y_lss rfl rfl) (by omega)) ?_);refine snf (c_seq (c_condT rfl (c_skip (f_then (c_seq (c_block (csr (sm ?_))))))));refine sa ?_;refine snf (csr (sm ?_));refine sm ?_;refine sm ?_;refine sy (y_ixE tab rfl rfl rfl rfl (hv) _ rfl (by omega)) ?_;refine sl hcell ?_;refine sy (y_eqlPO tab rfl rfl rfl rfl hne ho1 ho2) ?_;refine snf (c_condF rfl (c_skip (f_blockN (f_then (c_region (sy (y_add rfl rfl (by omega)) ?_))))));refine sm ?_;refine s_nil ?_;exact f_roundP (z + 1) ⟨c, fun i hi h => by
        by_cases e2 : i = z
        · subst e2;rw [hk] at h;exact e (Option.some.inj h)
        · exact hno i (by omega) h⟩ (by omega) ⟨rfl, rfl, rfl, rfl, trivial⟩ (fun w h => h)
  · exfalso;obtain ⟨i, hi⟩ := List.getElem?_of_mem htl;exact hno i (by have := (List.getElem?_eq_some_iff.1 hi).1; omega) hi
structure Few (g : Bg) : Prop where
  lim : Lim g
  rn : g.rn.length ≤ 64
  q : g.q.length ≤ 64
  w : ∀ k, g.has k → (g.bk.tx k).st = 2 → k ∈ g.q
abbrev nvs (l : List Nat) : List Value := l.map fun k => Value.int .i64 (k : Nat)
theorem waits_b {g : Bg} {W : World} {N : List Chunk} {k : Nat} {t : Tg} (hB : g.OK) (hL : Few g) (hH : Hs (K W N) g.L.flatten) (hk : g.has k) (ht : t ∈ g.ts) (hid : t.id = k) (hpb : g.pb k = t.b) (htx : g.bk.tx k = t.tx) :
    Spec prog 140 #[.pointer (some ⟨g.b, 0, none⟩), .pointer (some ⟨t.b, 0, none⟩)] (K W N) (X := { x : Value × Chunk // BufP 3 x.1 x.2 (nvs (g.bk.waits k)) }) (fun x => x.1.1) (fun x => K W (x.1.2 :: N)) := by
  have hq := hL.q;obtain ⟨f0, f1, f2, f3, f4, f5, fq, fl, fea, fer⟩ := hB.bf hH;obtain ⟨t0, t1, t2, t3, t7, tl, to⟩ := hB.tf hH ht;refine enter (args := [_, _]) func140 rfl ntmps140 rfl ?_;clear f0 f1 f2 f3 f5 fl fea fer t2 t7 tl to t0;by_cases c : t.st = 2
  · have hw := mk_waits (A := g.bk) (k := k) (by rw [htx]; exact c);have hkq := hL.w k hk (by rw [htx]; exact c);rw [htx] at hw;change g.bk.waits k = g.bk.owners t.req ++ g.bk.ahead t.req (g.bk.before k) at hw;have hl2 : (ptrs g g.q).length = g.q.length := List.length_map _;refine csr (sa ?_);refine snf (c_seq (csr (sm ?_)));refine sn ?_;refine sf 1 ?_;refine sl t1 ?_;refine sy (y_F (y_neq rfl rfl) (by omega)) ?_;refine snf (c_condF rfl (c_skip (f_then (c_seq (c_plan [.c 0, .c 1, .c 2, .c 3, .c 4, .c 6, .c 7, .c 8, .c 9, .c 10, .c 11, .c 12, .c 13, .c 14, .c 15, .c 16, .c 17, .c 18, .c 19, .s 5, .s 20, .c 21, .s 22, .s 23, .c 24] [] ((K W N)) mixed (by kernel_rfl) rfl K.cl ?_)))));refine dy rfl (y_move rfl) (fun _ h => h) ?_;refine dy rfl (y_move rfl) (fun _ h => h) ?_;refine dy rfl (y_nilP rfl) (fun _ h => h) ?_;refine dy rfl (y_fieldAddrB tab 3 rfl rfl rfl rfl rfl) (fun _ h => h) ?_;refine dy rfl (y_loadA tab rfl rfl rfl rfl t3) (fun _ h => h) ?_;refine dy rfl (y_move rfl) (fun _ h => h) ?_;refine dy rfl (y_move rfl) (fun _ h => h) ?_;refine dy rfl (y_nilP rfl) (fun _ h => h) ?_;refine dy rfl (y_fieldAddrB tab 3 rfl rfl rfl rfl rfl) (fun _ h => h) ?_;refine dy rfl (y_loadA tab rfl rfl rfl rfl t3) (fun _ h => h) ?_;refine dy rfl (y_move rfl) (fun _ h => h) ?_;refine dy rfl (y_nilP rfl) (fun _ h => h) ?_;refine dy rfl (y_fieldAddrB tab 4 rfl rfl rfl rfl rfl) (fun _ h => h) ?_;refine dy rfl (y_load tab rfl rfl f4) (fun _ h => h) ?_;refine dy rfl (y_move rfl) (fun _ h => h) ?_;refine dy rfl (y_nilP rfl) (fun _ h => h) ?_;refine dy rfl (y_fieldAddrB tab 4 rfl rfl rfl rfl rfl) (fun _ h => h) ?_;refine dy rfl (y_load tab rfl rfl f4) (fun _ h => h) ?_;refine dy rfl (y_move rfl) (fun _ h => h) ?_;refine d_call rfl (en_f rfl call117) (owners_b (l := t.req) hB hL.lim hH) rfl rfl rfl (fun _ => K.cl) (fun _ _ _ h => h.tail) (fun x => ?_);obtain ⟨⟨v1, c1⟩, hR1⟩ := x;dsimp only at hR1 ⊢;skip;refine d_call rfl (en_f rfl call149) (ix_b hB hH.cons fq.cons hB.qh (by omega) ht (by rw [hid]; exact hkq) (by rw [hid]; exact hk) (by rw [hid]; exact hpb)) rfl rfl rfl (fun _ => K.cl) (fun _ _ _ h => h.tail) (fun x => ?_);obtain ⟨z, hz, hzt⟩ := x;dsimp only;have hD := fun (w : World) (h : K W (c1 :: N) w) => h.tail;have hto := fq.to (k := z) (by rw [List.length_map]; exact hz);refine dy rfl (y_toV tab rfl rfl rfl rfl fq rfl (by rw [List.length_map]; exact hz)) (fun _ h => h.tail) ?_;have hbef : List.take z (ptrs g g.q) = ptrs g (g.bk.before k) := by
      rw [← List.map_take, hzt, hid];rfl
    have hto2 : EV (K W N) (tov g.qv z) 1 (ptrs g (g.bk.before k)) := hbef ▸ hto;have hbs : ∀ j ∈ g.bk.before k, j ∈ g.q := fun j hj => (List.takeWhile_sublist _).subset hj;have hbl : (g.bk.before k).length ≤ g.q.length := (List.takeWhile_sublist _).length_le;refine d_call rfl (en_f rfl call118) (ahead_b (l := t.req) hB hH.cons hto2.cons (fun j hj => hB.qh j (hbs j hj)) (by omega)) rfl rfl rfl (fun _ => K.cl) (fun _ _ _ h => h.tail.tail) (fun x => ?_);obtain ⟨⟨v2, c2⟩, hR2⟩ := x;dsimp only at hR2 ⊢;have hol : (g.bk.owners t.req).length ≤ 64 := by
      have h1 := List.length_filter_le (fun k => (g.bk.tx k).locks.any fun x => cfl x t.req) (srt g.rn);have h2 : (srt g.rn).length = g.rn.length := List.length_mergeSort _;have h3 := hL.rn;have h4 : g.bk.owners t.req = (srt g.rn).filter (fun k => (g.bk.tx k).locks.any fun x => cfl x t.req) := rfl;rw [h4];omega
    have hal : (g.bk.ahead t.req (g.bk.before k)).length ≤ 64 := by
      have h1 := List.length_filter_le (fun j => cfl (g.bk.tx j).req t.req) (g.bk.before k);have h4 : g.bk.ahead t.req (g.bk.before k) = (g.bk.before k).filter (fun j => cfl (g.bk.tx j).req t.req) := rfl;rw [h4];omega
    have hP1 : BufP 3 v1 c1 (nvs (g.bk.owners t.req)) := by
      have h := hR1.p;rw [nums_flat] at h;exact h
    have hE2 := ev_nums (hR2.view (C := K W (c2 :: c1 :: N)) (Hs.at 0 rfl));refine d_s rfl (do_appendP (by_ := 8) tab 1 rfl hP1 rfl hE2 ⟨rfl, rfl, rfl, rfl⟩ rfl (by simp) rfl (List.all_eq_true.2 fun x hx => by
      obtain ⟨y, _, rfl⟩ := List.mem_map.1 hx;rfl) (by rw [List.length_map, List.length_map]; omega) (by omega)) rfl rfl rfl (fun _ => K.cl) (fun _ _ _ h => h.tail.tail) (fun x => ?_)
    obtain ⟨⟨v3, c3⟩, hP3⟩ := x;dsimp only at hP3 ⊢;have hD2 := fun (w : World) (h : K W (c2 :: c3 :: N) w) => h.tail.tail;refine dy rfl (y_assign rfl) hD2 ?_;refine d_nil (f_then (c_ret ?_));exact f_ret ⟨(v3, c3), by rw [hw, nvs, List.map_append]; exact hP3⟩ (res1 rfl rfl) (fun w h => h.tail)
  · have hw : g.bk.waits k = [] := by
      unfold Bk.waits;rw [htx, if_pos (show t.tx.st ≠ 2 from c)]
    refine csr (sa ?_);refine snf (c_seq (csr (sm ?_)));refine sn ?_;refine sf 1 ?_;refine sl t1 ?_;refine sy (y_T (y_neq rfl rfl) (by omega)) ?_;refine snf (c_condT rfl (csr (sa ?_)));refine snf (c_ret (f_thenR ?_));exact f_ret ⟨(.slice none 0 0, []), ⟨.inl ⟨by rw [hw]; rfl, rfl, rfl⟩⟩⟩ (res1 rfl rfl) (fun w h => h.addNil)
end Go.KL
end

section
/- Walks: reached, victim. -/
namespace Go.KL
open Go.Proofs Go.Proofs.Tryz
structure RM (A : Bk) (k : Nat) (es : List Ent) (c : Nat) : Prop where
  ok : MOK es c
  val : ∀ e ∈ es, e.2.1 = .bool true
  key : ∀ z : Int, mhas z es = true ↔ ∃ j : Nat, z = (j : Int) ∧ A.R k j
theorem mget_bool {z : Int} : ∀ {es : List Ent}, (∀ e ∈ es, e.2.1 = .bool true) → mget z (.bool false) es = .bool (mhas z es)
  | [], _ => rfl
  | e :: r, h => by
    simp only [mget, mhas];split
    · exact h e (by simp)
    · exact mget_bool fun x hx => h x (by simp [hx])
theorem mhas_nat {S : List Nat} {es : List Ent} (h : es.map (·.1) = S.map (fun j : Nat => (j : Int))) (a : Nat) : mhas (a : Int) es = decide (a ∈ S) := by
  rw [Bool.eq_iff_iff, mhas_mem, h, decide_eq_true_iff, List.mem_map];constructor
  · rintro ⟨j, hj, e⟩;rw [← (Int.ofNat_inj.1 e : j = a)]; exact hj
  · exact fun h => ⟨a, h, rfl⟩
theorem Bg.OK.rhas {g : Bg} (hB : g.OK) {k j : Nat} (h : g.bk.R k j) : g.has j := by
  rcases h.sub with h | h
  · exact hB.rnh j h
  · exact hB.qh j h
attribute [local irreducible] SC St Fin Sq Ylds Doos Sets Enters Spec CellIs CellsAre Then Ret Rnd Chn resOK ints bools recs arr
theorem reached_b {g : Bg} {W : World} {N : List Chunk} {k : Nat} {t : Tg} (hB : g.OK) (hL : Few g) (hH : Hs (K W N) g.L.flatten) (hk : g.has k) (ht : t ∈ g.ts) (hid : t.id = k) (hpb : g.pb k = t.b) (htx : g.bk.tx k = t.tx) :
    Spec prog 127 #[.pointer (some ⟨g.b, 0, none⟩), .pointer (some ⟨t.b, 0, none⟩)] (K W N) (X := { x : Nat × List Ent × Nat // RM g.bk k x.2.1 x.2.2 }) (fun x => .map (some x.1.1)) (fun x => K W ([(x.1.1, mobj x.1.2.1 x.1.2.2)] :: N)) := by
  have hq := hL.q;have hrn := hL.rn;obtain ⟨f0, f1, f2, f3, f4, f5, fq, fl, fea, fer⟩ := hB.bf hH;clear f0 f1 f3 f4 f5 fq fl fer;refine enter (args := [_, _]) func127 rfl ntmps127 rfl ?_;refine csr (sa ?_);refine snf (csr (s_do do_makeMap rfl rfl rfl (fun B => ?_)));refine sa ?_;refine snf (csr (sm ?_));refine sm ?_;refine sk call140 (waits_b hB hL hH.cons hk ht hid hpb htx) fun x => ?_;obtain ⟨⟨u0, d0⟩, hP0⟩ := x;dsimp only at hP0 ⊢;refine sa ?_;refine snf (c_seq (c_block ?_));refine c_loopP (α := List Nat × List Nat × List Ent × Nat × Value × Chunk) (fun z => [(0, .pointer (some ⟨g.b, 0, none⟩)), (5, .map (some B)), (6, z.2.2.2.2.1)])
    (fun z => Bk.Srch g.bk k z.1 z.2.1 ∧ BufP 3 z.2.2.2.2.1 z.2.2.2.2.2 (nvs z.2.1) ∧ MOK z.2.2.1 z.2.2.2.1 ∧ (∀ e ∈ z.2.2.1, e.2.1 = .bool true) ∧ z.2.2.1.map (·.1) = z.1.map (fun j : Nat => (j : Int)) ∧ z.2.1.length ≤ 128 * (z.1.length + 1))
    (fun z => K W ([(B, mobj z.2.2.1 z.2.2.2.1)] :: z.2.2.2.2.2 :: N)) (fun z => (129 - z.1.length) * 1000 + z.2.1.length) ([], g.bk.waits k, [], 0, u0, d0)
    ⟨rfl, rfl, rfl, trivial⟩ ⟨.begin k, hP0, .empty, fun e he => by simp at he, rfl, by have := Bk.waits_len (A := g.bk) k; simp only [Bg.bk] at *; simp; omega⟩ (fun w h => h.swap) ?_
  rintro ⟨S, l, es, c, u, d⟩ ⟨hS, hP, hM, hv, hkey, hlen⟩;dsimp only at hS hP hM hv hkey hlen ⊢;have hSl : S.length ≤ 128 := by have := hS.len; simp only [Bg.bk] at this; omega
  cases l with
  | nil =>
    have hlp := hP;refine c_seq (csr (sm ?_));refine sy (y_lenP tab rfl hP rfl) ?_;refine sy (y_gtr rfl rfl) ?_;refine snf (c_condF rfl (c_exit (f_thenE (f_rndE (f_blockE (f_then (csr (sm ?_))))))));refine sa ?_;refine snf (c_ret ?_);exact f_ret ⟨(B, es, c), hM, hv, fun z => by
      rw [mhas_mem, hkey, List.mem_map];constructor
      · rintro ⟨j, hj, e⟩; exact ⟨j, e.symm, hS.iff.1 hj⟩
      · rintro ⟨j, e, hj⟩; exact ⟨j, hS.iff.2 hj, e.symm⟩⟩ (res1 rfl rfl) (fun w h => h.dropAt 1)
  | cons a l =>
    have hE := hP.view (C := K W ([(B, mobj es c)] :: d :: N)) (Hs.at 1 rfl);have hP' : BufP 3 u d (.int .i64 (a : Nat) :: nvs l) := hP;have hcell := hE.cell (i := 0) (x := .int .i64 (a : Nat)) rfl;have hra : g.bk.R k a := hS.hl a (by simp);have hah := hB.rhas hra;obtain ⟨t2, ht2, _, hid2, hpb2, htx2⟩ := hB.at hah;have hgo : (0 : Int) < ((nvs (a :: l)).length : Nat) := by simp
    have hgo2 : 0 < ((nvs (a :: l)).map fun x => [x]).length := by simp
    have hhas := mhas_nat hkey a;refine c_seq (csr (sm ?_));refine sy (y_lenE tab rfl (hE) rfl) ?_;refine sy (y_T (y_gtr rfl rfl) (by omega)) ?_;refine snf (c_condT rfl (c_skip (f_then (c_block (csr (sm ?_))))));refine sy (y_ixE tab rfl rfl rfl rfl (hE) _ rfl (by omega)) ?_;refine sl hcell ?_;refine sa ?_;refine snf (csr (sm ?_));refine sy (y_shiftP tab rfl rfl hP' rfl rfl) ?_;have hPs := hP'.shift;refine sa ?_;refine snf (csr (sm ?_));refine sm ?_;by_cases ca : a ∈ S
    · rw [decide_eq_true ca] at hhas;have hget : mget (a : Int) (.bool false) es = .bool true := by rw [mget_bool hv, hhas]
      refine sy (y_lookupE tab rfl rfl rfl rfl (fun _ => rfl) (Hs.at 0 rfl) hget) ?_;refine sy (y_notT rfl) ?_;refine snf (c_condF rfl (c_skip (f_blockN ?_)));exact f_roundP (S, l, es, c, shv u, d) ⟨hS.skip ca, hPs, hM, hv, hkey, by dsimp only; simp at hlen; omega⟩ (by simp) ⟨rfl, rfl, rfl, trivial⟩ (fun w h => h)
    · rw [decide_eq_false ca] at hhas;have hget : mget (a : Int) (.bool false) es = .bool false := by rw [mget_bool hv, hhas]
      have hget2 : mget (a : Int) (.pointer none) g.ea = .pointer (some ⟨t2.b, 0, none⟩) := by rw [hB.eaG a hah, Bg.ptr, hpb2]
      have hal : a ≤ 1000000 := by have h1 := hB.eaL; have h2 := hB.eaM.len; have h3 := hah.2; omega
      have hesl : es.length = S.length := by have := congrArg List.length hkey; simpa using this
      have hS2 := hS.step ca;have hSl2 : S.length + 1 ≤ 128 := by have := hS2.len; simp only [Bg.bk] at this; simp at this; omega
      have hwl : (g.bk.waits a).length ≤ 128 := Nat.le_trans (Bk.waits_len a) (show g.rn.length + g.q.length ≤ 128 by omega);refine sy (y_lookupE tab rfl rfl rfl rfl (fun _ => rfl) (Hs.at 0 rfl) hget) ?_;refine sy (y_notF rfl) ?_;refine snf (c_condT rfl (csr (sm ?_)));refine sm ?_;refine ss (set_map tab 0 rfl rfl rfl rfl rfl rfl) ?_;refine snf (c_region (sm ?_));refine sm ?_;refine sm ?_;refine sn ?_;refine sf 2 ?_;refine sl f2.cons.cons ?_;refine sm ?_;refine sy (y_lookupE tab rfl rfl rfl rfl (fun _ => rfl) (fea.cons.cons) (by assumption)) ?_;refine sk call140 (waits_b hB hL hH.cons.cons hah ht2 hid2 hpb2 htx2) fun x => ?_;obtain ⟨⟨u2, d2⟩, hP2⟩ := x;dsimp only at hP2 ⊢;have hE2 := hP2.view (C := K W (d2 :: [(B, mobj (mset (a : Int) (.bool true) c es) (mclk (a : Int) c es))] :: d :: N)) (Hs.at 0 rfl);refine s_do (do_appendP (by_ := 8) tab 2 rfl hPs rfl hE2 ⟨rfl, rfl, rfl, rfl⟩ rfl (by simp) rfl (List.all_eq_true.2 fun x hx => by
        obtain ⟨y, _, rfl⟩ := List.mem_map.1 hx;rfl) (by rw [List.length_map, List.length_map]; simp at hlen; omega) (by omega)) rfl rfl rfl (fun x => ?_)
      obtain ⟨⟨u3, d3⟩, hP3⟩ := x;dsimp only at hP3 ⊢;refine sa ?_;refine s_nil (f_blockN ?_);refine f_roundP (S ++ [a], l ++ g.bk.waits a, mset (a : Int) (.bool true) c es, mclk (a : Int) c es, u3, d3) ⟨hS2, by rw [nvs, List.map_append]; exact hP3, hM.set _ _ (by omega) (by omega), fun e he => ?_, ?_, ?_⟩ ?_ ⟨rfl, rfl, rfl, trivial⟩ (fun w h => h.tail)
      · rw [mset_new hhas] at he;rcases List.mem_append.1 he with he | he
        · exact hv e he
        · rw [List.mem_singleton.1 he]
      · dsimp only;rw [mset_new hhas, List.map_append, hkey, List.map_append];rfl
      · simp at hlen ⊢;omega
      · simp;omega
def leftN (es : List Ent) (seen : Array Nat) : Nat := es.countP fun e => decide (e.2.2 ∉ seen)
theorem leftN_lt {es : List Ent} {seen : Array Nat} {e : Ent} (h1 : e ∈ es) (h2 : e.2.2 ∉ seen) : leftN es (seen.push e.2.2) < leftN es seen := by
  unfold leftN;induction es with
  | nil => simp at h1
  | cons a r ih =>
    have mono : ∀ r : List Ent, r.countP (fun x => decide (x.2.2 ∉ seen.push e.2.2)) ≤ r.countP (fun x => decide (x.2.2 ∉ seen)) := fun r => by
      refine List.countP_mono_left fun x _ h => ?_;simp at h ⊢;exact h.1
    rw [List.countP_cons, List.countP_cons];rcases List.mem_cons.1 h1 with rfl | h1
    · have h3 := mono r;rw [if_neg (by simp), if_pos (by simp [h2])];omega
    · have := ih h1;have h3 : (if decide (a.2.2 ∉ seen.push e.2.2) = true then 1 else 0) ≤ (if decide (a.2.2 ∉ seen) = true then 1 else 0) := by
        by_cases c : a.2.2 ∈ seen
        · simp [c]
        · split <;> simp [c]
      omega
theorem victim_b {g : Bg} {W : World} {N : List Chunk} {k : Nat} {t : Tg} (hB : g.OK) (hL : Few g) (hH : Hs (K W N) g.L.flatten) (hk : g.has k) (ht : t ∈ g.ts) (hid : t.id = k) (hpb : g.pb k = t.b) (htx : g.bk.tx k = t.tx) :
    Spec prog 111 #[.pointer (some ⟨g.b, 0, none⟩), .pointer (some ⟨t.b, 0, none⟩)] (K W N) (X := { v : Nat // g.bk.IsVic k v }) (fun v => .int .i64 (v.1 : Nat)) (fun _ => K W N) := by
  obtain ⟨f0, f1, f2, f3, f4, f5, fq, fl, fea, fer⟩ := hB.bf hH;obtain ⟨t0, t1, t2, t3, t7, tl, to⟩ := hB.tf hH ht;clear f0 f1 f3 f4 f5 fq fl fer t1 t2 t3 t7 tl to;refine enter (args := [_, _]) func111 rfl ntmps111 rfl ?_;refine csr (sa ?_);refine snf (csr (sa ?_));refine snf (c_seq (csr (sm ?_)));refine sm ?_;refine sk call127 (reached_b hB hL hH hk ht hid hpb htx) fun x => ?_;obtain ⟨⟨B, es, c⟩, hR⟩ := x;dsimp only at hR ⊢;refine s_do (do_range tab 0 rfl rfl rfl) rfl rfl rfl (fun r => ?_);refine snf (c_block ?_);refine c_loopP (α := Array Nat × Nat) (fun z => [(0, .pointer (some ⟨g.b, 0, none⟩)), (1, .pointer (some ⟨t.b, 0, none⟩)), (5, .int .i64 (z.2 : Nat)), (10, .pointer (some ⟨r, 0, none⟩))])
    (fun z => (z.2 = 0 ∨ g.bk.dead k z.2) ∧ ∀ e ∈ es, e.2.2 ∈ z.1 → ∀ j : Nat, e.1 = (j : Int) → g.bk.dead k j → j ≤ z.2) (fun z => K W ([(r, mit B c z.1)] :: [(B, mobj es c)] :: N)) (fun z => leftN es z.1) (#[], 0)
    ⟨rfl, rfl, rfl, rfl, trivial⟩ ⟨.inl rfl, fun e _ h => by simp at h⟩ (fun w h => h) ?_
  rintro ⟨seen, v⟩ ⟨h1, h2⟩;dsimp only at h1 h2 ⊢;refine csr (s_do (do_next 0 1 rfl rfl rfl hR.ok.old) rfl rfl rfl (fun x => ?_));obtain ⟨_ | e, hx⟩ := x
  · dsimp only [nextV, nextLs];refine sx ?_;refine snf (c_seq (c_condF rfl (c_exit (f_thenE (f_rndE (f_blockE (f_then (csr (sm ?_)))))))));refine sa ?_;refine snf (c_ret (f_ret ⟨v, ?_⟩ (res1 rfl rfl) (fun w h => h.tail.tail)));have hall : ∀ j, g.bk.dead k j → j ≤ v := fun j hj => by
      have h3 := (hR.key (j : Int)).2 ⟨j, rfl, hj.1⟩;rw [mhas_mem] at h3;obtain ⟨e, he, e2⟩ := List.mem_map.1 h3;exact h2 e he (hx e he) j e2 hj
    by_cases c0 : v = 0
    · refine .inl ⟨c0, fun j hj => ?_⟩;have h4 := hall j hj;have h5 := hB.rhas hj.1;omega
    · exact .inr ⟨c0, h1.elim (fun h => absurd h c0) id, hall⟩
  · obtain ⟨hx1, hx2⟩ := hx;dsimp only [nextV, nextLs];have hmem : mhas e.1 es = true := mhas_mem.2 (List.mem_map.2 ⟨e, hx1, rfl⟩);obtain ⟨a, ea, hra⟩ := (hR.key e.1).1 hmem;have hah := hB.rhas hra;obtain ⟨t2, ht2, _, hid2, hpb2, htx2⟩ := hB.at hah;have hget2 : mget (a : Int) (.pointer none) g.ea = .pointer (some ⟨t2.b, 0, none⟩) := by rw [hB.eaG a hah, Bg.ptr, hpb2]
    refine St.cls (C' := K W ([(r, mit B c (seen.push e.2.2))] :: [(B, mobj es c)] :: N)) ?_ (fun w h => h);have hm := leftN_lt hx1 hx2;refine sx ?_;refine snf (c_seq (c_condT rfl (c_skip (f_then (c_block (csr (sy (y_entry 0 1 (e := e) rfl rfl rfl hx1 hR.ok.born) ?_)))))));rw [ea];have hcase : ∀ v' : Nat, (v' = 0 ∨ g.bk.dead k v') → v ≤ v' → (g.bk.dead k a → a ≤ v') → ∀ e' ∈ es, e'.2.2 ∈ seen.push e.2.2 → ∀ j : Nat, e'.1 = (j : Int) → g.bk.dead k j → j ≤ v' := fun v' _ hv' ha e' he' hs j hj hd => by
      rcases Array.mem_push.1 hs with hs | hs
      · exact Nat.le_trans (h2 e' he' hs j hj hd) hv'
      · have : e'.1 = e.1 := by
          have h3 := List.pairwise_map.1 hR.ok.born;obtain ⟨i1, q1⟩ := List.getElem?_of_mem he';obtain ⟨i2, q2⟩ := List.getElem?_of_mem hx1;have q3 : (es.map (·.2.2))[i1]? = some e'.2.2 := by simp [q1]
          have q4 : (es.map (·.2.2))[i2]? = some e.2.2 := by simp [q2]
          have hlt : i1 < (es.map (·.2.2)).length := by have := (List.getElem?_eq_some_iff.1 q1).1; simpa using this
          have q5 := (List.getElem?_inj (j := i2) hlt hR.ok.born).1 (q3.trans (by rw [q4, hs]));rw [q5, q2] at q1;rw [Option.some.inj q1]
        rw [hj, ea] at this;have : j = a := Int.ofNat_inj.1 this;rw [this] at hd ⊢;exact ha hd
    by_cases cv : v < a
    · refine sx ?_;refine sa ?_;refine snf (c_seq (c_plan [.c 0, .c 1, .c 2, .c 3, .c 4, .c 5, .c 6, .c 7, .c 8, .c 9, .c 10, .c 12, .c 13, .c 14, .c 15, .s 11, .s 16, .c 17] [] (K W ([(r, mit B c (seen.push e.2.2))] :: [(B, mobj es c)] :: N)) mixed (by kernel_rfl) rfl K.cl ?_));refine dy rfl (y_move rfl) (fun _ h => h) ?_;refine dy rfl (y_move rfl) (fun _ h => h) ?_;refine dy rfl (y_T (y_gtr rfl rfl) (by omega)) (fun _ h => h) ?_;refine dy rfl (y_move rfl) (fun _ h => h) ?_;refine dy rfl (y_move rfl) (fun _ h => h) ?_;refine dy rfl (y_move rfl) (fun _ h => h) ?_;refine dy rfl (y_nilP rfl) (fun _ h => h) ?_;refine dy rfl (y_fieldAddrB tab 2 rfl rfl rfl rfl rfl) (fun _ h => h) ?_;refine dy rfl (y_load tab rfl rfl f2.cons.cons) (fun _ h => h) ?_;refine dy rfl (y_move rfl) (fun _ h => h) ?_;refine dy rfl (y_lookupE tab rfl rfl rfl rfl (fun _ => rfl) (fea.cons.cons) (by assumption)) (fun _ h => h) ?_;refine dy rfl (y_move rfl) (fun _ h => h) ?_;refine dy rfl (y_nilP rfl) (fun _ h => h) ?_;refine dy rfl (y_fieldAddr0 tab rfl rfl rfl rfl rfl) (fun _ h => h) ?_;refine dy rfl (y_load tab rfl rfl t0.cons.cons) (fun _ h => h) ?_;refine d_call rfl (en_f rfl call127) (reached_b hB hL hH.cons.cons hah ht2 hid2 hpb2 htx2) rfl rfl rfl (fun _ => K.cl) (fun _ _ _ h => h.tail) (fun x => ?_);obtain ⟨⟨B2, es2, c2⟩, hR2⟩ := x;dsimp only at hR2 ⊢;have hD := fun (w : World) (h : K W ([(B2, mobj es2 c2)] :: [(r, mit B c (seen.push e.2.2))] :: [(B, mobj es c)] :: N) w) => h.tail;have hmh : mhas (t.id : Int) es2 = true ↔ g.bk.R a k := by
        rw [hR2.key, hid];constructor
        · rintro ⟨j, ej, hj⟩;rw [(Int.ofNat_inj.1 ej : k = j)]; exact hj
        · exact fun h => ⟨k, rfl, h⟩
      by_cases hd : g.bk.R a k
      · have hget3 : mget (t.id : Int) (.bool false) es2 = .bool true := by rw [mget_bool hR2.val, hmh.2 hd]
        refine d_sy rfl (y_lookupE tab rfl rfl rfl rfl (fun _ => rfl) (Hs.at 0 rfl) hget3) rfl rfl rfl K.cl (fun _ => hD) ?_;refine dy rfl (y_pickT rfl rfl) hD ?_;refine d_nil (f_then (c_condT rfl (c_region (sm ?_))));refine sa ?_;refine s_nil (f_blockN ?_);exact f_roundP (seen.push e.2.2, a) ⟨.inr ⟨hra, hd⟩, hcase a (.inr ⟨hra, hd⟩) (by omega) (fun _ => Nat.le_refl _)⟩ hm ⟨rfl, rfl, rfl, rfl, trivial⟩ (fun w h => h.tail)
      · have hf : mhas (t.id : Int) es2 = false := by
          cases h : mhas (t.id : Int) es2 with
          | false => rfl
          | true => exact absurd (hmh.1 h) hd
        have hget3 : mget (t.id : Int) (.bool false) es2 = .bool false := by rw [mget_bool hR2.val, hf]
        refine d_sy rfl (y_lookupE tab rfl rfl rfl rfl (fun _ => rfl) (Hs.at 0 rfl) hget3) rfl rfl rfl K.cl (fun _ => hD) ?_;refine dy rfl (y_pickT rfl rfl) hD ?_;refine d_nil (f_then (c_condF rfl (c_skip (f_blockN ?_))));exact f_roundP (seen.push e.2.2, v) ⟨h1, hcase v h1 (Nat.le_refl _) (fun h => absurd h.2 hd)⟩ hm ⟨rfl, rfl, rfl, rfl, trivial⟩ (fun w h => h.tail)
    · refine sx ?_;refine sa ?_;refine snf (c_seq (c_plan [.c 0, .c 1, .c 2, .c 3, .c 4, .c 5, .c 6, .c 7, .c 8, .c 9, .c 10, .c 12, .c 13, .c 14, .c 15, .s 11, .s 16, .c 17] [] (K W ([(r, mit B c (seen.push e.2.2))] :: [(B, mobj es c)] :: N)) mixed (by kernel_rfl) rfl K.cl ?_));refine dy rfl (y_move rfl) (fun _ h => h) ?_;refine dy rfl (y_move rfl) (fun _ h => h) ?_;refine dy rfl (y_F (y_gtr rfl rfl) (by omega)) (fun _ h => h) ?_;refine dy rfl (y_move rfl) (fun _ h => h) ?_;refine d_skip rfl rfl rfl rfl (fun _ h => h) K.cl ?_;refine d_skip rfl rfl rfl rfl (fun _ h => h) K.cl ?_;refine d_skip rfl rfl rfl rfl (fun _ h => h) K.cl ?_;refine d_skip rfl rfl rfl rfl (fun _ h => h) K.cl ?_;refine d_skip rfl rfl rfl rfl (fun _ h => h) K.cl ?_;refine d_skip rfl rfl rfl rfl (fun _ h => h) K.cl ?_;refine d_skip rfl rfl rfl rfl (fun _ h => h) K.cl ?_;refine d_skip rfl rfl rfl rfl (fun _ h => h) K.cl ?_;refine d_skip rfl rfl rfl rfl (fun _ h => h) K.cl ?_;refine d_skip rfl rfl rfl rfl (fun _ h => h) K.cl ?_;refine d_skip rfl rfl rfl rfl (fun _ h => h) K.cl ?_;refine d_sskip rfl rfl rfl rfl (fun _ _ h => h) ?_;refine d_sskip rfl rfl rfl rfl (fun _ _ h => h) ?_;refine dy rfl (y_pickF rfl rfl) (fun _ h => h) ?_;refine d_nil (f_then (c_condF rfl (c_skip (f_blockN ?_))));exact f_roundP (seen.push e.2.2, v) ⟨h1, hcase v h1 (Nat.le_refl _) (fun _ => by omega)⟩ hm ⟨rfl, rfl, rfl, rfl, trivial⟩ (fun w h => h)
end Go.KL
end

section
/- Sorting places by a key, the greatest first, equal ones as they stood: orders, blocks, swaps, rotations; plain. No program in sight. -/
namespace Go.KL
def ltR (R : Nat → Nat) (x y : Nat) : Prop := R y < R x ∨ R x = R y ∧ x < y
instance (R : Nat → Nat) (x y : Nat) : Decidable (ltR R x y) := by unfold ltR; infer_instance
theorem ltR_trans {R : Nat → Nat} {x y z : Nat} (h1 : ltR R x y) (h2 : ltR R y z) : ltR R x z := by
  unfold ltR at *;omega
theorem ltR_irr {R : Nat → Nat} {x : Nat} : ¬ ltR R x x := by
  unfold ltR;omega
def Srt (R : Nat → Nat) (f : Nat → Nat) (s e : Nat) : Prop := ∀ i j, s ≤ i → i < j → j < e → ltR R (f i) (f j)
structure SOut (R : Nat → Nat) (f g : Nat → Nat) (a b : Nat) : Prop where
  srt : Srt R g a b
  from' : ∀ i, a ≤ i → i < b → ∃ k, a ≤ k ∧ k < b ∧ g i = f k
  same : ∀ i, i < a ∨ b ≤ i → g i = f i
structure Mrg (R : Nat → Nat) (f : Nat → Nat) (a m b : Nat) : Prop where
  left : Srt R f a m
  right : Srt R f m b
  ix : ∀ i j, a ≤ i → i < m → m ≤ j → j < b → f i < f j
theorem Mrg.key {R : Nat → Nat} {f : Nat → Nat} {a m b i j : Nat} (h : Mrg R f a m b) (h1 : a ≤ i) (h2 : i < m) (h3 : m ≤ j) (h4 : j < b) : ltR R (f j) (f i) ↔ R (f i) < R (f j) := by
  have := h.ix i j h1 h2 h3 h4;unfold ltR;omega
theorem Mrg.ord {R : Nat → Nat} {f : Nat → Nat} {a m b i j : Nat} (h : Mrg R f a m b) (h1 : a ≤ i) (h2 : i < m) (h3 : m ≤ j) (h4 : j < b) : ¬ ltR R (f j) (f i) ↔ ltR R (f i) (f j) := by
  have := h.ix i j h1 h2 h3 h4;unfold ltR;omega
def insF (f : Nat → Nat) (a i t : Nat) : Nat := if a ≤ t ∧ t < i then f (t + 1) else if t = i then f a else f t
theorem insF_zero {f : Nat → Nat} {a : Nat} : insF f a a = f := by
  funext t;unfold insF;rw [if_neg (by omega)];split
  · rename_i h; rw [h]
  · rfl
theorem insF_next {f : Nat → Nat} {a i : Nat} (h : a ≤ i) : upd (upd (insF f a i) i (insF f a i (i + 1))) (i + 1) (insF f a i i) = insF f a (i + 1) := by
  have e1 : insF f a i (i + 1) = f (i + 1) := by
    unfold insF;rw [if_neg (by omega), if_neg (by omega)]
  have e2 : insF f a i i = f a := by
    unfold insF;rw [if_neg (by omega), if_pos rfl]
  rw [e1, e2];funext t;unfold upd insF
  (repeat' split) <;> first | rfl | (exfalso; omega) | (congr 1; omega)
def insB (f : Nat → Nat) (m i t : Nat) : Nat := if t = i then f m else if i < t ∧ t ≤ m then f (t - 1) else f t
theorem insB_zero {f : Nat → Nat} {m : Nat} : insB f m m = f := by
  funext t;unfold insB;split
  · rename_i h; rw [h]
  · rw [if_neg (by omega)]
theorem insB_next {f : Nat → Nat} {m i : Nat} (h0 : 0 < i) (h : i ≤ m) : upd (upd (insB f m i) i (insB f m i (i - 1))) (i - 1) (insB f m i i) = insB f m (i - 1) := by
  have e1 : insB f m i (i - 1) = f (i - 1) := by
    unfold insB;rw [if_neg (by omega), if_neg (by omega)]
  have e2 : insB f m i i = f m := by
    unfold insB;rw [if_pos rfl]
  rw [e1, e2];funext t;unfold upd insB
  (repeat' split) <;> first | rfl | (exfalso; omega) | (congr 1; omega)
def swpF (f : Nat → Nat) (a b n t : Nat) : Nat := if a ≤ t ∧ t < a + n then f (t - a + b) else if b ≤ t ∧ t < b + n then f (t - b + a) else f t
theorem swpF_zero {f : Nat → Nat} {a b : Nat} : swpF f a b 0 = f := by
  funext t;unfold swpF;rw [if_neg (by omega), if_neg (by omega)]
theorem swpF_next {f : Nat → Nat} {a b i : Nat} (h : a + i < b) : upd (upd (swpF f a b i) (a + i) (swpF f a b i (b + i))) (b + i) (swpF f a b i (a + i)) = swpF f a b (i + 1) := by
  have e1 : swpF f a b i (b + i) = f (b + i) := by
    unfold swpF;rw [if_neg (by omega), if_neg (by omega)]
  have e2 : swpF f a b i (a + i) = f (a + i) := by
    unfold swpF;rw [if_neg (by omega), if_neg (by omega)]
  rw [e1, e2];funext t;unfold upd swpF
  (repeat' split) <;> first | rfl | (exfalso; omega) | (congr 1; omega)
def rotF (f : Nat → Nat) (s m e t : Nat) : Nat := if s ≤ t ∧ t < s + (e - m) then f (t + (m - s)) else if s + (e - m) ≤ t ∧ t < e then f (t - (e - m)) else f t
theorem rotF_swp {f : Nat → Nat} {m i : Nat} (h : i ≤ m) : swpF f (m - i) m i = rotF f (m - i) m (m + i) := by
  funext t;unfold rotF swpF
  (repeat' split) <;> first | rfl | (exfalso; omega) | (congr 1; omega)
theorem rotF_left {f : Nat → Nat} {m i j : Nat} (h : i ≤ m) (hij : j < i) : rotF (swpF f (m - i) m j) (m - (i - j)) m (m + j) = rotF f (m - i) m (m + j) := by
  funext t;unfold rotF swpF
  (repeat' split) <;> first | rfl | (exfalso; omega) | (congr 1; omega)
theorem rotF_right {f : Nat → Nat} {m i j : Nat} (h : i ≤ m) (hij : i < j) : rotF (swpF f (m - i) (m + j - i) i) (m - i) m (m + (j - i)) = rotF f (m - i) m (m + j) := by
  funext t;unfold rotF swpF
  (repeat' split) <;> first | rfl | (exfalso; omega) | (congr 1; omega)
end Go.KL
end

section
/- Merging and inserting by a key; plain. No program in sight. -/
namespace Go.KL
variable {R : Nat → Nat} {f g h : Nat → Nat} {a m b i j : Nat}
theorem SOut.refl (hs : Srt R f a b) : SOut R f f a b := ⟨hs, fun i h1 h2 => ⟨i, h1, h2, rfl⟩, fun _ _ => rfl⟩
theorem SOut.trans {a' b' : Nat} (h1 : SOut R f g a' b') (h2 : SOut R g h a b) (ha : a ≤ a') (hb : b' ≤ b) : SOut R f h a b := by
  refine ⟨h2.srt, fun i hi1 hi2 => ?_, fun i hi => ?_⟩
  · obtain ⟨k, k1, k2, k3⟩ := h2.from' i hi1 hi2;by_cases hk : a' ≤ k ∧ k < b'
    · obtain ⟨l, l1, l2, l3⟩ := h1.from' k hk.1 hk.2;exact ⟨l, by omega, by omega, by rw [k3, l3]⟩
    · exact ⟨k, k1, k2, by rw [k3, h1.same k (by omega)]⟩
  · rw [h2.same i hi, h1.same i (by omega)]
theorem mrg_right (hM : Mrg R f a m (m + 1)) (h1 : a ≤ i) (h2 : i ≤ m) (hlo : ∀ k, a ≤ k → k < i → ¬ ltR R (f m) (f k)) (hhi : ∀ k, i ≤ k → k < m → ltR R (f m) (f k)) : SOut R f (insB f m i) a (m + 1) := by
  have hlo' : ∀ k, a ≤ k → k < i → ltR R (f k) (f m) := fun k k1 k2 => (hM.ord k1 (by omega) (Nat.le_refl m) (by omega)).1 (hlo k k1 k2);refine ⟨fun s t hs hst ht => ?_, fun t t1 t2 => ?_, fun t ht => ?_⟩
  · have e : ∀ k, insB f m i k = if k = i then f m else if i < k ∧ k ≤ m then f (k - 1) else f k := fun _ => rfl;rw [e, e];by_cases c1 : s = i
    · rw [if_pos c1, if_neg (by omega), if_pos (by omega)];exact hhi (t - 1) (by omega) (by omega)
    · rw [if_neg c1];by_cases c2 : i < s ∧ s ≤ m
      · rw [if_pos c2, if_neg (by omega), if_pos (by omega)];exact hM.left (s - 1) (t - 1) (by omega) (by omega) (by omega)
      · rw [if_neg c2];by_cases c3 : t = i
        · rw [if_pos c3];exact hlo' s hs (by omega)
        · rw [if_neg c3];by_cases c4 : i < t ∧ t ≤ m
          · rw [if_pos c4];by_cases c5 : s = t - 1
            · omega
            · exact hM.left s (t - 1) hs (by omega) (by omega)
          · rw [if_neg c4];exact hM.left s t hs hst (by omega)
  · unfold insB;split
    · exact ⟨m, by omega, by omega, rfl⟩
    · split
      · exact ⟨t - 1, by omega, by omega, rfl⟩
      · exact ⟨t, t1, t2, rfl⟩
  · unfold insB;rw [if_neg (by omega), if_neg (by omega)]
theorem mrg_left (hM : Mrg R f a (a + 1) b) (h1 : a + 1 ≤ i) (h2 : i ≤ b) (hlo : ∀ k, a + 1 ≤ k → k < i → ltR R (f k) (f a)) (hhi : ∀ k, i ≤ k → k < b → ¬ ltR R (f k) (f a)) : SOut R f (insF f a (i - 1)) a b := by
  have hhi' : ∀ k, i ≤ k → k < b → ltR R (f a) (f k) := fun k k1 k2 => (hM.ord (Nat.le_refl a) (by omega) (by omega) k2).1 (hhi k k1 k2);refine ⟨fun s t hs hst ht => ?_, fun t t1 t2 => ?_, fun t ht => ?_⟩
  · have e : ∀ k, insF f a (i - 1) k = if a ≤ k ∧ k < i - 1 then f (k + 1) else if k = i - 1 then f a else f k := fun _ => rfl;rw [e, e];by_cases c1 : a ≤ s ∧ s < i - 1
    · rw [if_pos c1];by_cases c2 : a ≤ t ∧ t < i - 1
      · rw [if_pos c2];exact hM.right (s + 1) (t + 1) (by omega) (by omega) (by omega)
      · rw [if_neg c2];by_cases c3 : t = i - 1
        · rw [if_pos c3];exact hlo (s + 1) (by omega) (by omega)
        · rw [if_neg c3];exact hM.right (s + 1) t (by omega) (by omega) ht
    · rw [if_neg c1];by_cases c2 : s = i - 1
      · rw [if_pos c2, if_neg (by omega), if_neg (by omega)];exact hhi' t (by omega) ht
      · rw [if_neg c2, if_neg (by omega), if_neg (by omega)];exact hM.right s t (by omega) hst ht
  · unfold insF;split
    · exact ⟨t + 1, by omega, by omega, rfl⟩
    · split
      · exact ⟨a, by omega, by omega, rfl⟩
      · exact ⟨t, t1, t2, rfl⟩
  · unfold insF;rw [if_neg (by omega), if_neg (by omega)]
structure Cut2 (R : Nat → Nat) (f : Nat → Nat) (a m b s mid e : Nat) : Prop where
  as' : a ≤ s
  sm : s ≤ m
  me : m ≤ e
  eb : e ≤ b
  sum : e + s = mid + m
  low : ∀ i j, a ≤ i → i < s → e ≤ j → j < b → ltR R (f i) (f j)
  high : ∀ i j, s ≤ i → i < m → m ≤ j → j < e → ltR R (f j) (f i)
theorem rot_at {s e t : Nat} : rotF f s m e t = if s ≤ t ∧ t < s + (e - m) then f (t + (m - s)) else if s + (e - m) ≤ t ∧ t < e then f (t - (e - m)) else f t := rfl
theorem Cut2.at {s mid e : Nat} (hC : Cut2 R f a m b s mid e) (t : Nat) : (t < s → rotF f s m e t = f t) ∧ (s ≤ t → t < mid → rotF f s m e t = f (t + (m - s)) ∧ m ≤ t + (m - s) ∧ t + (m - s) < e) ∧ (mid ≤ t → t < e → rotF f s m e t = f (t - (e - m)) ∧ s ≤ t - (e - m) ∧ t - (e - m) < m) ∧ (e ≤ t → rotF f s m e t = f t) := by
  have h1 := hC.sm;have h2 := hC.me;have h3 := hC.sum;refine ⟨fun h => ?_, fun h4 h5 => ⟨?_, by omega, by omega⟩, fun h4 h5 => ⟨?_, by omega, by omega⟩, fun h => ?_⟩
  · rw [rot_at, if_neg (by omega), if_neg (by omega)]
  · rw [rot_at, if_pos (by omega)]
  · rw [rot_at, if_neg (by omega), if_pos (by omega)]
  · rw [rot_at, if_neg (by omega), if_neg (by omega)]
theorem mrg_cut {s mid e : Nat} (hM : Mrg R f a m b) (hC : Cut2 R f a m b s mid e) :
    Mrg R (rotF f s m e) a s mid ∧ Mrg R (rotF f s m e) mid e b ∧ ∀ i j, a ≤ i → i < mid → mid ≤ j → j < b → ltR R (rotF f s m e i) (rotF f s m e j) := by
  have q1 := hC.as';have q2 := hC.sm;have q3 := hC.me;have q4 := hC.eb;have q5 := hC.sum;refine ⟨⟨fun i j h1 h2 h3 => ?_, fun i j h1 h2 h3 => ?_, fun i j h1 h2 h3 h4 => ?_⟩, ⟨fun i j h1 h2 h3 => ?_, fun i j h1 h2 h3 => ?_, fun i j h1 h2 h3 h4 => ?_⟩, fun i j h1 h2 h3 h4 => ?_⟩
  · rw [(hC.at i).1 (by omega), (hC.at j).1 (by omega)];exact hM.left i j h1 h2 (by omega)
  · obtain ⟨e1, e2, e3⟩ := (hC.at i).2.1 h1 (by omega);obtain ⟨f1, f2, f3⟩ := (hC.at j).2.1 (by omega) h3;rw [e1, f1];exact hM.right _ _ e2 (by omega) (by omega)
  · obtain ⟨f1, f2, f3⟩ := (hC.at j).2.1 h3 h4;rw [(hC.at i).1 (by omega), f1];exact hM.ix _ _ h1 (by omega) f2 (by omega)
  · obtain ⟨e1, e2, e3⟩ := (hC.at i).2.2.1 h1 (by omega);obtain ⟨f1, f2, f3⟩ := (hC.at j).2.2.1 (by omega) h3;rw [e1, f1];exact hM.left _ _ (by omega) (by omega) f3
  · rw [(hC.at i).2.2.2 h1, (hC.at j).2.2.2 (by omega)];exact hM.right _ _ (by omega) h2 h3
  · obtain ⟨e1, e2, e3⟩ := (hC.at i).2.2.1 h1 (by omega);rw [e1, (hC.at j).2.2.2 h3];exact hM.ix _ _ (by omega) e3 (by omega) h4
  · by_cases c1 : i < s
    · rw [(hC.at i).1 c1];by_cases c2 : j < e
      · obtain ⟨f1, f2, f3⟩ := (hC.at j).2.2.1 h3 c2;rw [f1];exact hM.left _ _ h1 (by omega) f3
      · rw [(hC.at j).2.2.2 (by omega)];exact hC.low _ _ h1 c1 (by omega) h4
    · obtain ⟨e1, e2, e3⟩ := (hC.at i).2.1 (by omega) h2;rw [e1];by_cases c2 : j < e
      · obtain ⟨f1, f2, f3⟩ := (hC.at j).2.2.1 h3 c2;rw [f1];exact hC.high _ _ f2 f3 e2 e3
      · rw [(hC.at j).2.2.2 (by omega)];exact hM.right _ _ e2 (by omega) h4
theorem mrg_join {s mid e : Nat} {g1 g2 : Nat → Nat} (hM : Mrg R f a m b) (hC : Cut2 R f a m b s mid e) (ham : a ≤ mid) (hmb : mid ≤ b) (h1 : SOut R (rotF f s m e) g1 a mid) (h2 : SOut R g1 g2 mid b) : SOut R f g2 a b := by
  have hx := (mrg_cut hM hC).2.2;have q1 := hC.as';have q2 := hC.sm;have q3 := hC.me;have q4 := hC.eb;have q5 := hC.sum;have hlo : ∀ i, a ≤ i → i < mid → ∃ k, a ≤ k ∧ k < mid ∧ g2 i = rotF f s m e k := fun i i1 i2 => by
    rw [h2.same i (.inl i2)];exact h1.from' i i1 i2
  have hhi : ∀ i, mid ≤ i → i < b → ∃ k, mid ≤ k ∧ k < b ∧ g2 i = rotF f s m e k := fun i i1 i2 => by
    obtain ⟨k, k1, k2, k3⟩ := h2.from' i i1 i2;exact ⟨k, k1, k2, by rw [k3, h1.same k (.inr k1)]⟩
  refine ⟨fun i j i1 i2 i3 => ?_, fun i i1 i2 => ?_, fun i hi => ?_⟩
  · by_cases c1 : j < mid
    · rw [h2.same i (.inl (by omega)), h2.same j (.inl c1)];exact h1.srt i j i1 i2 c1
    · by_cases c2 : i < mid
      · obtain ⟨k, k1, k2, k3⟩ := hlo i i1 c2;obtain ⟨l, l1, l2, l3⟩ := hhi j (by omega) i3;rw [k3, l3];exact hx k l k1 k2 l1 l2
      · exact h2.srt i j (by omega) i2 i3
  · have key : ∃ k, a ≤ k ∧ k < b ∧ g2 i = rotF f s m e k := by
      by_cases c : i < mid
      · obtain ⟨k, k1, k2, k3⟩ := hlo i i1 c;exact ⟨k, k1, by omega, k3⟩
      · obtain ⟨k, k1, k2, k3⟩ := hhi i (by omega) i2;exact ⟨k, by omega, k2, k3⟩
    obtain ⟨k, k1, k2, k3⟩ := key;rw [k3, rot_at];split
    · exact ⟨k + (m - s), by omega, by omega, rfl⟩
    · split
      · exact ⟨k - (e - m), by omega, by omega, rfl⟩
      · exact ⟨k, k1, k2, rfl⟩
  · rw [h2.same i (by omega), h1.same i (by omega), rot_at, if_neg (by omega), if_neg (by omega)]
theorem cut_found {s mid s0 r0 : Nat} (hM : Mrg R f a m b) (ha : a ≤ s0) (hs : s0 ≤ s) (hr : s ≤ r0) (hrm : r0 ≤ m) (hb : mid + m ≤ b + s) (hm : m ≤ mid + m - s) (hsn : s ≤ mid + m) (h0 : s0 = a ∨ mid + m = b + s0) (h1 : r0 = m ∨ r0 = mid) (hlo : s0 < s → ltR R (f (s - 1)) (f (mid + m - s))) (hhi : s < r0 → ltR R (f (mid + m - 1 - s)) (f s)) : Cut2 R f a m b s mid (mid + m - s) := by
  refine ⟨by omega, by omega, hm, by omega, by omega, fun i j i1 i2 j1 j2 => ?_, fun i j i1 i2 j1 j2 => ?_⟩
  · have h3 : s0 < s := by omega
    have h4 := hlo h3;have h5 : ltR R (f i) (f (mid + m - s)) := by
      by_cases c : i = s - 1
      · rw [c]; exact h4
      · exact ltR_trans (hM.left i (s - 1) i1 (by omega) (by omega)) h4
    by_cases c : j = mid + m - s
    · rw [c]; exact h5
    · exact ltR_trans h5 (hM.right _ j hm (by omega) j2)
  · have h3 : s < r0 := by omega
    have h4 := hhi h3;have h5 : ltR R (f j) (f s) := by
      by_cases c : j = mid + m - 1 - s
      · rw [c]; exact h4
      · exact ltR_trans (hM.right j _ j1 (by omega) (by omega)) h4
    by_cases c : i = s
    · rw [c]; exact h5
    · exact ltR_trans h5 (hM.left s i (by omega) (by omega) i2)
end Go.KL
end

section
/- Blocks that are in order, and their merging two by two; plain. No program in sight. -/
namespace Go.KL
variable {R : Nat → Nat} {f g : Nat → Nat} {a m b n s e : Nat}
structure Blk (R : Nat → Nat) (g : Nat → Nat) (s e : Nat) : Prop where
  rng : ∀ i, s ≤ i → i < e → s ≤ g i ∧ g i < e
  srt : Srt R g s e
theorem Blk.keep (h : Blk R f s e) (hO : SOut R f g a b) (hd : e ≤ a ∨ b ≤ s) : Blk R g s e := by
  refine ⟨fun i h1 h2 => ?_, fun i j h1 h2 h3 => ?_⟩
  · rw [hO.same i (by omega)];exact h.rng i h1 h2
  · rw [hO.same i (by omega), hO.same j (by omega)];exact h.srt i j h1 h2 h3
theorem Blk.mrg (h1 : Blk R f a m) (h2 : Blk R f m b) : Mrg R f a m b := ⟨h1.srt, h2.srt, fun i j i1 i2 j1 j2 => by
  have := h1.rng i i1 i2;have := h2.rng j j1 j2;omega⟩
theorem Blk.join (h1 : Blk R f a m) (h2 : Blk R f m b) (ham : a ≤ m) (hmb : m ≤ b) (hO : SOut R f g a b) : Blk R g a b := by
  refine ⟨fun i i1 i2 => ?_, hO.srt⟩;obtain ⟨k, k1, k2, k3⟩ := hO.from' i i1 i2;rw [k3];by_cases c : k < m
  · have := h1.rng k k1 c;omega
  · have := h2.rng k (by omega) k2;omega
theorem Blk.ids (hid : ∀ i, a ≤ i → i < b → f i = i) (hO : SOut R f g a b) : Blk R g a b := by
  refine ⟨fun i i1 i2 => ?_, hO.srt⟩;obtain ⟨k, k1, k2, k3⟩ := hO.from' i i1 i2;rw [k3, hid k k1 k2];exact ⟨k1, k2⟩
theorem Blk.empty (h : e ≤ s) : Blk R g s e := ⟨fun i h1 h2 => by omega, fun i j h1 h2 h3 => by omega⟩
def BS (R g : Nat → Nat) (bs n : Nat) : Prop := ∀ s, s % bs = 0 → s < n → Blk R g s (min (s + bs) n)
def Ph1 (R g : Nat → Nat) (a : Nat) : Prop := a % 20 = 0 ∧ (∀ s, s % 20 = 0 → s + 20 ≤ a → Blk R g s (s + 20)) ∧ ∀ i, a ≤ i → g i = i
theorem Ph1.next (h : Ph1 R f a) (hO : SOut R f g a (a + 20)) : Ph1 R g (a + 20) := by
  obtain ⟨h1, h2, h3⟩ := h;refine ⟨by omega, fun s s1 s2 => ?_, fun i hi => ?_⟩
  · by_cases c : s = a
    · subst c;exact Blk.ids (fun i i1 _ => h3 i i1) hO
    · exact (h2 s s1 (by omega)).keep hO (by omega)
  · rw [hO.same i (by omega)];exact h3 i (by omega)
theorem Ph1.done (h : Ph1 R f a) (han : a ≤ n) (hn : n < a + 20) (hO : SOut R f g a n) : BS R g 20 n := by
  obtain ⟨h1, h2, h3⟩ := h;intro s s1 s2;by_cases c : s = a
  · subst c;rw [show min (s + 20) n = n by omega];exact Blk.ids (fun i i1 _ => h3 i i1) hO
  · rw [show min (s + 20) n = s + 20 by omega];exact (h2 s s1 (by omega)).keep hO (by omega)
def Ph2 (R g : Nat → Nat) (bs n a : Nat) : Prop := a % (2 * bs) = 0 ∧ (∀ s, s % (2 * bs) = 0 → s + 2 * bs ≤ a → Blk R g s (s + 2 * bs)) ∧ ∀ s, s % bs = 0 → a ≤ s → s < n → Blk R g s (min (s + bs) n)
theorem Ph2.start {bs : Nat} (h : BS R g bs n) (hb : bs = 20 ∨ bs = 40) : Ph2 R g bs n 0 := by
  refine ⟨Nat.zero_mod _, fun s s1 s2 => ?_, fun s s1 _ s3 => h s s1 s3⟩;rcases hb with rfl | rfl <;> omega
theorem Ph2.two {bs : Nat} (h : Ph2 R f bs n a) (hb : bs = 20 ∨ bs = 40) (hab : a + bs < n) : Blk R f a (a + bs) ∧ Blk R f (a + bs) (min (a + 2 * bs) n) := by
  obtain ⟨h1, h2, h3⟩ := h;have k1 := h3 a (by rcases hb with rfl | rfl <;> omega) (Nat.le_refl _) (by omega);have k2 := h3 (a + bs) (by rcases hb with rfl | rfl <;> omega) (by omega) hab;rw [show min (a + bs) n = a + bs by omega] at k1;rw [show a + bs + bs = a + 2 * bs by omega] at k2;exact ⟨k1, k2⟩
theorem Ph2.next {bs : Nat} (h : Ph2 R f bs n a) (hb : bs = 20 ∨ bs = 40) (hab : a + 2 * bs ≤ n) (hO : SOut R f g a (a + 2 * bs)) : Ph2 R g bs n (a + 2 * bs) := by
  have hp : 0 < bs := by omega
  obtain ⟨k1, k2⟩ := h.two hb (by omega);rw [show min (a + 2 * bs) n = a + 2 * bs by omega] at k2;obtain ⟨h1, h2, h3⟩ := h;refine ⟨by rcases hb with rfl | rfl <;> omega, fun s s1 s2 => ?_, fun s s1 s2 s3 => ?_⟩
  · by_cases c : s = a
    · subst c;exact k1.join k2 (by omega) (by omega) hO
    · exact (h2 s s1 (by rcases hb with rfl | rfl <;> omega)).keep hO (by rcases hb with rfl | rfl <;> omega)
  · exact (h3 s s1 (by omega) s3).keep hO (by omega)
theorem Ph2.last {bs : Nat} (h : Ph2 R f bs n a) (hb : bs = 20 ∨ bs = 40) (han : a + bs < n) (hn : n < a + 2 * bs) (hO : SOut R f g a n) : BS R g (2 * bs) n := by
  obtain ⟨k1, k2⟩ := h.two hb han;rw [show min (a + 2 * bs) n = n by omega] at k2;obtain ⟨h1, h2, h3⟩ := h;intro s s1 s2;by_cases c : s = a
  · subst c;rw [show min (s + 2 * bs) n = n by omega];exact k1.join k2 (by omega) (by omega) hO
  · rw [show min (s + 2 * bs) n = s + 2 * bs by rcases hb with rfl | rfl <;> omega];exact (h2 s s1 (by rcases hb with rfl | rfl <;> omega)).keep hO (by rcases hb with rfl | rfl <;> omega)
theorem Ph2.over {bs : Nat} (h : Ph2 R g bs n a) (hb : bs = 20 ∨ bs = 40) (ha : a ≤ n) (han : n ≤ a + bs) : BS R g (2 * bs) n := by
  obtain ⟨h1, h2, h3⟩ := h;intro s s1 s2;by_cases c : s = a
  · subst c;have k := h3 s (by rcases hb with rfl | rfl <;> omega) (Nat.le_refl _) s2;rw [show min (s + bs) n = n by omega] at k;rw [show min (s + 2 * bs) n = n by omega];exact k
  · rw [show min (s + 2 * bs) n = s + 2 * bs by rcases hb with rfl | rfl <;> omega];exact h2 s s1 (by rcases hb with rfl | rfl <;> omega)
theorem BS.whole {bs : Nat} (h : BS R g bs n) (hb : n ≤ bs) : Blk R g 0 n := by
  by_cases c : n = 0
  · exact Blk.empty (by omega)
  · have k := h 0 (Nat.zero_mod _) (by omega)
    rwa [show min (0 + bs) n = n by omega] at k
end Go.KL
end

section
/- Rows of locks by their places; cmp.Compare; the closure that holds sorts by. -/
namespace Go.KL
open Go.Proofs Go.Proofs.Tryz
def lrow (bo : Nat) (Lf : Nat → Lk) (n : Nat) (rest : List Value) (f : Nat → Nat) : Chunk := [(bo, recs 111 4 n (fun i j => (lkc (Lf (f i))).getD j undef) rest)]
section
variable {P : Program} {W : World} {Ls : List Chunk} {n : Nat} {σ : Slots} {dst : Option Tmp} {ty : TypeId} {pos : String} {after : Array Edge} {guard : Option (Nat × Bool)} {Lf : Nat → Lk} {rest : List Value} {f : Nat → Nat} {bo m : Nat}
theorem cells_lrow (i : Nat) {k : Nat} (hi : Ls.getD i [] = lrow bo Lf m rest f) (hk : k < m) : CellsAre (K W Ls) ⟨bo, k * 4, none⟩ (lkc (Lf (f k))) := cells_recs (W := W) (c := []) i hi hk
theorem set_lrow (T : Tab P) (i : Nat) {x y : Operand} {t : TypeId} {k : Nat} (z : Nat) (hx : ev σ x = some (.pointer (some ⟨bo, k * 4, none⟩))) (hy : ev σ y = some (.agg (lkc (Lf z)).toArray))
    (hs : T.size t = some 4) (hi : Ls.getD i [] = lrow bo Lf m rest f) (hk : k < m) :
    Sets P n σ (K W Ls) ⟨dst, .store t x y, ty, pos, after, guard⟩ (K W (Ls.set i (lrow bo Lf m rest (upd f k z)))) := by
  have h := set_recsA (W := W) (n := n) (dst := dst) (ty := ty) (pos := pos) (after := after) (guard := guard) T i hx hy rfl hs rfl hi hk;have e : lrow bo Lf m rest (upd f k z) = [(bo, recs 111 4 m (updR (fun i j => (lkc (Lf (f i))).getD j undef) k (lkc (Lf z))) rest)] := by
    unfold lrow;rw [recs_congr fun a _ j _ => ?_];unfold updR upd;split <;> rfl
  rw [e];exact h
end
def cmp3 (x y : Nat) : Int := if x < y then -1 else if y < x then 1 else 0
theorem cmp3_neg {x y : Nat} : cmp3 x y < 0 ↔ x < y := by
  unfold cmp3;split
  · omega
  · split <;> omega
def CmpL (Lf : Nat → Lk) (n : Nat) (R : Nat → Nat) : Prop := ∀ (x y : Nat), x < n → y < n → ∀ {W : World} {Ls : List Chunk}, Spec prog 123 #[.agg (lkc (Lf x)).toArray, .agg (lkc (Lf y)).toArray] (K W Ls) (fun _ : Unit => .int .i64 (cmp3 (R y) (R x))) (fun _ => K W Ls)
attribute [local irreducible] SC St Fin Sq Ylds Doos Sets Enters Spec CellIs CellsAre Then Ret Rnd Chn resOK ints bools recs arr
theorem isNaN_spec {C : World → Prop} {x : Nat} : Spec prog 136 #[.int .i64 (x : Int)] C (fun _ : Unit => .bool false) (fun _ => C) := by
  refine enter (args := [_]) func136 rfl ntmps136 rfl ?_;refine csr (sa ?_);refine snf (csr (sm ?_));refine sm ?_;refine sy (y_F (y_neq rfl rfl) (by omega)) ?_;refine sa ?_;refine snf (c_ret ?_);exact f_ret () (res1 rfl rfl) (fun w h => h)
theorem compare_spec {C : World → Prop} {x y : Nat} : Spec prog 124 #[.int .i64 (x : Int), .int .i64 (y : Int)] C (fun _ : Unit => .int .i64 (cmp3 x y)) (fun _ => C) := by
  refine enter (args := [_, _]) func124 rfl ntmps124 rfl ?_;refine csr (sa ?_);refine snf (csr (sm ?_));refine sk call136 isNaN_spec fun _ => ?_;refine sa ?_;refine snf (csr (sm ?_));refine sk call136 isNaN_spec fun _ => ?_;unfold cmp3;by_cases h1 : x < y
  · rw [if_pos h1];refine sa ?_;refine snf (c_seq (csr (sm ?_)));refine snf (c_condF rfl (c_skip (f_then (c_seq (csr (sm ?_))))));refine snf (c_condF rfl (c_skip (f_then (c_seq (csr (sm ?_))))));refine sm ?_;refine sy (y_T (y_lss rfl rfl) (by omega)) ?_;refine snf (c_condT rfl (csr (sa ?_)));refine snf (c_ret (f_thenR ?_));exact f_ret () (res1 rfl rfl) (fun w h => h)
  · rw [if_neg h1];by_cases h2 : y < x
    · rw [if_pos h2];refine sa ?_;refine snf (c_seq (csr (sm ?_)));refine snf (c_condF rfl (c_skip (f_then (c_seq (csr (sm ?_))))));refine snf (c_condF rfl (c_skip (f_then (c_seq (csr (sm ?_))))));refine sm ?_;refine sy (y_F (y_lss rfl rfl) (by omega)) ?_;refine snf (c_condF rfl (c_skip (f_then (c_seq (csr (sm ?_))))));refine sm ?_;refine sy (y_T (y_gtr rfl rfl) (by omega)) ?_;refine snf (c_condT rfl (csr (sa ?_)));refine snf (c_ret (f_thenR ?_));exact f_ret () (res1 rfl rfl) (fun w h => h)
    · rw [if_neg h2];refine sa ?_;refine snf (c_seq (csr (sm ?_)));refine snf (c_condF rfl (c_skip (f_then (c_seq (csr (sm ?_))))));refine snf (c_condF rfl (c_skip (f_then (c_seq (csr (sm ?_))))));refine sm ?_;refine sy (y_F (y_lss rfl rfl) (by omega)) ?_;refine snf (c_condF rfl (c_skip (f_then (c_seq (csr (sm ?_))))));refine sm ?_;refine sy (y_F (y_gtr rfl rfl) (by omega)) ?_;refine snf (c_condF rfl (c_skip (f_then (csr (sa ?_)))));refine snf (c_ret ?_);exact f_ret () (res1 rfl rfl) (fun w h => h)
theorem cmp3_sub {M x y : Nat} (hx : x ≤ M) (hy : y ≤ M) : cmp3 (M - y) (M - x) = cmp3 x y := by
  unfold cmp3;by_cases h1 : x < y
  · rw [if_pos h1, if_pos (by omega)]
  · rw [if_neg h1, if_neg (show ¬ M - y < M - x by omega)];by_cases h2 : y < x
    · rw [if_pos h2, if_pos (by omega)]
    · rw [if_neg h2, if_neg (by omega)]
theorem less_spec {Lf : Nat → Lk} {n M : Nat} (hM : ∀ x, x < n → (Lf x).lo ≤ M) : CmpL Lf n (fun x => M - (Lf x).lo) := by
  intro x y hx hy W Ls;rw [cmp3_sub (hM x hx) (hM y hy)];refine enter (args := [_, _]) func123 rfl ntmps123 rfl ?_;refine csr (sbx fun b2 => ?_);refine sbx fun b3 => ?_;refine sa ?_;refine snf (csr (sf 1 ?_));refine slr 1 ?_;refine sf 1 ?_;refine slr 0 ?_;refine sk call124 compare_spec fun _ => ?_;refine sa ?_;refine snf (c_ret ?_);exact f_ret () (res1 rfl rfl) (fun w h => h.tail.tail)
end Go.KL
end

section
/- Walks: swapRange, rotate. -/
namespace Go.KL
open Go.Proofs Go.Proofs.Tryz
attribute [local irreducible] SC St Fin Sq Ylds Doos Sets Enters Spec CellIs CellsAre Then Ret Rnd Chn resOK ints bools recs arr
theorem swapRange_spec {W : World} {N : List Chunk} {Lf : Nat → Lk} {rest : List Value} {cp : Nat} {bo m a b k : Nat} {f : Nat → Nat} {cv : Value} (h1 : a + k ≤ b) (h2 : b + k ≤ m) (hm : m ≤ 4096) : Spec prog 162 #[.slice (some ⟨bo, 0, none⟩) m cp, .int .i64 (a : Int), .int .i64 (b : Int), .int .i64 (k : Int), cv] (K W (lrow bo Lf m rest (f) :: N)) (fun _ : Unit => .tuple #[]) (fun _ => K W (lrow bo Lf m rest (swpF f a b k) :: N)) := by
  refine enter (args := [_, _, _, _, _]) func162 rfl ntmps162 rfl ?_;refine csr (sa ?_);refine snf (c_block ?_);refine c_loopP (α := Nat) (fun z => [(0, .slice (some ⟨bo, 0, none⟩) m cp), (1, .int .i64 (a : Int)), (2, .int .i64 (b : Int)), (3, .int .i64 (k : Int)), (10, .int .i64 (z : Int))]) (fun z => z ≤ k) (fun z => K W (lrow bo Lf m rest (swpF f a b z) :: N)) (fun z => k - z) 0
    ⟨rfl, rfl, rfl, rfl, rfl, trivial⟩ (Nat.zero_le _) (fun w h => by rw [swpF_zero]; exact h) ?_
  intro i hi;by_cases hlt : i < k
  · have ea : (a : Int) + (i : Int) = ((a + i : Nat) : Int) := by omega
    have eb : (b : Int) + (i : Int) = ((b + i : Nat) : Int) := by omega
    have hnx := swpF_next (f := f) (a := a) (b := b) (i := i) (by omega);refine c_seq (csr (sm ?_));refine sm ?_;refine sy (y_T (y_lss rfl rfl) (by omega)) ?_;refine snf (c_condT rfl (c_skip (f_then (c_seq (c_block (c_planMs [4, 5, 6, 7] [.c 0, .c 1, .c 2, .c 3, .c 8, .c 9, .c 10, .c 11, .c 12, .c 13, .c 14, .c 15, .c 16, .c 17, .c 18, .c 19, .c 20, .s 21, .s 22, .s 23] [4, 5, 6, 7, 21, 22, 23] (K W (lrow bo Lf m rest (swpF f a b i) :: N)) mixed (by kernel_rfl) rfl K.cl ?_))))));refine m_cons rfl (Qui.ylds (y_move rfl)) rfl rfl rfl K.cl ?_;refine m_cons rfl (Qui.ylds (y_move rfl)) rfl rfl rfl K.cl ?_;refine m_cons rfl (Qui.ylds (y_move rfl)) rfl rfl rfl K.cl ?_;refine m_cons rfl (Qui.ylds (y_add rfl rfl (by omega))) rfl rfl rfl K.cl ?_;refine m_nil ?_;refine dy rfl (y_move rfl) (fun _ h => h) ?_;refine dy rfl (y_move rfl) (fun _ h => h) ?_;refine dy rfl (y_move rfl) (fun _ h => h) ?_;refine dy rfl (y_add rfl rfl (by omega)) (fun _ h => h) ?_;refine dy rfl (y_move rfl) (fun _ h => h) ?_;refine dy rfl (y_move rfl) (fun _ h => h) ?_;refine dy rfl (y_move rfl) (fun _ h => h) ?_;refine dy rfl (y_add rfl rfl (by omega)) (fun _ h => h) ?_;refine dy rfl (y_indexAddr0 (s := 4) tab rfl rfl rfl rfl _ rfl (by omega)) (fun _ h => h) ?_;refine dy rfl (y_loadA tab rfl rfl rfl rfl (cells_lrow 0 rfl (by omega))) (fun _ h => h) ?_;refine dy rfl (y_move rfl) (fun _ h => h) ?_;refine dy rfl (y_move rfl) (fun _ h => h) ?_;refine dy rfl (y_move rfl) (fun _ h => h) ?_;refine dy rfl (y_add rfl rfl (by omega)) (fun _ h => h) ?_;refine dy rfl (y_indexAddr0 (s := 4) tab rfl rfl rfl rfl _ rfl (by omega)) (fun _ h => h) ?_;refine dy rfl (y_loadA tab rfl rfl rfl rfl (cells_lrow 0 rfl (by omega))) (fun _ h => h) ?_;refine dy rfl (y_indexAddr0 (s := 4) tab rfl rfl rfl rfl _ rfl (by omega)) (fun _ h => h) ?_;refine d_set rfl (set_lrow tab 0 _ rfl rfl rfl rfl (by omega)) rfl rfl K.cl (fun h => by cases h) ?_;refine d_sy rfl (y_indexAddr0 (s := 4) tab rfl rfl rfl rfl _ rfl (by omega)) rfl rfl rfl K.cl (fun h => by cases h) ?_;refine d_set rfl (set_lrow tab 0 _ rfl rfl rfl rfl (by omega)) rfl rfl K.cl (fun h => by cases h) ?_;refine d_nil (f_blockN (f_then (c_region (sm ?_))));refine sy (y_add rfl rfl (by omega)) ?_;refine sa ?_;refine s_nil ?_;exact f_roundP (i + 1) hlt (by omega) ⟨rfl, rfl, rfl, rfl, rfl, trivial⟩ (fun w h => by rw [← hnx]; exact h)
  · obtain rfl : i = k := by omega
    refine c_seq (csr (sm ?_));refine sm ?_;refine sy (y_F (y_lss rfl rfl) (by omega)) ?_;refine snf (c_condF rfl (c_exit (f_thenE (f_rndE (f_blockE ?_)))));exact f_end () (res0 rfl) (fun w h => h)
theorem rotate_spec {W : World} {N : List Chunk} {Lf : Nat → Lk} {rest : List Value} {cp : Nat} {bo n a m b : Nat} {f : Nat → Nat} {cv : Value} (h1 : a < m) (h2 : m < b) (h3 : b ≤ n) (hn : n ≤ 4096) : Spec prog 150 #[.slice (some ⟨bo, 0, none⟩) n cp, .int .i64 (a : Int), .int .i64 (m : Int), .int .i64 (b : Int), cv] (K W (lrow bo Lf n rest (f) :: N)) (fun _ : Unit => .tuple #[]) (fun _ => K W (lrow bo Lf n rest (rotF f a m b) :: N)) := by
  refine enter (args := [_, _, _, _, _]) func150 rfl ntmps150 rfl ?_;have e1 : (m : Int) - (a : Int) = ((m - a : Nat) : Int) := by omega
  have e2 : (b : Int) - (m : Int) = ((b - m : Nat) : Int) := by omega
  refine csr (sm ?_);refine sm ?_;refine sy (y_sub rfl rfl (by omega)) ?_;refine sa ?_;refine snf (csr (sm ?_));refine sm ?_;refine sy (y_sub rfl rfl (by omega)) ?_;refine sa ?_;refine snf (c_seq (c_block ?_));rw [e1, e2];refine c_loopP (α := Nat × Nat × (Nat → Nat)) (fun z => [(0, .slice (some ⟨bo, 0, none⟩) n cp), (2, .int .i64 (m : Int)), (4, cv), (10, .int .i64 (z.1 : Int)), (11, .int .i64 (z.2.1 : Int))]) (fun z => 0 < z.1 ∧ 0 < z.2.1 ∧ z.1 ≤ m ∧ m + z.2.1 ≤ n ∧ rotF z.2.2 (m - z.1) m (m + z.2.1) = rotF f a m b) (fun z => K W (lrow bo Lf n rest (z.2.2) :: N)) (fun z => z.1 + z.2.1) (m - a, b - m, f)
    ⟨rfl, rfl, rfl, rfl, rfl, trivial⟩ ⟨by dsimp only; omega, by dsimp only; omega, by dsimp only; omega, by dsimp only; omega, by dsimp only; rw [show m - (m - a) = a by omega, show m + (b - m) = b by omega]⟩ (fun w h => h) ?_
  rintro ⟨i, j, g⟩ ⟨hi, hj, him, hjn, hg⟩;dsimp only at hi hj him hjn hg ⊢;have e3 : (m : Int) - (i : Int) = ((m - i : Nat) : Int) := by omega
  have e4 : (m : Int) + (j : Int) = ((m + j : Nat) : Int) := by omega
  by_cases hij : i = j
  · subst hij;rw [← rotF_swp him] at hg;rw [← hg];refine c_seq (csr (sm ?_));refine sm ?_;refine sy (y_F (y_neq rfl rfl) (by omega)) ?_;refine snf (c_condF rfl (c_exit (f_thenE (f_rndE (f_blockE (f_then (c_region (sm ?_))))))));refine sm ?_;refine sm ?_;refine sy (y_sub rfl rfl (by omega)) ?_;refine sm ?_;refine sm ?_;refine sm ?_;rw [e3];refine s_call (en_f rfl call162) (swapRange_spec (a := m - i) (b := m) (k := i) (by omega) (by omega) hn) rfl rfl rfl (fun _ => ?_);refine s_nil ?_;exact f_end () (res0 rfl) (fun w h => h)
  by_cases hlt : j < i
  · rw [← rotF_left him hlt] at hg;refine c_seq (csr (sm ?_));refine sm ?_;refine sy (y_T (y_neq rfl rfl) (by omega)) ?_;refine snf (c_condT rfl (c_skip (f_then (c_block (csr (sm ?_))))));refine sm ?_;refine sy (y_T (y_gtr rfl rfl) (by omega)) ?_;refine snf (c_condT rfl (csr (sm ?_)));refine sm ?_;refine sm ?_;refine sy (y_sub rfl rfl (by omega)) ?_;refine sm ?_;refine sm ?_;refine sm ?_;rw [e3];refine s_call (en_f rfl call162) (swapRange_spec (a := m - i) (b := m) (k := j) (by omega) (by omega) hn) rfl rfl rfl (fun _ => ?_);refine snf (c_region (sm ?_));refine sm ?_;refine sy (y_sub rfl rfl (by omega)) ?_;refine sa ?_;refine s_nil (f_blockN ?_);exact f_roundP (i - j, j, swpF g (m - i) m j) ⟨by dsimp only; omega, hj, by dsimp only; omega, hjn, hg⟩ (by dsimp only; omega) ⟨rfl, rfl, rfl, congrArg (fun z => some (Value.int .i64 z)) (by dsimp only; omega), rfl, trivial⟩ (fun w h => h)
  · have e5 : ((m + j : Nat) : Int) - (i : Int) = ((m + j - i : Nat) : Int) := by omega
    rw [← rotF_right him (by omega)] at hg;refine c_seq (csr (sm ?_));refine sm ?_;refine sy (y_T (y_neq rfl rfl) (by omega)) ?_;refine snf (c_condT rfl (c_skip (f_then (c_block (csr (sm ?_))))));refine sm ?_;refine sy (y_F (y_gtr rfl rfl) (by omega)) ?_;refine snf (c_condF rfl (csr (sm ?_)));refine sm ?_;refine sm ?_;refine sy (y_sub rfl rfl (by omega)) ?_;refine sm ?_;refine sm ?_;refine sy (y_add rfl rfl (by omega)) ?_;refine sm ?_;refine sy (y_sub rfl rfl (by omega)) ?_;refine sm ?_;refine sm ?_;rw [e3, e4, e5];refine s_call (en_f rfl call162) (swapRange_spec (a := m - i) (b := m + j - i) (k := i) (by omega) (by omega) hn) rfl rfl rfl (fun _ => ?_);refine snf (c_region (sm ?_));refine sm ?_;refine sy (y_sub rfl rfl (by omega)) ?_;refine sa ?_;refine s_nil (f_blockN ?_);exact f_roundP (i, j - i, swpF g (m - i) (m + j - i) i) ⟨hi, by dsimp only; omega, him, by dsimp only; omega, hg⟩ (by dsimp only; omega) ⟨rfl, rfl, rfl, rfl, congrArg (fun z => some (Value.int .i64 z)) (by dsimp only; omega), trivial⟩ (fun w h => h)
end Go.KL
end

section
/- Walks: insertionSort. -/
namespace Go.KL
open Go.Proofs Go.Proofs.Tryz
theorem SOut.bd {R : Nat → Nat} {f g : Nat → Nat} {a b n : Nat} (h : SOut R f g a b) (hf : ∀ k, k < n → f k < n) (hb : b ≤ n) : ∀ k, k < n → g k < n := by
  intro k hk;by_cases c : a ≤ k ∧ k < b
  · obtain ⟨l, l1, l2, l3⟩ := h.from' k c.1 c.2;rw [l3];exact hf l (by omega)
  · rw [h.same k (by omega)];exact hf k hk
theorem SOut.one {R : Nat → Nat} {f g : Nat → Nat} {a b : Nat} (h : SOut R f g a (a + 1)) (hb : b ≤ a) : SOut R f g a b := by
  refine ⟨fun i j h1 h2 h3 => by omega, fun i h1 h2 => by omega, fun i _ => ?_⟩;by_cases c : i = a
  · obtain ⟨k, k1, k2, k3⟩ := h.from' i (by omega) (by omega);rw [k3, show k = i by omega]
  · exact h.same i (by omega)
theorem ins_mrg {R : Nat → Nat} {f g : Nat → Nat} {a b i : Nat} (hasc : ∀ p q, a ≤ p → p < q → q < b → f p < f q) (h : SOut R f g a i) (hai : a ≤ i) (hib : i < b) : Mrg R g a i (i + 1) := by
  refine ⟨h.srt, fun p q h1 h2 h3 => by omega, fun p q h1 h2 h3 h4 => ?_⟩;obtain rfl : q = i := by omega
  obtain ⟨k, k1, k2, k3⟩ := h.from' p h1 h2;rw [k3, h.same q (.inr (Nat.le_refl _))];exact hasc k q k1 k2 hib
theorem ins_out {R : Nat → Nat} {f g : Nat → Nat} {a i j : Nat} (hM : Mrg R g a i (i + 1)) (h : SOut R f g a i) (haj : a ≤ j) (hji : j ≤ i) (hhi : ∀ k, j ≤ k → k < i → ltR R (g i) (g k)) (hst : a < j → ¬ ltR R (g i) (g (j - 1))) : SOut R f (insB g i j) a (i + 1) := by
  have hlo : ∀ k, a ≤ k → k < j → ¬ ltR R (g i) (g k) := by
    intro k k1 k2 hc;have h1 := hst (by omega);have h2 := (hM.ord (i := j - 1) (j := i) (by omega) (by omega) (Nat.le_refl i) (by omega)).1 h1;by_cases c : k = j - 1
    · subst c;exact h1 hc
    · have h3 := ltR_trans (hM.left k (j - 1) k1 (by omega) (by omega)) h2;exact ltR_irr (ltR_trans hc h3)
  exact h.trans (mrg_right hM haj hji hlo hhi) (Nat.le_refl _) (by omega)
theorem insB_at {f : Nat → Nat} {m i : Nat} : insB f m i i = f m := by
  unfold insB;rw [if_pos rfl]
theorem insB_bef {f : Nat → Nat} {m i : Nat} (h : 0 < i) : insB f m i (i - 1) = f (i - 1) := by
  unfold insB;rw [if_neg (by omega), if_neg (by omega)]
attribute [local irreducible] SC St Fin Sq Ylds Doos Sets Enters Spec CellIs CellsAre Then Ret Rnd Chn resOK ints bools recs arr
theorem insertion_spec {W : World} {N : List Chunk} {Lf : Nat → Lk} {rest : List Value} {cp : Nat} {bo n a b : Nat} {R f : Nat → Nat} (hcmp : CmpL Lf n R) (hab : a ≤ b) (hbn : b ≤ n) (hn : n ≤ 4096) (hf : ∀ k, k < n → f k < n) (hasc : ∀ p q, a ≤ p → p < q → q < b → f p < f q) : Spec prog 144 #[.slice (some ⟨bo, 0, none⟩) n cp, .int .i64 (a : Int), .int .i64 (b : Int), .func (.func 123) #[] #[]] (K W (lrow bo Lf n rest (f) :: N)) (X := { g : Nat → Nat // SOut R f g a b }) (fun _ => .tuple #[]) (fun g => K W (lrow bo Lf n rest (g.1) :: N)) := by
  refine enter (args := [_, _, _, _]) func144 rfl ntmps144 rfl ?_;refine csr (sm ?_);refine sy (y_add rfl rfl (by omega)) ?_;refine sa ?_;refine snf (c_block ?_);refine c_loopP (α := Nat × (Nat → Nat)) (fun z => [(0, .slice (some ⟨bo, 0, none⟩) n cp), (1, .int .i64 (a : Int)), (2, .int .i64 (b : Int)), (3, .func (.func 123) #[] #[]), (8, .int .i64 (z.1 : Int))]) (fun z => a + 1 ≤ z.1 ∧ (z.1 ≤ b ∨ z.1 = a + 1) ∧ SOut R f z.2 a z.1) (fun z => K W (lrow bo Lf n rest (z.2) :: N)) (fun z => b + 1 - z.1) (a + 1, f)
    ⟨rfl, rfl, rfl, rfl, rfl, trivial⟩ ⟨Nat.le_refl _, .inr rfl, SOut.refl (fun i j h1 h2 h3 => by dsimp only at h3; omega)⟩ (fun w h => h) ?_
  rintro ⟨i, g⟩ ⟨hi1, hi2, hO⟩;dsimp only at hi1 hi2 hO ⊢;by_cases hib : i < b
  · have hM := ins_mrg hasc hO (by omega) hib;have hgb := hO.bd hf (by omega);refine c_seq (csr (sm ?_));refine sm ?_;refine sy (y_T (y_lss rfl rfl) (by omega)) ?_;refine snf (c_condT rfl (c_skip (f_then (c_seq (c_block (csr (sm ?_)))))));refine sa ?_;refine snf (c_block ?_);refine c_loopP (α := Nat) (fun z => [(0, .slice (some ⟨bo, 0, none⟩) n cp), (1, .int .i64 (a : Int)), (2, .int .i64 (b : Int)), (3, .func (.func 123) #[] #[]), (8, .int .i64 (i : Int)), (9, .int .i64 (z : Int))]) (fun z => a ≤ z ∧ z ≤ i ∧ ∀ k, z ≤ k → k < i → ltR R (g i) (g k)) (fun z => K W (lrow bo Lf n rest (insB g i z) :: N)) (fun z => z) i
      ⟨rfl, rfl, rfl, rfl, rfl, rfl, trivial⟩ ⟨by omega, Nat.le_refl _, fun k h1 h2 => by omega⟩ (fun w h => by rw [insB_zero]; exact h) ?_
    rintro j ⟨hj1, hj2, hj3⟩;have ej : insB g i j j = g i := insB_at;have hgi := hgb i (by omega);refine c_seq (c_seq ?_);refine c_then_cut (α := Unit) (fun _ => [(0, .slice (some ⟨bo, 0, none⟩) n cp), (1, .int .i64 (a : Int)), (2, .int .i64 (b : Int)), (3, .func (.func 123) #[] #[]), (8, .int .i64 (i : Int)), (9, .int .i64 (j : Int)), (34, .bool (decide (a < j ∧ R (g (j - 1)) < R (g i))))]) (fun _ => True) (fun _ => K W (lrow bo Lf n rest (insB g i j) :: N)) ?_ ?_
    · clear hM hO hj3;by_cases haj : a < j
      · have ejb : insB g i j (j - 1) = g (j - 1) := insB_bef (by omega);have ej1 : (j : Int) - 1 = ((j - 1 : Nat) : Int) := by omega
        have hgj := hgb (j - 1) (by omega);refine c_plan [.c 0, .c 1, .c 2, .c 3, .c 4, .c 5, .c 6, .c 7, .c 8, .c 9, .c 10, .c 11, .c 12, .c 13, .s 14, .c 15, .c 16] [] ((K W (lrow bo Lf n rest (insB g i j) :: N))) mixed (by kernel_rfl) rfl K.cl ?_;refine dy rfl (y_move rfl) (fun _ h => h) ?_;refine dy rfl (y_move rfl) (fun _ h => h) ?_;refine dy rfl (y_T (y_gtr rfl rfl) (by omega)) (fun _ h => h) ?_;refine dy rfl (y_move rfl) (fun _ h => h) ?_;refine dy rfl (y_move rfl) (fun _ h => h) ?_;refine dy rfl (y_move rfl) (fun _ h => h) ?_;refine dy rfl (y_move rfl) (fun _ h => h) ?_;refine dy rfl (y_indexAddr0 (s := 4) tab rfl rfl rfl rfl _ rfl (by omega)) (fun _ h => h) ?_;refine dy rfl (y_loadA tab rfl rfl rfl rfl (cells_lrow 0 rfl (by omega))) (fun _ h => h) ?_;refine dy rfl (y_move rfl) (fun _ h => h) ?_;refine dy rfl (y_move rfl) (fun _ h => h) ?_;refine dy rfl (y_sub rfl rfl (by omega)) (fun _ h => h) ?_;refine dy rfl (y_indexAddr0 (s := 4) tab rfl rfl rfl rfl _ (Int.toNat_of_nonneg (by omega)).symm (by omega)) (fun _ h => h) ?_;refine dy rfl (y_loadA tab rfl rfl rfl rfl (cells_lrow 0 rfl (by omega))) (fun _ h => h) ?_;rw [show ((j : Int) - 1).toNat = j - 1 by omega, ejb, ej];refine d_call rfl (en_v rfl rfl call123) (hcmp (g i) (g (j - 1)) hgi hgj) rfl rfl rfl (fun _ => K.cl) (fun _ _ _ h => h) (fun _ => ?_);by_cases hR : R (g (j - 1)) < R (g i)
        · rw [decide_eq_true ⟨haj, hR⟩];have hz := cmp3_neg.2 hR
          generalize cmp3 (R (g (j - 1))) (R (g i)) = z at hz ⊢
          clear hR;refine dy rfl (y_T (y_lss rfl rfl) (by assumption)) (fun _ h => h) ?_;refine dy rfl (y_pickT rfl rfl) (fun _ h => h) ?_;refine d_nil ?_;exact f_cutP () trivial ⟨rfl, rfl, rfl, rfl, rfl, rfl, rfl, trivial⟩ (fun w h => h)
        · rw [decide_eq_false (fun h => hR h.2)];have hz := mt cmp3_neg.1 hR
          generalize cmp3 (R (g (j - 1))) (R (g i)) = z at hz ⊢
          clear hR;refine dy rfl (y_F (y_lss rfl rfl) (by assumption)) (fun _ h => h) ?_;refine dy rfl (y_pickT rfl rfl) (fun _ h => h) ?_;refine d_nil ?_;exact f_cutP () trivial ⟨rfl, rfl, rfl, rfl, rfl, rfl, rfl, trivial⟩ (fun w h => h)
      · rw [decide_eq_false (fun h => haj h.1)];refine c_plan [.c 0, .c 1, .c 2, .c 3, .c 4, .c 5, .c 6, .c 7, .c 8, .c 9, .c 10, .c 11, .c 12, .c 13, .s 14, .c 15, .c 16] [] ((K W (lrow bo Lf n rest (insB g i j) :: N))) mixed (by kernel_rfl) rfl K.cl ?_;refine dy rfl (y_move rfl) (fun _ h => h) ?_;refine dy rfl (y_move rfl) (fun _ h => h) ?_;refine dy rfl (y_F (y_gtr rfl rfl) (by omega)) (fun _ h => h) ?_;refine dy rfl (y_move rfl) (fun _ h => h) ?_;refine d_skip rfl rfl rfl rfl (fun _ h => h) K.cl ?_;refine d_skip rfl rfl rfl rfl (fun _ h => h) K.cl ?_;refine d_skip rfl rfl rfl rfl (fun _ h => h) K.cl ?_;refine d_skip rfl rfl rfl rfl (fun _ h => h) K.cl ?_;refine d_skip rfl rfl rfl rfl (fun _ h => h) K.cl ?_;refine d_skip rfl rfl rfl rfl (fun _ h => h) K.cl ?_;refine d_skip rfl rfl rfl rfl (fun _ h => h) K.cl ?_;refine d_skip rfl rfl rfl rfl (fun _ h => h) K.cl ?_;refine d_skip rfl rfl rfl rfl (fun _ h => h) K.cl ?_;refine d_skip rfl rfl rfl rfl (fun _ h => h) K.cl ?_;refine d_sskip rfl rfl rfl rfl (fun _ _ h => h) ?_;refine d_skip rfl rfl rfl rfl (fun _ h => h) K.cl ?_;refine dy rfl (y_pickF rfl rfl) (fun _ h => h) ?_;refine d_nil ?_;exact f_cutP () trivial ⟨rfl, rfl, rfl, rfl, rfl, rfl, rfl, trivial⟩ (fun w h => h)
    rintro _ _;by_cases hgo : a < j ∧ R (g (j - 1)) < R (g i)
    · rw [decide_eq_true hgo];have ejb : insB g i j (j - 1) = g (j - 1) := insB_bef (by omega);have hnx := insB_next (f := g) (m := i) (i := j) (by omega) hj2;have hlt := (hM.key (i := j - 1) (j := i) (by omega) (by omega) (Nat.le_refl i) (by omega)).2 hgo.2;obtain ⟨haj, _⟩ := hgo;have ej1 : (j : Int) - 1 = ((j - 1 : Nat) : Int) := by omega
      refine c_condT rfl (c_skip (f_then (c_seq (c_block (c_planMs [2, 3, 4] [.c 0, .c 1, .c 5, .c 6, .c 7, .c 8, .c 9, .c 10, .c 11, .c 12, .c 13, .c 14, .s 15, .s 16, .s 17] [2, 3, 4, 15, 16, 17] (K W (lrow bo Lf n rest (insB g i j) :: N)) mixed (by kernel_rfl) rfl K.cl ?_)))));refine m_cons rfl (Qui.ylds (y_move rfl)) rfl rfl rfl K.cl ?_;refine m_cons rfl (Qui.ylds (y_move rfl)) rfl rfl rfl K.cl ?_;refine m_cons rfl (Qui.ylds (y_sub rfl rfl (by omega))) rfl rfl rfl K.cl ?_;refine m_nil ?_;refine dy rfl (y_move rfl) (fun _ h => h) ?_;refine dy rfl (y_move rfl) (fun _ h => h) ?_;refine dy rfl (y_move rfl) (fun _ h => h) ?_;refine dy rfl (y_move rfl) (fun _ h => h) ?_;refine dy rfl (y_sub rfl rfl (by omega)) (fun _ h => h) ?_;refine dy rfl (y_indexAddr0 (s := 4) tab rfl rfl rfl rfl _ (Int.toNat_of_nonneg (by omega)).symm (by omega)) (fun _ h => h) ?_;refine dy rfl (y_loadA tab rfl rfl rfl rfl (cells_lrow 0 rfl (by omega))) (fun _ h => h) ?_;refine dy rfl (y_move rfl) (fun _ h => h) ?_;refine dy rfl (y_move rfl) (fun _ h => h) ?_;refine dy rfl (y_indexAddr0 (s := 4) tab rfl rfl rfl rfl _ rfl (by omega)) (fun _ h => h) ?_;refine dy rfl (y_loadA tab rfl rfl rfl rfl (cells_lrow 0 rfl (by omega))) (fun _ h => h) ?_;refine dy rfl (y_indexAddr0 (s := 4) tab rfl rfl rfl rfl _ rfl (by omega)) (fun _ h => h) ?_;refine d_set rfl (set_lrow tab 0 _ rfl rfl rfl rfl (by omega)) rfl rfl K.cl (fun h => by cases h) ?_;refine d_sy rfl (y_indexAddr0 (s := 4) tab rfl rfl rfl rfl _ (Int.toNat_of_nonneg (by omega)).symm (by omega)) rfl rfl rfl K.cl (fun h => by cases h) ?_;refine d_set rfl (set_lrow tab 0 _ rfl rfl rfl rfl (by omega)) rfl rfl K.cl (fun h => by cases h) ?_;refine d_nil (f_blockN (f_then (c_region (sm ?_))));refine sy (y_sub rfl rfl (by omega)) ?_;refine sa ?_;refine s_nil ?_;exact f_roundP (j - 1) ⟨by omega, by omega, fun k k1 k2 => by
        by_cases c : k = j - 1
        · rw [c]; exact hlt
        · exact hj3 k (by omega) k2⟩ (by omega) ⟨rfl, rfl, rfl, rfl, rfl, congrArg (fun z => some (Value.int .i64 z)) (by omega), trivial⟩ (fun w h => by
          rw [← hnx];rw [show ((j : Int) - 1).toNat = j - 1 by omega] at h;exact h)
    · rw [decide_eq_false hgo];have hO2 := ins_out hM hO hj1 hj2 hj3 (fun h h2 => hgo ⟨h, (hM.key (i := j - 1) (j := i) (by omega) (by omega) (Nat.le_refl i) (by omega)).1 h2⟩);clear hM hO hj3 hgo hasc;refine c_condF rfl (c_exit (f_thenE (f_rndE (f_blockE (f_blockN (f_then (c_region (sm ?_))))))));refine sy (y_add rfl rfl (by omega)) ?_;refine sa ?_;refine s_nil ?_;exact f_roundP (i + 1, insB g i j) ⟨by dsimp only; omega, .inl hib, hO2⟩ (by dsimp only; omega) ⟨rfl, rfl, rfl, rfl, rfl, trivial⟩ (fun w h => h)
  · have hO2 : SOut R f g a b := by
      by_cases c : i = b
      · rw [← c]; exact hO
      · obtain rfl : i = a + 1 := by omega
        exact hO.one (by omega)
    clear hO hasc;refine c_seq (csr (sm ?_));refine sm ?_;refine sy (y_F (y_lss rfl rfl) (by omega)) ?_;refine snf (c_condF rfl (c_exit (f_thenE (f_rndE (f_blockE ?_)))));exact f_end ⟨g, hO2⟩ (res0 rfl) (fun w h => h)
end Go.KL
end

section
/- Walks: symMerge, where a part has one element. -/
namespace Go.KL
open Go.Proofs Go.Proofs.Tryz
attribute [local irreducible] SC St Fin Sq Ylds Doos Sets Enters Spec CellIs CellsAre Then Ret Rnd Chn resOK ints bools recs arr
theorem sym1_spec {W : World} {N : List Chunk} {Lf : Nat → Lk} {rest : List Value} {cp : Nat} {bo n a b : Nat} {R f : Nat → Nat} (hcmp : CmpL Lf n R) (hab : a + 1 < b) (hbn : b ≤ n) (hn : n ≤ 4096) (hf : ∀ k, k < n → f k < n) (hM : Mrg R f a (a + 1) b) : Spec prog 145 #[.slice (some ⟨bo, 0, none⟩) n cp, .int .i64 (a : Int), .int .i64 ((a + 1 : Nat) : Int), .int .i64 (b : Int), .func (.func 123) #[] #[]] (K W (lrow bo Lf n rest (f) :: N)) (X := { g : Nat → Nat // SOut R f g a b }) (fun _ => .tuple #[]) (fun g => K W (lrow bo Lf n rest (g.1) :: N)) := by
  refine enter (args := [_, _, _, _, _]) func145 rfl ntmps145 rfl ?_;refine c_seq (csr (sm ?_));refine sm ?_;refine sy (y_sub rfl rfl (by omega)) ?_;refine sy (y_T (y_eql rfl rfl) (by omega)) ?_;refine snf (c_condT rfl (csr (sm ?_)));refine sa ?_;refine snf (csr (sm ?_));refine sa ?_;refine snf (c_seq (c_block ?_));refine c_loopP (α := Nat × Nat) (fun z => [(0, .slice (some ⟨bo, 0, none⟩) n cp), (1, .int .i64 (a : Int)), (4, .func (.func 123) #[] #[]), (10, .int .i64 (z.1 : Int)), (11, .int .i64 (z.2 : Int))]) (fun z => a + 1 ≤ z.1 ∧ z.1 ≤ z.2 ∧ z.2 ≤ b ∧ (∀ k, a + 1 ≤ k → k < z.1 → ltR R (f k) (f a)) ∧ ∀ k, z.2 ≤ k → k < b → ¬ ltR R (f k) (f a)) (fun _ => K W (lrow bo Lf n rest (f) :: N)) (fun z => z.2 - z.1) (a + 1, b)
    ⟨rfl, rfl, rfl, rfl, rfl, trivial⟩ ⟨Nat.le_refl _, by dsimp only; omega, Nat.le_refl _, fun k h1 h2 => by dsimp only at h2; omega, fun k h1 h2 => by dsimp only at h1; omega⟩ (fun w h => h) ?_
  rintro ⟨i, j⟩ ⟨hi, hij, hj, hlo, hhi⟩;dsimp only at hi hij hj hlo hhi ⊢;by_cases hlt : i < j
  · obtain ⟨c, hc⟩ : ∃ c, c = (i + j) / 2 := ⟨_, rfl⟩;have hc1 : i ≤ c ∧ c < j := by omega
    have hkey := hM.key (i := a) (j := c) (Nat.le_refl a) (by omega) (by omega) (by omega);have hfc := hf c (by omega);have hfa := hf a (by omega);refine c_seq (csr (sm ?_));refine sm ?_;refine sy (y_T (y_lss rfl rfl) (by omega)) ?_;refine snf (c_condT rfl (c_skip (f_then (c_block (csr (sm ?_))))));refine sm ?_;refine sy (y_add rfl rfl (by omega)) ?_;refine sy (y_to64 tab rfl rfl rfl (by omega)) ?_;refine sy (y_shrU (d := 2) rfl rfl (by decide) rfl) ?_;refine sy (y_toI tab rfl rfl rfl (by omega)) ?_;refine sa ?_;refine snf (c_seq (c_quiet mixed (by kernel_rfl) K.drew ?_));refine q_y (y_move rfl) rfl rfl rfl ?_;refine q_y (y_move rfl) rfl rfl rfl ?_;refine q_y (y_move rfl) rfl rfl rfl ?_;refine q_y (y_indexAddr0 (s := 4) tab rfl rfl rfl rfl _ (Int.toNat_of_nonneg (by omega)).symm (by omega)) rfl rfl rfl ?_;refine q_y (y_loadA tab rfl rfl rfl rfl (cells_lrow 0 rfl (by omega))) rfl rfl rfl ?_;refine q_y (y_move rfl) rfl rfl rfl ?_;refine q_y (y_move rfl) rfl rfl rfl ?_;refine q_y (y_indexAddr0 (s := 4) tab rfl rfl rfl rfl _ rfl (by omega)) rfl rfl rfl ?_;refine q_y (y_loadA tab rfl rfl rfl rfl (cells_lrow 0 rfl (by omega))) rfl rfl rfl ?_;rw [show (((i : Int) + (j : Int)) / 2).toNat = c by omega];refine q_call (en_v rfl rfl call123) (hcmp (f c) (f a) hfc hfa) rfl rfl rfl ?_;by_cases hR : R (f a) < R (f c)
    · have hz := cmp3_neg.2 hR;have hl := hkey.2 hR
      generalize cmp3 (R (f a)) (R (f c)) = z at hz ⊢
      clear hR hkey;refine q_y (y_T (y_lss rfl rfl) (by assumption)) rfl rfl rfl ?_;refine q_nil (f_then (c_condT rfl (c_region (sm ?_))));refine sy (y_add rfl rfl (by omega)) ?_;refine sa ?_;refine s_nil (f_blockN ?_);exact f_roundP (c + 1, j) ⟨by dsimp only; omega, by dsimp only; omega, hj, fun k h1 h2 => by
        by_cases hk : k = c
        · rw [hk]; exact hl
        · exact ltR_trans (hM.right k c h1 (by dsimp only at h2; omega) (by omega)) hl, hhi⟩ (by dsimp only; omega) ⟨rfl, rfl, rfl, congrArg (fun z => some (Value.int .i64 z)) (by dsimp only; omega), rfl, trivial⟩ (fun w h => h)
    · have hz := mt cmp3_neg.1 hR;have hl : ¬ ltR R (f c) (f a) := fun h => hR (hkey.1 h)
      generalize cmp3 (R (f a)) (R (f c)) = z at hz ⊢
      clear hR hkey;refine q_y (y_F (y_lss rfl rfl) (by assumption)) rfl rfl rfl ?_;refine q_nil (f_then (c_condF rfl (c_region (sm ?_))));refine sa ?_;refine s_nil (f_blockN ?_);exact f_roundP (i, c) ⟨hi, by dsimp only; omega, by dsimp only; omega, hlo, fun k h1 h2 => by
        by_cases hk : k = c
        · rw [hk]; exact hl
        · exact fun h => hl (ltR_trans (hM.right c k (by omega) (by dsimp only at h1; omega) h2) h)⟩ (by dsimp only; omega) ⟨rfl, rfl, rfl, rfl, congrArg (fun z => some (Value.int .i64 z)) (by dsimp only; omega), trivial⟩ (fun w h => h)
  · obtain rfl : i = j := by omega
    have hO := mrg_left hM hi hj hlo hhi;clear hlo hhi hM hf;refine c_seq (csr (sm ?_));refine sm ?_;refine sy (y_F (y_lss rfl rfl) (by omega)) ?_;refine snf (c_condF rfl (c_exit (f_thenE (f_rndE (f_blockE (f_then (c_seq (csr (sm ?_)))))))));refine sa ?_;refine snf (c_block ?_);refine c_loopP (α := Nat) (fun z => [(0, .slice (some ⟨bo, 0, none⟩) n cp), (10, .int .i64 (i : Int)), (13, .int .i64 (z : Int))]) (fun z => a ≤ z ∧ z ≤ i - 1) (fun z => K W (lrow bo Lf n rest (insF f a z) :: N)) (fun z => i - z) a
      ⟨rfl, rfl, rfl, trivial⟩ ⟨Nat.le_refl _, by omega⟩ (fun w h => by rw [insF_zero]; exact h) ?_
    rintro k ⟨hk1, hk2⟩;by_cases hki : k < i - 1
    · have hnx := insF_next (f := f) hk1;clear hO;refine c_seq (csr (sm ?_));refine sm ?_;refine sy (y_sub rfl rfl (by omega)) ?_;refine sy (y_T (y_lss rfl rfl) (by omega)) ?_;refine snf (c_condT rfl (c_skip (f_then (c_seq (c_block (c_planMs [2, 3, 4] [.c 0, .c 1, .c 5, .c 6, .c 7, .c 8, .c 9, .c 10, .c 11, .c 12, .c 13, .c 14, .s 15, .s 16, .s 17] [2, 3, 4, 15, 16, 17] (K W (lrow bo Lf n rest (insF f a k) :: N)) mixed (by kernel_rfl) rfl K.cl ?_))))));refine m_cons rfl (Qui.ylds (y_move rfl)) rfl rfl rfl K.cl ?_;refine m_cons rfl (Qui.ylds (y_move rfl)) rfl rfl rfl K.cl ?_;refine m_cons rfl (Qui.ylds (y_add rfl rfl (by omega))) rfl rfl rfl K.cl ?_;refine m_nil ?_;refine dy rfl (y_move rfl) (fun _ h => h) ?_;refine dy rfl (y_move rfl) (fun _ h => h) ?_;refine dy rfl (y_move rfl) (fun _ h => h) ?_;refine dy rfl (y_move rfl) (fun _ h => h) ?_;refine dy rfl (y_add rfl rfl (by omega)) (fun _ h => h) ?_;refine dy rfl (y_indexAddr0 (s := 4) tab rfl rfl rfl rfl _ (Int.toNat_of_nonneg (by omega)).symm (by omega)) (fun _ h => h) ?_;refine dy rfl (y_loadA tab rfl rfl rfl rfl (cells_lrow 0 rfl (by omega))) (fun _ h => h) ?_;refine dy rfl (y_move rfl) (fun _ h => h) ?_;refine dy rfl (y_move rfl) (fun _ h => h) ?_;refine dy rfl (y_indexAddr0 (s := 4) tab rfl rfl rfl rfl _ rfl (by omega)) (fun _ h => h) ?_;refine dy rfl (y_loadA tab rfl rfl rfl rfl (cells_lrow 0 rfl (by omega))) (fun _ h => h) ?_;refine dy rfl (y_indexAddr0 (s := 4) tab rfl rfl rfl rfl _ rfl (by omega)) (fun _ h => h) ?_;refine d_set rfl (set_lrow tab 0 _ rfl rfl rfl rfl (by omega)) rfl rfl K.cl (fun h => by cases h) ?_;refine d_sy rfl (y_indexAddr0 (s := 4) tab rfl rfl rfl rfl _ (Int.toNat_of_nonneg (by omega)).symm (by omega)) rfl rfl rfl K.cl (fun h => by cases h) ?_;refine d_set rfl (set_lrow tab 0 _ rfl rfl rfl rfl (by omega)) rfl rfl K.cl (fun h => by cases h) ?_;refine d_nil (f_blockN (f_then (c_region (sm ?_))));refine sy (y_add rfl rfl (by omega)) ?_;refine sa ?_;refine s_nil ?_;exact f_roundP (k + 1) ⟨by omega, by omega⟩ (by omega) ⟨rfl, rfl, rfl, trivial⟩ (fun w h => by
        rw [← hnx];exact h)
    · obtain rfl : k = i - 1 := by omega
      refine c_seq (csr (sm ?_));refine sm ?_;refine sy (y_sub rfl rfl (by omega)) ?_;refine sy (y_F (y_lss rfl rfl) (by omega)) ?_;refine snf (c_condF rfl (c_exit (f_thenE (f_rndE (f_blockE (f_then (c_ret (f_thenR ?_))))))));exact f_ret ⟨_, hO⟩ (res0 rfl) (fun w h => h)
theorem sym2_spec {W : World} {N : List Chunk} {Lf : Nat → Lk} {rest : List Value} {cp : Nat} {bo n a m : Nat} {R f : Nat → Nat} (hcmp : CmpL Lf n R) (hab : a + 1 < m) (hbn : m + 1 ≤ n) (hn : n ≤ 4096) (hf : ∀ k, k < n → f k < n) (hM : Mrg R f a m (m + 1)) : Spec prog 145 #[.slice (some ⟨bo, 0, none⟩) n cp, .int .i64 (a : Int), .int .i64 (m : Int), .int .i64 ((m + 1 : Nat) : Int), .func (.func 123) #[] #[]] (K W (lrow bo Lf n rest (f) :: N)) (X := { g : Nat → Nat // SOut R f g a (m + 1) }) (fun _ => .tuple #[]) (fun g => K W (lrow bo Lf n rest (g.1) :: N)) := by
  refine enter (args := [_, _, _, _, _]) func145 rfl ntmps145 rfl ?_;refine c_seq (csr (sm ?_));refine sm ?_;refine sy (y_sub rfl rfl (by omega)) ?_;refine sy (y_F (y_eql rfl rfl) (by omega)) ?_;refine snf (c_condF rfl (c_skip (f_then (c_seq (csr (sm ?_))))));refine sm ?_;refine sy (y_sub rfl rfl (by omega)) ?_;refine sy (y_T (y_eql rfl rfl) (by omega)) ?_;refine snf (c_condT rfl (csr (sm ?_)));refine sa ?_;refine snf (csr (sm ?_));refine sa ?_;refine snf (c_seq (c_block ?_));refine c_loopP (α := Nat × Nat) (fun z => [(0, .slice (some ⟨bo, 0, none⟩) n cp), (2, .int .i64 (m : Int)), (4, .func (.func 123) #[] #[]), (14, .int .i64 (z.1 : Int)), (15, .int .i64 (z.2 : Int))]) (fun z => a ≤ z.1 ∧ z.1 ≤ z.2 ∧ z.2 ≤ m ∧ (∀ k, a ≤ k → k < z.1 → ¬ ltR R (f m) (f k)) ∧ ∀ k, z.2 ≤ k → k < m → ltR R (f m) (f k)) (fun _ => K W (lrow bo Lf n rest (f) :: N)) (fun z => z.2 - z.1) (a, m)
    ⟨rfl, rfl, rfl, rfl, rfl, trivial⟩ ⟨Nat.le_refl _, by dsimp only; omega, Nat.le_refl _, fun k h1 h2 => by dsimp only at h2; omega, fun k h1 h2 => by dsimp only at h1; omega⟩ (fun w h => h) ?_
  rintro ⟨i, j⟩ ⟨hi, hij, hj, hlo, hhi⟩;dsimp only at hi hij hj hlo hhi ⊢;by_cases hlt : i < j
  · obtain ⟨c, hc⟩ : ∃ c, c = (i + j) / 2 := ⟨_, rfl⟩;have hc1 : i ≤ c ∧ c < j := by omega
    have hkey := hM.key (i := c) (j := m) (by omega) (by omega) (Nat.le_refl m) (by omega);have hfc := hf c (by omega);have hfa := hf m (by omega);refine c_seq (csr (sm ?_));refine sm ?_;refine sy (y_T (y_lss rfl rfl) (by omega)) ?_;refine snf (c_condT rfl (c_skip (f_then (c_block (csr (sm ?_))))));refine sm ?_;refine sy (y_add rfl rfl (by omega)) ?_;refine sy (y_to64 tab rfl rfl rfl (by omega)) ?_;refine sy (y_shrU (d := 2) rfl rfl (by decide) rfl) ?_;refine sy (y_toI tab rfl rfl rfl (by omega)) ?_;refine sa ?_;refine snf (c_seq (c_quiet mixed (by kernel_rfl) K.drew ?_));refine q_y (y_move rfl) rfl rfl rfl ?_;refine q_y (y_move rfl) rfl rfl rfl ?_;refine q_y (y_move rfl) rfl rfl rfl ?_;refine q_y (y_indexAddr0 (s := 4) tab rfl rfl rfl rfl _ rfl (by omega)) rfl rfl rfl ?_;refine q_y (y_loadA tab rfl rfl rfl rfl (cells_lrow 0 rfl (by omega))) rfl rfl rfl ?_;refine q_y (y_move rfl) rfl rfl rfl ?_;refine q_y (y_move rfl) rfl rfl rfl ?_;refine q_y (y_indexAddr0 (s := 4) tab rfl rfl rfl rfl _ (Int.toNat_of_nonneg (by omega)).symm (by omega)) rfl rfl rfl ?_;refine q_y (y_loadA tab rfl rfl rfl rfl (cells_lrow 0 rfl (by omega))) rfl rfl rfl ?_;rw [show (((i : Int) + (j : Int)) / 2).toNat = c by omega];refine q_call (en_v rfl rfl call123) (hcmp (f m) (f c) hfa hfc) rfl rfl rfl ?_;by_cases hR : R (f c) < R (f m)
    · have hz := cmp3_neg.2 hR;have hl := hkey.2 hR
      generalize cmp3 (R (f c)) (R (f m)) = z at hz ⊢
      clear hR hkey;refine q_y (y_T (y_lss rfl rfl) (by assumption)) rfl rfl rfl ?_;refine q_y (y_notT rfl) rfl rfl rfl ?_;refine q_nil (f_then (c_condF rfl (c_region (sm ?_))));refine sa ?_;refine s_nil (f_blockN ?_);exact f_roundP (i, c) ⟨hi, by dsimp only; omega, by dsimp only; omega, hlo, fun k h1 h2 => by
        by_cases hk : k = c
        · rw [hk]; exact hl
        · exact ltR_trans hl (hM.left c k (by omega) (by dsimp only at h1; omega) h2)⟩ (by dsimp only; omega) ⟨rfl, rfl, rfl, rfl, congrArg (fun z => some (Value.int .i64 z)) (by dsimp only; omega), trivial⟩ (fun w h => h)
    · have hz := mt cmp3_neg.1 hR;have hl : ¬ ltR R (f m) (f c) := fun h => hR (hkey.1 h)
      generalize cmp3 (R (f c)) (R (f m)) = z at hz ⊢
      clear hR hkey;refine q_y (y_F (y_lss rfl rfl) (by assumption)) rfl rfl rfl ?_;refine q_y (y_notF rfl) rfl rfl rfl ?_;refine q_nil (f_then (c_condT rfl (c_region (sm ?_))));refine sy (y_add rfl rfl (by omega)) ?_;refine sa ?_;refine s_nil (f_blockN ?_);exact f_roundP (c + 1, j) ⟨by dsimp only; omega, by dsimp only; omega, hj, fun k h1 h2 => by
        by_cases hk : k = c
        · rw [hk]; exact hl
        · exact fun h => hl (ltR_trans h (hM.left k c h1 (by dsimp only at h2; omega) (by omega))), hhi⟩ (by dsimp only; omega) ⟨rfl, rfl, rfl, congrArg (fun z => some (Value.int .i64 z)) (by dsimp only; omega), rfl, trivial⟩ (fun w h => h)
  · obtain rfl : i = j := by omega
    have hO := mrg_right hM hi hj hlo hhi;clear hlo hhi hM hf;refine c_seq (csr (sm ?_));refine sm ?_;refine sy (y_F (y_lss rfl rfl) (by omega)) ?_;refine snf (c_condF rfl (c_exit (f_thenE (f_rndE (f_blockE (f_then (c_seq (csr (sm ?_)))))))));refine sa ?_;refine snf (c_block ?_);refine c_loopP (α := Nat) (fun z => [(0, .slice (some ⟨bo, 0, none⟩) n cp), (14, .int .i64 (i : Int)), (17, .int .i64 (z : Int))]) (fun z => i ≤ z ∧ z ≤ m) (fun z => K W (lrow bo Lf n rest (insB f m z) :: N)) (fun z => z) m
      ⟨rfl, rfl, rfl, trivial⟩ ⟨hj, Nat.le_refl _⟩ (fun w h => by rw [insB_zero]; exact h) ?_
    rintro k ⟨hk1, hk2⟩;by_cases hki : i < k
    · have hnx := insB_next (f := f) (m := m) (i := k) (by omega) hk2;clear hO;refine c_seq (csr (sm ?_));refine sm ?_;refine sy (y_T (y_gtr rfl rfl) (by omega)) ?_;refine snf (c_condT rfl (c_skip (f_then (c_seq (c_block (c_planMs [2, 3, 4] [.c 0, .c 1, .c 5, .c 6, .c 7, .c 8, .c 9, .c 10, .c 11, .c 12, .c 13, .c 14, .s 15, .s 16, .s 17] [2, 3, 4, 15, 16, 17] (K W (lrow bo Lf n rest (insB f m k) :: N)) mixed (by kernel_rfl) rfl K.cl ?_))))));refine m_cons rfl (Qui.ylds (y_move rfl)) rfl rfl rfl K.cl ?_;refine m_cons rfl (Qui.ylds (y_move rfl)) rfl rfl rfl K.cl ?_;refine m_cons rfl (Qui.ylds (y_sub rfl rfl (by omega))) rfl rfl rfl K.cl ?_;refine m_nil ?_;refine dy rfl (y_move rfl) (fun _ h => h) ?_;refine dy rfl (y_move rfl) (fun _ h => h) ?_;refine dy rfl (y_move rfl) (fun _ h => h) ?_;refine dy rfl (y_move rfl) (fun _ h => h) ?_;refine dy rfl (y_sub rfl rfl (by omega)) (fun _ h => h) ?_;refine dy rfl (y_indexAddr0 (s := 4) tab rfl rfl rfl rfl _ (Int.toNat_of_nonneg (by omega)).symm (by omega)) (fun _ h => h) ?_;refine dy rfl (y_loadA tab rfl rfl rfl rfl (cells_lrow 0 rfl (by omega))) (fun _ h => h) ?_;refine dy rfl (y_move rfl) (fun _ h => h) ?_;refine dy rfl (y_move rfl) (fun _ h => h) ?_;refine dy rfl (y_indexAddr0 (s := 4) tab rfl rfl rfl rfl _ rfl (by omega)) (fun _ h => h) ?_;refine dy rfl (y_loadA tab rfl rfl rfl rfl (cells_lrow 0 rfl (by omega))) (fun _ h => h) ?_;refine dy rfl (y_indexAddr0 (s := 4) tab rfl rfl rfl rfl _ rfl (by omega)) (fun _ h => h) ?_;refine d_set rfl (set_lrow tab 0 _ rfl rfl rfl rfl (by omega)) rfl rfl K.cl (fun h => by cases h) ?_;refine d_sy rfl (y_indexAddr0 (s := 4) tab rfl rfl rfl rfl _ (Int.toNat_of_nonneg (by omega)).symm (by omega)) rfl rfl rfl K.cl (fun h => by cases h) ?_;refine d_set rfl (set_lrow tab 0 _ rfl rfl rfl rfl (by omega)) rfl rfl K.cl (fun h => by cases h) ?_;refine d_nil (f_blockN (f_then (c_region (sm ?_))));refine sy (y_sub rfl rfl (by omega)) ?_;refine sa ?_;refine s_nil ?_;exact f_roundP (k - 1) ⟨by omega, by omega⟩ (by omega) ⟨rfl, rfl, congrArg (fun z => some (Value.int .i64 z)) (by omega), trivial⟩ (fun w h => by
        rw [← hnx];rw [show ((k : Int) - 1).toNat = k - 1 by omega] at h;exact h)
    · obtain rfl : k = i := by omega
      refine c_seq (csr (sm ?_));refine sm ?_;refine sy (y_F (y_gtr rfl rfl) (by omega)) ?_;refine snf (c_condF rfl (c_exit (f_thenE (f_rndE (f_blockE (f_then (c_ret (f_thenR ?_))))))));exact f_ret ⟨_, hO⟩ (res0 rfl) (fun w h => h)
end Go.KL
end

section
/- Walks: symMerge. -/
namespace Go.KL
open Go.Proofs Go.Proofs.Tryz
theorem rotF_triv {f : Nat → Nat} {s m e : Nat} (h : s = m ∨ m = e) (h1 : s ≤ m) (h2 : m ≤ e) : rotF f s m e = f := by
  funext t;unfold rotF
  (repeat' split) <;> first | rfl | (exfalso; omega) | (congr 1; omega)
theorem Mrg.congr {R : Nat → Nat} {f g : Nat → Nat} {a m b : Nat} (h : Mrg R f a m b) (hg : ∀ i, a ≤ i → i < b → g i = f i) (h1 : a ≤ m) (h2 : m ≤ b) : Mrg R g a m b := by
  refine ⟨fun i j i1 i2 i3 => ?_, fun i j i1 i2 i3 => ?_, fun i j i1 i2 i3 i4 => ?_⟩
  · rw [hg i (by omega) (by omega), hg j (by omega) (by omega)];exact h.left i j i1 i2 i3
  · rw [hg i (by omega) (by omega), hg j (by omega) (by omega)];exact h.right i j i1 i2 i3
  · rw [hg i (by omega) (by omega), hg j (by omega) (by omega)];exact h.ix i j i1 i2 i3 i4
theorem Mrg.side {R : Nat → Nat} {f : Nat → Nat} {a m b : Nat} (h : Mrg R f a m b) (hm : m = a ∨ m = b) : Srt R f a b := by
  rcases hm with rfl | rfl
  · exact h.right
  · exact h.left
theorem rot_bd {f : Nat → Nat} {s m e n : Nat} (hf : ∀ k, k < n → f k < n) (h1 : s ≤ m) (h2 : m ≤ e) (h3 : e ≤ n) : ∀ k, k < n → rotF f s m e k < n := by
  intro k hk;unfold rotF;split
  · exact hf _ (by omega)
  · split
    · exact hf _ (by omega)
    · exact hf _ hk
attribute [local irreducible] SC St Fin Sq Ylds Doos Sets Enters Spec CellIs CellsAre Then Ret Rnd Chn resOK ints bools recs arr
theorem symMerge_spec {W : World} {N : List Chunk} {Lf : Nat → Lk} {rest : List Value} {cp : Nat} {bo n : Nat} {R : Nat → Nat} (hcmp : CmpL Lf n R) (hn : n ≤ 4096) : ∀ (d : Nat) {a m b : Nat} {f : Nat → Nat} (_ : b - a ≤ d) (_ : a < m) (_ : m < b) (_ : b ≤ n) (_ : ∀ k, k < n → f k < n) (_ : Mrg R f a m b), Spec prog 145 #[.slice (some ⟨bo, 0, none⟩) n cp, .int .i64 (a : Int), .int .i64 (m : Int), .int .i64 (b : Int), .func (.func 123) #[] #[]] (K W (lrow bo Lf n rest (f) :: N)) (X := { g : Nat → Nat // SOut R f g a b }) (fun _ => .tuple #[]) (fun g => K W (lrow bo Lf n rest (g.1) :: N)) := by
  intro d;induction d with
  | zero =>
    intro a m b f h1 h2 h3;omega
  | succ d ih =>
    intro a m b f hd ham hmb hbn hf hM;by_cases c1 : m = a + 1
    · subst c1;exact sym1_spec hcmp hmb hbn hn hf hM
    by_cases c2 : b = m + 1
    · subst c2;exact sym2_spec hcmp (by omega) hbn hn hf hM
    obtain ⟨mid, hmid⟩ : ∃ mid, mid = (a + b) / 2 := ⟨_, rfl⟩;have hmi : ((a : Int) + (b : Int)) / 2 = (mid : Int) := by omega
    have hm1 : a < mid ∧ mid < b := by omega
    have hm2 : 2 * mid ≤ a + b ∧ a + b ≤ 2 * mid + 1 := by omega
    clear hmid;refine enter (args := [_, _, _, _, _]) func145 rfl ntmps145 rfl ?_;refine c_seq (csr (sm ?_));refine sm ?_;refine sy (y_sub rfl rfl (by omega)) ?_;refine sy (y_F (y_eql rfl rfl) (by omega)) ?_;refine snf (c_condF rfl (c_skip (f_then (c_seq (csr (sm ?_))))));refine sm ?_;refine sy (y_sub rfl rfl (by omega)) ?_;refine sy (y_F (y_eql rfl rfl) (by omega)) ?_;refine snf (c_condF rfl (c_skip (f_then (csr (sm ?_)))));refine sm ?_;refine sy (y_add rfl rfl (by omega)) ?_;refine sy (y_to64 tab rfl rfl rfl (by omega)) ?_;refine sy (y_shrU (d := 2) rfl rfl (by decide) rfl) ?_;refine sy (y_toI tab rfl rfl rfl (by omega)) ?_;refine sa ?_;refine snf (csr (sm ?_));refine sm ?_;refine sy (y_add rfl rfl (by omega)) ?_;refine sa ?_;refine snf (csr (sa ?_));refine sa ?_;refine snf (c_seq (csr (sm ?_)));refine sm ?_;refine sy (y_gtr rfl rfl) ?_;refine snf ?_;rw [hmi];refine c_then_cut (α := Nat × Nat) (fun z => [(0, .slice (some ⟨bo, 0, none⟩) n cp), (1, .int .i64 (a : Int)), (2, .int .i64 (m : Int)), (3, .int .i64 (b : Int)), (4, .func (.func 123) #[] #[]), (18, .int .i64 (mid : Int)), (19, .int .i64 ((mid + m : Nat) : Int)), (20, .int .i64 (z.1 : Int)), (21, .int .i64 (z.2 : Int))]) (fun z => a ≤ z.1 ∧ z.1 ≤ z.2 ∧ z.2 ≤ m ∧ z.2 ≤ mid ∧ mid + m ≤ b + z.1 ∧ (z.1 = a ∨ mid + m = b + z.1) ∧ (z.2 = m ∨ z.2 = mid)) (fun _ => K W (lrow bo Lf n rest (f) :: N)) ?_ ?_
    · by_cases hmm : mid < m
      · rw [decide_eq_true (by omega)];refine c_condT rfl (csr (sm ?_));refine sm ?_;refine sy (y_sub rfl rfl (by omega)) ?_;refine sa ?_;refine snf (c_region (sm ?_));refine sa ?_;refine s_nil ?_;exact f_cutP (mid + m - b, mid) ⟨by dsimp only; omega, by dsimp only; omega, by dsimp only; omega, Nat.le_refl _, by dsimp only; omega, .inr (by dsimp only; omega), .inr rfl⟩ ⟨rfl, rfl, rfl, rfl, rfl, rfl, rfl, congrArg (fun z => some (Value.int .i64 z)) (by dsimp only; omega), rfl, trivial⟩ (fun w h => h)
      · rw [decide_eq_false (by omega)];refine c_condF rfl (csr (sm ?_));refine sa ?_;refine snf (c_region (sm ?_));refine sa ?_;refine s_nil ?_;exact f_cutP (a, m) ⟨Nat.le_refl _, by dsimp only; omega, Nat.le_refl _, by dsimp only; omega, by dsimp only; omega, .inl rfl, .inl rfl⟩ ⟨rfl, rfl, rfl, rfl, rfl, rfl, rfl, rfl, rfl, trivial⟩ (fun w h => h)
    rintro ⟨s0, r0⟩ ⟨j1, j2, j3, j4, j5, j6, j7⟩;dsimp only at j1 j2 j3 j4 j5 j6 j7 ⊢;refine csr (sm ?_);refine sy (y_sub rfl rfl (by omega)) ?_;refine sa ?_;refine snf (c_seq (c_block ?_));refine c_loopP (α := Nat × Nat) (fun z => [(0, .slice (some ⟨bo, 0, none⟩) n cp), (1, .int .i64 (a : Int)), (2, .int .i64 (m : Int)), (3, .int .i64 (b : Int)), (4, .func (.func 123) #[] #[]), (18, .int .i64 (mid : Int)), (19, .int .i64 ((mid + m : Nat) : Int)), (20, .int .i64 (z.1 : Int)), (21, .int .i64 (z.2 : Int)), (22, .int .i64 (((mid + m : Nat) : Int) - 1))]) (fun z => s0 ≤ z.1 ∧ z.1 ≤ z.2 ∧ z.2 ≤ r0 ∧ (s0 < z.1 → ltR R (f (z.1 - 1)) (f (mid + m - z.1))) ∧ (z.2 < r0 → ltR R (f (mid + m - 1 - z.2)) (f z.2))) (fun _ => K W (lrow bo Lf n rest (f) :: N)) (fun z => z.2 - z.1) (s0, r0)
      ⟨rfl, rfl, rfl, rfl, rfl, rfl, rfl, rfl, rfl, rfl, trivial⟩ ⟨Nat.le_refl _, j2, Nat.le_refl _, fun h => absurd h (Nat.lt_irrefl _), fun h => absurd h (Nat.lt_irrefl _)⟩ (fun w h => h) ?_
    rintro ⟨s, r⟩ ⟨k1, k2, k3, k4, k5⟩;dsimp only at k1 k2 k3 k4 k5 ⊢;by_cases hsr : s < r
    · obtain ⟨c, hc⟩ : ∃ c, c = (s + r) / 2 := ⟨_, rfl⟩;have hc1 : s ≤ c ∧ c < r := by omega
      have hkey := hM.key (i := c) (j := mid + m - 1 - c) (by omega) (by omega) (by omega) (by omega);have hord := hM.ord (i := c) (j := mid + m - 1 - c) (by omega) (by omega) (by omega) (by omega);have hfc := hf c (by omega);have hfp := hf (mid + m - 1 - c) (by omega);have k4' : ∀ _ : Unit, (s0 < s → ltR R (f (s - 1)) (f (mid + m - s))) := fun _ => k4;have k5' : ∀ _ : Unit, (r < r0 → ltR R (f (mid + m - 1 - r)) (f r)) := fun _ => k5;clear ih k4 k5 j6 j7;have e1 : (((s : Int) + (r : Int)) / 2).toNat = c := by omega
      have e2 : (((mid + m : Nat) : Int) - 1 - ((s : Int) + (r : Int)) / 2).toNat = mid + m - 1 - c := by omega
      refine c_seq (csr (sm ?_));refine sm ?_;refine sy (y_T (y_lss rfl rfl) (by omega)) ?_;refine snf (c_condT rfl (c_skip (f_then (c_block (csr (sm ?_))))));refine sm ?_;refine sy (y_add rfl rfl (by omega)) ?_;refine sy (y_to64 tab rfl rfl rfl (by omega)) ?_;refine sy (y_shrU (d := 2) rfl rfl (by decide) rfl) ?_;refine sy (y_toI tab rfl rfl rfl (by omega)) ?_;refine sa ?_;refine snf (c_seq (c_quiet mixed (by kernel_rfl) K.drew ?_));refine q_y (y_move rfl) rfl rfl rfl ?_;refine q_y (y_move rfl) rfl rfl rfl ?_;refine q_y (y_move rfl) rfl rfl rfl ?_;refine q_y (y_move rfl) rfl rfl rfl ?_;refine q_y (y_sub rfl rfl (by omega)) rfl rfl rfl ?_;refine q_y (y_indexAddr0 (s := 4) tab rfl rfl rfl rfl _ (Int.toNat_of_nonneg (by omega)).symm (by omega)) rfl rfl rfl ?_;refine q_y (y_loadA tab rfl rfl rfl rfl (cells_lrow 0 rfl (by omega))) rfl rfl rfl ?_;refine q_y (y_move rfl) rfl rfl rfl ?_;refine q_y (y_move rfl) rfl rfl rfl ?_;refine q_y (y_indexAddr0 (s := 4) tab rfl rfl rfl rfl _ (Int.toNat_of_nonneg (by omega)).symm (by omega)) rfl rfl rfl ?_;refine q_y (y_loadA tab rfl rfl rfl rfl (cells_lrow 0 rfl (by omega))) rfl rfl rfl ?_;rw [e1, e2];refine q_call (en_v rfl rfl call123) (hcmp (f (mid + m - 1 - c)) (f c) hfp hfc) rfl rfl rfl ?_;by_cases hR : R (f c) < R (f (mid + m - 1 - c))
      · have hz := cmp3_neg.2 hR;have hl := hkey.2 hR
        generalize cmp3 (R (f c)) (R (f (mid + m - 1 - c))) = z at hz ⊢
        clear hR hkey;refine q_y (y_T (y_lss rfl rfl) (by assumption)) rfl rfl rfl ?_;refine q_y (y_notT rfl) rfl rfl rfl ?_;refine q_nil (f_then (c_condF rfl (c_region (sm ?_))));refine sa ?_;refine s_nil (f_blockN ?_);exact f_roundP (s, c) ⟨k1, by dsimp only; omega, by dsimp only; omega, k4' (), fun _ => hl⟩ (by dsimp only; omega) ⟨rfl, rfl, rfl, rfl, rfl, rfl, rfl, rfl, congrArg (fun z => some (Value.int .i64 z)) (by dsimp only; omega), rfl, trivial⟩ (fun w h => h)
      · have hz := mt cmp3_neg.1 hR;have hl := hord.1 (fun h => hR (hkey.1 h))
        generalize cmp3 (R (f c)) (R (f (mid + m - 1 - c))) = z at hz ⊢
        clear hR hkey;refine q_y (y_F (y_lss rfl rfl) (by assumption)) rfl rfl rfl ?_;refine q_y (y_notF rfl) rfl rfl rfl ?_;refine q_nil (f_then (c_condT rfl (c_region (sm ?_))));refine sy (y_add rfl rfl (by omega)) ?_;refine sa ?_;refine s_nil (f_blockN ?_);exact f_roundP (c + 1, r) ⟨by dsimp only; omega, by dsimp only; omega, k3, fun _ => by
          rw [Nat.add_sub_cancel, show mid + m - (c + 1) = mid + m - 1 - c by omega];exact hl, k5' ()⟩ (by dsimp only; omega) ⟨rfl, rfl, rfl, rfl, rfl, rfl, rfl, congrArg (fun z => some (Value.int .i64 z)) (by dsimp only; omega), rfl, rfl, trivial⟩ (fun w h => h)
    · obtain rfl : s = r := by omega
      have hC := cut_found (mid := mid) hM j1 k1 k3 j3 (by omega) (by omega) (by omega) j6 j7 k4 k5;obtain ⟨e, he⟩ : ∃ e, e = mid + m - s := ⟨_, rfl⟩;rw [← he] at hC;have he1 : ((mid + m : Nat) : Int) - (s : Int) = (e : Int) := by omega
      clear k4 k5 j6 j7 hcmp;refine c_seq (csr (sm ?_));refine sm ?_;refine sy (y_F (y_lss rfl rfl) (by omega)) ?_;refine snf (c_condF rfl (c_exit (f_thenE (f_rndE (f_blockE (f_then (csr (sm ?_))))))));refine sm ?_;refine sy (y_sub rfl rfl (by omega)) ?_;refine sa ?_;refine snf ?_;rw [he1];have hc := mrg_cut hM hC;obtain ⟨q1, q2, q3, q4, q5⟩ : a ≤ s ∧ s ≤ m ∧ m ≤ e ∧ e ≤ b ∧ e + s = mid + m := ⟨hC.as', hC.sm, hC.me, hC.eb, hC.sum⟩;have hg0 := rot_bd hf q2 q3 (show e ≤ n by omega);obtain ⟨g0, hg⟩ : ∃ g0, g0 = rotF f s m e := ⟨_, rfl⟩;refine c_seq ?_;refine c_then_cut (α := Unit) (fun _ => [(0, .slice (some ⟨bo, 0, none⟩) n cp), (1, .int .i64 (a : Int)), (2, .int .i64 (m : Int)), (3, .int .i64 (b : Int)), (4, .func (.func 123) #[] #[]), (18, .int .i64 (mid : Int)), (20, .int .i64 (s : Int)), (24, .int .i64 (e : Int))]) (fun _ => True) (fun _ => K W (lrow bo Lf n rest (g0) :: N)) ?_ ?_
      · by_cases r1 : s < m
        · by_cases r2 : m < e
          · clear hc hC hM ih hf hg0;refine csr (sm ?_);refine sm ?_;refine sy (y_T (y_lss rfl rfl) (by omega)) ?_;refine sm ?_;refine sm ?_;refine sm ?_;refine sy (y_T (y_lss rfl rfl) (by omega)) ?_;refine spT ?_;refine snf (c_condT rfl (c_region (sm ?_)));refine sm ?_;refine sm ?_;refine sm ?_;refine sm ?_;refine s_call (en_f rfl call150) (rotate_spec (a := s) (m := m) (b := e) r1 r2 (by omega) hn) rfl rfl rfl (fun _ => ?_);refine s_nil ?_;exact f_cutP () trivial ⟨rfl, rfl, rfl, rfl, rfl, rfl, rfl, rfl, trivial⟩ (fun w h => by rw [hg]; exact h)
          · have ht := rotF_triv (f := f) (s := s) (m := m) (e := e) (.inr (by omega)) q2 q3;clear hc hC hM ih hf hg0;refine csr (sm ?_);refine sm ?_;refine sy (y_T (y_lss rfl rfl) (by omega)) ?_;refine sm ?_;refine sm ?_;refine sm ?_;refine sy (y_F (y_lss rfl rfl) (by omega)) ?_;refine spT ?_;refine snf (c_condF rfl (c_skip ?_));exact f_cutP () trivial ⟨rfl, rfl, rfl, rfl, rfl, rfl, rfl, rfl, trivial⟩ (fun w h => by rw [hg, ht]; exact h)
        · have ht := rotF_triv (f := f) (s := s) (m := m) (e := e) (.inl (by omega)) q2 q3;clear hc hC hM ih hf hg0;refine csr (sm ?_);refine sm ?_;refine sy (y_F (y_lss rfl rfl) (by omega)) ?_;refine sm ?_
          iterate 3 refine s_skip rfl rfl rfl ?_
          refine spF ?_;refine snf (c_condF rfl (c_skip ?_));exact f_cutP () trivial ⟨rfl, rfl, rfl, rfl, rfl, rfl, rfl, rfl, trivial⟩ (fun w h => by rw [hg, ht]; exact h)
      rintro _ _;rw [← hg] at hc hg0;obtain ⟨hL, hRt, _⟩ := hc;refine c_seq ?_;refine c_then_cut (α := Nat → Nat) (fun _ => [(0, .slice (some ⟨bo, 0, none⟩) n cp), (1, .int .i64 (a : Int)), (2, .int .i64 (m : Int)), (3, .int .i64 (b : Int)), (4, .func (.func 123) #[] #[]), (18, .int .i64 (mid : Int)), (20, .int .i64 (s : Int)), (24, .int .i64 (e : Int))]) (fun g => SOut R g0 g a mid) (fun g => K W (lrow bo Lf n rest (g) :: N)) ?_ ?_
      · by_cases r1 : a < s
        · by_cases r2 : s < mid
          · have ihL := ih (a := a) (m := s) (b := mid) (f := g0) (by omega) r1 r2 (by omega) hg0 hL;clear hL hRt hC hM ih hf hg0;refine csr (sm ?_);refine sm ?_;refine sy (y_T (y_lss rfl rfl) (by omega)) ?_;refine sm ?_;refine sm ?_;refine sm ?_;refine sy (y_T (y_lss rfl rfl) (by omega)) ?_;refine spT ?_;refine snf (c_condT rfl (c_region (sm ?_)));refine sm ?_;refine sm ?_;refine sm ?_;refine sm ?_;refine sk call145 ihL fun g => ?_;refine s_nil ?_;exact f_cutP g.1 g.2 ⟨rfl, rfl, rfl, rfl, rfl, rfl, rfl, rfl, trivial⟩ (fun w h => h)
          · have hs := SOut.refl (hL.side (.inr (by omega)));clear hL hRt hC hM ih hf hg0;refine csr (sm ?_);refine sm ?_;refine sy (y_T (y_lss rfl rfl) (by omega)) ?_;refine sm ?_;refine sm ?_;refine sm ?_;refine sy (y_F (y_lss rfl rfl) (by omega)) ?_;refine spT ?_;refine snf (c_condF rfl (c_skip ?_));exact f_cutP g0 hs ⟨rfl, rfl, rfl, rfl, rfl, rfl, rfl, rfl, trivial⟩ (fun w h => h)
        · have hs := SOut.refl (hL.side (.inl (by omega)));clear hL hRt hC hM ih hf hg0;refine csr (sm ?_);refine sm ?_;refine sy (y_F (y_lss rfl rfl) (by omega)) ?_;refine sm ?_
          iterate 3 refine s_skip rfl rfl rfl ?_
          refine spF ?_;refine snf (c_condF rfl (c_skip ?_));exact f_cutP g0 hs ⟨rfl, rfl, rfl, rfl, rfl, rfl, rfl, rfl, trivial⟩ (fun w h => h)
      rintro g1 hO1;have hR1 : Mrg R g1 mid e b := hRt.congr (fun i i1 _ => hO1.same i (.inr i1)) (by omega) q4;have hj : ∀ g2, SOut R g1 g2 mid b → SOut R f g2 a b := fun g2 h2 => mrg_join hM hC (by omega) (by omega) (by rw [← hg]; exact hO1) h2;have hg1 := hO1.bd hg0 (show mid ≤ n by omega);clear hRt hL hM hC hf hg0 hO1;by_cases r1 : mid < e
      · by_cases r2 : e < b
        · have ihR := ih (a := mid) (m := e) (b := b) (f := g1) (by omega) r1 r2 hbn hg1 hR1;clear ih hR1 hg1;refine csr (sm ?_);refine sm ?_;refine sy (y_T (y_lss rfl rfl) (by omega)) ?_;refine sm ?_;refine sm ?_;refine sm ?_;refine sy (y_T (y_lss rfl rfl) (by omega)) ?_;refine spT ?_;refine snf (c_condT rfl (c_region (sm ?_)));refine sm ?_;refine sm ?_;refine sm ?_;refine sm ?_;refine sk call145 ihR fun g => ?_;have hgo := hj g.1 g.2;clear hj;refine s_nil ?_;exact f_end ⟨g.1, hgo⟩ (res0 rfl) (fun w h => h)
        · have hgo := hj g1 (SOut.refl (hR1.side (.inr (by omega))));clear ih hR1 hg1 hj;refine csr (sm ?_);refine sm ?_;refine sy (y_T (y_lss rfl rfl) (by omega)) ?_;refine sm ?_;refine sm ?_;refine sm ?_;refine sy (y_F (y_lss rfl rfl) (by omega)) ?_;refine spT ?_;refine snf (c_condF rfl (c_skip ?_));exact f_end ⟨g1, hgo⟩ (res0 rfl) (fun w h => h)
      · have hgo := hj g1 (SOut.refl (hR1.side (.inl (by omega))));clear ih hR1 hg1 hj;refine csr (sm ?_);refine sm ?_;refine sy (y_F (y_lss rfl rfl) (by omega)) ?_;refine sm ?_
        iterate 3 refine s_skip rfl rfl rfl ?_
        refine spF ?_;refine snf (c_condF rfl (c_skip ?_));exact f_end ⟨g1, hgo⟩ (res0 rfl) (fun w h => h)
end Go.KL
end

section
/- Blocks of any size that are in order, and their merging two by two; plain. No program in sight. -/
namespace Go.KL
variable {R : Nat → Nat} {f g : Nat → Nat} {a n bs : Nat}
def BSg (R g : Nat → Nat) (bs n : Nat) : Prop := ∀ j, j * bs < n → Blk R g (j * bs) (min (j * bs + bs) n)
def Phg (R g : Nat → Nat) (bs n a : Nat) : Prop := ∃ J, a = J * (2 * bs) ∧ (∀ i, i < J → Blk R g (i * (2 * bs)) (i * (2 * bs) + 2 * bs)) ∧ ∀ j, 2 * J ≤ j → j * bs < n → Blk R g (j * bs) (min (j * bs + bs) n)
theorem BS.gen (h : BS R g 20 n) : BSg R g 20 n := fun j hj => h (j * 20) (by omega) hj
theorem Phg.start (h : BSg R g bs n) : Phg R g bs n 0 := ⟨0, by simp, fun i h => by omega, fun j _ hj => h j hj⟩
theorem mul_two (J bs : Nat) : 2 * J * bs = J * (2 * bs) := by rw [Nat.mul_comm 2 J, Nat.mul_assoc]
theorem mul_two1 (J bs : Nat) : (2 * J + 1) * bs = J * (2 * bs) + bs := by rw [Nat.add_mul, mul_two, Nat.one_mul]
theorem mul_lt_step {i J c : Nat} (h : i < J) : i * c + c ≤ J * c := by
  have := Nat.mul_le_mul_right c (show i + 1 ≤ J from h);rw [Nat.add_mul, Nat.one_mul] at this;exact this
theorem Phg.two (h : Phg R f bs n a) (hab : a + bs < n) : Blk R f a (a + bs) ∧ Blk R f (a + bs) (min (a + 2 * bs) n) := by
  obtain ⟨J, rfl, h1, h2⟩ := h;have e1 := h2 (2 * J) (Nat.le_refl _) (by rw [mul_two]; omega);have e2 := h2 (2 * J + 1) (by omega) (by rw [mul_two1]; omega);rw [mul_two, Nat.min_eq_left (by omega)] at e1;rw [mul_two1, show J * (2 * bs) + bs + bs = J * (2 * bs) + 2 * bs by omega] at e2;exact ⟨e1, e2⟩
theorem Phg.next (h : Phg R f bs n a) (hb : 0 < bs) (hab : a + 2 * bs ≤ n) (hO : SOut R f g a (a + 2 * bs)) : Phg R g bs n (a + 2 * bs) := by
  have ht := h.two (by omega);obtain ⟨J, rfl, h1, h2⟩ := h;rw [Nat.min_eq_left (by omega)] at ht;refine ⟨J + 1, by rw [Nat.add_mul, Nat.one_mul], fun i hi => ?_, fun j hj hn => ?_⟩
  · by_cases c : i = J
    · subst c;exact ht.1.join ht.2 (by omega) (by omega) hO
    · have := mul_lt_step (c := 2 * bs) (show i < J by omega);exact (h1 i (by omega)).keep hO (.inl this)
  · have h3 := Nat.mul_le_mul_right bs hj;rw [mul_two, Nat.add_mul, Nat.one_mul] at h3;exact (h2 j (by omega) hn).keep hO (.inr h3)
theorem Phg.last (h : Phg R f bs n a) (han : a + bs < n) (hn : n < a + 2 * bs) (hO : SOut R f g a n) : BSg R g (2 * bs) n := by
  have ht := h.two han;obtain ⟨J, rfl, h1, h2⟩ := h;rw [Nat.min_eq_right (by omega)] at ht;intro j hj;rcases Nat.lt_trichotomy j J with c | c | c
  · have := mul_lt_step (c := 2 * bs) c;rw [Nat.min_eq_left (by omega)];exact (h1 j c).keep hO (.inl this)
  · subst c;rw [Nat.min_eq_right (by omega)];exact ht.1.join ht.2 (by omega) (by omega) hO
  · have := mul_lt_step (c := 2 * bs) c;omega
theorem Phg.over (h : Phg R g bs n a) (ha : a ≤ n) (han : n ≤ a + bs) : BSg R g (2 * bs) n := by
  obtain ⟨J, rfl, h1, h2⟩ := h;intro j hj;rcases Nat.lt_trichotomy j J with c | c | c
  · have := mul_lt_step (c := 2 * bs) c;rw [Nat.min_eq_left (by omega)];exact h1 j c
  · subst c;have e1 := h2 (2 * j) (Nat.le_refl _) (by rw [mul_two]; omega);rw [mul_two, Nat.min_eq_right (by omega)] at e1;rw [Nat.min_eq_right (by omega)];exact e1
  · have := mul_lt_step (c := 2 * bs) c;omega
theorem BSg.whole (h : BSg R g bs n) (hb : n ≤ bs) : Blk R g 0 n := by
  by_cases c : n = 0
  · subst c;exact Blk.empty (Nat.le_refl _)
  · have := h 0 (by omega);rw [Nat.zero_mul, Nat.zero_add, Nat.min_eq_right hb] at this;exact this
end Go.KL
end

section
/- Walks: stable, SortStableFunc. -/
namespace Go.KL
open Go.Proofs Go.Proofs.Tryz
attribute [local irreducible] SC St Fin Sq Ylds Doos Sets Enters Spec CellIs CellsAre Then Ret Rnd Chn resOK ints bools recs arr
theorem stable_spec {W : World} {N : List Chunk} {Lf : Nat → Lk} {rest : List Value} {cp : Nat} {bo n : Nat} {R : Nat → Nat} (hcmp : CmpL Lf n R) (hn : n ≤ 4096) : Spec prog 135 #[.slice (some ⟨bo, 0, none⟩) n cp, .int .i64 (n : Int), .func (.func 123) #[] #[]] (K W (lrow bo Lf n rest (fun i => i) :: N)) (X := { g : Nat → Nat // Blk R g 0 n }) (fun _ => .tuple #[]) (fun g => K W (lrow bo Lf n rest (g.1) :: N)) := by
  refine enter (args := [_, _, _]) func135 rfl ntmps135 rfl ?_;refine csr (sa ?_);refine snf (csr (sm ?_));refine sa ?_;refine sa ?_;refine snf (c_seq (c_block ?_));refine c_loopP (α := Nat × (Nat → Nat)) (fun z => [(0, .slice (some ⟨bo, 0, none⟩) n cp), (1, .int .i64 (n : Int)), (2, .func (.func 123) #[] #[]), (6, .int .i64 20), (7, .int .i64 (z.1 : Int)), (8, .int .i64 ((z.1 + 20 : Nat) : Int))]) (fun z => z.1 ≤ n ∧ Ph1 R z.2 z.1 ∧ ∀ k, k < n → z.2 k < n) (fun z => K W (lrow bo Lf n rest (z.2) :: N)) (fun z => n - z.1) (0, fun i => i)
    ⟨rfl, rfl, rfl, rfl, rfl, rfl, trivial⟩ ⟨Nat.zero_le _, ⟨rfl, fun s s1 s2 => by dsimp only at s2; omega, fun _ _ => rfl⟩, fun k hk => hk⟩ (fun w h => h) ?_
  rintro ⟨a, g⟩ ⟨ha, hP, hg⟩;dsimp only at ha hP hg ⊢;have hasc : ∀ b, ∀ p q, a ≤ p → p < q → q < b → g p < g q := fun b p q h1 h2 h3 => by
    rw [hP.2.2 p h1, hP.2.2 q (by omega)];exact h2
  by_cases hb : a + 20 ≤ n
  · have hI := insertion_spec (W := W) (N := N) (rest := rest) (cp := cp) (bo := bo) (a := a) (b := a + 20) hcmp (by omega) hb (by omega) hg (hasc _);have hnx : ∀ h, SOut R g h a (a + 20) → Ph1 R h (a + 20) ∧ ∀ k, k < n → h k < n := fun h hO => ⟨hP.next hO, hO.bd hg hb⟩;clear hP hg hasc hcmp;refine c_seq (csr (sm ?_));refine sm ?_;refine sy (y_T (y_leq rfl rfl) (by omega)) ?_;refine snf (c_condT rfl (c_skip (f_then (c_block (csr (sm ?_))))));refine sm ?_;refine sm ?_;refine sm ?_;refine sk call144 hI fun h => ?_;have hh := hnx h.1 h.2;clear hnx hI;refine snf (csr (sm ?_));refine sa ?_;refine snf (c_region (sm ?_));refine sm ?_;refine sy (y_add rfl rfl (by omega)) ?_;refine sa ?_;refine s_nil (f_blockN ?_);exact f_roundP (a + 20, h.1) ⟨hb, hh.1, hh.2⟩ (by dsimp only; omega) ⟨rfl, rfl, rfl, rfl, rfl, rfl, trivial⟩ (fun w h => h)
  · have hI := insertion_spec (W := W) (N := N) (rest := rest) (cp := cp) (bo := bo) (a := a) (b := n) hcmp ha (Nat.le_refl n) (by omega) hg (hasc _);have hnx : ∀ h, SOut R g h a n → BSg R h 20 n ∧ ∀ k, k < n → h k < n := fun h hO => ⟨(hP.done ha (by omega) hO).gen, hO.bd hg (Nat.le_refl n)⟩;clear hP hg hasc;refine c_seq (csr (sm ?_));refine sm ?_;refine sy (y_F (y_leq rfl rfl) (by omega)) ?_;refine snf (c_condF rfl (c_exit (f_thenE (f_rndE (f_blockE (f_then (csr (sm ?_))))))));refine sm ?_;refine sm ?_;refine sm ?_;refine sk call144 hI fun h => ?_;obtain ⟨h, hO⟩ := h;obtain ⟨hB, hh⟩ := hnx h hO;dsimp only;clear hnx hI hO hb ha;refine snf (c_block ?_);refine c_loopP (α := Nat × (Nat → Nat)) (fun z => [(0, .slice (some ⟨bo, 0, none⟩) n cp), (1, .int .i64 (n : Int)), (2, .func (.func 123) #[] #[]), (6, .int .i64 (z.1 : Int))]) (fun z => (20 ≤ z.1 ∧ z.1 ≤ 2 * n + 20) ∧ BSg R z.2 z.1 n ∧ ∀ k, k < n → z.2 k < n) (fun z => K W (lrow bo Lf n rest (z.2) :: N)) (fun z => 2 * n + 21 - z.1) (20, h)
      ⟨rfl, rfl, rfl, rfl, trivial⟩ ⟨⟨Nat.le_refl _, by dsimp only; omega⟩, hB, hh⟩ (fun w h => h) ?_
    clear hB hh;rintro ⟨bs, h⟩ ⟨hbs, hB, hh⟩;dsimp only at hbs hB hh ⊢;by_cases hlt : bs < n
    · have hb2 : 20 ≤ bs := hbs.1;have hS := Phg.start hB;clear hB hbs;refine c_seq (csr (sm ?_));refine sm ?_;refine sy (y_T (y_lss rfl rfl) (by omega)) ?_;refine snf (c_condT rfl (c_skip (f_then (c_block (csr (sm ?_))))));refine sy (y_mul rfl rfl (by omega)) ?_;refine sa ?_;refine sa ?_;refine snf (c_seq (c_block ?_));refine c_loopP (α := Nat × (Nat → Nat)) (fun z => [(0, .slice (some ⟨bo, 0, none⟩) n cp), (1, .int .i64 (n : Int)), (2, .func (.func 123) #[] #[]), (6, .int .i64 (bs : Int)), (7, .int .i64 (z.1 : Int)), (8, .int .i64 ((z.1 + 2 * bs : Nat) : Int))]) (fun z => z.1 ≤ n ∧ Phg R z.2 bs n z.1 ∧ ∀ k, k < n → z.2 k < n) (fun z => K W (lrow bo Lf n rest (z.2) :: N)) (fun z => n - z.1) (0, h)
        ⟨rfl, rfl, rfl, rfl, rfl, congrArg (fun z => some (Value.int .i64 z)) (by dsimp only; omega), trivial⟩ ⟨Nat.zero_le _, hS, hh⟩ (fun w h => h) ?_
      clear hS hh;rintro ⟨a, h⟩ ⟨ha, hS, hh⟩;dsimp only at ha hS hh ⊢;have eab : (a : Int) + (bs : Int) = ((a + bs : Nat) : Int) := by omega
      by_cases hb : a + 2 * bs ≤ n
      · have hM := (hS.two (by omega));rw [show min (a + 2 * bs) n = a + 2 * bs by omega] at hM;have hI := symMerge_spec (W := W) (N := N) (rest := rest) (cp := cp) (bo := bo) hcmp (by omega) (2 * bs) (a := a) (m := a + bs) (b := a + 2 * bs) (f := h) (by omega) (by omega) (by omega) hb hh (hM.1.mrg hM.2);have hnx : ∀ h2, SOut R h h2 a (a + 2 * bs) → Phg R h2 bs n (a + 2 * bs) ∧ ∀ k, k < n → h2 k < n := fun h2 hO => ⟨hS.next (by omega) hb hO, hO.bd hh hb⟩;clear hM hS hh hcmp;refine c_seq (csr (sm ?_));refine sm ?_;refine sy (y_T (y_leq rfl rfl) (by omega)) ?_;refine snf (c_condT rfl (c_skip (f_then (c_block (csr (sm ?_))))));refine sm ?_;refine sm ?_;refine sm ?_;refine sy (y_add rfl rfl (by omega)) ?_;refine sm ?_;refine sm ?_;rw [eab];refine sk call145 hI fun h2 => ?_;have hh := hnx h2.1 h2.2;clear hnx hI;refine snf (csr (sm ?_));refine sa ?_;refine snf (c_region (sm ?_));refine sm ?_;refine sy (y_mul rfl rfl (by omega)) ?_;refine sy (y_add rfl rfl (by omega)) ?_;refine sa ?_;refine s_nil (f_blockN ?_);exact f_roundP (a + 2 * bs, h2.1) ⟨hb, hh.1, hh.2⟩ (by dsimp only; omega) ⟨rfl, rfl, rfl, rfl, rfl, congrArg (fun z => some (Value.int .i64 z)) (by dsimp only; omega), trivial⟩ (fun w h => h)
      · by_cases hm : a + bs < n
        · have hM := (hS.two hm);rw [show min (a + 2 * bs) n = n by omega] at hM;have hI := symMerge_spec (W := W) (N := N) (rest := rest) (cp := cp) (bo := bo) hcmp (by omega) (2 * bs) (a := a) (m := a + bs) (b := n) (f := h) (by omega) (by omega) (by omega) (Nat.le_refl n) hh (hM.1.mrg hM.2);have hnx : ∀ h2, SOut R h h2 a n → BSg R h2 (2 * bs) n ∧ ∀ k, k < n → h2 k < n := fun h2 hO => ⟨hS.last hm (by omega) hO, hO.bd hh (Nat.le_refl n)⟩;clear hM hS hh hcmp;refine c_seq (csr (sm ?_));refine sm ?_;refine sy (y_F (y_leq rfl rfl) (by omega)) ?_;refine snf (c_condF rfl (c_exit (f_thenE (f_rndE (f_blockE (f_then (c_seq (csr (sm ?_)))))))));refine sm ?_;refine sy (y_add rfl rfl (by omega)) ?_;refine sa ?_;refine snf (csr (sm ?_));refine sm ?_;refine sy (y_T (y_lss rfl rfl) (by omega)) ?_;refine snf (c_condT rfl (c_region (sm ?_)));refine sm ?_;refine sm ?_;refine sm ?_;refine sm ?_;rw [eab];skip;refine sk call145 hI fun h2 => ?_;have hh := hnx h2.1 h2.2;clear hnx hI;refine snf (c_region (sm ?_));refine sy (y_mul rfl rfl (by omega)) ?_;refine sa ?_;refine s_nil (f_blockN ?_);exact f_roundP (2 * bs, h2.1) ⟨⟨by dsimp only; omega, by dsimp only; omega⟩, hh.1, hh.2⟩ (by dsimp only; omega) ⟨rfl, rfl, rfl, congrArg (fun z => some (Value.int .i64 z)) (by dsimp only; omega), trivial⟩ (fun w h => h)
        · have hh2 := hS.over ha (by omega);clear hS hcmp;refine c_seq (csr (sm ?_));refine sm ?_;refine sy (y_F (y_leq rfl rfl) (by omega)) ?_;refine snf (c_condF rfl (c_exit (f_thenE (f_rndE (f_blockE (f_then (c_seq (csr (sm ?_)))))))));refine sm ?_;refine sy (y_add rfl rfl (by omega)) ?_;refine sa ?_;refine snf (csr (sm ?_));refine sm ?_;refine sy (y_F (y_lss rfl rfl) (by omega)) ?_;refine snf (c_condF rfl (c_skip (f_then (c_region (sm ?_)))));refine sy (y_mul rfl rfl (by omega)) ?_;refine sa ?_;refine s_nil (f_blockN ?_);exact f_roundP (2 * bs, h) ⟨⟨by dsimp only; omega, by dsimp only; omega⟩, hh2, hh⟩ (by dsimp only; omega) ⟨rfl, rfl, rfl, congrArg (fun z => some (Value.int .i64 z)) (by dsimp only; omega), trivial⟩ (fun w h => h)
    · have hW := hB.whole (by omega);clear hB hh hcmp;refine c_seq (csr (sm ?_));refine sm ?_;refine sy (y_F (y_lss rfl rfl) (by omega)) ?_;refine snf (c_condF rfl (c_exit (f_thenE (f_rndE (f_blockE ?_)))));exact f_end ⟨h, hW⟩ (res0 rfl) (fun w h => h)
theorem sortStable_spec {W : World} {N : List Chunk} {Lf : Nat → Lk} {rest : List Value} {cp : Nat} {bo n : Nat} {R : Nat → Nat} (hcmp : CmpL Lf n R) (hn : n ≤ 4096) : Spec prog 122 #[.slice (some ⟨bo, 0, none⟩) n cp, .func (.func 123) #[] #[]] (K W (lrow bo Lf n rest (fun i => i) :: N)) (X := { g : Nat → Nat // Blk R g 0 n }) (fun _ => .tuple #[]) (fun g => K W (lrow bo Lf n rest (g.1) :: N)) := by
  have hI := stable_spec (W := W) (N := N) (rest := rest) (cp := cp) (bo := bo) hcmp hn;clear hcmp;refine enter (args := [_, _]) func122 rfl ntmps122 rfl ?_;refine c_region (sm ?_);refine sm ?_;refine sy (y_len tab rfl rfl) ?_;refine sm ?_;refine sk call135 hI fun g => ?_;refine s_nil ?_;exact f_end g (res0 rfl) (fun w h => h)
end Go.KL
end

section
/- Walks: Clone, the sort of no locks. -/
namespace Go.KL
open Go.Proofs Go.Proofs.Tryz
section
variable {P : Program} {W w : World} {Ls : List Chunk} {n : Nat} {σ : Slots} {C D : World → Prop} {dst : Option Tmp} {ty : TypeId} {pos : String} {after : Array Edge} {guard : Option (Nat × Bool)}
theorem y_eqlSN (T : Tab P) {x : Operand} {t e t' : TypeId} {pa : Option Addr} {l c : Nat} (hx : ev σ x = some (.slice pa l c)) (ht : T.und t = some (.slice e)) :
    Ylds P n σ C ⟨dst, .binOp .eql t x (.const (.slice none 0 0)) t', ty, pos, after, guard⟩ (.bool pa.isNone) := by
  intro a w hE _;have h := run_equal_slice_nil w t e pa l c (T.und_ok ht);have h2 : (binOp .eql t (.slice pa l c) (.slice none 0 0)).run P w = .ok (.bool pa.isNone) w := by
    simp only [binOp, Sem.run_bind, h, Result.andThen];rfl
  have h3 : eqGuard .eql t x (.const (.slice none 0 0)) (.slice pa l c) (.slice none 0 0) = pure () := by cases pa <;> rfl
  have h4 : a.eval (.const (.slice none 0 0)) = .slice none 0 0 := rfl;simp only [execOp, ev_eval hE hx, h4, h3, Sem.run_bind, Sem.run_pure, Result.andThen, h2]
abbrev rixz (rows : List (List Value)) : Nat → Nat → Value := fun i j => ((rows[i]?).bind (·[j]?)).getD (.bool false)
theorem rixz_eq {s : Nat} {rows : List (List Value)} (h : lens s rows) {i j : Nat} (hi : i < rows.length) (hj : j < s) : rix rows i j = rixz rows i j := by
  obtain ⟨x, hx⟩ : ∃ x, rows[i]? = some x := ⟨rows[i], by simp [hi]⟩;have h5 : x.length = s := h x (List.mem_of_getElem? hx);have hj' : j < x.length := by omega
  simp [rix, rixz, List.getD_eq_getElem?_getD, hx, List.getElem?_eq_getElem hj']
theorem vw_rows {s : Nat} {rows : List (List Value)} (h : lens s rows) : vw s rows.length (rixz rows) = rows.flatten := by
  apply List.ext_getElem?;intro i;have hl := flat_len h;by_cases c : i < rows.length * s
  · have hs : 0 < s := by
      rcases Nat.eq_zero_or_pos s with e | e
      · subst e; omega
      · exact e
    have h1 : i / s < rows.length := (Nat.div_lt_iff_lt_mul hs).2 c;have h2 := Nat.mod_lt i hs;obtain ⟨x, hx⟩ : ∃ x, rows[i / s]? = some x := ⟨rows[i / s], by simp [h1]⟩;have h3 := flat_get h hx h2;rw [Nat.div_add_mod'] at h3;have h4 := vw_get (g := rixz rows) h1 h2;rw [Nat.div_add_mod'] at h4;have h5 : x.length = s := h x (List.mem_of_getElem? hx);have hj' : i % s < x.length := by omega
    rw [h3, h4];simp [rixz, hx, List.getElem?_eq_getElem hj']
  · rw [List.getElem?_eq_none (by rw [vw_len]; omega), List.getElem?_eq_none (by omega)]
theorem BufR.ofGrown {e : TypeId} {s : Nat} {rows : List (List Value)} (h : lens s rows) (o : Grown s rows.length 0 (vw s rows.length (rixz rows))) : BufR e s (osl o.1 rows.length) (och e o.1 (vw s rows.length (rixz rows))) rows := by
  have e1 := vw_rows h;refine ⟨h, ⟨.inr ⟨o.1, rfl, by rw [← e1], by rw [← e1]; exact o.2.1, List.eq_nil_of_length_eq_zero (Nat.le_zero.1 o.2.2)⟩⟩⟩
end
def ones (rows : List (List Value)) : Prop := ∀ x ∈ rows, ∀ y ∈ x, y.oneCell' = true
theorem ones.at {rows : List (List Value)} (h : ones rows) (i j : Nat) : (rixz rows i j).oneCell' = true := by
  simp only [rixz];cases h1 : rows[i]? with
  | none => rfl
  | some x =>
    simp only [Option.bind_some];cases h2 : x[j]? with
    | none => rfl
    | some y => exact h x (List.mem_of_getElem? h1) y (List.mem_of_getElem? h2)
theorem lks_ones (L : List Lk) : ones (lks L) := fun x hx y hy => by
  obtain ⟨l, _, rfl⟩ := List.mem_map.1 hx;simp only [lkc, List.mem_cons, List.not_mem_nil, or_false] at hy;rcases hy with rfl | rfl | rfl | rfl <;> rfl
theorem rnl_ones (L : List Rn) : ones (rnl L) := fun x hx y hy => by
  obtain ⟨l, _, rfl⟩ := List.mem_map.1 hx;simp only [rnc, List.mem_cons, List.not_mem_nil, or_false] at hy;rcases hy with rfl | rfl | rfl <;> rfl
attribute [local irreducible] SC St Fin Sq Ylds Doos Sets Enters Spec CellIs CellsAre Then Ret Rnd Chn resOK ints bools recs arr
section
variable {W : World} {N : List Chunk} {v : Value} {rows : List (List Value)}
theorem cloneL (hv : EV (K W N) v 4 rows) (h1 : ones rows) (hl : rows.length < 1000000) : Spec prog 63 #[v] (K W N) (X := { x : Value × Chunk // BufR 111 4 x.1 x.2 rows }) (fun x => x.1.1) (fun x => K W (x.1.2 :: N)) := by
  have hV := hv.view.congr fun i hi j hj => rixz_eq hv.len hi hj;obtain ⟨pa, c, rfl, hc, hp⟩ := hv.view;refine enter (args := [_]) func63 rfl ntmps63 rfl ?_;cases pa with
  | none =>
    have h0 : rows = [] := by
      refine List.eq_nil_of_length_eq_zero ?_;rcases Nat.eq_zero_or_pos rows.length with e | e
      · exact e
      · obtain ⟨b, o, e2, _⟩ := hp e;cases e2
    refine csr (sa ?_);refine snf (c_seq (csr (sm ?_)));refine sy (y_eqlSN tab rfl rfl) ?_;refine snf (c_condT rfl (csr (sa ?_)));refine snf (c_ret (f_thenR ?_));exact f_ret ⟨(.slice none 0 0, []), by rw [h0]; exact .nil⟩ (res1 rfl rfl) (fun w h => h.addNil)
  | some p =>
    refine csr (sa ?_);refine snf (c_seq (csr (sm ?_)));refine sy (y_eqlSN tab rfl rfl) ?_;refine snf (c_condF rfl (c_skip (f_then (csr (s_do (do_buildSliceS tab ⟨rfl, rfl, rfl, rfl⟩ rfl rfl rfl rfl) rfl rfl rfl (fun b5 => ?_))))));refine sm ?_;refine s_do (do_appendE (by_ := 32) (b := b5) (e := 111) tab 0 rfl rfl (hV.cls fun _ h => h.tail) ⟨rfl, rfl, rfl, rfl⟩ rfl rfl h1.at (by unfold maxLen; omega) (by omega)) rfl rfl rfl (fun x => ?_);refine sa ?_;refine snf (c_ret ?_);exact f_ret ⟨(osl x.1 rows.length, och 111 x.1 (vw 4 rows.length (rixz rows))), BufR.ofGrown hv.len x⟩ (res1 rfl rfl) (fun w h => h)
theorem cloneR (hv : EV (K W N) v 3 rows) (h1 : ones rows) (hl : rows.length < 1000000) : Spec prog 59 #[v] (K W N) (X := { x : Value × Chunk // BufR 26 3 x.1 x.2 rows }) (fun x => x.1.1) (fun x => K W (x.1.2 :: N)) := by
  have hV := hv.view.congr fun i hi j hj => rixz_eq hv.len hi hj;obtain ⟨pa, c, rfl, hc, hp⟩ := hv.view;refine enter (args := [_]) func59 rfl ntmps59 rfl ?_;cases pa with
  | none =>
    have h0 : rows = [] := by
      refine List.eq_nil_of_length_eq_zero ?_;rcases Nat.eq_zero_or_pos rows.length with e | e
      · exact e
      · obtain ⟨b, o, e2, _⟩ := hp e;cases e2
    refine csr (sa ?_);refine snf (c_seq (csr (sm ?_)));refine sy (y_eqlSN tab rfl rfl) ?_;refine snf (c_condT rfl (csr (sa ?_)));refine snf (c_ret (f_thenR ?_));exact f_ret ⟨(.slice none 0 0, []), by rw [h0]; exact .nil⟩ (res1 rfl rfl) (fun w h => h.addNil)
  | some p =>
    refine csr (sa ?_);refine snf (c_seq (csr (sm ?_)));refine sy (y_eqlSN tab rfl rfl) ?_;refine snf (c_condF rfl (c_skip (f_then (csr (s_do (do_buildSliceS tab ⟨rfl, rfl, rfl, rfl⟩ rfl rfl rfl rfl) rfl rfl rfl (fun b5 => ?_))))));refine sm ?_;refine s_do (do_appendE (by_ := 24) (b := b5) (e := 26) tab 0 rfl rfl (hV.cls fun _ h => h.tail) ⟨rfl, rfl, rfl, rfl⟩ rfl rfl h1.at (by unfold maxLen; omega) (by omega)) rfl rfl rfl (fun x => ?_);refine sa ?_;refine snf (c_ret ?_);exact f_ret ⟨(osl x.1 rows.length, och 26 x.1 (vw 3 rows.length (rixz rows))), BufR.ofGrown hv.len x⟩ (res1 rfl rfl) (fun w h => h)
end
section
variable {C : World → Prop} {pa : Option Addr} {c : Nat} {fv : Value}
theorem ins0 : Spec prog 144 #[.slice pa 0 c, .int .i64 0, .int .i64 0, fv] C (fun _ : Unit => .tuple #[]) (fun _ => C) := by
  refine enter (args := [_, _, _, _]) func144 rfl ntmps144 rfl ?_;refine csr (sm ?_);refine sy (y_add rfl rfl (by omega)) ?_;refine sa ?_;refine snf (c_block (c_loopP (α := Unit) (fun _ => [(2, .int .i64 0), (8, .int .i64 1)]) (fun _ => True) (fun _ => C) (fun _ => 0) () ⟨rfl, rfl, trivial⟩ trivial (fun w h => h) ?_));rintro _ _;refine c_seq (csr (sm ?_));refine sm ?_;refine sy (y_F (y_lss rfl rfl) (by omega)) ?_;refine snf (c_condF rfl (c_exit (f_thenE (f_rndE (f_blockE ?_)))));exact f_end () (res0 rfl) (fun w h => h)
theorem stable0 : Spec prog 135 #[.slice pa 0 c, .int .i64 0, fv] C (fun _ : Unit => .tuple #[]) (fun _ => C) := by
  refine enter (args := [_, _, _]) func135 rfl ntmps135 rfl ?_;refine csr (sa ?_);refine snf (csr (sm ?_));refine sa ?_;refine sa ?_;refine snf (c_seq (c_block (c_loopP (α := Unit) (fun _ => [(0, .slice pa 0 c), (1, .int .i64 0), (2, fv), (6, .int .i64 20), (7, .int .i64 0), (8, .int .i64 20)]) (fun _ => True) (fun _ => C) (fun _ => 0) () ⟨rfl, rfl, rfl, rfl, rfl, rfl, trivial⟩ trivial (fun w h => h) ?_)));rintro _ _;refine c_seq (csr (sm ?_));refine sm ?_;refine sy (y_F (y_leq rfl rfl) (by omega)) ?_;refine snf (c_condF rfl (c_exit (f_thenE (f_rndE (f_blockE (f_then (csr (sm ?_))))))));refine sm ?_;refine sm ?_;refine sm ?_;refine sk call144 ins0 fun _ => ?_;refine snf (c_block (c_loopP (α := Unit) (fun _ => [(1, .int .i64 0), (6, .int .i64 20)]) (fun _ => True) (fun _ => C) (fun _ => 0) () ⟨rfl, rfl, trivial⟩ trivial (fun w h => h) ?_));rintro _ _;refine c_seq (csr (sm ?_));refine sm ?_;refine sy (y_F (y_lss rfl rfl) (by omega)) ?_;refine snf (c_condF rfl (c_exit (f_thenE (f_rndE (f_blockE ?_)))));exact f_end () (res0 rfl) (fun w h => h)
theorem sort0 : Spec prog 122 #[.slice pa 0 c, fv] C (fun _ : Unit => .tuple #[]) (fun _ => C) := by
  refine enter (args := [_, _]) func122 rfl ntmps122 rfl ?_;refine c_region (sm ?_);refine sm ?_;refine sy (y_len tab rfl rfl) ?_;refine sm ?_;refine sk call135 stable0 fun _ => ?_;refine s_nil ?_;exact f_end () (res0 rfl) (fun w h => h)
end
end Go.KL
end

section
/- Walks: holds. -/
namespace Go.KL
open Go.Proofs Go.Proofs.Tryz
abbrev lkf (L : List Lk) : Nat → Lk := fun i => L.getD i Lk.zero
theorem lrow_of {L : List Lk} {o : Own} (hp : o.pre = []) : och 111 o (lks L).flatten = lrow o.b (lkf L) L.length o.rest (fun i => i) := by
  have hl : (lks L).length = L.length := List.length_map _;have e : (List.range (L.length * 4)).map (fun i => (lkc (lkf L (i / 4))).getD (i % 4) undef) = (lks L).flatten := by
    rw [← vw_rows (lks_len L), hl];unfold vw;refine List.map_congr_left fun i hi => ?_;have hi := List.mem_range.1 hi;have h1 : i / 4 < L.length := by omega
    have h2 : i % 4 < 4 := by omega
    have h3 : i % 4 < (lkc L[i / 4]).length := h2;simp [rixz, lkf, List.getD_eq_getElem?_getD, h1, List.getElem?_eq_getElem h3]
  unfold lrow;rw [recs_rl, och, hp];congr 3;rw [List.nil_append, ← e];rfl
theorem blk_onto {R g : Nat → Nat} {n : Nat} (h : Blk R g 0 n) {i : Nat} (hi : i < n) : ∃ j, j < n ∧ g j = i := by
  by_cases c : ∃ j, j < n ∧ g j = i
  · exact c
  · exfalso;have hn : ((List.range n).map g).Nodup := by
      rw [List.Nodup, List.pairwise_map];refine List.Pairwise.imp_of_mem ?_ List.pairwise_lt_range;intro a b ha hb hlt e;have := h.srt a b (Nat.zero_le _) hlt (List.mem_range.1 hb);rw [e] at this;exact ltR_irr this
    have := Bk.nodup_le (L := (List.range n).erase i) hn fun x hx => by
      obtain ⟨j, hj, rfl⟩ := List.mem_map.1 hx;have hj := List.mem_range.1 hj;exact (List.mem_erase_of_ne (fun e => c ⟨j, hj, e⟩)).2 (List.mem_range.2 (h.rng j (Nat.zero_le _) hj).2)
    rw [List.length_erase_of_mem (List.mem_range.2 hi), List.length_map, List.length_range] at this;omega
structure Cov (L : List Lk) (wr : Bool) (lo : Nat) (P : Lk → Prop) (lo' : Nat) : Prop where
  le : lo ≤ lo'
  cov : ∀ i, lo ≤ i → i < lo' → ∃ x ∈ L, (x.wr = true ∨ wr = false) ∧ x.lo ≤ i ∧ i < x.hi
  no : ∀ x, P x → (x.wr = true ∨ wr = false) → ¬ (x.lo ≤ lo' ∧ lo' < x.hi)
theorem Cov.begin {L : List Lk} {wr : Bool} {lo : Nat} {P : Lk → Prop} (h : ∀ x, ¬ P x) : Cov L wr lo P lo := ⟨Nat.le_refl _, fun i h1 h2 => by omega, fun x hx => absurd hx (h x)⟩
theorem Cov.hit {L : List Lk} {wr : Bool} {lo lo' : Nat} {P P' : Lk → Prop} {x : Lk} (h : Cov L wr lo P lo') (hx : x ∈ L) (hu : x.wr = true ∨ wr = false) (h1 : x.lo ≤ lo') (h2 : lo' < x.hi) (hP : ∀ y, P' y → P y ∨ y = x) (hs : ∀ y, P y → y.lo ≤ x.lo) : Cov L wr lo P' x.hi := by
  refine ⟨by have := h.le; omega, fun i i1 i2 => ?_, fun y hy huy hc => ?_⟩
  · by_cases c : i < lo'
    · exact h.cov i i1 c
    · exact ⟨x, hx, hu, by omega, i2⟩
  · rcases hP y hy with hy | rfl
    · have := hs y hy;exact h.no y hy huy ⟨by omega, by omega⟩
    · omega
theorem Cov.miss {L : List Lk} {wr : Bool} {lo lo' : Nat} {P P' : Lk → Prop} {x : Lk} (h : Cov L wr lo P lo') (hm : ¬ ((x.wr = true ∨ wr = false) ∧ x.lo ≤ lo' ∧ lo' < x.hi)) (hP : ∀ y, P' y → P y ∨ y = x) : Cov L wr lo P' lo' := by
  refine ⟨h.le, h.cov, fun y hy huy hc => ?_⟩;rcases hP y hy with hy | rfl
  · exact h.no y hy huy hc
  · exact hm ⟨huy, hc⟩
theorem Cov.iff {L : List Lk} {wr : Bool} {lo hi lo' : Nat} {P : Lk → Prop} (h : Cov L wr lo P lo') (hP : ∀ x ∈ L, P x) : hi ≤ lo' ↔ Hold L lo hi wr := by
  constructor
  · exact fun hh i h1 h2 => h.cov i h1 (by omega)
  · intro hh;by_cases c : hi ≤ lo'
    · exact c
    · obtain ⟨x, hx, hu, h1, h2⟩ := hh lo' h.le (by omega);exact absurd ⟨h1, h2⟩ (h.no x (hP x hx) hu)
structure SrtL (v : Value) (c : Chunk) (L L' : List Lk) : Prop where
  mem : ∀ x, x ∈ L' ↔ x ∈ L
  len : L'.length = L.length
  srt : ∀ (i j : Nat) (x y : Lk), i ≤ j → L'[i]? = some x → L'[j]? = some y → x.lo ≤ y.lo
  view : ∀ (W : World) (Ls : List Chunk), EV (K W (c :: Ls)) v 4 (lks L')
theorem SrtL.mk' {L : List Lk} {g : Nat → Nat} {b cp : Nat} {rest : List Value} (hM : ∀ x ∈ L, x.lo ≤ 1099511627776) (h : Blk (fun x => 1099511627776 - (lkf L x).lo) g 0 L.length) (hc : L.length ≤ cp) : SrtL (.slice (some ⟨b, 0, none⟩) L.length cp) (lrow b (lkf L) L.length rest g) L ((List.range L.length).map fun i => lkf L (g i)) := by
  have hlf : ∀ i, i < L.length → L[i]? = some (lkf L i) := fun i hi => by simp [lkf, List.getD_eq_getElem?_getD, hi]
  have hlm : ∀ i, i < L.length → lkf L i ∈ L := fun i hi => List.mem_of_getElem? (hlf i hi);refine ⟨fun x => ⟨fun hx => ?_, fun hx => ?_⟩, by simp, fun i j x y hij hx hy => ?_, fun W Ls => ⟨lks_len _, ?_⟩⟩
  · obtain ⟨i, hi, rfl⟩ := List.mem_map.1 hx;exact hlm _ (h.rng i (Nat.zero_le _) (List.mem_range.1 hi)).2
  · obtain ⟨i, hi⟩ := List.getElem?_of_mem hx;have hlt := (List.getElem?_eq_some_iff.1 hi).1;obtain ⟨j, hj, e⟩ := blk_onto h hlt;refine List.mem_map.2 ⟨j, List.mem_range.2 hj, ?_⟩;rw [e];have := hlf i hlt;rw [hi] at this;exact (Option.some.inj this).symm
  · have hj : j < L.length := by have := (List.getElem?_eq_some_iff.1 hy).1; simpa using this
    have hi : i < L.length := by omega
    simp [hi] at hx;simp [hj] at hy;rw [← hx, ← hy];by_cases c : i = j
    · subst c; exact Nat.le_refl _
    · have h1 := h.srt i j (Nat.zero_le _) (by omega) hj;have h2 := hM _ (hlm _ (h.rng i (Nat.zero_le _) hi).2);have h3 := hM _ (hlm _ (h.rng j (Nat.zero_le _) hj).2);simp only [ltR, lkf, List.getD_eq_getElem?_getD] at h1 h2 h3 ⊢;omega
  · simp only [List.length_map, List.length_range];refine ⟨_, _, rfl, hc, fun _ => ⟨b, 0, rfl, fun i hi j hj => ?_⟩⟩;have := cells_lrow (W := W) (Ls := lrow b (lkf L) L.length rest g :: Ls) 0 rfl hi;have h2 : CellIs (K W (lrow b (lkf L) L.length rest g :: Ls)) ⟨b, 0 + i * 4 + j, none⟩ (rix (lks ((List.range L.length).map fun i => lkf L (g i))) i j) := by
      intro w hw;have := this w hw j hj;rw [addr_add] at this;rw [Nat.zero_add, this];simp [rix, List.getD_eq_getElem?_getD, hi];have hj' : j < (lkc ((L[g i]?).getD Lk.zero)).length := hj;simp [List.getElem?_eq_getElem hj']
    exact h2
theorem sortL {W : World} {N : List Chunk} {v : Value} {c : Chunk} {L : List Lk} (hR : BufR 111 4 v c (lks L)) (hl : L.length ≤ 4096) (hlo : ∀ x ∈ L, x.lo ≤ 1099511627776) :
    Spec prog 122 #[v, .func (.func 123) #[] #[]] (K W (c :: N)) (X := { x : Chunk × List Lk // SrtL v x.1 L x.2 }) (fun _ => .tuple #[]) (fun x => K W (x.1.1 :: N)) := by
  have hl2 : (lks L).length = L.length := List.length_map _;have h0 : ∀ {pa c'} {C : World → Prop}, SrtL (.slice pa 0 c') [] [] [] → True := fun _ => trivial;have e0 : ∀ {pa c' d}, SrtL (.slice pa 0 c') d [] [] := fun {pa c' d} => ⟨fun x => Iff.rfl, rfl, fun i j x y _ h => by simp at h, fun W Ls => ⟨lens.nil, SlV.empty⟩⟩;clear h0;rcases hR.buf.ok with ⟨h1, h2, rfl, rfl⟩ | ⟨o, rfl, rfl, ho, hp⟩
  · have hL : L = [] := List.eq_nil_of_length_eq_zero (by omega);subst hL;exact (sort0 (C := K W ([] :: N)) (pa := none) (c := 0) (fv := .func (.func 123) #[] #[])).map (Y := { x : Chunk × List Lk // SrtL (.slice none 0 0) x.1 [] x.2 }) (fun _ => ⟨([], []), e0⟩) (fun _ => rfl) (fun _ _ h => h)
  · have hcap := ho.le;rw [hl2] at hcap;have e1 : och 111 o (lks L).flatten = lrow o.b (lkf L) L.length o.rest (fun i => i) := lrow_of hp;have e2 : osl o (lks L).length = .slice (some ⟨o.b, 0, none⟩) L.length o.cap := by rw [hl2, osl, hp]; rfl
    rw [e1, e2];have hcmp : CmpL (lkf L) L.length (fun x => 1099511627776 - (lkf L x).lo) := less_spec fun x hx => hlo _ (List.mem_of_getElem? (show L[x]? = some (lkf L x) by simp [lkf, List.getD_eq_getElem?_getD, hx]));exact (sortStable_spec (W := W) (N := N) (rest := o.rest) (cp := o.cap) (bo := o.b) hcmp hl).map (Y := { x : Chunk × List Lk // SrtL (.slice (some ⟨o.b, 0, none⟩) L.length o.cap) x.1 L x.2 }) (fun g => ⟨(_, _), SrtL.mk' hlo g.2 hcap⟩) (fun _ => rfl) (fun _ _ h => h)
attribute [local irreducible] SC St Fin Sq Ylds Doos Sets Enters Spec CellIs CellsAre Then Ret Rnd Chn resOK ints bools recs arr
theorem holds_b {W : World} {N : List Chunk} {t : Tg} {lo hi : Nat} {wr : Bool} (hT : TF (K W N) t) (hl : t.locks.length ≤ 4096) (hlo : ∀ x ∈ t.locks, x.lo ≤ 1099511627776) :
    Spec prog 109 #[.pointer (some ⟨t.b, 0, none⟩), .int .i64 (lo : Nat), .int .i64 (hi : Nat), .bool wr] (K W N) (fun _ : Unit => .bool (decide (Hold t.locks lo hi wr))) (fun _ => K W N) := by
  obtain ⟨t0, t1, t2, t3, t7, tl, to⟩ := hT;clear t0 t1 t3 t7 to;have hl2 : (lks t.locks).length = t.locks.length := List.length_map _;refine enter (args := [_, _, _, _]) func109 rfl ntmps109 rfl ?_;refine csr (sa ?_);refine snf (csr (sm ?_));refine sn ?_;refine sf 2 ?_;refine sl t2 ?_;refine s_call (en_f rfl call63) (cloneL tl (lks_ones _) (by omega)) rfl rfl rfl (fun x => ?_);obtain ⟨⟨v, c⟩, hR⟩ := x;dsimp only at hR ⊢;refine sa ?_;refine snf (csr (sm ?_));refine sk call122 (sortL hR hl hlo) fun x => ?_;obtain ⟨⟨c2, L'⟩, hS⟩ := x;dsimp only at hS ⊢;have hE := hS.view W N;have hl3 : (lks L').length = t.locks.length := by rw [List.length_map, hS.len]
  refine snf (c_seq (csr (sm ?_)));refine sy (y_lenE tab rfl (hE) rfl) ?_;refine sm ?_;refine snf (c_block ?_);refine c_loopP (α := Nat × Nat) (fun z => [(1, .int .i64 (z.2 : Nat)), (2, .int .i64 (hi : Nat)), (3, .bool wr), (19, v), (20, .int .i64 (lks L').length), (21, .int .i64 (z.1 : Nat))]) (fun z => z.1 ≤ L'.length ∧ Cov t.locks wr lo (fun y => y ∈ L'.take z.1) z.2) (fun _ => K W (c2 :: N)) (fun z => L'.length - z.1) (0, lo)
    ⟨rfl, rfl, rfl, rfl, rfl, rfl, trivial⟩ ⟨Nat.zero_le _, .begin fun x h => by simp at h⟩ (fun w h => h) ?_
  rintro ⟨i, p⟩ ⟨hi1, hC⟩;dsimp only at hi1 hC ⊢;have hl4 := hS.len;by_cases c1 : i < L'.length
  · obtain ⟨x, hx⟩ : ∃ x, L'[i]? = some x := ⟨L'[i], by simp [c1]⟩;have hxm := (hS.mem x).1 (List.mem_of_getElem? hx);have hcx := hE.row (lks_get hx);have hP : ∀ y, y ∈ L'.take (i + 1) → y ∈ L'.take i ∨ y = x := fun y hy => by
      rw [List.take_add_one, hx] at hy;simpa using hy
    have hs : ∀ y, y ∈ L'.take i → y.lo ≤ x.lo := fun y hy => by
      obtain ⟨j, hj⟩ := List.getElem?_of_mem hy;have hj2 : j < i := by have := (List.getElem?_eq_some_iff.1 hj).1; simp at this; omega
      rw [List.getElem?_take_of_lt hj2] at hj;exact hS.srt j i y x (by omega) hj hx
    have hlx : (lkc x).length = 4 := rfl;refine csr (sy (y_T (y_lss rfl rfl) (by omega)) ?_);refine snf (c_seq (c_condT rfl (c_skip (f_then (c_seq (c_block (csr (sy (y_ixE tab rfl rfl rfl rfl (hE) _ rfl (by omega)) ?_))))))));refine sy (y_loadA tab rfl rfl rfl rfl hcx) ?_;refine sal fun b11 => ?_;refine ss (set_box tab 0 rfl rfl rfl rfl rfl rfl rfl) ?_;refine snf (csr (sf 3 ?_));refine slr 0 ?_;refine sm ?_;cases hxw : x.wr with
    | true =>
      by_cases h1 : x.lo ≤ p
      · by_cases h2 : p < x.hi
        · have hC2 := hC.hit hxm (.inl hxw) h1 h2 hP hs
          iterate 2 refine s_skip rfl rfl rfl ?_
          refine spT ?_;refine sm ?_;refine sf 1 ?_;refine slr 0 ?_;refine sm ?_;refine sy (y_T (y_leq rfl rfl) (by omega)) ?_;refine spT ?_;refine sm ?_;refine sm ?_;refine sf 2 ?_;refine slr 0 ?_;refine sy (y_T (y_lss rfl rfl) (by omega)) ?_;refine spT ?_;refine snf (c_condT rfl (c_region (sf 2 ?_)));refine slr 0 ?_;refine sa ?_;refine s_nil (f_blockN (f_then (c_region (sy (y_add rfl rfl (by omega)) ?_))));refine sm ?_;refine s_nil ?_;exact f_roundP (i + 1, x.hi) ⟨c1, hC2⟩ (by dsimp only; omega) ⟨rfl, rfl, rfl, rfl, rfl, rfl, trivial⟩ (fun w h => h.tail)
        · have hC2 := hC.miss (x := x) (fun h => h2 h.2.2) hP
          iterate 2 refine s_skip rfl rfl rfl ?_
          refine spT ?_;refine sm ?_;refine sf 1 ?_;refine slr 0 ?_;refine sm ?_;refine sy (y_T (y_leq rfl rfl) (by omega)) ?_;refine spT ?_;refine sm ?_;refine sm ?_;refine sf 2 ?_;refine slr 0 ?_;refine sy (y_F (y_lss rfl rfl) (by omega)) ?_;refine spT ?_;refine snf (c_condF rfl (c_skip (f_blockN (f_then (c_region (sy (y_add rfl rfl (by omega)) ?_))))));refine sm ?_;refine s_nil ?_;exact f_roundP (i + 1, p) ⟨c1, hC2⟩ (by dsimp only; omega) ⟨rfl, rfl, rfl, rfl, rfl, rfl, trivial⟩ (fun w h => h.tail)
      · have hC2 := hC.miss (x := x) (fun h => h1 h.2.1) hP
        iterate 2 refine s_skip rfl rfl rfl ?_
        refine spT ?_;refine sm ?_;refine sf 1 ?_;refine slr 0 ?_;refine sm ?_;refine sy (y_F (y_leq rfl rfl) (by omega)) ?_;refine spT ?_;refine sm ?_
        iterate 4 refine s_skip rfl rfl rfl ?_
        refine spF ?_;refine snf (c_condF rfl (c_skip (f_blockN (f_then (c_region (sy (y_add rfl rfl (by omega)) ?_))))));refine sm ?_;refine s_nil ?_;exact f_roundP (i + 1, p) ⟨c1, hC2⟩ (by dsimp only; omega) ⟨rfl, rfl, rfl, rfl, rfl, rfl, trivial⟩ (fun w h => h.tail)
    | false =>
      cases wr with
      | false =>
        by_cases h1 : x.lo ≤ p
        · by_cases h2 : p < x.hi
          · have hC2 := hC.hit hxm (.inr rfl) h1 h2 hP hs;refine sm ?_;refine sy (y_notF rfl) ?_;refine spF ?_;refine sm ?_;refine sf 1 ?_;refine slr 0 ?_;refine sm ?_;refine sy (y_T (y_leq rfl rfl) (by omega)) ?_;refine spT ?_;refine sm ?_;refine sm ?_;refine sf 2 ?_;refine slr 0 ?_;refine sy (y_T (y_lss rfl rfl) (by omega)) ?_;refine spT ?_;refine snf (c_condT rfl (c_region (sf 2 ?_)));refine slr 0 ?_;refine sa ?_;refine s_nil (f_blockN (f_then (c_region (sy (y_add rfl rfl (by omega)) ?_))));refine sm ?_;refine s_nil ?_;exact f_roundP (i + 1, x.hi) ⟨c1, hC2⟩ (by dsimp only; omega) ⟨rfl, rfl, rfl, rfl, rfl, rfl, trivial⟩ (fun w h => h.tail)
          · have hC2 := hC.miss (x := x) (fun h => h2 h.2.2) hP;refine sm ?_;refine sy (y_notF rfl) ?_;refine spF ?_;refine sm ?_;refine sf 1 ?_;refine slr 0 ?_;refine sm ?_;refine sy (y_T (y_leq rfl rfl) (by omega)) ?_;refine spT ?_;refine sm ?_;refine sm ?_;refine sf 2 ?_;refine slr 0 ?_;refine sy (y_F (y_lss rfl rfl) (by omega)) ?_;refine spT ?_;refine snf (c_condF rfl (c_skip (f_blockN (f_then (c_region (sy (y_add rfl rfl (by omega)) ?_))))));refine sm ?_;refine s_nil ?_;exact f_roundP (i + 1, p) ⟨c1, hC2⟩ (by dsimp only; omega) ⟨rfl, rfl, rfl, rfl, rfl, rfl, trivial⟩ (fun w h => h.tail)
        · have hC2 := hC.miss (x := x) (fun h => h1 h.2.1) hP;refine sm ?_;refine sy (y_notF rfl) ?_;refine spF ?_;refine sm ?_;refine sf 1 ?_;refine slr 0 ?_;refine sm ?_;refine sy (y_F (y_leq rfl rfl) (by omega)) ?_;refine spT ?_;refine sm ?_
          iterate 4 refine s_skip rfl rfl rfl ?_
          refine spF ?_;refine snf (c_condF rfl (c_skip (f_blockN (f_then (c_region (sy (y_add rfl rfl (by omega)) ?_))))));refine sm ?_;refine s_nil ?_;exact f_roundP (i + 1, p) ⟨c1, hC2⟩ (by dsimp only; omega) ⟨rfl, rfl, rfl, rfl, rfl, rfl, trivial⟩ (fun w h => h.tail)
      | true =>
        have hC2 := hC.miss (x := x) (fun h => by
          rcases h.1 with h | h
          · rw [hxw] at h; cases h
          · cases h) hP
        refine sm ?_;refine sy (y_notT rfl) ?_;refine spF ?_;refine sm ?_
        iterate 4 refine s_skip rfl rfl rfl ?_
        refine spF ?_;refine sm ?_
        iterate 4 refine s_skip rfl rfl rfl ?_
        refine spF ?_;refine snf (c_condF rfl (c_skip (f_blockN (f_then (c_region (sy (y_add rfl rfl (by omega)) ?_))))));refine sm ?_;refine s_nil ?_;exact f_roundP (i + 1, p) ⟨c1, hC2⟩ (by dsimp only; omega) ⟨rfl, rfl, rfl, rfl, rfl, rfl, trivial⟩ (fun w h => h.tail)
  · obtain rfl : i = L'.length := by omega
    have hiff := hC.iff (hi := hi) fun x hx => by rw [List.take_length]; exact (hS.mem x).2 hx
    by_cases c2 : hi ≤ p
    · rw [decide_eq_true (hiff.1 c2)];refine csr (sy (y_F (y_lss rfl rfl) (by omega)) ?_);refine snf (c_seq (c_condF rfl (c_exit (f_thenE (f_rndE (f_blockE (f_then (csr (sm ?_)))))))));refine sm ?_;refine sy (y_T (y_geq rfl rfl) (by omega)) ?_;refine sa ?_;refine snf (c_ret ?_);exact f_ret () (res1 rfl rfl) (fun w h => h.tail)
    · rw [decide_eq_false (fun h => c2 (hiff.2 h))];refine csr (sy (y_F (y_lss rfl rfl) (by omega)) ?_);refine snf (c_seq (c_condF rfl (c_exit (f_thenE (f_rndE (f_blockE (f_then (csr (sm ?_)))))))));refine sm ?_;refine sy (y_F (y_geq rfl rfl) (by omega)) ?_;refine sa ?_;refine snf (c_ret ?_);exact f_ret () (res1 rfl rfl) (fun w h => h.tail)
end Go.KL
end

section
/- Clearing rows; entries of maps that are made and stored in two steps. No program in sight. -/
namespace Go.KL
section
variable {P : Program} {W w : World} {Ls : List Chunk} {n : Nat} {σ : Slots} {dst : Option Tmp} {ty : TypeId} {pos : String} {after : Array Edge} {guard : Option (Nat × Bool)}
theorem over_take (vs L : List Value) (off : Nat) (h : off + vs.length ≤ L.length) : (over L off vs).take off = L.take off := by
  have h1 := over_app vs (L.take off) (L.drop off) (by simp; omega);rw [List.take_append_drop, List.length_take, Nat.min_eq_left (by omega)] at h1;rw [h1, List.append_assoc, List.take_append_of_le_length (by simp; omega), List.take_take, Nat.min_self]
theorem do_clear (T : Tab P) (i : Nat) {x : Operand} {t e : TypeId} {b off m c : Nat} {L : List Value} {z : Value} (hx : ev σ x = some (.slice (some ⟨b, off, none⟩) m c)) (ht : T.und t = some (.slice e)) (hz : T.zero e = some [z]) (h1 : z.oneCell' = true)
    (hi : Ls.getD i [] = [(b, row e L)]) (hl : off + m ≤ L.length) :
    Doos P n σ (K W Ls) ⟨dst, .call ⟨.builtin .clear, #[x], #[t]⟩, ty, pos, after, guard⟩ (X := { L' : List Value // L'.length = L.length ∧ L'.take off = L.take off }) (fun _ => .tuple #[]) (fun L' => K W (Ls.set i [(b, row e L'.1)])) := by
  intro a w hE hw;obtain ⟨inf, zv, i1, i2, i3⟩ := T.zero_ok hz;have hzc : zv.cells = #[z] := by
    apply Array.ext';rw [i3]
  have hrun : ∀ r, (execOp a.eval ⟨dst, .call ⟨.builtin .clear, #[x], #[t]⟩, ty, pos, after, guard⟩).run P w = r ↔ ((Builtin.clear_ #[t] ty #[.slice (some ⟨b, off, none⟩) m c]).run P w).andThen (fun v w' => .ok (.value v) w') = r := by
    intro r;simp [execOp, resolve, invoke, builtin, ev_eval hE hx]
  rcases Nat.eq_zero_or_pos m with h0 | h0
  · subst h0;refine ⟨⟨L, rfl, rfl⟩, w, ?_, ?_⟩
    · rw [hrun];simp [Builtin.clear_, run_und T ht]
    · have e1 : Ls.set i [(b, row e L)] = Ls := by
        have hlt := getD_lt hi;apply List.ext_getElem?;intro k;rw [List.getElem?_set];split
        · rename_i h; subst h;rw [← hi, List.getD_eq_getElem?_getD, List.getElem?_eq_getElem hlt];simp
        · rfl
      show K W (Ls.set i [(b, row e L)]) w;rw [e1]; exact hw
  · have hlen : (Builtin.zeroCells zv.cells m).toList.length = m := by
      rw [Array.length_toList, zeroCells_length, hzc]; simp
    obtain ⟨w', hr, hk⟩ := storeCells_over (P := P) (W := W) b e (Builtin.zeroCells zv.cells m).toList i Ls L off 0 w hi hw (fun v hv => by
      rw [hzc] at hv;have : v = z := by
        simp [Builtin.zeroCells] at hv;obtain ⟨j, _, h⟩ := hv;rw [Nat.mod_one] at h;exact h.symm
      rw [this]; exact h1) (by rw [hlen]; omega)
    refine ⟨⟨_, over_length _ _ _, ?_⟩, w', ?_, hk⟩
    · exact over_take _ _ _ (by rw [hlen]; omega)
    · rw [hrun];obtain ⟨m, rfl⟩ : ∃ k, m = k + 1 := ⟨m - 1, by omega⟩;simp [Builtin.clear_, run_und T ht, zeroValue, typeInfo, i1, i2, hr]
theorem findIdx_born {es : List Ent} {q : Int} {z : Value} {c : Nat} (h : ∀ e ∈ es, e.2.2 < c) : ((es ++ [(q, z, c)]).map ment).findIdx? (fun e => (e.born : Int) == (c : Int)) = some es.length := by
  induction es with
  | nil => simp [ment]
  | cons a r ih =>
    have ha := h a (by simp);have hne : ¬ ((a.2.2 : Int) = (c : Int)) := by omega
    rw [List.cons_append, List.map_cons, List.findIdx?_cons, ih fun e he => h e (by simp [he])];simp [ment, hne]
theorem modify_snoc {α : Type} (f : α → α) : ∀ (A : List α) (x : α), (A ++ [x]).modify A.length f = A ++ [f x]
  | [], x => rfl
  | a :: A, x => by
    rw [List.cons_append, List.length_cons, List.modify_succ_cons, modify_snoc f A x];rfl
theorem do_mapEntry (T : Tab P) (i : Nat) {x k : Operand} {t kt e : TypeId} {b c : Nat} {es : List Ent} {q : Int} {z : Value} (hx : ev σ x = some (.map (some b))) (hk : ev σ k = some (.int .i64 q)) (ht : T.und t = some (.map kt e)) (hkt : T.und kt = some (.int .i64))
    (hz : ∀ w, (zeroValue e).run P w = .ok z w) (hi : Ls.getD i [] = [(b, mobj es c)]) (hn : mhas q es = false) :
    Doos P n σ (K W Ls) ⟨dst, .mapEntry t x k, ty, pos, after, guard⟩ (X := Unit) (fun _ => .tuple #[z, .int .i64 (c : Nat)]) (fun _ => K W (Ls.set i [(b, mobj (es ++ [(q, z, c)]) (c + 1))])) := by
  intro a w hE hw;have hb := hw.at hi;have hf : (Instr.findKey kt (.int .i64 q) (es.map ment)).run P w = .ok none w := by
    have := MapKept.run_findKey (P := P) (w := w) (T.und_ok hkt) (findNow_mfind q es 0);rw [mfind_none.2 hn] at this;exact this
  have hc : (Instr.checkKey false 10000 kt (.int .i64 q)).run P w = .ok () w := run_checkInt (T.und_ok hkt) q false w;refine ⟨(), { w with heap := w.heap.setIfInBounds b (mobj (es ++ [(q, z, c)]) (c + 1)) }, ?_, hw.put hi (w' := { w with heap := w.heap.setIfInBounds b (mobj (es ++ [(q, z, c)]) (c + 1)) }) rfl rfl rfl (by simp) ?_ ?_⟩
  · have e1 : mobj (es ++ [(q, z, c)]) (c + 1) = .map ((es.map ment).toArray.push ⟨.int .i64 q, z, c⟩) (c + 1) := by
      simp [mobj, ment]
    have : (Instr.mapEntry t (.map (some b)) (.int .i64 q)).run P w = .ok (.tuple #[z, .int .i64 (c : Nat)]) { w with heap := w.heap.setIfInBounds b (mobj (es ++ [(q, z, c)]) (c + 1)) } := by
      simp only [Instr.mapEntry, Sem.run_bind, run_underlying (T.und_ok ht), Result.andThen, MapKept.run_getObj_map hb, hc, hf, hz, MapKept.run_setObj_map _ hb, Sem.run_pure];rw [e1];rfl
    simp [execOp, ev_eval hE hx, ev_eval hE hk, this]
  · intro c hc;simp [Ne.symm hc]
  · have := heap_lt hb;simp [this]
theorem set_entryStore (i : Nat) {x k v : Operand} {t : TypeId} {b c : Nat} {es : List Ent} {q : Int} {z u : Value} (hx : ev σ x = some (.map (some b))) (hk : ev σ k = some (.int .i64 (c : Nat))) (hv : ev σ v = some u)
    (hi : Ls.getD i [] = [(b, mobj (es ++ [(q, z, c)]) (c + 1))]) (hold : ∀ e ∈ es, e.2.2 < c) :
    Sets P n σ (K W Ls) ⟨dst, .entryStore t x k v, ty, pos, after, guard⟩ (K W (Ls.set i [(b, mobj (es ++ [(q, u, c)]) (c + 1))])) := by
  intro a w hE hw;have hb := hw.at hi;have hfi := findIdx_born (q := q) (z := z) hold;have e1 : mobj (es ++ [(q, u, c)]) (c + 1) = .map (((es ++ [(q, z, c)]).map ment).toArray.modify es.length fun e => { e with val := u }) (c + 1) := by
    simp only [mobj, List.modify_toArray, List.map_append, List.map_cons, List.map_nil];congr 2;have := modify_snoc (fun e : MapEntry => { e with val := u }) (es.map ment) (ment (q, z, c));rw [List.length_map] at this;rw [this];rfl
  have : (Instr.entryStore t (.map (some b)) (.int .i64 (c : Nat)) u).run P w = .ok () { w with heap := w.heap.setIfInBounds b (mobj (es ++ [(q, u, c)]) (c + 1)) } := by
    have h2 : (asInt (.int .i64 (c : Nat))).run P w = .ok (c : Int) w := rfl;simp only [Instr.entryStore, Sem.run_bind, Result.andThen, MapKept.run_getObj_map hb, h2];rw [show (((es ++ [(q, z, c)]).map ment).toArray.findIdx? fun e => (e.born : Int) == (c : Int)) = some es.length by rw [List.findIdx?_toArray]; exact hfi];simp only [MapKept.run_setObj_map _ hb];rw [e1]
  refine ⟨{ w with heap := w.heap.setIfInBounds b (mobj (es ++ [(q, u, c)]) (c + 1)) }, ?_, hw.put hi (w' := { w with heap := w.heap.setIfInBounds b (mobj (es ++ [(q, u, c)]) (c + 1)) }) rfl rfl rfl (by simp) ?_ ?_⟩
  · simp [execOp, ev_eval hE hx, ev_eval hE hk, ev_eval hE hv, this]
  · intro c hc;simp [Ne.symm hc]
  · have := heap_lt hb;simp [this]
end
section
variable {P : Program} {n : Nat} {σ : Slots} {C D : World → Prop} {Q : Post} {ops : Array Oper} {dr : Nat → Bool}
theorem d_do0 {i : Nat} {o : Oper} {plan : List PS} {X : Type} {v : X → Value} {C' : X → World → Prop} (hi : ops[i]? = some o) (hy : Doos P n σ C o v C') (hg : gd ops σ o = some true) (hd : o.dst = none)
    (hCl : ∀ x, Cl (C' x)) (hD : dr i = true → ∀ x w, C' x w → D w) (k : ∀ x, Sd P n ops dr D Q plan σ (C' x)) : Sd P n ops dr D Q (.s i :: plan) σ C := by
  intro listed a hE hdc hB hs;simp only [planB, Bool.and_eq_true, beq_iff_eq] at hB;refine one_ready hi hB.1 (.inl ⟨gd_wanted hE hg, X, v, C', hy.out hE, fun x => ⟨hCl x, fun h => hD h x, ?_⟩⟩);rw [hd];exact k x _ _ hE (hdc.set (ready_PL (by rw [hB.1]; simp))) hB.2 hs
end
end Go.KL
end

section
/- Changes of a book in memory. No program in sight. -/
namespace Go.KL
theorem set_aggB {P : Program} {W : World} {Ls : List Chunk} {n : Nat} {σ : Slots} {dst : Option Tmp} {ty : TypeId} {pos : String} {after : Array Edge} {guard : Option (Nat × Bool)} (T : Tab P) (i : Nat) {x y : Operand} {t : TypeId} {b off s : Nat} {e : TypeId} {l vs : List Value} (hx : ev σ x = some (.pointer (some ⟨b, off, none⟩))) (hy : ev σ y = some (.agg vs.toArray)) (h1 : vs.all Value.oneCell' = true)
    (hs : T.size t = some s) (hvs : vs.length = s) (hi : Ls.getD i [] = [(b, row e l)]) (hoff : Nat.ble (off + s) l.length = true) :
    Sets P n σ (K W Ls) ⟨dst, .store t x y, ty, pos, after, guard⟩ (K W (Ls.set i [(b, row e (over l off vs))])) := set_agg T i hx hy (List.all_eq_true.1 h1) hs hvs hi (Nat.le_of_ble_eq_true hoff)
theorem K.bckN {W w : World} {A B N : List Chunk} (h : K W (A ++ (B ++ N)) w) : K W (B ++ (A ++ N)) w := h.weak [] (by
  simp only [List.flatten_append, List.append_nil];rw [← List.append_assoc, ← List.append_assoc];exact List.Perm.append_right _ List.perm_append_comm)
theorem Hs.bk {W : World} {N : List Chunk} {g : Bg} : Hs (K W (g.L ++ N)) g.L.flatten := fun _ h => K.bin h
theorem Hs.nx {W : World} {N : List Chunk} {g : Bg} {c : Chunk} : Hs (K W (g.L ++ (c :: N))) c := fun _ h e he => (h.own e (by
  rw [List.flatten_append, List.flatten_cons];exact List.mem_append_right _ (List.mem_append_left _ he))).2
theorem req_cells {W : World} {Ls : List Chunk} {u : Tg} (i : Nat) (hi : Ls.getD i [] = [(u.b, row 113 u.cells)]) : CellsAre (K W Ls) ⟨u.b, 3, none⟩ (lkc u.req) := cells_row i hi fun j hj => by
  have : j < 4 := hj;rcases (show j = 0 ∨ j = 1 ∨ j = 2 ∨ j = 3 by omega) with rfl | rfl | rfl | rfl <;> rfl
theorem CellsAre.one {C : World → Prop} {b off : Nat} {v : Value} (h : CellIs C ⟨b, off, none⟩ v) : CellsAre C ⟨b, off, none⟩ [v] := by
  intro w hw j hj;have : j = 0 := by simpa using hj
  subst this;exact h w hw
structure Bg.Anc (g g' : Bg) : Prop where
  b : g'.b = g.b
  pb : g'.pb = g.pb
  len : g'.ts.length = g.ts.length
theorem Bg.Anc.refl (g : Bg) : g.Anc g := ⟨rfl, rfl, rfl⟩
theorem Bg.Anc.trans {a b c : Bg} (h : a.Anc b) (k : b.Anc c) : a.Anc c := ⟨k.b.trans h.b, k.pb.trans h.pb, k.len.trans h.len⟩
theorem Bg.Anc.has {g g' : Bg} (h : g.Anc g') {k : Nat} (hk : g.has k) : g'.has k := ⟨hk.1, by rw [h.len]; exact hk.2⟩
theorem Bg.Anc.ptr {g g' : Bg} (h : g.Anc g') (k : Nat) : g'.ptr k = g.ptr k := by rw [Bg.ptr, h.pb]
theorem Bg.Anc.ptl {g g' : Bg} (h : g.Anc g') (l : List Nat) : ptrs g' l = ptrs g l := List.map_congr_left fun k _ => by rw [h.ptr]
abbrev Bg.noQ (g : Bg) (X : List Chunk) : List Chunk := g.p :: [(g.b, row 96 g.cells)] :: [(g.ba, mobj g.ea g.ca)] :: [(g.br, mobj g.er g.cr)] :: g.lc :: (g.ts.flatMap Tg.chunks ++ X)
theorem Hs.noQ {W : World} {g : Bg} {X : List Chunk} : Hs (K W (g.noQ X)) (g.ts.flatMap Tg.chunks).flatten := fun w h e he => (h.own e (by
  simp only [Bg.noQ, List.flatten_cons, List.flatten_append, List.mem_append];exact .inr (.inr (.inr (.inr (.inr (.inl he))))))).2
theorem Hs.noQX {W : World} {g : Bg} {c : Chunk} {X : List Chunk} : Hs (K W (g.noQ (c :: X))) c := fun w h e he => (h.own e (by
  simp only [Bg.noQ, List.flatten_cons, List.flatten_append, List.mem_append];exact .inr (.inr (.inr (.inr (.inr (.inr (.inl he)))))))).2
abbrev Bg.rest (g : Bg) (k : Nat) : List Chunk := (g.ts.eraseIdx (k - 1)).flatMap Tg.chunks
theorem ts_perm {ts : List Tg} {i : Nat} {t t' : Tg} (h : ts[i]? = some t) : ((ts.set i t').flatMap Tg.chunks).flatten.Perm (t'.chunks.flatten ++ ((ts.eraseIdx i).flatMap Tg.chunks).flatten) := by
  induction ts generalizing i with
  | nil => simp at h
  | cons a ts ih =>
    cases i with
    | zero => simp
    | succ i =>
      have := ih (i := i) (by simpa using h);simp only [List.set_cons_succ, List.flatMap_cons, List.flatten_append, List.eraseIdx_cons_succ];refine (List.Perm.append_left _ this).trans ?_;rw [← List.append_assoc, ← List.append_assoc];exact List.Perm.append_right _ List.perm_append_comm
theorem ts_perm0 {ts : List Tg} {i : Nat} {t : Tg} (h : ts[i]? = some t) : (ts.flatMap Tg.chunks).flatten.Perm (t.chunks.flatten ++ ((ts.eraseIdx i).flatMap Tg.chunks).flatten) := by
  have := ts_perm (t' := t) h;have e : ts.set i t = ts := by
    apply List.ext_getElem?;intro j;rw [List.getElem?_set];split
    · rename_i hj;subst hj;rw [h];have := (List.getElem?_eq_some_iff.1 h).1;simp [this]
    · rfl
  rw [e] at this;exact this
section
variable {W w : World} {N : List Chunk} {g : Bg} {k : Nat} {t t' : Tg}
theorem K.foc (ht : g.ts[k - 1]? = some t) (h : K W (g.L ++ N) w) : K W (t.chunks ++ (g.fixed ++ (g.rest k ++ N))) w := by
  refine h.weak [] ?_;have h1 := ts_perm0 ht;simp only [Bg.L, List.flatten_append, List.append_nil];rw [List.append_assoc];refine (List.Perm.append_left _ (List.Perm.append_right _ h1)).trans ?_;rw [← List.append_assoc, ← List.append_assoc, ← List.append_assoc, ← List.append_assoc];exact List.Perm.append_right _ (List.Perm.append_right _ List.perm_append_comm)
theorem K.unfoc {F : List Chunk} (ht : g.ts[k - 1]? = some t) (h : K W (t'.chunks ++ (F ++ (g.rest k ++ N))) w) : K W ((F ++ (g.ts.set (k - 1) t').flatMap Tg.chunks) ++ N) w := by
  refine h.weak [] ?_;have h1 := ts_perm (t' := t') ht;simp only [List.flatten_append, List.append_nil];refine List.Perm.symm ?_;rw [List.append_assoc];refine (List.Perm.append_left _ (List.Perm.append_right _ h1)).trans ?_;rw [← List.append_assoc, ← List.append_assoc, ← List.append_assoc, ← List.append_assoc];exact List.Perm.append_right _ (List.Perm.append_right _ List.perm_append_comm)
def Bg.setT (g : Bg) (k : Nat) (t' : Tg) : Bg := { g with ts := g.ts.set (k - 1) t' }
theorem setT_get (ht : g.ts[k - 1]? = some t) (j : Nat) : (g.setT k t').ts[j]? = if j = k - 1 then some t' else g.ts[j]? := by
  have := (List.getElem?_eq_some_iff.1 ht).1;simp only [Bg.setT, List.getElem?_set];by_cases c : j = k - 1
  · subst c; simp [this]
  · rw [if_neg (fun e => c e.symm), if_neg c]
theorem setT_pb (ht : g.ts[k - 1]? = some t) (hb : t'.b = t.b) : (g.setT k t').pb = g.pb := by
  funext j;simp only [Bg.pb];rw [setT_get ht];split
  · rename_i c; rw [c, ht]; exact hb
  · rfl
theorem setT_bk : (g.setT k t').bk = g.bk.setT k t'.tx := by
  simp [Bg.setT, Bg.bk, Bk.setT, List.map_set]
structure Bg.Same (g g' : Bg) : Prop where
  pb : g'.pb = g.pb
  len : g'.ts.length = g.ts.length
theorem setT_same (ht : g.ts[k - 1]? = some t) (hb : t'.b = t.b) : g.Same (g.setT k t') := ⟨setT_pb ht hb, by simp [Bg.setT]⟩
theorem setT_anc (ht : g.ts[k - 1]? = some t) (hb : t'.b = t.b) : g.Anc (g.setT k t') := ⟨rfl, setT_pb ht hb, by simp [Bg.setT]⟩
theorem Bg.Same.ptr {g' : Bg} (h : g.Same g') (j : Nat) : g'.ptr j = g.ptr j := by rw [Bg.ptr, h.pb]
theorem Bg.OK.setT (h : g.OK) (ht : g.ts[k - 1]? = some t) (hb : t'.b = t.b) (hi : t'.id = t.id) (ho : t'.OK g.p) : (g.setT k t').OK := by
  have hs := setT_same (t' := t') ht hb;have hp := hs.ptr;refine { mC := h.mC, mW := h.mW, id := fun i u hu => ?_, ok := fun u hu => ?_, nd := ?_, eaM := h.eaM, eaG := fun j hj => ?_, eaH := fun z => ?_, eaL := ?_, erM := h.erM, erE := ?_, rnh := fun j hj => ?_, qB := ?_, qh := fun j hj => ?_, lB := h.lB, lO := h.lO }
  · rw [setT_get ht] at hu;split at hu
    · rename_i c;rw [← Option.some.inj hu, hi, c];exact h.id _ t ht
    · exact h.id i u hu
  · rcases List.mem_or_eq_of_mem_set hu with hu | rfl
    · exact h.ok u hu
    · exact ho
  · have e : (g.setT k t').ts.map (·.b) = g.ts.map (·.b) := by
      apply List.ext_getElem?;intro j;rw [List.getElem?_map, List.getElem?_map, setT_get ht];split
      · rename_i c; rw [c, ht]; simp [hb]
      · rfl
    rw [e];exact h.nd
  · rw [hp];exact h.eaG j (by have := hs.len; unfold Bg.has at hj; rw [this] at hj; exact hj)
  · rw [hs.len]; exact h.eaH z
  · rw [hs.len]; exact h.eaL
  · show g.er.map (fun e => (e.1, e.2.1)) = g.rn.map fun j : Nat => ((j : Int), (g.setT k t').ptr j);have : (fun j : Nat => ((j : Int), (g.setT k t').ptr j)) = fun j : Nat => ((j : Int), g.ptr j) := funext fun j => by rw [hp]
    rw [this];exact h.erE
  · have := h.rnh j hj;unfold Bg.has;rw [hs.len]; exact this
  · have : (fun j : Nat => [(g.setT k t').ptr j]) = fun j : Nat => [g.ptr j] := funext fun j => by rw [hp]
    show BufR 105 1 g.qv g.qc (g.q.map fun j => [(g.setT k t').ptr j]);rw [this];exact h.qB
  · have := h.qh j hj;unfold Bg.has;rw [hs.len]; exact this
def Bg.setQ (g : Bg) (q : List Nat) (qv : Value) (qc : Chunk) : Bg := { g with q := q, qv := qv, qc := qc }
theorem Bg.OK.setQ (h : g.OK) {q : List Nat} {qv : Value} {qc : Chunk} (hB : BufR 105 1 qv qc (q.map fun k => [g.ptr k])) (hq : ∀ k ∈ q, g.has k) : (g.setQ q qv qc).OK :=
  { mC := h.mC, mW := h.mW, id := h.id, ok := h.ok, nd := h.nd, eaM := h.eaM, eaG := h.eaG, eaH := h.eaH, eaL := h.eaL, erM := h.erM, erE := h.erE, rnh := h.rnh, qB := hB, qh := hq, lB := h.lB, lO := h.lO }
def Bg.delR (g : Bg) (k : Nat) : Bg := { g with rn := g.rn.filter (fun j => !decide (j = k)), er := mdel (k : Int) g.er }
theorem mdel_filter {k : Int} : ∀ {es : List Ent}, (es.map (·.1)).Nodup → mdel k es = es.filter fun e => !decide (e.1 = k)
  | [], _ => rfl
  | e :: r, h => by
    simp only [List.map_cons, List.nodup_cons] at h;rw [mdel, List.filter_cons];by_cases c : k = e.1
    · rw [if_pos c, if_neg (by simp [c])];refine (List.filter_eq_self.2 fun x hx => ?_).symm;have : x.1 ≠ k := fun e' => h.1 (by rw [← c, ← e']; exact List.mem_map.2 ⟨x, hx, rfl⟩);simp [this]
    · rw [if_neg c, if_pos (by simp [Ne.symm c]), mdel_filter h.2]
theorem Bg.OK.delR (h : g.OK) (k : Nat) : (g.delR k).OK := by
  have e1 := mdel_filter (k := (k : Int)) h.erM.keys;refine { mC := h.mC, mW := h.mW, id := h.id, ok := h.ok, nd := h.nd, eaM := h.eaM, eaG := h.eaG, eaH := h.eaH, eaL := h.eaL, erM := ?_, erE := ?_, rnh := fun j hj => h.rnh j (List.mem_filter.1 hj).1, qB := h.qB, qh := h.qh, lB := h.lB, lO := h.lO }
  · show MOK (mdel (k : Int) g.er) g.cr;rw [e1];have hs : (g.er.filter fun e => !decide (e.1 = (k : Int))).Sublist g.er := List.filter_sublist;exact ⟨(hs.map _).nodup h.erM.keys, (hs.map _).nodup h.erM.born, fun e he => h.erM.old e (hs.subset he), fun e he => h.erM.rng e (hs.subset he), Nat.le_trans hs.length_le h.erM.len⟩
  · show (mdel (k : Int) g.er).map (fun e => (e.1, e.2.1)) = (g.rn.filter (fun j => !decide (j = k))).map fun j : Nat => ((j : Int), g.ptr j);have h2 := congrArg (List.filter fun x : Int × Value => !decide (x.1 = (k : Int))) h.erE;rw [List.filter_map, List.filter_map] at h2;rw [e1];refine Eq.trans ?_ (h2.trans ?_)
    · rfl
    · congr 1;refine List.filter_congr fun j _ => ?_;simp;omega
def Bg.setW (g : Bg) (p : Chunk) (wv : Value) (W : Nat → Nat) : Bg := { g with p := p, wv := wv, W := W }
theorem Bg.OK.setW (h : g.OK) {p : Chunk} {wv : Value} {W : Nat → Nat} (hS : Sub g.p p) (hm : MV p wv g.size W) : (g.setW p wv W).OK :=
  { mC := h.mC.sub hS, mW := hm, id := h.id, ok := fun t ht => (h.ok t ht).sub hS, nd := h.nd, eaM := h.eaM, eaG := h.eaG, eaH := h.eaH, eaL := h.eaL, erM := h.erM, erE := h.erE, rnh := h.rnh, qB := h.qB, qh := h.qh, lB := h.lB, lO := fun x hx => ⟨Sub.pe (h.lO x hx).1 hS, (h.lO x hx).2.sub hS⟩ }
def Bg.setC (g : Bg) (p : Chunk) (cv : Value) (C : Nat → Nat) : Bg := { g with p := p, cv := cv, C := C }
theorem Bg.OK.setC (h : g.OK) {p : Chunk} {cv : Value} {C : Nat → Nat} (hS : Sub g.p p) (hm : MV p cv g.size C) : (g.setC p cv C).OK :=
  { mC := hm, mW := h.mW.sub hS, id := h.id, ok := fun t ht => (h.ok t ht).sub hS, nd := h.nd, eaM := h.eaM, eaG := h.eaG, eaH := h.eaH, eaL := h.eaL, erM := h.erM, erE := h.erE, rnh := h.rnh, qB := h.qB, qh := h.qh, lB := h.lB, lO := fun x hx => ⟨Sub.pe (h.lO x hx).1 hS, (h.lO x hx).2.sub hS⟩ }
def Bg.setL (g : Bg) (ls : List Lg) (lv : Value) (lc : Chunk) : Bg := { g with ls := ls, lv := lv, lc := lc }
theorem Bg.OK.setL (h : g.OK) {ls : List Lg} {lv : Value} {lc : Chunk} (hB : BufR 58 2 lv lc (ls.map fun x => [.int .i64 (x.1 : Nat), x.2.1])) (hl : ∀ x ∈ ls, PE g.p x.2.1 6 (opl x.2.2) ∧ OpsV g.p x.2.2) : (g.setL ls lv lc).OK :=
  { mC := h.mC, mW := h.mW, id := h.id, ok := h.ok, nd := h.nd, eaM := h.eaM, eaG := h.eaG, eaH := h.eaH, eaL := h.eaL, erM := h.erM, erE := h.erE, rnh := h.rnh, qB := h.qB, qh := h.qh, lB := hB, lO := hl }
end
end Go.KL
end

section
/- Walks: DeleteFunc on the queue. -/
namespace Go.KL
open Go.Proofs Go.Proofs.Tryz
abbrev pcs (g : Bg) (q : List Nat) : List Value := q.map fun k => g.ptr k
theorem ptrs_flat (g : Bg) (q : List Nat) : (ptrs g q).flatten = pcs g q := by
  induction q with
  | nil => rfl
  | cons a l ih => simp [ptrs, pcs] at ih ⊢; exact ih
structure Dlt (q : List Nat) (k i j : Nat) (ys : List Nat) : Prop where
  len : ys.length = q.length
  ij : i < j
  jl : j ≤ q.length
  tk : ys.take i = (q.take j).filter fun x => !decide (x = k)
  dr : ∀ m, j ≤ m → ys[m]? = q[m]?
theorem Dlt.begin {q : List Nat} {k i : Nat} (h1 : q[i]? = some k) (h2 : ∀ j, j < i → q[j]? ≠ some k) : Dlt q k i (i + 1) q := by
  have hi := (List.getElem?_eq_some_iff.1 h1).1;refine ⟨rfl, by omega, hi, ?_, fun _ _ => rfl⟩;have := filter_snoc (p := fun x => !decide (x = k)) h1;rw [this];simp only [decide_true, Bool.not_true, Bool.false_eq_true, if_false, List.append_nil];refine (List.filter_eq_self.2 fun x hx => ?_).symm;obtain ⟨j, hj⟩ := List.getElem?_of_mem hx;have hlt : j < i := by have := (List.getElem?_eq_some_iff.1 hj).1; simp at this; omega
  rw [List.getElem?_take_of_lt hlt] at hj;have : x ≠ k := fun e => h2 j hlt (by rw [hj, e]);simp [this]
theorem Dlt.skip {q : List Nat} {k i j : Nat} {ys : List Nat} (h : Dlt q k i j ys) (hj : q[j]? = some k) : Dlt q k i (j + 1) ys := by
  have hlt := (List.getElem?_eq_some_iff.1 hj).1;refine ⟨h.len, by have := h.ij; omega, hlt, ?_, fun m hm => h.dr m (by omega)⟩;rw [h.tk, filter_snoc (p := fun x => !decide (x = k)) hj];simp
theorem Dlt.keep {q : List Nat} {k i j x : Nat} {ys : List Nat} (h : Dlt q k i j ys) (hj : q[j]? = some x) (hx : x ≠ k) : Dlt q k (i + 1) (j + 1) (ys.set i x) := by
  have hlt := (List.getElem?_eq_some_iff.1 hj).1;have hij := h.ij;have hl := h.len;refine ⟨by simp [hl], by omega, hlt, ?_, fun m hm => ?_⟩
  · rw [filter_snoc (p := fun x => !decide (x = k)) hj, ← h.tk, if_pos (by simp [hx]), List.take_add_one, List.getElem?_set_self (by omega), List.take_set_of_le (Nat.le_refl i)];rfl
  · rw [List.getElem?_set_ne (by omega)];exact h.dr m (by omega)
theorem Dlt.done {q : List Nat} {k i : Nat} {ys : List Nat} (h : Dlt q k i q.length ys) : ys.take i = q.filter fun x => !decide (x = k) := by
  have := h.tk;rw [List.take_length] at this;exact this
abbrev Bg.tc (g : Bg) : Chunk := (g.ts.flatMap Tg.chunks).flatten
theorem Hs.objT {g : Bg} {C : World → Prop} {t : Tg} (hH : Hs C g.tc) (ht : t ∈ g.ts) : ∀ w, C w → ∃ ca ta, w.heap[t.b]? = some (.cells ca ta (0, 0)) := fun w hw =>
  ⟨_, _, hH w hw (t.b, row 113 t.cells) (List.mem_flatten.2 ⟨[(t.b, row 113 t.cells)], List.mem_flatMap.2 ⟨t, ht, by simp⟩, by simp⟩)⟩
attribute [local irreducible] SC St Fin Sq Ylds Doos Sets Enters Spec CellIs CellsAre Then Ret Rnd Chn resOK ints bools recs arr
theorem same_b {g : Bg} {C : World → Prop} {j k bx : Nat} (hB : g.OK) (hH : Hs C g.tc) (hj : g.has j) (hk : g.has k) (hb : CellIs C ⟨bx, 0, none⟩ (g.ptr k)) : Spec prog 97 #[g.ptr j, .pointer (some ⟨bx, 0, none⟩)] C (fun _ : Unit => .bool (decide (j = k))) (fun _ => C) := by
  obtain ⟨t, htm, _, hid, hpb, htx⟩ := hB.at hj;obtain ⟨u, hum, _, hid2, hpb2, htx2⟩ := hB.at hk;have e1 : g.ptr j = .pointer (some ⟨t.b, 0, none⟩) := by rw [Bg.ptr, hpb]
  have e2 : g.ptr k = .pointer (some ⟨u.b, 0, none⟩) := by rw [Bg.ptr, hpb2]
  rw [e1];rw [e2] at hb;refine enter (args := [_, _]) func97 rfl ntmps97 rfl ?_;by_cases c : j = k
  · subst c;have e3 : t.b = u.b := by rw [← hpb, hpb2]
    rw [decide_eq_true rfl, e3];refine csr (sa ?_);refine snf (csr (sm ?_));refine sl hb ?_;refine sy (y_eqlPS tab rfl rfl rfl rfl) ?_;refine sa ?_;refine snf (c_ret ?_);exact f_ret () (res1 rfl rfl) (fun w h => h)
  · rw [decide_eq_false c];have hne : (⟨t.b, 0, none⟩ : Addr) ≠ ⟨u.b, 0, none⟩ := fun h => by
      simp only [Addr.mk.injEq, and_true] at h;exact c (hB.pb_inj hj hk (by rw [hpb, hpb2, h]))
    have ho1 := hH.objT htm;have ho2 := hH.objT hum;refine csr (sa ?_);refine snf (csr (sm ?_));refine sl hb ?_;refine sy (y_eqlPO tab rfl rfl rfl rfl hne ho1 ho2) ?_;refine sa ?_;refine snf (c_ret ?_);exact f_ret () (res1 rfl rfl) (fun w h => h)
theorem ixf_b {g : Bg} {C : World → Prop} {k bx : Nat} {q : List Nat} {v : Value} (hB : g.OK) (hH : Hs C g.tc) (hk : g.has k) (hb : CellIs C ⟨bx, 0, none⟩ (g.ptr k)) (hv : EV C v 1 (ptrs g q)) (hq : ∀ j ∈ q, g.has j) (hl : q.length < 1000000) :
    Spec prog 116 #[v, .func (.func 97) #[] #[.pointer (some ⟨bx, 0, none⟩)]] C (X := { z : Int // (z = -1 ∧ k ∉ q) ∨ ∃ i : Nat, z = (i : Int) ∧ q[i]? = some k ∧ ∀ j, j < i → q[j]? ≠ some k }) (fun z => .int .i64 z.1) (fun _ => C) := by
  have hl2 : (ptrs g q).length = q.length := List.length_map _;refine enter (args := [_, _]) func116 rfl ntmps116 rfl ?_;refine csr (sa ?_);refine snf (c_seq (csr (sm ?_)));refine sy (y_lenE tab rfl (hv) rfl) ?_;refine sm ?_;refine snf (c_block ?_);refine c_loopP (α := Nat) (fun z => [(0, v), (1, .func (.func 97) #[] #[.pointer (some ⟨bx, 0, none⟩)]), (7, .int .i64 (ptrs g q).length), (8, .int .i64 (z : Nat))]) (fun z => z ≤ q.length ∧ ∀ i, i < z → q[i]? ≠ some k) (fun _ => C) (fun z => q.length - z) 0
    ⟨rfl, rfl, rfl, rfl, trivial⟩ ⟨Nat.zero_le _, fun i h => absurd h (by omega)⟩ (fun w h => h) ?_
  rintro z ⟨hz, hno⟩;by_cases c : z < q.length
  · obtain ⟨x, hx⟩ : ∃ x, q[z]? = some x := ⟨q[z], by simp [c]⟩;have hxh := hq x (List.mem_of_getElem? hx);have hcell := hv.cell (i := z) (x := g.ptr x) (by simp [hx]);refine csr (sy (y_T (y_lss rfl rfl) (by omega)) ?_);refine snf (c_seq (c_condT rfl (c_skip (f_then (c_seq (c_block (csr (sm ?_))))))));refine sa ?_;refine snf (csr (sm ?_));refine sm ?_;refine sm ?_;refine sy (y_ixE tab rfl rfl rfl rfl (hv) _ rfl (by omega)) ?_;refine sl hcell ?_;refine s_call (en_v rfl rfl call97) (same_b hB hH hxh hk hb) rfl rfl rfl (fun _ => ?_);by_cases e : x = k
    · rw [decide_eq_true e];refine snf (c_condT rfl (csr (sm ?_)));refine sa ?_;refine snf (c_ret (f_blockR (f_thenR (f_rndR (f_blockR (f_thenR ?_))))));exact f_ret ⟨(z : Int), .inr ⟨z, rfl, by rw [hx, e], hno⟩⟩ (res1 rfl rfl) (fun w h => h)
    · rw [decide_eq_false e];refine snf (c_condF rfl (c_skip (f_blockN (f_then (c_region (sy (y_add rfl rfl (by omega)) ?_))))));refine sm ?_;refine s_nil ?_;exact f_roundP (z + 1) ⟨c, fun i hi h => by
        by_cases e2 : i = z
        · subst e2;rw [hx] at h;exact e (Option.some.inj h)
        · exact hno i (by omega) h⟩ (by omega) ⟨rfl, rfl, rfl, rfl, trivial⟩ (fun w h => h)
  · obtain rfl : z = q.length := by omega
    refine csr (sy (y_F (y_lss rfl rfl) (by omega)) ?_);refine snf (c_seq (c_condF rfl (c_exit (f_thenE (f_rndE (f_blockE (f_then (csr (sa ?_)))))))));refine snf (c_ret (f_ret ⟨-1, .inl ⟨rfl, fun h => ?_⟩⟩ (res1 rfl rfl) (fun w h => h)));obtain ⟨i, hi⟩ := List.getElem?_of_mem h;exact hno i (List.getElem?_eq_some_iff.1 hi).1 hi
theorem delf_spec {g : Bg} {W : World} {N : List Chunk} {k bx : Nat} {q : List Nat} {v : Value} {c : Chunk} (hB : g.OK) (hH : Hs (K W N) g.tc) (hk : g.has k) (hb : CellIs (K W N) ⟨bx, 0, none⟩ (g.ptr k)) (hv : BufR 105 1 v c (ptrs g q)) (hq : ∀ j ∈ q, g.has j) (hl : q.length < 1000000) :
    Spec prog 96 #[v, .func (.func 97) #[] #[.pointer (some ⟨bx, 0, none⟩)]] (K W (c :: N)) (X := { x : Value × Chunk // BufR 105 1 x.1 x.2 (ptrs g (q.filter fun j => !decide (j = k))) }) (fun x => x.1.1) (fun x => K W (x.1.2 :: N)) := by
  have hl2 : (ptrs g q).length = q.length := List.length_map _;have hE := hv.view (C := K W (c :: N)) (Hs.at 0 rfl);have hH1 : Hs (K W (c :: N)) g.tc := hH.cons;have hb1 : CellIs (K W (c :: N)) ⟨bx, 0, none⟩ (g.ptr k) := hb.cons;refine enter (args := [_, _]) func96 rfl ntmps96 rfl ?_;refine csr (sa ?_);refine snf (csr (sm ?_));refine sm ?_;refine sk call116 (ixf_b hB hH1 hk hb1 hE hq hl) fun x => ?_;obtain ⟨z, ⟨rfl, hz⟩ | ⟨i, rfl, hi, hno⟩⟩ := x
  · dsimp only;have e : q.filter (fun j => !decide (j = k)) = q := List.filter_eq_self.2 fun x hx => by
      have : x ≠ k := fun e => hz (by rw [← e]; exact hx);simp [this]
    refine sa ?_;refine snf (c_seq (csr (sm ?_)));refine sy (y_T (y_eql rfl rfl) (by omega)) ?_;refine snf (c_condT rfl (csr (sm ?_)));refine sa ?_;refine snf (c_ret (f_thenR ?_));exact f_ret ⟨(v, c), by rw [e]; exact hv⟩ (res1 rfl rfl) (fun w h => h)
  · dsimp only;have hil := (List.getElem?_eq_some_iff.1 hi).1;obtain ⟨o, hvo, hco, hof, hp⟩ : ∃ o : Own, v = .slice (some ⟨o.b, 0, none⟩) q.length o.cap ∧ c = [(o.b, row 105 (pcs g q ++ o.rest))] ∧ owf 1 o q.length (pcs g q) ∧ o.pre = [] := by
      rcases hv.buf.ok with ⟨h1, _⟩ | ⟨o, h1, h2, h3, h4⟩
      · rw [hl2] at h1; omega
      · refine ⟨o, ?_, ?_, by rw [ptrs_flat, hl2] at h3; exact h3, h4⟩
        · rw [h1, osl, hl2, h4]; rfl
        · rw [h2, ptrs_flat, och, h4, List.nil_append]
    subst hvo hco;have hcap := hof.le;have hroom := hof.room;rw [Nat.mul_one] at hroom;have hD := Dlt.begin hi hno;refine sa ?_;refine snf (c_seq (csr (sm ?_)));refine sy (y_F (y_eql rfl rfl) (by omega)) ?_;refine snf (c_condF rfl (c_skip (f_then (c_seq (csr (sm ?_))))));refine sy (y_add rfl rfl (by omega)) ?_;refine sa ?_;refine snf (c_block ?_);refine c_loopP (α := Nat × Nat × List Nat) (fun z => [(0, .slice (some ⟨o.b, 0, none⟩) q.length o.cap), (1, .func (.func 97) #[] #[.pointer (some ⟨bx, 0, none⟩)]), (5, .int .i64 (z.1 : Nat)), (6, .int .i64 (z.2.1 : Nat))])
      (fun z => Dlt q k z.1 z.2.1 z.2.2) (fun z => K W ([(o.b, row 105 (pcs g z.2.2 ++ o.rest))] :: N)) (fun z => q.length - z.2.1) (i, i + 1, q)
      ⟨rfl, rfl, rfl, rfl, trivial⟩ hD (fun w h => h) ?_
    rintro ⟨a, j, ys⟩ hD;dsimp only at hD ⊢;have hjl := hD.jl;have haj := hD.ij;have hyl := hD.len;by_cases cj : j < q.length
    · obtain ⟨x, hx⟩ : ∃ x, q[j]? = some x := ⟨q[j], by simp [cj]⟩;have hxh := hq x (List.mem_of_getElem? hx);have hyj : ys[j]? = some x := by rw [hD.dr j (Nat.le_refl _)]; exact hx
      have hpj : (pcs g ys ++ o.rest)[j]? = some (g.ptr x) := by
        rw [List.getElem?_append_left (by rw [List.length_map]; omega)];simp [hyj]
      have hcell : CellIs (K W ([(o.b, row 105 (pcs g ys ++ o.rest))] :: N)) ⟨o.b, j, none⟩ (g.ptr x) := cell_row 0 rfl hpj;refine c_seq (csr (sm ?_));refine sm ?_;refine sy (y_lenR' tab rfl hv rfl) ?_;refine sy (y_T (y_lss rfl rfl) (by omega)) ?_;refine snf (c_condT rfl (c_skip (f_then (c_seq (c_block (csr (sm ?_)))))));refine sm ?_;refine sy (y_indexAddr1 tab rfl rfl rfl rfl _ rfl (by omega)) ?_;refine sl hcell ?_;refine sa ?_;refine snf (csr (sm ?_));refine sm ?_;refine s_call (en_v rfl rfl call97) (same_b hB hH.cons hxh hk hb.cons) rfl rfl rfl (fun _ => ?_);by_cases e : x = k
      · subst e;rw [decide_eq_true rfl];refine sy (y_notT rfl) ?_;refine snf (c_condF rfl (c_skip (f_blockN (f_then (c_region (sm ?_))))));refine sy (y_add rfl rfl (by omega)) ?_;refine sa ?_;refine s_nil ?_;exact f_roundP (a, j + 1, ys) (hD.skip hx) (by dsimp only; omega) ⟨rfl, rfl, rfl, rfl, trivial⟩ (fun w h => h)
      · rw [decide_eq_false e];have hset : (pcs g ys ++ o.rest).set a (g.ptr x) = pcs g (ys.set a x) ++ o.rest := by
          rw [List.set_append_left _ _ (by rw [List.length_map]; omega), ← List.map_set]
        have haL : a < (pcs g ys ++ o.rest).length := by rw [List.length_append, List.length_map]; omega
        refine sy (y_notF rfl) ?_;refine snf (c_condT rfl (csr (sm ?_)));refine sm ?_;refine sm ?_;refine sy (y_indexAddr1 tab rfl rfl rfl rfl _ rfl (by omega)) ?_;refine ss (set_row tab 0 rfl rfl rfl rfl rfl haL) ?_;rw [hset];refine snf (c_region (sm ?_));refine sy (y_add rfl rfl (by omega)) ?_;refine sa ?_;refine s_nil (f_blockN (f_then (c_region (sm ?_))));refine sy (y_add rfl rfl (by omega)) ?_;refine sa ?_;refine s_nil ?_;exact f_roundP (a + 1, j + 1, ys.set a x) (hD.keep hx e) (by dsimp only; omega) ⟨rfl, rfl, rfl, rfl, trivial⟩ (fun w h => h)
    · obtain rfl : j = q.length := by omega
      have hdone := hD.done;have htl : (pcs g ys ++ o.rest).take a = pcs g (q.filter fun j => !decide (j = k)) := by
        rw [List.take_append_of_le_length (by rw [List.length_map]; omega), ← List.map_take, hdone]
      have hfl : (q.filter fun j => !decide (j = k)).length = a := by rw [← hdone, List.length_take]; omega
      have hne : ¬ o.cap = a := by omega
      have hsl : (if o.cap = a then some (⟨o.b, 0, none⟩ : Addr) else Option.map (fun x : Addr => x.add (a * 1)) (some (⟨o.b, 0, none⟩ : Addr))) = some (⟨o.b, a, none⟩ : Addr) := by
        rw [if_neg hne];simp [addr_add]
      have hlen : a + (q.length - a) ≤ (pcs g ys ++ o.rest).length := by rw [List.length_append, List.length_map]; omega
      refine c_seq (csr (sm ?_));refine sm ?_;refine sy (y_lenR' tab rfl hv rfl) ?_;refine sy (y_F (y_lss rfl rfl) (by omega)) ?_;refine snf (c_condF rfl (c_exit (f_thenE (f_rndE (f_blockE (f_then (csr (sm ?_))))))));refine sm ?_;refine sy (y_sliceFrom tab rfl rfl rfl rfl rfl (by omega) (by omega)) ?_;refine s_do0 (do_clear tab 0 (b := o.b) (off := a) (m := q.length - a) (c := o.cap - a) (congrArg (fun p => some (Value.slice p (q.length - a) (o.cap - a))) hsl) rfl rfl rfl rfl hlen) rfl rfl (fun x => ?_);obtain ⟨L', hL1, hL2⟩ := x;dsimp only;rw [htl] at hL2;have hres : BufR 105 1 (.slice (some ⟨o.b, 0, none⟩) a o.cap) [(o.b, row 105 L')] (ptrs g (q.filter fun j => !decide (j = k))) := by
        refine ⟨ptrs_len g _, ⟨.inr ⟨⟨o.b, o.cap, [], L'.drop a⟩, ?_, ?_, ⟨?_, ?_, ?_, ?_⟩, rfl⟩⟩⟩
        · rw [List.length_map, hfl]; rfl
        · rw [ptrs_flat, ← hL2, och, List.nil_append, List.take_append_drop]
        · rw [List.length_map, hfl]; show a ≤ o.cap; omega
        · exact hof.max
        · rw [ptrs_flat, List.length_map, List.length_map, Nat.mul_one]
        · rw [List.length_map, hfl, List.length_drop, hL1, List.length_append, List.length_map]; show (o.cap - a) * 1 ≤ _; omega
      refine snf (csr (sm ?_));refine sm ?_;refine sy (y_sliceTo tab rfl rfl rfl rfl rfl (by omega)) ?_;refine sa ?_;refine snf (c_ret ?_);exact f_ret ⟨(_, _), hres⟩ (res1 rfl rfl) (fun w h => h)
end Go.KL
end

section
/- Walks: release. -/
namespace Go.KL
open Go.Proofs Go.Proofs.Tryz
structure Lm (g : Bg) : Prop where
  lk : ∀ t ∈ g.ts, t.locks.length ≤ 4096
  rn : g.rn.length ≤ 64
  q : g.q.length ≤ 64
attribute [local irreducible] SC St Fin Sq Ylds Doos Sets Enters Spec CellIs CellsAre Then Ret Rnd Chn resOK ints bools recs arr
theorem release_spec {g : Bg} {W : World} {N : List Chunk} {k : Nat} (hB : g.OK) (hL : Lm g) (hk : g.has k) :
    Spec prog 66 #[.pointer (some ⟨g.b, 0, none⟩), g.ptr k] (K W (g.L ++ N)) (X := { g' : Bg // g'.OK ∧ g'.bk = g.bk.release k ∧ g.Anc g' }) (fun _ => .tuple #[]) (fun g' => K W (g'.1.L ++ N)) := by
  obtain ⟨t, htm, hti, hid, hpb, htx⟩ := hB.at hk;have ep : g.ptr k = .pointer (some ⟨t.b, 0, none⟩) := by rw [Bg.ptr, hpb]
  rw [ep];refine enter (args := [_, _]) func66 rfl ntmps66 rfl ?_;refine csr (sbx fun b3 => ?_);refine snf (csr (slr 0 ?_));refine sn ?_;refine sf 2 ?_;refine St.cls (C' := K W (t.chunks ++ (g.fixed ++ (g.rest k ++ ([(b3, row 105 [.pointer (some ⟨t.b, 0, none⟩)])] :: N))))) ?_ (fun w h => K.foc hti (K.bckN (A := [[(b3, row 105 [.pointer (some ⟨t.b, 0, none⟩)])]]) h));obtain ⟨t1, ht1⟩ : ∃ t1 : Tg, t1 = { t with locks := [], lv := .slice none 0 0, lc := [] } := ⟨_, rfl⟩;refine ss (set_rowB tab 0 rfl rfl rfl rfl rfl rfl) ?_;refine snf ?_;obtain ⟨g1, hg1⟩ : ∃ g1 : Bg, g1 = g.setT k t1 := ⟨_, rfl⟩;refine SC.cls (C' := K W (g1.L ++ ([(b3, row 105 [.pointer (some ⟨t.b, 0, none⟩)])] :: N))) ?_ (fun w h => by
    rw [hg1];refine K.unfoc (t' := t1) (F := g.fixed) hti ?_;rw [ht1];exact (h.dropAt 1).weak [] (by simp))
  have hA1 : g.Anc g1 := by rw [hg1]; exact setT_anc hti (by rw [ht1])
  have hB1 : g1.OK := by
    rw [hg1];refine hB.setT hti (by rw [ht1]) (by rw [ht1]) ?_;rw [ht1];exact ⟨.nil, (hB.ok t htm).o, (hB.ok t htm).r⟩
  have hq1 : g1.q = g.q := by rw [hg1]; rfl
  have hbk1 : g1.bk = g.bk.setT k { g.bk.tx k with locks := [] } := by rw [hg1, setT_bk, htx, ht1]; rfl
  have ht1m : t1 ∈ g1.ts := by
    rw [hg1];exact List.mem_of_getElem? (i := k - 1) (by rw [setT_get hti, if_pos rfl])
  have hti1 : t1.id = k := by rw [ht1]; exact hid
  have hp1 : g1.ptr k = .pointer (some ⟨t.b, 0, none⟩) := by rw [hA1.ptr, ep]
  obtain ⟨f0, f1, f2, f3, f4, f5, fq, fl, fea, fer⟩ := hB1.bf (C := K W (g1.L ++ ([(b3, row 105 [.pointer (some ⟨t.b, 0, none⟩)])] :: N))) Hs.bk;rw [hA1.b] at f4;clear f0 f1 f2 f3 f5 fq fl fea fer;refine csr (sm ?_);refine sm ?_;refine sn ?_;refine sf 4 ?_;refine sl f4 ?_;refine sy (y_makeFunc rfl rfl) ?_;refine St.cls (C' := K W (g1.qc :: g1.noQ ([(b3, row 105 [.pointer (some ⟨t.b, 0, none⟩)])] :: N))) ?_ (fun w h => h.front 4);refine s_call (en_f rfl call96) (delf_spec (k := k) (bx := b3) hB1 Hs.noQ (hA1.has hk) (by rw [hp1]; exact Hs.cell (e := 105) (l := [.pointer (some ⟨t.b, 0, none⟩)]) Hs.noQX (by simp) rfl) hB1.qB hB1.qh (by rw [hq1]; have := hL.q; omega)) rfl rfl rfl (fun x => ?_);obtain ⟨⟨v2, c2⟩, hR2⟩ := x;dsimp only at hR2 ⊢;obtain ⟨q2, hq2⟩ : ∃ q2, q2 = g.q.filter fun j => !decide (j = k) := ⟨_, rfl⟩;rw [hq1, ← hq2] at hR2;have hq2h : ∀ j ∈ q2, g1.has j := fun j hj => hA1.has (hB.qh j (by rw [hq2] at hj; exact (List.mem_filter.1 hj).1));obtain ⟨g2, hg2⟩ : ∃ g2 : Bg, g2 = g1.setQ q2 v2 c2 := ⟨_, rfl⟩;have hB2 : g2.OK := by rw [hg2]; exact hB1.setQ hR2 hq2h
  have hA2 : g1.Anc g2 := by rw [hg2]; exact ⟨rfl, rfl, rfl⟩
  refine St.cls (C' := K W (c2 :: g1.p :: [(g.b, row 96 g1.cells)] :: [(g1.ba, mobj g1.ea g1.ca)] :: [(g1.br, mobj g1.er g1.cr)] :: g1.lc :: (g1.ts.flatMap Tg.chunks ++ ([(b3, row 105 [.pointer (some ⟨t.b, 0, none⟩)])] :: N)))) ?_ (fun w h => by rw [← hA1.b]; exact h);refine sn ?_;refine sf 4 ?_;refine ss (set_row tab 2 rfl rfl hR2.one rfl rfl (Nat.lt_of_sub_eq_succ rfl)) ?_;refine snf ?_;refine SC.cls (C' := K W (g2.L ++ ([(b3, row 105 [.pointer (some ⟨t.b, 0, none⟩)])] :: N))) ?_ (fun w h => by
    rw [← hA1.b] at h;rw [hg2];exact K.bckN (A := [c2]) (B := [g1.p, [(g1.b, row 96 [g1.cv, g1.wv, .map (some g1.ba), .map (some g1.br), v2, g1.lv])], [(g1.ba, mobj g1.ea g1.ca)], [(g1.br, mobj g1.er g1.cr)]]) h)
  have ht1m2 : t1 ∈ g2.ts := by rw [hg2]; exact ht1m
  obtain ⟨f0, f1, f2, f3, f4, f5, fq, fl, fea, fer⟩ := hB2.bf (C := K W (g2.L ++ ([(b3, row 105 [.pointer (some ⟨t.b, 0, none⟩)])] :: N))) Hs.bk;obtain ⟨e0, e1, e2, e3, e7, el, eo⟩ := hB2.tf (C := K W (g2.L ++ ([(b3, row 105 [.pointer (some ⟨t.b, 0, none⟩)])] :: N))) Hs.bk ht1m2;have etb : t1.b = t.b := by rw [ht1]
  rw [hA2.b, hA1.b] at f3;rw [etb, hti1] at e0;have hbx : CellIs (K W (g2.L ++ ([(b3, row 105 [.pointer (some ⟨t.b, 0, none⟩)])] :: N))) ⟨b3, 0, none⟩ (.pointer (some ⟨t.b, 0, none⟩)) := Hs.cell (e := 105) (l := [.pointer (some ⟨t.b, 0, none⟩)]) Hs.nx (by simp) rfl;clear f0 f1 f2 f4 f5 fq fl fea fer e1 e2 e3 e7 el eo;refine c_seq (c_plan [.c 0, .c 1, .c 2, .c 3, .c 4, .c 5, .c 6, .c 7, .s 8] [8] (K W (g2.L ++ ([(b3, row 105 [.pointer (some ⟨t.b, 0, none⟩)])] :: N))) mixed (by kernel_rfl) rfl K.cl ?_);refine dy rfl (y_move rfl) (fun _ h => h) ?_;refine dy rfl (y_nilP rfl) (fun _ h => h) ?_;refine dy rfl (y_fieldAddrB tab 3 rfl rfl rfl rfl rfl) (fun _ h => h) ?_;refine dy rfl (y_load tab rfl rfl f3) (fun _ h => h) ?_;refine dy rfl (y_load tab rfl rfl hbx) (fun _ h => h) ?_;refine dy rfl (y_nilP rfl) (fun _ h => h) ?_;refine dy rfl (y_fieldAddr0 tab rfl rfl rfl rfl rfl) (fun _ h => h) ?_;refine dy rfl (y_load tab rfl rfl e0) (fun _ h => h) ?_;refine d_do0 rfl (do_delete tab 3 rfl rfl rfl rfl rfl) rfl rfl (fun _ => K.cl) (fun h => by cases h) (fun _ => ?_);obtain ⟨g3, hg3⟩ : ∃ g3 : Bg, g3 = g2.delR k := ⟨_, rfl⟩;have hB3 : g3.OK := by rw [hg3]; exact hB2.delR k
  have hA3 : g.Anc g3 := hA1.trans (hA2.trans (by rw [hg3]; exact ⟨rfl, rfl, rfl⟩));have hbk3 : g3.bk = g.bk.off k := by
    have e1 : g3.bk = { g1.bk with q := q2, rn := g1.bk.rn.filter fun j => !decide (j = k) } := by rw [hg3, hg2]; rfl
    rw [e1, hbk1, hq2];rfl
  have hq3 : g3.q = q2 := by rw [hg3, hg2]; rfl
  have hv3 : g3.qv = v2 := by rw [hg3, hg2]; rfl
  have hc3 : g3.qc = c2 := by rw [hg3, hg2]; rfl
  have hlk3 : ∀ u ∈ g3.ts, u.locks.length ≤ 4096 := fun u hu => by
    rw [hg3, hg2, hg1] at hu;rcases List.mem_or_eq_of_mem_set hu with hu | rfl
    · exact hL.lk u hu
    · rw [ht1]; exact Nat.zero_le _
  have hrn3 : g3.rn.length ≤ 64 := by
    have h1 : g3.rn = g.rn.filter fun j => !decide (j = k) := by rw [hg3, hg2, hg1]; rfl
    rw [h1];exact Nat.le_trans (List.length_filter_le _ _) hL.rn
  have hq2l : q2.length ≤ 64 := by rw [hq2]; exact Nat.le_trans (List.length_filter_le _ _) hL.q
  refine d_nil (Fin.cls (C' := K W (g3.L ++ ([(b3, row 105 [.pointer (some ⟨t.b, 0, none⟩)])] :: N))) ?_ (fun w h => by rw [hg3]; exact h));clear hB2 hA2 ht1m2 f3 e0 etb hbx hg2 hg3 hB1 hA1 hq1 hbk1 ht1m hti1 hp1 f4 hg1 ht1 hR2 hq2h;obtain ⟨f0, f1, f2, f3, f4, f5, fq, fl, fea, fer⟩ := hB3.bf (C := K W (g3.L ++ ([(b3, row 105 [.pointer (some ⟨t.b, 0, none⟩)])] :: N))) Hs.bk;rw [hA3.b] at f4;clear f0 f1 f2 f3 f5 fl fea fer;have hl2 : (ptrs g3 g3.q).length = g3.q.length := List.length_map _;have hq3l : g3.q.length ≤ 64 := by rw [hq3]; exact hq2l
  refine f_then (csr (sa ?_));refine snf (c_seq (csr (sm ?_)));refine sn ?_;refine sf 4 ?_;refine sl f4 ?_;refine sy (y_lenE tab rfl (fq) rfl) ?_;refine sm ?_;refine snf (c_block ?_);refine c_loopP (α := Nat × Bg × List Nat × Value × Chunk) (fun z => [(0, .pointer (some ⟨g.b, 0, none⟩)), (4, z.2.2.2.1), (30, g3.qv), (31, .int .i64 (ptrs g3 g3.q).length), (32, .int .i64 (z.1 : Nat))])
    (fun z => z.1 ≤ g3.q.length ∧ z.2.1.OK ∧ g3.Anc z.2.1 ∧ z.2.1.q = g3.q ∧ z.2.1.qv = g3.qv ∧ z.2.1.rn = g3.rn ∧ (∀ u ∈ z.2.1.ts, u.locks.length ≤ 4096 + z.1) ∧ (∀ j ∈ z.2.2.1, j ∈ g3.q) ∧ z.2.2.1.length ≤ z.1 ∧ BufR 105 1 z.2.2.2.1 z.2.2.2.2 (ptrs g3 z.2.2.1) ∧ g3.bk.gr g3.q [] = z.2.1.bk.gr (g3.q.drop z.1) z.2.2.1)
    (fun z => K W (z.2.2.2.2 :: (z.2.1.L ++ ([(b3, row 105 [.pointer (some ⟨t.b, 0, none⟩)])] :: N)))) (fun z => g3.q.length - z.1) (0, g3, [], .slice none 0 0, [])
    ⟨rfl, rfl, rfl, rfl, rfl, trivial⟩ ⟨Nat.zero_le _, hB3, .refl _, rfl, rfl, rfl, hlk3, fun j hj => by simp at hj, Nat.le_refl _, .nil, rfl⟩ (fun w h => h.addNil) ?_
  rintro ⟨i, g', st, sv, sc⟩ ⟨hi, hB', hA', hq', hv', hr', hlk', hst, hsl, hS, hgr⟩;dsimp only at hi hB' hA' hq' hv' hr' hlk' hst hsl hS hgr ⊢;have hHs : Hs (K W (sc :: (g'.L ++ ([(b3, row 105 [.pointer (some ⟨t.b, 0, none⟩)])] :: N)))) g'.L.flatten := Hs.bk.cons;by_cases c1 : i < g3.q.length
  · obtain ⟨x, hx⟩ : ∃ x, g3.q[i]? = some x := ⟨g3.q[i], by simp [c1]⟩;have hxq : x ∈ g3.q := List.mem_of_getElem? hx;have hxh : g'.has x := hA'.has (hB3.qh x hxq);obtain ⟨u, hum, hui, hid2, hpb2, hux⟩ := hB'.at hxh;have hcell := (hB'.bf hHs).q.cell (i := i) (x := .pointer (some ⟨u.b, 0, none⟩)) (by rw [hq']; simp [hx, Bg.ptr, hpb2]);rw [hv'] at hcell;have hEq : EV (K W (sc :: (g'.L ++ ([(b3, row 105 [.pointer (some ⟨t.b, 0, none⟩)])] :: N)))) g3.qv 1 (ptrs g3 g3.q) := by
      have := (hB'.bf hHs).q;rw [hv', hq'] at this;change EV _ _ 1 (ptrs g' g3.q) at this;rw [hA'.ptl] at this;exact this
    obtain ⟨e0, e1, e2, e3, e7, el, eo⟩ := hB'.tf hHs hum;have hfree := free_b (l := u.req) (fr := st) (fv := sv) hB' ⟨fun u hu => by have := hlk' u hu; omega, by rw [hr']; omega, by rw [hq', hq3]; omega⟩ hHs (by rw [hA'.ptl]; exact hS.view (Hs.at 0 rfl)) (fun j hj => hA'.has (hB3.qh j (hst j hj))) (by omega);rw [hA'.b, hA3.b] at hfree;have hdrop : g3.q.drop i = x :: g3.q.drop (i + 1) := by
      rw [List.drop_eq_getElem_cons c1];congr 1;rw [List.getElem?_eq_getElem c1] at hx;exact Option.some.inj hx
    have hreq : (g'.bk.tx x).req = u.req := by rw [hux]; rfl
    clear e0 e1 e2 e7 el eo;refine csr (sy (y_T (y_lss rfl rfl) (by omega)) ?_);refine snf (c_seq (c_condT rfl (c_skip (f_then (c_seq (c_block (csr (sy (y_ixE tab rfl rfl rfl rfl (hEq) _ rfl (by omega)) ?_))))))));refine sl hcell ?_;refine sa ?_;refine snf (c_seq (csr (sm ?_)));refine sm ?_;refine sn ?_;refine sf 3 ?_;refine sy (y_loadA tab rfl rfl rfl rfl e3) ?_;refine sm ?_;refine sk call98 hfree fun _ => ?_;have hpx : g3.ptr x = .pointer (some ⟨u.b, 0, none⟩) := by rw [← hA'.ptr, Bg.ptr, hpb2]
    cases hf : g'.bk.free u.req st with
    | false =>
      refine sy (y_notF rfl) ?_;refine snf (c_condT rfl (csr (sm ?_)));refine sm ?_;refine s_do (do_buildSlice1 tab ⟨rfl, rfl, rfl, rfl⟩ rfl rfl rfl rfl) rfl rfl rfl (fun b46 => ?_);refine s_do (do_appendR (by_ := 8) tab 1 rfl hS rfl ⟨rfl, rfl, rfl, rfl⟩ rfl (by simp) rfl (cells_row0 0 rfl rfl) rfl rfl (by rw [List.length_map]; omega) (by omega)) rfl rfl rfl (fun y => ?_);obtain ⟨⟨sv', sc'⟩, hS'⟩ := y;dsimp only at hS' ⊢;refine sa ?_;refine snf (c_exit (f_thenE (f_blockE (f_then (c_region (sy (y_add rfl rfl (by omega)) ?_))))));refine sm ?_;refine s_nil ?_;exact f_roundP (i + 1, g', st ++ [x], sv', sc') ⟨c1, hB', hA', hq', hv', hr', fun u hu => by have := hlk' u hu; dsimp only; omega, fun j hj => by
        rcases List.mem_append.1 hj with hj | hj
        · exact hst j hj
        · rw [List.mem_singleton.1 hj]; exact hxq, by rw [List.length_append]; dsimp only [List.length_cons, List.length_nil]; omega, by
        rw [ptrs, List.map_append];rw [← hpx] at hS';exact hS', by
        rw [hgr, hdrop, Bk.gr, hreq, hf];rfl⟩ (by dsimp only; omega) ⟨rfl, rfl, rfl, rfl, rfl, trivial⟩ (fun w h => h.tail)
    | true =>
      have hOu := hB'.ok u hum;refine sy (y_notT rfl) ?_;refine snf (c_condF rfl (c_skip (f_then (c_seq (SC.cls (C' := K W (u.chunks ++ (g'.fixed ++ (g'.rest x ++ (sc :: [(b3, row 105 [.pointer (some ⟨t.b, 0, none⟩)])] :: N))))) ?_ (fun w h => K.foc hui (K.bckN (A := [sc]) h)))))));have hrq : CellsAre (K W [[(u.b, row 113 u.cells)]]) ⟨u.b, 3, none⟩ (lkc u.req) := req_cells 0 rfl;refine c_plan [.c 0, .c 1, .c 2, .c 3, .c 4, .c 5, .c 6, .c 7, .c 8, .s 9, .s 10, .c 11, .c 12, .s 13] [13] ((K W [[(u.b, row 113 u.cells)]])) mixed (by kernel_rfl) rfl K.cl ?_;refine dy rfl (y_move rfl) (fun w h => h.keep 1) ?_;refine dy rfl (y_move rfl) (fun w h => h.keep 1) ?_;refine dy rfl (y_nilP rfl) (fun w h => h.keep 1) ?_;refine dy rfl (y_fieldAddrB tab 2 rfl rfl rfl rfl rfl) (fun w h => h.keep 1) ?_;refine dy rfl (y_load tab rfl rfl (cell_row 0 rfl rfl)) (fun w h => h.keep 1) ?_;refine dy rfl (y_move rfl) (fun w h => h.keep 1) ?_;refine dy rfl (y_nilP rfl) (fun w h => h.keep 1) ?_;refine dy rfl (y_fieldAddrB tab 3 rfl rfl rfl rfl rfl) (fun w h => h.keep 1) ?_;refine dy rfl (y_loadA tab rfl rfl rfl rfl hrq) (fun w h => h.keep 1) ?_;refine d_s rfl (do_buildSliceS tab ⟨rfl, rfl, rfl, rfl⟩ rfl rfl rfl rfl) rfl rfl rfl (fun _ => K.cl) (fun _ _ _ h => h.tail.keep 1) (fun b57 => ?_);refine d_s rfl (do_appendR (by_ := 32) tab 2 rfl hOu.l rfl ⟨rfl, rfl, rfl, rfl⟩ rfl (by simp) rfl (cells_row0 0 rfl rfl) rfl rfl (by rw [List.length_map]; have := hlk' u hum; omega) (by omega)) rfl rfl rfl (fun _ => K.cl) (fun _ _ _ h => h.tail.keep 1) (fun y => ?_);obtain ⟨⟨lv', lc'⟩, hl'⟩ := y;dsimp only at hl' ⊢;refine dy rfl (y_nilP rfl) (fun w h => h.tail.keep 1) ?_;refine dy rfl (y_fieldAddrB tab 2 rfl rfl rfl rfl rfl) (fun w h => h.tail.keep 1) ?_;refine d_set rfl (set_row tab 1 rfl rfl hl'.one rfl rfl (Nat.lt_of_sub_eq_succ rfl)) rfl rfl K.cl (fun h => by cases h) ?_;refine d_nil (f_then (c_region (sm ?_)));refine sm ?_;refine sy (y_build tab rfl rfl rfl rfl rfl) ?_;refine sn ?_;refine sf 1 ?_;refine ss (set_rowB tab 1 rfl rfl rfl rfl rfl rfl) ?_;refine sn ?_;refine sf 3 ?_;refine ss (set_aggB tab 1 rfl rfl rfl rfl rfl rfl rfl) ?_;refine s_nil (f_blockN (f_then (c_region (sy (y_add rfl rfl (by omega)) ?_))));refine sm ?_;refine s_nil ?_;obtain ⟨u', hu'⟩ : ∃ u' : Tg, u' = { u with st := 1, locks := u.locks ++ [u.req], req := Lk.zero, lv := lv', lc := lc' } := ⟨_, rfl⟩;have hub : u'.b = u.b := by rw [hu']
      have huid : u'.id = u.id := by rw [hu']
      have huo : u'.OK g'.p := by
        rw [hu'];exact ⟨hl'.of (by simp [lks, allCells, cellsL]), hOu.o, hOu.r⟩
      have hA2 := setT_anc (t' := u') hui hub;exact f_roundP (i + 1, g'.setT x u', st, sv, sc) ⟨c1, hB'.setT hui hub huid huo, hA'.trans hA2, hq', hv', hr', fun y hy => by
        dsimp only at hy ⊢;rcases List.mem_or_eq_of_mem_set hy with hy | rfl
        · have := hlk' y hy; omega
        · have := hlk' u hum;rw [hu', List.length_append];simp only [List.length_cons, List.length_nil];omega, hst, by dsimp only; omega, hS, by
        rw [hgr, hdrop, Bk.gr, hreq, hf, if_pos rfl];congr 1;rw [setT_bk, Bk.grant, hux, hu'];simp [Tg.tx]⟩ (by dsimp only; omega) ⟨rfl, rfl, rfl, rfl, rfl, trivial⟩ (fun w h => by
        have h2 := h.tail;have h3 : K W (u'.chunks ++ (g'.fixed ++ (g'.rest x ++ (sc :: [(b3, row 105 [.pointer (some ⟨t.b, 0, none⟩)])] :: N)))) w := by rw [hu']; exact h2
        exact K.bckN (A := (g'.setT x u').L) (B := [sc]) (K.unfoc hui h3))
  · obtain rfl : i = g3.q.length := by omega
    rw [List.drop_length, Bk.gr] at hgr;refine csr (sy (y_F (y_lss rfl rfl) (by omega)) ?_);refine snf (c_seq (c_condF rfl (c_exit (f_thenE (f_rndE (f_blockE (f_then (c_region (sm ?_)))))))));refine sm ?_;refine sn ?_;refine sf 4 ?_;refine St.cls (C' := K W (sc :: g'.p :: [(g.b, row 96 g'.cells)] :: [(g'.ba, mobj g'.ea g'.ca)] :: [(g'.br, mobj g'.er g'.cr)] :: g'.qc :: g'.lc :: (g'.ts.flatMap Tg.chunks ++ ([(b3, row 105 [.pointer (some ⟨t.b, 0, none⟩)])] :: N)))) ?_ (fun w h => by rw [← hA3.b, ← hA'.b]; exact h);skip;refine ss (set_row tab 2 rfl rfl hS.one rfl rfl (Nat.lt_of_sub_eq_succ rfl)) ?_;refine s_nil ?_;refine f_end ⟨g'.setQ st sv sc, hB'.setQ (by
      change BufR 105 1 sv sc (ptrs g' st);rw [hA'.ptl]; exact hS) (fun j hj => hA'.has (hB3.qh j (hst j hj))), ?_, hA3.trans (hA'.trans ⟨rfl, rfl, rfl⟩)⟩ (res0 rfl) (fun w h => ?_)
    · have hq : (g.bk.off k).q = g3.q := by rw [← hbk3]; rfl
      rw [Bk.release, hq, ← hbk3, hgr];rfl
    · have h2 := h.dropAt 5;have h3 : K W ([sc] ++ ([g'.p, [(g.b, row 96 [g'.cv, g'.wv, .map (some g'.ba), .map (some g'.br), sv, g'.lv])], [(g'.ba, mobj g'.ea g'.ca)], [(g'.br, mobj g'.er g'.cr)]] ++ (g'.lc :: (g'.ts.flatMap Tg.chunks ++ ([(b3, row 105 [.pointer (some ⟨t.b, 0, none⟩)])] :: N))))) w := h2;have h4 := K.bckN h3;rw [← hA3.b, ← hA'.b] at h4;exact (K.bckN (A := (g'.setQ st sv sc).L) (B := [[(b3, row 105 [.pointer (some ⟨t.b, 0, none⟩)])]]) h4).tail
end Go.KL
end
