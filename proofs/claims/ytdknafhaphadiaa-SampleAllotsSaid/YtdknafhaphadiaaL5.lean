/- The library of the proof, part 5: a program logic over the model, walks of functions, plain laws. -/
import Derived.Test.YtdknafhaphadiaaL4
section
/- Walks: numbers, as they are given. -/
namespace Go.KL
open Go.Proofs
theorem by4 {P : Program} {W : World} {N : List Chunk} {f : FuncId} {args : Array Value} {z1 z2 : Nat} {c1 c2 c3 c4 : Chunk} {u2 : Value → Value → Value} (hs : Spec P f args (K W (N ++ [c1, c2, c3, c4])) (X := Res2 W (N ++ [c1, c2, c3, c4]) z1 z2) (fun r => u2 r.v1 r.v2) (fun r => K W (r.L :: (N ++ [c1, c2, c3, c4])))) (hF : boxes [c1, c2, c3, c4] = true) :
    Spec P f args (K W (c1 :: c2 :: c3 :: c4 :: N)) (X := Res2 W N z1 z2) (fun r => u2 r.v1 r.v2) (fun r => K W (c1 :: c2 :: c3 :: c4 :: r.L :: N)) := Spec.boxed2 [c1, c2, c3, c4] hF hs
/-- Results: two structs in memory, and a value. -/
theorem resA2 {P : Program} {n : Nat} {σ : Slots} {C : World → Prop} {fn : Func} {a a' u : Tmp} {t t' : TypeId} {p p' : Addr} {s s' : Nat} {l l' : List Value} {v : Value} (T : Tab P) (hr : fn.results = #[.cell a t, .cell a' t', .tmp u]) (ha : lookE σ a = some (.pointer (some p))) (ha' : lookE σ a' = some (.pointer (some p'))) (hu : lookE σ u = some v)
    (hg : T.agg t = some true) (hg' : T.agg t' = some true) (hs : T.size t = some s) (hs' : T.size t' = some s') (hl : l.length = s) (hl' : l'.length = s') (hc : CellsAre C p l) (hc' : CellsAre C p' l') : resOK P fn n σ C (.tuple #[.agg l.toArray, .agg l'.toArray, v]) := by
  intro act w hE hw
  have h1 := hE.atE ha
  have h1' := hE.atE ha'
  have h2 := hE.atE hu
  have h3 := run_loadVarA (P := P) T hg hs hl (hc w hw)
  have h3' := run_loadVarA (P := P) T hg' hs' hl' (hc' w hw)
  rw [Array.getD_eq_getD_getElem?] at h1 h1' h2
  simp [results, hr, h1, h1', h2, asAddr, h3, h3']
attribute [local irreducible] SC St Fin Sq Ylds Doos Sets Enters Spec CellIs CellsAre Then Ret Rnd Chn resOK ints bools recs arr
/-- A number too big to be given. -/
def big (x : Nat) : Prop := 16384 < bl x
instance : DecidablePred big := fun x => inferInstanceAs (Decidable (16384 < bl x))
/-- A number within the bounds, or 0, with its code. -/
def cap (x : Nat) : Nat := if big x then 0 else x
def capE (x : Nat) : Int := if big x then 3 else 0
set_option maxRecDepth 10000 in
set_option maxHeartbeats 8000000 in
theorem fits_spec {W : World} {N : List Chunk} {a : Value} {x : Nat} [ha : NatV (K W N) a x] (hx : wl x ≤ 900000) :
    Spec Try.prog 114 #[a] (K W N) (X := Res W N (cap x)) (fun r => .tuple #[.agg #[r.v], .int .i64 (capE x)]) (fun r => K W (r.L :: N)) := by
  refine enter (args := [_]) Try.func114 rfl Try.ntmps114 rfl ?_
  refine c_seq ?_
  refine c_region ?_
  refine s_do (do_alloc Try.tab rfl) rfl rfl rfl (fun b2 => ?_)
  refine s_y (y_assign rfl) rfl rfl rfl ?_
  refine s_nil ?_
  refine f_then ?_
  refine c_seq ?_
  refine c_seq ?_
  refine c_region ?_
  refine s_y (y_move rfl) rfl rfl rfl ?_
  refine s_call (en_f rfl Try.call109) (bitLen_spec (by omega)) rfl rfl rfl (fun _ => ?_)
  by_cases hb : 16384 < bl x
  · have h1 : cap x = 0 := if_pos hb
    have h2 : capE x = 3 := if_pos hb
    rw [h2]
    have k : NatV (K W ([[]] ++ N)) (.slice none 0 0) (cap x) := NatV.nilI.of h1.symm
    refine s_y (y_T (y_gtr rfl rfl) (by omega)) rfl rfl rfl ?_
    refine s_nil ?_
    refine f_then ?_
    refine c_condT rfl ?_
    refine c_seq ?_
    refine c_region ?_
    refine s_y (y_build Try.tab rfl rfl rfl rfl rfl) rfl rfl rfl ?_
    refine s_set (set_71 0 rfl rfl rfl rfl) rfl rfl ?_
    refine s_y (y_assign rfl) rfl rfl rfl ?_
    refine s_nil ?_
    refine f_then ?_
    refine c_ret ?_
    refine f_thenR ?_
    exact f_ret (Res.of k) (resA1 Try.tab rfl rfl rfl rfl rfl rfl (cells_row0 0 rfl rfl)) (fun w h => Res.of_cls k h.tail.addNil)
  · have h1 : cap x = x := if_neg hb
    have h2 : capE x = 0 := if_neg hb
    rw [h2]
    have k : NatV (K W ([[]] ++ N)) a (cap x) := (inferInstance : NatV (K W ([] :: N)) a x).of h1.symm
    refine s_y (y_F (y_gtr rfl rfl) (by omega)) rfl rfl rfl ?_
    refine s_nil ?_
    refine f_then ?_
    refine c_condF rfl ?_
    refine c_skip ?_
    refine f_then ?_
    refine c_seq ?_
    refine c_region ?_
    refine s_y (y_move rfl) rfl rfl rfl ?_
    refine s_y (y_build71 rfl) rfl rfl rfl ?_
    refine s_set (set_71 0 rfl rfl rfl rfl) rfl rfl ?_
    refine s_y (y_assign rfl) rfl rfl rfl ?_
    refine s_nil ?_
    refine f_then ?_
    refine c_ret ?_
    exact f_ret (Res.of k) (resA1 Try.tab rfl rfl rfl rfl rfl rfl (cells_row0 0 rfl rfl)) (fun w h => Res.of_cls k h.tail.addNil)
set_option maxRecDepth 10000 in
set_option maxHeartbeats 8000000 in
theorem nadd_spec {W : World} {N : List Chunk} {a b : Value} {x y : Nat} [ha : NatV (K W N) a x] [hb : NatV (K W N) b y] (hx : wl x ≤ 800000) (hy : wl y ≤ 800000) :
    Spec Try.prog 73 #[.agg #[a], .agg #[b]] (K W N) (X := Res W N (cap (x + y))) (fun r => .tuple #[.agg #[r.v], .int .i64 (capE (x + y))]) (fun r => K W (r.L :: N)) := by
  refine enter (args := [_, _]) Try.func73 rfl Try.ntmps73 rfl ?_
  refine c_seq ?_
  refine c_region ?_
  refine s_do (do_box rfl) rfl rfl rfl (fun b2 => ?_)
  refine s_do (do_box rfl) rfl rfl rfl (fun b3 => ?_)
  refine s_do (do_alloc Try.tab rfl) rfl rfl rfl (fun b4 => ?_)
  refine s_y (y_assign rfl) rfl rfl rfl ?_
  refine s_nil ?_
  refine f_then ?_
  refine c_seq ?_
  refine c_region ?_
  refine s_y (y_fieldAddr0 Try.tab rfl rfl rfl rfl rfl) rfl rfl rfl ?_
  refine s_y (y_load Try.tab rfl rfl (cell_row 2 rfl rfl)) rfl rfl rfl ?_
  refine s_y (y_fieldAddr0 Try.tab rfl rfl rfl rfl rfl) rfl rfl rfl ?_
  refine s_y (y_load Try.tab rfl rfl (cell_row 1 rfl rfl)) rfl rfl rfl ?_
  refine s_call (en_f rfl Try.call71) (bx3 (u := fun v => v) (add_spec (by omega) (by omega)) rfl) rfl rfl rfl (fun r1 => ?_)
  skip
  have hs : wl (x + y) ≤ 900000 := by have := wl_add (a := 800000) hx hy; omega
  refine s_call (en_f rfl Try.call114) (bx3 (u := fun v => .tuple #[.agg #[v], .int .i64 (capE (x + y))]) (fits_spec hs) rfl) rfl rfl rfl (fun r2 => ?_)
  refine s_y (y_extract rfl rfl) rfl rfl rfl ?_
  refine s_y (y_extract rfl rfl) rfl rfl rfl ?_
  refine s_set (set_71 0 rfl rfl rfl rfl) rfl rfl ?_
  refine s_y (y_assign rfl) rfl rfl rfl ?_
  refine s_nil ?_
  refine f_then ?_
  refine c_ret ?_
  have k : NatV (K W ([r2.L, r1.L] ++ N)) r2.v (cap (x + y)) := r2.ok
  exact f_ret (Res.of k) (resA1 Try.tab rfl rfl rfl rfl rfl rfl (cells_row0 0 rfl rfl)) (fun w h => Res.of_cls k h.tail.tail.tail)
set_option maxRecDepth 10000 in
set_option maxHeartbeats 8000000 in
theorem nmul_spec {W : World} {N : List Chunk} {a b : Value} {x y : Nat} [ha : NatV (K W N) a x] [hb : NatV (K W N) b y] (hx : wl x ≤ 100000) (hy : wl y ≤ 100000) :
    Spec Try.prog 97 #[.agg #[a], .agg #[b]] (K W N) (X := Res W N (cap (x * y))) (fun r => .tuple #[.agg #[r.v], .int .i64 (capE (x * y))]) (fun r => K W (r.L :: N)) := by
  refine enter (args := [_, _]) Try.func97 rfl Try.ntmps97 rfl ?_
  refine c_seq ?_
  refine c_region ?_
  refine s_do (do_box rfl) rfl rfl rfl (fun b2 => ?_)
  refine s_do (do_box rfl) rfl rfl rfl (fun b3 => ?_)
  refine s_do (do_alloc Try.tab rfl) rfl rfl rfl (fun b4 => ?_)
  refine s_y (y_assign rfl) rfl rfl rfl ?_
  refine s_nil ?_
  refine f_then ?_
  refine c_seq ?_
  refine c_region ?_
  refine s_y (y_fieldAddr0 Try.tab rfl rfl rfl rfl rfl) rfl rfl rfl ?_
  refine s_y (y_load Try.tab rfl rfl (cell_row 2 rfl rfl)) rfl rfl rfl ?_
  refine s_y (y_fieldAddr0 Try.tab rfl rfl rfl rfl rfl) rfl rfl rfl ?_
  refine s_y (y_load Try.tab rfl rfl (cell_row 1 rfl rfl)) rfl rfl rfl ?_
  refine s_call (en_f rfl Try.call63) (bx3 (u := fun v => v) (mul_spec _ (by omega) (by omega) (Nat.le_refl _)) rfl) rfl rfl rfl (fun r1 => ?_)
  skip
  have hs : wl (x * y) ≤ 900000 := by have := wl_mul hx hy; omega
  refine s_call (en_f rfl Try.call114) (bx3 (u := fun v => .tuple #[.agg #[v], .int .i64 (capE (x * y))]) (fits_spec hs) rfl) rfl rfl rfl (fun r2 => ?_)
  refine s_y (y_extract rfl rfl) rfl rfl rfl ?_
  refine s_y (y_extract rfl rfl) rfl rfl rfl ?_
  refine s_set (set_71 0 rfl rfl rfl rfl) rfl rfl ?_
  refine s_y (y_assign rfl) rfl rfl rfl ?_
  refine s_nil ?_
  refine f_then ?_
  refine c_ret ?_
  have k : NatV (K W ([r2.L, r1.L] ++ N)) r2.v (cap (x * y)) := r2.ok
  exact f_ret (Res.of k) (resA1 Try.tab rfl rfl rfl rfl rfl rfl (cells_row0 0 rfl rfl)) (fun w h => Res.of_cls k h.tail.tail.tail)
set_option maxRecDepth 10000 in
set_option maxHeartbeats 8000000 in
theorem ncmp_spec {W : World} {N : List Chunk} {a b : Value} {x y : Nat} [ha : NatV (K W N) a x] [hb : NatV (K W N) b y] :
    Spec Try.prog 99 #[.agg #[a], .agg #[b]] (K W N) (fun _ : Unit => .int .i64 (if x < y then -1 else if y < x then 1 else 0)) (fun _ => K W N) := by
  refine enter (args := [_, _]) Try.func99 rfl Try.ntmps99 rfl ?_
  refine c_seq ?_
  refine c_region ?_
  refine s_do (do_box rfl) rfl rfl rfl (fun b2 => ?_)
  refine s_do (do_box rfl) rfl rfl rfl (fun b3 => ?_)
  refine s_y (y_assign rfl) rfl rfl rfl ?_
  refine s_nil ?_
  refine f_then ?_
  refine c_seq ?_
  refine c_region ?_
  refine s_y (y_fieldAddr0 Try.tab rfl rfl rfl rfl rfl) rfl rfl rfl ?_
  refine s_y (y_load Try.tab rfl rfl (cell_row 1 rfl rfl)) rfl rfl rfl ?_
  refine s_y (y_fieldAddr0 Try.tab rfl rfl rfl rfl rfl) rfl rfl rfl ?_
  refine s_y (y_load Try.tab rfl rfl (cell_row 0 rfl rfl)) rfl rfl rfl ?_
  refine s_call (en_f rfl Try.call62) cmp_spec rfl rfl rfl (fun _ => ?_)
  refine s_y (y_assign rfl) rfl rfl rfl ?_
  refine s_nil ?_
  refine f_then ?_
  refine c_ret ?_
  exact f_ret () (res1 rfl rfl) (fun w h => h.tail.tail)
set_option maxRecDepth 10000 in
set_option maxHeartbeats 8000000 in
theorem ndivMod0_spec {W : World} {N : List Chunk} {a b : Value} [hb : NatV (K W N) b 0] :
    Spec Try.prog 135 #[.agg #[a], .agg #[b]] (K W N) (fun _ : Unit => .tuple #[.agg #[.slice none 0 0], .agg #[.slice none 0 0], .int .i64 11]) (fun _ => K W N) := by
  refine enter (args := [_, _]) Try.func135 rfl Try.ntmps135 rfl ?_
  have hw : wl 0 = 0 := wl_zero
  refine c_seq ?_
  refine c_region ?_
  refine s_do (do_box rfl) rfl rfl rfl (fun b2 => ?_)
  refine s_do (do_box rfl) rfl rfl rfl (fun b3 => ?_)
  refine s_do (do_alloc Try.tab rfl) rfl rfl rfl (fun b4 => ?_)
  refine s_do (do_alloc Try.tab rfl) rfl rfl rfl (fun b5 => ?_)
  refine s_y (y_assign rfl) rfl rfl rfl ?_
  refine s_nil ?_
  refine f_then ?_
  refine c_seq ?_
  refine c_seq ?_
  refine c_region ?_
  refine s_y (y_fieldAddr0 Try.tab rfl rfl rfl rfl rfl) rfl rfl rfl ?_
  refine s_y (y_load Try.tab rfl rfl (cell_row 2 rfl rfl)) rfl rfl rfl ?_
  refine s_y (y_lenR Try.tab rfl rfl) rfl rfl rfl ?_
  refine s_y (y_T (y_eql rfl rfl) (by omega)) rfl rfl rfl ?_
  refine s_nil ?_
  refine f_then ?_
  refine c_condT rfl ?_
  refine c_seq ?_
  refine c_region ?_
  refine s_y (y_build Try.tab rfl rfl rfl rfl rfl) rfl rfl rfl ?_
  refine s_y (y_build Try.tab rfl rfl rfl rfl rfl) rfl rfl rfl ?_
  refine s_set (set_71 1 rfl rfl rfl rfl) rfl rfl ?_
  refine s_set (set_71 0 rfl rfl rfl rfl) rfl rfl ?_
  refine s_y (y_assign rfl) rfl rfl rfl ?_
  refine s_nil ?_
  refine f_then ?_
  refine c_ret ?_
  refine f_thenR ?_
  exact f_ret () (resA2 Try.tab rfl rfl rfl rfl rfl rfl rfl rfl rfl rfl (cells_row0 1 rfl rfl) (cells_row0 0 rfl rfl)) (fun w h => h.tail.tail.tail.tail)
set_option maxRecDepth 10000 in
set_option maxHeartbeats 8000000 in
theorem ndivMod_spec {W : World} {N : List Chunk} {a b : Value} {x y : Nat} [ha : NatV (K W N) a x] [hb : NatV (K W N) b y] (hx : wl x ≤ 900000) (h0 : y ≠ 0) :
    Spec Try.prog 135 #[.agg #[a], .agg #[b]] (K W N) (X := Res2 W N (x / y) (x % y)) (fun r => .tuple #[.agg #[r.v1], .agg #[r.v2], .int .i64 0]) (fun r => K W (r.L :: N)) := by
  refine enter (args := [_, _]) Try.func135 rfl Try.ntmps135 rfl ?_
  have hw : wl y ≠ 0 := fun e => h0 (wl_eq_zero.1 e)
  refine c_seq ?_
  refine c_region ?_
  refine s_do (do_box rfl) rfl rfl rfl (fun b2 => ?_)
  refine s_do (do_box rfl) rfl rfl rfl (fun b3 => ?_)
  refine s_do (do_alloc Try.tab rfl) rfl rfl rfl (fun b4 => ?_)
  refine s_do (do_alloc Try.tab rfl) rfl rfl rfl (fun b5 => ?_)
  refine s_y (y_assign rfl) rfl rfl rfl ?_
  refine s_nil ?_
  refine f_then ?_
  refine c_seq ?_
  refine c_seq ?_
  refine c_region ?_
  refine s_y (y_fieldAddr0 Try.tab rfl rfl rfl rfl rfl) rfl rfl rfl ?_
  refine s_y (y_load Try.tab rfl rfl (cell_row 2 rfl rfl)) rfl rfl rfl ?_
  refine s_y (y_lenR Try.tab rfl rfl) rfl rfl rfl ?_
  refine s_y (y_F (y_eql rfl rfl) (by omega)) rfl rfl rfl ?_
  refine s_nil ?_
  refine f_then ?_
  refine c_condF rfl ?_
  refine c_skip ?_
  refine f_then ?_
  refine c_seq ?_
  refine c_region ?_
  refine s_y (y_fieldAddr0 Try.tab rfl rfl rfl rfl rfl) rfl rfl rfl ?_
  refine s_y (y_load Try.tab rfl rfl (cell_row 3 rfl rfl)) rfl rfl rfl ?_
  refine s_y (y_fieldAddr0 Try.tab rfl rfl rfl rfl rfl) rfl rfl rfl ?_
  refine s_y (y_load Try.tab rfl rfl (cell_row 2 rfl rfl)) rfl rfl rfl ?_
  refine s_call (en_f rfl Try.call111) (by4 (u2 := fun v w => .tuple #[v, w]) (divMod_spec hx h0) rfl) rfl rfl rfl (fun r1 => ?_)
  refine s_y (y_move rfl) rfl rfl rfl ?_
  refine s_y (y_extract rfl rfl) rfl rfl rfl ?_
  refine s_y (y_extract rfl rfl) rfl rfl rfl ?_
  refine s_y (y_assign rfl) rfl rfl rfl ?_
  refine s_y (y_assign rfl) rfl rfl rfl ?_
  refine s_nil ?_
  refine f_then ?_
  refine c_seq ?_
  refine c_region ?_
  refine s_y (y_move rfl) rfl rfl rfl ?_
  refine s_y (y_build71 rfl) rfl rfl rfl ?_
  refine s_y (y_move rfl) rfl rfl rfl ?_
  refine s_y (y_build71 rfl) rfl rfl rfl ?_
  refine s_set (set_71 1 rfl rfl rfl rfl) rfl rfl ?_
  refine s_set (set_71 0 rfl rfl rfl rfl) rfl rfl ?_
  refine s_y (y_assign rfl) rfl rfl rfl ?_
  refine s_nil ?_
  refine f_then ?_
  refine c_ret ?_
  have k1 : NatV (K W ([r1.L] ++ N)) r1.v1 (x / y) := r1.ok1
  have k2 : NatV (K W ([r1.L] ++ N)) r1.v2 (x % y) := r1.ok2
  exact f_ret (Res2.of k1 k2) (resA2 Try.tab rfl rfl rfl rfl rfl rfl rfl rfl rfl rfl (cells_row0 1 rfl rfl) (cells_row0 0 rfl rfl)) (fun w h => Res2.of_cls k1 k2 h.tail.tail.tail.tail)
set_option maxRecDepth 10000 in
set_option maxHeartbeats 8000000 in
theorem new_spec {W : World} {N : List Chunk} {x : Int} (h0 : 0 ≤ x) (h1 : x < 9223372036854775808) :
    Spec Try.prog 65 #[.int .i64 x] (K W N) (X := Res W N x.toNat) (fun r => .tuple #[.agg #[r.v], .int .i64 0]) (fun r => K W (r.L :: N)) := by
  refine enter (args := [_]) Try.func65 rfl Try.ntmps65 rfl ?_
  refine c_seq ?_
  refine c_region ?_
  refine s_do (do_alloc Try.tab rfl) rfl rfl rfl (fun b2 => ?_)
  refine s_y (y_assign rfl) rfl rfl rfl ?_
  refine s_nil ?_
  refine f_then ?_
  refine c_seq ?_
  refine c_seq ?_
  refine c_region ?_
  refine s_y (y_move rfl) rfl rfl rfl ?_
  refine s_y (y_F (y_lss rfl rfl) (by omega)) rfl rfl rfl ?_
  refine s_nil ?_
  refine f_then ?_
  refine c_condF rfl ?_
  refine c_skip ?_
  refine f_then ?_
  refine c_seq ?_
  refine c_region ?_
  refine s_y (y_move rfl) rfl rfl rfl ?_
  refine s_y (y_to64 Try.tab rfl rfl rfl (by omega)) rfl rfl rfl ?_
  obtain ⟨n, rfl⟩ : ∃ n : Nat, x = n := ⟨x.toNat, by omega⟩
  refine s_call (en_f rfl Try.call104) (bx1 (u := fun v => v) (words_spec (x := n) (by omega)) rfl) rfl rfl rfl (fun r1 => ?_)
  refine s_y (y_build71 rfl) rfl rfl rfl ?_
  refine s_set (set_71 0 rfl rfl rfl rfl) rfl rfl ?_
  refine s_y (y_assign rfl) rfl rfl rfl ?_
  refine s_nil ?_
  refine f_then ?_
  refine c_ret ?_
  have k : NatV (K W ([r1.L] ++ N)) r1.v (n : Int).toNat := r1.ok.of (by omega)
  exact f_ret (Res.of k) (resA1 Try.tab rfl rfl rfl rfl rfl rfl (cells_row0 0 rfl rfl)) (fun w h => Res.of_cls k h.tail)
set_option maxRecDepth 10000 in
set_option maxHeartbeats 8000000 in
theorem newNeg_spec {W : World} {N : List Chunk} {x : Int} (h0 : x < 0) :
    Spec Try.prog 65 #[.int .i64 x] (K W N) (fun _ : Unit => .tuple #[.agg #[.slice none 0 0], .int .i64 2]) (fun _ => K W N) := by
  refine enter (args := [_]) Try.func65 rfl Try.ntmps65 rfl ?_
  refine c_seq ?_
  refine c_region ?_
  refine s_do (do_alloc Try.tab rfl) rfl rfl rfl (fun b2 => ?_)
  refine s_y (y_assign rfl) rfl rfl rfl ?_
  refine s_nil ?_
  refine f_then ?_
  refine c_seq ?_
  refine c_seq ?_
  refine c_region ?_
  refine s_y (y_move rfl) rfl rfl rfl ?_
  refine s_y (y_T (y_lss rfl rfl) (by assumption)) rfl rfl rfl ?_
  refine s_nil ?_
  refine f_then ?_
  refine c_condT rfl ?_
  refine c_seq ?_
  refine c_region ?_
  refine s_y (y_build Try.tab rfl rfl rfl rfl rfl) rfl rfl rfl ?_
  refine s_set (set_71 0 rfl rfl rfl rfl) rfl rfl ?_
  refine s_y (y_assign rfl) rfl rfl rfl ?_
  refine s_nil ?_
  refine f_then ?_
  refine c_ret ?_
  refine f_thenR ?_
  exact f_ret () (resA1 Try.tab rfl rfl rfl rfl rfl rfl (cells_row0 0 rfl rfl)) (fun w h => h.tail)
set_option maxRecDepth 10000 in
set_option maxHeartbeats 8000000 in
theorem newFrac_spec {W : World} {N : List Chunk} {a b : Value} {x y : Nat} [ha : NatV (K W N) a x] [hb : NatV (K W N) b y] (hx : wl x ≤ 900000) (hy : wl y ≤ 900000) (hy0 : y ≠ 0) :
    Spec Try.prog 50 #[.agg #[a], .agg #[b]] (K W N) (X := Res2 W N (x / Nat.gcd x y) (y / Nat.gcd x y - 1)) (fun r => .tuple #[.agg #[r.v1, r.v2], .int .i64 0]) (fun r => K W (r.L :: N)) := by
  refine enter (args := [_, _]) Try.func50 rfl Try.ntmps50 rfl ?_
  have hw : wl y ≠ 0 := fun e => hy0 (wl_eq_zero.1 e)
  refine c_seq ?_
  refine c_region ?_
  refine s_do (do_box rfl) rfl rfl rfl (fun b2 => ?_)
  refine s_do (do_box rfl) rfl rfl rfl (fun b3 => ?_)
  refine s_do (do_alloc Try.tab rfl) rfl rfl rfl (fun b4 => ?_)
  refine s_y (y_assign rfl) rfl rfl rfl ?_
  refine s_nil ?_
  refine f_then ?_
  refine c_seq ?_
  refine c_seq ?_
  refine c_region ?_
  refine s_y (y_fieldAddr0 Try.tab rfl rfl rfl rfl rfl) rfl rfl rfl ?_
  refine s_y (y_load Try.tab rfl rfl (cell_row 1 rfl rfl)) rfl rfl rfl ?_
  refine s_y (y_lenR Try.tab rfl rfl) rfl rfl rfl ?_
  refine s_y (y_F (y_eql rfl rfl) (by omega)) rfl rfl rfl ?_
  refine s_nil ?_
  refine f_then ?_
  refine c_condF rfl ?_
  refine c_skip ?_
  refine f_then ?_
  refine c_seq ?_
  refine c_region ?_
  refine s_y (y_fieldAddr0 Try.tab rfl rfl rfl rfl rfl) rfl rfl rfl ?_
  refine s_y (y_load Try.tab rfl rfl (cell_row 2 rfl rfl)) rfl rfl rfl ?_
  refine s_y (y_fieldAddr0 Try.tab rfl rfl rfl rfl rfl) rfl rfl rfl ?_
  refine s_y (y_load Try.tab rfl rfl (cell_row 1 rfl rfl)) rfl rfl rfl ?_
  refine s_call (en_f rfl Try.call70) (by3 (u2 := fun v w => .agg #[v, w]) (lowest_spec hx hy hy0) rfl) rfl rfl rfl (fun r1 => ?_)
  refine s_set (set_25 0 rfl rfl rfl rfl) rfl rfl ?_
  refine s_y (y_assign rfl) rfl rfl rfl ?_
  refine s_nil ?_
  refine f_then ?_
  refine c_ret ?_
  have k1 : NatV (K W ([r1.L] ++ N)) r1.v1 (x / Nat.gcd x y) := r1.ok1
  have k2 : NatV (K W ([r1.L] ++ N)) r1.v2 (y / Nat.gcd x y - 1) := r1.ok2
  exact f_ret (Res2.of k1 k2) (resA1 Try.tab rfl rfl rfl rfl rfl rfl (cells_row0 0 rfl rfl)) (fun w h => Res2.of_cls k1 k2 h.tail.tail.tail)
set_option maxRecDepth 10000 in
set_option maxHeartbeats 8000000 in
theorem newFrac0_spec {W : World} {N : List Chunk} {a b : Value} [hb : NatV (K W N) b 0] :
    Spec Try.prog 50 #[.agg #[a], .agg #[b]] (K W N) (fun _ : Unit => .tuple #[.agg #[.slice none 0 0, .slice none 0 0], .int .i64 11]) (fun _ => K W N) := by
  refine enter (args := [_, _]) Try.func50 rfl Try.ntmps50 rfl ?_
  have hw : wl 0 = 0 := wl_zero
  refine c_seq ?_
  refine c_region ?_
  refine s_do (do_box rfl) rfl rfl rfl (fun b2 => ?_)
  refine s_do (do_box rfl) rfl rfl rfl (fun b3 => ?_)
  refine s_do (do_alloc Try.tab rfl) rfl rfl rfl (fun b4 => ?_)
  refine s_y (y_assign rfl) rfl rfl rfl ?_
  refine s_nil ?_
  refine f_then ?_
  refine c_seq ?_
  refine c_seq ?_
  refine c_region ?_
  refine s_y (y_fieldAddr0 Try.tab rfl rfl rfl rfl rfl) rfl rfl rfl ?_
  refine s_y (y_load Try.tab rfl rfl (cell_row 1 rfl rfl)) rfl rfl rfl ?_
  refine s_y (y_lenR Try.tab rfl rfl) rfl rfl rfl ?_
  refine s_y (y_T (y_eql rfl rfl) (by omega)) rfl rfl rfl ?_
  refine s_nil ?_
  refine f_then ?_
  refine c_condT rfl ?_
  refine c_seq ?_
  refine c_region ?_
  refine s_y (y_build Try.tab rfl rfl rfl rfl rfl) rfl rfl rfl ?_
  refine s_set (set_25 0 rfl rfl rfl rfl) rfl rfl ?_
  refine s_y (y_assign rfl) rfl rfl rfl ?_
  refine s_nil ?_
  refine f_then ?_
  refine c_ret ?_
  refine f_thenR ?_
  exact f_ret () (resA1 Try.tab rfl rfl rfl rfl rfl rfl (cells_row0 0 rfl rfl)) (fun w h => h.tail.tail.tail)
end Go.KL
end

section
/- Walks: within. -/
namespace Go.KL
open Go.Proofs
/-- A fraction too big to be given. -/
def fbig (p q : Nat) : Prop := big p ∨ big (q + 1)
instance {p q : Nat} : Decidable (fbig p q) := inferInstanceAs (Decidable (big p ∨ big (q + 1)))
def fcap (p q z : Nat) : Nat := if fbig p q then 0 else z
def fcapE (p q : Nat) : Int := if fbig p q then 3 else 0
attribute [local irreducible] SC St Fin Sq Ylds Doos Sets Enters Spec CellIs CellsAre Then Ret Rnd Chn resOK ints bools recs arr
set_option maxRecDepth 10000 in
set_option maxHeartbeats 8000000 in
theorem within_spec {W : World} {N : List Chunk} {a b : Value} {p q : Nat} [ha : NatV (K W N) a p] [hb : NatV (K W N) b q] (hp : wl p ≤ 800000) (hq : wl q ≤ 800000) :
    Spec Try.prog 69 #[.agg #[a, b]] (K W N) (X := Res2 W N (fcap p q p) (fcap p q q)) (fun r => .tuple #[.agg #[r.v1, r.v2], .int .i64 (fcapE p q)]) (fun r => K W (r.L :: N)) := by
  refine enter (args := [_]) Try.func69 rfl Try.ntmps69 rfl ?_
  have hq1 : wl (q + 1) ≤ 900000 := by have := wl_add (a := 800000) (y := 1) hq (by rw [wl_one]; omega); omega
  refine c_seq ?_
  refine c_region ?_
  refine s_do (do_box rfl) rfl rfl rfl (fun b1 => ?_)
  refine s_do (do_alloc Try.tab rfl) rfl rfl rfl (fun b2 => ?_)
  refine s_y (y_assign rfl) rfl rfl rfl ?_
  refine s_nil ?_
  refine f_then ?_
  refine c_seq ?_
  refine c_seq ?_
  refine c_region ?_
  refine s_y (y_fieldAddr0 Try.tab rfl rfl rfl rfl rfl) rfl rfl rfl ?_
  refine s_y (y_load Try.tab rfl rfl (cell_row 1 rfl rfl)) rfl rfl rfl ?_
  refine s_call (en_f rfl Try.call109) (bitLen_spec (by omega)) rfl rfl rfl (fun _ => ?_)
  by_cases h1 : 16384 < bl p
  · have k1 : NatV (K W ([[]] ++ N)) (.slice none 0 0) (fcap p q p) := NatV.nilI.of (if_pos (.inl h1)).symm
    have k2 : NatV (K W ([[]] ++ N)) (.slice none 0 0) (fcap p q q) := NatV.nilI.of (if_pos (.inl h1)).symm
    have k3 : fcapE p q = 3 := if_pos (.inl h1)
    rw [k3]
    refine s_y (y_T (y_gtr rfl rfl) (by omega)) rfl rfl rfl ?_
    refine s_y (y_move rfl) rfl rfl rfl ?_
    iterate 4 refine s_skip rfl rfl rfl ?_
    refine s_y (y_pickT rfl rfl) rfl rfl rfl ?_
    refine s_nil ?_
    refine f_then ?_
    refine c_condT rfl ?_
    refine c_seq ?_
    refine c_region ?_
    refine s_y (y_build Try.tab rfl rfl rfl rfl rfl) rfl rfl rfl ?_
    refine s_set (set_25 0 rfl rfl rfl rfl) rfl rfl ?_
    refine s_y (y_assign rfl) rfl rfl rfl ?_
    refine s_nil ?_
    refine f_then ?_
    refine c_ret ?_
    refine f_thenR ?_
    exact f_ret (Res2.of k1 k2) (resA1 Try.tab rfl rfl rfl rfl rfl rfl (cells_row0 0 rfl rfl)) (fun w h => Res2.of_cls k1 k2 h.tail.tail.addNil)
  · refine s_y (y_F (y_gtr rfl rfl) (by omega)) rfl rfl rfl ?_
    refine s_y (y_move rfl) rfl rfl rfl ?_
    refine s_y (y_loadA Try.tab rfl rfl rfl rfl (cells_row0 1 rfl rfl)) rfl rfl rfl ?_
    refine s_call (en_f rfl Try.call64) (bx2 (u := fun v => v) (den_spec (a := a) (by omega)) rfl) rfl rfl rfl (fun r1 => ?_)
    skip
    refine s_call (en_f rfl Try.call109) (bitLen_spec (by omega)) rfl rfl rfl (fun _ => ?_)
    by_cases h2 : 16384 < bl (q + 1)
    · have k1 : NatV (K W ([r1.L] ++ N)) (.slice none 0 0) (fcap p q p) := NatV.nilI.of (if_pos (.inr h2)).symm
      have k2 : NatV (K W ([r1.L] ++ N)) (.slice none 0 0) (fcap p q q) := NatV.nilI.of (if_pos (.inr h2)).symm
      have k3 : fcapE p q = 3 := if_pos (.inr h2)
      rw [k3]
      refine s_y (y_T (y_gtr rfl rfl) (by omega)) rfl rfl rfl ?_
      refine s_y (y_pickF rfl rfl) rfl rfl rfl ?_
      refine s_nil ?_
      refine f_then ?_
      refine c_condT rfl ?_
      refine c_seq ?_
      refine c_region ?_
      refine s_y (y_build Try.tab rfl rfl rfl rfl rfl) rfl rfl rfl ?_
      refine s_set (set_25 0 rfl rfl rfl rfl) rfl rfl ?_
      refine s_y (y_assign rfl) rfl rfl rfl ?_
      refine s_nil ?_
      refine f_then ?_
      refine c_ret ?_
      refine f_thenR ?_
      exact f_ret (Res2.of k1 k2) (resA1 Try.tab rfl rfl rfl rfl rfl rfl (cells_row0 0 rfl rfl)) (fun w h => Res2.of_cls k1 k2 h.tail.tail)
    · have hn : ¬ fbig p q := fun h => h.elim h1 h2
      have k1 : NatV (K W ([r1.L] ++ N)) a (fcap p q p) := (inferInstance : NatV (K W (r1.L :: N)) a p).of (if_neg hn).symm
      have k2 : NatV (K W ([r1.L] ++ N)) b (fcap p q q) := (inferInstance : NatV (K W (r1.L :: N)) b q).of (if_neg hn).symm
      have k3 : fcapE p q = 0 := if_neg hn
      rw [k3]
      refine s_y (y_F (y_gtr rfl rfl) (by omega)) rfl rfl rfl ?_
      refine s_y (y_pickF rfl rfl) rfl rfl rfl ?_
      refine s_nil ?_
      refine f_then ?_
      refine c_condF rfl ?_
      refine c_skip ?_
      refine f_then ?_
      refine c_seq ?_
      refine c_region ?_
      refine s_y (y_loadA Try.tab rfl rfl rfl rfl (cells_row0 1 rfl rfl)) rfl rfl rfl ?_
      refine s_set (set_25 0 rfl rfl rfl rfl) rfl rfl ?_
      refine s_y (y_assign rfl) rfl rfl rfl ?_
      refine s_nil ?_
      refine f_then ?_
      refine c_ret ?_
      exact f_ret (Res2.of k1 k2) (resA1 Try.tab rfl rfl rfl rfl rfl rfl (cells_row0 0 rfl rfl)) (fun w h => Res2.of_cls k1 k2 h.tail.tail)
end Go.KL
end

section
/- Walks: fractions. -/
namespace Go.KL
open Go.Proofs
attribute [local irreducible] SC St Fin Sq Ylds Doos Sets Enters Spec CellIs CellsAre Then Ret Rnd Chn resOK ints bools recs arr
/-- A box that an operation has set, or as it was. -/
def bxO (x : Option VC) (c : Chunk) : Chunk := match x with
  | none => c
  | some y => y.2
set_option maxRecDepth 10000 in
set_option maxHeartbeats 8000000 in
theorem fcmp_spec {W : World} {N : List Chunk} {a b c d : Value} {p q r s' : Nat} [ha : NatV (K W N) a p] [hb : NatV (K W N) b q] [hc : NatV (K W N) c r] [hd : NatV (K W N) d s'] (hp : wl p ≤ 10000) (hq : wl q ≤ 10000) (hr : wl r ≤ 10000) (hs : wl s' ≤ 10000) :
    Spec Try.prog 31 #[.agg #[a, b], .agg #[c, d]] (K W N) (fun _ : Unit => Value.int .i64 (if p * (s' + 1) < r * (q + 1) then -1 else if r * (q + 1) < p * (s' + 1) then 1 else 0)) (fun _ => K W N) := by
  refine enter (args := [_, _]) Try.func31 rfl Try.ntmps31 rfl ?_
  have hq1 : wl (q + 1) ≤ 10001 := wl_add (y := 1) hq (by rw [wl_one]; omega)
  have hs1 : wl (s' + 1) ≤ 10001 := wl_add (y := 1) hs (by rw [wl_one]; omega)
  refine c_seq ?_
  refine c_region ?_
  refine s_do (do_box rfl) rfl rfl rfl (fun b2 => ?_)
  refine s_do (do_box rfl) rfl rfl rfl (fun b3 => ?_)
  refine s_y (y_assign rfl) rfl rfl rfl ?_
  refine s_nil ?_
  refine f_then ?_
  refine c_seq ?_
  refine c_drawn [(2, .pointer (some ⟨b2, 0, none⟩)), (3, .pointer (some ⟨b3, 0, none⟩))] [[], [(0, 5)], [], [(2, 7)], [(1, 6), (3, 8)], [], [(5, 10)], [], [(7, 12)], [(6, 11), (8, 13)], [(4, 9), (9, 14)], [(10, 15)]] [(11, 4)] (fun _ => [[(b3, row 25 [c, d])], [(b2, row 25 [a, b])]])
    [fun _ v _ => .pointer (some ⟨b2, 0, none⟩) = v, fun _ v _ => a = v, fun _ v _ => .agg #[c, d] = v, fun N v _ => NatV (K W N) v (s' + 1), fun N v _ => NatV (K W N) v (p * (s' + 1)), fun _ v _ => .pointer (some ⟨b3, 0, none⟩) = v, fun _ v _ => c = v, fun _ v _ => .agg #[a, b] = v, fun N v _ => NatV (K W N) v (q + 1), fun N v _ => NatV (K W N) v (r * (q + 1)), fun _ v _ => Value.int .i64 (if p * (s' + 1) < r * (q + 1) then -1 else if r * (q + 1) < p * (s' + 1) then 1 else 0) = v, fun _ v _ => Value.int .i64 (if p * (s' + 1) < r * (q + 1) then -1 else if r * (q + 1) < p * (s' + 1) then 1 else 0) = v]
    N (fun N' => NatV (K W N') a (p) ∧ NatV (K W N') b (q) ∧ NatV (K W N') c (r) ∧ NatV (K W N') d (s') ∧ ∃ M, N' = M ++ N) ⟨inferInstance, inferInstance, inferInstance, inferInstance, [], rfl⟩ (fun M N' ⟨h0, h1, h2, h3, M2, e⟩ => ⟨h0.cls fun _ k => k.bck, h1.cls fun _ k => k.bck, h2.cls fun _ k => k.bck, h3.cls fun _ k => k.bck, M ++ M2, by rw [e, List.append_assoc]⟩) Try.mixed (by kernel_rfl) rfl ⟨rfl, rfl, trivial⟩ (fun w h => h)
    ⟨fun _ _ _ _ h => h, fun _ _ _ _ h => h, fun _ _ _ _ h => h, fun _ _ _ _ h => h.cls fun _ k => k.bck, fun _ _ _ _ h => h.cls fun _ k => k.bck, fun _ _ _ _ h => h, fun _ _ _ _ h => h, fun _ _ _ _ h => h, fun _ _ _ _ h => h.cls fun _ k => k.bck, fun _ _ _ _ h => h.cls fun _ k => k.bck, fun _ _ _ _ h => h, fun _ _ _ _ h => h, trivial⟩
    ⟨?_, ?_, ?_, ?_, ?_, ?_, ?_, ?_, ?_, ?_, ?_, ?_, trivial⟩ ?_
  · intro s N' gN h0 hn0
    show Acts _ _ _ (K W ([(b3, row 25 [c, d])] :: [(b2, row 25 [a, b])] :: N')) _ _
    exact a_y (y_fieldAddr0 Try.tab rfl rfl rfl rfl rfl) fun w h => ⟨[], [], h, rfl⟩
  · rintro s N' gN h0 hn0 v0 d0 e0 rfl
    show Acts _ _ _ (K W ([(b3, row 25 [c, d])] :: [(b2, row 25 [a, b])] :: N')) _ _
    exact a_y (y_load Try.tab rfl rfl (cell_row 1 rfl rfl)) fun w h => ⟨[], [], h, rfl⟩
  · intro s N' gN h0 hn0
    show Acts _ _ _ (K W ([(b3, row 25 [c, d])] :: [(b2, row 25 [a, b])] :: N')) _ _
    exact a_y (y_loadA Try.tab rfl rfl rfl rfl (cells_row0 0 rfl rfl)) fun w h => ⟨[], [], h, rfl⟩
  · rintro s N' gN h0 hn0 v2 d2 e2 rfl
    show Acts _ _ _ (K W ([(b3, row 25 [c, d])] :: [(b2, row 25 [a, b])] :: N')) _ _
    haveI := gN.1
    haveI := gN.2.1
    haveI := gN.2.2.1
    haveI := gN.2.2.2.1
    exact a_call (en_f rfl Try.call64) (bx2 (u := fun v => v) (den_spec (by omega)) rfl) fun r w h => ⟨[r.L], [], h, r.ok⟩
  · rintro s N' gN h0 hn0 v1 d1 e1 rfl v3 d3 e3 f3
    show Acts _ _ _ (K W ([(b3, row 25 [c, d])] :: [(b2, row 25 [a, b])] :: N')) _ _
    haveI := gN.1
    haveI := gN.2.1
    haveI := gN.2.2.1
    haveI := gN.2.2.2.1
    haveI : NatV (K W N') v3 (s' + 1) := f3
    exact a_call (en_f rfl Try.call63) (bx2 (u := fun v => v) (mul_spec _ (by omega) (by omega) (Nat.le_refl _)) rfl) fun r w h => ⟨[r.L], [], h, r.ok⟩
  · intro s N' gN h0 hn0
    show Acts _ _ _ (K W ([(b3, row 25 [c, d])] :: [(b2, row 25 [a, b])] :: N')) _ _
    exact a_y (y_fieldAddr0 Try.tab rfl rfl rfl rfl rfl) fun w h => ⟨[], [], h, rfl⟩
  · rintro s N' gN h0 hn0 v5 d5 e5 rfl
    show Acts _ _ _ (K W ([(b3, row 25 [c, d])] :: [(b2, row 25 [a, b])] :: N')) _ _
    exact a_y (y_load Try.tab rfl rfl (cell_row 0 rfl rfl)) fun w h => ⟨[], [], h, rfl⟩
  · intro s N' gN h0 hn0
    show Acts _ _ _ (K W ([(b3, row 25 [c, d])] :: [(b2, row 25 [a, b])] :: N')) _ _
    exact a_y (y_loadA Try.tab rfl rfl rfl rfl (cells_row0 1 rfl rfl)) fun w h => ⟨[], [], h, rfl⟩
  · rintro s N' gN h0 hn0 v7 d7 e7 rfl
    show Acts _ _ _ (K W ([(b3, row 25 [c, d])] :: [(b2, row 25 [a, b])] :: N')) _ _
    haveI := gN.1
    haveI := gN.2.1
    haveI := gN.2.2.1
    haveI := gN.2.2.2.1
    exact a_call (en_f rfl Try.call64) (bx2 (u := fun v => v) (den_spec (by omega)) rfl) fun r w h => ⟨[r.L], [], h, r.ok⟩
  · rintro s N' gN h0 hn0 v6 d6 e6 rfl v8 d8 e8 f8
    show Acts _ _ _ (K W ([(b3, row 25 [c, d])] :: [(b2, row 25 [a, b])] :: N')) _ _
    haveI := gN.1
    haveI := gN.2.1
    haveI := gN.2.2.1
    haveI := gN.2.2.2.1
    haveI : NatV (K W N') v8 (q + 1) := f8
    exact a_call (en_f rfl Try.call63) (bx2 (u := fun v => v) (mul_spec _ (by omega) (by omega) (Nat.le_refl _)) rfl) fun r w h => ⟨[r.L], [], h, r.ok⟩
  · rintro s N' gN h0 hn0 v4 d4 e4 f4 v9 d9 e9 f9
    show Acts _ _ _ (K W ([(b3, row 25 [c, d])] :: [(b2, row 25 [a, b])] :: N')) _ _
    haveI := gN.1
    haveI := gN.2.1
    haveI := gN.2.2.1
    haveI := gN.2.2.2.1
    haveI : NatV (K W N') v4 (p * (s' + 1)) := f4
    haveI : NatV (K W N') v9 (r * (q + 1)) := f9
    exact a_call (en_f rfl Try.call62) cmp_spec fun _ w h => ⟨[], [], h, rfl⟩
  · rintro s N' gN h0 hn0 v10 d10 e10 rfl
    show Acts _ _ _ (K W ([(b3, row 25 [c, d])] :: [(b2, row 25 [a, b])] :: N')) _ _
    exact a_y (y_assign rfl) fun w h => ⟨[], [], h, rfl⟩
  · intro s N' gN hall v11 d11 e11 f11
    subst f11
    obtain ⟨_, _, _, _, M, rfl⟩ := gN
    show Fin _ _ _ _ _
    refine f_then ?_
    refine c_ret ?_
    exact f_ret () (res1 rfl rfl) (fun w h => K.bck (M := _ :: _ :: M) h)
end Go.KL
end

section
/- Walks: products and sums of fractions. -/
namespace Go.KL
open Go.Proofs
attribute [local irreducible] SC St Fin Sq Ylds Doos Sets Enters Spec CellIs CellsAre Then Ret Rnd Chn resOK ints bools recs arr
set_option maxRecDepth 10000 in
set_option maxHeartbeats 8000000 in
theorem lowest' {W : World} {N : List Chunk} {a b : Value} {x y X Y : Nat} [ha : NatV (K W N) a x] [hb : NatV (K W N) b y] (hX : X = x / Nat.gcd x y) (hY : Y = y / Nat.gcd x y - 1) (hx : wl x ≤ 900000) (hy : wl y ≤ 900000) (hy0 : y ≠ 0) :
    Spec Try.prog 70 #[a, b] (K W N) (X := Res2 W N X Y) (fun r => .agg #[r.v1, r.v2]) (fun r => K W (r.L :: N)) := by
  subst hX hY
  exact lowest_spec hx hy hy0
set_option maxRecDepth 10000 in
set_option maxHeartbeats 8000000 in
theorem fmul_spec {W : World} {N : List Chunk} {X Y : Nat} {a b c d : Value} {p q r s' : Nat} [ha : NatV (K W N) a p] [hb : NatV (K W N) b q] [hc : NatV (K W N) c r] [hd : NatV (K W N) d s'] (hp : wl p ≤ 10000) (hq : wl q ≤ 10000) (hr : wl r ≤ 10000) (hs : wl s' ≤ 10000) (hX : X = (p * r) / Nat.gcd (p * r) ((q + 1) * (s' + 1))) (hY : Y = ((q + 1) * (s' + 1)) / Nat.gcd (p * r) ((q + 1) * (s' + 1)) - 1) :
    Spec Try.prog 38 #[.agg #[a, b], .agg #[c, d]] (K W N) (X := Res2 W N (fcap X Y X) (fcap X Y Y)) (fun r => .tuple #[.agg #[r.v1, r.v2], Value.int .i64 (fcapE X Y)]) (fun r => K W (r.L :: N)) := by
  refine enter (args := [_, _]) Try.func38 rfl Try.ntmps38 rfl ?_
  have hq1 : wl (q + 1) ≤ 10001 := wl_add (y := 1) hq (by rw [wl_one]; omega)
  have hs1 : wl (s' + 1) ≤ 10001 := wl_add (y := 1) hs (by rw [wl_one]; omega)
  have hD : wl ((q + 1) * (s' + 1)) ≤ 30000 := Nat.le_trans (wl_mul hq1 hs1) (by omega)
  have hD0 : (q + 1) * (s' + 1) ≠ 0 := Nat.mul_ne_zero (by omega) (by omega)
  have hYw : wl Y ≤ 800000 := Nat.le_trans (wl_mono (show Y ≤ (q + 1) * (s' + 1) by rw [hY]; exact Nat.le_trans (Nat.sub_le _ _) (Nat.div_le_self _ _))) (by omega)
  have hP : wl (p * r) ≤ 30000 := Nat.le_trans (wl_mul hp hr) (by omega)
  have hXw : wl X ≤ 800000 := Nat.le_trans (wl_mono (show X ≤ p * r by rw [hX]; exact Nat.div_le_self _ _)) (by omega)
  refine c_seq ?_
  refine c_region ?_
  refine s_do (do_box rfl) rfl rfl rfl (fun b2 => ?_)
  refine s_do (do_box rfl) rfl rfl rfl (fun b3 => ?_)
  refine s_do (do_alloc Try.tab rfl) rfl rfl rfl (fun b4 => ?_)
  refine s_y (y_assign rfl) rfl rfl rfl ?_
  refine s_nil ?_
  refine f_then ?_
  refine c_seq ?_
  refine c_drawn [(2, .pointer (some ⟨b2, 0, none⟩)), (3, .pointer (some ⟨b3, 0, none⟩)), (4, .pointer (some ⟨b4, 0, none⟩))] [[], [(0, 6)], [], [(2, 8)], [(1, 7), (3, 9)], [], [(5, 11)], [], [(7, 13)], [(6, 12), (8, 14)], [(4, 10), (9, 15)], [(10, 16)], [(11, 17)], [(11, 17)], [(12, 18), (4, 10), (6, 12), (8, 14), (9, 15), (10, 16), (11, 17)], [(13, 19)]] [(15, 5)] (fun s => [bxO (s 14) [(b4, row 25 [.slice none 0 0, .slice none 0 0])], [(b3, row 25 [c, d])], [(b2, row 25 [a, b])]])
    [fun _ v _ => .pointer (some ⟨b2, 0, none⟩) = v, fun _ v _ => a = v, fun _ v _ => .pointer (some ⟨b3, 0, none⟩) = v, fun _ v _ => c = v, fun N v _ => NatV (K W N) v (p * r), fun _ v _ => .agg #[a, b] = v, fun N v _ => NatV (K W N) v (q + 1), fun _ v _ => .agg #[c, d] = v, fun N v _ => NatV (K W N) v (s' + 1), fun N v _ => NatV (K W N) v ((q + 1) * (s' + 1)), fun N v _ => ∃ u w, .agg #[u, w] = v ∧ NatV (K W N) u (X) ∧ NatV (K W N) w (Y), fun N v _ => ∃ u w, .tuple #[.agg #[u, w], .int .i64 (fcapE X Y)] = v ∧ NatV (K W N) u (fcap X Y X) ∧ NatV (K W N) w (fcap X Y Y), fun N v _ => ∃ u w, .agg #[u, w] = v ∧ NatV (K W N) u (fcap X Y X) ∧ NatV (K W N) w (fcap X Y Y), fun _ v _ => Value.int .i64 (fcapE X Y) = v, fun N v c => ∃ u w, [(b4, row 25 [u, w])] = c ∧ NatV (K W N) u (fcap X Y X) ∧ NatV (K W N) w (fcap X Y Y), fun _ v _ => Value.int .i64 (fcapE X Y) = v]
    N (fun N' => NatV (K W N') a (p) ∧ NatV (K W N') b (q) ∧ NatV (K W N') c (r) ∧ NatV (K W N') d (s') ∧ ∃ M, N' = M ++ N) ⟨inferInstance, inferInstance, inferInstance, inferInstance, [], rfl⟩ (fun M N' ⟨h0, h1, h2, h3, M2, e⟩ => ⟨h0.cls fun _ k => k.bck, h1.cls fun _ k => k.bck, h2.cls fun _ k => k.bck, h3.cls fun _ k => k.bck, M ++ M2, by rw [e, List.append_assoc]⟩) Try.mixed (by kernel_rfl) rfl ⟨rfl, rfl, rfl, trivial⟩ (fun w h => h)
    ⟨fun _ _ _ _ h => h, fun _ _ _ _ h => h, fun _ _ _ _ h => h, fun _ _ _ _ h => h, fun _ _ _ _ h => h.cls fun _ k => k.bck, fun _ _ _ _ h => h, fun _ _ _ _ h => h.cls fun _ k => k.bck, fun _ _ _ _ h => h, fun _ _ _ _ h => h.cls fun _ k => k.bck, fun _ _ _ _ h => h.cls fun _ k => k.bck, fun _ _ _ _ ⟨u, w, e, h1, h2⟩ => ⟨u, w, e, h1.cls fun _ k => k.bck, h2.cls fun _ k => k.bck⟩, fun _ _ _ _ ⟨u, w, e, h1, h2⟩ => ⟨u, w, e, h1.cls fun _ k => k.bck, h2.cls fun _ k => k.bck⟩, fun _ _ _ _ ⟨u, w, e, h1, h2⟩ => ⟨u, w, e, h1.cls fun _ k => k.bck, h2.cls fun _ k => k.bck⟩, fun _ _ _ _ h => h, fun _ _ _ _ ⟨u, w, e, h1, h2⟩ => ⟨u, w, e, h1.cls fun _ k => k.bck, h2.cls fun _ k => k.bck⟩, fun _ _ _ _ h => h, trivial⟩
    ⟨?_, ?_, ?_, ?_, ?_, ?_, ?_, ?_, ?_, ?_, ?_, ?_, ?_, ?_, ?_, ?_, trivial⟩ ?_
  · intro s N' gN h0 hn0
    show Acts _ _ _ (K W (bxO (s 14) [(b4, row 25 [.slice none 0 0, .slice none 0 0])] :: [(b3, row 25 [c, d])] :: [(b2, row 25 [a, b])] :: N')) _ _
    exact a_y (y_fieldAddr0 Try.tab rfl rfl rfl rfl rfl) fun w h => ⟨[], [], h, rfl⟩
  · rintro s N' gN h0 hn0 v0 d0 e0 rfl
    show Acts _ _ _ (K W (bxO (s 14) [(b4, row 25 [.slice none 0 0, .slice none 0 0])] :: [(b3, row 25 [c, d])] :: [(b2, row 25 [a, b])] :: N')) _ _
    exact a_y (y_load Try.tab rfl rfl (cell_row 2 rfl rfl)) fun w h => ⟨[], [], h, rfl⟩
  · intro s N' gN h0 hn0
    show Acts _ _ _ (K W (bxO (s 14) [(b4, row 25 [.slice none 0 0, .slice none 0 0])] :: [(b3, row 25 [c, d])] :: [(b2, row 25 [a, b])] :: N')) _ _
    exact a_y (y_fieldAddr0 Try.tab rfl rfl rfl rfl rfl) fun w h => ⟨[], [], h, rfl⟩
  · rintro s N' gN h0 hn0 v2 d2 e2 rfl
    show Acts _ _ _ (K W (bxO (s 14) [(b4, row 25 [.slice none 0 0, .slice none 0 0])] :: [(b3, row 25 [c, d])] :: [(b2, row 25 [a, b])] :: N')) _ _
    exact a_y (y_load Try.tab rfl rfl (cell_row 1 rfl rfl)) fun w h => ⟨[], [], h, rfl⟩
  · rintro s N' gN h0 hn0 v1 d1 e1 rfl v3 d3 e3 rfl
    show Acts _ _ _ (K W (bxO (s 14) [(b4, row 25 [.slice none 0 0, .slice none 0 0])] :: [(b3, row 25 [c, d])] :: [(b2, row 25 [a, b])] :: N')) _ _
    have hz : s 14 = none := hn0 14 rfl
    rw [hz]
    show Acts _ _ _ (K W ([(b4, row 25 [.slice none 0 0, .slice none 0 0])] :: [(b3, row 25 [c, d])] :: [(b2, row 25 [a, b])] :: N')) _ _
    haveI := gN.1
    haveI := gN.2.1
    haveI := gN.2.2.1
    haveI := gN.2.2.2.1
    exact a_call (en_f rfl Try.call63) (bx3 (u := fun v => v) (mul_spec _ (by omega) (by omega) (Nat.le_refl _)) rfl) fun r w h => ⟨[r.L], [], (by show K W (bxO (s 14) [(b4, row 25 [.slice none 0 0, .slice none 0 0])] :: [(b3, row 25 [c, d])] :: [(b2, row 25 [a, b])] :: r.L :: N') w; rw [hz]; exact h), r.ok⟩
  · intro s N' gN h0 hn0
    show Acts _ _ _ (K W (bxO (s 14) [(b4, row 25 [.slice none 0 0, .slice none 0 0])] :: [(b3, row 25 [c, d])] :: [(b2, row 25 [a, b])] :: N')) _ _
    exact a_y (y_loadA Try.tab rfl rfl rfl rfl (cells_row0 2 rfl rfl)) fun w h => ⟨[], [], h, rfl⟩
  · rintro s N' gN h0 hn0 v5 d5 e5 rfl
    show Acts _ _ _ (K W (bxO (s 14) [(b4, row 25 [.slice none 0 0, .slice none 0 0])] :: [(b3, row 25 [c, d])] :: [(b2, row 25 [a, b])] :: N')) _ _
    have hz : s 14 = none := hn0 14 rfl
    rw [hz]
    show Acts _ _ _ (K W ([(b4, row 25 [.slice none 0 0, .slice none 0 0])] :: [(b3, row 25 [c, d])] :: [(b2, row 25 [a, b])] :: N')) _ _
    haveI := gN.1
    haveI := gN.2.1
    haveI := gN.2.2.1
    haveI := gN.2.2.2.1
    exact a_call (en_f rfl Try.call64) (bx3 (u := fun v => v) (den_spec (by omega)) rfl) fun r w h => ⟨[r.L], [], (by show K W (bxO (s 14) [(b4, row 25 [.slice none 0 0, .slice none 0 0])] :: [(b3, row 25 [c, d])] :: [(b2, row 25 [a, b])] :: r.L :: N') w; rw [hz]; exact h), r.ok⟩
  · intro s N' gN h0 hn0
    show Acts _ _ _ (K W (bxO (s 14) [(b4, row 25 [.slice none 0 0, .slice none 0 0])] :: [(b3, row 25 [c, d])] :: [(b2, row 25 [a, b])] :: N')) _ _
    exact a_y (y_loadA Try.tab rfl rfl rfl rfl (cells_row0 1 rfl rfl)) fun w h => ⟨[], [], h, rfl⟩
  · rintro s N' gN h0 hn0 v7 d7 e7 rfl
    show Acts _ _ _ (K W (bxO (s 14) [(b4, row 25 [.slice none 0 0, .slice none 0 0])] :: [(b3, row 25 [c, d])] :: [(b2, row 25 [a, b])] :: N')) _ _
    have hz : s 14 = none := hn0 14 rfl
    rw [hz]
    show Acts _ _ _ (K W ([(b4, row 25 [.slice none 0 0, .slice none 0 0])] :: [(b3, row 25 [c, d])] :: [(b2, row 25 [a, b])] :: N')) _ _
    haveI := gN.1
    haveI := gN.2.1
    haveI := gN.2.2.1
    haveI := gN.2.2.2.1
    exact a_call (en_f rfl Try.call64) (bx3 (u := fun v => v) (den_spec (by omega)) rfl) fun r w h => ⟨[r.L], [], (by show K W (bxO (s 14) [(b4, row 25 [.slice none 0 0, .slice none 0 0])] :: [(b3, row 25 [c, d])] :: [(b2, row 25 [a, b])] :: r.L :: N') w; rw [hz]; exact h), r.ok⟩
  · rintro s N' gN h0 hn0 v6 d6 e6 f6 v8 d8 e8 f8
    show Acts _ _ _ (K W (bxO (s 14) [(b4, row 25 [.slice none 0 0, .slice none 0 0])] :: [(b3, row 25 [c, d])] :: [(b2, row 25 [a, b])] :: N')) _ _
    have hz : s 14 = none := hn0 14 rfl
    rw [hz]
    show Acts _ _ _ (K W ([(b4, row 25 [.slice none 0 0, .slice none 0 0])] :: [(b3, row 25 [c, d])] :: [(b2, row 25 [a, b])] :: N')) _ _
    haveI := gN.1
    haveI := gN.2.1
    haveI := gN.2.2.1
    haveI := gN.2.2.2.1
    haveI : NatV (K W N') v6 (q + 1) := f6
    haveI : NatV (K W N') v8 (s' + 1) := f8
    exact a_call (en_f rfl Try.call63) (bx3 (u := fun v => v) (mul_spec _ (by omega) (by omega) (Nat.le_refl _)) rfl) fun r w h => ⟨[r.L], [], (by show K W (bxO (s 14) [(b4, row 25 [.slice none 0 0, .slice none 0 0])] :: [(b3, row 25 [c, d])] :: [(b2, row 25 [a, b])] :: r.L :: N') w; rw [hz]; exact h), r.ok⟩
  · rintro s N' gN h0 hn0 v4 d4 e4 f4 v9 d9 e9 f9
    show Acts _ _ _ (K W (bxO (s 14) [(b4, row 25 [.slice none 0 0, .slice none 0 0])] :: [(b3, row 25 [c, d])] :: [(b2, row 25 [a, b])] :: N')) _ _
    have hz : s 14 = none := hn0 14 rfl
    rw [hz]
    show Acts _ _ _ (K W ([(b4, row 25 [.slice none 0 0, .slice none 0 0])] :: [(b3, row 25 [c, d])] :: [(b2, row 25 [a, b])] :: N')) _ _
    haveI := gN.1
    haveI := gN.2.1
    haveI := gN.2.2.1
    haveI := gN.2.2.2.1
    haveI : NatV (K W N') v4 (p * r) := f4
    haveI : NatV (K W N') v9 ((q + 1) * (s' + 1)) := f9
    exact a_call (en_f rfl Try.call70) (by3 (u2 := fun v w => .agg #[v, w]) (lowest' hX hY (by omega) (by omega) hD0) rfl) fun r w h => ⟨[r.L], [], (by show K W (bxO (s 14) [(b4, row 25 [.slice none 0 0, .slice none 0 0])] :: [(b3, row 25 [c, d])] :: [(b2, row 25 [a, b])] :: r.L :: N') w; rw [hz]; exact h), r.v1, r.v2, rfl, r.ok1, r.ok2⟩
  · rintro s N' gN h0 hn0 v10 d10 e10 ⟨u10, w10, rfl, m10, l10⟩
    show Acts _ _ _ (K W (bxO (s 14) [(b4, row 25 [.slice none 0 0, .slice none 0 0])] :: [(b3, row 25 [c, d])] :: [(b2, row 25 [a, b])] :: N')) _ _
    have hz : s 14 = none := hn0 14 rfl
    rw [hz]
    show Acts _ _ _ (K W ([(b4, row 25 [.slice none 0 0, .slice none 0 0])] :: [(b3, row 25 [c, d])] :: [(b2, row 25 [a, b])] :: N')) _ _
    haveI := gN.1
    haveI := gN.2.1
    haveI := gN.2.2.1
    haveI := gN.2.2.2.1
    haveI : NatV (K W N') u10 X := m10
    haveI : NatV (K W N') w10 Y := l10
    exact a_call (en_f rfl Try.call69) (by3 (u2 := fun v w => .tuple #[.agg #[v, w], .int .i64 (fcapE X Y)]) (within_spec hXw hYw) rfl) fun r w h => ⟨[r.L], [], (by show K W (bxO (s 14) [(b4, row 25 [.slice none 0 0, .slice none 0 0])] :: [(b3, row 25 [c, d])] :: [(b2, row 25 [a, b])] :: r.L :: N') w; rw [hz]; exact h), r.v1, r.v2, rfl, r.ok1, r.ok2⟩
  · rintro s N' gN h0 hn0 v11 d11 e11 ⟨u11, w11, rfl, m11, l11⟩
    show Acts _ _ _ (K W (bxO (s 14) [(b4, row 25 [.slice none 0 0, .slice none 0 0])] :: [(b3, row 25 [c, d])] :: [(b2, row 25 [a, b])] :: N')) _ _
    have hz : s 14 = none := hn0 14 rfl
    rw [hz]
    show Acts _ _ _ (K W ([(b4, row 25 [.slice none 0 0, .slice none 0 0])] :: [(b3, row 25 [c, d])] :: [(b2, row 25 [a, b])] :: N')) _ _
    exact a_y (y_extract rfl rfl) fun w h => ⟨[], [], (by show K W (bxO (s 14) [(b4, row 25 [.slice none 0 0, .slice none 0 0])] :: [(b3, row 25 [c, d])] :: [(b2, row 25 [a, b])] :: N') w; rw [hz]; exact h), u11, w11, rfl, m11, l11⟩
  · rintro s N' gN h0 hn0 v11 d11 e11 ⟨u11, w11, rfl, m11, l11⟩
    show Acts _ _ _ (K W (bxO (s 14) [(b4, row 25 [.slice none 0 0, .slice none 0 0])] :: [(b3, row 25 [c, d])] :: [(b2, row 25 [a, b])] :: N')) _ _
    exact a_y (y_extract rfl rfl) fun w h => ⟨[], [], h, rfl⟩
  · rintro s N' gN h0 hn0 v12 d12 e12 ⟨u12, w12, rfl, m12, l12⟩ v4 d4 e4 f4 v6 d6 e6 f6 v8 d8 e8 f8 v9 d9 e9 f9 v10 d10 e10 ⟨u10, w10, rfl, m10, l10⟩ v11 d11 e11 ⟨u11, w11, rfl, m11, l11⟩
    show Acts _ _ _ (K W (bxO (s 14) [(b4, row 25 [.slice none 0 0, .slice none 0 0])] :: [(b3, row 25 [c, d])] :: [(b2, row 25 [a, b])] :: N')) _ _
    have hz : s 14 = none := h0
    rw [hz]
    show Acts _ _ _ (K W ([(b4, row 25 [.slice none 0 0, .slice none 0 0])] :: [(b3, row 25 [c, d])] :: [(b2, row 25 [a, b])] :: N')) _ _
    haveI : NatV (K W N') u12 (fcap X Y X) := m12
    haveI : NatV (K W N') w12 (fcap X Y Y) := l12
    exact a_set (set_25 0 rfl rfl rfl rfl) fun w h => ⟨[], [(b4, row 25 [u12, w12])], h, u12, w12, rfl, m12, l12⟩
  · rintro s N' gN h0 hn0 v13 d13 e13 rfl
    show Acts _ _ _ (K W (bxO (s 14) [(b4, row 25 [.slice none 0 0, .slice none 0 0])] :: [(b3, row 25 [c, d])] :: [(b2, row 25 [a, b])] :: N')) _ _
    exact a_y (y_assign rfl) fun w h => ⟨[], [], h, rfl⟩
  · intro s N' gN hall v15 d15 e15 f15
    subst f15
    obtain ⟨v, z, u, w, hv, m, l⟩ := hall 14 (by decide)
    obtain ⟨_, _, _, _, M, hM⟩ := gN
    subst hM
    show Fin _ _ _ _ (K W (bxO (s 14) [(b4, row 25 [.slice none 0 0, .slice none 0 0])] :: [(b3, row 25 [c, d])] :: [(b2, row 25 [a, b])] :: (M ++ N)))
    rw [z]
    show Fin _ _ _ _ (K W (v.2 :: [(b3, row 25 [c, d])] :: [(b2, row 25 [a, b])] :: (M ++ N)))
    rw [← hv]
    refine f_then ?_
    refine c_ret ?_
    exact f_ret (Res2.of m l) (resA1 Try.tab rfl rfl rfl rfl rfl rfl (cells_row0 0 rfl rfl)) (fun w h => Res2.of_cls m l h.tail.tail.tail)
set_option maxRecDepth 10000 in
set_option maxHeartbeats 8000000 in
theorem fadd_spec {W : World} {N : List Chunk} {X Y : Nat} {a b c d : Value} {p q r s' : Nat} [ha : NatV (K W N) a p] [hb : NatV (K W N) b q] [hc : NatV (K W N) c r] [hd : NatV (K W N) d s'] (hp : wl p ≤ 10000) (hq : wl q ≤ 10000) (hr : wl r ≤ 10000) (hs : wl s' ≤ 10000) (hX : X = (p * (s' + 1) + r * (q + 1)) / Nat.gcd (p * (s' + 1) + r * (q + 1)) ((q + 1) * (s' + 1))) (hY : Y = ((q + 1) * (s' + 1)) / Nat.gcd (p * (s' + 1) + r * (q + 1)) ((q + 1) * (s' + 1)) - 1) :
    Spec Try.prog 39 #[.agg #[a, b], .agg #[c, d]] (K W N) (X := Res2 W N (fcap X Y X) (fcap X Y Y)) (fun r => .tuple #[.agg #[r.v1, r.v2], Value.int .i64 (fcapE X Y)]) (fun r => K W (r.L :: N)) := by
  refine enter (args := [_, _]) Try.func39 rfl Try.ntmps39 rfl ?_
  have hq1 : wl (q + 1) ≤ 10001 := wl_add (y := 1) hq (by rw [wl_one]; omega)
  have hs1 : wl (s' + 1) ≤ 10001 := wl_add (y := 1) hs (by rw [wl_one]; omega)
  have hD : wl ((q + 1) * (s' + 1)) ≤ 30000 := Nat.le_trans (wl_mul hq1 hs1) (by omega)
  have hD0 : (q + 1) * (s' + 1) ≠ 0 := Nat.mul_ne_zero (by omega) (by omega)
  have hYw : wl Y ≤ 800000 := Nat.le_trans (wl_mono (show Y ≤ (q + 1) * (s' + 1) by rw [hY]; exact Nat.le_trans (Nat.sub_le _ _) (Nat.div_le_self _ _))) (by omega)
  have hP1 : wl (p * (s' + 1)) ≤ 29999 := Nat.le_trans (wl_mul hp hs1) (by omega)
  have hP2 : wl (r * (q + 1)) ≤ 29999 := Nat.le_trans (wl_mul hr hq1) (by omega)
  have hP : wl (p * (s' + 1) + r * (q + 1)) ≤ 30000 := wl_add hP1 hP2
  have hXw : wl X ≤ 800000 := Nat.le_trans (wl_mono (show X ≤ p * (s' + 1) + r * (q + 1) by rw [hX]; exact Nat.div_le_self _ _)) (by omega)
  refine c_seq ?_
  refine c_region ?_
  refine s_do (do_box rfl) rfl rfl rfl (fun b2 => ?_)
  refine s_do (do_box rfl) rfl rfl rfl (fun b3 => ?_)
  refine s_do (do_alloc Try.tab rfl) rfl rfl rfl (fun b4 => ?_)
  refine s_y (y_assign rfl) rfl rfl rfl ?_
  refine s_nil ?_
  refine f_then ?_
  refine c_seq ?_
  refine c_then_cut (α := List Chunk × Value × Value) (fun z => [(2, .pointer (some ⟨b2, 0, none⟩)), (3, .pointer (some ⟨b3, 0, none⟩)), (4, .pointer (some ⟨b4, 0, none⟩)), (6, z.2.1), (7, z.2.2)]) (fun z => (NatV (K W z.1) a p ∧ NatV (K W z.1) b q ∧ NatV (K W z.1) c r ∧ NatV (K W z.1) d s' ∧ ∃ M, z.1 = M ++ N) ∧ NatV (K W z.1) z.2.1 (q + 1) ∧ NatV (K W z.1) z.2.2 (s' + 1)) (fun z => K W ([(b4, row 25 [.slice none 0 0, .slice none 0 0])] :: [(b3, row 25 [c, d])] :: [(b2, row 25 [a, b])] :: z.1)) ?_ ?_
  · refine c_drawn [(2, .pointer (some ⟨b2, 0, none⟩)), (3, .pointer (some ⟨b3, 0, none⟩)), (4, .pointer (some ⟨b4, 0, none⟩))] [[], [(0, 8)], [], [(2, 10)], [(1, 9)], [(3, 11)]] [(4, 6), (5, 7)] (fun _ => [[(b4, row 25 [.slice none 0 0, .slice none 0 0])], [(b3, row 25 [c, d])], [(b2, row 25 [a, b])]])
      [fun _ v _ => .agg #[a, b] = v, fun N v _ => NatV (K W N) v (q + 1), fun _ v _ => .agg #[c, d] = v, fun N v _ => NatV (K W N) v (s' + 1), fun N v _ => NatV (K W N) v (q + 1), fun N v _ => NatV (K W N) v (s' + 1)]
      N (fun N' => NatV (K W N') a (p) ∧ NatV (K W N') b (q) ∧ NatV (K W N') c (r) ∧ NatV (K W N') d (s') ∧ ∃ M, N' = M ++ N) ⟨inferInstance, inferInstance, inferInstance, inferInstance, [], rfl⟩ (fun M N' ⟨h0, h1, h2, h3, M2, e⟩ => ⟨h0.cls fun _ k => k.bck, h1.cls fun _ k => k.bck, h2.cls fun _ k => k.bck, h3.cls fun _ k => k.bck, M ++ M2, by rw [e, List.append_assoc]⟩) Try.mixed (by kernel_rfl) rfl ⟨rfl, rfl, rfl, trivial⟩ (fun w h => h)
      ⟨fun _ _ _ _ h => h, fun _ _ _ _ h => h.cls fun _ k => k.bck, fun _ _ _ _ h => h, fun _ _ _ _ h => h.cls fun _ k => k.bck, fun _ _ _ _ h => h.cls fun _ k => k.bck, fun _ _ _ _ h => h.cls fun _ k => k.bck, trivial⟩
      ⟨?_, ?_, ?_, ?_, ?_, ?_, trivial⟩ ?_
    · intro s N' gN h0 hn0
      show Acts _ _ _ (K W ([(b4, row 25 [.slice none 0 0, .slice none 0 0])] :: [(b3, row 25 [c, d])] :: [(b2, row 25 [a, b])] :: N')) _ _
      exact a_y (y_loadA Try.tab rfl rfl rfl rfl (cells_row0 2 rfl rfl)) fun w h => ⟨[], [], h, rfl⟩
    · rintro s N' gN h0 hn0 v0 d0 e0 rfl
      show Acts _ _ _ (K W ([(b4, row 25 [.slice none 0 0, .slice none 0 0])] :: [(b3, row 25 [c, d])] :: [(b2, row 25 [a, b])] :: N')) _ _
      haveI := gN.1
      haveI := gN.2.1
      haveI := gN.2.2.1
      haveI := gN.2.2.2.1
      exact a_call (en_f rfl Try.call64) (bx3 (u := fun v => v) (den_spec (by omega)) rfl) fun r w h => ⟨[r.L], [], h, r.ok⟩
    · intro s N' gN h0 hn0
      show Acts _ _ _ (K W ([(b4, row 25 [.slice none 0 0, .slice none 0 0])] :: [(b3, row 25 [c, d])] :: [(b2, row 25 [a, b])] :: N')) _ _
      exact a_y (y_loadA Try.tab rfl rfl rfl rfl (cells_row0 1 rfl rfl)) fun w h => ⟨[], [], h, rfl⟩
    · rintro s N' gN h0 hn0 v2 d2 e2 rfl
      show Acts _ _ _ (K W ([(b4, row 25 [.slice none 0 0, .slice none 0 0])] :: [(b3, row 25 [c, d])] :: [(b2, row 25 [a, b])] :: N')) _ _
      haveI := gN.1
      haveI := gN.2.1
      haveI := gN.2.2.1
      haveI := gN.2.2.2.1
      exact a_call (en_f rfl Try.call64) (bx3 (u := fun v => v) (den_spec (by omega)) rfl) fun r w h => ⟨[r.L], [], h, r.ok⟩
    · rintro s N' gN h0 hn0 v1 d1 e1 f1
      show Acts _ _ _ (K W ([(b4, row 25 [.slice none 0 0, .slice none 0 0])] :: [(b3, row 25 [c, d])] :: [(b2, row 25 [a, b])] :: N')) _ _
      exact a_y (y_assign rfl) fun w h => ⟨[], [], h, f1⟩
    · rintro s N' gN h0 hn0 v3 d3 e3 f3
      show Acts _ _ _ (K W ([(b4, row 25 [.slice none 0 0, .slice none 0 0])] :: [(b3, row 25 [c, d])] :: [(b2, row 25 [a, b])] :: N')) _ _
      exact a_y (y_assign rfl) fun w h => ⟨[], [], h, f3⟩
    · intro s N' gN hall v4 d4 e4 f4 v5 d5 e5 f5
      exact f_cutP (N', v4, v5) ⟨gN, f4, f5⟩ ⟨rfl, rfl, rfl, rfl, rfl, trivial⟩ (fun w h => h)
  clear ha hb hc hd
  rintro ⟨N1, va, vb⟩ ⟨⟨ha, hb, hc, hd, M1, hN1⟩, hva, hvb⟩
  dsimp only at ha hb hc hd hN1 hva hvb ⊢
  refine c_seq ?_
  refine c_drawn [(2, .pointer (some ⟨b2, 0, none⟩)), (3, .pointer (some ⟨b3, 0, none⟩)), (4, .pointer (some ⟨b4, 0, none⟩)), (6, va), (7, vb)] [[], [(0, 12)], [], [(1, 13), (2, 14)], [], [(4, 16)], [], [(5, 17), (6, 18)], [(3, 15), (7, 19)], [], [], [(9, 21), (10, 22)], [(8, 20), (11, 23)], [(12, 24)], [(13, 25)], [(13, 25)], [(14, 26), (3, 15), (7, 19), (8, 20), (11, 23), (12, 24), (13, 25)], [(15, 27)]] [(17, 5)] (fun s => [bxO (s 16) [(b4, row 25 [.slice none 0 0, .slice none 0 0])], [(b3, row 25 [c, d])], [(b2, row 25 [a, b])]])
    [fun _ v _ => .pointer (some ⟨b2, 0, none⟩) = v, fun _ v _ => a = v, fun _ v _ => vb = v, fun N v _ => NatV (K W N) v (p * (s' + 1)), fun _ v _ => .pointer (some ⟨b3, 0, none⟩) = v, fun _ v _ => c = v, fun _ v _ => va = v, fun N v _ => NatV (K W N) v (r * (q + 1)), fun N v _ => NatV (K W N) v (p * (s' + 1) + r * (q + 1)), fun _ v _ => va = v, fun _ v _ => vb = v, fun N v _ => NatV (K W N) v ((q + 1) * (s' + 1)), fun N v _ => ∃ u w, .agg #[u, w] = v ∧ NatV (K W N) u (X) ∧ NatV (K W N) w (Y), fun N v _ => ∃ u w, .tuple #[.agg #[u, w], .int .i64 (fcapE X Y)] = v ∧ NatV (K W N) u (fcap X Y X) ∧ NatV (K W N) w (fcap X Y Y), fun N v _ => ∃ u w, .agg #[u, w] = v ∧ NatV (K W N) u (fcap X Y X) ∧ NatV (K W N) w (fcap X Y Y), fun _ v _ => Value.int .i64 (fcapE X Y) = v, fun N v c => ∃ u w, [(b4, row 25 [u, w])] = c ∧ NatV (K W N) u (fcap X Y X) ∧ NatV (K W N) w (fcap X Y Y), fun _ v _ => Value.int .i64 (fcapE X Y) = v]
    N1 (fun N' => NatV (K W N') a (p) ∧ NatV (K W N') b (q) ∧ NatV (K W N') c (r) ∧ NatV (K W N') d (s') ∧ NatV (K W N') va (q + 1) ∧ NatV (K W N') vb (s' + 1) ∧ ∃ M, N' = M ++ N) ⟨inferInstance, inferInstance, inferInstance, inferInstance, inferInstance, inferInstance, M1, hN1⟩ (fun M N' ⟨h0, h1, h2, h3, h4, h5, M2, e⟩ => ⟨h0.cls fun _ k => k.bck, h1.cls fun _ k => k.bck, h2.cls fun _ k => k.bck, h3.cls fun _ k => k.bck, h4.cls fun _ k => k.bck, h5.cls fun _ k => k.bck, M ++ M2, by rw [e, List.append_assoc]⟩) Try.mixed (by kernel_rfl) rfl ⟨rfl, rfl, rfl, rfl, rfl, trivial⟩ (fun w h => h)
    ⟨fun _ _ _ _ h => h, fun _ _ _ _ h => h, fun _ _ _ _ h => h, fun _ _ _ _ h => h.cls fun _ k => k.bck, fun _ _ _ _ h => h, fun _ _ _ _ h => h, fun _ _ _ _ h => h, fun _ _ _ _ h => h.cls fun _ k => k.bck, fun _ _ _ _ h => h.cls fun _ k => k.bck, fun _ _ _ _ h => h, fun _ _ _ _ h => h, fun _ _ _ _ h => h.cls fun _ k => k.bck, fun _ _ _ _ ⟨u, w, e, h1, h2⟩ => ⟨u, w, e, h1.cls fun _ k => k.bck, h2.cls fun _ k => k.bck⟩, fun _ _ _ _ ⟨u, w, e, h1, h2⟩ => ⟨u, w, e, h1.cls fun _ k => k.bck, h2.cls fun _ k => k.bck⟩, fun _ _ _ _ ⟨u, w, e, h1, h2⟩ => ⟨u, w, e, h1.cls fun _ k => k.bck, h2.cls fun _ k => k.bck⟩, fun _ _ _ _ h => h, fun _ _ _ _ ⟨u, w, e, h1, h2⟩ => ⟨u, w, e, h1.cls fun _ k => k.bck, h2.cls fun _ k => k.bck⟩, fun _ _ _ _ h => h, trivial⟩
    ⟨?_, ?_, ?_, ?_, ?_, ?_, ?_, ?_, ?_, ?_, ?_, ?_, ?_, ?_, ?_, ?_, ?_, ?_, trivial⟩ ?_
  · intro s N' gN h0 hn0
    show Acts _ _ _ (K W (bxO (s 16) [(b4, row 25 [.slice none 0 0, .slice none 0 0])] :: [(b3, row 25 [c, d])] :: [(b2, row 25 [a, b])] :: N')) _ _
    exact a_y (y_fieldAddr0 Try.tab rfl rfl rfl rfl rfl) fun w h => ⟨[], [], h, rfl⟩
  · rintro s N' gN h0 hn0 v0 d0 e0 rfl
    show Acts _ _ _ (K W (bxO (s 16) [(b4, row 25 [.slice none 0 0, .slice none 0 0])] :: [(b3, row 25 [c, d])] :: [(b2, row 25 [a, b])] :: N')) _ _
    exact a_y (y_load Try.tab rfl rfl (cell_row 2 rfl rfl)) fun w h => ⟨[], [], h, rfl⟩
  · intro s N' gN h0 hn0
    show Acts _ _ _ (K W (bxO (s 16) [(b4, row 25 [.slice none 0 0, .slice none 0 0])] :: [(b3, row 25 [c, d])] :: [(b2, row 25 [a, b])] :: N')) _ _
    exact a_y (y_move rfl) fun w h => ⟨[], [], h, rfl⟩
  · rintro s N' gN h0 hn0 v1 d1 e1 rfl v2 d2 e2 rfl
    show Acts _ _ _ (K W (bxO (s 16) [(b4, row 25 [.slice none 0 0, .slice none 0 0])] :: [(b3, row 25 [c, d])] :: [(b2, row 25 [a, b])] :: N')) _ _
    have hz : s 16 = none := hn0 16 rfl
    rw [hz]
    show Acts _ _ _ (K W ([(b4, row 25 [.slice none 0 0, .slice none 0 0])] :: [(b3, row 25 [c, d])] :: [(b2, row 25 [a, b])] :: N')) _ _
    haveI := gN.1
    haveI := gN.2.1
    haveI := gN.2.2.1
    haveI := gN.2.2.2.1
    haveI := gN.2.2.2.2.1
    haveI := gN.2.2.2.2.2.1
    exact a_call (en_f rfl Try.call63) (bx3 (u := fun v => v) (mul_spec _ (by omega) (by omega) (Nat.le_refl _)) rfl) fun r w h => ⟨[r.L], [], (by show K W (bxO (s 16) [(b4, row 25 [.slice none 0 0, .slice none 0 0])] :: [(b3, row 25 [c, d])] :: [(b2, row 25 [a, b])] :: r.L :: N') w; rw [hz]; exact h), r.ok⟩
  · intro s N' gN h0 hn0
    show Acts _ _ _ (K W (bxO (s 16) [(b4, row 25 [.slice none 0 0, .slice none 0 0])] :: [(b3, row 25 [c, d])] :: [(b2, row 25 [a, b])] :: N')) _ _
    exact a_y (y_fieldAddr0 Try.tab rfl rfl rfl rfl rfl) fun w h => ⟨[], [], h, rfl⟩
  · rintro s N' gN h0 hn0 v4 d4 e4 rfl
    show Acts _ _ _ (K W (bxO (s 16) [(b4, row 25 [.slice none 0 0, .slice none 0 0])] :: [(b3, row 25 [c, d])] :: [(b2, row 25 [a, b])] :: N')) _ _
    exact a_y (y_load Try.tab rfl rfl (cell_row 1 rfl rfl)) fun w h => ⟨[], [], h, rfl⟩
  · intro s N' gN h0 hn0
    show Acts _ _ _ (K W (bxO (s 16) [(b4, row 25 [.slice none 0 0, .slice none 0 0])] :: [(b3, row 25 [c, d])] :: [(b2, row 25 [a, b])] :: N')) _ _
    exact a_y (y_move rfl) fun w h => ⟨[], [], h, rfl⟩
  · rintro s N' gN h0 hn0 v5 d5 e5 rfl v6 d6 e6 rfl
    show Acts _ _ _ (K W (bxO (s 16) [(b4, row 25 [.slice none 0 0, .slice none 0 0])] :: [(b3, row 25 [c, d])] :: [(b2, row 25 [a, b])] :: N')) _ _
    have hz : s 16 = none := hn0 16 rfl
    rw [hz]
    show Acts _ _ _ (K W ([(b4, row 25 [.slice none 0 0, .slice none 0 0])] :: [(b3, row 25 [c, d])] :: [(b2, row 25 [a, b])] :: N')) _ _
    haveI := gN.1
    haveI := gN.2.1
    haveI := gN.2.2.1
    haveI := gN.2.2.2.1
    haveI := gN.2.2.2.2.1
    haveI := gN.2.2.2.2.2.1
    exact a_call (en_f rfl Try.call63) (bx3 (u := fun v => v) (mul_spec _ (by omega) (by omega) (Nat.le_refl _)) rfl) fun r w h => ⟨[r.L], [], (by show K W (bxO (s 16) [(b4, row 25 [.slice none 0 0, .slice none 0 0])] :: [(b3, row 25 [c, d])] :: [(b2, row 25 [a, b])] :: r.L :: N') w; rw [hz]; exact h), r.ok⟩
  · rintro s N' gN h0 hn0 v3 d3 e3 f3 v7 d7 e7 f7
    show Acts _ _ _ (K W (bxO (s 16) [(b4, row 25 [.slice none 0 0, .slice none 0 0])] :: [(b3, row 25 [c, d])] :: [(b2, row 25 [a, b])] :: N')) _ _
    have hz : s 16 = none := hn0 16 rfl
    rw [hz]
    show Acts _ _ _ (K W ([(b4, row 25 [.slice none 0 0, .slice none 0 0])] :: [(b3, row 25 [c, d])] :: [(b2, row 25 [a, b])] :: N')) _ _
    haveI := gN.1
    haveI := gN.2.1
    haveI := gN.2.2.1
    haveI := gN.2.2.2.1
    haveI := gN.2.2.2.2.1
    haveI := gN.2.2.2.2.2.1
    haveI : NatV (K W N') v3 (p * (s' + 1)) := f3
    haveI : NatV (K W N') v7 (r * (q + 1)) := f7
    exact a_call (en_f rfl Try.call71) (bx3 (u := fun v => v) (add_spec (by omega) (by omega)) rfl) fun r w h => ⟨[r.L], [], (by show K W (bxO (s 16) [(b4, row 25 [.slice none 0 0, .slice none 0 0])] :: [(b3, row 25 [c, d])] :: [(b2, row 25 [a, b])] :: r.L :: N') w; rw [hz]; exact h), r.ok⟩
  · intro s N' gN h0 hn0
    show Acts _ _ _ (K W (bxO (s 16) [(b4, row 25 [.slice none 0 0, .slice none 0 0])] :: [(b3, row 25 [c, d])] :: [(b2, row 25 [a, b])] :: N')) _ _
    exact a_y (y_move rfl) fun w h => ⟨[], [], h, rfl⟩
  · intro s N' gN h0 hn0
    show Acts _ _ _ (K W (bxO (s 16) [(b4, row 25 [.slice none 0 0, .slice none 0 0])] :: [(b3, row 25 [c, d])] :: [(b2, row 25 [a, b])] :: N')) _ _
    exact a_y (y_move rfl) fun w h => ⟨[], [], h, rfl⟩
  · rintro s N' gN h0 hn0 v9 d9 e9 rfl v10 d10 e10 rfl
    show Acts _ _ _ (K W (bxO (s 16) [(b4, row 25 [.slice none 0 0, .slice none 0 0])] :: [(b3, row 25 [c, d])] :: [(b2, row 25 [a, b])] :: N')) _ _
    have hz : s 16 = none := hn0 16 rfl
    rw [hz]
    show Acts _ _ _ (K W ([(b4, row 25 [.slice none 0 0, .slice none 0 0])] :: [(b3, row 25 [c, d])] :: [(b2, row 25 [a, b])] :: N')) _ _
    haveI := gN.1
    haveI := gN.2.1
    haveI := gN.2.2.1
    haveI := gN.2.2.2.1
    haveI := gN.2.2.2.2.1
    haveI := gN.2.2.2.2.2.1
    exact a_call (en_f rfl Try.call63) (bx3 (u := fun v => v) (mul_spec _ (by omega) (by omega) (Nat.le_refl _)) rfl) fun r w h => ⟨[r.L], [], (by show K W (bxO (s 16) [(b4, row 25 [.slice none 0 0, .slice none 0 0])] :: [(b3, row 25 [c, d])] :: [(b2, row 25 [a, b])] :: r.L :: N') w; rw [hz]; exact h), r.ok⟩
  · rintro s N' gN h0 hn0 v8 d8 e8 f8 v11 d11 e11 f11
    show Acts _ _ _ (K W (bxO (s 16) [(b4, row 25 [.slice none 0 0, .slice none 0 0])] :: [(b3, row 25 [c, d])] :: [(b2, row 25 [a, b])] :: N')) _ _
    have hz : s 16 = none := hn0 16 rfl
    rw [hz]
    show Acts _ _ _ (K W ([(b4, row 25 [.slice none 0 0, .slice none 0 0])] :: [(b3, row 25 [c, d])] :: [(b2, row 25 [a, b])] :: N')) _ _
    haveI := gN.1
    haveI := gN.2.1
    haveI := gN.2.2.1
    haveI := gN.2.2.2.1
    haveI := gN.2.2.2.2.1
    haveI := gN.2.2.2.2.2.1
    haveI : NatV (K W N') v8 (p * (s' + 1) + r * (q + 1)) := f8
    haveI : NatV (K W N') v11 ((q + 1) * (s' + 1)) := f11
    exact a_call (en_f rfl Try.call70) (by3 (u2 := fun v w => .agg #[v, w]) (lowest' hX hY (by omega) (by omega) hD0) rfl) fun r w h => ⟨[r.L], [], (by show K W (bxO (s 16) [(b4, row 25 [.slice none 0 0, .slice none 0 0])] :: [(b3, row 25 [c, d])] :: [(b2, row 25 [a, b])] :: r.L :: N') w; rw [hz]; exact h), r.v1, r.v2, rfl, r.ok1, r.ok2⟩
  · rintro s N' gN h0 hn0 v12 d12 e12 ⟨u12, w12, rfl, m12, l12⟩
    show Acts _ _ _ (K W (bxO (s 16) [(b4, row 25 [.slice none 0 0, .slice none 0 0])] :: [(b3, row 25 [c, d])] :: [(b2, row 25 [a, b])] :: N')) _ _
    have hz : s 16 = none := hn0 16 rfl
    rw [hz]
    show Acts _ _ _ (K W ([(b4, row 25 [.slice none 0 0, .slice none 0 0])] :: [(b3, row 25 [c, d])] :: [(b2, row 25 [a, b])] :: N')) _ _
    haveI := gN.1
    haveI := gN.2.1
    haveI := gN.2.2.1
    haveI := gN.2.2.2.1
    haveI := gN.2.2.2.2.1
    haveI := gN.2.2.2.2.2.1
    haveI : NatV (K W N') u12 X := m12
    haveI : NatV (K W N') w12 Y := l12
    exact a_call (en_f rfl Try.call69) (by3 (u2 := fun v w => .tuple #[.agg #[v, w], .int .i64 (fcapE X Y)]) (within_spec hXw hYw) rfl) fun r w h => ⟨[r.L], [], (by show K W (bxO (s 16) [(b4, row 25 [.slice none 0 0, .slice none 0 0])] :: [(b3, row 25 [c, d])] :: [(b2, row 25 [a, b])] :: r.L :: N') w; rw [hz]; exact h), r.v1, r.v2, rfl, r.ok1, r.ok2⟩
  · rintro s N' gN h0 hn0 v13 d13 e13 ⟨u13, w13, rfl, m13, l13⟩
    show Acts _ _ _ (K W (bxO (s 16) [(b4, row 25 [.slice none 0 0, .slice none 0 0])] :: [(b3, row 25 [c, d])] :: [(b2, row 25 [a, b])] :: N')) _ _
    have hz : s 16 = none := hn0 16 rfl
    rw [hz]
    show Acts _ _ _ (K W ([(b4, row 25 [.slice none 0 0, .slice none 0 0])] :: [(b3, row 25 [c, d])] :: [(b2, row 25 [a, b])] :: N')) _ _
    exact a_y (y_extract rfl rfl) fun w h => ⟨[], [], (by show K W (bxO (s 16) [(b4, row 25 [.slice none 0 0, .slice none 0 0])] :: [(b3, row 25 [c, d])] :: [(b2, row 25 [a, b])] :: N') w; rw [hz]; exact h), u13, w13, rfl, m13, l13⟩
  · rintro s N' gN h0 hn0 v13 d13 e13 ⟨u13, w13, rfl, m13, l13⟩
    show Acts _ _ _ (K W (bxO (s 16) [(b4, row 25 [.slice none 0 0, .slice none 0 0])] :: [(b3, row 25 [c, d])] :: [(b2, row 25 [a, b])] :: N')) _ _
    exact a_y (y_extract rfl rfl) fun w h => ⟨[], [], h, rfl⟩
  · rintro s N' gN h0 hn0 v14 d14 e14 ⟨u14, w14, rfl, m14, l14⟩ v3 d3 e3 f3 v7 d7 e7 f7 v8 d8 e8 f8 v11 d11 e11 f11 v12 d12 e12 ⟨u12, w12, rfl, m12, l12⟩ v13 d13 e13 ⟨u13, w13, rfl, m13, l13⟩
    show Acts _ _ _ (K W (bxO (s 16) [(b4, row 25 [.slice none 0 0, .slice none 0 0])] :: [(b3, row 25 [c, d])] :: [(b2, row 25 [a, b])] :: N')) _ _
    have hz : s 16 = none := h0
    rw [hz]
    show Acts _ _ _ (K W ([(b4, row 25 [.slice none 0 0, .slice none 0 0])] :: [(b3, row 25 [c, d])] :: [(b2, row 25 [a, b])] :: N')) _ _
    haveI : NatV (K W N') u14 (fcap X Y X) := m14
    haveI : NatV (K W N') w14 (fcap X Y Y) := l14
    exact a_set (set_25 0 rfl rfl rfl rfl) fun w h => ⟨[], [(b4, row 25 [u14, w14])], h, u14, w14, rfl, m14, l14⟩
  · rintro s N' gN h0 hn0 v15 d15 e15 rfl
    show Acts _ _ _ (K W (bxO (s 16) [(b4, row 25 [.slice none 0 0, .slice none 0 0])] :: [(b3, row 25 [c, d])] :: [(b2, row 25 [a, b])] :: N')) _ _
    exact a_y (y_assign rfl) fun w h => ⟨[], [], h, rfl⟩
  · intro s N' gN hall v17 d17 e17 f17
    subst f17
    obtain ⟨v, z, u, w, hv, m, l⟩ := hall 16 (by decide)
    obtain ⟨_, _, _, _, _, _, M, hM⟩ := gN
    subst hM
    show Fin _ _ _ _ (K W (bxO (s 16) [(b4, row 25 [.slice none 0 0, .slice none 0 0])] :: [(b3, row 25 [c, d])] :: [(b2, row 25 [a, b])] :: (M ++ N)))
    rw [z]
    show Fin _ _ _ _ (K W (v.2 :: [(b3, row 25 [c, d])] :: [(b2, row 25 [a, b])] :: (M ++ N)))
    rw [← hv]
    refine f_then ?_
    refine c_ret ?_
    exact f_ret (Res2.of m l) (resA1 Try.tab rfl rfl rfl rfl rfl rfl (cells_row0 0 rfl rfl)) (fun w h => Res2.of_cls m l h.tail.tail.tail)
end Go.KL
end

section
/- Walks: Binomial. -/
namespace Go.KL
open Go.Proofs
/-- n over k. -/
def bino : Nat → Nat → Nat
  | _, 0 => 1
  | 0, _ + 1 => 0
  | n + 1, k + 1 => bino n k + bino n (k + 1)
theorem bino_out : ∀ {n k : Nat}, n < k → bino n k = 0
  | _, 0, h => by omega
  | 0, _ + 1, _ => rfl
  | n + 1, k + 1, h => by rw [bino, bino_out (by omega), bino_out (by omega)]
theorem bino_all : ∀ n, bino n n = 1
  | 0 => rfl
  | n + 1 => by rw [bino, bino_all n, bino_out (Nat.lt_succ_self n)]
theorem bino_succ : ∀ n k, bino (n + 1) (k + 1) * (k + 1) = bino n k * (n + 1)
  | 0, 0 => rfl
  | 0, k + 1 => by simp [bino]
  | n + 1, 0 => by
    have := bino_succ n 0
    simp only [bino] at *
    omega
  | n + 1, k + 1 => by
    have h1 := bino_succ n k
    have h2 := bino_succ n (k + 1)
    have e1 : bino (n + 1 + 1) (k + 1 + 1) = bino (n + 1) (k + 1) + bino (n + 1) (k + 1 + 1) := rfl
    have e2 : bino (n + 1) (k + 1) = bino n k + bino n (k + 1) := rfl
    rw [e1, Nat.add_mul]
    generalize bino (n + 1) (k + 1 + 1) = z at *
    rw [e2] at h1 ⊢
    generalize bino n k = x at *
    generalize bino n (k + 1) = y at *
    rw [h2]
    simp only [Nat.add_mul, Nat.mul_add, Nat.mul_one] at *
    omega
/-- The next of a row. -/
theorem bino_next {n k : Nat} (h : k < n) : bino n k * (n - k) = bino n (k + 1) * (k + 1) := by
  obtain ⟨m, rfl⟩ : ∃ m, n = m + 1 := ⟨n - 1, by omega⟩
  have h1 := bino_succ m k
  have e : bino (m + 1) (k + 1) = bino m k + bino m (k + 1) := rfl
  cases k with
  | zero =>
    simp only [bino, Nat.sub_zero, Nat.zero_add, Nat.mul_one, Nat.one_mul] at *
    omega
  | succ j =>
    have h2 := bino_succ m j
    have h3 : bino (m + 1) (j + 1) * (m + 1) = bino (m + 1) (j + 1) * (m + 1 - (j + 1)) + bino (m + 1) (j + 1) * (j + 1) := by rw [← Nat.mul_add]; congr 1; omega
    have e2 : bino (m + 1) (j + 1) = bino m j + bino m (j + 1) := rfl
    have h4 : bino (m + 1) (j + 1) * (m + 1) = bino m j * (m + 1) + bino m (j + 1) * (m + 1) := by rw [e2, Nat.add_mul]
    omega
theorem bino_sym : ∀ {n k : Nat}, k ≤ n → bino n (n - k) = bino n k
  | 0, k, h => by obtain rfl : k = 0 := by omega
                  rfl
  | n + 1, 0, _ => by rw [Nat.sub_zero, bino_all, bino]
  | n + 1, k + 1, h => by
    rcases Nat.lt_or_ge k n with h1 | h1
    · rw [show n + 1 - (k + 1) = (n - (k + 1)) + 1 by omega, bino, bino, bino_sym (show k + 1 ≤ n by omega), show n - (k + 1) + 1 = n - k by omega, bino_sym (show k ≤ n by omega), Nat.add_comm]
    · obtain rfl : k = n := by omega
      rw [Nat.sub_self, bino_all, bino]
theorem bino_le : ∀ n k, bino n k ≤ 2 ^ n
  | n, 0 => by rw [bino]; exact Nat.pow_pos (by decide)
  | 0, k + 1 => by rw [bino]; exact Nat.zero_le _
  | n + 1, k + 1 => by
    have h1 := bino_le n k
    have h2 := bino_le n (k + 1)
    rw [bino, Nat.pow_succ]
    omega
end Go.KL
end

section
/- Walks: Binomial. -/
namespace Go.KL
open Go.Proofs
theorem wl_bino {n i : Nat} (h : n ≤ 4096) : wl (bino n i) ≤ 129 := by
  obtain ⟨e, he⟩ : ∃ e, e = 129 * 32 := ⟨_, rfl⟩
  rw [wl_le, B_two, ← he]
  exact Nat.lt_of_le_of_lt (bino_le n i) (Nat.pow_lt_pow_right (by decide) (by omega))
attribute [local irreducible] SC St Fin Sq Ylds Doos Sets Enters Spec CellIs CellsAre Then Ret Rnd Chn resOK ints bools recs arr
set_option maxRecDepth 10000 in
set_option maxHeartbeats 8000000 in
theorem binomE_spec {W : World} {N : List Chunk} {x y : Int} (h : x < 0 ∨ 4096 < x ∨ y < 0) :
    Spec Try.prog 89 #[.int .i64 x, .int .i64 y] (K W N) (fun _ : Unit => .tuple #[.agg #[.slice none 0 0], .int .i64 2]) (fun _ => K W N) := by
  refine enter (args := [_, _]) Try.func89 rfl Try.ntmps89 rfl ?_
  by_cases h1 : x < 0
  · refine c_seq ?_
    refine c_region ?_
    refine s_do (do_alloc Try.tab rfl) rfl rfl rfl (fun b4 => ?_)
    refine s_y (y_assign rfl) rfl rfl rfl ?_
    refine s_nil ?_
    refine f_then ?_
    refine c_seq ?_
    refine c_seq ?_
    refine c_region ?_
    refine s_y (y_move rfl) rfl rfl rfl ?_
    refine s_y (y_T (y_lss rfl rfl) (by assumption)) rfl rfl rfl ?_
    refine s_y (y_move rfl) rfl rfl rfl ?_
    iterate 2 refine s_skip rfl rfl rfl ?_
    refine s_y (y_pickT rfl rfl) rfl rfl rfl ?_
    refine s_y (y_move rfl) rfl rfl rfl ?_
    iterate 2 refine s_skip rfl rfl rfl ?_
    refine s_y (y_pickT rfl rfl) rfl rfl rfl ?_
    refine s_nil ?_
    refine f_then ?_
    refine c_condT rfl ?_
    refine c_seq ?_
    refine c_region ?_
    refine s_y (y_build Try.tab rfl rfl rfl rfl rfl) rfl rfl rfl ?_
    refine s_set (set_71 0 rfl rfl rfl rfl) rfl rfl ?_
    refine s_y (y_assign rfl) rfl rfl rfl ?_
    refine s_nil ?_
    refine f_then ?_
    refine c_ret ?_
    refine f_thenR ?_
    exact f_ret () (resA1 Try.tab rfl rfl rfl rfl rfl rfl (cells_row0 0 rfl rfl)) (fun w h => h.tail)
  · by_cases h2 : 4096 < x
    · refine c_seq ?_
      refine c_region ?_
      refine s_do (do_alloc Try.tab rfl) rfl rfl rfl (fun b4 => ?_)
      refine s_y (y_assign rfl) rfl rfl rfl ?_
      refine s_nil ?_
      refine f_then ?_
      refine c_seq ?_
      refine c_seq ?_
      refine c_region ?_
      refine s_y (y_move rfl) rfl rfl rfl ?_
      refine s_y (y_F (y_lss rfl rfl) (by assumption)) rfl rfl rfl ?_
      refine s_y (y_move rfl) rfl rfl rfl ?_
      refine s_y (y_move rfl) rfl rfl rfl ?_
      refine s_y (y_T (y_gtr rfl rfl) (by assumption)) rfl rfl rfl ?_
      refine s_y (y_pickF rfl rfl) rfl rfl rfl ?_
      refine s_y (y_move rfl) rfl rfl rfl ?_
      iterate 2 refine s_skip rfl rfl rfl ?_
      refine s_y (y_pickT rfl rfl) rfl rfl rfl ?_
      refine s_nil ?_
      refine f_then ?_
      refine c_condT rfl ?_
      refine c_seq ?_
      refine c_region ?_
      refine s_y (y_build Try.tab rfl rfl rfl rfl rfl) rfl rfl rfl ?_
      refine s_set (set_71 0 rfl rfl rfl rfl) rfl rfl ?_
      refine s_y (y_assign rfl) rfl rfl rfl ?_
      refine s_nil ?_
      refine f_then ?_
      refine c_ret ?_
      refine f_thenR ?_
      exact f_ret () (resA1 Try.tab rfl rfl rfl rfl rfl rfl (cells_row0 0 rfl rfl)) (fun w h => h.tail)
    · have h3 : y < 0 := by omega
      refine c_seq ?_
      refine c_region ?_
      refine s_do (do_alloc Try.tab rfl) rfl rfl rfl (fun b4 => ?_)
      refine s_y (y_assign rfl) rfl rfl rfl ?_
      refine s_nil ?_
      refine f_then ?_
      refine c_seq ?_
      refine c_seq ?_
      refine c_region ?_
      refine s_y (y_move rfl) rfl rfl rfl ?_
      refine s_y (y_F (y_lss rfl rfl) (by assumption)) rfl rfl rfl ?_
      refine s_y (y_move rfl) rfl rfl rfl ?_
      refine s_y (y_move rfl) rfl rfl rfl ?_
      refine s_y (y_F (y_gtr rfl rfl) (by assumption)) rfl rfl rfl ?_
      refine s_y (y_pickF rfl rfl) rfl rfl rfl ?_
      refine s_y (y_move rfl) rfl rfl rfl ?_
      refine s_y (y_move rfl) rfl rfl rfl ?_
      refine s_y (y_T (y_lss rfl rfl) (by assumption)) rfl rfl rfl ?_
      refine s_y (y_pickF rfl rfl) rfl rfl rfl ?_
      refine s_nil ?_
      refine f_then ?_
      refine c_condT rfl ?_
      refine c_seq ?_
      refine c_region ?_
      refine s_y (y_build Try.tab rfl rfl rfl rfl rfl) rfl rfl rfl ?_
      refine s_set (set_71 0 rfl rfl rfl rfl) rfl rfl ?_
      refine s_y (y_assign rfl) rfl rfl rfl ?_
      refine s_nil ?_
      refine f_then ?_
      refine c_ret ?_
      refine f_thenR ?_
      exact f_ret () (resA1 Try.tab rfl rfl rfl rfl rfl rfl (cells_row0 0 rfl rfl)) (fun w h => h.tail)
set_option maxRecDepth 10000 in
set_option maxHeartbeats 8000000 in
theorem binom_spec {W : World} {N : List Chunk} {n k : Nat} (hn : n ≤ 4096) (hk : k < 9223372036854775808) :
    Spec Try.prog 89 #[.int .i64 (n : Int), .int .i64 (k : Int)] (K W N) (X := Res W N (bino n k)) (fun r => .tuple #[.agg #[r.v], .int .i64 0]) (fun r => K W (r.L :: N)) := by
  refine enter (args := [_, _]) Try.func89 rfl Try.ntmps89 rfl ?_
  by_cases hkn : n < k
  · have k1 : NatV (K W ([[]] ++ N)) (.slice none 0 0) (bino n k) := NatV.nilI.of (bino_out hkn).symm
    refine c_seq ?_
    refine c_region ?_
    refine s_do (do_alloc Try.tab rfl) rfl rfl rfl (fun b4 => ?_)
    refine s_y (y_assign rfl) rfl rfl rfl ?_
    refine s_nil ?_
    refine f_then ?_
    refine c_seq ?_
    refine c_seq ?_
    refine c_region ?_
    refine s_y (y_move rfl) rfl rfl rfl ?_
    refine s_y (y_F (y_lss rfl rfl) (by omega)) rfl rfl rfl ?_
    refine s_y (y_move rfl) rfl rfl rfl ?_
    refine s_y (y_move rfl) rfl rfl rfl ?_
    refine s_y (y_F (y_gtr rfl rfl) (by omega)) rfl rfl rfl ?_
    refine s_y (y_pickF rfl rfl) rfl rfl rfl ?_
    refine s_y (y_move rfl) rfl rfl rfl ?_
    refine s_y (y_move rfl) rfl rfl rfl ?_
    refine s_y (y_F (y_lss rfl rfl) (by omega)) rfl rfl rfl ?_
    refine s_y (y_pickF rfl rfl) rfl rfl rfl ?_
    refine s_nil ?_
    refine f_then ?_
    refine c_condF rfl ?_
    refine c_skip ?_
    refine f_then ?_
    refine c_seq ?_
    refine c_seq ?_
    refine c_region ?_
    refine s_y (y_move rfl) rfl rfl rfl ?_
    refine s_y (y_move rfl) rfl rfl rfl ?_
    refine s_y (y_T (y_gtr rfl rfl) (by omega)) rfl rfl rfl ?_
    refine s_nil ?_
    refine f_then ?_
    refine c_condT rfl ?_
    refine c_seq ?_
    refine c_region ?_
    refine s_y (y_build Try.tab rfl rfl rfl rfl rfl) rfl rfl rfl ?_
    refine s_set (set_71 0 rfl rfl rfl rfl) rfl rfl ?_
    refine s_y (y_assign rfl) rfl rfl rfl ?_
    refine s_nil ?_
    refine f_then ?_
    refine c_ret ?_
    refine f_thenR ?_
    exact f_ret (Res.of k1) (resA1 Try.tab rfl rfl rfl rfl rfl rfl (cells_row0 0 rfl rfl)) (fun w h => Res.of_cls k1 h.tail.addNil)
  obtain ⟨m, hm⟩ : ∃ m, m = min k (n - k) := ⟨_, rfl⟩
  have hmI : min (k : Int) ((n : Int) - (k : Int)) = (m : Int) := by omega
  have hres : bino n m = bino n k := by
    rcases Nat.lt_or_ge k (n - k) with h | h
    · rw [show m = k by omega]
    · rw [show m = n - k by omega]
      exact bino_sym (by omega)
  refine c_seq ?_
  refine c_region ?_
  refine s_do (do_alloc Try.tab rfl) rfl rfl rfl (fun b4 => ?_)
  refine s_y (y_assign rfl) rfl rfl rfl ?_
  refine s_nil ?_
  refine f_then ?_
  refine c_seq ?_
  refine c_seq ?_
  refine c_region ?_
  refine s_y (y_move rfl) rfl rfl rfl ?_
  refine s_y (y_F (y_lss rfl rfl) (by omega)) rfl rfl rfl ?_
  refine s_y (y_move rfl) rfl rfl rfl ?_
  refine s_y (y_move rfl) rfl rfl rfl ?_
  refine s_y (y_F (y_gtr rfl rfl) (by omega)) rfl rfl rfl ?_
  refine s_y (y_pickF rfl rfl) rfl rfl rfl ?_
  refine s_y (y_move rfl) rfl rfl rfl ?_
  refine s_y (y_move rfl) rfl rfl rfl ?_
  refine s_y (y_F (y_lss rfl rfl) (by omega)) rfl rfl rfl ?_
  refine s_y (y_pickF rfl rfl) rfl rfl rfl ?_
  refine s_nil ?_
  refine f_then ?_
  refine c_condF rfl ?_
  refine c_skip ?_
  refine f_then ?_
  refine c_seq ?_
  refine c_seq ?_
  refine c_region ?_
  refine s_y (y_move rfl) rfl rfl rfl ?_
  refine s_y (y_move rfl) rfl rfl rfl ?_
  refine s_y (y_F (y_gtr rfl rfl) (by omega)) rfl rfl rfl ?_
  refine s_nil ?_
  refine f_then ?_
  refine c_condF rfl ?_
  refine c_skip ?_
  refine f_then ?_
  refine c_seq ?_
  refine c_region ?_
  refine s_call (en_f rfl Try.call104) (bx1 (u := fun v => v) words1 rfl) rfl rfl rfl (fun r1 => ?_)
  refine s_y (y_assign rfl) rfl rfl rfl ?_
  refine s_nil ?_
  refine f_then ?_
  refine c_seq ?_
  refine c_seq ?_
  refine c_region ?_
  refine s_y (y_move rfl) rfl rfl rfl ?_
  refine s_y (y_move rfl) rfl rfl rfl ?_
  refine s_y (y_move rfl) rfl rfl rfl ?_
  refine s_y (y_sub rfl rfl (by omega)) rfl rfl rfl ?_
  refine s_y (y_min rfl rfl) rfl rfl rfl ?_
  refine s_y (y_move rfl) rfl rfl rfl ?_
  refine s_nil ?_
  refine f_then ?_
  refine c_block ?_
  rw [hmI]
  skip
  refine c_loopP (α := Nat × List Chunk × Value) (fun z => [(0, .int .i64 n), (4, .pointer (some ⟨b4, 0, none⟩)), (5, .int .i64 0), (6, z.2.2), (28, .int .i64 m), (29, .int .i64 z.1)])
    (fun z => z.1 ≤ m ∧ NatV (K W (z.2.1 ++ N)) z.2.2 (bino n z.1)) (fun z => K W ([(b4, row 71 [.slice none 0 0])] :: (z.2.1 ++ N))) (fun z => m - z.1) (0, [r1.L], r1.v)
    ⟨rfl, rfl, rfl, rfl, rfl, rfl, trivial⟩ ⟨Nat.zero_le _, r1.ok.of (by dsimp only; cases n <;> rfl)⟩ (fun w h => h) ?_
  rintro ⟨i, M, v⟩ ⟨hi, hv⟩
  dsimp only at hi hv ⊢
  refine c_seq ?_
  refine c_region ?_
  refine s_y (y_lss rfl rfl) rfl rfl rfl ?_
  refine s_nil ?_
  refine f_then ?_
  refine c_seq ?_
  refine c_condD rfl (fun hlt => ?_) (fun hge => ?_)
  · have him : i < m := by omega
    have hni : ((n : Int) - (i : Int)) = ((n - i : Nat) : Int) := by omega
    have hbn : bino n i * (n - i) / (i + 1) = bino n (i + 1) := by rw [bino_next (by omega), Nat.mul_div_cancel _ (Nat.succ_pos i)]
    have hwb := wl_bino (i := i) hn
    refine c_skip ?_
    refine f_then ?_
    refine c_seq ?_
    refine c_block ?_
    refine c_seq ?_
    refine c_region ?_
    refine s_y (y_move rfl) rfl rfl rfl ?_
    refine s_y (y_assign rfl) rfl rfl rfl ?_
    refine s_nil ?_
    refine f_then ?_
    refine c_seq ?_
    refine c_region ?_
    refine s_y (y_move rfl) rfl rfl rfl ?_
    refine s_y (y_move rfl) rfl rfl rfl ?_
    refine s_y (y_move rfl) rfl rfl rfl ?_
    refine s_y (y_sub rfl rfl (by omega)) rfl rfl rfl ?_
    refine s_y (y_to64 Try.tab rfl rfl rfl (by omega)) rfl rfl rfl ?_
    rw [hni]
    skip
    refine s_call (en_f rfl Try.call104) (bx1 (u := fun v => v) (words_spec (x := n - i) (by omega)) rfl) rfl rfl rfl (fun r2 => ?_)
    skip
    have hwn : wl (n - i) ≤ 2 := bitw (by omega)
    refine s_call (en_f rfl Try.call63) (bx1 (u := fun v => v) (mul_spec _ (by omega) (by omega) (Nat.le_refl _)) rfl) rfl rfl rfl (fun r3 => ?_)
    refine s_y (y_assign rfl) rfl rfl rfl ?_
    refine s_nil ?_
    refine f_then ?_
    refine c_region ?_
    refine s_y (y_move rfl) rfl rfl rfl ?_
    refine s_y (y_move rfl) rfl rfl rfl ?_
    refine s_y (y_add rfl rfl (by omega)) rfl rfl rfl ?_
    refine s_y (y_to32 Try.tab rfl rfl rfl) rfl rfl rfl ?_
    have hwp : wl (bino n i * (n - i)) ≤ 1000 := Nat.le_trans (wl_mul hwb hwn) (by omega)
    have hi1 : ((i : Int) + 1) % 4294967296 = ((i + 1 : Nat) : Int) := by omega
    rw [hi1]
    refine s_call (en_f rfl Try.call105) (bx1 (u := fun v => .tuple #[v, .int .u32 ((bino n i * (n - i) % (i + 1) : Nat) : Int)]) (divWord_spec (by omega) (by omega) (by omega)) rfl) rfl rfl rfl (fun r4 => ?_)
    refine s_y (y_move rfl) rfl rfl rfl ?_
    refine s_y (y_extract rfl rfl) rfl rfl rfl ?_
    refine s_y (y_extract rfl rfl) rfl rfl rfl ?_
    refine s_y (y_assign rfl) rfl rfl rfl ?_
    refine s_nil ?_
    refine f_blockN ?_
    refine f_then ?_
    refine c_region ?_
    refine s_y (y_add rfl rfl (by omega)) rfl rfl rfl ?_
    refine s_y (y_move rfl) rfl rfl rfl ?_
    refine s_nil ?_
    refine f_roundP (i + 1, r4.L :: r3.L :: r2.L :: M, r4.v) ⟨him, r4.ok.of hbn⟩ (by dsimp only; omega) ⟨rfl, rfl, rfl, rfl, rfl, congrArg (fun z => some (Value.int .i64 z)) (by dsimp only; omega), trivial⟩ (fun w h => h)
  · obtain rfl : i = m := by omega
    rw [hres] at hv
    refine c_exit ?_
    refine f_thenE ?_
    refine f_rndE ?_
    refine f_blockE ?_
    refine f_then ?_
    refine c_seq ?_
    refine c_region ?_
    refine s_y (y_move rfl) rfl rfl rfl ?_
    refine s_y (y_build71 rfl) rfl rfl rfl ?_
    refine s_set (set_71 0 rfl rfl rfl rfl) rfl rfl ?_
    refine s_y (y_assign rfl) rfl rfl rfl ?_
    refine s_nil ?_
    refine f_then ?_
    refine c_ret ?_
    exact f_ret (Res.of hv) (resA1 Try.tab rfl rfl rfl rfl rfl rfl (cells_row0 0 rfl rfl)) (fun w h => Res.of_cls hv h.tail)
end Go.KL
end

section
/- Walks: small functions of the samples. -/
namespace Go.KL
open Go.Proofs
attribute [local irreducible] SC St Fin Sq Ylds Doos Sets Enters Spec CellIs CellsAre Then Ret Rnd Chn resOK ints bools recs arr
theorem inside_spec {C : World → Prop} {x lo hi : Int} : Spec Try.prog 49 #[.int .i64 x, .int .i64 lo, .int .i64 hi] C (fun _ : Unit => .bool (decide (lo ≤ x ∧ x ≤ hi))) (fun _ => C) := by
  refine enter (args := [_, _, _]) Try.func49 rfl Try.ntmps49 rfl ?_
  by_cases h : lo ≤ x
  · have e : decide (lo ≤ x ∧ x ≤ hi) = decide (x ≤ hi) := by simp [h]
    rw [e]
    refine c_seq ?_
    refine c_region ?_
    refine s_y (y_assign rfl) rfl rfl rfl ?_
    refine s_nil ?_
    refine f_then ?_
    refine c_seq ?_
    refine c_region ?_
    refine s_y (y_move rfl) rfl rfl rfl ?_
    refine s_y (y_move rfl) rfl rfl rfl ?_
    refine s_y (y_T (y_geq rfl rfl) (by assumption)) rfl rfl rfl ?_
    refine s_y (y_move rfl) rfl rfl rfl ?_
    refine s_y (y_move rfl) rfl rfl rfl ?_
    refine s_y (y_move rfl) rfl rfl rfl ?_
    refine s_y (y_leq rfl rfl) rfl rfl rfl ?_
    refine s_y (y_pickT rfl rfl) rfl rfl rfl ?_
    refine s_y (y_assign rfl) rfl rfl rfl ?_
    refine s_nil ?_
    refine f_then ?_
    refine c_ret ?_
    exact f_ret () (res1 rfl rfl) (fun w h => h)
  · have e : decide (lo ≤ x ∧ x ≤ hi) = false := by simp [h]
    rw [e]
    refine c_seq ?_
    refine c_region ?_
    refine s_y (y_assign rfl) rfl rfl rfl ?_
    refine s_nil ?_
    refine f_then ?_
    refine c_seq ?_
    refine c_region ?_
    refine s_y (y_move rfl) rfl rfl rfl ?_
    refine s_y (y_move rfl) rfl rfl rfl ?_
    refine s_y (y_F (y_geq rfl rfl) (by assumption)) rfl rfl rfl ?_
    refine s_y (y_move rfl) rfl rfl rfl ?_
    iterate 3 refine s_skip rfl rfl rfl ?_
    refine s_y (y_pickF rfl rfl) rfl rfl rfl ?_
    refine s_y (y_assign rfl) rfl rfl rfl ?_
    refine s_nil ?_
    refine f_then ?_
    refine c_ret ?_
    exact f_ret () (res1 rfl rfl) (fun w h => h)
set_option maxRecDepth 10000 in
set_option maxHeartbeats 8000000 in
theorem whole_spec {W : World} {N : List Chunk} {x : Nat} (h1 : x < 9223372036854775808) :
    Spec Try.prog 98 #[.int .i64 (x : Int)] (K W N) (X := Res W N x) (fun r => .agg #[r.v]) (fun r => K W (r.L :: N)) := by
  refine enter (args := [_]) Try.func98 rfl Try.ntmps98 rfl ?_
  refine c_seq ?_
  refine c_region ?_
  refine s_do (do_alloc Try.tab rfl) rfl rfl rfl (fun b2 => ?_)
  refine s_nil ?_
  refine f_then ?_
  refine c_seq ?_
  refine c_region ?_
  refine s_y (y_move rfl) rfl rfl rfl ?_
  refine s_call (en_f rfl Try.call65) (bx1 (u := fun v => .tuple #[.agg #[v], .int .i64 0]) (new_spec (by omega) (by omega)) rfl) rfl rfl rfl (fun r1 => ?_)
  refine s_y (y_move rfl) rfl rfl rfl ?_
  refine s_y (y_extract rfl rfl) rfl rfl rfl ?_
  refine s_y (y_extract rfl rfl) rfl rfl rfl ?_
  refine s_do (do_alloc Try.tab rfl) rfl rfl rfl (fun b3 => ?_)
  refine s_set (set_71 0 rfl rfl rfl rfl) rfl rfl ?_
  refine s_y (y_assign rfl) rfl rfl rfl ?_
  refine s_nil ?_
  refine f_then ?_
  refine c_seq ?_
  refine c_region ?_
  refine s_y (y_loadA Try.tab rfl rfl rfl rfl (cells_row0 0 rfl rfl)) rfl rfl rfl ?_
  refine s_set (set_71 1 rfl rfl rfl rfl) rfl rfl ?_
  refine s_nil ?_
  refine f_then ?_
  refine c_ret ?_
  have k : NatV (K W ([r1.L] ++ N)) r1.v x := r1.ok.of (by omega)
  exact f_ret (Res.of k) (resA Try.tab rfl rfl rfl rfl rfl (cells_row0 1 rfl rfl)) (fun w h => Res.of_cls k h.tail.tail)
set_option maxRecDepth 10000 in
set_option maxHeartbeats 8000000 in
theorem samples_spec {W : World} {N : List Chunk} {n k : Nat} (hn : n ≤ 4096) (hk : k < 9223372036854775808) :
    Spec Try.prog 52 #[.int .i64 (n : Int), .int .i64 (k : Int)] (K W N) (X := Res W N (bino n k)) (fun r => .agg #[r.v]) (fun r => K W (r.L :: N)) := by
  refine enter (args := [_, _]) Try.func52 rfl Try.ntmps52 rfl ?_
  refine c_seq ?_
  refine c_region ?_
  refine s_do (do_alloc Try.tab rfl) rfl rfl rfl (fun b4 => ?_)
  refine s_nil ?_
  refine f_then ?_
  refine c_seq ?_
  refine c_region ?_
  refine s_y (y_move rfl) rfl rfl rfl ?_
  refine s_y (y_move rfl) rfl rfl rfl ?_
  refine s_call (en_f rfl Try.call89) (bx1 (u := fun v => .tuple #[.agg #[v], .int .i64 0]) (binom_spec hn hk) rfl) rfl rfl rfl (fun r1 => ?_)
  refine s_y (y_move rfl) rfl rfl rfl ?_
  refine s_y (y_extract rfl rfl) rfl rfl rfl ?_
  refine s_y (y_extract rfl rfl) rfl rfl rfl ?_
  refine s_do (do_alloc Try.tab rfl) rfl rfl rfl (fun b5 => ?_)
  refine s_set (set_71 0 rfl rfl rfl rfl) rfl rfl ?_
  refine s_y (y_assign rfl) rfl rfl rfl ?_
  refine s_nil ?_
  refine f_then ?_
  refine c_seq ?_
  refine c_region ?_
  refine s_y (y_loadA Try.tab rfl rfl rfl rfl (cells_row0 0 rfl rfl)) rfl rfl rfl ?_
  refine s_set (set_71 1 rfl rfl rfl rfl) rfl rfl ?_
  refine s_nil ?_
  refine f_then ?_
  refine c_ret ?_
  have k : NatV (K W ([r1.L] ++ N)) r1.v (bino n k) := r1.ok
  exact f_ret (Res.of k) (resA Try.tab rfl rfl rfl rfl rfl (cells_row0 1 rfl rfl)) (fun w h => Res.of_cls k h.tail.tail)
end Go.KL
end

section
/- Rows of truths: views. No program in sight. -/
namespace Go.KL
/-- Truths in memory. -/
class BoolV (C : World → Prop) (v : Value) (n : outParam Nat) (f : outParam (Nat → Bool)) : Prop where
  ok : SlB C v n f
  cap : n ≤ 9223372036854775807
theorem BoolV.cls {C D : World → Prop} {v : Value} {n : Nat} {f : Nat → Bool} (h : BoolV C v n f) (hC : ∀ w, D w → C w) : BoolV D v n f := ⟨h.ok.cls hC, h.cap⟩
section
variable {P : Program} {W : World} {Ls : List Chunk} {m : Nat} {σ : Slots} {C : World → Prop} {v : Value} {n : Nat} {f : Nat → Bool} {dst : Option Tmp} {ty : TypeId} {pos : String} {after : Array Edge} {guard : Option (Nat × Bool)}
instance BoolV.cons {c : Chunk} [h : BoolV (K W Ls) v n f] : BoolV (K W (c :: Ls)) v n f := h.cls fun _ h => h.tail
theorem y_lenB (T : Tab P) {x : Operand} {t e : TypeId} (hx : ev σ x = some v) (ht : T.und t = some (.slice e)) [h : BoolV C v n f] :
    Ylds P m σ C ⟨dst, .call ⟨.builtin .len, #[x], #[t]⟩, ty, pos, after, guard⟩ (.int .i64 n) := by
  obtain ⟨pa, c, h1, _⟩ := h.ok
  subst h1
  exact y_len T hx ht
theorem y_ixB (T : Tab P) {x i : Operand} {t e : TypeId} {k : IntKind} {z : Int} (hx : ev σ x = some v) (hi : ev σ i = some (.int k z)) (ht : T.und t = some (.slice e)) (hs : T.size e = some 1) [h : BoolV C v n f] (j : Nat) (hj : z = (j : Int)) (hlt : j < n) :
    Ylds P m σ C ⟨dst, .indexAddr t x i, ty, pos, after, guard⟩ (.pointer (some ⟨blk v, off v + j, none⟩)) := by
  obtain ⟨pa, c, h1, _, h4⟩ := h.ok.open1
  obtain ⟨b, o, h5, _⟩ := h4 (by omega)
  subst h5
  subst h1
  have := y_indexAddr (n := m) (C := C) (dst := dst) (ty := ty) (pos := pos) (after := after) (guard := guard) T hx hi ht hs j hj hlt
  rwa [Nat.mul_one] at this
theorem cell_B [h : BoolV C v n f] {j : Nat} (hj : j < n) : CellIs C ⟨blk v, off v + j, none⟩ (.bool (f j)) := by
  obtain ⟨pa, c, h1, _, h4⟩ := h.ok.open1
  obtain ⟨b, o, h5, h6⟩ := h4 (by omega)
  subst h5
  subst h1
  exact h6 j hj
theorem y_ldB (T : Tab P) {x : Operand} {t : TypeId} {j : Nat} (hx : ev σ x = some (.pointer (some ⟨blk v, off v + j, none⟩))) (ha : T.agg t = some false) [h : BoolV C v n f] (hj : j < n) :
    Ylds P m σ C ⟨dst, .load t x, ty, pos, after, guard⟩ (.bool (f j)) := y_load T hx ha (cell_B hj)
end
/-- How many of the first k hold. -/
def nb (f : Nat → Bool) : Nat → Nat
  | 0 => 0
  | k + 1 => nb f k + (if f k then 1 else 0)
theorem nb_le (f : Nat → Bool) : ∀ k, nb f k ≤ k
  | 0 => Nat.le_refl _
  | k + 1 => by
    have := nb_le f k
    unfold nb
    split <;> omega
/-- An inspection, d pieces being left. -/
def jud (n c : Int) (f : Nat → Bool) : Nat → Nat → Nat × Nat
  | 0, k => if n - c ≤ (k : Int) - (nb f k : Int) then (1, k) else if c < (nb f k : Int) then (2, k) else (0, k)
  | d + 1, k => if n - c ≤ (k : Int) - (nb f k : Int) then (1, k) else if c < (nb f k : Int) then (2, k) else jud n c f d (k + 1)
end Go.KL
end

section
/- Walks: Judge. -/
namespace Go.KL
open Go.Proofs
attribute [local irreducible] SC St Fin Sq Ylds Doos Sets Enters Spec CellIs CellsAre Then Ret Rnd Chn resOK ints bools recs arr
theorem judgeE_spec {C : World → Prop} {v : Value} {n c : Int} (h : n < 0 ∨ c < 0) :
    Spec Try.prog 28 #[.int .i64 n, .int .i64 c, v] C (fun _ : Unit => .tuple #[.int .i64 0, .int .i64 0, .int .i64 2]) (fun _ => C) := by
  refine enter (args := [_, _, _]) Try.func28 rfl Try.ntmps28 rfl ?_
  by_cases h1 : n < 0
  · refine c_seq ?_
    refine c_region ?_
    refine s_y (y_assign rfl) rfl rfl rfl ?_
    refine s_y (y_assign rfl) rfl rfl rfl ?_
    refine s_y (y_assign rfl) rfl rfl rfl ?_
    refine s_nil ?_
    refine f_then ?_
    refine c_seq ?_
    refine c_seq ?_
    refine c_region ?_
    refine s_y (y_move rfl) rfl rfl rfl ?_
    refine s_y (y_T (y_lss rfl rfl) (by assumption)) rfl rfl rfl ?_
    refine s_y (y_move rfl) rfl rfl rfl ?_
    iterate 2 refine s_skip rfl rfl rfl ?_
    refine s_y (y_pickT rfl rfl) rfl rfl rfl ?_
    refine s_nil ?_
    refine f_then ?_
    refine c_condT rfl ?_
    refine c_seq ?_
    refine c_region ?_
    refine s_y (y_assign rfl) rfl rfl rfl ?_
    refine s_y (y_assign rfl) rfl rfl rfl ?_
    refine s_y (y_assign rfl) rfl rfl rfl ?_
    refine s_nil ?_
    refine f_then ?_
    refine c_ret ?_
    refine f_thenR ?_
    exact f_ret () (res3 rfl rfl rfl rfl) (fun w h => h)
  · have h2 : c < 0 := by omega
    refine c_seq ?_
    refine c_region ?_
    refine s_y (y_assign rfl) rfl rfl rfl ?_
    refine s_y (y_assign rfl) rfl rfl rfl ?_
    refine s_y (y_assign rfl) rfl rfl rfl ?_
    refine s_nil ?_
    refine f_then ?_
    refine c_seq ?_
    refine c_seq ?_
    refine c_region ?_
    refine s_y (y_move rfl) rfl rfl rfl ?_
    refine s_y (y_F (y_lss rfl rfl) (by assumption)) rfl rfl rfl ?_
    refine s_y (y_move rfl) rfl rfl rfl ?_
    refine s_y (y_move rfl) rfl rfl rfl ?_
    refine s_y (y_T (y_lss rfl rfl) (by assumption)) rfl rfl rfl ?_
    refine s_y (y_pickF rfl rfl) rfl rfl rfl ?_
    refine s_nil ?_
    refine f_then ?_
    refine c_condT rfl ?_
    refine c_seq ?_
    refine c_region ?_
    refine s_y (y_assign rfl) rfl rfl rfl ?_
    refine s_y (y_assign rfl) rfl rfl rfl ?_
    refine s_y (y_assign rfl) rfl rfl rfl ?_
    refine s_nil ?_
    refine f_then ?_
    refine c_ret ?_
    refine f_thenR ?_
    exact f_ret () (res3 rfl rfl rfl rfl) (fun w h => h)
set_option maxRecDepth 10000 in
set_option maxHeartbeats 8000000 in
theorem judge_spec {C : World → Prop} {v : Value} {n c : Int} {len : Nat} {f : Nat → Bool} [hv : BoolV C v len f] (hn : 0 ≤ n) (hc : 0 ≤ c) (hn2 : n < 9223372036854775808) (hc2 : c < 9223372036854775808) :
    Spec Try.prog 28 #[.int .i64 n, .int .i64 c, v] C (fun _ : Unit => .tuple #[.int .i64 ((jud n c f len 0).1 : Nat), .int .i64 ((jud n c f len 0).2 : Nat), .int .i64 0]) (fun _ => C) := by
  have hcap := hv.cap
  refine enter (args := [_, _, _]) Try.func28 rfl Try.ntmps28 rfl ?_
  refine c_seq ?_
  refine c_region ?_
  refine s_y (y_assign rfl) rfl rfl rfl ?_
  refine s_y (y_assign rfl) rfl rfl rfl ?_
  refine s_y (y_assign rfl) rfl rfl rfl ?_
  refine s_nil ?_
  refine f_then ?_
  refine c_seq ?_
  refine c_seq ?_
  refine c_region ?_
  refine s_y (y_move rfl) rfl rfl rfl ?_
  refine s_y (y_F (y_lss rfl rfl) (by omega)) rfl rfl rfl ?_
  refine s_y (y_move rfl) rfl rfl rfl ?_
  refine s_y (y_move rfl) rfl rfl rfl ?_
  refine s_y (y_F (y_lss rfl rfl) (by omega)) rfl rfl rfl ?_
  refine s_y (y_pickF rfl rfl) rfl rfl rfl ?_
  refine s_nil ?_
  refine f_then ?_
  refine c_condF rfl ?_
  refine c_skip ?_
  refine f_then ?_
  refine c_seq ?_
  refine c_region ?_
  refine s_y (y_assign rfl) rfl rfl rfl ?_
  refine s_y (y_assign rfl) rfl rfl rfl ?_
  refine s_nil ?_
  refine f_then ?_
  refine c_block ?_
  refine c_loopP (α := Nat × Nat) (fun z => [(0, .int .i64 n), (1, .int .i64 c), (2, v), (9, .int .i64 ((z.2 : Int) - (nb f z.2 : Int))), (10, .int .i64 (nb f z.2))])
    (fun z => z.1 + z.2 = len ∧ jud n c f z.1 z.2 = jud n c f len 0) (fun _ => C) (fun z => z.1) (len, 0)
    ⟨rfl, rfl, rfl, rfl, rfl, trivial⟩ ⟨rfl, rfl⟩ (fun w h => h) ?_
  rintro ⟨d, k⟩ ⟨hk, hj⟩
  dsimp only at hk hj ⊢
  rw [← hj]
  have hnb := nb_le f k
  have e : (k : Int) - (nb f k : Int) + (nb f k : Int) = (k : Int) := by omega
  by_cases h1 : n - c ≤ (k : Int) - (nb f k : Int)
  · have hr : jud n c f d k = (1, k) := by cases d <;> (unfold jud; rw [if_pos h1])
    rw [hr]
    refine c_block ?_
    refine c_seq ?_
    refine c_region ?_
    refine s_y (y_move rfl) rfl rfl rfl ?_
    refine s_y (y_move rfl) rfl rfl rfl ?_
    refine s_y (y_add rfl rfl (by omega)) rfl rfl rfl ?_
    refine s_y (y_assign rfl) rfl rfl rfl ?_
    refine s_nil ?_
    refine f_then ?_
    refine c_block ?_
    refine c_seq ?_
    refine c_region ?_
    refine s_y (y_move rfl) rfl rfl rfl ?_
    refine s_y (y_move rfl) rfl rfl rfl ?_
    refine s_y (y_move rfl) rfl rfl rfl ?_
    refine s_y (y_sub rfl rfl (by omega)) rfl rfl rfl ?_
    refine s_y (y_T (y_geq rfl rfl) (by assumption)) rfl rfl rfl ?_
    refine s_y (y_assign rfl) rfl rfl rfl ?_
    refine s_nil ?_
    refine f_then ?_
    refine c_condT rfl ?_
    refine c_seq ?_
    refine c_region ?_
    refine s_y (y_move rfl) rfl rfl rfl ?_
    refine s_y (y_assign rfl) rfl rfl rfl ?_
    refine s_y (y_assign rfl) rfl rfl rfl ?_
    refine s_y (y_assign rfl) rfl rfl rfl ?_
    refine s_nil ?_
    refine f_then ?_
    refine c_ret ?_
    refine f_blockR ?_
    refine f_blockR ?_
    refine f_rndR ?_
    refine f_blockR ?_
    exact f_retE () (res3 rfl rfl rfl rfl) (by rw [e]; rfl) (fun w h => h)
  by_cases h2 : c < (nb f k : Int)
  · have hr : jud n c f d k = (2, k) := by cases d <;> (unfold jud; rw [if_neg h1, if_pos h2])
    rw [hr]
    refine c_block ?_
    refine c_seq ?_
    refine c_region ?_
    refine s_y (y_move rfl) rfl rfl rfl ?_
    refine s_y (y_move rfl) rfl rfl rfl ?_
    refine s_y (y_add rfl rfl (by omega)) rfl rfl rfl ?_
    refine s_y (y_assign rfl) rfl rfl rfl ?_
    refine s_nil ?_
    refine f_then ?_
    refine c_block ?_
    refine c_seq ?_
    refine c_region ?_
    refine s_y (y_move rfl) rfl rfl rfl ?_
    refine s_y (y_move rfl) rfl rfl rfl ?_
    refine s_y (y_move rfl) rfl rfl rfl ?_
    refine s_y (y_sub rfl rfl (by omega)) rfl rfl rfl ?_
    refine s_y (y_F (y_geq rfl rfl) (by assumption)) rfl rfl rfl ?_
    refine s_y (y_assign rfl) rfl rfl rfl ?_
    refine s_nil ?_
    refine f_then ?_
    refine c_condF rfl ?_
    refine c_seq ?_
    refine c_region ?_
    refine s_y (y_move rfl) rfl rfl rfl ?_
    refine s_y (y_move rfl) rfl rfl rfl ?_
    refine s_y (y_T (y_gtr rfl rfl) (by assumption)) rfl rfl rfl ?_
    refine s_y (y_assign rfl) rfl rfl rfl ?_
    refine s_nil ?_
    refine f_then ?_
    refine c_condT rfl ?_
    refine c_seq ?_
    refine c_region ?_
    refine s_y (y_move rfl) rfl rfl rfl ?_
    refine s_y (y_assign rfl) rfl rfl rfl ?_
    refine s_y (y_assign rfl) rfl rfl rfl ?_
    refine s_y (y_assign rfl) rfl rfl rfl ?_
    refine s_nil ?_
    refine f_then ?_
    refine c_ret ?_
    refine f_blockR ?_
    refine f_blockR ?_
    refine f_rndR ?_
    refine f_blockR ?_
    exact f_retE () (res3 rfl rfl rfl rfl) (by rw [e]; rfl) (fun w h => h)
  cases d with
  | zero =>
    have hr : jud n c f 0 k = (0, k) := by unfold jud; rw [if_neg h1, if_neg h2]
    rw [hr]
    obtain rfl : k = len := by omega
    refine c_block ?_
    refine c_seq ?_
    refine c_region ?_
    refine s_y (y_move rfl) rfl rfl rfl ?_
    refine s_y (y_move rfl) rfl rfl rfl ?_
    refine s_y (y_add rfl rfl (by omega)) rfl rfl rfl ?_
    refine s_y (y_assign rfl) rfl rfl rfl ?_
    refine s_nil ?_
    refine f_then ?_
    refine c_block ?_
    refine c_seq ?_
    refine c_region ?_
    refine s_y (y_move rfl) rfl rfl rfl ?_
    refine s_y (y_move rfl) rfl rfl rfl ?_
    refine s_y (y_move rfl) rfl rfl rfl ?_
    refine s_y (y_sub rfl rfl (by omega)) rfl rfl rfl ?_
    refine s_y (y_F (y_geq rfl rfl) (by assumption)) rfl rfl rfl ?_
    refine s_y (y_assign rfl) rfl rfl rfl ?_
    refine s_nil ?_
    refine f_then ?_
    refine c_condF rfl ?_
    refine c_seq ?_
    refine c_region ?_
    refine s_y (y_move rfl) rfl rfl rfl ?_
    refine s_y (y_move rfl) rfl rfl rfl ?_
    refine s_y (y_F (y_gtr rfl rfl) (by assumption)) rfl rfl rfl ?_
    refine s_y (y_assign rfl) rfl rfl rfl ?_
    refine s_nil ?_
    refine f_then ?_
    refine c_condF rfl ?_
    refine c_seq ?_
    refine c_region ?_
    refine s_y (y_move rfl) rfl rfl rfl ?_
    refine s_y (y_move rfl) rfl rfl rfl ?_
    refine s_y (y_lenB Try.tab rfl rfl) rfl rfl rfl ?_
    refine s_y (y_T (y_eql rfl rfl) (by assumption)) rfl rfl rfl ?_
    refine s_y (y_assign rfl) rfl rfl rfl ?_
    refine s_nil ?_
    refine f_then ?_
    refine c_condT rfl ?_
    refine c_seq ?_
    refine c_region ?_
    refine s_y (y_move rfl) rfl rfl rfl ?_
    refine s_y (y_assign rfl) rfl rfl rfl ?_
    refine s_y (y_assign rfl) rfl rfl rfl ?_
    refine s_y (y_assign rfl) rfl rfl rfl ?_
    refine s_nil ?_
    refine f_then ?_
    refine c_ret ?_
    refine f_blockR ?_
    refine f_blockR ?_
    refine f_rndR ?_
    refine f_blockR ?_
    exact f_retE () (res3 rfl rfl rfl rfl) (by rw [e]; rfl) (fun w h => h)
  | succ d =>
    have hr : jud n c f (d + 1) k = jud n c f d (k + 1) := by conv => lhs; unfold jud; rw [if_neg h1, if_neg h2]
    have hkl : k < len := by omega
    have hT : ((k : Int) - (nb f k : Int) + (nb f k : Int)).toNat = k := by omega
    refine c_block ?_
    refine c_seq ?_
    refine c_region ?_
    refine s_y (y_move rfl) rfl rfl rfl ?_
    refine s_y (y_move rfl) rfl rfl rfl ?_
    refine s_y (y_add rfl rfl (by omega)) rfl rfl rfl ?_
    refine s_y (y_assign rfl) rfl rfl rfl ?_
    refine s_nil ?_
    refine f_then ?_
    refine c_block ?_
    refine c_seq ?_
    refine c_region ?_
    refine s_y (y_move rfl) rfl rfl rfl ?_
    refine s_y (y_move rfl) rfl rfl rfl ?_
    refine s_y (y_move rfl) rfl rfl rfl ?_
    refine s_y (y_sub rfl rfl (by omega)) rfl rfl rfl ?_
    refine s_y (y_F (y_geq rfl rfl) (by assumption)) rfl rfl rfl ?_
    refine s_y (y_assign rfl) rfl rfl rfl ?_
    refine s_nil ?_
    refine f_then ?_
    refine c_condF rfl ?_
    refine c_seq ?_
    refine c_region ?_
    refine s_y (y_move rfl) rfl rfl rfl ?_
    refine s_y (y_move rfl) rfl rfl rfl ?_
    refine s_y (y_F (y_gtr rfl rfl) (by assumption)) rfl rfl rfl ?_
    refine s_y (y_assign rfl) rfl rfl rfl ?_
    refine s_nil ?_
    refine f_then ?_
    refine c_condF rfl ?_
    refine c_seq ?_
    refine c_region ?_
    refine s_y (y_move rfl) rfl rfl rfl ?_
    refine s_y (y_move rfl) rfl rfl rfl ?_
    refine s_y (y_lenB Try.tab rfl rfl) rfl rfl rfl ?_
    refine s_y (y_F (y_eql rfl rfl) (by omega)) rfl rfl rfl ?_
    refine s_y (y_assign rfl) rfl rfl rfl ?_
    refine s_nil ?_
    refine f_then ?_
    refine c_condF rfl ?_
    refine c_seq ?_
    refine c_region ?_
    refine s_y (y_move rfl) rfl rfl rfl ?_
    refine s_y (y_move rfl) rfl rfl rfl ?_
    refine s_y (y_ixB Try.tab rfl rfl rfl rfl _ (Int.toNat_of_nonneg (by omega)).symm (by omega)) rfl rfl rfl ?_
    refine s_y (y_ldB Try.tab rfl rfl (by omega)) rfl rfl rfl ?_
    refine s_y (y_assign rfl) rfl rfl rfl ?_
    refine s_nil ?_
    refine f_then ?_
    rw [hT]
    by_cases hf : f k = true
    · have hb : nb f (k + 1) = nb f k + 1 := by show nb f k + (if f k then 1 else 0) = _; rw [if_pos hf]
      rw [hf]
      refine c_condT rfl ?_
      refine c_region ?_
      refine s_y (y_move rfl) rfl rfl rfl ?_
      refine s_y (y_add rfl rfl (by omega)) rfl rfl rfl ?_
      refine s_y (y_assign rfl) rfl rfl rfl ?_
      refine s_nil ?_
      refine f_blockN ?_
      refine f_blockN ?_
      exact f_roundP (d, k + 1) ⟨by dsimp only; omega, hr.symm⟩ (by dsimp only; omega) ⟨rfl, rfl, rfl, congrArg (fun z => some (Value.int .i64 z)) (by dsimp only; omega), congrArg (fun z => some (Value.int .i64 z)) (by dsimp only; omega), trivial⟩ (fun w h => h)
    · have hb : nb f (k + 1) = nb f k := by show nb f k + (if f k then 1 else 0) = _; rw [if_neg hf]; rfl
      rw [Bool.eq_false_iff.2 hf]
      refine c_condF rfl ?_
      refine c_region ?_
      refine s_y (y_move rfl) rfl rfl rfl ?_
      refine s_y (y_add rfl rfl (by omega)) rfl rfl rfl ?_
      refine s_y (y_assign rfl) rfl rfl rfl ?_
      refine s_nil ?_
      refine f_blockN ?_
      refine f_blockN ?_
      exact f_roundP (d, k + 1) ⟨by dsimp only; omega, hr.symm⟩ (by dsimp only; omega) ⟨rfl, rfl, rfl, congrArg (fun z => some (Value.int .i64 z)) (by dsimp only; omega), congrArg (fun z => some (Value.int .i64 z)) (by dsimp only; omega), trivial⟩ (fun w h => h)
end Go.KL
end

section
/- Walks: the reference's Judge and Whole. -/
namespace Go.KL
open Go.Proofs
attribute [local irreducible] SC St Fin Sq Ylds Doos Sets Enters Spec CellIs CellsAre Then Ret Rnd Chn resOK ints bools recs arr
set_option maxRecDepth 10000 in
set_option maxHeartbeats 8000000 in
theorem rjudge_spec {C : World → Prop} {v : Value} {n c : Int} {len : Nat} {f : Nat → Bool} [hv : BoolV C v len f] (hn : 0 ≤ n) (hc : 0 ≤ c) (hn2 : n < 9223372036854775808) (hc2 : c < 9223372036854775808) :
    Spec Try.prog 29 #[.int .i64 n, .int .i64 c, v] C (fun _ : Unit => .tuple #[.int .i64 ((jud n c f len 0).1 : Nat), .int .i64 ((jud n c f len 0).2 : Nat)]) (fun _ => C) := by
  have hcap := hv.cap
  refine enter (args := [_, _, _]) Try.func29 rfl Try.ntmps29 rfl ?_
  refine c_seq ?_
  refine c_region ?_
  refine s_y (y_assign rfl) rfl rfl rfl ?_
  refine s_y (y_assign rfl) rfl rfl rfl ?_
  refine s_nil ?_
  refine f_then ?_
  refine c_seq ?_
  refine c_region ?_
  refine s_y (y_assign rfl) rfl rfl rfl ?_
  refine s_nil ?_
  refine f_then ?_
  refine c_seq ?_
  refine c_region ?_
  refine s_y (y_assign rfl) rfl rfl rfl ?_
  refine s_nil ?_
  refine f_then ?_
  refine c_block ?_
  refine c_loopP (α := Nat × Nat) (fun z => [(0, .int .i64 n), (1, .int .i64 c), (2, v), (8, .int .i64 (nb f z.2)), (9, .int .i64 (z.2 : Int))])
    (fun z => z.1 + z.2 = len ∧ jud n c f z.1 z.2 = jud n c f len 0) (fun _ => C) (fun z => z.1) (len, 0)
    ⟨rfl, rfl, rfl, rfl, rfl, trivial⟩ ⟨rfl, rfl⟩ (fun w h => h) ?_
  rintro ⟨d, k⟩ ⟨hk, hj⟩
  dsimp only at hk hj ⊢
  rw [← hj]
  have hnb := nb_le f k
  by_cases h1 : n - c ≤ (k : Int) - (nb f k : Int)
  · have hr : jud n c f d k = (1, k) := by cases d <;> (unfold jud; rw [if_pos h1])
    rw [hr]
    refine c_seq ?_
    refine c_block ?_
    refine c_seq ?_
    refine c_seq ?_
    refine c_region ?_
    refine s_y (y_move rfl) rfl rfl rfl ?_
    refine s_y (y_move rfl) rfl rfl rfl ?_
    refine s_y (y_sub rfl rfl (by omega)) rfl rfl rfl ?_
    refine s_y (y_move rfl) rfl rfl rfl ?_
    refine s_y (y_move rfl) rfl rfl rfl ?_
    refine s_y (y_sub rfl rfl (by omega)) rfl rfl rfl ?_
    refine s_y (y_T (y_geq rfl rfl) (by assumption)) rfl rfl rfl ?_
    refine s_nil ?_
    refine f_then ?_
    refine c_condT rfl ?_
    refine c_seq ?_
    refine c_region ?_
    refine s_y (y_move rfl) rfl rfl rfl ?_
    refine s_y (y_assign rfl) rfl rfl rfl ?_
    refine s_y (y_assign rfl) rfl rfl rfl ?_
    refine s_nil ?_
    refine f_then ?_
    refine c_ret ?_
    refine f_thenR ?_
    refine f_blockR ?_
    refine f_thenR ?_
    refine f_rndR ?_
    refine f_blockR ?_
    exact f_retE () (res2 rfl rfl rfl) rfl (fun w h => h)
  by_cases h2 : c < (nb f k : Int)
  · have hr : jud n c f d k = (2, k) := by cases d <;> (unfold jud; rw [if_neg h1, if_pos h2])
    rw [hr]
    refine c_seq ?_
    refine c_block ?_
    refine c_seq ?_
    refine c_seq ?_
    refine c_region ?_
    refine s_y (y_move rfl) rfl rfl rfl ?_
    refine s_y (y_move rfl) rfl rfl rfl ?_
    refine s_y (y_sub rfl rfl (by omega)) rfl rfl rfl ?_
    refine s_y (y_move rfl) rfl rfl rfl ?_
    refine s_y (y_move rfl) rfl rfl rfl ?_
    refine s_y (y_sub rfl rfl (by omega)) rfl rfl rfl ?_
    refine s_y (y_F (y_geq rfl rfl) (by assumption)) rfl rfl rfl ?_
    refine s_nil ?_
    refine f_then ?_
    refine c_condF rfl ?_
    refine c_skip ?_
    refine f_then ?_
    refine c_seq ?_
    refine c_seq ?_
    refine c_region ?_
    refine s_y (y_move rfl) rfl rfl rfl ?_
    refine s_y (y_move rfl) rfl rfl rfl ?_
    refine s_y (y_T (y_gtr rfl rfl) (by assumption)) rfl rfl rfl ?_
    refine s_nil ?_
    refine f_then ?_
    refine c_condT rfl ?_
    refine c_seq ?_
    refine c_region ?_
    refine s_y (y_move rfl) rfl rfl rfl ?_
    refine s_y (y_assign rfl) rfl rfl rfl ?_
    refine s_y (y_assign rfl) rfl rfl rfl ?_
    refine s_nil ?_
    refine f_then ?_
    refine c_ret ?_
    refine f_thenR ?_
    refine f_blockR ?_
    refine f_thenR ?_
    refine f_rndR ?_
    refine f_blockR ?_
    exact f_retE () (res2 rfl rfl rfl) rfl (fun w h => h)
  cases d with
  | zero =>
    have hr : jud n c f 0 k = (0, k) := by unfold jud; rw [if_neg h1, if_neg h2]
    rw [hr]
    obtain rfl : k = len := by omega
    refine c_seq ?_
    refine c_block ?_
    refine c_seq ?_
    refine c_seq ?_
    refine c_region ?_
    refine s_y (y_move rfl) rfl rfl rfl ?_
    refine s_y (y_move rfl) rfl rfl rfl ?_
    refine s_y (y_sub rfl rfl (by omega)) rfl rfl rfl ?_
    refine s_y (y_move rfl) rfl rfl rfl ?_
    refine s_y (y_move rfl) rfl rfl rfl ?_
    refine s_y (y_sub rfl rfl (by omega)) rfl rfl rfl ?_
    refine s_y (y_F (y_geq rfl rfl) (by assumption)) rfl rfl rfl ?_
    refine s_nil ?_
    refine f_then ?_
    refine c_condF rfl ?_
    refine c_skip ?_
    refine f_then ?_
    refine c_seq ?_
    refine c_seq ?_
    refine c_region ?_
    refine s_y (y_move rfl) rfl rfl rfl ?_
    refine s_y (y_move rfl) rfl rfl rfl ?_
    refine s_y (y_F (y_gtr rfl rfl) (by assumption)) rfl rfl rfl ?_
    refine s_nil ?_
    refine f_then ?_
    refine c_condF rfl ?_
    refine c_skip ?_
    refine f_then ?_
    refine c_seq ?_
    refine c_seq ?_
    refine c_region ?_
    refine s_y (y_move rfl) rfl rfl rfl ?_
    refine s_y (y_move rfl) rfl rfl rfl ?_
    refine s_y (y_lenB Try.tab rfl rfl) rfl rfl rfl ?_
    refine s_y (y_T (y_eql rfl rfl) (by omega)) rfl rfl rfl ?_
    refine s_nil ?_
    refine f_then ?_
    refine c_condT rfl ?_
    refine c_seq ?_
    refine c_region ?_
    refine s_y (y_move rfl) rfl rfl rfl ?_
    refine s_y (y_assign rfl) rfl rfl rfl ?_
    refine s_y (y_assign rfl) rfl rfl rfl ?_
    refine s_nil ?_
    refine f_then ?_
    refine c_ret ?_
    refine f_thenR ?_
    refine f_blockR ?_
    refine f_thenR ?_
    refine f_rndR ?_
    refine f_blockR ?_
    exact f_retE () (res2 rfl rfl rfl) rfl (fun w h => h)
  | succ d =>
    have hr : jud n c f (d + 1) k = jud n c f d (k + 1) := by conv => lhs; unfold jud; rw [if_neg h1, if_neg h2]
    have hkl : k < len := by omega
    refine c_seq ?_
    refine c_block ?_
    refine c_seq ?_
    refine c_seq ?_
    refine c_region ?_
    refine s_y (y_move rfl) rfl rfl rfl ?_
    refine s_y (y_move rfl) rfl rfl rfl ?_
    refine s_y (y_sub rfl rfl (by omega)) rfl rfl rfl ?_
    refine s_y (y_move rfl) rfl rfl rfl ?_
    refine s_y (y_move rfl) rfl rfl rfl ?_
    refine s_y (y_sub rfl rfl (by omega)) rfl rfl rfl ?_
    refine s_y (y_F (y_geq rfl rfl) (by assumption)) rfl rfl rfl ?_
    refine s_nil ?_
    refine f_then ?_
    refine c_condF rfl ?_
    refine c_skip ?_
    refine f_then ?_
    refine c_seq ?_
    refine c_seq ?_
    refine c_region ?_
    refine s_y (y_move rfl) rfl rfl rfl ?_
    refine s_y (y_move rfl) rfl rfl rfl ?_
    refine s_y (y_F (y_gtr rfl rfl) (by assumption)) rfl rfl rfl ?_
    refine s_nil ?_
    refine f_then ?_
    refine c_condF rfl ?_
    refine c_skip ?_
    refine f_then ?_
    refine c_seq ?_
    refine c_seq ?_
    refine c_region ?_
    refine s_y (y_move rfl) rfl rfl rfl ?_
    refine s_y (y_move rfl) rfl rfl rfl ?_
    refine s_y (y_lenB Try.tab rfl rfl) rfl rfl rfl ?_
    refine s_y (y_F (y_eql rfl rfl) (by omega)) rfl rfl rfl ?_
    refine s_nil ?_
    refine f_then ?_
    refine c_condF rfl ?_
    refine c_skip ?_
    refine f_then ?_
    refine c_seq ?_
    refine c_region ?_
    refine s_y (y_move rfl) rfl rfl rfl ?_
    refine s_y (y_move rfl) rfl rfl rfl ?_
    refine s_y (y_ixB Try.tab rfl rfl rfl rfl _ rfl (by omega)) rfl rfl rfl ?_
    refine s_y (y_ldB Try.tab rfl rfl (by omega)) rfl rfl rfl ?_
    refine s_nil ?_
    refine f_then ?_
    by_cases hf : f k = true
    · have hb : nb f (k + 1) = nb f k + 1 := by show nb f k + (if f k then 1 else 0) = _; rw [if_pos hf]
      rw [hf]
      refine c_condT rfl ?_
      refine c_region ?_
      refine s_y (y_move rfl) rfl rfl rfl ?_
      refine s_y (y_add rfl rfl (by omega)) rfl rfl rfl ?_
      refine s_y (y_assign rfl) rfl rfl rfl ?_
      refine s_nil ?_
      refine f_blockN ?_
      refine f_then ?_
      refine c_region ?_
      refine s_y (y_move rfl) rfl rfl rfl ?_
      refine s_y (y_add rfl rfl (by omega)) rfl rfl rfl ?_
      refine s_y (y_assign rfl) rfl rfl rfl ?_
      refine s_nil ?_
      exact f_roundP (d, k + 1) ⟨by dsimp only; omega, hr.symm⟩ (by dsimp only; omega) ⟨rfl, rfl, rfl, congrArg (fun z => some (Value.int .i64 z)) (by dsimp only; omega), congrArg (fun z => some (Value.int .i64 z)) (by dsimp only; omega), trivial⟩ (fun w h => h)
    · have hb : nb f (k + 1) = nb f k := by show nb f k + (if f k then 1 else 0) = _; rw [if_neg hf]; rfl
      rw [Bool.eq_false_iff.2 hf]
      refine c_condF rfl ?_
      refine c_skip ?_
      refine f_blockN ?_
      refine f_then ?_
      refine c_region ?_
      refine s_y (y_move rfl) rfl rfl rfl ?_
      refine s_y (y_add rfl rfl (by omega)) rfl rfl rfl ?_
      refine s_y (y_assign rfl) rfl rfl rfl ?_
      refine s_nil ?_
      exact f_roundP (d, k + 1) ⟨by dsimp only; omega, hr.symm⟩ (by dsimp only; omega) ⟨rfl, rfl, rfl, congrArg (fun z => some (Value.int .i64 z)) (by dsimp only; omega), congrArg (fun z => some (Value.int .i64 z)) (by dsimp only; omega), trivial⟩ (fun w h => h)
set_option maxRecDepth 10000 in
set_option maxHeartbeats 8000000 in
theorem rwhole_spec {C : World → Prop} {v : Value} {c : Int} {len : Nat} {f : Nat → Bool} [hv : BoolV C v len f] :
    Spec Try.prog 30 #[.int .i64 c, v] C (fun _ : Unit => .int .i64 (if (nb f len : Int) ≤ c then 1 else 2)) (fun _ => C) := by
  have hcap := hv.cap
  refine enter (args := [_, _]) Try.func30 rfl Try.ntmps30 rfl ?_
  refine c_seq ?_
  refine c_region ?_
  refine s_y (y_assign rfl) rfl rfl rfl ?_
  refine s_nil ?_
  refine f_then ?_
  refine c_seq ?_
  refine c_region ?_
  refine s_y (y_assign rfl) rfl rfl rfl ?_
  refine s_nil ?_
  refine f_then ?_
  refine c_seq ?_
  refine c_seq ?_
  refine c_region ?_
  refine s_y (y_assign rfl) rfl rfl rfl ?_
  refine s_nil ?_
  refine f_then ?_
  refine c_block ?_
  refine c_loopP (α := Nat) (fun k => [(0, .int .i64 c), (1, v), (5, .int .i64 (nb f k)), (6, .int .i64 (k : Int))])
    (fun k => k ≤ len) (fun _ => C) (fun k => len - k) 0
    ⟨rfl, rfl, rfl, rfl, trivial⟩ (Nat.zero_le _) (fun w h => h) ?_
  intro k hk
  have hnb := nb_le f k
  refine c_seq ?_
  refine c_seq ?_
  refine c_region ?_
  refine s_y (y_move rfl) rfl rfl rfl ?_
  refine s_y (y_move rfl) rfl rfl rfl ?_
  refine s_y (y_lenB Try.tab rfl rfl) rfl rfl rfl ?_
  refine s_y (y_lss rfl rfl) rfl rfl rfl ?_
  refine s_nil ?_
  refine f_then ?_
  refine c_condD rfl (fun hlt => ?_) (fun hge => ?_)
  · have hkl : k < len := by omega
    refine c_skip ?_
    refine f_then ?_
    refine c_seq ?_
    refine c_block ?_
    refine c_seq ?_
    refine c_region ?_
    refine s_y (y_move rfl) rfl rfl rfl ?_
    refine s_y (y_move rfl) rfl rfl rfl ?_
    refine s_y (y_ixB Try.tab rfl rfl rfl rfl _ rfl (by omega)) rfl rfl rfl ?_
    refine s_y (y_ldB Try.tab rfl rfl (by omega)) rfl rfl rfl ?_
    refine s_nil ?_
    refine f_then ?_
    by_cases hf : f k = true
    · have hb : nb f (k + 1) = nb f k + 1 := by show nb f k + (if f k then 1 else 0) = _; rw [if_pos hf]
      rw [hf]
      refine c_condT rfl ?_
      refine c_region ?_
      refine s_y (y_move rfl) rfl rfl rfl ?_
      refine s_y (y_add rfl rfl (by omega)) rfl rfl rfl ?_
      refine s_y (y_assign rfl) rfl rfl rfl ?_
      refine s_nil ?_
      refine f_blockN ?_
      refine f_then ?_
      refine c_region ?_
      refine s_y (y_move rfl) rfl rfl rfl ?_
      refine s_y (y_add rfl rfl (by omega)) rfl rfl rfl ?_
      refine s_y (y_assign rfl) rfl rfl rfl ?_
      refine s_nil ?_
      exact f_roundP (k + 1) hkl (by omega) ⟨rfl, rfl, congrArg (fun z => some (Value.int .i64 z)) (by omega), congrArg (fun z => some (Value.int .i64 z)) (by omega), trivial⟩ (fun w h => h)
    · have hb : nb f (k + 1) = nb f k := by show nb f k + (if f k then 1 else 0) = _; rw [if_neg hf]; rfl
      rw [Bool.eq_false_iff.2 hf]
      refine c_condF rfl ?_
      refine c_skip ?_
      refine f_blockN ?_
      refine f_then ?_
      refine c_region ?_
      refine s_y (y_move rfl) rfl rfl rfl ?_
      refine s_y (y_add rfl rfl (by omega)) rfl rfl rfl ?_
      refine s_y (y_assign rfl) rfl rfl rfl ?_
      refine s_nil ?_
      exact f_roundP (k + 1) hkl (by omega) ⟨rfl, rfl, congrArg (fun z => some (Value.int .i64 z)) (by omega), congrArg (fun z => some (Value.int .i64 z)) (by omega), trivial⟩ (fun w h => h)
  · obtain rfl : k = len := by omega
    by_cases h : (nb f k : Int) ≤ c
    · rw [if_pos h]
      refine c_exit ?_
      refine f_thenE ?_
      refine f_rndE ?_
      refine f_blockE ?_
      refine f_then ?_
      refine c_seq ?_
      refine c_seq ?_
      refine c_region ?_
      refine s_y (y_move rfl) rfl rfl rfl ?_
      refine s_y (y_move rfl) rfl rfl rfl ?_
      refine s_y (y_T (y_leq rfl rfl) (by assumption)) rfl rfl rfl ?_
      refine s_nil ?_
      refine f_then ?_
      refine c_condT rfl ?_
      refine c_seq ?_
      refine c_region ?_
      refine s_y (y_assign rfl) rfl rfl rfl ?_
      refine s_nil ?_
      refine f_then ?_
      refine c_ret ?_
      refine f_thenR ?_
      exact f_ret () (res1 rfl rfl) (fun w h => h)
    · rw [if_neg h]
      refine c_exit ?_
      refine f_thenE ?_
      refine f_rndE ?_
      refine f_blockE ?_
      refine f_then ?_
      refine c_seq ?_
      refine c_seq ?_
      refine c_region ?_
      refine s_y (y_move rfl) rfl rfl rfl ?_
      refine s_y (y_move rfl) rfl rfl rfl ?_
      refine s_y (y_F (y_leq rfl rfl) (by assumption)) rfl rfl rfl ?_
      refine s_nil ?_
      refine f_then ?_
      refine c_condF rfl ?_
      refine c_skip ?_
      refine f_then ?_
      refine c_seq ?_
      refine c_region ?_
      refine s_y (y_assign rfl) rfl rfl rfl ?_
      refine s_nil ?_
      refine f_then ?_
      refine c_ret ?_
      exact f_ret () (res1 rfl rfl) (fun w h => h)
end Go.KL
end

section
/- Walks: exceeds. -/
namespace Go.KL
open Go.Proofs
/-- What an operation has left in a box, as its ghost tells. -/
def cont : Chunk → List Value
  | (_, .cells a _) :: _ => a.toList
  | _ => []
/-- A box that an operation makes, and another sets. -/
def bxD (e : TypeId) (z : List Value) (x y : Option VC) : Chunk := match x with
  | none => []
  | some (v, _) => match v with
    | .pointer (some p) => match y with
      | none => [(p.block, row e z)]
      | some (_, c) => [(p.block, row e (cont c))]
    | _ => []
theorem boxes_bxD {z : List Value} {x y : Option VC} {F : List Chunk} : boxes (bxD 71 z x y :: F) = boxes F := by
  unfold boxes
  rw [List.all_cons]
  have : (bxD 71 z x y).all (fun e => notU e.2) = true := by
    unfold bxD
    split
    · rfl
    · split
      · split <;> rfl
      · rfl
  rw [this]
  rfl
attribute [local irreducible] SC St Fin Sq Ylds Doos Sets Enters Spec CellIs CellsAre Then Ret Rnd Chn resOK ints bools recs arr
set_option maxRecDepth 10000 in
set_option maxHeartbeats 8000000 in
theorem exceeds_spec {W : World} {N : List Chunk} {a b : Value} {x y m : Nat} [ha : NatV (K W N) a x] [hb : NatV (K W N) b y] (hx : wl x ≤ 10000) (hy : wl y ≤ 10000) (hm : m ≤ 1000000) :
    Spec Try.prog 59 #[.agg #[a], .agg #[b], .int .i64 (m : Int)] (K W N) (fun _ : Unit => .int .i64 (if cap (x * 1000000) < cap (y * m) then -1 else if cap (y * m) < cap (x * 1000000) then 1 else 0)) (fun _ => K W N) := by
  refine enter (args := [_, _, _]) Try.func59 rfl Try.ntmps59 rfl ?_
  have hw1 : wl 1000000 ≤ 2 := bitw (by omega)
  have hw2 : wl m ≤ 2 := bitw (by omega)
  refine c_seq ?_
  refine c_region ?_
  refine s_do (do_box rfl) rfl rfl rfl (fun b3 => ?_)
  refine s_do (do_box rfl) rfl rfl rfl (fun b4 => ?_)
  refine s_y (y_assign rfl) rfl rfl rfl ?_
  refine s_nil ?_
  refine f_then ?_
  refine c_seq ?_
  refine c_then_cut (α := List Chunk × Nat × Value) (fun z => [(2, .int .i64 (m : Int)), (4, .pointer (some ⟨b4, 0, none⟩)), (7, .pointer (some ⟨z.2.1, 0, none⟩))]) (fun z => (NatV (K W z.1) a x ∧ NatV (K W z.1) b y ∧ ∃ M, z.1 = M ++ N) ∧ NatV (K W z.1) z.2.2 (cap (x * 1000000))) (fun z => K W ([(z.2.1, row 71 [z.2.2])] :: [(b4, row 71 [b])] :: [(b3, row 71 [a])] :: z.1)) ?_ ?_
  · refine c_drawn [(2, .int .i64 (m : Int)), (3, .pointer (some ⟨b3, 0, none⟩)), (4, .pointer (some ⟨b4, 0, none⟩))] [[], [], [(0, 12), (1, 13)], [(2, 14)], [(3, 11)], [(3, 11)], [], [(6, 7), (4, 15)], [(5, 16)]] [(6, 7), (8, 8)] (fun s => [bxD 71 [.slice none 0 0] (s 6) (s 7), [(b4, row 71 [b])], [(b3, row 71 [a])]])
      [fun _ v _ => .agg #[a] = v, fun N v _ => ∃ u, .agg #[u] = v ∧ NatV (K W N) u (1000000), fun N v _ => ∃ u, .tuple #[.agg #[u], .int .i64 (capE (x * 1000000))] = v ∧ NatV (K W N) u (cap (x * 1000000)), fun N v _ => ∃ u, .tuple #[.agg #[u], .int .i64 (capE (x * 1000000))] = v ∧ NatV (K W N) u (cap (x * 1000000)), fun N v _ => ∃ u, .agg #[u] = v ∧ NatV (K W N) u (cap (x * 1000000)), fun _ v _ => Value.int .i64 (capE (x * 1000000)) = v, fun _ v _ => ∃ b, Value.pointer (some ⟨b, 0, none⟩) = v, fun N _ c => ∃ u, [(0, row 71 [u])] = c ∧ NatV (K W N) u (cap (x * 1000000)), fun _ v _ => Value.int .i64 (capE (x * 1000000)) = v]
      N (fun N' => NatV (K W N') a (x) ∧ NatV (K W N') b (y) ∧ ∃ M, N' = M ++ N) ⟨inferInstance, inferInstance, [], rfl⟩ (fun M N' ⟨h0, h1, M2, e⟩ => ⟨h0.cls fun _ k => k.bck, h1.cls fun _ k => k.bck, M ++ M2, by rw [e, List.append_assoc]⟩) Try.mixed (by kernel_rfl) rfl ⟨rfl, rfl, rfl, trivial⟩ (fun w h => h.addNil)
      ⟨fun _ _ _ _ h => h, fun _ _ _ _ ⟨u, e, h⟩ => ⟨u, e, h.cls fun _ k => k.bck⟩, fun _ _ _ _ ⟨u, e, h⟩ => ⟨u, e, h.cls fun _ k => k.bck⟩, fun _ _ _ _ ⟨u, e, h⟩ => ⟨u, e, h.cls fun _ k => k.bck⟩, fun _ _ _ _ ⟨u, e, h⟩ => ⟨u, e, h.cls fun _ k => k.bck⟩, fun _ _ _ _ h => h, fun _ _ _ _ h => h, fun _ _ _ _ ⟨u, e, h⟩ => ⟨u, e, h.cls fun _ k => k.bck⟩, fun _ _ _ _ h => h, trivial⟩
      ⟨?_, ?_, ?_, ?_, ?_, ?_, ?_, ?_, ?_, trivial⟩ ?_
    · intro s N' gN h0 hn0
      show Acts _ _ _ (K W (bxD 71 [.slice none 0 0] (s 6) (s 7) :: [(b4, row 71 [b])] :: [(b3, row 71 [a])] :: N')) _ _
      exact a_y (y_loadA Try.tab rfl rfl rfl rfl (cells_row0 2 rfl rfl)) fun w h => ⟨[], [], h, rfl⟩
    · intro s N' gN h0 hn0
      show Acts _ _ _ (K W (bxD 71 [.slice none 0 0] (s 6) (s 7) :: [(b4, row 71 [b])] :: [(b3, row 71 [a])] :: N')) _ _
      haveI := gN.1
      haveI := gN.2.1
      exact a_call (en_f rfl Try.call98) (bx3 (u := fun v => .agg #[v]) (whole_spec (x := 1000000) (by omega)) (by rw [boxes_bxD]; rfl)) fun r w h => ⟨[r.L], [], h, r.v, rfl, r.ok⟩
    · rintro s N' gN h0 hn0 v0 d0 e0 rfl v1 d1 e1 ⟨uz1, rfl, mz1⟩
      show Acts _ _ _ (K W (bxD 71 [.slice none 0 0] (s 6) (s 7) :: [(b4, row 71 [b])] :: [(b3, row 71 [a])] :: N')) _ _
      haveI := gN.1
      haveI := gN.2.1
      haveI : NatV (K W N') uz1 (1000000) := mz1
      exact a_call (en_f rfl Try.call97) (bx3 (u := fun v => .tuple #[.agg #[v], .int .i64 (capE (x * 1000000))]) (nmul_spec (by omega) (by omega)) (by rw [boxes_bxD]; rfl)) fun r w h => ⟨[r.L], [], h, r.v, rfl, r.ok⟩
    · rintro s N' gN h0 hn0 v2 d2 e2 ⟨uz2, rfl, mz2⟩
      show Acts _ _ _ (K W (bxD 71 [.slice none 0 0] (s 6) (s 7) :: [(b4, row 71 [b])] :: [(b3, row 71 [a])] :: N')) _ _
      exact a_y (y_move rfl) fun w h => ⟨[], [], h, uz2, rfl, mz2⟩
    · rintro s N' gN h0 hn0 v3 d3 e3 ⟨uz3, rfl, mz3⟩
      show Acts _ _ _ (K W (bxD 71 [.slice none 0 0] (s 6) (s 7) :: [(b4, row 71 [b])] :: [(b3, row 71 [a])] :: N')) _ _
      exact a_y (y_extract rfl rfl) fun w h => ⟨[], [], h, uz3, rfl, mz3⟩
    · rintro s N' gN h0 hn0 v3 d3 e3 ⟨uz3, rfl, mz3⟩
      show Acts _ _ _ (K W (bxD 71 [.slice none 0 0] (s 6) (s 7) :: [(b4, row 71 [b])] :: [(b3, row 71 [a])] :: N')) _ _
      exact a_y (y_extract rfl rfl) fun w h => ⟨[], [], h, rfl⟩
    · intro s N' gN h0 hn0
      show Acts _ _ _ (K W (bxD 71 [.slice none 0 0] (s 6) (s 7) :: [(b4, row 71 [b])] :: [(b3, row 71 [a])] :: N')) _ _
      have hz : s 7 = none := hn0 7 rfl
      have hy : s 6 = none := h0
      rw [hy, hz]
      show Acts _ _ _ (K W ([] :: [(b4, row 71 [b])] :: [(b3, row 71 [a])] :: N')) _ _
      exact a_do (do_alloc Try.tab rfl) fun bz w h => ⟨[], [], (by show K W (bxD 71 [.slice none 0 0] (some (.pointer (some ⟨bz, 0, none⟩), [])) (s 7) :: [(b4, row 71 [b])] :: [(b3, row 71 [a])] :: N') w; rw [hz]; exact h.weak [] (by simp [bxD, Value.cells])), bz, rfl⟩
    · rintro s N' gN h0 hn0 v6 d6 e6 ⟨bz6, rfl⟩ v4 d4 e4 ⟨uz4, rfl, mz4⟩
      show Acts _ _ _ (K W (bxD 71 [.slice none 0 0] (s 6) (s 7) :: [(b4, row 71 [b])] :: [(b3, row 71 [a])] :: N')) _ _
      have hy : s 7 = none := h0
      rw [e6, hy]
      show Acts _ _ _ (K W ([(bz6, row 71 [.slice none 0 0])] :: [(b4, row 71 [b])] :: [(b3, row 71 [a])] :: N')) _ _
      haveI : NatV (K W N') uz4 (cap (x * 1000000)) := mz4
      exact a_set (set_71 0 rfl rfl rfl rfl) fun w h => ⟨[], [(0, row 71 [uz4])], (by show K W (bxD 71 [.slice none 0 0] (s 6) (some (undef, [(0, row 71 [uz4])])) :: [(b4, row 71 [b])] :: [(b3, row 71 [a])] :: N') w; rw [e6]; exact h), uz4, rfl, mz4⟩
    · rintro s N' gN h0 hn0 v5 d5 e5 rfl
      show Acts _ _ _ (K W (bxD 71 [.slice none 0 0] (s 6) (s 7) :: [(b4, row 71 [b])] :: [(b3, row 71 [a])] :: N')) _ _
      exact a_y (y_assign rfl) fun w h => ⟨[], [], h, rfl⟩
    · intro s N' gN hall v6 d6 e6 f6 v8 d8 e8 f8
      obtain ⟨v, z, u, hv, m7⟩ := hall 7 (by decide)
      obtain ⟨b7, rfl⟩ := f6
      show Fin _ _ _ _ (K W (bxD 71 [.slice none 0 0] (s 6) (s 7) :: [(b4, row 71 [b])] :: [(b3, row 71 [a])] :: N'))
      rw [z, e6]
      exact f_cutP (N', b7, u) ⟨gN, m7⟩ ⟨rfl, rfl, rfl, trivial⟩ (fun w h => (by obtain ⟨v1, v2⟩ := v; dsimp only at hv; subst hv; exact h))
  clear ha hb
  rintro ⟨N1, b7, u7⟩ ⟨⟨ha, hb, M1, hN1⟩, h7⟩
  dsimp only at ha hb hN1 h7 ⊢
  refine c_seq ?_
  refine c_drawn [(2, .int .i64 (m : Int)), (4, .pointer (some ⟨b4, 0, none⟩)), (7, .pointer (some ⟨b7, 0, none⟩))] [[], [], [(1, 19)], [(0, 18), (2, 20)], [(3, 21)], [(4, 17)], [(4, 17)], [], [(7, 9), (5, 22)], [(6, 23)]] [(7, 9), (9, 10)] (fun s => [bxD 71 [.slice none 0 0] (s 7) (s 8), [(b7, row 71 [u7])], [(b4, row 71 [b])], [(b3, row 71 [a])]])
    [fun _ v _ => .agg #[b] = v, fun _ v _ => .int .i64 (m : Int) = v, fun N v _ => ∃ u, .agg #[u] = v ∧ NatV (K W N) u (m), fun N v _ => ∃ u, .tuple #[.agg #[u], .int .i64 (capE (y * m))] = v ∧ NatV (K W N) u (cap (y * m)), fun N v _ => ∃ u, .tuple #[.agg #[u], .int .i64 (capE (y * m))] = v ∧ NatV (K W N) u (cap (y * m)), fun N v _ => ∃ u, .agg #[u] = v ∧ NatV (K W N) u (cap (y * m)), fun _ v _ => Value.int .i64 (capE (y * m)) = v, fun _ v _ => ∃ b, Value.pointer (some ⟨b, 0, none⟩) = v, fun N _ c => ∃ u, [(0, row 71 [u])] = c ∧ NatV (K W N) u (cap (y * m)), fun _ v _ => Value.int .i64 (capE (y * m)) = v]
    N1 (fun N' => NatV (K W N') b (y) ∧ NatV (K W N') u7 (cap (x * 1000000)) ∧ ∃ M, N' = M ++ N) ⟨inferInstance, inferInstance, M1, hN1⟩ (fun M N' ⟨h0, h1, M2, e⟩ => ⟨h0.cls fun _ k => k.bck, h1.cls fun _ k => k.bck, M ++ M2, by rw [e, List.append_assoc]⟩) Try.mixed (by kernel_rfl) rfl ⟨rfl, rfl, rfl, trivial⟩ (fun w h => h.addNil)
    ⟨fun _ _ _ _ h => h, fun _ _ _ _ h => h, fun _ _ _ _ ⟨u, e, h⟩ => ⟨u, e, h.cls fun _ k => k.bck⟩, fun _ _ _ _ ⟨u, e, h⟩ => ⟨u, e, h.cls fun _ k => k.bck⟩, fun _ _ _ _ ⟨u, e, h⟩ => ⟨u, e, h.cls fun _ k => k.bck⟩, fun _ _ _ _ ⟨u, e, h⟩ => ⟨u, e, h.cls fun _ k => k.bck⟩, fun _ _ _ _ h => h, fun _ _ _ _ h => h, fun _ _ _ _ ⟨u, e, h⟩ => ⟨u, e, h.cls fun _ k => k.bck⟩, fun _ _ _ _ h => h, trivial⟩
    ⟨?_, ?_, ?_, ?_, ?_, ?_, ?_, ?_, ?_, ?_, trivial⟩ ?_
  · intro s N' gN h0 hn0
    show Acts _ _ _ (K W (bxD 71 [.slice none 0 0] (s 7) (s 8) :: [(b7, row 71 [u7])] :: [(b4, row 71 [b])] :: [(b3, row 71 [a])] :: N')) _ _
    exact a_y (y_loadA Try.tab rfl rfl rfl rfl (cells_row0 2 rfl rfl)) fun w h => ⟨[], [], h, rfl⟩
  · intro s N' gN h0 hn0
    show Acts _ _ _ (K W (bxD 71 [.slice none 0 0] (s 7) (s 8) :: [(b7, row 71 [u7])] :: [(b4, row 71 [b])] :: [(b3, row 71 [a])] :: N')) _ _
    exact a_y (y_move rfl) fun w h => ⟨[], [], h, rfl⟩
  · rintro s N' gN h0 hn0 v1 d1 e1 rfl
    show Acts _ _ _ (K W (bxD 71 [.slice none 0 0] (s 7) (s 8) :: [(b7, row 71 [u7])] :: [(b4, row 71 [b])] :: [(b3, row 71 [a])] :: N')) _ _
    haveI := gN.1
    haveI := gN.2.1
    exact a_call (en_f rfl Try.call98) (bx4 (u := fun v => .agg #[v]) (whole_spec (x := m) (by omega)) (by rw [boxes_bxD]; rfl)) fun r w h => ⟨[r.L], [], h, r.v, rfl, r.ok⟩
  · rintro s N' gN h0 hn0 v0 d0 e0 rfl v2 d2 e2 ⟨uz2, rfl, mz2⟩
    show Acts _ _ _ (K W (bxD 71 [.slice none 0 0] (s 7) (s 8) :: [(b7, row 71 [u7])] :: [(b4, row 71 [b])] :: [(b3, row 71 [a])] :: N')) _ _
    haveI := gN.1
    haveI := gN.2.1
    haveI : NatV (K W N') uz2 (m) := mz2
    exact a_call (en_f rfl Try.call97) (bx4 (u := fun v => .tuple #[.agg #[v], .int .i64 (capE (y * m))]) (nmul_spec (by omega) (by omega)) (by rw [boxes_bxD]; rfl)) fun r w h => ⟨[r.L], [], h, r.v, rfl, r.ok⟩
  · rintro s N' gN h0 hn0 v3 d3 e3 ⟨uz3, rfl, mz3⟩
    show Acts _ _ _ (K W (bxD 71 [.slice none 0 0] (s 7) (s 8) :: [(b7, row 71 [u7])] :: [(b4, row 71 [b])] :: [(b3, row 71 [a])] :: N')) _ _
    exact a_y (y_move rfl) fun w h => ⟨[], [], h, uz3, rfl, mz3⟩
  · rintro s N' gN h0 hn0 v4 d4 e4 ⟨uz4, rfl, mz4⟩
    show Acts _ _ _ (K W (bxD 71 [.slice none 0 0] (s 7) (s 8) :: [(b7, row 71 [u7])] :: [(b4, row 71 [b])] :: [(b3, row 71 [a])] :: N')) _ _
    exact a_y (y_extract rfl rfl) fun w h => ⟨[], [], h, uz4, rfl, mz4⟩
  · rintro s N' gN h0 hn0 v4 d4 e4 ⟨uz4, rfl, mz4⟩
    show Acts _ _ _ (K W (bxD 71 [.slice none 0 0] (s 7) (s 8) :: [(b7, row 71 [u7])] :: [(b4, row 71 [b])] :: [(b3, row 71 [a])] :: N')) _ _
    exact a_y (y_extract rfl rfl) fun w h => ⟨[], [], h, rfl⟩
  · intro s N' gN h0 hn0
    show Acts _ _ _ (K W (bxD 71 [.slice none 0 0] (s 7) (s 8) :: [(b7, row 71 [u7])] :: [(b4, row 71 [b])] :: [(b3, row 71 [a])] :: N')) _ _
    have hz : s 8 = none := hn0 8 rfl
    have hy : s 7 = none := h0
    rw [hy, hz]
    show Acts _ _ _ (K W ([] :: [(b7, row 71 [u7])] :: [(b4, row 71 [b])] :: [(b3, row 71 [a])] :: N')) _ _
    exact a_do (do_alloc Try.tab rfl) fun bz w h => ⟨[], [], (by show K W (bxD 71 [.slice none 0 0] (some (.pointer (some ⟨bz, 0, none⟩), [])) (s 8) :: [(b7, row 71 [u7])] :: [(b4, row 71 [b])] :: [(b3, row 71 [a])] :: N') w; rw [hz]; exact h.weak [] (by simp [bxD, Value.cells])), bz, rfl⟩
  · rintro s N' gN h0 hn0 v7 d7 e7 ⟨bz7, rfl⟩ v5 d5 e5 ⟨uz5, rfl, mz5⟩
    show Acts _ _ _ (K W (bxD 71 [.slice none 0 0] (s 7) (s 8) :: [(b7, row 71 [u7])] :: [(b4, row 71 [b])] :: [(b3, row 71 [a])] :: N')) _ _
    have hy : s 8 = none := h0
    rw [e7, hy]
    show Acts _ _ _ (K W ([(bz7, row 71 [.slice none 0 0])] :: [(b7, row 71 [u7])] :: [(b4, row 71 [b])] :: [(b3, row 71 [a])] :: N')) _ _
    haveI : NatV (K W N') uz5 (cap (y * m)) := mz5
    exact a_set (set_71 0 rfl rfl rfl rfl) fun w h => ⟨[], [(0, row 71 [uz5])], (by show K W (bxD 71 [.slice none 0 0] (s 7) (some (undef, [(0, row 71 [uz5])])) :: [(b7, row 71 [u7])] :: [(b4, row 71 [b])] :: [(b3, row 71 [a])] :: N') w; rw [e7]; exact h), uz5, rfl, mz5⟩
  · rintro s N' gN h0 hn0 v6 d6 e6 rfl
    show Acts _ _ _ (K W (bxD 71 [.slice none 0 0] (s 7) (s 8) :: [(b7, row 71 [u7])] :: [(b4, row 71 [b])] :: [(b3, row 71 [a])] :: N')) _ _
    exact a_y (y_assign rfl) fun w h => ⟨[], [], h, rfl⟩
  · intro s N' gN hall v7 d7 e7 f7 v9 d9 e9 f9
    obtain ⟨v, z, u, hv, m9⟩ := hall 8 (by decide)
    obtain ⟨b9, rfl⟩ := f7
    subst f9
    obtain ⟨g1, g2, M, hM⟩ := gN
    subst hM
    show Fin _ _ _ _ (K W (bxD 71 [.slice none 0 0] (s 7) (s 8) :: [(b7, row 71 [u7])] :: [(b4, row 71 [b])] :: [(b3, row 71 [a])] :: (M ++ N)))
    rw [z, e7]
    obtain ⟨v1, v2⟩ := v
    dsimp only at hv
    subst hv
    show Fin _ _ _ _ (K W ([(b9, row 71 [u])] :: [(b7, row 71 [u7])] :: [(b4, row 71 [b])] :: [(b3, row 71 [a])] :: (M ++ N)))
    refine f_then ?_
    refine c_seq ?_
    refine c_region ?_
    refine s_y (y_loadA Try.tab rfl rfl rfl rfl (cells_row0 1 rfl rfl)) rfl rfl rfl ?_
    refine s_y (y_loadA Try.tab rfl rfl rfl rfl (cells_row0 0 rfl rfl)) rfl rfl rfl ?_
    refine s_call (en_f rfl Try.call99) ncmp_spec rfl rfl rfl (fun _ => ?_)
    refine s_y (y_assign rfl) rfl rfl rfl ?_
    refine s_nil ?_
    refine f_then ?_
    refine c_ret ?_
    exact f_ret () (res1 rfl rfl) (fun w h => K.bck (M := _ :: _ :: _ :: _ :: M) h)
end Go.KL
end

section
/- Walks: times. -/
namespace Go.KL
open Go.Proofs
attribute [local irreducible] SC St Fin Sq Ylds Doos Sets Enters Spec CellIs CellsAre Then Ret Rnd Chn resOK ints bools recs arr
set_option maxRecDepth 10000 in
set_option maxHeartbeats 8000000 in
theorem times_spec {W : World} {N : List Chunk} {a : Value} {x m o : Nat} [ha : NatV (K W N) a x] (hx : wl x ≤ 10000) (hm : m < 9223372036854775808) (ho : o < 9223372036854775808) (ho0 : o ≠ 0) :
    Spec Try.prog 113 #[.agg #[a], .int .i64 (m : Int), .int .i64 (o : Int)] (K W N) (X := Res W N (cap (x * m) / o)) (fun r => .agg #[r.v]) (fun r => K W (r.L :: N)) := by
  refine enter (args := [_, _, _]) Try.func113 rfl Try.ntmps113 rfl ?_
  have hw2 : wl m ≤ 2 := bitw (by omega)
  have hw3 : wl (x * m) ≤ 10002 := wl_mul hx hw2
  have hw4 : wl (cap (x * m)) ≤ 10002 := by unfold cap; split; exact Nat.le_trans (Nat.le_of_eq wl_zero) (Nat.zero_le _); exact hw3
  refine c_seq ?_
  refine c_region ?_
  refine s_do (do_box rfl) rfl rfl rfl (fun b3 => ?_)
  refine s_do (do_alloc Try.tab rfl) rfl rfl rfl (fun b6 => ?_)
  refine s_nil ?_
  refine f_then ?_
  refine c_seq ?_
  refine c_then_cut (α := List Chunk × Nat × Value) (fun z => [(2, .int .i64 (o : Int)), (6, .pointer (some ⟨b6, 0, none⟩)), (7, .pointer (some ⟨z.2.1, 0, none⟩))]) (fun z => (NatV (K W z.1) a x ∧ ∃ M, z.1 = M ++ N) ∧ NatV (K W z.1) z.2.2 (cap (x * m))) (fun z => K W ([(z.2.1, row 71 [z.2.2])] :: [(b6, row 71 [.slice none 0 0])] :: [(b3, row 71 [a])] :: z.1)) ?_ ?_
  · refine c_drawn [(1, .int .i64 (m : Int)), (2, .int .i64 (o : Int)), (3, .pointer (some ⟨b3, 0, none⟩)), (6, .pointer (some ⟨b6, 0, none⟩))] [[], [], [(1, 11)], [(0, 10), (2, 12)], [(3, 13)], [(4, 9)], [(4, 9)], [], [(7, 7), (5, 14)], [(6, 15)]] [(7, 7), (9, 8)] (fun s => [bxD 71 [.slice none 0 0] (s 7) (s 8), [(b6, row 71 [.slice none 0 0])], [(b3, row 71 [a])]])
      [fun _ v _ => .agg #[a] = v, fun _ v _ => .int .i64 (m : Int) = v, fun N v _ => ∃ u, .agg #[u] = v ∧ NatV (K W N) u (m), fun N v _ => ∃ u, .tuple #[.agg #[u], .int .i64 (capE (x * m))] = v ∧ NatV (K W N) u (cap (x * m)), fun N v _ => ∃ u, .tuple #[.agg #[u], .int .i64 (capE (x * m))] = v ∧ NatV (K W N) u (cap (x * m)), fun N v _ => ∃ u, .agg #[u] = v ∧ NatV (K W N) u (cap (x * m)), fun _ v _ => Value.int .i64 (capE (x * m)) = v, fun _ v _ => ∃ b, Value.pointer (some ⟨b, 0, none⟩) = v, fun N _ c => ∃ u, [(0, row 71 [u])] = c ∧ NatV (K W N) u (cap (x * m)), fun _ v _ => Value.int .i64 (capE (x * m)) = v]
      N (fun N' => NatV (K W N') a (x) ∧ ∃ M, N' = M ++ N) ⟨inferInstance, [], rfl⟩ (fun M N' ⟨h0, M2, e⟩ => ⟨h0.cls fun _ k => k.bck, M ++ M2, by rw [e, List.append_assoc]⟩) Try.mixed (by kernel_rfl) rfl ⟨rfl, rfl, rfl, rfl, trivial⟩ (fun w h => h.addNil)
      ⟨fun _ _ _ _ h => h, fun _ _ _ _ h => h, fun _ _ _ _ ⟨u, e, h⟩ => ⟨u, e, h.cls fun _ k => k.bck⟩, fun _ _ _ _ ⟨u, e, h⟩ => ⟨u, e, h.cls fun _ k => k.bck⟩, fun _ _ _ _ ⟨u, e, h⟩ => ⟨u, e, h.cls fun _ k => k.bck⟩, fun _ _ _ _ ⟨u, e, h⟩ => ⟨u, e, h.cls fun _ k => k.bck⟩, fun _ _ _ _ h => h, fun _ _ _ _ h => h, fun _ _ _ _ ⟨u, e, h⟩ => ⟨u, e, h.cls fun _ k => k.bck⟩, fun _ _ _ _ h => h, trivial⟩
      ⟨?_, ?_, ?_, ?_, ?_, ?_, ?_, ?_, ?_, ?_, trivial⟩ ?_
    · intro s N' gN h0 hn0
      show Acts _ _ _ (K W (bxD 71 [.slice none 0 0] (s 7) (s 8) :: [(b6, row 71 [.slice none 0 0])] :: [(b3, row 71 [a])] :: N')) _ _
      exact a_y (y_loadA Try.tab rfl rfl rfl rfl (cells_row0 2 rfl rfl)) fun w h => ⟨[], [], h, rfl⟩
    · intro s N' gN h0 hn0
      show Acts _ _ _ (K W (bxD 71 [.slice none 0 0] (s 7) (s 8) :: [(b6, row 71 [.slice none 0 0])] :: [(b3, row 71 [a])] :: N')) _ _
      exact a_y (y_move rfl) fun w h => ⟨[], [], h, rfl⟩
    · rintro s N' gN h0 hn0 v1 d1 e1 rfl
      show Acts _ _ _ (K W (bxD 71 [.slice none 0 0] (s 7) (s 8) :: [(b6, row 71 [.slice none 0 0])] :: [(b3, row 71 [a])] :: N')) _ _
      haveI := gN.1
      exact a_call (en_f rfl Try.call98) (bx3 (u := fun v => .agg #[v]) (whole_spec (x := m) (by omega)) (by rw [boxes_bxD]; rfl)) fun r w h => ⟨[r.L], [], h, r.v, rfl, r.ok⟩
    · rintro s N' gN h0 hn0 v0 d0 e0 rfl v2 d2 e2 ⟨uz2, rfl, mz2⟩
      show Acts _ _ _ (K W (bxD 71 [.slice none 0 0] (s 7) (s 8) :: [(b6, row 71 [.slice none 0 0])] :: [(b3, row 71 [a])] :: N')) _ _
      haveI := gN.1
      haveI : NatV (K W N') uz2 (m) := mz2
      exact a_call (en_f rfl Try.call97) (bx3 (u := fun v => .tuple #[.agg #[v], .int .i64 (capE (x * m))]) (nmul_spec (by omega) (by omega)) (by rw [boxes_bxD]; rfl)) fun r w h => ⟨[r.L], [], h, r.v, rfl, r.ok⟩
    · rintro s N' gN h0 hn0 v3 d3 e3 ⟨uz3, rfl, mz3⟩
      show Acts _ _ _ (K W (bxD 71 [.slice none 0 0] (s 7) (s 8) :: [(b6, row 71 [.slice none 0 0])] :: [(b3, row 71 [a])] :: N')) _ _
      exact a_y (y_move rfl) fun w h => ⟨[], [], h, uz3, rfl, mz3⟩
    · rintro s N' gN h0 hn0 v4 d4 e4 ⟨uz4, rfl, mz4⟩
      show Acts _ _ _ (K W (bxD 71 [.slice none 0 0] (s 7) (s 8) :: [(b6, row 71 [.slice none 0 0])] :: [(b3, row 71 [a])] :: N')) _ _
      exact a_y (y_extract rfl rfl) fun w h => ⟨[], [], h, uz4, rfl, mz4⟩
    · rintro s N' gN h0 hn0 v4 d4 e4 ⟨uz4, rfl, mz4⟩
      show Acts _ _ _ (K W (bxD 71 [.slice none 0 0] (s 7) (s 8) :: [(b6, row 71 [.slice none 0 0])] :: [(b3, row 71 [a])] :: N')) _ _
      exact a_y (y_extract rfl rfl) fun w h => ⟨[], [], h, rfl⟩
    · intro s N' gN h0 hn0
      show Acts _ _ _ (K W (bxD 71 [.slice none 0 0] (s 7) (s 8) :: [(b6, row 71 [.slice none 0 0])] :: [(b3, row 71 [a])] :: N')) _ _
      have hz : s 8 = none := hn0 8 rfl
      have hy : s 7 = none := h0
      rw [hy, hz]
      show Acts _ _ _ (K W ([] :: [(b6, row 71 [.slice none 0 0])] :: [(b3, row 71 [a])] :: N')) _ _
      exact a_do (do_alloc Try.tab rfl) fun bz w h => ⟨[], [], (by show K W (bxD 71 [.slice none 0 0] (some (.pointer (some ⟨bz, 0, none⟩), [])) (s 8) :: [(b6, row 71 [.slice none 0 0])] :: [(b3, row 71 [a])] :: N') w; rw [hz]; exact h.weak [] (by simp [bxD, Value.cells])), bz, rfl⟩
    · rintro s N' gN h0 hn0 v7 d7 e7 ⟨bz7, rfl⟩ v5 d5 e5 ⟨uz5, rfl, mz5⟩
      show Acts _ _ _ (K W (bxD 71 [.slice none 0 0] (s 7) (s 8) :: [(b6, row 71 [.slice none 0 0])] :: [(b3, row 71 [a])] :: N')) _ _
      have hy : s 8 = none := h0
      rw [e7, hy]
      show Acts _ _ _ (K W ([(bz7, row 71 [.slice none 0 0])] :: [(b6, row 71 [.slice none 0 0])] :: [(b3, row 71 [a])] :: N')) _ _
      haveI : NatV (K W N') uz5 (cap (x * m)) := mz5
      exact a_set (set_71 0 rfl rfl rfl rfl) fun w h => ⟨[], [(0, row 71 [uz5])], (by show K W (bxD 71 [.slice none 0 0] (s 7) (some (undef, [(0, row 71 [uz5])])) :: [(b6, row 71 [.slice none 0 0])] :: [(b3, row 71 [a])] :: N') w; rw [e7]; exact h), uz5, rfl, mz5⟩
    · rintro s N' gN h0 hn0 v6 d6 e6 rfl
      show Acts _ _ _ (K W (bxD 71 [.slice none 0 0] (s 7) (s 8) :: [(b6, row 71 [.slice none 0 0])] :: [(b3, row 71 [a])] :: N')) _ _
      exact a_y (y_assign rfl) fun w h => ⟨[], [], h, rfl⟩
    · intro s N' gN hall v7 d7 e7 f7 v9 d9 e9 f9
      obtain ⟨v, z, u, hv, m7⟩ := hall 8 (by decide)
      obtain ⟨b7, rfl⟩ := f7
      show Fin _ _ _ _ (K W (bxD 71 [.slice none 0 0] (s 7) (s 8) :: [(b6, row 71 [.slice none 0 0])] :: [(b3, row 71 [a])] :: N'))
      rw [z, e7]
      exact f_cutP (N', b7, u) ⟨gN, m7⟩ ⟨rfl, rfl, rfl, trivial⟩ (fun w h => (by obtain ⟨v1, v2⟩ := v; dsimp only at hv; subst hv; exact h))
  clear ha
  rintro ⟨N1, b7, u7⟩ ⟨⟨ha, M1, hN1⟩, h7⟩
  dsimp only at ha hN1 h7 ⊢
  refine c_seq ?_
  refine c_drawn [(2, .int .i64 (o : Int)), (6, .pointer (some ⟨b6, 0, none⟩)), (7, .pointer (some ⟨b7, 0, none⟩))] [[], [], [(1, 18)], [(0, 17), (2, 19)], [(3, 20)], [(4, 16)], [(4, 16)], [(4, 16)], [(5, 21), (0, 17), (2, 19), (3, 20), (4, 16)]] [] (fun s => [bxO (s 8) [(b7, row 71 [u7])], [(b6, row 71 [.slice none 0 0])], [(b3, row 71 [a])]])
    [fun _ v _ => Value.agg #[u7] = v, fun _ v _ => .int .i64 (o : Int) = v, fun N v _ => ∃ u, .agg #[u] = v ∧ NatV (K W N) u o, fun N v _ => ∃ u w, .tuple #[.agg #[u], .agg #[w], .int .i64 0] = v ∧ NatV (K W N) u (cap (x * m) / o) ∧ NatV (K W N) w (cap (x * m) % o), fun N v _ => ∃ u w, .tuple #[.agg #[u], .agg #[w], .int .i64 0] = v ∧ NatV (K W N) u (cap (x * m) / o) ∧ NatV (K W N) w (cap (x * m) % o), fun N v _ => ∃ u, .agg #[u] = v ∧ NatV (K W N) u (cap (x * m) / o), fun _ _ _ => True, fun _ _ _ => True, fun N _ c => ∃ u, [(b7, row 71 [u])] = c ∧ NatV (K W N) u (cap (x * m) / o)]
    N1 (fun N' => NatV (K W N') a (x) ∧ NatV (K W N') u7 (cap (x * m)) ∧ ∃ M, N' = M ++ N) ⟨inferInstance, inferInstance, M1, hN1⟩ (fun M N' ⟨h0, h1, M2, e⟩ => ⟨h0.cls fun _ k => k.bck, h1.cls fun _ k => k.bck, M ++ M2, by rw [e, List.append_assoc]⟩) Try.mixed (by kernel_rfl) rfl ⟨rfl, rfl, rfl, trivial⟩ (fun w h => h)
    ⟨fun _ _ _ _ h => h, fun _ _ _ _ h => h, fun _ _ _ _ ⟨u, e, h⟩ => ⟨u, e, h.cls fun _ k => k.bck⟩, fun _ _ _ _ ⟨u, w, e, h1, h2⟩ => ⟨u, w, e, h1.cls fun _ k => k.bck, h2.cls fun _ k => k.bck⟩, fun _ _ _ _ ⟨u, w, e, h1, h2⟩ => ⟨u, w, e, h1.cls fun _ k => k.bck, h2.cls fun _ k => k.bck⟩, fun _ _ _ _ ⟨u, e, h⟩ => ⟨u, e, h.cls fun _ k => k.bck⟩, fun _ _ _ _ h => h, fun _ _ _ _ h => h, fun _ _ _ _ ⟨u, e, h⟩ => ⟨u, e, h.cls fun _ k => k.bck⟩, trivial⟩
    ⟨?_, ?_, ?_, ?_, ?_, ?_, ?_, ?_, ?_, trivial⟩ ?_
  · intro s N' gN h0 hn0
    show Acts _ _ _ (K W (bxO (s 8) [(b7, row 71 [u7])] :: [(b6, row 71 [.slice none 0 0])] :: [(b3, row 71 [a])] :: N')) _ _
    have hz : s 8 = none := hn0 8 rfl
    rw [hz]
    show Acts _ _ _ (K W ([(b7, row 71 [u7])] :: [(b6, row 71 [.slice none 0 0])] :: [(b3, row 71 [a])] :: N')) _ _
    exact a_y (y_loadA Try.tab rfl rfl rfl rfl (cells_row0 0 rfl rfl)) fun w h => ⟨[], [], (by show K W (bxO (s 8) [(b7, row 71 [u7])] :: [(b6, row 71 [.slice none 0 0])] :: [(b3, row 71 [a])] :: N') w; rw [hz]; exact h), rfl⟩
  · intro s N' gN h0 hn0
    show Acts _ _ _ (K W (bxO (s 8) [(b7, row 71 [u7])] :: [(b6, row 71 [.slice none 0 0])] :: [(b3, row 71 [a])] :: N')) _ _
    exact a_y (y_move rfl) fun w h => ⟨[], [], h, rfl⟩
  · rintro s N' gN h0 hn0 v1 d1 e1 rfl
    show Acts _ _ _ (K W (bxO (s 8) [(b7, row 71 [u7])] :: [(b6, row 71 [.slice none 0 0])] :: [(b3, row 71 [a])] :: N')) _ _
    have hz : s 8 = none := hn0 8 rfl
    rw [hz]
    show Acts _ _ _ (K W ([(b7, row 71 [u7])] :: [(b6, row 71 [.slice none 0 0])] :: [(b3, row 71 [a])] :: N')) _ _
    haveI := gN.1
    haveI := gN.2.1
    exact a_call (en_f rfl Try.call98) (bx3 (u := fun v => .agg #[v]) (whole_spec (x := o) ho) rfl) fun r w h => ⟨[r.L], [], (by show K W (bxO (s 8) [(b7, row 71 [u7])] :: [(b6, row 71 [.slice none 0 0])] :: [(b3, row 71 [a])] :: r.L :: N') w; rw [hz]; exact h), r.v, rfl, r.ok⟩
  · rintro s N' gN h0 hn0 v0 d0 e0 rfl v2 d2 e2 ⟨u2, rfl, m2⟩
    show Acts _ _ _ (K W (bxO (s 8) [(b7, row 71 [u7])] :: [(b6, row 71 [.slice none 0 0])] :: [(b3, row 71 [a])] :: N')) _ _
    have hz : s 8 = none := hn0 8 rfl
    rw [hz]
    show Acts _ _ _ (K W ([(b7, row 71 [u7])] :: [(b6, row 71 [.slice none 0 0])] :: [(b3, row 71 [a])] :: N')) _ _
    haveI := gN.1
    haveI := gN.2.1
    haveI : NatV (K W N') u2 o := m2
    exact a_call (en_f rfl Try.call135) (by3 (u2 := fun v w => .tuple #[.agg #[v], .agg #[w], .int .i64 0]) (ndivMod_spec (x := cap (x * m)) (y := o) (by omega) ho0) rfl) fun r w h => ⟨[r.L], [], (by show K W (bxO (s 8) [(b7, row 71 [u7])] :: [(b6, row 71 [.slice none 0 0])] :: [(b3, row 71 [a])] :: r.L :: N') w; rw [hz]; exact h), r.v1, r.v2, rfl, r.ok1, r.ok2⟩
  · rintro s N' gN h0 hn0 v3 d3 e3 ⟨u3, w3, rfl, m3, l3⟩
    show Acts _ _ _ (K W (bxO (s 8) [(b7, row 71 [u7])] :: [(b6, row 71 [.slice none 0 0])] :: [(b3, row 71 [a])] :: N')) _ _
    have hz : s 8 = none := hn0 8 rfl
    rw [hz]
    show Acts _ _ _ (K W ([(b7, row 71 [u7])] :: [(b6, row 71 [.slice none 0 0])] :: [(b3, row 71 [a])] :: N')) _ _
    exact a_y (y_move rfl) fun w h => ⟨[], [], (by show K W (bxO (s 8) [(b7, row 71 [u7])] :: [(b6, row 71 [.slice none 0 0])] :: [(b3, row 71 [a])] :: N') w; rw [hz]; exact h), u3, w3, rfl, m3, l3⟩
  · rintro s N' gN h0 hn0 v4 d4 e4 ⟨u4, w4, rfl, m4, l4⟩
    show Acts _ _ _ (K W (bxO (s 8) [(b7, row 71 [u7])] :: [(b6, row 71 [.slice none 0 0])] :: [(b3, row 71 [a])] :: N')) _ _
    have hz : s 8 = none := hn0 8 rfl
    rw [hz]
    show Acts _ _ _ (K W ([(b7, row 71 [u7])] :: [(b6, row 71 [.slice none 0 0])] :: [(b3, row 71 [a])] :: N')) _ _
    exact a_y (y_extract rfl rfl) fun w h => ⟨[], [], (by show K W (bxO (s 8) [(b7, row 71 [u7])] :: [(b6, row 71 [.slice none 0 0])] :: [(b3, row 71 [a])] :: N') w; rw [hz]; exact h), u4, rfl, m4⟩
  · rintro s N' gN h0 hn0 v4 d4 e4 ⟨u4, w4, rfl, m4, l4⟩
    show Acts _ _ _ (K W (bxO (s 8) [(b7, row 71 [u7])] :: [(b6, row 71 [.slice none 0 0])] :: [(b3, row 71 [a])] :: N')) _ _
    exact a_y (y_extract rfl rfl) fun w h => ⟨[], [], h, trivial⟩
  · rintro s N' gN h0 hn0 v4 d4 e4 ⟨u4, w4, rfl, m4, l4⟩
    show Acts _ _ _ (K W (bxO (s 8) [(b7, row 71 [u7])] :: [(b6, row 71 [.slice none 0 0])] :: [(b3, row 71 [a])] :: N')) _ _
    exact a_y (y_extract rfl rfl) fun w h => ⟨[], [], h, trivial⟩
  · rintro s N' gN h0 hn0 v5 d5 e5 ⟨u5, rfl, m5⟩ v0 d0 e0 rfl v2 d2 e2 ⟨u2, rfl, m2⟩ v3 d3 e3 ⟨u3, w3, rfl, m3, l3⟩ v4 d4 e4 ⟨u4, w4, rfl, m4, l4⟩
    show Acts _ _ _ (K W (bxO (s 8) [(b7, row 71 [u7])] :: [(b6, row 71 [.slice none 0 0])] :: [(b3, row 71 [a])] :: N')) _ _
    have hz : s 8 = none := h0
    rw [hz]
    show Acts _ _ _ (K W ([(b7, row 71 [u7])] :: [(b6, row 71 [.slice none 0 0])] :: [(b3, row 71 [a])] :: N')) _ _
    haveI : NatV (K W N') u5 (cap (x * m) / o) := m5
    exact a_set (set_71 0 rfl rfl rfl rfl) fun w h => ⟨[], [(b7, row 71 [u5])], h, u5, rfl, m5⟩
  · intro s N' gN hall
    obtain ⟨v, z, u, hv, m9⟩ := hall 8 (by decide)
    obtain ⟨g1, g2, M, hM⟩ := gN
    subst hM
    show Fin _ _ _ _ (K W (bxO (s 8) [(b7, row 71 [u7])] :: [(b6, row 71 [.slice none 0 0])] :: [(b3, row 71 [a])] :: (M ++ N)))
    rw [z]
    show Fin _ _ _ _ (K W (v.2 :: [(b6, row 71 [.slice none 0 0])] :: [(b3, row 71 [a])] :: (M ++ N)))
    rw [← hv]
    refine f_then ?_
    refine c_seq ?_
    refine c_region ?_
    refine s_y (y_loadA Try.tab rfl rfl rfl rfl (cells_row0 0 rfl rfl)) rfl rfl rfl ?_
    refine s_set (set_71 1 rfl rfl rfl rfl) rfl rfl ?_
    refine s_nil ?_
    refine f_then ?_
    refine c_ret ?_
    exact f_ret (Res.of m9) (resA Try.tab rfl rfl rfl rfl rfl (cells_row0 1 rfl rfl)) (fun w h => Res.of_cls m9 h.tail.tail.tail)
end Go.KL
end

section
/- Walks: terms, as it is given. -/
namespace Go.KL
open Go.Proofs
instance NatV.bckI {W : World} {F N : List Chunk} {v : Value} {x : Nat} [h : NatV (K W N) v x] : NatV (K W (F ++ N)) v x := h.cls fun _ h => h.bck
attribute [local irreducible] SC St Fin Sq Ylds Doos Sets Enters Spec CellIs CellsAre Then Ret Rnd Chn resOK ints bools recs arr
set_option maxRecDepth 10000 in
set_option maxHeartbeats 8000000 in
theorem terms_spec {W : World} {N : List Chunk} {lot bad n : Int} :
    Spec Try.prog 72 #[.int .i64 lot, .int .i64 bad, .int .i64 n] (K W N) (X := Nat × Nat × Nat) (fun z => .func (.func 112) #[] #[.pointer (some ⟨z.1, 0, none⟩), .pointer (some ⟨z.2.1, 0, none⟩), .pointer (some ⟨z.2.2, 0, none⟩)])
      (fun z => K W ([(z.2.2, row 3 [.int .i64 n])] :: [(z.2.1, row 3 [.int .i64 bad])] :: [(z.1, row 3 [.int .i64 lot])] :: N)) := by
  refine enter (args := [_, _, _]) Try.func72 rfl Try.ntmps72 rfl ?_
  refine c_seq ?_
  refine c_region ?_
  refine s_do (do_box rfl) rfl rfl rfl (fun b3 => ?_)
  refine s_do (do_box rfl) rfl rfl rfl (fun b4 => ?_)
  refine s_do (do_box rfl) rfl rfl rfl (fun b5 => ?_)
  refine s_y (y_assign rfl) rfl rfl rfl ?_
  refine s_nil ?_
  refine f_then ?_
  refine c_seq ?_
  refine c_region ?_
  refine s_y (y_makeFunc rfl rfl) rfl rfl rfl ?_
  refine s_y (y_assign rfl) rfl rfl rfl ?_
  refine s_nil ?_
  refine f_then ?_
  refine c_ret ?_
  exact f_ret (b3, b4, b5) (res1 rfl rfl) (fun w h => h)
end Go.KL
end

section
/- Walks: terms' closure. -/
namespace Go.KL
open Go.Proofs
/-- How many samples have i bad pieces. -/
def tm (good bad n i : Nat) : Nat := bino bad i * bino good (n - i)
theorem bino_nextA {n k : Nat} (h : k ≤ n) : bino n (k + 1) = bino n k * (n - k) / (k + 1) := by
  rcases Nat.lt_or_ge k n with q | q
  · rw [bino_next q, Nat.mul_div_cancel _ (Nat.succ_pos k)]
  · obtain rfl : k = n := by omega
    rw [Nat.sub_self, Nat.mul_zero, Nat.zero_div, bino_out (Nat.lt_succ_self k)]
theorem bino_back {g n i o : Nat} (hi : i + 1 ≤ n) (hg : n ≤ g + i) (ho : o = g + i + 1 - n) : bino g (n - i) * (n - i) / o = bino g (n - (i + 1)) := by
  have h := bino_next (n := g) (k := n - (i + 1)) (by omega)
  rw [show n - (i + 1) + 1 = n - i by omega, show g - (n - (i + 1)) = o by omega] at h
  rw [← h, Nat.mul_div_cancel _ (by omega)]
theorem two_lt {x y a b : Nat} (hx : x ≤ 2 ^ a) (hy : y ≤ 2 ^ b) (h : a + b < 16384) : x * y < 2 ^ 16384 := by
  obtain ⟨e, he⟩ : ∃ e, e = 16384 := ⟨_, rfl⟩
  rw [← he] at h ⊢
  refine Nat.lt_of_le_of_lt (Nat.mul_le_mul hx hy) ?_
  rw [← Nat.pow_add]
  exact Nat.pow_lt_pow_right (by decide) h
theorem bl_capE {x : Nat} (h : x < 2 ^ 16384) : capE x = 0 := if_neg (by
  have := (bl_le (x := x) (k := 16384)).2 h
  unfold big
  omega)
theorem bl_cap {x : Nat} (h : x < 2 ^ 16384) : cap x = x := if_neg (by
  have := (bl_le (x := x) (k := 16384)).2 h
  unfold big
  omega)
theorem YSpec.conv {P : Program} {l : Nat} {args : Array Value} {C D : World → Prop} {X : Type} {v : X → Value} {C' D' : X → World → Prop} (h : YSpec P l args C v C') (h1 : ∀ w, D w → C w) (h2 : ∀ x w, C' x w → D' x w) : YSpec P l args D v D' := by
  intro w hw
  obtain ⟨fn, tmps, assign, body, hy, hR⟩ := h w (h1 w hw)
  exact ⟨fn, tmps, assign, body, hy, hR.mono fun e w' ⟨x, he, hx⟩ => ⟨x, he, h2 x w' hx⟩⟩
attribute [local irreducible] SC St Fin Sq Ylds Doos Sets Enters Spec CellIs CellsAre Then Ret Rnd Chn resOK ints bools recs arr
theorem nmul0_spec {W : World} {N : List Chunk} {a b : Value} {x y z : Nat} [ha : NatV (K W N) a x] [hb : NatV (K W N) b y] (hz : z = x * y) (h : x * y < 2 ^ 16384) (hx : wl x ≤ 100000) (hy : wl y ≤ 100000) :
    Spec Try.prog 97 #[.agg #[a], .agg #[b]] (K W N) (X := Res W N z) (fun r => .tuple #[.agg #[r.v], .int .i64 0]) (fun r => K W (r.L :: N)) := by
  have h1 := nmul_spec (a := a) (b := b) (x := x) (y := y) (W := W) (N := N) hx hy
  rw [bl_cap h, bl_capE h, ← hz] at h1
  exact h1
theorem times0_spec {W : World} {N : List Chunk} {a : Value} {x m o z : Nat} [ha : NatV (K W N) a x] (hz : z = x * m / o) (h : x * m < 2 ^ 16384) (hx : wl x ≤ 10000) (hm : m < 9223372036854775808) (ho : o < 9223372036854775808) (ho0 : o ≠ 0) :
    Spec Try.prog 113 #[.agg #[a], .int .i64 (m : Int), .int .i64 (o : Int)] (K W N) (X := Res W N z) (fun r => .agg #[r.v]) (fun r => K W (r.L :: N)) := by
  have h1 := times_spec (a := a) (x := x) (m := m) (o := o) (W := W) (N := N) hx hm ho ho0
  rw [bl_cap h, ← hz] at h1
  exact h1
/-- What a caller makes of the rounds. -/
structure Rounds (W : World) (l : Nat) (k : Lp) (hi : Nat) (T : Nat → Nat) (Z : Type) (Bx : Z → List Chunk) (J : Nat → Z → List Chunk → Prop) (E : Z → List Chunk → Code → Prop) : Prop where
  bx : ∀ z, boxes (Bx z) = true
  mono : ∀ i z M N, J i z N → J i z (M ++ N)
  monoE : ∀ z M N c, E z N c → E z (M ++ N) c
  yield : ∀ (i : Nat) (z : Z) (N' F0 : List Chunk) (u : Value), i ≤ hi → boxes F0 = true → J i z N' → NatV (K W N') u (T i) →
    YSpec Try.prog l #[.int .i64 (i : Int), .agg #[u]] (K W ([(l, k.rdy)] :: (Bx z ++ (F0 ++ N')))) (X := { x : Z × List Chunk × Option Code // (x.2.2 = none → J (i + 1) x.1 (x.2.1 ++ N')) ∧ ∀ c, x.2.2 = some c → E x.1 (x.2.1 ++ N') c })
      (fun x => .bool x.1.2.2.isNone) (fun x => K W ([(l, k.aft x.1.2.2)] :: (Bx x.1.1 ++ (F0 ++ (x.1.2.1 ++ N')))))
set_option maxRecDepth 10000 in
set_option maxHeartbeats 16000000 in
theorem terms1_spec {W : World} {N : List Chunk} {l lot bad n : Nat} {k : Lp} {b1 b2 b3 : Nat} {Z : Type} {Bx : Z → List Chunk} {J : Nat → Z → List Chunk → Prop} {E : Z → List Chunk → Code → Prop} {z0 : Z} (hlot : lot ≤ 4096) (hbad : bad ≤ lot) (hn : n ≤ lot)
    (hR : Rounds W l k (min n bad) (tm (lot - bad) bad n) Z Bx J E) (hJ : J (n - (lot - bad)) z0 N) :
    Spec Try.prog 112 #[.func (.yield l) #[] #[], .pointer (some ⟨b1, 0, none⟩), .pointer (some ⟨b2, 0, none⟩), .pointer (some ⟨b3, 0, none⟩)]
      (K W ([(b3, row 3 [.int .i64 (n : Int)])] :: [(b2, row 3 [.int .i64 (bad : Int)])] :: [(b1, row 3 [.int .i64 (lot : Int)])] :: ([(l, k.rdy)] :: (Bx z0 ++ N))))
      (X := { x : Z × List Chunk × Option Code // (x.2.2 = none → J (min n bad + 1) x.1 (x.2.1 ++ N)) ∧ ∀ c, x.2.2 = some c → E x.1 (x.2.1 ++ N) c }) (fun _ => .tuple #[])
      (fun x => K W ([(l, k.aft x.1.2.2)] :: (Bx x.1.1 ++ (x.1.2.1 ++ N)))) := by
  refine enter (args := [_, _, _, _]) Try.func112 rfl Try.ntmps112 rfl ?_
  obtain ⟨g, hg⟩ : ∃ g, g = lot - bad := ⟨_, rfl⟩
  rw [← hg] at hR hJ
  have hgI : (lot : Int) - (bad : Int) = (g : Int) := by omega
  obtain ⟨lo, hlo⟩ : ∃ lo, lo = n - g := ⟨_, rfl⟩
  have hloI : max 0 ((n : Int) - (g : Int)) = (lo : Int) := by omega
  have hnl : (n : Int) - (lo : Int) = ((n - lo : Nat) : Int) := by omega
  rw [← hlo] at hJ
  refine c_seq ?_
  refine c_region ?_
  refine s_y (y_load Try.tab rfl rfl (cell_row 2 rfl rfl)) rfl rfl rfl ?_
  refine s_y (y_load Try.tab rfl rfl (cell_row 1 rfl rfl)) rfl rfl rfl ?_
  refine s_y (y_sub rfl rfl (by omega)) rfl rfl rfl ?_
  refine s_y (y_assign rfl) rfl rfl rfl ?_
  refine s_nil ?_
  refine f_then ?_
  refine c_seq ?_
  refine c_region ?_
  refine s_y (y_load Try.tab rfl rfl (cell_row 0 rfl rfl)) rfl rfl rfl ?_
  refine s_y (y_move rfl) rfl rfl rfl ?_
  refine s_y (y_sub rfl rfl (by omega)) rfl rfl rfl ?_
  refine s_y (y_max rfl rfl) rfl rfl rfl ?_
  refine s_y (y_assign rfl) rfl rfl rfl ?_
  refine s_nil ?_
  refine f_then ?_
  refine c_seq ?_
  refine c_region ?_
  refine s_y (y_load Try.tab rfl rfl (cell_row 1 rfl rfl)) rfl rfl rfl ?_
  refine s_y (y_move rfl) rfl rfl rfl ?_
  rw [hgI, hloI]
  have hF1 : boxes ([(b3, row 3 [.int .i64 (n : Int)])] :: [(b2, row 3 [.int .i64 (bad : Int)])] :: [(b1, row 3 [.int .i64 (lot : Int)])] :: [(l, k.rdy)] :: Bx z0) = true := hR.bx z0
  refine s_call (en_f rfl Try.call89) (Spec.boxed (u := fun v => .tuple #[.agg #[v], .int .i64 0]) ([(b3, row 3 [.int .i64 (n : Int)])] :: [(b2, row 3 [.int .i64 (bad : Int)])] :: [(b1, row 3 [.int .i64 (lot : Int)])] :: [(l, k.rdy)] :: Bx z0) hF1 (binom_spec (n := bad) (k := lo) (by omega) (by omega))) rfl rfl rfl (fun r1 => ?_)
  refine s_y (y_move rfl) rfl rfl rfl ?_
  refine s_y (y_extract rfl rfl) rfl rfl rfl ?_
  refine s_y (y_extract rfl rfl) rfl rfl rfl ?_
  refine s_do (do_alloc Try.tab rfl) rfl rfl rfl (fun b7 => ?_)
  refine s_set (set_71 0 rfl rfl rfl rfl) rfl rfl ?_
  refine s_y (y_assign rfl) rfl rfl rfl ?_
  refine s_nil ?_
  refine f_then ?_
  refine c_seq ?_
  refine c_region ?_
  refine s_y (y_move rfl) rfl rfl rfl ?_
  refine s_y (y_load Try.tab rfl rfl (cell_row 1 rfl rfl)) rfl rfl rfl ?_
  refine s_y (y_move rfl) rfl rfl rfl ?_
  refine s_y (y_sub rfl rfl (by omega)) rfl rfl rfl ?_
  rw [hnl]
  have hF2 : boxes ([(b7, row 71 [r1.v])] :: [(b3, row 3 [.int .i64 (n : Int)])] :: [(b2, row 3 [.int .i64 (bad : Int)])] :: [(b1, row 3 [.int .i64 (lot : Int)])] :: [(l, k.rdy)] :: Bx z0) = true := hR.bx z0
  refine s_call (en_f rfl Try.call89) (Spec.boxed (u := fun v => .tuple #[.agg #[v], .int .i64 0]) ([(b7, row 71 [r1.v])] :: [(b3, row 3 [.int .i64 (n : Int)])] :: [(b2, row 3 [.int .i64 (bad : Int)])] :: [(b1, row 3 [.int .i64 (lot : Int)])] :: [(l, k.rdy)] :: Bx z0) hF2 (binom_spec (n := g) (k := n - lo) (by omega) (by omega))) rfl rfl rfl (fun r2 => ?_)
  refine s_y (y_move rfl) rfl rfl rfl ?_
  refine s_y (y_extract rfl rfl) rfl rfl rfl ?_
  refine s_y (y_extract rfl rfl) rfl rfl rfl ?_
  refine s_do (do_alloc Try.tab rfl) rfl rfl rfl (fun b9 => ?_)
  refine s_set (set_71 0 rfl rfl rfl rfl) rfl rfl ?_
  refine s_y (y_assign rfl) rfl rfl rfl ?_
  refine s_nil ?_
  refine f_then ?_
  refine c_block ?_
  refine c_loopP (α := Nat × Z × List Chunk × Value × Value × Nat) (fun s => [(0, .func (.yield l) #[] #[]), (1, .pointer (some ⟨b1, 0, none⟩)), (2, .pointer (some ⟨b2, 0, none⟩)), (3, .pointer (some ⟨b3, 0, none⟩)), (5, .int .i64 (g : Int)), (6, .int .i64 (s.1 : Int)), (7, .pointer (some ⟨b7, 0, none⟩)), (9, .pointer (some ⟨b9, 0, none⟩))])
    (fun s => lo ≤ s.1 ∧ s.1 ≤ min n bad + 1 ∧ J s.1 s.2.1 (s.2.2.1 ++ N) ∧ NatV (K W (s.2.2.1 ++ N)) s.2.2.2.1 (bino bad s.1) ∧ NatV (K W (s.2.2.1 ++ N)) s.2.2.2.2.1 s.2.2.2.2.2 ∧ (s.1 ≤ n → s.2.2.2.2.2 = bino g (n - s.1))) (fun s => K W ([(b9, row 71 [s.2.2.2.2.1])] :: [(b7, row 71 [s.2.2.2.1])] :: [(b3, row 3 [.int .i64 (n : Int)])] :: [(b2, row 3 [.int .i64 (bad : Int)])] :: [(b1, row 3 [.int .i64 (lot : Int)])] :: [(l, k.rdy)] :: (Bx s.2.1 ++ (s.2.2.1 ++ N)))) (fun s => min n bad + 1 - s.1) (lo, z0, [r2.L, r1.L], r1.v, r2.v, bino g (n - lo))
    ⟨rfl, rfl, rfl, rfl, rfl, rfl, rfl, rfl, trivial⟩ ⟨Nat.le_refl _, by dsimp only; omega, hR.mono _ _ [r2.L, r1.L] N hJ, (inferInstance : NatV (K W (r2.L :: r1.L :: N)) r1.v _), r2.ok, fun _ => rfl⟩ (fun w h => h) ?_
  clear hJ
  rintro ⟨i, z, M, va, vb, y⟩ ⟨hi1, hi2, hJ, hva, hvb, hy⟩
  dsimp only at hi1 hi2 hJ hva hvb hy ⊢
  have hmI : min (n : Int) (bad : Int) = ((min n bad : Nat) : Int) := by omega
  refine c_seq ?_
  refine c_seq ?_
  refine c_region ?_
  refine s_y (y_move rfl) rfl rfl rfl ?_
  refine s_y (y_load Try.tab rfl rfl (cell_row 2 rfl rfl)) rfl rfl rfl ?_
  refine s_y (y_load Try.tab rfl rfl (cell_row 3 rfl rfl)) rfl rfl rfl ?_
  refine s_y (y_min rfl rfl) rfl rfl rfl ?_
  refine s_y (y_leq rfl rfl) rfl rfl rfl ?_
  refine s_nil ?_
  refine f_then ?_
  refine c_condD rfl (fun hlt => ?_) (fun hge => ?_)
  · have him : i ≤ min n bad := by omega
    obtain rfl := hy (by omega)
    have hb1 := bino_le bad i
    have hb2 := bino_le g (n - i)
    have hprod : bino bad i * bino g (n - i) < 2 ^ 16384 := two_lt hb1 hb2 (by omega)
    have hw1 := wl_bino (n := bad) (i := i) (by omega)
    have hw2 := wl_bino (n := g) (i := n - i) (by omega)
    refine c_skip ?_
    refine f_then ?_
    refine c_seq ?_
    refine c_block ?_
    refine c_seq ?_
    refine c_region ?_
    refine s_y (y_loadA Try.tab rfl rfl rfl rfl (cells_row0 1 rfl rfl)) rfl rfl rfl ?_
    refine s_y (y_loadA Try.tab rfl rfl rfl rfl (cells_row0 0 rfl rfl)) rfl rfl rfl ?_
    have hF3 : boxes ([(b9, row 71 [vb])] :: [(b7, row 71 [va])] :: [(b3, row 3 [.int .i64 (n : Int)])] :: [(b2, row 3 [.int .i64 (bad : Int)])] :: [(b1, row 3 [.int .i64 (lot : Int)])] :: [(l, k.rdy)] :: Bx z) = true := hR.bx z
    refine s_call (en_f rfl Try.call97) (Spec.boxed (u := fun v => .tuple #[.agg #[v], .int .i64 0]) ([(b9, row 71 [vb])] :: [(b7, row 71 [va])] :: [(b3, row 3 [.int .i64 (n : Int)])] :: [(b2, row 3 [.int .i64 (bad : Int)])] :: [(b1, row 3 [.int .i64 (lot : Int)])] :: [(l, k.rdy)] :: Bx z) hF3 (nmul0_spec (z := tm g bad n i) rfl hprod (by omega) (by omega))) rfl rfl rfl (fun r3 => ?_)
    refine s_y (y_move rfl) rfl rfl rfl ?_
    refine s_y (y_extract rfl rfl) rfl rfl rfl ?_
    refine s_y (y_extract rfl rfl) rfl rfl rfl ?_
    refine s_do (do_alloc Try.tab rfl) rfl rfl rfl (fun b11 => ?_)
    refine s_set (set_71 0 rfl rfl rfl rfl) rfl rfl ?_
    refine s_y (y_assign rfl) rfl rfl rfl ?_
    refine s_nil ?_
    refine f_then ?_
    refine c_seq ?_
    refine c_seq ?_
    refine c_region ?_
    refine s_y (y_move rfl) rfl rfl rfl ?_
    refine s_y (y_move rfl) rfl rfl rfl ?_
    refine s_y (y_loadA Try.tab rfl rfl rfl rfl (cells_row0 0 rfl rfl)) rfl rfl rfl ?_
    refine s_yield (en_y rfl rfl) (YSpec.conv (hR.yield i z (r3.L :: (M ++ N)) [[(b11, row 71 [r3.v])], [(b9, row 71 [vb])], [(b7, row 71 [va])], [(b3, row 3 [.int .i64 (n : Int)])], [(b2, row 3 [.int .i64 (bad : Int)])], [(b1, row 3 [.int .i64 (lot : Int)])]] r3.v him rfl (hR.mono _ _ [r3.L] _ hJ) r3.ok) (fun w h => K.toM (M := [[(b11, row 71 [r3.v])], [(b9, row 71 [vb])], [(b7, row 71 [va])], [(b3, row 3 [.int .i64 (n : Int)])], [(b2, row 3 [.int .i64 (bad : Int)])], [(b1, row 3 [.int .i64 (lot : Int)])]]) (B := [(l, k.rdy)] :: Bx z) h) (D' := fun x => K W ([[(b11, row 71 [r3.v])], [(b9, row 71 [vb])], [(b7, row 71 [va])], [(b3, row 3 [.int .i64 (n : Int)])], [(b2, row 3 [.int .i64 (bad : Int)])], [(b1, row 3 [.int .i64 (lot : Int)])]] ++ (([(l, k.aft x.1.2.2)] :: Bx x.1.1) ++ (x.1.2.1 ++ (r3.L :: (M ++ N)))))) (fun x w h => K.toM (M := [(l, k.aft x.1.2.2)] :: Bx x.1.1) (B := [[(b11, row 71 [r3.v])], [(b9, row 71 [vb])], [(b7, row 71 [va])], [(b3, row 3 [.int .i64 (n : Int)])], [(b2, row 3 [.int .i64 (bad : Int)])], [(b1, row 3 [.int .i64 (lot : Int)])]]) h)) rfl rfl rfl (fun x => ?_)
    obtain ⟨⟨z', M', j⟩, hx1, hx2⟩ := x
    dsimp only at hx1 hx2 ⊢
    have eA : M' ++ r3.L :: (M ++ N) = (M' ++ r3.L :: M) ++ N := by simp
    rw [eA] at hx1 hx2 ⊢
    cases j with
    | some c =>
      refine s_y (y_notF rfl) rfl rfl rfl ?_
      refine s_nil ?_
      refine f_then ?_
      refine c_condT rfl ?_
      refine c_ret ?_
      refine f_thenR ?_
      refine f_blockR ?_
      refine f_thenR ?_
      refine f_rndR ?_
      refine f_blockR ?_
      exact f_ret ⟨(z', M' ++ r3.L :: M, some c), (fun e => by cases e), hx2⟩ (res0 rfl) (fun w h => h.tail.tail.tail.tail.tail.tail)
    | none =>
      have hJ2 := hx1 rfl
      obtain ⟨M2, hM2⟩ : ∃ M2, M2 = M' ++ r3.L :: M := ⟨_, rfl⟩
      haveI k1 : NatV (K W (M2 ++ N)) va (bino bad i) := by rw [hM2, ← eA]; infer_instance
      haveI k2 : NatV (K W (M2 ++ N)) vb (bino g (n - i)) := by rw [hM2, ← eA]; infer_instance
      rw [← hM2] at hJ2 ⊢
      have i1 : (bad : Int) - (i : Int) = ((bad - i : Nat) : Int) := by omega
      have i2 : (i : Int) + 1 = ((i + 1 : Nat) : Int) := by omega
      refine s_y (y_notT rfl) rfl rfl rfl ?_
      refine s_nil ?_
      refine f_then ?_
      refine c_condF rfl ?_
      refine c_skip ?_
      refine f_then ?_
      refine c_seq ?_
      refine c_region ?_
      refine s_y (y_loadA Try.tab rfl rfl rfl rfl (cells_row0 2 rfl rfl)) rfl rfl rfl ?_
      refine s_y (y_load Try.tab rfl rfl (cell_row 4 rfl rfl)) rfl rfl rfl ?_
      refine s_y (y_move rfl) rfl rfl rfl ?_
      refine s_y (y_sub rfl rfl (by omega)) rfl rfl rfl ?_
      refine s_y (y_move rfl) rfl rfl rfl ?_
      refine s_y (y_add rfl rfl (by omega)) rfl rfl rfl ?_
      rw [i1, i2]
      have hq1 : bino bad i * (bad - i) < 2 ^ 16384 := two_lt hb1 (show bad - i ≤ 2 ^ 12 by omega) (by omega)
      have hq2 : bino g (n - i) * (n - i) < 2 ^ 16384 := two_lt hb2 (show n - i ≤ 2 ^ 12 by omega) (by omega)
      have hF4 : boxes ([(b11, row 71 [r3.v])] :: [(b9, row 71 [vb])] :: [(b7, row 71 [va])] :: [(b3, row 3 [.int .i64 (n : Int)])] :: [(b2, row 3 [.int .i64 (bad : Int)])] :: [(b1, row 3 [.int .i64 (lot : Int)])] :: [(l, k.aft none)] :: Bx z') = true := hR.bx z'
      refine s_call (en_f rfl Try.call113) (Spec.boxed (u := fun v => .agg #[v]) ([(b11, row 71 [r3.v])] :: [(b9, row 71 [vb])] :: [(b7, row 71 [va])] :: [(b3, row 3 [.int .i64 (n : Int)])] :: [(b2, row 3 [.int .i64 (bad : Int)])] :: [(b1, row 3 [.int .i64 (lot : Int)])] :: [(l, k.aft none)] :: Bx z') hF4 (times0_spec (z := bino bad (i + 1)) (bino_nextA (by omega)) hq1 (by omega) (by omega) (by omega) (by omega))) rfl rfl rfl (fun r4 => ?_)
      have i3 : (n : Int) - (i : Int) = ((n - i : Nat) : Int) := by omega
      have i4 : (g : Int) - (n : Int) + (i : Int) + 1 = ((g + i + 1 - n : Nat) : Int) := by omega
      refine s_set (set_71 2 rfl rfl rfl rfl) rfl rfl ?_
      refine s_nil ?_
      refine f_then ?_
      refine c_region ?_
      refine s_y (y_loadA Try.tab rfl rfl rfl rfl (cells_row0 1 rfl rfl)) rfl rfl rfl ?_
      refine s_y (y_load Try.tab rfl rfl (cell_row 3 rfl rfl)) rfl rfl rfl ?_
      refine s_y (y_move rfl) rfl rfl rfl ?_
      refine s_y (y_sub rfl rfl (by omega)) rfl rfl rfl ?_
      refine s_y (y_move rfl) rfl rfl rfl ?_
      refine s_y (y_load Try.tab rfl rfl (cell_row 3 rfl rfl)) rfl rfl rfl ?_
      refine s_y (y_sub rfl rfl (by omega)) rfl rfl rfl ?_
      refine s_y (y_move rfl) rfl rfl rfl ?_
      refine s_y (y_add rfl rfl (by omega)) rfl rfl rfl ?_
      refine s_y (y_add rfl rfl (by omega)) rfl rfl rfl ?_
      rw [i3, i4]
      have hF5 : boxes ([(b11, row 71 [r3.v])] :: [(b9, row 71 [vb])] :: [(b7, row 71 [r4.v])] :: [(b3, row 3 [.int .i64 (n : Int)])] :: [(b2, row 3 [.int .i64 (bad : Int)])] :: [(b1, row 3 [.int .i64 (lot : Int)])] :: [(l, k.aft none)] :: Bx z') = true := hR.bx z'
      refine s_call (en_f rfl Try.call113) (Spec.boxed (u := fun v => .agg #[v]) ([(b11, row 71 [r3.v])] :: [(b9, row 71 [vb])] :: [(b7, row 71 [r4.v])] :: [(b3, row 3 [.int .i64 (n : Int)])] :: [(b2, row 3 [.int .i64 (bad : Int)])] :: [(b1, row 3 [.int .i64 (lot : Int)])] :: [(l, k.aft none)] :: Bx z') hF5 (times0_spec (z := bino g (n - i) * (n - i) / (g + i + 1 - n)) rfl hq2 (by omega) (by omega) (by omega) (by omega))) rfl rfl rfl (fun r5 => ?_)
      refine s_set (set_71 1 rfl rfl rfl rfl) rfl rfl ?_
      refine s_nil ?_
      refine f_blockN ?_
      refine f_then ?_
      refine c_region ?_
      refine s_y (y_move rfl) rfl rfl rfl ?_
      refine s_y (y_add rfl rfl (by omega)) rfl rfl rfl ?_
      refine s_y (y_assign rfl) rfl rfl rfl ?_
      refine s_nil ?_
      exact f_roundP (i + 1, z', r5.L :: r4.L :: M2, r4.v, r5.v, bino g (n - i) * (n - i) / (g + i + 1 - n)) ⟨by dsimp only; omega, by dsimp only; omega, hR.mono _ _ [r5.L, r4.L] (M2 ++ N) hJ2, (inferInstance : NatV (K W (r5.L :: r4.L :: (M2 ++ N))) r4.v _), r5.ok, fun h => bino_back h (by omega) rfl⟩ (by dsimp only; omega) ⟨rfl, rfl, rfl, rfl, rfl, rfl, rfl, rfl, trivial⟩ (fun w h => h.tail)
  · obtain rfl : i = min n bad + 1 := by omega
    refine c_exit ?_
    refine f_thenE ?_
    refine f_rndE ?_
    refine f_blockE ?_
    exact f_end ⟨(z, M, none), fun _ => hJ, fun c h => by cases h⟩ (res0 rfl) (fun w h => h.tail.tail.tail.tail.tail)
end Go.KL
end

section
/- Walks: atMost. -/
namespace Go.KL
open Go.Proofs
/-- The terms from lo on that are at most c, added up. -/
def sumTo (T : Nat → Nat) (c : Int) (lo : Nat) : Nat → Nat
  | 0 => 0
  | d + 1 => sumTo T c lo d + (if (lo + d : Nat) ≤ c then T (lo + d) else 0)
theorem sumTo_le {T : Nat → Nat} {c : Int} {lo e : Nat} (hT : ∀ i, T i ≤ 2 ^ e) : ∀ d, sumTo T c lo d ≤ d * 2 ^ e
  | 0 => Nat.zero_le _
  | d + 1 => by
    have h := sumTo_le (c := c) (lo := lo) hT d
    have h2 := hT (lo + d)
    rw [sumTo, Nat.add_mul, Nat.one_mul]
    split <;> omega
theorem sumTo_out {T : Nat → Nat} {c : Int} {lo d : Nat} (h : c < (lo + d : Nat)) : ∀ m, sumTo T c lo (d + m) = sumTo T c lo d
  | 0 => rfl
  | m + 1 => by
    rw [← Nat.add_assoc, sumTo, sumTo_out h m, if_neg (by omega), Nat.add_zero]
theorem tm_le {g bad n i : Nat} : tm g bad n i ≤ 2 ^ (bad + g) := by
  rw [Nat.pow_add]
  exact Nat.mul_le_mul (bino_le bad i) (bino_le g (n - i))
theorem wl_ex {x d e : Nat} (he : e = d * 32) (h : x < 2 ^ e) : wl x ≤ d := by
  subst he
  rw [wl_le, B_two]
  exact h
theorem wl_16k {x : Nat} (h : x < 2 ^ 16384) : wl x ≤ 512 := wl_ex (by omega) h
attribute [local irreducible] SC St Fin Sq Ylds Doos Sets Enters Spec CellIs CellsAre Then Ret Rnd Chn resOK ints bools recs arr
theorem nadd0_spec {W : World} {N : List Chunk} {a b : Value} {x y z : Nat} [ha : NatV (K W N) a x] [hb : NatV (K W N) b y] (hz : z = x + y) (h : x + y < 2 ^ 16384) (hx : wl x ≤ 800000) (hy : wl y ≤ 800000) :
    Spec Try.prog 73 #[.agg #[a], .agg #[b]] (K W N) (X := Res W N z) (fun r => .tuple #[.agg #[r.v], .int .i64 0]) (fun r => K W (r.L :: N)) := by
  have h1 := nadd_spec (a := a) (b := b) (x := x) (y := y) (W := W) (N := N) hx hy
  rw [bl_cap h, bl_capE h, ← hz] at h1
  exact h1
set_option maxRecDepth 10000 in
set_option maxHeartbeats 16000000 in
theorem atMost_spec {W : World} {N : List Chunk} {lot bad n : Nat} {c : Int} (hlot : lot ≤ 4096) (hbad : bad ≤ lot) (hn : n ≤ lot) :
    Spec Try.prog 51 #[.int .i64 (lot : Int), .int .i64 (bad : Int), .int .i64 (n : Int), .int .i64 c] (K W N) (X := Res W N (sumTo (tm (lot - bad) bad n) c (n - (lot - bad)) (min n bad + 1 - (n - (lot - bad))))) (fun r => .agg #[r.v]) (fun r => K W (r.L :: N)) := by
  refine enter (args := [_, _, _, _]) Try.func51 rfl Try.ntmps51 rfl ?_
  refine c_seq ?_
  refine c_region ?_
  refine s_do (do_box rfl) rfl rfl rfl (fun b7 => ?_)
  refine s_do (do_alloc Try.tab rfl) rfl rfl rfl (fun b8 => ?_)
  refine s_nil ?_
  refine f_then ?_
  refine c_seq ?_
  refine c_region ?_
  refine s_do (do_alloc Try.tab rfl) rfl rfl rfl (fun b9 => ?_)
  refine s_nil ?_
  refine f_then ?_
  refine c_seq ?_
  refine c_seq ?_
  refine c_region ?_
  refine s_y (y_move rfl) rfl rfl rfl ?_
  refine s_y (y_move rfl) rfl rfl rfl ?_
  refine s_y (y_move rfl) rfl rfl rfl ?_
  refine s_call (en_f rfl Try.call72) terms_spec rfl rfl rfl (fun t => ?_)
  refine s_nil ?_
  refine f_then ?_
  refine c_block ?_
  obtain ⟨t1, t2, t3⟩ := t
  refine c_rangeF (X := { x : Value × List Chunk × Option Code // NatV (K W (x.2.1 ++ N)) x.1 (sumTo (tm (lot - bad) bad n) c (n - (lot - bad)) (min n bad + 1 - (n - (lot - bad)))) ∧ ∀ cc, x.2.2 = some cc → cc = .exit 0 }) (fun _ => .tuple #[]) (fun x => x.1.2.2) (fun x => [(b9, row 71 [x.1.1])] :: [(b8, row 71 [.slice none 0 0])] :: [(b7, row 3 [.int .i64 c])] :: (x.1.2.1 ++ N)) (by rw [r_inB, r_then, r_ret]) rfl Try.call112 (fun k l D hps has hbd hE => ?_) (fun x D hj => ?_) (fun x D cc hj => ?_)
  · obtain ⟨g, hg⟩ : ∃ g, g = lot - bad := ⟨_, rfl⟩
    rw [← hg]
    obtain ⟨lo, hlo⟩ : ∃ lo, lo = n - g := ⟨_, rfl⟩
    rw [← hlo]
    have hR : Rounds W l k (min n bad) (tm g bad n) Value (fun u => [(D, dfO)] :: [(b9, row 71 [u])] :: [(b8, row 71 [.slice none 0 0])] :: [[(b7, row 3 [.int .i64 c])]]) (fun i u N' => lo ≤ i ∧ NatV (K W N') u (sumTo (tm g bad n) c lo (i - lo))) (fun u N' cc => cc = .exit 0 ∧ NatV (K W N') u (sumTo (tm g bad n) c lo (min n bad + 1 - lo))) := by
      refine ⟨fun z => rfl, fun i z M N h => ⟨h.1, h.2.cls fun _ k => k.bck⟩, fun z M N cc h => ⟨h.1, h.2.cls fun _ k => k.bck⟩, fun i z N' F0 u hi hF hJ hu => ?_⟩
      refine yspec 0 hE hps rfl rfl rfl ?_
      rw [has, hbd]
      refine c_seq ?_
      refine c_region ?_
      refine s_y (y_assign rfl) rfl rfl rfl ?_
      refine s_nil ?_
      refine f_then ?_
      refine c_region ?_
      refine s_do (do_alloc Try.tab rfl) rfl rfl rfl (fun b11 => ?_)
      refine s_set (set_71 0 rfl rfl rfl rfl) rfl rfl ?_
      refine s_nil ?_
      refine f_beg 1 rfl ?_
      by_cases hci : c < (i : Int)
      · have hs : sumTo (tm g bad n) c lo (i - lo) = sumTo (tm g bad n) c lo (min n bad + 1 - lo) := by
          rw [show min n bad + 1 - lo = (i - lo) + (min n bad + 1 - i) by omega, sumTo_out (by omega)]
        refine c_block ?_
        refine c_seq ?_
        refine c_seq ?_
        refine c_region ?_
        refine s_y (y_move rfl) rfl rfl rfl ?_
        refine s_y (y_load Try.tab rfl rfl (cell_row 5 rfl rfl)) rfl rfl rfl ?_
        refine s_y (y_T (y_gtr rfl rfl) (by assumption)) rfl rfl rfl ?_
        refine s_nil ?_
        refine f_then ?_
        refine c_condT rfl ?_
        refine c_exit ?_
        refine f_thenE ?_
        refine f_blockX rfl ?_
        refine f_rpE 1 ⟨(z, [], some (.exit 0)), (fun e => by cases e), fun cc e => by cases e; exact ⟨rfl, hJ.2.of hs⟩⟩ rfl rfl ?_
        exact fun w h => h.tail
      · have hs : sumTo (tm g bad n) c lo (i - lo) + tm g bad n i = sumTo (tm g bad n) c lo (i + 1 - lo) := by
          rw [show i + 1 - lo = (i - lo) + 1 by omega, sumTo, show lo + (i - lo) = i by omega, if_pos (by omega)]
        have hb : sumTo (tm g bad n) c lo (i + 1 - lo) < 2 ^ 16384 := Nat.lt_of_le_of_lt (sumTo_le (fun _ => tm_le) _) (two_lt (a := 13) (show i + 1 - lo ≤ 2 ^ 13 by omega) (Nat.le_refl _) (by omega))
        have hw1 : wl (sumTo (tm g bad n) c lo (i - lo)) ≤ 800000 := Nat.le_trans (wl_16k (x := sumTo (tm g bad n) c lo (i - lo)) (by omega)) (by omega)
        have hw2 : wl (tm g bad n i) ≤ 800000 := Nat.le_trans (wl_16k (x := tm g bad n i) (by omega)) (by omega)
        haveI := hJ.2
        refine c_block ?_
        refine c_seq ?_
        refine c_seq ?_
        refine c_region ?_
        refine s_y (y_move rfl) rfl rfl rfl ?_
        refine s_y (y_load Try.tab rfl rfl (cell_row 5 rfl rfl)) rfl rfl rfl ?_
        refine s_y (y_F (y_gtr rfl rfl) (by assumption)) rfl rfl rfl ?_
        refine s_nil ?_
        refine f_then ?_
        refine c_condF rfl ?_
        refine c_skip ?_
        refine f_then ?_
        refine c_region ?_
        refine s_y (y_loadA Try.tab rfl rfl rfl rfl (cells_row0 3 rfl rfl)) rfl rfl rfl ?_
        refine s_y (y_loadA Try.tab rfl rfl rfl rfl (cells_row0 0 rfl rfl)) rfl rfl rfl ?_
        have hF1 : boxes ([(b11, row 71 [u])] :: [(l, k.bsy)] :: [(D, dfO)] :: [(b9, row 71 [z])] :: [(b8, row 71 [.slice none 0 0])] :: [(b7, row 3 [.int .i64 c])] :: F0) = true := hF
        refine s_call (en_f rfl Try.call73) (Spec.boxed (u := fun v => .tuple #[.agg #[v], .int .i64 0]) ([(b11, row 71 [u])] :: [(l, k.bsy)] :: [(D, dfO)] :: [(b9, row 71 [z])] :: [(b8, row 71 [.slice none 0 0])] :: [(b7, row 3 [.int .i64 c])] :: F0) hF1 (nadd0_spec hs.symm (hs ▸ hb) hw1 hw2)) rfl rfl rfl (fun r1 => ?_)
        refine s_y (y_move rfl) rfl rfl rfl ?_
        refine s_y (y_extract rfl rfl) rfl rfl rfl ?_
        refine s_y (y_extract rfl rfl) rfl rfl rfl ?_
        refine s_set (set_71 3 rfl rfl rfl rfl) rfl rfl ?_
        refine s_nil ?_
        refine f_blockN ?_
        refine f_rpN 1 ⟨(r1.v, [r1.L], none), (fun _ => ⟨by omega, r1.ok⟩), fun cc e => by cases e⟩ rfl rfl ?_
        exact fun w h => h.tail
    have hJ0 : n - (lot - bad) ≤ n - (lot - bad) ∧ NatV (K W N) (.slice none 0 0) (sumTo (tm (lot - bad) bad n) c (n - (lot - bad)) (n - (lot - bad) - (n - (lot - bad)))) := ⟨Nat.le_refl _, NatV.nilI.of (by rw [Nat.sub_self]; rfl)⟩
    subst hlo hg
    have key := terms1_spec (b1 := t1) (b2 := t2) (b3 := t3) (z0 := .slice none 0 0) hlot hbad hn hR hJ0
    refine (key.pre fun w h => K.toM (M := [[(l, k.rdy)], [(D, dfO)]]) (B := [[(t3, row 3 [.int .i64 (n : Int)])], [(t2, row 3 [.int .i64 (bad : Int)])], [(t1, row 3 [.int .i64 (lot : Int)])]]) h).map (fun x => ⟨x.1, ?_, fun cc e => (x.2.2 cc e).1⟩) (fun _ => rfl) (fun x w h => h)
    obtain ⟨⟨u, M, j⟩, q1, q2⟩ := x
    cases j with
    | none => exact (q1 rfl).2
    | some cc => exact (q2 cc rfl).2
  · obtain ⟨⟨u, M, j⟩, hu, hc⟩ := x
    dsimp only at hu hc hj ⊢
    refine f_blockN ?_
    refine f_then ?_
    refine c_seq ?_
    refine c_region ?_
    refine s_y (y_loadA Try.tab rfl rfl rfl rfl (cells_row0 1 rfl rfl)) rfl rfl rfl ?_
    refine s_set (set_71 2 rfl rfl rfl rfl) rfl rfl ?_
    refine s_nil ?_
    refine f_then ?_
    refine c_ret ?_
    exact f_retM (Res.of hu) [D] (resA Try.tab rfl rfl rfl rfl rfl (cells_row0 1 rfl rfl)) rfl (fun w h => Res.of_cls hu h.tail.tail.tail) rfl
  · obtain ⟨⟨u, M, j⟩, hu, hc⟩ := x
    dsimp only at hu hc hj ⊢
    obtain rfl := hc cc hj
    refine c_exit ?_
    refine f_blockE ?_
    refine f_then ?_
    refine c_seq ?_
    refine c_region ?_
    refine s_y (y_loadA Try.tab rfl rfl rfl rfl (cells_row0 1 rfl rfl)) rfl rfl rfl ?_
    refine s_set (set_71 2 rfl rfl rfl rfl) rfl rfl ?_
    refine s_nil ?_
    refine f_then ?_
    refine c_ret ?_
    exact f_retM (Res.of hu) [D] (resA Try.tab rfl rfl rfl rfl rfl (cells_row0 1 rfl rfl)) rfl (fun w h => Res.of_cls hu h.tail.tail.tail) rfl
end Go.KL
end

section
/- Walks: Accept. -/
namespace Go.KL
open Go.Proofs
theorem bino_pos : ∀ {n k : Nat}, k ≤ n → 0 < bino n k
  | n, 0, _ => by rw [bino]; decide
  | 0, k + 1, h => by omega
  | n + 1, k + 1, h => by
    have := bino_pos (n := n) (k := k) (by omega)
    rw [bino]
    omega
attribute [local irreducible] SC St Fin Sq Ylds Doos Sets Enters Spec CellIs CellsAre Then Ret Rnd Chn resOK ints bools recs arr
set_option maxRecDepth 10000 in
set_option maxHeartbeats 8000000 in
theorem acceptE_spec {W : World} {N : List Chunk} {lot bad n c : Int} (h : ¬ ((0 ≤ lot ∧ lot ≤ 2048) ∧ (0 ≤ bad ∧ bad ≤ lot) ∧ (0 ≤ n ∧ n ≤ lot))) :
    Spec Try.prog 20 #[.int .i64 lot, .int .i64 bad, .int .i64 n, .int .i64 c] (K W N) (fun _ : Unit => .tuple #[.agg #[.slice none 0 0, .slice none 0 0], .int .i64 2]) (fun _ => K W N) := by
  refine enter (args := [_, _, _, _]) Try.func20 rfl Try.ntmps20 rfl ?_
  refine c_seq ?_
  refine c_region ?_
  refine s_do (do_alloc Try.tab rfl) rfl rfl rfl (fun b8 => ?_)
  refine s_y (y_assign rfl) rfl rfl rfl ?_
  refine s_nil ?_
  refine f_then ?_
  refine c_seq ?_
  refine c_seq ?_
  refine c_region ?_
  refine s_y (y_move rfl) rfl rfl rfl ?_
  refine s_call (en_f rfl Try.call49) inside_spec rfl rfl rfl (fun _ => ?_)
  by_cases h1 : 0 ≤ lot ∧ lot ≤ 2048
  · rw [decide_eq_true h1]
    refine s_y (y_notT rfl) rfl rfl rfl ?_
    refine s_y (y_move rfl) rfl rfl rfl ?_
    refine s_y (y_move rfl) rfl rfl rfl ?_
    refine s_y (y_move rfl) rfl rfl rfl ?_
    refine s_call (en_f rfl Try.call49) inside_spec rfl rfl rfl (fun _ => ?_)
    by_cases h2 : 0 ≤ bad ∧ bad ≤ lot
    · rw [decide_eq_true h2]
      refine s_y (y_notT rfl) rfl rfl rfl ?_
      refine s_y (y_pickF rfl rfl) rfl rfl rfl ?_
      refine s_y (y_move rfl) rfl rfl rfl ?_
      refine s_y (y_move rfl) rfl rfl rfl ?_
      refine s_y (y_move rfl) rfl rfl rfl ?_
      refine s_call (en_f rfl Try.call49) inside_spec rfl rfl rfl (fun _ => ?_)
      rw [decide_eq_false (fun h3 => h ⟨h1, h2, h3⟩)]
      refine s_y (y_notF rfl) rfl rfl rfl ?_
      refine s_y (y_pickF rfl rfl) rfl rfl rfl ?_
      refine s_nil ?_
      refine f_then ?_
      refine c_condT rfl ?_
      refine c_seq ?_
      refine c_region ?_
      refine s_y (y_build Try.tab rfl rfl rfl rfl rfl) rfl rfl rfl ?_
      refine s_set (set_25 0 rfl rfl rfl rfl) rfl rfl ?_
      refine s_y (y_assign rfl) rfl rfl rfl ?_
      refine s_nil ?_
      refine f_then ?_
      refine c_ret ?_
      refine f_thenR ?_
      exact f_ret () (resA1 Try.tab rfl rfl rfl rfl rfl rfl (cells_row0 0 rfl rfl)) (fun w h => h.tail)
    · rw [decide_eq_false h2]
      refine s_y (y_notF rfl) rfl rfl rfl ?_
      refine s_y (y_pickF rfl rfl) rfl rfl rfl ?_
      refine s_y (y_move rfl) rfl rfl rfl ?_
      iterate 4 refine s_skip rfl rfl rfl ?_
      refine s_y (y_pickT rfl rfl) rfl rfl rfl ?_
      refine s_nil ?_
      refine f_then ?_
      refine c_condT rfl ?_
      refine c_seq ?_
      refine c_region ?_
      refine s_y (y_build Try.tab rfl rfl rfl rfl rfl) rfl rfl rfl ?_
      refine s_set (set_25 0 rfl rfl rfl rfl) rfl rfl ?_
      refine s_y (y_assign rfl) rfl rfl rfl ?_
      refine s_nil ?_
      refine f_then ?_
      refine c_ret ?_
      refine f_thenR ?_
      exact f_ret () (resA1 Try.tab rfl rfl rfl rfl rfl rfl (cells_row0 0 rfl rfl)) (fun w h => h.tail)
  · rw [decide_eq_false h1]
    refine s_y (y_notF rfl) rfl rfl rfl ?_
    refine s_y (y_move rfl) rfl rfl rfl ?_
    iterate 4 refine s_skip rfl rfl rfl ?_
    refine s_y (y_pickT rfl rfl) rfl rfl rfl ?_
    refine s_y (y_move rfl) rfl rfl rfl ?_
    iterate 4 refine s_skip rfl rfl rfl ?_
    refine s_y (y_pickT rfl rfl) rfl rfl rfl ?_
    refine s_nil ?_
    refine f_then ?_
    refine c_condT rfl ?_
    refine c_seq ?_
    refine c_region ?_
    refine s_y (y_build Try.tab rfl rfl rfl rfl rfl) rfl rfl rfl ?_
    refine s_set (set_25 0 rfl rfl rfl rfl) rfl rfl ?_
    refine s_y (y_assign rfl) rfl rfl rfl ?_
    refine s_nil ?_
    refine f_then ?_
    refine c_ret ?_
    refine f_thenR ?_
    exact f_ret () (resA1 Try.tab rfl rfl rfl rfl rfl rfl (cells_row0 0 rfl rfl)) (fun w h => h.tail)
/-- How many samples are accepted. -/
def accN (lot bad n : Nat) (c : Int) : Nat := sumTo (tm (lot - bad) bad n) c (n - (lot - bad)) (min n bad + 1 - (n - (lot - bad)))
theorem accN_lt {lot bad n : Nat} {c : Int} (h1 : lot ≤ 4096) (h2 : bad ≤ lot) (h3 : n ≤ lot) : accN lot bad n c < 2 ^ 16384 :=
  Nat.lt_of_le_of_lt (sumTo_le (fun _ => tm_le) _) (two_lt (a := 13) (show min n bad + 1 - (n - (lot - bad)) ≤ 2 ^ 13 by omega) (Nat.le_refl _) (by omega))
set_option maxRecDepth 10000 in
set_option maxHeartbeats 8000000 in
theorem accept_spec {W : World} {N : List Chunk} {lot bad n : Nat} {c : Int} (h1 : lot ≤ 2048) (h2 : bad ≤ lot) (h3 : n ≤ lot) :
    Spec Try.prog 20 #[.int .i64 (lot : Int), .int .i64 (bad : Int), .int .i64 (n : Int), .int .i64 c] (K W N) (X := Res2 W N (accN lot bad n c / Nat.gcd (accN lot bad n c) (bino lot n)) (bino lot n / Nat.gcd (accN lot bad n c) (bino lot n) - 1)) (fun r => .tuple #[.agg #[r.v1, r.v2], .int .i64 0]) (fun r => K W (r.L :: N)) := by
  refine enter (args := [_, _, _, _]) Try.func20 rfl Try.ntmps20 rfl ?_
  refine c_seq ?_
  refine c_region ?_
  refine s_do (do_alloc Try.tab rfl) rfl rfl rfl (fun b8 => ?_)
  refine s_y (y_assign rfl) rfl rfl rfl ?_
  refine s_nil ?_
  refine f_then ?_
  refine c_seq ?_
  refine c_seq ?_
  refine c_region ?_
  refine s_y (y_move rfl) rfl rfl rfl ?_
  refine s_call (en_f rfl Try.call49) inside_spec rfl rfl rfl (fun _ => ?_)
  rw [decide_eq_true (by omega)]
  refine s_y (y_notT rfl) rfl rfl rfl ?_
  refine s_y (y_move rfl) rfl rfl rfl ?_
  refine s_y (y_move rfl) rfl rfl rfl ?_
  refine s_y (y_move rfl) rfl rfl rfl ?_
  refine s_call (en_f rfl Try.call49) inside_spec rfl rfl rfl (fun _ => ?_)
  rw [decide_eq_true (by omega)]
  refine s_y (y_notT rfl) rfl rfl rfl ?_
  refine s_y (y_pickF rfl rfl) rfl rfl rfl ?_
  refine s_y (y_move rfl) rfl rfl rfl ?_
  refine s_y (y_move rfl) rfl rfl rfl ?_
  refine s_y (y_move rfl) rfl rfl rfl ?_
  refine s_call (en_f rfl Try.call49) inside_spec rfl rfl rfl (fun _ => ?_)
  rw [decide_eq_true (by omega)]
  refine s_y (y_notT rfl) rfl rfl rfl ?_
  refine s_y (y_pickF rfl rfl) rfl rfl rfl ?_
  refine s_nil ?_
  refine f_then ?_
  refine c_condF rfl ?_
  refine c_skip ?_
  refine f_then ?_
  refine c_seq ?_
  refine c_region ?_
  refine s_y (y_move rfl) rfl rfl rfl ?_
  refine s_y (y_move rfl) rfl rfl rfl ?_
  refine s_y (y_move rfl) rfl rfl rfl ?_
  refine s_y (y_move rfl) rfl rfl rfl ?_
  have hb : bino lot n ≠ 0 := Nat.pos_iff_ne_zero.1 (bino_pos h3)
  have hw := wl_bino (n := lot) (i := n) (by omega)
  have hw2 := wl_16k (accN_lt (c := c) (show lot ≤ 4096 by omega) h2 h3)
  refine s_call (en_f rfl Try.call51) (bx1 (u := fun v => .agg #[v]) (atMost_spec (c := c) (show lot ≤ 4096 by omega) h2 h3) rfl) rfl rfl rfl (fun r1 => ?_)
  change Res W N (accN lot bad n c) at r1
  refine s_y (y_move rfl) rfl rfl rfl ?_
  refine s_y (y_move rfl) rfl rfl rfl ?_
  refine s_call (en_f rfl Try.call52) (bx1 (u := fun v => .agg #[v]) (samples_spec (by omega) (by omega)) rfl) rfl rfl rfl (fun r2 => ?_)
  skip
  refine s_call (en_f rfl Try.call50) (by1 (u2 := fun v w => .tuple #[.agg #[v, w], .int .i64 0]) (newFrac_spec (x := accN lot bad n c) (y := bino lot n) (by omega) (by omega) hb) rfl) rfl rfl rfl (fun r3 => ?_)
  refine s_y (y_extract rfl rfl) rfl rfl rfl ?_
  refine s_y (y_extract rfl rfl) rfl rfl rfl ?_
  refine s_set (set_25 0 rfl rfl rfl rfl) rfl rfl ?_
  refine s_y (y_assign rfl) rfl rfl rfl ?_
  refine s_nil ?_
  refine f_then ?_
  refine c_ret ?_
  have k1 : NatV (K W ([r3.L, r2.L, r1.L] ++ N)) r3.v1 (accN lot bad n c / Nat.gcd (accN lot bad n c) (bino lot n)) := r3.ok1
  have k2 : NatV (K W ([r3.L, r2.L, r1.L] ++ N)) r3.v2 (bino lot n / Nat.gcd (accN lot bad n c) (bino lot n) - 1) := r3.ok2
  exact f_ret (Res2.of k1 k2) (resA1 Try.tab rfl rfl rfl rfl rfl rfl (cells_row0 0 rfl rfl)) (fun w h => Res2.of_cls k1 k2 h.tail)
end Go.KL
end

section
/- Walks: least. -/
namespace Go.KL
open Go.Proofs
/-- The first of d numbers from i on that p holds for, or the last (c, if there is none at all). -/
def lstF (p : Nat → Bool) : Nat → Nat → Nat → Nat
  | 0, _, c => c
  | d + 1, i, _ => if p i then i else lstF p d (i + 1) i
/-- The samples with at most i bad pieces keep a risk. -/
def keepsA (lot good n alpha A : Nat) (i : Nat) : Bool := decide (A * (1000000 - alpha) ≤ accN lot good n i * 1000000)
def leastN (lot good n alpha A : Nat) : Nat := if alpha = 1000000 then 0 else lstF (keepsA lot good n alpha A) (min n good + 1 - (n - (lot - good))) (n - (lot - good)) 0
/-- All of d terms. -/
def psum (T : Nat → Nat) (lo : Nat) : Nat → Nat
  | 0 => 0
  | d + 1 => psum T lo d + T (lo + d)
theorem sumTo_in {T : Nat → Nat} {c : Int} {lo : Nat} : ∀ {d : Nat}, (lo + d : Nat) ≤ c + 1 → sumTo T c lo d = psum T lo d
  | 0, _ => rfl
  | d + 1, h => by
    rw [sumTo, psum, sumTo_in (d := d) (by omega), if_pos (by omega)]
theorem psum_le {T : Nat → Nat} {lo e : Nat} (hT : ∀ i, T i ≤ 2 ^ e) (d : Nat) : psum T lo d ≤ d * 2 ^ e := by
  rw [← sumTo_in (c := (lo + d : Nat)) (by omega)]
  exact sumTo_le hT d
theorem accN_psum {lot good n i : Nat} (h1 : n - (lot - good) ≤ i) (h2 : i ≤ min n good) : accN lot good n i = psum (tm (lot - good) good n) (n - (lot - good)) (i + 1 - (n - (lot - good))) := by
  unfold accN
  rw [show min n good + 1 - (n - (lot - good)) = (i + 1 - (n - (lot - good))) + (min n good - i) by omega, sumTo_out (by omega), sumTo_in (by omega)]
theorem psum_big {g bad n lo d : Nat} (h1 : bad + g ≤ 4096) (h2 : d ≤ 2 ^ 13) : psum (tm g bad n) lo d * 1000000 < 2 ^ 16384 := by
  obtain ⟨u, hu⟩ : ∃ u, u = 4096 := ⟨_, rfl⟩
  rw [← hu] at h1
  refine two_lt (a := 13 + u) (b := 20) ?_ (by omega) (by omega)
  refine Nat.le_trans (psum_le (e := u) (fun i => Nat.le_trans tm_le ?_) d) ?_
  · exact Nat.pow_le_pow_right (by omega) h1
  · rw [Nat.pow_add]
    exact Nat.mul_le_mul_right _ h2
theorem wl_exl {x d e f : Nat} (hf : f = d * 32) (he : e < f) (h : x ≤ 2 ^ e) : wl x ≤ d := wl_ex hf (Nat.lt_of_le_of_lt h (Nat.pow_lt_pow_right (by decide) he))
/-- A comparison. -/
def cmpV (a b : Nat) : Int := if a < b then -1 else if b < a then 1 else 0
theorem cmpV_ge {a b : Nat} : 0 ≤ cmpV a b ↔ b ≤ a := by
  unfold cmpV
  split
  · omega
  · split <;> omega
theorem cmpV_le {a b : Nat} : cmpV a b ≤ 0 ↔ a ≤ b := by
  unfold cmpV
  split
  · omega
  · split <;> omega
attribute [local irreducible] SC St Fin Sq Ylds Doos Sets Enters Spec CellIs CellsAre Then Ret Rnd Chn resOK ints bools recs arr
theorem exceeds2_spec {W : World} {N : List Chunk} {a b : Value} {x y m : Nat} [ha : NatV (K W N) a x] [hb : NatV (K W N) b y] (hx : wl x ≤ 10000) (hy : wl y ≤ 10000) (hm : m ≤ 1000000) (h1 : x * 1000000 < 2 ^ 16384) (h2 : y * m < 2 ^ 16384) :
    Spec Try.prog 59 #[.agg #[a], .agg #[b], .int .i64 (m : Int)] (K W N) (fun _ : Unit => .int .i64 (cmpV (x * 1000000) (y * m))) (fun _ => K W N) := by
  have h := exceeds_spec (W := W) (N := N) (a := a) (b := b) (x := x) (y := y) hx hy hm
  rw [bl_cap h1, bl_cap h2] at h
  exact h
set_option maxRecDepth 10000 in
set_option maxHeartbeats 16000000 in
theorem least_spec {W : World} {N : List Chunk} {va : Value} {lot good n alpha A : Nat} [hA : NatV (K W N) va A] (hlot : lot ≤ 4096) (hgood : good ≤ lot) (hn : n ≤ lot) (hal : alpha ≤ 1000000) (hA2 : A ≤ 2 ^ 4096) :
    Spec Try.prog 58 #[.int .i64 (lot : Int), .int .i64 (good : Int), .int .i64 (n : Int), .int .i64 (alpha : Int), .agg #[va]] (K W N) (fun _ : Unit => .int .i64 (leastN lot good n alpha A : Nat)) (fun _ => K W N) := by
  refine enter (args := [_, _, _, _, _]) Try.func58 rfl Try.ntmps58 rfl ?_
  refine c_seq ?_
  refine c_region ?_
  refine s_do (do_box rfl) rfl rfl rfl (fun b8 => ?_)
  refine s_do (do_box rfl) rfl rfl rfl (fun b9 => ?_)
  refine s_y (y_assign rfl) rfl rfl rfl ?_
  refine s_nil ?_
  refine f_then ?_
  refine c_seq ?_
  refine c_region ?_
  refine s_do (do_alloc Try.tab rfl) rfl rfl rfl (fun b11 => ?_)
  refine s_nil ?_
  refine f_then ?_
  refine c_seq ?_
  refine c_region ?_
  refine s_do (do_alloc Try.tab rfl) rfl rfl rfl (fun b12 => ?_)
  refine s_set (set_box1 Try.tab 0 rfl rfl rfl rfl rfl) rfl rfl ?_
  refine s_nil ?_
  refine f_then ?_
  refine c_seq ?_
  refine c_seq ?_
  refine c_region ?_
  refine s_y (y_move rfl) rfl rfl rfl ?_
  refine s_y (y_move rfl) rfl rfl rfl ?_
  refine s_y (y_move rfl) rfl rfl rfl ?_
  refine s_call (en_f rfl Try.call72) terms_spec rfl rfl rfl (fun t => ?_)
  refine s_nil ?_
  refine f_then ?_
  refine c_block ?_
  obtain ⟨t1, t2, t3⟩ := t
  refine c_rangeF (X := { x : (Value × Nat) × List Chunk × Option Code // (x.1.2 = lstF (keepsA lot good n alpha A) (min n good + 1 - (n - (lot - good))) (n - (lot - good)) 0) ∧ ∀ cc, x.2.2 = some cc → cc = .exit 0 }) (fun _ => .tuple #[]) (fun x => x.1.2.2) (fun x => [(b12, row 3 [.int .i64 (x.1.1.2 : Nat)])] :: [(b11, row 71 [x.1.1.1])] :: [(b9, row 71 [va])] :: [(b8, row 3 [.int .i64 (alpha : Int)])] :: (x.1.2.1 ++ N)) (by rw [r_inB, r_then, r_ret]) rfl Try.call112 (fun k l D hps has hbd hE => ?_) (fun x D hj => ?_) (fun x D cc hj => ?_)
  · have hR : Rounds W l k (min n good) (tm (lot - good) good n) (Value × Nat) (fun u => [(D, dfO)] :: [(b12, row 3 [.int .i64 (u.2 : Nat)])] :: [(b11, row 71 [u.1])] :: [(b9, row 71 [va])] :: [[(b8, row 3 [.int .i64 (alpha : Int)])]])
        (fun i u N' => n - (lot - good) ≤ i ∧ NatV (K W N') va A ∧ NatV (K W N') u.1 (psum (tm (lot - good) good n) (n - (lot - good)) (i - (n - (lot - good)))) ∧ lstF (keepsA lot good n alpha A) (min n good + 1 - i) i u.2 = lstF (keepsA lot good n alpha A) (min n good + 1 - (n - (lot - good))) (n - (lot - good)) 0)
        (fun u _ cc => cc = .exit 0 ∧ u.2 = lstF (keepsA lot good n alpha A) (min n good + 1 - (n - (lot - good))) (n - (lot - good)) 0) := by
      refine ⟨fun z => rfl, fun i z M N h => ⟨h.1, h.2.1.cls fun _ k => k.bck, h.2.2.1.cls fun _ k => k.bck, h.2.2.2⟩, fun z M N cc h => h, fun i z N' F0 u hi hF hJ hu => ?_⟩
      obtain ⟨hlo, hA, hz, hl⟩ := hJ
      refine yspec 0 hE hps rfl rfl rfl ?_
      rw [has, hbd]
      refine c_seq ?_
      refine c_region ?_
      refine s_y (y_assign rfl) rfl rfl rfl ?_
      refine s_nil ?_
      refine f_then ?_
      refine c_region ?_
      refine s_do (do_alloc Try.tab rfl) rfl rfl rfl (fun b14 => ?_)
      refine s_set (set_71 0 rfl rfl rfl rfl) rfl rfl ?_
      refine s_nil ?_
      refine f_beg 1 rfl ?_
      have hs : psum (tm (lot - good) good n) (n - (lot - good)) (i - (n - (lot - good))) + tm (lot - good) good n i = psum (tm (lot - good) good n) (n - (lot - good)) (i + 1 - (n - (lot - good))) := by
        rw [show i + 1 - (n - (lot - good)) = (i - (n - (lot - good))) + 1 by omega, psum, show n - (lot - good) + (i - (n - (lot - good))) = i by omega]
      have hb : psum (tm (lot - good) good n) (n - (lot - good)) (i + 1 - (n - (lot - good))) < 2 ^ 16384 := Nat.lt_of_le_of_lt (psum_le (fun _ => tm_le) _) (two_lt (a := 13) (show i + 1 - (n - (lot - good)) ≤ 2 ^ 13 by omega) (Nat.le_refl _) (by omega))
      have hw1 : wl (psum (tm (lot - good) good n) (n - (lot - good)) (i - (n - (lot - good)))) ≤ 800000 := Nat.le_trans (wl_16k (x := psum (tm (lot - good) good n) (n - (lot - good)) (i - (n - (lot - good)))) (by omega)) (by omega)
      have hw2 : wl (tm (lot - good) good n i) ≤ 800000 := Nat.le_trans (wl_16k (x := tm (lot - good) good n i) (by omega)) (by omega)
      refine c_block ?_
      refine c_seq ?_
      refine c_region ?_
      refine s_y (y_move rfl) rfl rfl rfl ?_
      refine s_set (set_box1 Try.tab 3 rfl rfl rfl rfl rfl) rfl rfl ?_
      refine s_nil ?_
      refine f_then ?_
      refine c_seq ?_
      refine c_region ?_
      refine s_y (y_loadA Try.tab rfl rfl rfl rfl (cells_row0 4 rfl rfl)) rfl rfl rfl ?_
      refine s_y (y_loadA Try.tab rfl rfl rfl rfl (cells_row0 0 rfl rfl)) rfl rfl rfl ?_
      have hF1 : boxes ([(b14, row 71 [u])] :: [(l, k.bsy)] :: [(D, dfO)] :: [(b12, row 3 [.int .i64 (i : Int)])] :: [(b11, row 71 [z.1])] :: [(b9, row 71 [va])] :: [(b8, row 3 [.int .i64 (alpha : Int)])] :: F0) = true := hF
      refine s_call (en_f rfl Try.call73) (Spec.boxed (u := fun v => .tuple #[.agg #[v], .int .i64 0]) ([(b14, row 71 [u])] :: [(l, k.bsy)] :: [(D, dfO)] :: [(b12, row 3 [.int .i64 (i : Int)])] :: [(b11, row 71 [z.1])] :: [(b9, row 71 [va])] :: [(b8, row 3 [.int .i64 (alpha : Int)])] :: F0) hF1 (nadd0_spec hs.symm (hs ▸ hb) hw1 hw2)) rfl rfl rfl (fun r1 => ?_)
      refine s_y (y_move rfl) rfl rfl rfl ?_
      refine s_y (y_extract rfl rfl) rfl rfl rfl ?_
      refine s_y (y_extract rfl rfl) rfl rfl rfl ?_
      refine s_set (set_71 4 rfl rfl rfl rfl) rfl rfl ?_
      refine s_nil ?_
      refine f_then ?_
      refine c_seq ?_
      refine c_region ?_
      refine s_y (y_loadA Try.tab rfl rfl rfl rfl (cells_row0 4 rfl rfl)) rfl rfl rfl ?_
      refine s_y (y_loadA Try.tab rfl rfl rfl rfl (cells_row0 5 rfl rfl)) rfl rfl rfl ?_
      refine s_y (y_load Try.tab rfl rfl (cell_row 6 rfl rfl)) rfl rfl rfl ?_
      refine s_y (y_sub rfl rfl (by omega)) rfl rfl rfl ?_
      rw [show (1000000 : Int) - (alpha : Int) = ((1000000 - alpha : Nat) : Int) by omega]
      haveI := r1.ok
      have hx1 : wl (psum (tm (lot - good) good n) (n - (lot - good)) (i + 1 - (n - (lot - good)))) ≤ 10000 := Nat.le_trans (wl_16k hb) (by omega)
      have hx2 : wl A ≤ 10000 := Nat.le_trans (wl_exl (x := A) (d := 512) (f := 16384) (by omega) (by omega) hA2) (by omega)
      have hx3 := psum_big (g := lot - good) (bad := good) (n := n) (lo := n - (lot - good)) (d := i + 1 - (n - (lot - good))) (by omega) (by omega)
      have hx4 : A * (1000000 - alpha) < 2 ^ 16384 := two_lt (a := 4096) (b := 20) hA2 (by omega) (by omega)
      refine s_call (en_f rfl Try.call59) (exceeds2_spec (N := [(b14, row 71 [u])] :: [(l, k.bsy)] :: [(D, dfO)] :: [(b12, row 3 [.int .i64 (i : Int)])] :: [(b11, row 71 [r1.v])] :: [(b9, row 71 [va])] :: [(b8, row 3 [.int .i64 (alpha : Int)])] :: (F0 ++ (r1.L :: N'))) (x := psum (tm (lot - good) good n) (n - (lot - good)) (i + 1 - (n - (lot - good)))) (y := A) (m := 1000000 - alpha) hx1 hx2 (by omega) hx3 hx4) rfl rfl rfl (fun _ => ?_)
      have hacc := accN_psum (lot := lot) (good := good) (n := n) (i := i) hlo hi
      by_cases hk : A * (1000000 - alpha) ≤ psum (tm (lot - good) good n) (n - (lot - good)) (i + 1 - (n - (lot - good))) * 1000000
      · have hc0 := cmpV_ge.2 hk
        have hkA : keepsA lot good n alpha A i = true := by
          unfold keepsA
          rw [hacc]
          exact decide_eq_true hk
        have hlst : i = lstF (keepsA lot good n alpha A) (min n good + 1 - (n - (lot - good))) (n - (lot - good)) 0 := by
          rw [← hl, show min n good + 1 - i = (min n good - i) + 1 by omega, lstF, if_pos hkA]
        refine s_y (y_T (y_geq rfl rfl) (by assumption)) rfl rfl rfl ?_
        refine s_nil ?_
        refine f_then ?_
        refine c_condT rfl ?_
        refine c_exit ?_
        refine f_blockX rfl ?_
        refine f_rpE 1 ⟨((r1.v, i), [r1.L], some (.exit 0)), (fun e => by cases e), fun cc e => by cases e; exact ⟨rfl, hlst⟩⟩ rfl rfl ?_
        exact fun w h => h.tail
      · have hc0 := mt cmpV_ge.1 hk
        have hkA : keepsA lot good n alpha A i = false := by
          unfold keepsA
          rw [hacc]
          exact decide_eq_false hk
        have hlst : lstF (keepsA lot good n alpha A) (min n good + 1 - (i + 1)) (i + 1) i = lstF (keepsA lot good n alpha A) (min n good + 1 - (n - (lot - good))) (n - (lot - good)) 0 := by
          rw [← hl, show min n good + 1 - i = (min n good + 1 - (i + 1)) + 1 by omega, lstF, hkA]
          rfl
        refine s_y (y_F (y_geq rfl rfl) (by assumption)) rfl rfl rfl ?_
        refine s_nil ?_
        refine f_then ?_
        refine c_condF rfl ?_
        refine c_skip ?_
        refine f_blockN ?_
        refine f_rpN 1 ⟨((r1.v, i), [r1.L], none), (fun _ => ⟨by omega, hA.cls fun _ k => k.tail, r1.ok, hlst⟩), fun cc e => by cases e⟩ rfl rfl ?_
        exact fun w h => h.tail
    have hJ0 : n - (lot - good) ≤ n - (lot - good) ∧ NatV (K W N) va A ∧ NatV (K W N) (.slice none 0 0) (psum (tm (lot - good) good n) (n - (lot - good)) (n - (lot - good) - (n - (lot - good)))) ∧ lstF (keepsA lot good n alpha A) (min n good + 1 - (n - (lot - good))) (n - (lot - good)) 0 = lstF (keepsA lot good n alpha A) (min n good + 1 - (n - (lot - good))) (n - (lot - good)) 0 := ⟨Nat.le_refl _, hA, NatV.nilI.of (by rw [Nat.sub_self]; rfl), rfl⟩
    have key := terms1_spec (b1 := t1) (b2 := t2) (b3 := t3) (z0 := (.slice none 0 0, 0)) hlot hgood hn hR hJ0
    refine (key.pre fun w h => K.toM (M := [[(l, k.rdy)], [(D, dfO)]]) (B := [[(t3, row 3 [.int .i64 (n : Int)])], [(t2, row 3 [.int .i64 (good : Int)])], [(t1, row 3 [.int .i64 (lot : Int)])]]) h).map (fun x => ⟨x.1, ?_, fun cc e => (x.2.2 cc e).1⟩) (fun _ => rfl) (fun x w h => h)
    obtain ⟨⟨u, M, j⟩, q1, q2⟩ := x
    cases j with
    | none =>
      have h4 := (q1 rfl).2.2.2
      dsimp only at h4 ⊢
      rw [Nat.sub_self] at h4
      exact h4
    | some cc => exact (q2 cc rfl).2
  · obtain ⟨⟨⟨u, ci⟩, M, j⟩, hu, hc⟩ := x
    dsimp only at hu hc hj ⊢
    by_cases ha : alpha = 1000000
    · have hl : leastN lot good n alpha A = 0 := if_pos ha
      rw [hl]
      refine f_blockN ?_
      refine f_then ?_
      refine c_seq ?_
      refine c_seq ?_
      refine c_region ?_
      refine s_y (y_load Try.tab rfl rfl (cell_row 4 rfl rfl)) rfl rfl rfl ?_
      refine s_y (y_T (y_eql rfl rfl) (by omega)) rfl rfl rfl ?_
      refine s_nil ?_
      refine f_then ?_
      refine c_condT rfl ?_
      refine c_seq ?_
      refine c_region ?_
      refine s_y (y_assign rfl) rfl rfl rfl ?_
      refine s_nil ?_
      refine f_then ?_
      refine c_ret ?_
      refine f_thenR ?_
      exact f_retM () [D] (res1 rfl rfl) rfl (fun w h => h.tail.tail.tail.tail.bck) rfl
    · have hl : leastN lot good n alpha A = ci := by rw [leastN, if_neg ha, hu]
      rw [hl]
      refine f_blockN ?_
      refine f_then ?_
      refine c_seq ?_
      refine c_seq ?_
      refine c_region ?_
      refine s_y (y_load Try.tab rfl rfl (cell_row 4 rfl rfl)) rfl rfl rfl ?_
      refine s_y (y_F (y_eql rfl rfl) (by omega)) rfl rfl rfl ?_
      refine s_nil ?_
      refine f_then ?_
      refine c_condF rfl ?_
      refine c_skip ?_
      refine f_then ?_
      refine c_seq ?_
      refine c_region ?_
      refine s_y (y_load Try.tab rfl rfl (cell_row 1 rfl rfl)) rfl rfl rfl ?_
      refine s_y (y_assign rfl) rfl rfl rfl ?_
      refine s_nil ?_
      refine f_then ?_
      refine c_ret ?_
      exact f_retM () [D] (res1 rfl rfl) rfl (fun w h => h.tail.tail.tail.tail.bck) rfl
  · obtain ⟨⟨⟨u, ci⟩, M, j⟩, hu, hc⟩ := x
    dsimp only at hu hc hj ⊢
    obtain rfl := hc cc hj
    by_cases ha : alpha = 1000000
    · have hl : leastN lot good n alpha A = 0 := if_pos ha
      rw [hl]
      refine c_exit ?_
      refine f_blockE ?_
      refine f_then ?_
      refine c_seq ?_
      refine c_seq ?_
      refine c_region ?_
      refine s_y (y_load Try.tab rfl rfl (cell_row 4 rfl rfl)) rfl rfl rfl ?_
      refine s_y (y_T (y_eql rfl rfl) (by omega)) rfl rfl rfl ?_
      refine s_nil ?_
      refine f_then ?_
      refine c_condT rfl ?_
      refine c_seq ?_
      refine c_region ?_
      refine s_y (y_assign rfl) rfl rfl rfl ?_
      refine s_nil ?_
      refine f_then ?_
      refine c_ret ?_
      refine f_thenR ?_
      exact f_retM () [D] (res1 rfl rfl) rfl (fun w h => h.tail.tail.tail.tail.bck) rfl
    · have hl : leastN lot good n alpha A = ci := by rw [leastN, if_neg ha, hu]
      rw [hl]
      refine c_exit ?_
      refine f_blockE ?_
      refine f_then ?_
      refine c_seq ?_
      refine c_seq ?_
      refine c_region ?_
      refine s_y (y_load Try.tab rfl rfl (cell_row 4 rfl rfl)) rfl rfl rfl ?_
      refine s_y (y_F (y_eql rfl rfl) (by omega)) rfl rfl rfl ?_
      refine s_nil ?_
      refine f_then ?_
      refine c_condF rfl ?_
      refine c_skip ?_
      refine f_then ?_
      refine c_seq ?_
      refine c_region ?_
      refine s_y (y_load Try.tab rfl rfl (cell_row 1 rfl rfl)) rfl rfl rfl ?_
      refine s_y (y_assign rfl) rfl rfl rfl ?_
      refine s_nil ?_
      refine f_then ?_
      refine c_ret ?_
      exact f_retM () [D] (res1 rfl rfl) rfl (fun w h => h.tail.tail.tail.tail.bck) rfl
end Go.KL
end

section
/- Walks: Plan. -/
namespace Go.KL
open Go.Proofs
/-- The first sample from n on that keeps both risks (d are left to try), with its acceptance number. -/
def planF (lot good bad alpha beta : Nat) : Nat → Nat → Nat × Nat
  | 0, n => (n, leastN lot good n alpha (bino lot n))
  | d + 1, n => if accN lot bad n (leastN lot good n alpha (bino lot n) : Nat) * 1000000 ≤ bino lot n * beta then (n, leastN lot good n alpha (bino lot n)) else planF lot good bad alpha beta d (n + 1)
theorem bino_4k {n k : Nat} (h : n ≤ 4096) : bino n k ≤ 2 ^ 4096 := by
  obtain ⟨u, hu⟩ : ∃ u, u = 4096 := ⟨_, rfl⟩
  rw [← hu] at h ⊢
  exact Nat.le_trans (bino_le n k) (Nat.pow_le_pow_right (by omega) h)
theorem accN_big {lot bad n : Nat} {c : Int} (h1 : lot ≤ 4096) (h2 : bad ≤ lot) (_ : n ≤ lot) : accN lot bad n c * 1000000 < 2 ^ 16384 := by
  obtain ⟨u, hu⟩ : ∃ u, u = 4096 := ⟨_, rfl⟩
  refine two_lt (a := 13 + u) (b := 20) ?_ (by omega) (by omega)
  refine Nat.le_trans (sumTo_le (e := u) (fun i => Nat.le_trans tm_le ?_) _) ?_
  · exact Nat.pow_le_pow_right (by omega) (by omega)
  · rw [Nat.pow_add]
    exact Nat.mul_le_mul_right _ (by omega)
attribute [local irreducible] SC St Fin Sq Ylds Doos Sets Enters Spec CellIs CellsAre Then Ret Rnd Chn resOK ints bools recs arr
set_option maxRecDepth 10000 in
set_option maxHeartbeats 8000000 in
theorem planE_spec {W : World} {N : List Chunk} {lot good bad alpha beta : Int} (h : ¬ ((1 ≤ lot ∧ lot ≤ 256) ∧ 0 ≤ good ∧ good < bad ∧ bad ≤ lot ∧ (0 ≤ alpha ∧ alpha ≤ 1000000) ∧ (0 ≤ beta ∧ beta ≤ 1000000))) :
    Spec Try.prog 25 #[.int .i64 lot, .int .i64 good, .int .i64 bad, .int .i64 alpha, .int .i64 beta] (K W N) (fun _ : Unit => .tuple #[.int .i64 0, .int .i64 0, .int .i64 2]) (fun _ => K W N) := by
  refine enter (args := [_, _, _, _, _]) Try.func25 rfl Try.ntmps25 rfl ?_
  refine c_seq ?_
  refine c_region ?_
  refine s_y (y_assign rfl) rfl rfl rfl ?_
  refine s_y (y_assign rfl) rfl rfl rfl ?_
  refine s_y (y_assign rfl) rfl rfl rfl ?_
  refine s_nil ?_
  refine f_then ?_
  refine c_seq ?_
  refine c_seq ?_
  refine c_region ?_
  refine s_y (y_move rfl) rfl rfl rfl ?_
  refine s_call (en_f rfl Try.call49) inside_spec rfl rfl rfl (fun _ => ?_)
  by_cases h1 : 1 ≤ lot ∧ lot ≤ 256
  · rw [decide_eq_true h1]
    by_cases h2 : good < 0
    · refine s_y (y_notT rfl) rfl rfl rfl ?_
      refine s_y (y_move rfl) rfl rfl rfl ?_
      refine s_y (y_move rfl) rfl rfl rfl ?_
      refine s_y (y_T (y_lss rfl rfl) (by assumption)) rfl rfl rfl ?_
      refine s_y (y_pickF rfl rfl) rfl rfl rfl ?_
      refine s_y (y_move rfl) rfl rfl rfl ?_
      iterate 3 refine s_skip rfl rfl rfl ?_
      refine s_y (y_pickT rfl rfl) rfl rfl rfl ?_
      refine s_y (y_move rfl) rfl rfl rfl ?_
      iterate 3 refine s_skip rfl rfl rfl ?_
      refine s_y (y_pickT rfl rfl) rfl rfl rfl ?_
      refine s_y (y_move rfl) rfl rfl rfl ?_
      iterate 3 refine s_skip rfl rfl rfl ?_
      refine s_y (y_pickT rfl rfl) rfl rfl rfl ?_
      refine s_y (y_move rfl) rfl rfl rfl ?_
      iterate 3 refine s_skip rfl rfl rfl ?_
      refine s_y (y_pickT rfl rfl) rfl rfl rfl ?_
      refine s_nil ?_
      refine f_then ?_
      refine c_condT rfl ?_
      refine c_seq ?_
      refine c_region ?_
      refine s_y (y_assign rfl) rfl rfl rfl ?_
      refine s_y (y_assign rfl) rfl rfl rfl ?_
      refine s_y (y_assign rfl) rfl rfl rfl ?_
      refine s_nil ?_
      refine f_then ?_
      refine c_ret ?_
      refine f_thenR ?_
      exact f_ret () (res3 rfl rfl rfl rfl) (fun w h => h)
    by_cases h3 : bad ≤ good
    · refine s_y (y_notT rfl) rfl rfl rfl ?_
      refine s_y (y_move rfl) rfl rfl rfl ?_
      refine s_y (y_move rfl) rfl rfl rfl ?_
      refine s_y (y_F (y_lss rfl rfl) (by assumption)) rfl rfl rfl ?_
      refine s_y (y_pickF rfl rfl) rfl rfl rfl ?_
      refine s_y (y_move rfl) rfl rfl rfl ?_
      refine s_y (y_move rfl) rfl rfl rfl ?_
      refine s_y (y_move rfl) rfl rfl rfl ?_
      refine s_y (y_T (y_geq rfl rfl) (by assumption)) rfl rfl rfl ?_
      refine s_y (y_pickF rfl rfl) rfl rfl rfl ?_
      refine s_y (y_move rfl) rfl rfl rfl ?_
      iterate 3 refine s_skip rfl rfl rfl ?_
      refine s_y (y_pickT rfl rfl) rfl rfl rfl ?_
      refine s_y (y_move rfl) rfl rfl rfl ?_
      iterate 3 refine s_skip rfl rfl rfl ?_
      refine s_y (y_pickT rfl rfl) rfl rfl rfl ?_
      refine s_y (y_move rfl) rfl rfl rfl ?_
      iterate 3 refine s_skip rfl rfl rfl ?_
      refine s_y (y_pickT rfl rfl) rfl rfl rfl ?_
      refine s_nil ?_
      refine f_then ?_
      refine c_condT rfl ?_
      refine c_seq ?_
      refine c_region ?_
      refine s_y (y_assign rfl) rfl rfl rfl ?_
      refine s_y (y_assign rfl) rfl rfl rfl ?_
      refine s_y (y_assign rfl) rfl rfl rfl ?_
      refine s_nil ?_
      refine f_then ?_
      refine c_ret ?_
      refine f_thenR ?_
      exact f_ret () (res3 rfl rfl rfl rfl) (fun w h => h)
    by_cases h4 : lot < bad
    · refine s_y (y_notT rfl) rfl rfl rfl ?_
      refine s_y (y_move rfl) rfl rfl rfl ?_
      refine s_y (y_move rfl) rfl rfl rfl ?_
      refine s_y (y_F (y_lss rfl rfl) (by assumption)) rfl rfl rfl ?_
      refine s_y (y_pickF rfl rfl) rfl rfl rfl ?_
      refine s_y (y_move rfl) rfl rfl rfl ?_
      refine s_y (y_move rfl) rfl rfl rfl ?_
      refine s_y (y_move rfl) rfl rfl rfl ?_
      refine s_y (y_F (y_geq rfl rfl) (by assumption)) rfl rfl rfl ?_
      refine s_y (y_pickF rfl rfl) rfl rfl rfl ?_
      refine s_y (y_move rfl) rfl rfl rfl ?_
      refine s_y (y_move rfl) rfl rfl rfl ?_
      refine s_y (y_move rfl) rfl rfl rfl ?_
      refine s_y (y_T (y_gtr rfl rfl) (by assumption)) rfl rfl rfl ?_
      refine s_y (y_pickF rfl rfl) rfl rfl rfl ?_
      refine s_y (y_move rfl) rfl rfl rfl ?_
      iterate 3 refine s_skip rfl rfl rfl ?_
      refine s_y (y_pickT rfl rfl) rfl rfl rfl ?_
      refine s_y (y_move rfl) rfl rfl rfl ?_
      iterate 3 refine s_skip rfl rfl rfl ?_
      refine s_y (y_pickT rfl rfl) rfl rfl rfl ?_
      refine s_nil ?_
      refine f_then ?_
      refine c_condT rfl ?_
      refine c_seq ?_
      refine c_region ?_
      refine s_y (y_assign rfl) rfl rfl rfl ?_
      refine s_y (y_assign rfl) rfl rfl rfl ?_
      refine s_y (y_assign rfl) rfl rfl rfl ?_
      refine s_nil ?_
      refine f_then ?_
      refine c_ret ?_
      refine f_thenR ?_
      exact f_ret () (res3 rfl rfl rfl rfl) (fun w h => h)
    refine s_y (y_notT rfl) rfl rfl rfl ?_
    refine s_y (y_move rfl) rfl rfl rfl ?_
    refine s_y (y_move rfl) rfl rfl rfl ?_
    refine s_y (y_F (y_lss rfl rfl) (by assumption)) rfl rfl rfl ?_
    refine s_y (y_pickF rfl rfl) rfl rfl rfl ?_
    refine s_y (y_move rfl) rfl rfl rfl ?_
    refine s_y (y_move rfl) rfl rfl rfl ?_
    refine s_y (y_move rfl) rfl rfl rfl ?_
    refine s_y (y_F (y_geq rfl rfl) (by assumption)) rfl rfl rfl ?_
    refine s_y (y_pickF rfl rfl) rfl rfl rfl ?_
    refine s_y (y_move rfl) rfl rfl rfl ?_
    refine s_y (y_move rfl) rfl rfl rfl ?_
    refine s_y (y_move rfl) rfl rfl rfl ?_
    refine s_y (y_F (y_gtr rfl rfl) (by assumption)) rfl rfl rfl ?_
    refine s_y (y_pickF rfl rfl) rfl rfl rfl ?_
    refine s_y (y_move rfl) rfl rfl rfl ?_
    refine s_y (y_move rfl) rfl rfl rfl ?_
    refine s_call (en_f rfl Try.call49) inside_spec rfl rfl rfl (fun _ => ?_)
    by_cases h5 : 0 ≤ alpha ∧ alpha ≤ 1000000
    · rw [decide_eq_true h5]
      refine s_y (y_notT rfl) rfl rfl rfl ?_
      refine s_y (y_pickF rfl rfl) rfl rfl rfl ?_
      refine s_y (y_move rfl) rfl rfl rfl ?_
      refine s_y (y_move rfl) rfl rfl rfl ?_
      refine s_call (en_f rfl Try.call49) inside_spec rfl rfl rfl (fun _ => ?_)
      rw [decide_eq_false (fun h6 => h ⟨h1, by omega, by omega, by omega, h5, h6⟩)]
      refine s_y (y_notF rfl) rfl rfl rfl ?_
      refine s_y (y_pickF rfl rfl) rfl rfl rfl ?_
      refine s_nil ?_
      refine f_then ?_
      refine c_condT rfl ?_
      refine c_seq ?_
      refine c_region ?_
      refine s_y (y_assign rfl) rfl rfl rfl ?_
      refine s_y (y_assign rfl) rfl rfl rfl ?_
      refine s_y (y_assign rfl) rfl rfl rfl ?_
      refine s_nil ?_
      refine f_then ?_
      refine c_ret ?_
      refine f_thenR ?_
      exact f_ret () (res3 rfl rfl rfl rfl) (fun w h => h)
    · rw [decide_eq_false h5]
      refine s_y (y_notF rfl) rfl rfl rfl ?_
      refine s_y (y_pickF rfl rfl) rfl rfl rfl ?_
      refine s_y (y_move rfl) rfl rfl rfl ?_
      iterate 3 refine s_skip rfl rfl rfl ?_
      refine s_y (y_pickT rfl rfl) rfl rfl rfl ?_
      refine s_nil ?_
      refine f_then ?_
      refine c_condT rfl ?_
      refine c_seq ?_
      refine c_region ?_
      refine s_y (y_assign rfl) rfl rfl rfl ?_
      refine s_y (y_assign rfl) rfl rfl rfl ?_
      refine s_y (y_assign rfl) rfl rfl rfl ?_
      refine s_nil ?_
      refine f_then ?_
      refine c_ret ?_
      refine f_thenR ?_
      exact f_ret () (res3 rfl rfl rfl rfl) (fun w h => h)
  · rw [decide_eq_false h1]
    refine s_y (y_notF rfl) rfl rfl rfl ?_
    refine s_y (y_move rfl) rfl rfl rfl ?_
    iterate 2 refine s_skip rfl rfl rfl ?_
    refine s_y (y_pickT rfl rfl) rfl rfl rfl ?_
    refine s_y (y_move rfl) rfl rfl rfl ?_
    iterate 3 refine s_skip rfl rfl rfl ?_
    refine s_y (y_pickT rfl rfl) rfl rfl rfl ?_
    refine s_y (y_move rfl) rfl rfl rfl ?_
    iterate 3 refine s_skip rfl rfl rfl ?_
    refine s_y (y_pickT rfl rfl) rfl rfl rfl ?_
    refine s_y (y_move rfl) rfl rfl rfl ?_
    iterate 3 refine s_skip rfl rfl rfl ?_
    refine s_y (y_pickT rfl rfl) rfl rfl rfl ?_
    refine s_y (y_move rfl) rfl rfl rfl ?_
    iterate 3 refine s_skip rfl rfl rfl ?_
    refine s_y (y_pickT rfl rfl) rfl rfl rfl ?_
    refine s_nil ?_
    refine f_then ?_
    refine c_condT rfl ?_
    refine c_seq ?_
    refine c_region ?_
    refine s_y (y_assign rfl) rfl rfl rfl ?_
    refine s_y (y_assign rfl) rfl rfl rfl ?_
    refine s_y (y_assign rfl) rfl rfl rfl ?_
    refine s_nil ?_
    refine f_then ?_
    refine c_ret ?_
    refine f_thenR ?_
    exact f_ret () (res3 rfl rfl rfl rfl) (fun w h => h)
set_option maxRecDepth 10000 in
set_option maxHeartbeats 16000000 in
theorem plan_spec {W : World} {N : List Chunk} {lot good bad alpha beta : Nat} (h1 : 1 ≤ lot) (h2 : lot ≤ 256) (h3 : good < bad) (h4 : bad ≤ lot) (h5 : alpha ≤ 1000000) (h6 : beta ≤ 1000000) :
    Spec Try.prog 25 #[.int .i64 (lot : Int), .int .i64 (good : Int), .int .i64 (bad : Int), .int .i64 (alpha : Int), .int .i64 (beta : Int)] (K W N) (fun _ : Unit => .tuple #[.int .i64 ((planF lot good bad alpha beta lot 0).1 : Nat), .int .i64 ((planF lot good bad alpha beta lot 0).2 : Nat), .int .i64 0]) (fun _ => K W N) := by
  refine enter (args := [_, _, _, _, _]) Try.func25 rfl Try.ntmps25 rfl ?_
  refine c_seq ?_
  refine c_region ?_
  refine s_y (y_assign rfl) rfl rfl rfl ?_
  refine s_y (y_assign rfl) rfl rfl rfl ?_
  refine s_y (y_assign rfl) rfl rfl rfl ?_
  refine s_nil ?_
  refine f_then ?_
  refine c_seq ?_
  refine c_seq ?_
  refine c_region ?_
  refine s_y (y_move rfl) rfl rfl rfl ?_
  refine s_call (en_f rfl Try.call49) inside_spec rfl rfl rfl (fun _ => ?_)
  rw [decide_eq_true (by omega)]
  refine s_y (y_notT rfl) rfl rfl rfl ?_
  refine s_y (y_move rfl) rfl rfl rfl ?_
  refine s_y (y_move rfl) rfl rfl rfl ?_
  refine s_y (y_F (y_lss rfl rfl) (by omega)) rfl rfl rfl ?_
  refine s_y (y_pickF rfl rfl) rfl rfl rfl ?_
  refine s_y (y_move rfl) rfl rfl rfl ?_
  refine s_y (y_move rfl) rfl rfl rfl ?_
  refine s_y (y_move rfl) rfl rfl rfl ?_
  refine s_y (y_F (y_geq rfl rfl) (by omega)) rfl rfl rfl ?_
  refine s_y (y_pickF rfl rfl) rfl rfl rfl ?_
  refine s_y (y_move rfl) rfl rfl rfl ?_
  refine s_y (y_move rfl) rfl rfl rfl ?_
  refine s_y (y_move rfl) rfl rfl rfl ?_
  refine s_y (y_F (y_gtr rfl rfl) (by omega)) rfl rfl rfl ?_
  refine s_y (y_pickF rfl rfl) rfl rfl rfl ?_
  refine s_y (y_move rfl) rfl rfl rfl ?_
  refine s_y (y_move rfl) rfl rfl rfl ?_
  refine s_call (en_f rfl Try.call49) inside_spec rfl rfl rfl (fun _ => ?_)
  rw [decide_eq_true (by omega)]
  refine s_y (y_notT rfl) rfl rfl rfl ?_
  refine s_y (y_pickF rfl rfl) rfl rfl rfl ?_
  refine s_y (y_move rfl) rfl rfl rfl ?_
  refine s_y (y_move rfl) rfl rfl rfl ?_
  refine s_call (en_f rfl Try.call49) inside_spec rfl rfl rfl (fun _ => ?_)
  rw [decide_eq_true (by omega)]
  refine s_y (y_notT rfl) rfl rfl rfl ?_
  refine s_y (y_pickF rfl rfl) rfl rfl rfl ?_
  refine s_nil ?_
  refine f_then ?_
  refine c_condF rfl ?_
  refine c_skip ?_
  refine f_then ?_
  refine c_seq ?_
  refine c_seq ?_
  refine c_region ?_
  refine s_y (y_move rfl) rfl rfl rfl ?_
  refine s_y (y_move rfl) rfl rfl rfl ?_
  refine s_nil ?_
  refine f_then ?_
  refine c_block ?_
  refine c_loopP (α := Nat × Nat) (fun z => [(0, .int .i64 (lot : Int)), (1, .int .i64 (good : Int)), (2, .int .i64 (bad : Int)), (3, .int .i64 (alpha : Int)), (4, .int .i64 (beta : Int)), (43, .int .i64 (lot : Int)), (44, .int .i64 (z.2 : Nat))])
    (fun z => z.1 + z.2 = lot ∧ planF lot good bad alpha beta z.1 z.2 = planF lot good bad alpha beta lot 0) (fun _ => K W N) (fun z => z.1) (lot, 0)
    ⟨rfl, rfl, rfl, rfl, rfl, rfl, rfl, trivial⟩ ⟨rfl, rfl⟩ (fun w h => h) ?_
  rintro ⟨d, i⟩ ⟨hd, hp⟩
  dsimp only at hd hp ⊢
  rw [← hp]
  cases d with
  | zero =>
    have hi : i = lot := by omega
    subst hi
    refine c_seq ?_
    refine c_region ?_
    refine s_y (y_F (y_lss rfl rfl) (by omega)) rfl rfl rfl ?_
    refine s_nil ?_
    refine f_then ?_
    refine c_seq ?_
    refine c_condF rfl ?_
    refine c_exit ?_
    refine f_thenE ?_
    refine f_rndE ?_
    refine f_blockE ?_
    refine f_then ?_
    refine c_seq ?_
    refine c_region ?_
    refine s_y (y_move rfl) rfl rfl rfl ?_
    refine s_y (y_move rfl) rfl rfl rfl ?_
    refine s_y (y_move rfl) rfl rfl rfl ?_
    refine s_y (y_move rfl) rfl rfl rfl ?_
    refine s_y (y_move rfl) rfl rfl rfl ?_
    refine s_y (y_move rfl) rfl rfl rfl ?_
    refine s_y (y_move rfl) rfl rfl rfl ?_
    refine s_call (en_f rfl Try.call52) (samples_spec (n := i) (k := i) (by omega) (by omega)) rfl rfl rfl (fun r1 => ?_)
    skip
    haveI := r1.ok
    refine s_call (en_f rfl Try.call58) (least_spec (N := r1.L :: N) (lot := i) (good := good) (n := i) (alpha := alpha) (A := bino i i) (by omega) (by omega) (by omega) h5 (bino_4k (by omega))) rfl rfl rfl (fun _ => ?_)
    refine s_y (y_assign rfl) rfl rfl rfl ?_
    refine s_y (y_assign rfl) rfl rfl rfl ?_
    refine s_y (y_assign rfl) rfl rfl rfl ?_
    refine s_nil ?_
    refine f_then ?_
    refine c_ret ?_
    exact f_ret () (res3 rfl rfl rfl rfl) (fun w h => h.tail)
  | succ d =>
    refine c_seq ?_
    refine c_region ?_
    refine s_y (y_T (y_lss rfl rfl) (by omega)) rfl rfl rfl ?_
    refine s_nil ?_
    refine f_then ?_
    refine c_seq ?_
    refine c_condT rfl ?_
    refine c_skip ?_
    refine f_then ?_
    refine c_seq ?_
    refine c_block ?_
    refine c_seq ?_
    refine c_region ?_
    refine s_y (y_move rfl) rfl rfl rfl ?_
    refine s_y (y_assign rfl) rfl rfl rfl ?_
    refine s_nil ?_
    refine f_then ?_
    refine c_seq ?_
    refine c_region ?_
    refine s_y (y_move rfl) rfl rfl rfl ?_
    refine s_y (y_move rfl) rfl rfl rfl ?_
    refine s_call (en_f rfl Try.call52) (samples_spec (n := lot) (k := i) (by omega) (by omega)) rfl rfl rfl (fun r1 => ?_)
    refine s_do (do_alloc Try.tab rfl) rfl rfl rfl (fun b14 => ?_)
    refine s_set (set_71 0 rfl rfl rfl rfl) rfl rfl ?_
    refine s_nil ?_
    refine f_then ?_
    refine c_seq ?_
    refine c_region ?_
    refine s_y (y_move rfl) rfl rfl rfl ?_
    refine s_y (y_move rfl) rfl rfl rfl ?_
    refine s_y (y_move rfl) rfl rfl rfl ?_
    refine s_y (y_move rfl) rfl rfl rfl ?_
    refine s_y (y_loadA Try.tab rfl rfl rfl rfl (cells_row0 0 rfl rfl)) rfl rfl rfl ?_
    haveI := r1.ok
    have hA2 : bino lot i ≤ 2 ^ 4096 := bino_4k (by omega)
    refine s_call (en_f rfl Try.call58) (least_spec (N := [(b14, row 71 [r1.v])] :: r1.L :: N) (lot := lot) (good := good) (n := i) (alpha := alpha) (A := bino lot i) (by omega) (by omega) (by omega) h5 hA2) rfl rfl rfl (fun _ => ?_)
    obtain ⟨c, hc⟩ : ∃ c, c = leastN lot good i alpha (bino lot i) := ⟨_, rfl⟩
    rw [← hc]
    refine s_y (y_assign rfl) rfl rfl rfl ?_
    refine s_nil ?_
    refine f_then ?_
    refine c_seq ?_
    have hw1 : wl (accN lot bad i c) ≤ 10000 := Nat.le_trans (wl_16k (accN_lt (by omega) h4 (by omega))) (by omega)
    have hw2 : wl (bino lot i) ≤ 10000 := Nat.le_trans (wl_exl (d := 512) (f := 16384) (by omega) (by omega) hA2) (by omega)
    have hb1 : accN lot bad i c * 1000000 < 2 ^ 16384 := accN_big (by omega) h4 (by omega)
    have hb2 : bino lot i * beta < 2 ^ 16384 := two_lt (a := 4096) (b := 20) hA2 (by omega) (by omega)
    refine c_drawn [(0, .int .i64 (lot : Int)), (1, .int .i64 (good : Int)), (2, .int .i64 (bad : Int)), (3, .int .i64 (alpha : Int)), (4, .int .i64 (beta : Int)), (13, .int .i64 (i : Int)), (14, .pointer (some ⟨b14, 0, none⟩)), (15, .int .i64 (c : Int)), (43, .int .i64 (lot : Int)), (44, .int .i64 (i : Int))] [[], [], [], [], [(0, 56), (1, 57), (2, 58), (3, 59)], [], [], [(4, 60), (5, 61), (6, 62)], [(7, 63)]] [(8, 64)] (fun _ => [[(b14, row 71 [r1.v])]])
      [fun _ v _ => .int .i64 (lot : Int) = v, fun _ v _ => .int .i64 (bad : Int) = v, fun _ v _ => .int .i64 (i : Int) = v, fun _ v _ => .int .i64 (c : Int) = v, fun N v _ => ∃ u, .agg #[u] = v ∧ NatV (K W N) u (accN lot bad i c), fun _ v _ => .agg #[r1.v] = v, fun _ v _ => .int .i64 (beta : Int) = v, fun _ v _ => Value.int .i64 (cmpV (accN lot bad i c * 1000000) (bino lot i * beta)) = v, fun _ v _ => .bool (decide (cmpV (accN lot bad i c * 1000000) (bino lot i * beta) ≤ 0)) = v]
      (r1.L :: N) (fun N' => NatV (K W N') r1.v (bino lot i) ∧ ∃ M, N' = M ++ N) ⟨inferInstance, [r1.L], rfl⟩ (fun M N' ⟨h0, M2, e⟩ => ⟨h0.cls fun _ k => k.bck, M ++ M2, by rw [e, List.append_assoc]⟩) Try.mixed (by kernel_rfl) rfl ⟨rfl, rfl, rfl, rfl, rfl, rfl, rfl, rfl, rfl, rfl, trivial⟩ (fun w h => h)
      ⟨fun _ _ _ _ h => h, fun _ _ _ _ h => h, fun _ _ _ _ h => h, fun _ _ _ _ h => h, fun _ _ _ _ ⟨u, e, h⟩ => ⟨u, e, h.cls fun _ k => k.bck⟩, fun _ _ _ _ h => h, fun _ _ _ _ h => h, fun _ _ _ _ h => h, fun _ _ _ _ h => h, trivial⟩
      ⟨?_, ?_, ?_, ?_, ?_, ?_, ?_, ?_, ?_, trivial⟩ ?_
    · intro s N' gN h0 hn0
      show Acts _ _ _ (K W ([(b14, row 71 [r1.v])] :: N')) _ _
      exact a_y (y_move rfl) fun w h => ⟨[], [], h, rfl⟩
    · intro s N' gN h0 hn0
      show Acts _ _ _ (K W ([(b14, row 71 [r1.v])] :: N')) _ _
      exact a_y (y_move rfl) fun w h => ⟨[], [], h, rfl⟩
    · intro s N' gN h0 hn0
      show Acts _ _ _ (K W ([(b14, row 71 [r1.v])] :: N')) _ _
      exact a_y (y_move rfl) fun w h => ⟨[], [], h, rfl⟩
    · intro s N' gN h0 hn0
      show Acts _ _ _ (K W ([(b14, row 71 [r1.v])] :: N')) _ _
      exact a_y (y_move rfl) fun w h => ⟨[], [], h, rfl⟩
    · rintro s N' gN h0 hn0 v0 d0 e0 rfl v1 d1 e1 rfl v2 d2 e2 rfl v3 d3 e3 rfl
      show Acts _ _ _ (K W ([(b14, row 71 [r1.v])] :: N')) _ _
      haveI := gN.1
      exact a_call (en_f rfl Try.call51) (bx1 (u := fun v => .agg #[v]) (atMost_spec (lot := lot) (bad := bad) (n := i) (c := (c : Int)) (by omega) h4 (by omega)) rfl) fun r w h => ⟨[r.L], [], h, r.v, rfl, r.ok⟩
    · intro s N' gN h0 hn0
      show Acts _ _ _ (K W ([(b14, row 71 [r1.v])] :: N')) _ _
      exact a_y (y_loadA Try.tab rfl rfl rfl rfl (cells_row0 0 rfl rfl)) fun w h => ⟨[], [], h, rfl⟩
    · intro s N' gN h0 hn0
      show Acts _ _ _ (K W ([(b14, row 71 [r1.v])] :: N')) _ _
      exact a_y (y_move rfl) fun w h => ⟨[], [], h, rfl⟩
    · rintro s N' gN h0 hn0 v4 d4 e4 ⟨uz4, rfl, mz4⟩ v5 d5 e5 rfl v6 d6 e6 rfl
      show Acts _ _ _ (K W ([(b14, row 71 [r1.v])] :: N')) _ _
      haveI := gN.1
      haveI := gN.1
      haveI : NatV (K W N') uz4 (accN lot bad i c) := mz4
      exact a_call (en_f rfl Try.call59) (exceeds2_spec (N := [(b14, row 71 [r1.v])] :: N') (x := accN lot bad i c) (y := bino lot i) (m := beta) hw1 hw2 (by omega) hb1 hb2) fun _ w h => ⟨[], [], h, rfl⟩
    · rintro s N' gN h0 hn0 v7 d7 e7 rfl
      show Acts _ _ _ (K W ([(b14, row 71 [r1.v])] :: N')) _ _
      exact a_y (y_leq rfl rfl) fun w h => ⟨[], [], h, rfl⟩
    · intro s N' gN hall v8 d8 e8 f8
      subst f8
      obtain ⟨g1, M, hM⟩ := gN
      subst hM
      show Fin _ _ _ _ (K W ([(b14, row 71 [r1.v])] :: (M ++ N)))
      clear hb1 hb2 hA2
      by_cases hk : accN lot bad i c * 1000000 ≤ bino lot i * beta
      · have hpl : planF lot good bad alpha beta (d + 1) i = (i, c) := by rw [planF, ← hc, if_pos hk]
        rw [hpl, decide_eq_true (cmpV_le.2 hk)]
        refine f_then ?_
        refine c_condT rfl ?_
        refine c_seq ?_
        refine c_region ?_
        refine s_y (y_move rfl) rfl rfl rfl ?_
        refine s_y (y_move rfl) rfl rfl rfl ?_
        refine s_y (y_assign rfl) rfl rfl rfl ?_
        refine s_y (y_assign rfl) rfl rfl rfl ?_
        refine s_y (y_assign rfl) rfl rfl rfl ?_
        refine s_nil ?_
        refine f_then ?_
        refine c_ret ?_
        refine f_blockR ?_
        refine f_thenR ?_
        refine f_rndR ?_
        refine f_blockR ?_
        refine f_thenR ?_
        exact f_ret () (res3 rfl rfl rfl rfl) (fun w h => h.tail.bck)
      · have hpl : planF lot good bad alpha beta (d + 1) i = planF lot good bad alpha beta d (i + 1) := by rw [planF, ← hc, if_neg hk]
        rw [decide_eq_false (mt cmpV_le.1 hk)]
        refine f_then ?_
        refine c_condF rfl ?_
        refine c_skip ?_
        refine f_blockN ?_
        refine f_then ?_
        refine c_region ?_
        refine s_y (y_add rfl rfl (by omega)) rfl rfl rfl ?_
        refine s_y (y_move rfl) rfl rfl rfl ?_
        refine s_nil ?_
        exact f_roundP (d, i + 1) ⟨by dsimp only; omega, hpl.symm⟩ (by dsimp only; omega) ⟨rfl, rfl, rfl, rfl, rfl, rfl, congrArg (fun z => some (Value.int .i64 z)) (by dsimp only; omega), trivial⟩ (fun w h => h.tail.bck)
end Go.KL
end

section
/- Walks: Bound. -/
namespace Go.KL
open Go.Proofs
/-- The greatest number of bad pieces above found that explains the sample (found + d are the most), or found. -/
def bndF (lot n found risk : Nat) : Nat → Nat
  | 0 => found
  | d + 1 => if bino lot n * risk < accN lot (found + d + 1) n found * 1000000 then found + d + 1 else bndF lot n found risk d
theorem cmpV_gt {a b : Nat} : 0 < cmpV a b ↔ b < a := by
  unfold cmpV
  split
  · omega
  · split <;> omega
attribute [local irreducible] SC St Fin Sq Ylds Doos Sets Enters Spec CellIs CellsAre Then Ret Rnd Chn resOK ints bools recs arr
set_option maxRecDepth 10000 in
set_option maxHeartbeats 8000000 in
theorem boundE_spec {W : World} {N : List Chunk} {lot n found risk : Int} (h : ¬ ((0 ≤ lot ∧ lot ≤ 256) ∧ (0 ≤ n ∧ n ≤ lot) ∧ (0 ≤ found ∧ found ≤ n) ∧ (0 ≤ risk ∧ risk ≤ 1000000))) :
    Spec Try.prog 35 #[.int .i64 lot, .int .i64 n, .int .i64 found, .int .i64 risk] (K W N) (fun _ : Unit => .tuple #[.int .i64 0, .int .i64 2]) (fun _ => K W N) := by
  refine enter (args := [_, _, _, _]) Try.func35 rfl Try.ntmps35 rfl ?_
  refine c_seq ?_
  refine c_region ?_
  refine s_y (y_assign rfl) rfl rfl rfl ?_
  refine s_y (y_assign rfl) rfl rfl rfl ?_
  refine s_nil ?_
  refine f_then ?_
  refine c_seq ?_
  refine c_seq ?_
  refine c_region ?_
  refine s_y (y_move rfl) rfl rfl rfl ?_
  refine s_call (en_f rfl Try.call49) inside_spec rfl rfl rfl (fun _ => ?_)
  by_cases h1 : 0 ≤ lot ∧ lot ≤ 256
  · rw [decide_eq_true h1]
    refine s_y (y_notT rfl) rfl rfl rfl ?_
    refine s_y (y_move rfl) rfl rfl rfl ?_
    refine s_y (y_move rfl) rfl rfl rfl ?_
    refine s_y (y_move rfl) rfl rfl rfl ?_
    refine s_call (en_f rfl Try.call49) inside_spec rfl rfl rfl (fun _ => ?_)
    by_cases h2 : 0 ≤ n ∧ n ≤ lot
    · rw [decide_eq_true h2]
      refine s_y (y_notT rfl) rfl rfl rfl ?_
      refine s_y (y_pickF rfl rfl) rfl rfl rfl ?_
      refine s_y (y_move rfl) rfl rfl rfl ?_
      refine s_y (y_move rfl) rfl rfl rfl ?_
      refine s_y (y_move rfl) rfl rfl rfl ?_
      refine s_call (en_f rfl Try.call49) inside_spec rfl rfl rfl (fun _ => ?_)
      by_cases h3 : 0 ≤ found ∧ found ≤ n
      · rw [decide_eq_true h3]
        refine s_y (y_notT rfl) rfl rfl rfl ?_
        refine s_y (y_pickF rfl rfl) rfl rfl rfl ?_
        refine s_y (y_move rfl) rfl rfl rfl ?_
        refine s_y (y_move rfl) rfl rfl rfl ?_
        refine s_call (en_f rfl Try.call49) inside_spec rfl rfl rfl (fun _ => ?_)
        rw [decide_eq_false (fun h4 => h ⟨h1, h2, h3, h4⟩)]
        refine s_y (y_notF rfl) rfl rfl rfl ?_
        refine s_y (y_pickF rfl rfl) rfl rfl rfl ?_
        refine s_nil ?_
        refine f_then ?_
        refine c_condT rfl ?_
        refine c_seq ?_
        refine c_region ?_
        refine s_y (y_assign rfl) rfl rfl rfl ?_
        refine s_y (y_assign rfl) rfl rfl rfl ?_
        refine s_nil ?_
        refine f_then ?_
        refine c_ret ?_
        refine f_thenR ?_
        exact f_ret () (res2 rfl rfl rfl) (fun w h => h)
      · rw [decide_eq_false h3]
        refine s_y (y_notF rfl) rfl rfl rfl ?_
        refine s_y (y_pickF rfl rfl) rfl rfl rfl ?_
        refine s_y (y_move rfl) rfl rfl rfl ?_
        iterate 3 refine s_skip rfl rfl rfl ?_
        refine s_y (y_pickT rfl rfl) rfl rfl rfl ?_
        refine s_nil ?_
        refine f_then ?_
        refine c_condT rfl ?_
        refine c_seq ?_
        refine c_region ?_
        refine s_y (y_assign rfl) rfl rfl rfl ?_
        refine s_y (y_assign rfl) rfl rfl rfl ?_
        refine s_nil ?_
        refine f_then ?_
        refine c_ret ?_
        refine f_thenR ?_
        exact f_ret () (res2 rfl rfl rfl) (fun w h => h)
    · rw [decide_eq_false h2]
      refine s_y (y_notF rfl) rfl rfl rfl ?_
      refine s_y (y_pickF rfl rfl) rfl rfl rfl ?_
      refine s_y (y_move rfl) rfl rfl rfl ?_
      iterate 4 refine s_skip rfl rfl rfl ?_
      refine s_y (y_pickT rfl rfl) rfl rfl rfl ?_
      refine s_y (y_move rfl) rfl rfl rfl ?_
      iterate 3 refine s_skip rfl rfl rfl ?_
      refine s_y (y_pickT rfl rfl) rfl rfl rfl ?_
      refine s_nil ?_
      refine f_then ?_
      refine c_condT rfl ?_
      refine c_seq ?_
      refine c_region ?_
      refine s_y (y_assign rfl) rfl rfl rfl ?_
      refine s_y (y_assign rfl) rfl rfl rfl ?_
      refine s_nil ?_
      refine f_then ?_
      refine c_ret ?_
      refine f_thenR ?_
      exact f_ret () (res2 rfl rfl rfl) (fun w h => h)
  · rw [decide_eq_false h1]
    refine s_y (y_notF rfl) rfl rfl rfl ?_
    refine s_y (y_move rfl) rfl rfl rfl ?_
    iterate 4 refine s_skip rfl rfl rfl ?_
    refine s_y (y_pickT rfl rfl) rfl rfl rfl ?_
    refine s_y (y_move rfl) rfl rfl rfl ?_
    iterate 4 refine s_skip rfl rfl rfl ?_
    refine s_y (y_pickT rfl rfl) rfl rfl rfl ?_
    refine s_y (y_move rfl) rfl rfl rfl ?_
    iterate 3 refine s_skip rfl rfl rfl ?_
    refine s_y (y_pickT rfl rfl) rfl rfl rfl ?_
    refine s_nil ?_
    refine f_then ?_
    refine c_condT rfl ?_
    refine c_seq ?_
    refine c_region ?_
    refine s_y (y_assign rfl) rfl rfl rfl ?_
    refine s_y (y_assign rfl) rfl rfl rfl ?_
    refine s_nil ?_
    refine f_then ?_
    refine c_ret ?_
    refine f_thenR ?_
    exact f_ret () (res2 rfl rfl rfl) (fun w h => h)
set_option maxRecDepth 10000 in
set_option maxHeartbeats 16000000 in
theorem bound_spec {W : World} {N : List Chunk} {lot n found risk : Nat} (h1 : lot ≤ 256) (h2 : n ≤ lot) (h3 : found ≤ n) (h4 : risk ≤ 1000000) :
    Spec Try.prog 35 #[.int .i64 (lot : Int), .int .i64 (n : Int), .int .i64 (found : Int), .int .i64 (risk : Int)] (K W N) (fun _ : Unit => .tuple #[.int .i64 (bndF lot n found risk (lot - n) : Nat), .int .i64 0]) (fun _ => K W N) := by
  refine enter (args := [_, _, _, _]) Try.func35 rfl Try.ntmps35 rfl ?_
  refine c_seq ?_
  refine c_region ?_
  refine s_y (y_assign rfl) rfl rfl rfl ?_
  refine s_y (y_assign rfl) rfl rfl rfl ?_
  refine s_nil ?_
  refine f_then ?_
  refine c_seq ?_
  refine c_seq ?_
  refine c_region ?_
  refine s_y (y_move rfl) rfl rfl rfl ?_
  refine s_call (en_f rfl Try.call49) inside_spec rfl rfl rfl (fun _ => ?_)
  rw [decide_eq_true (by omega)]
  refine s_y (y_notT rfl) rfl rfl rfl ?_
  refine s_y (y_move rfl) rfl rfl rfl ?_
  refine s_y (y_move rfl) rfl rfl rfl ?_
  refine s_y (y_move rfl) rfl rfl rfl ?_
  refine s_call (en_f rfl Try.call49) inside_spec rfl rfl rfl (fun _ => ?_)
  rw [decide_eq_true (by omega)]
  refine s_y (y_notT rfl) rfl rfl rfl ?_
  refine s_y (y_pickF rfl rfl) rfl rfl rfl ?_
  refine s_y (y_move rfl) rfl rfl rfl ?_
  refine s_y (y_move rfl) rfl rfl rfl ?_
  refine s_y (y_move rfl) rfl rfl rfl ?_
  refine s_call (en_f rfl Try.call49) inside_spec rfl rfl rfl (fun _ => ?_)
  rw [decide_eq_true (by omega)]
  refine s_y (y_notT rfl) rfl rfl rfl ?_
  refine s_y (y_pickF rfl rfl) rfl rfl rfl ?_
  refine s_y (y_move rfl) rfl rfl rfl ?_
  refine s_y (y_move rfl) rfl rfl rfl ?_
  refine s_call (en_f rfl Try.call49) inside_spec rfl rfl rfl (fun _ => ?_)
  rw [decide_eq_true (by omega)]
  refine s_y (y_notT rfl) rfl rfl rfl ?_
  refine s_y (y_pickF rfl rfl) rfl rfl rfl ?_
  refine s_nil ?_
  refine f_then ?_
  refine c_condF rfl ?_
  refine c_skip ?_
  refine f_then ?_
  refine c_seq ?_
  refine c_region ?_
  refine s_y (y_move rfl) rfl rfl rfl ?_
  refine s_y (y_move rfl) rfl rfl rfl ?_
  refine s_call (en_f rfl Try.call52) (samples_spec (n := lot) (k := n) (by omega) (by omega)) rfl rfl rfl (fun r1 => ?_)
  refine s_do (do_alloc Try.tab rfl) rfl rfl rfl (fun b10 => ?_)
  refine s_set (set_71 0 rfl rfl rfl rfl) rfl rfl ?_
  refine s_nil ?_
  refine f_then ?_
  refine c_seq ?_
  refine c_seq ?_
  refine c_region ?_
  refine s_y (y_move rfl) rfl rfl rfl ?_
  refine s_y (y_move rfl) rfl rfl rfl ?_
  refine s_y (y_sub rfl rfl (by omega)) rfl rfl rfl ?_
  refine s_y (y_move rfl) rfl rfl rfl ?_
  refine s_y (y_add rfl rfl (by omega)) rfl rfl rfl ?_
  refine s_y (y_assign rfl) rfl rfl rfl ?_
  refine s_nil ?_
  refine f_then ?_
  refine c_block ?_
  haveI := r1.ok
  have hA2 : bino lot n ≤ 2 ^ 4096 := bino_4k (by omega)
  have hw2 : wl (bino lot n) ≤ 10000 := Nat.le_trans (wl_exl (d := 512) (f := 16384) (by omega) (by omega) hA2) (by omega)
  have hb2 : bino lot n * risk < 2 ^ 16384 := two_lt (a := 4096) (b := 20) hA2 (by omega) (by omega)
  clear hA2
  refine c_loopP (α := Nat × List Chunk) (fun z => [(0, .int .i64 (lot : Int)), (1, .int .i64 (n : Int)), (2, .int .i64 (found : Int)), (3, .int .i64 (risk : Int)), (10, .pointer (some ⟨b10, 0, none⟩)), (11, .int .i64 (found + z.1 : Nat))])
    (fun z => z.1 ≤ lot - n ∧ bndF lot n found risk z.1 = bndF lot n found risk (lot - n) ∧ NatV (K W (z.2 ++ N)) r1.v (bino lot n)) (fun z => K W ([(b10, row 71 [r1.v])] :: (z.2 ++ N))) (fun z => z.1) (lot - n, [r1.L])
    ⟨rfl, rfl, rfl, rfl, rfl, congrArg (fun z => some (Value.int .i64 z)) (by dsimp only; omega), trivial⟩ ⟨Nat.le_refl _, rfl, this⟩ (fun w h => h) ?_
  rintro ⟨d, R⟩ ⟨hd, hp, hv⟩
  dsimp only at hd hp hv ⊢
  rw [← hp]
  cases d with
  | zero =>
    refine c_seq ?_
    refine c_seq ?_
    refine c_region ?_
    refine s_y (y_move rfl) rfl rfl rfl ?_
    refine s_y (y_move rfl) rfl rfl rfl ?_
    refine s_y (y_F (y_gtr rfl rfl) (by omega)) rfl rfl rfl ?_
    refine s_nil ?_
    refine f_then ?_
    refine c_condF rfl ?_
    refine c_exit ?_
    refine f_thenE ?_
    refine f_rndE ?_
    refine f_blockE ?_
    refine f_then ?_
    refine c_seq ?_
    refine c_region ?_
    refine s_y (y_move rfl) rfl rfl rfl ?_
    refine s_y (y_assign rfl) rfl rfl rfl ?_
    refine s_y (y_assign rfl) rfl rfl rfl ?_
    refine s_nil ?_
    refine f_then ?_
    refine c_ret ?_
    exact f_ret () (res2 rfl rfl rfl) (fun w h => h.tail.bck)
  | succ d =>
    refine c_seq ?_
    refine c_seq ?_
    refine c_region ?_
    refine s_y (y_move rfl) rfl rfl rfl ?_
    refine s_y (y_move rfl) rfl rfl rfl ?_
    refine s_y (y_T (y_gtr rfl rfl) (by omega)) rfl rfl rfl ?_
    refine s_nil ?_
    refine f_then ?_
    refine c_condT rfl ?_
    refine c_skip ?_
    refine f_then ?_
    refine c_seq ?_
    refine c_block ?_
    refine c_seq ?_
    obtain ⟨k, hk⟩ : ∃ k, k = found + d + 1 := ⟨_, rfl⟩
    rw [show found + (d + 1) = k by omega]
    have hw1 : wl (accN lot k n found) ≤ 10000 := Nat.le_trans (wl_16k (accN_lt (by omega) (by omega) (by omega))) (by omega)
    have hb1 : accN lot k n found * 1000000 < 2 ^ 16384 := accN_big (by omega) (by omega) (by omega)
    refine c_drawn [(0, .int .i64 (lot : Int)), (1, .int .i64 (n : Int)), (2, .int .i64 (found : Int)), (3, .int .i64 (risk : Int)), (10, .pointer (some ⟨b10, 0, none⟩)), (11, .int .i64 (k : Int))] [[], [], [], [], [(0, 45), (1, 46), (2, 47), (3, 48)], [], [], [(4, 49), (5, 50), (6, 51)], [(7, 52)]] [(8, 53)] (fun _ => [[(b10, row 71 [r1.v])]])
      [fun _ v _ => .int .i64 (lot : Int) = v, fun _ v _ => .int .i64 (k : Int) = v, fun _ v _ => .int .i64 (n : Int) = v, fun _ v _ => .int .i64 (found : Int) = v, fun N v _ => ∃ u, .agg #[u] = v ∧ NatV (K W N) u (accN lot k n found), fun _ v _ => .agg #[r1.v] = v, fun _ v _ => .int .i64 (risk : Int) = v, fun _ v _ => Value.int .i64 (cmpV (accN lot k n found * 1000000) (bino lot n * risk)) = v, fun _ v _ => .bool (decide (0 < cmpV (accN lot k n found * 1000000) (bino lot n * risk))) = v]
      (R ++ N) (fun N' => NatV (K W N') r1.v (bino lot n) ∧ ∃ M, N' = M ++ N) ⟨inferInstance, R, rfl⟩ (fun M N' ⟨h0, M2, e⟩ => ⟨h0.cls fun _ k => k.bck, M ++ M2, by rw [e, List.append_assoc]⟩) Try.mixed (by kernel_rfl) rfl ⟨rfl, rfl, rfl, rfl, rfl, rfl, trivial⟩ (fun w h => h)
      ⟨fun _ _ _ _ h => h, fun _ _ _ _ h => h, fun _ _ _ _ h => h, fun _ _ _ _ h => h, fun _ _ _ _ ⟨u, e, h⟩ => ⟨u, e, h.cls fun _ k => k.bck⟩, fun _ _ _ _ h => h, fun _ _ _ _ h => h, fun _ _ _ _ h => h, fun _ _ _ _ h => h, trivial⟩
      ⟨?_, ?_, ?_, ?_, ?_, ?_, ?_, ?_, ?_, trivial⟩ ?_
    · intro s N' gN h0 hn0
      show Acts _ _ _ (K W ([(b10, row 71 [r1.v])] :: N')) _ _
      exact a_y (y_move rfl) fun w h => ⟨[], [], h, rfl⟩
    · intro s N' gN h0 hn0
      show Acts _ _ _ (K W ([(b10, row 71 [r1.v])] :: N')) _ _
      exact a_y (y_move rfl) fun w h => ⟨[], [], h, rfl⟩
    · intro s N' gN h0 hn0
      show Acts _ _ _ (K W ([(b10, row 71 [r1.v])] :: N')) _ _
      exact a_y (y_move rfl) fun w h => ⟨[], [], h, rfl⟩
    · intro s N' gN h0 hn0
      show Acts _ _ _ (K W ([(b10, row 71 [r1.v])] :: N')) _ _
      exact a_y (y_move rfl) fun w h => ⟨[], [], h, rfl⟩
    · rintro s N' gN h0 hn0 v0 d0 e0 rfl v1 d1 e1 rfl v2 d2 e2 rfl v3 d3 e3 rfl
      show Acts _ _ _ (K W ([(b10, row 71 [r1.v])] :: N')) _ _
      haveI := gN.1
      exact a_call (en_f rfl Try.call51) (bx1 (u := fun v => .agg #[v]) (atMost_spec (lot := lot) (bad := k) (n := n) (c := (found : Int)) (by omega) (by omega) (by omega)) rfl) fun r w h => ⟨[r.L], [], h, r.v, rfl, r.ok⟩
    · intro s N' gN h0 hn0
      show Acts _ _ _ (K W ([(b10, row 71 [r1.v])] :: N')) _ _
      exact a_y (y_loadA Try.tab rfl rfl rfl rfl (cells_row0 0 rfl rfl)) fun w h => ⟨[], [], h, rfl⟩
    · intro s N' gN h0 hn0
      show Acts _ _ _ (K W ([(b10, row 71 [r1.v])] :: N')) _ _
      exact a_y (y_move rfl) fun w h => ⟨[], [], h, rfl⟩
    · rintro s N' gN h0 hn0 v4 d4 e4 ⟨uz4, rfl, mz4⟩ v5 d5 e5 rfl v6 d6 e6 rfl
      show Acts _ _ _ (K W ([(b10, row 71 [r1.v])] :: N')) _ _
      haveI := gN.1
      haveI := gN.1
      haveI : NatV (K W N') uz4 (accN lot k n found) := mz4
      exact a_call (en_f rfl Try.call59) (exceeds2_spec (N := [(b10, row 71 [r1.v])] :: N') (x := accN lot k n found) (y := bino lot n) (m := risk) hw1 hw2 (by omega) hb1 hb2) fun _ w h => ⟨[], [], h, rfl⟩
    · rintro s N' gN h0 hn0 v7 d7 e7 rfl
      show Acts _ _ _ (K W ([(b10, row 71 [r1.v])] :: N')) _ _
      exact a_y (y_gtr rfl rfl) fun w h => ⟨[], [], h, rfl⟩
    · intro s N' gN hall v8 d8 e8 f8
      subst f8
      obtain ⟨g1, M, hM⟩ := gN
      subst hM
      show Fin _ _ _ _ (K W ([(b10, row 71 [r1.v])] :: (M ++ N)))
      clear hb1 hb2
      by_cases hq : bino lot n * risk < accN lot k n found * 1000000
      · have hpl : bndF lot n found risk (d + 1) = k := by rw [bndF, ← hk, if_pos hq]
        rw [hpl, decide_eq_true (cmpV_gt.2 hq)]
        refine f_then ?_
        refine c_condT rfl ?_
        refine c_seq ?_
        refine c_region ?_
        refine s_y (y_move rfl) rfl rfl rfl ?_
        refine s_y (y_assign rfl) rfl rfl rfl ?_
        refine s_y (y_assign rfl) rfl rfl rfl ?_
        refine s_nil ?_
        refine f_then ?_
        refine c_ret ?_
        refine f_blockR ?_
        refine f_thenR ?_
        refine f_rndR ?_
        refine f_blockR ?_
        refine f_thenR ?_
        exact f_ret () (res2 rfl rfl rfl) (fun w h => h.tail.bck)
      · have hpl : bndF lot n found risk (d + 1) = bndF lot n found risk d := by rw [bndF, ← hk, if_neg hq]
        rw [decide_eq_false (mt cmpV_gt.1 hq)]
        refine f_then ?_
        refine c_condF rfl ?_
        refine c_skip ?_
        refine f_blockN ?_
        refine f_then ?_
        refine c_region ?_
        refine s_y (y_move rfl) rfl rfl rfl ?_
        refine s_y (y_sub rfl rfl (by omega)) rfl rfl rfl ?_
        refine s_y (y_assign rfl) rfl rfl rfl ?_
        refine s_nil ?_
        exact f_roundP (d, M) ⟨by dsimp only; omega, hpl.symm, g1⟩ (by dsimp only; omega) ⟨rfl, rfl, rfl, rfl, rfl, congrArg (fun z => some (Value.int .i64 z)) (by dsimp only; omega), trivial⟩ (fun w h => h)
end Go.KL
end
