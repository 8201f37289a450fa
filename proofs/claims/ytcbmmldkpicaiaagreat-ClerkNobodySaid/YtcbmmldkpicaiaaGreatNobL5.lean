/- The library of the proof, part 5: a program logic over the model, walks of functions, plain laws. No condition. -/
import Derived.Laws.Cover3
import Derived.Test.YtcbmmldkpicaiaaGreatNobL4
section
/- Walks: reached, victim. -/
namespace Go.KL
open Go.Proofs
/-- The map of what is reached. -/
structure RM (A : Bk) (k : Nat) (es : List Ent) (c : Nat) : Prop where
  ok : MOK es c
  val : ∀ e ∈ es, e.2.1 = .bool true
  key : ∀ z : Int, mhas z es = true ↔ ∃ j : Nat, z = (j : Int) ∧ A.R k j
theorem mget_bool {z : Int} : ∀ {es : List Ent}, (∀ e ∈ es, e.2.1 = .bool true) → mget z (.bool false) es = .bool (mhas z es)
  | [], _ => rfl
  | e :: r, h => by
    simp only [mget, mhas]
    split
    · exact h e (by simp)
    · exact mget_bool fun x hx => h x (by simp [hx])
theorem mhas_nat {S : List Nat} {es : List Ent} (h : es.map (·.1) = S.map (fun j : Nat => (j : Int))) (a : Nat) : mhas (a : Int) es = decide (a ∈ S) := by
  rw [Bool.eq_iff_iff, mhas_mem, h, decide_eq_true_iff, List.mem_map]
  constructor
  · rintro ⟨j, hj, e⟩
    rw [← (Int.ofNat_inj.1 e : j = a)]; exact hj
  · exact fun h => ⟨a, h, rfl⟩
theorem Bg.OK.rhas {g : Bg} (hB : g.OK) {k j : Nat} (h : g.bk.R k j) : g.has j := by
  rcases h.sub with h | h
  · exact hB.rnh j h
  · exact hB.qh j h
attribute [local irreducible] SC St Fin Sq Ylds Doos Sets Enters Spec CellIs CellsAre Then Ret Rnd Chn resOK ints bools recs arr
set_option maxRecDepth 10000 in
set_option maxHeartbeats 4000000 in
theorem reached_b {g : Bg} {W : World} {N : List Chunk} {k : Nat} {t : Tg} (hB : g.OK) (hL : Few g) (hH : Hs (K W N) g.L.flatten) (hk : g.has k) (ht : t ∈ g.ts) (hid : t.id = k) (hpb : g.pb k = t.b) (htx : g.bk.tx k = t.tx) :
    Spec Tryz.prog 127 #[.pointer (some ⟨g.b, 0, none⟩), .pointer (some ⟨t.b, 0, none⟩)] (K W N) (X := { x : Nat × List Ent × Nat // RM g.bk k x.2.1 x.2.2 }) (fun x => .map (some x.1.1)) (fun x => K W ([(x.1.1, mobj x.1.2.1 x.1.2.2)] :: N)) := by
  have hq := hL.q
  have hrn := hL.rn
  obtain ⟨f0, f1, f2, f3, f4, f5, fq, fl, fea, fer⟩ := hB.bf hH
  clear f0 f1 f3 f4 f5 fq fl fer
  refine enter (args := [_, _]) Tryz.func127 rfl Tryz.ntmps127 rfl ?_
  refine c_seq ?_
  refine c_region ?_
  refine s_y (y_assign rfl) rfl rfl rfl ?_
  refine s_nil ?_
  refine f_then ?_
  refine c_seq ?_
  refine c_region ?_
  refine s_do do_makeMap rfl rfl rfl (fun B => ?_)
  refine s_y (y_assign rfl) rfl rfl rfl ?_
  refine s_nil ?_
  refine f_then ?_
  refine c_seq ?_
  refine c_region ?_
  refine s_y (y_move rfl) rfl rfl rfl ?_
  refine s_y (y_move rfl) rfl rfl rfl ?_
  refine s_call (en_f rfl Tryz.call140) (waits_b hB hL hH.cons hk ht hid hpb htx) rfl rfl rfl (fun x => ?_)
  obtain ⟨⟨u0, d0⟩, hP0⟩ := x
  dsimp only at hP0 ⊢
  refine s_y (y_assign rfl) rfl rfl rfl ?_
  refine s_nil ?_
  refine f_then ?_
  refine c_seq ?_
  refine c_block ?_
  refine c_loopP (α := List Nat × List Nat × List Ent × Nat × Value × Chunk) (fun z => [(0, .pointer (some ⟨g.b, 0, none⟩)), (5, .map (some B)), (6, z.2.2.2.2.1)])
    (fun z => Bk.Srch g.bk k z.1 z.2.1 ∧ BufP 3 z.2.2.2.2.1 z.2.2.2.2.2 (nvs z.2.1) ∧ MOK z.2.2.1 z.2.2.2.1 ∧ (∀ e ∈ z.2.2.1, e.2.1 = .bool true) ∧ z.2.2.1.map (·.1) = z.1.map (fun j : Nat => (j : Int)) ∧ z.2.1.length ≤ 128 * (z.1.length + 1))
    (fun z => K W ([(B, mobj z.2.2.1 z.2.2.2.1)] :: z.2.2.2.2.2 :: N)) (fun z => (129 - z.1.length) * 1000 + z.2.1.length) ([], g.bk.waits k, [], 0, u0, d0)
    ⟨rfl, rfl, rfl, trivial⟩ ⟨.begin k, hP0, .empty, fun e he => by simp at he, rfl, by have := Bk.waits_len (A := g.bk) k; simp only [Bg.bk] at *; simp; omega⟩ (fun w h => h.swap) ?_
  rintro ⟨S, l, es, c, u, d⟩ ⟨hS, hP, hM, hv, hkey, hlen⟩
  dsimp only at hS hP hM hv hkey hlen ⊢
  have hSl : S.length ≤ 128 := by have := hS.len; simp only [Bg.bk] at this; omega
  cases l with
  | nil =>
    have hlp := hP
    refine c_seq ?_
    refine c_seq ?_
    refine c_region ?_
    refine s_y (y_move rfl) rfl rfl rfl ?_
    refine s_y (y_lenP Tryz.tab rfl hP rfl) rfl rfl rfl ?_
    refine s_y (y_gtr rfl rfl) rfl rfl rfl ?_
    refine s_nil ?_
    refine f_then ?_
    refine c_condF rfl ?_
    refine c_exit ?_
    refine f_thenE ?_
    refine f_rndE ?_
    refine f_blockE ?_
    refine f_then ?_
    refine c_seq ?_
    refine c_region ?_
    refine s_y (y_move rfl) rfl rfl rfl ?_
    refine s_y (y_assign rfl) rfl rfl rfl ?_
    refine s_nil ?_
    refine f_then ?_
    refine c_ret ?_
    exact f_ret ⟨(B, es, c), hM, hv, fun z => by
      rw [mhas_mem, hkey, List.mem_map]
      constructor
      · rintro ⟨j, hj, e⟩; exact ⟨j, e.symm, hS.iff.1 hj⟩
      · rintro ⟨j, e, hj⟩; exact ⟨j, hS.iff.2 hj, e.symm⟩⟩ (res1 rfl rfl) (fun w h => h.dropAt 1)
  | cons a l =>
    have hE := hP.view (C := K W ([(B, mobj es c)] :: d :: N)) (Hs.at 1 rfl)
    have hP' : BufP 3 u d (.int .i64 (a : Nat) :: nvs l) := hP
    have hcell := hE.cell (i := 0) (x := .int .i64 (a : Nat)) rfl
    have hra : g.bk.R k a := hS.hl a (by simp)
    have hah := hB.rhas hra
    obtain ⟨t2, ht2, _, hid2, hpb2, htx2⟩ := hB.at hah
    have hgo : (0 : Int) < ((nvs (a :: l)).length : Nat) := by simp
    have hgo2 : 0 < ((nvs (a :: l)).map fun x => [x]).length := by simp
    have hhas := mhas_nat hkey a
    refine c_seq ?_
    refine c_seq ?_
    refine c_region ?_
    refine s_y (y_move rfl) rfl rfl rfl ?_
    refine s_y (y_lenE Tryz.tab rfl (hE) rfl) rfl rfl rfl ?_
    refine s_y (y_T (y_gtr rfl rfl) (by omega)) rfl rfl rfl ?_
    refine s_nil ?_
    refine f_then ?_
    refine c_condT rfl ?_
    refine c_skip ?_
    refine f_then ?_
    refine c_block ?_
    refine c_seq ?_
    refine c_region ?_
    refine s_y (y_move rfl) rfl rfl rfl ?_
    refine s_y (y_ixE Tryz.tab rfl rfl rfl rfl (hE) _ rfl (by omega)) rfl rfl rfl ?_
    refine s_y (y_load Tryz.tab rfl rfl hcell) rfl rfl rfl ?_
    refine s_y (y_assign rfl) rfl rfl rfl ?_
    refine s_nil ?_
    refine f_then ?_
    refine c_seq ?_
    refine c_region ?_
    refine s_y (y_move rfl) rfl rfl rfl ?_
    refine s_y (y_shiftP Tryz.tab rfl rfl hP' rfl rfl) rfl rfl rfl ?_
    have hPs := hP'.shift
    refine s_y (y_assign rfl) rfl rfl rfl ?_
    refine s_nil ?_
    refine f_then ?_
    refine c_seq ?_
    refine c_region ?_
    refine s_y (y_move rfl) rfl rfl rfl ?_
    refine s_y (y_move rfl) rfl rfl rfl ?_
    by_cases ca : a ∈ S
    · rw [decide_eq_true ca] at hhas
      have hget : mget (a : Int) (.bool false) es = .bool true := by rw [mget_bool hv, hhas]
      refine s_y (y_lookupE Tryz.tab rfl rfl rfl rfl (fun _ => rfl) (Hs.at 0 rfl) hget) rfl rfl rfl ?_
      refine s_y (y_notT rfl) rfl rfl rfl ?_
      refine s_nil ?_
      refine f_then ?_
      refine c_condF rfl ?_
      refine c_skip ?_
      refine f_blockN ?_
      exact f_roundP (S, l, es, c, shv u, d) ⟨hS.skip ca, hPs, hM, hv, hkey, by dsimp only; simp at hlen; omega⟩ (by simp) ⟨rfl, rfl, rfl, trivial⟩ (fun w h => h)
    · rw [decide_eq_false ca] at hhas
      have hget : mget (a : Int) (.bool false) es = .bool false := by rw [mget_bool hv, hhas]
      have hget2 : mget (a : Int) (.pointer none) g.ea = .pointer (some ⟨t2.b, 0, none⟩) := by rw [hB.eaG a hah, Bg.ptr, hpb2]
      have hal : a ≤ 1000000 := by have h1 := hB.eaL; have h2 := hB.eaM.len; have h3 := hah.2; omega
      have hesl : es.length = S.length := by have := congrArg List.length hkey; simpa using this
      have hS2 := hS.step ca
      have hSl2 : S.length + 1 ≤ 128 := by have := hS2.len; simp only [Bg.bk] at this; simp at this; omega
      have hwl : (g.bk.waits a).length ≤ 128 := Nat.le_trans (Bk.waits_len a) (show g.rn.length + g.q.length ≤ 128 by omega)
      refine s_y (y_lookupE Tryz.tab rfl rfl rfl rfl (fun _ => rfl) (Hs.at 0 rfl) hget) rfl rfl rfl ?_
      refine s_y (y_notF rfl) rfl rfl rfl ?_
      refine s_nil ?_
      refine f_then ?_
      refine c_condT rfl ?_
      refine c_seq ?_
      refine c_region ?_
      refine s_y (y_move rfl) rfl rfl rfl ?_
      refine s_y (y_move rfl) rfl rfl rfl ?_
      refine s_set (set_map Tryz.tab 0 rfl rfl rfl rfl rfl rfl) rfl rfl ?_
      refine s_nil ?_
      refine f_then ?_
      refine c_region ?_
      refine s_y (y_move rfl) rfl rfl rfl ?_
      refine s_y (y_move rfl) rfl rfl rfl ?_
      refine s_y (y_move rfl) rfl rfl rfl ?_
      refine s_y (y_nilP rfl) rfl rfl rfl ?_
      refine s_y (y_fieldAddrB Tryz.tab 2 rfl rfl rfl rfl rfl) rfl rfl rfl ?_
      refine s_y (y_load Tryz.tab rfl rfl f2.cons.cons) rfl rfl rfl ?_
      refine s_y (y_move rfl) rfl rfl rfl ?_
      refine s_y (y_lookupE Tryz.tab rfl rfl rfl rfl (fun _ => rfl) (fea.cons.cons) (by assumption)) rfl rfl rfl ?_
      refine s_call (en_f rfl Tryz.call140) (waits_b hB hL hH.cons.cons hah ht2 hid2 hpb2 htx2) rfl rfl rfl (fun x => ?_)
      obtain ⟨⟨u2, d2⟩, hP2⟩ := x
      dsimp only at hP2 ⊢
      have hE2 := hP2.view (C := K W (d2 :: [(B, mobj (mset (a : Int) (.bool true) c es) (mclk (a : Int) c es))] :: d :: N)) (Hs.at 0 rfl)
      refine s_do (do_appendP (by_ := 8) Tryz.tab 2 rfl hPs rfl hE2 ⟨rfl, rfl, rfl, rfl⟩ rfl (by simp) rfl (List.all_eq_true.2 fun x hx => by
        obtain ⟨y, _, rfl⟩ := List.mem_map.1 hx
        rfl) (by rw [List.length_map, List.length_map]; simp at hlen; omega) (by omega)) rfl rfl rfl (fun x => ?_)
      obtain ⟨⟨u3, d3⟩, hP3⟩ := x
      dsimp only at hP3 ⊢
      refine s_y (y_assign rfl) rfl rfl rfl ?_
      refine s_nil ?_
      refine f_blockN ?_
      refine f_roundP (S ++ [a], l ++ g.bk.waits a, mset (a : Int) (.bool true) c es, mclk (a : Int) c es, u3, d3) ⟨hS2, by rw [nvs, List.map_append]; exact hP3, hM.set _ _ (by omega) (by omega), fun e he => ?_, ?_, ?_⟩ ?_ ⟨rfl, rfl, rfl, trivial⟩ (fun w h => h.tail)
      · rw [mset_new hhas] at he
        rcases List.mem_append.1 he with he | he
        · exact hv e he
        · rw [List.mem_singleton.1 he]
      · dsimp only
        rw [mset_new hhas, List.map_append, hkey, List.map_append]
        rfl
      · simp at hlen ⊢
        omega
      · simp
        omega
/-- How many entries are left. -/
def leftN (es : List Ent) (seen : Array Nat) : Nat := es.countP fun e => decide (e.2.2 ∉ seen)
theorem leftN_lt {es : List Ent} {seen : Array Nat} {e : Ent} (h1 : e ∈ es) (h2 : e.2.2 ∉ seen) : leftN es (seen.push e.2.2) < leftN es seen := by
  unfold leftN
  induction es with
  | nil => simp at h1
  | cons a r ih =>
    have mono : ∀ r : List Ent, r.countP (fun x => decide (x.2.2 ∉ seen.push e.2.2)) ≤ r.countP (fun x => decide (x.2.2 ∉ seen)) := fun r => by
      refine List.countP_mono_left fun x _ h => ?_
      simp at h ⊢
      exact h.1
    rw [List.countP_cons, List.countP_cons]
    rcases List.mem_cons.1 h1 with rfl | h1
    · have h3 := mono r
      rw [if_neg (by simp), if_pos (by simp [h2])]
      omega
    · have := ih h1
      have h3 : (if decide (a.2.2 ∉ seen.push e.2.2) = true then 1 else 0) ≤ (if decide (a.2.2 ∉ seen) = true then 1 else 0) := by
        by_cases c : a.2.2 ∈ seen
        · simp [c]
        · split <;> simp [c]
      omega
set_option maxRecDepth 10000 in
set_option maxHeartbeats 4000000 in
theorem victim_b {g : Bg} {W : World} {N : List Chunk} {k : Nat} {t : Tg} (hB : g.OK) (hL : Few g) (hH : Hs (K W N) g.L.flatten) (hk : g.has k) (ht : t ∈ g.ts) (hid : t.id = k) (hpb : g.pb k = t.b) (htx : g.bk.tx k = t.tx) :
    Spec Tryz.prog 111 #[.pointer (some ⟨g.b, 0, none⟩), .pointer (some ⟨t.b, 0, none⟩)] (K W N) (X := { v : Nat // g.bk.IsVic k v }) (fun v => .int .i64 (v.1 : Nat)) (fun _ => K W N) := by
  obtain ⟨f0, f1, f2, f3, f4, f5, fq, fl, fea, fer⟩ := hB.bf hH
  obtain ⟨t0, t1, t2, t3, t7, tl, to⟩ := hB.tf hH ht
  clear f0 f1 f3 f4 f5 fq fl fer t1 t2 t3 t7 tl to
  refine enter (args := [_, _]) Tryz.func111 rfl Tryz.ntmps111 rfl ?_
  refine c_seq ?_
  refine c_region ?_
  refine s_y (y_assign rfl) rfl rfl rfl ?_
  refine s_nil ?_
  refine f_then ?_
  refine c_seq ?_
  refine c_region ?_
  refine s_y (y_assign rfl) rfl rfl rfl ?_
  refine s_nil ?_
  refine f_then ?_
  refine c_seq ?_
  refine c_seq ?_
  refine c_region ?_
  refine s_y (y_move rfl) rfl rfl rfl ?_
  refine s_y (y_move rfl) rfl rfl rfl ?_
  refine s_call (en_f rfl Tryz.call127) (reached_b hB hL hH hk ht hid hpb htx) rfl rfl rfl (fun x => ?_)
  obtain ⟨⟨B, es, c⟩, hR⟩ := x
  dsimp only at hR ⊢
  refine s_do (do_range Tryz.tab 0 rfl rfl rfl) rfl rfl rfl (fun r => ?_)
  refine s_nil ?_
  refine f_then ?_
  refine c_block ?_
  refine c_loopP (α := Array Nat × Nat) (fun z => [(0, .pointer (some ⟨g.b, 0, none⟩)), (1, .pointer (some ⟨t.b, 0, none⟩)), (5, .int .i64 (z.2 : Nat)), (10, .pointer (some ⟨r, 0, none⟩))])
    (fun z => (z.2 = 0 ∨ g.bk.dead k z.2) ∧ ∀ e ∈ es, e.2.2 ∈ z.1 → ∀ j : Nat, e.1 = (j : Int) → g.bk.dead k j → j ≤ z.2) (fun z => K W ([(r, mit B c z.1)] :: [(B, mobj es c)] :: N)) (fun z => leftN es z.1) (#[], 0)
    ⟨rfl, rfl, rfl, rfl, trivial⟩ ⟨.inl rfl, fun e _ h => by simp at h⟩ (fun w h => h) ?_
  rintro ⟨seen, v⟩ ⟨h1, h2⟩
  dsimp only at h1 h2 ⊢
  refine c_seq ?_
  refine c_region ?_
  refine s_do (do_next 0 1 rfl rfl rfl hR.ok.old) rfl rfl rfl (fun x => ?_)
  obtain ⟨_ | e, hx⟩ := x
  · dsimp only [nextV, nextLs]
    refine s_y (y_extract rfl rfl) rfl rfl rfl ?_
    refine s_nil ?_
    refine f_then ?_
    refine c_seq ?_
    refine c_condF rfl ?_
    refine c_exit ?_
    refine f_thenE ?_
    refine f_rndE ?_
    refine f_blockE ?_
    refine f_then ?_
    refine c_seq ?_
    refine c_region ?_
    refine s_y (y_move rfl) rfl rfl rfl ?_
    refine s_y (y_assign rfl) rfl rfl rfl ?_
    refine s_nil ?_
    refine f_then ?_
    refine c_ret ?_
    refine f_ret ⟨v, ?_⟩ (res1 rfl rfl) (fun w h => h.tail.tail)
    have hall : ∀ j, g.bk.dead k j → j ≤ v := fun j hj => by
      have h3 := (hR.key (j : Int)).2 ⟨j, rfl, hj.1⟩
      rw [mhas_mem] at h3
      obtain ⟨e, he, e2⟩ := List.mem_map.1 h3
      exact h2 e he (hx e he) j e2 hj
    by_cases c0 : v = 0
    · refine .inl ⟨c0, fun j hj => ?_⟩
      have h4 := hall j hj
      have h5 := hB.rhas hj.1
      omega
    · exact .inr ⟨c0, h1.elim (fun h => absurd h c0) id, hall⟩
  · obtain ⟨hx1, hx2⟩ := hx
    dsimp only [nextV, nextLs]
    have hmem : mhas e.1 es = true := mhas_mem.2 (List.mem_map.2 ⟨e, hx1, rfl⟩)
    obtain ⟨a, ea, hra⟩ := (hR.key e.1).1 hmem
    have hah := hB.rhas hra
    obtain ⟨t2, ht2, _, hid2, hpb2, htx2⟩ := hB.at hah
    have hget2 : mget (a : Int) (.pointer none) g.ea = .pointer (some ⟨t2.b, 0, none⟩) := by rw [hB.eaG a hah, Bg.ptr, hpb2]
    refine St.cls (C' := K W ([(r, mit B c (seen.push e.2.2))] :: [(B, mobj es c)] :: N)) ?_ (fun w h => h)
    have hm := leftN_lt hx1 hx2
    refine s_y (y_extract rfl rfl) rfl rfl rfl ?_
    refine s_nil ?_
    refine f_then ?_
    refine c_seq ?_
    refine c_condT rfl ?_
    refine c_skip ?_
    refine f_then ?_
    refine c_block ?_
    refine c_seq ?_
    refine c_region ?_
    refine s_y (y_entry 0 1 (e := e) rfl rfl rfl hx1 hR.ok.born) rfl rfl rfl ?_
    rw [ea]
    have hcase : ∀ v' : Nat, (v' = 0 ∨ g.bk.dead k v') → v ≤ v' → (g.bk.dead k a → a ≤ v') → ∀ e' ∈ es, e'.2.2 ∈ seen.push e.2.2 → ∀ j : Nat, e'.1 = (j : Int) → g.bk.dead k j → j ≤ v' := fun v' _ hv' ha e' he' hs j hj hd => by
      rcases Array.mem_push.1 hs with hs | hs
      · exact Nat.le_trans (h2 e' he' hs j hj hd) hv'
      · have : e'.1 = e.1 := by
          have h3 := List.pairwise_map.1 hR.ok.born
          obtain ⟨i1, q1⟩ := List.getElem?_of_mem he'
          obtain ⟨i2, q2⟩ := List.getElem?_of_mem hx1
          have q3 : (es.map (·.2.2))[i1]? = some e'.2.2 := by simp [q1]
          have q4 : (es.map (·.2.2))[i2]? = some e.2.2 := by simp [q2]
          have hlt : i1 < (es.map (·.2.2)).length := by have := (List.getElem?_eq_some_iff.1 q1).1; simpa using this
          have q5 := (List.getElem?_inj (j := i2) hlt hR.ok.born).1 (q3.trans (by rw [q4, hs]))
          rw [q5, q2] at q1
          rw [Option.some.inj q1]
        rw [hj, ea] at this
        have : j = a := Int.ofNat_inj.1 this
        rw [this] at hd ⊢
        exact ha hd
    by_cases cv : v < a
    · refine s_y (y_extract rfl rfl) rfl rfl rfl ?_
      refine s_y (y_assign rfl) rfl rfl rfl ?_
      refine s_nil ?_
      refine f_then ?_
      refine c_seq ?_
      refine c_plan [.c 0, .c 1, .c 2, .c 3, .c 4, .c 5, .c 6, .c 7, .c 8, .c 9, .c 10, .c 12, .c 13, .c 14, .c 15, .s 11, .s 16, .c 17] [] (K W ([(r, mit B c (seen.push e.2.2))] :: [(B, mobj es c)] :: N)) Tryz.mixed (by kernel_rfl) rfl K.cl ?_
      refine d_c rfl (Qui.ylds (y_move rfl)) rfl rfl rfl (fun _ h => h) K.cl ?_
      refine d_c rfl (Qui.ylds (y_move rfl)) rfl rfl rfl (fun _ h => h) K.cl ?_
      refine d_c rfl (Qui.ylds (y_T (y_gtr rfl rfl) (by omega))) rfl rfl rfl (fun _ h => h) K.cl ?_
      refine d_c rfl (Qui.ylds (y_move rfl)) rfl rfl rfl (fun _ h => h) K.cl ?_
      refine d_c rfl (Qui.ylds (y_move rfl)) rfl rfl rfl (fun _ h => h) K.cl ?_
      refine d_c rfl (Qui.ylds (y_move rfl)) rfl rfl rfl (fun _ h => h) K.cl ?_
      refine d_c rfl (Qui.ylds (y_nilP rfl)) rfl rfl rfl (fun _ h => h) K.cl ?_
      refine d_c rfl (Qui.ylds (y_fieldAddrB Tryz.tab 2 rfl rfl rfl rfl rfl)) rfl rfl rfl (fun _ h => h) K.cl ?_
      refine d_c rfl (Qui.ylds (y_load Tryz.tab rfl rfl f2.cons.cons)) rfl rfl rfl (fun _ h => h) K.cl ?_
      refine d_c rfl (Qui.ylds (y_move rfl)) rfl rfl rfl (fun _ h => h) K.cl ?_
      refine d_c rfl (Qui.ylds (y_lookupE Tryz.tab rfl rfl rfl rfl (fun _ => rfl) (fea.cons.cons) (by assumption))) rfl rfl rfl (fun _ h => h) K.cl ?_
      refine d_c rfl (Qui.ylds (y_move rfl)) rfl rfl rfl (fun _ h => h) K.cl ?_
      refine d_c rfl (Qui.ylds (y_nilP rfl)) rfl rfl rfl (fun _ h => h) K.cl ?_
      refine d_c rfl (Qui.ylds (y_fieldAddr0 Tryz.tab rfl rfl rfl rfl rfl)) rfl rfl rfl (fun _ h => h) K.cl ?_
      refine d_c rfl (Qui.ylds (y_load Tryz.tab rfl rfl t0.cons.cons)) rfl rfl rfl (fun _ h => h) K.cl ?_
      refine d_call rfl (en_f rfl Tryz.call127) (reached_b hB hL hH.cons.cons hah ht2 hid2 hpb2 htx2) rfl rfl rfl (fun _ => K.cl) (fun _ _ _ h => h.tail) (fun x => ?_)
      obtain ⟨⟨B2, es2, c2⟩, hR2⟩ := x
      dsimp only at hR2 ⊢
      have hD := fun (w : World) (h : K W ([(B2, mobj es2 c2)] :: [(r, mit B c (seen.push e.2.2))] :: [(B, mobj es c)] :: N) w) => h.tail
      have hmh : mhas (t.id : Int) es2 = true ↔ g.bk.R a k := by
        rw [hR2.key, hid]
        constructor
        · rintro ⟨j, ej, hj⟩
          rw [(Int.ofNat_inj.1 ej : k = j)]; exact hj
        · exact fun h => ⟨k, rfl, h⟩
      by_cases hd : g.bk.R a k
      · have hget3 : mget (t.id : Int) (.bool false) es2 = .bool true := by rw [mget_bool hR2.val, hmh.2 hd]
        refine d_sy rfl (y_lookupE Tryz.tab rfl rfl rfl rfl (fun _ => rfl) (Hs.at 0 rfl) hget3) rfl rfl rfl K.cl (fun _ => hD) ?_
        refine d_c rfl (Qui.ylds (y_pickT rfl rfl)) rfl rfl rfl hD K.cl ?_
        refine d_nil ?_
        refine f_then ?_
        refine c_condT rfl ?_
        refine c_region ?_
        refine s_y (y_move rfl) rfl rfl rfl ?_
        refine s_y (y_assign rfl) rfl rfl rfl ?_
        refine s_nil ?_
        refine f_blockN ?_
        exact f_roundP (seen.push e.2.2, a) ⟨.inr ⟨hra, hd⟩, hcase a (.inr ⟨hra, hd⟩) (by omega) (fun _ => Nat.le_refl _)⟩ hm ⟨rfl, rfl, rfl, rfl, trivial⟩ (fun w h => h.tail)
      · have hf : mhas (t.id : Int) es2 = false := by
          cases h : mhas (t.id : Int) es2 with
          | false => rfl
          | true => exact absurd (hmh.1 h) hd
        have hget3 : mget (t.id : Int) (.bool false) es2 = .bool false := by rw [mget_bool hR2.val, hf]
        refine d_sy rfl (y_lookupE Tryz.tab rfl rfl rfl rfl (fun _ => rfl) (Hs.at 0 rfl) hget3) rfl rfl rfl K.cl (fun _ => hD) ?_
        refine d_c rfl (Qui.ylds (y_pickT rfl rfl)) rfl rfl rfl hD K.cl ?_
        refine d_nil ?_
        refine f_then ?_
        refine c_condF rfl ?_
        refine c_skip ?_
        refine f_blockN ?_
        exact f_roundP (seen.push e.2.2, v) ⟨h1, hcase v h1 (Nat.le_refl _) (fun h => absurd h.2 hd)⟩ hm ⟨rfl, rfl, rfl, rfl, trivial⟩ (fun w h => h.tail)
    · refine s_y (y_extract rfl rfl) rfl rfl rfl ?_
      refine s_y (y_assign rfl) rfl rfl rfl ?_
      refine s_nil ?_
      refine f_then ?_
      refine c_seq ?_
      refine c_plan [.c 0, .c 1, .c 2, .c 3, .c 4, .c 5, .c 6, .c 7, .c 8, .c 9, .c 10, .c 12, .c 13, .c 14, .c 15, .s 11, .s 16, .c 17] [] (K W ([(r, mit B c (seen.push e.2.2))] :: [(B, mobj es c)] :: N)) Tryz.mixed (by kernel_rfl) rfl K.cl ?_
      refine d_c rfl (Qui.ylds (y_move rfl)) rfl rfl rfl (fun _ h => h) K.cl ?_
      refine d_c rfl (Qui.ylds (y_move rfl)) rfl rfl rfl (fun _ h => h) K.cl ?_
      refine d_c rfl (Qui.ylds (y_F (y_gtr rfl rfl) (by omega))) rfl rfl rfl (fun _ h => h) K.cl ?_
      refine d_c rfl (Qui.ylds (y_move rfl)) rfl rfl rfl (fun _ h => h) K.cl ?_
      refine d_skip rfl rfl rfl rfl (fun _ h => h) K.cl ?_
      refine d_skip rfl rfl rfl rfl (fun _ h => h) K.cl ?_
      refine d_skip rfl rfl rfl rfl (fun _ h => h) K.cl ?_
      refine d_skip rfl rfl rfl rfl (fun _ h => h) K.cl ?_
      refine d_skip rfl rfl rfl rfl (fun _ h => h) K.cl ?_
      refine d_skip rfl rfl rfl rfl (fun _ h => h) K.cl ?_
      refine d_skip rfl rfl rfl rfl (fun _ h => h) K.cl ?_
      refine d_skip rfl rfl rfl rfl (fun _ h => h) K.cl ?_
      refine d_skip rfl rfl rfl rfl (fun _ h => h) K.cl ?_
      refine d_skip rfl rfl rfl rfl (fun _ h => h) K.cl ?_
      refine d_skip rfl rfl rfl rfl (fun _ h => h) K.cl ?_
      refine d_sskip rfl rfl rfl rfl (fun _ _ h => h) ?_
      refine d_sskip rfl rfl rfl rfl (fun _ _ h => h) ?_
      refine d_c rfl (Qui.ylds (y_pickF rfl rfl)) rfl rfl rfl (fun _ h => h) K.cl ?_
      refine d_nil ?_
      refine f_then ?_
      refine c_condF rfl ?_
      refine c_skip ?_
      refine f_blockN ?_
      exact f_roundP (seen.push e.2.2, v) ⟨h1, hcase v h1 (Nat.le_refl _) (fun _ => by omega)⟩ hm ⟨rfl, rfl, rfl, rfl, trivial⟩ (fun w h => h)
end Go.KL
end

section
/- Sorting places by a key, the greatest first, equal ones as they stood: orders, blocks, swaps, rotations; plain. No program in sight. -/
namespace Go.KL
/-- x stands before y. -/
def ltR (R : Nat → Nat) (x y : Nat) : Prop := R y < R x ∨ R x = R y ∧ x < y
instance (R : Nat → Nat) (x y : Nat) : Decidable (ltR R x y) := by unfold ltR; infer_instance
theorem ltR_trans {R : Nat → Nat} {x y z : Nat} (h1 : ltR R x y) (h2 : ltR R y z) : ltR R x z := by
  unfold ltR at *
  omega
theorem ltR_irr {R : Nat → Nat} {x : Nat} : ¬ ltR R x x := by
  unfold ltR
  omega
theorem ltR_not {R : Nat → Nat} {x y : Nat} (h : x ≠ y) (h1 : ¬ ltR R x y) : ltR R y x := by
  unfold ltR at *
  omega
/-- In order, from s to e. -/
def Srt (R : Nat → Nat) (f : Nat → Nat) (s e : Nat) : Prop := ∀ i j, s ≤ i → i < j → j < e → ltR R (f i) (f j)
/-- What a sort of a part leaves. -/
structure SOut (R : Nat → Nat) (f g : Nat → Nat) (a b : Nat) : Prop where
  srt : Srt R g a b
  from' : ∀ i, a ≤ i → i < b → ∃ k, a ≤ k ∧ k < b ∧ g i = f k
  same : ∀ i, i < a ∨ b ≤ i → g i = f i
/-- What a merge needs. -/
structure Mrg (R : Nat → Nat) (f : Nat → Nat) (a m b : Nat) : Prop where
  left : Srt R f a m
  right : Srt R f m b
  ix : ∀ i j, a ≤ i → i < m → m ≤ j → j < b → f i < f j
theorem Mrg.key {R : Nat → Nat} {f : Nat → Nat} {a m b i j : Nat} (h : Mrg R f a m b) (h1 : a ≤ i) (h2 : i < m) (h3 : m ≤ j) (h4 : j < b) : ltR R (f j) (f i) ↔ R (f i) < R (f j) := by
  have := h.ix i j h1 h2 h3 h4
  unfold ltR
  omega
theorem Mrg.ord {R : Nat → Nat} {f : Nat → Nat} {a m b i j : Nat} (h : Mrg R f a m b) (h1 : a ≤ i) (h2 : i < m) (h3 : m ≤ j) (h4 : j < b) : ¬ ltR R (f j) (f i) ↔ ltR R (f i) (f j) := by
  have := h.ix i j h1 h2 h3 h4
  unfold ltR
  omega
theorem Srt.less {R : Nat → Nat} {f : Nat → Nat} {s e s' e' : Nat} (h : Srt R f s e) (h1 : s ≤ s') (h2 : e' ≤ e) : Srt R f s' e' := fun i j hi hij hj => h i j (by omega) hij (by omega)
/-- The element at a, put behind those up to i. -/
def insF (f : Nat → Nat) (a i t : Nat) : Nat := if a ≤ t ∧ t < i then f (t + 1) else if t = i then f a else f t
theorem insF_zero {f : Nat → Nat} {a : Nat} : insF f a a = f := by
  funext t
  unfold insF
  rw [if_neg (by omega)]
  split
  · rename_i h; rw [h]
  · rfl
theorem insF_next {f : Nat → Nat} {a i : Nat} (h : a ≤ i) : upd (upd (insF f a i) i (insF f a i (i + 1))) (i + 1) (insF f a i i) = insF f a (i + 1) := by
  have e1 : insF f a i (i + 1) = f (i + 1) := by
    unfold insF
    rw [if_neg (by omega), if_neg (by omega)]
  have e2 : insF f a i i = f a := by
    unfold insF
    rw [if_neg (by omega), if_pos rfl]
  rw [e1, e2]
  funext t
  unfold upd insF
  (repeat' split) <;> first | rfl | (exfalso; omega) | (congr 1; omega)
/-- The element at m, put ahead of those from i on. -/
def insB (f : Nat → Nat) (m i t : Nat) : Nat := if t = i then f m else if i < t ∧ t ≤ m then f (t - 1) else f t
theorem insB_zero {f : Nat → Nat} {m : Nat} : insB f m m = f := by
  funext t
  unfold insB
  split
  · rename_i h; rw [h]
  · rw [if_neg (by omega)]
theorem insB_next {f : Nat → Nat} {m i : Nat} (h0 : 0 < i) (h : i ≤ m) : upd (upd (insB f m i) i (insB f m i (i - 1))) (i - 1) (insB f m i i) = insB f m (i - 1) := by
  have e1 : insB f m i (i - 1) = f (i - 1) := by
    unfold insB
    rw [if_neg (by omega), if_neg (by omega)]
  have e2 : insB f m i i = f m := by
    unfold insB
    rw [if_pos rfl]
  rw [e1, e2]
  funext t
  unfold upd insB
  (repeat' split) <;> first | rfl | (exfalso; omega) | (congr 1; omega)
/-- Two parts of n exchanged. -/
def swpF (f : Nat → Nat) (a b n t : Nat) : Nat := if a ≤ t ∧ t < a + n then f (t - a + b) else if b ≤ t ∧ t < b + n then f (t - b + a) else f t
theorem swpF_zero {f : Nat → Nat} {a b : Nat} : swpF f a b 0 = f := by
  funext t
  unfold swpF
  rw [if_neg (by omega), if_neg (by omega)]
theorem swpF_next {f : Nat → Nat} {a b i : Nat} (h : a + i < b) : upd (upd (swpF f a b i) (a + i) (swpF f a b i (b + i))) (b + i) (swpF f a b i (a + i)) = swpF f a b (i + 1) := by
  have e1 : swpF f a b i (b + i) = f (b + i) := by
    unfold swpF
    rw [if_neg (by omega), if_neg (by omega)]
  have e2 : swpF f a b i (a + i) = f (a + i) := by
    unfold swpF
    rw [if_neg (by omega), if_neg (by omega)]
  rw [e1, e2]
  funext t
  unfold upd swpF
  (repeat' split) <;> first | rfl | (exfalso; omega) | (congr 1; omega)
/-- The parts from s to m and from m to e exchanged. -/
def rotF (f : Nat → Nat) (s m e t : Nat) : Nat := if s ≤ t ∧ t < s + (e - m) then f (t + (m - s)) else if s + (e - m) ≤ t ∧ t < e then f (t - (e - m)) else f t
theorem rotF_swp {f : Nat → Nat} {m i : Nat} (h : i ≤ m) : swpF f (m - i) m i = rotF f (m - i) m (m + i) := by
  funext t
  unfold rotF swpF
  (repeat' split) <;> first | rfl | (exfalso; omega) | (congr 1; omega)
theorem rotF_left {f : Nat → Nat} {m i j : Nat} (h : i ≤ m) (hij : j < i) : rotF (swpF f (m - i) m j) (m - (i - j)) m (m + j) = rotF f (m - i) m (m + j) := by
  funext t
  unfold rotF swpF
  (repeat' split) <;> first | rfl | (exfalso; omega) | (congr 1; omega)
theorem rotF_right {f : Nat → Nat} {m i j : Nat} (h : i ≤ m) (hij : i < j) : rotF (swpF f (m - i) (m + j - i) i) (m - i) m (m + (j - i)) = rotF f (m - i) m (m + j) := by
  funext t
  unfold rotF swpF
  (repeat' split) <;> first | rfl | (exfalso; omega) | (congr 1; omega)
end Go.KL
end

section
/- Merging and inserting by a key; plain. No program in sight. -/
namespace Go.KL
variable {R : Nat → Nat} {f g h : Nat → Nat} {a m b i j : Nat}
theorem SOut.refl (hs : Srt R f a b) : SOut R f f a b := ⟨hs, fun i h1 h2 => ⟨i, h1, h2, rfl⟩, fun _ _ => rfl⟩
theorem SOut.trans {a' b' : Nat} (h1 : SOut R f g a' b') (h2 : SOut R g h a b) (ha : a ≤ a') (hb : b' ≤ b) : SOut R f h a b := by
  refine ⟨h2.srt, fun i hi1 hi2 => ?_, fun i hi => ?_⟩
  · obtain ⟨k, k1, k2, k3⟩ := h2.from' i hi1 hi2
    by_cases hk : a' ≤ k ∧ k < b'
    · obtain ⟨l, l1, l2, l3⟩ := h1.from' k hk.1 hk.2
      exact ⟨l, by omega, by omega, by rw [k3, l3]⟩
    · exact ⟨k, k1, k2, by rw [k3, h1.same k (by omega)]⟩
  · rw [h2.same i hi, h1.same i (by omega)]
theorem mrg_right (hM : Mrg R f a m (m + 1)) (h1 : a ≤ i) (h2 : i ≤ m) (hlo : ∀ k, a ≤ k → k < i → ¬ ltR R (f m) (f k)) (hhi : ∀ k, i ≤ k → k < m → ltR R (f m) (f k)) : SOut R f (insB f m i) a (m + 1) := by
  have hlo' : ∀ k, a ≤ k → k < i → ltR R (f k) (f m) := fun k k1 k2 => (hM.ord k1 (by omega) (Nat.le_refl m) (by omega)).1 (hlo k k1 k2)
  refine ⟨fun s t hs hst ht => ?_, fun t t1 t2 => ?_, fun t ht => ?_⟩
  · have e : ∀ k, insB f m i k = if k = i then f m else if i < k ∧ k ≤ m then f (k - 1) else f k := fun _ => rfl
    rw [e, e]
    by_cases c1 : s = i
    · rw [if_pos c1, if_neg (by omega), if_pos (by omega)]
      exact hhi (t - 1) (by omega) (by omega)
    · rw [if_neg c1]
      by_cases c2 : i < s ∧ s ≤ m
      · rw [if_pos c2, if_neg (by omega), if_pos (by omega)]
        exact hM.left (s - 1) (t - 1) (by omega) (by omega) (by omega)
      · rw [if_neg c2]
        by_cases c3 : t = i
        · rw [if_pos c3]
          exact hlo' s hs (by omega)
        · rw [if_neg c3]
          by_cases c4 : i < t ∧ t ≤ m
          · rw [if_pos c4]
            by_cases c5 : s = t - 1
            · omega
            · exact hM.left s (t - 1) hs (by omega) (by omega)
          · rw [if_neg c4]
            exact hM.left s t hs hst (by omega)
  · unfold insB
    split
    · exact ⟨m, by omega, by omega, rfl⟩
    · split
      · exact ⟨t - 1, by omega, by omega, rfl⟩
      · exact ⟨t, t1, t2, rfl⟩
  · unfold insB
    rw [if_neg (by omega), if_neg (by omega)]
theorem mrg_left (hM : Mrg R f a (a + 1) b) (h1 : a + 1 ≤ i) (h2 : i ≤ b) (hlo : ∀ k, a + 1 ≤ k → k < i → ltR R (f k) (f a)) (hhi : ∀ k, i ≤ k → k < b → ¬ ltR R (f k) (f a)) : SOut R f (insF f a (i - 1)) a b := by
  have hhi' : ∀ k, i ≤ k → k < b → ltR R (f a) (f k) := fun k k1 k2 => (hM.ord (Nat.le_refl a) (by omega) (by omega) k2).1 (hhi k k1 k2)
  refine ⟨fun s t hs hst ht => ?_, fun t t1 t2 => ?_, fun t ht => ?_⟩
  · have e : ∀ k, insF f a (i - 1) k = if a ≤ k ∧ k < i - 1 then f (k + 1) else if k = i - 1 then f a else f k := fun _ => rfl
    rw [e, e]
    by_cases c1 : a ≤ s ∧ s < i - 1
    · rw [if_pos c1]
      by_cases c2 : a ≤ t ∧ t < i - 1
      · rw [if_pos c2]
        exact hM.right (s + 1) (t + 1) (by omega) (by omega) (by omega)
      · rw [if_neg c2]
        by_cases c3 : t = i - 1
        · rw [if_pos c3]
          exact hlo (s + 1) (by omega) (by omega)
        · rw [if_neg c3]
          exact hM.right (s + 1) t (by omega) (by omega) ht
    · rw [if_neg c1]
      by_cases c2 : s = i - 1
      · rw [if_pos c2, if_neg (by omega), if_neg (by omega)]
        exact hhi' t (by omega) ht
      · rw [if_neg c2, if_neg (by omega), if_neg (by omega)]
        exact hM.right s t (by omega) hst ht
  · unfold insF
    split
    · exact ⟨t + 1, by omega, by omega, rfl⟩
    · split
      · exact ⟨a, by omega, by omega, rfl⟩
      · exact ⟨t, t1, t2, rfl⟩
  · unfold insF
    rw [if_neg (by omega), if_neg (by omega)]
/-- Where a merge is cut. -/
structure Cut2 (R : Nat → Nat) (f : Nat → Nat) (a m b s mid e : Nat) : Prop where
  as' : a ≤ s
  sm : s ≤ m
  me : m ≤ e
  eb : e ≤ b
  sum : e + s = mid + m
  low : ∀ i j, a ≤ i → i < s → e ≤ j → j < b → ltR R (f i) (f j)
  high : ∀ i j, s ≤ i → i < m → m ≤ j → j < e → ltR R (f j) (f i)
theorem rot_at {s e t : Nat} : rotF f s m e t = if s ≤ t ∧ t < s + (e - m) then f (t + (m - s)) else if s + (e - m) ≤ t ∧ t < e then f (t - (e - m)) else f t := rfl
/-- Each place of the rotated row, by its part. -/
theorem Cut2.at {s mid e : Nat} (hC : Cut2 R f a m b s mid e) (t : Nat) : (t < s → rotF f s m e t = f t) ∧ (s ≤ t → t < mid → rotF f s m e t = f (t + (m - s)) ∧ m ≤ t + (m - s) ∧ t + (m - s) < e) ∧ (mid ≤ t → t < e → rotF f s m e t = f (t - (e - m)) ∧ s ≤ t - (e - m) ∧ t - (e - m) < m) ∧ (e ≤ t → rotF f s m e t = f t) := by
  have h1 := hC.sm
  have h2 := hC.me
  have h3 := hC.sum
  refine ⟨fun h => ?_, fun h4 h5 => ⟨?_, by omega, by omega⟩, fun h4 h5 => ⟨?_, by omega, by omega⟩, fun h => ?_⟩
  · rw [rot_at, if_neg (by omega), if_neg (by omega)]
  · rw [rot_at, if_pos (by omega)]
  · rw [rot_at, if_neg (by omega), if_pos (by omega)]
  · rw [rot_at, if_neg (by omega), if_neg (by omega)]
theorem mrg_cut {s mid e : Nat} (hM : Mrg R f a m b) (hC : Cut2 R f a m b s mid e) :
    Mrg R (rotF f s m e) a s mid ∧ Mrg R (rotF f s m e) mid e b ∧ ∀ i j, a ≤ i → i < mid → mid ≤ j → j < b → ltR R (rotF f s m e i) (rotF f s m e j) := by
  have q1 := hC.as'
  have q2 := hC.sm
  have q3 := hC.me
  have q4 := hC.eb
  have q5 := hC.sum
  refine ⟨⟨fun i j h1 h2 h3 => ?_, fun i j h1 h2 h3 => ?_, fun i j h1 h2 h3 h4 => ?_⟩, ⟨fun i j h1 h2 h3 => ?_, fun i j h1 h2 h3 => ?_, fun i j h1 h2 h3 h4 => ?_⟩, fun i j h1 h2 h3 h4 => ?_⟩
  · rw [(hC.at i).1 (by omega), (hC.at j).1 (by omega)]
    exact hM.left i j h1 h2 (by omega)
  · obtain ⟨e1, e2, e3⟩ := (hC.at i).2.1 h1 (by omega)
    obtain ⟨f1, f2, f3⟩ := (hC.at j).2.1 (by omega) h3
    rw [e1, f1]
    exact hM.right _ _ e2 (by omega) (by omega)
  · obtain ⟨f1, f2, f3⟩ := (hC.at j).2.1 h3 h4
    rw [(hC.at i).1 (by omega), f1]
    exact hM.ix _ _ h1 (by omega) f2 (by omega)
  · obtain ⟨e1, e2, e3⟩ := (hC.at i).2.2.1 h1 (by omega)
    obtain ⟨f1, f2, f3⟩ := (hC.at j).2.2.1 (by omega) h3
    rw [e1, f1]
    exact hM.left _ _ (by omega) (by omega) f3
  · rw [(hC.at i).2.2.2 h1, (hC.at j).2.2.2 (by omega)]
    exact hM.right _ _ (by omega) h2 h3
  · obtain ⟨e1, e2, e3⟩ := (hC.at i).2.2.1 h1 (by omega)
    rw [e1, (hC.at j).2.2.2 h3]
    exact hM.ix _ _ (by omega) e3 (by omega) h4
  · by_cases c1 : i < s
    · rw [(hC.at i).1 c1]
      by_cases c2 : j < e
      · obtain ⟨f1, f2, f3⟩ := (hC.at j).2.2.1 h3 c2
        rw [f1]
        exact hM.left _ _ h1 (by omega) f3
      · rw [(hC.at j).2.2.2 (by omega)]
        exact hC.low _ _ h1 c1 (by omega) h4
    · obtain ⟨e1, e2, e3⟩ := (hC.at i).2.1 (by omega) h2
      rw [e1]
      by_cases c2 : j < e
      · obtain ⟨f1, f2, f3⟩ := (hC.at j).2.2.1 h3 c2
        rw [f1]
        exact hC.high _ _ f2 f3 e2 e3
      · rw [(hC.at j).2.2.2 (by omega)]
        exact hM.right _ _ e2 (by omega) h4
theorem mrg_join {s mid e : Nat} {g1 g2 : Nat → Nat} (hM : Mrg R f a m b) (hC : Cut2 R f a m b s mid e) (ham : a ≤ mid) (hmb : mid ≤ b) (h1 : SOut R (rotF f s m e) g1 a mid) (h2 : SOut R g1 g2 mid b) : SOut R f g2 a b := by
  have hx := (mrg_cut hM hC).2.2
  have q1 := hC.as'
  have q2 := hC.sm
  have q3 := hC.me
  have q4 := hC.eb
  have q5 := hC.sum
  have hlo : ∀ i, a ≤ i → i < mid → ∃ k, a ≤ k ∧ k < mid ∧ g2 i = rotF f s m e k := fun i i1 i2 => by
    rw [h2.same i (.inl i2)]
    exact h1.from' i i1 i2
  have hhi : ∀ i, mid ≤ i → i < b → ∃ k, mid ≤ k ∧ k < b ∧ g2 i = rotF f s m e k := fun i i1 i2 => by
    obtain ⟨k, k1, k2, k3⟩ := h2.from' i i1 i2
    exact ⟨k, k1, k2, by rw [k3, h1.same k (.inr k1)]⟩
  refine ⟨fun i j i1 i2 i3 => ?_, fun i i1 i2 => ?_, fun i hi => ?_⟩
  · by_cases c1 : j < mid
    · rw [h2.same i (.inl (by omega)), h2.same j (.inl c1)]
      exact h1.srt i j i1 i2 c1
    · by_cases c2 : i < mid
      · obtain ⟨k, k1, k2, k3⟩ := hlo i i1 c2
        obtain ⟨l, l1, l2, l3⟩ := hhi j (by omega) i3
        rw [k3, l3]
        exact hx k l k1 k2 l1 l2
      · exact h2.srt i j (by omega) i2 i3
  · have key : ∃ k, a ≤ k ∧ k < b ∧ g2 i = rotF f s m e k := by
      by_cases c : i < mid
      · obtain ⟨k, k1, k2, k3⟩ := hlo i i1 c
        exact ⟨k, k1, by omega, k3⟩
      · obtain ⟨k, k1, k2, k3⟩ := hhi i (by omega) i2
        exact ⟨k, by omega, k2, k3⟩
    obtain ⟨k, k1, k2, k3⟩ := key
    rw [k3, rot_at]
    split
    · exact ⟨k + (m - s), by omega, by omega, rfl⟩
    · split
      · exact ⟨k - (e - m), by omega, by omega, rfl⟩
      · exact ⟨k, k1, k2, rfl⟩
  · rw [h2.same i (by omega), h1.same i (by omega), rot_at, if_neg (by omega), if_neg (by omega)]
/-- The search's end. -/
theorem cut_found {s mid s0 r0 : Nat} (hM : Mrg R f a m b) (ha : a ≤ s0) (hs : s0 ≤ s) (hr : s ≤ r0) (hrm : r0 ≤ m) (hb : mid + m ≤ b + s) (hm : m ≤ mid + m - s) (hsn : s ≤ mid + m) (h0 : s0 = a ∨ mid + m = b + s0) (h1 : r0 = m ∨ r0 = mid) (hlo : s0 < s → ltR R (f (s - 1)) (f (mid + m - s))) (hhi : s < r0 → ltR R (f (mid + m - 1 - s)) (f s)) : Cut2 R f a m b s mid (mid + m - s) := by
  refine ⟨by omega, by omega, hm, by omega, by omega, fun i j i1 i2 j1 j2 => ?_, fun i j i1 i2 j1 j2 => ?_⟩
  · have h3 : s0 < s := by omega
    have h4 := hlo h3
    have h5 : ltR R (f i) (f (mid + m - s)) := by
      by_cases c : i = s - 1
      · rw [c]; exact h4
      · exact ltR_trans (hM.left i (s - 1) i1 (by omega) (by omega)) h4
    by_cases c : j = mid + m - s
    · rw [c]; exact h5
    · exact ltR_trans h5 (hM.right _ j hm (by omega) j2)
  · have h3 : s < r0 := by omega
    have h4 := hhi h3
    have h5 : ltR R (f j) (f s) := by
      by_cases c : j = mid + m - 1 - s
      · rw [c]; exact h4
      · exact ltR_trans (hM.right j _ j1 (by omega) (by omega)) h4
    by_cases c : i = s
    · rw [c]; exact h5
    · exact ltR_trans h5 (hM.left s i (by omega) (by omega) i2)
end Go.KL
end

section
/- Blocks that are in order, and their merging two by two; plain. No program in sight. -/
namespace Go.KL
variable {R : Nat → Nat} {f g : Nat → Nat} {a m b n s e : Nat}
/-- The places from s to e, in order. -/
structure Blk (R : Nat → Nat) (g : Nat → Nat) (s e : Nat) : Prop where
  rng : ∀ i, s ≤ i → i < e → s ≤ g i ∧ g i < e
  srt : Srt R g s e
theorem Blk.keep (h : Blk R f s e) (hO : SOut R f g a b) (hd : e ≤ a ∨ b ≤ s) : Blk R g s e := by
  refine ⟨fun i h1 h2 => ?_, fun i j h1 h2 h3 => ?_⟩
  · rw [hO.same i (by omega)]
    exact h.rng i h1 h2
  · rw [hO.same i (by omega), hO.same j (by omega)]
    exact h.srt i j h1 h2 h3
theorem Blk.mrg (h1 : Blk R f a m) (h2 : Blk R f m b) : Mrg R f a m b := ⟨h1.srt, h2.srt, fun i j i1 i2 j1 j2 => by
  have := h1.rng i i1 i2
  have := h2.rng j j1 j2
  omega⟩
theorem Blk.join (h1 : Blk R f a m) (h2 : Blk R f m b) (ham : a ≤ m) (hmb : m ≤ b) (hO : SOut R f g a b) : Blk R g a b := by
  refine ⟨fun i i1 i2 => ?_, hO.srt⟩
  obtain ⟨k, k1, k2, k3⟩ := hO.from' i i1 i2
  rw [k3]
  by_cases c : k < m
  · have := h1.rng k k1 c
    omega
  · have := h2.rng k (by omega) k2
    omega
theorem Blk.ids (hid : ∀ i, a ≤ i → i < b → f i = i) (hO : SOut R f g a b) : Blk R g a b := by
  refine ⟨fun i i1 i2 => ?_, hO.srt⟩
  obtain ⟨k, k1, k2, k3⟩ := hO.from' i i1 i2
  rw [k3, hid k k1 k2]
  exact ⟨k1, k2⟩
theorem Blk.empty (h : e ≤ s) : Blk R g s e := ⟨fun i h1 h2 => by omega, fun i j h1 h2 h3 => by omega⟩
/-- All blocks of bs. -/
def BS (R g : Nat → Nat) (bs n : Nat) : Prop := ∀ s, s % bs = 0 → s < n → Blk R g s (min (s + bs) n)
/-- Blocks of 20 up to a, and behind it as it was. -/
def Ph1 (R g : Nat → Nat) (a : Nat) : Prop := a % 20 = 0 ∧ (∀ s, s % 20 = 0 → s + 20 ≤ a → Blk R g s (s + 20)) ∧ ∀ i, a ≤ i → g i = i
theorem Ph1.next (h : Ph1 R f a) (hO : SOut R f g a (a + 20)) : Ph1 R g (a + 20) := by
  obtain ⟨h1, h2, h3⟩ := h
  refine ⟨by omega, fun s s1 s2 => ?_, fun i hi => ?_⟩
  · by_cases c : s = a
    · subst c
      exact Blk.ids (fun i i1 _ => h3 i i1) hO
    · exact (h2 s s1 (by omega)).keep hO (by omega)
  · rw [hO.same i (by omega)]
    exact h3 i (by omega)
theorem Ph1.done (h : Ph1 R f a) (han : a ≤ n) (hn : n < a + 20) (hO : SOut R f g a n) : BS R g 20 n := by
  obtain ⟨h1, h2, h3⟩ := h
  intro s s1 s2
  by_cases c : s = a
  · subst c
    rw [show min (s + 20) n = n by omega]
    exact Blk.ids (fun i i1 _ => h3 i i1) hO
  · rw [show min (s + 20) n = s + 20 by omega]
    exact (h2 s s1 (by omega)).keep hO (by omega)
/-- Blocks of 2 bs up to a, blocks of bs behind it. -/
def Ph2 (R g : Nat → Nat) (bs n a : Nat) : Prop := a % (2 * bs) = 0 ∧ (∀ s, s % (2 * bs) = 0 → s + 2 * bs ≤ a → Blk R g s (s + 2 * bs)) ∧ ∀ s, s % bs = 0 → a ≤ s → s < n → Blk R g s (min (s + bs) n)
theorem Ph2.start {bs : Nat} (h : BS R g bs n) (hb : bs = 20 ∨ bs = 40) : Ph2 R g bs n 0 := by
  refine ⟨Nat.zero_mod _, fun s s1 s2 => ?_, fun s s1 _ s3 => h s s1 s3⟩
  rcases hb with rfl | rfl <;> omega
theorem Ph2.two {bs : Nat} (h : Ph2 R f bs n a) (hb : bs = 20 ∨ bs = 40) (hab : a + bs < n) : Blk R f a (a + bs) ∧ Blk R f (a + bs) (min (a + 2 * bs) n) := by
  obtain ⟨h1, h2, h3⟩ := h
  have k1 := h3 a (by rcases hb with rfl | rfl <;> omega) (Nat.le_refl _) (by omega)
  have k2 := h3 (a + bs) (by rcases hb with rfl | rfl <;> omega) (by omega) hab
  rw [show min (a + bs) n = a + bs by omega] at k1
  rw [show a + bs + bs = a + 2 * bs by omega] at k2
  exact ⟨k1, k2⟩
theorem Ph2.next {bs : Nat} (h : Ph2 R f bs n a) (hb : bs = 20 ∨ bs = 40) (hab : a + 2 * bs ≤ n) (hO : SOut R f g a (a + 2 * bs)) : Ph2 R g bs n (a + 2 * bs) := by
  have hp : 0 < bs := by omega
  obtain ⟨k1, k2⟩ := h.two hb (by omega)
  rw [show min (a + 2 * bs) n = a + 2 * bs by omega] at k2
  obtain ⟨h1, h2, h3⟩ := h
  refine ⟨by rcases hb with rfl | rfl <;> omega, fun s s1 s2 => ?_, fun s s1 s2 s3 => ?_⟩
  · by_cases c : s = a
    · subst c
      exact k1.join k2 (by omega) (by omega) hO
    · exact (h2 s s1 (by rcases hb with rfl | rfl <;> omega)).keep hO (by rcases hb with rfl | rfl <;> omega)
  · exact (h3 s s1 (by omega) s3).keep hO (by omega)
theorem Ph2.last {bs : Nat} (h : Ph2 R f bs n a) (hb : bs = 20 ∨ bs = 40) (han : a + bs < n) (hn : n < a + 2 * bs) (hO : SOut R f g a n) : BS R g (2 * bs) n := by
  obtain ⟨k1, k2⟩ := h.two hb han
  rw [show min (a + 2 * bs) n = n by omega] at k2
  obtain ⟨h1, h2, h3⟩ := h
  intro s s1 s2
  by_cases c : s = a
  · subst c
    rw [show min (s + 2 * bs) n = n by omega]
    exact k1.join k2 (by omega) (by omega) hO
  · rw [show min (s + 2 * bs) n = s + 2 * bs by rcases hb with rfl | rfl <;> omega]
    exact (h2 s s1 (by rcases hb with rfl | rfl <;> omega)).keep hO (by rcases hb with rfl | rfl <;> omega)
theorem Ph2.over {bs : Nat} (h : Ph2 R g bs n a) (hb : bs = 20 ∨ bs = 40) (ha : a ≤ n) (han : n ≤ a + bs) : BS R g (2 * bs) n := by
  obtain ⟨h1, h2, h3⟩ := h
  intro s s1 s2
  by_cases c : s = a
  · subst c
    have k := h3 s (by rcases hb with rfl | rfl <;> omega) (Nat.le_refl _) s2
    rw [show min (s + bs) n = n by omega] at k
    rw [show min (s + 2 * bs) n = n by omega]
    exact k
  · rw [show min (s + 2 * bs) n = s + 2 * bs by rcases hb with rfl | rfl <;> omega]
    exact h2 s s1 (by rcases hb with rfl | rfl <;> omega)
theorem BS.whole {bs : Nat} (h : BS R g bs n) (hb : n ≤ bs) : Blk R g 0 n := by
  by_cases c : n = 0
  · exact Blk.empty (by omega)
  · have k := h 0 (Nat.zero_mod _) (by omega)
    rwa [show min (0 + bs) n = n by omega] at k
end Go.KL
end

section
/- Rows of locks by their places; cmp.Compare; the closure that holds sorts by. -/
namespace Go.KL
open Go.Proofs
/-- The locks that f names, in a row. -/
def lrow (bo : Nat) (Lf : Nat → Lk) (n : Nat) (rest : List Value) (f : Nat → Nat) : Chunk := [(bo, recs 111 4 n (fun i j => (lkc (Lf (f i))).getD j undef) rest)]
section
variable {P : Program} {W : World} {Ls : List Chunk} {n : Nat} {σ : Slots} {dst : Option Tmp} {ty : TypeId} {pos : String} {after : Array Edge} {guard : Option (Nat × Bool)} {Lf : Nat → Lk} {rest : List Value} {f : Nat → Nat} {bo m : Nat}
theorem cells_lrow (i : Nat) {k : Nat} (hi : Ls.getD i [] = lrow bo Lf m rest f) (hk : k < m) : CellsAre (K W Ls) ⟨bo, k * 4, none⟩ (lkc (Lf (f k))) := cells_recs (W := W) (c := []) i hi hk
theorem set_lrow (T : Tab P) (i : Nat) {x y : Operand} {t : TypeId} {k : Nat} (z : Nat) (hx : ev σ x = some (.pointer (some ⟨bo, k * 4, none⟩))) (hy : ev σ y = some (.agg (lkc (Lf z)).toArray))
    (hs : T.size t = some 4) (hi : Ls.getD i [] = lrow bo Lf m rest f) (hk : k < m) :
    Sets P n σ (K W Ls) ⟨dst, .store t x y, ty, pos, after, guard⟩ (K W (Ls.set i (lrow bo Lf m rest (upd f k z)))) := by
  have h := set_recsA (W := W) (n := n) (dst := dst) (ty := ty) (pos := pos) (after := after) (guard := guard) T i hx hy rfl hs rfl hi hk
  have e : lrow bo Lf m rest (upd f k z) = [(bo, recs 111 4 m (updR (fun i j => (lkc (Lf (f i))).getD j undef) k (lkc (Lf z))) rest)] := by
    unfold lrow
    rw [recs_congr fun a _ j _ => ?_]
    unfold updR upd
    split <;> rfl
  rw [e]
  exact h
end
/-- How two keys compare. -/
def cmp3 (x y : Nat) : Int := if x < y then -1 else if y < x then 1 else 0
theorem cmp3_neg {x y : Nat} : cmp3 x y < 0 ↔ x < y := by
  unfold cmp3
  split
  · omega
  · split <;> omega
/-- What the sort knows of its comparison. -/
def CmpL (Lf : Nat → Lk) (n : Nat) (R : Nat → Nat) : Prop := ∀ (x y : Nat), x < n → y < n → ∀ {W : World} {Ls : List Chunk}, Spec Tryz.prog 123 #[.agg (lkc (Lf x)).toArray, .agg (lkc (Lf y)).toArray] (K W Ls) (fun _ : Unit => .int .i64 (cmp3 (R y) (R x))) (fun _ => K W Ls)
attribute [local irreducible] SC St Fin Sq Ylds Doos Sets Enters Spec CellIs CellsAre Then Ret Rnd Chn resOK ints bools recs arr
set_option maxRecDepth 10000 in
theorem isNaN_spec {C : World → Prop} {x : Nat} : Spec Tryz.prog 136 #[.int .i64 (x : Int)] C (fun _ : Unit => .bool false) (fun _ => C) := by
  refine enter (args := [_]) Tryz.func136 rfl Tryz.ntmps136 rfl ?_
  refine c_seq ?_
  refine c_region ?_
  refine s_y (y_assign rfl) rfl rfl rfl ?_
  refine s_nil ?_
  refine f_then ?_
  refine c_seq ?_
  refine c_region ?_
  refine s_y (y_move rfl) rfl rfl rfl ?_
  refine s_y (y_move rfl) rfl rfl rfl ?_
  refine s_y (y_F (y_neq rfl rfl) (by omega)) rfl rfl rfl ?_
  refine s_y (y_assign rfl) rfl rfl rfl ?_
  refine s_nil ?_
  refine f_then ?_
  refine c_ret ?_
  exact f_ret () (res1 rfl rfl) (fun w h => h)
set_option maxRecDepth 10000 in
theorem compare_spec {C : World → Prop} {x y : Nat} : Spec Tryz.prog 124 #[.int .i64 (x : Int), .int .i64 (y : Int)] C (fun _ : Unit => .int .i64 (cmp3 x y)) (fun _ => C) := by
  refine enter (args := [_, _]) Tryz.func124 rfl Tryz.ntmps124 rfl ?_
  refine c_seq ?_
  refine c_region ?_
  refine s_y (y_assign rfl) rfl rfl rfl ?_
  refine s_nil ?_
  refine f_then ?_
  refine c_seq ?_
  refine c_region ?_
  refine s_y (y_move rfl) rfl rfl rfl ?_
  refine s_call (en_f rfl Tryz.call136) isNaN_spec rfl rfl rfl (fun _ => ?_)
  refine s_y (y_assign rfl) rfl rfl rfl ?_
  refine s_nil ?_
  refine f_then ?_
  refine c_seq ?_
  refine c_region ?_
  refine s_y (y_move rfl) rfl rfl rfl ?_
  refine s_call (en_f rfl Tryz.call136) isNaN_spec rfl rfl rfl (fun _ => ?_)
  unfold cmp3
  by_cases h1 : x < y
  · rw [if_pos h1]
    refine s_y (y_assign rfl) rfl rfl rfl ?_
    refine s_nil ?_
    refine f_then ?_
    refine c_seq ?_
    refine c_seq ?_
    refine c_region ?_
    refine s_y (y_move rfl) rfl rfl rfl ?_
    refine s_nil ?_
    refine f_then ?_
    refine c_condF rfl ?_
    refine c_skip ?_
    refine f_then ?_
    refine c_seq ?_
    refine c_seq ?_
    refine c_region ?_
    refine s_y (y_move rfl) rfl rfl rfl ?_
    refine s_nil ?_
    refine f_then ?_
    refine c_condF rfl ?_
    refine c_skip ?_
    refine f_then ?_
    refine c_seq ?_
    refine c_seq ?_
    refine c_region ?_
    refine s_y (y_move rfl) rfl rfl rfl ?_
    refine s_y (y_move rfl) rfl rfl rfl ?_
    refine s_y (y_T (y_lss rfl rfl) (by omega)) rfl rfl rfl ?_
    refine s_nil ?_
    refine f_then ?_
    refine c_condT rfl ?_
    refine c_seq ?_
    refine c_region ?_
    refine s_y (y_assign rfl) rfl rfl rfl ?_
    refine s_nil ?_
    refine f_then ?_
    refine c_ret ?_
    refine f_thenR ?_
    exact f_ret () (res1 rfl rfl) (fun w h => h)
  · rw [if_neg h1]
    by_cases h2 : y < x
    · rw [if_pos h2]
      refine s_y (y_assign rfl) rfl rfl rfl ?_
      refine s_nil ?_
      refine f_then ?_
      refine c_seq ?_
      refine c_seq ?_
      refine c_region ?_
      refine s_y (y_move rfl) rfl rfl rfl ?_
      refine s_nil ?_
      refine f_then ?_
      refine c_condF rfl ?_
      refine c_skip ?_
      refine f_then ?_
      refine c_seq ?_
      refine c_seq ?_
      refine c_region ?_
      refine s_y (y_move rfl) rfl rfl rfl ?_
      refine s_nil ?_
      refine f_then ?_
      refine c_condF rfl ?_
      refine c_skip ?_
      refine f_then ?_
      refine c_seq ?_
      refine c_seq ?_
      refine c_region ?_
      refine s_y (y_move rfl) rfl rfl rfl ?_
      refine s_y (y_move rfl) rfl rfl rfl ?_
      refine s_y (y_F (y_lss rfl rfl) (by omega)) rfl rfl rfl ?_
      refine s_nil ?_
      refine f_then ?_
      refine c_condF rfl ?_
      refine c_skip ?_
      refine f_then ?_
      refine c_seq ?_
      refine c_seq ?_
      refine c_region ?_
      refine s_y (y_move rfl) rfl rfl rfl ?_
      refine s_y (y_move rfl) rfl rfl rfl ?_
      refine s_y (y_T (y_gtr rfl rfl) (by omega)) rfl rfl rfl ?_
      refine s_nil ?_
      refine f_then ?_
      refine c_condT rfl ?_
      refine c_seq ?_
      refine c_region ?_
      refine s_y (y_assign rfl) rfl rfl rfl ?_
      refine s_nil ?_
      refine f_then ?_
      refine c_ret ?_
      refine f_thenR ?_
      exact f_ret () (res1 rfl rfl) (fun w h => h)
    · rw [if_neg h2]
      refine s_y (y_assign rfl) rfl rfl rfl ?_
      refine s_nil ?_
      refine f_then ?_
      refine c_seq ?_
      refine c_seq ?_
      refine c_region ?_
      refine s_y (y_move rfl) rfl rfl rfl ?_
      refine s_nil ?_
      refine f_then ?_
      refine c_condF rfl ?_
      refine c_skip ?_
      refine f_then ?_
      refine c_seq ?_
      refine c_seq ?_
      refine c_region ?_
      refine s_y (y_move rfl) rfl rfl rfl ?_
      refine s_nil ?_
      refine f_then ?_
      refine c_condF rfl ?_
      refine c_skip ?_
      refine f_then ?_
      refine c_seq ?_
      refine c_seq ?_
      refine c_region ?_
      refine s_y (y_move rfl) rfl rfl rfl ?_
      refine s_y (y_move rfl) rfl rfl rfl ?_
      refine s_y (y_F (y_lss rfl rfl) (by omega)) rfl rfl rfl ?_
      refine s_nil ?_
      refine f_then ?_
      refine c_condF rfl ?_
      refine c_skip ?_
      refine f_then ?_
      refine c_seq ?_
      refine c_seq ?_
      refine c_region ?_
      refine s_y (y_move rfl) rfl rfl rfl ?_
      refine s_y (y_move rfl) rfl rfl rfl ?_
      refine s_y (y_F (y_gtr rfl rfl) (by omega)) rfl rfl rfl ?_
      refine s_nil ?_
      refine f_then ?_
      refine c_condF rfl ?_
      refine c_skip ?_
      refine f_then ?_
      refine c_seq ?_
      refine c_region ?_
      refine s_y (y_assign rfl) rfl rfl rfl ?_
      refine s_nil ?_
      refine f_then ?_
      refine c_ret ?_
      exact f_ret () (res1 rfl rfl) (fun w h => h)
theorem cmp3_sub {M x y : Nat} (hx : x ≤ M) (hy : y ≤ M) : cmp3 (M - y) (M - x) = cmp3 x y := by
  unfold cmp3
  by_cases h1 : x < y
  · rw [if_pos h1, if_pos (by omega)]
  · rw [if_neg h1, if_neg (show ¬ M - y < M - x by omega)]
    by_cases h2 : y < x
    · rw [if_pos h2, if_pos (by omega)]
    · rw [if_neg h2, if_neg (by omega)]
set_option maxRecDepth 10000 in
theorem less_spec {Lf : Nat → Lk} {n M : Nat} (hM : ∀ x, x < n → (Lf x).lo ≤ M) : CmpL Lf n (fun x => M - (Lf x).lo) := by
  intro x y hx hy W Ls
  rw [cmp3_sub (hM x hx) (hM y hy)]
  refine enter (args := [_, _]) Tryz.func123 rfl Tryz.ntmps123 rfl ?_
  refine c_seq ?_
  refine c_region ?_
  refine s_do (do_box rfl) rfl rfl rfl (fun b2 => ?_)
  refine s_do (do_box rfl) rfl rfl rfl (fun b3 => ?_)
  refine s_y (y_assign rfl) rfl rfl rfl ?_
  refine s_nil ?_
  refine f_then ?_
  refine c_seq ?_
  refine c_region ?_
  refine s_y (y_fieldAddrB Tryz.tab 1 rfl rfl rfl rfl rfl) rfl rfl rfl ?_
  refine s_y (y_load Tryz.tab rfl rfl (cell_row 1 rfl rfl)) rfl rfl rfl ?_
  refine s_y (y_fieldAddrB Tryz.tab 1 rfl rfl rfl rfl rfl) rfl rfl rfl ?_
  refine s_y (y_load Tryz.tab rfl rfl (cell_row 0 rfl rfl)) rfl rfl rfl ?_
  refine s_call (en_f rfl Tryz.call124) compare_spec rfl rfl rfl (fun _ => ?_)
  refine s_y (y_assign rfl) rfl rfl rfl ?_
  refine s_nil ?_
  refine f_then ?_
  refine c_ret ?_
  exact f_ret () (res1 rfl rfl) (fun w h => h.tail.tail)
end Go.KL
end

section
/- Walks: swapRange, rotate. -/
namespace Go.KL
open Go.Proofs
attribute [local irreducible] SC St Fin Sq Ylds Doos Sets Enters Spec CellIs CellsAre Then Ret Rnd Chn resOK ints bools recs arr
set_option maxRecDepth 10000 in
set_option maxHeartbeats 4000000 in
theorem swapRange_spec {W : World} {N : List Chunk} {Lf : Nat → Lk} {rest : List Value} {cp : Nat} {bo m a b k : Nat} {f : Nat → Nat} {cv : Value} (h1 : a + k ≤ b) (h2 : b + k ≤ m) (hm : m ≤ 4096) : Spec Tryz.prog 162 #[.slice (some ⟨bo, 0, none⟩) m cp, .int .i64 (a : Int), .int .i64 (b : Int), .int .i64 (k : Int), cv] (K W (lrow bo Lf m rest (f) :: N)) (fun _ : Unit => .tuple #[]) (fun _ => K W (lrow bo Lf m rest (swpF f a b k) :: N)) := by
  refine enter (args := [_, _, _, _, _]) Tryz.func162 rfl Tryz.ntmps162 rfl ?_
  refine c_seq ?_
  refine c_region ?_
  refine s_y (y_assign rfl) rfl rfl rfl ?_
  refine s_nil ?_
  refine f_then ?_
  refine c_block ?_
  refine c_loopP (α := Nat) (fun z => [(0, .slice (some ⟨bo, 0, none⟩) m cp), (1, .int .i64 (a : Int)), (2, .int .i64 (b : Int)), (3, .int .i64 (k : Int)), (10, .int .i64 (z : Int))]) (fun z => z ≤ k) (fun z => K W (lrow bo Lf m rest (swpF f a b z) :: N)) (fun z => k - z) 0
    ⟨rfl, rfl, rfl, rfl, rfl, trivial⟩ (Nat.zero_le _) (fun w h => by rw [swpF_zero]; exact h) ?_
  intro i hi
  by_cases hlt : i < k
  · have ea : (a : Int) + (i : Int) = ((a + i : Nat) : Int) := by omega
    have eb : (b : Int) + (i : Int) = ((b + i : Nat) : Int) := by omega
    have hnx := swpF_next (f := f) (a := a) (b := b) (i := i) (by omega)
    refine c_seq ?_
    refine c_seq ?_
    refine c_region ?_
    refine s_y (y_move rfl) rfl rfl rfl ?_
    refine s_y (y_move rfl) rfl rfl rfl ?_
    refine s_y (y_T (y_lss rfl rfl) (by omega)) rfl rfl rfl ?_
    refine s_nil ?_
    refine f_then ?_
    refine c_condT rfl ?_
    refine c_skip ?_
    refine f_then ?_
    refine c_seq ?_
    refine c_block ?_
    refine c_planMs [4, 5, 6, 7] [.c 0, .c 1, .c 2, .c 3, .c 8, .c 9, .c 10, .c 11, .c 12, .c 13, .c 14, .c 15, .c 16, .c 17, .c 18, .c 19, .c 20, .s 21, .s 22, .s 23] [4, 5, 6, 7, 21, 22, 23] (K W (lrow bo Lf m rest (swpF f a b i) :: N)) Tryz.mixed (by kernel_rfl) rfl K.cl ?_
    refine m_cons rfl (Qui.ylds (y_move rfl)) rfl rfl rfl K.cl ?_
    refine m_cons rfl (Qui.ylds (y_move rfl)) rfl rfl rfl K.cl ?_
    refine m_cons rfl (Qui.ylds (y_move rfl)) rfl rfl rfl K.cl ?_
    refine m_cons rfl (Qui.ylds (y_add rfl rfl (by omega))) rfl rfl rfl K.cl ?_
    refine m_nil ?_
    refine d_c rfl (Qui.ylds (y_move rfl)) rfl rfl rfl (fun _ h => h) K.cl ?_
    refine d_c rfl (Qui.ylds (y_move rfl)) rfl rfl rfl (fun _ h => h) K.cl ?_
    refine d_c rfl (Qui.ylds (y_move rfl)) rfl rfl rfl (fun _ h => h) K.cl ?_
    refine d_c rfl (Qui.ylds (y_add rfl rfl (by omega))) rfl rfl rfl (fun _ h => h) K.cl ?_
    refine d_c rfl (Qui.ylds (y_move rfl)) rfl rfl rfl (fun _ h => h) K.cl ?_
    refine d_c rfl (Qui.ylds (y_move rfl)) rfl rfl rfl (fun _ h => h) K.cl ?_
    refine d_c rfl (Qui.ylds (y_move rfl)) rfl rfl rfl (fun _ h => h) K.cl ?_
    refine d_c rfl (Qui.ylds (y_add rfl rfl (by omega))) rfl rfl rfl (fun _ h => h) K.cl ?_
    refine d_c rfl (Qui.ylds (y_indexAddr0 (s := 4) Tryz.tab rfl rfl rfl rfl _ rfl (by omega))) rfl rfl rfl (fun _ h => h) K.cl ?_
    refine d_c rfl (Qui.ylds (y_loadA Tryz.tab rfl rfl rfl rfl (cells_lrow 0 rfl (by omega)))) rfl rfl rfl (fun _ h => h) K.cl ?_
    refine d_c rfl (Qui.ylds (y_move rfl)) rfl rfl rfl (fun _ h => h) K.cl ?_
    refine d_c rfl (Qui.ylds (y_move rfl)) rfl rfl rfl (fun _ h => h) K.cl ?_
    refine d_c rfl (Qui.ylds (y_move rfl)) rfl rfl rfl (fun _ h => h) K.cl ?_
    refine d_c rfl (Qui.ylds (y_add rfl rfl (by omega))) rfl rfl rfl (fun _ h => h) K.cl ?_
    refine d_c rfl (Qui.ylds (y_indexAddr0 (s := 4) Tryz.tab rfl rfl rfl rfl _ rfl (by omega))) rfl rfl rfl (fun _ h => h) K.cl ?_
    refine d_c rfl (Qui.ylds (y_loadA Tryz.tab rfl rfl rfl rfl (cells_lrow 0 rfl (by omega)))) rfl rfl rfl (fun _ h => h) K.cl ?_
    refine d_c rfl (Qui.ylds (y_indexAddr0 (s := 4) Tryz.tab rfl rfl rfl rfl _ rfl (by omega))) rfl rfl rfl (fun _ h => h) K.cl ?_
    refine d_set rfl (set_lrow Tryz.tab 0 _ rfl rfl rfl rfl (by omega)) rfl rfl K.cl (fun h => by cases h) ?_
    refine d_sy rfl (y_indexAddr0 (s := 4) Tryz.tab rfl rfl rfl rfl _ rfl (by omega)) rfl rfl rfl K.cl (fun h => by cases h) ?_
    refine d_set rfl (set_lrow Tryz.tab 0 _ rfl rfl rfl rfl (by omega)) rfl rfl K.cl (fun h => by cases h) ?_
    refine d_nil ?_
    refine f_blockN ?_
    refine f_then ?_
    refine c_region ?_
    refine s_y (y_move rfl) rfl rfl rfl ?_
    refine s_y (y_add rfl rfl (by omega)) rfl rfl rfl ?_
    refine s_y (y_assign rfl) rfl rfl rfl ?_
    refine s_nil ?_
    exact f_roundP (i + 1) hlt (by omega) ⟨rfl, rfl, rfl, rfl, rfl, trivial⟩ (fun w h => by rw [← hnx]; exact h)
  · obtain rfl : i = k := by omega
    refine c_seq ?_
    refine c_seq ?_
    refine c_region ?_
    refine s_y (y_move rfl) rfl rfl rfl ?_
    refine s_y (y_move rfl) rfl rfl rfl ?_
    refine s_y (y_F (y_lss rfl rfl) (by omega)) rfl rfl rfl ?_
    refine s_nil ?_
    refine f_then ?_
    refine c_condF rfl ?_
    refine c_exit ?_
    refine f_thenE ?_
    refine f_rndE ?_
    refine f_blockE ?_
    exact f_end () (res0 rfl) (fun w h => h)
set_option maxRecDepth 10000 in
set_option maxHeartbeats 4000000 in
theorem rotate_spec {W : World} {N : List Chunk} {Lf : Nat → Lk} {rest : List Value} {cp : Nat} {bo n a m b : Nat} {f : Nat → Nat} {cv : Value} (h1 : a < m) (h2 : m < b) (h3 : b ≤ n) (hn : n ≤ 4096) : Spec Tryz.prog 150 #[.slice (some ⟨bo, 0, none⟩) n cp, .int .i64 (a : Int), .int .i64 (m : Int), .int .i64 (b : Int), cv] (K W (lrow bo Lf n rest (f) :: N)) (fun _ : Unit => .tuple #[]) (fun _ => K W (lrow bo Lf n rest (rotF f a m b) :: N)) := by
  refine enter (args := [_, _, _, _, _]) Tryz.func150 rfl Tryz.ntmps150 rfl ?_
  have e1 : (m : Int) - (a : Int) = ((m - a : Nat) : Int) := by omega
  have e2 : (b : Int) - (m : Int) = ((b - m : Nat) : Int) := by omega
  refine c_seq ?_
  refine c_region ?_
  refine s_y (y_move rfl) rfl rfl rfl ?_
  refine s_y (y_move rfl) rfl rfl rfl ?_
  refine s_y (y_sub rfl rfl (by omega)) rfl rfl rfl ?_
  refine s_y (y_assign rfl) rfl rfl rfl ?_
  refine s_nil ?_
  refine f_then ?_
  refine c_seq ?_
  refine c_region ?_
  refine s_y (y_move rfl) rfl rfl rfl ?_
  refine s_y (y_move rfl) rfl rfl rfl ?_
  refine s_y (y_sub rfl rfl (by omega)) rfl rfl rfl ?_
  refine s_y (y_assign rfl) rfl rfl rfl ?_
  refine s_nil ?_
  refine f_then ?_
  refine c_seq ?_
  refine c_block ?_
  rw [e1, e2]
  refine c_loopP (α := Nat × Nat × (Nat → Nat)) (fun z => [(0, .slice (some ⟨bo, 0, none⟩) n cp), (2, .int .i64 (m : Int)), (4, cv), (10, .int .i64 (z.1 : Int)), (11, .int .i64 (z.2.1 : Int))]) (fun z => 0 < z.1 ∧ 0 < z.2.1 ∧ z.1 ≤ m ∧ m + z.2.1 ≤ n ∧ rotF z.2.2 (m - z.1) m (m + z.2.1) = rotF f a m b) (fun z => K W (lrow bo Lf n rest (z.2.2) :: N)) (fun z => z.1 + z.2.1) (m - a, b - m, f)
    ⟨rfl, rfl, rfl, rfl, rfl, trivial⟩ ⟨by dsimp only; omega, by dsimp only; omega, by dsimp only; omega, by dsimp only; omega, by dsimp only; rw [show m - (m - a) = a by omega, show m + (b - m) = b by omega]⟩ (fun w h => h) ?_
  rintro ⟨i, j, g⟩ ⟨hi, hj, him, hjn, hg⟩
  dsimp only at hi hj him hjn hg ⊢
  have e3 : (m : Int) - (i : Int) = ((m - i : Nat) : Int) := by omega
  have e4 : (m : Int) + (j : Int) = ((m + j : Nat) : Int) := by omega
  by_cases hij : i = j
  · subst hij
    rw [← rotF_swp him] at hg
    rw [← hg]
    refine c_seq ?_
    refine c_seq ?_
    refine c_region ?_
    refine s_y (y_move rfl) rfl rfl rfl ?_
    refine s_y (y_move rfl) rfl rfl rfl ?_
    refine s_y (y_F (y_neq rfl rfl) (by omega)) rfl rfl rfl ?_
    refine s_nil ?_
    refine f_then ?_
    refine c_condF rfl ?_
    refine c_exit ?_
    refine f_thenE ?_
    refine f_rndE ?_
    refine f_blockE ?_
    refine f_then ?_
    refine c_region ?_
    refine s_y (y_move rfl) rfl rfl rfl ?_
    refine s_y (y_move rfl) rfl rfl rfl ?_
    refine s_y (y_move rfl) rfl rfl rfl ?_
    refine s_y (y_sub rfl rfl (by omega)) rfl rfl rfl ?_
    refine s_y (y_move rfl) rfl rfl rfl ?_
    refine s_y (y_move rfl) rfl rfl rfl ?_
    refine s_y (y_move rfl) rfl rfl rfl ?_
    rw [e3]
    refine s_call (en_f rfl Tryz.call162) (swapRange_spec (a := m - i) (b := m) (k := i) (by omega) (by omega) hn) rfl rfl rfl (fun _ => ?_)
    refine s_nil ?_
    exact f_end () (res0 rfl) (fun w h => h)
  by_cases hlt : j < i
  · rw [← rotF_left him hlt] at hg
    refine c_seq ?_
    refine c_seq ?_
    refine c_region ?_
    refine s_y (y_move rfl) rfl rfl rfl ?_
    refine s_y (y_move rfl) rfl rfl rfl ?_
    refine s_y (y_T (y_neq rfl rfl) (by omega)) rfl rfl rfl ?_
    refine s_nil ?_
    refine f_then ?_
    refine c_condT rfl ?_
    refine c_skip ?_
    refine f_then ?_
    refine c_block ?_
    refine c_seq ?_
    refine c_region ?_
    refine s_y (y_move rfl) rfl rfl rfl ?_
    refine s_y (y_move rfl) rfl rfl rfl ?_
    refine s_y (y_T (y_gtr rfl rfl) (by omega)) rfl rfl rfl ?_
    refine s_nil ?_
    refine f_then ?_
    refine c_condT rfl ?_
    refine c_seq ?_
    refine c_region ?_
    refine s_y (y_move rfl) rfl rfl rfl ?_
    refine s_y (y_move rfl) rfl rfl rfl ?_
    refine s_y (y_move rfl) rfl rfl rfl ?_
    refine s_y (y_sub rfl rfl (by omega)) rfl rfl rfl ?_
    refine s_y (y_move rfl) rfl rfl rfl ?_
    refine s_y (y_move rfl) rfl rfl rfl ?_
    refine s_y (y_move rfl) rfl rfl rfl ?_
    rw [e3]
    refine s_call (en_f rfl Tryz.call162) (swapRange_spec (a := m - i) (b := m) (k := j) (by omega) (by omega) hn) rfl rfl rfl (fun _ => ?_)
    refine s_nil ?_
    refine f_then ?_
    refine c_region ?_
    refine s_y (y_move rfl) rfl rfl rfl ?_
    refine s_y (y_move rfl) rfl rfl rfl ?_
    refine s_y (y_sub rfl rfl (by omega)) rfl rfl rfl ?_
    refine s_y (y_assign rfl) rfl rfl rfl ?_
    refine s_nil ?_
    refine f_blockN ?_
    exact f_roundP (i - j, j, swpF g (m - i) m j) ⟨by dsimp only; omega, hj, by dsimp only; omega, hjn, hg⟩ (by dsimp only; omega) ⟨rfl, rfl, rfl, congrArg (fun z => some (Value.int .i64 z)) (by dsimp only; omega), rfl, trivial⟩ (fun w h => h)
  · have e5 : ((m + j : Nat) : Int) - (i : Int) = ((m + j - i : Nat) : Int) := by omega
    rw [← rotF_right him (by omega)] at hg
    refine c_seq ?_
    refine c_seq ?_
    refine c_region ?_
    refine s_y (y_move rfl) rfl rfl rfl ?_
    refine s_y (y_move rfl) rfl rfl rfl ?_
    refine s_y (y_T (y_neq rfl rfl) (by omega)) rfl rfl rfl ?_
    refine s_nil ?_
    refine f_then ?_
    refine c_condT rfl ?_
    refine c_skip ?_
    refine f_then ?_
    refine c_block ?_
    refine c_seq ?_
    refine c_region ?_
    refine s_y (y_move rfl) rfl rfl rfl ?_
    refine s_y (y_move rfl) rfl rfl rfl ?_
    refine s_y (y_F (y_gtr rfl rfl) (by omega)) rfl rfl rfl ?_
    refine s_nil ?_
    refine f_then ?_
    refine c_condF rfl ?_
    refine c_seq ?_
    refine c_region ?_
    refine s_y (y_move rfl) rfl rfl rfl ?_
    refine s_y (y_move rfl) rfl rfl rfl ?_
    refine s_y (y_move rfl) rfl rfl rfl ?_
    refine s_y (y_sub rfl rfl (by omega)) rfl rfl rfl ?_
    refine s_y (y_move rfl) rfl rfl rfl ?_
    refine s_y (y_move rfl) rfl rfl rfl ?_
    refine s_y (y_add rfl rfl (by omega)) rfl rfl rfl ?_
    refine s_y (y_move rfl) rfl rfl rfl ?_
    refine s_y (y_sub rfl rfl (by omega)) rfl rfl rfl ?_
    refine s_y (y_move rfl) rfl rfl rfl ?_
    refine s_y (y_move rfl) rfl rfl rfl ?_
    rw [e3, e4, e5]
    refine s_call (en_f rfl Tryz.call162) (swapRange_spec (a := m - i) (b := m + j - i) (k := i) (by omega) (by omega) hn) rfl rfl rfl (fun _ => ?_)
    refine s_nil ?_
    refine f_then ?_
    refine c_region ?_
    refine s_y (y_move rfl) rfl rfl rfl ?_
    refine s_y (y_move rfl) rfl rfl rfl ?_
    refine s_y (y_sub rfl rfl (by omega)) rfl rfl rfl ?_
    refine s_y (y_assign rfl) rfl rfl rfl ?_
    refine s_nil ?_
    refine f_blockN ?_
    exact f_roundP (i, j - i, swpF g (m - i) (m + j - i) i) ⟨hi, by dsimp only; omega, him, by dsimp only; omega, hg⟩ (by dsimp only; omega) ⟨rfl, rfl, rfl, rfl, congrArg (fun z => some (Value.int .i64 z)) (by dsimp only; omega), trivial⟩ (fun w h => h)
end Go.KL
end

section
/- Walks: insertionSort. -/
namespace Go.KL
open Go.Proofs
theorem SOut.bd {R : Nat → Nat} {f g : Nat → Nat} {a b n : Nat} (h : SOut R f g a b) (hf : ∀ k, k < n → f k < n) (hb : b ≤ n) : ∀ k, k < n → g k < n := by
  intro k hk
  by_cases c : a ≤ k ∧ k < b
  · obtain ⟨l, l1, l2, l3⟩ := h.from' k c.1 c.2
    rw [l3]
    exact hf l (by omega)
  · rw [h.same k (by omega)]
    exact hf k hk
theorem SOut.one {R : Nat → Nat} {f g : Nat → Nat} {a b : Nat} (h : SOut R f g a (a + 1)) (hb : b ≤ a) : SOut R f g a b := by
  refine ⟨fun i j h1 h2 h3 => by omega, fun i h1 h2 => by omega, fun i _ => ?_⟩
  by_cases c : i = a
  · obtain ⟨k, k1, k2, k3⟩ := h.from' i (by omega) (by omega)
    rw [k3, show k = i by omega]
  · exact h.same i (by omega)
theorem ins_mrg {R : Nat → Nat} {f g : Nat → Nat} {a b i : Nat} (hasc : ∀ p q, a ≤ p → p < q → q < b → f p < f q) (h : SOut R f g a i) (hai : a ≤ i) (hib : i < b) : Mrg R g a i (i + 1) := by
  refine ⟨h.srt, fun p q h1 h2 h3 => by omega, fun p q h1 h2 h3 h4 => ?_⟩
  obtain rfl : q = i := by omega
  obtain ⟨k, k1, k2, k3⟩ := h.from' p h1 h2
  rw [k3, h.same q (.inr (Nat.le_refl _))]
  exact hasc k q k1 k2 hib
theorem ins_out {R : Nat → Nat} {f g : Nat → Nat} {a i j : Nat} (hM : Mrg R g a i (i + 1)) (h : SOut R f g a i) (haj : a ≤ j) (hji : j ≤ i) (hhi : ∀ k, j ≤ k → k < i → ltR R (g i) (g k)) (hst : a < j → ¬ ltR R (g i) (g (j - 1))) : SOut R f (insB g i j) a (i + 1) := by
  have hlo : ∀ k, a ≤ k → k < j → ¬ ltR R (g i) (g k) := by
    intro k k1 k2 hc
    have h1 := hst (by omega)
    have h2 := (hM.ord (i := j - 1) (j := i) (by omega) (by omega) (Nat.le_refl i) (by omega)).1 h1
    by_cases c : k = j - 1
    · subst c
      exact h1 hc
    · have h3 := ltR_trans (hM.left k (j - 1) k1 (by omega) (by omega)) h2
      exact ltR_irr (ltR_trans hc h3)
  exact h.trans (mrg_right hM haj hji hlo hhi) (Nat.le_refl _) (by omega)
theorem insB_at {f : Nat → Nat} {m i : Nat} : insB f m i i = f m := by
  unfold insB
  rw [if_pos rfl]
theorem insB_bef {f : Nat → Nat} {m i : Nat} (h : 0 < i) : insB f m i (i - 1) = f (i - 1) := by
  unfold insB
  rw [if_neg (by omega), if_neg (by omega)]
attribute [local irreducible] SC St Fin Sq Ylds Doos Sets Enters Spec CellIs CellsAre Then Ret Rnd Chn resOK ints bools recs arr
set_option maxRecDepth 10000 in
set_option maxHeartbeats 8000000 in
theorem insertion_spec {W : World} {N : List Chunk} {Lf : Nat → Lk} {rest : List Value} {cp : Nat} {bo n a b : Nat} {R f : Nat → Nat} (hcmp : CmpL Lf n R) (hab : a ≤ b) (hbn : b ≤ n) (hn : n ≤ 4096) (hf : ∀ k, k < n → f k < n) (hasc : ∀ p q, a ≤ p → p < q → q < b → f p < f q) : Spec Tryz.prog 144 #[.slice (some ⟨bo, 0, none⟩) n cp, .int .i64 (a : Int), .int .i64 (b : Int), .func (.func 123) #[] #[]] (K W (lrow bo Lf n rest (f) :: N)) (X := { g : Nat → Nat // SOut R f g a b }) (fun _ => .tuple #[]) (fun g => K W (lrow bo Lf n rest (g.1) :: N)) := by
  refine enter (args := [_, _, _, _]) Tryz.func144 rfl Tryz.ntmps144 rfl ?_
  refine c_seq ?_
  refine c_region ?_
  refine s_y (y_move rfl) rfl rfl rfl ?_
  refine s_y (y_add rfl rfl (by omega)) rfl rfl rfl ?_
  refine s_y (y_assign rfl) rfl rfl rfl ?_
  refine s_nil ?_
  refine f_then ?_
  refine c_block ?_
  refine c_loopP (α := Nat × (Nat → Nat)) (fun z => [(0, .slice (some ⟨bo, 0, none⟩) n cp), (1, .int .i64 (a : Int)), (2, .int .i64 (b : Int)), (3, .func (.func 123) #[] #[]), (8, .int .i64 (z.1 : Int))]) (fun z => a + 1 ≤ z.1 ∧ (z.1 ≤ b ∨ z.1 = a + 1) ∧ SOut R f z.2 a z.1) (fun z => K W (lrow bo Lf n rest (z.2) :: N)) (fun z => b + 1 - z.1) (a + 1, f)
    ⟨rfl, rfl, rfl, rfl, rfl, trivial⟩ ⟨Nat.le_refl _, .inr rfl, SOut.refl (fun i j h1 h2 h3 => by dsimp only at h3; omega)⟩ (fun w h => h) ?_
  rintro ⟨i, g⟩ ⟨hi1, hi2, hO⟩
  dsimp only at hi1 hi2 hO ⊢
  by_cases hib : i < b
  · have hM := ins_mrg hasc hO (by omega) hib
    have hgb := hO.bd hf (by omega)
    refine c_seq ?_
    refine c_seq ?_
    refine c_region ?_
    refine s_y (y_move rfl) rfl rfl rfl ?_
    refine s_y (y_move rfl) rfl rfl rfl ?_
    refine s_y (y_T (y_lss rfl rfl) (by omega)) rfl rfl rfl ?_
    refine s_nil ?_
    refine f_then ?_
    refine c_condT rfl ?_
    refine c_skip ?_
    refine f_then ?_
    refine c_seq ?_
    refine c_block ?_
    refine c_seq ?_
    refine c_region ?_
    refine s_y (y_move rfl) rfl rfl rfl ?_
    refine s_y (y_assign rfl) rfl rfl rfl ?_
    refine s_nil ?_
    refine f_then ?_
    refine c_block ?_
    refine c_loopP (α := Nat) (fun z => [(0, .slice (some ⟨bo, 0, none⟩) n cp), (1, .int .i64 (a : Int)), (2, .int .i64 (b : Int)), (3, .func (.func 123) #[] #[]), (8, .int .i64 (i : Int)), (9, .int .i64 (z : Int))]) (fun z => a ≤ z ∧ z ≤ i ∧ ∀ k, z ≤ k → k < i → ltR R (g i) (g k)) (fun z => K W (lrow bo Lf n rest (insB g i z) :: N)) (fun z => z) i
      ⟨rfl, rfl, rfl, rfl, rfl, rfl, trivial⟩ ⟨by omega, Nat.le_refl _, fun k h1 h2 => by omega⟩ (fun w h => by rw [insB_zero]; exact h) ?_
    rintro j ⟨hj1, hj2, hj3⟩
    have ej : insB g i j j = g i := insB_at
    have hgi := hgb i (by omega)
    refine c_seq ?_
    refine c_seq ?_
    refine c_then_cut (α := Unit) (fun _ => [(0, .slice (some ⟨bo, 0, none⟩) n cp), (1, .int .i64 (a : Int)), (2, .int .i64 (b : Int)), (3, .func (.func 123) #[] #[]), (8, .int .i64 (i : Int)), (9, .int .i64 (j : Int)), (34, .bool (decide (a < j ∧ R (g (j - 1)) < R (g i))))]) (fun _ => True) (fun _ => K W (lrow bo Lf n rest (insB g i j) :: N)) ?_ ?_
    · clear hM hO hj3
      by_cases haj : a < j
      · have ejb : insB g i j (j - 1) = g (j - 1) := insB_bef (by omega)
        have ej1 : (j : Int) - 1 = ((j - 1 : Nat) : Int) := by omega
        have hgj := hgb (j - 1) (by omega)
        refine c_plan [.c 0, .c 1, .c 2, .c 3, .c 4, .c 5, .c 6, .c 7, .c 8, .c 9, .c 10, .c 11, .c 12, .c 13, .s 14, .c 15, .c 16] [] ((K W (lrow bo Lf n rest (insB g i j) :: N))) Tryz.mixed (by kernel_rfl) rfl K.cl ?_
        refine d_c rfl (Qui.ylds (y_move rfl)) rfl rfl rfl (fun _ h => h) K.cl ?_
        refine d_c rfl (Qui.ylds (y_move rfl)) rfl rfl rfl (fun _ h => h) K.cl ?_
        refine d_c rfl (Qui.ylds (y_T (y_gtr rfl rfl) (by omega))) rfl rfl rfl (fun _ h => h) K.cl ?_
        refine d_c rfl (Qui.ylds (y_move rfl)) rfl rfl rfl (fun _ h => h) K.cl ?_
        refine d_c rfl (Qui.ylds (y_move rfl)) rfl rfl rfl (fun _ h => h) K.cl ?_
        refine d_c rfl (Qui.ylds (y_move rfl)) rfl rfl rfl (fun _ h => h) K.cl ?_
        refine d_c rfl (Qui.ylds (y_move rfl)) rfl rfl rfl (fun _ h => h) K.cl ?_
        refine d_c rfl (Qui.ylds (y_indexAddr0 (s := 4) Tryz.tab rfl rfl rfl rfl _ rfl (by omega))) rfl rfl rfl (fun _ h => h) K.cl ?_
        refine d_c rfl (Qui.ylds (y_loadA Tryz.tab rfl rfl rfl rfl (cells_lrow 0 rfl (by omega)))) rfl rfl rfl (fun _ h => h) K.cl ?_
        refine d_c rfl (Qui.ylds (y_move rfl)) rfl rfl rfl (fun _ h => h) K.cl ?_
        refine d_c rfl (Qui.ylds (y_move rfl)) rfl rfl rfl (fun _ h => h) K.cl ?_
        refine d_c rfl (Qui.ylds (y_sub rfl rfl (by omega))) rfl rfl rfl (fun _ h => h) K.cl ?_
        refine d_c rfl (Qui.ylds (y_indexAddr0 (s := 4) Tryz.tab rfl rfl rfl rfl _ (Int.toNat_of_nonneg (by omega)).symm (by omega))) rfl rfl rfl (fun _ h => h) K.cl ?_
        refine d_c rfl (Qui.ylds (y_loadA Tryz.tab rfl rfl rfl rfl (cells_lrow 0 rfl (by omega)))) rfl rfl rfl (fun _ h => h) K.cl ?_
        rw [show ((j : Int) - 1).toNat = j - 1 by omega, ejb, ej]
        refine d_call rfl (en_v rfl rfl Tryz.call123) (hcmp (g i) (g (j - 1)) hgi hgj) rfl rfl rfl (fun _ => K.cl) (fun _ _ _ h => h) (fun _ => ?_)
        by_cases hR : R (g (j - 1)) < R (g i)
        · rw [decide_eq_true ⟨haj, hR⟩]
          have hz := cmp3_neg.2 hR
          generalize cmp3 (R (g (j - 1))) (R (g i)) = z at hz ⊢
          clear hR
          refine d_c rfl (Qui.ylds (y_T (y_lss rfl rfl) (by assumption))) rfl rfl rfl (fun _ h => h) K.cl ?_
          refine d_c rfl (Qui.ylds (y_pickT rfl rfl)) rfl rfl rfl (fun _ h => h) K.cl ?_
          refine d_nil ?_
          exact f_cutP () trivial ⟨rfl, rfl, rfl, rfl, rfl, rfl, rfl, trivial⟩ (fun w h => h)
        · rw [decide_eq_false (fun h => hR h.2)]
          have hz := mt cmp3_neg.1 hR
          generalize cmp3 (R (g (j - 1))) (R (g i)) = z at hz ⊢
          clear hR
          refine d_c rfl (Qui.ylds (y_F (y_lss rfl rfl) (by assumption))) rfl rfl rfl (fun _ h => h) K.cl ?_
          refine d_c rfl (Qui.ylds (y_pickT rfl rfl)) rfl rfl rfl (fun _ h => h) K.cl ?_
          refine d_nil ?_
          exact f_cutP () trivial ⟨rfl, rfl, rfl, rfl, rfl, rfl, rfl, trivial⟩ (fun w h => h)
      · rw [decide_eq_false (fun h => haj h.1)]
        refine c_plan [.c 0, .c 1, .c 2, .c 3, .c 4, .c 5, .c 6, .c 7, .c 8, .c 9, .c 10, .c 11, .c 12, .c 13, .s 14, .c 15, .c 16] [] ((K W (lrow bo Lf n rest (insB g i j) :: N))) Tryz.mixed (by kernel_rfl) rfl K.cl ?_
        refine d_c rfl (Qui.ylds (y_move rfl)) rfl rfl rfl (fun _ h => h) K.cl ?_
        refine d_c rfl (Qui.ylds (y_move rfl)) rfl rfl rfl (fun _ h => h) K.cl ?_
        refine d_c rfl (Qui.ylds (y_F (y_gtr rfl rfl) (by omega))) rfl rfl rfl (fun _ h => h) K.cl ?_
        refine d_c rfl (Qui.ylds (y_move rfl)) rfl rfl rfl (fun _ h => h) K.cl ?_
        refine d_skip rfl rfl rfl rfl (fun _ h => h) K.cl ?_
        refine d_skip rfl rfl rfl rfl (fun _ h => h) K.cl ?_
        refine d_skip rfl rfl rfl rfl (fun _ h => h) K.cl ?_
        refine d_skip rfl rfl rfl rfl (fun _ h => h) K.cl ?_
        refine d_skip rfl rfl rfl rfl (fun _ h => h) K.cl ?_
        refine d_skip rfl rfl rfl rfl (fun _ h => h) K.cl ?_
        refine d_skip rfl rfl rfl rfl (fun _ h => h) K.cl ?_
        refine d_skip rfl rfl rfl rfl (fun _ h => h) K.cl ?_
        refine d_skip rfl rfl rfl rfl (fun _ h => h) K.cl ?_
        refine d_skip rfl rfl rfl rfl (fun _ h => h) K.cl ?_
        refine d_sskip rfl rfl rfl rfl (fun _ _ h => h) ?_
        refine d_skip rfl rfl rfl rfl (fun _ h => h) K.cl ?_
        refine d_c rfl (Qui.ylds (y_pickF rfl rfl)) rfl rfl rfl (fun _ h => h) K.cl ?_
        refine d_nil ?_
        exact f_cutP () trivial ⟨rfl, rfl, rfl, rfl, rfl, rfl, rfl, trivial⟩ (fun w h => h)
    rintro _ _
    by_cases hgo : a < j ∧ R (g (j - 1)) < R (g i)
    · rw [decide_eq_true hgo]
      have ejb : insB g i j (j - 1) = g (j - 1) := insB_bef (by omega)
      have hnx := insB_next (f := g) (m := i) (i := j) (by omega) hj2
      have hlt := (hM.key (i := j - 1) (j := i) (by omega) (by omega) (Nat.le_refl i) (by omega)).2 hgo.2
      obtain ⟨haj, _⟩ := hgo
      have ej1 : (j : Int) - 1 = ((j - 1 : Nat) : Int) := by omega
      refine c_condT rfl ?_
      refine c_skip ?_
      refine f_then ?_
      refine c_seq ?_
      refine c_block ?_
      refine c_planMs [2, 3, 4] [.c 0, .c 1, .c 5, .c 6, .c 7, .c 8, .c 9, .c 10, .c 11, .c 12, .c 13, .c 14, .s 15, .s 16, .s 17] [2, 3, 4, 15, 16, 17] (K W (lrow bo Lf n rest (insB g i j) :: N)) Tryz.mixed (by kernel_rfl) rfl K.cl ?_
      refine m_cons rfl (Qui.ylds (y_move rfl)) rfl rfl rfl K.cl ?_
      refine m_cons rfl (Qui.ylds (y_move rfl)) rfl rfl rfl K.cl ?_
      refine m_cons rfl (Qui.ylds (y_sub rfl rfl (by omega))) rfl rfl rfl K.cl ?_
      refine m_nil ?_
      refine d_c rfl (Qui.ylds (y_move rfl)) rfl rfl rfl (fun _ h => h) K.cl ?_
      refine d_c rfl (Qui.ylds (y_move rfl)) rfl rfl rfl (fun _ h => h) K.cl ?_
      refine d_c rfl (Qui.ylds (y_move rfl)) rfl rfl rfl (fun _ h => h) K.cl ?_
      refine d_c rfl (Qui.ylds (y_move rfl)) rfl rfl rfl (fun _ h => h) K.cl ?_
      refine d_c rfl (Qui.ylds (y_sub rfl rfl (by omega))) rfl rfl rfl (fun _ h => h) K.cl ?_
      refine d_c rfl (Qui.ylds (y_indexAddr0 (s := 4) Tryz.tab rfl rfl rfl rfl _ (Int.toNat_of_nonneg (by omega)).symm (by omega))) rfl rfl rfl (fun _ h => h) K.cl ?_
      refine d_c rfl (Qui.ylds (y_loadA Tryz.tab rfl rfl rfl rfl (cells_lrow 0 rfl (by omega)))) rfl rfl rfl (fun _ h => h) K.cl ?_
      refine d_c rfl (Qui.ylds (y_move rfl)) rfl rfl rfl (fun _ h => h) K.cl ?_
      refine d_c rfl (Qui.ylds (y_move rfl)) rfl rfl rfl (fun _ h => h) K.cl ?_
      refine d_c rfl (Qui.ylds (y_indexAddr0 (s := 4) Tryz.tab rfl rfl rfl rfl _ rfl (by omega))) rfl rfl rfl (fun _ h => h) K.cl ?_
      refine d_c rfl (Qui.ylds (y_loadA Tryz.tab rfl rfl rfl rfl (cells_lrow 0 rfl (by omega)))) rfl rfl rfl (fun _ h => h) K.cl ?_
      refine d_c rfl (Qui.ylds (y_indexAddr0 (s := 4) Tryz.tab rfl rfl rfl rfl _ rfl (by omega))) rfl rfl rfl (fun _ h => h) K.cl ?_
      refine d_set rfl (set_lrow Tryz.tab 0 _ rfl rfl rfl rfl (by omega)) rfl rfl K.cl (fun h => by cases h) ?_
      refine d_sy rfl (y_indexAddr0 (s := 4) Tryz.tab rfl rfl rfl rfl _ (Int.toNat_of_nonneg (by omega)).symm (by omega)) rfl rfl rfl K.cl (fun h => by cases h) ?_
      refine d_set rfl (set_lrow Tryz.tab 0 _ rfl rfl rfl rfl (by omega)) rfl rfl K.cl (fun h => by cases h) ?_
      refine d_nil ?_
      refine f_blockN ?_
      refine f_then ?_
      refine c_region ?_
      refine s_y (y_move rfl) rfl rfl rfl ?_
      refine s_y (y_sub rfl rfl (by omega)) rfl rfl rfl ?_
      refine s_y (y_assign rfl) rfl rfl rfl ?_
      refine s_nil ?_
      exact f_roundP (j - 1) ⟨by omega, by omega, fun k k1 k2 => by
        by_cases c : k = j - 1
        · rw [c]; exact hlt
        · exact hj3 k (by omega) k2⟩ (by omega) ⟨rfl, rfl, rfl, rfl, rfl, congrArg (fun z => some (Value.int .i64 z)) (by omega), trivial⟩ (fun w h => by
          rw [← hnx]
          rw [show ((j : Int) - 1).toNat = j - 1 by omega] at h
          exact h)
    · rw [decide_eq_false hgo]
      have hO2 := ins_out hM hO hj1 hj2 hj3 (fun h h2 => hgo ⟨h, (hM.key (i := j - 1) (j := i) (by omega) (by omega) (Nat.le_refl i) (by omega)).1 h2⟩)
      clear hM hO hj3 hgo hasc
      refine c_condF rfl ?_
      refine c_exit ?_
      refine f_thenE ?_
      refine f_rndE ?_
      refine f_blockE ?_
      refine f_blockN ?_
      refine f_then ?_
      refine c_region ?_
      refine s_y (y_move rfl) rfl rfl rfl ?_
      refine s_y (y_add rfl rfl (by omega)) rfl rfl rfl ?_
      refine s_y (y_assign rfl) rfl rfl rfl ?_
      refine s_nil ?_
      exact f_roundP (i + 1, insB g i j) ⟨by dsimp only; omega, .inl hib, hO2⟩ (by dsimp only; omega) ⟨rfl, rfl, rfl, rfl, rfl, trivial⟩ (fun w h => h)
  · have hO2 : SOut R f g a b := by
      by_cases c : i = b
      · rw [← c]; exact hO
      · obtain rfl : i = a + 1 := by omega
        exact hO.one (by omega)
    clear hO hasc
    refine c_seq ?_
    refine c_seq ?_
    refine c_region ?_
    refine s_y (y_move rfl) rfl rfl rfl ?_
    refine s_y (y_move rfl) rfl rfl rfl ?_
    refine s_y (y_F (y_lss rfl rfl) (by omega)) rfl rfl rfl ?_
    refine s_nil ?_
    refine f_then ?_
    refine c_condF rfl ?_
    refine c_exit ?_
    refine f_thenE ?_
    refine f_rndE ?_
    refine f_blockE ?_
    exact f_end ⟨g, hO2⟩ (res0 rfl) (fun w h => h)
end Go.KL
end

section
/- Walks: symMerge, where a part has one element. -/
namespace Go.KL
open Go.Proofs
theorem insF_at {f : Nat → Nat} {a i : Nat} : insF f a i i = f a := by
  unfold insF
  rw [if_neg (by omega), if_pos rfl]
theorem insF_beh {f : Nat → Nat} {a i : Nat} : insF f a i (i + 1) = f (i + 1) := by
  unfold insF
  rw [if_neg (by omega), if_neg (by omega)]
attribute [local irreducible] SC St Fin Sq Ylds Doos Sets Enters Spec CellIs CellsAre Then Ret Rnd Chn resOK ints bools recs arr
set_option maxRecDepth 10000 in
set_option maxHeartbeats 8000000 in
theorem sym1_spec {W : World} {N : List Chunk} {Lf : Nat → Lk} {rest : List Value} {cp : Nat} {bo n a b : Nat} {R f : Nat → Nat} (hcmp : CmpL Lf n R) (hab : a + 1 < b) (hbn : b ≤ n) (hn : n ≤ 4096) (hf : ∀ k, k < n → f k < n) (hM : Mrg R f a (a + 1) b) : Spec Tryz.prog 145 #[.slice (some ⟨bo, 0, none⟩) n cp, .int .i64 (a : Int), .int .i64 ((a + 1 : Nat) : Int), .int .i64 (b : Int), .func (.func 123) #[] #[]] (K W (lrow bo Lf n rest (f) :: N)) (X := { g : Nat → Nat // SOut R f g a b }) (fun _ => .tuple #[]) (fun g => K W (lrow bo Lf n rest (g.1) :: N)) := by
  refine enter (args := [_, _, _, _, _]) Tryz.func145 rfl Tryz.ntmps145 rfl ?_
  refine c_seq ?_
  refine c_seq ?_
  refine c_region ?_
  refine s_y (y_move rfl) rfl rfl rfl ?_
  refine s_y (y_move rfl) rfl rfl rfl ?_
  refine s_y (y_sub rfl rfl (by omega)) rfl rfl rfl ?_
  refine s_y (y_T (y_eql rfl rfl) (by omega)) rfl rfl rfl ?_
  refine s_nil ?_
  refine f_then ?_
  refine c_condT rfl ?_
  refine c_seq ?_
  refine c_region ?_
  refine s_y (y_move rfl) rfl rfl rfl ?_
  refine s_y (y_assign rfl) rfl rfl rfl ?_
  refine s_nil ?_
  refine f_then ?_
  refine c_seq ?_
  refine c_region ?_
  refine s_y (y_move rfl) rfl rfl rfl ?_
  refine s_y (y_assign rfl) rfl rfl rfl ?_
  refine s_nil ?_
  refine f_then ?_
  refine c_seq ?_
  refine c_block ?_
  refine c_loopP (α := Nat × Nat) (fun z => [(0, .slice (some ⟨bo, 0, none⟩) n cp), (1, .int .i64 (a : Int)), (4, .func (.func 123) #[] #[]), (10, .int .i64 (z.1 : Int)), (11, .int .i64 (z.2 : Int))]) (fun z => a + 1 ≤ z.1 ∧ z.1 ≤ z.2 ∧ z.2 ≤ b ∧ (∀ k, a + 1 ≤ k → k < z.1 → ltR R (f k) (f a)) ∧ ∀ k, z.2 ≤ k → k < b → ¬ ltR R (f k) (f a)) (fun _ => K W (lrow bo Lf n rest (f) :: N)) (fun z => z.2 - z.1) (a + 1, b)
    ⟨rfl, rfl, rfl, rfl, rfl, trivial⟩ ⟨Nat.le_refl _, by dsimp only; omega, Nat.le_refl _, fun k h1 h2 => by dsimp only at h2; omega, fun k h1 h2 => by dsimp only at h1; omega⟩ (fun w h => h) ?_
  rintro ⟨i, j⟩ ⟨hi, hij, hj, hlo, hhi⟩
  dsimp only at hi hij hj hlo hhi ⊢
  by_cases hlt : i < j
  · obtain ⟨c, hc⟩ : ∃ c, c = (i + j) / 2 := ⟨_, rfl⟩
    have hc1 : i ≤ c ∧ c < j := by omega
    have hkey := hM.key (i := a) (j := c) (Nat.le_refl a) (by omega) (by omega) (by omega)
    have hfc := hf c (by omega)
    have hfa := hf a (by omega)
    refine c_seq ?_
    refine c_seq ?_
    refine c_region ?_
    refine s_y (y_move rfl) rfl rfl rfl ?_
    refine s_y (y_move rfl) rfl rfl rfl ?_
    refine s_y (y_T (y_lss rfl rfl) (by omega)) rfl rfl rfl ?_
    refine s_nil ?_
    refine f_then ?_
    refine c_condT rfl ?_
    refine c_skip ?_
    refine f_then ?_
    refine c_block ?_
    refine c_seq ?_
    refine c_region ?_
    refine s_y (y_move rfl) rfl rfl rfl ?_
    refine s_y (y_move rfl) rfl rfl rfl ?_
    refine s_y (y_add rfl rfl (by omega)) rfl rfl rfl ?_
    refine s_y (y_to64 Tryz.tab rfl rfl rfl (by omega)) rfl rfl rfl ?_
    refine s_y (y_shrU (d := 2) rfl rfl (by decide) rfl) rfl rfl rfl ?_
    refine s_y (y_toI Tryz.tab rfl rfl rfl (by omega)) rfl rfl rfl ?_
    refine s_y (y_assign rfl) rfl rfl rfl ?_
    refine s_nil ?_
    refine f_then ?_
    refine c_seq ?_
    refine c_quiet Tryz.mixed (by kernel_rfl) K.drew ?_
    refine q_y (y_move rfl) rfl rfl rfl ?_
    refine q_y (y_move rfl) rfl rfl rfl ?_
    refine q_y (y_move rfl) rfl rfl rfl ?_
    refine q_y (y_indexAddr0 (s := 4) Tryz.tab rfl rfl rfl rfl _ (Int.toNat_of_nonneg (by omega)).symm (by omega)) rfl rfl rfl ?_
    refine q_y (y_loadA Tryz.tab rfl rfl rfl rfl (cells_lrow 0 rfl (by omega))) rfl rfl rfl ?_
    refine q_y (y_move rfl) rfl rfl rfl ?_
    refine q_y (y_move rfl) rfl rfl rfl ?_
    refine q_y (y_indexAddr0 (s := 4) Tryz.tab rfl rfl rfl rfl _ rfl (by omega)) rfl rfl rfl ?_
    refine q_y (y_loadA Tryz.tab rfl rfl rfl rfl (cells_lrow 0 rfl (by omega))) rfl rfl rfl ?_
    rw [show (((i : Int) + (j : Int)) / 2).toNat = c by omega]
    refine q_call (en_v rfl rfl Tryz.call123) (hcmp (f c) (f a) hfc hfa) rfl rfl rfl ?_
    by_cases hR : R (f a) < R (f c)
    · have hz := cmp3_neg.2 hR
      have hl := hkey.2 hR
      generalize cmp3 (R (f a)) (R (f c)) = z at hz ⊢
      clear hR hkey
      refine q_y (y_T (y_lss rfl rfl) (by assumption)) rfl rfl rfl ?_
      refine q_nil ?_
      refine f_then ?_
      refine c_condT rfl ?_
      refine c_region ?_
      refine s_y (y_move rfl) rfl rfl rfl ?_
      refine s_y (y_add rfl rfl (by omega)) rfl rfl rfl ?_
      refine s_y (y_assign rfl) rfl rfl rfl ?_
      refine s_nil ?_
      refine f_blockN ?_
      exact f_roundP (c + 1, j) ⟨by dsimp only; omega, by dsimp only; omega, hj, fun k h1 h2 => by
        by_cases hk : k = c
        · rw [hk]; exact hl
        · exact ltR_trans (hM.right k c h1 (by dsimp only at h2; omega) (by omega)) hl, hhi⟩ (by dsimp only; omega) ⟨rfl, rfl, rfl, congrArg (fun z => some (Value.int .i64 z)) (by dsimp only; omega), rfl, trivial⟩ (fun w h => h)
    · have hz := mt cmp3_neg.1 hR
      have hl : ¬ ltR R (f c) (f a) := fun h => hR (hkey.1 h)
      generalize cmp3 (R (f a)) (R (f c)) = z at hz ⊢
      clear hR hkey
      refine q_y (y_F (y_lss rfl rfl) (by assumption)) rfl rfl rfl ?_
      refine q_nil ?_
      refine f_then ?_
      refine c_condF rfl ?_
      refine c_region ?_
      refine s_y (y_move rfl) rfl rfl rfl ?_
      refine s_y (y_assign rfl) rfl rfl rfl ?_
      refine s_nil ?_
      refine f_blockN ?_
      exact f_roundP (i, c) ⟨hi, by dsimp only; omega, by dsimp only; omega, hlo, fun k h1 h2 => by
        by_cases hk : k = c
        · rw [hk]; exact hl
        · exact fun h => hl (ltR_trans (hM.right c k (by omega) (by dsimp only at h1; omega) h2) h)⟩ (by dsimp only; omega) ⟨rfl, rfl, rfl, rfl, congrArg (fun z => some (Value.int .i64 z)) (by dsimp only; omega), trivial⟩ (fun w h => h)
  · obtain rfl : i = j := by omega
    have hO := mrg_left hM hi hj hlo hhi
    clear hlo hhi hM hf
    refine c_seq ?_
    refine c_seq ?_
    refine c_region ?_
    refine s_y (y_move rfl) rfl rfl rfl ?_
    refine s_y (y_move rfl) rfl rfl rfl ?_
    refine s_y (y_F (y_lss rfl rfl) (by omega)) rfl rfl rfl ?_
    refine s_nil ?_
    refine f_then ?_
    refine c_condF rfl ?_
    refine c_exit ?_
    refine f_thenE ?_
    refine f_rndE ?_
    refine f_blockE ?_
    refine f_then ?_
    refine c_seq ?_
    refine c_seq ?_
    refine c_region ?_
    refine s_y (y_move rfl) rfl rfl rfl ?_
    refine s_y (y_assign rfl) rfl rfl rfl ?_
    refine s_nil ?_
    refine f_then ?_
    refine c_block ?_
    refine c_loopP (α := Nat) (fun z => [(0, .slice (some ⟨bo, 0, none⟩) n cp), (10, .int .i64 (i : Int)), (13, .int .i64 (z : Int))]) (fun z => a ≤ z ∧ z ≤ i - 1) (fun z => K W (lrow bo Lf n rest (insF f a z) :: N)) (fun z => i - z) a
      ⟨rfl, rfl, rfl, trivial⟩ ⟨Nat.le_refl _, by omega⟩ (fun w h => by rw [insF_zero]; exact h) ?_
    rintro k ⟨hk1, hk2⟩
    by_cases hki : k < i - 1
    · have hnx := insF_next (f := f) hk1
      clear hO
      refine c_seq ?_
      refine c_seq ?_
      refine c_region ?_
      refine s_y (y_move rfl) rfl rfl rfl ?_
      refine s_y (y_move rfl) rfl rfl rfl ?_
      refine s_y (y_sub rfl rfl (by omega)) rfl rfl rfl ?_
      refine s_y (y_T (y_lss rfl rfl) (by omega)) rfl rfl rfl ?_
      refine s_nil ?_
      refine f_then ?_
      refine c_condT rfl ?_
      refine c_skip ?_
      refine f_then ?_
      refine c_seq ?_
      refine c_block ?_
      refine c_planMs [2, 3, 4] [.c 0, .c 1, .c 5, .c 6, .c 7, .c 8, .c 9, .c 10, .c 11, .c 12, .c 13, .c 14, .s 15, .s 16, .s 17] [2, 3, 4, 15, 16, 17] (K W (lrow bo Lf n rest (insF f a k) :: N)) Tryz.mixed (by kernel_rfl) rfl K.cl ?_
      refine m_cons rfl (Qui.ylds (y_move rfl)) rfl rfl rfl K.cl ?_
      refine m_cons rfl (Qui.ylds (y_move rfl)) rfl rfl rfl K.cl ?_
      refine m_cons rfl (Qui.ylds (y_add rfl rfl (by omega))) rfl rfl rfl K.cl ?_
      refine m_nil ?_
      refine d_c rfl (Qui.ylds (y_move rfl)) rfl rfl rfl (fun _ h => h) K.cl ?_
      refine d_c rfl (Qui.ylds (y_move rfl)) rfl rfl rfl (fun _ h => h) K.cl ?_
      refine d_c rfl (Qui.ylds (y_move rfl)) rfl rfl rfl (fun _ h => h) K.cl ?_
      refine d_c rfl (Qui.ylds (y_move rfl)) rfl rfl rfl (fun _ h => h) K.cl ?_
      refine d_c rfl (Qui.ylds (y_add rfl rfl (by omega))) rfl rfl rfl (fun _ h => h) K.cl ?_
      refine d_c rfl (Qui.ylds (y_indexAddr0 (s := 4) Tryz.tab rfl rfl rfl rfl _ (Int.toNat_of_nonneg (by omega)).symm (by omega))) rfl rfl rfl (fun _ h => h) K.cl ?_
      refine d_c rfl (Qui.ylds (y_loadA Tryz.tab rfl rfl rfl rfl (cells_lrow 0 rfl (by omega)))) rfl rfl rfl (fun _ h => h) K.cl ?_
      refine d_c rfl (Qui.ylds (y_move rfl)) rfl rfl rfl (fun _ h => h) K.cl ?_
      refine d_c rfl (Qui.ylds (y_move rfl)) rfl rfl rfl (fun _ h => h) K.cl ?_
      refine d_c rfl (Qui.ylds (y_indexAddr0 (s := 4) Tryz.tab rfl rfl rfl rfl _ rfl (by omega))) rfl rfl rfl (fun _ h => h) K.cl ?_
      refine d_c rfl (Qui.ylds (y_loadA Tryz.tab rfl rfl rfl rfl (cells_lrow 0 rfl (by omega)))) rfl rfl rfl (fun _ h => h) K.cl ?_
      refine d_c rfl (Qui.ylds (y_indexAddr0 (s := 4) Tryz.tab rfl rfl rfl rfl _ rfl (by omega))) rfl rfl rfl (fun _ h => h) K.cl ?_
      refine d_set rfl (set_lrow Tryz.tab 0 _ rfl rfl rfl rfl (by omega)) rfl rfl K.cl (fun h => by cases h) ?_
      refine d_sy rfl (y_indexAddr0 (s := 4) Tryz.tab rfl rfl rfl rfl _ (Int.toNat_of_nonneg (by omega)).symm (by omega)) rfl rfl rfl K.cl (fun h => by cases h) ?_
      refine d_set rfl (set_lrow Tryz.tab 0 _ rfl rfl rfl rfl (by omega)) rfl rfl K.cl (fun h => by cases h) ?_
      refine d_nil ?_
      refine f_blockN ?_
      refine f_then ?_
      refine c_region ?_
      refine s_y (y_move rfl) rfl rfl rfl ?_
      refine s_y (y_add rfl rfl (by omega)) rfl rfl rfl ?_
      refine s_y (y_assign rfl) rfl rfl rfl ?_
      refine s_nil ?_
      exact f_roundP (k + 1) ⟨by omega, by omega⟩ (by omega) ⟨rfl, rfl, rfl, trivial⟩ (fun w h => by
        rw [← hnx]
        exact h)
    · obtain rfl : k = i - 1 := by omega
      refine c_seq ?_
      refine c_seq ?_
      refine c_region ?_
      refine s_y (y_move rfl) rfl rfl rfl ?_
      refine s_y (y_move rfl) rfl rfl rfl ?_
      refine s_y (y_sub rfl rfl (by omega)) rfl rfl rfl ?_
      refine s_y (y_F (y_lss rfl rfl) (by omega)) rfl rfl rfl ?_
      refine s_nil ?_
      refine f_then ?_
      refine c_condF rfl ?_
      refine c_exit ?_
      refine f_thenE ?_
      refine f_rndE ?_
      refine f_blockE ?_
      refine f_then ?_
      refine c_ret ?_
      refine f_thenR ?_
      exact f_ret ⟨_, hO⟩ (res0 rfl) (fun w h => h)
set_option maxRecDepth 10000 in
set_option maxHeartbeats 8000000 in
theorem sym2_spec {W : World} {N : List Chunk} {Lf : Nat → Lk} {rest : List Value} {cp : Nat} {bo n a m : Nat} {R f : Nat → Nat} (hcmp : CmpL Lf n R) (hab : a + 1 < m) (hbn : m + 1 ≤ n) (hn : n ≤ 4096) (hf : ∀ k, k < n → f k < n) (hM : Mrg R f a m (m + 1)) : Spec Tryz.prog 145 #[.slice (some ⟨bo, 0, none⟩) n cp, .int .i64 (a : Int), .int .i64 (m : Int), .int .i64 ((m + 1 : Nat) : Int), .func (.func 123) #[] #[]] (K W (lrow bo Lf n rest (f) :: N)) (X := { g : Nat → Nat // SOut R f g a (m + 1) }) (fun _ => .tuple #[]) (fun g => K W (lrow bo Lf n rest (g.1) :: N)) := by
  refine enter (args := [_, _, _, _, _]) Tryz.func145 rfl Tryz.ntmps145 rfl ?_
  refine c_seq ?_
  refine c_seq ?_
  refine c_region ?_
  refine s_y (y_move rfl) rfl rfl rfl ?_
  refine s_y (y_move rfl) rfl rfl rfl ?_
  refine s_y (y_sub rfl rfl (by omega)) rfl rfl rfl ?_
  refine s_y (y_F (y_eql rfl rfl) (by omega)) rfl rfl rfl ?_
  refine s_nil ?_
  refine f_then ?_
  refine c_condF rfl ?_
  refine c_skip ?_
  refine f_then ?_
  refine c_seq ?_
  refine c_seq ?_
  refine c_region ?_
  refine s_y (y_move rfl) rfl rfl rfl ?_
  refine s_y (y_move rfl) rfl rfl rfl ?_
  refine s_y (y_sub rfl rfl (by omega)) rfl rfl rfl ?_
  refine s_y (y_T (y_eql rfl rfl) (by omega)) rfl rfl rfl ?_
  refine s_nil ?_
  refine f_then ?_
  refine c_condT rfl ?_
  refine c_seq ?_
  refine c_region ?_
  refine s_y (y_move rfl) rfl rfl rfl ?_
  refine s_y (y_assign rfl) rfl rfl rfl ?_
  refine s_nil ?_
  refine f_then ?_
  refine c_seq ?_
  refine c_region ?_
  refine s_y (y_move rfl) rfl rfl rfl ?_
  refine s_y (y_assign rfl) rfl rfl rfl ?_
  refine s_nil ?_
  refine f_then ?_
  refine c_seq ?_
  refine c_block ?_
  refine c_loopP (α := Nat × Nat) (fun z => [(0, .slice (some ⟨bo, 0, none⟩) n cp), (2, .int .i64 (m : Int)), (4, .func (.func 123) #[] #[]), (14, .int .i64 (z.1 : Int)), (15, .int .i64 (z.2 : Int))]) (fun z => a ≤ z.1 ∧ z.1 ≤ z.2 ∧ z.2 ≤ m ∧ (∀ k, a ≤ k → k < z.1 → ¬ ltR R (f m) (f k)) ∧ ∀ k, z.2 ≤ k → k < m → ltR R (f m) (f k)) (fun _ => K W (lrow bo Lf n rest (f) :: N)) (fun z => z.2 - z.1) (a, m)
    ⟨rfl, rfl, rfl, rfl, rfl, trivial⟩ ⟨Nat.le_refl _, by dsimp only; omega, Nat.le_refl _, fun k h1 h2 => by dsimp only at h2; omega, fun k h1 h2 => by dsimp only at h1; omega⟩ (fun w h => h) ?_
  rintro ⟨i, j⟩ ⟨hi, hij, hj, hlo, hhi⟩
  dsimp only at hi hij hj hlo hhi ⊢
  by_cases hlt : i < j
  · obtain ⟨c, hc⟩ : ∃ c, c = (i + j) / 2 := ⟨_, rfl⟩
    have hc1 : i ≤ c ∧ c < j := by omega
    have hkey := hM.key (i := c) (j := m) (by omega) (by omega) (Nat.le_refl m) (by omega)
    have hfc := hf c (by omega)
    have hfa := hf m (by omega)
    refine c_seq ?_
    refine c_seq ?_
    refine c_region ?_
    refine s_y (y_move rfl) rfl rfl rfl ?_
    refine s_y (y_move rfl) rfl rfl rfl ?_
    refine s_y (y_T (y_lss rfl rfl) (by omega)) rfl rfl rfl ?_
    refine s_nil ?_
    refine f_then ?_
    refine c_condT rfl ?_
    refine c_skip ?_
    refine f_then ?_
    refine c_block ?_
    refine c_seq ?_
    refine c_region ?_
    refine s_y (y_move rfl) rfl rfl rfl ?_
    refine s_y (y_move rfl) rfl rfl rfl ?_
    refine s_y (y_add rfl rfl (by omega)) rfl rfl rfl ?_
    refine s_y (y_to64 Tryz.tab rfl rfl rfl (by omega)) rfl rfl rfl ?_
    refine s_y (y_shrU (d := 2) rfl rfl (by decide) rfl) rfl rfl rfl ?_
    refine s_y (y_toI Tryz.tab rfl rfl rfl (by omega)) rfl rfl rfl ?_
    refine s_y (y_assign rfl) rfl rfl rfl ?_
    refine s_nil ?_
    refine f_then ?_
    refine c_seq ?_
    refine c_quiet Tryz.mixed (by kernel_rfl) K.drew ?_
    refine q_y (y_move rfl) rfl rfl rfl ?_
    refine q_y (y_move rfl) rfl rfl rfl ?_
    refine q_y (y_move rfl) rfl rfl rfl ?_
    refine q_y (y_indexAddr0 (s := 4) Tryz.tab rfl rfl rfl rfl _ rfl (by omega)) rfl rfl rfl ?_
    refine q_y (y_loadA Tryz.tab rfl rfl rfl rfl (cells_lrow 0 rfl (by omega))) rfl rfl rfl ?_
    refine q_y (y_move rfl) rfl rfl rfl ?_
    refine q_y (y_move rfl) rfl rfl rfl ?_
    refine q_y (y_indexAddr0 (s := 4) Tryz.tab rfl rfl rfl rfl _ (Int.toNat_of_nonneg (by omega)).symm (by omega)) rfl rfl rfl ?_
    refine q_y (y_loadA Tryz.tab rfl rfl rfl rfl (cells_lrow 0 rfl (by omega))) rfl rfl rfl ?_
    rw [show (((i : Int) + (j : Int)) / 2).toNat = c by omega]
    refine q_call (en_v rfl rfl Tryz.call123) (hcmp (f m) (f c) hfa hfc) rfl rfl rfl ?_
    by_cases hR : R (f c) < R (f m)
    · have hz := cmp3_neg.2 hR
      have hl := hkey.2 hR
      generalize cmp3 (R (f c)) (R (f m)) = z at hz ⊢
      clear hR hkey
      refine q_y (y_T (y_lss rfl rfl) (by assumption)) rfl rfl rfl ?_
      refine q_y (y_notT rfl) rfl rfl rfl ?_
      refine q_nil ?_
      refine f_then ?_
      refine c_condF rfl ?_
      refine c_region ?_
      refine s_y (y_move rfl) rfl rfl rfl ?_
      refine s_y (y_assign rfl) rfl rfl rfl ?_
      refine s_nil ?_
      refine f_blockN ?_
      exact f_roundP (i, c) ⟨hi, by dsimp only; omega, by dsimp only; omega, hlo, fun k h1 h2 => by
        by_cases hk : k = c
        · rw [hk]; exact hl
        · exact ltR_trans hl (hM.left c k (by omega) (by dsimp only at h1; omega) h2)⟩ (by dsimp only; omega) ⟨rfl, rfl, rfl, rfl, congrArg (fun z => some (Value.int .i64 z)) (by dsimp only; omega), trivial⟩ (fun w h => h)
    · have hz := mt cmp3_neg.1 hR
      have hl : ¬ ltR R (f m) (f c) := fun h => hR (hkey.1 h)
      generalize cmp3 (R (f c)) (R (f m)) = z at hz ⊢
      clear hR hkey
      refine q_y (y_F (y_lss rfl rfl) (by assumption)) rfl rfl rfl ?_
      refine q_y (y_notF rfl) rfl rfl rfl ?_
      refine q_nil ?_
      refine f_then ?_
      refine c_condT rfl ?_
      refine c_region ?_
      refine s_y (y_move rfl) rfl rfl rfl ?_
      refine s_y (y_add rfl rfl (by omega)) rfl rfl rfl ?_
      refine s_y (y_assign rfl) rfl rfl rfl ?_
      refine s_nil ?_
      refine f_blockN ?_
      exact f_roundP (c + 1, j) ⟨by dsimp only; omega, by dsimp only; omega, hj, fun k h1 h2 => by
        by_cases hk : k = c
        · rw [hk]; exact hl
        · exact fun h => hl (ltR_trans h (hM.left k c h1 (by dsimp only at h2; omega) (by omega))), hhi⟩ (by dsimp only; omega) ⟨rfl, rfl, rfl, congrArg (fun z => some (Value.int .i64 z)) (by dsimp only; omega), rfl, trivial⟩ (fun w h => h)
  · obtain rfl : i = j := by omega
    have hO := mrg_right hM hi hj hlo hhi
    clear hlo hhi hM hf
    refine c_seq ?_
    refine c_seq ?_
    refine c_region ?_
    refine s_y (y_move rfl) rfl rfl rfl ?_
    refine s_y (y_move rfl) rfl rfl rfl ?_
    refine s_y (y_F (y_lss rfl rfl) (by omega)) rfl rfl rfl ?_
    refine s_nil ?_
    refine f_then ?_
    refine c_condF rfl ?_
    refine c_exit ?_
    refine f_thenE ?_
    refine f_rndE ?_
    refine f_blockE ?_
    refine f_then ?_
    refine c_seq ?_
    refine c_seq ?_
    refine c_region ?_
    refine s_y (y_move rfl) rfl rfl rfl ?_
    refine s_y (y_assign rfl) rfl rfl rfl ?_
    refine s_nil ?_
    refine f_then ?_
    refine c_block ?_
    refine c_loopP (α := Nat) (fun z => [(0, .slice (some ⟨bo, 0, none⟩) n cp), (14, .int .i64 (i : Int)), (17, .int .i64 (z : Int))]) (fun z => i ≤ z ∧ z ≤ m) (fun z => K W (lrow bo Lf n rest (insB f m z) :: N)) (fun z => z) m
      ⟨rfl, rfl, rfl, trivial⟩ ⟨hj, Nat.le_refl _⟩ (fun w h => by rw [insB_zero]; exact h) ?_
    rintro k ⟨hk1, hk2⟩
    by_cases hki : i < k
    · have hnx := insB_next (f := f) (m := m) (i := k) (by omega) hk2
      clear hO
      refine c_seq ?_
      refine c_seq ?_
      refine c_region ?_
      refine s_y (y_move rfl) rfl rfl rfl ?_
      refine s_y (y_move rfl) rfl rfl rfl ?_
      refine s_y (y_T (y_gtr rfl rfl) (by omega)) rfl rfl rfl ?_
      refine s_nil ?_
      refine f_then ?_
      refine c_condT rfl ?_
      refine c_skip ?_
      refine f_then ?_
      refine c_seq ?_
      refine c_block ?_
      refine c_planMs [2, 3, 4] [.c 0, .c 1, .c 5, .c 6, .c 7, .c 8, .c 9, .c 10, .c 11, .c 12, .c 13, .c 14, .s 15, .s 16, .s 17] [2, 3, 4, 15, 16, 17] (K W (lrow bo Lf n rest (insB f m k) :: N)) Tryz.mixed (by kernel_rfl) rfl K.cl ?_
      refine m_cons rfl (Qui.ylds (y_move rfl)) rfl rfl rfl K.cl ?_
      refine m_cons rfl (Qui.ylds (y_move rfl)) rfl rfl rfl K.cl ?_
      refine m_cons rfl (Qui.ylds (y_sub rfl rfl (by omega))) rfl rfl rfl K.cl ?_
      refine m_nil ?_
      refine d_c rfl (Qui.ylds (y_move rfl)) rfl rfl rfl (fun _ h => h) K.cl ?_
      refine d_c rfl (Qui.ylds (y_move rfl)) rfl rfl rfl (fun _ h => h) K.cl ?_
      refine d_c rfl (Qui.ylds (y_move rfl)) rfl rfl rfl (fun _ h => h) K.cl ?_
      refine d_c rfl (Qui.ylds (y_move rfl)) rfl rfl rfl (fun _ h => h) K.cl ?_
      refine d_c rfl (Qui.ylds (y_sub rfl rfl (by omega))) rfl rfl rfl (fun _ h => h) K.cl ?_
      refine d_c rfl (Qui.ylds (y_indexAddr0 (s := 4) Tryz.tab rfl rfl rfl rfl _ (Int.toNat_of_nonneg (by omega)).symm (by omega))) rfl rfl rfl (fun _ h => h) K.cl ?_
      refine d_c rfl (Qui.ylds (y_loadA Tryz.tab rfl rfl rfl rfl (cells_lrow 0 rfl (by omega)))) rfl rfl rfl (fun _ h => h) K.cl ?_
      refine d_c rfl (Qui.ylds (y_move rfl)) rfl rfl rfl (fun _ h => h) K.cl ?_
      refine d_c rfl (Qui.ylds (y_move rfl)) rfl rfl rfl (fun _ h => h) K.cl ?_
      refine d_c rfl (Qui.ylds (y_indexAddr0 (s := 4) Tryz.tab rfl rfl rfl rfl _ rfl (by omega))) rfl rfl rfl (fun _ h => h) K.cl ?_
      refine d_c rfl (Qui.ylds (y_loadA Tryz.tab rfl rfl rfl rfl (cells_lrow 0 rfl (by omega)))) rfl rfl rfl (fun _ h => h) K.cl ?_
      refine d_c rfl (Qui.ylds (y_indexAddr0 (s := 4) Tryz.tab rfl rfl rfl rfl _ rfl (by omega))) rfl rfl rfl (fun _ h => h) K.cl ?_
      refine d_set rfl (set_lrow Tryz.tab 0 _ rfl rfl rfl rfl (by omega)) rfl rfl K.cl (fun h => by cases h) ?_
      refine d_sy rfl (y_indexAddr0 (s := 4) Tryz.tab rfl rfl rfl rfl _ (Int.toNat_of_nonneg (by omega)).symm (by omega)) rfl rfl rfl K.cl (fun h => by cases h) ?_
      refine d_set rfl (set_lrow Tryz.tab 0 _ rfl rfl rfl rfl (by omega)) rfl rfl K.cl (fun h => by cases h) ?_
      refine d_nil ?_
      refine f_blockN ?_
      refine f_then ?_
      refine c_region ?_
      refine s_y (y_move rfl) rfl rfl rfl ?_
      refine s_y (y_sub rfl rfl (by omega)) rfl rfl rfl ?_
      refine s_y (y_assign rfl) rfl rfl rfl ?_
      refine s_nil ?_
      exact f_roundP (k - 1) ⟨by omega, by omega⟩ (by omega) ⟨rfl, rfl, congrArg (fun z => some (Value.int .i64 z)) (by omega), trivial⟩ (fun w h => by
        rw [← hnx]
        rw [show ((k : Int) - 1).toNat = k - 1 by omega] at h
        exact h)
    · obtain rfl : k = i := by omega
      refine c_seq ?_
      refine c_seq ?_
      refine c_region ?_
      refine s_y (y_move rfl) rfl rfl rfl ?_
      refine s_y (y_move rfl) rfl rfl rfl ?_
      refine s_y (y_F (y_gtr rfl rfl) (by omega)) rfl rfl rfl ?_
      refine s_nil ?_
      refine f_then ?_
      refine c_condF rfl ?_
      refine c_exit ?_
      refine f_thenE ?_
      refine f_rndE ?_
      refine f_blockE ?_
      refine f_then ?_
      refine c_ret ?_
      refine f_thenR ?_
      exact f_ret ⟨_, hO⟩ (res0 rfl) (fun w h => h)
end Go.KL
end

section
/- Walks: symMerge. -/
namespace Go.KL
open Go.Proofs
theorem rotF_triv {f : Nat → Nat} {s m e : Nat} (h : s = m ∨ m = e) (h1 : s ≤ m) (h2 : m ≤ e) : rotF f s m e = f := by
  funext t
  unfold rotF
  (repeat' split) <;> first | rfl | (exfalso; omega) | (congr 1; omega)
theorem Mrg.congr {R : Nat → Nat} {f g : Nat → Nat} {a m b : Nat} (h : Mrg R f a m b) (hg : ∀ i, a ≤ i → i < b → g i = f i) (h1 : a ≤ m) (h2 : m ≤ b) : Mrg R g a m b := by
  refine ⟨fun i j i1 i2 i3 => ?_, fun i j i1 i2 i3 => ?_, fun i j i1 i2 i3 i4 => ?_⟩
  · rw [hg i (by omega) (by omega), hg j (by omega) (by omega)]
    exact h.left i j i1 i2 i3
  · rw [hg i (by omega) (by omega), hg j (by omega) (by omega)]
    exact h.right i j i1 i2 i3
  · rw [hg i (by omega) (by omega), hg j (by omega) (by omega)]
    exact h.ix i j i1 i2 i3 i4
theorem Mrg.side {R : Nat → Nat} {f : Nat → Nat} {a m b : Nat} (h : Mrg R f a m b) (hm : m = a ∨ m = b) : Srt R f a b := by
  rcases hm with rfl | rfl
  · exact h.right
  · exact h.left
theorem rot_bd {f : Nat → Nat} {s m e n : Nat} (hf : ∀ k, k < n → f k < n) (h1 : s ≤ m) (h2 : m ≤ e) (h3 : e ≤ n) : ∀ k, k < n → rotF f s m e k < n := by
  intro k hk
  unfold rotF
  split
  · exact hf _ (by omega)
  · split
    · exact hf _ (by omega)
    · exact hf _ hk
attribute [local irreducible] SC St Fin Sq Ylds Doos Sets Enters Spec CellIs CellsAre Then Ret Rnd Chn resOK ints bools recs arr
set_option maxRecDepth 10000 in
set_option maxHeartbeats 16000000 in
theorem symMerge_spec {W : World} {N : List Chunk} {Lf : Nat → Lk} {rest : List Value} {cp : Nat} {bo n : Nat} {R : Nat → Nat} (hcmp : CmpL Lf n R) (hn : n ≤ 4096) : ∀ (d : Nat) {a m b : Nat} {f : Nat → Nat} (_ : b - a ≤ d) (_ : a < m) (_ : m < b) (_ : b ≤ n) (_ : ∀ k, k < n → f k < n) (_ : Mrg R f a m b), Spec Tryz.prog 145 #[.slice (some ⟨bo, 0, none⟩) n cp, .int .i64 (a : Int), .int .i64 (m : Int), .int .i64 (b : Int), .func (.func 123) #[] #[]] (K W (lrow bo Lf n rest (f) :: N)) (X := { g : Nat → Nat // SOut R f g a b }) (fun _ => .tuple #[]) (fun g => K W (lrow bo Lf n rest (g.1) :: N)) := by
  intro d
  induction d with
  | zero =>
    intro a m b f h1 h2 h3
    omega
  | succ d ih =>
    intro a m b f hd ham hmb hbn hf hM
    by_cases c1 : m = a + 1
    · subst c1
      exact sym1_spec hcmp hmb hbn hn hf hM
    by_cases c2 : b = m + 1
    · subst c2
      exact sym2_spec hcmp (by omega) hbn hn hf hM
    obtain ⟨mid, hmid⟩ : ∃ mid, mid = (a + b) / 2 := ⟨_, rfl⟩
    have hmi : ((a : Int) + (b : Int)) / 2 = (mid : Int) := by omega
    have hm1 : a < mid ∧ mid < b := by omega
    have hm2 : 2 * mid ≤ a + b ∧ a + b ≤ 2 * mid + 1 := by omega
    clear hmid
    refine enter (args := [_, _, _, _, _]) Tryz.func145 rfl Tryz.ntmps145 rfl ?_
    refine c_seq ?_
    refine c_seq ?_
    refine c_region ?_
    refine s_y (y_move rfl) rfl rfl rfl ?_
    refine s_y (y_move rfl) rfl rfl rfl ?_
    refine s_y (y_sub rfl rfl (by omega)) rfl rfl rfl ?_
    refine s_y (y_F (y_eql rfl rfl) (by omega)) rfl rfl rfl ?_
    refine s_nil ?_
    refine f_then ?_
    refine c_condF rfl ?_
    refine c_skip ?_
    refine f_then ?_
    refine c_seq ?_
    refine c_seq ?_
    refine c_region ?_
    refine s_y (y_move rfl) rfl rfl rfl ?_
    refine s_y (y_move rfl) rfl rfl rfl ?_
    refine s_y (y_sub rfl rfl (by omega)) rfl rfl rfl ?_
    refine s_y (y_F (y_eql rfl rfl) (by omega)) rfl rfl rfl ?_
    refine s_nil ?_
    refine f_then ?_
    refine c_condF rfl ?_
    refine c_skip ?_
    refine f_then ?_
    refine c_seq ?_
    refine c_region ?_
    refine s_y (y_move rfl) rfl rfl rfl ?_
    refine s_y (y_move rfl) rfl rfl rfl ?_
    refine s_y (y_add rfl rfl (by omega)) rfl rfl rfl ?_
    refine s_y (y_to64 Tryz.tab rfl rfl rfl (by omega)) rfl rfl rfl ?_
    refine s_y (y_shrU (d := 2) rfl rfl (by decide) rfl) rfl rfl rfl ?_
    refine s_y (y_toI Tryz.tab rfl rfl rfl (by omega)) rfl rfl rfl ?_
    refine s_y (y_assign rfl) rfl rfl rfl ?_
    refine s_nil ?_
    refine f_then ?_
    refine c_seq ?_
    refine c_region ?_
    refine s_y (y_move rfl) rfl rfl rfl ?_
    refine s_y (y_move rfl) rfl rfl rfl ?_
    refine s_y (y_add rfl rfl (by omega)) rfl rfl rfl ?_
    refine s_y (y_assign rfl) rfl rfl rfl ?_
    refine s_nil ?_
    refine f_then ?_
    refine c_seq ?_
    refine c_region ?_
    refine s_y (y_assign rfl) rfl rfl rfl ?_
    refine s_y (y_assign rfl) rfl rfl rfl ?_
    refine s_nil ?_
    refine f_then ?_
    refine c_seq ?_
    refine c_seq ?_
    refine c_region ?_
    refine s_y (y_move rfl) rfl rfl rfl ?_
    refine s_y (y_move rfl) rfl rfl rfl ?_
    refine s_y (y_gtr rfl rfl) rfl rfl rfl ?_
    refine s_nil ?_
    refine f_then ?_
    rw [hmi]
    refine c_then_cut (α := Nat × Nat) (fun z => [(0, .slice (some ⟨bo, 0, none⟩) n cp), (1, .int .i64 (a : Int)), (2, .int .i64 (m : Int)), (3, .int .i64 (b : Int)), (4, .func (.func 123) #[] #[]), (18, .int .i64 (mid : Int)), (19, .int .i64 ((mid + m : Nat) : Int)), (20, .int .i64 (z.1 : Int)), (21, .int .i64 (z.2 : Int))]) (fun z => a ≤ z.1 ∧ z.1 ≤ z.2 ∧ z.2 ≤ m ∧ z.2 ≤ mid ∧ mid + m ≤ b + z.1 ∧ (z.1 = a ∨ mid + m = b + z.1) ∧ (z.2 = m ∨ z.2 = mid)) (fun _ => K W (lrow bo Lf n rest (f) :: N)) ?_ ?_
    · by_cases hmm : mid < m
      · rw [decide_eq_true (by omega)]
        refine c_condT rfl ?_
        refine c_seq ?_
        refine c_region ?_
        refine s_y (y_move rfl) rfl rfl rfl ?_
        refine s_y (y_move rfl) rfl rfl rfl ?_
        refine s_y (y_sub rfl rfl (by omega)) rfl rfl rfl ?_
        refine s_y (y_assign rfl) rfl rfl rfl ?_
        refine s_nil ?_
        refine f_then ?_
        refine c_region ?_
        refine s_y (y_move rfl) rfl rfl rfl ?_
        refine s_y (y_assign rfl) rfl rfl rfl ?_
        refine s_nil ?_
        exact f_cutP (mid + m - b, mid) ⟨by dsimp only; omega, by dsimp only; omega, by dsimp only; omega, Nat.le_refl _, by dsimp only; omega, .inr (by dsimp only; omega), .inr rfl⟩ ⟨rfl, rfl, rfl, rfl, rfl, rfl, rfl, congrArg (fun z => some (Value.int .i64 z)) (by dsimp only; omega), rfl, trivial⟩ (fun w h => h)
      · rw [decide_eq_false (by omega)]
        refine c_condF rfl ?_
        refine c_seq ?_
        refine c_region ?_
        refine s_y (y_move rfl) rfl rfl rfl ?_
        refine s_y (y_assign rfl) rfl rfl rfl ?_
        refine s_nil ?_
        refine f_then ?_
        refine c_region ?_
        refine s_y (y_move rfl) rfl rfl rfl ?_
        refine s_y (y_assign rfl) rfl rfl rfl ?_
        refine s_nil ?_
        exact f_cutP (a, m) ⟨Nat.le_refl _, by dsimp only; omega, Nat.le_refl _, by dsimp only; omega, by dsimp only; omega, .inl rfl, .inl rfl⟩ ⟨rfl, rfl, rfl, rfl, rfl, rfl, rfl, rfl, rfl, trivial⟩ (fun w h => h)
    rintro ⟨s0, r0⟩ ⟨j1, j2, j3, j4, j5, j6, j7⟩
    dsimp only at j1 j2 j3 j4 j5 j6 j7 ⊢
    refine c_seq ?_
    refine c_region ?_
    refine s_y (y_move rfl) rfl rfl rfl ?_
    refine s_y (y_sub rfl rfl (by omega)) rfl rfl rfl ?_
    refine s_y (y_assign rfl) rfl rfl rfl ?_
    refine s_nil ?_
    refine f_then ?_
    refine c_seq ?_
    refine c_block ?_
    refine c_loopP (α := Nat × Nat) (fun z => [(0, .slice (some ⟨bo, 0, none⟩) n cp), (1, .int .i64 (a : Int)), (2, .int .i64 (m : Int)), (3, .int .i64 (b : Int)), (4, .func (.func 123) #[] #[]), (18, .int .i64 (mid : Int)), (19, .int .i64 ((mid + m : Nat) : Int)), (20, .int .i64 (z.1 : Int)), (21, .int .i64 (z.2 : Int)), (22, .int .i64 (((mid + m : Nat) : Int) - 1))]) (fun z => s0 ≤ z.1 ∧ z.1 ≤ z.2 ∧ z.2 ≤ r0 ∧ (s0 < z.1 → ltR R (f (z.1 - 1)) (f (mid + m - z.1))) ∧ (z.2 < r0 → ltR R (f (mid + m - 1 - z.2)) (f z.2))) (fun _ => K W (lrow bo Lf n rest (f) :: N)) (fun z => z.2 - z.1) (s0, r0)
      ⟨rfl, rfl, rfl, rfl, rfl, rfl, rfl, rfl, rfl, rfl, trivial⟩ ⟨Nat.le_refl _, j2, Nat.le_refl _, fun h => absurd h (Nat.lt_irrefl _), fun h => absurd h (Nat.lt_irrefl _)⟩ (fun w h => h) ?_
    rintro ⟨s, r⟩ ⟨k1, k2, k3, k4, k5⟩
    dsimp only at k1 k2 k3 k4 k5 ⊢
    by_cases hsr : s < r
    · obtain ⟨c, hc⟩ : ∃ c, c = (s + r) / 2 := ⟨_, rfl⟩
      have hc1 : s ≤ c ∧ c < r := by omega
      have hkey := hM.key (i := c) (j := mid + m - 1 - c) (by omega) (by omega) (by omega) (by omega)
      have hord := hM.ord (i := c) (j := mid + m - 1 - c) (by omega) (by omega) (by omega) (by omega)
      have hfc := hf c (by omega)
      have hfp := hf (mid + m - 1 - c) (by omega)
      have k4' : ∀ _ : Unit, (s0 < s → ltR R (f (s - 1)) (f (mid + m - s))) := fun _ => k4
      have k5' : ∀ _ : Unit, (r < r0 → ltR R (f (mid + m - 1 - r)) (f r)) := fun _ => k5
      clear ih k4 k5 j6 j7
      have e1 : (((s : Int) + (r : Int)) / 2).toNat = c := by omega
      have e2 : (((mid + m : Nat) : Int) - 1 - ((s : Int) + (r : Int)) / 2).toNat = mid + m - 1 - c := by omega
      refine c_seq ?_
      refine c_seq ?_
      refine c_region ?_
      refine s_y (y_move rfl) rfl rfl rfl ?_
      refine s_y (y_move rfl) rfl rfl rfl ?_
      refine s_y (y_T (y_lss rfl rfl) (by omega)) rfl rfl rfl ?_
      refine s_nil ?_
      refine f_then ?_
      refine c_condT rfl ?_
      refine c_skip ?_
      refine f_then ?_
      refine c_block ?_
      refine c_seq ?_
      refine c_region ?_
      refine s_y (y_move rfl) rfl rfl rfl ?_
      refine s_y (y_move rfl) rfl rfl rfl ?_
      refine s_y (y_add rfl rfl (by omega)) rfl rfl rfl ?_
      refine s_y (y_to64 Tryz.tab rfl rfl rfl (by omega)) rfl rfl rfl ?_
      refine s_y (y_shrU (d := 2) rfl rfl (by decide) rfl) rfl rfl rfl ?_
      refine s_y (y_toI Tryz.tab rfl rfl rfl (by omega)) rfl rfl rfl ?_
      refine s_y (y_assign rfl) rfl rfl rfl ?_
      refine s_nil ?_
      refine f_then ?_
      refine c_seq ?_
      refine c_quiet Tryz.mixed (by kernel_rfl) K.drew ?_
      refine q_y (y_move rfl) rfl rfl rfl ?_
      refine q_y (y_move rfl) rfl rfl rfl ?_
      refine q_y (y_move rfl) rfl rfl rfl ?_
      refine q_y (y_move rfl) rfl rfl rfl ?_
      refine q_y (y_sub rfl rfl (by omega)) rfl rfl rfl ?_
      refine q_y (y_indexAddr0 (s := 4) Tryz.tab rfl rfl rfl rfl _ (Int.toNat_of_nonneg (by omega)).symm (by omega)) rfl rfl rfl ?_
      refine q_y (y_loadA Tryz.tab rfl rfl rfl rfl (cells_lrow 0 rfl (by omega))) rfl rfl rfl ?_
      refine q_y (y_move rfl) rfl rfl rfl ?_
      refine q_y (y_move rfl) rfl rfl rfl ?_
      refine q_y (y_indexAddr0 (s := 4) Tryz.tab rfl rfl rfl rfl _ (Int.toNat_of_nonneg (by omega)).symm (by omega)) rfl rfl rfl ?_
      refine q_y (y_loadA Tryz.tab rfl rfl rfl rfl (cells_lrow 0 rfl (by omega))) rfl rfl rfl ?_
      rw [e1, e2]
      refine q_call (en_v rfl rfl Tryz.call123) (hcmp (f (mid + m - 1 - c)) (f c) hfp hfc) rfl rfl rfl ?_
      by_cases hR : R (f c) < R (f (mid + m - 1 - c))
      · have hz := cmp3_neg.2 hR
        have hl := hkey.2 hR
        generalize cmp3 (R (f c)) (R (f (mid + m - 1 - c))) = z at hz ⊢
        clear hR hkey
        refine q_y (y_T (y_lss rfl rfl) (by assumption)) rfl rfl rfl ?_
        refine q_y (y_notT rfl) rfl rfl rfl ?_
        refine q_nil ?_
        refine f_then ?_
        refine c_condF rfl ?_
        refine c_region ?_
        refine s_y (y_move rfl) rfl rfl rfl ?_
        refine s_y (y_assign rfl) rfl rfl rfl ?_
        refine s_nil ?_
        refine f_blockN ?_
        exact f_roundP (s, c) ⟨k1, by dsimp only; omega, by dsimp only; omega, k4' (), fun _ => hl⟩ (by dsimp only; omega) ⟨rfl, rfl, rfl, rfl, rfl, rfl, rfl, rfl, congrArg (fun z => some (Value.int .i64 z)) (by dsimp only; omega), rfl, trivial⟩ (fun w h => h)
      · have hz := mt cmp3_neg.1 hR
        have hl := hord.1 (fun h => hR (hkey.1 h))
        generalize cmp3 (R (f c)) (R (f (mid + m - 1 - c))) = z at hz ⊢
        clear hR hkey
        refine q_y (y_F (y_lss rfl rfl) (by assumption)) rfl rfl rfl ?_
        refine q_y (y_notF rfl) rfl rfl rfl ?_
        refine q_nil ?_
        refine f_then ?_
        refine c_condT rfl ?_
        refine c_region ?_
        refine s_y (y_move rfl) rfl rfl rfl ?_
        refine s_y (y_add rfl rfl (by omega)) rfl rfl rfl ?_
        refine s_y (y_assign rfl) rfl rfl rfl ?_
        refine s_nil ?_
        refine f_blockN ?_
        exact f_roundP (c + 1, r) ⟨by dsimp only; omega, by dsimp only; omega, k3, fun _ => by
          rw [Nat.add_sub_cancel, show mid + m - (c + 1) = mid + m - 1 - c by omega]
          exact hl, k5' ()⟩ (by dsimp only; omega) ⟨rfl, rfl, rfl, rfl, rfl, rfl, rfl, congrArg (fun z => some (Value.int .i64 z)) (by dsimp only; omega), rfl, rfl, trivial⟩ (fun w h => h)
    · obtain rfl : s = r := by omega
      have hC := cut_found (mid := mid) hM j1 k1 k3 j3 (by omega) (by omega) (by omega) j6 j7 k4 k5
      obtain ⟨e, he⟩ : ∃ e, e = mid + m - s := ⟨_, rfl⟩
      rw [← he] at hC
      have he1 : ((mid + m : Nat) : Int) - (s : Int) = (e : Int) := by omega
      clear k4 k5 j6 j7 hcmp
      refine c_seq ?_
      refine c_seq ?_
      refine c_region ?_
      refine s_y (y_move rfl) rfl rfl rfl ?_
      refine s_y (y_move rfl) rfl rfl rfl ?_
      refine s_y (y_F (y_lss rfl rfl) (by omega)) rfl rfl rfl ?_
      refine s_nil ?_
      refine f_then ?_
      refine c_condF rfl ?_
      refine c_exit ?_
      refine f_thenE ?_
      refine f_rndE ?_
      refine f_blockE ?_
      refine f_then ?_
      refine c_seq ?_
      refine c_region ?_
      refine s_y (y_move rfl) rfl rfl rfl ?_
      refine s_y (y_move rfl) rfl rfl rfl ?_
      refine s_y (y_sub rfl rfl (by omega)) rfl rfl rfl ?_
      refine s_y (y_assign rfl) rfl rfl rfl ?_
      refine s_nil ?_
      refine f_then ?_
      rw [he1]
      have hc := mrg_cut hM hC
      obtain ⟨q1, q2, q3, q4, q5⟩ : a ≤ s ∧ s ≤ m ∧ m ≤ e ∧ e ≤ b ∧ e + s = mid + m := ⟨hC.as', hC.sm, hC.me, hC.eb, hC.sum⟩
      have hg0 := rot_bd hf q2 q3 (show e ≤ n by omega)
      obtain ⟨g0, hg⟩ : ∃ g0, g0 = rotF f s m e := ⟨_, rfl⟩
      refine c_seq ?_
      refine c_then_cut (α := Unit) (fun _ => [(0, .slice (some ⟨bo, 0, none⟩) n cp), (1, .int .i64 (a : Int)), (2, .int .i64 (m : Int)), (3, .int .i64 (b : Int)), (4, .func (.func 123) #[] #[]), (18, .int .i64 (mid : Int)), (20, .int .i64 (s : Int)), (24, .int .i64 (e : Int))]) (fun _ => True) (fun _ => K W (lrow bo Lf n rest (g0) :: N)) ?_ ?_
      · by_cases r1 : s < m
        · by_cases r2 : m < e
          · clear hc hC hM ih hf hg0
            refine c_seq ?_
            refine c_region ?_
            refine s_y (y_move rfl) rfl rfl rfl ?_
            refine s_y (y_move rfl) rfl rfl rfl ?_
            refine s_y (y_T (y_lss rfl rfl) (by omega)) rfl rfl rfl ?_
            refine s_y (y_move rfl) rfl rfl rfl ?_
            refine s_y (y_move rfl) rfl rfl rfl ?_
            refine s_y (y_move rfl) rfl rfl rfl ?_
            refine s_y (y_T (y_lss rfl rfl) (by omega)) rfl rfl rfl ?_
            refine s_y (y_pickT rfl rfl) rfl rfl rfl ?_
            refine s_nil ?_
            refine f_then ?_
            refine c_condT rfl ?_
            refine c_region ?_
            refine s_y (y_move rfl) rfl rfl rfl ?_
            refine s_y (y_move rfl) rfl rfl rfl ?_
            refine s_y (y_move rfl) rfl rfl rfl ?_
            refine s_y (y_move rfl) rfl rfl rfl ?_
            refine s_y (y_move rfl) rfl rfl rfl ?_
            refine s_call (en_f rfl Tryz.call150) (rotate_spec (a := s) (m := m) (b := e) r1 r2 (by omega) hn) rfl rfl rfl (fun _ => ?_)
            refine s_nil ?_
            exact f_cutP () trivial ⟨rfl, rfl, rfl, rfl, rfl, rfl, rfl, rfl, trivial⟩ (fun w h => by rw [hg]; exact h)
          · have ht := rotF_triv (f := f) (s := s) (m := m) (e := e) (.inr (by omega)) q2 q3
            clear hc hC hM ih hf hg0
            refine c_seq ?_
            refine c_region ?_
            refine s_y (y_move rfl) rfl rfl rfl ?_
            refine s_y (y_move rfl) rfl rfl rfl ?_
            refine s_y (y_T (y_lss rfl rfl) (by omega)) rfl rfl rfl ?_
            refine s_y (y_move rfl) rfl rfl rfl ?_
            refine s_y (y_move rfl) rfl rfl rfl ?_
            refine s_y (y_move rfl) rfl rfl rfl ?_
            refine s_y (y_F (y_lss rfl rfl) (by omega)) rfl rfl rfl ?_
            refine s_y (y_pickT rfl rfl) rfl rfl rfl ?_
            refine s_nil ?_
            refine f_then ?_
            refine c_condF rfl ?_
            refine c_skip ?_
            exact f_cutP () trivial ⟨rfl, rfl, rfl, rfl, rfl, rfl, rfl, rfl, trivial⟩ (fun w h => by rw [hg, ht]; exact h)
        · have ht := rotF_triv (f := f) (s := s) (m := m) (e := e) (.inl (by omega)) q2 q3
          clear hc hC hM ih hf hg0
          refine c_seq ?_
          refine c_region ?_
          refine s_y (y_move rfl) rfl rfl rfl ?_
          refine s_y (y_move rfl) rfl rfl rfl ?_
          refine s_y (y_F (y_lss rfl rfl) (by omega)) rfl rfl rfl ?_
          refine s_y (y_move rfl) rfl rfl rfl ?_
          iterate 3 refine s_skip rfl rfl rfl ?_
          refine s_y (y_pickF rfl rfl) rfl rfl rfl ?_
          refine s_nil ?_
          refine f_then ?_
          refine c_condF rfl ?_
          refine c_skip ?_
          exact f_cutP () trivial ⟨rfl, rfl, rfl, rfl, rfl, rfl, rfl, rfl, trivial⟩ (fun w h => by rw [hg, ht]; exact h)
      rintro _ _
      rw [← hg] at hc hg0
      obtain ⟨hL, hRt, _⟩ := hc
      refine c_seq ?_
      refine c_then_cut (α := Nat → Nat) (fun _ => [(0, .slice (some ⟨bo, 0, none⟩) n cp), (1, .int .i64 (a : Int)), (2, .int .i64 (m : Int)), (3, .int .i64 (b : Int)), (4, .func (.func 123) #[] #[]), (18, .int .i64 (mid : Int)), (20, .int .i64 (s : Int)), (24, .int .i64 (e : Int))]) (fun g => SOut R g0 g a mid) (fun g => K W (lrow bo Lf n rest (g) :: N)) ?_ ?_
      · by_cases r1 : a < s
        · by_cases r2 : s < mid
          · have ihL := ih (a := a) (m := s) (b := mid) (f := g0) (by omega) r1 r2 (by omega) hg0 hL
            clear hL hRt hC hM ih hf hg0
            refine c_seq ?_
            refine c_region ?_
            refine s_y (y_move rfl) rfl rfl rfl ?_
            refine s_y (y_move rfl) rfl rfl rfl ?_
            refine s_y (y_T (y_lss rfl rfl) (by omega)) rfl rfl rfl ?_
            refine s_y (y_move rfl) rfl rfl rfl ?_
            refine s_y (y_move rfl) rfl rfl rfl ?_
            refine s_y (y_move rfl) rfl rfl rfl ?_
            refine s_y (y_T (y_lss rfl rfl) (by omega)) rfl rfl rfl ?_
            refine s_y (y_pickT rfl rfl) rfl rfl rfl ?_
            refine s_nil ?_
            refine f_then ?_
            refine c_condT rfl ?_
            refine c_region ?_
            refine s_y (y_move rfl) rfl rfl rfl ?_
            refine s_y (y_move rfl) rfl rfl rfl ?_
            refine s_y (y_move rfl) rfl rfl rfl ?_
            refine s_y (y_move rfl) rfl rfl rfl ?_
            refine s_y (y_move rfl) rfl rfl rfl ?_
            refine s_call (en_f rfl Tryz.call145) ihL rfl rfl rfl (fun g => ?_)
            refine s_nil ?_
            exact f_cutP g.1 g.2 ⟨rfl, rfl, rfl, rfl, rfl, rfl, rfl, rfl, trivial⟩ (fun w h => h)
          · have hs := SOut.refl (hL.side (.inr (by omega)))
            clear hL hRt hC hM ih hf hg0
            refine c_seq ?_
            refine c_region ?_
            refine s_y (y_move rfl) rfl rfl rfl ?_
            refine s_y (y_move rfl) rfl rfl rfl ?_
            refine s_y (y_T (y_lss rfl rfl) (by omega)) rfl rfl rfl ?_
            refine s_y (y_move rfl) rfl rfl rfl ?_
            refine s_y (y_move rfl) rfl rfl rfl ?_
            refine s_y (y_move rfl) rfl rfl rfl ?_
            refine s_y (y_F (y_lss rfl rfl) (by omega)) rfl rfl rfl ?_
            refine s_y (y_pickT rfl rfl) rfl rfl rfl ?_
            refine s_nil ?_
            refine f_then ?_
            refine c_condF rfl ?_
            refine c_skip ?_
            exact f_cutP g0 hs ⟨rfl, rfl, rfl, rfl, rfl, rfl, rfl, rfl, trivial⟩ (fun w h => h)
        · have hs := SOut.refl (hL.side (.inl (by omega)))
          clear hL hRt hC hM ih hf hg0
          refine c_seq ?_
          refine c_region ?_
          refine s_y (y_move rfl) rfl rfl rfl ?_
          refine s_y (y_move rfl) rfl rfl rfl ?_
          refine s_y (y_F (y_lss rfl rfl) (by omega)) rfl rfl rfl ?_
          refine s_y (y_move rfl) rfl rfl rfl ?_
          iterate 3 refine s_skip rfl rfl rfl ?_
          refine s_y (y_pickF rfl rfl) rfl rfl rfl ?_
          refine s_nil ?_
          refine f_then ?_
          refine c_condF rfl ?_
          refine c_skip ?_
          exact f_cutP g0 hs ⟨rfl, rfl, rfl, rfl, rfl, rfl, rfl, rfl, trivial⟩ (fun w h => h)
      rintro g1 hO1
      have hR1 : Mrg R g1 mid e b := hRt.congr (fun i i1 _ => hO1.same i (.inr i1)) (by omega) q4
      have hj : ∀ g2, SOut R g1 g2 mid b → SOut R f g2 a b := fun g2 h2 => mrg_join hM hC (by omega) (by omega) (by rw [← hg]; exact hO1) h2
      have hg1 := hO1.bd hg0 (show mid ≤ n by omega)
      clear hRt hL hM hC hf hg0 hO1
      by_cases r1 : mid < e
      · by_cases r2 : e < b
        · have ihR := ih (a := mid) (m := e) (b := b) (f := g1) (by omega) r1 r2 hbn hg1 hR1
          clear ih hR1 hg1
          refine c_seq ?_
          refine c_region ?_
          refine s_y (y_move rfl) rfl rfl rfl ?_
          refine s_y (y_move rfl) rfl rfl rfl ?_
          refine s_y (y_T (y_lss rfl rfl) (by omega)) rfl rfl rfl ?_
          refine s_y (y_move rfl) rfl rfl rfl ?_
          refine s_y (y_move rfl) rfl rfl rfl ?_
          refine s_y (y_move rfl) rfl rfl rfl ?_
          refine s_y (y_T (y_lss rfl rfl) (by omega)) rfl rfl rfl ?_
          refine s_y (y_pickT rfl rfl) rfl rfl rfl ?_
          refine s_nil ?_
          refine f_then ?_
          refine c_condT rfl ?_
          refine c_region ?_
          refine s_y (y_move rfl) rfl rfl rfl ?_
          refine s_y (y_move rfl) rfl rfl rfl ?_
          refine s_y (y_move rfl) rfl rfl rfl ?_
          refine s_y (y_move rfl) rfl rfl rfl ?_
          refine s_y (y_move rfl) rfl rfl rfl ?_
          refine s_call (en_f rfl Tryz.call145) ihR rfl rfl rfl (fun g => ?_)
          have hgo := hj g.1 g.2
          clear hj
          refine s_nil ?_
          exact f_end ⟨g.1, hgo⟩ (res0 rfl) (fun w h => h)
        · have hgo := hj g1 (SOut.refl (hR1.side (.inr (by omega))))
          clear ih hR1 hg1 hj
          refine c_seq ?_
          refine c_region ?_
          refine s_y (y_move rfl) rfl rfl rfl ?_
          refine s_y (y_move rfl) rfl rfl rfl ?_
          refine s_y (y_T (y_lss rfl rfl) (by omega)) rfl rfl rfl ?_
          refine s_y (y_move rfl) rfl rfl rfl ?_
          refine s_y (y_move rfl) rfl rfl rfl ?_
          refine s_y (y_move rfl) rfl rfl rfl ?_
          refine s_y (y_F (y_lss rfl rfl) (by omega)) rfl rfl rfl ?_
          refine s_y (y_pickT rfl rfl) rfl rfl rfl ?_
          refine s_nil ?_
          refine f_then ?_
          refine c_condF rfl ?_
          refine c_skip ?_
          exact f_end ⟨g1, hgo⟩ (res0 rfl) (fun w h => h)
      · have hgo := hj g1 (SOut.refl (hR1.side (.inl (by omega))))
        clear ih hR1 hg1 hj
        refine c_seq ?_
        refine c_region ?_
        refine s_y (y_move rfl) rfl rfl rfl ?_
        refine s_y (y_move rfl) rfl rfl rfl ?_
        refine s_y (y_F (y_lss rfl rfl) (by omega)) rfl rfl rfl ?_
        refine s_y (y_move rfl) rfl rfl rfl ?_
        iterate 3 refine s_skip rfl rfl rfl ?_
        refine s_y (y_pickF rfl rfl) rfl rfl rfl ?_
        refine s_nil ?_
        refine f_then ?_
        refine c_condF rfl ?_
        refine c_skip ?_
        exact f_end ⟨g1, hgo⟩ (res0 rfl) (fun w h => h)
end Go.KL
end

section
/- Blocks of any size that are in order, and their merging two by two; plain. No program in sight. -/
namespace Go.KL
variable {R : Nat → Nat} {f g : Nat → Nat} {a n bs : Nat}
/-- All blocks of bs. -/
def BSg (R g : Nat → Nat) (bs n : Nat) : Prop := ∀ j, j * bs < n → Blk R g (j * bs) (min (j * bs + bs) n)
/-- Blocks of 2 bs up to a, blocks of bs behind it. -/
def Phg (R g : Nat → Nat) (bs n a : Nat) : Prop := ∃ J, a = J * (2 * bs) ∧ (∀ i, i < J → Blk R g (i * (2 * bs)) (i * (2 * bs) + 2 * bs)) ∧ ∀ j, 2 * J ≤ j → j * bs < n → Blk R g (j * bs) (min (j * bs + bs) n)
theorem BS.gen (h : BS R g 20 n) : BSg R g 20 n := fun j hj => h (j * 20) (by omega) hj
theorem Phg.start (h : BSg R g bs n) : Phg R g bs n 0 := ⟨0, by simp, fun i h => by omega, fun j _ hj => h j hj⟩
theorem mul_two (J bs : Nat) : 2 * J * bs = J * (2 * bs) := by rw [Nat.mul_comm 2 J, Nat.mul_assoc]
theorem mul_two1 (J bs : Nat) : (2 * J + 1) * bs = J * (2 * bs) + bs := by rw [Nat.add_mul, mul_two, Nat.one_mul]
theorem mul_lt_step {i J c : Nat} (h : i < J) : i * c + c ≤ J * c := by
  have := Nat.mul_le_mul_right c (show i + 1 ≤ J from h)
  rw [Nat.add_mul, Nat.one_mul] at this
  exact this
theorem Phg.two (h : Phg R f bs n a) (hab : a + bs < n) : Blk R f a (a + bs) ∧ Blk R f (a + bs) (min (a + 2 * bs) n) := by
  obtain ⟨J, rfl, h1, h2⟩ := h
  have e1 := h2 (2 * J) (Nat.le_refl _) (by rw [mul_two]; omega)
  have e2 := h2 (2 * J + 1) (by omega) (by rw [mul_two1]; omega)
  rw [mul_two, Nat.min_eq_left (by omega)] at e1
  rw [mul_two1, show J * (2 * bs) + bs + bs = J * (2 * bs) + 2 * bs by omega] at e2
  exact ⟨e1, e2⟩
theorem Phg.next (h : Phg R f bs n a) (hb : 0 < bs) (hab : a + 2 * bs ≤ n) (hO : SOut R f g a (a + 2 * bs)) : Phg R g bs n (a + 2 * bs) := by
  have ht := h.two (by omega)
  obtain ⟨J, rfl, h1, h2⟩ := h
  rw [Nat.min_eq_left (by omega)] at ht
  refine ⟨J + 1, by rw [Nat.add_mul, Nat.one_mul], fun i hi => ?_, fun j hj hn => ?_⟩
  · by_cases c : i = J
    · subst c
      exact ht.1.join ht.2 (by omega) (by omega) hO
    · have := mul_lt_step (c := 2 * bs) (show i < J by omega)
      exact (h1 i (by omega)).keep hO (.inl this)
  · have h3 := Nat.mul_le_mul_right bs hj
    rw [mul_two, Nat.add_mul, Nat.one_mul] at h3
    exact (h2 j (by omega) hn).keep hO (.inr h3)
theorem Phg.last (h : Phg R f bs n a) (han : a + bs < n) (hn : n < a + 2 * bs) (hO : SOut R f g a n) : BSg R g (2 * bs) n := by
  have ht := h.two han
  obtain ⟨J, rfl, h1, h2⟩ := h
  rw [Nat.min_eq_right (by omega)] at ht
  intro j hj
  rcases Nat.lt_trichotomy j J with c | c | c
  · have := mul_lt_step (c := 2 * bs) c
    rw [Nat.min_eq_left (by omega)]
    exact (h1 j c).keep hO (.inl this)
  · subst c
    rw [Nat.min_eq_right (by omega)]
    exact ht.1.join ht.2 (by omega) (by omega) hO
  · have := mul_lt_step (c := 2 * bs) c
    omega
theorem Phg.over (h : Phg R g bs n a) (ha : a ≤ n) (han : n ≤ a + bs) : BSg R g (2 * bs) n := by
  obtain ⟨J, rfl, h1, h2⟩ := h
  intro j hj
  rcases Nat.lt_trichotomy j J with c | c | c
  · have := mul_lt_step (c := 2 * bs) c
    rw [Nat.min_eq_left (by omega)]
    exact h1 j c
  · subst c
    have e1 := h2 (2 * j) (Nat.le_refl _) (by rw [mul_two]; omega)
    rw [mul_two, Nat.min_eq_right (by omega)] at e1
    rw [Nat.min_eq_right (by omega)]
    exact e1
  · have := mul_lt_step (c := 2 * bs) c
    omega
theorem BSg.whole (h : BSg R g bs n) (hb : n ≤ bs) : Blk R g 0 n := by
  by_cases c : n = 0
  · subst c
    exact Blk.empty (Nat.le_refl _)
  · have := h 0 (by omega)
    rw [Nat.zero_mul, Nat.zero_add, Nat.min_eq_right hb] at this
    exact this
end Go.KL
end

section
/- Walks: stable, SortStableFunc. -/
namespace Go.KL
open Go.Proofs
attribute [local irreducible] SC St Fin Sq Ylds Doos Sets Enters Spec CellIs CellsAre Then Ret Rnd Chn resOK ints bools recs arr
set_option maxRecDepth 10000 in
set_option maxHeartbeats 8000000 in
theorem stable_spec {W : World} {N : List Chunk} {Lf : Nat → Lk} {rest : List Value} {cp : Nat} {bo n : Nat} {R : Nat → Nat} (hcmp : CmpL Lf n R) (hn : n ≤ 4096) : Spec Tryz.prog 135 #[.slice (some ⟨bo, 0, none⟩) n cp, .int .i64 (n : Int), .func (.func 123) #[] #[]] (K W (lrow bo Lf n rest (fun i => i) :: N)) (X := { g : Nat → Nat // Blk R g 0 n }) (fun _ => .tuple #[]) (fun g => K W (lrow bo Lf n rest (g.1) :: N)) := by
  refine enter (args := [_, _, _]) Tryz.func135 rfl Tryz.ntmps135 rfl ?_
  refine c_seq ?_
  refine c_region ?_
  refine s_y (y_assign rfl) rfl rfl rfl ?_
  refine s_nil ?_
  refine f_then ?_
  refine c_seq ?_
  refine c_region ?_
  refine s_y (y_move rfl) rfl rfl rfl ?_
  refine s_y (y_assign rfl) rfl rfl rfl ?_
  refine s_y (y_assign rfl) rfl rfl rfl ?_
  refine s_nil ?_
  refine f_then ?_
  refine c_seq ?_
  refine c_block ?_
  refine c_loopP (α := Nat × (Nat → Nat)) (fun z => [(0, .slice (some ⟨bo, 0, none⟩) n cp), (1, .int .i64 (n : Int)), (2, .func (.func 123) #[] #[]), (6, .int .i64 20), (7, .int .i64 (z.1 : Int)), (8, .int .i64 ((z.1 + 20 : Nat) : Int))]) (fun z => z.1 ≤ n ∧ Ph1 R z.2 z.1 ∧ ∀ k, k < n → z.2 k < n) (fun z => K W (lrow bo Lf n rest (z.2) :: N)) (fun z => n - z.1) (0, fun i => i)
    ⟨rfl, rfl, rfl, rfl, rfl, rfl, trivial⟩ ⟨Nat.zero_le _, ⟨rfl, fun s s1 s2 => by dsimp only at s2; omega, fun _ _ => rfl⟩, fun k hk => hk⟩ (fun w h => h) ?_
  rintro ⟨a, g⟩ ⟨ha, hP, hg⟩
  dsimp only at ha hP hg ⊢
  have hasc : ∀ b, ∀ p q, a ≤ p → p < q → q < b → g p < g q := fun b p q h1 h2 h3 => by
    rw [hP.2.2 p h1, hP.2.2 q (by omega)]
    exact h2
  by_cases hb : a + 20 ≤ n
  · have hI := insertion_spec (W := W) (N := N) (rest := rest) (cp := cp) (bo := bo) (a := a) (b := a + 20) hcmp (by omega) hb (by omega) hg (hasc _)
    have hnx : ∀ h, SOut R g h a (a + 20) → Ph1 R h (a + 20) ∧ ∀ k, k < n → h k < n := fun h hO => ⟨hP.next hO, hO.bd hg hb⟩
    clear hP hg hasc hcmp
    refine c_seq ?_
    refine c_seq ?_
    refine c_region ?_
    refine s_y (y_move rfl) rfl rfl rfl ?_
    refine s_y (y_move rfl) rfl rfl rfl ?_
    refine s_y (y_T (y_leq rfl rfl) (by omega)) rfl rfl rfl ?_
    refine s_nil ?_
    refine f_then ?_
    refine c_condT rfl ?_
    refine c_skip ?_
    refine f_then ?_
    refine c_block ?_
    refine c_seq ?_
    refine c_region ?_
    refine s_y (y_move rfl) rfl rfl rfl ?_
    refine s_y (y_move rfl) rfl rfl rfl ?_
    refine s_y (y_move rfl) rfl rfl rfl ?_
    refine s_y (y_move rfl) rfl rfl rfl ?_
    refine s_call (en_f rfl Tryz.call144) hI rfl rfl rfl (fun h => ?_)
    have hh := hnx h.1 h.2
    clear hnx hI
    refine s_nil ?_
    refine f_then ?_
    refine c_seq ?_
    refine c_region ?_
    refine s_y (y_move rfl) rfl rfl rfl ?_
    refine s_y (y_assign rfl) rfl rfl rfl ?_
    refine s_nil ?_
    refine f_then ?_
    refine c_region ?_
    refine s_y (y_move rfl) rfl rfl rfl ?_
    refine s_y (y_move rfl) rfl rfl rfl ?_
    refine s_y (y_add rfl rfl (by omega)) rfl rfl rfl ?_
    refine s_y (y_assign rfl) rfl rfl rfl ?_
    refine s_nil ?_
    refine f_blockN ?_
    exact f_roundP (a + 20, h.1) ⟨hb, hh.1, hh.2⟩ (by dsimp only; omega) ⟨rfl, rfl, rfl, rfl, rfl, rfl, trivial⟩ (fun w h => h)
  · have hI := insertion_spec (W := W) (N := N) (rest := rest) (cp := cp) (bo := bo) (a := a) (b := n) hcmp ha (Nat.le_refl n) (by omega) hg (hasc _)
    have hnx : ∀ h, SOut R g h a n → BSg R h 20 n ∧ ∀ k, k < n → h k < n := fun h hO => ⟨(hP.done ha (by omega) hO).gen, hO.bd hg (Nat.le_refl n)⟩
    clear hP hg hasc
    refine c_seq ?_
    refine c_seq ?_
    refine c_region ?_
    refine s_y (y_move rfl) rfl rfl rfl ?_
    refine s_y (y_move rfl) rfl rfl rfl ?_
    refine s_y (y_F (y_leq rfl rfl) (by omega)) rfl rfl rfl ?_
    refine s_nil ?_
    refine f_then ?_
    refine c_condF rfl ?_
    refine c_exit ?_
    refine f_thenE ?_
    refine f_rndE ?_
    refine f_blockE ?_
    refine f_then ?_
    refine c_seq ?_
    refine c_region ?_
    refine s_y (y_move rfl) rfl rfl rfl ?_
    refine s_y (y_move rfl) rfl rfl rfl ?_
    refine s_y (y_move rfl) rfl rfl rfl ?_
    refine s_y (y_move rfl) rfl rfl rfl ?_
    refine s_call (en_f rfl Tryz.call144) hI rfl rfl rfl (fun h => ?_)
    obtain ⟨h, hO⟩ := h
    obtain ⟨hB, hh⟩ := hnx h hO
    dsimp only
    clear hnx hI hO hb ha
    refine s_nil ?_
    refine f_then ?_
    refine c_block ?_
    refine c_loopP (α := Nat × (Nat → Nat)) (fun z => [(0, .slice (some ⟨bo, 0, none⟩) n cp), (1, .int .i64 (n : Int)), (2, .func (.func 123) #[] #[]), (6, .int .i64 (z.1 : Int))]) (fun z => (20 ≤ z.1 ∧ z.1 ≤ 2 * n + 20) ∧ BSg R z.2 z.1 n ∧ ∀ k, k < n → z.2 k < n) (fun z => K W (lrow bo Lf n rest (z.2) :: N)) (fun z => 2 * n + 21 - z.1) (20, h)
      ⟨rfl, rfl, rfl, rfl, trivial⟩ ⟨⟨Nat.le_refl _, by dsimp only; omega⟩, hB, hh⟩ (fun w h => h) ?_
    clear hB hh
    rintro ⟨bs, h⟩ ⟨hbs, hB, hh⟩
    dsimp only at hbs hB hh ⊢
    by_cases hlt : bs < n
    · have hb2 : 20 ≤ bs := hbs.1
      have hS := Phg.start hB
      clear hB hbs
      refine c_seq ?_
      refine c_seq ?_
      refine c_region ?_
      refine s_y (y_move rfl) rfl rfl rfl ?_
      refine s_y (y_move rfl) rfl rfl rfl ?_
      refine s_y (y_T (y_lss rfl rfl) (by omega)) rfl rfl rfl ?_
      refine s_nil ?_
      refine f_then ?_
      refine c_condT rfl ?_
      refine c_skip ?_
      refine f_then ?_
      refine c_block ?_
      refine c_seq ?_
      refine c_region ?_
      refine s_y (y_move rfl) rfl rfl rfl ?_
      refine s_y (y_mul rfl rfl (by omega)) rfl rfl rfl ?_
      refine s_y (y_assign rfl) rfl rfl rfl ?_
      refine s_y (y_assign rfl) rfl rfl rfl ?_
      refine s_nil ?_
      refine f_then ?_
      refine c_seq ?_
      refine c_block ?_
      refine c_loopP (α := Nat × (Nat → Nat)) (fun z => [(0, .slice (some ⟨bo, 0, none⟩) n cp), (1, .int .i64 (n : Int)), (2, .func (.func 123) #[] #[]), (6, .int .i64 (bs : Int)), (7, .int .i64 (z.1 : Int)), (8, .int .i64 ((z.1 + 2 * bs : Nat) : Int))]) (fun z => z.1 ≤ n ∧ Phg R z.2 bs n z.1 ∧ ∀ k, k < n → z.2 k < n) (fun z => K W (lrow bo Lf n rest (z.2) :: N)) (fun z => n - z.1) (0, h)
        ⟨rfl, rfl, rfl, rfl, rfl, congrArg (fun z => some (Value.int .i64 z)) (by dsimp only; omega), trivial⟩ ⟨Nat.zero_le _, hS, hh⟩ (fun w h => h) ?_
      clear hS hh
      rintro ⟨a, h⟩ ⟨ha, hS, hh⟩
      dsimp only at ha hS hh ⊢
      have eab : (a : Int) + (bs : Int) = ((a + bs : Nat) : Int) := by omega
      by_cases hb : a + 2 * bs ≤ n
      · have hM := (hS.two (by omega))
        rw [show min (a + 2 * bs) n = a + 2 * bs by omega] at hM
        have hI := symMerge_spec (W := W) (N := N) (rest := rest) (cp := cp) (bo := bo) hcmp (by omega) (2 * bs) (a := a) (m := a + bs) (b := a + 2 * bs) (f := h) (by omega) (by omega) (by omega) hb hh (hM.1.mrg hM.2)
        have hnx : ∀ h2, SOut R h h2 a (a + 2 * bs) → Phg R h2 bs n (a + 2 * bs) ∧ ∀ k, k < n → h2 k < n := fun h2 hO => ⟨hS.next (by omega) hb hO, hO.bd hh hb⟩
        clear hM hS hh hcmp
        refine c_seq ?_
        refine c_seq ?_
        refine c_region ?_
        refine s_y (y_move rfl) rfl rfl rfl ?_
        refine s_y (y_move rfl) rfl rfl rfl ?_
        refine s_y (y_T (y_leq rfl rfl) (by omega)) rfl rfl rfl ?_
        refine s_nil ?_
        refine f_then ?_
        refine c_condT rfl ?_
        refine c_skip ?_
        refine f_then ?_
        refine c_block ?_
        refine c_seq ?_
        refine c_region ?_
        refine s_y (y_move rfl) rfl rfl rfl ?_
        refine s_y (y_move rfl) rfl rfl rfl ?_
        refine s_y (y_move rfl) rfl rfl rfl ?_
        refine s_y (y_move rfl) rfl rfl rfl ?_
        refine s_y (y_add rfl rfl (by omega)) rfl rfl rfl ?_
        refine s_y (y_move rfl) rfl rfl rfl ?_
        refine s_y (y_move rfl) rfl rfl rfl ?_
        rw [eab]
        refine s_call (en_f rfl Tryz.call145) hI rfl rfl rfl (fun h2 => ?_)
        have hh := hnx h2.1 h2.2
        clear hnx hI
        refine s_nil ?_
        refine f_then ?_
        refine c_seq ?_
        refine c_region ?_
        refine s_y (y_move rfl) rfl rfl rfl ?_
        refine s_y (y_assign rfl) rfl rfl rfl ?_
        refine s_nil ?_
        refine f_then ?_
        refine c_region ?_
        refine s_y (y_move rfl) rfl rfl rfl ?_
        refine s_y (y_move rfl) rfl rfl rfl ?_
        refine s_y (y_mul rfl rfl (by omega)) rfl rfl rfl ?_
        refine s_y (y_add rfl rfl (by omega)) rfl rfl rfl ?_
        refine s_y (y_assign rfl) rfl rfl rfl ?_
        refine s_nil ?_
        refine f_blockN ?_
        exact f_roundP (a + 2 * bs, h2.1) ⟨hb, hh.1, hh.2⟩ (by dsimp only; omega) ⟨rfl, rfl, rfl, rfl, rfl, congrArg (fun z => some (Value.int .i64 z)) (by dsimp only; omega), trivial⟩ (fun w h => h)
      · by_cases hm : a + bs < n
        · have hM := (hS.two hm)
          rw [show min (a + 2 * bs) n = n by omega] at hM
          have hI := symMerge_spec (W := W) (N := N) (rest := rest) (cp := cp) (bo := bo) hcmp (by omega) (2 * bs) (a := a) (m := a + bs) (b := n) (f := h) (by omega) (by omega) (by omega) (Nat.le_refl n) hh (hM.1.mrg hM.2)
          have hnx : ∀ h2, SOut R h h2 a n → BSg R h2 (2 * bs) n ∧ ∀ k, k < n → h2 k < n := fun h2 hO => ⟨hS.last hm (by omega) hO, hO.bd hh (Nat.le_refl n)⟩
          clear hM hS hh hcmp
          refine c_seq ?_
          refine c_seq ?_
          refine c_region ?_
          refine s_y (y_move rfl) rfl rfl rfl ?_
          refine s_y (y_move rfl) rfl rfl rfl ?_
          refine s_y (y_F (y_leq rfl rfl) (by omega)) rfl rfl rfl ?_
          refine s_nil ?_
          refine f_then ?_
          refine c_condF rfl ?_
          refine c_exit ?_
          refine f_thenE ?_
          refine f_rndE ?_
          refine f_blockE ?_
          refine f_then ?_
          refine c_seq ?_
          refine c_seq ?_
          refine c_region ?_
          refine s_y (y_move rfl) rfl rfl rfl ?_
          refine s_y (y_move rfl) rfl rfl rfl ?_
          refine s_y (y_add rfl rfl (by omega)) rfl rfl rfl ?_
          refine s_y (y_assign rfl) rfl rfl rfl ?_
          refine s_nil ?_
          refine f_then ?_
          refine c_seq ?_
          refine c_region ?_
          refine s_y (y_move rfl) rfl rfl rfl ?_
          refine s_y (y_move rfl) rfl rfl rfl ?_
          refine s_y (y_T (y_lss rfl rfl) (by omega)) rfl rfl rfl ?_
          refine s_nil ?_
          refine f_then ?_
          refine c_condT rfl ?_
          refine c_region ?_
          refine s_y (y_move rfl) rfl rfl rfl ?_
          refine s_y (y_move rfl) rfl rfl rfl ?_
          refine s_y (y_move rfl) rfl rfl rfl ?_
          refine s_y (y_move rfl) rfl rfl rfl ?_
          refine s_y (y_move rfl) rfl rfl rfl ?_
          rw [eab]
          skip
          refine s_call (en_f rfl Tryz.call145) hI rfl rfl rfl (fun h2 => ?_)
          have hh := hnx h2.1 h2.2
          clear hnx hI
          refine s_nil ?_
          refine f_then ?_
          refine c_region ?_
          refine s_y (y_move rfl) rfl rfl rfl ?_
          refine s_y (y_mul rfl rfl (by omega)) rfl rfl rfl ?_
          refine s_y (y_assign rfl) rfl rfl rfl ?_
          refine s_nil ?_
          refine f_blockN ?_
          exact f_roundP (2 * bs, h2.1) ⟨⟨by dsimp only; omega, by dsimp only; omega⟩, hh.1, hh.2⟩ (by dsimp only; omega) ⟨rfl, rfl, rfl, congrArg (fun z => some (Value.int .i64 z)) (by dsimp only; omega), trivial⟩ (fun w h => h)
        · have hh2 := hS.over ha (by omega)
          clear hS hcmp
          refine c_seq ?_
          refine c_seq ?_
          refine c_region ?_
          refine s_y (y_move rfl) rfl rfl rfl ?_
          refine s_y (y_move rfl) rfl rfl rfl ?_
          refine s_y (y_F (y_leq rfl rfl) (by omega)) rfl rfl rfl ?_
          refine s_nil ?_
          refine f_then ?_
          refine c_condF rfl ?_
          refine c_exit ?_
          refine f_thenE ?_
          refine f_rndE ?_
          refine f_blockE ?_
          refine f_then ?_
          refine c_seq ?_
          refine c_seq ?_
          refine c_region ?_
          refine s_y (y_move rfl) rfl rfl rfl ?_
          refine s_y (y_move rfl) rfl rfl rfl ?_
          refine s_y (y_add rfl rfl (by omega)) rfl rfl rfl ?_
          refine s_y (y_assign rfl) rfl rfl rfl ?_
          refine s_nil ?_
          refine f_then ?_
          refine c_seq ?_
          refine c_region ?_
          refine s_y (y_move rfl) rfl rfl rfl ?_
          refine s_y (y_move rfl) rfl rfl rfl ?_
          refine s_y (y_F (y_lss rfl rfl) (by omega)) rfl rfl rfl ?_
          refine s_nil ?_
          refine f_then ?_
          refine c_condF rfl ?_
          refine c_skip ?_
          refine f_then ?_
          refine c_region ?_
          refine s_y (y_move rfl) rfl rfl rfl ?_
          refine s_y (y_mul rfl rfl (by omega)) rfl rfl rfl ?_
          refine s_y (y_assign rfl) rfl rfl rfl ?_
          refine s_nil ?_
          refine f_blockN ?_
          exact f_roundP (2 * bs, h) ⟨⟨by dsimp only; omega, by dsimp only; omega⟩, hh2, hh⟩ (by dsimp only; omega) ⟨rfl, rfl, rfl, congrArg (fun z => some (Value.int .i64 z)) (by dsimp only; omega), trivial⟩ (fun w h => h)
    · have hW := hB.whole (by omega)
      clear hB hh hcmp
      refine c_seq ?_
      refine c_seq ?_
      refine c_region ?_
      refine s_y (y_move rfl) rfl rfl rfl ?_
      refine s_y (y_move rfl) rfl rfl rfl ?_
      refine s_y (y_F (y_lss rfl rfl) (by omega)) rfl rfl rfl ?_
      refine s_nil ?_
      refine f_then ?_
      refine c_condF rfl ?_
      refine c_exit ?_
      refine f_thenE ?_
      refine f_rndE ?_
      refine f_blockE ?_
      exact f_end ⟨h, hW⟩ (res0 rfl) (fun w h => h)
set_option maxRecDepth 10000 in
theorem sortStable_spec {W : World} {N : List Chunk} {Lf : Nat → Lk} {rest : List Value} {cp : Nat} {bo n : Nat} {R : Nat → Nat} (hcmp : CmpL Lf n R) (hn : n ≤ 4096) : Spec Tryz.prog 122 #[.slice (some ⟨bo, 0, none⟩) n cp, .func (.func 123) #[] #[]] (K W (lrow bo Lf n rest (fun i => i) :: N)) (X := { g : Nat → Nat // Blk R g 0 n }) (fun _ => .tuple #[]) (fun g => K W (lrow bo Lf n rest (g.1) :: N)) := by
  have hI := stable_spec (W := W) (N := N) (rest := rest) (cp := cp) (bo := bo) hcmp hn
  clear hcmp
  refine enter (args := [_, _]) Tryz.func122 rfl Tryz.ntmps122 rfl ?_
  refine c_region ?_
  refine s_y (y_move rfl) rfl rfl rfl ?_
  refine s_y (y_move rfl) rfl rfl rfl ?_
  refine s_y (y_len Tryz.tab rfl rfl) rfl rfl rfl ?_
  refine s_y (y_move rfl) rfl rfl rfl ?_
  refine s_call (en_f rfl Tryz.call135) hI rfl rfl rfl (fun g => ?_)
  refine s_nil ?_
  exact f_end g (res0 rfl) (fun w h => h)
end Go.KL
end

section
/- Walks: Clone, the sort of no locks. -/
namespace Go.KL
open Go.Proofs
section
variable {P : Program} {W w : World} {Ls : List Chunk} {n : Nat} {σ : Slots} {C D : World → Prop} {dst : Option Tmp} {ty : TypeId} {pos : String} {after : Array Edge} {guard : Option (Nat × Bool)}
theorem y_eqlSN (T : Tab P) {x : Operand} {t e t' : TypeId} {pa : Option Addr} {l c : Nat} (hx : ev σ x = some (.slice pa l c)) (ht : T.und t = some (.slice e)) :
    Ylds P n σ C ⟨dst, .binOp .eql t x (.const (.slice none 0 0)) t', ty, pos, after, guard⟩ (.bool pa.isNone) := by
  intro a w hE _
  have h := run_equal_slice_nil w t e pa l c (T.und_ok ht)
  have h2 : (binOp .eql t (.slice pa l c) (.slice none 0 0)).run P w = .ok (.bool pa.isNone) w := by
    simp only [binOp, Sem.run_bind, h, Result.andThen]
    rfl
  have h3 : eqGuard .eql t x (.const (.slice none 0 0)) (.slice pa l c) (.slice none 0 0) = pure () := by cases pa <;> rfl
  have h4 : a.eval (.const (.slice none 0 0)) = .slice none 0 0 := rfl
  simp only [execOp, ev_eval hE hx, h4, h3, Sem.run_bind, Sem.run_pure, Result.andThen, h2]
/-- The view, with a value of one cell beyond it. -/
abbrev rixz (rows : List (List Value)) : Nat → Nat → Value := fun i j => ((rows[i]?).bind (·[j]?)).getD (.bool false)
theorem rixz_eq {s : Nat} {rows : List (List Value)} (h : lens s rows) {i j : Nat} (hi : i < rows.length) (hj : j < s) : rix rows i j = rixz rows i j := by
  obtain ⟨x, hx⟩ : ∃ x, rows[i]? = some x := ⟨rows[i], by simp [hi]⟩
  have h5 : x.length = s := h x (List.mem_of_getElem? hx)
  have hj' : j < x.length := by omega
  simp [rix, rixz, List.getD_eq_getElem?_getD, hx, List.getElem?_eq_getElem hj']
theorem vw_rows {s : Nat} {rows : List (List Value)} (h : lens s rows) : vw s rows.length (rixz rows) = rows.flatten := by
  apply List.ext_getElem?
  intro i
  have hl := flat_len h
  by_cases c : i < rows.length * s
  · have hs : 0 < s := by
      rcases Nat.eq_zero_or_pos s with e | e
      · subst e; omega
      · exact e
    have h1 : i / s < rows.length := (Nat.div_lt_iff_lt_mul hs).2 c
    have h2 := Nat.mod_lt i hs
    obtain ⟨x, hx⟩ : ∃ x, rows[i / s]? = some x := ⟨rows[i / s], by simp [h1]⟩
    have h3 := flat_get h hx h2
    rw [Nat.div_add_mod'] at h3
    have h4 := vw_get (g := rixz rows) h1 h2
    rw [Nat.div_add_mod'] at h4
    have h5 : x.length = s := h x (List.mem_of_getElem? hx)
    have hj' : i % s < x.length := by omega
    rw [h3, h4]
    simp [rixz, hx, List.getElem?_eq_getElem hj']
  · rw [List.getElem?_eq_none (by rw [vw_len]; omega), List.getElem?_eq_none (by omega)]
theorem BufR.ofGrown {e : TypeId} {s : Nat} {rows : List (List Value)} (h : lens s rows) (o : Grown s rows.length 0 (vw s rows.length (rixz rows))) : BufR e s (osl o.1 rows.length) (och e o.1 (vw s rows.length (rixz rows))) rows := by
  have e1 := vw_rows h
  refine ⟨h, ⟨.inr ⟨o.1, rfl, by rw [← e1], by rw [← e1]; exact o.2.1, List.eq_nil_of_length_eq_zero (Nat.le_zero.1 o.2.2)⟩⟩⟩
end
/-- Cells of one value each. -/
def ones (rows : List (List Value)) : Prop := ∀ x ∈ rows, ∀ y ∈ x, y.oneCell' = true
theorem ones.at {rows : List (List Value)} (h : ones rows) (i j : Nat) : (rixz rows i j).oneCell' = true := by
  simp only [rixz]
  cases h1 : rows[i]? with
  | none => rfl
  | some x =>
    simp only [Option.bind_some]
    cases h2 : x[j]? with
    | none => rfl
    | some y => exact h x (List.mem_of_getElem? h1) y (List.mem_of_getElem? h2)
theorem lks_ones (L : List Lk) : ones (lks L) := fun x hx y hy => by
  obtain ⟨l, _, rfl⟩ := List.mem_map.1 hx
  simp only [lkc, List.mem_cons, List.not_mem_nil, or_false] at hy
  rcases hy with rfl | rfl | rfl | rfl <;> rfl
theorem rnl_ones (L : List Rn) : ones (rnl L) := fun x hx y hy => by
  obtain ⟨l, _, rfl⟩ := List.mem_map.1 hx
  simp only [rnc, List.mem_cons, List.not_mem_nil, or_false] at hy
  rcases hy with rfl | rfl | rfl <;> rfl
attribute [local irreducible] SC St Fin Sq Ylds Doos Sets Enters Spec CellIs CellsAre Then Ret Rnd Chn resOK ints bools recs arr
section
variable {W : World} {N : List Chunk} {v : Value} {rows : List (List Value)}
set_option maxRecDepth 10000 in
theorem cloneL (hv : EV (K W N) v 4 rows) (h1 : ones rows) (hl : rows.length < 1000000) : Spec Tryz.prog 63 #[v] (K W N) (X := { x : Value × Chunk // BufR 111 4 x.1 x.2 rows }) (fun x => x.1.1) (fun x => K W (x.1.2 :: N)) := by
  have hV := hv.view.congr fun i hi j hj => rixz_eq hv.len hi hj
  obtain ⟨pa, c, rfl, hc, hp⟩ := hv.view
  refine enter (args := [_]) Tryz.func63 rfl Tryz.ntmps63 rfl ?_
  cases pa with
  | none =>
    have h0 : rows = [] := by
      refine List.eq_nil_of_length_eq_zero ?_
      rcases Nat.eq_zero_or_pos rows.length with e | e
      · exact e
      · obtain ⟨b, o, e2, _⟩ := hp e
        cases e2
    refine c_seq ?_
    refine c_region ?_
    refine s_y (y_assign rfl) rfl rfl rfl ?_
    refine s_nil ?_
    refine f_then ?_
    refine c_seq ?_
    refine c_seq ?_
    refine c_region ?_
    refine s_y (y_move rfl) rfl rfl rfl ?_
    refine s_y (y_eqlSN Tryz.tab rfl rfl) rfl rfl rfl ?_
    refine s_nil ?_
    refine f_then ?_
    refine c_condT rfl ?_
    refine c_seq ?_
    refine c_region ?_
    refine s_y (y_assign rfl) rfl rfl rfl ?_
    refine s_nil ?_
    refine f_then ?_
    refine c_ret ?_
    refine f_thenR ?_
    exact f_ret ⟨(.slice none 0 0, []), by rw [h0]; exact .nil⟩ (res1 rfl rfl) (fun w h => h.addNil)
  | some p =>
    refine c_seq ?_
    refine c_region ?_
    refine s_y (y_assign rfl) rfl rfl rfl ?_
    refine s_nil ?_
    refine f_then ?_
    refine c_seq ?_
    refine c_seq ?_
    refine c_region ?_
    refine s_y (y_move rfl) rfl rfl rfl ?_
    refine s_y (y_eqlSN Tryz.tab rfl rfl) rfl rfl rfl ?_
    refine s_nil ?_
    refine f_then ?_
    refine c_condF rfl ?_
    refine c_skip ?_
    refine f_then ?_
    refine c_seq ?_
    refine c_region ?_
    refine s_do (do_buildSliceS Tryz.tab ⟨rfl, rfl, rfl, rfl⟩ rfl rfl rfl rfl) rfl rfl rfl (fun b5 => ?_)
    refine s_y (y_move rfl) rfl rfl rfl ?_
    refine s_do (do_appendE (by_ := 32) (b := b5) (e := 111) Tryz.tab 0 rfl rfl (hV.cls fun _ h => h.tail) ⟨rfl, rfl, rfl, rfl⟩ rfl rfl h1.at (by unfold maxLen; omega) (by omega)) rfl rfl rfl (fun x => ?_)
    refine s_y (y_assign rfl) rfl rfl rfl ?_
    refine s_nil ?_
    refine f_then ?_
    refine c_ret ?_
    exact f_ret ⟨(osl x.1 rows.length, och 111 x.1 (vw 4 rows.length (rixz rows))), BufR.ofGrown hv.len x⟩ (res1 rfl rfl) (fun w h => h)
set_option maxRecDepth 10000 in
theorem cloneO (hv : EV (K W N) v 6 rows) (h1 : ones rows) (hl : rows.length < 1000000) : Spec Tryz.prog 58 #[v] (K W N) (X := { x : Value × Chunk // BufR 60 6 x.1 x.2 rows }) (fun x => x.1.1) (fun x => K W (x.1.2 :: N)) := by
  have hV := hv.view.congr fun i hi j hj => rixz_eq hv.len hi hj
  obtain ⟨pa, c, rfl, hc, hp⟩ := hv.view
  refine enter (args := [_]) Tryz.func58 rfl Tryz.ntmps58 rfl ?_
  cases pa with
  | none =>
    have h0 : rows = [] := by
      refine List.eq_nil_of_length_eq_zero ?_
      rcases Nat.eq_zero_or_pos rows.length with e | e
      · exact e
      · obtain ⟨b, o, e2, _⟩ := hp e
        cases e2
    refine c_seq ?_
    refine c_region ?_
    refine s_y (y_assign rfl) rfl rfl rfl ?_
    refine s_nil ?_
    refine f_then ?_
    refine c_seq ?_
    refine c_seq ?_
    refine c_region ?_
    refine s_y (y_move rfl) rfl rfl rfl ?_
    refine s_y (y_eqlSN Tryz.tab rfl rfl) rfl rfl rfl ?_
    refine s_nil ?_
    refine f_then ?_
    refine c_condT rfl ?_
    refine c_seq ?_
    refine c_region ?_
    refine s_y (y_assign rfl) rfl rfl rfl ?_
    refine s_nil ?_
    refine f_then ?_
    refine c_ret ?_
    refine f_thenR ?_
    exact f_ret ⟨(.slice none 0 0, []), by rw [h0]; exact .nil⟩ (res1 rfl rfl) (fun w h => h.addNil)
  | some p =>
    refine c_seq ?_
    refine c_region ?_
    refine s_y (y_assign rfl) rfl rfl rfl ?_
    refine s_nil ?_
    refine f_then ?_
    refine c_seq ?_
    refine c_seq ?_
    refine c_region ?_
    refine s_y (y_move rfl) rfl rfl rfl ?_
    refine s_y (y_eqlSN Tryz.tab rfl rfl) rfl rfl rfl ?_
    refine s_nil ?_
    refine f_then ?_
    refine c_condF rfl ?_
    refine c_skip ?_
    refine f_then ?_
    refine c_seq ?_
    refine c_region ?_
    refine s_do (do_buildSliceS Tryz.tab ⟨rfl, rfl, rfl, rfl⟩ rfl rfl rfl rfl) rfl rfl rfl (fun b5 => ?_)
    refine s_y (y_move rfl) rfl rfl rfl ?_
    refine s_do (do_appendE (by_ := 64) (b := b5) (e := 60) Tryz.tab 0 rfl rfl (hV.cls fun _ h => h.tail) ⟨rfl, rfl, rfl, rfl⟩ rfl rfl h1.at (by unfold maxLen; omega) (by omega)) rfl rfl rfl (fun x => ?_)
    refine s_y (y_assign rfl) rfl rfl rfl ?_
    refine s_nil ?_
    refine f_then ?_
    refine c_ret ?_
    exact f_ret ⟨(osl x.1 rows.length, och 60 x.1 (vw 6 rows.length (rixz rows))), BufR.ofGrown hv.len x⟩ (res1 rfl rfl) (fun w h => h)
set_option maxRecDepth 10000 in
theorem cloneR (hv : EV (K W N) v 3 rows) (h1 : ones rows) (hl : rows.length < 1000000) : Spec Tryz.prog 59 #[v] (K W N) (X := { x : Value × Chunk // BufR 26 3 x.1 x.2 rows }) (fun x => x.1.1) (fun x => K W (x.1.2 :: N)) := by
  have hV := hv.view.congr fun i hi j hj => rixz_eq hv.len hi hj
  obtain ⟨pa, c, rfl, hc, hp⟩ := hv.view
  refine enter (args := [_]) Tryz.func59 rfl Tryz.ntmps59 rfl ?_
  cases pa with
  | none =>
    have h0 : rows = [] := by
      refine List.eq_nil_of_length_eq_zero ?_
      rcases Nat.eq_zero_or_pos rows.length with e | e
      · exact e
      · obtain ⟨b, o, e2, _⟩ := hp e
        cases e2
    refine c_seq ?_
    refine c_region ?_
    refine s_y (y_assign rfl) rfl rfl rfl ?_
    refine s_nil ?_
    refine f_then ?_
    refine c_seq ?_
    refine c_seq ?_
    refine c_region ?_
    refine s_y (y_move rfl) rfl rfl rfl ?_
    refine s_y (y_eqlSN Tryz.tab rfl rfl) rfl rfl rfl ?_
    refine s_nil ?_
    refine f_then ?_
    refine c_condT rfl ?_
    refine c_seq ?_
    refine c_region ?_
    refine s_y (y_assign rfl) rfl rfl rfl ?_
    refine s_nil ?_
    refine f_then ?_
    refine c_ret ?_
    refine f_thenR ?_
    exact f_ret ⟨(.slice none 0 0, []), by rw [h0]; exact .nil⟩ (res1 rfl rfl) (fun w h => h.addNil)
  | some p =>
    refine c_seq ?_
    refine c_region ?_
    refine s_y (y_assign rfl) rfl rfl rfl ?_
    refine s_nil ?_
    refine f_then ?_
    refine c_seq ?_
    refine c_seq ?_
    refine c_region ?_
    refine s_y (y_move rfl) rfl rfl rfl ?_
    refine s_y (y_eqlSN Tryz.tab rfl rfl) rfl rfl rfl ?_
    refine s_nil ?_
    refine f_then ?_
    refine c_condF rfl ?_
    refine c_skip ?_
    refine f_then ?_
    refine c_seq ?_
    refine c_region ?_
    refine s_do (do_buildSliceS Tryz.tab ⟨rfl, rfl, rfl, rfl⟩ rfl rfl rfl rfl) rfl rfl rfl (fun b5 => ?_)
    refine s_y (y_move rfl) rfl rfl rfl ?_
    refine s_do (do_appendE (by_ := 24) (b := b5) (e := 26) Tryz.tab 0 rfl rfl (hV.cls fun _ h => h.tail) ⟨rfl, rfl, rfl, rfl⟩ rfl rfl h1.at (by unfold maxLen; omega) (by omega)) rfl rfl rfl (fun x => ?_)
    refine s_y (y_assign rfl) rfl rfl rfl ?_
    refine s_nil ?_
    refine f_then ?_
    refine c_ret ?_
    exact f_ret ⟨(osl x.1 rows.length, och 26 x.1 (vw 3 rows.length (rixz rows))), BufR.ofGrown hv.len x⟩ (res1 rfl rfl) (fun w h => h)
end
section
variable {C : World → Prop} {pa : Option Addr} {c : Nat} {fv : Value}
set_option maxRecDepth 10000 in
theorem ins0 : Spec Tryz.prog 144 #[.slice pa 0 c, .int .i64 0, .int .i64 0, fv] C (fun _ : Unit => .tuple #[]) (fun _ => C) := by
  refine enter (args := [_, _, _, _]) Tryz.func144 rfl Tryz.ntmps144 rfl ?_
  refine c_seq ?_
  refine c_region ?_
  refine s_y (y_move rfl) rfl rfl rfl ?_
  refine s_y (y_add rfl rfl (by omega)) rfl rfl rfl ?_
  refine s_y (y_assign rfl) rfl rfl rfl ?_
  refine s_nil ?_
  refine f_then ?_
  refine c_block ?_
  refine c_loopP (α := Unit) (fun _ => [(2, .int .i64 0), (8, .int .i64 1)]) (fun _ => True) (fun _ => C) (fun _ => 0) () ⟨rfl, rfl, trivial⟩ trivial (fun w h => h) ?_
  rintro _ _
  refine c_seq ?_
  refine c_seq ?_
  refine c_region ?_
  refine s_y (y_move rfl) rfl rfl rfl ?_
  refine s_y (y_move rfl) rfl rfl rfl ?_
  refine s_y (y_F (y_lss rfl rfl) (by omega)) rfl rfl rfl ?_
  refine s_nil ?_
  refine f_then ?_
  refine c_condF rfl ?_
  refine c_exit ?_
  refine f_thenE ?_
  refine f_rndE ?_
  refine f_blockE ?_
  exact f_end () (res0 rfl) (fun w h => h)
set_option maxRecDepth 10000 in
theorem stable0 : Spec Tryz.prog 135 #[.slice pa 0 c, .int .i64 0, fv] C (fun _ : Unit => .tuple #[]) (fun _ => C) := by
  refine enter (args := [_, _, _]) Tryz.func135 rfl Tryz.ntmps135 rfl ?_
  refine c_seq ?_
  refine c_region ?_
  refine s_y (y_assign rfl) rfl rfl rfl ?_
  refine s_nil ?_
  refine f_then ?_
  refine c_seq ?_
  refine c_region ?_
  refine s_y (y_move rfl) rfl rfl rfl ?_
  refine s_y (y_assign rfl) rfl rfl rfl ?_
  refine s_y (y_assign rfl) rfl rfl rfl ?_
  refine s_nil ?_
  refine f_then ?_
  refine c_seq ?_
  refine c_block ?_
  refine c_loopP (α := Unit) (fun _ => [(0, .slice pa 0 c), (1, .int .i64 0), (2, fv), (6, .int .i64 20), (7, .int .i64 0), (8, .int .i64 20)]) (fun _ => True) (fun _ => C) (fun _ => 0) () ⟨rfl, rfl, rfl, rfl, rfl, rfl, trivial⟩ trivial (fun w h => h) ?_
  rintro _ _
  refine c_seq ?_
  refine c_seq ?_
  refine c_region ?_
  refine s_y (y_move rfl) rfl rfl rfl ?_
  refine s_y (y_move rfl) rfl rfl rfl ?_
  refine s_y (y_F (y_leq rfl rfl) (by omega)) rfl rfl rfl ?_
  refine s_nil ?_
  refine f_then ?_
  refine c_condF rfl ?_
  refine c_exit ?_
  refine f_thenE ?_
  refine f_rndE ?_
  refine f_blockE ?_
  refine f_then ?_
  refine c_seq ?_
  refine c_region ?_
  refine s_y (y_move rfl) rfl rfl rfl ?_
  refine s_y (y_move rfl) rfl rfl rfl ?_
  refine s_y (y_move rfl) rfl rfl rfl ?_
  refine s_y (y_move rfl) rfl rfl rfl ?_
  refine s_call (en_f rfl Tryz.call144) ins0 rfl rfl rfl (fun _ => ?_)
  refine s_nil ?_
  refine f_then ?_
  refine c_block ?_
  refine c_loopP (α := Unit) (fun _ => [(1, .int .i64 0), (6, .int .i64 20)]) (fun _ => True) (fun _ => C) (fun _ => 0) () ⟨rfl, rfl, trivial⟩ trivial (fun w h => h) ?_
  rintro _ _
  refine c_seq ?_
  refine c_seq ?_
  refine c_region ?_
  refine s_y (y_move rfl) rfl rfl rfl ?_
  refine s_y (y_move rfl) rfl rfl rfl ?_
  refine s_y (y_F (y_lss rfl rfl) (by omega)) rfl rfl rfl ?_
  refine s_nil ?_
  refine f_then ?_
  refine c_condF rfl ?_
  refine c_exit ?_
  refine f_thenE ?_
  refine f_rndE ?_
  refine f_blockE ?_
  exact f_end () (res0 rfl) (fun w h => h)
set_option maxRecDepth 10000 in
theorem sort0 : Spec Tryz.prog 122 #[.slice pa 0 c, fv] C (fun _ : Unit => .tuple #[]) (fun _ => C) := by
  refine enter (args := [_, _]) Tryz.func122 rfl Tryz.ntmps122 rfl ?_
  refine c_region ?_
  refine s_y (y_move rfl) rfl rfl rfl ?_
  refine s_y (y_move rfl) rfl rfl rfl ?_
  refine s_y (y_len Tryz.tab rfl rfl) rfl rfl rfl ?_
  refine s_y (y_move rfl) rfl rfl rfl ?_
  refine s_call (en_f rfl Tryz.call135) stable0 rfl rfl rfl (fun _ => ?_)
  refine s_nil ?_
  exact f_end () (res0 rfl) (fun w h => h)
end
end Go.KL
end

section
/- Walks: holds. -/
namespace Go.KL
open Go.Proofs
abbrev lkf (L : List Lk) : Nat → Lk := fun i => L.getD i Lk.zero
theorem lrow_of {L : List Lk} {o : Own} (hp : o.pre = []) : och 111 o (lks L).flatten = lrow o.b (lkf L) L.length o.rest (fun i => i) := by
  have hl : (lks L).length = L.length := List.length_map _
  have e : (List.range (L.length * 4)).map (fun i => (lkc (lkf L (i / 4))).getD (i % 4) undef) = (lks L).flatten := by
    rw [← vw_rows (lks_len L), hl]
    unfold vw
    refine List.map_congr_left fun i hi => ?_
    have hi := List.mem_range.1 hi
    have h1 : i / 4 < L.length := by omega
    have h2 : i % 4 < 4 := by omega
    have h3 : i % 4 < (lkc L[i / 4]).length := h2
    simp [rixz, lkf, List.getD_eq_getElem?_getD, h1, List.getElem?_eq_getElem h3]
  unfold lrow
  rw [recs_rl, och, hp]
  congr 3
  rw [List.nil_append, ← e]
  rfl
theorem blk_onto {R g : Nat → Nat} {n : Nat} (h : Blk R g 0 n) {i : Nat} (hi : i < n) : ∃ j, j < n ∧ g j = i := by
  by_cases c : ∃ j, j < n ∧ g j = i
  · exact c
  · exfalso
    have hn : ((List.range n).map g).Nodup := by
      rw [List.Nodup, List.pairwise_map]
      refine List.Pairwise.imp_of_mem ?_ List.pairwise_lt_range
      intro a b ha hb hlt e
      have := h.srt a b (Nat.zero_le _) hlt (List.mem_range.1 hb)
      rw [e] at this
      exact ltR_irr this
    have := Bk.nodup_le (L := (List.range n).erase i) hn fun x hx => by
      obtain ⟨j, hj, rfl⟩ := List.mem_map.1 hx
      have hj := List.mem_range.1 hj
      exact (List.mem_erase_of_ne (fun e => c ⟨j, hj, e⟩)).2 (List.mem_range.2 (h.rng j (Nat.zero_le _) hj).2)
    rw [List.length_erase_of_mem (List.mem_range.2 hi), List.length_map, List.length_range] at this
    omega
/-- The state of the look for a range: places up to lo' are covered, and no lock that was passed covers lo'. -/
structure Cov (L : List Lk) (wr : Bool) (lo : Nat) (P : Lk → Prop) (lo' : Nat) : Prop where
  le : lo ≤ lo'
  cov : ∀ i, lo ≤ i → i < lo' → ∃ x ∈ L, (x.wr = true ∨ wr = false) ∧ x.lo ≤ i ∧ i < x.hi
  no : ∀ x, P x → (x.wr = true ∨ wr = false) → ¬ (x.lo ≤ lo' ∧ lo' < x.hi)
theorem Cov.begin {L : List Lk} {wr : Bool} {lo : Nat} {P : Lk → Prop} (h : ∀ x, ¬ P x) : Cov L wr lo P lo := ⟨Nat.le_refl _, fun i h1 h2 => by omega, fun x hx => absurd hx (h x)⟩
theorem Cov.hit {L : List Lk} {wr : Bool} {lo lo' : Nat} {P P' : Lk → Prop} {x : Lk} (h : Cov L wr lo P lo') (hx : x ∈ L) (hu : x.wr = true ∨ wr = false) (h1 : x.lo ≤ lo') (h2 : lo' < x.hi) (hP : ∀ y, P' y → P y ∨ y = x) (hs : ∀ y, P y → y.lo ≤ x.lo) : Cov L wr lo P' x.hi := by
  refine ⟨by have := h.le; omega, fun i i1 i2 => ?_, fun y hy huy hc => ?_⟩
  · by_cases c : i < lo'
    · exact h.cov i i1 c
    · exact ⟨x, hx, hu, by omega, i2⟩
  · rcases hP y hy with hy | rfl
    · have := hs y hy
      exact h.no y hy huy ⟨by omega, by omega⟩
    · omega
theorem Cov.miss {L : List Lk} {wr : Bool} {lo lo' : Nat} {P P' : Lk → Prop} {x : Lk} (h : Cov L wr lo P lo') (hm : ¬ ((x.wr = true ∨ wr = false) ∧ x.lo ≤ lo' ∧ lo' < x.hi)) (hP : ∀ y, P' y → P y ∨ y = x) : Cov L wr lo P' lo' := by
  refine ⟨h.le, h.cov, fun y hy huy hc => ?_⟩
  rcases hP y hy with hy | rfl
  · exact h.no y hy huy hc
  · exact hm ⟨huy, hc⟩
theorem Cov.iff {L : List Lk} {wr : Bool} {lo hi lo' : Nat} {P : Lk → Prop} (h : Cov L wr lo P lo') (hP : ∀ x ∈ L, P x) : hi ≤ lo' ↔ Hold L lo hi wr := by
  constructor
  · exact fun hh i h1 h2 => h.cov i h1 (by omega)
  · intro hh
    by_cases c : hi ≤ lo'
    · exact c
    · obtain ⟨x, hx, hu, h1, h2⟩ := hh lo' h.le (by omega)
      exact absurd ⟨h1, h2⟩ (h.no x (hP x hx) hu)
/-- Locks in a row, in order. -/
structure SrtL (v : Value) (c : Chunk) (L L' : List Lk) : Prop where
  mem : ∀ x, x ∈ L' ↔ x ∈ L
  len : L'.length = L.length
  srt : ∀ (i j : Nat) (x y : Lk), i ≤ j → L'[i]? = some x → L'[j]? = some y → x.lo ≤ y.lo
  view : ∀ (W : World) (Ls : List Chunk), EV (K W (c :: Ls)) v 4 (lks L')
theorem SrtL.mk' {L : List Lk} {g : Nat → Nat} {b cp : Nat} {rest : List Value} (hM : ∀ x ∈ L, x.lo ≤ 1099511627776) (h : Blk (fun x => 1099511627776 - (lkf L x).lo) g 0 L.length) (hc : L.length ≤ cp) : SrtL (.slice (some ⟨b, 0, none⟩) L.length cp) (lrow b (lkf L) L.length rest g) L ((List.range L.length).map fun i => lkf L (g i)) := by
  have hlf : ∀ i, i < L.length → L[i]? = some (lkf L i) := fun i hi => by simp [lkf, List.getD_eq_getElem?_getD, hi]
  have hlm : ∀ i, i < L.length → lkf L i ∈ L := fun i hi => List.mem_of_getElem? (hlf i hi)
  refine ⟨fun x => ⟨fun hx => ?_, fun hx => ?_⟩, by simp, fun i j x y hij hx hy => ?_, fun W Ls => ⟨lks_len _, ?_⟩⟩
  · obtain ⟨i, hi, rfl⟩ := List.mem_map.1 hx
    exact hlm _ (h.rng i (Nat.zero_le _) (List.mem_range.1 hi)).2
  · obtain ⟨i, hi⟩ := List.getElem?_of_mem hx
    have hlt := (List.getElem?_eq_some_iff.1 hi).1
    obtain ⟨j, hj, e⟩ := blk_onto h hlt
    refine List.mem_map.2 ⟨j, List.mem_range.2 hj, ?_⟩
    rw [e]
    have := hlf i hlt
    rw [hi] at this
    exact (Option.some.inj this).symm
  · have hj : j < L.length := by have := (List.getElem?_eq_some_iff.1 hy).1; simpa using this
    have hi : i < L.length := by omega
    simp [hi] at hx
    simp [hj] at hy
    rw [← hx, ← hy]
    by_cases c : i = j
    · subst c; exact Nat.le_refl _
    · have h1 := h.srt i j (Nat.zero_le _) (by omega) hj
      have h2 := hM _ (hlm _ (h.rng i (Nat.zero_le _) hi).2)
      have h3 := hM _ (hlm _ (h.rng j (Nat.zero_le _) hj).2)
      simp only [ltR, lkf, List.getD_eq_getElem?_getD] at h1 h2 h3 ⊢
      omega
  · simp only [List.length_map, List.length_range]
    refine ⟨_, _, rfl, hc, fun _ => ⟨b, 0, rfl, fun i hi j hj => ?_⟩⟩
    have := cells_lrow (W := W) (Ls := lrow b (lkf L) L.length rest g :: Ls) 0 rfl hi
    have h2 : CellIs (K W (lrow b (lkf L) L.length rest g :: Ls)) ⟨b, 0 + i * 4 + j, none⟩ (rix (lks ((List.range L.length).map fun i => lkf L (g i))) i j) := by
      intro w hw
      have := this w hw j hj
      rw [addr_add] at this
      rw [Nat.zero_add, this]
      simp [rix, List.getD_eq_getElem?_getD, hi]
      have hj' : j < (lkc ((L[g i]?).getD Lk.zero)).length := hj
      simp [List.getElem?_eq_getElem hj']
    exact h2
theorem sortL {W : World} {N : List Chunk} {v : Value} {c : Chunk} {L : List Lk} (hR : BufR 111 4 v c (lks L)) (hl : L.length ≤ 4096) (hlo : ∀ x ∈ L, x.lo ≤ 1099511627776) :
    Spec Tryz.prog 122 #[v, .func (.func 123) #[] #[]] (K W (c :: N)) (X := { x : Chunk × List Lk // SrtL v x.1 L x.2 }) (fun _ => .tuple #[]) (fun x => K W (x.1.1 :: N)) := by
  have hl2 : (lks L).length = L.length := List.length_map _
  have h0 : ∀ {pa c'} {C : World → Prop}, SrtL (.slice pa 0 c') [] [] [] → True := fun _ => trivial
  have e0 : ∀ {pa c' d}, SrtL (.slice pa 0 c') d [] [] := fun {pa c' d} => ⟨fun x => Iff.rfl, rfl, fun i j x y _ h => by simp at h, fun W Ls => ⟨lens.nil, SlV.empty⟩⟩
  clear h0
  rcases hR.buf.ok with ⟨h1, h2, rfl, rfl⟩ | ⟨o, rfl, rfl, ho, hp⟩
  · have hL : L = [] := List.eq_nil_of_length_eq_zero (by omega)
    subst hL
    exact (sort0 (C := K W ([] :: N)) (pa := none) (c := 0) (fv := .func (.func 123) #[] #[])).map (Y := { x : Chunk × List Lk // SrtL (.slice none 0 0) x.1 [] x.2 }) (fun _ => ⟨([], []), e0⟩) (fun _ => rfl) (fun _ _ h => h)
  · have hcap := ho.le
    rw [hl2] at hcap
    have e1 : och 111 o (lks L).flatten = lrow o.b (lkf L) L.length o.rest (fun i => i) := lrow_of hp
    have e2 : osl o (lks L).length = .slice (some ⟨o.b, 0, none⟩) L.length o.cap := by rw [hl2, osl, hp]; rfl
    rw [e1, e2]
    have hcmp : CmpL (lkf L) L.length (fun x => 1099511627776 - (lkf L x).lo) := less_spec fun x hx => hlo _ (List.mem_of_getElem? (show L[x]? = some (lkf L x) by simp [lkf, List.getD_eq_getElem?_getD, hx]))
    exact (sortStable_spec (W := W) (N := N) (rest := o.rest) (cp := o.cap) (bo := o.b) hcmp hl).map (Y := { x : Chunk × List Lk // SrtL (.slice (some ⟨o.b, 0, none⟩) L.length o.cap) x.1 L x.2 }) (fun g => ⟨(_, _), SrtL.mk' hlo g.2 hcap⟩) (fun _ => rfl) (fun _ _ h => h)
attribute [local irreducible] SC St Fin Sq Ylds Doos Sets Enters Spec CellIs CellsAre Then Ret Rnd Chn resOK ints bools recs arr
set_option maxRecDepth 10000 in
set_option maxHeartbeats 8000000 in
theorem holds_b {W : World} {N : List Chunk} {t : Tg} {lo hi : Nat} {wr : Bool} (hT : TF (K W N) t) (hl : t.locks.length ≤ 4096) (hlo : ∀ x ∈ t.locks, x.lo ≤ 1099511627776) :
    Spec Tryz.prog 109 #[.pointer (some ⟨t.b, 0, none⟩), .int .i64 (lo : Nat), .int .i64 (hi : Nat), .bool wr] (K W N) (fun _ : Unit => .bool (decide (Hold t.locks lo hi wr))) (fun _ => K W N) := by
  obtain ⟨t0, t1, t2, t3, t7, tl, to⟩ := hT
  clear t0 t1 t3 t7 to
  have hl2 : (lks t.locks).length = t.locks.length := List.length_map _
  refine enter (args := [_, _, _, _]) Tryz.func109 rfl Tryz.ntmps109 rfl ?_
  refine c_seq ?_
  refine c_region ?_
  refine s_y (y_assign rfl) rfl rfl rfl ?_
  refine s_nil ?_
  refine f_then ?_
  refine c_seq ?_
  refine c_region ?_
  refine s_y (y_move rfl) rfl rfl rfl ?_
  refine s_y (y_nilP rfl) rfl rfl rfl ?_
  refine s_y (y_fieldAddrB Tryz.tab 2 rfl rfl rfl rfl rfl) rfl rfl rfl ?_
  refine s_y (y_load Tryz.tab rfl rfl t2) rfl rfl rfl ?_
  refine s_call (en_f rfl Tryz.call63) (cloneL tl (lks_ones _) (by omega)) rfl rfl rfl (fun x => ?_)
  obtain ⟨⟨v, c⟩, hR⟩ := x
  dsimp only at hR ⊢
  refine s_y (y_assign rfl) rfl rfl rfl ?_
  refine s_nil ?_
  refine f_then ?_
  refine c_seq ?_
  refine c_region ?_
  refine s_y (y_move rfl) rfl rfl rfl ?_
  refine s_call (en_f rfl Tryz.call122) (sortL hR hl hlo) rfl rfl rfl (fun x => ?_)
  obtain ⟨⟨c2, L'⟩, hS⟩ := x
  dsimp only at hS ⊢
  have hE := hS.view W N
  have hl3 : (lks L').length = t.locks.length := by rw [List.length_map, hS.len]
  refine s_nil ?_
  refine f_then ?_
  refine c_seq ?_
  refine c_seq ?_
  refine c_region ?_
  refine s_y (y_move rfl) rfl rfl rfl ?_
  refine s_y (y_lenE Tryz.tab rfl (hE) rfl) rfl rfl rfl ?_
  refine s_y (y_move rfl) rfl rfl rfl ?_
  refine s_nil ?_
  refine f_then ?_
  refine c_block ?_
  refine c_loopP (α := Nat × Nat) (fun z => [(1, .int .i64 (z.2 : Nat)), (2, .int .i64 (hi : Nat)), (3, .bool wr), (19, v), (20, .int .i64 (lks L').length), (21, .int .i64 (z.1 : Nat))]) (fun z => z.1 ≤ L'.length ∧ Cov t.locks wr lo (fun y => y ∈ L'.take z.1) z.2) (fun _ => K W (c2 :: N)) (fun z => L'.length - z.1) (0, lo)
    ⟨rfl, rfl, rfl, rfl, rfl, rfl, trivial⟩ ⟨Nat.zero_le _, .begin fun x h => by simp at h⟩ (fun w h => h) ?_
  rintro ⟨i, p⟩ ⟨hi1, hC⟩
  dsimp only at hi1 hC ⊢
  have hl4 := hS.len
  by_cases c1 : i < L'.length
  · obtain ⟨x, hx⟩ : ∃ x, L'[i]? = some x := ⟨L'[i], by simp [c1]⟩
    have hxm := (hS.mem x).1 (List.mem_of_getElem? hx)
    have hcx := hE.row (lks_get hx)
    have hP : ∀ y, y ∈ L'.take (i + 1) → y ∈ L'.take i ∨ y = x := fun y hy => by
      rw [List.take_add_one, hx] at hy
      simpa using hy
    have hs : ∀ y, y ∈ L'.take i → y.lo ≤ x.lo := fun y hy => by
      obtain ⟨j, hj⟩ := List.getElem?_of_mem hy
      have hj2 : j < i := by have := (List.getElem?_eq_some_iff.1 hj).1; simp at this; omega
      rw [List.getElem?_take_of_lt hj2] at hj
      exact hS.srt j i y x (by omega) hj hx
    have hlx : (lkc x).length = 4 := rfl
    refine c_seq ?_
    refine c_region ?_
    refine s_y (y_T (y_lss rfl rfl) (by omega)) rfl rfl rfl ?_
    refine s_nil ?_
    refine f_then ?_
    refine c_seq ?_
    refine c_condT rfl ?_
    refine c_skip ?_
    refine f_then ?_
    refine c_seq ?_
    refine c_block ?_
    refine c_seq ?_
    refine c_region ?_
    refine s_y (y_ixE Tryz.tab rfl rfl rfl rfl (hE) _ rfl (by omega)) rfl rfl rfl ?_
    refine s_y (y_loadA Tryz.tab rfl rfl rfl rfl hcx) rfl rfl rfl ?_
    refine s_do (do_alloc Tryz.tab rfl) rfl rfl rfl (fun b11 => ?_)
    refine s_set (set_box Tryz.tab 0 rfl rfl rfl rfl rfl rfl rfl) rfl rfl ?_
    refine s_nil ?_
    refine f_then ?_
    refine c_seq ?_
    refine c_region ?_
    refine s_y (y_fieldAddrB Tryz.tab 3 rfl rfl rfl rfl rfl) rfl rfl rfl ?_
    refine s_y (y_load Tryz.tab rfl rfl (cell_row 0 rfl rfl)) rfl rfl rfl ?_
    refine s_y (y_move rfl) rfl rfl rfl ?_
    cases hxw : x.wr with
    | true =>
      by_cases h1 : x.lo ≤ p
      · by_cases h2 : p < x.hi
        · have hC2 := hC.hit hxm (.inl hxw) h1 h2 hP hs
          iterate 2 refine s_skip rfl rfl rfl ?_
          refine s_y (y_pickT rfl rfl) rfl rfl rfl ?_
          refine s_y (y_move rfl) rfl rfl rfl ?_
          refine s_y (y_fieldAddrB Tryz.tab 1 rfl rfl rfl rfl rfl) rfl rfl rfl ?_
          refine s_y (y_load Tryz.tab rfl rfl (cell_row 0 rfl rfl)) rfl rfl rfl ?_
          refine s_y (y_move rfl) rfl rfl rfl ?_
          refine s_y (y_T (y_leq rfl rfl) (by omega)) rfl rfl rfl ?_
          refine s_y (y_pickT rfl rfl) rfl rfl rfl ?_
          refine s_y (y_move rfl) rfl rfl rfl ?_
          refine s_y (y_move rfl) rfl rfl rfl ?_
          refine s_y (y_fieldAddrB Tryz.tab 2 rfl rfl rfl rfl rfl) rfl rfl rfl ?_
          refine s_y (y_load Tryz.tab rfl rfl (cell_row 0 rfl rfl)) rfl rfl rfl ?_
          refine s_y (y_T (y_lss rfl rfl) (by omega)) rfl rfl rfl ?_
          refine s_y (y_pickT rfl rfl) rfl rfl rfl ?_
          refine s_nil ?_
          refine f_then ?_
          refine c_condT rfl ?_
          refine c_region ?_
          refine s_y (y_fieldAddrB Tryz.tab 2 rfl rfl rfl rfl rfl) rfl rfl rfl ?_
          refine s_y (y_load Tryz.tab rfl rfl (cell_row 0 rfl rfl)) rfl rfl rfl ?_
          refine s_y (y_assign rfl) rfl rfl rfl ?_
          refine s_nil ?_
          refine f_blockN ?_
          refine f_then ?_
          refine c_region ?_
          refine s_y (y_add rfl rfl (by omega)) rfl rfl rfl ?_
          refine s_y (y_move rfl) rfl rfl rfl ?_
          refine s_nil ?_
          exact f_roundP (i + 1, x.hi) ⟨c1, hC2⟩ (by dsimp only; omega) ⟨rfl, rfl, rfl, rfl, rfl, rfl, trivial⟩ (fun w h => h.tail)
        · have hC2 := hC.miss (x := x) (fun h => h2 h.2.2) hP
          iterate 2 refine s_skip rfl rfl rfl ?_
          refine s_y (y_pickT rfl rfl) rfl rfl rfl ?_
          refine s_y (y_move rfl) rfl rfl rfl ?_
          refine s_y (y_fieldAddrB Tryz.tab 1 rfl rfl rfl rfl rfl) rfl rfl rfl ?_
          refine s_y (y_load Tryz.tab rfl rfl (cell_row 0 rfl rfl)) rfl rfl rfl ?_
          refine s_y (y_move rfl) rfl rfl rfl ?_
          refine s_y (y_T (y_leq rfl rfl) (by omega)) rfl rfl rfl ?_
          refine s_y (y_pickT rfl rfl) rfl rfl rfl ?_
          refine s_y (y_move rfl) rfl rfl rfl ?_
          refine s_y (y_move rfl) rfl rfl rfl ?_
          refine s_y (y_fieldAddrB Tryz.tab 2 rfl rfl rfl rfl rfl) rfl rfl rfl ?_
          refine s_y (y_load Tryz.tab rfl rfl (cell_row 0 rfl rfl)) rfl rfl rfl ?_
          refine s_y (y_F (y_lss rfl rfl) (by omega)) rfl rfl rfl ?_
          refine s_y (y_pickT rfl rfl) rfl rfl rfl ?_
          refine s_nil ?_
          refine f_then ?_
          refine c_condF rfl ?_
          refine c_skip ?_
          refine f_blockN ?_
          refine f_then ?_
          refine c_region ?_
          refine s_y (y_add rfl rfl (by omega)) rfl rfl rfl ?_
          refine s_y (y_move rfl) rfl rfl rfl ?_
          refine s_nil ?_
          exact f_roundP (i + 1, p) ⟨c1, hC2⟩ (by dsimp only; omega) ⟨rfl, rfl, rfl, rfl, rfl, rfl, trivial⟩ (fun w h => h.tail)
      · have hC2 := hC.miss (x := x) (fun h => h1 h.2.1) hP
        iterate 2 refine s_skip rfl rfl rfl ?_
        refine s_y (y_pickT rfl rfl) rfl rfl rfl ?_
        refine s_y (y_move rfl) rfl rfl rfl ?_
        refine s_y (y_fieldAddrB Tryz.tab 1 rfl rfl rfl rfl rfl) rfl rfl rfl ?_
        refine s_y (y_load Tryz.tab rfl rfl (cell_row 0 rfl rfl)) rfl rfl rfl ?_
        refine s_y (y_move rfl) rfl rfl rfl ?_
        refine s_y (y_F (y_leq rfl rfl) (by omega)) rfl rfl rfl ?_
        refine s_y (y_pickT rfl rfl) rfl rfl rfl ?_
        refine s_y (y_move rfl) rfl rfl rfl ?_
        iterate 4 refine s_skip rfl rfl rfl ?_
        refine s_y (y_pickF rfl rfl) rfl rfl rfl ?_
        refine s_nil ?_
        refine f_then ?_
        refine c_condF rfl ?_
        refine c_skip ?_
        refine f_blockN ?_
        refine f_then ?_
        refine c_region ?_
        refine s_y (y_add rfl rfl (by omega)) rfl rfl rfl ?_
        refine s_y (y_move rfl) rfl rfl rfl ?_
        refine s_nil ?_
        exact f_roundP (i + 1, p) ⟨c1, hC2⟩ (by dsimp only; omega) ⟨rfl, rfl, rfl, rfl, rfl, rfl, trivial⟩ (fun w h => h.tail)
    | false =>
      cases wr with
      | false =>
        by_cases h1 : x.lo ≤ p
        · by_cases h2 : p < x.hi
          · have hC2 := hC.hit hxm (.inr rfl) h1 h2 hP hs
            refine s_y (y_move rfl) rfl rfl rfl ?_
            refine s_y (y_notF rfl) rfl rfl rfl ?_
            refine s_y (y_pickF rfl rfl) rfl rfl rfl ?_
            refine s_y (y_move rfl) rfl rfl rfl ?_
            refine s_y (y_fieldAddrB Tryz.tab 1 rfl rfl rfl rfl rfl) rfl rfl rfl ?_
            refine s_y (y_load Tryz.tab rfl rfl (cell_row 0 rfl rfl)) rfl rfl rfl ?_
            refine s_y (y_move rfl) rfl rfl rfl ?_
            refine s_y (y_T (y_leq rfl rfl) (by omega)) rfl rfl rfl ?_
            refine s_y (y_pickT rfl rfl) rfl rfl rfl ?_
            refine s_y (y_move rfl) rfl rfl rfl ?_
            refine s_y (y_move rfl) rfl rfl rfl ?_
            refine s_y (y_fieldAddrB Tryz.tab 2 rfl rfl rfl rfl rfl) rfl rfl rfl ?_
            refine s_y (y_load Tryz.tab rfl rfl (cell_row 0 rfl rfl)) rfl rfl rfl ?_
            refine s_y (y_T (y_lss rfl rfl) (by omega)) rfl rfl rfl ?_
            refine s_y (y_pickT rfl rfl) rfl rfl rfl ?_
            refine s_nil ?_
            refine f_then ?_
            refine c_condT rfl ?_
            refine c_region ?_
            refine s_y (y_fieldAddrB Tryz.tab 2 rfl rfl rfl rfl rfl) rfl rfl rfl ?_
            refine s_y (y_load Tryz.tab rfl rfl (cell_row 0 rfl rfl)) rfl rfl rfl ?_
            refine s_y (y_assign rfl) rfl rfl rfl ?_
            refine s_nil ?_
            refine f_blockN ?_
            refine f_then ?_
            refine c_region ?_
            refine s_y (y_add rfl rfl (by omega)) rfl rfl rfl ?_
            refine s_y (y_move rfl) rfl rfl rfl ?_
            refine s_nil ?_
            exact f_roundP (i + 1, x.hi) ⟨c1, hC2⟩ (by dsimp only; omega) ⟨rfl, rfl, rfl, rfl, rfl, rfl, trivial⟩ (fun w h => h.tail)
          · have hC2 := hC.miss (x := x) (fun h => h2 h.2.2) hP
            refine s_y (y_move rfl) rfl rfl rfl ?_
            refine s_y (y_notF rfl) rfl rfl rfl ?_
            refine s_y (y_pickF rfl rfl) rfl rfl rfl ?_
            refine s_y (y_move rfl) rfl rfl rfl ?_
            refine s_y (y_fieldAddrB Tryz.tab 1 rfl rfl rfl rfl rfl) rfl rfl rfl ?_
            refine s_y (y_load Tryz.tab rfl rfl (cell_row 0 rfl rfl)) rfl rfl rfl ?_
            refine s_y (y_move rfl) rfl rfl rfl ?_
            refine s_y (y_T (y_leq rfl rfl) (by omega)) rfl rfl rfl ?_
            refine s_y (y_pickT rfl rfl) rfl rfl rfl ?_
            refine s_y (y_move rfl) rfl rfl rfl ?_
            refine s_y (y_move rfl) rfl rfl rfl ?_
            refine s_y (y_fieldAddrB Tryz.tab 2 rfl rfl rfl rfl rfl) rfl rfl rfl ?_
            refine s_y (y_load Tryz.tab rfl rfl (cell_row 0 rfl rfl)) rfl rfl rfl ?_
            refine s_y (y_F (y_lss rfl rfl) (by omega)) rfl rfl rfl ?_
            refine s_y (y_pickT rfl rfl) rfl rfl rfl ?_
            refine s_nil ?_
            refine f_then ?_
            refine c_condF rfl ?_
            refine c_skip ?_
            refine f_blockN ?_
            refine f_then ?_
            refine c_region ?_
            refine s_y (y_add rfl rfl (by omega)) rfl rfl rfl ?_
            refine s_y (y_move rfl) rfl rfl rfl ?_
            refine s_nil ?_
            exact f_roundP (i + 1, p) ⟨c1, hC2⟩ (by dsimp only; omega) ⟨rfl, rfl, rfl, rfl, rfl, rfl, trivial⟩ (fun w h => h.tail)
        · have hC2 := hC.miss (x := x) (fun h => h1 h.2.1) hP
          refine s_y (y_move rfl) rfl rfl rfl ?_
          refine s_y (y_notF rfl) rfl rfl rfl ?_
          refine s_y (y_pickF rfl rfl) rfl rfl rfl ?_
          refine s_y (y_move rfl) rfl rfl rfl ?_
          refine s_y (y_fieldAddrB Tryz.tab 1 rfl rfl rfl rfl rfl) rfl rfl rfl ?_
          refine s_y (y_load Tryz.tab rfl rfl (cell_row 0 rfl rfl)) rfl rfl rfl ?_
          refine s_y (y_move rfl) rfl rfl rfl ?_
          refine s_y (y_F (y_leq rfl rfl) (by omega)) rfl rfl rfl ?_
          refine s_y (y_pickT rfl rfl) rfl rfl rfl ?_
          refine s_y (y_move rfl) rfl rfl rfl ?_
          iterate 4 refine s_skip rfl rfl rfl ?_
          refine s_y (y_pickF rfl rfl) rfl rfl rfl ?_
          refine s_nil ?_
          refine f_then ?_
          refine c_condF rfl ?_
          refine c_skip ?_
          refine f_blockN ?_
          refine f_then ?_
          refine c_region ?_
          refine s_y (y_add rfl rfl (by omega)) rfl rfl rfl ?_
          refine s_y (y_move rfl) rfl rfl rfl ?_
          refine s_nil ?_
          exact f_roundP (i + 1, p) ⟨c1, hC2⟩ (by dsimp only; omega) ⟨rfl, rfl, rfl, rfl, rfl, rfl, trivial⟩ (fun w h => h.tail)
      | true =>
        have hC2 := hC.miss (x := x) (fun h => by
          rcases h.1 with h | h
          · rw [hxw] at h; cases h
          · cases h) hP
        refine s_y (y_move rfl) rfl rfl rfl ?_
        refine s_y (y_notT rfl) rfl rfl rfl ?_
        refine s_y (y_pickF rfl rfl) rfl rfl rfl ?_
        refine s_y (y_move rfl) rfl rfl rfl ?_
        iterate 4 refine s_skip rfl rfl rfl ?_
        refine s_y (y_pickF rfl rfl) rfl rfl rfl ?_
        refine s_y (y_move rfl) rfl rfl rfl ?_
        iterate 4 refine s_skip rfl rfl rfl ?_
        refine s_y (y_pickF rfl rfl) rfl rfl rfl ?_
        refine s_nil ?_
        refine f_then ?_
        refine c_condF rfl ?_
        refine c_skip ?_
        refine f_blockN ?_
        refine f_then ?_
        refine c_region ?_
        refine s_y (y_add rfl rfl (by omega)) rfl rfl rfl ?_
        refine s_y (y_move rfl) rfl rfl rfl ?_
        refine s_nil ?_
        exact f_roundP (i + 1, p) ⟨c1, hC2⟩ (by dsimp only; omega) ⟨rfl, rfl, rfl, rfl, rfl, rfl, trivial⟩ (fun w h => h.tail)
  · obtain rfl : i = L'.length := by omega
    have hiff := hC.iff (hi := hi) fun x hx => by rw [List.take_length]; exact (hS.mem x).2 hx
    by_cases c2 : hi ≤ p
    · rw [decide_eq_true (hiff.1 c2)]
      refine c_seq ?_
      refine c_region ?_
      refine s_y (y_F (y_lss rfl rfl) (by omega)) rfl rfl rfl ?_
      refine s_nil ?_
      refine f_then ?_
      refine c_seq ?_
      refine c_condF rfl ?_
      refine c_exit ?_
      refine f_thenE ?_
      refine f_rndE ?_
      refine f_blockE ?_
      refine f_then ?_
      refine c_seq ?_
      refine c_region ?_
      refine s_y (y_move rfl) rfl rfl rfl ?_
      refine s_y (y_move rfl) rfl rfl rfl ?_
      refine s_y (y_T (y_geq rfl rfl) (by omega)) rfl rfl rfl ?_
      refine s_y (y_assign rfl) rfl rfl rfl ?_
      refine s_nil ?_
      refine f_then ?_
      refine c_ret ?_
      exact f_ret () (res1 rfl rfl) (fun w h => h.tail)
    · rw [decide_eq_false (fun h => c2 (hiff.2 h))]
      refine c_seq ?_
      refine c_region ?_
      refine s_y (y_F (y_lss rfl rfl) (by omega)) rfl rfl rfl ?_
      refine s_nil ?_
      refine f_then ?_
      refine c_seq ?_
      refine c_condF rfl ?_
      refine c_exit ?_
      refine f_thenE ?_
      refine f_rndE ?_
      refine f_blockE ?_
      refine f_then ?_
      refine c_seq ?_
      refine c_region ?_
      refine s_y (y_move rfl) rfl rfl rfl ?_
      refine s_y (y_move rfl) rfl rfl rfl ?_
      refine s_y (y_F (y_geq rfl rfl) (by omega)) rfl rfl rfl ?_
      refine s_y (y_assign rfl) rfl rfl rfl ?_
      refine s_nil ?_
      refine f_then ?_
      refine c_ret ?_
      exact f_ret () (res1 rfl rfl) (fun w h => h.tail)
end Go.KL
end

section
/- Clearing rows; entries of maps that are made and stored in two steps. No program in sight. -/
namespace Go.KL
section
variable {P : Program} {W w : World} {Ls : List Chunk} {n : Nat} {σ : Slots} {dst : Option Tmp} {ty : TypeId} {pos : String} {after : Array Edge} {guard : Option (Nat × Bool)}
theorem over_take (vs L : List Value) (off : Nat) (h : off + vs.length ≤ L.length) : (over L off vs).take off = L.take off := by
  have h1 := over_app vs (L.take off) (L.drop off) (by simp; omega)
  rw [List.take_append_drop, List.length_take, Nat.min_eq_left (by omega)] at h1
  rw [h1, List.append_assoc, List.take_append_of_le_length (by simp; omega), List.take_take, Nat.min_self]
theorem do_clear (T : Tab P) (i : Nat) {x : Operand} {t e : TypeId} {b off m c : Nat} {L : List Value} {z : Value} (hx : ev σ x = some (.slice (some ⟨b, off, none⟩) m c)) (ht : T.und t = some (.slice e)) (hz : T.zero e = some [z]) (h1 : z.oneCell' = true)
    (hi : Ls.getD i [] = [(b, row e L)]) (hl : off + m ≤ L.length) :
    Doos P n σ (K W Ls) ⟨dst, .call ⟨.builtin .clear, #[x], #[t]⟩, ty, pos, after, guard⟩ (X := { L' : List Value // L'.length = L.length ∧ L'.take off = L.take off }) (fun _ => .tuple #[]) (fun L' => K W (Ls.set i [(b, row e L'.1)])) := by
  intro a w hE hw
  obtain ⟨inf, zv, i1, i2, i3⟩ := T.zero_ok hz
  have hzc : zv.cells = #[z] := by
    apply Array.ext'
    rw [i3]
  have hrun : ∀ r, (execOp a.eval ⟨dst, .call ⟨.builtin .clear, #[x], #[t]⟩, ty, pos, after, guard⟩).run P w = r ↔ ((Builtin.clear_ #[t] ty #[.slice (some ⟨b, off, none⟩) m c]).run P w).andThen (fun v w' => .ok (.value v) w') = r := by
    intro r
    simp [execOp, resolve, invoke, builtin, ev_eval hE hx]
  rcases Nat.eq_zero_or_pos m with h0 | h0
  · subst h0
    refine ⟨⟨L, rfl, rfl⟩, w, ?_, ?_⟩
    · rw [hrun]
      simp [Builtin.clear_, run_und T ht]
    · have e1 : Ls.set i [(b, row e L)] = Ls := by
        have hlt := getD_lt hi
        apply List.ext_getElem?
        intro k
        rw [List.getElem?_set]
        split
        · rename_i h; subst h
          rw [← hi, List.getD_eq_getElem?_getD, List.getElem?_eq_getElem hlt]
          simp
        · rfl
      show K W (Ls.set i [(b, row e L)]) w
      rw [e1]; exact hw
  · have hlen : (Builtin.zeroCells zv.cells m).toList.length = m := by
      rw [Array.length_toList, zeroCells_length, hzc]; simp
    obtain ⟨w', hr, hk⟩ := storeCells_over (P := P) (W := W) b e (Builtin.zeroCells zv.cells m).toList i Ls L off 0 w hi hw (fun v hv => by
      rw [hzc] at hv
      have : v = z := by
        simp [Builtin.zeroCells] at hv
        obtain ⟨j, _, h⟩ := hv
        rw [Nat.mod_one] at h
        exact h.symm
      rw [this]; exact h1) (by rw [hlen]; omega)
    refine ⟨⟨_, over_length _ _ _, ?_⟩, w', ?_, hk⟩
    · exact over_take _ _ _ (by rw [hlen]; omega)
    · rw [hrun]
      obtain ⟨m, rfl⟩ : ∃ k, m = k + 1 := ⟨m - 1, by omega⟩
      simp [Builtin.clear_, run_und T ht, zeroValue, typeInfo, i1, i2, hr]
theorem findIdx_born {es : List Ent} {q : Int} {z : Value} {c : Nat} (h : ∀ e ∈ es, e.2.2 < c) : ((es ++ [(q, z, c)]).map ment).findIdx? (fun e => (e.born : Int) == (c : Int)) = some es.length := by
  induction es with
  | nil => simp [ment]
  | cons a r ih =>
    have ha := h a (by simp)
    have hne : ¬ ((a.2.2 : Int) = (c : Int)) := by omega
    rw [List.cons_append, List.map_cons, List.findIdx?_cons, ih fun e he => h e (by simp [he])]
    simp [ment, hne]
theorem modify_snoc {α : Type} (f : α → α) : ∀ (A : List α) (x : α), (A ++ [x]).modify A.length f = A ++ [f x]
  | [], x => rfl
  | a :: A, x => by
    rw [List.cons_append, List.length_cons, List.modify_succ_cons, modify_snoc f A x]
    rfl
/-- A new entry, with the zero value. -/
theorem do_mapEntry (T : Tab P) (i : Nat) {x k : Operand} {t kt e : TypeId} {b c : Nat} {es : List Ent} {q : Int} {z : Value} (hx : ev σ x = some (.map (some b))) (hk : ev σ k = some (.int .i64 q)) (ht : T.und t = some (.map kt e)) (hkt : T.und kt = some (.int .i64))
    (hz : ∀ w, (zeroValue e).run P w = .ok z w) (hi : Ls.getD i [] = [(b, mobj es c)]) (hn : mhas q es = false) :
    Doos P n σ (K W Ls) ⟨dst, .mapEntry t x k, ty, pos, after, guard⟩ (X := Unit) (fun _ => .tuple #[z, .int .i64 (c : Nat)]) (fun _ => K W (Ls.set i [(b, mobj (es ++ [(q, z, c)]) (c + 1))])) := by
  intro a w hE hw
  have hb := hw.at hi
  have hf : (Instr.findKey kt (.int .i64 q) (es.map ment)).run P w = .ok none w := by
    have := MapKept.run_findKey (P := P) (w := w) (T.und_ok hkt) (findNow_mfind q es 0)
    rw [mfind_none.2 hn] at this
    exact this
  have hc : (Instr.checkKey false 10000 kt (.int .i64 q)).run P w = .ok () w := run_checkInt (T.und_ok hkt) q false w
  refine ⟨(), { w with heap := w.heap.setIfInBounds b (mobj (es ++ [(q, z, c)]) (c + 1)) }, ?_, hw.put hi (w' := { w with heap := w.heap.setIfInBounds b (mobj (es ++ [(q, z, c)]) (c + 1)) }) rfl rfl rfl (by simp) ?_ ?_⟩
  · have e1 : mobj (es ++ [(q, z, c)]) (c + 1) = .map ((es.map ment).toArray.push ⟨.int .i64 q, z, c⟩) (c + 1) := by
      simp [mobj, ment]
    have : (Instr.mapEntry t (.map (some b)) (.int .i64 q)).run P w = .ok (.tuple #[z, .int .i64 (c : Nat)]) { w with heap := w.heap.setIfInBounds b (mobj (es ++ [(q, z, c)]) (c + 1)) } := by
      simp only [Instr.mapEntry, Sem.run_bind, run_underlying (T.und_ok ht), Result.andThen, MapKept.run_getObj_map hb, hc, hf, hz, MapKept.run_setObj_map _ hb, Sem.run_pure]
      rw [e1]
      rfl
    simp [execOp, ev_eval hE hx, ev_eval hE hk, this]
  · intro c hc
    simp [Ne.symm hc]
  · have := heap_lt hb
    simp [this]
/-- And then its value. -/
theorem set_entryStore (i : Nat) {x k v : Operand} {t : TypeId} {b c : Nat} {es : List Ent} {q : Int} {z u : Value} (hx : ev σ x = some (.map (some b))) (hk : ev σ k = some (.int .i64 (c : Nat))) (hv : ev σ v = some u)
    (hi : Ls.getD i [] = [(b, mobj (es ++ [(q, z, c)]) (c + 1))]) (hold : ∀ e ∈ es, e.2.2 < c) :
    Sets P n σ (K W Ls) ⟨dst, .entryStore t x k v, ty, pos, after, guard⟩ (K W (Ls.set i [(b, mobj (es ++ [(q, u, c)]) (c + 1))])) := by
  intro a w hE hw
  have hb := hw.at hi
  have hfi := findIdx_born (q := q) (z := z) hold
  have e1 : mobj (es ++ [(q, u, c)]) (c + 1) = .map (((es ++ [(q, z, c)]).map ment).toArray.modify es.length fun e => { e with val := u }) (c + 1) := by
    simp only [mobj, List.modify_toArray, List.map_append, List.map_cons, List.map_nil]
    congr 2
    have := modify_snoc (fun e : MapEntry => { e with val := u }) (es.map ment) (ment (q, z, c))
    rw [List.length_map] at this
    rw [this]
    rfl
  have : (Instr.entryStore t (.map (some b)) (.int .i64 (c : Nat)) u).run P w = .ok () { w with heap := w.heap.setIfInBounds b (mobj (es ++ [(q, u, c)]) (c + 1)) } := by
    have h2 : (asInt (.int .i64 (c : Nat))).run P w = .ok (c : Int) w := rfl
    simp only [Instr.entryStore, Sem.run_bind, Result.andThen, MapKept.run_getObj_map hb, h2]
    rw [show (((es ++ [(q, z, c)]).map ment).toArray.findIdx? fun e => (e.born : Int) == (c : Int)) = some es.length by rw [List.findIdx?_toArray]; exact hfi]
    simp only [MapKept.run_setObj_map _ hb]
    rw [e1]
  refine ⟨{ w with heap := w.heap.setIfInBounds b (mobj (es ++ [(q, u, c)]) (c + 1)) }, ?_, hw.put hi (w' := { w with heap := w.heap.setIfInBounds b (mobj (es ++ [(q, u, c)]) (c + 1)) }) rfl rfl rfl (by simp) ?_ ?_⟩
  · simp [execOp, ev_eval hE hx, ev_eval hE hk, ev_eval hE hv, this]
  · intro c hc
    simp [Ne.symm hc]
  · have := heap_lt hb
    simp [this]
end
section
variable {P : Program} {n : Nat} {σ : Slots} {C D : World → Prop} {Q : Post} {ops : Array Oper} {dr : Nat → Bool}
/-- An operation that changes the world, whose value nobody takes. -/
theorem d_do0 {i : Nat} {o : Oper} {plan : List PS} {X : Type} {v : X → Value} {C' : X → World → Prop} (hi : ops[i]? = some o) (hy : Doos P n σ C o v C') (hg : gd ops σ o = some true) (hd : o.dst = none)
    (hCl : ∀ x, Cl (C' x)) (hD : dr i = true → ∀ x w, C' x w → D w) (k : ∀ x, Sd P n ops dr D Q plan σ (C' x)) : Sd P n ops dr D Q (.s i :: plan) σ C := by
  intro listed a hE hdc hB hs
  simp only [planB, Bool.and_eq_true, beq_iff_eq] at hB
  refine one_ready hi hB.1 (.inl ⟨gd_wanted hE hg, X, v, C', hy.out hE, fun x => ⟨hCl x, fun h => hD h x, ?_⟩⟩)
  rw [hd]
  exact k x _ _ hE (hdc.set (ready_PL (by rw [hB.1]; simp))) hB.2 hs
end
end Go.KL
end

section
/- Changes of a book in memory. No program in sight. -/
namespace Go.KL
theorem set_aggB {P : Program} {W : World} {Ls : List Chunk} {n : Nat} {σ : Slots} {dst : Option Tmp} {ty : TypeId} {pos : String} {after : Array Edge} {guard : Option (Nat × Bool)} (T : Tab P) (i : Nat) {x y : Operand} {t : TypeId} {b off s : Nat} {e : TypeId} {l vs : List Value} (hx : ev σ x = some (.pointer (some ⟨b, off, none⟩))) (hy : ev σ y = some (.agg vs.toArray)) (h1 : vs.all Value.oneCell' = true)
    (hs : T.size t = some s) (hvs : vs.length = s) (hi : Ls.getD i [] = [(b, row e l)]) (hoff : Nat.ble (off + s) l.length = true) :
    Sets P n σ (K W Ls) ⟨dst, .store t x y, ty, pos, after, guard⟩ (K W (Ls.set i [(b, row e (over l off vs))])) := set_agg T i hx hy (List.all_eq_true.1 h1) hs hvs hi (Nat.le_of_ble_eq_true hoff)
theorem K.bckN {W w : World} {A B N : List Chunk} (h : K W (A ++ (B ++ N)) w) : K W (B ++ (A ++ N)) w := h.weak [] (by
  simp only [List.flatten_append, List.append_nil]
  rw [← List.append_assoc, ← List.append_assoc]
  exact List.Perm.append_right _ List.perm_append_comm)
theorem Hs.bk {W : World} {N : List Chunk} {g : Bg} : Hs (K W (g.L ++ N)) g.L.flatten := fun _ h => K.bin h
theorem Hs.nx {W : World} {N : List Chunk} {g : Bg} {c : Chunk} : Hs (K W (g.L ++ (c :: N))) c := fun _ h e he => (h.own e (by
  rw [List.flatten_append, List.flatten_cons]
  exact List.mem_append_right _ (List.mem_append_left _ he))).2
theorem req_cells {W : World} {Ls : List Chunk} {u : Tg} (i : Nat) (hi : Ls.getD i [] = [(u.b, row 113 u.cells)]) : CellsAre (K W Ls) ⟨u.b, 3, none⟩ (lkc u.req) := cells_row i hi fun j hj => by
  have : j < 4 := hj
  rcases (show j = 0 ∨ j = 1 ∨ j = 2 ∨ j = 3 by omega) with rfl | rfl | rfl | rfl <;> rfl
theorem CellsAre.one {C : World → Prop} {b off : Nat} {v : Value} (h : CellIs C ⟨b, off, none⟩ v) : CellsAre C ⟨b, off, none⟩ [v] := by
  intro w hw j hj
  have : j = 0 := by simpa using hj
  subst this
  exact h w hw
/-- The book stands where it stood, and so do its transactions. -/
structure Bg.Anc (g g' : Bg) : Prop where
  b : g'.b = g.b
  pb : g'.pb = g.pb
  len : g'.ts.length = g.ts.length
theorem Bg.Anc.refl (g : Bg) : g.Anc g := ⟨rfl, rfl, rfl⟩
theorem Bg.Anc.trans {a b c : Bg} (h : a.Anc b) (k : b.Anc c) : a.Anc c := ⟨k.b.trans h.b, k.pb.trans h.pb, k.len.trans h.len⟩
theorem Bg.Anc.has {g g' : Bg} (h : g.Anc g') {k : Nat} (hk : g.has k) : g'.has k := ⟨hk.1, by rw [h.len]; exact hk.2⟩
theorem Bg.Anc.ptr {g g' : Bg} (h : g.Anc g') (k : Nat) : g'.ptr k = g.ptr k := by rw [Bg.ptr, h.pb]
theorem Bg.Anc.ptl {g g' : Bg} (h : g.Anc g') (l : List Nat) : ptrs g' l = ptrs g l := List.map_congr_left fun k _ => by rw [h.ptr]
/-- The book without its queue. -/
abbrev Bg.noQ (g : Bg) (X : List Chunk) : List Chunk := g.p :: [(g.b, row 96 g.cells)] :: [(g.ba, mobj g.ea g.ca)] :: [(g.br, mobj g.er g.cr)] :: g.lc :: (g.ts.flatMap Tg.chunks ++ X)
theorem Hs.noQ {W : World} {g : Bg} {X : List Chunk} : Hs (K W (g.noQ X)) (g.ts.flatMap Tg.chunks).flatten := fun w h e he => (h.own e (by
  simp only [Bg.noQ, List.flatten_cons, List.flatten_append, List.mem_append]
  exact .inr (.inr (.inr (.inr (.inr (.inl he))))))).2
theorem Hs.noQX {W : World} {g : Bg} {c : Chunk} {X : List Chunk} : Hs (K W (g.noQ (c :: X))) c := fun w h e he => (h.own e (by
  simp only [Bg.noQ, List.flatten_cons, List.flatten_append, List.mem_append]
  exact .inr (.inr (.inr (.inr (.inr (.inr (.inl he)))))))).2
/-- The chunks of the transactions but one. -/
abbrev Bg.rest (g : Bg) (k : Nat) : List Chunk := (g.ts.eraseIdx (k - 1)).flatMap Tg.chunks
theorem ts_perm {ts : List Tg} {i : Nat} {t t' : Tg} (h : ts[i]? = some t) : ((ts.set i t').flatMap Tg.chunks).flatten.Perm (t'.chunks.flatten ++ ((ts.eraseIdx i).flatMap Tg.chunks).flatten) := by
  induction ts generalizing i with
  | nil => simp at h
  | cons a ts ih =>
    cases i with
    | zero => simp
    | succ i =>
      have := ih (i := i) (by simpa using h)
      simp only [List.set_cons_succ, List.flatMap_cons, List.flatten_append, List.eraseIdx_cons_succ]
      refine (List.Perm.append_left _ this).trans ?_
      rw [← List.append_assoc, ← List.append_assoc]
      exact List.Perm.append_right _ List.perm_append_comm
theorem ts_perm0 {ts : List Tg} {i : Nat} {t : Tg} (h : ts[i]? = some t) : (ts.flatMap Tg.chunks).flatten.Perm (t.chunks.flatten ++ ((ts.eraseIdx i).flatMap Tg.chunks).flatten) := by
  have := ts_perm (t' := t) h
  have e : ts.set i t = ts := by
    apply List.ext_getElem?
    intro j
    rw [List.getElem?_set]
    split
    · rename_i hj
      subst hj
      rw [h]
      have := (List.getElem?_eq_some_iff.1 h).1
      simp [this]
    · rfl
  rw [e] at this
  exact this
section
variable {W w : World} {N : List Chunk} {g : Bg} {k : Nat} {t t' : Tg}
theorem K.foc (ht : g.ts[k - 1]? = some t) (h : K W (g.L ++ N) w) : K W (t.chunks ++ (g.fixed ++ (g.rest k ++ N))) w := by
  refine h.weak [] ?_
  have h1 := ts_perm0 ht
  simp only [Bg.L, List.flatten_append, List.append_nil]
  rw [List.append_assoc]
  refine (List.Perm.append_left _ (List.Perm.append_right _ h1)).trans ?_
  rw [← List.append_assoc, ← List.append_assoc, ← List.append_assoc, ← List.append_assoc]
  exact List.Perm.append_right _ (List.Perm.append_right _ List.perm_append_comm)
theorem K.unfoc {F : List Chunk} (ht : g.ts[k - 1]? = some t) (h : K W (t'.chunks ++ (F ++ (g.rest k ++ N))) w) : K W ((F ++ (g.ts.set (k - 1) t').flatMap Tg.chunks) ++ N) w := by
  refine h.weak [] ?_
  have h1 := ts_perm (t' := t') ht
  simp only [List.flatten_append, List.append_nil]
  refine List.Perm.symm ?_
  rw [List.append_assoc]
  refine (List.Perm.append_left _ (List.Perm.append_right _ h1)).trans ?_
  rw [← List.append_assoc, ← List.append_assoc, ← List.append_assoc, ← List.append_assoc]
  exact List.Perm.append_right _ (List.Perm.append_right _ List.perm_append_comm)
/-- A transaction anew. -/
def Bg.setT (g : Bg) (k : Nat) (t' : Tg) : Bg := { g with ts := g.ts.set (k - 1) t' }
theorem setT_get (ht : g.ts[k - 1]? = some t) (j : Nat) : (g.setT k t').ts[j]? = if j = k - 1 then some t' else g.ts[j]? := by
  have := (List.getElem?_eq_some_iff.1 ht).1
  simp only [Bg.setT, List.getElem?_set]
  by_cases c : j = k - 1
  · subst c; simp [this]
  · rw [if_neg (fun e => c e.symm), if_neg c]
theorem setT_pb (ht : g.ts[k - 1]? = some t) (hb : t'.b = t.b) : (g.setT k t').pb = g.pb := by
  funext j
  simp only [Bg.pb]
  rw [setT_get ht]
  split
  · rename_i c; rw [c, ht]; exact hb
  · rfl
theorem setT_bk : (g.setT k t').bk = g.bk.setT k t'.tx := by
  simp [Bg.setT, Bg.bk, Bk.setT, List.map_set]
/-- What does not hang on the transactions' contents. -/
structure Bg.Same (g g' : Bg) : Prop where
  pb : g'.pb = g.pb
  len : g'.ts.length = g.ts.length
theorem setT_same (ht : g.ts[k - 1]? = some t) (hb : t'.b = t.b) : g.Same (g.setT k t') := ⟨setT_pb ht hb, by simp [Bg.setT]⟩
theorem setT_anc (ht : g.ts[k - 1]? = some t) (hb : t'.b = t.b) : g.Anc (g.setT k t') := ⟨rfl, setT_pb ht hb, by simp [Bg.setT]⟩
theorem Bg.Same.ptr {g' : Bg} (h : g.Same g') (j : Nat) : g'.ptr j = g.ptr j := by rw [Bg.ptr, h.pb]
theorem Bg.OK.setT (h : g.OK) (ht : g.ts[k - 1]? = some t) (hb : t'.b = t.b) (hi : t'.id = t.id) (ho : t'.OK g.p) : (g.setT k t').OK := by
  have hs := setT_same (t' := t') ht hb
  have hp := hs.ptr
  refine { mC := h.mC, mW := h.mW, id := fun i u hu => ?_, ok := fun u hu => ?_, nd := ?_, eaM := h.eaM, eaG := fun j hj => ?_, eaH := fun z => ?_, eaL := ?_, erM := h.erM, erE := ?_, rnh := fun j hj => ?_, qB := ?_, qh := fun j hj => ?_, lB := h.lB, lO := h.lO }
  · rw [setT_get ht] at hu
    split at hu
    · rename_i c
      rw [← Option.some.inj hu, hi, c]
      exact h.id _ t ht
    · exact h.id i u hu
  · rcases List.mem_or_eq_of_mem_set hu with hu | rfl
    · exact h.ok u hu
    · exact ho
  · have e : (g.setT k t').ts.map (·.b) = g.ts.map (·.b) := by
      apply List.ext_getElem?
      intro j
      rw [List.getElem?_map, List.getElem?_map, setT_get ht]
      split
      · rename_i c; rw [c, ht]; simp [hb]
      · rfl
    rw [e]
    exact h.nd
  · rw [hp]
    exact h.eaG j (by have := hs.len; unfold Bg.has at hj; rw [this] at hj; exact hj)
  · rw [hs.len]; exact h.eaH z
  · rw [hs.len]; exact h.eaL
  · show g.er.map (fun e => (e.1, e.2.1)) = g.rn.map fun j : Nat => ((j : Int), (g.setT k t').ptr j)
    have : (fun j : Nat => ((j : Int), (g.setT k t').ptr j)) = fun j : Nat => ((j : Int), g.ptr j) := funext fun j => by rw [hp]
    rw [this]
    exact h.erE
  · have := h.rnh j hj
    unfold Bg.has
    rw [hs.len]; exact this
  · have : (fun j : Nat => [(g.setT k t').ptr j]) = fun j : Nat => [g.ptr j] := funext fun j => by rw [hp]
    show BufR 105 1 g.qv g.qc (g.q.map fun j => [(g.setT k t').ptr j])
    rw [this]
    exact h.qB
  · have := h.qh j hj
    unfold Bg.has
    rw [hs.len]; exact this
/-- The queue anew. -/
def Bg.setQ (g : Bg) (q : List Nat) (qv : Value) (qc : Chunk) : Bg := { g with q := q, qv := qv, qc := qc }
theorem Bg.OK.setQ (h : g.OK) {q : List Nat} {qv : Value} {qc : Chunk} (hB : BufR 105 1 qv qc (q.map fun k => [g.ptr k])) (hq : ∀ k ∈ q, g.has k) : (g.setQ q qv qc).OK :=
  { mC := h.mC, mW := h.mW, id := h.id, ok := h.ok, nd := h.nd, eaM := h.eaM, eaG := h.eaG, eaH := h.eaH, eaL := h.eaL, erM := h.erM, erE := h.erE, rnh := h.rnh, qB := hB, qh := hq, lB := h.lB, lO := h.lO }
/-- One runs no more. -/
def Bg.delR (g : Bg) (k : Nat) : Bg := { g with rn := g.rn.filter (fun j => !decide (j = k)), er := mdel (k : Int) g.er }
theorem mdel_filter {k : Int} : ∀ {es : List Ent}, (es.map (·.1)).Nodup → mdel k es = es.filter fun e => !decide (e.1 = k)
  | [], _ => rfl
  | e :: r, h => by
    simp only [List.map_cons, List.nodup_cons] at h
    rw [mdel, List.filter_cons]
    by_cases c : k = e.1
    · rw [if_pos c, if_neg (by simp [c])]
      refine (List.filter_eq_self.2 fun x hx => ?_).symm
      have : x.1 ≠ k := fun e' => h.1 (by rw [← c, ← e']; exact List.mem_map.2 ⟨x, hx, rfl⟩)
      simp [this]
    · rw [if_neg c, if_pos (by simp [Ne.symm c]), mdel_filter h.2]
theorem Bg.OK.delR (h : g.OK) (k : Nat) : (g.delR k).OK := by
  have e1 := mdel_filter (k := (k : Int)) h.erM.keys
  refine { mC := h.mC, mW := h.mW, id := h.id, ok := h.ok, nd := h.nd, eaM := h.eaM, eaG := h.eaG, eaH := h.eaH, eaL := h.eaL, erM := ?_, erE := ?_, rnh := fun j hj => h.rnh j (List.mem_filter.1 hj).1, qB := h.qB, qh := h.qh, lB := h.lB, lO := h.lO }
  · show MOK (mdel (k : Int) g.er) g.cr
    rw [e1]
    have hs : (g.er.filter fun e => !decide (e.1 = (k : Int))).Sublist g.er := List.filter_sublist
    exact ⟨(hs.map _).nodup h.erM.keys, (hs.map _).nodup h.erM.born, fun e he => h.erM.old e (hs.subset he), fun e he => h.erM.rng e (hs.subset he), Nat.le_trans hs.length_le h.erM.len⟩
  · show (mdel (k : Int) g.er).map (fun e => (e.1, e.2.1)) = (g.rn.filter (fun j => !decide (j = k))).map fun j : Nat => ((j : Int), g.ptr j)
    have h2 := congrArg (List.filter fun x : Int × Value => !decide (x.1 = (k : Int))) h.erE
    rw [List.filter_map, List.filter_map] at h2
    rw [e1]
    refine Eq.trans ?_ (h2.trans ?_)
    · rfl
    · congr 1
      refine List.filter_congr fun j _ => ?_
      simp
      omega
/-- The pool has grown, and the working map is another one. -/
def Bg.setW (g : Bg) (p : Chunk) (wv : Value) (W : Nat → Nat) : Bg := { g with p := p, wv := wv, W := W }
theorem Bg.OK.setW (h : g.OK) {p : Chunk} {wv : Value} {W : Nat → Nat} (hS : Sub g.p p) (hm : MV p wv g.size W) : (g.setW p wv W).OK :=
  { mC := h.mC.sub hS, mW := hm, id := h.id, ok := fun t ht => (h.ok t ht).sub hS, nd := h.nd, eaM := h.eaM, eaG := h.eaG, eaH := h.eaH, eaL := h.eaL, erM := h.erM, erE := h.erE, rnh := h.rnh, qB := h.qB, qh := h.qh, lB := h.lB, lO := fun x hx => ⟨Sub.pe (h.lO x hx).1 hS, (h.lO x hx).2.sub hS⟩ }
def Bg.setC (g : Bg) (p : Chunk) (cv : Value) (C : Nat → Nat) : Bg := { g with p := p, cv := cv, C := C }
theorem Bg.OK.setC (h : g.OK) {p : Chunk} {cv : Value} {C : Nat → Nat} (hS : Sub g.p p) (hm : MV p cv g.size C) : (g.setC p cv C).OK :=
  { mC := hm, mW := h.mW.sub hS, id := h.id, ok := fun t ht => (h.ok t ht).sub hS, nd := h.nd, eaM := h.eaM, eaG := h.eaG, eaH := h.eaH, eaL := h.eaL, erM := h.erM, erE := h.erE, rnh := h.rnh, qB := h.qB, qh := h.qh, lB := h.lB, lO := fun x hx => ⟨Sub.pe (h.lO x hx).1 hS, (h.lO x hx).2.sub hS⟩ }
/-- The log anew. -/
def Bg.setL (g : Bg) (ls : List Lg) (lv : Value) (lc : Chunk) : Bg := { g with ls := ls, lv := lv, lc := lc }
theorem Bg.OK.setL (h : g.OK) {ls : List Lg} {lv : Value} {lc : Chunk} (hB : BufR 58 2 lv lc (ls.map fun x => [.int .i64 (x.1 : Nat), x.2.1])) (hl : ∀ x ∈ ls, PE g.p x.2.1 6 (opl x.2.2) ∧ OpsV g.p x.2.2) : (g.setL ls lv lc).OK :=
  { mC := h.mC, mW := h.mW, id := h.id, ok := h.ok, nd := h.nd, eaM := h.eaM, eaG := h.eaG, eaH := h.eaH, eaL := h.eaL, erM := h.erM, erE := h.erE, rnh := h.rnh, qB := h.qB, qh := h.qh, lB := hB, lO := hl }
end
end Go.KL
end

section
/- Walks: DeleteFunc on the queue. -/
namespace Go.KL
open Go.Proofs
/-- Pointers to transactions, as cells. -/
abbrev pcs (g : Bg) (q : List Nat) : List Value := q.map fun k => g.ptr k
theorem ptrs_flat (g : Bg) (q : List Nat) : (ptrs g q).flatten = pcs g q := by
  induction q with
  | nil => rfl
  | cons a l ih => simp [ptrs, pcs] at ih ⊢; exact ih
/-- What DeleteFunc has done: the row ys, of which the first i are what is kept of the first j. -/
structure Dlt (q : List Nat) (k i j : Nat) (ys : List Nat) : Prop where
  len : ys.length = q.length
  ij : i < j
  jl : j ≤ q.length
  tk : ys.take i = (q.take j).filter fun x => !decide (x = k)
  dr : ∀ m, j ≤ m → ys[m]? = q[m]?
theorem Dlt.begin {q : List Nat} {k i : Nat} (h1 : q[i]? = some k) (h2 : ∀ j, j < i → q[j]? ≠ some k) : Dlt q k i (i + 1) q := by
  have hi := (List.getElem?_eq_some_iff.1 h1).1
  refine ⟨rfl, by omega, hi, ?_, fun _ _ => rfl⟩
  have := filter_snoc (p := fun x => !decide (x = k)) h1
  rw [this]
  simp only [decide_true, Bool.not_true, Bool.false_eq_true, if_false, List.append_nil]
  refine (List.filter_eq_self.2 fun x hx => ?_).symm
  obtain ⟨j, hj⟩ := List.getElem?_of_mem hx
  have hlt : j < i := by have := (List.getElem?_eq_some_iff.1 hj).1; simp at this; omega
  rw [List.getElem?_take_of_lt hlt] at hj
  have : x ≠ k := fun e => h2 j hlt (by rw [hj, e])
  simp [this]
theorem Dlt.skip {q : List Nat} {k i j : Nat} {ys : List Nat} (h : Dlt q k i j ys) (hj : q[j]? = some k) : Dlt q k i (j + 1) ys := by
  have hlt := (List.getElem?_eq_some_iff.1 hj).1
  refine ⟨h.len, by have := h.ij; omega, hlt, ?_, fun m hm => h.dr m (by omega)⟩
  rw [h.tk, filter_snoc (p := fun x => !decide (x = k)) hj]
  simp
theorem Dlt.keep {q : List Nat} {k i j x : Nat} {ys : List Nat} (h : Dlt q k i j ys) (hj : q[j]? = some x) (hx : x ≠ k) : Dlt q k (i + 1) (j + 1) (ys.set i x) := by
  have hlt := (List.getElem?_eq_some_iff.1 hj).1
  have hij := h.ij
  have hl := h.len
  refine ⟨by simp [hl], by omega, hlt, ?_, fun m hm => ?_⟩
  · rw [filter_snoc (p := fun x => !decide (x = k)) hj, ← h.tk, if_pos (by simp [hx]), List.take_add_one, List.getElem?_set_self (by omega), List.take_set_of_le (Nat.le_refl i)]
    rfl
  · rw [List.getElem?_set_ne (by omega)]
    exact h.dr m (by omega)
theorem Dlt.done {q : List Nat} {k i : Nat} {ys : List Nat} (h : Dlt q k i q.length ys) : ys.take i = q.filter fun x => !decide (x = k) := by
  have := h.tk
  rw [List.take_length] at this
  exact this
theorem K.unfront {W w : World} {Ls : List Chunk} {c : Chunk} (i : Nat) (hi : i < Ls.length) (h : K W (c :: Ls.eraseIdx i) w) : K W (Ls.set i c) w := by
  refine h.weak [] ?_
  have h2 := front_perm i (Ls.set i c)
  have e2 : KL.front i (Ls.set i c) = c :: Ls.eraseIdx i := by
    rw [KL.front]
    congr 1
    · rw [List.getD_eq_getElem?_getD, List.getElem?_set_self hi]; rfl
    · rw [List.eraseIdx_set_eq]
  rw [e2] at h2
  rw [List.append_nil]
  exact h2.symm
/-- The transactions are there. -/
abbrev Bg.tc (g : Bg) : Chunk := (g.ts.flatMap Tg.chunks).flatten
theorem Bg.tc_sub {g : Bg} : ∀ e ∈ g.tc, e ∈ g.L.flatten := fun e he => by
  rw [List.flatten_append]
  exact List.mem_append_right _ he
theorem Hs.objT {g : Bg} {C : World → Prop} {t : Tg} (hH : Hs C g.tc) (ht : t ∈ g.ts) : ∀ w, C w → ∃ ca ta, w.heap[t.b]? = some (.cells ca ta (0, 0)) := fun w hw =>
  ⟨_, _, hH w hw (t.b, row 113 t.cells) (List.mem_flatten.2 ⟨[(t.b, row 113 t.cells)], List.mem_flatMap.2 ⟨t, ht, by simp⟩, by simp⟩)⟩
attribute [local irreducible] SC St Fin Sq Ylds Doos Sets Enters Spec CellIs CellsAre Then Ret Rnd Chn resOK ints bools recs arr
set_option maxRecDepth 10000 in
theorem same_b {g : Bg} {C : World → Prop} {j k bx : Nat} (hB : g.OK) (hH : Hs C g.tc) (hj : g.has j) (hk : g.has k) (hb : CellIs C ⟨bx, 0, none⟩ (g.ptr k)) : Spec Tryz.prog 97 #[g.ptr j, .pointer (some ⟨bx, 0, none⟩)] C (fun _ : Unit => .bool (decide (j = k))) (fun _ => C) := by
  obtain ⟨t, htm, _, hid, hpb, htx⟩ := hB.at hj
  obtain ⟨u, hum, _, hid2, hpb2, htx2⟩ := hB.at hk
  have e1 : g.ptr j = .pointer (some ⟨t.b, 0, none⟩) := by rw [Bg.ptr, hpb]
  have e2 : g.ptr k = .pointer (some ⟨u.b, 0, none⟩) := by rw [Bg.ptr, hpb2]
  rw [e1]
  rw [e2] at hb
  refine enter (args := [_, _]) Tryz.func97 rfl Tryz.ntmps97 rfl ?_
  by_cases c : j = k
  · subst c
    have e3 : t.b = u.b := by rw [← hpb, hpb2]
    rw [decide_eq_true rfl, e3]
    refine c_seq ?_
    refine c_region ?_
    refine s_y (y_assign rfl) rfl rfl rfl ?_
    refine s_nil ?_
    refine f_then ?_
    refine c_seq ?_
    refine c_region ?_
    refine s_y (y_move rfl) rfl rfl rfl ?_
    refine s_y (y_load Tryz.tab rfl rfl hb) rfl rfl rfl ?_
    refine s_y (y_eqlPS Tryz.tab rfl rfl rfl rfl) rfl rfl rfl ?_
    refine s_y (y_assign rfl) rfl rfl rfl ?_
    refine s_nil ?_
    refine f_then ?_
    refine c_ret ?_
    exact f_ret () (res1 rfl rfl) (fun w h => h)
  · rw [decide_eq_false c]
    have hne : (⟨t.b, 0, none⟩ : Addr) ≠ ⟨u.b, 0, none⟩ := fun h => by
      simp only [Addr.mk.injEq, and_true] at h
      exact c (hB.pb_inj hj hk (by rw [hpb, hpb2, h]))
    have ho1 := hH.objT htm
    have ho2 := hH.objT hum
    refine c_seq ?_
    refine c_region ?_
    refine s_y (y_assign rfl) rfl rfl rfl ?_
    refine s_nil ?_
    refine f_then ?_
    refine c_seq ?_
    refine c_region ?_
    refine s_y (y_move rfl) rfl rfl rfl ?_
    refine s_y (y_load Tryz.tab rfl rfl hb) rfl rfl rfl ?_
    refine s_y (y_eqlPO Tryz.tab rfl rfl rfl rfl hne ho1 ho2) rfl rfl rfl ?_
    refine s_y (y_assign rfl) rfl rfl rfl ?_
    refine s_nil ?_
    refine f_then ?_
    refine c_ret ?_
    exact f_ret () (res1 rfl rfl) (fun w h => h)
set_option maxRecDepth 10000 in
theorem ixf_b {g : Bg} {C : World → Prop} {k bx : Nat} {q : List Nat} {v : Value} (hB : g.OK) (hH : Hs C g.tc) (hk : g.has k) (hb : CellIs C ⟨bx, 0, none⟩ (g.ptr k)) (hv : EV C v 1 (ptrs g q)) (hq : ∀ j ∈ q, g.has j) (hl : q.length < 1000000) :
    Spec Tryz.prog 116 #[v, .func (.func 97) #[] #[.pointer (some ⟨bx, 0, none⟩)]] C (X := { z : Int // (z = -1 ∧ k ∉ q) ∨ ∃ i : Nat, z = (i : Int) ∧ q[i]? = some k ∧ ∀ j, j < i → q[j]? ≠ some k }) (fun z => .int .i64 z.1) (fun _ => C) := by
  have hl2 : (ptrs g q).length = q.length := List.length_map _
  refine enter (args := [_, _]) Tryz.func116 rfl Tryz.ntmps116 rfl ?_
  refine c_seq ?_
  refine c_region ?_
  refine s_y (y_assign rfl) rfl rfl rfl ?_
  refine s_nil ?_
  refine f_then ?_
  refine c_seq ?_
  refine c_seq ?_
  refine c_region ?_
  refine s_y (y_move rfl) rfl rfl rfl ?_
  refine s_y (y_lenE Tryz.tab rfl (hv) rfl) rfl rfl rfl ?_
  refine s_y (y_move rfl) rfl rfl rfl ?_
  refine s_nil ?_
  refine f_then ?_
  refine c_block ?_
  refine c_loopP (α := Nat) (fun z => [(0, v), (1, .func (.func 97) #[] #[.pointer (some ⟨bx, 0, none⟩)]), (7, .int .i64 (ptrs g q).length), (8, .int .i64 (z : Nat))]) (fun z => z ≤ q.length ∧ ∀ i, i < z → q[i]? ≠ some k) (fun _ => C) (fun z => q.length - z) 0
    ⟨rfl, rfl, rfl, rfl, trivial⟩ ⟨Nat.zero_le _, fun i h => absurd h (by omega)⟩ (fun w h => h) ?_
  rintro z ⟨hz, hno⟩
  by_cases c : z < q.length
  · obtain ⟨x, hx⟩ : ∃ x, q[z]? = some x := ⟨q[z], by simp [c]⟩
    have hxh := hq x (List.mem_of_getElem? hx)
    have hcell := hv.cell (i := z) (x := g.ptr x) (by simp [hx])
    refine c_seq ?_
    refine c_region ?_
    refine s_y (y_T (y_lss rfl rfl) (by omega)) rfl rfl rfl ?_
    refine s_nil ?_
    refine f_then ?_
    refine c_seq ?_
    refine c_condT rfl ?_
    refine c_skip ?_
    refine f_then ?_
    refine c_seq ?_
    refine c_block ?_
    refine c_seq ?_
    refine c_region ?_
    refine s_y (y_move rfl) rfl rfl rfl ?_
    refine s_y (y_assign rfl) rfl rfl rfl ?_
    refine s_nil ?_
    refine f_then ?_
    refine c_seq ?_
    refine c_region ?_
    refine s_y (y_move rfl) rfl rfl rfl ?_
    refine s_y (y_move rfl) rfl rfl rfl ?_
    refine s_y (y_move rfl) rfl rfl rfl ?_
    refine s_y (y_ixE Tryz.tab rfl rfl rfl rfl (hv) _ rfl (by omega)) rfl rfl rfl ?_
    refine s_y (y_load Tryz.tab rfl rfl hcell) rfl rfl rfl ?_
    refine s_call (en_v rfl rfl Tryz.call97) (same_b hB hH hxh hk hb) rfl rfl rfl (fun _ => ?_)
    by_cases e : x = k
    · rw [decide_eq_true e]
      refine s_nil ?_
      refine f_then ?_
      refine c_condT rfl ?_
      refine c_seq ?_
      refine c_region ?_
      refine s_y (y_move rfl) rfl rfl rfl ?_
      refine s_y (y_assign rfl) rfl rfl rfl ?_
      refine s_nil ?_
      refine f_then ?_
      refine c_ret ?_
      refine f_blockR ?_
      refine f_thenR ?_
      refine f_rndR ?_
      refine f_blockR ?_
      refine f_thenR ?_
      exact f_ret ⟨(z : Int), .inr ⟨z, rfl, by rw [hx, e], hno⟩⟩ (res1 rfl rfl) (fun w h => h)
    · rw [decide_eq_false e]
      refine s_nil ?_
      refine f_then ?_
      refine c_condF rfl ?_
      refine c_skip ?_
      refine f_blockN ?_
      refine f_then ?_
      refine c_region ?_
      refine s_y (y_add rfl rfl (by omega)) rfl rfl rfl ?_
      refine s_y (y_move rfl) rfl rfl rfl ?_
      refine s_nil ?_
      exact f_roundP (z + 1) ⟨c, fun i hi h => by
        by_cases e2 : i = z
        · subst e2
          rw [hx] at h
          exact e (Option.some.inj h)
        · exact hno i (by omega) h⟩ (by omega) ⟨rfl, rfl, rfl, rfl, trivial⟩ (fun w h => h)
  · obtain rfl : z = q.length := by omega
    refine c_seq ?_
    refine c_region ?_
    refine s_y (y_F (y_lss rfl rfl) (by omega)) rfl rfl rfl ?_
    refine s_nil ?_
    refine f_then ?_
    refine c_seq ?_
    refine c_condF rfl ?_
    refine c_exit ?_
    refine f_thenE ?_
    refine f_rndE ?_
    refine f_blockE ?_
    refine f_then ?_
    refine c_seq ?_
    refine c_region ?_
    refine s_y (y_assign rfl) rfl rfl rfl ?_
    refine s_nil ?_
    refine f_then ?_
    refine c_ret ?_
    refine f_ret ⟨-1, .inl ⟨rfl, fun h => ?_⟩⟩ (res1 rfl rfl) (fun w h => h)
    obtain ⟨i, hi⟩ := List.getElem?_of_mem h
    exact hno i (List.getElem?_eq_some_iff.1 hi).1 hi
set_option maxRecDepth 10000 in
set_option maxHeartbeats 8000000 in
theorem delf_spec {g : Bg} {W : World} {N : List Chunk} {k bx : Nat} {q : List Nat} {v : Value} {c : Chunk} (hB : g.OK) (hH : Hs (K W N) g.tc) (hk : g.has k) (hb : CellIs (K W N) ⟨bx, 0, none⟩ (g.ptr k)) (hv : BufR 105 1 v c (ptrs g q)) (hq : ∀ j ∈ q, g.has j) (hl : q.length < 1000000) :
    Spec Tryz.prog 96 #[v, .func (.func 97) #[] #[.pointer (some ⟨bx, 0, none⟩)]] (K W (c :: N)) (X := { x : Value × Chunk // BufR 105 1 x.1 x.2 (ptrs g (q.filter fun j => !decide (j = k))) }) (fun x => x.1.1) (fun x => K W (x.1.2 :: N)) := by
  have hl2 : (ptrs g q).length = q.length := List.length_map _
  have hE := hv.view (C := K W (c :: N)) (Hs.at 0 rfl)
  have hH1 : Hs (K W (c :: N)) g.tc := hH.cons
  have hb1 : CellIs (K W (c :: N)) ⟨bx, 0, none⟩ (g.ptr k) := hb.cons
  refine enter (args := [_, _]) Tryz.func96 rfl Tryz.ntmps96 rfl ?_
  refine c_seq ?_
  refine c_region ?_
  refine s_y (y_assign rfl) rfl rfl rfl ?_
  refine s_nil ?_
  refine f_then ?_
  refine c_seq ?_
  refine c_region ?_
  refine s_y (y_move rfl) rfl rfl rfl ?_
  refine s_y (y_move rfl) rfl rfl rfl ?_
  refine s_call (en_f rfl Tryz.call116) (ixf_b hB hH1 hk hb1 hE hq hl) rfl rfl rfl (fun x => ?_)
  obtain ⟨z, ⟨rfl, hz⟩ | ⟨i, rfl, hi, hno⟩⟩ := x
  · dsimp only
    have e : q.filter (fun j => !decide (j = k)) = q := List.filter_eq_self.2 fun x hx => by
      have : x ≠ k := fun e => hz (by rw [← e]; exact hx)
      simp [this]
    refine s_y (y_assign rfl) rfl rfl rfl ?_
    refine s_nil ?_
    refine f_then ?_
    refine c_seq ?_
    refine c_seq ?_
    refine c_region ?_
    refine s_y (y_move rfl) rfl rfl rfl ?_
    refine s_y (y_T (y_eql rfl rfl) (by omega)) rfl rfl rfl ?_
    refine s_nil ?_
    refine f_then ?_
    refine c_condT rfl ?_
    refine c_seq ?_
    refine c_region ?_
    refine s_y (y_move rfl) rfl rfl rfl ?_
    refine s_y (y_assign rfl) rfl rfl rfl ?_
    refine s_nil ?_
    refine f_then ?_
    refine c_ret ?_
    refine f_thenR ?_
    exact f_ret ⟨(v, c), by rw [e]; exact hv⟩ (res1 rfl rfl) (fun w h => h)
  · dsimp only
    have hil := (List.getElem?_eq_some_iff.1 hi).1
    obtain ⟨o, hvo, hco, hof, hp⟩ : ∃ o : Own, v = .slice (some ⟨o.b, 0, none⟩) q.length o.cap ∧ c = [(o.b, row 105 (pcs g q ++ o.rest))] ∧ owf 1 o q.length (pcs g q) ∧ o.pre = [] := by
      rcases hv.buf.ok with ⟨h1, _⟩ | ⟨o, h1, h2, h3, h4⟩
      · rw [hl2] at h1; omega
      · refine ⟨o, ?_, ?_, by rw [ptrs_flat, hl2] at h3; exact h3, h4⟩
        · rw [h1, osl, hl2, h4]; rfl
        · rw [h2, ptrs_flat, och, h4, List.nil_append]
    subst hvo hco
    have hcap := hof.le
    have hroom := hof.room
    rw [Nat.mul_one] at hroom
    have hD := Dlt.begin hi hno
    refine s_y (y_assign rfl) rfl rfl rfl ?_
    refine s_nil ?_
    refine f_then ?_
    refine c_seq ?_
    refine c_seq ?_
    refine c_region ?_
    refine s_y (y_move rfl) rfl rfl rfl ?_
    refine s_y (y_F (y_eql rfl rfl) (by omega)) rfl rfl rfl ?_
    refine s_nil ?_
    refine f_then ?_
    refine c_condF rfl ?_
    refine c_skip ?_
    refine f_then ?_
    refine c_seq ?_
    refine c_seq ?_
    refine c_region ?_
    refine s_y (y_move rfl) rfl rfl rfl ?_
    refine s_y (y_add rfl rfl (by omega)) rfl rfl rfl ?_
    refine s_y (y_assign rfl) rfl rfl rfl ?_
    refine s_nil ?_
    refine f_then ?_
    refine c_block ?_
    refine c_loopP (α := Nat × Nat × List Nat) (fun z => [(0, .slice (some ⟨o.b, 0, none⟩) q.length o.cap), (1, .func (.func 97) #[] #[.pointer (some ⟨bx, 0, none⟩)]), (5, .int .i64 (z.1 : Nat)), (6, .int .i64 (z.2.1 : Nat))])
      (fun z => Dlt q k z.1 z.2.1 z.2.2) (fun z => K W ([(o.b, row 105 (pcs g z.2.2 ++ o.rest))] :: N)) (fun z => q.length - z.2.1) (i, i + 1, q)
      ⟨rfl, rfl, rfl, rfl, trivial⟩ hD (fun w h => h) ?_
    rintro ⟨a, j, ys⟩ hD
    dsimp only at hD ⊢
    have hjl := hD.jl
    have haj := hD.ij
    have hyl := hD.len
    by_cases cj : j < q.length
    · obtain ⟨x, hx⟩ : ∃ x, q[j]? = some x := ⟨q[j], by simp [cj]⟩
      have hxh := hq x (List.mem_of_getElem? hx)
      have hyj : ys[j]? = some x := by rw [hD.dr j (Nat.le_refl _)]; exact hx
      have hpj : (pcs g ys ++ o.rest)[j]? = some (g.ptr x) := by
        rw [List.getElem?_append_left (by rw [List.length_map]; omega)]
        simp [hyj]
      have hcell : CellIs (K W ([(o.b, row 105 (pcs g ys ++ o.rest))] :: N)) ⟨o.b, j, none⟩ (g.ptr x) := cell_row 0 rfl hpj
      refine c_seq ?_
      refine c_seq ?_
      refine c_region ?_
      refine s_y (y_move rfl) rfl rfl rfl ?_
      refine s_y (y_move rfl) rfl rfl rfl ?_
      refine s_y (y_lenR' Tryz.tab rfl hv rfl) rfl rfl rfl ?_
      refine s_y (y_T (y_lss rfl rfl) (by omega)) rfl rfl rfl ?_
      refine s_nil ?_
      refine f_then ?_
      refine c_condT rfl ?_
      refine c_skip ?_
      refine f_then ?_
      refine c_seq ?_
      refine c_block ?_
      refine c_seq ?_
      refine c_region ?_
      refine s_y (y_move rfl) rfl rfl rfl ?_
      refine s_y (y_move rfl) rfl rfl rfl ?_
      refine s_y (y_indexAddr1 Tryz.tab rfl rfl rfl rfl _ rfl (by omega)) rfl rfl rfl ?_
      refine s_y (y_load Tryz.tab rfl rfl hcell) rfl rfl rfl ?_
      refine s_y (y_assign rfl) rfl rfl rfl ?_
      refine s_nil ?_
      refine f_then ?_
      refine c_seq ?_
      refine c_region ?_
      refine s_y (y_move rfl) rfl rfl rfl ?_
      refine s_y (y_move rfl) rfl rfl rfl ?_
      refine s_call (en_v rfl rfl Tryz.call97) (same_b hB hH.cons hxh hk hb.cons) rfl rfl rfl (fun _ => ?_)
      by_cases e : x = k
      · subst e
        rw [decide_eq_true rfl]
        refine s_y (y_notT rfl) rfl rfl rfl ?_
        refine s_nil ?_
        refine f_then ?_
        refine c_condF rfl ?_
        refine c_skip ?_
        refine f_blockN ?_
        refine f_then ?_
        refine c_region ?_
        refine s_y (y_move rfl) rfl rfl rfl ?_
        refine s_y (y_add rfl rfl (by omega)) rfl rfl rfl ?_
        refine s_y (y_assign rfl) rfl rfl rfl ?_
        refine s_nil ?_
        exact f_roundP (a, j + 1, ys) (hD.skip hx) (by dsimp only; omega) ⟨rfl, rfl, rfl, rfl, trivial⟩ (fun w h => h)
      · rw [decide_eq_false e]
        have hset : (pcs g ys ++ o.rest).set a (g.ptr x) = pcs g (ys.set a x) ++ o.rest := by
          rw [List.set_append_left _ _ (by rw [List.length_map]; omega), ← List.map_set]
        have haL : a < (pcs g ys ++ o.rest).length := by rw [List.length_append, List.length_map]; omega
        refine s_y (y_notF rfl) rfl rfl rfl ?_
        refine s_nil ?_
        refine f_then ?_
        refine c_condT rfl ?_
        refine c_seq ?_
        refine c_region ?_
        refine s_y (y_move rfl) rfl rfl rfl ?_
        refine s_y (y_move rfl) rfl rfl rfl ?_
        refine s_y (y_move rfl) rfl rfl rfl ?_
        refine s_y (y_indexAddr1 Tryz.tab rfl rfl rfl rfl _ rfl (by omega)) rfl rfl rfl ?_
        refine s_set (set_row Tryz.tab 0 rfl rfl rfl rfl rfl haL) rfl rfl ?_
        rw [hset]
        refine s_nil ?_
        refine f_then ?_
        refine c_region ?_
        refine s_y (y_move rfl) rfl rfl rfl ?_
        refine s_y (y_add rfl rfl (by omega)) rfl rfl rfl ?_
        refine s_y (y_assign rfl) rfl rfl rfl ?_
        refine s_nil ?_
        refine f_blockN ?_
        refine f_then ?_
        refine c_region ?_
        refine s_y (y_move rfl) rfl rfl rfl ?_
        refine s_y (y_add rfl rfl (by omega)) rfl rfl rfl ?_
        refine s_y (y_assign rfl) rfl rfl rfl ?_
        refine s_nil ?_
        exact f_roundP (a + 1, j + 1, ys.set a x) (hD.keep hx e) (by dsimp only; omega) ⟨rfl, rfl, rfl, rfl, trivial⟩ (fun w h => h)
    · obtain rfl : j = q.length := by omega
      have hdone := hD.done
      have htl : (pcs g ys ++ o.rest).take a = pcs g (q.filter fun j => !decide (j = k)) := by
        rw [List.take_append_of_le_length (by rw [List.length_map]; omega), ← List.map_take, hdone]
      have hfl : (q.filter fun j => !decide (j = k)).length = a := by rw [← hdone, List.length_take]; omega
      have hne : ¬ o.cap = a := by omega
      have hsl : (if o.cap = a then some (⟨o.b, 0, none⟩ : Addr) else Option.map (fun x : Addr => x.add (a * 1)) (some (⟨o.b, 0, none⟩ : Addr))) = some (⟨o.b, a, none⟩ : Addr) := by
        rw [if_neg hne]
        simp [addr_add]
      have hlen : a + (q.length - a) ≤ (pcs g ys ++ o.rest).length := by rw [List.length_append, List.length_map]; omega
      refine c_seq ?_
      refine c_seq ?_
      refine c_region ?_
      refine s_y (y_move rfl) rfl rfl rfl ?_
      refine s_y (y_move rfl) rfl rfl rfl ?_
      refine s_y (y_lenR' Tryz.tab rfl hv rfl) rfl rfl rfl ?_
      refine s_y (y_F (y_lss rfl rfl) (by omega)) rfl rfl rfl ?_
      refine s_nil ?_
      refine f_then ?_
      refine c_condF rfl ?_
      refine c_exit ?_
      refine f_thenE ?_
      refine f_rndE ?_
      refine f_blockE ?_
      refine f_then ?_
      refine c_seq ?_
      refine c_region ?_
      refine s_y (y_move rfl) rfl rfl rfl ?_
      refine s_y (y_move rfl) rfl rfl rfl ?_
      refine s_y (y_sliceFrom Tryz.tab rfl rfl rfl rfl rfl (by omega) (by omega)) rfl rfl rfl ?_
      refine s_do0 (do_clear Tryz.tab 0 (b := o.b) (off := a) (m := q.length - a) (c := o.cap - a) (congrArg (fun p => some (Value.slice p (q.length - a) (o.cap - a))) hsl) rfl rfl rfl rfl hlen) rfl rfl (fun x => ?_)
      obtain ⟨L', hL1, hL2⟩ := x
      dsimp only
      rw [htl] at hL2
      have hres : BufR 105 1 (.slice (some ⟨o.b, 0, none⟩) a o.cap) [(o.b, row 105 L')] (ptrs g (q.filter fun j => !decide (j = k))) := by
        refine ⟨ptrs_len g _, ⟨.inr ⟨⟨o.b, o.cap, [], L'.drop a⟩, ?_, ?_, ⟨?_, ?_, ?_, ?_⟩, rfl⟩⟩⟩
        · rw [List.length_map, hfl]; rfl
        · rw [ptrs_flat, ← hL2, och, List.nil_append, List.take_append_drop]
        · rw [List.length_map, hfl]; show a ≤ o.cap; omega
        · exact hof.max
        · rw [ptrs_flat, List.length_map, List.length_map, Nat.mul_one]
        · rw [List.length_map, hfl, List.length_drop, hL1, List.length_append, List.length_map]; show (o.cap - a) * 1 ≤ _; omega
      refine s_nil ?_
      refine f_then ?_
      refine c_seq ?_
      refine c_region ?_
      refine s_y (y_move rfl) rfl rfl rfl ?_
      refine s_y (y_move rfl) rfl rfl rfl ?_
      refine s_y (y_sliceTo Tryz.tab rfl rfl rfl rfl rfl (by omega)) rfl rfl rfl ?_
      refine s_y (y_assign rfl) rfl rfl rfl ?_
      refine s_nil ?_
      refine f_then ?_
      refine c_ret ?_
      exact f_ret ⟨(_, _), hres⟩ (res1 rfl rfl) (fun w h => h)
end Go.KL
end
