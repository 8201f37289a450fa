/- The library of the proof, part 6: a program logic over the model, walks of functions, plain laws. -/
import Derived.Test.YtalmnckijegplaaL5
section
/- Walks: a search in an ascending list; sheet.Plan. -/
namespace Go.KL
open Go.Proofs
theorem SurvN.get {note : Int × Int → Int} {U : List (Int × Int)} {N : List NE} {cn : Nat} (h : SurvN note U N cn) {d : Int} (hd : ∃ x ∈ U, x.1 = d) :
    ∃ e ∈ N, mget d nilS (N.map NE.ent) = osl e.o e.xs.length ∧ e.xs.length = (asc note (U.filter fun x => decide (x.1 = d))).length := by
  obtain ⟨x, hx, rfl⟩ := hd
  obtain ⟨e, he, hk⟩ := h.k x hx
  obtain ⟨A, R, rfl⟩ := List.append_of_mem he
  have hno := h.m.keys
  rw [ent_keys, List.map_append, List.map_cons] at hno
  obtain ⟨hA, _⟩ := nodup_mid hno
  refine ⟨e, he, ?_, len_eq (h.d e he) (asc_asc _ _).nodup fun v => ?_⟩
  · rw [List.map_append, List.map_cons]
    show mget x.1 nilS (A.map NE.ent ++ (e.k, osl e.o e.xs.length, e.b) :: R.map NE.ent) = _
    rw [hk]
    exact mget_mid (by rw [ent_keys, ← hk]; exact hA)
  · rw [h.v e he, mem_asc, hk]
    constructor
    · rintro ⟨y, hy, q1, q2⟩; exact ⟨y, List.mem_filter.2 ⟨hy, by simpa using q1⟩, q2⟩
    · rintro ⟨y, hy, q2⟩
      obtain ⟨y1, y2⟩ := List.mem_filter.1 hy
      exact ⟨y, y1, by simpa using y2, q2⟩
theorem SurvB.get {bun : Int × Int → Int} {U : List (Int × Int)} {B : List BE} {cb : Nat} (h : SurvB bun U B cb) {d : Int} (hd : ∃ x ∈ U, bun x = d) :
    ∃ (e : BE) (r : Chunk), mget d (.map none) (B.map BE.ent) = .map (some e.blk) ∧ (bch B).Perm ((e.blk, mobj e.es e.c) :: r) ∧ MOK e.es e.c ∧ skeys e.es = asc (·.1) (U.filter fun x => decide (bun x = d)) := by
  obtain ⟨x, hx, rfl⟩ := hd
  obtain ⟨e, he, hk⟩ := h.k x hx
  obtain ⟨A, R, rfl⟩ := List.append_of_mem he
  have hno := h.m.keys
  rw [bent_keys, List.map_append, List.map_cons] at hno
  obtain ⟨hA, _⟩ := nodup_mid hno
  refine ⟨e, bch (A ++ R), ?_, by simp [bch, BE.cell], h.i e he, skeys_asc (h.i e he) fun k => ?_⟩
  · rw [List.map_append, List.map_cons]
    show mget (bun x) (.map none) (A.map BE.ent ++ (e.k, .map (some e.blk), e.b) :: R.map BE.ent) = _
    rw [hk]
    exact mget_mid (by rw [bent_keys, ← hk]; exact hA)
  · rw [h.v e he, hk]
    constructor
    · rintro ⟨y, hy, q1, q2⟩; exact ⟨y, List.mem_filter.2 ⟨hy, by simpa using q1⟩, q2⟩
    · rintro ⟨y, hy, q2⟩
      obtain ⟨y1, y2⟩ := List.mem_filter.1 hy
      exact ⟨y, y1, by simpa using y2, q2⟩
theorem cell_il {W : World} {L : List Chunk} (i : Nat) {e : TypeId} {o : Option Own} {xs : List Int} {p : Option Addr} {c : Nat} (ho : owfO 1 o xs.length (ivals xs)) (hv : ov o xs.length = .slice p xs.length c) (hL : L.getD i [] = oc e o (ivals xs)) {k : Nat} (hk : k < xs.length) :
    ∃ b q, p = some ⟨b, q, none⟩ ∧ CellIs (K W L) ⟨b, q + k, none⟩ (.int .i64 (xs.getD k 0)) := by
  have hI : IL (K W L) (ov o xs.length) xs := IL.oc i hL ho
  rw [hv] at hI
  obtain ⟨pa, ca, e, _, hcs⟩ := hI.open
  cases e
  obtain ⟨b, q, e, hc⟩ := hcs (by omega)
  exact ⟨b, q, e, hc k hk⟩
theorem selR_len {D : List Int} {g : Nat → Bool} : ∀ k, (selR D g k).length ≤ k
  | 0 => Nat.le_refl _
  | k + 1 => by
    have := selR_len (D := D) (g := g) k
    unfold selR
    split
    · rw [List.length_append, List.length_singleton]; omega
    · omega
theorem lc2 {A B : Chunk} {L : List Chunk} : 1 < (A :: B :: L).length := by simp only [List.length_cons]; omega
theorem lc3 {A B C : Chunk} {L : List Chunk} : 2 < (A :: B :: C :: L).length := by simp only [List.length_cons]; omega
theorem lc4 {A B C D : Chunk} {L : List Chunk} : 3 < (A :: B :: C :: D :: L).length := by simp only [List.length_cons]; omega
theorem lc5 {A B C D E : Chunk} {L : List Chunk} : 4 < (A :: B :: C :: D :: E :: L).length := by simp only [List.length_cons]; omega
theorem lc6 {A B C D E F : Chunk} {L : List Chunk} : 5 < (A :: B :: C :: D :: E :: F :: L).length := by simp only [List.length_cons]; omega
/-- The memory of Plan, behind the lists that it builds. -/
abbrev plT (b10 b8 b7 b4 bn bb : Nat) (d : Dmg) (q : Int) (c : Cos) (l : Lay) (Ls : List Chunk) : List Chunk := [(b10, row 75 [.map (some bn), .map (some bb), .int .i64 q])] :: d.ls bn bb ([(b8, row 32 [.int .i64 0, nilS, nilS, nilS])] :: [(b7, row 26 [.int .i64 c.r, .int .i64 c.s, .int .i64 c.o])] :: [(b4, row 23 l.v.cells.toList)] :: Ls)
theorem wsL_len {l : Lay} {s : Int} {c : Cos} {cs : List (Int × Int)} {D Bs : List Int} : (wsL l s c cs D Bs).length = D.length + Bs.length := by simp [wsL]
theorem nOf_bd {l : Lay} {s : Int} {cs : List (Int × Int)} {d : Int} : 0 ≤ nOf l s cs d ∧ nOf l s cs d ≤ (onces cs).length := by
  unfold nOf
  have h1 := asc_mono (f := notC l s) (U := cs.filter fun x => decide (x.1 = d)) (V := onces cs) fun x hx => mem_onces.2 (List.mem_filter.1 hx).1
  have h2 := asc_len (notC l s) (onces cs)
  omega
theorem take_len {α : Type} {l : List α} {k : Nat} (h : k ≤ l.length) : (l.take k).length = k := by rw [List.length_take]; omega
theorem cl_pg {cs : List (Int × Int)} {i j : Nat} (hj : j < 2) : Value.int .i64 (sel (cs.getD i (0, 0)) j) = pg (fun i => cs.getD i (0, 0)) i j := by
  rcases (show j = 0 ∨ j = 1 by omega) with rfl | rfl <;> rfl
theorem plan_goods {l : Lay} {s : Int} {c : Cos} {cs : List (Int × Int)} (hr : RefOK l s cs c []) {D Bs : List Int} (hD : D = asc (·.1) cs) (hB : Bs = asc (bunC l s) cs) :
    GoodsOK (D.length + Bs.length) (fun i => (wsL l s c cs D Bs).getD i 0) (prs l s cs D Bs Bs.length).length (fun i => (prs l s cs D Bs Bs.length).getD i (0, 0)) := by
  have g1 := hr.c.r; have g2 := hr.c.s; have g3 := hr.c.o
  have hn := hr.n
  have hf := hr.f
  unfold goodsF at hf
  rw [asc_onces, asc_onces, ← hD, ← hB] at hf
  have hDm : ∀ x ∈ cs, x.1 ∈ D := fun x hx => by rw [hD]; exact mem_asc.2 ⟨x, hx, rfl⟩
  refine ⟨hf, ?_, fun i hi => ?_, fun i hi => ?_⟩
  · have := prs_len (l := l) (s := s) hDm (hB ▸ (asc_asc _ _).nodup : Bs.Nodup) Bs.length (Nat.le_refl _)
    omega
  · rcases Nat.lt_or_ge i D.length with q | q
    · rw [wsL_fst q]
      have h1 := nOf_bd (l := l) (s := s) (cs := cs) (d := D.getD i 0)
      have h2 := mul_bd (a := nOf l s cs (D.getD i 0)) (b := c.s) (A := 512) (B := 1048576) (by omega) (by omega)
      omega
    · have := wsL_snd (l := l) (s := s) (c := c) (cs := cs) (D := D) (Bs := Bs) (j := i - D.length) (by omega)
      rw [Nat.add_sub_cancel' q] at this
      rw [this]
      omega
  · have hp := getD_mem (d := ((0, 0) : Pr)) hi
    obtain ⟨j, hj, d, hd, e⟩ := mem_prs.1 hp
    rw [e]
    obtain ⟨x, hx, _, rfl⟩ := mem_shB.1 hd
    have := (getD_idxOf (hDm x hx)).1
    unfold prp
    dsimp only
    omega
attribute [local irreducible] SC St Fin Sq Sw Ylds Doos Sets Enters Spec CellIs CellsAre Then Ret Rnd Chn resOK ints bools recs arr
set_option maxRecDepth 10000 in
set_option maxHeartbeats 8000000 in
theorem bsearch_spec (W : World) (Ls : List Chunk) (v : Value) (xs : List Int) (x : Int) (j : Nat) (hv : IL (K W Ls) v xs) (hl : xs.length ≤ 1000000) (ha : Asc xs) (hj : j < xs.length) (hx : xs.getD j 0 = x) :
    Spec Try.prog 48 #[v, .int .i64 x] (K W Ls) (fun _ : Unit => .tuple #[.int .i64 j, .bool true]) (fun _ => K W Ls) := by
  obtain ⟨pa, ca, rfl, hca, hcs⟩ := hv.open
  obtain ⟨b, q, rfl, hcell⟩ := hcs (by omega)
  refine enter (args := [_, _]) Try.func48 rfl Try.ntmps48 rfl ?_
  refine c_seq ?_
  refine c_region ?_
  refine s_y (y_assign rfl) rfl rfl rfl ?_
  refine s_y (y_assign rfl) rfl rfl rfl ?_
  refine s_nil ?_
  refine f_then ?_
  refine c_seq ?_
  refine c_region ?_
  refine s_y (y_move rfl) rfl rfl rfl ?_
  refine s_y (y_len Try.tab rfl rfl) rfl rfl rfl ?_
  refine s_y (y_assign rfl) rfl rfl rfl ?_
  refine s_nil ?_
  refine f_then ?_
  refine c_seq ?_
  refine c_region ?_
  refine s_y (y_move rfl) rfl rfl rfl ?_
  refine s_y (y_assign rfl) rfl rfl rfl ?_
  refine s_y (y_assign rfl) rfl rfl rfl ?_
  refine s_nil ?_
  refine f_then ?_
  refine c_seq ?_
  refine c_block ?_
  refine c_loopP (α := Nat × Nat) (fun z => [(0, .slice (some ⟨b, q, none⟩) xs.length ca), (1, .int .i64 x), (6, .int .i64 xs.length), (7, .int .i64 z.1), (8, .int .i64 z.2)]) (fun z => z.1 ≤ j ∧ j ≤ z.2 ∧ z.2 ≤ xs.length)
    (fun _ => K W Ls) (fun z => z.2 - z.1) (0, xs.length) ⟨rfl, rfl, rfl, rfl, rfl, trivial⟩ ⟨by show 0 ≤ j; omega, by show j ≤ xs.length; omega, Nat.le_refl _⟩ (fun w h => h) ?_
  rintro ⟨lo, hi⟩ ⟨h1, h2, h3⟩
  dsimp only at h1 h2 h3 ⊢
  refine c_seq ?_
  refine c_seq ?_
  refine c_region ?_
  refine s_y (y_move rfl) rfl rfl rfl ?_
  refine s_y (y_move rfl) rfl rfl rfl ?_
  refine s_y (y_lss rfl rfl) rfl rfl rfl ?_
  refine s_nil ?_
  refine f_then ?_
  refine c_condD rfl (fun hlt => ?_) (fun hge => ?_)
  · have hm1 : lo ≤ (lo + hi) / 2 := by omega
    have hm2 : (lo + hi) / 2 < hi := by omega
    generalize hm : (lo + hi) / 2 = m at *
    have hci := hcell m (by omega)
    refine c_skip ?_
    refine f_then ?_
    refine c_block ?_
    refine c_seq ?_
    refine c_region ?_
    refine s_y (y_move rfl) rfl rfl rfl ?_
    refine s_y (y_move rfl) rfl rfl rfl ?_
    refine s_y (y_add rfl rfl (by omega)) rfl rfl rfl ?_
    refine s_y (y_cvtId Try.tab (k' := .u64) rfl rfl rfl (IntWalk.u64_in _ (by omega))) rfl rfl rfl ?_
    refine s_y (y_shr1 (v := (m : Int)) rfl rfl (by decide) (by omega)) rfl rfl rfl ?_
    refine s_y (y_cvtId Try.tab (k' := .i64) rfl rfl rfl (IntWalk.i64_in _ (by omega))) rfl rfl rfl ?_
    refine s_y (y_assign rfl) rfl rfl rfl ?_
    refine s_nil ?_
    refine f_then ?_
    refine c_seq ?_
    refine c_region ?_
    refine s_y (y_move rfl) rfl rfl rfl ?_
    refine s_y (y_move rfl) rfl rfl rfl ?_
    refine s_y (y_indexAddr1o Try.tab rfl rfl rfl rfl _ rfl (by omega)) rfl rfl rfl ?_
    refine s_y (y_load Try.tab rfl rfl hci) rfl rfl rfl ?_
    refine s_y (y_move rfl) rfl rfl rfl ?_
    refine s_call (en_f rfl Try.call71) (less_spec _ _ _) rfl rfl rfl (fun _ => ?_)
    refine s_nil ?_
    refine f_then ?_
    refine c_condD rfl (fun hlt2 => ?_) (fun hge2 => ?_)
    · have hmj : m < j := by
        rcases Nat.lt_trichotomy m j with z | z | z
        · exact z
        · rw [z, hx] at hlt2; omega
        · have := asc_get ha z (by omega); omega
      refine c_region ?_
      refine s_y (y_move rfl) rfl rfl rfl ?_
      refine s_y (y_add rfl rfl (by omega)) rfl rfl rfl ?_
      refine s_y (y_assign rfl) rfl rfl rfl ?_
      refine s_nil ?_
      refine f_blockN ?_
      exact f_roundP (m + 1, hi) ⟨by show m + 1 ≤ j; omega, h2, h3⟩ (by show hi - (m + 1) < hi - lo; omega) ⟨rfl, rfl, rfl, rfl, rfl, trivial⟩ (fun w h => h)
    · have hmj : j ≤ m := by
        rcases Nat.lt_or_ge m j with z | z
        · have := asc_get ha z (by omega); omega
        · exact z
      refine c_region ?_
      refine s_y (y_move rfl) rfl rfl rfl ?_
      refine s_y (y_assign rfl) rfl rfl rfl ?_
      refine s_nil ?_
      refine f_blockN ?_
      exact f_roundP (lo, m) ⟨h1, hmj, by show m ≤ xs.length; omega⟩ (by show m - lo < hi - lo; omega) ⟨rfl, rfl, rfl, rfl, rfl, trivial⟩ (fun w h => h)
  · obtain rfl : lo = j := by omega
    have hci := hcell lo (by omega)
    refine c_exit ?_
    refine f_thenE ?_
    refine f_rndE ?_
    refine f_blockE ?_
    refine f_then ?_
    refine c_seq ?_
    refine c_region ?_
    refine s_y (y_move rfl) rfl rfl rfl ?_
    refine s_y (y_move rfl) rfl rfl rfl ?_
    refine s_y (y_move rfl) rfl rfl rfl ?_
    refine s_y (y_T (y_lss rfl rfl) (by omega)) rfl rfl rfl ?_
    refine s_y (y_move rfl) rfl rfl rfl ?_
    refine s_y (y_move rfl) rfl rfl rfl ?_
    refine s_y (y_move rfl) rfl rfl rfl ?_
    refine s_y (y_indexAddr1o Try.tab rfl rfl rfl rfl _ rfl (by omega)) rfl rfl rfl ?_
    refine s_y (y_load Try.tab rfl rfl hci) rfl rfl rfl ?_
    refine s_y (y_move rfl) rfl rfl rfl ?_
    refine s_y (y_T (y_eql rfl rfl) (by assumption)) rfl rfl rfl ?_
    refine s_y (y_move rfl) rfl rfl rfl ?_
    iterate 9 refine s_skip rfl rfl rfl ?_
    refine s_y (y_pickT rfl rfl) rfl rfl rfl ?_
    refine s_y (y_pickT rfl rfl) rfl rfl rfl ?_
    refine s_y (y_assign rfl) rfl rfl rfl ?_
    refine s_y (y_assign rfl) rfl rfl rfl ?_
    refine s_nil ?_
    refine f_then ?_
    refine c_ret ?_
    exact f_ret () (res2 rfl rfl rfl) (fun w h => h)
set_option maxRecDepth 10000 in
set_option maxHeartbeats 32000000 in
theorem plan_spec (W : World) (Ls : List Chunk) (l : Lay) (s : Int) (v : Value) (cs : List (Int × Int)) (c : Cos) (hr : RefOK l s cs c []) (hv : CL (K W Ls) v cs) (hl : cs.length ≤ 100000) :
    Spec Try.prog 18 #[l.v, .int .i64 s, v, c.v] (K W Ls)
      (X := { x : List Int × Option Own × Option Own × Option Own // OptP l s c cs x.1 ∧ x.1.length ≤ 120 ∧ owfO 1 x.2.1 x.1.length (ivals x.1) ∧ owfO 1 x.2.2.1 (asc (notC l s) (restC x.1 cs)).length (ivals (asc (notC l s) (restC x.1 cs))) ∧ owfO 1 x.2.2.2 (asc (bunC l s) (restC x.1 cs)).length (ivals (asc (bunC l s) (restC x.1 cs))) })
      (fun x => .tuple #[.agg #[.int .i64 (costF l s c cs x.1.1), ov x.1.2.1 x.1.1.length, ov x.1.2.2.1 (asc (notC l s) (restC x.1.1 cs)).length, ov x.1.2.2.2 (asc (bunC l s) (restC x.1.1 cs)).length], .int .i64 0])
      (fun x => K W (oc 3 x.1.2.2.1 (ivals (asc (notC l s) (restC x.1.1 cs))) :: oc 3 x.1.2.2.2 (ivals (asc (bunC l s) (restC x.1.1 cs))) :: oc 3 x.1.2.1 (ivals x.1.1) :: Ls)) := by
  have h := hr.g; have hin := hr.i; have hcst := hr.c; have hn5 := hr.n
  have hf5 := hr.f
  have hp := np_bd h.1; have h2 := h.2
  have g1 := hcst.r; have g2 := hcst.s; have g3 := hcst.o
  refine enter (args := [_, _, _, _]) Try.func18 rfl Try.ntmps18 rfl ?_
  refine c_seq ?_
  refine c_region ?_
  refine s_do (do_box rfl) rfl rfl rfl (fun b4 => ?_)
  refine s_do (do_box rfl) rfl rfl rfl (fun b7 => ?_)
  refine s_do (do_alloc Try.tab rfl) rfl rfl rfl (fun b8 => ?_)
  refine s_y (y_assign rfl) rfl rfl rfl ?_
  refine s_nil ?_
  refine f_then ?_
  refine c_seq ?_
  refine c_region ?_
  refine s_y (y_loadA Try.tab rfl rfl rfl rfl (cells_row0 2 rfl rfl)) rfl rfl rfl ?_
  refine s_y (y_move rfl) rfl rfl rfl ?_
  refine s_y (y_move rfl) rfl rfl rfl ?_
  refine s_y (y_loadA Try.tab rfl rfl rfl rfl (cells_row0 1 rfl rfl)) rfl rfl rfl ?_
  have hv1 : CL (K W ([(b8, row 32 [.int .i64 0, nilS, nilS, nilS])] :: [(b7, row 26 [.int .i64 c.r, .int .i64 c.s, .int .i64 c.o])] :: [(b4, row 23 l.v.cells.toList)] :: Ls)) v cs := hv.cls fun w h => h.tail.tail.tail
  refine s_call (en_f rfl Try.call43) (examine_ok W ([(b8, row 32 [.int .i64 0, nilS, nilS, nilS])] :: [(b7, row 26 [.int .i64 c.r, .int .i64 c.s, .int .i64 c.o])] :: [(b4, row 23 l.v.cells.toList)] :: Ls) l s v nilS cs c [] hr hv1 SlV.empty hl (by simp)) rfl rfl rfl (fun x => ?_)
  obtain ⟨⟨bn, bb, d⟩, hd⟩ := x
  dsimp only at hd ⊢
  have hDs := skeys_asc hd.n.m hd.n.keys
  have hBs := skeys_asc hd.b.m hd.b.keys
  have hDl := skeys_len (d.N.map NE.ent)
  have hBl := skeys_len (d.B.map BE.ent)
  refine s_y (y_move rfl) rfl rfl rfl ?_
  refine s_y (y_extract rfl rfl) rfl rfl rfl ?_
  refine s_y (y_extract rfl rfl) rfl rfl rfl ?_
  refine s_do (do_alloc Try.tab rfl) rfl rfl rfl (fun b10 => ?_)
  refine s_set (set_box Try.tab 0 rfl rfl rfl rfl rfl rfl rfl) rfl rfl ?_
  refine s_y (y_assign rfl) rfl rfl rfl ?_
  refine s_nil ?_
  refine f_then ?_
  refine c_seq ?_
  refine c_seq ?_
  refine c_region ?_
  refine s_y (y_move rfl) rfl rfl rfl ?_
  refine s_y (y_F (y_neq rfl rfl) (by omega)) rfl rfl rfl ?_
  refine s_nil ?_
  refine f_then ?_
  refine c_condF rfl ?_
  refine c_skip ?_
  refine f_then ?_
  refine c_seq ?_
  refine c_region ?_
  refine s_y (y_fieldAddr0 Try.tab rfl rfl rfl rfl rfl) rfl rfl rfl ?_
  refine s_y (y_load Try.tab rfl rfl (cell_row 0 rfl rfl)) rfl rfl rfl ?_
  refine s_call (en_f rfl Try.call45) (keysA_spec W _ (some bn)) rfl rfl rfl (fun ka => ?_)
  refine s_call (en_f rfl Try.call44) (sortedA_spec W _ 0 2 ka bn d.cn (d.N.map NE.ent) [] [] rfl rfl hd.n.m) rfl rfl rfl (fun o1 => ?_)
  obtain ⟨oD, hoD⟩ := o1
  dsimp only
  rw [hDs] at hDl
  rw [hDs, ← hDl] at hoD ⊢
  rw [hBs] at hBl
  have hgood := plan_goods hr (D := asc (·.1) cs) (Bs := asc (bunC l s) cs) rfl rfl
  have hopt := fun v g => plan_opt h hin hcst (D := asc (·.1) cs) (Bs := asc (bunC l s) cs) rfl rfl (v := v) (g := g)
  have hDa := asc_asc (·.1) cs
  have hBa := asc_asc (bunC l s) cs
  have hDm : ∀ d', d' ∈ asc (·.1) cs ↔ ∃ x ∈ cs, x.1 = d' := fun d' => mem_asc
  have hBm : ∀ d', d' ∈ asc (bunC l s) cs ↔ ∃ x ∈ cs, bunC l s x = d' := fun d' => mem_asc
  have hsz : (asc (·.1) cs).length + (asc (bunC l s) cs).length ≤ 120 := by unfold goodsF at hf5; rwa [asc_onces, asc_onces] at hf5
  generalize asc (·.1) cs = D at *
  generalize asc (bunC l s) cs = Bs at *
  obtain ⟨pd, cd, hvd⟩ := ov_slice hoD
  refine St.cls (C' := K W (oc 3 oD (ivals D) :: plT b10 b8 b7 b4 bn bb d (onces cs).length c l Ls)) ?_ (fun w h => h.dropAt 1)
  rw [hvd]
  refine s_y (y_assign rfl) rfl rfl rfl ?_
  refine s_nil ?_
  refine f_then ?_
  refine c_seq ?_
  refine c_region ?_
  refine s_y (y_assign rfl) rfl rfl rfl ?_
  refine s_nil ?_
  refine f_then ?_
  refine c_seq ?_
  refine c_seq ?_
  refine c_region ?_
  refine s_y (y_move rfl) rfl rfl rfl ?_
  refine s_y (y_len Try.tab rfl rfl) rfl rfl rfl ?_
  refine s_y (y_move rfl) rfl rfl rfl ?_
  refine s_nil ?_
  refine f_then ?_
  refine c_block ?_
  have hwl := wsL_len (l := l) (s := s) (c := c) (cs := cs) (D := D) (Bs := Bs)
  refine c_loopP (α := Nat × Option Own) (fun z => [(7, .pointer (some ⟨b7, 0, none⟩)), (8, .pointer (some ⟨b8, 0, none⟩)), (10, .pointer (some ⟨b10, 0, none⟩)), (12, .slice pd D.length cd), (13, ov z.2 z.1), (45, .slice pd D.length cd), (46, .int .i64 D.length), (47, .int .i64 z.1)]) (fun z => z.1 ≤ D.length ∧ owfO 1 z.2 z.1 (ivals ((wsL l s c cs D Bs).take z.1)))
    (fun z => K W (oc 3 oD (ivals D) :: oc 3 z.2 (ivals ((wsL l s c cs D Bs).take z.1)) :: plT b10 b8 b7 b4 bn bb d (onces cs).length c l Ls)) (fun z => D.length - z.1) (0, none) ⟨rfl, rfl, rfl, rfl, rfl, rfl, rfl, rfl, trivial⟩ ⟨Nat.zero_le _, rfl, rfl⟩ (fun w h => h.addNil.fronts [1]) ?_
  rintro ⟨k, oW⟩ ⟨hk, hoW⟩
  dsimp only at hk hoW ⊢
  refine c_seq ?_
  refine c_region ?_
  refine s_y (y_lss rfl rfl) rfl rfl rfl ?_
  refine s_nil ?_
  refine f_then ?_
  refine c_seq ?_
  refine c_condD rfl (fun hlt => ?_) (fun hge => ?_)
  · obtain ⟨b, q, rfl, hck⟩ := cell_il (W := W) (L := oc 3 oD (ivals D) :: oc 3 oW (ivals ((wsL l s c cs D Bs).take k)) :: plT b10 b8 b7 b4 bn bb d (onces cs).length c l Ls) 0 hoD hvd rfl (k := k) (by omega)
    obtain ⟨e, he, hget, hel⟩ := hd.n.get ((hDm _).1 (getD_mem (d := 0) (show k < D.length by omega)))
    have hnb := nOf_bd (l := l) (s := s) (cs := cs) (d := D.getD k 0)
    have hnd : nOf l s cs (D.getD k 0) = (e.xs.length : Int) := by unfold nOf; rw [hel]
    have hws := wsL_fst (l := l) (s := s) (c := c) (cs := cs) (D := D) (Bs := Bs) (k := k) (by omega)
    have htk := take_snoc (wsL l s c cs D Bs) k 0 (by omega)
    rw [hws, hnd] at htk
    have m1 := mul_bd (a := (e.xs.length : Int)) (b := c.s) (A := 512) (B := 1048576) (by omega) (by omega)
    refine c_skip ?_
    refine f_then ?_
    refine c_seq ?_
    refine c_block ?_
    refine c_seq ?_
    refine c_region ?_
    refine s_y (y_indexAddr1o Try.tab rfl rfl rfl rfl _ rfl (by omega)) rfl rfl rfl ?_
    refine s_y (y_load Try.tab rfl rfl hck) rfl rfl rfl ?_
    refine s_y (y_assign rfl) rfl rfl rfl ?_
    refine s_nil ?_
    refine f_then ?_
    refine c_region ?_
    refine s_y (y_move rfl) rfl rfl rfl ?_
    refine s_y (y_fieldAddr0 Try.tab rfl rfl rfl rfl rfl) rfl rfl rfl ?_
    refine s_y (y_load Try.tab rfl rfl (cell_row 2 rfl rfl)) rfl rfl rfl ?_
    refine s_y (y_move rfl) rfl rfl rfl ?_
    refine s_y (y_eq (y_lookup Try.tab 3 rfl rfl rfl rfl Try.zeroValue29 rfl) hget) rfl rfl rfl ?_
    refine s_y (y_len Try.tab rfl rfl) rfl rfl rfl ?_
    refine s_y (y_fieldAddrB Try.tab 1 rfl rfl rfl rfl rfl) rfl rfl rfl ?_
    refine s_y (y_load Try.tab rfl rfl (cell_row 8 rfl rfl)) rfl rfl rfl ?_
    refine s_y (y_mul rfl rfl (by omega)) rfl rfl rfl ?_
    refine s_y (y_fieldAddr0 Try.tab rfl rfl rfl rfl rfl) rfl rfl rfl ?_
    refine s_y (y_load Try.tab rfl rfl (cell_row 8 rfl rfl)) rfl rfl rfl ?_
    refine s_y (y_sub rfl rfl (by omega)) rfl rfl rfl ?_
    refine s_do (do_buildSlice1 Try.tab ⟨rfl, rfl, rfl, rfl⟩ rfl rfl rfl rfl) rfl rfl rfl (fun b63 => ?_)
    refine s_do (do_appendO Try.tab 2 (s := 1) (by_ := 8) (k := 1) (news := [.int .i64 (e.xs.length * c.s - c.r)]) (xs := ivals ((wsL l s c cs D Bs).take k)) (o := oW) rfl rfl ⟨rfl, rfl, rfl, rfl⟩ rfl rfl lc3 hoW (cells_row0 0 rfl rfl) rfl (by simp [Value.oneCell']) (by omega) (by unfold maxLen; omega) (by omega)) rfl rfl rfl (fun o2 => ?_)
    obtain ⟨o2, ho2⟩ := o2
    dsimp only
    refine s_y (y_assign rfl) rfl rfl rfl ?_
    refine s_nil ?_
    refine f_blockN ?_
    refine f_then ?_
    refine c_region ?_
    refine s_y (y_add rfl rfl (by omega)) rfl rfl rfl ?_
    refine s_y (y_move rfl) rfl rfl rfl ?_
    refine s_nil ?_
    have hvs : ivals ((wsL l s c cs D Bs).take k) ++ [.int .i64 (e.xs.length * c.s - c.r)] = ivals ((wsL l s c cs D Bs).take (k + 1)) := by rw [ivals_snoc, htk]
    rw [hvs] at ho2
    exact f_roundP (k + 1, some o2) ⟨by show k + 1 ≤ _; omega, ho2⟩ (by show D.length - (k + 1) < D.length - k; omega) ⟨rfl, rfl, rfl, rfl, rfl, rfl, rfl, rfl, trivial⟩ (fun w h => by dsimp only; rw [← hvs]; exact h.tail)
  obtain rfl : k = D.length := by omega
  refine c_exit ?_
  refine f_thenE ?_
  refine f_rndE ?_
  refine f_blockE ?_
  refine f_then ?_
  refine c_seq ?_
  refine c_region ?_
  refine s_y (y_assign rfl) rfl rfl rfl ?_
  refine s_nil ?_
  refine f_then ?_
  refine c_seq ?_
  refine c_seq ?_
  refine c_region ?_
  refine s_y (y_fieldAddrB Try.tab 1 rfl rfl rfl rfl rfl) rfl rfl rfl ?_
  refine s_y (y_load Try.tab rfl rfl (cell_row 2 rfl rfl)) rfl rfl rfl ?_
  refine s_call (en_f rfl Try.call46) (keysB_spec W _ (some bb)) rfl rfl rfl (fun kb => ?_)
  refine s_call (en_f rfl Try.call44) (sortedB_spec W _ 0 5 kb bb d.cb (d.B.map BE.ent) [] [] rfl rfl hd.b.m) rfl rfl rfl (fun o1 => ?_)
  obtain ⟨oB, hoB⟩ := o1
  dsimp only
  rw [hBs, ← hBl] at hoB ⊢
  obtain ⟨pb, cb', hvb⟩ := ov_slice hoB
  rw [hvb]
  refine s_y (y_len Try.tab rfl rfl) rfl rfl rfl ?_
  refine s_y (y_move rfl) rfl rfl rfl ?_
  refine s_nil ?_
  refine f_then ?_
  refine c_block ?_
  refine c_loopP (α := Nat × Option Own × Option Own) (fun z => [(7, .pointer (some ⟨b7, 0, none⟩)), (8, .pointer (some ⟨b8, 0, none⟩)), (10, .pointer (some ⟨b10, 0, none⟩)), (12, .slice pd D.length cd), (13, ov z.2.1 (D.length + z.1)), (16, ov z.2.2 (prs l s cs D Bs z.1).length), (69, .slice pb Bs.length cb'), (70, .int .i64 Bs.length), (71, .int .i64 z.1)])
    (fun z => z.1 ≤ Bs.length ∧ owfO 1 z.2.1 (D.length + z.1) (ivals ((wsL l s c cs D Bs).take (D.length + z.1))) ∧ owfO 2 z.2.2 (prs l s cs D Bs z.1).length (cvals (prs l s cs D Bs z.1)))
    (fun z => K W (oc 3 oB (ivals Bs) :: oc 3 oD (ivals D) :: oc 3 z.2.1 (ivals ((wsL l s c cs D Bs).take (D.length + z.1))) :: oc 88 z.2.2 (cvals (prs l s cs D Bs z.1)) :: plT b10 b8 b7 b4 bn bb d (onces cs).length c l Ls)) (fun z => Bs.length - z.1) (0, oW, none) ⟨rfl, rfl, rfl, rfl, rfl, rfl, rfl, rfl, rfl, trivial⟩ ⟨Nat.zero_le _, hoW, rfl, rfl⟩ (fun w h => (h.dropAt 1).addNil.fronts [3, 3, 3]) ?_
  clear hge hoW hk oW
  rintro ⟨j, oW, oQ⟩ ⟨hj, hoW, hoQ⟩
  dsimp only at hj hoW hoQ ⊢
  refine c_seq ?_
  refine c_region ?_
  refine s_y (y_lss rfl rfl) rfl rfl rfl ?_
  refine s_nil ?_
  refine f_then ?_
  refine c_seq ?_
  refine c_condD rfl (fun hlt => ?_) (fun hge => ?_)
  · obtain ⟨b, q, rfl, hck⟩ := cell_il (W := W) (L := oc 3 oB (ivals Bs) :: oc 3 oD (ivals D) :: oc 3 oW (ivals ((wsL l s c cs D Bs).take (D.length + j))) :: oc 88 oQ (cvals (prs l s cs D Bs j)) :: plT b10 b8 b7 b4 bn bb d (onces cs).length c l Ls) 0 hoB hvb rfl (k := j) (by omega)
    obtain ⟨e, r, hget, hpm, hM, hsk⟩ := hd.b.get ((hBm _).1 (getD_mem (d := 0) (show j < Bs.length by omega)))
    have hskl := skeys_len e.es
    have hpl := prs_len (l := l) (s := s) (cs := cs) (D := D) (Bs := Bs) (fun x hx => (hDm _).2 ⟨x, hx, rfl⟩) hBa.nodup (j + 1) (by omega)
    have hpr : prs l s cs D Bs (j + 1) = prs l s cs D Bs j ++ (shB l s cs (Bs.getD j 0)).map fun d => prp D j d := rfl
    have hshm : ∀ d', d' ∈ shB l s cs (Bs.getD j 0) → d' ∈ D := fun d' hd' => by obtain ⟨x, hx, _, rfl⟩ := mem_shB.1 hd'; exact (hDm _).2 ⟨x, hx, rfl⟩
    rw [show asc (·.1) (cs.filter fun x => decide (bunC l s x = Bs.getD j 0)) = shB l s cs (Bs.getD j 0) from rfl] at hsk
    rw [hsk] at hskl
    have hbj : ∀ k, k = Bs.getD j 0 → k = Bs.getD j 0 := fun _ h => h
    generalize hSh : shB l s cs (Bs.getD j 0) = Sh at *
    refine c_skip ?_
    refine f_then ?_
    refine c_seq ?_
    refine c_block ?_
    refine c_seq ?_
    refine c_region ?_
    refine s_y (y_indexAddr1o Try.tab rfl rfl rfl rfl _ rfl (by omega)) rfl rfl rfl ?_
    refine s_y (y_load Try.tab rfl rfl hck) rfl rfl rfl ?_
    refine s_y (y_assign rfl) rfl rfl rfl ?_
    refine s_nil ?_
    refine f_then ?_
    refine c_seq ?_
    refine c_seq ?_
    refine c_region ?_
    refine s_y (y_fieldAddrB Try.tab 1 rfl rfl rfl rfl rfl) rfl rfl rfl ?_
    refine s_y (y_load Try.tab rfl rfl (cell_row 4 rfl rfl)) rfl rfl rfl ?_
    refine s_y (y_move rfl) rfl rfl rfl ?_
    refine s_y (y_eq (y_lookup Try.tab 6 rfl rfl rfl rfl Try.zeroValue84 rfl) hget) rfl rfl rfl ?_
    refine s_call (en_f rfl Try.call47) (keysC_spec W _ (some e.blk)) rfl rfl rfl (fun kc => ?_)
    refine St.cls (C' := K W ([(kc, row 84 [.map (some e.blk)])] :: ((e.blk, mobj e.es e.c) :: r) :: oc 3 oB (ivals Bs) :: oc 3 oD (ivals D) :: oc 3 oW (ivals ((wsL l s c cs D Bs).take (D.length + j))) :: oc 88 oQ (cvals (prs l s cs D Bs j)) :: [(b10, row 75 [.map (some bn), .map (some bb), .int .i64 (onces cs).length])] :: [(bn, mobj (d.N.map NE.ent) d.cn)] :: [(bb, mobj (d.B.map BE.ent) d.cb)] :: nch d.N :: [(b8, row 32 [.int .i64 0, nilS, nilS, nilS])] :: [(b7, row 26 [.int .i64 c.r, .int .i64 c.s, .int .i64 c.o])] :: [(b4, row 23 l.v.cells.toList)] :: Ls)) ?_ (fun w h => ((K.front 9 h).perm hpm).fronts [1])
    refine s_call (en_f rfl Try.call44) (sortedC_spec W _ 0 1 kc e.blk e.c e.es [] r rfl rfl hM) rfl rfl rfl (fun o1 => ?_)
    obtain ⟨oS, hoS⟩ := o1
    dsimp only
    rw [hsk, ← hskl] at hoS ⊢
    obtain ⟨ps, cS, hvs⟩ := ov_slice hoS
    rw [hvs]
    refine St.cls (C' := K W (oc 3 oS (ivals Sh) :: oc 3 oB (ivals Bs) :: oc 3 oD (ivals D) :: oc 3 oW (ivals ((wsL l s c cs D Bs).take (D.length + j))) :: oc 88 oQ (cvals (prs l s cs D Bs j)) :: plT b10 b8 b7 b4 bn bb d (onces cs).length c l Ls)) ?_ (fun w h => (((h.dropAt 1).front 1).perm hpm.symm).fronts [9, 9, 9, 9, 9, 9, 9, 9, 9])
    refine s_y (y_len Try.tab rfl rfl) rfl rfl rfl ?_
    refine s_y (y_move rfl) rfl rfl rfl ?_
    refine s_nil ?_
    refine f_then ?_
    refine c_block ?_
    refine c_loopP (α := Nat × Option Own) (fun z => [(7, .pointer (some ⟨b7, 0, none⟩)), (8, .pointer (some ⟨b8, 0, none⟩)), (10, .pointer (some ⟨b10, 0, none⟩)), (12, .slice pd D.length cd), (13, ov oW (D.length + j)), (16, ov z.2 (prs l s cs D Bs j ++ (Sh.take z.1).map (prp D j)).length), (69, .slice (some ⟨b, q, none⟩) Bs.length cb'), (70, .int .i64 Bs.length), (71, .int .i64 j), (80, .slice ps Sh.length cS), (81, .int .i64 Sh.length), (82, .int .i64 z.1)])
      (fun z => z.1 ≤ Sh.length ∧ owfO 2 z.2 (prs l s cs D Bs j ++ (Sh.take z.1).map (prp D j)).length (cvals (prs l s cs D Bs j ++ (Sh.take z.1).map (prp D j))))
      (fun z => K W (oc 3 oS (ivals Sh) :: oc 3 oB (ivals Bs) :: oc 3 oD (ivals D) :: oc 3 oW (ivals ((wsL l s c cs D Bs).take (D.length + j))) :: oc 88 z.2 (cvals (prs l s cs D Bs j ++ (Sh.take z.1).map (prp D j))) :: plT b10 b8 b7 b4 bn bb d (onces cs).length c l Ls)) (fun z => Sh.length - z.1) (0, oQ) ⟨rfl, rfl, rfl, rfl, rfl, by show some (ov oQ _) = some (ov oQ _); rw [List.take_zero, List.map_nil, List.append_nil], rfl, rfl, rfl, rfl, rfl, rfl, trivial⟩ ⟨Nat.zero_le _, by rw [List.take_zero, List.map_nil, List.append_nil]; exact hoQ⟩ (fun w h => by dsimp only; rw [List.take_zero, List.map_nil, List.append_nil]; exact h) ?_
    rintro ⟨i, oQ'⟩ ⟨hi, hoQ'⟩
    dsimp only at hi hoQ' ⊢
    have hShl : Sh.length ≤ 512 := by
      rw [hpr] at hpl
      simp only [List.length_append, List.length_map] at hpl
      omega
    have hpi : (prs l s cs D Bs j ++ (Sh.take i).map (prp D j)).length ≤ 512 := by
      rw [hpr] at hpl
      simp only [List.length_append, List.length_map, List.length_take] at hpl ⊢
      omega
    refine c_seq ?_
    refine c_region ?_
    refine s_y (y_lss rfl rfl) rfl rfl rfl ?_
    refine s_nil ?_
    refine f_then ?_
    refine c_seq ?_
    refine c_condD rfl (fun hlt2 => ?_) (fun hge2 => ?_)
    · obtain ⟨b2, q2, rfl, hck2⟩ := cell_il (W := W) (L := oc 3 oS (ivals Sh) :: oc 3 oB (ivals Bs) :: oc 3 oD (ivals D) :: oc 3 oW (ivals ((wsL l s c cs D Bs).take (D.length + j))) :: oc 88 oQ' (cvals (prs l s cs D Bs j ++ (Sh.take i).map (prp D j))) :: plT b10 b8 b7 b4 bn bb d (onces cs).length c l Ls) 0 hoS hvs rfl (k := i) (by omega)
      obtain ⟨x1, x2⟩ := getD_idxOf (hshm _ (getD_mem (d := 0) (show i < Sh.length by omega)))
      have hID : IL (K W (oc 3 oS (ivals Sh) :: oc 3 oB (ivals Bs) :: oc 3 oD (ivals D) :: oc 3 oW (ivals ((wsL l s c cs D Bs).take (D.length + j))) :: oc 88 oQ' (cvals (prs l s cs D Bs j ++ (Sh.take i).map (prp D j))) :: plT b10 b8 b7 b4 bn bb d (onces cs).length c l Ls)) (ov oD D.length) D := IL.oc 2 rfl hoD
      rw [hvd] at hID
      refine c_skip ?_
      refine f_then ?_
      refine c_seq ?_
      refine c_block ?_
      refine c_seq ?_
      refine c_region ?_
      refine s_y (y_indexAddr1o Try.tab rfl rfl rfl rfl _ rfl (by omega)) rfl rfl rfl ?_
      refine s_y (y_load Try.tab rfl rfl hck2) rfl rfl rfl ?_
      refine s_y (y_assign rfl) rfl rfl rfl ?_
      refine s_nil ?_
      refine f_then ?_
      refine c_seq ?_
      refine c_region ?_
      refine s_y (y_move rfl) rfl rfl rfl ?_
      refine s_y (y_move rfl) rfl rfl rfl ?_
      refine s_call (en_f rfl Try.call48) (bsearch_spec W _ (.slice pd D.length cd) D (Sh.getD i 0) (D.idxOf (Sh.getD i 0)) hID (by omega) hDa x1 x2) rfl rfl rfl (fun _ => ?_)
      refine s_y (y_move rfl) rfl rfl rfl ?_
      refine s_y (y_extract rfl rfl) rfl rfl rfl ?_
      refine s_y (y_extract rfl rfl) rfl rfl rfl ?_
      refine s_y (y_assign rfl) rfl rfl rfl ?_
      refine s_y (y_assign rfl) rfl rfl rfl ?_
      refine s_nil ?_
      refine f_then ?_
      refine c_region ?_
      refine s_y (y_move rfl) rfl rfl rfl ?_
      refine s_y (y_move rfl) rfl rfl rfl ?_
      refine s_y (y_lenO Try.tab rfl (by assumption) rfl) rfl rfl rfl ?_
      refine s_y (y_move rfl) rfl rfl rfl ?_
      refine s_y (y_buildArr Try.tab rfl rfl rfl rfl rfl) rfl rfl rfl ?_
      refine s_do (do_buildSliceS Try.tab ⟨rfl, rfl, rfl, rfl⟩ rfl rfl rfl rfl) rfl rfl rfl (fun b97 => ?_)
      refine s_do (do_appendO Try.tab 5 (s := 2) (by_ := 16) (k := 1) (news := [.int .i64 ((D.length + j : Nat) : Int), .int .i64 ((D.idxOf (Sh.getD i 0) : Nat) : Int)]) (xs := cvals (prs l s cs D Bs j ++ (Sh.take i).map (prp D j))) (o := oQ') rfl rfl ⟨rfl, rfl, rfl, rfl⟩ rfl rfl lc6 hoQ' (cells_row0 0 rfl rfl) rfl (by simp [Value.oneCell']) (by omega) (by unfold maxLen; omega) (by omega)) rfl rfl rfl (fun o2 => ?_)
      obtain ⟨o2, ho2⟩ := o2
      dsimp only
      refine s_y (y_assign rfl) rfl rfl rfl ?_
      refine s_nil ?_
      refine f_blockN ?_
      refine f_then ?_
      refine c_region ?_
      refine s_y (y_add rfl rfl (by omega)) rfl rfl rfl ?_
      refine s_y (y_move rfl) rfl rfl rfl ?_
      refine s_nil ?_
      have hnx : prs l s cs D Bs j ++ (Sh.take i).map (prp D j) ++ [(((D.length + j : Nat) : Int), ((D.idxOf (Sh.getD i 0) : Nat) : Int))] = prs l s cs D Bs j ++ (Sh.take (i + 1)).map (prp D j) := by
        rw [take_snoc Sh i 0 (by omega), List.map_append, List.append_assoc]; rfl
      have hvs2 := cvals_snoc (prs l s cs D Bs j ++ (Sh.take i).map (prp D j)) ((D.length + j : Nat) : Int) ((D.idxOf (Sh.getD i 0) : Nat) : Int)
      rw [hnx] at hvs2
      have hl2 : (prs l s cs D Bs j ++ (Sh.take i).map (prp D j)).length + 1 = (prs l s cs D Bs j ++ (Sh.take (i + 1)).map (prp D j)).length := by rw [← hnx]; simp only [List.length_append, List.length_singleton]
      rw [hvs2, hl2] at ho2
      exact f_roundP (i + 1, some o2) ⟨by show i + 1 ≤ _; omega, ho2⟩ (by show Sh.length - (i + 1) < Sh.length - i; omega) ⟨rfl, rfl, rfl, rfl, rfl, by show some (osl o2 _) = some (ov (some o2) _); rw [hl2]; rfl, rfl, rfl, rfl, rfl, rfl, rfl, trivial⟩ (fun w h => by dsimp only; rw [← hvs2]; exact h.tail)
    have hie : i = Sh.length := by omega
    have hP : prs l s cs D Bs j ++ (Sh.take i).map (prp D j) = prs l s cs D Bs (j + 1) := by rw [hie, List.take_length, hpr]
    rw [hP] at hoQ' ⊢
    have hws := wsL_snd (l := l) (s := s) (c := c) (cs := cs) (D := D) (Bs := Bs) (j := j) (by omega)
    have htk := take_snoc (wsL l s c cs D Bs) (D.length + j) 0 (by omega)
    rw [hws] at htk
    refine c_exit ?_
    refine f_thenE ?_
    refine f_rndE ?_
    refine f_blockE ?_
    refine f_then ?_
    refine c_region ?_
    refine s_y (y_move rfl) rfl rfl rfl ?_
    refine s_y (y_fieldAddrB Try.tab 2 rfl rfl rfl rfl rfl) rfl rfl rfl ?_
    refine s_y (y_load Try.tab rfl rfl (cell_row 11 rfl rfl)) rfl rfl rfl ?_
    refine s_do (do_buildSlice1 Try.tab ⟨rfl, rfl, rfl, rfl⟩ rfl rfl rfl rfl) rfl rfl rfl (fun b103 => ?_)
    refine s_do (do_appendO Try.tab 4 (s := 1) (by_ := 8) (k := 1) (news := [.int .i64 c.o]) (xs := ivals ((wsL l s c cs D Bs).take (D.length + j))) (o := oW) rfl rfl ⟨rfl, rfl, rfl, rfl⟩ rfl rfl lc5 hoW (cells_row0 0 rfl rfl) rfl (by simp [Value.oneCell']) (by omega) (by unfold maxLen; omega) (by omega)) rfl rfl rfl (fun o2 => ?_)
    obtain ⟨o2, ho2⟩ := o2
    dsimp only
    refine s_y (y_assign rfl) rfl rfl rfl ?_
    refine s_nil ?_
    refine f_blockN ?_
    refine f_then ?_
    refine c_region ?_
    refine s_y (y_add rfl rfl (by omega)) rfl rfl rfl ?_
    refine s_y (y_move rfl) rfl rfl rfl ?_
    refine s_nil ?_
    have hvs3 : ivals ((wsL l s c cs D Bs).take (D.length + j)) ++ [.int .i64 c.o] = ivals ((wsL l s c cs D Bs).take (D.length + (j + 1))) := by rw [ivals_snoc, ← htk]; rfl
    rw [hvs3] at ho2
    exact f_roundP (j + 1, some o2, oQ') ⟨by show j + 1 ≤ _; omega, ho2, hoQ'⟩ (by show Bs.length - (j + 1) < Bs.length - j; omega) ⟨rfl, rfl, rfl, rfl, rfl, rfl, rfl, rfl, rfl, trivial⟩ (fun w h => by dsimp only; rw [← hvs3]; exact h.tail.tail)
  have hje : j = Bs.length := by omega
  subst hje
  rw [← hwl, List.take_length] at hoW ⊢
  have hIW : SlV (K W (oc 3 oB (ivals Bs) :: oc 3 oD (ivals D) :: oc 3 oW (ivals (wsL l s c cs D Bs)) :: oc 88 oQ (cvals (prs l s cs D Bs Bs.length)) :: plT b10 b8 b7 b4 bn bb d (onces cs).length c l Ls)) (ov oW (wsL l s c cs D Bs).length) (wsL l s c cs D Bs).length 1 (fun i _ => .int .i64 ((wsL l s c cs D Bs).getD i 0)) := IL.oc 2 rfl hoW
  have hIQ : CL (K W (oc 3 oB (ivals Bs) :: oc 3 oD (ivals D) :: oc 3 oW (ivals (wsL l s c cs D Bs)) :: oc 88 oQ (cvals (prs l s cs D Bs Bs.length)) :: plT b10 b8 b7 b4 bn bb d (onces cs).length c l Ls)) (ov oQ (prs l s cs D Bs Bs.length).length) (prs l s cs D Bs Bs.length) := CL.oc 3 rfl hoQ
  have hIQ2 : SlP (K W (oc 3 oB (ivals Bs) :: oc 3 oD (ivals D) :: oc 3 oW (ivals (wsL l s c cs D Bs)) :: oc 88 oQ (cvals (prs l s cs D Bs Bs.length)) :: plT b10 b8 b7 b4 bn bb d (onces cs).length c l Ls)) (ov oQ (prs l s cs D Bs Bs.length).length) (prs l s cs D Bs Bs.length).length (fun i => (prs l s cs D Bs Bs.length).getD i (0, 0)) := SlV.congr hIQ fun i hi j hj => cl_pg hj
  rw [hwl] at hIW ⊢
  refine c_exit ?_
  refine f_thenE ?_
  refine f_rndE ?_
  refine f_blockE ?_
  refine f_then ?_
  refine c_seq ?_
  refine c_region ?_
  refine s_y (y_move rfl) rfl rfl rfl ?_
  refine s_y (y_move rfl) rfl rfl rfl ?_
  refine s_call (en_f rfl Try.call49) (close_spec W _ (D.length + Bs.length) (prs l s cs D Bs Bs.length).length _ _ _ _ hIW hIQ2 hgood) rfl rfl rfl (fun y => ?_)
  obtain ⟨⟨v, f, g, bg⟩, hC⟩ := y
  dsimp only at hC ⊢
  obtain ⟨c1, c2, c3⟩ := hC.closeP hgood
  have hop := hopt v g c1 c2 c3
  refine s_y (y_move rfl) rfl rfl rfl ?_
  refine s_y (y_extract rfl rfl) rfl rfl rfl ?_
  refine s_y (y_extract rfl rfl) rfl rfl rfl ?_
  refine s_y (y_extract rfl rfl) rfl rfl rfl ?_
  refine s_y (y_assign rfl) rfl rfl rfl ?_
  refine s_y (y_assign rfl) rfl rfl rfl ?_
  refine s_y (y_assign rfl) rfl rfl rfl ?_
  refine s_nil ?_
  refine f_then ?_
  refine c_seq ?_
  refine c_region ?_
  refine s_y (y_assign rfl) rfl rfl rfl ?_
  refine s_nil ?_
  refine f_then ?_
  refine c_seq ?_
  refine c_seq ?_
  refine c_region ?_
  refine s_y (y_move rfl) rfl rfl rfl ?_
  refine s_y (y_len Try.tab rfl rfl) rfl rfl rfl ?_
  refine s_y (y_move rfl) rfl rfl rfl ?_
  refine s_nil ?_
  refine f_then ?_
  refine c_block ?_
  refine c_loopP (α := Nat × Option Own) (fun z => [(7, .pointer (some ⟨b7, 0, none⟩)), (8, .pointer (some ⟨b8, 0, none⟩)), (10, .pointer (some ⟨b10, 0, none⟩)), (12, .slice pd D.length cd), (24, .slice (some ⟨bg, 0, none⟩) (D.length + Bs.length) (D.length + Bs.length)), (26, ov z.2 (selR D g z.1).length), (113, .slice pd D.length cd), (114, .int .i64 D.length), (115, .int .i64 z.1)])
    (fun z => z.1 ≤ D.length ∧ owfO 1 z.2 (selR D g z.1).length (ivals (selR D g z.1))) (fun z => K W (oc 3 z.2 (ivals (selR D g z.1)) :: [(bg, bools 4 (D.length + Bs.length + 2) g [])] :: oc 3 oB (ivals Bs) :: oc 3 oD (ivals D) :: oc 3 oW (ivals (wsL l s c cs D Bs)) :: oc 88 oQ (cvals (prs l s cs D Bs Bs.length)) :: plT b10 b8 b7 b4 bn bb d (onces cs).length c l Ls)) (fun z => D.length - z.1) (0, none) ⟨rfl, rfl, rfl, rfl, rfl, rfl, rfl, rfl, rfl, trivial⟩ ⟨Nat.zero_le _, rfl, rfl⟩ (fun w h => h.addNil) ?_
  clear hge
  rintro ⟨k, oR⟩ ⟨hk, hoR⟩
  dsimp only at hk hoR ⊢
  have hRk := selR_len (D := D) (g := g) k
  refine c_seq ?_
  refine c_region ?_
  refine s_y (y_lss rfl rfl) rfl rfl rfl ?_
  refine s_nil ?_
  refine f_then ?_
  refine c_seq ?_
  refine c_condD rfl (fun hlt => ?_) (fun hge => ?_)
  · obtain ⟨b, q, rfl, hck⟩ := cell_il (W := W) (L := oc 3 oR (ivals (selR D g k)) :: [(bg, bools 4 (D.length + Bs.length + 2) g [])] :: oc 3 oB (ivals Bs) :: oc 3 oD (ivals D) :: oc 3 oW (ivals (wsL l s c cs D Bs)) :: oc 88 oQ (cvals (prs l s cs D Bs Bs.length)) :: plT b10 b8 b7 b4 bn bb d (onces cs).length c l Ls) 3 hoD hvd rfl (k := k) (by omega)
    refine c_skip ?_
    refine f_then ?_
    refine c_seq ?_
    refine c_block ?_
    refine c_seq ?_
    refine c_region ?_
    refine s_y (y_move rfl) rfl rfl rfl ?_
    refine s_y (y_indexAddr1o Try.tab rfl rfl rfl rfl _ rfl (by omega)) rfl rfl rfl ?_
    refine s_y (y_load Try.tab rfl rfl hck) rfl rfl rfl ?_
    refine s_y (y_assign rfl) rfl rfl rfl ?_
    refine s_y (y_assign rfl) rfl rfl rfl ?_
    refine s_nil ?_
    refine f_then ?_
    refine c_seq ?_
    refine c_region ?_
    refine s_y (y_move rfl) rfl rfl rfl ?_
    refine s_y (y_move rfl) rfl rfl rfl ?_
    refine s_y (y_indexAddr1 Try.tab rfl rfl rfl rfl _ rfl (by omega)) rfl rfl rfl ?_
    refine s_y (y_load Try.tab rfl rfl (cell_bools 1 rfl (by omega))) rfl rfl rfl ?_
    refine s_nil ?_
    refine f_then ?_
    cases hg : g k with
    | true =>
      have hsel : selR D g (k + 1) = selR D g k ++ [D.getD k 0] := by show (if g k then _ else _) = _; rw [hg]; rfl
      refine c_condT rfl ?_
      refine c_region ?_
      refine s_y (y_move rfl) rfl rfl rfl ?_
      refine s_y (y_move rfl) rfl rfl rfl ?_
      refine s_do (do_buildSlice1 Try.tab ⟨rfl, rfl, rfl, rfl⟩ rfl rfl rfl rfl) rfl rfl rfl (fun b126 => ?_)
      refine s_do (do_appendO Try.tab 1 (s := 1) (by_ := 8) (k := 1) (news := [.int .i64 (D.getD k 0)]) (xs := ivals (selR D g k)) (o := oR) rfl rfl ⟨rfl, rfl, rfl, rfl⟩ rfl rfl lc2 hoR (cells_row0 0 rfl rfl) rfl (by simp [Value.oneCell']) (by omega) (by unfold maxLen; omega) (by omega)) rfl rfl rfl (fun o2 => ?_)
      obtain ⟨o2, ho2⟩ := o2
      dsimp only
      refine s_y (y_assign rfl) rfl rfl rfl ?_
      refine s_nil ?_
      refine f_blockN ?_
      refine f_then ?_
      refine c_region ?_
      refine s_y (y_add rfl rfl (by omega)) rfl rfl rfl ?_
      refine s_y (y_move rfl) rfl rfl rfl ?_
      refine s_nil ?_
      have hl2 : (selR D g k).length + 1 = (selR D g (k + 1)).length := by rw [hsel, List.length_append, List.length_singleton]
      have hvs3 : ivals (selR D g k) ++ [.int .i64 (D.getD k 0)] = ivals (selR D g (k + 1)) := by rw [ivals_snoc, hsel]
      rw [hvs3, hl2] at ho2
      exact f_roundP (k + 1, some o2) ⟨by show k + 1 ≤ _; omega, ho2⟩ (by show D.length - (k + 1) < D.length - k; omega) ⟨rfl, rfl, rfl, rfl, rfl, by show some (osl o2 _) = some (ov (some o2) _); rw [hl2]; rfl, rfl, rfl, rfl, trivial⟩ (fun w h => by dsimp only; rw [← hvs3]; exact h.tail)
    | false =>
      have hsel : selR D g (k + 1) = selR D g k := by show (if g k then _ else _) = _; rw [hg]; rfl
      refine c_condF rfl ?_
      refine c_skip ?_
      refine f_blockN ?_
      refine f_then ?_
      refine c_region ?_
      refine s_y (y_add rfl rfl (by omega)) rfl rfl rfl ?_
      refine s_y (y_move rfl) rfl rfl rfl ?_
      refine s_nil ?_
      exact f_roundP (k + 1, oR) ⟨by show k + 1 ≤ _; omega, by dsimp only; rw [hsel]; exact hoR⟩ (by show D.length - (k + 1) < D.length - k; omega) ⟨rfl, rfl, rfl, rfl, rfl, by show _ = some (ov oR (selR D g (k + 1)).length); rw [hsel]; rfl, rfl, rfl, rfl, trivial⟩ (fun w h => by dsimp only; rw [hsel]; exact h)
  have hke : k = D.length := by omega
  subst hke
  generalize hR : selR D g D.length = R at *
  have hIR : IL (K W (oc 3 oR (ivals R) :: [(b8, row 32 [.int .i64 0, nilS, nilS, nilS])] :: [(b7, row 26 [.int .i64 c.r, .int .i64 c.s, .int .i64 c.o])] :: [(b4, row 23 l.v.cells.toList)] :: Ls)) (ov oR R.length) R := IL.oc 0 rfl hoR
  refine c_exit ?_
  refine f_thenE ?_
  refine f_rndE ?_
  refine f_blockE ?_
  refine f_then ?_
  refine c_seq ?_
  refine c_region ?_
  refine s_y (y_loadA Try.tab rfl rfl rfl rfl (cells_row0 6 rfl rfl)) rfl rfl rfl ?_
  refine s_y (y_loadA Try.tab rfl rfl rfl rfl (cells_row0 12 rfl rfl)) rfl rfl rfl ?_
  refine s_y (y_move rfl) rfl rfl rfl ?_
  refine St.cls (C' := K W (d.ls bn bb (oc 3 oR (ivals R) :: [(b8, row 32 [.int .i64 0, nilS, nilS, nilS])] :: [(b7, row 26 [.int .i64 c.r, .int .i64 c.s, .int .i64 c.o])] :: [(b4, row 23 l.v.cells.toList)] :: Ls))) ?_ (fun w h => ((((((h.dropAt 1).dropAt 1).dropAt 1).dropAt 1).dropAt 1).dropAt 1).fronts [4, 4, 4, 4])
  refine s_call (en_f rfl Try.call50) (repair_spec W (oc 3 oR (ivals R) :: [(b8, row 32 [.int .i64 0, nilS, nilS, nilS])] :: [(b7, row 26 [.int .i64 c.r, .int .i64 c.s, .int .i64 c.o])] :: [(b4, row 23 l.v.cells.toList)] :: Ls) l s cs bn bb d c R (ov oR R.length) (onces cs).length h hin hd hcst hIR hl (by omega)) rfl rfl rfl (fun x => ?_)
  obtain ⟨⟨o1, o2⟩, ho1, ho2⟩ := x
  dsimp only at ho1 ho2 ⊢
  skip
  refine s_set (set_box Try.tab 3 rfl rfl (by cases o1 <;> cases o2 <;> cases oR <;> rfl) rfl rfl rfl rfl) rfl rfl ?_
  refine s_y (y_assign rfl) rfl rfl rfl ?_
  refine s_nil ?_
  refine f_then ?_
  refine c_ret ?_
  have hRl : R.length ≤ 120 := by omega
  exact f_ret (X := { x : List Int × Option Own × Option Own × Option Own // OptP l s c cs x.1 ∧ x.1.length ≤ 120 ∧ owfO 1 x.2.1 x.1.length (ivals x.1) ∧ owfO 1 x.2.2.1 (asc (notC l s) (restC x.1 cs)).length (ivals (asc (notC l s) (restC x.1 cs))) ∧ owfO 1 x.2.2.2 (asc (bunC l s) (restC x.1 cs)).length (ivals (asc (bunC l s) (restC x.1 cs))) })
    ⟨(R, oR, o1, o2), hop, hRl, hoR, ho1, ho2⟩ (resA1 Try.tab rfl rfl rfl rfl rfl rfl (cells_row0 3 rfl rfl)) (fun w h => ((h.dropAt 3).dropAt 3).dropAt 3)
set_option maxRecDepth 10000 in
set_option maxHeartbeats 8000000 in
theorem plan_err (W : World) (Ls : List Chunk) (l : Lay) (s : Int) (v : Value) (cs : List (Int × Int)) (c : Cos) (h : Gd l s) (hr : ¬ RefOK l s cs c []) (hv : CL (K W Ls) v cs) (hl : cs.length ≤ 100000) :
    Spec Try.prog 18 #[l.v, .int .i64 s, v, c.v] (K W Ls) (fun _ : Unit => .tuple #[.agg #[.int .i64 0, nilS, nilS, nilS], .int .i64 (refF l s cs c [])]) (fun _ => K W Ls) := by
  have hw : refF l s cs c [] ≠ 0 := fun e => hr (refF_0.1 e)
  refine enter (args := [_, _, _, _]) Try.func18 rfl Try.ntmps18 rfl ?_
  refine c_seq ?_
  refine c_region ?_
  refine s_do (do_box rfl) rfl rfl rfl (fun b4 => ?_)
  refine s_do (do_box rfl) rfl rfl rfl (fun b7 => ?_)
  refine s_do (do_alloc Try.tab rfl) rfl rfl rfl (fun b8 => ?_)
  refine s_y (y_assign rfl) rfl rfl rfl ?_
  refine s_nil ?_
  refine f_then ?_
  refine c_seq ?_
  refine c_region ?_
  refine s_y (y_loadA Try.tab rfl rfl rfl rfl (cells_row0 2 rfl rfl)) rfl rfl rfl ?_
  refine s_y (y_move rfl) rfl rfl rfl ?_
  refine s_y (y_move rfl) rfl rfl rfl ?_
  refine s_y (y_loadA Try.tab rfl rfl rfl rfl (cells_row0 1 rfl rfl)) rfl rfl rfl ?_
  have hv1 : CL (K W ([(b8, row 32 [.int .i64 0, nilS, nilS, nilS])] :: [(b7, row 26 [.int .i64 c.r, .int .i64 c.s, .int .i64 c.o])] :: [(b4, row 23 l.v.cells.toList)] :: Ls)) v cs := hv.cls fun w h => h.tail.tail.tail
  refine s_call (en_f rfl Try.call43) (examine_err W ([(b8, row 32 [.int .i64 0, nilS, nilS, nilS])] :: [(b7, row 26 [.int .i64 c.r, .int .i64 c.s, .int .i64 c.o])] :: [(b4, row 23 l.v.cells.toList)] :: Ls) l s v nilS cs c [] h hr hv1 SlV.empty hl (by simp)) rfl rfl rfl (fun x => ?_)
  refine s_y (y_move rfl) rfl rfl rfl ?_
  refine s_y (y_extract rfl rfl) rfl rfl rfl ?_
  refine s_y (y_extract rfl rfl) rfl rfl rfl ?_
  refine s_do (do_alloc Try.tab rfl) rfl rfl rfl (fun b10 => ?_)
  refine s_set (set_box Try.tab 0 rfl rfl rfl rfl rfl rfl rfl) rfl rfl ?_
  refine s_y (y_assign rfl) rfl rfl rfl ?_
  refine s_nil ?_
  refine f_then ?_
  refine c_seq ?_
  refine c_seq ?_
  refine c_region ?_
  refine s_y (y_move rfl) rfl rfl rfl ?_
  refine s_y (y_T (y_neq rfl rfl) (by assumption)) rfl rfl rfl ?_
  refine s_nil ?_
  refine f_then ?_
  refine c_condT rfl ?_
  refine c_seq ?_
  refine c_region ?_
  refine s_y (y_build Try.tab rfl rfl rfl rfl rfl) rfl rfl rfl ?_
  refine s_y (y_move rfl) rfl rfl rfl ?_
  refine s_set (set_box Try.tab 1 rfl rfl rfl rfl rfl rfl rfl) rfl rfl ?_
  refine s_y (y_assign rfl) rfl rfl rfl ?_
  refine s_nil ?_
  refine f_then ?_
  refine c_ret ?_
  refine f_thenR ?_
  exact f_ret () (resA1 Try.tab rfl rfl rfl rfl rfl rfl (cells_row0 1 rfl rfl)) (fun w h => h.tail.tail.tail.tail)
end Go.KL
end

section
/- Plain law: the reference's search through all sets of damaged sheets ends at the repair of least cost. No program in sight. -/
namespace Go.KL
/-! ### Sets by their bits -/
def gK (k : Nat) : Nat → Bool := fun i => decide (k / 2 ^ i % 2 = 1)
theorem gK_all (n : Nat) : ∀ (g : Nat → Bool), ∃ k, k < 2 ^ n ∧ ∀ i, i < n → gK k i = g i := by
  induction n with
  | zero => intro g; exact ⟨0, by simp, fun i hi => absurd hi (by omega)⟩
  | succ n ih =>
    intro g
    obtain ⟨k, hk, h⟩ := ih fun i => g (i + 1)
    refine ⟨(if g 0 then 1 else 0) + 2 * k, ?_, fun i hi => ?_⟩
    · rw [Nat.pow_succ]
      split <;> omega
    · cases i with
      | zero =>
        unfold gK
        rw [Nat.pow_zero, Nat.div_one]
        cases g 0 with
        | true => simp
        | false => simp
      | succ i =>
        have := h i (by omega)
        unfold gK at this ⊢
        rw [Nat.pow_succ', ← Nat.div_div_eq_div_mul]
        have e : ((if g 0 then 1 else 0) + 2 * k) / 2 = k := by split <;> omega
        rw [e]
        exact this
theorem selR_congr {D : List Int} {g g' : Nat → Bool} : ∀ {k : Nat}, (∀ i, i < k → g i = g' i) → selR D g k = selR D g' k
  | 0, _ => rfl
  | k + 1, h => by
    have := selR_congr (D := D) (k := k) fun i hi => h i (by omega)
    unfold selR
    rw [this, h k (by omega)]
theorem selR_of {D R : List Int} (hD : Asc D) (hR : Asc R) (hs : ∀ x ∈ R, x ∈ D) : R = selR D (fun i => decide (D.getD i 0 ∈ R)) D.length := by
  refine Asc.ext hR (asc_selR hD (Nat.le_refl _)) fun x => ?_
  rw [mem_selR]
  constructor
  · intro hx
    obtain ⟨h1, h2⟩ := getD_idxOf (hs x hx)
    exact ⟨_, h1, by rw [h2]; exact decide_eq_true hx, h2⟩
  · rintro ⟨i, _, q, rfl⟩
    exact of_decide_eq_true q
theorem selR_zero (D : List Int) : ∀ k, selR D (gK 0) k = []
  | 0 => rfl
  | k + 1 => by
    have h : gK 0 k = false := by simp [gK]
    unfold selR
    rw [h, selR_zero D k]
    rfl
/-! ### What two repairs of least cost have in common -/
theorem sum_le4 {α : Type} {f1 f2 f3 f4 : α → Int} : ∀ {L : List α}, (∀ x ∈ L, f1 x + f2 x ≤ f3 x + f4 x) → (L.map f1).sum + (L.map f2).sum ≤ (L.map f3).sum + (L.map f4).sum
  | [], _ => by simp
  | a :: r, h => by
    have h1 := sum_le4 (L := r) fun x hx => h x (by simp [hx])
    have h2 := h a (by simp)
    simp only [List.map_cons, List.sum_cons]
    omega
section
variable {l : Lay} {s : Int} {c : Cos} {cs : List (Int × Int)} (h : Gd l s) (hin : ∀ x ∈ cs, CellIn l s x.1 x.2) (hc : c.OK)
include h hin hc
theorem cost_inter {Ro A B : List Int} (ho : OptP l s c cs Ro) (hA : Asc A) (hB : Asc B) (eA : costF l s c cs A = costF l s c cs Ro) (eB : costF l s c cs B = costF l s c cs Ro) : costF l s c cs (A.filter fun x => decide (x ∈ B)) = costF l s c cs Ro := by
  have g1 := hc.r; have g2 := hc.s; have g3 := hc.o
  have hI : Asc (A.filter fun x => decide (x ∈ B)) := hA.sublist List.filter_sublist
  have hIm : ∀ x, x ∈ A.filter (fun x => decide (x ∈ B)) ↔ x ∈ A ∧ x ∈ B := fun x => by rw [List.mem_filter, decide_eq_true_eq]
  have hUn : (A ++ B.filter fun x => decide (x ∉ A)).Nodup := by
    rw [List.nodup_append]
    refine ⟨hA.nodup, hB.nodup.sublist List.filter_sublist, ?_⟩
    intro x hx y hy e
    subst e
    have := (List.mem_filter.1 hy).2
    simp at this
    exact this hx
  have hUm : ∀ x, x ∈ A ++ B.filter (fun x => decide (x ∉ A)) ↔ x ∈ A ∨ x ∈ B := fun x => by
    rw [List.mem_append, List.mem_filter, decide_eq_true_eq]
    exact ⟨fun q => q.imp id And.left, fun q => q.elim .inl fun z => (Decidable.em (x ∈ A)).imp id fun w => ⟨z, w⟩⟩
  have hlen : (A.filter fun x => decide (x ∈ B)).length + (A ++ B.filter fun x => decide (x ∉ A)).length = A.length + B.length := by
    have e1 : (A.filter fun x => decide (x ∈ B)).length = (B.filter fun x => decide (x ∈ A)).length := len_eq hI.nodup (hB.nodup.sublist List.filter_sublist) fun x => by
      rw [List.mem_filter, List.mem_filter, decide_eq_true_eq, decide_eq_true_eq]; exact And.comm
    have e2 := (List.filter_append_perm (fun x => decide (x ∈ A)) B).length_eq
    rw [List.length_append] at e2
    have e3 : (B.filter fun x => decide (x ∉ A)) = B.filter fun x => ! decide (x ∈ A) := List.filter_congr fun x _ => by simp
    rw [List.length_append, e3]
    omega
  -- the union, ascending
  obtain ⟨U, hU⟩ : ∃ U, U = asc id (A ++ B.filter fun x => decide (x ∉ A)) := ⟨_, rfl⟩
  have hUa : Asc U := hU ▸ asc_asc _ _
  have hUm2 : ∀ x, x ∈ U ↔ x ∈ A ∨ x ∈ B := fun x => by rw [hU, mem_asc, ← hUm]; simp
  have hUl : U.length = (A ++ B.filter fun x => decide (x ∉ A)).length := len_eq hUa.nodup hUn fun x => by rw [hUm2, hUm]
  have hle := ho.min U hUa
  have hle2 := ho.min _ hI
  have s1 := sum_le4 (L := asc (·.1) cs) (f1 := fun d => if d ∈ A.filter (fun x => decide (x ∈ B)) then 0 else nOf l s cs d) (f2 := fun d => if d ∈ U then 0 else nOf l s cs d) (f3 := fun d => if d ∈ A then 0 else nOf l s cs d) (f4 := fun d => if d ∈ B then 0 else nOf l s cs d) fun d _ => by
    simp only [hIm, hUm2]
    by_cases p : d ∈ A <;> by_cases q : d ∈ B <;> simp [p, q]
  have s2 := sum_le4 (L := asc (bunC l s) cs) (f1 := fun b => if ∀ d ∈ shB l s cs b, d ∈ A.filter (fun x => decide (x ∈ B)) then (0 : Int) else 1) (f2 := fun b => if ∀ d ∈ shB l s cs b, d ∈ U then (0 : Int) else 1) (f3 := fun b => if ∀ d ∈ shB l s cs b, d ∈ A then (0 : Int) else 1) (f4 := fun b => if ∀ d ∈ shB l s cs b, d ∈ B then (0 : Int) else 1) fun b _ => by
    by_cases p : ∀ d ∈ shB l s cs b, d ∈ A
    · by_cases q : ∀ d ∈ shB l s cs b, d ∈ B
      · rw [if_pos p, if_pos q, if_pos fun d hd => (hIm d).2 ⟨p d hd, q d hd⟩, if_pos fun d hd => (hUm2 d).2 (.inl (p d hd))]; omega
      · rw [if_pos p, if_neg q, if_neg fun z => q fun d hd => ((hIm d).1 (z d hd)).2, if_pos fun d hd => (hUm2 d).2 (.inl (p d hd))]; omega
    · by_cases q : ∀ d ∈ shB l s cs b, d ∈ B
      · rw [if_neg p, if_pos q, if_neg fun z => p fun d hd => ((hIm d).1 (z d hd)).1, if_pos fun d hd => (hUm2 d).2 (.inr (q d hd))]; omega
      · rw [if_neg p, if_neg q, if_neg fun z => q fun d hd => ((hIm d).1 (z d hd)).2]
        split <;> omega
  rw [← stars_sum h hin, ← stars_sum h hin, ← stars_sum h hin, ← stars_sum h hin] at s1
  rw [← open_sum, ← open_sum, ← open_sum, ← open_sum] at s2
  have m1 := Int.mul_le_mul_of_nonneg_left s1 g2.1
  have m2 := Int.mul_le_mul_of_nonneg_left s2 g3.1
  rw [Int.mul_add, Int.mul_add] at m1 m2
  have m3 : c.r * (A.filter fun x => decide (x ∈ B)).length + c.r * U.length = c.r * A.length + c.r * B.length := by rw [← Int.mul_add, ← Int.mul_add, hUl]; congr 1; omega
  have k1 : costF l s c cs (A.filter fun x => decide (x ∈ B)) + costF l s c cs U ≤ costF l s c cs A + costF l s c cs B := by
    unfold costF
    omega
  omega
/-- The best set of those that were seen. -/
structure BestP (l : Lay) (s : Int) (c : Cos) (cs : List (Int × Int)) (D Ro : List Int) (k : Nat) (R : List Int) : Prop where
  a : Asc R
  sub : ∀ x ∈ R, x ∈ D
  b : ∀ j, j < k → costF l s c cs (selR D (gK j) D.length) = costF l s c cs Ro → costF l s c cs R = costF l s c cs Ro ∧ ∀ x ∈ R, x ∈ selR D (gK j) D.length
omit h hin hc in
theorem BestP.start {D Ro : List Int} : BestP l s c cs D Ro 1 [] := ⟨List.Pairwise.nil, by simp, fun j hj e => by
  obtain rfl : j = 0 := by omega
  rw [selR_zero] at e
  exact ⟨e, by simp⟩⟩
omit h hin hc in
theorem BestP.less {D Ro R : List Int} {k : Nat} (ho : OptP l s c cs Ro) (hD : Asc D) (b : BestP l s c cs D Ro k R) (hl : costF l s c cs (selR D (gK k) D.length) < costF l s c cs R) : BestP l s c cs D Ro (k + 1) (selR D (gK k) D.length) := by
  refine ⟨asc_selR hD (Nat.le_refl _), fun x hx => ?_, fun j hj e => ?_⟩
  · obtain ⟨i, hi, _, rfl⟩ := mem_selR.1 hx
    exact getD_mem hi
  · rcases (show j < k ∨ j = k by omega) with z | rfl
    · have := (b.b j z e).1
      have := ho.min _ (asc_selR (g := gK k) hD (Nat.le_refl _))
      omega
    · exact ⟨e, fun x hx => hx⟩
omit h hin hc in
theorem BestP.more {D Ro R : List Int} {k : Nat} (ho : OptP l s c cs Ro) (b : BestP l s c cs D Ro k R) (hl : costF l s c cs R < costF l s c cs (selR D (gK k) D.length)) : BestP l s c cs D Ro (k + 1) R := by
  refine ⟨b.a, b.sub, fun j hj e => ?_⟩
  rcases (show j < k ∨ j = k by omega) with z | rfl
  · exact b.b j z e
  · have := ho.min _ b.a
    omega
theorem BestP.eq {D Ro R : List Int} {k : Nat} (ho : OptP l s c cs Ro) (hD : Asc D) (b : BestP l s c cs D Ro k R) (hl : costF l s c cs (selR D (gK k) D.length) = costF l s c cs R) : BestP l s c cs D Ro (k + 1) (R.filter fun x => decide (x ∈ selR D (gK k) D.length)) := by
  refine ⟨b.a.sublist List.filter_sublist, fun x hx => b.sub x (List.mem_filter.1 hx).1, fun j hj e => ?_⟩
  rcases (show j < k ∨ j = k by omega) with z | rfl
  · obtain ⟨q1, q2⟩ := b.b j z e
    exact ⟨cost_inter h hin hc ho b.a (asc_selR hD (Nat.le_refl _)) q1 (hl.trans q1), fun x hx => q2 x (List.mem_filter.1 hx).1⟩
  · exact ⟨cost_inter h hin hc ho b.a (asc_selR hD (Nat.le_refl _)) (hl.symm.trans e) e, fun x hx => by simpa using (List.mem_filter.1 hx).2⟩
omit h hin hc in
theorem BestP.done {D Ro R : List Int} (ho : OptP l s c cs Ro) (hD : D = asc (·.1) cs) (b : BestP l s c cs D Ro (2 ^ D.length) R) : R = Ro := by
  have hDa : Asc D := hD ▸ asc_asc _ _
  have hs : ∀ x ∈ Ro, x ∈ D := fun x hx => by rw [hD]; exact mem_asc.2 (ho.sub x hx)
  obtain ⟨k, hk, hg⟩ := gK_all D.length fun i => decide (D.getD i 0 ∈ Ro)
  have e : selR D (gK k) D.length = Ro := (selR_congr hg).trans (selR_of hDa ho.a hs).symm
  obtain ⟨q1, q2⟩ := b.b k hk (by rw [e])
  rw [e] at q2
  exact Asc.ext b.a ho.a fun x => ⟨q2 x, ho.least R b.a q1 x⟩
end
end Go.KL
end

section
/- Walks: the reference's Plan. -/
namespace Go.KL
open Go.Proofs
abbrev rpT (b4 b7 b8 : Nat) (l : Lay) (c : Cos) (Ls : List Chunk) : List Chunk := [(b8, row 32 [.int .i64 0, nilS, nilS, nilS])] :: [(b7, row 26 [.int .i64 c.r, .int .i64 c.s, .int .i64 c.o])] :: [(b4, row 23 l.v.cells.toList)] :: Ls
attribute [local irreducible] SC St Fin Sq Sw Ylds Doos Sets Enters Spec CellIs CellsAre Then Ret Rnd Chn resOK ints bools recs arr
set_option maxRecDepth 10000 in
set_option maxHeartbeats 32000000 in
theorem rplan_spec (W : World) (Ls : List Chunk) (l : Lay) (s : Int) (v : Value) (cs : List (Int × Int)) (c : Cos) (Ro : List Int) (h : Gd l s) (hin : ∀ x ∈ cs, CellIn l s x.1 x.2) (hcst : c.OK) (hopt : OptP l s c cs Ro) (hv : CL (K W Ls) v cs) (hl : cs.length ≤ 100000) (h9 : (asc (·.1) cs).length ≤ 9) :
    Spec Try.prog 20 #[l.v, .int .i64 s, v, c.v] (K W Ls)
      (X := { x : Option Own × Option Own × Option Own // owfO 1 x.1 Ro.length (ivals Ro) ∧ owfO 1 x.2.1 (asc (notC l s) (restC Ro cs)).length (ivals (asc (notC l s) (restC Ro cs))) ∧ owfO 1 x.2.2 (asc (bunC l s) (restC Ro cs)).length (ivals (asc (bunC l s) (restC Ro cs))) })
      (fun x => .agg #[.int .i64 (costF l s c cs Ro), ov x.1.1 Ro.length, ov x.1.2.1 (asc (notC l s) (restC Ro cs)).length, ov x.1.2.2 (asc (bunC l s) (restC Ro cs)).length])
      (fun x => K W (oc 3 x.1.2.1 (ivals (asc (notC l s) (restC Ro cs))) :: oc 3 x.1.2.2 (ivals (asc (bunC l s) (restC Ro cs))) :: oc 3 x.1.1 (ivals Ro) :: Ls)) := by
  have hp := np_bd h.1; have h2 := h.2
  have g1 := hcst.r; have g2 := hcst.s; have g3 := hcst.o
  refine enter (args := [_, _, _, _]) Try.func20 rfl Try.ntmps20 rfl ?_
  refine c_seq ?_
  refine c_region ?_
  refine s_do (do_box rfl) rfl rfl rfl (fun b4 => ?_)
  refine s_do (do_box rfl) rfl rfl rfl (fun b7 => ?_)
  refine s_do (do_alloc Try.tab rfl) rfl rfl rfl (fun b8 => ?_)
  refine s_nil ?_
  refine f_then ?_
  refine c_seq ?_
  refine c_region ?_
  refine s_y (y_move rfl) rfl rfl rfl ?_
  have hv1 : CL (K W (rpT b4 b7 b8 l c Ls)) v cs := hv.cls fun w h => h.tail.tail.tail
  refine s_call (en_f rfl Try.call34) (once_spec W (rpT b4 b7 b8 l c Ls) v cs hv1 (by omega)) rfl rfl rfl (fun o => ?_)
  obtain ⟨oC, hoC⟩ := o
  dsimp only
  have hUm : ∀ x, x ∈ onces cs ↔ x ∈ cs := fun x => mem_onces
  have hUl := (onces_spec cs).2.2
  have hcU : ∀ R, costF l s c cs R = costF l s c (onces cs) R := fun R => costF_ext (fun x => (hUm x).symm) rfl fun _ => Iff.rfl
  have hnU : ∀ R, asc (notC l s) (restC R cs) = asc (notC l s) (restC R (onces cs)) := fun R => asc_ext fun x => by rw [restC_mem, restC_mem, hUm]
  have hbU : ∀ R, asc (bunC l s) (restC R cs) = asc (bunC l s) (restC R (onces cs)) := fun R => asc_ext fun x => by rw [restC_mem, restC_mem, hUm]
  have hopt2 := hopt.ext (cs' := onces cs) fun x => (hUm x).symm
  have hin2 : ∀ x ∈ onces cs, CellIn l s x.1 x.2 := fun x hx => hin x ((hUm x).1 hx)
  rw [hcU, hnU, hbU]
  rw [← asc_onces] at h9
  clear hcU hnU hbU hv1 hUm
  clear hopt hin
  generalize onces cs = U at *
  refine s_y (y_assign rfl) rfl rfl rfl ?_
  refine s_nil ?_
  refine f_then ?_
  refine c_seq ?_
  refine c_region ?_
  refine s_y (y_move rfl) rfl rfl rfl ?_
  have hCU : CL (K W (oc 37 oC (cvals U) :: rpT b4 b7 b8 l c Ls)) (ov oC U.length) U := CL.oc 0 rfl hoC
  refine s_call (en_f rfl Try.call17) (sheets_spec W _ _ U hCU (by omega)) rfl rfl rfl (fun o => ?_)
  obtain ⟨oD, hoD⟩ := o
  dsimp only
  have hDone := fun R => BestP.done (l := l) (s := s) (c := c) (cs := U) (Ro := Ro) (R := R) hopt2 (D := asc (·.1) U) rfl
  have hDa := asc_asc (·.1) U
  generalize asc (·.1) U = D at *
  obtain ⟨pd, cd, hvd⟩ := ov_slice hoD
  rw [hvd]
  refine s_y (y_assign rfl) rfl rfl rfl ?_
  refine s_nil ?_
  refine f_then ?_
  refine c_seq ?_
  refine c_region ?_
  refine s_y (y_assign rfl) rfl rfl rfl ?_
  refine s_nil ?_
  refine f_then ?_
  refine c_seq ?_
  refine c_seq ?_
  refine c_region ?_
  refine s_y (y_assign rfl) rfl rfl rfl ?_
  refine s_nil ?_
  refine f_then ?_
  refine c_block ?_
  refine c_loopP (α := Nat) (fun z => [(1, .int .i64 s), (4, .pointer (some ⟨b4, 0, none⟩)), (7, .pointer (some ⟨b7, 0, none⟩)), (8, .pointer (some ⟨b8, 0, none⟩)), (9, ov oC U.length), (10, .slice pd D.length cd), (11, .int .i64 (2 ^ z : Nat)), (12, .int .i64 z)]) (fun z => z ≤ D.length)
    (fun _ => K W (oc 3 oD (ivals D) :: oc 37 oC (cvals U) :: rpT b4 b7 b8 l c Ls)) (fun z => D.length - z) 0 ⟨rfl, rfl, rfl, rfl, rfl, rfl, rfl, rfl, trivial⟩ (Nat.zero_le _) (fun w h => h) ?_
  rintro i hi
  have hpw : (2 : Nat) ^ i ≤ 512 := Nat.pow_le_pow_right (n := 2) (by omega) (show i ≤ 9 by omega)
  have hpn : (2 : Nat) ^ (i + 1) = 2 ^ i * 2 := Nat.pow_succ 2 i
  refine c_seq ?_
  refine c_seq ?_
  refine c_region ?_
  refine s_y (y_move rfl) rfl rfl rfl ?_
  refine s_y (y_move rfl) rfl rfl rfl ?_
  refine s_y (y_len Try.tab rfl rfl) rfl rfl rfl ?_
  refine s_y (y_lss rfl rfl) rfl rfl rfl ?_
  refine s_nil ?_
  refine f_then ?_
  refine c_condD rfl (fun hlt => ?_) (fun hge => ?_)
  · refine c_skip ?_
    refine f_then ?_
    refine c_seq ?_
    refine c_block ?_
    refine c_region ?_
    refine s_y (y_move rfl) rfl rfl rfl ?_
    refine s_y (y_mul rfl rfl (by omega)) rfl rfl rfl ?_
    refine s_y (y_assign rfl) rfl rfl rfl ?_
    refine s_nil ?_
    refine f_blockN ?_
    refine f_then ?_
    refine c_region ?_
    refine s_y (y_move rfl) rfl rfl rfl ?_
    refine s_y (y_add rfl rfl (by omega)) rfl rfl rfl ?_
    refine s_y (y_assign rfl) rfl rfl rfl ?_
    refine s_nil ?_
    exact f_roundP (i + 1) (by omega) (by omega) ⟨rfl, rfl, rfl, rfl, rfl, rfl, by show some (Value.int .i64 _) = some (Value.int .i64 _); rw [hpn]; congr 2; omega, rfl, trivial⟩ (fun w h => h)
  obtain rfl : i = D.length := by omega
  have hCU2 : CL (K W (oc 3 oD (ivals D) :: oc 37 oC (cvals U) :: rpT b4 b7 b8 l c Ls)) (ov oC U.length) U := CL.oc 1 rfl hoC
  refine c_exit ?_
  refine f_thenE ?_
  refine f_rndE ?_
  refine f_blockE ?_
  refine f_then ?_
  refine c_seq ?_
  refine c_region ?_
  refine s_y (y_loadA Try.tab rfl rfl rfl rfl (cells_row0 4 rfl rfl)) rfl rfl rfl ?_
  refine s_y (y_move rfl) rfl rfl rfl ?_
  refine s_y (y_move rfl) rfl rfl rfl ?_
  refine s_y (y_loadA Try.tab rfl rfl rfl rfl (cells_row0 3 rfl rfl)) rfl rfl rfl ?_
  refine s_call (en_f rfl Try.call33) (repaired_spec W _ l s _ nilS U c [] h hin2 hcst hCU2 SlV.empty (by omega) (by simp)) rfl rfl rfl (fun x => ?_)
  obtain ⟨⟨oS, oO⟩, hoS, hoO⟩ := x
  dsimp only at hoS hoO ⊢
  refine s_do (do_alloc Try.tab rfl) rfl rfl rfl (fun b13 => ?_)
  refine s_set (set_box Try.tab 0 rfl rfl (by cases oS <;> cases oO <;> rfl) rfl rfl rfl rfl) rfl rfl ?_
  refine s_nil ?_
  refine f_then ?_
  refine c_seq ?_
  refine c_seq ?_
  refine c_region ?_
  refine s_y (y_assign rfl) rfl rfl rfl ?_
  refine s_nil ?_
  refine f_then ?_
  refine c_block ?_
  refine c_loopP (α := Nat × List Int × Option Own × Option Own × Option Own) (fun z => [(1, .int .i64 s), (4, .pointer (some ⟨b4, 0, none⟩)), (7, .pointer (some ⟨b7, 0, none⟩)), (8, .pointer (some ⟨b8, 0, none⟩)), (9, ov oC U.length), (10, .slice pd D.length cd), (11, .int .i64 (2 ^ D.length : Nat)), (13, .pointer (some ⟨b13, 0, none⟩)), (14, .int .i64 z.1)]) (fun z => (1 ≤ z.1 ∧ z.1 ≤ 2 ^ D.length) ∧ BestP l s c U D Ro z.1 z.2.1 ∧ owfO 1 z.2.2.1 z.2.1.length (ivals z.2.1) ∧ owfO 1 z.2.2.2.1 (asc (notC l s) (restC z.2.1 U)).length (ivals (asc (notC l s) (restC z.2.1 U))) ∧ owfO 1 z.2.2.2.2 (asc (bunC l s) (restC z.2.1 U)).length (ivals (asc (bunC l s) (restC z.2.1 U)))) (fun z => K W ([(b13, row 32 [.int .i64 (costF l s c U z.2.1), ov z.2.2.1 z.2.1.length, ov z.2.2.2.1 (asc (notC l s) (restC z.2.1 U)).length, ov z.2.2.2.2 (asc (bunC l s) (restC z.2.1 U)).length])] :: oc 3 z.2.2.1 (ivals z.2.1) :: oc 3 z.2.2.2.1 (ivals (asc (notC l s) (restC z.2.1 U))) :: oc 3 z.2.2.2.2 (ivals (asc (bunC l s) (restC z.2.1 U))) :: oc 3 oD (ivals D) :: oc 37 oC (cvals U) :: rpT b4 b7 b8 l c Ls)) (fun z => 2 ^ D.length - z.1) (1, [], none, oS, oO)
    ⟨rfl, rfl, rfl, rfl, rfl, rfl, rfl, rfl, rfl, trivial⟩ ⟨⟨Nat.le_refl _, Nat.one_le_two_pow⟩, BestP.start, ⟨rfl, rfl⟩, hoS, hoO⟩ (fun w h => h.addNil.fronts [1]) ?_
  clear hoS hoO oS oO
  rintro ⟨k, R, oR, oS, oO⟩ ⟨⟨hk1, hk2⟩, hb, hoR, hoS, hoO⟩
  dsimp only at hk1 hk2 hb hoR hoS hoO ⊢
  have hRl : R.length ≤ 9 := Nat.le_trans (nodup_len hb.a.nodup hb.sub) h9
  refine c_seq ?_
  refine c_seq ?_
  refine c_region ?_
  refine s_y (y_move rfl) rfl rfl rfl ?_
  refine s_y (y_move rfl) rfl rfl rfl ?_
  refine s_y (y_lss rfl rfl) rfl rfl rfl ?_
  refine s_nil ?_
  refine f_then ?_
  refine c_condD rfl (fun hlt => ?_) (fun hge => ?_)
  rotate_left
  · obtain rfl : k = 2 ^ D.length := by omega
    have := hDone R hb
    subst this
    refine c_exit ?_
    refine f_thenE ?_
    refine f_rndE ?_
    refine f_blockE ?_
    refine f_then ?_
    refine c_seq ?_
    refine c_region ?_
    refine s_y (y_loadA Try.tab rfl rfl rfl rfl (cells_row0 0 rfl rfl)) rfl rfl rfl ?_
    refine s_set (set_box Try.tab 6 rfl rfl (by cases oR <;> cases oS <;> cases oO <;> rfl) rfl rfl rfl rfl) rfl rfl ?_
    refine s_nil ?_
    refine f_then ?_
    refine c_ret ?_
    exact f_ret (X := { x : Option Own × Option Own × Option Own // owfO 1 x.1 R.length (ivals R) ∧ owfO 1 x.2.1 (asc (notC l s) (restC R U)).length (ivals (asc (notC l s) (restC R U))) ∧ owfO 1 x.2.2 (asc (bunC l s) (restC R U)).length (ivals (asc (bunC l s) (restC R U))) }) ⟨(oR, oS, oO), hoR, hoS, hoO⟩ (resA Try.tab rfl rfl rfl rfl rfl (cells_row0 6 rfl rfl)) (fun w h => (((((h.tail.dropAt 3).dropAt 3).dropAt 3).dropAt 3).dropAt 3).fronts [2, 2])
  refine c_skip ?_
  refine f_then ?_
  refine c_seq ?_
  refine c_block ?_
  refine c_seq ?_
  refine c_region ?_
  refine s_y (y_assign rfl) rfl rfl rfl ?_
  refine s_nil ?_
  refine f_then ?_
  refine c_seq ?_
  refine c_seq ?_
  refine c_region ?_
  refine s_y (y_move rfl) rfl rfl rfl ?_
  refine s_y (y_assign rfl) rfl rfl rfl ?_
  refine s_y (y_assign rfl) rfl rfl rfl ?_
  refine s_nil ?_
  refine f_then ?_
  refine c_block ?_
  refine c_loopP (α := Nat × Option Own) (fun z => [(1, .int .i64 s), (4, .pointer (some ⟨b4, 0, none⟩)), (7, .pointer (some ⟨b7, 0, none⟩)), (8, .pointer (some ⟨b8, 0, none⟩)), (9, ov oC U.length), (10, .slice pd D.length cd), (11, .int .i64 (2 ^ D.length : Nat)), (13, .pointer (some ⟨b13, 0, none⟩)), (14, .int .i64 k), (15, ov z.2 (selR D (gK k) z.1).length), (16, .int .i64 z.1), (17, .int .i64 (k / 2 ^ z.1 : Nat))]) (fun z => z.1 ≤ D.length ∧ owfO 1 z.2 (selR D (gK k) z.1).length (ivals (selR D (gK k) z.1)))
    (fun z => K W (oc 3 z.2 (ivals (selR D (gK k) z.1)) :: [(b13, row 32 [.int .i64 (costF l s c U R), ov oR R.length, ov oS (asc (notC l s) (restC R U)).length, ov oO (asc (bunC l s) (restC R U)).length])] :: oc 3 oR (ivals R) :: oc 3 oS (ivals (asc (notC l s) (restC R U))) :: oc 3 oO (ivals (asc (bunC l s) (restC R U))) :: oc 3 oD (ivals D) :: oc 37 oC (cvals U) :: rpT b4 b7 b8 l c Ls)) (fun z => D.length - z.1) (0, none) ⟨rfl, rfl, rfl, rfl, rfl, rfl, rfl, rfl, rfl, rfl, rfl, by show some (Value.int .i64 _) = some (Value.int .i64 _); rw [Nat.pow_zero, Nat.div_one], trivial⟩ ⟨Nat.zero_le _, rfl, rfl⟩ (fun w h => h.addNil) ?_
  rintro ⟨i, oX⟩ ⟨hi, hoX⟩
  dsimp only at hi hoX ⊢
  have hXi := selR_len (D := D) (g := gK k) i
  refine c_seq ?_
  refine c_seq ?_
  refine c_region ?_
  refine s_y (y_move rfl) rfl rfl rfl ?_
  refine s_y (y_move rfl) rfl rfl rfl ?_
  refine s_y (y_len Try.tab rfl rfl) rfl rfl rfl ?_
  refine s_y (y_lss rfl rfl) rfl rfl rfl ?_
  refine s_nil ?_
  refine f_then ?_
  refine c_condD rfl (fun hlt2 => ?_) (fun hge2 => ?_)
  · obtain ⟨b, q, rfl, hck⟩ := cell_il (W := W) (L := oc 3 oX (ivals (selR D (gK k) i)) :: [(b13, row 32 [.int .i64 (costF l s c U R), ov oR R.length, ov oS (asc (notC l s) (restC R U)).length, ov oO (asc (bunC l s) (restC R U)).length])] :: oc 3 oR (ivals R) :: oc 3 oS (ivals (asc (notC l s) (restC R U))) :: oc 3 oO (ivals (asc (bunC l s) (restC R U))) :: oc 3 oD (ivals D) :: oc 37 oC (cvals U) :: rpT b4 b7 b8 l c Ls) 5 hoD hvd rfl (k := i) (by omega)
    have hdiv : k / 2 ^ (i + 1) = k / 2 ^ i / 2 := by rw [Nat.pow_succ, Nat.div_div_eq_div_mul]
    have hkx : k / 2 ^ i ≤ k := Nat.div_le_self _ _
    have hgi : gK k i = decide (k / 2 ^ i % 2 = 1) := rfl
    have hkk : k ≤ 512 := Nat.le_trans hk2 (Nat.pow_le_pow_right (n := 2) (by omega) (show D.length ≤ 9 by omega))
    generalize k / 2 ^ i = x at *
    by_cases hbit : x % 2 = 1
    · have hsel : selR D (gK k) (i + 1) = selR D (gK k) i ++ [D.getD i 0] := by show (if gK k i then _ else _) = _; rw [hgi, decide_eq_true hbit]; rfl
      refine c_skip ?_
      refine f_then ?_
      refine c_seq ?_
      refine c_block ?_
      refine c_seq ?_
      refine c_seq ?_
      refine c_region ?_
      refine s_y (y_move rfl) rfl rfl rfl ?_
      refine s_y (y_rem rfl rfl (by omega)) rfl rfl rfl ?_
      refine s_y (y_T (y_eql rfl rfl) (by omega)) rfl rfl rfl ?_
      refine s_nil ?_
      refine f_then ?_
      refine c_condT rfl ?_
      refine c_region ?_
      refine s_y (y_move rfl) rfl rfl rfl ?_
      refine s_y (y_move rfl) rfl rfl rfl ?_
      refine s_y (y_move rfl) rfl rfl rfl ?_
      refine s_y (y_indexAddr1o Try.tab rfl rfl rfl rfl _ rfl (by omega)) rfl rfl rfl ?_
      refine s_y (y_load Try.tab rfl rfl hck) rfl rfl rfl ?_
      refine s_do (do_buildSlice1 Try.tab ⟨rfl, rfl, rfl, rfl⟩ rfl rfl rfl rfl) rfl rfl rfl (fun b58 => ?_)
      refine s_do (do_appendO Try.tab 1 (s := 1) (by_ := 8) (k := 1) (news := [.int .i64 (D.getD i 0)]) (xs := ivals (selR D (gK k) i)) (o := oX) rfl rfl ⟨rfl, rfl, rfl, rfl⟩ rfl rfl lc2 hoX (cells_row0 0 rfl rfl) rfl (by simp [Value.oneCell']) (by omega) (by unfold maxLen; omega) (by omega)) rfl rfl rfl (fun o2 => ?_)
      obtain ⟨o2, ho2⟩ := o2
      dsimp only
      refine s_y (y_assign rfl) rfl rfl rfl ?_
      refine s_nil ?_
      refine f_then ?_
      refine c_region ?_
      refine s_y (y_move rfl) rfl rfl rfl ?_
      refine s_y (y_quo rfl rfl (by omega)) rfl rfl rfl ?_
      refine s_y (y_assign rfl) rfl rfl rfl ?_
      refine s_nil ?_
      refine f_blockN ?_
      refine f_then ?_
      refine c_region ?_
      refine s_y (y_move rfl) rfl rfl rfl ?_
      refine s_y (y_add rfl rfl (by omega)) rfl rfl rfl ?_
      refine s_y (y_assign rfl) rfl rfl rfl ?_
      refine s_nil ?_
      have hl2 : (selR D (gK k) i).length + 1 = (selR D (gK k) (i + 1)).length := by rw [hsel, List.length_append, List.length_singleton]
      have hvs3 : ivals (selR D (gK k) i) ++ [.int .i64 (D.getD i 0)] = ivals (selR D (gK k) (i + 1)) := by rw [ivals_snoc, hsel]
      rw [hvs3, hl2] at ho2
      exact f_roundP (i + 1, some o2) ⟨by show i + 1 ≤ _; omega, ho2⟩ (by show D.length - (i + 1) < D.length - i; omega) ⟨rfl, rfl, rfl, rfl, rfl, rfl, rfl, rfl, rfl, by show some (osl o2 _) = some (ov (some o2) _); rw [hl2]; rfl, rfl, by show some (Value.int .i64 _) = some (Value.int .i64 _); rw [hdiv]; rfl, trivial⟩ (fun w h => by dsimp only; rw [← hvs3]; exact h.tail)
    · have hsel : selR D (gK k) (i + 1) = selR D (gK k) i := by show (if gK k i then _ else _) = _; rw [hgi, decide_eq_false hbit]; rfl
      refine c_skip ?_
      refine f_then ?_
      refine c_seq ?_
      refine c_block ?_
      refine c_seq ?_
      refine c_seq ?_
      refine c_region ?_
      refine s_y (y_move rfl) rfl rfl rfl ?_
      refine s_y (y_rem rfl rfl (by omega)) rfl rfl rfl ?_
      refine s_y (y_F (y_eql rfl rfl) (by omega)) rfl rfl rfl ?_
      refine s_nil ?_
      refine f_then ?_
      refine c_condF rfl ?_
      refine c_skip ?_
      refine f_then ?_
      refine c_region ?_
      refine s_y (y_move rfl) rfl rfl rfl ?_
      refine s_y (y_quo rfl rfl (by omega)) rfl rfl rfl ?_
      refine s_y (y_assign rfl) rfl rfl rfl ?_
      refine s_nil ?_
      refine f_blockN ?_
      refine f_then ?_
      refine c_region ?_
      refine s_y (y_move rfl) rfl rfl rfl ?_
      refine s_y (y_add rfl rfl (by omega)) rfl rfl rfl ?_
      refine s_y (y_assign rfl) rfl rfl rfl ?_
      refine s_nil ?_
      exact f_roundP (i + 1, oX) ⟨by show i + 1 ≤ _; omega, by dsimp only; rw [hsel]; exact hoX⟩ (by show D.length - (i + 1) < D.length - i; omega) ⟨rfl, rfl, rfl, rfl, rfl, rfl, rfl, rfl, rfl, by show _ = some (ov oX (selR D (gK k) (i + 1)).length); rw [hsel]; rfl, rfl, by show some (Value.int .i64 _) = some (Value.int .i64 _); rw [hdiv]; rfl, trivial⟩ (fun w h => by dsimp only; rw [hsel]; exact h)
  have hie : i = D.length := by omega
  subst hie
  have hless := BestP.less (k := k) hopt2 hDa hb
  have heq := BestP.eq h hin2 hcst (k := k) hopt2 hDa hb
  have hmore := BestP.more (k := k) hopt2 hb
  generalize hX : selR D (gK k) D.length = X at *
  have hCU3 : CL (K W (oc 3 oX (ivals X) :: [(b13, row 32 [.int .i64 (costF l s c U R), ov oR R.length, ov oS (asc (notC l s) (restC R U)).length, ov oO (asc (bunC l s) (restC R U)).length])] :: oc 3 oR (ivals R) :: oc 3 oS (ivals (asc (notC l s) (restC R U))) :: oc 3 oO (ivals (asc (bunC l s) (restC R U))) :: oc 3 oD (ivals D) :: oc 37 oC (cvals U) :: rpT b4 b7 b8 l c Ls)) (ov oC U.length) U := CL.oc 6 rfl hoC
  have hIX : IL (K W (oc 3 oX (ivals X) :: [(b13, row 32 [.int .i64 (costF l s c U R), ov oR R.length, ov oS (asc (notC l s) (restC R U)).length, ov oO (asc (bunC l s) (restC R U)).length])] :: oc 3 oR (ivals R) :: oc 3 oS (ivals (asc (notC l s) (restC R U))) :: oc 3 oO (ivals (asc (bunC l s) (restC R U))) :: oc 3 oD (ivals D) :: oc 37 oC (cvals U) :: rpT b4 b7 b8 l c Ls)) (ov oX X.length) X := IL.oc 0 rfl hoX
  refine c_exit ?_
  refine f_thenE ?_
  refine f_rndE ?_
  refine f_blockE ?_
  refine f_then ?_
  refine c_seq ?_
  refine c_region ?_
  refine s_y (y_loadA Try.tab rfl rfl rfl rfl (cells_row0 9 rfl rfl)) rfl rfl rfl ?_
  refine s_y (y_move rfl) rfl rfl rfl ?_
  refine s_y (y_move rfl) rfl rfl rfl ?_
  refine s_y (y_loadA Try.tab rfl rfl rfl rfl (cells_row0 8 rfl rfl)) rfl rfl rfl ?_
  refine s_y (y_move rfl) rfl rfl rfl ?_
  refine s_call (en_f rfl Try.call33) (repaired_spec W _ l s _ (ov oX X.length) U c X h hin2 hcst hCU3 hIX (by omega) (by omega)) rfl rfl rfl (fun x => ?_)
  obtain ⟨⟨oS2, oO2⟩, hoS2, hoO2⟩ := x
  dsimp only at hoS2 hoO2 ⊢
  refine s_do (do_alloc Try.tab rfl) rfl rfl rfl (fun b18 => ?_)
  refine s_set (set_box Try.tab 0 rfl rfl (by cases oX <;> cases oS2 <;> cases oO2 <;> rfl) rfl rfl rfl rfl) rfl rfl ?_
  refine St.cls (C' := K W ([(b18, row 32 [.int .i64 (costF l s c U X), ov oX X.length, ov oS2 (asc (notC l s) (restC X U)).length, ov oO2 (asc (bunC l s) (restC X U)).length])] :: oc 3 oS2 (ivals (asc (notC l s) (restC X U))) :: oc 3 oO2 (ivals (asc (bunC l s) (restC X U))) :: oc 3 oX (ivals X) :: [(b13, row 32 [.int .i64 (costF l s c U R), ov oR R.length, ov oS (asc (notC l s) (restC R U)).length, ov oO (asc (bunC l s) (restC R U)).length])] :: oc 3 oR (ivals R) :: oc 3 oS (ivals (asc (notC l s) (restC R U))) :: oc 3 oO (ivals (asc (bunC l s) (restC R U))) :: oc 3 oD (ivals D) :: oc 37 oC (cvals U) :: rpT b4 b7 b8 l c Ls)) ?_ (fun w h => h)
  rcases Int.lt_trichotomy (costF l s c U X) (costF l s c U R) with hc | hc | hc
  · refine s_nil ?_
    refine f_then ?_
    refine c_seq ?_
    refine c_region ?_
    refine s_y (y_fieldAddr0 Try.tab rfl rfl rfl rfl rfl) rfl rfl rfl ?_
    refine s_y (y_load Try.tab rfl rfl (cell_row 0 rfl rfl)) rfl rfl rfl ?_
    refine s_y (y_fieldAddr0 Try.tab rfl rfl rfl rfl rfl) rfl rfl rfl ?_
    refine s_y (y_load Try.tab rfl rfl (cell_row 4 rfl rfl)) rfl rfl rfl ?_
    refine s_y (y_T (y_lss rfl rfl) (by assumption)) rfl rfl rfl ?_
    refine s_nil ?_
    refine f_then ?_
    refine c_condT rfl ?_
    refine c_region ?_
    refine s_y (y_loadA Try.tab rfl rfl rfl rfl (cells_row0 0 rfl rfl)) rfl rfl rfl ?_
    refine s_set (set_box Try.tab 4 rfl rfl (by cases oX <;> cases oS2 <;> cases oO2 <;> rfl) rfl rfl rfl rfl) rfl rfl ?_
    refine s_nil ?_
    refine f_blockN ?_
    refine f_then ?_
    refine c_region ?_
    refine s_y (y_move rfl) rfl rfl rfl ?_
    refine s_y (y_add rfl rfl (by omega)) rfl rfl rfl ?_
    refine s_y (y_assign rfl) rfl rfl rfl ?_
    refine s_nil ?_
    exact f_roundP (k + 1, X, oX, oS2, oO2) ⟨⟨by show 1 ≤ k + 1; omega, by show k + 1 ≤ _; omega⟩, hless hc, hoX, hoS2, hoO2⟩ (by show 2 ^ D.length - (k + 1) < 2 ^ D.length - k; omega) ⟨rfl, rfl, rfl, rfl, rfl, rfl, rfl, rfl, rfl, trivial⟩ (fun w h => ((((K.tail h).dropAt 4).dropAt 4).dropAt 4).fronts [1, 1, 2, 3])
  · refine s_nil ?_
    refine f_then ?_
    refine c_seq ?_
    refine c_region ?_
    refine s_y (y_fieldAddr0 Try.tab rfl rfl rfl rfl rfl) rfl rfl rfl ?_
    refine s_y (y_load Try.tab rfl rfl (cell_row 0 rfl rfl)) rfl rfl rfl ?_
    refine s_y (y_fieldAddr0 Try.tab rfl rfl rfl rfl rfl) rfl rfl rfl ?_
    refine s_y (y_load Try.tab rfl rfl (cell_row 4 rfl rfl)) rfl rfl rfl ?_
    refine s_y (y_F (y_lss rfl rfl) (by omega)) rfl rfl rfl ?_
    refine s_nil ?_
    refine f_then ?_
    refine c_condF rfl ?_
    refine c_seq ?_
    refine c_region ?_
    refine s_y (y_fieldAddr0 Try.tab rfl rfl rfl rfl rfl) rfl rfl rfl ?_
    refine s_y (y_load Try.tab rfl rfl (cell_row 0 rfl rfl)) rfl rfl rfl ?_
    refine s_y (y_fieldAddr0 Try.tab rfl rfl rfl rfl rfl) rfl rfl rfl ?_
    refine s_y (y_load Try.tab rfl rfl (cell_row 4 rfl rfl)) rfl rfl rfl ?_
    refine s_y (y_T (y_eql rfl rfl) (by assumption)) rfl rfl rfl ?_
    refine s_nil ?_
    refine f_then ?_
    refine c_condT rfl ?_
    refine c_seq ?_
    refine c_region ?_
    refine s_y (y_assign rfl) rfl rfl rfl ?_
    refine s_nil ?_
    refine f_then ?_
    refine c_seq ?_
    refine c_seq ?_
    refine c_region ?_
    refine s_y (y_assign rfl) rfl rfl rfl ?_
    refine s_nil ?_
    refine f_then ?_
    refine c_block ?_
    refine c_loopP (α := Nat × Option Own) (fun z => [(1, .int .i64 s), (4, .pointer (some ⟨b4, 0, none⟩)), (7, .pointer (some ⟨b7, 0, none⟩)), (8, .pointer (some ⟨b8, 0, none⟩)), (9, ov oC U.length), (10, .slice pd D.length cd), (11, .int .i64 (2 ^ D.length : Nat)), (13, .pointer (some ⟨b13, 0, none⟩)), (14, .int .i64 k), (15, ov oX X.length), (18, .pointer (some ⟨b18, 0, none⟩)), (19, ov z.2 ((R.take z.1).filter fun x => decide (x ∈ X)).length), (20, .int .i64 z.1)]) (fun z => z.1 ≤ R.length ∧ owfO 1 z.2 ((R.take z.1).filter fun x => decide (x ∈ X)).length (ivals ((R.take z.1).filter fun x => decide (x ∈ X))))
      (fun z => K W (oc 3 z.2 (ivals ((R.take z.1).filter fun x => decide (x ∈ X))) :: [(b18, row 32 [.int .i64 (costF l s c U X), ov oX X.length, ov oS2 (asc (notC l s) (restC X U)).length, ov oO2 (asc (bunC l s) (restC X U)).length])] :: oc 3 oS2 (ivals (asc (notC l s) (restC X U))) :: oc 3 oO2 (ivals (asc (bunC l s) (restC X U))) :: oc 3 oX (ivals X) :: [(b13, row 32 [.int .i64 (costF l s c U R), ov oR R.length, ov oS (asc (notC l s) (restC R U)).length, ov oO (asc (bunC l s) (restC R U)).length])] :: oc 3 oR (ivals R) :: oc 3 oS (ivals (asc (notC l s) (restC R U))) :: oc 3 oO (ivals (asc (bunC l s) (restC R U))) :: oc 3 oD (ivals D) :: oc 37 oC (cvals U) :: rpT b4 b7 b8 l c Ls)) (fun z => R.length - z.1) (0, none) ⟨rfl, rfl, rfl, rfl, rfl, rfl, rfl, rfl, rfl, rfl, rfl, rfl, rfl, trivial⟩ ⟨Nat.zero_le _, rfl, rfl⟩ (fun w h => h.addNil) ?_
    rintro ⟨j, oM⟩ ⟨hj, hoM⟩
    dsimp only at hj hoM ⊢
    obtain ⟨pR, cR, hvR⟩ := ov_slice hoR
    have hcb : CellIs (K W (oc 3 oM (ivals ((R.take j).filter fun x => decide (x ∈ X))) :: [(b18, row 32 [.int .i64 (costF l s c U X), ov oX X.length, ov oS2 (asc (notC l s) (restC X U)).length, ov oO2 (asc (bunC l s) (restC X U)).length])] :: oc 3 oS2 (ivals (asc (notC l s) (restC X U))) :: oc 3 oO2 (ivals (asc (bunC l s) (restC X U))) :: oc 3 oX (ivals X) :: [(b13, row 32 [.int .i64 (costF l s c U R), ov oR R.length, ov oS (asc (notC l s) (restC R U)).length, ov oO (asc (bunC l s) (restC R U)).length])] :: oc 3 oR (ivals R) :: oc 3 oS (ivals (asc (notC l s) (restC R U))) :: oc 3 oO (ivals (asc (bunC l s) (restC R U))) :: oc 3 oD (ivals D) :: oc 37 oC (cvals U) :: rpT b4 b7 b8 l c Ls)) ⟨b13, 1, none⟩ (.slice pR R.length cR) := CellIs.of (cell_row 5 rfl rfl) hvR
    have hMl : ((R.take j).filter fun x => decide (x ∈ X)).length ≤ 9 := Nat.le_trans (List.length_filter_le _ _) (by rw [List.length_take]; omega)
    refine c_seq ?_
    refine c_seq ?_
    refine c_region ?_
    refine s_y (y_move rfl) rfl rfl rfl ?_
    refine s_y (y_fieldAddrB Try.tab 1 rfl rfl rfl rfl rfl) rfl rfl rfl ?_
    refine s_y (y_load Try.tab rfl rfl hcb) rfl rfl rfl ?_
    refine s_y (y_len Try.tab rfl rfl) rfl rfl rfl ?_
    refine s_y (y_lss rfl rfl) rfl rfl rfl ?_
    refine s_nil ?_
    refine f_then ?_
    refine c_condD rfl (fun hlt3 => ?_) (fun hge3 => ?_)
    · obtain ⟨b, q, rfl, hck⟩ := cell_il (W := W) (L := oc 3 oM (ivals ((R.take j).filter fun x => decide (x ∈ X))) :: [(b18, row 32 [.int .i64 (costF l s c U X), ov oX X.length, ov oS2 (asc (notC l s) (restC X U)).length, ov oO2 (asc (bunC l s) (restC X U)).length])] :: oc 3 oS2 (ivals (asc (notC l s) (restC X U))) :: oc 3 oO2 (ivals (asc (bunC l s) (restC X U))) :: oc 3 oX (ivals X) :: [(b13, row 32 [.int .i64 (costF l s c U R), ov oR R.length, ov oS (asc (notC l s) (restC R U)).length, ov oO (asc (bunC l s) (restC R U)).length])] :: oc 3 oR (ivals R) :: oc 3 oS (ivals (asc (notC l s) (restC R U))) :: oc 3 oO (ivals (asc (bunC l s) (restC R U))) :: oc 3 oD (ivals D) :: oc 37 oC (cvals U) :: rpT b4 b7 b8 l c Ls) 6 hoR hvR rfl (k := j) (by omega)
      have hIX4 : IL (K W (oc 3 oM (ivals ((R.take j).filter fun x => decide (x ∈ X))) :: [(b18, row 32 [.int .i64 (costF l s c U X), ov oX X.length, ov oS2 (asc (notC l s) (restC X U)).length, ov oO2 (asc (bunC l s) (restC X U)).length])] :: oc 3 oS2 (ivals (asc (notC l s) (restC X U))) :: oc 3 oO2 (ivals (asc (bunC l s) (restC X U))) :: oc 3 oX (ivals X) :: [(b13, row 32 [.int .i64 (costF l s c U R), ov oR R.length, ov oS (asc (notC l s) (restC R U)).length, ov oO (asc (bunC l s) (restC R U)).length])] :: oc 3 oR (ivals R) :: oc 3 oS (ivals (asc (notC l s) (restC R U))) :: oc 3 oO (ivals (asc (bunC l s) (restC R U))) :: oc 3 oD (ivals D) :: oc 37 oC (cvals U) :: rpT b4 b7 b8 l c Ls)) (ov oX X.length) X := IL.oc 4 rfl hoX
      have htk := take_snoc R j 0 (by omega)
      by_cases hm : R.getD j 0 ∈ X
      · have hnx : (R.take (j + 1)).filter (fun x => decide (x ∈ X)) = (R.take j).filter (fun x => decide (x ∈ X)) ++ [R.getD j 0] := by rw [htk, List.filter_append, List.filter_cons_of_pos (by simpa using hm)]; rfl
        refine c_skip ?_
        refine f_then ?_
        refine c_seq ?_
        refine c_block ?_
        refine c_seq ?_
        refine c_region ?_
        refine s_y (y_move rfl) rfl rfl rfl ?_
        refine s_y (y_fieldAddrB Try.tab 1 rfl rfl rfl rfl rfl) rfl rfl rfl ?_
        refine s_y (y_load Try.tab rfl rfl hcb) rfl rfl rfl ?_
        refine s_y (y_move rfl) rfl rfl rfl ?_
        refine s_y (y_indexAddr1o Try.tab rfl rfl rfl rfl _ rfl (by omega)) rfl rfl rfl ?_
        refine s_y (y_load Try.tab rfl rfl hck) rfl rfl rfl ?_
        refine s_call (en_f rfl Try.call35) (in_yes W _ _ X _ hIX4 (by omega) hm) rfl rfl rfl (fun _ => ?_)
        refine s_nil ?_
        refine f_then ?_
        refine c_condT rfl ?_
        refine c_region ?_
        refine s_y (y_move rfl) rfl rfl rfl ?_
        refine s_y (y_fieldAddrB Try.tab 1 rfl rfl rfl rfl rfl) rfl rfl rfl ?_
        refine s_y (y_load Try.tab rfl rfl hcb) rfl rfl rfl ?_
        refine s_y (y_move rfl) rfl rfl rfl ?_
        refine s_y (y_indexAddr1o Try.tab rfl rfl rfl rfl _ rfl (by omega)) rfl rfl rfl ?_
        refine s_y (y_load Try.tab rfl rfl hck) rfl rfl rfl ?_
        refine s_do (do_buildSlice1 Try.tab ⟨rfl, rfl, rfl, rfl⟩ rfl rfl rfl rfl) rfl rfl rfl (fun b99 => ?_)
        refine s_do (do_appendO Try.tab 1 (s := 1) (by_ := 8) (k := 1) (news := [.int .i64 (R.getD j 0)]) (xs := ivals ((R.take j).filter fun x => decide (x ∈ X))) (o := oM) rfl rfl ⟨rfl, rfl, rfl, rfl⟩ rfl rfl lc2 hoM (cells_row0 0 rfl rfl) rfl (by simp [Value.oneCell']) (by omega) (by unfold maxLen; omega) (by omega)) rfl rfl rfl (fun o2 => ?_)
        obtain ⟨o2, ho2⟩ := o2
        dsimp only
        refine s_y (y_assign rfl) rfl rfl rfl ?_
        refine s_nil ?_
        refine f_blockN ?_
        refine f_then ?_
        refine c_region ?_
        refine s_y (y_move rfl) rfl rfl rfl ?_
        refine s_y (y_add rfl rfl (by omega)) rfl rfl rfl ?_
        refine s_y (y_assign rfl) rfl rfl rfl ?_
        refine s_nil ?_
        have hl2 : ((R.take j).filter fun x => decide (x ∈ X)).length + 1 = ((R.take (j + 1)).filter fun x => decide (x ∈ X)).length := by rw [hnx, List.length_append, List.length_singleton]
        have hvs3 : ivals ((R.take j).filter fun x => decide (x ∈ X)) ++ [.int .i64 (R.getD j 0)] = ivals ((R.take (j + 1)).filter fun x => decide (x ∈ X)) := by rw [ivals_snoc, hnx]
        rw [hvs3, hl2] at ho2
        exact f_roundP (j + 1, some o2) ⟨by show j + 1 ≤ _; omega, ho2⟩ (by show R.length - (j + 1) < R.length - j; omega) ⟨rfl, rfl, rfl, rfl, rfl, rfl, rfl, rfl, rfl, rfl, rfl, by show some (osl o2 _) = some (ov (some o2) _); rw [hl2]; rfl, rfl, trivial⟩ (fun w h => by dsimp only; rw [← hvs3]; exact h.tail)
      · have hnx : (R.take (j + 1)).filter (fun x => decide (x ∈ X)) = (R.take j).filter (fun x => decide (x ∈ X)) := by rw [htk, List.filter_append, List.filter_cons_of_neg (by simpa using hm)]; simp
        refine c_skip ?_
        refine f_then ?_
        refine c_seq ?_
        refine c_block ?_
        refine c_seq ?_
        refine c_region ?_
        refine s_y (y_move rfl) rfl rfl rfl ?_
        refine s_y (y_fieldAddrB Try.tab 1 rfl rfl rfl rfl rfl) rfl rfl rfl ?_
        refine s_y (y_load Try.tab rfl rfl hcb) rfl rfl rfl ?_
        refine s_y (y_move rfl) rfl rfl rfl ?_
        refine s_y (y_indexAddr1o Try.tab rfl rfl rfl rfl _ rfl (by omega)) rfl rfl rfl ?_
        refine s_y (y_load Try.tab rfl rfl hck) rfl rfl rfl ?_
        refine s_call (en_f rfl Try.call35) (in_no W _ _ X _ hIX4 (by omega) hm) rfl rfl rfl (fun _ => ?_)
        refine s_nil ?_
        refine f_then ?_
        refine c_condF rfl ?_
        refine c_skip ?_
        refine f_blockN ?_
        refine f_then ?_
        refine c_region ?_
        refine s_y (y_move rfl) rfl rfl rfl ?_
        refine s_y (y_add rfl rfl (by omega)) rfl rfl rfl ?_
        refine s_y (y_assign rfl) rfl rfl rfl ?_
        refine s_nil ?_
        exact f_roundP (j + 1, oM) ⟨by show j + 1 ≤ _; omega, by dsimp only; rw [hnx]; exact hoM⟩ (by show R.length - (j + 1) < R.length - j; omega) ⟨rfl, rfl, rfl, rfl, rfl, rfl, rfl, rfl, rfl, rfl, rfl, by show _ = some (ov oM _); rw [hnx]; rfl, rfl, trivial⟩ (fun w h => by dsimp only; rw [hnx]; exact h)
    have hje : j = R.length := by omega
    subst hje
    rw [List.take_length] at hoM hMl ⊢
    have hb2 := heq hc
    generalize hM : R.filter (fun x => decide (x ∈ X)) = M at *
    have hCU5 : CL (K W (oc 3 oM (ivals M) :: [(b18, row 32 [.int .i64 (costF l s c U X), ov oX X.length, ov oS2 (asc (notC l s) (restC X U)).length, ov oO2 (asc (bunC l s) (restC X U)).length])] :: oc 3 oS2 (ivals (asc (notC l s) (restC X U))) :: oc 3 oO2 (ivals (asc (bunC l s) (restC X U))) :: oc 3 oX (ivals X) :: [(b13, row 32 [.int .i64 (costF l s c U R), ov oR R.length, ov oS (asc (notC l s) (restC R U)).length, ov oO (asc (bunC l s) (restC R U)).length])] :: oc 3 oR (ivals R) :: oc 3 oS (ivals (asc (notC l s) (restC R U))) :: oc 3 oO (ivals (asc (bunC l s) (restC R U))) :: oc 3 oD (ivals D) :: oc 37 oC (cvals U) :: rpT b4 b7 b8 l c Ls)) (ov oC U.length) U := CL.oc 10 rfl hoC
    have hIM : IL (K W (oc 3 oM (ivals M) :: [(b18, row 32 [.int .i64 (costF l s c U X), ov oX X.length, ov oS2 (asc (notC l s) (restC X U)).length, ov oO2 (asc (bunC l s) (restC X U)).length])] :: oc 3 oS2 (ivals (asc (notC l s) (restC X U))) :: oc 3 oO2 (ivals (asc (bunC l s) (restC X U))) :: oc 3 oX (ivals X) :: [(b13, row 32 [.int .i64 (costF l s c U R), ov oR R.length, ov oS (asc (notC l s) (restC R U)).length, ov oO (asc (bunC l s) (restC R U)).length])] :: oc 3 oR (ivals R) :: oc 3 oS (ivals (asc (notC l s) (restC R U))) :: oc 3 oO (ivals (asc (bunC l s) (restC R U))) :: oc 3 oD (ivals D) :: oc 37 oC (cvals U) :: rpT b4 b7 b8 l c Ls)) (ov oM M.length) M := IL.oc 0 rfl hoM
    refine c_exit ?_
    refine f_thenE ?_
    refine f_rndE ?_
    refine f_blockE ?_
    refine f_then ?_
    refine c_region ?_
    refine s_y (y_loadA Try.tab rfl rfl rfl rfl (cells_row0 13 rfl rfl)) rfl rfl rfl ?_
    refine s_y (y_move rfl) rfl rfl rfl ?_
    refine s_y (y_move rfl) rfl rfl rfl ?_
    refine s_y (y_loadA Try.tab rfl rfl rfl rfl (cells_row0 12 rfl rfl)) rfl rfl rfl ?_
    refine s_y (y_move rfl) rfl rfl rfl ?_
    refine s_call (en_f rfl Try.call33) (repaired_spec W _ l s _ (ov oM M.length) U c M h hin2 hcst hCU5 hIM (by omega) (by omega)) rfl rfl rfl (fun x => ?_)
    obtain ⟨⟨oS3, oO3⟩, hoS3, hoO3⟩ := x
    dsimp only at hoS3 hoO3 ⊢
    skip
    refine s_set (set_box Try.tab 7 rfl rfl (by cases oM <;> cases oS3 <;> cases oO3 <;> rfl) rfl rfl rfl rfl) rfl rfl ?_
    refine s_nil ?_
    refine f_blockN ?_
    refine f_then ?_
    refine c_region ?_
    refine s_y (y_move rfl) rfl rfl rfl ?_
    refine s_y (y_add rfl rfl (by omega)) rfl rfl rfl ?_
    refine s_y (y_assign rfl) rfl rfl rfl ?_
    refine s_nil ?_
    exact f_roundP (k + 1, M, oM, oS3, oO3) ⟨⟨by show 1 ≤ k + 1; omega, by show k + 1 ≤ _; omega⟩, hb2, hoM, hoS3, hoO3⟩ (by show 2 ^ D.length - (k + 1) < 2 ^ D.length - k; omega) ⟨rfl, rfl, rfl, rfl, rfl, rfl, rfl, rfl, rfl, trivial⟩ (fun w h => (((((((h.dropAt 3).dropAt 3).dropAt 3).dropAt 3).dropAt 4).dropAt 4).dropAt 4).fronts [1, 1, 2, 3])
  · refine s_nil ?_
    refine f_then ?_
    refine c_seq ?_
    refine c_region ?_
    refine s_y (y_fieldAddr0 Try.tab rfl rfl rfl rfl rfl) rfl rfl rfl ?_
    refine s_y (y_load Try.tab rfl rfl (cell_row 0 rfl rfl)) rfl rfl rfl ?_
    refine s_y (y_fieldAddr0 Try.tab rfl rfl rfl rfl rfl) rfl rfl rfl ?_
    refine s_y (y_load Try.tab rfl rfl (cell_row 4 rfl rfl)) rfl rfl rfl ?_
    refine s_y (y_F (y_lss rfl rfl) (by omega)) rfl rfl rfl ?_
    refine s_nil ?_
    refine f_then ?_
    refine c_condF rfl ?_
    refine c_seq ?_
    refine c_region ?_
    refine s_y (y_fieldAddr0 Try.tab rfl rfl rfl rfl rfl) rfl rfl rfl ?_
    refine s_y (y_load Try.tab rfl rfl (cell_row 0 rfl rfl)) rfl rfl rfl ?_
    refine s_y (y_fieldAddr0 Try.tab rfl rfl rfl rfl rfl) rfl rfl rfl ?_
    refine s_y (y_load Try.tab rfl rfl (cell_row 4 rfl rfl)) rfl rfl rfl ?_
    refine s_y (y_F (y_eql rfl rfl) (by omega)) rfl rfl rfl ?_
    refine s_nil ?_
    refine f_then ?_
    refine c_condF rfl ?_
    refine c_skip ?_
    refine f_blockN ?_
    refine f_then ?_
    refine c_region ?_
    refine s_y (y_move rfl) rfl rfl rfl ?_
    refine s_y (y_add rfl rfl (by omega)) rfl rfl rfl ?_
    refine s_y (y_assign rfl) rfl rfl rfl ?_
    refine s_nil ?_
    exact f_roundP (k + 1, R, oR, oS, oO) ⟨⟨by show 1 ≤ k + 1; omega, by show k + 1 ≤ _; omega⟩, hmore hc, hoR, hoS, hoO⟩ (by show 2 ^ D.length - (k + 1) < 2 ^ D.length - k; omega) ⟨rfl, rfl, rfl, rfl, rfl, rfl, rfl, rfl, rfl, trivial⟩ (fun w h => h.tail.tail.tail.tail)
end Go.KL
end
