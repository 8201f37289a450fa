/- ClerkFull: for every input the law returns true, and its arguments read as they did. No condition. -/
import Derived.Test.YtcbmmldkpicaiaaGreatRows
import Derived.JoinedOf
import Derived.Handed
import Derived.Test.YtcbmmldkpicaiaaGreatL6
section
/- The law: ClerkFull. -/
namespace Go.KL
open Go.Proofs
section
variable {P : Program} {n : Nat} {σ : Slots} {C : World → Prop} {dst ty pos after guard}
theorem y_add8 {x y : Operand} {t t' : TypeId} {p q : Int} (hx : ev σ x = some (.int .u8 p)) (hy : ev σ y = some (.int .u8 q)) (hb : 0 ≤ p + q ∧ p + q < 256) :
    Ylds P n σ C ⟨dst, .binOp .add t x y t', ty, pos, after, guard⟩ (.int .u8 (p + q)) := by
  have := y_addw (P := P) (n := n) (C := C) (dst := dst) (ty := ty) (pos := pos) (after := after) (guard := guard) (t := t) (t' := t') hx hy
  rwa [IntWalk.u8_in _ (by omega)] at this
end
/-- The document's book of a map. -/
def Rg.fresh (n : Nat) (f : Nat → Nat) (m : Wh) : Rg := ⟨n, f, m, [], ⟨none, 0⟩, [], ⟨none, 0⟩, [], ⟨none, 0⟩⟩
theorem RV.fresh {C : World → Prop} {n : Nat} {f : Nat → Nat} {m : Wh} (h : RMp C (.slice m.p (rnl (rns f 0 n)).length m.c) n f) : RV C (Rg.fresh n f m) := ⟨h, EV.empty, (fun t ht => by cases ht), EV.empty, EV.empty, (fun x hx => by cases hx), by simp [Rg.fresh]⟩
theorem Sm.fresh {n : Nat} {f : Nat → Nat} {m : Wh} : Sm (Bk.fresh n f) (Rg.fresh n f m).rb := ⟨rfl, rfl, rfl, (fun k hk => by unfold Bk.has at hk; simp [Bk.fresh] at hk; omega), (fun k hk => by cases hk), rfl, rfl⟩
theorem K.e0 {W w : World} {L N : List Chunk} {a c d e : Chunk} (h : K W (a :: c :: d :: (L ++ (e :: N))) w) : K W (a :: (L ++ ([c] ++ (d :: e :: N)))) w := K.perm h fun x _ => by
  simp only [List.count_append, List.count_cons, List.count_nil]
  omega
theorem K.e1 {W w : World} {L M G : List Chunk} {a : Chunk} (h : K W (a :: (L ++ (M ++ G))) w) : K W (L ++ (M ++ (a :: G))) w := K.perm h fun x _ => by
  simp only [List.count_append, List.count_cons]
  omega
theorem K.e2 {W w : World} {T L M G : List Chunk} {a : Chunk} (h : K W (L ++ (T ++ (M ++ (a :: G)))) w) : K W (a :: (L ++ ((T ++ M) ++ G))) w := K.perm h fun x _ => by
  simp only [List.count_append, List.count_cons]
  omega
theorem K.e3 {W w : World} {L M G : List Chunk} {a : Chunk} (h : K W (a :: (L ++ (M ++ G))) w) : K W (a :: G) w := K.bck (M := M) (K.bck (M := L) (K.perm (B := L ++ (M ++ (a :: G))) h fun x _ => by
  simp only [List.count_append, List.count_cons]
  omega))
/-- The arguments of the calls. -/
def fe (a b : Int) : Nat → Int
  | 0 => a
  | 1 => b
  | _ => 0
/-- Both books between calls. -/
structure Both (W : World) (M : List Chunk) (b m : Nat) (g : Bg) (r : Rg) : Prop where
  ok : g.OK
  b : g.b = b
  i : g.bk.Ok m
  rv : RV (K W M) r
  sm : Sm g.bk r.rb
  ts : g.ts.length ≤ m
  ls : g.ls.length ≤ m
theorem Both.next {W : World} {M : List Chunk} {b m : Nat} {g : Bg} {r : Rg} {f : Nat → Int} {x : Bg × Rg × List Chunk} (h : Both W M b m g r) (hx : DoR W M g f x) : Both W (x.2.2 ++ M) b (m + 1) x.1 x.2.1 := by
  obtain ⟨q1, _, q3, q4⟩ := h.i.grow hx.cl
  have h1 := h.ts
  have h2 := h.ls
  have e1 : x.1.bk.ts.length = x.1.ts.length := by simp [Bg.bk]
  have e2 : g.bk.ts.length = g.ts.length := by simp [Bg.bk]
  have e3 : x.1.bk.log.length = x.1.ls.length := by simp [Bg.bk]
  have e4 : g.bk.log.length = g.ls.length := by simp [Bg.bk]
  exact ⟨hx.ok, hx.b.trans h.b, h.i.cl hx.cl, hx.rv, hx.sm, by omega, by omega⟩
theorem Both.mono {W : World} {M : List Chunk} {b m m' : Nat} {g : Bg} {r : Rg} (h : Both W M b m g r) (hm : m ≤ m') : Both W M b m' g r := ⟨h.ok, h.b, h.i.mono hm, h.rv, h.sm, Nat.le_trans h.ts hm, Nat.le_trans h.ls hm⟩
attribute [local irreducible] SC St Fin Sq Ylds Doos Sets Enters Spec CellIs CellsAre Then Ret Rnd Chn resOK ints bools recs arr
set_option maxRecDepth 10000 in
set_option maxHeartbeats 16000000 in
theorem clerkFull_spec {W : World} {N : List Chunk} {tv : Value} {nt : Nat} {tf : Nat → Int} (hT : SlV (K W N) tv nt 1 (fun i _ => .int .u8 (tf i))) (htf : ∀ i, i < nt → 0 ≤ tf i ∧ tf i < 256) (hnt : nt ≤ 9223372036854775807) :
    Spec Tryz.prog 6 #[tv] (K W N) (fun _ : Unit => .bool true) (fun _ => K W N) := by
  refine enter (args := [_]) Tryz.func6 rfl Tryz.ntmps6 rfl ?_
  refine csr ?_
  refine sa ?_
  refine snf ?_
  refine csr ?_
  refine St.cls (C' := K W ([] :: N)) ?_ (fun w h => h.addNil)
  refine s_call (en_f rfl Tryz.call25) (mnew_spec (n := 1) (R := N) (by decide) (by decide)) rfl rfl rfl (fun x => ?_)
  obtain ⟨⟨p, v⟩, hSb, hM⟩ := x
  dsimp only at hSb hM ⊢
  obtain ⟨a, rfl⟩ := hM.ptr
  refine sm ?_
  refine sx ?_
  refine sx ?_
  refine sal fun b3 => ?_
  refine ss (set_box Tryz.tab 0 rfl rfl rfl rfl rfl rfl rfl) ?_
  refine sa ?_
  refine snf ?_
  refine csr ?_
  refine sy (y_loadA Tryz.tab rfl rfl rfl rfl (cells_row0 0 rfl rfl)) ?_
  refine St.cls (C' := K W (p :: [(b3, row 29 [.pointer (some a)])] :: N)) ?_ (fun w h => K.front 1 h)
  refine sk Tryz.call15 (New_b (N := [(b3, row 29 [.pointer (some a)])] :: N) hM) fun x => ?_
  obtain ⟨g0, hB0, hb0, _⟩ := x
  dsimp only
  have hTg : SlV (K W (g0.L ++ ([(b3, row 29 [.pointer (some a)])] :: N))) tv nt 1 (fun i _ => .int .u8 (tf i)) := hT.cls fun w h => (K.bck h).tail
  by_cases c2 : 200 < nt
  · refine sm ?_
    refine sx ?_
    refine sx ?_
    refine sa ?_
    refine sa ?_
    refine snf ?_
    refine c_seq ?_
    refine csr ?_
    refine sm ?_
    refine sy (y_F (y_neq rfl rfl) (by omega)) ?_
    refine sm ?_
    refine sm ?_
    refine sy (y_F (y_neq rfl rfl) (by omega)) ?_
    refine spF ?_
    refine sm ?_
    refine sm ?_
    refine sy (y_lenV Tryz.tab rfl (hTg) rfl) ?_
    refine sy (y_T (y_gtr rfl rfl) (by omega)) ?_
    refine spF ?_
    refine snf ?_
    refine c_condT rfl ?_
    refine csr ?_
    refine sm ?_
    refine sy (y_T (y_eql rfl rfl) (by omega)) ?_
    refine sm ?_
    refine sm ?_
    refine sy (y_T (y_eql rfl rfl) (by omega)) ?_
    refine spT ?_
    refine sm ?_
    refine sk Tryz.call13 awake_spec fun _ => ?_
    refine spT ?_
    refine sa ?_
    refine snf ?_
    refine c_ret ?_
    refine f_thenR ?_
    exact f_ret () (res1 rfl rfl) (fun w h => (K.bck h).tail)
  refine sm ?_
  refine sx ?_
  refine sx ?_
  refine sa ?_
  refine sa ?_
  refine snf ?_
  refine c_seq ?_
  refine csr ?_
  refine sm ?_
  refine sy (y_F (y_neq rfl rfl) (by omega)) ?_
  refine sm ?_
  refine sm ?_
  refine sy (y_F (y_neq rfl rfl) (by omega)) ?_
  refine spF ?_
  refine sm ?_
  refine sm ?_
  refine sy (y_lenV Tryz.tab rfl (hTg) rfl) ?_
  refine sy (y_F (y_gtr rfl rfl) (by omega)) ?_
  refine spF ?_
  refine snf ?_
  refine c_condF rfl ?_
  refine c_skip ?_
  refine f_then ?_
  refine csr ?_
  refine s_do (do_buildSlice1 Tryz.tab ⟨rfl, rfl, rfl, rfl⟩ rfl rfl rfl rfl) rfl rfl rfl (fun b39 => ?_)
  have hS1 : ∀ b39, SlV (K W ([(b39, row 5 [.int .u8 0])] :: (g0.L ++ ([(b3, row 29 [.pointer (some a)])] :: N)))) (.slice (some ⟨b39, 0, none⟩) 1 1) 1 1 (fun i _ => .int .u8 ((fun _ => 0) i)) := fun b39 => ⟨_, _, rfl, Nat.le_refl _, fun _ => ⟨_, _, rfl, fun i hi j hj => by
    obtain rfl : i = 0 := by omega
    obtain rfl : j = 0 := by omega
    exact cell_row (Ls := [(b39, row 5 [.int .u8 0])] :: (g0.L ++ ([(b3, row 29 [.pointer (some a)])] :: N))) 0 rfl rfl⟩⟩
  refine s_call (en_f rfl Tryz.call32) (of_spec (hS1 b39) (by decide) (fun _ _ => by decide)) rfl rfl rfl (fun x => ?_)
  obtain ⟨⟨lv, c⟩, hBv⟩ := x
  dsimp only at hBv ⊢
  have hr0 : rns (tgf fun _ => 0) 0 1 = rns (fun _ => 0) 0 1 := rns_congr (Nat.zero_le _) fun i _ _ => rfl
  rw [hr0] at hBv
  obtain ⟨pm, km, rfl, _, _⟩ := (hBv.view (C := K W [c]) (Hs.at 0 rfl)).view
  refine sy (y_build Tryz.tab rfl rfl rfl rfl rfl) ?_
  refine sal fun b7 => ?_
  refine ss (set_box Tryz.tab 0 rfl rfl rfl rfl rfl rfl rfl) ?_
  refine snf ?_
  refine csr ?_
  refine sa ?_
  refine snf ?_
  refine c_seq ?_
  refine csr ?_
  refine sa ?_
  refine snf ?_
  refine c_block ?_
  obtain ⟨G0, hG0⟩ : ∃ G0, G0 = [(b39, row 5 [.int .u8 0])] :: [(b3, row 29 [.pointer (some a)])] :: N := ⟨_, rfl⟩
  have hGN : ∀ w, K W G0 w → K W N w := fun w h => by rw [hG0] at h; exact h.tail.tail
  obtain ⟨r0, hr0⟩ : ∃ r0, r0 = Rg.fresh 1 (fun _ => 0) ⟨pm, km⟩ := ⟨_, rfl⟩
  have hok0 : g0.bk.Ok 0 := by
    rw [hb0]
    exact Bk.fresh_ok ⟨by omega, by omega⟩ (by decide)
  have hBo : Both W [c] g0.b 0 g0 r0 := by
    refine ⟨hB0, rfl, hok0, by rw [hr0]; exact RV.fresh ⟨hBv.view (Hs.at 0 rfl), by omega, by decide⟩, by rw [hr0, hb0]; exact Sm.fresh, ?_, ?_⟩
    · have : g0.ts.length = 0 := by
        have := congrArg (fun A : Bk => A.ts.length) hb0
        simpa [Bg.bk, Bk.fresh] using this
      omega
    · have : g0.ls.length = 0 := by
        have := congrArg (fun A : Bk => A.log.length) hb0
        simpa [Bg.bk, Bk.fresh] using this
      omega
  refine SC.cls (C' := K W ([(b7, row 42 r0.cells)] :: (g0.L ++ ([c] ++ G0)))) ?_ (fun w h => by
    rw [hr0, hG0]
    exact K.e0 h)
  refine c_loopP (α := Nat × Bg × Rg × List Chunk) (fun z => [(0, tv), (5, .pointer (some ⟨g0.b, 0, none⟩)), (7, .pointer (some ⟨b7, 0, none⟩)), (8, .bool true), (9, .int .i64 (z.1 : Nat))]) (fun z => z.1 ≤ 64 + nt ∧ Both W z.2.2.2 g0.b (2 * z.1) z.2.1 z.2.2.1)
    (fun z => K W ([(b7, row 42 (z.2.2.1).cells)] :: (z.2.1.L ++ (z.2.2.2 ++ G0)))) (fun z => 64 + nt - z.1) (0, g0, r0, [c]) ⟨rfl, rfl, rfl, rfl, rfl, trivial⟩ ⟨Nat.zero_le _, hBo⟩ (fun w h => h) ?_
  clear hBo hok0 hr0 hG0 hBv hTg hS1 hSb
  rintro ⟨i, g, r, M⟩ ⟨hi, hBo⟩
  dsimp only at hi hBo ⊢
  have hgb := hBo.b
  have hgt := hBo.ts
  have hgl := hBo.ls
  have hTl : SlV (K W ([(b7, row 42 r.cells)] :: (g.L ++ (M ++ G0)))) tv nt 1 (fun i _ => .int .u8 (tf i)) := hT.cls fun w h => hGN w (K.bck (K.bck h.tail))
  by_cases ci : i < 64 + nt
  · have hdb := do_begin (W := W) (G := [(b7, row 42 r.cells)] :: G0) (f := fe 0 0) hBo.ok hBo.i hBo.rv hBo.sm (by omega) (by decide) rfl
    rw [hgb] at hdb
    refine c_seq ?_
    refine csr ?_
    refine sm ?_
    refine sm ?_
    refine sy (y_lenV Tryz.tab rfl (hTl) rfl) ?_
    refine sy (y_add rfl rfl (by omega)) ?_
    refine sy (y_T (y_lss rfl rfl) (by omega)) ?_
    refine snf ?_
    refine c_condT rfl ?_
    refine c_skip ?_
    refine f_then ?_
    refine c_seq ?_
    refine c_block ?_
    refine csr ?_
    refine sm ?_
    refine sy (y_loadA Tryz.tab rfl rfl rfl rfl (cells_row0 0 rfl rfl)) ?_
    refine sy (y_build Tryz.tab rfl rfl rfl rfl rfl) ?_
    refine St.cls (C' := K W (g.L ++ (M ++ ([(b7, row 42 r.cells)] :: G0)))) ?_ (fun w h => K.e1 h)
    refine sk Tryz.call16 hdb fun x => ?_
    obtain ⟨⟨g2, r2, T⟩, hx⟩ := x
    have hBo2 := hBo.next hx
    dsimp only at hBo2 ⊢
    refine St.cls (C' := K W ([(b7, row 42 r.cells)] :: (g2.L ++ ((T ++ M) ++ G0)))) ?_ (fun w h => K.e2 h)
    clear hx hdb
    obtain ⟨M2, hM2⟩ : ∃ M2, M2 = T ++ M := ⟨_, rfl⟩
    rw [← hM2] at hBo2 ⊢
    clear hM2
    have hgb2 := hBo2.b
    have hgt2 := hBo2.ts
    have hgl2 := hBo2.ls
    have hTl2 : SlV (K W ([(b7, row 42 r2.cells)] :: G0)) tv nt 1 (fun i _ => .int .u8 (tf i)) := hT.cls fun w h => hGN w h.tail
    by_cases c64 : (64 : Int) ≤ i
    · obtain ⟨kx, hkx⟩ : ∃ kx, kx = i - 64 := ⟨_, rfl⟩
      have hkn : kx < nt := by omega
      obtain ⟨ht1, ht2⟩ := htf kx hkn
      obtain ⟨z, hz⟩ : ∃ z, z = tf kx := ⟨_, rfl⟩
      have hdc : Spec Tryz.prog 16 #[.pointer (some ⟨g0.b, 0, none⟩), r2.val, clv (fe (4 + z % 2) z)] (K W (g2.L ++ (M2 ++ ([(b7, row 42 r2.cells)] :: G0)))) (X := { x : Bg × Rg × List Chunk // DoR W M2 g2 (fe (4 + z % 2) z) x }) (fun x => .tuple #[x.1.2.1.val, .bool true]) (fun x => K W (x.1.1.L ++ (x.1.2.2 ++ (M2 ++ ([(b7, row 42 r2.cells)] :: G0))))) := by
        rw [← hgb2]
        by_cases cz : z % 2 = 0
        · exact do_commit hBo2.ok hBo2.i (by omega) hBo2.rv hBo2.sm (by omega) ⟨by show 0 ≤ 4 + z % 2; omega, by show 4 + z % 2 < 256; omega⟩ (by show (4 + z % 2) % 6 = 4; omega)
        · exact do_abort hBo2.ok hBo2.i (by omega) hBo2.rv hBo2.sm ⟨by show 0 ≤ 4 + z % 2; omega, by show 4 + z % 2 < 256; omega⟩ (by show (4 + z % 2) % 6 = 5; omega)
      have hcell := hTl2.cell1 hkn
      rw [← hz] at hcell ht1 ht2
      have hD := fun (w : World) (h : K W ([(b7, row 42 r2.cells)] :: (g2.L ++ (M2 ++ G0))) w) => K.e3 h
      refine sm ?_
      refine sx ?_
      refine sx ?_
      refine ss (set_box Tryz.tab 0 rfl rfl rfl rfl rfl rfl rfl) ?_
      refine sa ?_
      refine snf ?_
      refine c_seq ?_
      refine csr ?_
      refine sm ?_
      refine sy (y_notT rfl) ?_
      refine snf ?_
      refine c_condF rfl ?_
      refine c_skip ?_
      refine f_then ?_
      refine csr ?_
      refine sm ?_
      refine sy (y_T (y_geq rfl rfl) (by assumption)) ?_
      refine snf ?_
      refine c_condT rfl ?_
      refine c_seq ?_
      refine c_plan [.c 0, .c 1, .c 2, .c 3, .c 4, .c 5, .c 6, .c 7, .c 8, .c 9, .c 10, .c 11, .c 12, .c 13, .c 14, .c 15, .s 16, .s 17, .e 18 19 20, .s 21] [18, 19, 20, 21] (K W ([(b7, row 42 r2.cells)] :: G0)) Tryz.mixed (by kernel_rfl) rfl K.cl ?_
      refine dy rfl (y_move rfl) hD ?_
      refine dy rfl (y_loadA Tryz.tab rfl rfl rfl rfl (cells_row0 0 rfl rfl)) hD ?_
      refine dy rfl (y_move rfl) hD ?_
      refine dy rfl (y_move rfl) hD ?_
      refine dy rfl (y_sub rfl rfl (by omega)) hD ?_
      refine dy rfl (y_ixV Tryz.tab rfl rfl rfl rfl hTl2 kx (by omega) hkn) hD ?_
      refine dy rfl (y_load Tryz.tab rfl rfl hcell) hD ?_
      refine dy rfl (y_remK rfl rfl (by omega)) hD ?_
      refine dy rfl (y_add8 rfl rfl (by omega)) hD ?_
      refine dy rfl (y_move rfl) hD ?_
      refine dy rfl (y_move rfl) hD ?_
      refine dy rfl (y_sub rfl rfl (by omega)) hD ?_
      refine dy rfl (y_ixV Tryz.tab rfl rfl rfl rfl hTl2 kx (by omega) hkn) hD ?_
      refine dy rfl (y_load Tryz.tab rfl rfl hcell) hD ?_
      refine dy rfl (y_toI Tryz.tab rfl rfl rfl (by omega)) hD ?_
      refine dy rfl (y_build Tryz.tab rfl rfl rfl rfl rfl) hD ?_
      refine Sd.cls (C' := K W (g2.L ++ (M2 ++ ([(b7, row 42 r2.cells)] :: G0)))) ?_ (fun w h => K.e1 h)
      refine d_call rfl (en_f rfl Tryz.call16) hdc rfl rfl rfl (fun _ => K.cl) (fun _ _ w h => K.bck (K.bck (K.bck h))) (fun x => ?_)
      obtain ⟨⟨g3, r3, T3⟩, hx⟩ := x
      have hBo3 := hBo2.next hx
      dsimp only at hBo3 ⊢
      refine Sd.cls (C' := K W ([(b7, row 42 r2.cells)] :: (g3.L ++ ((T3 ++ M2) ++ G0)))) ?_ (fun w h => K.e2 h)
      clear hx hdc hD
      have hD := fun (w : World) (h : K W ([(b7, row 42 r2.cells)] :: (g3.L ++ ((T3 ++ M2) ++ G0))) w) => K.e3 h
      refine d_sy rfl (y_move rfl) rfl rfl rfl K.cl (fun _ => hD) ?_
      refine d_e rfl rfl rfl rfl rfl rfl rfl rfl rfl rfl rfl rfl (y_extract rfl rfl) (y_extract rfl rfl) (y_extract rfl rfl) (y_extract rfl rfl) (y_extract rfl rfl) (set_aggB Tryz.tab 0 rfl rfl rfl rfl rfl rfl rfl) (set_aggB Tryz.tab 0 rfl rfl rfl rfl rfl rfl rfl) K.cl K.cl rfl rfl rfl ?_
      refine d_sy rfl (y_assign rfl) rfl rfl rfl K.cl (fun h => by cases h) ?_
      refine d_nil ?_
      refine f_then ?_
      refine csr ?_
      refine sm ?_
      refine sy (y_notT rfl) ?_
      refine snf ?_
      refine c_condF rfl ?_
      refine c_skip ?_
      refine f_blockN ?_
      refine f_then ?_
      refine c_region ?_
      refine sm ?_
      refine sy (y_add rfl rfl (by omega)) ?_
      refine sa ?_
      refine s_nil ?_
      exact f_roundP (i + 1, g3, r3, T3 ++ M2) ⟨ci, hBo3.mono (by dsimp only; omega)⟩ (by dsimp only; omega) ⟨rfl, rfl, rfl, rfl, rfl, trivial⟩ (fun w h => h)
    · refine sm ?_
      refine sx ?_
      refine sx ?_
      refine ss (set_box Tryz.tab 0 rfl rfl rfl rfl rfl rfl rfl) ?_
      refine sa ?_
      refine snf ?_
      refine c_seq ?_
      refine csr ?_
      refine sm ?_
      refine sy (y_notT rfl) ?_
      refine snf ?_
      refine c_condF rfl ?_
      refine c_skip ?_
      refine f_then ?_
      refine csr ?_
      refine sm ?_
      refine sy (y_F (y_geq rfl rfl) (by assumption)) ?_
      refine snf ?_
      refine c_condF rfl ?_
      refine c_skip ?_
      refine f_blockN ?_
      refine f_then ?_
      refine c_region ?_
      refine sm ?_
      refine sy (y_add rfl rfl (by omega)) ?_
      refine sa ?_
      refine s_nil ?_
      exact f_roundP (i + 1, g2, r2, M2) ⟨ci, hBo2.mono (by dsimp only; omega)⟩ (by dsimp only; omega) ⟨rfl, rfl, rfl, rfl, rfl, trivial⟩ (fun w h => h)
  · obtain rfl : i = 64 + nt := by omega
    have hsm := same_spec (W := W) (M := [(b7, row 42 r.cells)] :: (M ++ G0)) hBo.ok hBo.i (by omega) (hBo.rv.cls fun w h => K.pre h.tail) hBo.sm
    rw [hgb] at hsm
    refine c_seq ?_
    refine csr ?_
    refine sm ?_
    refine sm ?_
    refine sy (y_lenV Tryz.tab rfl (hTl) rfl) ?_
    refine sy (y_add rfl rfl (by omega)) ?_
    refine sy (y_F (y_lss rfl rfl) (by omega)) ?_
    refine snf ?_
    refine c_condF rfl ?_
    refine c_exit ?_
    refine f_thenE ?_
    refine f_rndE ?_
    refine f_blockE ?_
    refine f_then ?_
    refine csr ?_
    refine sm ?_
    refine sy (y_loadA Tryz.tab rfl rfl rfl rfl (cells_row0 0 rfl rfl)) ?_
    refine St.cls (C' := K W (g.L ++ ([(b7, row 42 r.cells)] :: (M ++ G0)))) ?_ (fun w h => K.bckN (A := [[(b7, row 42 r.cells)]]) (B := g.L) h)
    refine sk Tryz.call19 hsm fun _ => ?_
    refine sm ?_
    refine sk Tryz.call13 awake_spec fun _ => ?_
    refine spT ?_
    refine sa ?_
    refine snf ?_
    refine c_ret ?_
    exact f_ret () (res1 rfl rfl) (fun w h => hGN w (K.bck (K.bck h).tail))
/-- The law, walked. -/
theorem clerkFull_walk (W : World) (nt : Nat) (tf : Nat → Int) (tv : Value) (hT : SlV (K W []) tv nt 1 (fun i _ => .int .u8 (tf i))) (hnt : nt ≤ 9223372036854775807) (htf : ∀ i, i < nt → 0 ≤ tf i ∧ tf i < 256) :
    Spec Tryz.prog 6 #[tv] (K W []) (fun _ : Unit => .bool true) (fun _ => K W []) := clerkFull_spec hT htf hnt
end Go.KL
end

section
namespace Go.Proofs.YtcbmmldkpicaiaaGreat
open Go.ChangeShapes Go.WideShapes Go.RowKit Go.KL
set_option linter.unusedVariables false
theorem own : ownKnob Tryz.prog.godebug = none := by kernel_rfl
set_option maxRecDepth 100000 in
theorem clerkFull_lifted (os : Os) (started : os.Started) (H : Type) (enc : TypeId × Value → H) :
    ReturnsInHanded {} Tryz.checked os 6 .any (Rows.clerkFullSpec.pre6 enc Tryz.prog Tryz.f6 Rows.clerkFullRow.domain false) (Rows.clerkFullSpec.post enc Tryz.prog Tryz.f6 false true false false) := by
  refine returnsInHanded_of_change (C := Tryz.checked) own started (by kernel_rfl) Tryz.func6
    (ChangeSpec.witness6 (enc := enc) (C := Tryz.checked) false ⟨#[], #[.slice none 0 0], []⟩ 8 (by kernel_rfl) (by kernel_rfl) (by kernel_rfl) (by kernel_rfl)) ?_
  intro W base args ds gs before hval hW hcnd _
  obtain ⟨p, q, hA, hV, rfl, hfz, hnd⟩ := id hW
  obtain ⟨rfl, rfl⟩ := trodVars_none hV
  obtain ⟨v0, vs0, d0, ds0, p0, q0, e0, rfl, rfl, h0, r0⟩ := trodAll_cons hA
  obtain ⟨rfl, rfl, rfl⟩ := trodAll_nil r0
  obtain rfl : args = #[v0] := by cases args; simp_all
  obtain ⟨n0, f0, hV0, hm0, hf0⟩ := arg50 (hval 0 50 _ rfl rfl) h0
  refine ((clerkFull_walk W n0 f0 v0 hV0 hm0 hf0) W (K.refl W)).mono ?_
  rintro e W' ⟨x, rfl, hk⟩
  exact ⟨_, rfl, law_post (t := 4) laidOut (by decide +kernel) rfl rfl u4 hW rfl hk.toExt⟩
theorem joined : joinedFacts Tryz.pinned.checked.prog 6 Tryz.f6 Rows.clerkFullSpec Rows.clerkFullRow = true := by
  show joinedFacts Tryz.prog 6 Tryz.f6 Rows.clerkFullSpec Rows.clerkFullRow = true
  unfold joinedFacts
  rw [Go.KL.may_enter, Go.KL.lifts_final, Go.KL.make_cut]
  kernel_rfl
/-- The statement. -/
theorem clerkFull_holds : Rows.ClerkFullSaid :=
  OpenClaim.holds_of_wide 6 Tryz.f6 rfl rfl rfl rfl rfl rfl rfl ⟨rfl, rfl, rfl, rfl, rfl⟩ rfl rfl rfl rfl rfl (by kernel_rfl) Tryz.func6 joined
    (of_decide_eq_true (by kernel_rfl)) (by unfold Func.isWrapper; first | (rw [if_pos (by decide +kernel)]; kernel_rfl) | (rw [if_neg (by decide +kernel)]; exact ⟨rfl, rfl⟩))
    (fun os started H enc _ => clerkFull_lifted os started H enc)
end Go.Proofs.YtcbmmldkpicaiaaGreat
end
