/- The library of the proof, part 2: a program logic over the model, walks of functions, plain laws. No condition. -/
import Derived.ChangeSame
import Derived.WideKeyArgs
import Derived.RowKit
import Derived.OpenShut
import Derived.Deep.OwnRows
import Derived.MapKept
import Derived.Carry
import Derived.Laws.IdiomRangeMap
import Derived.Test.YtcbmmldkpicaiaaGreatNobL1
section
/- A program logic over the model, of our own: drawn regions, each operation once, whatever has come before it. No program in sight. -/
namespace Go.KL
section
variable {P : Program} {n : Nat} {σ σb : Slots} {W : World} {Ls : List Chunk} {C : World → Prop} {Q : Post} {o : Oper} {R : Value → World → Prop}
/-- What an operation may do. -/
def Acts (P : Program) (n : Nat) (σ : Slots) (C : World → Prop) (o : Oper) (R : Value → World → Prop) : Prop := ∀ a w, Env n σ a → C w → Out P o a w R
theorem a_y {v : Value} (h : Ylds P n σ C o v) (k : ∀ w, C w → R v w) : Acts P n σ C o R := fun a w hE hw => by
  unfold Out
  rw [h a w hE hw]
  exact k w hw
theorem a_do {X : Type} {v : X → Value} {C' : X → World → Prop} (h : Doos P n σ C o v C') (k : ∀ x w, C' x w → R (v x) w) : Acts P n σ C o R := fun a w hE hw => by
  obtain ⟨x, w', hr, hC⟩ := h a w hE hw
  unfold Out
  rw [hr]
  exact k x w' hC
theorem a_set {C' : World → Prop} (h : Sets P n σ C o C') (k : ∀ w, C' w → R undef w) : Acts P n σ C o R := fun a w hE hw => by
  obtain ⟨w', hr, hC⟩ := h a w hE hw
  unfold Out
  rw [hr]
  exact k w' hC
theorem a_call {X : Type} {v : X → Value} {C' : X → World → Prop} {f : FuncId} {args : Array Value} (he : Enters P n σ C o f args) (hs : Spec P f args C v C') (k : ∀ x w, C' x w → R (v x) w) : Acts P n σ C o R := fun a w hE hw => by
  unfold Out
  rw [he a w hE hw]
  exact (hs w hw).mono fun e w' ⟨x, h1, h2⟩ => ⟨v x, h1, k x w' h2⟩
theorem Acts.cls {C' : World → Prop} (h : Acts P n σ C' o R) (hC : ∀ w, C w → C' w) : Acts P n σ C o R := fun a w hE hw => h a w hE (hC w hw)

/-- An operation's value, and memory of its own, as ghosts. -/
abbrev VC := Value × Chunk
abbrev Fact := List Chunk → Value → Chunk → Prop
def factAt (F : List Fact) (i : Nat) : Fact := F.getD i fun _ _ _ => True
def MonoF : List Fact → Prop
  | [] => True
  | f :: r => (∀ M N v c, f N v c → f (M ++ N) v c) ∧ MonoF r
theorem MonoF.at : ∀ {F : List Fact}, MonoF F → ∀ i M N v c, factAt F i N v c → factAt F i (M ++ N) v c
  | [], _, _, _, _, _, _, _ => trivial
  | _ :: _, h, 0, M, N, v, c, hf => h.1 M N v c hf
  | _ :: r, h, i + 1, M, N, v, c, hf => MonoF.at (F := r) h.2 i M N v c hf
/-- What is known of the operations that this one waits for. -/
def WithDeps (s : Nat → Option VC) (F : List Fact) (N : List Chunk) : List (Nat × Nat) → Slots → (Slots → Prop) → Prop
  | [], σ, k => k σ
  | (p, d) :: r, σ, k => ∀ v c, s p = some (v, c) → factAt F p N v c → WithDeps s F N r ((d, v) :: σ) k
def noneOf (dl0 : List (List (Nat × Nat))) (s : Nat → Option VC) (i : Nat) : Prop := ∀ q, ((dl0.getD q []).any fun pd => Nat.beq pd.1 i) = true → s q = none
def Steps (P : Program) (n : Nat) (W : World) (σb : Slots) (G : List Chunk → Prop) (B : (Nat → Option VC) → List Chunk) (F : List Fact) (dl0 : List (List (Nat × Nat))) : List Oper → List (List (Nat × Nat)) → Nat → Prop
  | [], _, _ => True
  | o :: r, dl, i => (∀ s N, G N → s i = none → noneOf dl0 s i → WithDeps s F N (dl.headD []) σb fun σ => Acts P n σ (K W (B s ++ N)) o fun u w' => ∃ M c, K W (B (upd s i (some (u, c))) ++ (M ++ N)) w' ∧ factAt F i (M ++ N) u c) ∧ Steps P n W σb G B F dl0 r dl.tail (i + 1)
theorem Steps.at {G : List Chunk → Prop} {B : (Nat → Option VC) → List Chunk} {F : List Fact} {dl0 : List (List (Nat × Nat))} : ∀ {l : List Oper} {dl : List (List (Nat × Nat))} {k : Nat}, Steps P n W σb G B F dl0 l dl k → ∀ j o, l[j]? = some o →
    ∀ s N, G N → s (k + j) = none → noneOf dl0 s (k + j) → WithDeps s F N (dl.getD j []) σb fun σ => Acts P n σ (K W (B s ++ N)) o fun u w' => ∃ M c, K W (B (upd s (k + j) (some (u, c))) ++ (M ++ N)) w' ∧ factAt F (k + j) (M ++ N) u c
  | [], _, _, _, j, o, hj => by simp at hj
  | o' :: r, dl, k, h, 0, o, hj => by
    simp only [List.getElem?_cons_zero, Option.some.injEq] at hj
    subst hj
    have := h.1
    cases dl <;> exact this
  | o' :: r, dl, k, h, j + 1, o, hj => by
    have h1 := Steps.at h.2 j o (by simpa using hj)
    rw [show k + 1 + j = k + (j + 1) by omega] at h1
    cases dl <;> exact h1
def dstL (l : List Oper) (i : Nat) : Option Nat := (l[i]?).bind (·.dst)
def noDup : List Oper → Bool
  | [] => true
  | o :: r => (match o.dst with
    | none => true
    | some d => r.all fun o' => match o'.dst with
      | none => true
      | some d' => !(Nat.beq d d')) && noDup r
def opB (n : Nat) (σb : Slots) (bef : Nat) (l : List Oper) (i : Nat) (o : Oper) (dl : List (Nat × Nat)) : Bool :=
  (match o.guard with
    | none => true
    | some _ => false) && (o.after.toList.all fun e => !(Region.binds .any e) || Nat.blt e.on i) &&
  (match o.dst with
    | none => true
    | some d => Nat.blt d n && (look σb d).isNone) &&
  dl.all fun pd => bef.testBit pd.1 && (match dstL l pd.1 with
    | some d => Nat.beq d pd.2
    | none => false)
def opsB (n : Nat) (σb : Slots) (bef : Array Nat) (l : List Oper) : List Oper → List (List (Nat × Nat)) → Nat → Bool
  | [], _, _ => true
  | o :: r, dl, i => opB n σb (bef.getD i 0) l i o (dl.headD []) && opsB n σb bef l r dl.tail (i + 1)
theorem opsB.at {bef : Array Nat} {l0 : List Oper} : ∀ {l : List Oper} {dl : List (List (Nat × Nat))} {k : Nat}, opsB n σb bef l0 l dl k = true → ∀ j o, l[j]? = some o → opB n σb (bef.getD (k + j) 0) l0 (k + j) o (dl.getD j []) = true
  | [], _, _, _, j, o, hj => by simp at hj
  | o' :: r, dl, k, h, 0, o, hj => by
    simp only [List.getElem?_cons_zero, Option.some.injEq] at hj
    subst hj
    have := (Bool.and_eq_true_iff.1 h).1
    cases dl <;> exact this
  | o' :: r, dl, k, h, j + 1, o, hj => by
    have h1 := opsB.at (Bool.and_eq_true_iff.1 h).2 j o (by simpa using hj)
    rw [show k + 1 + j = k + (j + 1) by omega] at h1
    cases dl <;> exact h1
theorem noDup.at : ∀ {l : List Oper}, noDup l = true → ∀ i j d, dstL l i = some d → dstL l j = some d → i = j
  | [], _, i, _, d, hi, _ => by simp [dstL] at hi
  | o :: r, h, i, j, d, hi, hj => by
    obtain ⟨h1, h2⟩ := Bool.and_eq_true_iff.1 h
    have key : ∀ j, dstL (o :: r) 0 = some d → dstL (o :: r) (j + 1) = some d → False := by
      intro j h0 hj
      have h0' : o.dst = some d := by simpa [dstL] using h0
      rw [h0'] at h1
      simp only [dstL, List.getElem?_cons_succ] at hj
      cases hr : r[j]? with
      | none => rw [hr] at hj; simp at hj
      | some o' =>
        rw [hr] at hj
        have hd' : o'.dst = some d := by simpa using hj
        have := List.all_eq_true.1 h1 o' (List.mem_of_getElem? hr)
        rw [hd'] at this
        simp [Nat.beq_refl] at this
    match i, j with
    | 0, 0 => rfl
    | 0, j + 1 => exact (key j hi hj).elim
    | i + 1, 0 => exact (key i hj hi).elim
    | i + 1, j + 1 =>
      have := noDup.at h2 i j d (by simpa [dstL] using hi) (by simpa [dstL] using hj)
      omega
/-- All values. -/
def slotsOf (l : List Oper) (s : Nat → Option VC) (σ : Slots) : Slots := (List.range l.length).foldr (fun i acc => match dstL l i with
  | some d => match s i with
    | some v => (d, v.1) :: acc
    | none => acc
  | none => acc) σ
structure DInv (n : Nat) (σb : Slots) (l : List Oper) (s : Nat → Option VC) (a : Act) : Prop where
  env : Env n σb a
  val : ∀ i d v, s i = some v → dstL l i = some d → d < n ∧ a.tmps.getD d undef = v.1
theorem DInv.cons {l : List Oper} {s : Nat → Option VC} {a : Act} (h : DInv n σb l s a) {σ : Slots} (hE : Env n σ a) {p d : Nat} {v : VC} (hs : s p = some v) (hd : dstL l p = some d) : Env n ((d, v.1) :: σ) a := by
  obtain ⟨h1, h2⟩ := h.val p d v hs hd
  have hM : d ≠ MK := by have := hE.lt; omega
  refine ⟨hE.size, hE.lt, by rw [look_cons_ne hM]; exact hE.defers, ?_⟩
  intro e u he hu
  by_cases hb : d = e
  · subst hb
    rw [look_cons_eq] at hu
    simp only [Option.some.injEq] at hu
    subst hu
    exact h2
  · rw [look_cons_ne hb] at hu
    exact hE.at_ e u he hu
theorem WithDeps.elim {l : List Oper} {s : Nat → Option VC} {F : List Fact} {N : List Chunk} {a : Act} (hI : DInv n σb l s a) {k : Slots → Prop} : ∀ {dl : List (Nat × Nat)} {σ : Slots}, Env n σ a → WithDeps s F N dl σ k →
    (∀ pd ∈ dl, dstL l pd.1 = some pd.2 ∧ ∃ v, s pd.1 = some v ∧ factAt F pd.1 N v.1 v.2) → ∃ σ', Env n σ' a ∧ k σ'
  | [], σ, hE, h, _ => ⟨σ, hE, h⟩
  | (p, d) :: r, σ, hE, h, hd => by
    obtain ⟨h1, v, h2, h3⟩ := hd (p, d) (by simp)
    exact WithDeps.elim hI (hI.cons hE h2 h1) (h v.1 v.2 h2 h3) fun pd hpd => hd pd (by simp [hpd])
/-- The state between two operations. -/
structure DSt (n : Nat) (σb : Slots) (W : World) (G : List Chunk → Prop) (l : List Oper) (B : (Nat → Option VC) → List Chunk) (F : List Fact) (listed : Array Bool) (s : Nat → Option VC) (N : List Chunk) (a : Act) (w : World) : Prop where
  inv : DInv n σb l s a
  sz : listed.size = l.length
  dc : DC l.toArray listed
  som : ∀ i, (s i).isSome = listed.getD i false
  fact : ∀ i v, s i = some v → factAt F i N v.1 v.2
  hk : K W (B s ++ N) w
  g : G N
theorem getD_tf {listed : Array Bool} {i : Nat} (h : listed.getD i true = false) : listed.getD i false = false ∧ i < listed.size := by
  rcases Nat.lt_or_ge i listed.size with h1 | h1
  · simp only [Array.getD_eq_getD_getElem?, Array.getElem?_eq_getElem h1, Option.getD_some] at h ⊢
    exact ⟨h, h1⟩
  · simp [Array.getD_eq_getD_getElem?, Array.getElem?_eq_none h1] at h
theorem drawn_run {G : List Chunk → Prop} (hGm : ∀ M N, G N → G (M ++ N)) {l : List Oper} {dl : List (List (Nat × Nat))} {B : (Nat → Option VC) → List Chunk} {F : List Fact} (hB : (noDup l && opsB n σb (Region.before l.toArray) l l dl 0) = true) (hM : MonoF F) (hsteps : Steps P n W σb G B F dl l dl 0)
    (hfin : ∀ s N, G N → (∀ i, i < l.length → ∃ v, s i = some v ∧ factAt F i N v.1 v.2) → ∀ a w, DInv n σb l s a → K W (B s ++ N) w → Q.q .normal a w) :
    ∀ (f : Nat) (listed : Array Bool) (s : Nat → Option VC) (N : List Chunk) (a : Act) (w : World), ((List.range l.length).filter fun i => !listed.getD i true).length ≤ f → DSt n σb W G l B F listed s N a w → wpAnyIn (fen Q.r) 0 P .any l.toArray Q.q f listed a w := by
  obtain ⟨hB1, hB2⟩ := Bool.and_eq_true_iff.1 hB
  have opAt : ∀ j o, l[j]? = some o → _ := fun j o hj => opsB.at hB2 j o hj
  -- nothing is ready: all is done
  have done : ∀ (listed : Array Bool) (s : Nat → Option VC) (N : List Chunk) (a : Act) (w : World), DSt n σb W G l B F listed s N a w → Region.ready .any l.toArray listed = [] → Q.q .normal a w := by
    intro listed s N a w h hr
    have all : ∀ i, i < l.length → listed.getD i false = true := by
      intro i
      induction i using Nat.strongRecOn with
      | _ i ih =>
        intro hi
        cases hl : listed.getD i false with
        | true => rfl
        | false =>
          exfalso
          have hm : i ∈ Region.ready .any l.toArray listed := by
            rw [mem_ready]
            refine ⟨?_, l[i], by simp [hi], ?_⟩
            · rw [Array.getD_eq_getD_getElem?, Array.getElem?_eq_getElem (by rw [h.sz]; exact hi)] at hl ⊢
              exact hl
            · intro e he hbd
              have h1 := opAt i l[i] (List.getElem?_eq_getElem hi)
              simp only [opB, Bool.and_eq_true] at h1
              have h2 := List.all_eq_true.1 h1.1.1.2 e (by simpa using he)
              rw [hbd] at h2
              have h3 : e.on < i := Nat.blt_eq.mp (by simpa using h2)
              exact ih e.on h3 (by omega)
          rw [hr] at hm
          cases hm
    refine hfin s N h.g (fun i hi => ?_) a w h.inv h.hk
    have := h.som i
    rw [all i hi] at this
    obtain ⟨v, hv⟩ := Option.isSome_iff_exists.1 this
    exact ⟨v, hv, h.fact i v hv⟩
  intro f
  induction f with
  | zero =>
    intro listed s N a w hc h
    have hr : Region.ready .any l.toArray listed = [] := by
      cases hr : Region.ready .any l.toArray listed with
      | nil => rfl
      | cons i r =>
        exfalso
        have hm : i ∈ Region.ready .any l.toArray listed := by rw [hr]; simp
        obtain ⟨h1, o, ho, _⟩ := mem_ready.1 hm
        have hi : i < l.length := by
          have := (Array.getElem?_eq_some_iff.1 ho).1
          simpa using this
        have : i ∈ (List.range l.length).filter fun i => !listed.getD i true := List.mem_filter.2 ⟨List.mem_range.2 hi, by rw [h1]; rfl⟩
        have := List.length_pos_of_mem this
        omega
    exact ⟨hr, done listed s N a w h hr⟩
  | succ f ih =>
    intro listed s N a w hc h
    refine ⟨done listed s N a w h, fun i hi => ?_⟩
    obtain ⟨h1, o, ho, _⟩ := mem_ready.1 hi
    obtain ⟨h1', h1s⟩ := getD_tf h1
    have ho' : l[i]? = some o := by simpa using ho
    have hil : i < l.length := by rw [← h.sz]; exact h1s
    have hop := opAt i o ho'
    simp only [Nat.zero_add] at hop
    simp only [opB, Bool.and_eq_true] at hop
    obtain ⟨⟨⟨hg, _⟩, hdst⟩, hdeps⟩ := hop
    have hPL := ready_PL hi
    have hsi : s i = none := by
      have := h.som i
      rw [h1'] at this
      cases hs : s i with
      | none => rfl
      | some v => rw [hs] at this; simp at this
    have hnone : noneOf dl s i := by
      intro q hq
      cases hsq : s q with
      | none => rfl
      | some v =>
        exfalso
        have hlq : listed.getD q false = true := by rw [← h.som q, hsq]; rfl
        obtain ⟨pd, hpd, hb⟩ := List.any_eq_true.1 hq
        have hqi : pd.1 = i := Nat.eq_of_beq_eq_true hb
        have hql : q < l.length := by
          rw [← h.sz]
          rcases Nat.lt_or_ge q listed.size with z | z
          · exact z
          · simp [Array.getD_eq_getD_getElem?, Array.getElem?_eq_none z] at hlq
        have h5 := opAt q l[q] (List.getElem?_eq_getElem hql)
        simp only [Nat.zero_add, opB, Bool.and_eq_true] at h5
        have h6 := List.all_eq_true.1 h5.2 pd hpd
        have h7 := anc_listed h.dc pd.1 q q (Nat.le_refl _) (h.dc q hlq) (Bool.and_eq_true_iff.1 h6).1
        rw [hqi, h1'] at h7
        cases h7
    have hst := hsteps.at i o ho' s N h.g (by rw [Nat.zero_add]; exact hsi) (by rw [Nat.zero_add]; exact hnone)
    rw [Nat.zero_add] at hst
    obtain ⟨σ', hE', hact⟩ := WithDeps.elim h.inv h.inv.env hst (fun pd hpd => by
      have := List.all_eq_true.1 hdeps pd hpd
      obtain ⟨t1, t2⟩ := Bool.and_eq_true_iff.1 this
      have hdd : dstL l pd.1 = some pd.2 := by
        cases hd : dstL l pd.1 with
        | none => rw [hd] at t2; cases t2
        | some d => rw [hd] at t2; exact congrArg some (Nat.eq_of_beq_eq_true t2)
      have hls := anc_listed h.dc pd.1 i i (Nat.le_refl _) hPL t1
      have := h.som pd.1
      rw [hls] at this
      obtain ⟨v, hv⟩ := Option.isSome_iff_exists.1 this
      exact ⟨hdd, v, hv, h.fact _ v hv⟩)
    have hwant : Region.wanted o (yielded l.toArray a.tmps) = true := by
      unfold Region.wanted
      cases hgd : o.guard with
      | none => rfl
      | some x => rw [hgd] at hg; cases hg
    unfold wpOpIn
    simp only [ho]
    rw [if_pos hwant]
    refine (hact a w hE' h.hk).wpIn ?_
    rintro u w' ⟨M, c', hk', hf'⟩
    refine ih _ (upd s i (some (u, c'))) (M ++ N) _ w' ?_ ⟨⟨?_, ?_⟩, by simp [h.sz], h.dc.set hPL, ?_, ?_, hk', hGm _ _ h.g⟩
    · have hlt : ((List.range l.length).filter fun j => !(listed.setIfInBounds i true).getD j true).length < ((List.range l.length).filter fun j => !listed.getD j true).length := by
        have e1 : ((List.range l.length).filter fun j => !(listed.setIfInBounds i true).getD j true) = ((List.range l.length).filter fun j => !listed.getD j true).filter fun j => !(Nat.beq j i) := by
          rw [List.filter_filter]
          apply List.filter_congr
          intro j hj
          by_cases hji : i = j
          · subst hji
            simp [Array.getD_eq_getD_getElem?, h1s, Nat.beq_refl]
          · have : Nat.beq j i = false := by
              cases hb : Nat.beq j i with
              | false => rfl
              | true => exact absurd (Nat.eq_of_beq_eq_true hb).symm hji
            rw [getD_set_ne true hji, this]
            simp
        rw [e1]
        have hmem : i ∈ (List.range l.length).filter fun j => !listed.getD j true := List.mem_filter.2 ⟨List.mem_range.2 hil, by rw [h1]; rfl⟩
        exact List.length_filter_lt_length_iff_exists.2 ⟨i, hmem, by simp [Nat.beq_refl]⟩
      omega
    · cases hd : o.dst with
      | none => exact h.inv.env
      | some d =>
        rw [hd] at hdst
        obtain ⟨t1, t2⟩ := Bool.and_eq_true_iff.1 hdst
        have hE2 := h.inv.env.put t1 u
        refine hE2.mono ⟨fun e x hx => ?_, fun hx => ?_⟩
        · by_cases hb : d = e
          · subst hb
            rw [hx] at t2
            cases t2
          · rw [look_cons_ne hb]; exact hx
        · have hM : d ≠ MK := Nat.ne_of_lt (Nat.lt_of_lt_of_le (Nat.blt_eq.mp t1) h.inv.env.lt)
          rw [look_cons_ne hM]; exact hx
    · intro j d v hv hjd
      have hjo : ∀ o', l[j]? = some o' → o'.dst = some d → d < n := by
        intro o' ho2 hd2
        have h5 := opAt j o' ho2
        simp only [opB, Bool.and_eq_true] at h5
        have h6 := h5.1.2
        rw [hd2] at h6
        exact Nat.blt_eq.mp (Bool.and_eq_true_iff.1 h6).1
      have hdn : d < n := by
        unfold dstL at hjd
        cases ho2 : l[j]? with
        | none => rw [ho2] at hjd; simp at hjd
        | some o' => rw [ho2] at hjd; exact hjo o' ho2 (by simpa using hjd)
      refine ⟨hdn, ?_⟩
      by_cases hji : j = i
      · subst hji
        have hdo : o.dst = some d := by unfold dstL at hjd; rw [ho'] at hjd; simpa using hjd
        simp only [upd, if_true, Option.some.injEq] at hv
        subst hv
        rw [hdo]
        have : d < a.tmps.size := by rw [h.inv.env.size]; exact hdn
        simp [Act.put, Array.getD, this]
      · rw [upd_ne _ _ hji] at hv
        have h7 := (h.inv.val j d v hv hjd).2
        cases hd : o.dst with
        | none => exact h7
        | some d' =>
          have hne : d' ≠ d := by
            intro e
            subst e
            exact hji (noDup.at hB1 j i d' hjd (by unfold dstL; rw [ho']; simpa using hd))
          rw [← h7]
          simp only [Act.put, Array.getD_eq_getD_getElem?, Array.getElem?_setIfInBounds]
          rw [if_neg hne]
    · intro j
      by_cases hji : j = i
      · subst hji
        simp [upd, Array.getD_eq_getD_getElem?, h1s]
      · rw [upd_ne _ _ hji, getD_set_ne false (Ne.symm hji)]
        exact h.som j
    · intro j v hv
      by_cases hji : j = i
      · subst hji
        simp only [upd, if_true, Option.some.injEq] at hv
        subst hv
        exact hf'
      · rw [upd_ne _ _ hji] at hv
        exact hM.at j M N v.1 v.2 (h.fact j v hv)
/-- A drawn region: the slots behind it, the operations' facts. -/
def AllDeps (s : Nat → Option VC) (F : List Fact) (N : List Chunk) : List (Nat × Nat) → Slots → (Slots → Prop) → Prop := WithDeps s F N
theorem c_drawn {id : Nat} {l : List Oper} (σb : Slots) (dl : List (List (Nat × Nat))) (outs : List (Nat × Nat)) (B : (Nat → Option VC) → List Chunk) (F : List Fact) (N0 : List Chunk) (G : List Chunk → Prop) (hG : G N0) (hGm : ∀ M N, G N → G (M ++ N)) (hm : P.follows .mixedOrders = true)
    (hB : (noDup l && opsB n σb (Region.before l.toArray) l l dl 0) = true) (ho : (outs.all fun pd => match dstL l pd.1 with
      | some d => Nat.beq d pd.2
      | none => false) = true) (hs : sub σ σb) (hC : ∀ w, C w → K W (B (fun _ => none) ++ N0) w) (hM : MonoF F)
    (hsteps : Steps P n W σb G B F dl l dl 0)
    (hfin : ∀ s N, G N → (∀ i, i < l.length → ∃ v, s i = some v ∧ factAt F i N v.1 v.2) → WithDeps s F N outs σb fun σ' => Fin n Q .normal σ' (K W (B s ++ N))) : SC P n Q (.region id l.toArray true) σ C := by
  intro a w hE hw
  refine wpIn_region_any hm ?_
  have hE' := hE.mono (sub_look hs)
  refine drawn_run hGm hB hM hsteps ?_ _ _ (fun _ => none) N0 a _ ?_ ⟨⟨hE', fun i d v hv => (by cases hv)⟩, by simp, fun j hj => ?_, fun i => ?_, fun i v hv => (by cases hv), ?_, hG⟩
  · intro s N hGN hall a' w' hI hk
    obtain ⟨σ', h1, h2⟩ := WithDeps.elim hI hI.env (hfin s N hGN hall) (fun pd hpd => by
      have t2 := List.all_eq_true.1 ho pd hpd
      have hdd : dstL l pd.1 = some pd.2 := by
        cases hd : dstL l pd.1 with
        | none => rw [hd] at t2; cases t2
        | some d => rw [hd] at t2; exact congrArg some (Nat.eq_of_beq_eq_true t2)
      have hlt : pd.1 < l.length := by
        rcases Nat.lt_or_ge pd.1 l.length with q | q
        · exact q
        · unfold dstL at hdd
          rw [List.getElem?_eq_none q] at hdd
          cases hdd
      exact ⟨hdd, hall pd.1 hlt⟩)
    exact h2 a' w' h1 hk
  · refine Nat.le_trans (List.length_filter_le _ _) ?_
    simp
  · simp [Array.getD_eq_getD_getElem?, Array.getElem?_replicate] at hj
    split at hj <;> simp at hj
  · simp [Array.getD_eq_getD_getElem?, Array.getElem?_replicate]
    split <;> rfl
  · exact K.cl _ _ (hC w hw) (Ext.drew w)
end
end Go.KL
end

section
/- A program logic over the model, of our own: an assertion behind the statement that stands next. No program in sight. -/
namespace Go.KL
section
variable {P : Program} {n : Nat} {σ : Slots} {C : World → Prop} {Q : Post}
theorem K.bck {W w : World} {M N : List Chunk} (h : K W (M ++ N) w) : K W N w := h.weak M.flatten (by simp [List.perm_append_comm])
theorem K.toM {W w : World} {M B N : List Chunk} (h : K W (M ++ (B ++ N)) w) : K W (B ++ (M ++ N)) w :=
  h.weak [] (by simp only [List.flatten_append, List.append_nil]; exact List.perm_append_comm_assoc _ _ _)
theorem c_then_cut {x y : Code} {α : Type} (τ : α → Slots) (J : α → Prop) (I : α → World → Prop)
    (hx : SC P n (Cut (fun a w => ∃ z, Env n (τ z) a ∧ (J z ∧ I z w)) Q) x σ C)
    (hy : ∀ z, J z → SC P n Q y (τ z) (I z)) : SC P n (Then P y Q) x σ C := fun a w hE hw => wpIn_mono (hx a w hE hw) fun e a w q => by
    cases e with
    | normal => obtain ⟨z, h1, h2, h3⟩ := q; exact hy z h2 a w h1 h3
    | exit _ => exact q
    | goto _ => exact q
    | ret => exact q
    | panic _ => exact q
    | outgrown => exact q
theorem Spec.convC {f : FuncId} {args : Array Value} {C D : World → Prop} {X : Type} {v : X → Value} {C' D' : X → World → Prop} (h : Spec P f args C v C') (h1 : ∀ w, D w → C w) (h2 : ∀ x w, C' x w → D' x w) : Spec P f args D v D' := by
  intro w hw
  refine (h w (h1 w hw)).mono ?_
  rintro e w' ⟨x, h3, h4⟩
  exact ⟨x, h3, h2 x w' h4⟩
theorem Spec.pre {f : FuncId} {args : Array Value} {C D : World → Prop} {X : Type} {v : X → Value} {C' : X → World → Prop} (h : Spec P f args C v C') (hD : ∀ w, D w → C w) : Spec P f args D v C' := h.convC hD fun _ _ k => k
/-- Another ghost. -/
theorem Spec.map {f : FuncId} {args : Array Value} {C : World → Prop} {X Y : Type} {v : X → Value} {u : Y → Value} {C' : X → World → Prop} {D' : Y → World → Prop} (h : Spec P f args C v C') (m : X → Y) (h1 : ∀ x, u (m x) = v x) (h2 : ∀ x w, C' x w → D' (m x) w) : Spec P f args C u D' := by
  intro w hw
  refine (h w hw).mono ?_
  rintro e w' ⟨x, h3, h4⟩
  exact ⟨m x, by rw [h1]; exact h3, h2 x w' h4⟩
theorem spec_of_calls {f : FuncId} {args : Array Value} {C : World → Prop} {X : Type} {v : X → Value} {C' : X → World → Prop} (h : ∀ w, C w → Calls P f args w fun e w' => ∃ x, e = .returned (v x) ∧ C' x w') : Spec P f args C v C' := h
end
end Go.KL
end

section
/- From the reading of a law's arguments to views of slices; what a law that writes nothing old leaves behind. No program in sight. -/
namespace Go.KL
open Go.ChangeShapes Go.WideShapes Go.RowKit Go.WideElems
section
variable {H : Type} {enc : TypeId × Value → H} {P : Program}

theorem Ext.since {W w : World} (h : Ext W w) : W.Since W.heap.size w := ⟨h.os, h.tape, h.output, h.size, h.block⟩

theorem trodAll_ext {W w : World} (he : Ext W w) (hl : laidOutB P = true) {sp : Nat → Bool} : ∀ {ts : List TypeId} {vs : List Value} {ds : List (DataW H)} {ps : List MemPlace},
    (∀ t ∈ ts, P.readableRec t = true ∧ t < P.types.size) → DataW.TrodAll enc P W 0 (fun _ => true) true ts vs ds ps → (∀ p ∈ ps, p.block < W.heap.size) → (∀ p ∈ ps, sp p.block = true) →
    DataW.TrodAll enc P w 0 sp true ts vs ds ps
  | [], vs, ds, ps, _, h, _, _ => by
    obtain ⟨rfl, rfl, rfl⟩ := trodAll_nil h
    exact trodAll_mk0
  | t :: ts, vs, ds, ps, hr, h, hb, hsp => by
    obtain ⟨v, vs', d, ds', p, q, rfl, rfl, rfl, h1, h2⟩ := trodAll_cons h
    have hr1 := hr t (by simp)
    exact trodAll_cons_mk (Trod_stays hl hr1.1 hr1.2 h1 (fun x hx => he.since.sameAt (hb x (by simp [hx]))) (fun x hx => hsp x (by simp [hx])))
      (trodAll_ext he hl (fun t ht => hr t (by simp [ht])) h2 (fun x hx => hb x (by simp [hx])) (fun x hx => hsp x (by simp [hx])))

/-- What a law leaves behind that has written to nothing that was there: true, and its arguments read as they did. -/
theorem law_post {f : Func} {s : ChangeSpec} {W W' : World} {args : Array Value} {ds gs : List (DataW H)} {before : List MemPlace} {t : TypeId}
    (hl : laidOutB P = true) (hts : ∀ t ∈ f.params.toList, P.readableRec t = true ∧ t < P.types.size) (hv : s.vars = []) (hr : f.resultTypes = #[t]) (ht : P.underlying t = some .bool)
    (hW : DataW.Whole enc P f.params.toList s.vars false W args.toList ds gs before) (hfn : s.fn H (ds ++ gs) = { results := [.lit (.bool true)], args := ds }) (he : Ext W W') :
    s.post enc P f false true false false W args (.bool true) W' := by
  have hlt := hW.lt
  have hW' := hW
  obtain ⟨p, q, hA, hV, rfl, hz, hn⟩ := hW'
  rw [hv] at hV
  obtain ⟨rfl, rfl⟩ := trodVars_none hV
  refine ⟨ds, [], p ++ [], [], p, [], hW, ?_, ?_, ?_, ?_, ?_⟩
  · rw [hfn, hr]
    exact trodAll_cons_mk (shut_bool ht true) trodAll_mk0
  · rw [hfn]
    refine trodAll_ext he hl hts hA (fun x hx => hlt x (by simp [hx])) (fun x hx => ?_)
    simpa using hlt x (by simp [hx])
  · rw [hfn, hv]
    exact hV
  · exact he.since.frame _
  · intro h; cases h

section
variable {W : World} {sp : Nat → Bool} {held : Bool} {fuel : Nat} {cs : List Value} {x : DataW H × List MemPlace} {t e : TypeId} {s : Nat}

theorem cell_K {b o : Nat} {v : Value} (h : W.cell? ⟨b, o, none⟩ = some v) : CellIs (K W []) ⟨b, o, none⟩ v := by
  intro w hw
  have hb : b < W.heap.size := by
    rcases Nat.lt_or_ge b W.heap.size with hb | hb
    · exact hb
    · simp [World.cell?, Array.getElem?_eq_none hb] at h
  rw [hw.toExt.since.cell (a := ⟨b, o, none⟩) hb, h]

/-- A slice, opened: its cells by a function; each element reads. -/
theorem open_view (ht : P.underlying t = some (.slice e)) (hs : P.cellsOf e = s) (hpos : 0 < s) (h : DataW.trod enc P W 0 sp held fuel t cs = some x) :
    ∃ pa n c G, cs = [.slice pa n c] ∧ n ≤ 9223372036854775807 ∧ SlV (K W []) (.slice pa n c) n s G ∧ ∀ i, i < n → ∃ z m, DataW.trod enc P W 0 sp held m e ((List.range s).map (G i)) = some z := by
  rcases DataW.trod_slice ht h with ⟨rfl, _⟩ | ⟨a, len, cap, elems, rest, m, _, rfl, _, _, hlc, hcm, hlen, hel, _⟩
  · exact ⟨none, 0, 0, fun _ _ => undef, rfl, by omega, ⟨none, 0, rfl, by omega, fun h => by omega⟩, fun i hi => by omega⟩
  have hmax : cap ≤ 9223372036854775807 := by
    have : maxLen ≤ 9223372036854775807 := by decide
    omega
  by_cases h0 : len = 0
  · subst h0
    exact ⟨some a, 0, cap, fun _ _ => undef, rfl, by omega, ⟨some a, cap, rfl, by omega, fun h => by omega⟩, fun i hi => by omega⟩
  have hone : ∀ i, i < len → ∃ el z, (∀ j, j < s → W.cell? (a.add (i * s + j)) = el[j]?) ∧ el.length = s ∧ DataW.trod enc P W 0 sp held m e el = some z := by
    intro i hi
    have := hel i hi
    rw [hs] at this
    have hz : ∃ z, elems[i]? = some z := ⟨elems[i]'(by omega), by simp [List.getElem?_eq_getElem (show i < elems.length by omega)]⟩
    obtain ⟨z, hz⟩ := hz
    rw [hz, Option.bind_eq_some_iff] at this
    obtain ⟨el, h1, h2⟩ := this
    obtain ⟨_, h4, h5⟩ := World.cells?_some h1
    refine ⟨el, z, fun j hj => ?_, h4, h2⟩
    rw [← h5 j hj]
    obtain ⟨b, o, spot⟩ := a
    by_cases e1 : i * s = 0 <;> by_cases e2 : j = 0 <;> simp [Addr.add, e1, e2, Nat.add_assoc]
  obtain ⟨b, o, spot⟩ := a
  have hspot : spot = none := by
    obtain ⟨el, z, h1, h2, _⟩ := hone 0 (by omega)
    have := h1 0 hpos
    rw [List.getElem?_eq_getElem (by omega)] at this
    simpa [Addr.add] using World.cell?_spot this
  subst hspot
  have hG : ∀ i, i < len → ∃ z, DataW.trod enc P W 0 sp held m e ((List.range s).map fun j => (W.cell? ⟨b, o + (i * s + j), none⟩).getD undef) = some z ∧ ∀ j, j < s → W.cell? ⟨b, o + (i * s + j), none⟩ = some ((W.cell? ⟨b, o + (i * s + j), none⟩).getD undef) := by
    intro i hi
    obtain ⟨el, z, h1, h2, h3⟩ := hone i hi
    have h1 : ∀ j, j < s → W.cell? ⟨b, o + (i * s + j), none⟩ = el[j]? := fun j hj => by rw [← h1 j hj, add_plain]
    refine ⟨z, ?_, fun j hj => ?_⟩
    · have : ((List.range s).map fun j => (W.cell? ⟨b, o + (i * s + j), none⟩).getD undef) = el := by
        apply List.ext_getElem?
        intro j
        by_cases hj : j < s
        · rw [List.getElem?_map, List.getElem?_range hj]
          simp only [Option.map_some, h1 j hj]
          rw [List.getElem?_eq_getElem (by omega)]
          rfl
        · rw [List.getElem?_eq_none (by simp; omega), List.getElem?_eq_none (by omega)]
      rw [this]; exact h3
    · rw [h1 j hj, List.getElem?_eq_getElem (by omega)]; rfl
  refine ⟨some ⟨b, o, none⟩, len, cap, fun i j => (W.cell? ⟨b, o + (i * s + j), none⟩).getD undef, rfl, by omega, ⟨_, _, rfl, hlc, fun _ => ⟨b, o, rfl, fun i hi j hj => ?_⟩⟩, fun i hi => ?_⟩
  · rw [Nat.add_assoc]
    exact cell_K ((hG i hi).choose_spec.2 j hj)
  · obtain ⟨z, hz, _⟩ := hG i hi
    exact ⟨z, m, hz⟩

def vI : Value → Int
  | .int _ k => k
  | _ => 0
def vB : Value → Bool
  | .bool b => b
  | _ => false
def i64 (k : Int) : Prop := -9223372036854775808 ≤ k ∧ k ≤ 9223372036854775807

theorem trod_i64 {v : Value} (ht : P.underlying t = some (.int .i64)) (h : DataW.trod enc P W 0 sp held fuel t [v] = some x) : v = .int .i64 (vI v) ∧ i64 (vI v) := by
  obtain ⟨k, h1, _, h2⟩ := DataW.trod_int ht h
  injection h1 with h1
  subst h1
  exact ⟨rfl, bounds_i64 h2⟩
theorem trod_bo {v : Value} (ht : P.underlying t = some .bool) (h : DataW.trod enc P W 0 sp held fuel t [v] = some x) : v = .bool (vB v) := by
  obtain ⟨k, h1, _⟩ := DataW.trod_bool ht h
  injection h1 with h1
  subst h1
  rfl

theorem open_ints (ht : P.underlying t = some (.slice e)) (he : P.underlying e = some (.int .i64)) (hs : P.cellsOf e = 1) (h : DataW.trod enc P W 0 sp held fuel t cs = some x) :
    ∃ pa n c f, cs = [.slice pa n c] ∧ n ≤ 9223372036854775807 ∧ SlI (K W []) (.slice pa n c) n f ∧ ∀ i, i < n → i64 (f i) := by
  obtain ⟨pa, n, c, G, h1, h2, h3, h4⟩ := open_view ht hs (by omega) h
  have h5 : ∀ i, i < n → G i 0 = .int .i64 (vI (G i 0)) ∧ i64 (vI (G i 0)) := fun i hi => by
    obtain ⟨z, m, hz⟩ := h4 i hi
    exact trod_i64 he hz
  refine ⟨pa, n, c, fun i => vI (G i 0), h1, h2, h3.congr fun i hi j hj => ?_, fun i hi => (h5 i hi).2⟩
  have : j = 0 := by omega
  subst this
  exact (h5 i hi).1
theorem open_bools (ht : P.underlying t = some (.slice e)) (he : P.underlying e = some .bool) (hs : P.cellsOf e = 1) (h : DataW.trod enc P W 0 sp held fuel t cs = some x) :
    ∃ pa n c f, cs = [.slice pa n c] ∧ n ≤ 9223372036854775807 ∧ SlB (K W []) (.slice pa n c) n f := by
  obtain ⟨pa, n, c, G, h1, h2, h3, h4⟩ := open_view ht hs (by omega) h
  refine ⟨pa, n, c, fun i => vB (G i 0), h1, h2, h3.congr fun i hi j hj => ?_⟩
  have : j = 0 := by omega
  subst this
  obtain ⟨z, m, hz⟩ := h4 i hi
  exact trod_bo he hz
/-- Elements of s cells, each an integer. -/
theorem open_recs (ht : P.underlying t = some (.slice e)) (hs : P.cellsOf e = s) (hpos : 0 < s) (hel : ∀ (G : Nat → Value) m z, DataW.trod enc P W 0 sp held m e ((List.range s).map G) = some z → ∀ j, j < s → G j = .int .i64 (vI (G j)) ∧ i64 (vI (G j)))
    (h : DataW.trod enc P W 0 sp held fuel t cs = some x) :
    ∃ (pa : Option Addr) (n c : Nat) (f : Nat → Nat → Int), cs = [.slice pa n c] ∧ n ≤ 9223372036854775807 ∧ SlV (K W []) (.slice pa n c) n s (fun i j => .int .i64 (f i j)) ∧ ∀ i, i < n → ∀ j, j < s → i64 (f i j) := by
  obtain ⟨pa, n, c, G, h1, h2, h3, h4⟩ := open_view ht hs hpos h
  have h5 : ∀ i, i < n → ∀ j, j < s → G i j = .int .i64 (vI (G i j)) ∧ i64 (vI (G i j)) := fun i hi j hj => by
    obtain ⟨z, m, hz⟩ := h4 i hi
    exact hel _ _ _ hz j hj
  exact ⟨pa, n, c, fun i j => vI (G i j), h1, h2, h3.congr fun i hi j hj => (h5 i hi j hj).1, fun i hi j hj => (h5 i hi j hj).2⟩
/-- The value of an argument of a slice type. -/
theorem open_arg {r : Reach} {b0 : Nat} {v : Value} {d : DataW H} {ps : List MemPlace} (ht : P.underlying t = some (.slice e)) (hval : Value.okWide P W r b0 t v) (hd : DataW.Trod enc P W 0 sp held t v d ps) :
    ∃ pa n c m, v = .slice pa n c ∧ DataW.trod enc P W 0 sp held m t [.slice pa n c] = some (d, ps) := by
  obtain ⟨pa, n, c, rfl⟩ := okWide_slice ht hval
  obtain ⟨m, hm⟩ := hd
  exact ⟨pa, n, c, m, rfl, by simpa [Value.cells] using hm⟩
end
end
end Go.KL
end

section
/- A program logic over the model, of our own: maps that are keyed by ints, and iterators over them. No program in sight. -/
namespace Go.KL

/-- An entry: key, value, stamp. -/
abbrev Ent := Int × Value × Nat
def ment (e : Ent) : MapEntry := ⟨.int .i64 e.1, e.2.1, e.2.2⟩
def mobj (es : List Ent) (clock : Nat) : Obj := .map (es.map ment).toArray clock
def mfind (k : Int) : List Ent → Nat → Option (Nat × Value)
  | [], _ => none
  | e :: r, i => if k = e.1 then some (i, e.2.1) else mfind k r (i + 1)
def mget (k : Int) (z : Value) : List Ent → Value
  | [] => z
  | e :: r => if k = e.1 then e.2.1 else mget k z r
def mhas (k : Int) : List Ent → Bool
  | [] => false
  | e :: r => if k = e.1 then true else mhas k r
theorem findNow_mfind (k : Int) : ∀ (es : List Ent) (i : Nat), Instr.findNow (.int .i64) (.int .i64 k) (es.map ment) i = some (mfind k es i)
  | [], i => rfl
  | e :: r, i => by
    simp only [List.map_cons, Instr.findNow, mfind, ment, Instr.sameNow, if_true]
    by_cases h : k = e.1
    · simp [h]
    · have hb : (k == e.1) = false := by simpa using h
      rw [hb, if_neg h]
      exact findNow_mfind k r (i + 1)
theorem mfind_get (k : Int) (z : Value) : ∀ (es : List Ent) (i : Nat), (mfind k es i).elim (z, false) (fun x => (x.2, true)) = (mget k z es, mhas k es)
  | [], i => rfl
  | e :: r, i => by
    simp only [mfind, mget, mhas]
    by_cases h : k = e.1
    · simp [h]
    · simp only [if_neg h]
      exact mfind_get k z r (i + 1)
theorem mfind_none {k : Int} : ∀ {es : List Ent} {i : Nat}, mfind k es i = none ↔ mhas k es = false
  | [], i => by simp [mfind, mhas]
  | e :: r, i => by
    simp only [mfind, mhas]
    by_cases h : k = e.1
    · simp [h]
    · simp only [if_neg h]
      exact mfind_none
theorem mfind_some {k : Int} : ∀ {es : List Ent} {i j : Nat} {v : Value}, mfind k es i = some (j, v) → i ≤ j ∧ ∃ b, es[j - i]? = some (k, v, b)
  | [], i, j, v, h => by simp [mfind] at h
  | e :: r, i, j, v, h => by
    simp only [mfind] at h
    by_cases hk : k = e.1
    · simp only [if_pos hk, Option.some.injEq, Prod.mk.injEq] at h
      obtain ⟨rfl, rfl⟩ := h
      refine ⟨Nat.le_refl _, e.2.2, ?_⟩
      simp [hk]
    · simp only [if_neg hk] at h
      obtain ⟨h1, b, h2⟩ := mfind_some h
      refine ⟨by omega, b, ?_⟩
      have : j - i = (j - (i + 1)) + 1 := by omega
      rw [this, List.getElem?_cons_succ]
      exact h2
/-- The entries behind a store. -/
def mset (k : Int) (v : Value) (c : Nat) : List Ent → List Ent
  | [] => [(k, v, c)]
  | e :: r => if k = e.1 then (k, v, e.2.2) :: r else e :: mset k v c r
def mclk (k : Int) (c : Nat) (es : List Ent) : Nat := if mhas k es then c else c + 1
/-- The entries behind a delete. -/
def mdel (k : Int) : List Ent → List Ent
  | [] => []
  | e :: r => if k = e.1 then r else e :: mdel k r
theorem mset_new {k : Int} {v : Value} {c : Nat} : ∀ {es : List Ent}, mhas k es = false → mset k v c es = es ++ [(k, v, c)]
  | [], _ => rfl
  | e :: r, h => by
    simp only [mhas] at h
    by_cases hk : k = e.1
    · simp [hk] at h
    · simp only [if_neg hk] at h
      simp only [mset, if_neg hk, mset_new h, List.cons_append]
theorem mset_old {k : Int} {v : Value} {c : Nat} : ∀ {es : List Ent} {i j : Nat} {u : Value}, mfind k es i = some (j, u) → (mset k v c es).map ment = (es.map ment).modify (j - i) (fun e => { e with key := .int .i64 k, val := v })
  | [], i, j, u, h => by simp [mfind] at h
  | e :: r, i, j, u, h => by
    simp only [mfind] at h
    by_cases hk : k = e.1
    · simp only [if_pos hk, Option.some.injEq, Prod.mk.injEq] at h
      obtain ⟨rfl, rfl⟩ := h
      simp [mset, hk, ment]
    · simp only [if_neg hk] at h
      have h1 := (mfind_some h).1
      have : j - i = (j - (i + 1)) + 1 := by omega
      rw [this]
      simp only [mset, if_neg hk, List.map_cons, List.modify_succ_cons, mset_old h]
theorem mdel_old {k : Int} : ∀ {es : List Ent} {i j : Nat} {u : Value}, mfind k es i = some (j, u) → (mdel k es).map ment = (es.map ment).eraseIdx (j - i)
  | [], i, j, u, h => by simp [mfind] at h
  | e :: r, i, j, u, h => by
    simp only [mfind] at h
    by_cases hk : k = e.1
    · simp only [if_pos hk, Option.some.injEq, Prod.mk.injEq] at h
      obtain ⟨rfl, rfl⟩ := h
      simp [mdel, hk]
    · simp only [if_neg hk] at h
      have h1 := (mfind_some h).1
      have : j - i = (j - (i + 1)) + 1 := by omega
      rw [this]
      simp only [mdel, if_neg hk, List.map_cons, List.eraseIdx_cons_succ, mdel_old h]
theorem mdel_none {k : Int} : ∀ {es : List Ent}, mhas k es = false → mdel k es = es
  | [], _ => rfl
  | e :: r, h => by
    simp only [mhas] at h
    by_cases hk : k = e.1
    · simp [hk] at h
    · simp only [if_neg hk] at h
      simp only [mdel, if_neg hk, mdel_none h]

section
variable {P : Program} {n : Nat} {σ : Slots} {C : World → Prop} {W : World} {Ls : List Chunk} {dst : Option Tmp} {ty : TypeId} {pos : String} {after : Array Edge} {guard : Option (Nat × Bool)}

theorem run_checkInt {kt : TypeId} (hk : P.underlying kt = some (.int .i64)) (k : Int) (e : Bool) (w : World) : (Instr.checkKey e 10000 kt (.int .i64 k)).run P w = .ok () w :=
  MapKept.run_checkKey hk (by simp [MapKept.IsKey]) e 9999

theorem run_lookupM {t kt e : TypeId} {b : Nat} {es : List Ent} {c : Nat} {k : Int} {z : Value} {ok : Bool} (w : World) (ht : P.underlying t = some (.map kt e)) (hk : P.underlying kt = some (.int .i64)) (hz : (zeroValue e).run P w = .ok z w) (hb : w.heap[b]? = some (mobj es c)) :
    (Instr.lookup t (.map (some b)) (.int .i64 k) ok).run P w = .ok (if ok then .tuple #[mget k z es, .bool (mhas k es)] else mget k z es) w := by
  have hf : (Instr.findKey kt (.int .i64 k) (es.map ment)).run P w = .ok (mfind k es 0) w := MapKept.run_findKey hk (findNow_mfind k es 0)
  have hg := mfind_get k z es 0
  simp only [Instr.lookup, Sem.run_bind, run_underlying ht, Result.andThen, MapKept.run_getObj_map hb, run_checkInt hk, hf, Sem.run_pure]
  cases hm : mfind k es 0 with
  | none =>
    rw [hm] at hg
    simp only [Option.elim, Prod.mk.injEq] at hg
    simp only [Sem.run_bind, hz, Result.andThen, Sem.run_pure, ← hg.1, ← hg.2]
  | some x =>
    rw [hm] at hg
    simp only [Option.elim, Prod.mk.injEq] at hg
    simp only [Sem.run_bind, Result.andThen, Sem.run_pure, ← hg.1, ← hg.2]

theorem run_lookupN {t kt e : TypeId} {k : Int} {z : Value} {ok : Bool} (w : World) (ht : P.underlying t = some (.map kt e)) (hk : P.underlying kt = some (.int .i64)) (hz : (zeroValue e).run P w = .ok z w) :
    (Instr.lookup t (.map none) (.int .i64 k) ok).run P w = .ok (if ok then .tuple #[z, .bool false] else z) w := by
  have hf : (Instr.findKey kt (.int .i64 k) []).run P w = .ok none w := MapKept.run_findKey hk rfl
  simp only [Instr.lookup, Sem.run_bind, run_underlying ht, Result.andThen, Sem.run_pure, run_checkInt hk, hf, hz]

theorem run_mapUpdateM {t kt e : TypeId} {b : Nat} {es : List Ent} {c : Nat} {k : Int} {v : Value} (w : World) (ht : P.underlying t = some (.map kt e)) (hk : P.underlying kt = some (.int .i64)) (hb : w.heap[b]? = some (mobj es c)) :
    (Instr.mapUpdate t (.map (some b)) (.int .i64 k) v).run P w = .ok () { w with heap := w.heap.setIfInBounds b (mobj (mset k v c es) (mclk k c es)) } := by
  have hf : (Instr.findKey kt (.int .i64 k) (es.map ment)).run P w = .ok (mfind k es 0) w := MapKept.run_findKey hk (findNow_mfind k es 0)
  simp only [Instr.mapUpdate, Sem.run_bind, run_underlying ht, Result.andThen, MapKept.run_getObj_map hb, run_checkInt hk, hf]
  cases hm : mfind k es 0 with
  | none =>
    have hh := mfind_none.1 hm
    simp only [MapKept.run_setObj_map _ hb]
    have e1 : mobj (mset k v c es) (mclk k c es) = .map ((es.map ment).toArray.push ⟨.int .i64 k, v, c⟩) (c + 1) := by
      simp [mobj, mset_new hh, mclk, hh, ment]
    rw [e1]
  | some x =>
    obtain ⟨j, u⟩ := x
    have hh : mhas k es = true := by
      cases h : mhas k es with
      | true => rfl
      | false => rw [mfind_none.2 h] at hm; cases hm
    obtain ⟨_, b', hg⟩ := mfind_some hm
    have hg' : ((es.map ment).toArray[j]?.map (·.key)).getD (.int .i64 k) = .int .i64 k := by
      have : es[j]? = some (k, u, b') := by simpa using hg
      simp [this, ment]
    simp only [hg', Sem.run_bind, MapKept.run_keyThatStays (d := .int .i64) (k := .int .i64 k) (by simp [MapKept.IsKey]), Result.andThen, MapKept.run_setObj_map _ hb]
    have hs := mset_old (v := v) (c := c) hm
    rw [Nat.sub_zero] at hs
    have e1 : mobj (mset k v c es) (mclk k c es) = .map ((es.map ment).toArray.modify j (fun e => { e with key := .int .i64 k, val := v })) c := by
      simp [mobj, hs, mclk, hh]
    rw [e1]

/-! ### The operations -/
theorem do_makeMap {t : TypeId} : Doos P n σ (K W Ls) ⟨dst, .makeMap t none, ty, pos, after, guard⟩ (X := Nat) (fun b => .map (some b)) (fun b => K W ([(b, mobj [] 0)] :: Ls)) := by
  intro a w hE hw
  refine ⟨w.heap.size, w.alloc (.map #[] 0), ?_, hw.alloc _⟩
  have h : (Instr.makeMap t none).run P w = .ok (.map (some w.heap.size)) (w.alloc (.map #[] 0)) := rfl
  simp [execOp, h]

theorem y_lookup (T : Tab P) (i : Nat) {x k : Operand} {t kt e : TypeId} {b c : Nat} {es : List Ent} {q : Int} {z : Value} {R : Chunk} (hx : ev σ x = some (.map (some b))) (hk : ev σ k = some (.int .i64 q)) (ht : T.und t = some (.map kt e)) (hkt : T.und kt = some (.int .i64))
    (hz : ∀ w, (zeroValue e).run P w = .ok z w) (hi : Ls.getD i [] = (b, mobj es c) :: R) : Ylds P n σ (K W Ls) ⟨dst, .lookup t x k false, ty, pos, after, guard⟩ (mget q z es) := by
  intro a w hE hw
  have := run_lookupM (ok := false) (k := q) w (T.und_ok ht) (T.und_ok hkt) (hz w) (hw.at hi)
  simp [execOp, ev_eval hE hx, ev_eval hE hk, this]
theorem y_lookupOk (T : Tab P) (i : Nat) {x k : Operand} {t kt e : TypeId} {b c : Nat} {es : List Ent} {q : Int} {z : Value} {R : Chunk} (hx : ev σ x = some (.map (some b))) (hk : ev σ k = some (.int .i64 q)) (ht : T.und t = some (.map kt e)) (hkt : T.und kt = some (.int .i64))
    (hz : ∀ w, (zeroValue e).run P w = .ok z w) (hi : Ls.getD i [] = (b, mobj es c) :: R) : Ylds P n σ (K W Ls) ⟨dst, .lookup t x k true, ty, pos, after, guard⟩ (.tuple #[mget q z es, .bool (mhas q es)]) := by
  intro a w hE hw
  have := run_lookupM (ok := true) (k := q) w (T.und_ok ht) (T.und_ok hkt) (hz w) (hw.at hi)
  simp [execOp, ev_eval hE hx, ev_eval hE hk, this]
theorem set_map (T : Tab P) (i : Nat) {x k v : Operand} {t kt e : TypeId} {b c : Nat} {es : List Ent} {q : Int} {u : Value} (hx : ev σ x = some (.map (some b))) (hk : ev σ k = some (.int .i64 q)) (hv : ev σ v = some u) (ht : T.und t = some (.map kt e)) (hkt : T.und kt = some (.int .i64))
    (hi : Ls.getD i [] = [(b, mobj es c)]) : Sets P n σ (K W Ls) ⟨dst, .mapUpdate t x k v, ty, pos, after, guard⟩ (K W (Ls.set i [(b, mobj (mset q u c es) (mclk q c es))])) := by
  intro a w hE hw
  have hb := hw.at hi
  have := run_mapUpdateM (k := q) (v := u) w (T.und_ok ht) (T.und_ok hkt) hb
  refine ⟨_, ?_, hw.put hi (w' := { w with heap := w.heap.setIfInBounds b (mobj (mset q u c es) (mclk q c es)) }) rfl rfl rfl (by simp) ?_ ?_⟩
  · simp [execOp, ev_eval hE hx, ev_eval hE hk, ev_eval hE hv, this]
  · intro c hc
    simp [Ne.symm hc]
  · have := heap_lt hb
    simp [this]
end
end Go.KL
end
