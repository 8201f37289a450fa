/- The library of the proof, part 3: a program logic over the model, walks of functions, plain laws. -/
import Derived.RangeFuncRecord
import Derived.RangeFuncSeq
import Derived.Test.YtdknafhaphadiaaL2
section
/- A program logic over the model, of our own: loops over functions. No program in sight. -/
namespace Go.KL
/-- What a loop's record holds. -/
structure Lp where
  fn : FuncId
  tmps : Array Value
  ps : Array Tmp
  assign : Code
  body : Code
  D : Nat
def Lp.ob (k : Lp) (st : LoopState) (pe : Option Code) : Obj := .loop { state := st, pending := pe, fn := k.fn, tmps := k.tmps, params := k.ps, assign := k.assign, body := k.body, defers := k.D }
abbrev Lp.rdy (k : Lp) : Obj := k.ob .ready none
abbrev Lp.bsy (k : Lp) : Obj := k.ob .busy none
/-- The record behind the last round: whether a jump is pending. -/
def Lp.aft (k : Lp) : Option Code → Obj
  | none => k.ob .ready none
  | some c => k.ob .done (some c)
abbrev dfO : Obj := .deferred (some [])
section
variable {P : Program} {n : Nat} {σ : Slots} {W w : World} {Ls : List Chunk} {C : World → Prop} {Q : Post} {dst : Option Tmp} {ty : TypeId} {pos : String} {after : Array Edge} {guard : Option (Nat × Bool)} {ops : Array Oper} {o : Oper} {rest : List Oper} {d : Nat}
theorem K.putObj (h : K W Ls w) {i b : Nat} {o : Obj} (o' : Obj) (hi : Ls.getD i [] = [(b, o)]) : K W (Ls.set i [(b, o')]) (w.putObj b o') :=
  h.put hi rfl rfl rfl (by simp) (fun _ hc => World.putObj_heap_other hc) (World.putObj_heap_same (heap_lt (h.at hi)))

/-- A call of yield: its round. -/
def YSpec (P : Program) (l : Nat) (args : Array Value) (C : World → Prop) {X : Type} (v : X → Value) (C' : X → World → Prop) : Prop :=
  ∀ w, C w → YieldAt (fen none) 0 P l args w (fun e w' => ∃ x, e = .returned (v x) ∧ C' x w')
def Yields (P : Program) (n : Nat) (σ : Slots) (C : World → Prop) (o : Oper) (l : Nat) (args : Array Value) : Prop :=
  ∀ a w, Env n σ a → C w → ∀ fn tmps assign body, (Instr.yield l args).run P w = .ok (.round l fn tmps assign body) w → (execOp a.eval o).run P w = .ok (.round l fn tmps assign body) w
theorem en_y {f : Operand} {xs : List Operand} {vs : List Value} {ats : Array TypeId} {l : Nat} (hfv : ev σ f = some (.func (.yield l) #[] #[])) (hx : evs σ xs = some vs) :
    Yields P n σ C ⟨dst, .call ⟨.value f, xs.toArray, ats⟩, ty, pos, after, guard⟩ l vs.toArray := by
  intro a w hE _ fn tmps assign body hy
  have h1 := evs_eval hE hx
  have h2 : Array.map a.eval xs.toArray = vs.toArray := by simp [h1]
  simp [execOp, resolve, invoke, Deferred.ofValue, h2, ev_eval hE hfv, hy]
theorem roundIn_fen {r : Option Nat} {l : Nat} {fn : FuncId} {tmps : Array Value} {assign body : Code} {w : World} {R : Ending → World → Prop} (h : RoundIn (fen none) 0 P l fn tmps assign body w R) : RoundIn (fen r) (0 - 1) P l fn tmps assign body w R :=
  have h1 : RoundIn (fen r) 0 P l fn tmps assign body w R := h
  h1
theorem s_yield {l : Nat} {args : Array Value} {X : Type} {v : X → Value} {C' : X → World → Prop} (he : Yields P n σ C o l args) (hs : YSpec P l args C v C') (hg : gd ops σ o = some true) (hd : o.dst = some d) (hn : Nat.blt d n = true)
    (k : ∀ x, St P n ops Q rest ((d, v x) :: σ) (C' x)) : St P n ops Q (o :: rest) σ C := by
  intro a w hE hw
  obtain ⟨fn, tmps, assign, body, hy, hR⟩ := hs w hw
  unfold wpListIn
  rw [if_pos (gd_wanted hE hg)]
  refine wpIn_of_ok (he a w hE hw _ _ _ _ hy) (fun _ e => by cases e) ?_
  rw [Oper.uponIn_round]
  refine ⟨fun h => (by cases h), roundIn_fen (hR.mono ?_)⟩
  rintro e w' ⟨x, rfl, hC'⟩
  simp only
  rw [hd]
  exact k x _ _ (hE.put hn _) hC'

/-! ### A round -/
def RPost (P : Program) (l : Nat) {X : Type} (v : X → Value) (C' : X → World → Prop) : Post := ⟨some l, roundPost P l (fun e w' => ∃ x, e = .returned (v x) ∧ C' x w')⟩
def Beg (P : Program) (l : Nat) (body : Code) {X : Type} (v : X → Value) (C' : X → World → Prop) : Post :=
  ⟨some l, Exit.then (fun a w => ∃ w₂, (Instr.beginRound l).run P w = .ok () w₂ ∧ body.wpIn (fen (some l)) 0 P (RPost P l v C').q a w₂) (fun _ _ _ => False)⟩
section
variable {l : Nat} {X : Type} {v : X → Value} {C' : X → World → Prop} {k : Lp} {body : Code}
theorem f_beg (i : Nat) (hi : Ls.getD i [] = [(l, k.rdy)]) (h : SC P n (RPost P l v C') body σ (K W (Ls.set i [(l, k.bsy)]))) : Fin n (Beg P l body v C') .normal σ (K W Ls) := by
  intro a w hE hw
  exact ⟨_, run_beginRound (hw.at hi) rfl, h a _ hE (hw.putObj _ hi)⟩
theorem f_rpN (i : Nat) (x : X) (hi : Ls.getD i [] = [(l, k.bsy)]) (hv : v x = .bool true) (hC : ∀ w, K W (Ls.set i [(l, k.rdy)]) w → C' x w) : Fin n (RPost P l v C') .normal σ (K W Ls) := by
  intro a w hE hw
  exact ⟨.bool true, _, run_endRound (P := P) none (hw.at hi), x, by rw [hv], hC _ (hw.putObj _ hi)⟩
theorem f_rpE (i : Nat) (x : X) {id : Nat} (hi : Ls.getD i [] = [(l, k.bsy)]) (hv : v x = .bool false) (hC : ∀ w, K W (Ls.set i [(l, k.aft (some (.exit id)))]) w → C' x w) : Fin n (RPost P l v C') (.exit id) σ (K W Ls) := by
  intro a w hE hw
  exact ⟨.bool false, _, run_endRound (P := P) (some (.exit id)) (hw.at hi), x, by rw [hv], hC _ (hw.putObj _ hi)⟩
theorem f_rpG (i : Nat) (x : X) {id : Nat} (hi : Ls.getD i [] = [(l, k.bsy)]) (hv : v x = .bool false) (hC : ∀ w, K W (Ls.set i [(l, k.aft (some (.goto id)))]) w → C' x w) : Fin n (RPost P l v C') (.goto id) σ (K W Ls) := by
  intro a w hE hw
  exact ⟨.bool false, _, run_endRound (P := P) (some (.goto id)) (hw.at hi), x, by rw [hv], hC _ (hw.putObj _ hi)⟩
theorem f_rpR (i : Nat) (x : X) (hi : Ls.getD i [] = [(l, k.bsy)]) (hv : v x = .bool false) (hC : ∀ w, K W (Ls.set i [(l, k.aft (some .ret))]) w → C' x w) : Fin n (RPost P l v C') .ret σ (K W Ls) := by
  intro a w hE hw
  exact ⟨.bool false, _, run_endRound (P := P) (some .ret) (hw.at hi), x, by rw [hv], hC _ (hw.putObj _ hi)⟩
end
def psS : List (Nat × Value) → Slots → Slots
  | [], σ => σ
  | (t, v) :: r, σ => psS r ((t, v) :: σ)
theorem psS_env : ∀ (l : List (Nat × Value)) {σ : Slots} {t : Array Value}, Env n σ { tmps := t, defers := [] } → l.all (fun e => Nat.blt e.1 n) = true → Env n (psS l σ) { tmps := l.foldl (fun t (p, v) => t.setIfInBounds p v) t, defers := [] }
  | [], _, _, h, _ => h
  | (p, v) :: r, _, _, h, hl => by
    simp only [List.all_cons, Bool.and_eq_true] at hl
    exact psS_env r (h.put hl.1 v) hl.2
/-- The rounds of a loop whose record lies there. -/
theorem yspec {l : Nat} {X : Type} {v : X → Value} {C' : X → World → Prop} {k : Lp} {ps : List Tmp} {vs : List Value} (i : Nat) (hE : Env n ((MK, mkV []) :: σ) { tmps := k.tmps, defers := [] }) (hps : k.ps = ps.toArray) (hi : Ls.getD i [] = [(l, k.rdy)])
    (hl : Nat.beq vs.length ps.length = true) (hb : ps.all (fun e => Nat.blt e n) = true)
    (h : SC P n (Beg P l k.body v C') k.assign (psS (ps.zip vs) ((MK, mkV []) :: σ)) (K W Ls)) : YSpec P l vs.toArray (K W Ls) v C' := by
  intro w hw
  have hsz : vs.length = ps.length := Nat.eq_of_beq_eq_true hl
  have hy := run_yield (P := P) (args := vs.toArray) (hw.at hi) (by rw [hps]; simpa using hsz)
  refine ⟨_, _, _, _, hy, roundIn_of_wpIn trivial ?_⟩
  have e1 : (k.ps.zip vs.toArray).foldl (fun t (p, v) => t.setIfInBounds p v) k.tmps = (ps.zip vs).foldl (fun t (p, v) => t.setIfInBounds p v) k.tmps := by
    rw [hps]
    simp
  have h1 := psS_env (ps.zip vs) hE (by
    rw [List.all_eq_true] at hb ⊢
    intro e he
    exact hb e.1 (List.of_mem_zip he).1)
  rw [← e1] at h1
  exact h _ _ h1 hw

/-! ### The loop -/
theorem r_then {y : Code} : (Then P y Q).r = Q.r := rfl
theorem r_inB {id : Nat} : (InB id Q).r = Q.r := rfl
theorem r_cut {J : Act → World → Prop} : (Cut J Q).r = Q.r := rfl
theorem r_rnd {α : Type} {τ : α → Slots} {I : α → World → Prop} {μ : α → Nat} {z0 : α} : (Rnd n τ I μ z0 Q).r = Q.r := rfl
theorem r_ret {fn : Func} {X : Type} {v : X → Value} {C' : X → World → Prop} : (Ret P fn v C').r = none := rfl
theorem c_rangeF {g : Operand} {ps : Array Tmp} {assign body : Code} {gf : FuncId} {lb : List Value} {X : Type} (v : X → Value) (j : X → Option Code) (L : X → List Chunk)
    (hr : Q.r = none) (hg : ev σ g = some (.func (.func gf) #[] lb.toArray)) (hf : ∀ (args : Array Value) (w : World), (callFunc gf args).run P w = .ok (.enter gf args) w)
    (hs : ∀ (k : Lp) (l D : Nat), k.ps = ps → k.assign = assign → k.body = body → Env n ((MK, mkV []) :: σ) { tmps := k.tmps, defers := [] } →
      Spec P gf (Value.func (.yield l) #[] #[] :: lb).toArray (K W ([(l, k.rdy)] :: [(D, dfO)] :: Ls)) v (fun x => K W ([(l, k.aft (j x))] :: [(D, dfO)] :: L x)))
    (hN : ∀ (x : X) (D : Nat), j x = none → Fin n Q .normal ((MK, mkV (D :: mkOf (look σ MK))) :: σ) (K W ([(D, dfO)] :: L x)))
    (hX : ∀ (x : X) (D : Nat) (c : Code), j x = some c → SC P n Q c ((MK, mkV (D :: mkOf (look σ MK))) :: σ) (K W ([(D, dfO)] :: L x))) :
    SC P n Q (.rangeFunc g ps assign body) σ (K W Ls) := by
  intro a w hE hw
  refine wpIn_rangeFunc ?_
  intro fn hfn
  show ∃ (l : Nat) (mark : List Deferred) (w₁ : World) (d : Deferred) (w₁' : World) (f : FuncId) (args : Array Value) (w₂ : World), (Instr.enterLoop fn a.tmps ps assign body Q.r).run P w = _ ∧ _
  rw [hr]
  have hE' : Env n ((MK, mkV []) :: σ) { tmps := a.tmps, defers := [] } := by
    refine ⟨hE.size, hE.lt, by rw [look_cons_eq, mkOf_mkV]; rfl, ?_⟩
    intro d u hd hu
    rw [look_cons_ne (Ne.symm hd)] at hu
    exact hE.at_ d u hd hu
  have hw1 := (hw.alloc dfO).alloc (Lp.mk fn a.tmps ps assign body w.heap.size).rdy
  rw [World.size_alloc] at hw1
  have hen := run_enterLoop_outer (P := P) (w := w) fn a.tmps ps assign body
  obtain ⟨W1, hW1⟩ : ∃ W1, (w.alloc (.deferred (some []))).alloc (.loop { state := .ready, pending := none, fn, tmps := a.tmps, params := ps, assign, body, defers := w.heap.size }) = W1 := ⟨_, rfl⟩
  rw [hW1] at hen
  replace hw1 : K W ([(w.heap.size + 1, (Lp.mk fn a.tmps ps assign body w.heap.size).rdy)] :: [(w.heap.size, dfO)] :: Ls) W1 := hW1 ▸ hw1
  refine ⟨w.heap.size + 1, [{ target := .collected w.heap.size, args := #[] }], W1, { target := .fn (.func gf) lb.toArray, args := #[.func (.yield (w.heap.size + 1)) #[] #[]] }, W1, gf,
    #[.func (.yield (w.heap.size + 1)) #[] #[]] ++ lb.toArray, W1, hen, ?_, ?_, ?_, ?_, ?_⟩
  · simp only [resolve, ev_eval hE hg]
    simp [go_sem]
  · intro f' _; trivial
  · simp [invoke, go_sem, hf]
  · intro h; cases h
  · have h2 := hs (Lp.mk fn a.tmps ps assign body w.heap.size) (w.heap.size + 1) w.heap.size rfl rfl rfl hE' _ hw1
    have h3 := callsIn_fen (r := Q.r) h2
    rw [show (Value.func (.yield (w.heap.size + 1)) #[] #[] :: lb).toArray = #[Value.func (.yield (w.heap.size + 1)) #[] #[]] ++ lb.toArray by simp] at h3
    refine CallsIn.mono h3 ?_
    rintro e w' ⟨x, rfl, hk⟩
    have hE2 : Env n ((MK, mkV (w.heap.size :: mkOf (look σ MK))) :: σ) { a with defers := [{ target := .collected w.heap.size, args := #[] }] ++ a.defers } := by
      refine ⟨hE.size, hE.lt, by rw [look_cons_eq, mkOf_mkV, hE.defers]; rfl, ?_⟩
      intro d u hd hu
      rw [look_cons_ne (Ne.symm hd)] at hu
      exact hE.at_ d u hd hu
    cases hj : j x with
    | none =>
      rw [hj] at hk
      have hk1 := (hk.at (i := 0) rfl : w'.heap[w.heap.size + 1]? = some (.loop _))
      exact ⟨_, _, run_endLoop hk1 (by simp), hN x w.heap.size hj _ _ hE2 (hk.putObj (i := 0) _ rfl).tail⟩
    | some c =>
      rw [hj] at hk
      have hk1 := (hk.at (i := 0) rfl : w'.heap[w.heap.size + 1]? = some (.loop _))
      refine ⟨some c, _, run_endLoop hk1 (by simp), ?_⟩
      have h5 : ∀ w5, K W ([(w.heap.size, dfO)] :: L x) w5 → c.wpIn (fen Q.r) 0 P Q.q { a with defers := [{ target := .collected w.heap.size, args := #[] }] ++ a.defers } w5 := fun w5 h => hX x w.heap.size c hj _ _ hE2 h
      rw [hr] at h5
      exact h5 _ (hk.putObj (i := 0) _ rfl).tail

/-! ### Leaving with marks -/
theorem leavesM {fn : Func} {tm : Array Value} {R : Ending → World → Prop} {n : Nat} : ∀ (Ds : List Nat) (Ls : List Chunk) (w : World), K W (Ds.map (fun D => (D, dfO)) :: Ls) w → (∀ w', K W Ls w' → ∃ v, (results fn tm).run P w' = .ok v w' ∧ R (.returned v) w') → LeavesInM (fen none) n P fn tm R (marks Ds) .returning w
  | [], Ls, w, hw, h => h w hw.nil
  | D :: Ds, Ls, w, hw, h => by
    refine ⟨by simp, .inl ⟨D, w.putObj D (.deferred none), rfl, ?_, ?_⟩⟩
    · exact run_takeDeferred (hw.at (i := 0) rfl)
    · have h1 : K W ([(D, dfO)] :: Ds.map (fun D => (D, dfO)) :: Ls) w := hw.weak [] (by simp)
      exact leavesM Ds Ls _ (h1.putObj (i := 0) (.deferred none) rfl).tail h
theorem f_retM {fn : Func} {X : Type} {v : X → Value} {C' : X → World → Prop} (x : X) (Ds : List Nat) {u : Value} (hr : resOK P fn n σ (K W Ls) u) (hu : u = v x) (hC : ∀ w, K W Ls w → C' x w) (hm : look σ MK = some (mkV Ds)) :
    Fin n (Ret P fn v C') .ret σ (K W (Ds.map (fun D => (D, dfO)) :: Ls)) := fun a w hE hw => by
  show LeavesInM (fen none) 0 P fn a.tmps _ a.defers .returning w
  rw [hE.defers, hm, mkOf_mkV]
  exact leavesM Ds Ls w hw fun w' hw' => ⟨u, hr a w' hE hw', x, by rw [hu], hC w' hw'⟩
theorem f_endM {fn : Func} {X : Type} {v : X → Value} {C' : X → World → Prop} (x : X) (Ds : List Nat) {u : Value} (hr : resOK P fn n σ (K W Ls) u) (hu : u = v x) (hC : ∀ w, K W Ls w → C' x w) (hm : look σ MK = some (mkV Ds)) :
    Fin n (Ret P fn v C') .normal σ (K W (Ds.map (fun D => (D, dfO)) :: Ls)) := f_retM x Ds hr hu hC hm
end
end Go.KL
end

section
/- A program logic over the model, of our own: drawn regions, each operation once, whatever has come before it. No program in sight. -/
namespace Go.KL
section
variable {P : Program} {n : Nat} {σ σb : Slots} {W : World} {Ls : List Chunk} {C : World → Prop} {Q : Post} {o : Oper} {R : Value → World → Prop}
/-- What an operation may do. -/
def Acts (P : Program) (n : Nat) (σ : Slots) (C : World → Prop) (o : Oper) (R : Value → World → Prop) : Prop := ∀ a w, Env n σ a → C w → Out P o a w R
theorem a_y {v : Value} (h : Ylds P n σ C o v) (k : ∀ w, C w → R v w) : Acts P n σ C o R := fun a w hE hw => by
  unfold Out
  rw [h a w hE hw]
  exact k w hw
theorem a_do {X : Type} {v : X → Value} {C' : X → World → Prop} (h : Doos P n σ C o v C') (k : ∀ x w, C' x w → R (v x) w) : Acts P n σ C o R := fun a w hE hw => by
  obtain ⟨x, w', hr, hC⟩ := h a w hE hw
  unfold Out
  rw [hr]
  exact k x w' hC
theorem a_set {C' : World → Prop} (h : Sets P n σ C o C') (k : ∀ w, C' w → R undef w) : Acts P n σ C o R := fun a w hE hw => by
  obtain ⟨w', hr, hC⟩ := h a w hE hw
  unfold Out
  rw [hr]
  exact k w' hC
theorem a_call {X : Type} {v : X → Value} {C' : X → World → Prop} {f : FuncId} {args : Array Value} (he : Enters P n σ C o f args) (hs : Spec P f args C v C') (k : ∀ x w, C' x w → R (v x) w) : Acts P n σ C o R := fun a w hE hw => by
  unfold Out
  rw [he a w hE hw]
  exact (hs w hw).mono fun e w' ⟨x, h1, h2⟩ => ⟨v x, h1, k x w' h2⟩
theorem Acts.cls {C' : World → Prop} (h : Acts P n σ C' o R) (hC : ∀ w, C w → C' w) : Acts P n σ C o R := fun a w hE hw => h a w hE (hC w hw)

/-- An operation's value, and memory of its own, as ghosts. -/
abbrev VC := Value × Chunk
abbrev Fact := List Chunk → Value → Chunk → Prop
def factAt (F : List Fact) (i : Nat) : Fact := F.getD i fun _ _ _ => True
def MonoF : List Fact → Prop
  | [] => True
  | f :: r => (∀ M N v c, f N v c → f (M ++ N) v c) ∧ MonoF r
theorem MonoF.at : ∀ {F : List Fact}, MonoF F → ∀ i M N v c, factAt F i N v c → factAt F i (M ++ N) v c
  | [], _, _, _, _, _, _, _ => trivial
  | _ :: _, h, 0, M, N, v, c, hf => h.1 M N v c hf
  | _ :: r, h, i + 1, M, N, v, c, hf => MonoF.at (F := r) h.2 i M N v c hf
/-- What is known of the operations that this one waits for. -/
def WithDeps (s : Nat → Option VC) (F : List Fact) (N : List Chunk) : List (Nat × Nat) → Slots → (Slots → Prop) → Prop
  | [], σ, k => k σ
  | (p, d) :: r, σ, k => ∀ v c, s p = some (v, c) → factAt F p N v c → WithDeps s F N r ((d, v) :: σ) k
def noneOf (dl0 : List (List (Nat × Nat))) (s : Nat → Option VC) (i : Nat) : Prop := ∀ q, ((dl0.getD q []).any fun pd => Nat.beq pd.1 i) = true → s q = none
def Steps (P : Program) (n : Nat) (W : World) (σb : Slots) (G : List Chunk → Prop) (B : (Nat → Option VC) → List Chunk) (F : List Fact) (dl0 : List (List (Nat × Nat))) : List Oper → List (List (Nat × Nat)) → Nat → Prop
  | [], _, _ => True
  | o :: r, dl, i => (∀ s N, G N → s i = none → noneOf dl0 s i → WithDeps s F N (dl.headD []) σb fun σ => Acts P n σ (K W (B s ++ N)) o fun u w' => ∃ M c, K W (B (upd s i (some (u, c))) ++ (M ++ N)) w' ∧ factAt F i (M ++ N) u c) ∧ Steps P n W σb G B F dl0 r dl.tail (i + 1)
theorem Steps.at {G : List Chunk → Prop} {B : (Nat → Option VC) → List Chunk} {F : List Fact} {dl0 : List (List (Nat × Nat))} : ∀ {l : List Oper} {dl : List (List (Nat × Nat))} {k : Nat}, Steps P n W σb G B F dl0 l dl k → ∀ j o, l[j]? = some o →
    ∀ s N, G N → s (k + j) = none → noneOf dl0 s (k + j) → WithDeps s F N (dl.getD j []) σb fun σ => Acts P n σ (K W (B s ++ N)) o fun u w' => ∃ M c, K W (B (upd s (k + j) (some (u, c))) ++ (M ++ N)) w' ∧ factAt F (k + j) (M ++ N) u c
  | [], _, _, _, j, o, hj => by simp at hj
  | o' :: r, dl, k, h, 0, o, hj => by
    simp only [List.getElem?_cons_zero, Option.some.injEq] at hj
    subst hj
    have := h.1
    cases dl <;> exact this
  | o' :: r, dl, k, h, j + 1, o, hj => by
    have h1 := Steps.at h.2 j o (by simpa using hj)
    rw [show k + 1 + j = k + (j + 1) by omega] at h1
    cases dl <;> exact h1
def dstL (l : List Oper) (i : Nat) : Option Nat := (l[i]?).bind (·.dst)
def noDup : List Oper → Bool
  | [] => true
  | o :: r => (match o.dst with
    | none => true
    | some d => r.all fun o' => match o'.dst with
      | none => true
      | some d' => !(Nat.beq d d')) && noDup r
def opB (n : Nat) (σb : Slots) (bef : Nat) (l : List Oper) (i : Nat) (o : Oper) (dl : List (Nat × Nat)) : Bool :=
  (match o.guard with
    | none => true
    | some _ => false) && (o.after.toList.all fun e => !(Region.binds .any e) || Nat.blt e.on i) &&
  (match o.dst with
    | none => true
    | some d => Nat.blt d n && (look σb d).isNone) &&
  dl.all fun pd => bef.testBit pd.1 && (match dstL l pd.1 with
    | some d => Nat.beq d pd.2
    | none => false)
def opsB (n : Nat) (σb : Slots) (bef : Array Nat) (l : List Oper) : List Oper → List (List (Nat × Nat)) → Nat → Bool
  | [], _, _ => true
  | o :: r, dl, i => opB n σb (bef.getD i 0) l i o (dl.headD []) && opsB n σb bef l r dl.tail (i + 1)
theorem opsB.at {bef : Array Nat} {l0 : List Oper} : ∀ {l : List Oper} {dl : List (List (Nat × Nat))} {k : Nat}, opsB n σb bef l0 l dl k = true → ∀ j o, l[j]? = some o → opB n σb (bef.getD (k + j) 0) l0 (k + j) o (dl.getD j []) = true
  | [], _, _, _, j, o, hj => by simp at hj
  | o' :: r, dl, k, h, 0, o, hj => by
    simp only [List.getElem?_cons_zero, Option.some.injEq] at hj
    subst hj
    have := (Bool.and_eq_true_iff.1 h).1
    cases dl <;> exact this
  | o' :: r, dl, k, h, j + 1, o, hj => by
    have h1 := opsB.at (Bool.and_eq_true_iff.1 h).2 j o (by simpa using hj)
    rw [show k + 1 + j = k + (j + 1) by omega] at h1
    cases dl <;> exact h1
theorem noDup.at : ∀ {l : List Oper}, noDup l = true → ∀ i j d, dstL l i = some d → dstL l j = some d → i = j
  | [], _, i, _, d, hi, _ => by simp [dstL] at hi
  | o :: r, h, i, j, d, hi, hj => by
    obtain ⟨h1, h2⟩ := Bool.and_eq_true_iff.1 h
    have key : ∀ j, dstL (o :: r) 0 = some d → dstL (o :: r) (j + 1) = some d → False := by
      intro j h0 hj
      have h0' : o.dst = some d := by simpa [dstL] using h0
      rw [h0'] at h1
      simp only [dstL, List.getElem?_cons_succ] at hj
      cases hr : r[j]? with
      | none => rw [hr] at hj; simp at hj
      | some o' =>
        rw [hr] at hj
        have hd' : o'.dst = some d := by simpa using hj
        have := List.all_eq_true.1 h1 o' (List.mem_of_getElem? hr)
        rw [hd'] at this
        simp [Nat.beq_refl] at this
    match i, j with
    | 0, 0 => rfl
    | 0, j + 1 => exact (key j hi hj).elim
    | i + 1, 0 => exact (key i hj hi).elim
    | i + 1, j + 1 =>
      have := noDup.at h2 i j d (by simpa [dstL] using hi) (by simpa [dstL] using hj)
      omega
/-- All values. -/
def slotsOf (l : List Oper) (s : Nat → Option VC) (σ : Slots) : Slots := (List.range l.length).foldr (fun i acc => match dstL l i with
  | some d => match s i with
    | some v => (d, v.1) :: acc
    | none => acc
  | none => acc) σ
structure DInv (n : Nat) (σb : Slots) (l : List Oper) (s : Nat → Option VC) (a : Act) : Prop where
  env : Env n σb a
  val : ∀ i d v, s i = some v → dstL l i = some d → d < n ∧ a.tmps.getD d undef = v.1
theorem DInv.cons {l : List Oper} {s : Nat → Option VC} {a : Act} (h : DInv n σb l s a) {σ : Slots} (hE : Env n σ a) {p d : Nat} {v : VC} (hs : s p = some v) (hd : dstL l p = some d) : Env n ((d, v.1) :: σ) a := by
  obtain ⟨h1, h2⟩ := h.val p d v hs hd
  have hM : d ≠ MK := by have := hE.lt; omega
  refine ⟨hE.size, hE.lt, by rw [look_cons_ne hM]; exact hE.defers, ?_⟩
  intro e u he hu
  by_cases hb : d = e
  · subst hb
    rw [look_cons_eq] at hu
    simp only [Option.some.injEq] at hu
    subst hu
    exact h2
  · rw [look_cons_ne hb] at hu
    exact hE.at_ e u he hu
theorem WithDeps.elim {l : List Oper} {s : Nat → Option VC} {F : List Fact} {N : List Chunk} {a : Act} (hI : DInv n σb l s a) {k : Slots → Prop} : ∀ {dl : List (Nat × Nat)} {σ : Slots}, Env n σ a → WithDeps s F N dl σ k →
    (∀ pd ∈ dl, dstL l pd.1 = some pd.2 ∧ ∃ v, s pd.1 = some v ∧ factAt F pd.1 N v.1 v.2) → ∃ σ', Env n σ' a ∧ k σ'
  | [], σ, hE, h, _ => ⟨σ, hE, h⟩
  | (p, d) :: r, σ, hE, h, hd => by
    obtain ⟨h1, v, h2, h3⟩ := hd (p, d) (by simp)
    exact WithDeps.elim hI (hI.cons hE h2 h1) (h v.1 v.2 h2 h3) fun pd hpd => hd pd (by simp [hpd])
/-- The state between two operations. -/
structure DSt (n : Nat) (σb : Slots) (W : World) (G : List Chunk → Prop) (l : List Oper) (B : (Nat → Option VC) → List Chunk) (F : List Fact) (listed : Array Bool) (s : Nat → Option VC) (N : List Chunk) (a : Act) (w : World) : Prop where
  inv : DInv n σb l s a
  sz : listed.size = l.length
  dc : DC l.toArray listed
  som : ∀ i, (s i).isSome = listed.getD i false
  fact : ∀ i v, s i = some v → factAt F i N v.1 v.2
  hk : K W (B s ++ N) w
  g : G N
theorem getD_tf {listed : Array Bool} {i : Nat} (h : listed.getD i true = false) : listed.getD i false = false ∧ i < listed.size := by
  rcases Nat.lt_or_ge i listed.size with h1 | h1
  · simp only [Array.getD_eq_getD_getElem?, Array.getElem?_eq_getElem h1, Option.getD_some] at h ⊢
    exact ⟨h, h1⟩
  · simp [Array.getD_eq_getD_getElem?, Array.getElem?_eq_none h1] at h
theorem drawn_run {G : List Chunk → Prop} (hGm : ∀ M N, G N → G (M ++ N)) {l : List Oper} {dl : List (List (Nat × Nat))} {B : (Nat → Option VC) → List Chunk} {F : List Fact} (hB : (noDup l && opsB n σb (Region.before l.toArray) l l dl 0) = true) (hM : MonoF F) (hsteps : Steps P n W σb G B F dl l dl 0)
    (hfin : ∀ s N, G N → (∀ i, i < l.length → ∃ v, s i = some v ∧ factAt F i N v.1 v.2) → ∀ a w, DInv n σb l s a → K W (B s ++ N) w → Q.q .normal a w) :
    ∀ (f : Nat) (listed : Array Bool) (s : Nat → Option VC) (N : List Chunk) (a : Act) (w : World), ((List.range l.length).filter fun i => !listed.getD i true).length ≤ f → DSt n σb W G l B F listed s N a w → wpAnyIn (fen Q.r) 0 P .any l.toArray Q.q f listed a w := by
  obtain ⟨hB1, hB2⟩ := Bool.and_eq_true_iff.1 hB
  have opAt : ∀ j o, l[j]? = some o → _ := fun j o hj => opsB.at hB2 j o hj
  -- nothing is ready: all is done
  have done : ∀ (listed : Array Bool) (s : Nat → Option VC) (N : List Chunk) (a : Act) (w : World), DSt n σb W G l B F listed s N a w → Region.ready .any l.toArray listed = [] → Q.q .normal a w := by
    intro listed s N a w h hr
    have all : ∀ i, i < l.length → listed.getD i false = true := by
      intro i
      induction i using Nat.strongRecOn with
      | _ i ih =>
        intro hi
        cases hl : listed.getD i false with
        | true => rfl
        | false =>
          exfalso
          have hm : i ∈ Region.ready .any l.toArray listed := by
            rw [mem_ready]
            refine ⟨?_, l[i], by simp [hi], ?_⟩
            · rw [Array.getD_eq_getD_getElem?, Array.getElem?_eq_getElem (by rw [h.sz]; exact hi)] at hl ⊢
              exact hl
            · intro e he hbd
              have h1 := opAt i l[i] (List.getElem?_eq_getElem hi)
              simp only [opB, Bool.and_eq_true] at h1
              have h2 := List.all_eq_true.1 h1.1.1.2 e (by simpa using he)
              rw [hbd] at h2
              have h3 : e.on < i := Nat.blt_eq.mp (by simpa using h2)
              exact ih e.on h3 (by omega)
          rw [hr] at hm
          cases hm
    refine hfin s N h.g (fun i hi => ?_) a w h.inv h.hk
    have := h.som i
    rw [all i hi] at this
    obtain ⟨v, hv⟩ := Option.isSome_iff_exists.1 this
    exact ⟨v, hv, h.fact i v hv⟩
  intro f
  induction f with
  | zero =>
    intro listed s N a w hc h
    have hr : Region.ready .any l.toArray listed = [] := by
      cases hr : Region.ready .any l.toArray listed with
      | nil => rfl
      | cons i r =>
        exfalso
        have hm : i ∈ Region.ready .any l.toArray listed := by rw [hr]; simp
        obtain ⟨h1, o, ho, _⟩ := mem_ready.1 hm
        have hi : i < l.length := by
          have := (Array.getElem?_eq_some_iff.1 ho).1
          simpa using this
        have : i ∈ (List.range l.length).filter fun i => !listed.getD i true := List.mem_filter.2 ⟨List.mem_range.2 hi, by rw [h1]; rfl⟩
        have := List.length_pos_of_mem this
        omega
    exact ⟨hr, done listed s N a w h hr⟩
  | succ f ih =>
    intro listed s N a w hc h
    refine ⟨done listed s N a w h, fun i hi => ?_⟩
    obtain ⟨h1, o, ho, _⟩ := mem_ready.1 hi
    obtain ⟨h1', h1s⟩ := getD_tf h1
    have ho' : l[i]? = some o := by simpa using ho
    have hil : i < l.length := by rw [← h.sz]; exact h1s
    have hop := opAt i o ho'
    simp only [Nat.zero_add] at hop
    simp only [opB, Bool.and_eq_true] at hop
    obtain ⟨⟨⟨hg, _⟩, hdst⟩, hdeps⟩ := hop
    have hPL := ready_PL hi
    have hsi : s i = none := by
      have := h.som i
      rw [h1'] at this
      cases hs : s i with
      | none => rfl
      | some v => rw [hs] at this; simp at this
    have hnone : noneOf dl s i := by
      intro q hq
      cases hsq : s q with
      | none => rfl
      | some v =>
        exfalso
        have hlq : listed.getD q false = true := by rw [← h.som q, hsq]; rfl
        obtain ⟨pd, hpd, hb⟩ := List.any_eq_true.1 hq
        have hqi : pd.1 = i := Nat.eq_of_beq_eq_true hb
        have hql : q < l.length := by
          rw [← h.sz]
          rcases Nat.lt_or_ge q listed.size with z | z
          · exact z
          · simp [Array.getD_eq_getD_getElem?, Array.getElem?_eq_none z] at hlq
        have h5 := opAt q l[q] (List.getElem?_eq_getElem hql)
        simp only [Nat.zero_add, opB, Bool.and_eq_true] at h5
        have h6 := List.all_eq_true.1 h5.2 pd hpd
        have h7 := anc_listed h.dc pd.1 q q (Nat.le_refl _) (h.dc q hlq) (Bool.and_eq_true_iff.1 h6).1
        rw [hqi, h1'] at h7
        cases h7
    have hst := hsteps.at i o ho' s N h.g (by rw [Nat.zero_add]; exact hsi) (by rw [Nat.zero_add]; exact hnone)
    rw [Nat.zero_add] at hst
    obtain ⟨σ', hE', hact⟩ := WithDeps.elim h.inv h.inv.env hst (fun pd hpd => by
      have := List.all_eq_true.1 hdeps pd hpd
      obtain ⟨t1, t2⟩ := Bool.and_eq_true_iff.1 this
      have hdd : dstL l pd.1 = some pd.2 := by
        cases hd : dstL l pd.1 with
        | none => rw [hd] at t2; cases t2
        | some d => rw [hd] at t2; exact congrArg some (Nat.eq_of_beq_eq_true t2)
      have hls := anc_listed h.dc pd.1 i i (Nat.le_refl _) hPL t1
      have := h.som pd.1
      rw [hls] at this
      obtain ⟨v, hv⟩ := Option.isSome_iff_exists.1 this
      exact ⟨hdd, v, hv, h.fact _ v hv⟩)
    have hwant : Region.wanted o (yielded l.toArray a.tmps) = true := by
      unfold Region.wanted
      cases hgd : o.guard with
      | none => rfl
      | some x => rw [hgd] at hg; cases hg
    unfold wpOpIn
    simp only [ho]
    rw [if_pos hwant]
    refine (hact a w hE' h.hk).wpIn ?_
    rintro u w' ⟨M, c', hk', hf'⟩
    refine ih _ (upd s i (some (u, c'))) (M ++ N) _ w' ?_ ⟨⟨?_, ?_⟩, by simp [h.sz], h.dc.set hPL, ?_, ?_, hk', hGm _ _ h.g⟩
    · have hlt : ((List.range l.length).filter fun j => !(listed.setIfInBounds i true).getD j true).length < ((List.range l.length).filter fun j => !listed.getD j true).length := by
        have e1 : ((List.range l.length).filter fun j => !(listed.setIfInBounds i true).getD j true) = ((List.range l.length).filter fun j => !listed.getD j true).filter fun j => !(Nat.beq j i) := by
          rw [List.filter_filter]
          apply List.filter_congr
          intro j hj
          by_cases hji : i = j
          · subst hji
            simp [Array.getD_eq_getD_getElem?, h1s, Nat.beq_refl]
          · have : Nat.beq j i = false := by
              cases hb : Nat.beq j i with
              | false => rfl
              | true => exact absurd (Nat.eq_of_beq_eq_true hb).symm hji
            rw [getD_set_ne true hji, this]
            simp
        rw [e1]
        have hmem : i ∈ (List.range l.length).filter fun j => !listed.getD j true := List.mem_filter.2 ⟨List.mem_range.2 hil, by rw [h1]; rfl⟩
        exact List.length_filter_lt_length_iff_exists.2 ⟨i, hmem, by simp [Nat.beq_refl]⟩
      omega
    · cases hd : o.dst with
      | none => exact h.inv.env
      | some d =>
        rw [hd] at hdst
        obtain ⟨t1, t2⟩ := Bool.and_eq_true_iff.1 hdst
        have hE2 := h.inv.env.put t1 u
        refine hE2.mono ⟨fun e x hx => ?_, fun hx => ?_⟩
        · by_cases hb : d = e
          · subst hb
            rw [hx] at t2
            cases t2
          · rw [look_cons_ne hb]; exact hx
        · have hM : d ≠ MK := Nat.ne_of_lt (Nat.lt_of_lt_of_le (Nat.blt_eq.mp t1) h.inv.env.lt)
          rw [look_cons_ne hM]; exact hx
    · intro j d v hv hjd
      have hjo : ∀ o', l[j]? = some o' → o'.dst = some d → d < n := by
        intro o' ho2 hd2
        have h5 := opAt j o' ho2
        simp only [opB, Bool.and_eq_true] at h5
        have h6 := h5.1.2
        rw [hd2] at h6
        exact Nat.blt_eq.mp (Bool.and_eq_true_iff.1 h6).1
      have hdn : d < n := by
        unfold dstL at hjd
        cases ho2 : l[j]? with
        | none => rw [ho2] at hjd; simp at hjd
        | some o' => rw [ho2] at hjd; exact hjo o' ho2 (by simpa using hjd)
      refine ⟨hdn, ?_⟩
      by_cases hji : j = i
      · subst hji
        have hdo : o.dst = some d := by unfold dstL at hjd; rw [ho'] at hjd; simpa using hjd
        simp only [upd, if_true, Option.some.injEq] at hv
        subst hv
        rw [hdo]
        have : d < a.tmps.size := by rw [h.inv.env.size]; exact hdn
        simp [Act.put, Array.getD, this]
      · rw [upd_ne _ _ hji] at hv
        have h7 := (h.inv.val j d v hv hjd).2
        cases hd : o.dst with
        | none => exact h7
        | some d' =>
          have hne : d' ≠ d := by
            intro e
            subst e
            exact hji (noDup.at hB1 j i d' hjd (by unfold dstL; rw [ho']; simpa using hd))
          rw [← h7]
          simp only [Act.put, Array.getD_eq_getD_getElem?, Array.getElem?_setIfInBounds]
          rw [if_neg hne]
    · intro j
      by_cases hji : j = i
      · subst hji
        simp [upd, Array.getD_eq_getD_getElem?, h1s]
      · rw [upd_ne _ _ hji, getD_set_ne false (Ne.symm hji)]
        exact h.som j
    · intro j v hv
      by_cases hji : j = i
      · subst hji
        simp only [upd, if_true, Option.some.injEq] at hv
        subst hv
        exact hf'
      · rw [upd_ne _ _ hji] at hv
        exact hM.at j M N v.1 v.2 (h.fact j v hv)
/-- A drawn region: the slots behind it, the operations' facts. -/
def AllDeps (s : Nat → Option VC) (F : List Fact) (N : List Chunk) : List (Nat × Nat) → Slots → (Slots → Prop) → Prop := WithDeps s F N
theorem c_drawn {id : Nat} {l : List Oper} (σb : Slots) (dl : List (List (Nat × Nat))) (outs : List (Nat × Nat)) (B : (Nat → Option VC) → List Chunk) (F : List Fact) (N0 : List Chunk) (G : List Chunk → Prop) (hG : G N0) (hGm : ∀ M N, G N → G (M ++ N)) (hm : P.follows .mixedOrders = true)
    (hB : (noDup l && opsB n σb (Region.before l.toArray) l l dl 0) = true) (ho : (outs.all fun pd => match dstL l pd.1 with
      | some d => Nat.beq d pd.2
      | none => false) = true) (hs : sub σ σb) (hC : ∀ w, C w → K W (B (fun _ => none) ++ N0) w) (hM : MonoF F)
    (hsteps : Steps P n W σb G B F dl l dl 0)
    (hfin : ∀ s N, G N → (∀ i, i < l.length → ∃ v, s i = some v ∧ factAt F i N v.1 v.2) → WithDeps s F N outs σb fun σ' => Fin n Q .normal σ' (K W (B s ++ N))) : SC P n Q (.region id l.toArray true) σ C := by
  intro a w hE hw
  refine wpIn_region_any hm ?_
  have hE' := hE.mono (sub_look hs)
  refine drawn_run hGm hB hM hsteps ?_ _ _ (fun _ => none) N0 a _ ?_ ⟨⟨hE', fun i d v hv => (by cases hv)⟩, by simp, fun j hj => ?_, fun i => ?_, fun i v hv => (by cases hv), ?_, hG⟩
  · intro s N hGN hall a' w' hI hk
    obtain ⟨σ', h1, h2⟩ := WithDeps.elim hI hI.env (hfin s N hGN hall) (fun pd hpd => by
      have t2 := List.all_eq_true.1 ho pd hpd
      have hdd : dstL l pd.1 = some pd.2 := by
        cases hd : dstL l pd.1 with
        | none => rw [hd] at t2; cases t2
        | some d => rw [hd] at t2; exact congrArg some (Nat.eq_of_beq_eq_true t2)
      have hlt : pd.1 < l.length := by
        rcases Nat.lt_or_ge pd.1 l.length with q | q
        · exact q
        · unfold dstL at hdd
          rw [List.getElem?_eq_none q] at hdd
          cases hdd
      exact ⟨hdd, hall pd.1 hlt⟩)
    exact h2 a' w' h1 hk
  · refine Nat.le_trans (List.length_filter_le _ _) ?_
    simp
  · simp [Array.getD_eq_getD_getElem?, Array.getElem?_replicate] at hj
    split at hj <;> simp at hj
  · simp [Array.getD_eq_getD_getElem?, Array.getElem?_replicate]
    split <;> rfl
  · exact K.cl _ _ (hC w hw) (Ext.drew w)
end
end Go.KL
end

section
/- A program logic over the model, of our own: an assertion behind the statement that stands next. No program in sight. -/
namespace Go.KL
section
variable {P : Program} {n : Nat} {σ : Slots} {C : World → Prop} {Q : Post}
theorem K.bck {W w : World} {M N : List Chunk} (h : K W (M ++ N) w) : K W N w := h.weak M.flatten (by simp [List.perm_append_comm])
theorem K.toM {W w : World} {M B N : List Chunk} (h : K W (M ++ (B ++ N)) w) : K W (B ++ (M ++ N)) w :=
  h.weak [] (by simp only [List.flatten_append, List.append_nil]; exact List.perm_append_comm_assoc _ _ _)
theorem c_then_cut {x y : Code} {α : Type} (τ : α → Slots) (J : α → Prop) (I : α → World → Prop)
    (hx : SC P n (Cut (fun a w => ∃ z, Env n (τ z) a ∧ (J z ∧ I z w)) Q) x σ C)
    (hy : ∀ z, J z → SC P n Q y (τ z) (I z)) : SC P n (Then P y Q) x σ C := fun a w hE hw => wpIn_mono (hx a w hE hw) fun e a w q => by
    cases e with
    | normal => obtain ⟨z, h1, h2, h3⟩ := q; exact hy z h2 a w h1 h3
    | exit _ => exact q
    | goto _ => exact q
    | ret => exact q
    | panic _ => exact q
    | outgrown => exact q
theorem Spec.convC {f : FuncId} {args : Array Value} {C D : World → Prop} {X : Type} {v : X → Value} {C' D' : X → World → Prop} (h : Spec P f args C v C') (h1 : ∀ w, D w → C w) (h2 : ∀ x w, C' x w → D' x w) : Spec P f args D v D' := by
  intro w hw
  refine (h w (h1 w hw)).mono ?_
  rintro e w' ⟨x, h3, h4⟩
  exact ⟨x, h3, h2 x w' h4⟩
theorem Spec.pre {f : FuncId} {args : Array Value} {C D : World → Prop} {X : Type} {v : X → Value} {C' : X → World → Prop} (h : Spec P f args C v C') (hD : ∀ w, D w → C w) : Spec P f args D v C' := h.convC hD fun _ _ k => k
/-- Another ghost. -/
theorem Spec.map {f : FuncId} {args : Array Value} {C : World → Prop} {X Y : Type} {v : X → Value} {u : Y → Value} {C' : X → World → Prop} {D' : Y → World → Prop} (h : Spec P f args C v C') (m : X → Y) (h1 : ∀ x, u (m x) = v x) (h2 : ∀ x w, C' x w → D' (m x) w) : Spec P f args C u D' := by
  intro w hw
  refine (h w hw).mono ?_
  rintro e w' ⟨x, h3, h4⟩
  exact ⟨m x, by rw [h1]; exact h3, h2 x w' h4⟩
theorem spec_of_calls {f : FuncId} {args : Array Value} {C : World → Prop} {X : Type} {v : X → Value} {C' : X → World → Prop} (h : ∀ w, C w → Calls P f args w fun e w' => ∃ x, e = .returned (v x) ∧ C' x w') : Spec P f args C v C' := h
end
end Go.KL
end
