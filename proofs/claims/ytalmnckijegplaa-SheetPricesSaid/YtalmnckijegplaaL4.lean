/- The library of the proof, part 4: a program logic over the model, walks of functions, plain laws. -/
import Derived.Laws.Cover3
import Derived.Lib.SlKeysI
import Derived.Maps.Own
import Derived.Maps.RangeRun
import Derived.Shelf.SlIterI.Nil
import Derived.Shelf.SortM.Plain
import Derived.Shelf.SortM.SortNone
import Derived.ChangeSame
import Derived.WideKeyArgs
import Derived.RowKit
import Derived.OpenShut
import Derived.Deep.OwnRows
import Derived.Test.YtalmnckijegplaaL3
section
/- A program logic over the model, of our own: bound methods, tests on maps and on pairs, ranges over maps, deletes. No program in sight. -/
namespace Go.KL
section
variable {P : Program} {n : Nat} {σ : Slots} {C : World → Prop} {W w : World} {Ls : List Chunk} {dst : Option Tmp} {ty : TypeId} {pos : String} {after : Array Edge} {guard : Option (Nat × Bool)}

/-- A call of a bound function: what it is bound to comes first. -/
theorem en_m {fid : FuncId} {f : Operand} {xs : List Operand} {vs fst cap : List Value} {ats : Array TypeId} (hfv : ev σ f = some (.func (.func fid) fst.toArray cap.toArray)) (hx : evs σ xs = some vs) (hf : ∀ (args : Array Value) (w : World), (callFunc fid args).run P w = .ok (.enter fid args) w) :
    Enters P n σ C ⟨dst, .call ⟨.value f, xs.toArray, ats⟩, ty, pos, after, guard⟩ fid (fst ++ vs ++ cap).toArray := by
  intro a w hE _
  have h1 := evs_eval hE hx
  have h2 : Array.map a.eval xs.toArray = vs.toArray := by simp [h1]
  simp [execOp, resolve, invoke, Deferred.ofValue, h2, hf, ev_eval hE hfv]

theorem y_lenM (T : Tab P) (i : Nat) {x : Operand} {t kt e : TypeId} {b c : Nat} {es : List Ent} {R : Chunk} (hx : ev σ x = some (.map (some b))) (ht : T.und t = some (.map kt e)) (hi : Ls.getD i [] = (b, mobj es c) :: R) :
    Ylds P n σ (K W Ls) ⟨dst, .call ⟨.builtin .len, #[x], #[t]⟩, ty, pos, after, guard⟩ (.int .i64 (es.length : Nat)) := by
  intro a w hE hw
  have hb := hw.at hi
  have h1 : (getObj b).run P w = .ok (mobj es c) w := MapKept.run_getObj_map hb
  simp [execOp, resolve, invoke, ev_eval hE hx, builtin, Builtin.len_, run_und T ht, h1, mobj, goInt]

theorem y_eqlM0 (T : Tab P) {x : Operand} {t kt e : TypeId} {m : Option Nat} {t' : TypeId} (hx : ev σ x = some (.map m)) (ht : T.und t = some (.map kt e)) :
    Ylds P n σ C ⟨dst, .binOp .eql t x (.const (.map none)) t', ty, pos, after, guard⟩ (.bool m.isNone) := by
  intro a w hE _
  have h := run_equal_map_nil w t kt e m (T.und_ok ht)
  have h2 : (binOp .eql t (.map m) (.map none)).run P w = .ok (.bool m.isNone) w := by
    simp only [binOp, Sem.run_bind, h, Result.andThen]
    rfl
  have h3 : eqGuard .eql t x (.const (.map none)) (.map m) (.map none) = pure () := by cases m <;> rfl
  have h4 : a.eval (.const (.map none)) = .map none := rfl
  simp only [execOp, ev_eval hE hx, h4, h3, Sem.run_bind, Sem.run_pure, Result.andThen, h2]
end
end Go.KL
end

section
/- A program logic over the model, of our own: maps keyed by ints, as the library's contracts want them. No program in sight. -/
namespace Go.KL
open Go.Maps

structure MOK (es : List Ent) (c : Nat) : Prop where
  keys : (es.map (·.1)).Nodup
  born : (es.map (·.2.2)).Nodup
  old : ∀ e ∈ es, e.2.2 < c
  rng : ∀ e ∈ es, -9223372036854775808 ≤ e.1 ∧ e.1 ≤ 9223372036854775807
  len : es.length ≤ 1000000

theorem MOK.empty : MOK [] 0 := ⟨by simp, by simp, by simp, by simp, by simp⟩
theorem mset_keys (k : Int) (v : Value) (c : Nat) : ∀ (es : List Ent), mhas k es = true → (mset k v c es).map (·.1) = es.map (·.1)
  | [], h => by simp [mhas] at h
  | e :: r, h => by
    simp only [mhas] at h
    by_cases hk : k = e.1
    · simp [mset, hk]
    · simp only [if_neg hk] at h
      simp [mset, hk, mset_keys k v c r h]
theorem mset_born (k : Int) (v : Value) (c : Nat) : ∀ (es : List Ent), mhas k es = true → (mset k v c es).map (·.2.2) = es.map (·.2.2)
  | [], h => by simp [mhas] at h
  | e :: r, h => by
    simp only [mhas] at h
    by_cases hk : k = e.1
    · simp [mset, hk]
    · simp only [if_neg hk] at h
      simp [mset, hk, mset_born k v c r h]
theorem mhas_mem {k : Int} : ∀ {es : List Ent}, mhas k es = true ↔ k ∈ es.map (·.1)
  | [] => by simp [mhas]
  | e :: r => by
    simp only [mhas, List.map_cons, List.mem_cons]
    by_cases hk : k = e.1
    · simp [hk]
    · simp only [if_neg hk]
      rw [mhas_mem]
      simp [hk]
theorem MOK.set {es : List Ent} {c : Nat} (h : MOK es c) (k : Int) (v : Value) (hk : -9223372036854775808 ≤ k ∧ k ≤ 9223372036854775807) (hl : es.length < 1000000) : MOK (mset k v c es) (mclk k c es) := by
  cases hh : mhas k es with
  | false =>
    have hn : k ∉ es.map (·.1) := fun q => by rw [mhas_mem.2 q] at hh; cases hh
    rw [mset_new hh]
    simp only [mclk, hh, Bool.false_eq_true, if_false]
    refine ⟨?_, ?_, ?_, ?_, ?_⟩
    · rw [List.map_append, List.nodup_append]
      refine ⟨h.keys, by simp, ?_⟩
      intro a ha b hb
      simp at hb
      subst hb
      intro e
      subst e
      exact hn ha
    · rw [List.map_append, List.nodup_append]
      refine ⟨h.born, by simp, ?_⟩
      intro a ha b hb
      simp at hb
      subst hb
      obtain ⟨e, he, rfl⟩ := List.mem_map.1 ha
      have := h.old e he
      omega
    · intro e he
      rcases List.mem_append.1 he with he | he
      · have := h.old e he; omega
      · simp at he; subst he; simp
    · intro e he
      rcases List.mem_append.1 he with he | he
      · exact h.rng e he
      · simp at he; subst he; exact hk
    · simp; omega
  | true =>
    simp only [mclk, hh, if_true]
    have hk1 := mset_keys k v c es hh
    have hb1 := mset_born k v c es hh
    refine ⟨by rw [hk1]; exact h.keys, by rw [hb1]; exact h.born, fun e he => ?_, fun e he => ?_, ?_⟩
    · have : e.2.2 ∈ (mset k v c es).map (·.2.2) := List.mem_map.2 ⟨e, he, rfl⟩
      rw [hb1] at this
      obtain ⟨e', he', h1⟩ := List.mem_map.1 this
      have := h.old e' he'
      omega
    · have : e.1 ∈ (mset k v c es).map (·.1) := List.mem_map.2 ⟨e, he, rfl⟩
      rw [hk1] at this
      obtain ⟨e', he', h1⟩ := List.mem_map.1 this
      have := h.rng e' he'
      omega
    · have : ((mset k v c es).map (·.1)).length = (es.map (·.1)).length := by rw [hk1]
      simp at this
      rw [this]; exact h.len

/-- How an element reads, where nobody asks. -/
abbrev noE : Value → Option (DataW Unit × List MemPlace) := fun _ => some (.nil, [])
theorem ownsMap_of {P : Program} {k : TypeId} {w : World} {b c : Nat} {es : List Ent} (h : MOK es c) (hk : P.underlying k = some (.int .i64)) (hb : w.heap[b]? = some (mobj es c)) :
    ∃ D : DataW Unit, w.ownsMap P k noE b es.length D ∧ (intKeys D).Perm (es.map (·.1)) ∧ Maps.size D = es.length := by
  have hrd : ∀ e ∈ es, WideElems.rd P k noE (ment e) = some (.int .i64 e.1, .nil) := fun e he => by
    have hw : (Lit.int .i64 e.1).wf = true := by
      have := h.rng e he
      simp only [Lit.wf, decide_eq_true_eq, Bool.and_eq_true]
      have e1 : IntKind.i64.min = -9223372036854775808 := rfl
      have e2 : IntKind.i64.max = 9223372036854775807 := rfl
      omega
    simp [WideElems.rd, ment, Maps.keyOf_int_mk hk hw]
  have hmap : (es.map ment).map (WideElems.rg P k noE) = es.map fun e => (.int .i64 e.1, .nil) := by
    rw [List.map_map]
    apply List.map_congr_left
    intro e he
    simp [WideElems.rg, hrd e he]
  have hperm : ∀ l : List (Lit × DataW Unit), (l.foldr DataW.insert []).Perm l := fun l => by
    induction l with
    | nil => exact .refl _
    | cons x r ih => exact (WideShapes.insert_perm x _).trans (ih.cons x)
  refine ⟨_, ⟨(es.map ment).toArray, c, hb, ⟨?_, ⟨?_, ?_, ?_⟩, ?_⟩, by simp, rfl⟩, ?_, ?_⟩
  · have := h.len; simp [maxLen]; omega
  · intro x hx
    simp at hx
    obtain ⟨a, b', c', he, rfl⟩ := hx
    exact h.old _ he
  · have : (es.map ment).map (·.born) = es.map (·.2.2) := by simp [ment]
    simpa [this] using h.born
  · have e1 : (es.map ment).map (·.key) = (es.map (·.1)).map encZ := by simp [ment]
    have : ((es.map ment).map (·.key)).Nodup := by
      rw [e1]
      exact List.Pairwise.map _ (fun a b hne e => hne (encZ_inj e)) h.keys
    simpa using this
  · intro x hx
    simp at hx
    obtain ⟨a, b', c', he, rfl⟩ := hx
    exact ⟨_, hrd _ he⟩
  · simp only [intKeys, hmap]
    refine ((hperm _).map _).trans ?_
    rw [List.map_map]
    exact .of_eq (List.map_congr_left fun e _ => rfl)
  · simp only [Maps.size, hmap]
    rw [(hperm _).length_eq]
    simp
end Go.KL
end

section
/- A program logic over the model, of our own: ranges over maps, deletes. No program in sight. -/
namespace Go.KL
open Go.ChangeMaps
/-- What a step of an iterator may hand out. -/
def nextOK (es : List Ent) (seen : Array Nat) : Option Ent → Prop
  | none => ∀ e ∈ es, e.2.2 ∈ seen
  | some e => e ∈ es ∧ e.2.2 ∉ seen
def nextV : Option Ent → Value
  | none => .tuple #[.bool false]
  | some e => .tuple #[.bool true, .int .i64 e.1, e.2.1]
abbrev mit (b c : Nat) (seen : Array Nat) : Obj := .mapIter (some b) c seen c
def nextLs (Ls : List Chunk) (i r b c : Nat) (seen : Array Nat) : Option Ent → List Chunk
  | none => Ls
  | some e => Ls.set i [(r, mit b c (seen.push e.2.2))]
theorem leftOf_mem {es : List Ent} {seen : Array Nat} {x : MapEntry} (h : x ∈ (leftOf (es.map ment).toArray seen).toList) : ∃ e ∈ es, x = ment e ∧ e.2.2 ∉ seen := by
  unfold leftOf at h
  have h1 : x ∈ es.map ment ∧ x.born ∉ seen := by
    have := Array.mem_toList_iff.1 h
    rw [Array.mem_filter] at this
    simpa using this
  obtain ⟨e, he, rfl⟩ := List.mem_map.1 h1.1
  exact ⟨e, he, rfl, h1.2⟩
theorem leftOf_none {es : List Ent} {seen : Array Nat} (h : (leftOf (es.map ment).toArray seen).size = 0) : ∀ e ∈ es, e.2.2 ∈ seen := by
  intro e he
  by_cases hs : e.2.2 ∈ seen
  · exact hs
  · have h1 : leftOf (es.map ment).toArray seen = #[] := Array.eq_empty_of_size_eq_zero h
    unfold leftOf at h1
    rw [Array.filter_eq_empty_iff] at h1
    have h2 : ment e ∈ (es.map ment).toArray := by simpa using List.mem_map.2 ⟨e, he, rfl⟩
    have := h1 _ h2
    simp [ment] at this
    exact this
section
variable {P : Program} {n : Nat} {σ : Slots} {C : World → Prop} {W w : World} {Ls : List Chunk} {dst : Option Tmp} {ty : TypeId} {pos : String} {after : Array Edge} {guard : Option (Nat × Bool)} {Q : Exit → Act → World → Prop}
theorem do_range (T : Tab P) (j : Nat) {x : Operand} {t kt e : TypeId} {b c : Nat} {es : List Ent} {R : Chunk} (hx : ev σ x = some (.map (some b))) (ht : T.und t = some (.map kt e)) (hj : Ls.getD j [] = (b, mobj es c) :: R) :
    Doos P n σ (K W Ls) ⟨dst, .range t x, ty, pos, after, guard⟩ (X := Nat) (fun r => .pointer (some ⟨r, 0, none⟩)) (fun r => K W ([(r, mit b c #[])] :: Ls)) := by
  intro a w hE hw
  refine ⟨w.heap.size, w.alloc (mit b c #[]), ?_, hw.alloc _⟩
  have := run_range_map w t kt e b _ _ (T.und_ok ht) (hw.at hj)
  simp [execOp, ev_eval hE hx, this]
theorem do_next (i j : Nat) {x : Operand} {r b c : Nat} {seen : Array Nat} {es : List Ent} {R : Chunk} (hx : ev σ x = some (.pointer (some ⟨r, 0, none⟩))) (hi : Ls.getD i [] = [(r, mit b c seen)]) (hj : Ls.getD j [] = (b, mobj es c) :: R) (hold : ∀ e ∈ es, e.2.2 < c) :
    Doos P n σ (K W Ls) ⟨dst, .next x false, ty, pos, after, guard⟩ (X := { o : Option Ent // nextOK es seen o }) (fun o => nextV o.1) (fun o => K W (nextLs Ls i r b c seen o.1)) := by
  intro a w hE hw
  have hr := hw.at (c := []) hi
  have hb := hw.at hj
  have hold' : ∀ x ∈ (es.map ment).toArray.toList, x.born < c := by
    intro x hx
    rw [List.toList_toArray] at hx
    obtain ⟨e, he, rfl⟩ := List.mem_map.1 hx
    exact hold e he
  rcases run_next_at (P := P) w ty r b c c seen (es.map ment).toArray c hr hb hold' (Nat.le_refl _) with ⟨h1, h2⟩ | ⟨x, hx1, w1, hw1, h2⟩
  · refine ⟨⟨none, leftOf_none h1⟩, w, ?_, hw⟩
    simp [execOp, ev_eval hE hx, h2, nextV]
  · obtain ⟨e, he, rfl, hne⟩ := leftOf_mem hx1
    refine ⟨⟨some e, he, hne⟩, _, by simp [execOp, ev_eval hE hx, h2, nextV, ment]; rfl, ?_⟩
    have hk1 : K W Ls w1 := by
      rcases hw1 with rfl | rfl
      · exact hw
      · exact hw.ext (Ext.drew w)
    have hr1 := hk1.at (c := []) hi
    refine hk1.put hi rfl rfl rfl (by simp [setBlock]) ?_ ?_
    · intro c' hc'
      simp [setBlock, Ne.symm hc']
    · have := heap_lt hr1
      simp [setBlock, this]
theorem y_entry (i j : Nat) {x : Operand} {r b c : Nat} {seen : Array Nat} {es : List Ent} {e : Ent} {R R' : Chunk} (hx : ev σ x = some (.pointer (some ⟨r, 0, none⟩))) (hi : Ls.getD i [] = (r, mit b c (seen.push e.2.2)) :: R') (hj : Ls.getD j [] = (b, mobj es c) :: R)
    (he : e ∈ es) (hn : (es.map (·.2.2)).Nodup) : Ylds P n σ (K W Ls) ⟨dst, .entry x, ty, pos, after, guard⟩ (.tuple #[.int .i64 e.1, e.2.1]) := by
  intro a w hE hw
  have hn' : ((es.map ment).toArray.toList.map (·.born)).Nodup := by
    have : (es.map ment).map (·.born) = es.map (·.2.2) := by simp [ment]
    simpa [this] using hn
  have := run_entry_at (P := P) w r b c seen (es.map ment).toArray c (ment e) (hw.at hi) (hw.at hj) (by simpa using List.mem_map.2 ⟨e, he, rfl⟩) hn'
  simp [execOp, ev_eval hE hx, this, ment]
/-- An operation whose value nobody takes. -/
theorem s_do0 {ops : Array Oper} {o : Oper} {rest : List Oper} {X : Type} {v : X → Value} {C' : X → World → Prop} (hy : Doos P n σ C o v C') (hg : gd ops σ o = some true) (hd : o.dst = none)
    (k : ∀ x, St P n ops Q rest σ (C' x)) : St P n ops Q (o :: rest) σ C := by
  intro a w hE hw
  obtain ⟨x, w', hr, hC'⟩ := hy a w hE hw
  unfold wpList
  rw [if_pos (gd_wanted hE hg)]
  refine .inl ?_
  unfold Oper.wp
  rw [hr, Oper.upon_value, hd]
  exact k x _ _ hE hC'
theorem do_delete (T : Tab P) (j : Nat) {x y : Operand} {t kt e tk : TypeId} {b c : Nat} {es : List Ent} {k : Int} (hx : ev σ x = some (.map (some b))) (hy : ev σ y = some (.int .i64 k)) (ht : T.und t = some (.map kt e)) (hkt : T.und kt = some (.int .i64)) (hj : Ls.getD j [] = [(b, mobj es c)]) :
    Doos P n σ (K W Ls) ⟨dst, .call ⟨.builtin .delete, #[x, y], #[t, tk]⟩, ty, pos, after, guard⟩ (X := Unit) (fun _ => .tuple #[]) (fun _ => K W (Ls.set j [(b, mobj (mdel k es) c)])) := by
  intro a w hE hw
  have hb := hw.at (c := []) hj
  have hf : (Instr.findKey kt (.int .i64 k) (es.map ment)).run P w = .ok (mfind k es 0) w := MapKept.run_findKey (T.und_ok hkt) (findNow_mfind k es 0)
  have hrun : (Builtin.delete_ #[t, tk] ty #[.map (some b), .int .i64 k]).run P w = .ok (.tuple #[]) { w with heap := w.heap.setIfInBounds b (mobj (mdel k es) c) } := by
    simp only [Builtin.delete_, Sem.run_bind, run_und T ht, Result.andThen, MapKept.run_getObj_map hb, run_checkInt (T.und_ok hkt), hf, List.getElem?_toArray, List.getElem?_cons_zero, List.getElem?_cons_succ]
    cases hm : mfind k es 0 with
    | none =>
      simp only [Sem.run_bind, Result.andThen, MapKept.run_setObj_map _ hb, mdel_none (mfind_none.1 hm)]
      rfl
    | some q =>
      obtain ⟨q, u⟩ := q
      have h1 := mdel_old hm
      have h2 : mobj (mdel k es) c = .map ((es.map ment).toArray.eraseIdxIfInBounds q) c := by
        simp only [mobj]
        rw [h1, Nat.sub_zero]
        congr 1
        apply Array.ext'
        simp
      simp only [Sem.run_bind, Result.andThen, MapKept.run_setObj_map _ hb, h2]
      rfl
  refine ⟨(), _, ?_, hw.put hj (w' := { w with heap := w.heap.setIfInBounds b (mobj (mdel k es) c) }) rfl rfl rfl (by simp) ?_ ?_⟩
  · simp [execOp, resolve, invoke, builtin, ev_eval hE hx, ev_eval hE hy, hrun]
  · intro c hc
    simp [Ne.symm hc]
  · have := heap_lt hb
    simp [this]
end
end Go.KL
end

section
/- A program logic over the model, of our own: conversions between integers, shifts. No program in sight. -/
namespace Go.KL
section
variable {P : Program} {n : Nat} {σ : Slots} {C : World → Prop} {dst : Option Tmp} {ty : TypeId} {pos : String} {after : Array Edge} {guard : Option (Nat × Bool)}
theorem y_cvt (T : Tab P) {x : Operand} {s t : TypeId} {k k' : IntKind} {z : Int} {d : TypeDesc} (hx : ev σ x = some (.int k z)) (hs : T.und s = some d) (ht : T.und t = some (.int k')) :
    Ylds P n σ C ⟨dst, .convert s t x, ty, pos, after, guard⟩ (.int k' (k'.wrap z)) := by
  intro a w hE _
  have h : (convert s t (.int k z)).run P w = .ok (.int k' (k'.wrap z)) w := by
    unfold convert
    simp only [Sem.run_bind, run_und T hs, Result.andThen, run_und T ht]
    cases d <;> rfl
  simp [execOp, ev_eval hE hx, h]
theorem y_cvtId (T : Tab P) {x : Operand} {s t : TypeId} {k k' : IntKind} {z : Int} {d : TypeDesc} (hx : ev σ x = some (.int k z)) (hs : T.und s = some d) (ht : T.und t = some (.int k')) (hz : k'.wrap z = z) :
    Ylds P n σ C ⟨dst, .convert s t x, ty, pos, after, guard⟩ (.int k' z) := by
  have := y_cvt (n := n) (C := C) (dst := dst) (ty := ty) (pos := pos) (after := after) (guard := guard) T hx hs ht
  rwa [hz] at this
theorem y_shr {x y : Operand} {t t' : TypeId} {k k' : IntKind} {z m : Int} (hx : ev σ x = some (.int k z)) (hy : ev σ y = some (.int k' m)) (hm : 0 ≤ m ∧ m < k.bits) :
    Ylds P n σ C ⟨dst, .binOp .shr t x y t', ty, pos, after, guard⟩ (.int k (z.fdiv (2 ^ m.toNat))) := by
  intro a w hE _
  have h1 : ¬ m < 0 := by omega
  have h2 : min m.toNat k.bits = m.toNat := by omega
  simp [execOp, ev_eval hE hx, ev_eval hE hy, binOp, eqGuard, Op.shift, h1, h2]
theorem y_shr1 {x y : Operand} {t t' : TypeId} {k k' : IntKind} {z v : Int} (hx : ev σ x = some (.int k z)) (hy : ev σ y = some (.int k' 1)) (hm : 1 < k.bits) (hz : z / 2 = v) :
    Ylds P n σ C ⟨dst, .binOp .shr t x y t', ty, pos, after, guard⟩ (.int k v) := by
  have := y_shr (P := P) (n := n) (C := C) (dst := dst) (ty := ty) (pos := pos) (after := after) (guard := guard) (t := t) (t' := t') hx hy ⟨by omega, by omega⟩
  have e : z.fdiv (2 ^ (1 : Int).toNat) = v := by
    rw [← hz]
    show z.fdiv (2 ^ 1) = _
    rw [Int.fdiv_eq_ediv_of_nonneg _ (by decide)]
    rfl
  rwa [e] at this
end
end Go.KL
end

section
/- The library's contracts at this program: numbers of functions and types (printed by a tool of the kit). -/
namespace Go.Proofs
open Go.Shelf
def Try.keysA_ren : Go.Shelf.Ren := ⟨fun | 7 => 45 | 10 => 68 | n => n, fun | 23 => 72 | 26 => 3 | 3 => 29 | 28 => 80 | 0 => 0 | 27 => 79 | 33 => 113 | 4 => 4 | n => n, fun | n => n⟩
theorem Try.keysA : Go.Proofs.SlLaysZI.n7 Try.prog Try.keysA_ren := {
  mixed := by kernel_rfl
  f7 := ⟨Try.f45.name, by decide, Try.func45.trans (congrArg some (by kernel_rfl))⟩
  f10 := ⟨Try.f68.name, by decide, Try.func68.trans (congrArg some (by kernel_rfl))⟩
  t0 := Try.underlying0
  a0 := Try.isAgg0
  z0 := Try.sizeOf0
  v0 := Try.zeroValue0
  t4 := Try.underlying4
  a4 := Try.isAgg4
  z4 := Try.sizeOf4
  v4 := Try.zeroValue4
  t23 := Try.underlying72
  a23 := Try.isAgg72
  z23 := Try.sizeOf72
  v23 := Try.zeroValue72
  t26 := Try.underlying3
  a26 := Try.isAgg3
  z26 := Try.sizeOf3
  v26 := Try.zeroValue3
  t27 := Try.underlying79
  a27 := Try.isAgg79
  z27 := Try.sizeOf79
  v27 := Try.zeroValue79
  t28 := Try.underlying80
  a28 := Try.isAgg80
  z28 := Try.sizeOf80
  v28 := Try.zeroValue80
  t33 := Try.underlying113
  a33 := Try.isAgg113
  z33 := Try.sizeOf113
  v33 := Try.zeroValue113 }
def Try.keysB_ren : Go.Shelf.Ren := ⟨fun | 7 => 46 | 10 => 69 | n => n, fun | 23 => 73 | 26 => 3 | 3 => 84 | 28 => 80 | 0 => 0 | 27 => 79 | 33 => 113 | 4 => 4 | n => n, fun | n => n⟩
theorem Try.keysB : Go.Proofs.SlLaysZI.n7 Try.prog Try.keysB_ren := {
  mixed := by kernel_rfl
  f7 := ⟨Try.f46.name, by decide, Try.func46.trans (congrArg some (by kernel_rfl))⟩
  f10 := ⟨Try.f69.name, by decide, Try.func69.trans (congrArg some (by kernel_rfl))⟩
  t0 := Try.underlying0
  a0 := Try.isAgg0
  z0 := Try.sizeOf0
  v0 := Try.zeroValue0
  t4 := Try.underlying4
  a4 := Try.isAgg4
  z4 := Try.sizeOf4
  v4 := Try.zeroValue4
  t23 := Try.underlying73
  a23 := Try.isAgg73
  z23 := Try.sizeOf73
  v23 := Try.zeroValue73
  t26 := Try.underlying3
  a26 := Try.isAgg3
  z26 := Try.sizeOf3
  v26 := Try.zeroValue3
  t27 := Try.underlying79
  a27 := Try.isAgg79
  z27 := Try.sizeOf79
  v27 := Try.zeroValue79
  t28 := Try.underlying80
  a28 := Try.isAgg80
  z28 := Try.sizeOf80
  v28 := Try.zeroValue80
  t33 := Try.underlying113
  a33 := Try.isAgg113
  z33 := Try.sizeOf113
  v33 := Try.zeroValue113 }
def Try.keysC_ren : Go.Shelf.Ren := ⟨fun | 7 => 47 | 10 => 70 | n => n, fun | 23 => 84 | 26 => 3 | 3 => 4 | 28 => 80 | 0 => 0 | 27 => 79 | 33 => 113 | 4 => 4 | n => n, fun | n => n⟩
theorem Try.keysC : Go.Proofs.SlLaysZI.n7 Try.prog Try.keysC_ren := {
  mixed := by kernel_rfl
  f7 := ⟨Try.f47.name, by decide, Try.func47.trans (congrArg some (by kernel_rfl))⟩
  f10 := ⟨Try.f70.name, by decide, Try.func70.trans (congrArg some (by kernel_rfl))⟩
  t0 := Try.underlying0
  a0 := Try.isAgg0
  z0 := Try.sizeOf0
  v0 := Try.zeroValue0
  t4 := Try.underlying4
  a4 := Try.isAgg4
  z4 := Try.sizeOf4
  v4 := Try.zeroValue4
  t23 := Try.underlying84
  a23 := Try.isAgg84
  z23 := Try.sizeOf84
  v23 := Try.zeroValue84
  t26 := Try.underlying3
  a26 := Try.isAgg3
  z26 := Try.sizeOf3
  v26 := Try.zeroValue3
  t27 := Try.underlying79
  a27 := Try.isAgg79
  z27 := Try.sizeOf79
  v27 := Try.zeroValue79
  t28 := Try.underlying80
  a28 := Try.isAgg80
  z28 := Try.sizeOf80
  v28 := Try.zeroValue80
  t33 := Try.underlying113
  a33 := Try.isAgg113
  z33 := Try.sizeOf113
  v33 := Try.zeroValue113 }
def Try.sortedA_ren : Go.Shelf.Ren := ⟨fun | 6 => 44 | 8 => 66 | 9 => 67 | 11 => 86 | 13 => 88 | 12 => 87 | 23 => 101 | 24 => 102 | 14 => 93 | 15 => 94 | 16 => 95 | 17 => 96 | 18 => 97 | 19 => 98 | 20 => 71 | 21 => 99 | 22 => 100 | 25 => 104 | 26 => 105 | 27 => 106 | 28 => 107 | 29 => 108 | 30 => 89 | 31 => 109 | n => n, fun | 26 => 3 | 28 => 80 | 24 => 29 | 0 => 0 | 3 => 3 | 37 => 114 | 48 => 139 | 50 => 141 | 4 => 4 | 40 => 133 | 39 => 132 | 45 => 86 | 5 => 5 | 9 => 9 | 51 => 142 | 55 => 146 | 57 => 148 | 58 => 56 | 33 => 113 | n => n, fun | n => n⟩
theorem Try.sortedA : Go.Proofs.SlLaysZI.n6 Try.prog Try.sortedA_ren := {
  mixed := by kernel_rfl
  f6 := ⟨Try.f44.name, by decide, Try.func44.trans (congrArg some (by kernel_rfl))⟩
  f8 := ⟨Try.f66.name, by decide, Try.func66.trans (congrArg some (by kernel_rfl))⟩
  f11 := ⟨Try.f86.name, by decide, Try.func86.trans (congrArg some (by kernel_rfl))⟩
  t0 := Try.underlying0
  a0 := Try.isAgg0
  z0 := Try.sizeOf0
  v0 := Try.zeroValue0
  t24 := Try.underlying29
  a24 := Try.isAgg29
  z24 := Try.sizeOf29
  v24 := Try.zeroValue29
  t26 := Try.underlying3
  a26 := Try.isAgg3
  z26 := Try.sizeOf3
  v26 := Try.zeroValue3
  t28 := Try.underlying80
  a28 := Try.isAgg80
  z28 := Try.sizeOf80
  v28 := Try.zeroValue80
  i26 := by kernel_rfl }
def Try.sortA_ren : Go.Shelf.Ren := ⟨fun | 5 => 67 | 8 => 88 | 7 => 87 | 19 => 101 | 20 => 102 | 10 => 93 | 11 => 94 | 12 => 95 | 13 => 96 | 14 => 97 | 15 => 98 | 16 => 71 | 17 => 99 | 18 => 100 | 30 => 104 | 31 => 105 | 32 => 106 | 33 => 107 | 34 => 108 | 35 => 89 | 40 => 109 | n => n, fun | 23 => 29 | 25 => 3 | 3 => 3 | 32 => 114 | 22 => 29 | 0 => 0 | 44 => 139 | 46 => 141 | 4 => 4 | 36 => 133 | 35 => 132 | 41 => 86 | 5 => 5 | 9 => 9 | 53 => 142 | 57 => 146 | 63 => 148 | 64 => 56 | n => n, fun | n => n⟩
theorem Try.sortA : Go.Proofs.SlLaysM.n5 Try.prog Try.sortA_ren := {
  mixed := by kernel_rfl
  f5 := ⟨Try.f67.name, by decide, Try.func67.trans (congrArg some (by kernel_rfl))⟩
  f7 := ⟨Try.f87.name, by decide, Try.func87.trans (congrArg some (by kernel_rfl))⟩
  f8 := Try.func88.trans (congrArg some (by kernel_rfl))
  f10 := ⟨Try.f93.name, by decide, Try.func93.trans (congrArg some (by kernel_rfl))⟩
  f11 := ⟨Try.f94.name, by decide, Try.func94.trans (congrArg some (by kernel_rfl))⟩
  f12 := ⟨Try.f95.name, by decide, Try.func95.trans (congrArg some (by kernel_rfl))⟩
  f13 := ⟨Try.f96.name, by decide, Try.func96.trans (congrArg some (by kernel_rfl))⟩
  f14 := ⟨Try.f97.name, by decide, Try.func97.trans (congrArg some (by kernel_rfl))⟩
  f15 := ⟨Try.f98.name, by decide, Try.func98.trans (congrArg some (by kernel_rfl))⟩
  f16 := ⟨Try.f71.name, by decide, Try.func71.trans (congrArg some (by kernel_rfl))⟩
  f17 := ⟨Try.f99.name, by decide, Try.func99.trans (congrArg some (by kernel_rfl))⟩
  f18 := ⟨Try.f100.name, by decide, Try.func100.trans (congrArg some (by kernel_rfl))⟩
  f19 := Try.func101.trans (congrArg some (by kernel_rfl))
  f20 := Try.func102.trans (congrArg some (by kernel_rfl))
  f30 := ⟨Try.f104.name, by decide, Try.func104.trans (congrArg some (by kernel_rfl))⟩
  f31 := Try.func105.trans (congrArg some (by kernel_rfl))
  f32 := Try.func106.trans (congrArg some (by kernel_rfl))
  f33 := ⟨Try.f107.name, by decide, Try.func107.trans (congrArg some (by kernel_rfl))⟩
  f34 := ⟨Try.f108.name, by decide, Try.func108.trans (congrArg some (by kernel_rfl))⟩
  f35 := ⟨Try.f89.name, by decide, Try.func89.trans (congrArg some (by kernel_rfl))⟩
  f40 := ⟨Try.f109.name, by decide, Try.func109.trans (congrArg some (by kernel_rfl))⟩
  t0 := Try.underlying0
  a0 := Try.isAgg0
  z0 := Try.sizeOf0
  v0 := Try.zeroValue0
  t3 := Try.underlying3
  a3 := Try.isAgg3
  z3 := Try.sizeOf3
  v3 := Try.zeroValue3
  t4 := Try.underlying4
  a4 := Try.isAgg4
  z4 := Try.sizeOf4
  v4 := Try.zeroValue4
  t5 := Try.underlying5
  a5 := Try.isAgg5
  z5 := Try.sizeOf5
  v5 := Try.zeroValue5
  t9 := Try.underlying9
  a9 := Try.isAgg9
  z9 := Try.sizeOf9
  v9 := Try.zeroValue9
  t22 := Try.underlying29
  a22 := Try.isAgg29
  z22 := Try.sizeOf29
  v22 := Try.zeroValue29
  t23 := Try.underlying29
  a23 := Try.isAgg29
  z23 := Try.sizeOf29
  v23 := Try.zeroValue29
  t25 := Try.underlying3
  a25 := Try.isAgg3
  z25 := Try.sizeOf3
  v25 := Try.zeroValue3
  t32 := Try.underlying114
  a32 := Try.isAgg114
  z32 := Try.sizeOf114
  v32 := Try.zeroValue114
  t35 := Try.underlying132
  a35 := Try.isAgg132
  z35 := Try.sizeOf132
  v35 := Try.zeroValue132
  t36 := Try.underlying133
  a36 := Try.isAgg133
  z36 := Try.sizeOf133
  v36 := Try.zeroValue133
  t41 := Try.underlying86
  a41 := Try.isAgg86
  z41 := Try.sizeOf86
  v41 := Try.zeroValue86
  t44 := Try.underlying139
  a44 := Try.isAgg139
  z44 := Try.sizeOf139
  v44 := Try.zeroValue139
  t46 := Try.underlying141
  a46 := Try.isAgg141
  z46 := Try.sizeOf141
  v46 := Try.zeroValue141
  t53 := Try.underlying142
  a53 := Try.isAgg142
  z53 := Try.sizeOf142
  v53 := Try.zeroValue142
  t57 := Try.underlying146
  a57 := Try.isAgg146
  z57 := Try.sizeOf146
  v57 := Try.zeroValue146
  t63 := Try.underlying148
  a63 := Try.isAgg148
  z63 := Try.sizeOf148
  v63 := Try.zeroValue148
  t64 := Try.underlying56
  a64 := Try.isAgg56
  z64 := Try.sizeOf56
  v64 := Try.zeroValue56 }
end Go.Proofs
end

section
/- Contracts: the keys of a map, sorted; the sort of ints. -/
namespace Go.KL
open Go.Proofs Go.RowKit Go.Maps Go.Sort Go.Shelf
theorem Below.ext {w w' : World} (h : Below w.heap.size w w') : Ext w w' := ⟨h.os, h.tape, h.output, h.size, h.block⟩
theorem sortsA (m : Nat) : AnyZI.SortsIn Try.prog Try.sortedA_ren Fence.wide m :=
  ⟨fun blk off cap ss W hH hblk hsz => callsIn_wide.2 (AnyM.slices_Sort_int Try.sortA blk off cap ss W hH hblk hsz),
   fun p cap W => callsIn_wide.2 (AnyM.slices_Sort_int_none Try.sortA p cap W)⟩
/-- The keys of a map, ascending. -/
def skeys (es : List Ent) : List Int := (es.map (·.1)).mergeSort leI
def ivals (l : List Int) : List Value := l.map fun z => .int .i64 z
/-- A new row becomes a chunk. -/
theorem K.newRow {W w w' : World} {Ls : List Chunk} (h : K W Ls w) {v : Value} {n : Nat} {xs : List Value} (hr : w'.ownsRow w.heap.size 3 1 v n xs) (hn : v = .slice none 0 0 ↔ n = 0) (he : Ext w w') :
    ∃ o : Option Own, owfO 1 o n xs ∧ v = ov o n ∧ K W (oc 3 o xs :: Ls) w' := by
  obtain ⟨hl, hr⟩ := hr
  by_cases h0 : n = 0
  · subst h0
    have : xs = [] := List.eq_nil_of_length_eq_zero (by simpa using hl)
    subst this
    exact ⟨none, ⟨rfl, rfl⟩, hn.2 rfl, (h.ext he).addNil⟩
  · rcases hr with ⟨_, h1⟩ | ⟨g, cap, cur, rfl, hb, hg, h1, h2, h3, h4⟩
    · exact absurd h1 h0
    · have e1 : cur = ([] ++ xs ++ cur.toList.drop n).toArray := by
        apply Array.ext'
        simp only [List.nil_append]
        rw [← h4, Nat.mul_one, List.take_append_drop]
      refine ⟨some ⟨g, cap, [], cur.toList.drop n⟩, ⟨⟨h1, h2, by simpa using hl, ?_⟩, Nat.le_refl _⟩, rfl, ?_⟩
      · simp at h3 ⊢
        omega
      · have hk : K w [och 3 ⟨g, cap, [], cur.toList.drop n⟩ xs] w' := by
          refine ⟨he.os, he.tape, he.output, he.size, he.block, ?_, by simp [och]⟩
          intro e hm
          simp only [och, List.flatten_cons, List.flatten_nil, List.append_nil, List.mem_singleton] at hm
          subst hm
          refine ⟨hb, ?_⟩
          show _ = some (Obj.cells ([] ++ xs ++ List.drop n cur.toList).toArray 3 (0, 0))
          rw [← e1]
          exact hg
        exact h.compose hk
theorem keysA_spec (W : World) (Ls : List Chunk) (m : Option Nat) : Spec Try.prog 45 #[.map m] (K W Ls) (fun B : Nat => .func (.func 68) #[] #[.pointer (some ⟨B, 0, none⟩)]) (fun B => K W ([(B, row 72 [.map m])] :: Ls)) := by
  refine enter (args := [_]) Try.func45 rfl Try.ntmps45 rfl ?_
  refine c_seq ?_
  refine c_region ?_
  refine s_do (do_box rfl) rfl rfl rfl (fun b1 => ?_)
  refine s_y (y_assign rfl) rfl rfl rfl ?_
  refine s_nil ?_
  refine f_then ?_
  refine c_seq ?_
  refine c_region ?_
  refine s_y (y_makeFunc rfl rfl) rfl rfl rfl ?_
  refine s_y (y_assign rfl) rfl rfl rfl ?_
  refine s_nil ?_
  refine f_then ?_
  refine c_ret ?_
  exact f_ret b1 (res1 rfl rfl) (fun w h => h)
set_option maxHeartbeats 1000000 in
theorem sortedA_spec (W : World) (Ls : List Chunk) (i j B b c : Nat) (es : List Ent) (R R' : Chunk) (hB : Ls.getD i [] = (B, row 72 [.map (some b)]) :: R) (hb : Ls.getD j [] = (b, mobj es c) :: R') (hm : MOK es c) :
    Spec Try.prog 44 #[.func (.func 68) #[] #[.pointer (some ⟨B, 0, none⟩)]] (K W Ls) (X := { o : Option Own // owfO 1 o es.length (ivals (skeys es)) }) (fun o => ov o.1 es.length) (fun o => K W (oc 3 o.1 (ivals (skeys es)) :: Ls)) := by
  intro w hw
  have h1 := hw.at hB
  have h2 := hw.at hb
  obtain ⟨D, ho, hp, hs⟩ := ownsMap_of hm Try.underlying3 h2
  have hcell : w.cell? ⟨B, 0, none⟩ = some (.map (some b)) := by simp [World.cell?, h1, row]
  have hlen := hm.len
  have hseq : SeqGives Fence.wide 3 Try.prog 68 #[.pointer (some ⟨B, 0, none⟩)] encZ (fun ss => ss.Perm (intKeys D)) (Maps.size D) w :=
    AnyZI.keys_gives (ρ := Try.keysA_ren) { Try.keysA with } Fence.wide _ trivial rfl (by omega) B b es.length D w (heap_lt h1) hcell ho
  have cS := AnyZI.sorted_in Try.sortedA Fence.wide 6 trivial trivial trivial trivial rfl (by omega) (sortsA _) (enters_of Try.func67 (by kernel_rfl) rfl) 68 #[.pointer (some ⟨B, 0, none⟩)] trivial (enters_of Try.func68 (by kernel_rfl) rfl) _ _ (by rw [hs]; simp [maxLen]; omega) (by rw [hs]; omega) _ hseq
  change CallsIn _ _ Try.prog 44 _ _ _ at cS
  refine (callsIn_wide.1 cS).mono ?_
  rintro e w' ⟨v, ss, rfl, hS, hrow, hnil, hbel⟩
  have hp2 : ss.Perm (es.map (·.1)) := hS.trans hp
  have e1 : ss.mergeSort (fun x y => decide (x ≤ y)) = skeys es := mergeSort_of_perm_i hp2
  have e2 : ss.length = es.length := by rw [hp2.length_eq]; simp
  rw [e1, e2] at hrow
  obtain ⟨o, h3, rfl, h4⟩ := K.newRow hw hrow (by rw [hnil, ← e2]; exact List.length_eq_zero_iff.symm) (Below.ext hbel)
  exact ⟨⟨o, h3⟩, rfl, h4⟩
theorem keysB_spec (W : World) (Ls : List Chunk) (m : Option Nat) : Spec Try.prog 46 #[.map m] (K W Ls) (fun B : Nat => .func (.func 69) #[] #[.pointer (some ⟨B, 0, none⟩)]) (fun B => K W ([(B, row 73 [.map m])] :: Ls)) := by
  refine enter (args := [_]) Try.func46 rfl Try.ntmps46 rfl ?_
  refine c_seq ?_
  refine c_region ?_
  refine s_do (do_box rfl) rfl rfl rfl (fun b1 => ?_)
  refine s_y (y_assign rfl) rfl rfl rfl ?_
  refine s_nil ?_
  refine f_then ?_
  refine c_seq ?_
  refine c_region ?_
  refine s_y (y_makeFunc rfl rfl) rfl rfl rfl ?_
  refine s_y (y_assign rfl) rfl rfl rfl ?_
  refine s_nil ?_
  refine f_then ?_
  refine c_ret ?_
  exact f_ret b1 (res1 rfl rfl) (fun w h => h)
set_option maxHeartbeats 1000000 in
theorem sortedB_spec (W : World) (Ls : List Chunk) (i j B b c : Nat) (es : List Ent) (R R' : Chunk) (hB : Ls.getD i [] = (B, row 73 [.map (some b)]) :: R) (hb : Ls.getD j [] = (b, mobj es c) :: R') (hm : MOK es c) :
    Spec Try.prog 44 #[.func (.func 69) #[] #[.pointer (some ⟨B, 0, none⟩)]] (K W Ls) (X := { o : Option Own // owfO 1 o es.length (ivals (skeys es)) }) (fun o => ov o.1 es.length) (fun o => K W (oc 3 o.1 (ivals (skeys es)) :: Ls)) := by
  intro w hw
  have h1 := hw.at hB
  have h2 := hw.at hb
  obtain ⟨D, ho, hp, hs⟩ := ownsMap_of hm Try.underlying3 h2
  have hcell : w.cell? ⟨B, 0, none⟩ = some (.map (some b)) := by simp [World.cell?, h1, row]
  have hlen := hm.len
  have hseq : SeqGives Fence.wide 3 Try.prog 69 #[.pointer (some ⟨B, 0, none⟩)] encZ (fun ss => ss.Perm (intKeys D)) (Maps.size D) w :=
    AnyZI.keys_gives (ρ := Try.keysB_ren) { Try.keysB with } Fence.wide _ trivial rfl (by omega) B b es.length D w (heap_lt h1) hcell ho
  have cS := AnyZI.sorted_in Try.sortedA Fence.wide 6 trivial trivial trivial trivial rfl (by omega) (sortsA _) (enters_of Try.func67 (by kernel_rfl) rfl) 69 #[.pointer (some ⟨B, 0, none⟩)] trivial (enters_of Try.func69 (by kernel_rfl) rfl) _ _ (by rw [hs]; simp [maxLen]; omega) (by rw [hs]; omega) _ hseq
  change CallsIn _ _ Try.prog 44 _ _ _ at cS
  refine (callsIn_wide.1 cS).mono ?_
  rintro e w' ⟨v, ss, rfl, hS, hrow, hnil, hbel⟩
  have hp2 : ss.Perm (es.map (·.1)) := hS.trans hp
  have e1 : ss.mergeSort (fun x y => decide (x ≤ y)) = skeys es := mergeSort_of_perm_i hp2
  have e2 : ss.length = es.length := by rw [hp2.length_eq]; simp
  rw [e1, e2] at hrow
  obtain ⟨o, h3, rfl, h4⟩ := K.newRow hw hrow (by rw [hnil, ← e2]; exact List.length_eq_zero_iff.symm) (Below.ext hbel)
  exact ⟨⟨o, h3⟩, rfl, h4⟩
theorem keysC_spec (W : World) (Ls : List Chunk) (m : Option Nat) : Spec Try.prog 47 #[.map m] (K W Ls) (fun B : Nat => .func (.func 70) #[] #[.pointer (some ⟨B, 0, none⟩)]) (fun B => K W ([(B, row 84 [.map m])] :: Ls)) := by
  refine enter (args := [_]) Try.func47 rfl Try.ntmps47 rfl ?_
  refine c_seq ?_
  refine c_region ?_
  refine s_do (do_box rfl) rfl rfl rfl (fun b1 => ?_)
  refine s_y (y_assign rfl) rfl rfl rfl ?_
  refine s_nil ?_
  refine f_then ?_
  refine c_seq ?_
  refine c_region ?_
  refine s_y (y_makeFunc rfl rfl) rfl rfl rfl ?_
  refine s_y (y_assign rfl) rfl rfl rfl ?_
  refine s_nil ?_
  refine f_then ?_
  refine c_ret ?_
  exact f_ret b1 (res1 rfl rfl) (fun w h => h)
set_option maxHeartbeats 1000000 in
theorem sortedC_spec (W : World) (Ls : List Chunk) (i j B b c : Nat) (es : List Ent) (R R' : Chunk) (hB : Ls.getD i [] = (B, row 84 [.map (some b)]) :: R) (hb : Ls.getD j [] = (b, mobj es c) :: R') (hm : MOK es c) :
    Spec Try.prog 44 #[.func (.func 70) #[] #[.pointer (some ⟨B, 0, none⟩)]] (K W Ls) (X := { o : Option Own // owfO 1 o es.length (ivals (skeys es)) }) (fun o => ov o.1 es.length) (fun o => K W (oc 3 o.1 (ivals (skeys es)) :: Ls)) := by
  intro w hw
  have h1 := hw.at hB
  have h2 := hw.at hb
  obtain ⟨D, ho, hp, hs⟩ := ownsMap_of hm Try.underlying3 h2
  have hcell : w.cell? ⟨B, 0, none⟩ = some (.map (some b)) := by simp [World.cell?, h1, row]
  have hlen := hm.len
  have hseq : SeqGives Fence.wide 3 Try.prog 70 #[.pointer (some ⟨B, 0, none⟩)] encZ (fun ss => ss.Perm (intKeys D)) (Maps.size D) w :=
    AnyZI.keys_gives (ρ := Try.keysC_ren) { Try.keysC with } Fence.wide _ trivial rfl (by omega) B b es.length D w (heap_lt h1) hcell ho
  have cS := AnyZI.sorted_in Try.sortedA Fence.wide 6 trivial trivial trivial trivial rfl (by omega) (sortsA _) (enters_of Try.func67 (by kernel_rfl) rfl) 70 #[.pointer (some ⟨B, 0, none⟩)] trivial (enters_of Try.func70 (by kernel_rfl) rfl) _ _ (by rw [hs]; simp [maxLen]; omega) (by rw [hs]; omega) _ hseq
  change CallsIn _ _ Try.prog 44 _ _ _ at cS
  refine (callsIn_wide.1 cS).mono ?_
  rintro e w' ⟨v, ss, rfl, hS, hrow, hnil, hbel⟩
  have hp2 : ss.Perm (es.map (·.1)) := hS.trans hp
  have e1 : ss.mergeSort (fun x y => decide (x ≤ y)) = skeys es := mergeSort_of_perm_i hp2
  have e2 : ss.length = es.length := by rw [hp2.length_eq]; simp
  rw [e1, e2] at hrow
  obtain ⟨o, h3, rfl, h4⟩ := K.newRow hw hrow (by rw [hnil, ← e2]; exact List.length_eq_zero_iff.symm) (Below.ext hbel)
  exact ⟨⟨o, h3⟩, rfl, h4⟩
attribute [local irreducible] SC St Fin Sq Sw Ylds Doos Sets Enters Spec CellIs CellsAre Then Ret Rnd Chn resOK ints bools recs arr
end Go.KL
end

section
/- Contracts: slices.Sort on ints. -/
namespace Go.KL
open Go.Proofs Go.RowKit Go.Maps Go.Sort Go.Shelf
theorem putCells_mid (pre xs rest : List Value) (ts : List Int) (h : ts.length = xs.length) : putCells encZ pre.length ts.toArray (pre ++ xs ++ rest).toArray = (pre ++ ivals ts ++ rest).toArray := by
  apply Array.ext_getElem?
  intro k
  simp only [putCells, Array.getElem?_mapIdx, List.getElem?_toArray, ivals]
  by_cases h1 : k < pre.length
  · have h2 : ¬ (pre.length ≤ k ∧ k < pre.length + ts.toArray.size) := by omega
    rw [List.append_assoc, List.append_assoc, List.getElem?_append_left h1, List.getElem?_append_left h1]
    simp only [if_neg h2, Option.map_id']
  · by_cases h2 : k < pre.length + ts.length
    · have h3 : pre.length ≤ k ∧ k < pre.length + ts.toArray.size := by simp; omega
      have h4 : k - pre.length < xs.length := by omega
      have h5 : k - pre.length < ts.length := by omega
      have a1 : (pre ++ xs ++ rest)[k]? = some xs[k - pre.length] := by
        rw [List.getElem?_append_left (by rw [List.length_append]; omega), List.getElem?_append_right (by omega), List.getElem?_eq_getElem h4]
      have a2 : (pre ++ ts.map (fun z => Value.int .i64 z) ++ rest)[k]? = some (.int .i64 ts[k - pre.length]) := by
        rw [List.getElem?_append_left (by rw [List.length_append, List.length_map]; omega), List.getElem?_append_right (by omega), List.getElem?_map, List.getElem?_eq_getElem h5]
        rfl
      rw [a1, a2]
      simp only [Option.map_some, if_pos h3]
      simp [h5]
    · have h3 : ¬ (pre.length ≤ k ∧ k < pre.length + ts.toArray.size) := by simp; omega
      rw [List.getElem?_append_right (by simp; omega), List.getElem?_append_right (by simp; omega)]
      simp only [if_neg h3, Option.map_id', List.length_append, List.length_map, h]
theorem sort_spec (W : World) (Ls : List Chunk) (i : Nat) (o : Own) (zs : List Int) (hi : Ls.getD i [] = och 3 o (ivals zs)) (hn : zs.length < 4611686018427387904) :
    Spec Try.prog 67 #[osl o zs.length] (K W Ls) (fun _ : Unit => .tuple #[]) (fun _ => K W (Ls.set i (och 3 o (ivals (zs.mergeSort leI))))) := by
  intro w hw
  have hb := hw.at (c := []) hi
  have hH : Holds (Value.int .i64) w o.b o.pre.length zs.toArray := by
    intro j hj
    have hj' : j < zs.length := by simpa using hj
    refine ⟨?_, frozen_row hb⟩
    have : (o.pre ++ ivals zs ++ o.rest)[o.pre.length + j]? = some (.int .i64 zs[j]) := by
      rw [och_get (by simp [ivals]; exact hj')]
      simp [ivals, hj']
    simp only [World.cell?, hb, row, List.getElem?_toArray, this]
    simp [hj']
  refine (AnyM.slices_Sort_int Try.sortA o.b o.pre.length o.cap zs w hH (heap_lt hb) hn).mono ?_
  rintro e w' ⟨rfl, n, os, rfl⟩
  refine ⟨(), rfl, ?_⟩
  have hl : (zs.mergeSort fun x y => decide (x ≤ y)).length = (ivals zs).length := by simp [ivals]
  have h1 : K W (Ls.set i [(o.b, row 3 (o.pre ++ ivals (zs.mergeSort leI) ++ o.rest))]) (putRow (Value.int .i64) (Sort.ahead w n) o.b o.pre.length (zs.mergeSort fun x y => decide (x ≤ y)).toArray) := by
    refine hw.put hi rfl rfl rfl (by simp [Sort.ahead]) ?_ ?_
    · intro c hc
      simp [putRow, mapBlock, Array.getElem?_modify, Ne.symm hc, Sort.ahead]
    · simp only [putRow, mapBlock, Array.getElem?_modify, if_true, Sort.ahead, hb, Option.map_some, row, onCells]
      rw [putCells_mid _ _ _ _ hl]
  refine h1.ext ⟨rfl, rfl, rfl, by simp [grow], fun b hb' => ?_⟩
  simp only [grow]
  rw [Array.getElem?_append_left hb']
theorem sort0_spec (C : World → Prop) (p : Option Addr) (c : Nat) : Spec Try.prog 67 #[.slice p 0 c] C (fun _ : Unit => .tuple #[]) (fun _ => C) := by
  intro w hw
  refine (AnyM.slices_Sort_int_none Try.sortA p c w).mono ?_
  rintro e w' ⟨rfl, rfl⟩
  exact ⟨(), rfl, hw⟩
theorem sortO_spec (W : World) (Ls : List Chunk) (i : Nat) (o : Option Own) (zs : List Int) (hi : Ls.getD i [] = oc 3 o (ivals zs)) (hil : i < Ls.length) (ho : owfO 1 o zs.length (ivals zs)) (hn : zs.length < 4611686018427387904) :
    Spec Try.prog 67 #[ov o zs.length] (K W Ls) (fun _ : Unit => .tuple #[]) (fun _ => K W (Ls.set i (oc 3 o (ivals (zs.mergeSort leI))))) := by
  cases o with
  | some o => exact sort_spec W Ls i o zs hi hn
  | none =>
    have h0 : zs = [] := List.eq_nil_of_length_eq_zero ho.2
    subst h0
    have e1 : Ls.set i (oc 3 none (ivals (([] : List Int).mergeSort leI))) = Ls := by
      have h2 : Ls[i]'hil = [] := by
        have := hi
        rw [List.getD_eq_getElem?_getD, List.getElem?_eq_getElem hil] at this
        exact this
      show Ls.set i [] = Ls
      conv => rhs; rw [← List.set_getElem_self hil]
      rw [h2]
    rw [e1]
    exact sort0_spec _ none 0
end Go.KL
end

section
/- Walks: a search in a list of one number. -/
namespace Go.KL
open Go.Proofs
attribute [local irreducible] SC St Fin Sq Sw Ylds Doos Sets Enters Spec CellIs CellsAre Then Ret Rnd Chn resOK ints bools recs arr
theorem isNaN1_spec (C : World → Prop) (x : Int) : Spec Try.prog 89 #[.int .i64 x] C (fun _ : Unit => .bool false) (fun _ => C) := by
  refine enter (args := [_]) Try.func89 rfl Try.ntmps89 rfl ?_
  refine c_seq ?_
  refine c_region ?_
  refine s_y (y_assign rfl) rfl rfl rfl ?_
  refine s_nil ?_
  refine f_then ?_
  refine c_seq ?_
  refine c_region ?_
  refine s_y (y_move rfl) rfl rfl rfl ?_
  refine s_y (y_move rfl) rfl rfl rfl ?_
  refine s_y (y_F (y_neq rfl rfl) (by omega)) rfl rfl rfl ?_
  refine s_y (y_assign rfl) rfl rfl rfl ?_
  refine s_nil ?_
  refine f_then ?_
  refine c_ret ?_
  exact f_ret () (res1 rfl rfl) (fun w h => h)
theorem isNaN2_spec (C : World → Prop) (x : Int) : Spec Try.prog 72 #[.int .i64 x] C (fun _ : Unit => .bool false) (fun _ => C) := by
  refine enter (args := [_]) Try.func72 rfl Try.ntmps72 rfl ?_
  refine c_seq ?_
  refine c_region ?_
  refine s_y (y_assign rfl) rfl rfl rfl ?_
  refine s_nil ?_
  refine f_then ?_
  refine c_seq ?_
  refine c_region ?_
  refine s_y (y_move rfl) rfl rfl rfl ?_
  refine s_y (y_move rfl) rfl rfl rfl ?_
  refine s_y (y_F (y_neq rfl rfl) (by omega)) rfl rfl rfl ?_
  refine s_y (y_assign rfl) rfl rfl rfl ?_
  refine s_nil ?_
  refine f_then ?_
  refine c_ret ?_
  exact f_ret () (res1 rfl rfl) (fun w h => h)
theorem less_spec (C : World → Prop) (x y : Int) : Spec Try.prog 71 #[.int .i64 x, .int .i64 y] C (fun _ : Unit => .bool (decide (x < y))) (fun _ => C) := by
  refine enter (args := [_, _]) Try.func71 rfl Try.ntmps71 rfl ?_
  refine c_seq ?_
  refine c_region ?_
  refine s_y (y_assign rfl) rfl rfl rfl ?_
  refine s_nil ?_
  refine f_then ?_
  refine c_seq ?_
  refine c_region ?_
  refine s_y (y_move rfl) rfl rfl rfl ?_
  refine s_call (en_f rfl Try.call89) (isNaN1_spec _ _) rfl rfl rfl (fun _ => ?_)
  refine s_y (y_move rfl) rfl rfl rfl ?_
  iterate 3 refine s_skip rfl rfl rfl ?_
  refine s_y (y_pickF rfl rfl) rfl rfl rfl ?_
  refine s_y (y_move rfl) rfl rfl rfl ?_
  refine s_y (y_move rfl) rfl rfl rfl ?_
  refine s_y (y_move rfl) rfl rfl rfl ?_
  refine s_y (y_lss rfl rfl) rfl rfl rfl ?_
  refine s_y (y_pickF rfl rfl) rfl rfl rfl ?_
  refine s_y (y_assign rfl) rfl rfl rfl ?_
  refine s_nil ?_
  refine f_then ?_
  refine c_ret ?_
  exact f_ret () (res1 rfl rfl) (fun w h => h)
theorem less_no (C : World → Prop) (x : Int) : Spec Try.prog 71 #[.int .i64 x, .int .i64 x] C (fun _ : Unit => .bool false) (fun _ => C) := by
  have := less_spec C x x
  rwa [decide_eq_false (by omega)] at this
theorem bsearch1_spec (C : World → Prop) (p : Addr) (c : Nat) (x : Int) (hc : CellIs C p (.int .i64 x)) : Spec Try.prog 48 #[.slice (some p) 1 c, .int .i64 x] C (fun _ : Unit => .tuple #[.int .i64 0, .bool true]) (fun _ => C) := by
  refine enter (args := [_, _]) Try.func48 rfl Try.ntmps48 rfl ?_
  refine c_seq ?_
  refine c_region ?_
  refine s_y (y_assign rfl) rfl rfl rfl ?_
  refine s_y (y_assign rfl) rfl rfl rfl ?_
  refine s_nil ?_
  refine f_then ?_
  refine c_seq ?_
  refine c_region ?_
  refine s_y (y_move rfl) rfl rfl rfl ?_
  refine s_y (y_len Try.tab rfl rfl) rfl rfl rfl ?_
  refine s_y (y_assign rfl) rfl rfl rfl ?_
  refine s_nil ?_
  refine f_then ?_
  refine c_seq ?_
  refine c_region ?_
  refine s_y (y_move rfl) rfl rfl rfl ?_
  refine s_y (y_assign rfl) rfl rfl rfl ?_
  refine s_y (y_assign rfl) rfl rfl rfl ?_
  refine s_nil ?_
  refine f_then ?_
  refine c_seq ?_
  refine c_block ?_
  refine c_loopP (α := Bool) (fun z => [(0, .slice (some p) 1 c), (1, .int .i64 x), (6, .int .i64 1), (7, .int .i64 0), (8, .int .i64 (if z then 0 else 1))]) (fun _ => True)
    (fun _ => C) (fun z => if z then 0 else 1) false ⟨rfl, rfl, rfl, rfl, rfl, trivial⟩ trivial (fun w h => h) ?_
  rintro (_ | _) _
  · simp only [Bool.false_eq_true, if_false]
    refine c_seq ?_
    refine c_seq ?_
    refine c_region ?_
    refine s_y (y_move rfl) rfl rfl rfl ?_
    refine s_y (y_move rfl) rfl rfl rfl ?_
    refine s_y (y_T (y_lss rfl rfl) (by omega)) rfl rfl rfl ?_
    refine s_nil ?_
    refine f_then ?_
    refine c_condT rfl ?_
    refine c_skip ?_
    refine f_then ?_
    refine c_block ?_
    refine c_seq ?_
    refine c_region ?_
    refine s_y (y_move rfl) rfl rfl rfl ?_
    refine s_y (y_move rfl) rfl rfl rfl ?_
    refine s_y (y_add rfl rfl (by omega)) rfl rfl rfl ?_
    refine s_y (y_cvtId Try.tab (k' := .u64) rfl rfl rfl (IntWalk.u64_in _ (by omega))) rfl rfl rfl ?_
    refine s_y (y_shr1 (v := 0) rfl rfl (by decide) (by omega)) rfl rfl rfl ?_
    refine s_y (y_cvtId Try.tab (k' := .i64) rfl rfl rfl (IntWalk.i64_in _ (by omega))) rfl rfl rfl ?_
    refine s_y (y_assign rfl) rfl rfl rfl ?_
    refine s_nil ?_
    refine f_then ?_
    refine c_seq ?_
    refine c_region ?_
    refine s_y (y_move rfl) rfl rfl rfl ?_
    refine s_y (y_move rfl) rfl rfl rfl ?_
    refine s_y (y_indexAddrA (s := 1) Try.tab rfl rfl rfl rfl 0 rfl (by omega)) rfl rfl rfl ?_
    refine s_y (y_load Try.tab rfl rfl hc) rfl rfl rfl ?_
    refine s_y (y_move rfl) rfl rfl rfl ?_
    refine s_call (en_f rfl Try.call71) (less_no _ _) rfl rfl rfl (fun _ => ?_)
    refine s_nil ?_
    refine f_then ?_
    refine c_condF rfl ?_
    refine c_region ?_
    refine s_y (y_move rfl) rfl rfl rfl ?_
    refine s_y (y_assign rfl) rfl rfl rfl ?_
    refine s_nil ?_
    refine f_blockN ?_
    exact f_roundP true trivial Nat.zero_lt_one ⟨rfl, rfl, rfl, rfl, rfl, trivial⟩ (fun w h => h)
  simp only [if_true]
  refine c_seq ?_
  refine c_seq ?_
  refine c_region ?_
  refine s_y (y_move rfl) rfl rfl rfl ?_
  refine s_y (y_move rfl) rfl rfl rfl ?_
  refine s_y (y_F (y_lss rfl rfl) (by omega)) rfl rfl rfl ?_
  refine s_nil ?_
  refine f_then ?_
  refine c_condF rfl ?_
  refine c_exit ?_
  refine f_thenE ?_
  refine f_rndE ?_
  refine f_blockE ?_
  refine f_then ?_
  refine c_seq ?_
  refine c_region ?_
  refine s_y (y_move rfl) rfl rfl rfl ?_
  refine s_y (y_move rfl) rfl rfl rfl ?_
  refine s_y (y_move rfl) rfl rfl rfl ?_
  refine s_y (y_T (y_lss rfl rfl) (by omega)) rfl rfl rfl ?_
  refine s_y (y_move rfl) rfl rfl rfl ?_
  refine s_y (y_move rfl) rfl rfl rfl ?_
  refine s_y (y_move rfl) rfl rfl rfl ?_
  refine s_y (y_indexAddrA (s := 1) Try.tab rfl rfl rfl rfl 0 rfl (by omega)) rfl rfl rfl ?_
  refine s_y (y_load Try.tab rfl rfl hc) rfl rfl rfl ?_
  refine s_y (y_move rfl) rfl rfl rfl ?_
  refine s_y (y_T (y_eql rfl rfl) (by omega)) rfl rfl rfl ?_
  refine s_y (y_move rfl) rfl rfl rfl ?_
  iterate 9 refine s_skip rfl rfl rfl ?_
  refine s_y (y_pickT rfl rfl) rfl rfl rfl ?_
  refine s_y (y_pickT rfl rfl) rfl rfl rfl ?_
  refine s_y (y_assign rfl) rfl rfl rfl ?_
  refine s_y (y_assign rfl) rfl rfl rfl ?_
  refine s_nil ?_
  refine f_then ?_
  refine c_ret ?_
  exact f_ret () (res2 rfl rfl rfl) (fun w h => h)
end Go.KL
end

section
/- Walks: package sheet, the survey of one cell. -/
namespace Go.KL
open Go.Proofs
theorem mget_self (k : Int) (z v : Value) (b : Nat) (r : List Ent) : mget k z ((k, v, b) :: r) = v := by simp [mget]
theorem y_lookup1 {P : Program} {n : Nat} {σ : Slots} {W : World} {Ls : List Chunk} {dst : Option Tmp} {ty : TypeId} {pos : String} {after : Array Edge} {guard : Option (Nat × Bool)} (T : Tab P) (i : Nat) {x k : Operand} {t kt e : TypeId} {b c s : Nat} {q : Int} {z v : Value} {R : Chunk} (hx : ev σ x = some (.map (some b))) (hk : ev σ k = some (.int .i64 q)) (ht : T.und t = some (.map kt e)) (hkt : T.und kt = some (.int .i64))
    (hz : ∀ w, (zeroValue e).run P w = .ok z w) (hi : Ls.getD i [] = (b, mobj [(q, v, s)] c) :: R) : Ylds P n σ (K W Ls) ⟨dst, .lookup t x k false, ty, pos, after, guard⟩ v := by
  have := y_lookup (W := W) (dst := dst) (ty := ty) (pos := pos) (after := after) (guard := guard) (n := n) T i hx hk ht hkt hz hi
  rwa [mget_self] at this
theorem y_lenZ {P : Program} {n : Nat} {σ : Slots} {W : World} {Ls : List Chunk} {dst : Option Tmp} {ty : TypeId} {pos : String} {after : Array Edge} {guard : Option (Nat × Bool)} (T : Tab P) (i : Nat) (z : Int) {x : Operand} {t kt e : TypeId} {b c : Nat} {es : List Ent} {R : Chunk} (hx : ev σ x = some (.map (some b))) (ht : T.und t = some (.map kt e)) (hi : Ls.getD i [] = (b, mobj es c) :: R) (hz : (es.length : Int) = z) :
    Ylds P n σ (K W Ls) ⟨dst, .call ⟨.builtin .len, #[x], #[t]⟩, ty, pos, after, guard⟩ (.int .i64 z) := by
  subst hz
  exact y_lenM T i hx ht hi
attribute [local irreducible] SC St Fin Sq Sw Ylds Doos Sets Enters Spec CellIs CellsAre Then Ret Rnd Chn resOK ints bools recs arr
theorem index0_spec (C : World → Prop) (c : Nat) (x : Int) : Spec Try.prog 92 #[.slice none 0 c, .int .i64 x] C (fun _ : Unit => .int .i64 (-1)) (fun _ => C) := by
  refine enter (args := [_, _]) Try.func92 rfl Try.ntmps92 rfl ?_
  refine c_seq ?_
  refine c_region ?_
  refine s_y (y_assign rfl) rfl rfl rfl ?_
  refine s_nil ?_
  refine f_then ?_
  refine c_seq ?_
  refine c_seq ?_
  refine c_region ?_
  refine s_y (y_move rfl) rfl rfl rfl ?_
  refine s_y (y_len Try.tab rfl rfl) rfl rfl rfl ?_
  refine s_y (y_move rfl) rfl rfl rfl ?_
  refine s_nil ?_
  refine f_then ?_
  refine c_block ?_
  refine c_loopP (α := Unit) (fun _ => [(7, .int .i64 0), (8, .int .i64 0)]) (fun _ => True) (fun _ => C) (fun _ => 0) () ⟨rfl, rfl, trivial⟩ trivial (fun w h => h) ?_
  rintro ⟨⟩ _
  refine c_seq ?_
  refine c_region ?_
  refine s_y (y_F (y_lss rfl rfl) (by omega)) rfl rfl rfl ?_
  refine s_nil ?_
  refine f_then ?_
  refine c_seq ?_
  refine c_condF rfl ?_
  refine c_exit ?_
  refine f_thenE ?_
  refine f_rndE ?_
  refine f_blockE ?_
  refine f_then ?_
  refine c_seq ?_
  refine c_region ?_
  refine s_y (y_assign rfl) rfl rfl rfl ?_
  refine s_nil ?_
  refine f_then ?_
  refine c_ret ?_
  exact f_ret () (res1 rfl rfl) (fun w h => h)
theorem contains0_spec (C : World → Prop) (c : Nat) (x : Int) : Spec Try.prog 85 #[.slice none 0 c, .int .i64 x] C (fun _ : Unit => .bool false) (fun _ => C) := by
  refine enter (args := [_, _]) Try.func85 rfl Try.ntmps85 rfl ?_
  refine c_seq ?_
  refine c_region ?_
  refine s_y (y_assign rfl) rfl rfl rfl ?_
  refine s_nil ?_
  refine f_then ?_
  refine c_seq ?_
  refine c_region ?_
  refine s_y (y_move rfl) rfl rfl rfl ?_
  refine s_y (y_move rfl) rfl rfl rfl ?_
  refine s_call (en_f rfl Try.call92) (index0_spec _ _ _) rfl rfl rfl (fun _ => ?_)
  refine s_y (y_F (y_geq rfl rfl) (by omega)) rfl rfl rfl ?_
  refine s_y (y_assign rfl) rfl rfl rfl ?_
  refine s_nil ?_
  refine f_then ?_
  refine c_ret ?_
  exact f_ret () (res1 rfl rfl) (fun w h => h)
set_option maxRecDepth 10000 in
set_option maxHeartbeats 8000000 in
theorem survey1_spec (W : World) (Ls : List Chunk) (l : Lay) (s p sh pos : Int) (ba : Nat) (h : l.OK) (hs : SOK s) (hp : 1 ≤ p ∧ p ≤ 256) (hsh : 0 ≤ sh ∧ sh < s) (hpos : 0 ≤ pos ∧ pos < p) (hc : CellsAre (K W Ls) ⟨ba, 0, none⟩ [.int .i64 sh, .int .i64 pos]) :
    Spec Try.prog 65 #[.slice (some ⟨ba, 0, none⟩) 1 1, .func (.func 54) #[runV l s p] #[], .func (.func 63) #[runV l s p] #[]] (K W Ls)
      (X := Nat × Nat × Nat × Grown 1 1 0 [.int .i64 (noteF l s p sh pos)]) (fun x => .agg #[.map (some x.1), .map (some x.2.1), .int .i64 1])
      (fun x => K W ([(x.1, mobj [(sh, osl x.2.2.2.1 1, 0)] 1)] :: och 3 x.2.2.2.1 [.int .i64 (noteF l s p sh pos)] :: [(x.2.1, mobj [(bunOfF l s p (noteF l s p sh pos), .map (some x.2.2.1), 0)] 1)] :: [(x.2.2.1, mobj [(sh, .bool true, 0)] 1)] :: Ls)) := by
  refine enter (args := [_, _, _]) Try.func65 rfl Try.ntmps65 rfl ?_
  refine c_seq ?_
  refine c_region ?_
  refine s_do (do_alloc Try.tab rfl) rfl rfl rfl (fun b6 => ?_)
  refine s_nil ?_
  refine f_then ?_
  refine c_seq ?_
  refine c_region ?_
  refine s_do do_makeMap rfl rfl rfl (fun bn => ?_)
  refine s_do do_makeMap rfl rfl rfl (fun bb => ?_)
  refine s_y (y_build Try.tab rfl rfl rfl rfl rfl) rfl rfl rfl ?_
  refine s_do (do_alloc Try.tab rfl) rfl rfl rfl (fun b7 => ?_)
  refine s_set (set_box Try.tab 0 rfl rfl rfl rfl rfl rfl rfl) rfl rfl ?_
  refine s_nil ?_
  refine f_then ?_
  refine c_seq ?_
  refine c_seq ?_
  refine c_region ?_
  refine s_y (y_move rfl) rfl rfl rfl ?_
  refine s_y (y_len Try.tab rfl rfl) rfl rfl rfl ?_
  refine s_y (y_move rfl) rfl rfl rfl ?_
  refine s_nil ?_
  refine f_then ?_
  refine c_block ?_
  refine c_loopP (α := Option (Nat × Grown 1 1 0 [.int .i64 (noteF l s p sh pos)])) (fun z => [(1, .func (.func 54) #[runV l s p] #[]), (2, .func (.func 63) #[runV l s p] #[]), (6, .pointer (some ⟨b6, 0, none⟩)), (7, .pointer (some ⟨b7, 0, none⟩)), (15, .slice (some ⟨ba, 0, none⟩) 1 1), (16, .int .i64 1), (17, .int .i64 (match z with | none => 0 | some _ => 1))]) (fun _ => True)
    (fun z => match z with
      | none => K W ([(b7, row 75 [.map (some bn), .map (some bb), .int .i64 0])] :: [(bb, mobj [] 0)] :: [(bn, mobj [] 0)] :: [(b6, row 75 [.map none, .map none, .int .i64 0])] :: Ls)
      | some x => K W ([(b7, row 75 [.map (some bn), .map (some bb), .int .i64 1])] :: [(bn, mobj [(sh, osl x.2.1 1, 0)] 1)] :: och 3 x.2.1 [.int .i64 (noteF l s p sh pos)] :: [(bb, mobj [(bunOfF l s p (noteF l s p sh pos), .map (some x.1), 0)] 1)] :: [(x.1, mobj [(sh, .bool true, 0)] 1)] :: [(b6, row 75 [.map none, .map none, .int .i64 0])] :: Ls))
    (fun z => match z with | none => 1 | some _ => 0) none ⟨rfl, rfl, rfl, rfl, rfl, rfl, rfl, trivial⟩ trivial (fun w h => h) ?_
  rintro (_ | ⟨bi, o⟩) _
  · dsimp only
    refine c_seq ?_
    refine c_region ?_
    refine s_y (y_T (y_lss rfl rfl) (by omega)) rfl rfl rfl ?_
    refine s_nil ?_
    refine f_then ?_
    refine c_seq ?_
    refine c_condT rfl ?_
    refine c_skip ?_
    refine f_then ?_
    refine c_seq ?_
    refine c_block ?_
    refine c_seq ?_
    refine c_region ?_
    refine s_y (y_indexAddr0 (s := 2) Try.tab rfl rfl rfl rfl 0 rfl (by omega)) rfl rfl rfl ?_
    refine s_y (y_loadA Try.tab rfl rfl rfl rfl hc.cons.cons.cons.cons) rfl rfl rfl ?_
    refine s_do (do_alloc Try.tab rfl) rfl rfl rfl (fun b9 => ?_)
    refine s_set (set_box Try.tab 0 rfl rfl rfl rfl rfl rfl rfl) rfl rfl ?_
    refine s_nil ?_
    refine f_then ?_
    refine c_seq ?_
    refine c_region ?_
    refine s_y (y_move rfl) rfl rfl rfl ?_
    refine s_y (y_loadA Try.tab rfl rfl rfl rfl (cells_row0 0 rfl rfl)) rfl rfl rfl ?_
    refine s_call (en_m rfl rfl Try.call54) (note_spec W _ l s p sh pos h hs hp hsh hpos) rfl rfl rfl (fun _ => ?_)
    refine s_y (y_assign rfl) rfl rfl rfl ?_
    refine s_nil ?_
    refine f_then ?_
    refine c_seq ?_
    refine c_seq ?_
    refine c_region ?_
    refine s_y (y_fieldAddr0 Try.tab rfl rfl rfl rfl rfl) rfl rfl rfl ?_
    refine s_y (y_load Try.tab rfl rfl (cell_row 1 rfl rfl)) rfl rfl rfl ?_
    refine s_y (y_fieldAddr0 Try.tab rfl rfl rfl rfl rfl) rfl rfl rfl ?_
    refine s_y (y_load Try.tab rfl rfl (cell_row 0 rfl rfl)) rfl rfl rfl ?_
    refine s_y (y_lookup Try.tab 3 rfl rfl rfl rfl Try.zeroValue29 rfl) rfl rfl rfl ?_
    refine s_y (y_move rfl) rfl rfl rfl ?_
    refine s_call (en_f rfl Try.call85) (contains0_spec _ _ _) rfl rfl rfl (fun _ => ?_)
    refine s_nil ?_
    refine f_then ?_
    refine c_condF rfl ?_
    refine c_skip ?_
    refine f_then ?_
    refine c_seq ?_
    refine c_region ?_
    refine s_y (y_fieldAddrB Try.tab 2 rfl rfl rfl rfl rfl) rfl rfl rfl ?_
    refine s_y (y_load Try.tab rfl rfl (cell_row 1 rfl rfl)) rfl rfl rfl ?_
    refine s_y (y_add rfl rfl (by omega)) rfl rfl rfl ?_
    refine s_y (y_fieldAddrB Try.tab 2 rfl rfl rfl rfl rfl) rfl rfl rfl ?_
    refine s_set (set_rowB Try.tab 1 rfl rfl rfl rfl rfl rfl) rfl rfl ?_
    refine s_nil ?_
    refine f_then ?_
    refine c_seq ?_
    refine SC.cls (C' := (K W ([(b9, row 37 [.int .i64 sh, .int .i64 pos])] :: [(b7, row 75 [.map (some bn), .map (some bb), .int .i64 1])] :: [(bb, mobj [] 0)] :: [(bn, mobj [] 0)] :: [(b6, row 75 [.map none, .map none, .int .i64 0])] :: Ls))) ?_ (fun w h => h)
    refine c_plan [.c 0, .c 1, .c 2, .c 3, .c 4, .c 5, .c 6, .c 7, .c 8, .c 9, .s 10, .s 11, .s 12] [12] ((K W ([(b9, row 37 [.int .i64 sh, .int .i64 pos])] :: [(b7, row 75 [.map (some bn), .map (some bb), .int .i64 1])] :: [(bb, mobj [] 0)] :: [(bn, mobj [] 0)] :: [(b6, row 75 [.map none, .map none, .int .i64 0])] :: Ls))) Try.mixed (by kernel_rfl) rfl K.cl ?_
    refine d_c rfl (Qui.ylds (y_fieldAddr0 Try.tab rfl rfl rfl rfl rfl)) rfl rfl rfl (fun _ h => h) K.cl ?_
    refine d_c rfl (Qui.ylds (y_load Try.tab rfl rfl (cell_row 1 rfl rfl))) rfl rfl rfl (fun _ h => h) K.cl ?_
    refine d_c rfl (Qui.ylds (y_fieldAddr0 Try.tab rfl rfl rfl rfl rfl)) rfl rfl rfl (fun _ h => h) K.cl ?_
    refine d_c rfl (Qui.ylds (y_load Try.tab rfl rfl (cell_row 0 rfl rfl))) rfl rfl rfl (fun _ h => h) K.cl ?_
    refine d_c rfl (Qui.ylds (y_fieldAddr0 Try.tab rfl rfl rfl rfl rfl)) rfl rfl rfl (fun _ h => h) K.cl ?_
    refine d_c rfl (Qui.ylds (y_load Try.tab rfl rfl (cell_row 1 rfl rfl))) rfl rfl rfl (fun _ h => h) K.cl ?_
    refine d_c rfl (Qui.ylds (y_fieldAddr0 Try.tab rfl rfl rfl rfl rfl)) rfl rfl rfl (fun _ h => h) K.cl ?_
    refine d_c rfl (Qui.ylds (y_load Try.tab rfl rfl (cell_row 0 rfl rfl))) rfl rfl rfl (fun _ h => h) K.cl ?_
    refine d_c rfl (Qui.ylds (y_lookup Try.tab 3 rfl rfl rfl rfl Try.zeroValue29 rfl)) rfl rfl rfl (fun _ h => h) K.cl ?_
    refine d_c rfl (Qui.ylds (y_move rfl)) rfl rfl rfl (fun _ h => h) K.cl ?_
    refine d_s rfl (do_buildSlice1 Try.tab ⟨rfl, rfl, rfl, rfl⟩ rfl rfl rfl rfl) rfl rfl rfl (fun _ => K.cl) (fun _ _ _ h => h.tail) (fun b45 => ?_)
    refine d_s rfl (do_append_nil (by_ := 8) (s := 1) Try.tab (news := [.int .i64 (noteF l s p sh pos)]) rfl rfl ⟨rfl, rfl, rfl, rfl⟩ rfl (cells_row0 0 rfl rfl) rfl (by omega) (by unfold maxLen; omega) (by omega)) rfl rfl rfl (fun _ => K.cl) (fun _ _ _ h => h.tail.tail) (fun o => ?_)
    refine d_set rfl (set_map Try.tab 5 rfl rfl rfl rfl rfl rfl) rfl rfl K.cl (fun h => by cases h) ?_
    refine d_nil ?_
    refine f_then ?_
    refine c_seq ?_
    refine c_region ?_
    refine s_y (y_move rfl) rfl rfl rfl ?_
    refine s_y (y_move rfl) rfl rfl rfl ?_
    refine St.cls (C' := K W (och 3 o.1 [.int .i64 (noteF l s p sh pos)] :: [(b9, row 37 [.int .i64 sh, .int .i64 pos])] :: [(b7, row 75 [.map (some bn), .map (some bb), .int .i64 1])] :: [(bb, mobj [] 0)] :: [(bn, mobj [(sh, osl o.1 1, 0)] 1)] :: [(b6, row 75 [.map none, .map none, .int .i64 0])] :: Ls)) ?_ (fun w h => h.dropAt 1)
    refine s_call (en_m rfl rfl Try.call63) (bundleOf_spec W _ l s p (noteF l s p sh pos) h hs hp (note_bd l s p sh pos h hp hsh hpos)) rfl rfl rfl (fun _ => ?_)
    refine s_y (y_assign rfl) rfl rfl rfl ?_
    refine s_nil ?_
    refine f_then ?_
    refine c_seq ?_
    refine c_seq ?_
    refine c_region ?_
    refine s_y (y_fieldAddrB Try.tab 1 rfl rfl rfl rfl rfl) rfl rfl rfl ?_
    refine s_y (y_load Try.tab rfl rfl (cell_row 2 rfl rfl)) rfl rfl rfl ?_
    refine s_y (y_move rfl) rfl rfl rfl ?_
    refine s_y (y_lookup Try.tab 3 rfl rfl rfl rfl Try.zeroValue84 rfl) rfl rfl rfl ?_
    refine s_y (y_eqlM0 Try.tab rfl rfl) rfl rfl rfl ?_
    refine s_nil ?_
    refine f_then ?_
    refine c_condT rfl ?_
    refine c_region ?_
    refine s_y (y_fieldAddrB Try.tab 1 rfl rfl rfl rfl rfl) rfl rfl rfl ?_
    refine s_y (y_load Try.tab rfl rfl (cell_row 2 rfl rfl)) rfl rfl rfl ?_
    refine s_y (y_move rfl) rfl rfl rfl ?_
    refine s_do do_makeMap rfl rfl rfl (fun bi => ?_)
    refine s_set (set_map Try.tab 4 rfl rfl rfl rfl rfl rfl) rfl rfl ?_
    refine St.cls (C' := K W ([(bi, mobj [] 0)] :: och 3 o.1 [.int .i64 (noteF l s p sh pos)] :: [(b9, row 37 [.int .i64 sh, .int .i64 pos])] :: [(b7, row 75 [.map (some bn), .map (some bb), .int .i64 1])] :: [(bb, mobj [(bunOfF l s p (noteF l s p sh pos), .map (some bi), 0)] 1)] :: [(bn, mobj [(sh, osl o.1 1, 0)] 1)] :: [(b6, row 75 [.map none, .map none, .int .i64 0])] :: Ls)) ?_ (fun w h => h)
    refine s_nil ?_
    refine f_then ?_
    refine c_region ?_
    refine s_y (y_fieldAddrB Try.tab 1 rfl rfl rfl rfl rfl) rfl rfl rfl ?_
    refine s_y (y_load Try.tab rfl rfl (cell_row 3 rfl rfl)) rfl rfl rfl ?_
    refine s_y (y_move rfl) rfl rfl rfl ?_
    refine s_y (y_lookup1 Try.tab 4 rfl rfl rfl rfl Try.zeroValue84 rfl) rfl rfl rfl ?_
    refine s_y (y_fieldAddr0 Try.tab rfl rfl rfl rfl rfl) rfl rfl rfl ?_
    refine s_y (y_load Try.tab rfl rfl (cell_row 2 rfl rfl)) rfl rfl rfl ?_
    refine s_set (set_map Try.tab 0 rfl rfl rfl rfl rfl rfl) rfl rfl ?_
    refine s_nil ?_
    refine f_blockN ?_
    refine f_then ?_
    refine c_region ?_
    refine s_y (y_add rfl rfl (by omega)) rfl rfl rfl ?_
    refine s_y (y_move rfl) rfl rfl rfl ?_
    refine s_nil ?_
    exact f_roundP (some (bi, o)) trivial Nat.zero_lt_one ⟨rfl, rfl, rfl, rfl, rfl, rfl, rfl, trivial⟩ (fun w h => (h.dropAt 2).fronts [3, 2, 4, 4])
  · dsimp only
    refine c_seq ?_
    refine c_region ?_
    refine s_y (y_F (y_lss rfl rfl) (by omega)) rfl rfl rfl ?_
    refine s_nil ?_
    refine f_then ?_
    refine c_seq ?_
    refine c_condF rfl ?_
    refine c_exit ?_
    refine f_thenE ?_
    refine f_rndE ?_
    refine f_blockE ?_
    refine f_then ?_
    refine c_seq ?_
    refine c_region ?_
    refine s_y (y_loadA Try.tab rfl rfl rfl rfl (cells_row0 0 rfl rfl)) rfl rfl rfl ?_
    refine s_set (set_box Try.tab 5 rfl rfl rfl rfl rfl rfl rfl) rfl rfl ?_
    refine s_nil ?_
    refine f_then ?_
    refine c_ret ?_
    exact f_ret (bn, bb, bi, o) (resA Try.tab rfl rfl rfl rfl rfl (cells_row0 5 rfl rfl)) (fun w h => (h.tail).dropAt 4)
end Go.KL
end

section
/- Walks: package sheet, what a repair of one cell is asked. -/
namespace Go.KL
open Go.Proofs
structure Cos where
  r : Int
  s : Int
  o : Int
abbrev Cos.v (c : Cos) : Value := .agg #[.int .i64 c.r, .int .i64 c.s, .int .i64 c.o]
structure Cos.OK (c : Cos) : Prop where
  r : 0 ≤ c.r ∧ c.r ≤ 1048576
  s : 0 ≤ c.s ∧ c.s ≤ 1048576
  o : 0 ≤ c.o ∧ c.o ≤ 1048576
attribute [local irreducible] SC St Fin Sq Sw Ylds Doos Sets Enters Spec CellIs CellsAre Then Ret Rnd Chn resOK ints bools recs arr
set_option maxRecDepth 10000 in
set_option maxHeartbeats 8000000 in
theorem examine1_spec (W : World) (Ls : List Chunk) (l : Lay) (s sh pos : Int) (c : Cos) (ba : Nat) (h : Gd l s) (hc : CellIn l s sh pos) (hcst : c.OK) (hca : CellsAre (K W Ls) ⟨ba, 0, none⟩ [.int .i64 sh, .int .i64 pos]) :
    Spec Try.prog 43 #[l.v, .int .i64 s, .slice (some ⟨ba, 0, none⟩) 1 1, c.v, .slice none 0 0] (K W Ls)
      (X := Nat × Nat × Nat × Grown 1 1 0 [.int .i64 (noteF l s (np l) sh pos)]) (fun x => .tuple #[.agg #[.map (some x.1), .map (some x.2.1), .int .i64 1], .int .i64 0])
      (fun x => K W ([(x.1, mobj [(sh, osl x.2.2.2.1 1, 0)] 1)] :: och 3 x.2.2.2.1 [.int .i64 (noteF l s (np l) sh pos)] :: [(x.2.1, mobj [(bunOfF l s (np l) (noteF l s (np l) sh pos), .map (some x.2.2.1), 0)] 1)] :: [(x.2.2.1, mobj [(sh, .bool true, 0)] 1)] :: Ls)) := by
  have hp := np_bd h.1; have h2 := h.2
  have g1 := hcst.r; have g2 := hcst.s; have g3 := hcst.o
  refine enter (args := [_, _, _, _, _]) Try.func43 rfl Try.ntmps43 rfl ?_
  refine c_seq ?_
  refine c_region ?_
  refine s_do (do_box rfl) rfl rfl rfl (fun b5 => ?_)
  refine s_do (do_box rfl) rfl rfl rfl (fun b8 => ?_)
  refine s_do (do_alloc Try.tab rfl) rfl rfl rfl (fun b10 => ?_)
  refine s_y (y_assign rfl) rfl rfl rfl ?_
  refine s_nil ?_
  refine f_then ?_
  refine c_seq ?_
  refine c_region ?_
  refine s_y (y_loadA Try.tab rfl rfl rfl rfl (cells_row0 2 rfl rfl)) rfl rfl rfl ?_
  refine s_y (y_move rfl) rfl rfl rfl ?_
  refine s_call (en_f rfl Try.call52) (newRun_gd _ _ _ _ h) rfl rfl rfl (fun _ => ?_)
  refine s_y (y_move rfl) rfl rfl rfl ?_
  refine s_y (y_extract rfl rfl) rfl rfl rfl ?_
  refine s_y (y_extract rfl rfl) rfl rfl rfl ?_
  refine s_do (do_alloc Try.tab rfl) rfl rfl rfl (fun b12 => ?_)
  refine s_set (set_box Try.tab 0 rfl rfl rfl rfl rfl rfl rfl) rfl rfl ?_
  refine s_y (y_assign rfl) rfl rfl rfl ?_
  refine s_nil ?_
  refine f_then ?_
  refine c_seq ?_
  refine c_seq ?_
  refine c_region ?_
  refine s_y (y_move rfl) rfl rfl rfl ?_
  refine s_y (y_F (y_neq rfl rfl) (by omega)) rfl rfl rfl ?_
  refine s_nil ?_
  refine f_then ?_
  refine c_condF rfl ?_
  refine c_skip ?_
  refine f_then ?_
  refine c_seq ?_
  refine c_seq ?_
  refine c_region ?_
  refine s_y (y_move rfl) rfl rfl rfl ?_
  refine s_y (y_len Try.tab rfl rfl) rfl rfl rfl ?_
  refine s_y (y_move rfl) rfl rfl rfl ?_
  refine s_nil ?_
  refine f_then ?_
  refine c_block ?_
  refine c_loopP (α := Bool) (fun z => [(1, .int .i64 s), (2, .slice (some ⟨ba, 0, none⟩) 1 1), (4, .slice none 0 0), (8, .pointer (some ⟨b8, 0, none⟩)), (10, .pointer (some ⟨b10, 0, none⟩)), (12, .pointer (some ⟨b12, 0, none⟩)), (29, .slice (some ⟨ba, 0, none⟩) 1 1), (30, .int .i64 1), (31, .int .i64 (if z then 1 else 0))]) (fun _ => True)
    (fun _ => (K W ([(b12, row 95 [.int .i64 l.r, .int .i64 l.c, .int .i64 l.m, .int .i64 l.b, .bool l.d, .int .i64 s, .int .i64 (np l)])] :: [(b10, row 75 [.map none, .map none, .int .i64 0])] :: [(b8, row 26 [.int .i64 c.r, .int .i64 c.s, .int .i64 c.o])] :: [(b5, row 23 l.v.cells.toList)] :: Ls))) (fun z => if z then 0 else 1) false ⟨rfl, rfl, rfl, rfl, rfl, rfl, rfl, rfl, rfl, trivial⟩ trivial (fun w h => h) ?_
  rintro (_ | _) _
  · simp only [Bool.false_eq_true, if_false]
    refine c_seq ?_
    refine c_region ?_
    refine s_y (y_T (y_lss rfl rfl) (by omega)) rfl rfl rfl ?_
    refine s_nil ?_
    refine f_then ?_
    refine c_seq ?_
    refine c_condT rfl ?_
    refine c_skip ?_
    refine f_then ?_
    refine c_seq ?_
    refine c_block ?_
    refine c_seq ?_
    refine c_region ?_
    refine s_y (y_indexAddr0 (s := 2) Try.tab rfl rfl rfl rfl 0 rfl (by omega)) rfl rfl rfl ?_
    refine s_y (y_loadA Try.tab rfl rfl rfl rfl hca.cons.cons.cons.cons) rfl rfl rfl ?_
    refine s_do (do_alloc Try.tab rfl) rfl rfl rfl (fun b15 => ?_)
    refine s_set (set_box Try.tab 0 rfl rfl rfl rfl rfl rfl rfl) rfl rfl ?_
    refine s_nil ?_
    refine f_then ?_
    refine c_seq ?_
    refine c_region ?_
    refine s_y (y_loadA Try.tab rfl rfl rfl rfl (cells_row0 1 rfl rfl)) rfl rfl rfl ?_
    refine s_y (y_loadA Try.tab rfl rfl rfl rfl (cells_row0 0 rfl rfl)) rfl rfl rfl ?_
    refine s_call (en_f rfl Try.call53) (has_yes _ _ _ _ _ _ _ (by omega) (by omega) hc) rfl rfl rfl (fun _ => ?_)
    refine s_y (y_notT rfl) rfl rfl rfl ?_
    refine s_nil ?_
    refine f_then ?_
    refine c_condF rfl ?_
    refine c_skip ?_
    refine f_blockN ?_
    refine f_then ?_
    refine c_region ?_
    refine s_y (y_add rfl rfl (by omega)) rfl rfl rfl ?_
    refine s_y (y_move rfl) rfl rfl rfl ?_
    refine s_nil ?_
    exact f_roundP true trivial Nat.zero_lt_one ⟨rfl, rfl, rfl, rfl, rfl, rfl, rfl, rfl, rfl, trivial⟩ (fun w h => h.tail)
  simp only [if_true]
  refine c_seq ?_
  refine c_region ?_
  refine s_y (y_F (y_lss rfl rfl) (by omega)) rfl rfl rfl ?_
  refine s_nil ?_
  refine f_then ?_
  refine c_seq ?_
  refine c_condF rfl ?_
  refine c_exit ?_
  refine f_thenE ?_
  refine f_rndE ?_
  refine f_blockE ?_
  refine f_then ?_
  refine c_seq ?_
  refine c_seq ?_
  refine c_region ?_
  refine s_y (y_move rfl) rfl rfl rfl ?_
  refine s_y (y_len Try.tab rfl rfl) rfl rfl rfl ?_
  refine s_y (y_move rfl) rfl rfl rfl ?_
  refine s_nil ?_
  refine f_then ?_
  refine c_block ?_
  refine c_loopP (α := Unit) (fun _ => [(2, .slice (some ⟨ba, 0, none⟩) 1 1), (8, .pointer (some ⟨b8, 0, none⟩)), (10, .pointer (some ⟨b10, 0, none⟩)), (12, .pointer (some ⟨b12, 0, none⟩)), (42, .int .i64 0), (43, .int .i64 0)]) (fun _ => True)
    (fun _ => (K W ([(b12, row 95 [.int .i64 l.r, .int .i64 l.c, .int .i64 l.m, .int .i64 l.b, .bool l.d, .int .i64 s, .int .i64 (np l)])] :: [(b10, row 75 [.map none, .map none, .int .i64 0])] :: [(b8, row 26 [.int .i64 c.r, .int .i64 c.s, .int .i64 c.o])] :: [(b5, row 23 l.v.cells.toList)] :: Ls))) (fun _ => 0) () ⟨rfl, rfl, rfl, rfl, rfl, rfl, trivial⟩ trivial (fun w h => h) ?_
  rintro ⟨⟩ _
  refine c_seq ?_
  refine c_region ?_
  refine s_y (y_F (y_lss rfl rfl) (by omega)) rfl rfl rfl ?_
  refine s_nil ?_
  refine f_then ?_
  refine c_seq ?_
  refine c_condF rfl ?_
  refine c_exit ?_
  refine f_thenE ?_
  refine f_rndE ?_
  refine f_blockE ?_
  refine f_then ?_
  refine c_seq ?_
  refine c_seq ?_
  refine c_region ?_
  refine s_y (y_fieldAddr0 Try.tab rfl rfl rfl rfl rfl) rfl rfl rfl ?_
  refine s_y (y_load Try.tab rfl rfl (cell_row 2 rfl rfl)) rfl rfl rfl ?_
  refine s_call (en_f rfl Try.call55) (sw_yes _ (by omega)) rfl rfl rfl (fun _ => ?_)
  refine s_y (y_notT rfl) rfl rfl rfl ?_
  refine s_y (y_move rfl) rfl rfl rfl ?_
  refine s_y (y_fieldAddrB Try.tab 1 rfl rfl rfl rfl rfl) rfl rfl rfl ?_
  refine s_y (y_load Try.tab rfl rfl (cell_row 2 rfl rfl)) rfl rfl rfl ?_
  refine s_call (en_f rfl Try.call55) (sw_yes _ (by omega)) rfl rfl rfl (fun _ => ?_)
  refine s_y (y_notT rfl) rfl rfl rfl ?_
  refine s_y (y_pickF rfl rfl) rfl rfl rfl ?_
  refine s_y (y_move rfl) rfl rfl rfl ?_
  refine s_y (y_fieldAddrB Try.tab 2 rfl rfl rfl rfl rfl) rfl rfl rfl ?_
  refine s_y (y_load Try.tab rfl rfl (cell_row 2 rfl rfl)) rfl rfl rfl ?_
  refine s_call (en_f rfl Try.call55) (sw_yes _ (by omega)) rfl rfl rfl (fun _ => ?_)
  refine s_y (y_notT rfl) rfl rfl rfl ?_
  refine s_y (y_pickF rfl rfl) rfl rfl rfl ?_
  refine s_nil ?_
  refine f_then ?_
  refine c_condF rfl ?_
  refine c_skip ?_
  refine f_then ?_
  refine c_seq ?_
  refine c_region ?_
  refine s_y (y_move rfl) rfl rfl rfl ?_
  refine s_y (y_loadA Try.tab rfl rfl rfl rfl (cells_row0 0 rfl rfl)) rfl rfl rfl ?_
  refine s_y (y_makeFunc rfl rfl) rfl rfl rfl ?_
  refine s_y (y_loadA Try.tab rfl rfl rfl rfl (cells_row0 0 rfl rfl)) rfl rfl rfl ?_
  refine s_y (y_makeFunc rfl rfl) rfl rfl rfl ?_
  refine s_call (en_f rfl Try.call65) (survey1_spec W ([(b12, row 95 [.int .i64 l.r, .int .i64 l.c, .int .i64 l.m, .int .i64 l.b, .bool l.d, .int .i64 s, .int .i64 (np l)])] :: [(b10, row 75 [.map none, .map none, .int .i64 0])] :: [(b8, row 26 [.int .i64 c.r, .int .i64 c.s, .int .i64 c.o])] :: [(b5, row 23 l.v.cells.toList)] :: Ls) l s (np l) sh pos ba h.1 h.2 hp hc.1 hc.2 (hca.cls fun w h => h.tail.tail.tail.tail)) rfl rfl rfl (fun x => ?_)
  obtain ⟨bn, bb, bi, o⟩ := x
  dsimp only
  refine s_do (do_alloc Try.tab rfl) rfl rfl rfl (fun b18 => ?_)
  refine s_set (set_box Try.tab 0 rfl rfl rfl rfl rfl rfl rfl) rfl rfl ?_
  refine s_nil ?_
  refine f_then ?_
  refine c_seq ?_
  refine c_seq ?_
  refine c_region ?_
  refine s_y (y_fieldAddrB Try.tab 2 rfl rfl rfl rfl rfl) rfl rfl rfl ?_
  refine s_y (y_load Try.tab rfl rfl (cell_row 0 rfl rfl)) rfl rfl rfl ?_
  refine s_y (y_F (y_gtr rfl rfl) (by omega)) rfl rfl rfl ?_
  refine s_y (y_move rfl) rfl rfl rfl ?_
  refine s_y (y_fieldAddr0 Try.tab rfl rfl rfl rfl rfl) rfl rfl rfl ?_
  refine s_y (y_load Try.tab rfl rfl (cell_row 0 rfl rfl)) rfl rfl rfl ?_
  refine s_y (y_lenZ Try.tab 1 1 rfl rfl rfl rfl) rfl rfl rfl ?_
  refine s_y (y_fieldAddrB Try.tab 1 rfl rfl rfl rfl rfl) rfl rfl rfl ?_
  refine s_y (y_load Try.tab rfl rfl (cell_row 0 rfl rfl)) rfl rfl rfl ?_
  refine s_y (y_lenZ Try.tab 3 1 rfl rfl rfl rfl) rfl rfl rfl ?_
  refine s_y (y_add rfl rfl (by omega)) rfl rfl rfl ?_
  refine s_y (y_F (y_gtr rfl rfl) (by omega)) rfl rfl rfl ?_
  refine s_y (y_pickF rfl rfl) rfl rfl rfl ?_
  refine s_nil ?_
  refine f_then ?_
  refine c_condF rfl ?_
  refine c_skip ?_
  refine f_then ?_
  refine c_seq ?_
  refine c_region ?_
  refine s_y (y_loadA Try.tab rfl rfl rfl rfl (cells_row0 0 rfl rfl)) rfl rfl rfl ?_
  refine s_set (set_box Try.tab 6 rfl rfl rfl rfl rfl rfl rfl) rfl rfl ?_
  refine s_y (y_assign rfl) rfl rfl rfl ?_
  refine s_nil ?_
  refine f_then ?_
  refine c_ret ?_
  exact f_ret (bn, bb, bi, o) (resA1 Try.tab rfl rfl rfl rfl rfl rfl (cells_row0 6 rfl rfl)) (fun w h => (((h.tail.dropAt 4).dropAt 4).dropAt 4).dropAt 4)
end Go.KL
end

section
/- Walks: package sheet, the repair of one cell that prints nothing again. -/
namespace Go.KL
open Go.Proofs
attribute [local irreducible] SC St Fin Sq Sw Ylds Doos Sets Enters Spec CellIs CellsAre Then Ret Rnd Chn resOK ints bools recs arr
set_option maxRecDepth 10000 in
set_option maxHeartbeats 8000000 in
theorem repair1_spec (W : World) (Ls : List Chunk) (bn bb bi : Nat) (sh N B : Int) (o : Grown 1 1 0 [.int .i64 N]) (c : Cos) (hcst : c.OK) (hB : -9223372036854775808 ≤ B ∧ B ≤ 9223372036854775807) :
    Spec Try.prog 50 #[.agg #[.map (some bn), .map (some bb), .int .i64 1], c.v, .slice none 0 0]
      (K W ([(bn, mobj [(sh, osl o.1 1, 0)] 1)] :: och 3 o.1 [.int .i64 N] :: [(bb, mobj [(B, .map (some bi), 0)] 1)] :: [(bi, mobj [(sh, .bool true, 0)] 1)] :: Ls))
      (X := Option Addr × Nat × Option Addr × Nat) (fun x => .agg #[.int .i64 (c.s + c.o), .slice none 0 0, .slice x.1 1 x.2.1, .slice x.2.2.1 1 x.2.2.2])
      (fun _ => K W Ls) := by
  have g1 := hcst.r; have g2 := hcst.s; have g3 := hcst.o
  refine enter (args := [_, _, _]) Try.func50 rfl Try.ntmps50 rfl ?_
  refine c_seq ?_
  refine c_region ?_
  refine s_do (do_box rfl) rfl rfl rfl (fun b3 => ?_)
  refine s_do (do_box rfl) rfl rfl rfl (fun b4 => ?_)
  refine s_do (do_alloc Try.tab rfl) rfl rfl rfl (fun b6 => ?_)
  refine s_nil ?_
  refine f_then ?_
  refine c_seq ?_
  refine c_region ?_
  refine s_y (y_move rfl) rfl rfl rfl ?_
  refine s_y (y_move rfl) rfl rfl rfl ?_
  refine s_y (y_len Try.tab rfl rfl) rfl rfl rfl ?_
  refine s_y (y_fieldAddr0 Try.tab rfl rfl rfl rfl rfl) rfl rfl rfl ?_
  refine s_y (y_load Try.tab rfl rfl (cell_row 1 rfl rfl)) rfl rfl rfl ?_
  refine s_y (y_mul rfl rfl (by omega)) rfl rfl rfl ?_
  refine s_y (y_build Try.tab rfl rfl rfl rfl rfl) rfl rfl rfl ?_
  refine s_do (do_alloc Try.tab rfl) rfl rfl rfl (fun b7 => ?_)
  refine s_set (set_box Try.tab 0 rfl rfl rfl rfl rfl rfl rfl) rfl rfl ?_
  refine s_nil ?_
  refine f_then ?_
  refine c_seq ?_
  refine c_seq ?_
  refine c_region ?_
  refine s_y (y_move rfl) rfl rfl rfl ?_
  refine s_y (y_len Try.tab rfl rfl) rfl rfl rfl ?_
  refine s_y (y_move rfl) rfl rfl rfl ?_
  refine s_nil ?_
  refine f_then ?_
  refine c_block ?_
  have e0 : ((0 : Nat) : Int) * c.r = 0 := by simp
  rw [e0]
  refine c_loopP (α := Unit) (fun _ => [(3, .pointer (some ⟨b3, 0, none⟩)), (4, .pointer (some ⟨b4, 0, none⟩)), (6, .pointer (some ⟨b6, 0, none⟩)), (7, .pointer (some ⟨b7, 0, none⟩)), (21, .slice none 0 0), (22, .int .i64 0), (23, .int .i64 0)]) (fun _ => True)
    (fun _ => K W ([(b7, row 32 [.int .i64 0, .slice none 0 0, .slice none 0 0, .slice none 0 0])] :: [(b6, row 32 [.int .i64 0, .slice none 0 0, .slice none 0 0, .slice none 0 0])] :: [(b4, row 26 [.int .i64 c.r, .int .i64 c.s, .int .i64 c.o])] :: [(b3, row 75 [.map (some bn), .map (some bb), .int .i64 1])] :: [(bn, mobj [(sh, osl o.1 1, 0)] 1)] :: och 3 o.1 [.int .i64 N] :: [(bb, mobj [(B, .map (some bi), 0)] 1)] :: [(bi, mobj [(sh, .bool true, 0)] 1)] :: Ls)) (fun _ => 0) () ⟨rfl, rfl, rfl, rfl, rfl, rfl, rfl, trivial⟩ trivial (fun w h => h) ?_
  rintro ⟨⟩ _
  refine c_seq ?_
  refine c_region ?_
  refine s_y (y_F (y_lss rfl rfl) (by omega)) rfl rfl rfl ?_
  refine s_nil ?_
  refine f_then ?_
  refine c_seq ?_
  refine c_condF rfl ?_
  refine c_exit ?_
  refine f_thenE ?_
  refine f_rndE ?_
  refine f_blockE ?_
  refine f_then ?_
  refine c_seq ?_
  refine c_seq ?_
  refine c_region ?_
  refine s_y (y_fieldAddr0 Try.tab rfl rfl rfl rfl rfl) rfl rfl rfl ?_
  refine s_y (y_load Try.tab rfl rfl (cell_row 3 rfl rfl)) rfl rfl rfl ?_
  refine s_do (do_range Try.tab 4 rfl rfl rfl) rfl rfl rfl (fun br => ?_)
  refine s_nil ?_
  refine f_then ?_
  refine c_block ?_
  refine c_loopP (α := Option (Grown 1 1 0 [.int .i64 N])) (fun _ => [(3, .pointer (some ⟨b3, 0, none⟩)), (4, .pointer (some ⟨b4, 0, none⟩)), (6, .pointer (some ⟨b6, 0, none⟩)), (7, .pointer (some ⟨b7, 0, none⟩)), (49, .pointer (some ⟨br, 0, none⟩))]) (fun _ => True)
    (fun z => match z with
      | none => K W ([(br, mit bn 1 #[])] :: [(b7, row 32 [.int .i64 0, .slice none 0 0, .slice none 0 0, .slice none 0 0])] :: [(b6, row 32 [.int .i64 0, .slice none 0 0, .slice none 0 0, .slice none 0 0])] :: [(b4, row 26 [.int .i64 c.r, .int .i64 c.s, .int .i64 c.o])] :: [(b3, row 75 [.map (some bn), .map (some bb), .int .i64 1])] :: [(bn, mobj [(sh, osl o.1 1, 0)] 1)] :: och 3 o.1 [.int .i64 N] :: [(bb, mobj [(B, .map (some bi), 0)] 1)] :: [(bi, mobj [(sh, .bool true, 0)] 1)] :: Ls)
      | some o2 => K W (och 3 o2.1 [.int .i64 N] :: [(br, mit bn 1 #[0])] :: [(b7, row 32 [.int .i64 0, .slice none 0 0, osl o2.1 1, .slice none 0 0])] :: [(b6, row 32 [.int .i64 0, .slice none 0 0, .slice none 0 0, .slice none 0 0])] :: [(b4, row 26 [.int .i64 c.r, .int .i64 c.s, .int .i64 c.o])] :: [(b3, row 75 [.map (some bn), .map (some bb), .int .i64 1])] :: [(bn, mobj [(sh, osl o.1 1, 0)] 1)] :: och 3 o.1 [.int .i64 N] :: [(bb, mobj [(B, .map (some bi), 0)] 1)] :: [(bi, mobj [(sh, .bool true, 0)] 1)] :: Ls))
    (fun z => match z with | none => 1 | some _ => 0) none ⟨rfl, rfl, rfl, rfl, rfl, trivial⟩ trivial (fun w h => h) ?_
  rintro (_ | o2) _
  · dsimp only
    refine c_seq ?_
    refine c_region ?_
    refine s_do (do_next 0 5 rfl rfl rfl (by intro e he; simp at he; subst he; simp)) rfl rfl rfl (fun x => ?_)
    obtain ⟨_ | e, hx⟩ := x
    · exact absurd (hx (sh, osl o.1 1, 0) (by simp)) (by simp)
    obtain ⟨hx1, hx2⟩ := hx
    obtain rfl : e = (sh, osl o.1 1, 0) := by simpa using hx1
    dsimp only [nextV, nextLs]
    refine St.cls (C' := K W ([(br, mit bn 1 (#[].push 0))] :: [(b7, row 32 [.int .i64 0, .slice none 0 0, .slice none 0 0, .slice none 0 0])] :: [(b6, row 32 [.int .i64 0, .slice none 0 0, .slice none 0 0, .slice none 0 0])] :: [(b4, row 26 [.int .i64 c.r, .int .i64 c.s, .int .i64 c.o])] :: [(b3, row 75 [.map (some bn), .map (some bb), .int .i64 1])] :: [(bn, mobj [(sh, osl o.1 1, 0)] 1)] :: och 3 o.1 [.int .i64 N] :: [(bb, mobj [(B, .map (some bi), 0)] 1)] :: [(bi, mobj [(sh, .bool true, 0)] 1)] :: Ls)) ?_ (fun w h => h)
    refine s_y (y_extract rfl rfl) rfl rfl rfl ?_
    refine s_nil ?_
    refine f_then ?_
    refine c_seq ?_
    refine c_condT rfl ?_
    refine c_skip ?_
    refine f_then ?_
    refine c_block ?_
    refine c_seq ?_
    refine c_region ?_
    refine s_y (y_entry 0 5 (e := (sh, osl o.1 1, 0)) rfl rfl rfl (by simp) (by simp)) rfl rfl rfl ?_
    refine s_y (y_extract rfl rfl) rfl rfl rfl ?_
    refine s_y (y_assign rfl) rfl rfl rfl ?_
    refine s_nil ?_
    refine f_then ?_
    refine c_region ?_
    refine s_y (y_fieldAddrB Try.tab 2 rfl rfl rfl rfl rfl) rfl rfl rfl ?_
    refine s_y (y_load Try.tab rfl rfl (cell_row 1 rfl rfl)) rfl rfl rfl ?_
    refine s_y (y_move rfl) rfl rfl rfl ?_
    refine s_do (do_append_nil (by_ := 8) (s := 1) (k := 1) Try.tab (news := [.int .i64 N]) rfl rfl ⟨rfl, rfl, rfl, rfl⟩ rfl (CellsAre.one (cell_own 6 rfl 0 rfl rfl)) rfl (by omega) (by unfold maxLen; omega) (by omega)) rfl rfl rfl (fun o2 => ?_)
    refine s_y (y_fieldAddrB Try.tab 2 rfl rfl rfl rfl rfl) rfl rfl rfl ?_
    refine s_set (set_rowB Try.tab 2 rfl rfl rfl rfl rfl rfl) rfl rfl ?_
    refine s_nil ?_
    refine f_blockN ?_
    exact f_roundP (some o2) trivial Nat.zero_lt_one ⟨rfl, rfl, rfl, rfl, rfl, trivial⟩ (fun w h => h)
  · dsimp only
    refine c_seq ?_
    refine c_region ?_
    refine s_do (do_next 1 6 rfl rfl rfl (by intro e he; simp at he; subst he; simp)) rfl rfl rfl (fun x => ?_)
    obtain ⟨_ | e, hx⟩ := x
    · dsimp only [nextV, nextLs]
      refine s_y (y_extract rfl rfl) rfl rfl rfl ?_
      refine s_nil ?_
      refine f_then ?_
      refine c_seq ?_
      refine c_condF rfl ?_
      refine c_exit ?_
      refine f_thenE ?_
      refine f_rndE ?_
      refine f_blockE ?_
      refine f_then ?_
      refine c_seq ?_
      refine c_region ?_
      refine s_y (y_fieldAddrB Try.tab 2 rfl rfl rfl rfl rfl) rfl rfl rfl ?_
      refine s_y (y_load Try.tab rfl rfl (cell_row 2 rfl rfl)) rfl rfl rfl ?_
      refine s_call (en_f rfl Try.call67) (sort_spec W _ 0 o2.1 [N] rfl (by simp)) rfl rfl rfl (fun _ => ?_)
      refine St.cls (C' := K W ([(b7, row 32 [.int .i64 0, .slice none 0 0, osl o2.1 1, .slice none 0 0])] :: [(b6, row 32 [.int .i64 0, .slice none 0 0, .slice none 0 0, .slice none 0 0])] :: [(b4, row 26 [.int .i64 c.r, .int .i64 c.s, .int .i64 c.o])] :: [(b3, row 75 [.map (some bn), .map (some bb), .int .i64 1])] :: [(bn, mobj [(sh, osl o.1 1, 0)] 1)] :: och 3 o.1 [.int .i64 N] :: [(bb, mobj [(B, .map (some bi), 0)] 1)] :: [(bi, mobj [(sh, .bool true, 0)] 1)] :: Ls)) ?_ (fun w h => h.tail.tail)
      refine s_nil ?_
      refine f_then ?_
      refine c_seq ?_
      refine c_region ?_
      refine s_y (y_fieldAddrB Try.tab 1 rfl rfl rfl rfl rfl) rfl rfl rfl ?_
      refine s_y (y_load Try.tab rfl rfl (cell_row 3 rfl rfl)) rfl rfl rfl ?_
      refine s_call (en_f rfl Try.call46) (keysB_spec W _ (some bb)) rfl rfl rfl (fun kb => ?_)
      refine s_call (en_f rfl Try.call44) (sortedB_spec W _ 0 7 kb bb 1 [(B, .map (some bi), 0)] [] [] rfl rfl ⟨by simp, by simp, by simp, by simpa using hB, by simp⟩) rfl rfl rfl (fun o3 => ?_)
      obtain ⟨_ | o3, ho3⟩ := o3
      · exact absurd ho3.2 (by simp)
      simp only [List.length_cons, List.length_nil, Nat.zero_add, ov]
      refine s_y (y_fieldAddrB Try.tab 3 rfl rfl rfl rfl rfl) rfl rfl rfl ?_
      refine s_set (set_rowB Try.tab 2 rfl rfl rfl rfl rfl rfl) rfl rfl ?_
      refine s_nil ?_
      refine f_then ?_
      refine c_seq ?_
      refine c_region ?_
      refine s_y (y_fieldAddr0 Try.tab rfl rfl rfl rfl rfl) rfl rfl rfl ?_
      refine s_y (y_load Try.tab rfl rfl (cell_row 2 rfl rfl)) rfl rfl rfl ?_
      refine s_y (y_fieldAddrB Try.tab 2 rfl rfl rfl rfl rfl) rfl rfl rfl ?_
      refine s_y (y_load Try.tab rfl rfl (cell_row 2 rfl rfl)) rfl rfl rfl ?_
      refine s_y (y_len Try.tab rfl rfl) rfl rfl rfl ?_
      refine s_y (y_fieldAddrB Try.tab 1 rfl rfl rfl rfl rfl) rfl rfl rfl ?_
      refine s_y (y_load Try.tab rfl rfl (cell_row 4 rfl rfl)) rfl rfl rfl ?_
      refine s_y (y_mul rfl rfl (by omega)) rfl rfl rfl ?_
      refine s_y (y_fieldAddrB Try.tab 3 rfl rfl rfl rfl rfl) rfl rfl rfl ?_
      refine s_y (y_load Try.tab rfl rfl (cell_row 2 rfl rfl)) rfl rfl rfl ?_
      refine s_y (y_len Try.tab rfl rfl) rfl rfl rfl ?_
      refine s_y (y_fieldAddrB Try.tab 2 rfl rfl rfl rfl rfl) rfl rfl rfl ?_
      refine s_y (y_load Try.tab rfl rfl (cell_row 4 rfl rfl)) rfl rfl rfl ?_
      refine s_y (y_mul rfl rfl (by omega)) rfl rfl rfl ?_
      refine s_y (y_add rfl rfl (by omega)) rfl rfl rfl ?_
      refine s_y (y_add rfl rfl (by omega)) rfl rfl rfl ?_
      refine s_y (y_fieldAddr0 Try.tab rfl rfl rfl rfl rfl) rfl rfl rfl ?_
      refine s_set (set_rowB Try.tab 2 rfl rfl rfl rfl rfl rfl) rfl rfl ?_
      refine s_nil ?_
      refine f_then ?_
      refine c_seq ?_
      refine c_region ?_
      refine s_y (y_loadA Try.tab rfl rfl rfl rfl (cells_row0 2 rfl rfl)) rfl rfl rfl ?_
      refine s_set (set_box Try.tab 3 rfl rfl rfl rfl rfl rfl rfl) rfl rfl ?_
      refine s_nil ?_
      refine f_then ?_
      refine c_ret ?_
      have e1 : (0 : Int) + (((1 : Nat) : Int) * c.s + ((1 : Nat) : Int) * c.o) = c.s + c.o := by omega
      exact f_retE (some ⟨o2.1.b, o2.1.pre.length, none⟩, o2.1.cap, some ⟨o3.b, o3.pre.length, none⟩, o3.cap) (resA Try.tab rfl rfl rfl rfl rfl (cells_row0 3 rfl rfl)) (by rw [← e1]; rfl) (fun w h => h.tail.tail.tail.tail.tail.tail.tail.tail.tail.tail)
    · obtain ⟨hx1, hx2⟩ := hx
      obtain rfl : e = (sh, osl o.1 1, 0) := by simpa using hx1
      exact absurd hx2 (by simp)
end Go.KL
end

section
/- Walks: sheet.Plan at one cell whose sheet is not worth printing again. -/
namespace Go.KL
open Go.Proofs
theorem skeys_one (k : Int) (v : Value) (b : Nat) : ivals (skeys [(k, v, b)]) = [.int .i64 k] := by simp [skeys, ivals]
theorem mok_one {k : Int} {v : Value} (h : -9223372036854775808 ≤ k ∧ k ≤ 9223372036854775807) : MOK [(k, v, 0)] 1 := ⟨by simp, by simp, by simp, by simpa using h, by simp⟩
theorem bunOf_bd (l : Lay) (s p note : Int) (h : l.OK) (hs : SOK s) (hp : 1 ≤ p ∧ p ≤ 256) (hn : 0 ≤ note ∧ note < s * p) : -9223372036854775808 ≤ bunOfF l s p note ∧ bunOfF l s p note ≤ 9223372036854775807 := by
  have h3 := h.m; have h4 := h.b
  have hsp := mul_bd (a := s) (b := p) (A := 1048576) (B := 256) (by omega) (by omega)
  have h1 := note_ream l s p note h hp hn
  have h6 := perR_bd l p h hp
  have h2 := div_bd (a := note / (l.m * p) * l.m) (b := l.m) (by omega) (by omega)
  have h7 := mul_bd (a := note / (l.m * p) * l.m / l.m) (b := perR l p) (A := 1048576) (B := 2560000) (by omega) (by omega)
  have q0 := Int.mul_nonneg h1.1 (show 0 ≤ p by omega)
  have q1 := div_bd (a := note - note / (l.m * p) * l.m * p) (b := min l.m (s - note / (l.m * p) * l.m)) (by omega) (by omega)
  have q2 := mod_bd (a := note - note / (l.m * p) * l.m * p) (b := min l.m (s - note / (l.m * p) * l.m)) (by omega)
  have q3 := perS_bd (d := min l.m (s - note / (l.m * p) * l.m)) (b := l.b) (by omega) (by omega)
  have q4 := mul_bd (a := (note - note / (l.m * p) * l.m * p) / min l.m (s - note / (l.m * p) * l.m)) (b := (min l.m (s - note / (l.m * p) * l.m) + l.b - 1) / l.b) (A := 268435456) (B := 10000) (by omega) (by omega)
  have q5 := div_bd (a := (note - note / (l.m * p) * l.m * p) % min l.m (s - note / (l.m * p) * l.m)) (b := l.b) (by omega) (by omega)
  unfold bunOfF rbun rD
  omega
def wP (c : Cos) : Nat → Int := fun i => if i = 0 then ((1 : Nat) : Int) * c.s - c.r else c.o
def qP : Nat → Pr := fun _ => (1, 0)
theorem goodsP {c : Cos} (h : c.OK) : GoodsOK 2 (wP c) 1 qP := by
  have g1 := h.r; have g2 := h.s; have g3 := h.o
  refine ⟨by omega, by omega, fun i hi => ?_, fun i hi => by simp [qP]⟩
  unfold wP
  split <;> omega
theorem closP {c : Cos} (h : c.OK) (hle : c.s + c.o < c.r) {v : Int} {f : Nat → Int} {g : Nat → Bool} (hC : ClosO 2 1 (wP c) qP v f g) : g 0 = false := by
  have g1 := h.r; have g2 := h.s; have g3 := h.o
  obtain ⟨h1, h2, h3⟩ := hC.closeP (goodsP h)
  have h4 := h3.max (fun _ => false) (fun i hi hq => by cases hq)
  have h5 := h1 0 (by omega)
  simp only [qP] at h5
  simp only [wgt, sm, wP] at h2 h4
  cases e0 : g 0 with
  | false => rfl
  | true =>
    cases e1 : g 1 <;> simp [e0, e1] at h2 h4 <;> omega
attribute [local irreducible] SC St Fin Sq Sw Ylds Doos Sets Enters Spec CellIs CellsAre Then Ret Rnd Chn resOK ints bools recs arr
set_option maxRecDepth 10000 in
set_option maxHeartbeats 16000000 in
theorem plan1_spec (W : World) (Ls : List Chunk) (l : Lay) (s sh pos : Int) (c : Cos) (ba : Nat) (h : Gd l s) (hc : CellIn l s sh pos) (hcst : c.OK) (hca : CellsAre (K W Ls) ⟨ba, 0, none⟩ [.int .i64 sh, .int .i64 pos]) (hle : c.s + c.o < c.r) :
    Spec Try.prog 18 #[l.v, .int .i64 s, .slice (some ⟨ba, 0, none⟩) 1 1, c.v] (K W Ls)
      (X := Option Addr × Nat × Option Addr × Nat) (fun x => .tuple #[.agg #[.int .i64 (c.s + c.o), .slice none 0 0, .slice x.1 1 x.2.1, .slice x.2.2.1 1 x.2.2.2], .int .i64 0])
      (fun _ => K W Ls) := by
  have hp := np_bd h.1; have h2 := h.2
  have hB := bunOf_bd l s (np l) (noteF l s (np l) sh pos) h.1 h.2 hp (note_bd l s (np l) sh pos h.1 hp hc.1 hc.2)
  have g1 := hcst.r; have g2 := hcst.s; have g3 := hcst.o
  refine enter (args := [_, _, _, _]) Try.func18 rfl Try.ntmps18 rfl ?_
  refine c_seq ?_
  refine c_region ?_
  refine s_do (do_box rfl) rfl rfl rfl (fun b4 => ?_)
  refine s_do (do_box rfl) rfl rfl rfl (fun b7 => ?_)
  refine s_do (do_alloc Try.tab rfl) rfl rfl rfl (fun b8 => ?_)
  refine s_y (y_assign rfl) rfl rfl rfl ?_
  refine s_nil ?_
  refine f_then ?_
  refine c_seq ?_
  refine c_region ?_
  refine s_y (y_loadA Try.tab rfl rfl rfl rfl (cells_row0 2 rfl rfl)) rfl rfl rfl ?_
  refine s_y (y_move rfl) rfl rfl rfl ?_
  refine s_y (y_move rfl) rfl rfl rfl ?_
  refine s_y (y_loadA Try.tab rfl rfl rfl rfl (cells_row0 1 rfl rfl)) rfl rfl rfl ?_
  refine s_call (en_f rfl Try.call43) (examine1_spec W ([(b8, row 32 [.int .i64 0, .slice none 0 0, .slice none 0 0, .slice none 0 0])] :: [(b7, row 26 [.int .i64 c.r, .int .i64 c.s, .int .i64 c.o])] :: [(b4, row 23 l.v.cells.toList)] :: Ls) l s sh pos c ba h hc hcst (hca.cls fun w h => h.tail.tail.tail)) rfl rfl rfl (fun x => ?_)
  obtain ⟨bn, bb, bi, o⟩ := x
  dsimp only
  refine s_y (y_move rfl) rfl rfl rfl ?_
  refine s_y (y_extract rfl rfl) rfl rfl rfl ?_
  refine s_y (y_extract rfl rfl) rfl rfl rfl ?_
  refine s_do (do_alloc Try.tab rfl) rfl rfl rfl (fun b10 => ?_)
  refine s_set (set_box Try.tab 0 rfl rfl rfl rfl rfl rfl rfl) rfl rfl ?_
  refine s_y (y_assign rfl) rfl rfl rfl ?_
  refine s_nil ?_
  refine f_then ?_
  refine c_seq ?_
  refine c_seq ?_
  refine c_region ?_
  refine s_y (y_move rfl) rfl rfl rfl ?_
  refine s_y (y_F (y_neq rfl rfl) (by omega)) rfl rfl rfl ?_
  refine s_nil ?_
  refine f_then ?_
  refine c_condF rfl ?_
  refine c_skip ?_
  refine f_then ?_
  refine c_seq ?_
  refine c_region ?_
  refine s_y (y_fieldAddr0 Try.tab rfl rfl rfl rfl rfl) rfl rfl rfl ?_
  refine s_y (y_load Try.tab rfl rfl (cell_row 0 rfl rfl)) rfl rfl rfl ?_
  refine s_call (en_f rfl Try.call45) (keysA_spec W _ (some bn)) rfl rfl rfl (fun ka => ?_)
  refine s_call (en_f rfl Try.call44) (sortedA_spec W _ 0 2 ka bn 1 [(sh, osl o.1 1, 0)] [] [] rfl rfl (mok_one (by omega))) rfl rfl rfl (fun o1 => ?_)
  obtain ⟨_ | o1, ho1⟩ := o1
  · exact absurd ho1.2 (by simp)
  simp only [List.length_cons, List.length_nil, Nat.zero_add, ov, oc, skeys_one]
  refine St.cls (C' := K W (och 3 o1 [.int .i64 sh] :: [(b10, row 75 [.map (some bn), .map (some bb), .int .i64 1])] :: [(bn, mobj [(sh, osl o.1 1, 0)] 1)] :: och 3 o.1 [.int .i64 (noteF l s (np l) sh pos)] :: [(bb, mobj [(bunOfF l s (np l) (noteF l s (np l) sh pos), .map (some bi), 0)] 1)] :: [(bi, mobj [(sh, .bool true, 0)] 1)] :: [(b8, row 32 [.int .i64 0, .slice none 0 0, .slice none 0 0, .slice none 0 0])] :: [(b7, row 26 [.int .i64 c.r, .int .i64 c.s, .int .i64 c.o])] :: [(b4, row 23 l.v.cells.toList)] :: Ls)) ?_ (fun w h => h.dropAt 1)
  refine s_y (y_assign rfl) rfl rfl rfl ?_
  refine s_nil ?_
  refine f_then ?_
  refine c_seq ?_
  refine c_region ?_
  refine s_y (y_assign rfl) rfl rfl rfl ?_
  refine s_nil ?_
  refine f_then ?_
  refine c_seq ?_
  refine c_seq ?_
  refine c_region ?_
  refine s_y (y_move rfl) rfl rfl rfl ?_
  refine s_y (y_len Try.tab rfl rfl) rfl rfl rfl ?_
  refine s_y (y_move rfl) rfl rfl rfl ?_
  refine s_nil ?_
  refine f_then ?_
  refine c_block ?_
  refine c_loopP (α := Option (Grown 1 1 0 [.int .i64 (((1 : Nat) : Int) * c.s - c.r)])) (fun z => [(7, .pointer (some ⟨b7, 0, none⟩)), (8, .pointer (some ⟨b8, 0, none⟩)), (10, .pointer (some ⟨b10, 0, none⟩)), (12, osl o1 1), (13, match z with | none => .slice none 0 0 | some w => osl w.1 1), (45, osl o1 1), (46, .int .i64 1), (47, .int .i64 (match z with | none => 0 | some _ => 1))]) (fun _ => True)
    (fun z => match z with
      | none => K W (och 3 o1 [.int .i64 sh] :: [(b10, row 75 [.map (some bn), .map (some bb), .int .i64 1])] :: [(bn, mobj [(sh, osl o.1 1, 0)] 1)] :: och 3 o.1 [.int .i64 (noteF l s (np l) sh pos)] :: [(bb, mobj [(bunOfF l s (np l) (noteF l s (np l) sh pos), .map (some bi), 0)] 1)] :: [(bi, mobj [(sh, .bool true, 0)] 1)] :: [(b8, row 32 [.int .i64 0, .slice none 0 0, .slice none 0 0, .slice none 0 0])] :: [(b7, row 26 [.int .i64 c.r, .int .i64 c.s, .int .i64 c.o])] :: [(b4, row 23 l.v.cells.toList)] :: Ls)
      | some w => K W (och 3 w.1 [.int .i64 (((1 : Nat) : Int) * c.s - c.r)] :: och 3 o1 [.int .i64 sh] :: [(b10, row 75 [.map (some bn), .map (some bb), .int .i64 1])] :: [(bn, mobj [(sh, osl o.1 1, 0)] 1)] :: och 3 o.1 [.int .i64 (noteF l s (np l) sh pos)] :: [(bb, mobj [(bunOfF l s (np l) (noteF l s (np l) sh pos), .map (some bi), 0)] 1)] :: [(bi, mobj [(sh, .bool true, 0)] 1)] :: [(b8, row 32 [.int .i64 0, .slice none 0 0, .slice none 0 0, .slice none 0 0])] :: [(b7, row 26 [.int .i64 c.r, .int .i64 c.s, .int .i64 c.o])] :: [(b4, row 23 l.v.cells.toList)] :: Ls))
    (fun z => match z with | none => 1 | some _ => 0) none ⟨rfl, rfl, rfl, rfl, rfl, rfl, rfl, rfl, trivial⟩ trivial (fun w h => h) ?_
  rintro (_ | w1) _
  · dsimp only
    have q : CellIs (K W (och 3 o1 [.int .i64 sh] :: [(b10, row 75 [.map (some bn), .map (some bb), .int .i64 1])] :: [(bn, mobj [(sh, osl o.1 1, 0)] 1)] :: och 3 o.1 [.int .i64 (noteF l s (np l) sh pos)] :: [(bb, mobj [(bunOfF l s (np l) (noteF l s (np l) sh pos), .map (some bi), 0)] 1)] :: [(bi, mobj [(sh, .bool true, 0)] 1)] :: [(b8, row 32 [.int .i64 0, .slice none 0 0, .slice none 0 0, .slice none 0 0])] :: [(b7, row 26 [.int .i64 c.r, .int .i64 c.s, .int .i64 c.o])] :: [(b4, row 23 l.v.cells.toList)] :: Ls)) ⟨o1.b, o1.pre.length + 0, none⟩ (.int .i64 sh) := cell_own 0 rfl 0 rfl rfl
    refine c_seq ?_
    refine c_region ?_
    refine s_y (y_T (y_lss rfl rfl) (by omega)) rfl rfl rfl ?_
    refine s_nil ?_
    refine f_then ?_
    refine c_seq ?_
    refine c_condT rfl ?_
    refine c_skip ?_
    refine f_then ?_
    refine c_seq ?_
    refine c_block ?_
    refine c_seq ?_
    refine c_region ?_
    refine s_y (y_indexAddr1o Try.tab rfl rfl rfl rfl 0 rfl (by omega)) rfl rfl rfl ?_
    refine s_y (y_load Try.tab rfl rfl q) rfl rfl rfl ?_
    refine s_y (y_assign rfl) rfl rfl rfl ?_
    refine s_nil ?_
    refine f_then ?_
    refine c_region ?_
    refine s_y (y_move rfl) rfl rfl rfl ?_
    refine s_y (y_fieldAddr0 Try.tab rfl rfl rfl rfl rfl) rfl rfl rfl ?_
    refine s_y (y_load Try.tab rfl rfl (cell_row 1 rfl rfl)) rfl rfl rfl ?_
    refine s_y (y_move rfl) rfl rfl rfl ?_
    refine s_y (y_lookup1 Try.tab 2 rfl rfl rfl rfl Try.zeroValue29 rfl) rfl rfl rfl ?_
    refine s_y (y_len Try.tab rfl rfl) rfl rfl rfl ?_
    refine s_y (y_fieldAddrB Try.tab 1 rfl rfl rfl rfl rfl) rfl rfl rfl ?_
    refine s_y (y_load Try.tab rfl rfl (cell_row 7 rfl rfl)) rfl rfl rfl ?_
    refine s_y (y_mul rfl rfl (by omega)) rfl rfl rfl ?_
    refine s_y (y_fieldAddr0 Try.tab rfl rfl rfl rfl rfl) rfl rfl rfl ?_
    refine s_y (y_load Try.tab rfl rfl (cell_row 7 rfl rfl)) rfl rfl rfl ?_
    refine s_y (y_sub rfl rfl (by omega)) rfl rfl rfl ?_
    refine s_do (do_buildSlice1 Try.tab ⟨rfl, rfl, rfl, rfl⟩ rfl rfl rfl rfl) rfl rfl rfl (fun b63 => ?_)
    refine s_do (do_append_nil (by_ := 8) (s := 1) (k := 1) Try.tab (news := [.int .i64 (((1 : Nat) : Int) * c.s - c.r)]) rfl rfl ⟨rfl, rfl, rfl, rfl⟩ rfl (cells_row0 0 rfl rfl) rfl (by omega) (by unfold maxLen; omega) (by omega)) rfl rfl rfl (fun w1 => ?_)
    refine s_y (y_assign rfl) rfl rfl rfl ?_
    refine s_nil ?_
    refine f_blockN ?_
    refine f_then ?_
    refine c_region ?_
    refine s_y (y_add rfl rfl (by omega)) rfl rfl rfl ?_
    refine s_y (y_move rfl) rfl rfl rfl ?_
    refine s_nil ?_
    exact f_roundP (some w1) trivial Nat.zero_lt_one ⟨rfl, rfl, rfl, rfl, rfl, rfl, rfl, rfl, trivial⟩ (fun w h => h.dropAt 1)
  dsimp only
  refine c_seq ?_
  refine c_region ?_
  refine s_y (y_F (y_lss rfl rfl) (by omega)) rfl rfl rfl ?_
  refine s_nil ?_
  refine f_then ?_
  refine c_seq ?_
  refine c_condF rfl ?_
  refine c_exit ?_
  refine f_thenE ?_
  refine f_rndE ?_
  refine f_blockE ?_
  refine f_then ?_
  refine c_seq ?_
  refine c_region ?_
  refine s_y (y_assign rfl) rfl rfl rfl ?_
  refine s_nil ?_
  refine f_then ?_
  refine c_seq ?_
  refine c_seq ?_
  refine c_region ?_
  refine s_y (y_fieldAddrB Try.tab 1 rfl rfl rfl rfl rfl) rfl rfl rfl ?_
  refine s_y (y_load Try.tab rfl rfl (cell_row 2 rfl rfl)) rfl rfl rfl ?_
  have hbr := note_bd l s (np l) sh pos h.1 hp hc.1 hc.2
  have hsp := mul_bd (a := s) (b := np l) (A := 1048576) (B := 256) (by omega) (by omega)
  refine s_call (en_f rfl Try.call46) (keysB_spec W _ (some bb)) rfl rfl rfl (fun kb => ?_)
  refine s_call (en_f rfl Try.call44) (sortedB_spec W _ 0 6 kb bb 1 [(bunOfF l s (np l) (noteF l s (np l) sh pos), .map (some bi), 0)] [] [] rfl rfl (mok_one hB)) rfl rfl rfl (fun o2 => ?_)
  obtain ⟨_ | o2, ho2⟩ := o2
  · exact absurd ho2.2 (by simp)
  simp only [List.length_cons, List.length_nil, Nat.zero_add, ov, oc, skeys_one]
  refine St.cls (C' := K W (och 3 o2 [.int .i64 (bunOfF l s (np l) (noteF l s (np l) sh pos))] :: och 3 w1.1 [.int .i64 (((1 : Nat) : Int) * c.s - c.r)] :: och 3 o1 [.int .i64 sh] :: [(b10, row 75 [.map (some bn), .map (some bb), .int .i64 1])] :: [(bn, mobj [(sh, osl o.1 1, 0)] 1)] :: och 3 o.1 [.int .i64 (noteF l s (np l) sh pos)] :: [(bb, mobj [(bunOfF l s (np l) (noteF l s (np l) sh pos), .map (some bi), 0)] 1)] :: [(bi, mobj [(sh, .bool true, 0)] 1)] :: [(b8, row 32 [.int .i64 0, .slice none 0 0, .slice none 0 0, .slice none 0 0])] :: [(b7, row 26 [.int .i64 c.r, .int .i64 c.s, .int .i64 c.o])] :: [(b4, row 23 l.v.cells.toList)] :: Ls)) ?_ (fun w h => h.dropAt 1)
  refine s_y (y_len Try.tab rfl rfl) rfl rfl rfl ?_
  refine s_y (y_move rfl) rfl rfl rfl ?_
  refine s_nil ?_
  refine f_then ?_
  refine c_block ?_
  refine c_loopP (α := Option (Grown 2 1 0 [.int .i64 1, .int .i64 0] × Grown 1 2 w1.1.pre.length [.int .i64 (((1 : Nat) : Int) * c.s - c.r), .int .i64 c.o])) (fun z => [(7, .pointer (some ⟨b7, 0, none⟩)), (8, .pointer (some ⟨b8, 0, none⟩)), (10, .pointer (some ⟨b10, 0, none⟩)), (12, osl o1 1), (13, match z with | none => osl w1.1 1 | some x => osl x.2.1 2), (16, match z with | none => .slice none 0 0 | some x => osl x.1.1 1), (69, osl o2 1), (70, .int .i64 1), (71, .int .i64 (match z with | none => 0 | some _ => 1))]) (fun _ => True)
    (fun z => match z with
      | none => K W (och 3 o2 [.int .i64 (bunOfF l s (np l) (noteF l s (np l) sh pos))] :: och 3 w1.1 [.int .i64 (((1 : Nat) : Int) * c.s - c.r)] :: och 3 o1 [.int .i64 sh] :: [(b10, row 75 [.map (some bn), .map (some bb), .int .i64 1])] :: [(bn, mobj [(sh, osl o.1 1, 0)] 1)] :: och 3 o.1 [.int .i64 (noteF l s (np l) sh pos)] :: [(bb, mobj [(bunOfF l s (np l) (noteF l s (np l) sh pos), .map (some bi), 0)] 1)] :: [(bi, mobj [(sh, .bool true, 0)] 1)] :: [(b8, row 32 [.int .i64 0, .slice none 0 0, .slice none 0 0, .slice none 0 0])] :: [(b7, row 26 [.int .i64 c.r, .int .i64 c.s, .int .i64 c.o])] :: [(b4, row 23 l.v.cells.toList)] :: Ls)
      | some x => K W (och 88 x.1.1 [.int .i64 1, .int .i64 0] :: och 3 x.2.1 [.int .i64 (((1 : Nat) : Int) * c.s - c.r), .int .i64 c.o] :: och 3 o2 [.int .i64 (bunOfF l s (np l) (noteF l s (np l) sh pos))] :: och 3 o1 [.int .i64 sh] :: [(b10, row 75 [.map (some bn), .map (some bb), .int .i64 1])] :: [(bn, mobj [(sh, osl o.1 1, 0)] 1)] :: och 3 o.1 [.int .i64 (noteF l s (np l) sh pos)] :: [(bb, mobj [(bunOfF l s (np l) (noteF l s (np l) sh pos), .map (some bi), 0)] 1)] :: [(bi, mobj [(sh, .bool true, 0)] 1)] :: [(b8, row 32 [.int .i64 0, .slice none 0 0, .slice none 0 0, .slice none 0 0])] :: [(b7, row 26 [.int .i64 c.r, .int .i64 c.s, .int .i64 c.o])] :: [(b4, row 23 l.v.cells.toList)] :: Ls))
    (fun z => match z with | none => 1 | some _ => 0) none ⟨rfl, rfl, rfl, rfl, rfl, rfl, rfl, rfl, rfl, trivial⟩ trivial (fun w h => h) ?_
  rintro (_ | ⟨n1, w2⟩) _
  · dsimp only
    have q : CellIs (K W (och 3 o2 [.int .i64 (bunOfF l s (np l) (noteF l s (np l) sh pos))] :: och 3 w1.1 [.int .i64 (((1 : Nat) : Int) * c.s - c.r)] :: och 3 o1 [.int .i64 sh] :: [(b10, row 75 [.map (some bn), .map (some bb), .int .i64 1])] :: [(bn, mobj [(sh, osl o.1 1, 0)] 1)] :: och 3 o.1 [.int .i64 (noteF l s (np l) sh pos)] :: [(bb, mobj [(bunOfF l s (np l) (noteF l s (np l) sh pos), .map (some bi), 0)] 1)] :: [(bi, mobj [(sh, .bool true, 0)] 1)] :: [(b8, row 32 [.int .i64 0, .slice none 0 0, .slice none 0 0, .slice none 0 0])] :: [(b7, row 26 [.int .i64 c.r, .int .i64 c.s, .int .i64 c.o])] :: [(b4, row 23 l.v.cells.toList)] :: Ls)) ⟨o2.b, o2.pre.length + 0, none⟩ (.int .i64 (bunOfF l s (np l) (noteF l s (np l) sh pos))) := cell_own 0 rfl 0 rfl rfl
    refine c_seq ?_
    refine c_region ?_
    refine s_y (y_T (y_lss rfl rfl) (by omega)) rfl rfl rfl ?_
    refine s_nil ?_
    refine f_then ?_
    refine c_seq ?_
    refine c_condT rfl ?_
    refine c_skip ?_
    refine f_then ?_
    refine c_seq ?_
    refine c_block ?_
    refine c_seq ?_
    refine c_region ?_
    refine s_y (y_indexAddr1o Try.tab rfl rfl rfl rfl 0 rfl (by omega)) rfl rfl rfl ?_
    refine s_y (y_load Try.tab rfl rfl q) rfl rfl rfl ?_
    refine s_y (y_assign rfl) rfl rfl rfl ?_
    refine s_nil ?_
    refine f_then ?_
    refine c_seq ?_
    refine c_seq ?_
    refine c_region ?_
    refine s_y (y_fieldAddrB Try.tab 1 rfl rfl rfl rfl rfl) rfl rfl rfl ?_
    refine s_y (y_load Try.tab rfl rfl (cell_row 3 rfl rfl)) rfl rfl rfl ?_
    refine s_y (y_move rfl) rfl rfl rfl ?_
    refine s_y (y_lookup1 Try.tab 6 rfl rfl rfl rfl Try.zeroValue84 rfl) rfl rfl rfl ?_
    refine s_call (en_f rfl Try.call47) (keysC_spec W _ (some bi)) rfl rfl rfl (fun kc => ?_)
    refine s_call (en_f rfl Try.call44) (sortedC_spec W _ 0 8 kc bi 1 [(sh, .bool true, 0)] [] [] rfl rfl (mok_one (by omega))) rfl rfl rfl (fun o3 => ?_)
    obtain ⟨_ | o3, ho3⟩ := o3
    · exact absurd ho3.2 (by simp)
    simp only [List.length_cons, List.length_nil, Nat.zero_add, ov, oc, skeys_one]
    refine St.cls (C' := K W (och 3 o3 [.int .i64 sh] :: och 3 o2 [.int .i64 (bunOfF l s (np l) (noteF l s (np l) sh pos))] :: och 3 w1.1 [.int .i64 (((1 : Nat) : Int) * c.s - c.r)] :: och 3 o1 [.int .i64 sh] :: [(b10, row 75 [.map (some bn), .map (some bb), .int .i64 1])] :: [(bn, mobj [(sh, osl o.1 1, 0)] 1)] :: och 3 o.1 [.int .i64 (noteF l s (np l) sh pos)] :: [(bb, mobj [(bunOfF l s (np l) (noteF l s (np l) sh pos), .map (some bi), 0)] 1)] :: [(bi, mobj [(sh, .bool true, 0)] 1)] :: [(b8, row 32 [.int .i64 0, .slice none 0 0, .slice none 0 0, .slice none 0 0])] :: [(b7, row 26 [.int .i64 c.r, .int .i64 c.s, .int .i64 c.o])] :: [(b4, row 23 l.v.cells.toList)] :: Ls)) ?_ (fun w h => h.dropAt 1)
    refine s_y (y_len Try.tab rfl rfl) rfl rfl rfl ?_
    refine s_y (y_move rfl) rfl rfl rfl ?_
    refine s_nil ?_
    refine f_then ?_
    refine c_block ?_
    refine c_loopP (α := Option (Grown 2 1 0 [.int .i64 1, .int .i64 0])) (fun z => [(7, .pointer (some ⟨b7, 0, none⟩)), (8, .pointer (some ⟨b8, 0, none⟩)), (10, .pointer (some ⟨b10, 0, none⟩)), (12, osl o1 1), (13, osl w1.1 1), (16, match z with | none => .slice none 0 0 | some x => osl x.1 1), (69, osl o2 1), (70, .int .i64 1), (71, .int .i64 0), (80, osl o3 1), (81, .int .i64 1), (82, .int .i64 (match z with | none => 0 | some _ => 1))]) (fun _ => True)
      (fun z => match z with
        | none => K W (och 3 o3 [.int .i64 sh] :: och 3 o2 [.int .i64 (bunOfF l s (np l) (noteF l s (np l) sh pos))] :: och 3 w1.1 [.int .i64 (((1 : Nat) : Int) * c.s - c.r)] :: och 3 o1 [.int .i64 sh] :: [(b10, row 75 [.map (some bn), .map (some bb), .int .i64 1])] :: [(bn, mobj [(sh, osl o.1 1, 0)] 1)] :: och 3 o.1 [.int .i64 (noteF l s (np l) sh pos)] :: [(bb, mobj [(bunOfF l s (np l) (noteF l s (np l) sh pos), .map (some bi), 0)] 1)] :: [(bi, mobj [(sh, .bool true, 0)] 1)] :: [(b8, row 32 [.int .i64 0, .slice none 0 0, .slice none 0 0, .slice none 0 0])] :: [(b7, row 26 [.int .i64 c.r, .int .i64 c.s, .int .i64 c.o])] :: [(b4, row 23 l.v.cells.toList)] :: Ls)
        | some n1 => K W (och 88 n1.1 [.int .i64 1, .int .i64 0] :: och 3 o3 [.int .i64 sh] :: och 3 o2 [.int .i64 (bunOfF l s (np l) (noteF l s (np l) sh pos))] :: och 3 w1.1 [.int .i64 (((1 : Nat) : Int) * c.s - c.r)] :: och 3 o1 [.int .i64 sh] :: [(b10, row 75 [.map (some bn), .map (some bb), .int .i64 1])] :: [(bn, mobj [(sh, osl o.1 1, 0)] 1)] :: och 3 o.1 [.int .i64 (noteF l s (np l) sh pos)] :: [(bb, mobj [(bunOfF l s (np l) (noteF l s (np l) sh pos), .map (some bi), 0)] 1)] :: [(bi, mobj [(sh, .bool true, 0)] 1)] :: [(b8, row 32 [.int .i64 0, .slice none 0 0, .slice none 0 0, .slice none 0 0])] :: [(b7, row 26 [.int .i64 c.r, .int .i64 c.s, .int .i64 c.o])] :: [(b4, row 23 l.v.cells.toList)] :: Ls))
      (fun z => match z with | none => 1 | some _ => 0) none ⟨rfl, rfl, rfl, rfl, rfl, rfl, rfl, rfl, rfl, rfl, rfl, rfl, trivial⟩ trivial (fun w h => h) ?_
    rintro (_ | n1) _
    · dsimp only
      have q3 : CellIs (K W (och 3 o3 [.int .i64 sh] :: och 3 o2 [.int .i64 (bunOfF l s (np l) (noteF l s (np l) sh pos))] :: och 3 w1.1 [.int .i64 (((1 : Nat) : Int) * c.s - c.r)] :: och 3 o1 [.int .i64 sh] :: [(b10, row 75 [.map (some bn), .map (some bb), .int .i64 1])] :: [(bn, mobj [(sh, osl o.1 1, 0)] 1)] :: och 3 o.1 [.int .i64 (noteF l s (np l) sh pos)] :: [(bb, mobj [(bunOfF l s (np l) (noteF l s (np l) sh pos), .map (some bi), 0)] 1)] :: [(bi, mobj [(sh, .bool true, 0)] 1)] :: [(b8, row 32 [.int .i64 0, .slice none 0 0, .slice none 0 0, .slice none 0 0])] :: [(b7, row 26 [.int .i64 c.r, .int .i64 c.s, .int .i64 c.o])] :: [(b4, row 23 l.v.cells.toList)] :: Ls)) ⟨o3.b, o3.pre.length + 0, none⟩ (.int .i64 sh) := cell_own 0 rfl 0 rfl rfl
      refine c_seq ?_
      refine c_region ?_
      refine s_y (y_T (y_lss rfl rfl) (by omega)) rfl rfl rfl ?_
      refine s_nil ?_
      refine f_then ?_
      refine c_seq ?_
      refine c_condT rfl ?_
      refine c_skip ?_
      refine f_then ?_
      refine c_seq ?_
      refine c_block ?_
      refine c_seq ?_
      refine c_region ?_
      refine s_y (y_indexAddr1o Try.tab rfl rfl rfl rfl 0 rfl (by omega)) rfl rfl rfl ?_
      refine s_y (y_load Try.tab rfl rfl q3) rfl rfl rfl ?_
      refine s_y (y_assign rfl) rfl rfl rfl ?_
      refine s_nil ?_
      refine f_then ?_
      refine c_seq ?_
      refine c_region ?_
      refine s_y (y_move rfl) rfl rfl rfl ?_
      refine s_y (y_move rfl) rfl rfl rfl ?_
      refine s_call (en_f rfl Try.call48) (bsearch1_spec _ ⟨o1.b, o1.pre.length, none⟩ o1.cap sh (cell_own 3 rfl 0 rfl rfl)) rfl rfl rfl (fun _ => ?_)
      refine s_y (y_move rfl) rfl rfl rfl ?_
      refine s_y (y_extract rfl rfl) rfl rfl rfl ?_
      refine s_y (y_extract rfl rfl) rfl rfl rfl ?_
      refine s_y (y_assign rfl) rfl rfl rfl ?_
      refine s_y (y_assign rfl) rfl rfl rfl ?_
      refine s_nil ?_
      refine f_then ?_
      refine c_region ?_
      refine s_y (y_move rfl) rfl rfl rfl ?_
      refine s_y (y_move rfl) rfl rfl rfl ?_
      refine s_y (y_len Try.tab rfl rfl) rfl rfl rfl ?_
      refine s_y (y_move rfl) rfl rfl rfl ?_
      refine s_y (y_buildArr Try.tab rfl rfl rfl rfl rfl) rfl rfl rfl ?_
      refine s_do (do_buildSliceS Try.tab ⟨rfl, rfl, rfl, rfl⟩ rfl rfl rfl rfl) rfl rfl rfl (fun b97 => ?_)
      refine s_do (do_append_nil (by_ := 16) (s := 2) (k := 1) Try.tab (news := [.int .i64 1, .int .i64 0]) rfl rfl ⟨rfl, rfl, rfl, rfl⟩ rfl (cells_row0 0 rfl rfl) rfl (by omega) (by unfold maxLen; omega) (by omega)) rfl rfl rfl (fun n1 => ?_)
      refine s_y (y_assign rfl) rfl rfl rfl ?_
      refine s_nil ?_
      refine f_blockN ?_
      refine f_then ?_
      refine c_region ?_
      refine s_y (y_add rfl rfl (by omega)) rfl rfl rfl ?_
      refine s_y (y_move rfl) rfl rfl rfl ?_
      refine s_nil ?_
      exact f_roundP (some n1) trivial Nat.zero_lt_one ⟨rfl, rfl, rfl, rfl, rfl, rfl, rfl, rfl, rfl, rfl, rfl, rfl, trivial⟩ (fun w h => h.dropAt 1)
    dsimp only
    refine c_seq ?_
    refine c_region ?_
    refine s_y (y_F (y_lss rfl rfl) (by omega)) rfl rfl rfl ?_
    refine s_nil ?_
    refine f_then ?_
    refine c_seq ?_
    refine c_condF rfl ?_
    refine c_exit ?_
    refine f_thenE ?_
    refine f_rndE ?_
    refine f_blockE ?_
    refine f_then ?_
    refine c_region ?_
    refine s_y (y_move rfl) rfl rfl rfl ?_
    refine s_y (y_fieldAddrB Try.tab 2 rfl rfl rfl rfl rfl) rfl rfl rfl ?_
    refine s_y (y_load Try.tab rfl rfl (cell_row 11 rfl rfl)) rfl rfl rfl ?_
    refine s_do (do_buildSlice1 Try.tab ⟨rfl, rfl, rfl, rfl⟩ rfl rfl rfl rfl) rfl rfl rfl (fun b103 => ?_)
    refine s_do (do_append (by_ := 8) (s := 1) (m := 1) (k := 1) Try.tab 4 (news := [.int .i64 c.o]) (xs := [.int .i64 (((1 : Nat) : Int) * c.s - c.r)]) (o := w1.1) rfl rfl ⟨rfl, rfl, rfl, rfl⟩ rfl rfl w1.2.1 (cells_row0 0 rfl rfl) rfl (by simp [Value.oneCell']) (by unfold maxLen; omega) (by omega)) rfl rfl rfl (fun w2 => ?_)
    refine s_y (y_assign rfl) rfl rfl rfl ?_
    refine s_nil ?_
    refine f_blockN ?_
    refine f_then ?_
    refine c_region ?_
    refine s_y (y_add rfl rfl (by omega)) rfl rfl rfl ?_
    refine s_y (y_move rfl) rfl rfl rfl ?_
    refine s_nil ?_
    exact f_roundP (some (n1, w2)) trivial Nat.zero_lt_one ⟨rfl, rfl, rfl, rfl, rfl, rfl, rfl, rfl, rfl, trivial⟩ (fun w h => ((h.dropAt 0).dropAt 1).fronts [2, 1])
  dsimp only
  refine c_seq ?_
  refine c_region ?_
  refine s_y (y_F (y_lss rfl rfl) (by omega)) rfl rfl rfl ?_
  refine s_nil ?_
  refine f_then ?_
  refine c_seq ?_
  refine c_condF rfl ?_
  refine c_exit ?_
  refine f_thenE ?_
  refine f_rndE ?_
  refine f_blockE ?_
  refine f_then ?_
  refine c_seq ?_
  refine c_region ?_
  refine s_y (y_move rfl) rfl rfl rfl ?_
  refine s_y (y_move rfl) rfl rfl rfl ?_
  have hw : SlI (K W (och 88 n1.1 [.int .i64 1, .int .i64 0] :: och 3 w2.1 [.int .i64 (((1 : Nat) : Int) * c.s - c.r), .int .i64 c.o] :: och 3 o2 [.int .i64 (bunOfF l s (np l) (noteF l s (np l) sh pos))] :: och 3 o1 [.int .i64 sh] :: [(b10, row 75 [.map (some bn), .map (some bb), .int .i64 1])] :: [(bn, mobj [(sh, osl o.1 1, 0)] 1)] :: och 3 o.1 [.int .i64 (noteF l s (np l) sh pos)] :: [(bb, mobj [(bunOfF l s (np l) (noteF l s (np l) sh pos), .map (some bi), 0)] 1)] :: [(bi, mobj [(sh, .bool true, 0)] 1)] :: [(b8, row 32 [.int .i64 0, .slice none 0 0, .slice none 0 0, .slice none 0 0])] :: [(b7, row 26 [.int .i64 c.r, .int .i64 c.s, .int .i64 c.o])] :: [(b4, row 23 l.v.cells.toList)] :: Ls)) (osl w2.1 2) 2 (wP c) := SlV.grown 1 rfl w2.2.1 fun k hk j hj => by
    have : j = 0 := by omega
    subst this
    rcases (show k = 0 ∨ k = 1 by omega) with rfl | rfl <;> rfl
  have hq : SlP (K W (och 88 n1.1 [.int .i64 1, .int .i64 0] :: och 3 w2.1 [.int .i64 (((1 : Nat) : Int) * c.s - c.r), .int .i64 c.o] :: och 3 o2 [.int .i64 (bunOfF l s (np l) (noteF l s (np l) sh pos))] :: och 3 o1 [.int .i64 sh] :: [(b10, row 75 [.map (some bn), .map (some bb), .int .i64 1])] :: [(bn, mobj [(sh, osl o.1 1, 0)] 1)] :: och 3 o.1 [.int .i64 (noteF l s (np l) sh pos)] :: [(bb, mobj [(bunOfF l s (np l) (noteF l s (np l) sh pos), .map (some bi), 0)] 1)] :: [(bi, mobj [(sh, .bool true, 0)] 1)] :: [(b8, row 32 [.int .i64 0, .slice none 0 0, .slice none 0 0, .slice none 0 0])] :: [(b7, row 26 [.int .i64 c.r, .int .i64 c.s, .int .i64 c.o])] :: [(b4, row 23 l.v.cells.toList)] :: Ls)) (osl n1.1 1) 1 qP := SlV.grown 0 rfl n1.2.1 fun k hk j hj => by
    have : k = 0 := by omega
    subst this
    rcases (show j = 0 ∨ j = 1 by omega) with rfl | rfl <;> rfl
  refine s_call (en_f rfl Try.call49) (close_spec W _ 2 1 _ _ (wP c) qP hw hq (goodsP hcst)) rfl rfl rfl (fun y => ?_)
  obtain ⟨⟨v, f, g, bg⟩, hC⟩ := y
  have hg0 := closP hcst hle hC
  dsimp only
  refine s_y (y_move rfl) rfl rfl rfl ?_
  refine s_y (y_extract rfl rfl) rfl rfl rfl ?_
  refine s_y (y_extract rfl rfl) rfl rfl rfl ?_
  refine s_y (y_extract rfl rfl) rfl rfl rfl ?_
  refine s_y (y_assign rfl) rfl rfl rfl ?_
  refine s_y (y_assign rfl) rfl rfl rfl ?_
  refine s_y (y_assign rfl) rfl rfl rfl ?_
  refine s_nil ?_
  refine f_then ?_
  refine c_seq ?_
  refine c_region ?_
  refine s_y (y_assign rfl) rfl rfl rfl ?_
  refine s_nil ?_
  refine f_then ?_
  refine c_seq ?_
  refine c_seq ?_
  refine c_region ?_
  refine s_y (y_move rfl) rfl rfl rfl ?_
  refine s_y (y_len Try.tab rfl rfl) rfl rfl rfl ?_
  refine s_y (y_move rfl) rfl rfl rfl ?_
  refine s_nil ?_
  refine f_then ?_
  refine c_block ?_
  dsimp only at hg0
  refine c_loopP (α := Bool) (fun z => [(7, .pointer (some ⟨b7, 0, none⟩)), (8, .pointer (some ⟨b8, 0, none⟩)), (10, .pointer (some ⟨b10, 0, none⟩)), (24, .slice (some ⟨bg, 0, none⟩) 2 2), (26, .slice none 0 0), (113, osl o1 1), (114, .int .i64 1), (115, .int .i64 (if z then 1 else 0))]) (fun _ => True)
    (fun _ => K W ([(bg, bools 4 4 g [])] :: och 88 n1.1 [.int .i64 1, .int .i64 0] :: och 3 w2.1 [.int .i64 (((1 : Nat) : Int) * c.s - c.r), .int .i64 c.o] :: och 3 o2 [.int .i64 (bunOfF l s (np l) (noteF l s (np l) sh pos))] :: och 3 o1 [.int .i64 sh] :: [(b10, row 75 [.map (some bn), .map (some bb), .int .i64 1])] :: [(bn, mobj [(sh, osl o.1 1, 0)] 1)] :: och 3 o.1 [.int .i64 (noteF l s (np l) sh pos)] :: [(bb, mobj [(bunOfF l s (np l) (noteF l s (np l) sh pos), .map (some bi), 0)] 1)] :: [(bi, mobj [(sh, .bool true, 0)] 1)] :: [(b8, row 32 [.int .i64 0, .slice none 0 0, .slice none 0 0, .slice none 0 0])] :: [(b7, row 26 [.int .i64 c.r, .int .i64 c.s, .int .i64 c.o])] :: [(b4, row 23 l.v.cells.toList)] :: Ls)) (fun z => if z then 0 else 1) false ⟨rfl, rfl, rfl, rfl, rfl, rfl, rfl, rfl, trivial⟩ trivial (fun w h => h) ?_
  rintro (_ | _) _
  · simp only [Bool.false_eq_true, if_false]
    have q : CellIs (K W ([(bg, bools 4 4 g [])] :: och 88 n1.1 [.int .i64 1, .int .i64 0] :: och 3 w2.1 [.int .i64 (((1 : Nat) : Int) * c.s - c.r), .int .i64 c.o] :: och 3 o2 [.int .i64 (bunOfF l s (np l) (noteF l s (np l) sh pos))] :: och 3 o1 [.int .i64 sh] :: [(b10, row 75 [.map (some bn), .map (some bb), .int .i64 1])] :: [(bn, mobj [(sh, osl o.1 1, 0)] 1)] :: och 3 o.1 [.int .i64 (noteF l s (np l) sh pos)] :: [(bb, mobj [(bunOfF l s (np l) (noteF l s (np l) sh pos), .map (some bi), 0)] 1)] :: [(bi, mobj [(sh, .bool true, 0)] 1)] :: [(b8, row 32 [.int .i64 0, .slice none 0 0, .slice none 0 0, .slice none 0 0])] :: [(b7, row 26 [.int .i64 c.r, .int .i64 c.s, .int .i64 c.o])] :: [(b4, row 23 l.v.cells.toList)] :: Ls)) ⟨o1.b, o1.pre.length + 0, none⟩ (.int .i64 sh) := cell_own 4 rfl 0 rfl rfl
    refine c_seq ?_
    refine c_region ?_
    refine s_y (y_T (y_lss rfl rfl) (by omega)) rfl rfl rfl ?_
    refine s_nil ?_
    refine f_then ?_
    refine c_seq ?_
    refine c_condT rfl ?_
    refine c_skip ?_
    refine f_then ?_
    refine c_seq ?_
    refine c_block ?_
    refine c_seq ?_
    refine c_region ?_
    refine s_y (y_move rfl) rfl rfl rfl ?_
    refine s_y (y_indexAddr1o Try.tab rfl rfl rfl rfl 0 rfl (by omega)) rfl rfl rfl ?_
    refine s_y (y_load Try.tab rfl rfl q) rfl rfl rfl ?_
    refine s_y (y_assign rfl) rfl rfl rfl ?_
    refine s_y (y_assign rfl) rfl rfl rfl ?_
    refine s_nil ?_
    refine f_then ?_
    refine c_seq ?_
    refine c_region ?_
    refine s_y (y_move rfl) rfl rfl rfl ?_
    refine s_y (y_move rfl) rfl rfl rfl ?_
    refine s_y (y_indexAddr1 Try.tab rfl rfl rfl rfl 0 rfl (by omega)) rfl rfl rfl ?_
    refine s_y (y_load Try.tab rfl rfl (cell_bools 0 rfl (by omega))) rfl rfl rfl ?_
    refine s_nil ?_
    refine f_then ?_
    rw [hg0]
    refine c_condF rfl ?_
    refine c_skip ?_
    refine f_blockN ?_
    refine f_then ?_
    refine c_region ?_
    refine s_y (y_add rfl rfl (by omega)) rfl rfl rfl ?_
    refine s_y (y_move rfl) rfl rfl rfl ?_
    refine s_nil ?_
    exact f_roundP true trivial Nat.zero_lt_one ⟨rfl, rfl, rfl, rfl, rfl, rfl, rfl, rfl, trivial⟩ (fun w h => h)
  simp only [if_true]
  refine SC.cls (C' := K W ([(bn, mobj [(sh, osl o.1 1, 0)] 1)] :: och 3 o.1 [.int .i64 (noteF l s (np l) sh pos)] :: [(bb, mobj [(bunOfF l s (np l) (noteF l s (np l) sh pos), .map (some bi), 0)] 1)] :: [(bi, mobj [(sh, .bool true, 0)] 1)] :: [(b10, row 75 [.map (some bn), .map (some bb), .int .i64 1])] :: [(b8, row 32 [.int .i64 0, .slice none 0 0, .slice none 0 0, .slice none 0 0])] :: [(b7, row 26 [.int .i64 c.r, .int .i64 c.s, .int .i64 c.o])] :: Ls)) ?_ (fun w h => ((h.dropAt 12).tail.tail.tail.tail.tail).fronts [4, 4, 4, 4])
  refine c_seq ?_
  refine c_region ?_
  refine s_y (y_F (y_lss rfl rfl) (by omega)) rfl rfl rfl ?_
  refine s_nil ?_
  refine f_then ?_
  refine c_seq ?_
  refine c_condF rfl ?_
  refine c_exit ?_
  refine f_thenE ?_
  refine f_rndE ?_
  refine f_blockE ?_
  refine f_then ?_
  refine c_seq ?_
  refine c_region ?_
  refine s_y (y_loadA Try.tab rfl rfl rfl rfl (cells_row0 4 rfl rfl)) rfl rfl rfl ?_
  refine s_y (y_loadA Try.tab rfl rfl rfl rfl (cells_row0 6 rfl rfl)) rfl rfl rfl ?_
  refine s_y (y_move rfl) rfl rfl rfl ?_
  refine s_call (en_f rfl Try.call50) (repair1_spec W ([(b10, row 75 [.map (some bn), .map (some bb), .int .i64 1])] :: [(b8, row 32 [.int .i64 0, .slice none 0 0, .slice none 0 0, .slice none 0 0])] :: [(b7, row 26 [.int .i64 c.r, .int .i64 c.s, .int .i64 c.o])] :: Ls) bn bb bi sh _ _ o c hcst hB) rfl rfl rfl (fun x => ?_)
  obtain ⟨a1, k1, a2, k2⟩ := x
  dsimp only
  refine s_set (set_box Try.tab 1 rfl rfl rfl rfl rfl rfl rfl) rfl rfl ?_
  refine s_y (y_assign rfl) rfl rfl rfl ?_
  refine s_nil ?_
  refine f_then ?_
  refine c_ret ?_
  exact f_ret (a1, k1, a2, k2) (resA1 Try.tab rfl rfl rfl rfl rfl rfl (cells_row0 1 rfl rfl)) (fun w h => h.tail.tail.tail)
end Go.KL
end

section
/- Walks: the laws' awake. -/
namespace Go.KL
open Go.Proofs
abbrev layA : Lay := ⟨2, 2, 3, 2, false⟩
theorem gdA : Gd layA 5 := ⟨⟨by decide, by decide, by decide, by decide⟩, by decide⟩
theorem awNote (W : World) (Ls : List Chunk) : Spec Try.prog 21 #[layA.v, .int .i64 5, cellV 4 3] (K W Ls) (fun _ : Unit => .tuple #[.int .i64 19, .int .i64 0]) (fun _ => K W Ls) := Note_ok W Ls layA 5 4 3 gdA (by decide)
theorem awCell (W : World) (Ls : List Chunk) : Spec Try.prog 22 #[layA.v, .int .i64 5, .int .i64 5] (K W Ls) (fun _ : Unit => .tuple #[cellV 2 1, .int .i64 0]) (fun _ => K W Ls) := Cell_ok W Ls layA 5 5 gdA (by decide)
abbrev cosA : Cos := ⟨9, 2, 1⟩
theorem awPlan (W : World) (Ls : List Chunk) (ba : Nat) (hca : CellsAre (K W Ls) ⟨ba, 0, none⟩ [.int .i64 1, .int .i64 1]) :
    Spec Try.prog 18 #[layA.v, .int .i64 5, .slice (some ⟨ba, 0, none⟩) 1 1, cosA.v] (K W Ls)
      (X := Option Addr × Nat × Option Addr × Nat) (fun x => .tuple #[.agg #[.int .i64 3, .slice none 0 0, .slice x.1 1 x.2.1, .slice x.2.2.1 1 x.2.2.2], .int .i64 0])
      (fun _ => K W Ls) := plan1_spec W Ls layA 5 1 1 cosA ba gdA (by decide) ⟨by decide, by decide, by decide⟩ hca (by decide)
attribute [local irreducible] SC St Fin Sq Sw Ylds Doos Sets Enters Spec CellIs CellsAre Then Ret Rnd Chn resOK ints bools recs arr
set_option maxRecDepth 10000 in
set_option maxHeartbeats 16000000 in
theorem awake_spec (W : World) (Ls : List Chunk) : Spec Try.prog 15 #[] (K W Ls) (fun _ : Unit => .bool true) (fun _ => K W Ls) := by
  refine enter (args := []) Try.func15 rfl Try.ntmps15 rfl ?_
  refine c_seq ?_
  refine c_region ?_
  refine s_y (y_assign rfl) rfl rfl rfl ?_
  refine s_nil ?_
  refine f_then ?_
  refine c_seq ?_
  refine c_region ?_
  refine s_y (y_build Try.tab rfl rfl rfl rfl rfl) rfl rfl rfl ?_
  refine s_do (do_alloc Try.tab rfl) rfl rfl rfl (fun b1 => ?_)
  refine s_set (set_box Try.tab 0 rfl rfl rfl rfl rfl rfl rfl) rfl rfl ?_
  refine s_nil ?_
  refine f_then ?_
  refine c_seq ?_
  refine c_region ?_
  refine s_y (y_loadA Try.tab rfl rfl rfl rfl (cells_row0 0 rfl rfl)) rfl rfl rfl ?_
  refine s_y (y_build Try.tab rfl rfl rfl rfl rfl) rfl rfl rfl ?_
  refine s_call (en_f rfl Try.call21) (awNote _ _) rfl rfl rfl (fun _ => ?_)
  refine s_y (y_move rfl) rfl rfl rfl ?_
  refine s_y (y_extract rfl rfl) rfl rfl rfl ?_
  refine s_y (y_extract rfl rfl) rfl rfl rfl ?_
  refine s_y (y_assign rfl) rfl rfl rfl ?_
  refine s_y (y_assign rfl) rfl rfl rfl ?_
  refine s_nil ?_
  refine f_then ?_
  refine c_seq ?_
  refine c_region ?_
  refine s_y (y_loadA Try.tab rfl rfl rfl rfl (cells_row0 0 rfl rfl)) rfl rfl rfl ?_
  refine s_call (en_f rfl Try.call22) (awCell _ _) rfl rfl rfl (fun _ => ?_)
  refine s_y (y_move rfl) rfl rfl rfl ?_
  refine s_y (y_extract rfl rfl) rfl rfl rfl ?_
  refine s_y (y_extract rfl rfl) rfl rfl rfl ?_
  refine s_do (do_alloc Try.tab rfl) rfl rfl rfl (fun b4 => ?_)
  refine s_set (set_box Try.tab 0 rfl rfl rfl rfl rfl rfl rfl) rfl rfl ?_
  refine s_y (y_assign rfl) rfl rfl rfl ?_
  refine s_nil ?_
  refine f_then ?_
  refine c_seq ?_
  refine c_region ?_
  refine s_y (y_loadA Try.tab rfl rfl rfl rfl (cells_row0 1 rfl rfl)) rfl rfl rfl ?_
  refine s_y (y_build Try.tab rfl rfl rfl rfl rfl) rfl rfl rfl ?_
  refine s_do (do_buildSliceS Try.tab ⟨rfl, rfl, rfl, rfl⟩ rfl rfl rfl rfl) rfl rfl rfl (fun b23 => ?_)
  refine s_y (y_build Try.tab rfl rfl rfl rfl rfl) rfl rfl rfl ?_
  refine s_call (en_f rfl Try.call18) (awPlan W _ b23 (cells_row0 0 rfl rfl)) rfl rfl rfl (fun x => ?_)
  obtain ⟨a1, k1, a2, k2⟩ := x
  dsimp only
  refine s_y (y_move rfl) rfl rfl rfl ?_
  refine s_y (y_extract rfl rfl) rfl rfl rfl ?_
  refine s_y (y_extract rfl rfl) rfl rfl rfl ?_
  refine s_do (do_alloc Try.tab rfl) rfl rfl rfl (fun b6 => ?_)
  refine s_set (set_box Try.tab 0 rfl rfl rfl rfl rfl rfl rfl) rfl rfl ?_
  refine s_y (y_assign rfl) rfl rfl rfl ?_
  refine s_nil ?_
  refine f_then ?_
  refine c_seq ?_
  refine c_seq ?_
  refine c_region ?_
  refine s_y (y_move rfl) rfl rfl rfl ?_
  refine s_y (y_F (y_neq rfl rfl) (by omega)) rfl rfl rfl ?_
  refine s_y (y_move rfl) rfl rfl rfl ?_
  refine s_y (y_move rfl) rfl rfl rfl ?_
  refine s_y (y_F (y_neq rfl rfl) (by omega)) rfl rfl rfl ?_
  refine s_y (y_pickF rfl rfl) rfl rfl rfl ?_
  refine s_y (y_move rfl) rfl rfl rfl ?_
  refine s_y (y_loadA Try.tab rfl rfl rfl rfl (cells_row0 2 rfl rfl)) rfl rfl rfl ?_
  refine s_y (y_build Try.tab rfl rfl rfl rfl rfl) rfl rfl rfl ?_
  refine s_y (y_F (y_neqCell rfl rfl) (by omega)) rfl rfl rfl ?_
  refine s_y (y_pickF rfl rfl) rfl rfl rfl ?_
  refine s_y (y_move rfl) rfl rfl rfl ?_
  refine s_y (y_move rfl) rfl rfl rfl ?_
  refine s_y (y_F (y_neq rfl rfl) (by omega)) rfl rfl rfl ?_
  refine s_y (y_pickF rfl rfl) rfl rfl rfl ?_
  refine s_y (y_move rfl) rfl rfl rfl ?_
  refine s_y (y_fieldAddr0 Try.tab rfl rfl rfl rfl rfl) rfl rfl rfl ?_
  refine s_y (y_load Try.tab rfl rfl (cell_row 0 rfl rfl)) rfl rfl rfl ?_
  refine s_y (y_F (y_neq rfl rfl) (by omega)) rfl rfl rfl ?_
  refine s_y (y_pickF rfl rfl) rfl rfl rfl ?_
  refine s_y (y_move rfl) rfl rfl rfl ?_
  refine s_y (y_fieldAddrB Try.tab 2 rfl rfl rfl rfl rfl) rfl rfl rfl ?_
  refine s_y (y_load Try.tab rfl rfl (cell_row 0 rfl rfl)) rfl rfl rfl ?_
  refine s_y (y_len Try.tab rfl rfl) rfl rfl rfl ?_
  refine s_y (y_F (y_neq rfl rfl) (by omega)) rfl rfl rfl ?_
  refine s_y (y_pickF rfl rfl) rfl rfl rfl ?_
  refine s_y (y_move rfl) rfl rfl rfl ?_
  refine s_y (y_move rfl) rfl rfl rfl ?_
  refine s_y (y_F (y_neq rfl rfl) (by omega)) rfl rfl rfl ?_
  refine s_y (y_pickF rfl rfl) rfl rfl rfl ?_
  refine s_nil ?_
  refine f_then ?_
  refine c_condF rfl ?_
  refine c_skip ?_
  refine f_then ?_
  refine c_seq ?_
  refine c_region ?_
  refine s_y (y_assign rfl) rfl rfl rfl ?_
  refine s_nil ?_
  refine f_then ?_
  refine c_ret ?_
  exact f_ret () (res1 rfl rfl) (fun w h => h.tail.tail.tail.tail)
end Go.KL
end

section
/- Contracts of the exported functions, as the laws want them. -/
namespace Go.KL
open Go.Proofs
theorem Cell_okF (W : World) (Ls : List Chunk) (l : Lay) (s note : Int) (h : Gd l s) (hn : 0 ≤ note ∧ note < s * np l) : Spec Try.prog 22 #[l.v, .int .i64 s, .int .i64 note] (K W Ls) (fun _ : Unit => .tuple #[cellV (cellF l s (np l) note).1 (cellF l s (np l) note).2, .int .i64 0]) (fun _ => K W Ls) := Cell_ok W Ls l s note h hn
theorem Cell_back (W : World) (Ls : List Chunk) (l : Lay) (s sh pos : Int) (h : Gd l s) (hc : CellIn l s sh pos) : Spec Try.prog 22 #[l.v, .int .i64 s, .int .i64 (noteF l s (np l) sh pos)] (K W Ls) (fun _ : Unit => .tuple #[cellV sh pos, .int .i64 0]) (fun _ => K W Ls) := by
  have := Cell_okF W Ls l s _ h (note_bd l s (np l) sh pos h.1 (np_bd h.1) hc.1 hc.2)
  rwa [cell_note h.1 hc.1 hc.2] at this
theorem cellF_in {l : Lay} {s note : Int} (h : Gd l s) (hn : 0 ≤ note ∧ note < s * np l) : CellIn l s (cellF l s (np l) note).1 (cellF l s (np l) note).2 := (note_cell h.1 (np_bd h.1) hn).1
theorem Note_back (W : World) (Ls : List Chunk) (l : Lay) (s note : Int) (h : Gd l s) (hn : 0 ≤ note ∧ note < s * np l) : Spec Try.prog 21 #[l.v, .int .i64 s, cellV (cellF l s (np l) note).1 (cellF l s (np l) note).2] (K W Ls) (fun _ : Unit => .tuple #[.int .i64 note, .int .i64 0]) (fun _ => K W Ls) := by
  have := Note_ok W Ls l s _ _ h (cellF_in h hn)
  rwa [(note_cell h.1 (np_bd h.1) hn).2] at this
theorem rNote_back (W : World) (Ls : List Chunk) (l : Lay) (s note : Int) (h : Gd l s) (hn : 0 ≤ note ∧ note < s * np l) : Spec Try.prog 26 #[l.v, .int .i64 s, cellV (cellF l s (np l) note).1 (cellF l s (np l) note).2] (K W Ls) (fun _ : Unit => .int .i64 note) (fun _ => K W Ls) := by
  have := rnote_spec W Ls l s _ _ h.1 h.2 (cellF_in h hn)
  rwa [(note_cell h.1 (np_bd h.1) hn).2] at this
theorem is_yes (W : World) (Ls : List Chunk) (l : Lay) (s sh pos : Int) (h : Gd l s) (hc : CellIn l s sh pos) : Spec Try.prog 25 #[l.v, .int .i64 s, cellV sh pos] (K W Ls) (fun _ : Unit => .bool true) (fun _ => K W Ls) := by
  have := is_spec W Ls l s sh pos h.1
  rwa [decide_eq_true hc] at this
theorem is_no (W : World) (Ls : List Chunk) (l : Lay) (s sh pos : Int) (h : Gd l s) (hc : ¬ CellIn l s sh pos) : Spec Try.prog 25 #[l.v, .int .i64 s, cellV sh pos] (K W Ls) (fun _ : Unit => .bool false) (fun _ => K W Ls) := by
  have := is_spec W Ls l s sh pos h.1
  rwa [decide_eq_false hc] at this
theorem wrong_0 (W : World) (Ls : List Chunk) (l : Lay) (s : Int) (h : Gd l s) : Spec Try.prog 23 #[l.v, .int .i64 s] (K W Ls) (fun _ : Unit => .int .i64 0) (fun _ => K W Ls) := by
  have := wrong_spec W Ls l s
  rwa [wrg_0.2 h] at this
theorem small_yes (W : World) (Ls : List Chunk) (l : Lay) (s : Int) (h : Gd l s ∧ s * np l ≤ 3000) : Spec Try.prog 27 #[l.v, .int .i64 s] (K W Ls) (fun _ : Unit => .bool true) (fun _ => K W Ls) := by
  have := small_spec W Ls l s
  rwa [decide_eq_true h] at this
theorem small_no (W : World) (Ls : List Chunk) (l : Lay) (s : Int) (h : ¬ (Gd l s ∧ s * np l ≤ 3000)) : Spec Try.prog 27 #[l.v, .int .i64 s] (K W Ls) (fun _ : Unit => .bool false) (fun _ => K W Ls) := by
  have := small_spec W Ls l s
  rwa [decide_eq_false h] at this
theorem awakeQ (w : World) : Calls Try.prog 15 #[] w fun e w' => e = .returned (.bool true) ∧ Ext w w' := (awake_spec w [] w (K.refl w)).mono fun _ _ ⟨_, h1, h2⟩ => ⟨h1, h2.toExt⟩
theorem K.any {W w : World} {Ls : List Chunk} (h : K W Ls w) : K W [] w := h.weak Ls.flatten (by simp)
end Go.KL
end

section
/- From the reading of a law's arguments to views of slices; what a law that writes nothing old leaves behind. No program in sight. -/
namespace Go.KL
open Go.ChangeShapes Go.WideShapes Go.RowKit Go.WideElems
section
variable {H : Type} {enc : TypeId × Value → H} {P : Program}

theorem Ext.since {W w : World} (h : Ext W w) : W.Since W.heap.size w := ⟨h.os, h.tape, h.output, h.size, h.block⟩

theorem trodAll_ext {W w : World} (he : Ext W w) (hl : laidOutB P = true) {sp : Nat → Bool} : ∀ {ts : List TypeId} {vs : List Value} {ds : List (DataW H)} {ps : List MemPlace},
    (∀ t ∈ ts, P.readableRec t = true ∧ t < P.types.size) → DataW.TrodAll enc P W 0 (fun _ => true) true ts vs ds ps → (∀ p ∈ ps, p.block < W.heap.size) → (∀ p ∈ ps, sp p.block = true) →
    DataW.TrodAll enc P w 0 sp true ts vs ds ps
  | [], vs, ds, ps, _, h, _, _ => by
    obtain ⟨rfl, rfl, rfl⟩ := trodAll_nil h
    exact trodAll_mk0
  | t :: ts, vs, ds, ps, hr, h, hb, hsp => by
    obtain ⟨v, vs', d, ds', p, q, rfl, rfl, rfl, h1, h2⟩ := trodAll_cons h
    have hr1 := hr t (by simp)
    exact trodAll_cons_mk (Trod_stays hl hr1.1 hr1.2 h1 (fun x hx => he.since.sameAt (hb x (by simp [hx]))) (fun x hx => hsp x (by simp [hx])))
      (trodAll_ext he hl (fun t ht => hr t (by simp [ht])) h2 (fun x hx => hb x (by simp [hx])) (fun x hx => hsp x (by simp [hx])))

/-- What a law leaves behind that has written to nothing that was there: true, and its arguments read as they did. -/
theorem law_post {f : Func} {s : ChangeSpec} {W W' : World} {args : Array Value} {ds gs : List (DataW H)} {before : List MemPlace} {t : TypeId}
    (hl : laidOutB P = true) (hts : ∀ t ∈ f.params.toList, P.readableRec t = true ∧ t < P.types.size) (hv : s.vars = []) (hr : f.resultTypes = #[t]) (ht : P.underlying t = some .bool)
    (hW : DataW.Whole enc P f.params.toList s.vars false W args.toList ds gs before) (hfn : s.fn H (ds ++ gs) = { results := [.lit (.bool true)], args := ds }) (he : Ext W W') :
    s.post enc P f false true false false W args (.bool true) W' := by
  have hlt := hW.lt
  have hW' := hW
  obtain ⟨p, q, hA, hV, rfl, hz, hn⟩ := hW'
  rw [hv] at hV
  obtain ⟨rfl, rfl⟩ := trodVars_none hV
  refine ⟨ds, [], p ++ [], [], p, [], hW, ?_, ?_, ?_, ?_, ?_⟩
  · rw [hfn, hr]
    exact trodAll_cons_mk (shut_bool ht true) trodAll_mk0
  · rw [hfn]
    refine trodAll_ext he hl hts hA (fun x hx => hlt x (by simp [hx])) (fun x hx => ?_)
    simpa using hlt x (by simp [hx])
  · rw [hfn, hv]
    exact hV
  · exact he.since.frame _
  · intro h; cases h

section
variable {W : World} {sp : Nat → Bool} {held : Bool} {fuel : Nat} {cs : List Value} {x : DataW H × List MemPlace} {t e : TypeId} {s : Nat}

theorem cell_K {b o : Nat} {v : Value} (h : W.cell? ⟨b, o, none⟩ = some v) : CellIs (K W []) ⟨b, o, none⟩ v := by
  intro w hw
  have hb : b < W.heap.size := by
    rcases Nat.lt_or_ge b W.heap.size with hb | hb
    · exact hb
    · simp [World.cell?, Array.getElem?_eq_none hb] at h
  rw [hw.toExt.since.cell (a := ⟨b, o, none⟩) hb, h]

/-- A slice, opened: its cells by a function; each element reads. -/
theorem open_view (ht : P.underlying t = some (.slice e)) (hs : P.cellsOf e = s) (hpos : 0 < s) (h : DataW.trod enc P W 0 sp held fuel t cs = some x) :
    ∃ pa n c G, cs = [.slice pa n c] ∧ n ≤ 9223372036854775807 ∧ SlV (K W []) (.slice pa n c) n s G ∧ ∀ i, i < n → ∃ z m, DataW.trod enc P W 0 sp held m e ((List.range s).map (G i)) = some z := by
  rcases DataW.trod_slice ht h with ⟨rfl, _⟩ | ⟨a, len, cap, elems, rest, m, _, rfl, _, _, hlc, hcm, hlen, hel, _⟩
  · exact ⟨none, 0, 0, fun _ _ => undef, rfl, by omega, ⟨none, 0, rfl, by omega, fun h => by omega⟩, fun i hi => by omega⟩
  have hmax : cap ≤ 9223372036854775807 := by
    have : maxLen ≤ 9223372036854775807 := by decide
    omega
  by_cases h0 : len = 0
  · subst h0
    exact ⟨some a, 0, cap, fun _ _ => undef, rfl, by omega, ⟨some a, cap, rfl, by omega, fun h => by omega⟩, fun i hi => by omega⟩
  have hone : ∀ i, i < len → ∃ el z, (∀ j, j < s → W.cell? (a.add (i * s + j)) = el[j]?) ∧ el.length = s ∧ DataW.trod enc P W 0 sp held m e el = some z := by
    intro i hi
    have := hel i hi
    rw [hs] at this
    have hz : ∃ z, elems[i]? = some z := ⟨elems[i]'(by omega), by simp [List.getElem?_eq_getElem (show i < elems.length by omega)]⟩
    obtain ⟨z, hz⟩ := hz
    rw [hz, Option.bind_eq_some_iff] at this
    obtain ⟨el, h1, h2⟩ := this
    obtain ⟨_, h4, h5⟩ := World.cells?_some h1
    refine ⟨el, z, fun j hj => ?_, h4, h2⟩
    rw [← h5 j hj]
    obtain ⟨b, o, spot⟩ := a
    by_cases e1 : i * s = 0 <;> by_cases e2 : j = 0 <;> simp [Addr.add, e1, e2, Nat.add_assoc]
  obtain ⟨b, o, spot⟩ := a
  have hspot : spot = none := by
    obtain ⟨el, z, h1, h2, _⟩ := hone 0 (by omega)
    have := h1 0 hpos
    rw [List.getElem?_eq_getElem (by omega)] at this
    simpa [Addr.add] using World.cell?_spot this
  subst hspot
  have hG : ∀ i, i < len → ∃ z, DataW.trod enc P W 0 sp held m e ((List.range s).map fun j => (W.cell? ⟨b, o + (i * s + j), none⟩).getD undef) = some z ∧ ∀ j, j < s → W.cell? ⟨b, o + (i * s + j), none⟩ = some ((W.cell? ⟨b, o + (i * s + j), none⟩).getD undef) := by
    intro i hi
    obtain ⟨el, z, h1, h2, h3⟩ := hone i hi
    have h1 : ∀ j, j < s → W.cell? ⟨b, o + (i * s + j), none⟩ = el[j]? := fun j hj => by rw [← h1 j hj, add_plain]
    refine ⟨z, ?_, fun j hj => ?_⟩
    · have : ((List.range s).map fun j => (W.cell? ⟨b, o + (i * s + j), none⟩).getD undef) = el := by
        apply List.ext_getElem?
        intro j
        by_cases hj : j < s
        · rw [List.getElem?_map, List.getElem?_range hj]
          simp only [Option.map_some, h1 j hj]
          rw [List.getElem?_eq_getElem (by omega)]
          rfl
        · rw [List.getElem?_eq_none (by simp; omega), List.getElem?_eq_none (by omega)]
      rw [this]; exact h3
    · rw [h1 j hj, List.getElem?_eq_getElem (by omega)]; rfl
  refine ⟨some ⟨b, o, none⟩, len, cap, fun i j => (W.cell? ⟨b, o + (i * s + j), none⟩).getD undef, rfl, by omega, ⟨_, _, rfl, hlc, fun _ => ⟨b, o, rfl, fun i hi j hj => ?_⟩⟩, fun i hi => ?_⟩
  · rw [Nat.add_assoc]
    exact cell_K ((hG i hi).choose_spec.2 j hj)
  · obtain ⟨z, hz, _⟩ := hG i hi
    exact ⟨z, m, hz⟩

def vI : Value → Int
  | .int _ k => k
  | _ => 0
def vB : Value → Bool
  | .bool b => b
  | _ => false
def i64 (k : Int) : Prop := -9223372036854775808 ≤ k ∧ k ≤ 9223372036854775807

theorem trod_i64 {v : Value} (ht : P.underlying t = some (.int .i64)) (h : DataW.trod enc P W 0 sp held fuel t [v] = some x) : v = .int .i64 (vI v) ∧ i64 (vI v) := by
  obtain ⟨k, h1, _, h2⟩ := DataW.trod_int ht h
  injection h1 with h1
  subst h1
  exact ⟨rfl, bounds_i64 h2⟩
theorem trod_bo {v : Value} (ht : P.underlying t = some .bool) (h : DataW.trod enc P W 0 sp held fuel t [v] = some x) : v = .bool (vB v) := by
  obtain ⟨k, h1, _⟩ := DataW.trod_bool ht h
  injection h1 with h1
  subst h1
  rfl

theorem open_ints (ht : P.underlying t = some (.slice e)) (he : P.underlying e = some (.int .i64)) (hs : P.cellsOf e = 1) (h : DataW.trod enc P W 0 sp held fuel t cs = some x) :
    ∃ pa n c f, cs = [.slice pa n c] ∧ n ≤ 9223372036854775807 ∧ SlI (K W []) (.slice pa n c) n f ∧ ∀ i, i < n → i64 (f i) := by
  obtain ⟨pa, n, c, G, h1, h2, h3, h4⟩ := open_view ht hs (by omega) h
  have h5 : ∀ i, i < n → G i 0 = .int .i64 (vI (G i 0)) ∧ i64 (vI (G i 0)) := fun i hi => by
    obtain ⟨z, m, hz⟩ := h4 i hi
    exact trod_i64 he hz
  refine ⟨pa, n, c, fun i => vI (G i 0), h1, h2, h3.congr fun i hi j hj => ?_, fun i hi => (h5 i hi).2⟩
  have : j = 0 := by omega
  subst this
  exact (h5 i hi).1
theorem open_bools (ht : P.underlying t = some (.slice e)) (he : P.underlying e = some .bool) (hs : P.cellsOf e = 1) (h : DataW.trod enc P W 0 sp held fuel t cs = some x) :
    ∃ pa n c f, cs = [.slice pa n c] ∧ n ≤ 9223372036854775807 ∧ SlB (K W []) (.slice pa n c) n f := by
  obtain ⟨pa, n, c, G, h1, h2, h3, h4⟩ := open_view ht hs (by omega) h
  refine ⟨pa, n, c, fun i => vB (G i 0), h1, h2, h3.congr fun i hi j hj => ?_⟩
  have : j = 0 := by omega
  subst this
  obtain ⟨z, m, hz⟩ := h4 i hi
  exact trod_bo he hz
/-- Elements of s cells, each an integer. -/
theorem open_recs (ht : P.underlying t = some (.slice e)) (hs : P.cellsOf e = s) (hpos : 0 < s) (hel : ∀ (G : Nat → Value) m z, DataW.trod enc P W 0 sp held m e ((List.range s).map G) = some z → ∀ j, j < s → G j = .int .i64 (vI (G j)) ∧ i64 (vI (G j)))
    (h : DataW.trod enc P W 0 sp held fuel t cs = some x) :
    ∃ (pa : Option Addr) (n c : Nat) (f : Nat → Nat → Int), cs = [.slice pa n c] ∧ n ≤ 9223372036854775807 ∧ SlV (K W []) (.slice pa n c) n s (fun i j => .int .i64 (f i j)) ∧ ∀ i, i < n → ∀ j, j < s → i64 (f i j) := by
  obtain ⟨pa, n, c, G, h1, h2, h3, h4⟩ := open_view ht hs hpos h
  have h5 : ∀ i, i < n → ∀ j, j < s → G i j = .int .i64 (vI (G i j)) ∧ i64 (vI (G i j)) := fun i hi j hj => by
    obtain ⟨z, m, hz⟩ := h4 i hi
    exact hel _ _ _ hz j hj
  exact ⟨pa, n, c, fun i j => vI (G i j), h1, h2, h3.congr fun i hi j hj => (h5 i hi j hj).1, fun i hi j hj => (h5 i hi j hj).2⟩
/-- The value of an argument of a slice type. -/
theorem open_arg {r : Reach} {b0 : Nat} {v : Value} {d : DataW H} {ps : List MemPlace} (ht : P.underlying t = some (.slice e)) (hval : Value.okWide P W r b0 t v) (hd : DataW.Trod enc P W 0 sp held t v d ps) :
    ∃ pa n c m, v = .slice pa n c ∧ DataW.trod enc P W 0 sp held m t [.slice pa n c] = some (d, ps) := by
  obtain ⟨pa, n, c, rfl⟩ := okWide_slice ht hval
  obtain ⟨m, hm⟩ := hd
  exact ⟨pa, n, c, m, rfl, by simpa [Value.cells] using hm⟩
end
end
end Go.KL
end

section
/- The arguments of the sheet laws, opened. -/
namespace Go.KL
open Go.ChangeShapes Go.WideShapes Go.RowKit Go.WideElems
open Go.Proofs
theorem u3 : Try.prog.underlying 3 = some (.int .i64) := by kernel_rfl
theorem u4 : Try.prog.underlying 4 = some .bool := by kernel_rfl
theorem u24 : Try.prog.underlying 24 = some (.slice 37) := by kernel_rfl
theorem u29 : Try.prog.underlying 29 = some (.slice 3) := by kernel_rfl
def fs23 : Array Field := #[⟨ "Rows", 3, 0, false, "", "", 0⟩, ⟨ "Cols", 3, 1, false, "", "", 8⟩, ⟨ "Ream", 3, 2, false, "", "", 16⟩, ⟨ "Bundle", 3, 3, false, "", "", 24⟩, ⟨ "Down", 4, 4, false, "", "", 32⟩]
theorem u23 : Try.prog.underlying 23 = some (.struct fs23) := by kernel_rfl
def fs37 : Array Field := #[⟨ "Sheet", 3, 0, false, "", "", 0⟩, ⟨ "Pos", 3, 1, false, "", "", 8⟩]
theorem u37 : Try.prog.underlying 37 = some (.struct fs37) := by kernel_rfl
def fs26 : Array Field := #[⟨ "Reprint", 3, 0, false, "", "", 0⟩, ⟨ "Star", 3, 1, false, "", "", 8⟩, ⟨ "Open", 3, 2, false, "", "", 16⟩]
theorem u26 : Try.prog.underlying 26 = some (.struct fs26) := by kernel_rfl
theorem z3 : Try.prog.cellsOf 3 = 1 := by kernel_rfl
theorem z4 : Try.prog.cellsOf 4 = 1 := by kernel_rfl
theorem z37 : Try.prog.cellsOf 37 = 2 := by kernel_rfl
theorem z23 : Try.prog.cellsOf 23 = 5 := by kernel_rfl
theorem z26 : Try.prog.cellsOf 26 = 3 := by kernel_rfl
theorem laidOut : laidOutB Try.prog = true := by kernel_rfl
section
variable {H : Type} {enc : TypeId × Value → H} {W : World} {sp : Nat → Bool} {held : Bool} {fuel : Nat} {cs : List Value} {x : DataW H × List MemPlace}
theorem fld {t : TypeId} {fs : Array Field} (ht : Try.prog.underlying t = some (.struct fs)) (h : DataW.trod enc Try.prog W 0 sp held fuel t cs = some x) (i : Nat) {f : Field} (hf : fs[i]? = some f) (hc : Try.prog.cellsOf f.type = 1) {v : Value} (hv : (cs.drop f.offset).take 1 = [v]) :
    ∃ m z, DataW.trod enc Try.prog W 0 sp held m f.type [v] = some z := by
  obtain ⟨xs, n, _, _, _, h4, h5⟩ := DataW.trod_struct ht h
  have hi : i < fs.size := by
    rcases Nat.lt_or_ge i fs.size with hi | hi
    · exact hi
    · rw [Array.getElem?_eq_none hi] at hf; cases hf
  have h6 := h5 i f hf
  rw [hc, hv, List.getElem?_eq_getElem (by omega)] at h6
  exact ⟨n, _, h6⟩
section
variable {r : Reach} {b0 : Nat} {v : Value} {d : DataW H} {ps : List MemPlace}
set_option maxRecDepth 100000 in
/-- An argument of the type int. -/
theorem arg3 (hval : Value.okWide Try.prog W r b0 3 v) (hd : DataW.Trod enc Try.prog W 0 sp held 3 v d ps) : ∃ n : Int, v = .int .i64 n ∧ i64 n := by
  obtain ⟨n, h1, _, _, h2⟩ := open_int u3 hval hd
  exact ⟨n, h1, bounds_i64 h2⟩
set_option maxRecDepth 100000 in
/-- Of the type []int. -/
theorem arg29 (hval : Value.okWide Try.prog W r b0 29 v) (hd : DataW.Trod enc Try.prog W 0 sp held 29 v d ps) : ∃ n f, SlI (K W []) v n f ∧ n ≤ 9223372036854775807 ∧ ∀ i, i < n → i64 (f i) := by
  obtain ⟨pa, n, c, m, rfl, h⟩ := open_arg u29 hval hd
  obtain ⟨pa', n', c', f, h1, h2, h3, h4⟩ := open_ints u29 u3 z3 h
  injection h1 with h1
  rw [h1]
  exact ⟨n', f, h3, h2, h4⟩
set_option maxRecDepth 100000 in
/-- Of the type []Cell. -/
theorem arg24 (hval : Value.okWide Try.prog W r b0 24 v) (hd : DataW.Trod enc Try.prog W 0 sp held 24 v d ps) : ∃ (n : Nat) (g : Nat → Nat → Int), SlV (K W []) v n 2 (fun i j => .int .i64 (g i j)) ∧ n ≤ 9223372036854775807 ∧ ∀ i, i < n → i64 (g i 0) ∧ i64 (g i 1) := by
  obtain ⟨pa, n, c, m, rfl, h⟩ := open_arg u24 hval hd
  obtain ⟨pa', n', c', f, h1, h2, h3, h4⟩ := open_recs (s := 2) u24 z37 (by omega) (fun G m z hz j hj => by
    have : ∀ (k : Nat) (f : Field), fs37[k]? = some f → Try.prog.underlying f.type = some (.int .i64) → Try.prog.cellsOf f.type = 1 → f.offset < 2 → G f.offset = .int .i64 (vI (G f.offset)) ∧ i64 (vI (G f.offset)) := by
      intro k f hf hu hc ho
      obtain ⟨m, z, h6⟩ := fld (v := G f.offset) u37 hz k hf hc (by
        match f.offset, ho with
        | 0, _ => rfl
        | 1, _ => rfl)
      exact trod_i64 hu h6
    match j, hj with
    | 0, _ => exact this 0 _ rfl u3 z3 (by decide)
    | 1, _ => exact this 1 _ rfl u3 z3 (by decide)) h
  injection h1 with h1
  rw [h1]
  exact ⟨n', f, h3, h2, fun i hi => ⟨h4 i hi 0 (by omega), h4 i hi 1 (by omega)⟩⟩
theorem five {cs : Array Value} (h : cs.size = 5) : ∃ a b c d e, cs = #[a, b, c, d, e] := by
  obtain ⟨l⟩ := cs
  match l, h with
  | [a, b, c, d, e], _ => exact ⟨a, b, c, d, e, rfl⟩
theorem two {cs : Array Value} (h : cs.size = 2) : ∃ a b, cs = #[a, b] := by
  obtain ⟨l⟩ := cs
  match l, h with
  | [a, b], _ => exact ⟨a, b, rfl⟩
theorem three {cs : Array Value} (h : cs.size = 3) : ∃ a b c, cs = #[a, b, c] := by
  obtain ⟨l⟩ := cs
  match l, h with
  | [a, b, c], _ => exact ⟨a, b, c, rfl⟩
set_option maxRecDepth 100000 in
/-- Of the type Layout. -/
theorem arg23 (hval : Value.okWide Try.prog W r b0 23 v) (hd : DataW.Trod enc Try.prog W 0 sp held 23 v d ps) : ∃ l : Lay, v = l.v ∧ i64 l.r ∧ i64 l.c ∧ i64 l.m ∧ i64 l.b := by
  obtain ⟨cs, rfl, hcs⟩ := okWide_struct u23 hval
  rw [z23] at hcs
  obtain ⟨a, b, c, d, e, rfl⟩ := five hcs
  obtain ⟨fuel, h⟩ := hd
  have h : DataW.trod enc Try.prog W 0 sp held fuel 23 [a, b, c, d, e] = _ := h
  obtain ⟨m0, x0, h0⟩ := fld u23 h 0 rfl z3 (v := a) rfl
  obtain ⟨m1, x1, h1⟩ := fld u23 h 1 rfl z3 (v := b) rfl
  obtain ⟨m2, x2, h2⟩ := fld u23 h 2 rfl z3 (v := c) rfl
  obtain ⟨m3, x3, h3⟩ := fld u23 h 3 rfl z3 (v := d) rfl
  obtain ⟨m4, x4, h4⟩ := fld u23 h 4 rfl z4 (v := e) rfl
  have g0 := trod_i64 u3 h0
  have g1 := trod_i64 u3 h1
  have g2 := trod_i64 u3 h2
  have g3 := trod_i64 u3 h3
  have g4 := trod_bo u4 h4
  refine ⟨⟨vI a, vI b, vI c, vI d, vB e⟩, ?_, g0.2, g1.2, g2.2, g3.2⟩
  show _ = Value.agg #[.int .i64 (vI a), .int .i64 (vI b), .int .i64 (vI c), .int .i64 (vI d), .bool (vB e)]
  rw [← g0.1, ← g1.1, ← g2.1, ← g3.1, ← g4]
set_option maxRecDepth 100000 in
/-- Of the type Cell. -/
theorem arg37 (hval : Value.okWide Try.prog W r b0 37 v) (hd : DataW.Trod enc Try.prog W 0 sp held 37 v d ps) : ∃ a b : Int, v = cellV a b ∧ i64 a ∧ i64 b := by
  obtain ⟨cs, rfl, hcs⟩ := okWide_struct u37 hval
  rw [z37] at hcs
  obtain ⟨a, b, rfl⟩ := two hcs
  obtain ⟨fuel, h⟩ := hd
  have h : DataW.trod enc Try.prog W 0 sp held fuel 37 [a, b] = _ := h
  obtain ⟨m0, x0, h0⟩ := fld u37 h 0 rfl z3 (v := a) rfl
  obtain ⟨m1, x1, h1⟩ := fld u37 h 1 rfl z3 (v := b) rfl
  have g0 := trod_i64 u3 h0
  have g1 := trod_i64 u3 h1
  refine ⟨vI a, vI b, ?_, g0.2, g1.2⟩
  show _ = Value.agg #[.int .i64 (vI a), .int .i64 (vI b)]
  rw [← g0.1, ← g1.1]
set_option maxRecDepth 100000 in
/-- Of the type Costs. -/
theorem arg26 (hval : Value.okWide Try.prog W r b0 26 v) (hd : DataW.Trod enc Try.prog W 0 sp held 26 v d ps) : ∃ c : Cos, v = c.v ∧ i64 c.r ∧ i64 c.s ∧ i64 c.o := by
  obtain ⟨cs, rfl, hcs⟩ := okWide_struct u26 hval
  rw [z26] at hcs
  obtain ⟨a, b, c, rfl⟩ := three hcs
  obtain ⟨fuel, h⟩ := hd
  have h : DataW.trod enc Try.prog W 0 sp held fuel 26 [a, b, c] = _ := h
  obtain ⟨m0, x0, h0⟩ := fld u26 h 0 rfl z3 (v := a) rfl
  obtain ⟨m1, x1, h1⟩ := fld u26 h 1 rfl z3 (v := b) rfl
  obtain ⟨m2, x2, h2⟩ := fld u26 h 2 rfl z3 (v := c) rfl
  have g0 := trod_i64 u3 h0
  have g1 := trod_i64 u3 h1
  have g2 := trod_i64 u3 h2
  refine ⟨⟨vI a, vI b, vI c⟩, ?_, g0.2, g1.2, g2.2⟩
  show _ = Value.agg #[.int .i64 (vI a), .int .i64 (vI b), .int .i64 (vI c)]
  rw [← g0.1, ← g1.1, ← g2.1]
end
end
end Go.KL
end

section
/- Plain laws: bundles. -/
namespace Go.KL
open Go.Proofs
/-- The place of a bundle: its ream, stack and number there. -/
structure Bun (l : Lay) (s p n q f d c st k : Int) : Prop where
  q0 : 0 ≤ q
  fq : f = q * l.m
  dd : d = rD l s f
  d1 : 1 ≤ d
  dm : d ≤ l.m
  ds : f + d ≤ s
  cc : c = (d + l.b - 1) / l.b
  n : n = q * perR l p + (st * c + k)
  st : 0 ≤ st ∧ st < p
  k : 0 ≤ k ∧ k < c
theorem mulc (a b _c : Int) : (a + 1) * b = a * b + b := by rw [Int.add_mul, Int.one_mul]
theorem bun_mk {l : Lay} {s p q st k : Int} (hq : 0 ≤ q) (hs : q * l.m < s) (hm : 1 ≤ l.m) (hst : 0 ≤ st ∧ st < p) (hk : 0 ≤ k ∧ k < (rD l s (q * l.m) + l.b - 1) / l.b) :
    Bun l s p (q * perR l p + (st * ((rD l s (q * l.m) + l.b - 1) / l.b) + k)) q (q * l.m) (rD l s (q * l.m)) ((rD l s (q * l.m) + l.b - 1) / l.b) st k := by
  have hd : rD l s (q * l.m) = min l.m (s - q * l.m) := rfl
  exact ⟨hq, rfl, rfl, by omega, by omega, by omega, rfl, rfl, hst, hk⟩
section
variable {l : Lay} {s p n q f d c st k : Int}
/-- A stack's bundles fill it. -/
theorem Bun.cb (h : Bun l s p n q f d c st k) (hb : 1 ≤ l.b) : d ≤ c * l.b ∧ (c - 1) * l.b < d ∧ k * l.b < d ∧ 0 ≤ k * l.b := by
  have h1 := div_mod_eq (d + l.b - 1) l.b
  have h2 := mod_bd (a := d + l.b - 1) hb
  rw [← h.cc] at h1
  have h3 : (c - 1) * l.b = c * l.b - l.b := by rw [Int.sub_mul, Int.one_mul]
  have h4 : k * l.b ≤ (c - 1) * l.b := Int.mul_le_mul_of_nonneg_right (by have := h.k; omega) (by omega)
  have h5 := Int.mul_nonneg h.k.1 (show 0 ≤ l.b by omega)
  omega
/-- Within the ream. -/
theorem Bun.tc (h : Bun l s p n q f d c st k) (hl : l.OK) : 0 ≤ st * c + k ∧ st * c + k < p * c ∧ p * c ≤ perR l p := by
  have h1 := h.st; have h2 := h.k
  have h3 := Int.mul_nonneg h1.1 (show 0 ≤ c by omega)
  have h4 : (st + 1) * c ≤ p * c := Int.mul_le_mul_of_nonneg_right (by omega) (by omega)
  rw [mulc st c 0] at h4
  have h5 : c ≤ (l.m + l.b - 1) / l.b := by rw [h.cc]; exact Int.ediv_le_ediv (by have := hl.b; omega) (by have := h.dm; omega)
  have h6 : p * c ≤ p * ((l.m + l.b - 1) / l.b) := Int.mul_le_mul_of_nonneg_left h5 (by omega)
  unfold perR
  omega
theorem Bun.at (h : Bun l s p n q f d c st k) (hl : l.OK) : n / perR l p = q ∧ n % perR l p = st * c + k ∧ (st * c + k) / c = st ∧ (st * c + k) % c = k := by
  have h1 := h.tc hl
  exact ⟨div_of h.n h1.1 (by omega), mod_of h.n h1.1 (by omega), div_of rfl h.k.1 h.k.2, mod_of rfl h.k.1 h.k.2⟩
theorem Bun.lo (h : Bun l s p n q f d c st k) (hl : l.OK) : bunLo l s p n = f * p + st * d + k * l.b := by
  obtain ⟨h1, h2, h3, h4⟩ := h.at hl
  unfold bunLo bunD
  rw [h1, h2, ← h.fq, ← h.dd, ← h.cc, h3, h4]
theorem Bun.hi (h : Bun l s p n q f d c st k) (hl : l.OK) : bunHi l s p n = min (f * p + st * d + k * l.b + l.b) (f * p + (st + 1) * d) := by
  obtain ⟨h1, h2, h3, h4⟩ := h.at hl
  unfold bunHi
  rw [h.lo hl]
  unfold bunD
  rw [h1, h2, ← h.fq, ← h.dd, ← h.cc, h3]
theorem Bun.bd (h : Bun l s p n q f d c st k) (hl : l.OK) : bunLo l s p n < bunHi l s p n ∧ bunHi l s p n - bunLo l s p n ≤ l.b ∧ 0 ≤ bunLo l s p n ∧ bunHi l s p n ≤ s * p := by
  have h1 := h.cb hl.b.1
  have hb := hl.b
  have h2 : (st + 1) * d ≤ p * d := Int.mul_le_mul_of_nonneg_right (by have := h.st; omega) (by have := h.d1; omega)
  have h3 : (f + d) * p ≤ s * p := Int.mul_le_mul_of_nonneg_right h.ds (by have := h.st; omega)
  rw [Int.add_mul] at h3
  have h4 : p * d = d * p := Int.mul_comm _ _
  have h5 := Int.mul_nonneg h.st.1 (show 0 ≤ d by have := h.d1; omega)
  have h6 := Int.mul_nonneg (Int.mul_nonneg h.q0 (show 0 ≤ l.m by have := hl.m; omega)) (show 0 ≤ p by have := h.st; omega)
  rw [← h.fq] at h6
  rw [h.lo hl, h.hi hl]
  rw [mulc st d 0] at h2 ⊢
  omega
/-- It is one of the run's. -/
theorem Bun.lt (h : Bun l s p n q f d c st k) (hl : l.OK) (hs : SOK s) : 0 ≤ n ∧ n < bunsF l s p := by
  have h1 := h.tc hl
  have hm := hl.m
  have h2 := rF_bd l s hm.1 hs.1
  unfold rF at h2
  have h3 := div_mod_eq s l.m
  have h4 := mod_bd (a := s) hm.1
  have hn := h.n
  have hds := h.ds; have hd1 := h.d1; have hdm := h.dm
  have hq : q ≤ s / l.m := by
    have : q * l.m < (s / l.m + 1) * l.m := by rw [mulc _ _ 0, ← h.fq]; omega
    have := Int.lt_of_mul_lt_mul_right this (by omega)
    omega
  have hR : 0 ≤ perR l p := by omega
  have h6 := Int.mul_nonneg h.q0 hR
  refine ⟨by omega, ?_⟩
  unfold bunsF
  by_cases e : q = s / l.m
  · have e2 : s / l.m * l.m = f := by rw [← e, h.fq]
    have e3 : 0 < s % l.m := by omega
    rw [if_pos e3, e2, ← h.dd, ← h.cc, ← e]
    omega
  · have h5 : (q + 1) * perR l p ≤ s / l.m * perR l p := Int.mul_le_mul_of_nonneg_right (by omega) hR
    rw [mulc _ _ 0] at h5
    have h7 : 0 ≤ if 0 < s % l.m then p * ((rD l s (s / l.m * l.m) + l.b - 1) / l.b) else 0 := by
      split
      · refine Int.mul_nonneg (by have := h.st; omega) (perS_bd (d := rD l s (s / l.m * l.m)) ?_ hl.b.1).1
        unfold rD; omega
      · omega
    omega
end
/-- Each number of a bundle has its place. -/
theorem bun_at {l : Lay} {s p n : Int} (hl : l.OK) (hs : SOK s) (hp : 1 ≤ p ∧ p ≤ 256) (hn : 0 ≤ n ∧ n < bunsF l s p) : ∃ q f d c st k, Bun l s p n q f d c st k := by
  have hm := hl.m
  have hR := perR_bd l p hl hp
  have h1 := bun_ream l s p n hl hs hp hn
  have h2 := div_bd (a := n) (b := perR l p) hn.1 hR.1
  have h3 := div_mod_eq n (perR l p)
  have h4 := mod_bd (a := n) hR.1
  have hd : rD l s (n / perR l p * l.m) = min l.m (s - n / perR l p * l.m) := rfl
  have hc := perS_pos (d := rD l s (n / perR l p * l.m)) (b := l.b) (by omega) hl.b.1
  have h5 := div_mod_eq (n % perR l p) ((rD l s (n / perR l p * l.m) + l.b - 1) / l.b)
  have h6 := mod_bd (a := n % perR l p) hc
  have h7 := div_bd (a := n % perR l p) (b := (rD l s (n / perR l p * l.m) + l.b - 1) / l.b) h4.1 hc
  have hlt : n % perR l p < p * ((rD l s (n / perR l p * l.m) + l.b - 1) / l.b) := by
    by_cases e : rD l s (n / perR l p * l.m) = l.m
    · rw [e]
      have : perR l p = p * ((l.m + l.b - 1) / l.b) := rfl
      omega
    · have e1 : s - n / perR l p * l.m < l.m := by omega
      have e2 : s / l.m = n / perR l p := div_of (r := s - n / perR l p * l.m) (by omega) (by omega) e1
      have e3 : s % l.m = s - n / perR l p * l.m := mod_of (q := n / perR l p) (by omega) (by omega) e1
      have h8 := hn.2
      unfold bunsF at h8
      rw [e2, e3, if_pos (by omega)] at h8
      omega
  have h9 : n % perR l p / ((rD l s (n / perR l p * l.m) + l.b - 1) / l.b) < p := Int.ediv_lt_of_lt_mul (by omega) hlt
  have hb := bun_mk (l := l) (s := s) (p := p) h2.1 h1 hm.1 ⟨h7.1, h9⟩ ⟨h6.1, show _ < _ by omega⟩
  have e : n = n / perR l p * perR l p + (n % perR l p / ((rD l s (n / perR l p * l.m) + l.b - 1) / l.b) * ((rD l s (n / perR l p * l.m) + l.b - 1) / l.b) + n % perR l p % ((rD l s (n / perR l p * l.m) + l.b - 1) / l.b)) := by omega
  rw [← e] at hb
  exact ⟨_, _, _, _, _, _, hb⟩
section
variable {l : Lay} {s p : Int}
theorem bun_zero (_hl : l.OK) : bunLo l s p 0 = 0 := by
  unfold bunLo
  simp
theorem bun_last (hl : l.OK) (hs : SOK s) (hp : 1 ≤ p ∧ p ≤ 256) {n : Int} (hn : 0 ≤ n ∧ n < bunsF l s p) (he : n = bunsF l s p - 1) : bunHi l s p n = s * p := by
  obtain ⟨q, f, d, c, st, k, h⟩ := bun_at hl hs hp hn
  have h1 := h.tc hl
  have h2 := h.cb hl.b.1
  have hm := hl.m
  have hst := h.st; have hk := h.k; have hd1 := h.d1; have hds := h.ds; have hdm := h.dm
  -- the next number is no bundle of the run
  have e1 : k = c - 1 := by
    by_cases e : k + 1 < c
    · have hb := bun_mk (l := l) (s := s) (p := p) h.q0 (show q * l.m < s by rw [← h.fq]; omega) hm.1 hst (k := k + 1) ⟨by omega, by rw [← h.fq, ← h.dd, ← h.cc]; exact e⟩
      have := (hb.lt hl hs).2
      rw [← h.fq, ← h.dd, ← h.cc] at this
      have := h.n
      omega
    · omega
  have e2 : st = p - 1 := by
    by_cases e : st + 1 < p
    · have hb := bun_mk (l := l) (s := s) (p := p) h.q0 (show q * l.m < s by rw [← h.fq]; omega) hm.1 (st := st + 1) ⟨by omega, e⟩ (k := 0) ⟨by omega, by rw [← h.fq, ← h.dd, ← h.cc]; omega⟩
      have h3 := (hb.lt hl hs).2
      rw [← h.fq, ← h.dd, ← h.cc, mulc st c 0] at h3
      have := h.n
      omega
    · omega
  have e3 : f + d = s := by
    by_cases e : f + d = s
    · exact e
    · have hd : d = min l.m (s - f) := h.dd
      have e4 : d = l.m := by omega
      have e5 : (q + 1) * l.m = f + d := by rw [mulc _ _ 0, ← h.fq, e4]
      have hd2 : rD l s ((q + 1) * l.m) = min l.m (s - (q + 1) * l.m) := rfl
      have hq0 := h.q0
      have hc2 := perS_pos (d := rD l s ((q + 1) * l.m)) (b := l.b) (by omega) hl.b.1
      have hb := bun_mk (l := l) (s := s) (p := p) (show 0 ≤ q + 1 by omega) (by omega) hm.1 (st := 0) ⟨by omega, by omega⟩ (k := 0) ⟨by omega, by omega⟩
      have h3 := (hb.lt hl hs).2
      rw [mulc q (perR l p) 0, Int.zero_mul] at h3
      have h4 : p * c = perR l p := by unfold perR; rw [h.cc, e4]
      have h5 : (st + 1) * c = p * c := by rw [e2]; congr 1; omega
      rw [mulc st c 0] at h5
      have := h.n
      omega
  rw [h.hi hl]
  have h6 : (st + 1) * d = p * d := by rw [e2]; congr 1; omega
  have h7 : (f + d) * p = f * p + p * d := by rw [Int.add_mul, Int.mul_comm d p]
  have h8 : st * d + d = (st + 1) * d := (mulc st d 0).symm
  have h9 : k * l.b + l.b = c * l.b := by rw [← mulc k l.b 0]; congr 1; omega
  rw [← e3, h7, h6]
  omega
theorem bun_next (hl : l.OK) (hs : SOK s) (hp : 1 ≤ p ∧ p ≤ 256) {n : Int} (hn : 0 ≤ n ∧ n + 1 < bunsF l s p) : bunLo l s p (n + 1) = bunHi l s p n := by
  obtain ⟨q, f, d, c, st, k, h⟩ := bun_at hl hs hp (show 0 ≤ n ∧ n < bunsF l s p by omega)
  obtain ⟨q', f', d', c', st', k', h'⟩ := bun_at hl hs hp (show 0 ≤ n + 1 ∧ n + 1 < bunsF l s p by omega)
  have h1 := h.tc hl
  have h2 := h.cb hl.b.1
  have hm := hl.m; have hb1 := hl.b
  have hst := h.st; have hk := h.k; have hd1 := h.d1; have hds := h.ds; have hdm := h.dm
  rw [h.hi hl, mulc st d 0]
  have hsm : q * l.m < s := by rw [← h.fq]; omega
  by_cases e : k + 1 < c
  · have hb := bun_mk (l := l) (s := s) (p := p) h.q0 hsm hm.1 hst (k := k + 1) ⟨by omega, by rw [← h.fq, ← h.dd, ← h.cc]; exact e⟩
    have e1 := hb.lo hl
    have e2 := hb.cb hl.b.1
    rw [← h.fq, ← h.dd, ← h.cc, show q * perR l p + (st * c + (k + 1)) = n + 1 by have := h.n; omega, mulc k l.b 0] at e1
    rw [mulc k l.b 0, ← h.fq, ← h.dd] at e2
    rw [e1]
    omega
  · have e0 : k = c - 1 := by omega
    have e9 : k * l.b + l.b = c * l.b := by rw [← mulc k l.b 0]; congr 1; omega
    by_cases e2 : st + 1 < p
    · have hb := bun_mk (l := l) (s := s) (p := p) h.q0 hsm hm.1 (st := st + 1) ⟨by omega, e2⟩ (k := 0) ⟨by omega, by rw [← h.fq, ← h.dd, ← h.cc]; omega⟩
      have e1 := hb.lo hl
      rw [← h.fq, ← h.dd, ← h.cc, show q * perR l p + ((st + 1) * c + 0) = n + 1 by have := h.n; rw [mulc st c 0]; omega, mulc st d 0] at e1
      rw [e1]
      omega
    · have e3 : st = p - 1 := by omega
      -- the ream is a whole one
      have h5 : (st + 1) * c = p * c := by rw [e3]; congr 1; omega
      rw [mulc st c 0] at h5
      have h8 : (st + 1) * d = p * d := by rw [e3]; congr 1; omega
      rw [mulc st d 0] at h8
      have hq : q < q' := by
        rcases Int.lt_or_le q q' with hq | hq
        · exact hq
        · exfalso
          have h6 := h'.tc hl
          have hn1 := h.n; have hn2 := h'.n
          by_cases eq : q' = q
          · subst eq
            have ef : f' = f := by rw [h.fq, h'.fq]
            subst ef
            have ed : d' = d := by rw [h.dd, h'.dd]
            subst ed
            have ec : c' = c := by rw [h.cc, h'.cc]
            subst ec
            omega
          · have h7 : (q' + 1) * perR l p ≤ q * perR l p := Int.mul_le_mul_of_nonneg_right (by omega) (by omega)
            rw [mulc _ _ 0] at h7
            omega
      have hds' := h'.ds; have hd1' := h'.d1
      have h9 : (q + 1) * l.m ≤ q' * l.m := Int.mul_le_mul_of_nonneg_right (by omega) (by omega)
      rw [mulc _ _ 0, ← h.fq, ← h'.fq] at h9
      have hd : d = min l.m (s - f) := h.dd
      have e4 : d = l.m := by omega
      have e5 : (q + 1) * l.m = f + d := by rw [mulc _ _ 0, ← h.fq, e4]
      have hq0 := h.q0
      have hd2 : rD l s ((q + 1) * l.m) = min l.m (s - (q + 1) * l.m) := rfl
      have hc2 := perS_pos (d := rD l s ((q + 1) * l.m)) (b := l.b) (by omega) hl.b.1
      have hb := bun_mk (l := l) (s := s) (p := p) (show 0 ≤ q + 1 by omega) (by omega) hm.1 (st := 0) ⟨by omega, by omega⟩ (k := 0) ⟨by omega, by omega⟩
      have e1 := hb.lo hl
      have h4 : p * c = perR l p := by unfold perR; rw [h.cc, e4]
      rw [show (q + 1) * perR l p + (0 * ((rD l s ((q + 1) * l.m) + l.b - 1) / l.b) + 0) = n + 1 by have := h.n; rw [mulc q (perR l p) 0, Int.zero_mul]; omega, Int.zero_mul, Int.zero_mul, e5] at e1
      have h7 : (f + d) * p = f * p + p * d := by rw [Int.add_mul, Int.mul_comm d p]
      rw [e1, h7]
      omega
/-- A note of a bundle, at its place. -/
theorem Bun.inR {n q f d c st k j : Int} (h : Bun l s p n q f d c st k) (hj : 0 ≤ j ∧ j < d) : InReam l s (f + (if l.d then d - 1 - j else j)) f d j := ⟨⟨q, h.q0, h.fq⟩, h.d1, h.dm, h.ds, hj, rfl, h.dd⟩
/-- The first and the last note of a bundle lie on one stack. -/
theorem bun_stack (hl : l.OK) (hs : SOK s) (hp : 1 ≤ p ∧ p ≤ 256) {n : Int} (hn : 0 ≤ n ∧ n < bunsF l s p) :
    (cellF l s p (bunLo l s p n)).2 = (cellF l s p (bunHi l s p n - 1)).2 ∧ (cellF l s p (bunLo l s p n)).1 / l.m = (cellF l s p (bunHi l s p n - 1)).1 / l.m := by
  obtain ⟨q, f, d, c, st, k, h⟩ := bun_at hl hs hp hn
  have h2 := h.cb hl.b.1
  have hm := hl.m; have hb := hl.b
  have hsh : ∀ j, 0 ≤ j ∧ j < d → (f + (if l.d then d - 1 - j else j)) / l.m = q := fun j hj => div_of (r := if l.d then d - 1 - j else j) (by rw [h.fq]) (by split <;> omega) (by have := h.dm; split <;> omega)
  have e1 : bunLo l s p n = plN p f d st (k * l.b) := h.lo hl
  have e2 : bunHi l s p n - 1 = plN p f d st (min (k * l.b + l.b) d - 1) := by
    rw [h.hi hl, mulc st d 0]
    unfold plN
    omega
  have i1 := h.inR (j := k * l.b) ⟨h2.2.2.2, h2.2.2.1⟩
  have i2 := h.inR (j := min (k * l.b + l.b) d - 1) (by omega)
  rw [e1, e2, cellF_pl i1 h.st, cellF_pl i2 h.st]
  exact ⟨rfl, by rw [hsh _ i1.jd, hsh _ i2.jd]⟩
/-- The bundle of a note. -/
theorem bunOf_at (hl : l.OK) (hs : SOK s) (hp : 1 ≤ p ∧ p ≤ 256) {N : Int} (hN : 0 ≤ N ∧ N < s * p) :
    (0 ≤ bunOfF l s p N ∧ bunOfF l s p N < bunsF l s p) ∧ bunLo l s p (bunOfF l s p N) ≤ N ∧ N < bunHi l s p (bunOfF l s p N) := by
  obtain ⟨sh, f, d, pos, j, hr, hpos, e, ef⟩ := note_pl hl hp hN
  obtain ⟨q, hq0, hfq⟩ := hr.q
  have hm := hl.m; have hb := hl.b
  have hj := hr.jd; have hds := hr.ds; have hd1 := hr.d1
  have h1 := div_mod_eq j l.b
  have h2 := mod_bd (a := j) hb.1
  have h3 := div_bd hj.1 hb.1
  have hk : j / l.b < (d + l.b - 1) / l.b := by
    have h4 : (j / l.b + 1) * l.b ≤ d + l.b - 1 := by rw [mulc _ _ 0]; omega
    have := Int.le_ediv_of_mul_le (show 0 < l.b by omega) h4
    omega
  have hb1 := bun_mk (l := l) (s := s) (p := p) hq0 (by rw [← hfq]; omega) hm.1 hpos (k := j / l.b) ⟨h3.1, by rw [← hfq, ← hr.dd]; exact hk⟩
  have e1 : bunOfF l s p N = q * perR l p + (pos * ((d + l.b - 1) / l.b) + j / l.b) := by
    unfold bunOfF rbun
    rw [ef, ← hr.dd, show f / l.m = q by rw [hfq]; exact Int.mul_ediv_cancel _ (by omega)]
    obtain ⟨_, h5, h6, h7, _⟩ := pl_ream (p := p) hr hpos
    rw [e, h5, h6, h7]
  rw [← hfq, ← hr.dd, ← e1] at hb1
  refine ⟨hb1.lt hl hs, ?_⟩
  rw [hb1.lo hl, hb1.hi hl, mulc pos d 0, e]
  unfold plN
  omega
end
end Go.KL
end

section
/- Lists of ints and of cells: as slices, in order, each once. No program in sight. -/
namespace Go.KL
/-! ### Plain -/
abbrev Asc (l : List Int) : Prop := l.Pairwise (· < ·)
/-- An ascending list with one number more. -/
def put (n : Int) : List Int → List Int
  | [] => [n]
  | x :: r => if x < n then x :: put n r else if x = n then x :: r else n :: x :: r
theorem mem_put {n y : Int} : ∀ {l : List Int}, y ∈ put n l ↔ y = n ∨ y ∈ l
  | [] => by simp [put]
  | x :: r => by
    unfold put
    split
    · rw [List.mem_cons, mem_put, List.mem_cons]
      constructor
      · rintro (h | h | h)
        · exact .inr (.inl h)
        · exact .inl h
        · exact .inr (.inr h)
      · rintro (h | h | h)
        · exact .inr (.inl h)
        · exact .inl h
        · exact .inr (.inr h)
    · split
      · rename_i h1 h2
        subst h2
        simp
      · simp
theorem asc_put {n : Int} : ∀ {l : List Int}, Asc l → Asc (KL.put n l)
  | [], _ => by simp [KL.put]
  | x :: r, h => by
    obtain ⟨h1, h2⟩ := List.pairwise_cons.1 h
    unfold KL.put
    split
    · rename_i hx
      refine List.pairwise_cons.2 ⟨fun y hy => ?_, asc_put h2⟩
      rcases mem_put.1 hy with rfl | hy
      · exact hx
      · exact h1 y hy
    · split
      · exact h
      · rename_i hx hn
        refine List.pairwise_cons.2 ⟨fun y hy => ?_, h⟩
        rcases List.mem_cons.1 hy with rfl | hy
        · omega
        · have := h1 y hy; omega
theorem put_len {n : Int} : ∀ {l : List Int}, (put n l).length ≤ l.length + 1
  | [] => by simp [put]
  | x :: r => by
    unfold put
    have := put_len (n := n) (l := r)
    split
    · simp only [List.length_cons]; omega
    · split <;> simp
theorem put_pos {n : Int} {l : List Int} : 0 < (put n l).length := by
  cases l with
  | nil => simp [put]
  | cons x r => unfold put; split <;> (try split) <;> simp
/-- As the loop of Put makes it. -/
theorem put_of {n : Int} : ∀ {l : List Int} {i : Nat}, i ≤ l.length → (∀ k, k < i → l.getD k 0 < n) → (i < l.length → n ≤ l.getD i 0) →
    put n l = l.take i ++ [n] ++ l.drop (if i < l.length ∧ l.getD i 0 = n then i + 1 else i)
  | [], i, hi, _, _ => by
    have : i = 0 := by simpa using hi
    subst this
    simp [put]
  | x :: r, 0, _, _, h => by
    have h1 : n ≤ x := by simpa using h (by simp)
    have h2 : ¬ x < n := by omega
    unfold put
    rw [if_neg h2]
    by_cases e : x = n
    · subst e; simp
    · simp [e]
  | x :: r, i + 1, hi, hl, h => by
    have h1 : x < n := by simpa using hl 0 (by omega)
    have ih := put_of (n := n) (l := r) (i := i) (by simpa using hi) (fun k hk => by simpa using hl (k + 1) (by omega)) (fun hk => by simpa using h (by simpa using hk))
    unfold put
    rw [if_pos h1, ih]
    have e1 : (i + 1 < (x :: r).length ∧ (x :: r).getD (i + 1) 0 = n) ↔ (i < r.length ∧ r.getD i 0 = n) := by simp
    by_cases e : i < r.length ∧ r.getD i 0 = n
    · rw [if_pos e, if_pos (e1.2 e)]; simp
    · rw [if_neg e, if_neg (fun q => e (e1.1 q))]; simp
/-- Two ascending lists of the same numbers are the same. -/
theorem Asc.ext : ∀ {a b : List Int}, Asc a → Asc b → (∀ x, x ∈ a ↔ x ∈ b) → a = b
  | [], [], _, _, _ => rfl
  | [], y :: s, _, _, h => absurd ((h y).2 (by simp)) (by simp)
  | x :: r, [], _, _, h => absurd ((h x).1 (by simp)) (by simp)
  | x :: r, y :: s, ha, hb, h => by
    obtain ⟨a1, a2⟩ := List.pairwise_cons.1 ha
    obtain ⟨b1, b2⟩ := List.pairwise_cons.1 hb
    have e : x = y := by
      have h1 := (h x).1 (by simp)
      have h2 := (h y).2 (by simp)
      rcases List.mem_cons.1 h1 with h1 | h1
      · exact h1
      · rcases List.mem_cons.1 h2 with h2 | h2
        · exact h2.symm
        · have := a1 y h2; have := b1 x h1; omega
    subst e
    refine congrArg (x :: ·) (Asc.ext a2 b2 fun z => ⟨fun hz => ?_, fun hz => ?_⟩)
    · have := a1 z hz
      rcases List.mem_cons.1 ((h z).1 (by simp [hz])) with q | q
      · omega
      · exact q
    · have := b1 z hz
      rcases List.mem_cons.1 ((h z).2 (by simp [hz])) with q | q
      · omega
      · exact q
theorem Asc.nodup {l : List Int} (h : Asc l) : l.Nodup := h.imp fun h => by omega
/-- All numbers of some things, ascending, each once. -/
def asc {α : Type} (f : α → Int) (l : List α) : List Int := l.foldl (fun acc x => put (f x) acc) []
theorem asc_snoc {α : Type} (f : α → Int) (l : List α) (x : α) : asc f (l ++ [x]) = put (f x) (asc f l) := by simp [asc]
theorem asc_spec {α : Type} (f : α → Int) (l : List α) : Asc (asc f l) ∧ (∀ y, y ∈ asc f l ↔ ∃ x ∈ l, f x = y) ∧ (asc f l).length ≤ l.length := by
  have key : ∀ (l : List α) (acc : List Int), Asc acc → Asc (l.foldl (fun acc x => put (f x) acc) acc) ∧ (∀ y, y ∈ l.foldl (fun acc x => put (f x) acc) acc ↔ y ∈ acc ∨ ∃ x ∈ l, f x = y) ∧ (l.foldl (fun acc x => put (f x) acc) acc).length ≤ acc.length + l.length := by
    intro l
    induction l with
    | nil => intro acc h; exact ⟨h, fun y => by simp, by simp⟩
    | cons x r ih =>
      intro acc h
      obtain ⟨h1, h2, h3⟩ := ih (put (f x) acc) (asc_put h)
      refine ⟨h1, fun y => ?_, ?_⟩
      · rw [List.foldl_cons, h2 y, mem_put]
        constructor
        · rintro ((h | h) | ⟨z, hz, h⟩)
          · exact .inr ⟨x, by simp, h.symm⟩
          · exact .inl h
          · exact .inr ⟨z, by simp [hz], h⟩
        · rintro (h | ⟨z, hz, h⟩)
          · exact .inl (.inr h)
          · rcases List.mem_cons.1 hz with rfl | hz
            · exact .inl (.inl h.symm)
            · exact .inr ⟨z, hz, h⟩
      · have := put_len (n := f x) (l := acc)
        simp only [List.foldl_cons, List.length_cons] at h3 ⊢
        omega
  have := key l [] List.Pairwise.nil
  refine ⟨this.1, fun y => by rw [asc, this.2.1 y]; simp, by simpa [asc] using this.2.2⟩
theorem asc_asc {α : Type} (f : α → Int) (l : List α) : Asc (asc f l) := (asc_spec f l).1
theorem mem_asc {α : Type} {f : α → Int} {l : List α} {y : Int} : y ∈ asc f l ↔ ∃ x ∈ l, f x = y := (asc_spec f l).2.1 y
theorem asc_len {α : Type} (f : α → Int) (l : List α) : (asc f l).length ≤ l.length := (asc_spec f l).2.2
/-- Each once, in the order of the first. -/
def onces {α : Type} [DecidableEq α] (l : List α) : List α := l.foldl (fun acc x => if x ∈ acc then acc else acc ++ [x]) []
theorem onces_snoc {α : Type} [DecidableEq α] (l : List α) (x : α) : onces (l ++ [x]) = if x ∈ onces l then onces l else onces l ++ [x] := by unfold onces; rw [List.foldl_append]; rfl
theorem onces_nil {α : Type} [DecidableEq α] : onces ([] : List α) = [] := rfl
theorem rev_ind {α : Type} {P : List α → Prop} (h0 : P []) (h1 : ∀ l x, P l → P (l ++ [x])) (l : List α) : P l := by
  have : ∀ l : List α, P l.reverse := by
    intro l
    induction l with
    | nil => exact h0
    | cons x r ih => rw [List.reverse_cons]; exact h1 _ _ ih
  have q := this l.reverse
  rwa [List.reverse_reverse] at q
theorem onces_spec {α : Type} [DecidableEq α] (l : List α) : (onces l).Nodup ∧ (∀ y, y ∈ onces l ↔ y ∈ l) ∧ (onces l).length ≤ l.length := by
  induction l using rev_ind with
  | h0 => simp [onces]
  | h1 l x ih =>
    obtain ⟨h1, h2, h3⟩ := ih
    rw [onces_snoc]
    split
    · rename_i hx
      refine ⟨h1, fun y => ?_, by simp; omega⟩
      rw [h2 y]
      simp only [List.mem_append, List.mem_singleton]
      exact ⟨.inl, fun h => h.elim id fun e => e ▸ (h2 x).1 hx⟩
    · rename_i hx
      refine ⟨?_, fun y => ?_, by simp; omega⟩
      · rw [List.nodup_append]
        refine ⟨h1, by simp, ?_⟩
        intro a ha b hb e
        simp at hb
        subst hb
        subst e
        exact hx ha
      · simp [h2 y]
theorem mem_onces {α : Type} [DecidableEq α] {l : List α} {y : α} : y ∈ onces l ↔ y ∈ l := (onces_spec l).2.1 y
theorem onces_map {α β : Type} [DecidableEq α] [DecidableEq β] (f : α → β) (l : List α) (h : ∀ x ∈ l, ∀ y ∈ l, f x = f y → x = y) : onces (l.map f) = (onces l).map f := by
  induction l using rev_ind with
  | h0 => rfl
  | h1 l x ih =>
    have ih := ih fun a ha b hb => h a (by simp [ha]) b (by simp [hb])
    rw [List.map_append, List.map_singleton, onces_snoc, onces_snoc, ih]
    have e : f x ∈ (onces l).map f ↔ x ∈ onces l := by
      rw [List.mem_map]
      constructor
      · rintro ⟨a, ha, he⟩
        have := h a (by simp [mem_onces.1 ha]) x (by simp) he
        rwa [← this]
      · exact fun q => ⟨x, q, rfl⟩
    by_cases q : x ∈ onces l
    · rw [if_pos q, if_pos (e.2 q)]
    · rw [if_neg q, if_neg (fun z => q (e.1 z)), List.map_append, List.map_singleton]
/-! ### As slices -/
abbrev IL (C : World → Prop) (v : Value) (xs : List Int) : Prop := SlV C v xs.length 1 (fun i _ => .int .i64 (xs.getD i 0))
def sel (p : Int × Int) (j : Nat) : Int := match j with | 0 => p.1 | _ => p.2
abbrev CL (C : World → Prop) (v : Value) (cs : List (Int × Int)) : Prop := SlV C v cs.length 2 (fun i j => .int .i64 (sel (cs.getD i (0, 0)) j))
def cvals (cs : List (Int × Int)) : List Value := vw 2 cs.length fun i j => .int .i64 (sel (cs.getD i (0, 0)) j)
theorem ivals_vw (xs : List Int) : ivals xs = vw 1 xs.length fun i _ => .int .i64 (xs.getD i 0) := by
  unfold ivals vw
  apply List.ext_getElem
  · simp
  · intro i h1 h2
    simp at h1
    simp [List.getElem?_eq_getElem h1]
theorem ivals_snoc (xs : List Int) (n : Int) : ivals xs ++ [.int .i64 n] = ivals (xs ++ [n]) := by simp [ivals]
theorem ivals_len (xs : List Int) : (ivals xs).length = xs.length := by simp [ivals]
theorem ivals_get {xs : List Int} {i : Nat} (hi : i < xs.length) : (ivals xs)[i]? = some (.int .i64 (xs.getD i 0)) := by
  unfold ivals
  simp [List.getElem?_eq_getElem hi]
theorem cvals_snoc (cs : List (Int × Int)) (a b : Int) : cvals cs ++ [.int .i64 a, .int .i64 b] = cvals (cs ++ [(a, b)]) := by
  unfold cvals vw
  have e : (cs ++ [(a, b)]).length * 2 = cs.length * 2 + 1 + 1 := by simp; omega
  rw [e, List.range_succ, List.range_succ]
  simp only [List.map_append, List.map_cons, List.map_nil, List.append_assoc, List.cons_append, List.nil_append]
  have h1 : cs.length * 2 / 2 = cs.length := by omega
  have h2 : cs.length * 2 % 2 = 0 := by omega
  have h3 : (cs.length * 2 + 1) / 2 = cs.length := by omega
  have h4 : (cs.length * 2 + 1) % 2 = 1 := by omega
  rw [h1, h2, h3, h4]
  have h5 : (cs ++ [(a, b)]).getD cs.length (0, 0) = (a, b) := by simp
  rw [h5]
  refine congrArg (· ++ [Value.int .i64 a, Value.int .i64 b]) (List.map_congr_left fun i hi => ?_)
  have : i / 2 < cs.length := by have := List.mem_range.1 hi; omega
  simp [List.getElem?_append_left this]
theorem cvals_len (cs : List (Int × Int)) : (cvals cs).length = cs.length * 2 := by simp [cvals, vw]
section
variable {W : World} {Ls : List Chunk} {C : World → Prop}
theorem IL.oc {e : TypeId} {o : Option Own} {xs : List Int} (i : Nat) (hi : Ls.getD i [] = oc e o (ivals xs)) (ho : owfO 1 o xs.length (ivals xs)) : IL (K W Ls) (ov o xs.length) xs := by
  cases o with
  | none =>
    obtain rfl := List.eq_nil_of_length_eq_zero ho.2
    exact SlV.empty
  | some o =>
    exact SlV.grown i hi ho.1 fun k hk j hj => by
      obtain rfl : j = 0 := by omega
      rw [Nat.mul_one, Nat.add_zero]
      exact ivals_get hk
theorem CL.oc {e : TypeId} {o : Option Own} {cs : List (Int × Int)} (i : Nat) (hi : Ls.getD i [] = oc e o (cvals cs)) (ho : owfO 2 o cs.length (cvals cs)) : CL (K W Ls) (ov o cs.length) cs := by
  cases o with
  | none =>
    obtain rfl := List.eq_nil_of_length_eq_zero ho.2
    exact SlV.empty
  | some o => exact SlV.grown i hi ho.1 fun k hk j hj => vw_get hk hj
theorem IL.open {v : Value} {xs : List Int} (h : IL C v xs) : ∃ pa c, v = .slice pa xs.length c ∧ xs.length ≤ c ∧ (0 < xs.length → ∃ b o, pa = some ⟨b, o, none⟩ ∧ ∀ i, i < xs.length → CellIs C ⟨b, o + i, none⟩ (.int .i64 (xs.getD i 0))) := SlV.open1 h
theorem CL.open {v : Value} {cs : List (Int × Int)} (h : CL C v cs) : ∃ pa c, v = .slice pa cs.length c ∧ cs.length ≤ c ∧ (0 < cs.length → ∃ b o, pa = some ⟨b, o, none⟩ ∧ ∀ i, i < cs.length → CellsAre C ⟨b, o + i * 2, none⟩ [.int .i64 (cs.getD i (0, 0)).1, .int .i64 (cs.getD i (0, 0)).2] ∧ CellIs C ⟨b, o + i * 2, none⟩ (.int .i64 (cs.getD i (0, 0)).1)) := by
  obtain ⟨pa, c, h1, h0, h2⟩ := SlV.cells h
  refine ⟨pa, c, h1, h0, fun hn => ?_⟩
  obtain ⟨b, o, h3, h4, h5⟩ := h2 hn
  exact ⟨b, o, h3, fun i hi => ⟨h4 i hi, h5 0 (by omega) i hi⟩⟩
theorem IL.from {pa : Option Addr} {n c lo : Nat} {g : Nat → Nat → Value} (h : SlV C (.slice pa n c) n 1 g) (hl : lo ≤ n) : SlV C (.slice (if c = lo then pa else pa.map (·.add (lo * 1))) (n - lo) (c - lo)) (n - lo) 1 (fun i j => g (lo + i) j) := by
  obtain ⟨pa', c', h1, h0, h2⟩ := h
  injection h1 with h1 _ h3
  subst h1
  subst h3
  refine ⟨_, _, rfl, by omega, fun hn => ?_⟩
  obtain ⟨b, o, rfl, h4⟩ := h2 (by omega)
  have hc : ¬ c = lo := by omega
  refine ⟨b, o + lo * 1, by rw [if_neg hc, Option.map_some, addr_add], fun i hi j hj => ?_⟩
  have := h4 (lo + i) (by omega) j hj
  rwa [show o + lo * 1 + i * 1 + j = o + (lo + i) * 1 + j by omega]
end
theorem ov_slice {s m : Nat} {o : Option Own} {xs : List Value} (h : owfO s o m xs) : ∃ p c, ov o m = .slice p m c := by
  cases o with
  | none => obtain ⟨_, rfl⟩ := h; exact ⟨_, _, rfl⟩
  | some o => exact ⟨_, _, rfl⟩
theorem vw_drop (xs : List Int) (lo : Nat) : vw 1 (xs.length - lo) (fun i _ => .int .i64 (xs.getD (lo + i) 0)) = ivals (xs.drop lo) := by
  rw [ivals_vw, List.length_drop]
  unfold vw
  refine List.map_congr_left fun i _ => ?_
  simp [List.getElem?_drop]
theorem ivals_app (a b : List Int) : ivals (a ++ b) = ivals a ++ ivals b := by simp [ivals]
theorem take_snoc {α : Type} (l : List α) (i : Nat) (d : α) (hi : i < l.length) : l.take (i + 1) = l.take i ++ [l.getD i d] := by
  rw [List.take_add_one, List.getElem?_eq_getElem hi, List.getD_eq_getElem?_getD, List.getElem?_eq_getElem hi]
  rfl
end Go.KL
end

section
/- Walks: the reference's Put, In, Sheets, Once, BundleOf. -/
namespace Go.KL
open Go.Proofs
attribute [local irreducible] SC St Fin Sq Sw Ylds Doos Sets Enters Spec CellIs CellsAre Then Ret Rnd Chn resOK ints bools recs arr
set_option maxRecDepth 10000 in
set_option maxHeartbeats 8000000 in
theorem put_spec (W : World) (Ls : List Chunk) (v : Value) (xs : List Int) (n : Int) (hv : IL (K W Ls) v xs) (hl : xs.length ≤ 1000000) :
    Spec Try.prog 32 #[v, .int .i64 n] (K W Ls) (X := { o : Own // owfO 1 (some o) (put n xs).length (ivals (put n xs)) }) (fun o => osl o.1 (put n xs).length) (fun o => K W (oc 3 (some o.1) (ivals (put n xs)) :: Ls)) := by
  obtain ⟨pa, c, rfl, hc, hcs⟩ := hv.open
  refine enter (args := [_, _]) Try.func32 rfl Try.ntmps32 rfl ?_
  refine c_seq ?_
  refine c_region ?_
  refine s_y (y_assign rfl) rfl rfl rfl ?_
  refine s_nil ?_
  refine f_then ?_
  refine c_seq ?_
  refine c_region ?_
  refine s_y (y_assign rfl) rfl rfl rfl ?_
  refine s_nil ?_
  refine f_then ?_
  refine c_seq ?_
  refine c_region ?_
  refine s_y (y_assign rfl) rfl rfl rfl ?_
  refine s_nil ?_
  refine f_then ?_
  refine c_seq ?_
  refine c_block ?_
  refine c_loopP (α := Nat × Option Own) (fun z => [(0, .slice pa xs.length c), (1, .int .i64 n), (5, ov z.2 z.1), (6, .int .i64 z.1)]) (fun z => z.1 ≤ xs.length ∧ (∀ k, k < z.1 → xs.getD k 0 < n) ∧ owfO 1 z.2 z.1 (ivals (xs.take z.1)))
    (fun z => K W (oc 3 z.2 (ivals (xs.take z.1)) :: Ls)) (fun z => xs.length - z.1) (0, none) ⟨rfl, rfl, rfl, rfl, trivial⟩ ⟨Nat.zero_le _, fun k hk => absurd hk (by omega), rfl, rfl⟩ (fun w h => h.addNil) ?_
  rintro ⟨i, o⟩ ⟨hi, hlt, ho⟩
  dsimp only at hi hlt ho ⊢
  have hcase : i = xs.length ∨ (i < xs.length ∧ xs.getD i 0 < n) ∨ (i < xs.length ∧ xs.getD i 0 = n) ∨ (i < xs.length ∧ n < xs.getD i 0) := by omega
  rcases hcase with he | ⟨hi2, hx⟩ | ⟨hi2, hx⟩ | ⟨hi2, hx⟩
  · have hp := put_of (n := n) hi hlt (fun h => by omega)
    rw [if_neg (by omega), he] at hp
    subst he
    refine c_seq ?_
    refine c_seq ?_
    refine c_region ?_
    refine s_y (y_move rfl) rfl rfl rfl ?_
    refine s_y (y_move rfl) rfl rfl rfl ?_
    refine s_y (y_len Try.tab rfl rfl) rfl rfl rfl ?_
    refine s_y (y_F (y_lss rfl rfl) (by omega)) rfl rfl rfl ?_
    refine s_y (y_move rfl) rfl rfl rfl ?_
    iterate 6 refine s_skip rfl rfl rfl ?_
    refine s_y (y_pickF rfl rfl) rfl rfl rfl ?_
    refine s_nil ?_
    refine f_then ?_
    refine c_condF rfl ?_
    refine c_exit ?_
    refine f_thenE ?_
    refine f_rndE ?_
    refine f_blockE ?_
    refine f_then ?_
    refine c_seq ?_
    refine c_region ?_
    refine s_y (y_move rfl) rfl rfl rfl ?_
    refine s_y (y_move rfl) rfl rfl rfl ?_
    refine s_do (do_buildSlice1 Try.tab ⟨rfl, rfl, rfl, rfl⟩ rfl rfl rfl rfl) rfl rfl rfl (fun b30 => ?_)
    refine s_do (do_appendO Try.tab 1 (s := 1) (by_ := 8) (k := 1) (news := [.int .i64 n]) (xs := ivals (xs.take xs.length)) (o := o) rfl rfl ⟨rfl, rfl, rfl, rfl⟩ rfl rfl (by simp) ho (cells_row0 0 rfl rfl) rfl (by simp [Value.oneCell']) (by omega) (by unfold maxLen; omega) (by omega)) rfl rfl rfl (fun o2 => ?_)
    obtain ⟨o2, ho2, hpre⟩ := o2
    dsimp only
    refine s_y (y_assign rfl) rfl rfl rfl ?_
    refine s_nil ?_
    refine f_then ?_
    refine c_seq ?_
    refine c_seq ?_
    refine c_region ?_
    refine s_y (y_move rfl) rfl rfl rfl ?_
    refine s_y (y_move rfl) rfl rfl rfl ?_
    refine s_y (y_len Try.tab rfl rfl) rfl rfl rfl ?_
    refine s_y (y_F (y_lss rfl rfl) (by omega)) rfl rfl rfl ?_
    refine s_y (y_move rfl) rfl rfl rfl ?_
    iterate 6 refine s_skip rfl rfl rfl ?_
    refine s_y (y_pickF rfl rfl) rfl rfl rfl ?_
    refine s_nil ?_
    refine f_then ?_
    refine c_condF rfl ?_
    refine c_skip ?_
    refine f_then ?_
    refine c_seq ?_
    refine c_region ?_
    refine s_y (y_move rfl) rfl rfl rfl ?_
    refine s_y (y_move rfl) rfl rfl rfl ?_
    refine s_y (y_move rfl) rfl rfl rfl ?_
    refine s_y (y_sliceFrom Try.tab rfl rfl rfl rfl rfl (by omega) (by omega)) rfl rfl rfl ?_
    refine s_do (do_appendV Try.tab 1 (s := 1) (by_ := 8) rfl rfl (IL.from (hv.cls fun w h => h.tail.tail) (show xs.length ≤ xs.length by omega)) ⟨rfl, rfl, rfl, rfl⟩ rfl rfl ho2 (fun _ _ => rfl) (by unfold maxLen; omega) (by omega)) rfl rfl rfl (fun o3 => ?_)
    obtain ⟨o3, ho3, hpre3⟩ := o3
    dsimp only
    refine s_y (y_assign rfl) rfl rfl rfl ?_
    refine s_nil ?_
    refine f_then ?_
    refine c_ret ?_
    have hlen : xs.length + 1 + (xs.length - (xs.length)) = (put n xs).length := by rw [hp]; simp only [List.length_append, List.length_take, List.length_drop, List.length_singleton]; omega
    have hvs : ivals (xs.take xs.length) ++ [.int .i64 n] ++ vw 1 (xs.length - (xs.length)) (fun a _ => .int .i64 (xs.getD (xs.length + a) 0)) = ivals (put n xs) := by rw [vw_drop, ivals_snoc, ← ivals_app, ← hp]
    rw [hvs, hlen] at ho3
    exact f_retE ⟨o3, ho3, by omega⟩ (res1 rfl rfl) (congrArg (osl o3) hlen) (fun w h => by show K W (och 3 o3 (ivals (put n xs)) :: Ls) w; rw [← hvs]; exact h.tail)
  · obtain ⟨b, q, rfl, hcell⟩ := hcs (by omega)
    have hci := (hcell i hi2).cls (C := K W (oc 3 o (ivals (xs.take i)) :: Ls)) fun w h => h.tail
    refine c_seq ?_
    refine c_seq ?_
    refine c_region ?_
    refine s_y (y_move rfl) rfl rfl rfl ?_
    refine s_y (y_move rfl) rfl rfl rfl ?_
    refine s_y (y_len Try.tab rfl rfl) rfl rfl rfl ?_
    refine s_y (y_T (y_lss rfl rfl) (by omega)) rfl rfl rfl ?_
    refine s_y (y_move rfl) rfl rfl rfl ?_
    refine s_y (y_move rfl) rfl rfl rfl ?_
    refine s_y (y_move rfl) rfl rfl rfl ?_
    refine s_y (y_indexAddr1o Try.tab rfl rfl rfl rfl _ rfl (by omega)) rfl rfl rfl ?_
    refine s_y (y_load Try.tab rfl rfl hci) rfl rfl rfl ?_
    refine s_y (y_move rfl) rfl rfl rfl ?_
    refine s_y (y_T (y_lss rfl rfl) (by assumption)) rfl rfl rfl ?_
    refine s_y (y_pickT rfl rfl) rfl rfl rfl ?_
    refine s_nil ?_
    refine f_then ?_
    refine c_condT rfl ?_
    refine c_skip ?_
    refine f_then ?_
    refine c_block ?_
    refine c_seq ?_
    refine c_region ?_
    refine s_y (y_move rfl) rfl rfl rfl ?_
    refine s_y (y_move rfl) rfl rfl rfl ?_
    refine s_y (y_move rfl) rfl rfl rfl ?_
    refine s_y (y_indexAddr1o Try.tab rfl rfl rfl rfl _ rfl (by omega)) rfl rfl rfl ?_
    refine s_y (y_load Try.tab rfl rfl hci) rfl rfl rfl ?_
    refine s_do (do_buildSlice1 Try.tab ⟨rfl, rfl, rfl, rfl⟩ rfl rfl rfl rfl) rfl rfl rfl (fun b24 => ?_)
    refine s_do (do_appendO Try.tab 1 (s := 1) (by_ := 8) (k := 1) (news := [.int .i64 (xs.getD i 0)]) (xs := ivals (xs.take i)) (o := o) rfl rfl ⟨rfl, rfl, rfl, rfl⟩ rfl rfl (by simp) ho (cells_row0 0 rfl rfl) rfl (by simp [Value.oneCell']) (by omega) (by unfold maxLen; omega) (by omega)) rfl rfl rfl (fun o2 => ?_)
    refine s_y (y_assign rfl) rfl rfl rfl ?_
    refine s_nil ?_
    refine f_then ?_
    refine c_region ?_
    refine s_y (y_move rfl) rfl rfl rfl ?_
    refine s_y (y_add rfl rfl (by omega)) rfl rfl rfl ?_
    refine s_y (y_assign rfl) rfl rfl rfl ?_
    refine s_nil ?_
    refine f_blockN ?_
    have hvs : ivals (xs.take i) ++ [.int .i64 (xs.getD i 0)] = ivals (xs.take (i + 1)) := by rw [ivals_snoc, take_snoc xs i 0 hi2]
    exact f_roundP (i + 1, some o2.1) ⟨by show i + 1 ≤ _; omega, fun k hk => by rcases (show k < i ∨ k = i from by have : k < i + 1 := hk; omega) with h | rfl; exact hlt k h; exact hx, by rw [← hvs]; exact o2.2⟩ (by show xs.length - (i + 1) < xs.length - i; omega) ⟨rfl, rfl, rfl, rfl, trivial⟩ (fun w h => by rw [← hvs]; exact h.tail)
  · obtain ⟨b, q, rfl, hcell⟩ := hcs (by omega)
    have hci := (hcell i hi2).cls (C := K W (oc 3 o (ivals (xs.take i)) :: Ls)) fun w h => h.tail
    have hp := put_of (n := n) hi hlt (fun h => by omega)
    rw [if_pos ⟨hi2, hx⟩] at hp
    refine c_seq ?_
    refine c_seq ?_
    refine c_region ?_
    refine s_y (y_move rfl) rfl rfl rfl ?_
    refine s_y (y_move rfl) rfl rfl rfl ?_
    refine s_y (y_len Try.tab rfl rfl) rfl rfl rfl ?_
    refine s_y (y_T (y_lss rfl rfl) (by omega)) rfl rfl rfl ?_
    refine s_y (y_move rfl) rfl rfl rfl ?_
    refine s_y (y_move rfl) rfl rfl rfl ?_
    refine s_y (y_move rfl) rfl rfl rfl ?_
    refine s_y (y_indexAddr1o Try.tab rfl rfl rfl rfl _ rfl (by omega)) rfl rfl rfl ?_
    refine s_y (y_load Try.tab rfl rfl hci) rfl rfl rfl ?_
    refine s_y (y_move rfl) rfl rfl rfl ?_
    refine s_y (y_F (y_lss rfl rfl) (by omega)) rfl rfl rfl ?_
    refine s_y (y_pickT rfl rfl) rfl rfl rfl ?_
    refine s_nil ?_
    refine f_then ?_
    refine c_condF rfl ?_
    refine c_exit ?_
    refine f_thenE ?_
    refine f_rndE ?_
    refine f_blockE ?_
    refine f_then ?_
    refine c_seq ?_
    refine c_region ?_
    refine s_y (y_move rfl) rfl rfl rfl ?_
    refine s_y (y_move rfl) rfl rfl rfl ?_
    refine s_do (do_buildSlice1 Try.tab ⟨rfl, rfl, rfl, rfl⟩ rfl rfl rfl rfl) rfl rfl rfl (fun b30 => ?_)
    refine s_do (do_appendO Try.tab 1 (s := 1) (by_ := 8) (k := 1) (news := [.int .i64 n]) (xs := ivals (xs.take i)) (o := o) rfl rfl ⟨rfl, rfl, rfl, rfl⟩ rfl rfl (by simp) ho (cells_row0 0 rfl rfl) rfl (by simp [Value.oneCell']) (by omega) (by unfold maxLen; omega) (by omega)) rfl rfl rfl (fun o2 => ?_)
    obtain ⟨o2, ho2, hpre⟩ := o2
    dsimp only
    refine s_y (y_assign rfl) rfl rfl rfl ?_
    refine s_nil ?_
    refine f_then ?_
    refine c_seq ?_
    refine c_seq ?_
    refine c_region ?_
    refine s_y (y_move rfl) rfl rfl rfl ?_
    refine s_y (y_move rfl) rfl rfl rfl ?_
    refine s_y (y_len Try.tab rfl rfl) rfl rfl rfl ?_
    refine s_y (y_T (y_lss rfl rfl) (by omega)) rfl rfl rfl ?_
    refine s_y (y_move rfl) rfl rfl rfl ?_
    refine s_y (y_move rfl) rfl rfl rfl ?_
    refine s_y (y_move rfl) rfl rfl rfl ?_
    refine s_y (y_indexAddr1o Try.tab rfl rfl rfl rfl _ rfl (by omega)) rfl rfl rfl ?_
    refine s_y (y_load Try.tab rfl rfl (hcell _ (by omega)).cons.cons) rfl rfl rfl ?_
    refine s_y (y_move rfl) rfl rfl rfl ?_
    refine s_y (y_T (y_eql rfl rfl) (by assumption)) rfl rfl rfl ?_
    refine s_y (y_pickT rfl rfl) rfl rfl rfl ?_
    refine s_nil ?_
    refine f_then ?_
    refine c_condT rfl ?_
    refine c_region ?_
    refine s_y (y_move rfl) rfl rfl rfl ?_
    refine s_y (y_add rfl rfl (by omega)) rfl rfl rfl ?_
    refine s_y (y_assign rfl) rfl rfl rfl ?_
    refine s_nil ?_
    refine f_then ?_
    refine c_seq ?_
    refine c_region ?_
    refine s_y (y_move rfl) rfl rfl rfl ?_
    refine s_y (y_move rfl) rfl rfl rfl ?_
    refine s_y (y_move rfl) rfl rfl rfl ?_
    refine s_y (y_sliceFrom Try.tab (lo := i + 1) rfl rfl rfl rfl rfl (by omega) hc) rfl rfl rfl ?_
    skip
    refine s_do (do_appendV Try.tab 1 (s := 1) (by_ := 8) rfl rfl (IL.from (hv.cls fun w h => h.tail.tail) (show i + 1 ≤ xs.length by omega)) ⟨rfl, rfl, rfl, rfl⟩ rfl rfl ho2 (fun _ _ => rfl) (by unfold maxLen; omega) (by omega)) rfl rfl rfl (fun o3 => ?_)
    obtain ⟨o3, ho3, hpre3⟩ := o3
    dsimp only
    refine s_y (y_assign rfl) rfl rfl rfl ?_
    refine s_nil ?_
    refine f_then ?_
    refine c_ret ?_
    have hlen : i + 1 + (xs.length - (i + 1)) = (put n xs).length := by rw [hp]; simp only [List.length_append, List.length_take, List.length_drop, List.length_singleton]; omega
    have hvs : ivals (xs.take i) ++ [.int .i64 n] ++ vw 1 (xs.length - (i + 1)) (fun a _ => .int .i64 (xs.getD (i + 1 + a) 0)) = ivals (put n xs) := by rw [vw_drop, ivals_snoc, ← ivals_app, ← hp]
    rw [hvs, hlen] at ho3
    exact f_retE ⟨o3, ho3, by omega⟩ (res1 rfl rfl) (congrArg (osl o3) hlen) (fun w h => by show K W (och 3 o3 (ivals (put n xs)) :: Ls) w; rw [← hvs]; exact h.tail)
  · obtain ⟨b, q, rfl, hcell⟩ := hcs (by omega)
    have hci := (hcell i hi2).cls (C := K W (oc 3 o (ivals (xs.take i)) :: Ls)) fun w h => h.tail
    have hp := put_of (n := n) hi hlt (fun h => by omega)
    rw [if_neg (by omega)] at hp
    refine c_seq ?_
    refine c_seq ?_
    refine c_region ?_
    refine s_y (y_move rfl) rfl rfl rfl ?_
    refine s_y (y_move rfl) rfl rfl rfl ?_
    refine s_y (y_len Try.tab rfl rfl) rfl rfl rfl ?_
    refine s_y (y_T (y_lss rfl rfl) (by omega)) rfl rfl rfl ?_
    refine s_y (y_move rfl) rfl rfl rfl ?_
    refine s_y (y_move rfl) rfl rfl rfl ?_
    refine s_y (y_move rfl) rfl rfl rfl ?_
    refine s_y (y_indexAddr1o Try.tab rfl rfl rfl rfl _ rfl (by omega)) rfl rfl rfl ?_
    refine s_y (y_load Try.tab rfl rfl hci) rfl rfl rfl ?_
    refine s_y (y_move rfl) rfl rfl rfl ?_
    refine s_y (y_F (y_lss rfl rfl) (by omega)) rfl rfl rfl ?_
    refine s_y (y_pickT rfl rfl) rfl rfl rfl ?_
    refine s_nil ?_
    refine f_then ?_
    refine c_condF rfl ?_
    refine c_exit ?_
    refine f_thenE ?_
    refine f_rndE ?_
    refine f_blockE ?_
    refine f_then ?_
    refine c_seq ?_
    refine c_region ?_
    refine s_y (y_move rfl) rfl rfl rfl ?_
    refine s_y (y_move rfl) rfl rfl rfl ?_
    refine s_do (do_buildSlice1 Try.tab ⟨rfl, rfl, rfl, rfl⟩ rfl rfl rfl rfl) rfl rfl rfl (fun b30 => ?_)
    refine s_do (do_appendO Try.tab 1 (s := 1) (by_ := 8) (k := 1) (news := [.int .i64 n]) (xs := ivals (xs.take i)) (o := o) rfl rfl ⟨rfl, rfl, rfl, rfl⟩ rfl rfl (by simp) ho (cells_row0 0 rfl rfl) rfl (by simp [Value.oneCell']) (by omega) (by unfold maxLen; omega) (by omega)) rfl rfl rfl (fun o2 => ?_)
    obtain ⟨o2, ho2, hpre⟩ := o2
    dsimp only
    refine s_y (y_assign rfl) rfl rfl rfl ?_
    refine s_nil ?_
    refine f_then ?_
    refine c_seq ?_
    refine c_seq ?_
    refine c_region ?_
    refine s_y (y_move rfl) rfl rfl rfl ?_
    refine s_y (y_move rfl) rfl rfl rfl ?_
    refine s_y (y_len Try.tab rfl rfl) rfl rfl rfl ?_
    refine s_y (y_T (y_lss rfl rfl) (by omega)) rfl rfl rfl ?_
    refine s_y (y_move rfl) rfl rfl rfl ?_
    refine s_y (y_move rfl) rfl rfl rfl ?_
    refine s_y (y_move rfl) rfl rfl rfl ?_
    refine s_y (y_indexAddr1o Try.tab rfl rfl rfl rfl _ rfl (by omega)) rfl rfl rfl ?_
    refine s_y (y_load Try.tab rfl rfl (hcell _ (by omega)).cons.cons) rfl rfl rfl ?_
    refine s_y (y_move rfl) rfl rfl rfl ?_
    refine s_y (y_F (y_eql rfl rfl) (by omega)) rfl rfl rfl ?_
    refine s_y (y_pickT rfl rfl) rfl rfl rfl ?_
    refine s_nil ?_
    refine f_then ?_
    refine c_condF rfl ?_
    refine c_skip ?_
    refine f_then ?_
    refine c_seq ?_
    refine c_region ?_
    refine s_y (y_move rfl) rfl rfl rfl ?_
    refine s_y (y_move rfl) rfl rfl rfl ?_
    refine s_y (y_move rfl) rfl rfl rfl ?_
    refine s_y (y_sliceFrom Try.tab rfl rfl rfl rfl rfl (by omega) (by omega)) rfl rfl rfl ?_
    refine s_do (do_appendV Try.tab 1 (s := 1) (by_ := 8) rfl rfl (IL.from (hv.cls fun w h => h.tail.tail) (show i ≤ xs.length by omega)) ⟨rfl, rfl, rfl, rfl⟩ rfl rfl ho2 (fun _ _ => rfl) (by unfold maxLen; omega) (by omega)) rfl rfl rfl (fun o3 => ?_)
    obtain ⟨o3, ho3, hpre3⟩ := o3
    dsimp only
    refine s_y (y_assign rfl) rfl rfl rfl ?_
    refine s_nil ?_
    refine f_then ?_
    refine c_ret ?_
    have hlen : i + 1 + (xs.length - (i)) = (put n xs).length := by rw [hp]; simp only [List.length_append, List.length_take, List.length_drop, List.length_singleton]; omega
    have hvs : ivals (xs.take i) ++ [.int .i64 n] ++ vw 1 (xs.length - (i)) (fun a _ => .int .i64 (xs.getD (i + a) 0)) = ivals (put n xs) := by rw [vw_drop, ivals_snoc, ← ivals_app, ← hp]
    rw [hvs, hlen] at ho3
    exact f_retE ⟨o3, ho3, by omega⟩ (res1 rfl rfl) (congrArg (osl o3) hlen) (fun w h => by show K W (och 3 o3 (ivals (put n xs)) :: Ls) w; rw [← hvs]; exact h.tail)
set_option maxRecDepth 10000 in
set_option maxHeartbeats 8000000 in
/-- Whether a list has a number. -/
theorem in_spec (W : World) (Ls : List Chunk) (v : Value) (xs : List Int) (n : Int) (hv : IL (K W Ls) v xs) (hl : xs.length ≤ 1000000) :
    Spec Try.prog 35 #[v, .int .i64 n] (K W Ls) (fun _ : Unit => .bool (decide (n ∈ xs))) (fun _ => K W Ls) := by
  obtain ⟨pa, c, rfl, hc, hcs⟩ := hv.open
  refine enter (args := [_, _]) Try.func35 rfl Try.ntmps35 rfl ?_
  refine c_seq ?_
  refine c_region ?_
  refine s_y (y_assign rfl) rfl rfl rfl ?_
  refine s_nil ?_
  refine f_then ?_
  refine c_seq ?_
  refine c_seq ?_
  refine c_region ?_
  refine s_y (y_assign rfl) rfl rfl rfl ?_
  refine s_nil ?_
  refine f_then ?_
  refine c_block ?_
  refine c_loopP (α := Nat) (fun z => [(0, .slice pa xs.length c), (1, .int .i64 n), (5, .int .i64 z)]) (fun z => z ≤ xs.length ∧ n ∉ xs.take z)
    (fun _ => K W Ls) (fun z => xs.length - z) 0 ⟨rfl, rfl, rfl, trivial⟩ ⟨Nat.zero_le _, by simp⟩ (fun w h => h) ?_
  rintro i ⟨hi, hno⟩
  refine c_seq ?_
  refine c_seq ?_
  refine c_region ?_
  refine s_y (y_move rfl) rfl rfl rfl ?_
  refine s_y (y_move rfl) rfl rfl rfl ?_
  refine s_y (y_len Try.tab rfl rfl) rfl rfl rfl ?_
  refine s_y (y_lss rfl rfl) rfl rfl rfl ?_
  refine s_nil ?_
  refine f_then ?_
  refine c_condD rfl (fun hlt => ?_) (fun hge => ?_)
  rotate_left
  · have hd : decide (n ∈ xs) = false := decide_eq_false (by rw [show i = xs.length by omega, List.take_length] at hno; exact hno)
    rw [hd]
    refine c_exit ?_
    refine f_thenE ?_
    refine f_rndE ?_
    refine f_blockE ?_
    refine f_then ?_
    refine c_seq ?_
    refine c_region ?_
    refine s_y (y_assign rfl) rfl rfl rfl ?_
    refine s_nil ?_
    refine f_then ?_
    refine c_ret ?_
    exact f_ret () (res1 rfl rfl) (fun w h => h)
  obtain ⟨b, q, rfl, hcell⟩ := hcs (by omega)
  have hci := hcell i (by omega)
  have hmem : xs.getD i 0 ∈ xs := by rw [List.getD_eq_getElem?_getD, List.getElem?_eq_getElem (by omega)]; exact List.getElem_mem _
  by_cases he : xs.getD i 0 = n
  · have hd : decide (n ∈ xs) = true := decide_eq_true (he ▸ hmem)
    rw [hd]
    refine c_skip ?_
    refine f_then ?_
    refine c_seq ?_
    refine c_block ?_
    refine c_seq ?_
    refine c_region ?_
    refine s_y (y_move rfl) rfl rfl rfl ?_
    refine s_y (y_move rfl) rfl rfl rfl ?_
    refine s_y (y_indexAddr1o Try.tab rfl rfl rfl rfl _ rfl (by omega)) rfl rfl rfl ?_
    refine s_y (y_load Try.tab rfl rfl hci) rfl rfl rfl ?_
    refine s_y (y_move rfl) rfl rfl rfl ?_
    refine s_y (y_T (y_eql rfl rfl) (by assumption)) rfl rfl rfl ?_
    refine s_nil ?_
    refine f_then ?_
    refine c_condT rfl ?_
    refine c_seq ?_
    refine c_region ?_
    refine s_y (y_assign rfl) rfl rfl rfl ?_
    refine s_nil ?_
    refine f_then ?_
    refine c_ret ?_
    refine f_blockR ?_
    refine f_thenR ?_
    refine f_rndR ?_
    refine f_blockR ?_
    refine f_thenR ?_
    exact f_ret () (res1 rfl rfl) (fun w h => h)
  · refine c_skip ?_
    refine f_then ?_
    refine c_seq ?_
    refine c_block ?_
    refine c_seq ?_
    refine c_region ?_
    refine s_y (y_move rfl) rfl rfl rfl ?_
    refine s_y (y_move rfl) rfl rfl rfl ?_
    refine s_y (y_indexAddr1o Try.tab rfl rfl rfl rfl _ rfl (by omega)) rfl rfl rfl ?_
    refine s_y (y_load Try.tab rfl rfl hci) rfl rfl rfl ?_
    refine s_y (y_move rfl) rfl rfl rfl ?_
    refine s_y (y_F (y_eql rfl rfl) (by assumption)) rfl rfl rfl ?_
    refine s_nil ?_
    refine f_then ?_
    refine c_condF rfl ?_
    refine c_skip ?_
    refine f_blockN ?_
    refine f_then ?_
    refine c_region ?_
    refine s_y (y_move rfl) rfl rfl rfl ?_
    refine s_y (y_add rfl rfl (by omega)) rfl rfl rfl ?_
    refine s_y (y_assign rfl) rfl rfl rfl ?_
    refine s_nil ?_
    exact f_roundP (i + 1) ⟨by omega, by rw [take_snoc xs i 0 (by omega)]; simp only [List.mem_append, List.mem_singleton]; rintro (h | h); exact hno h; exact he h.symm⟩ (by omega) ⟨rfl, rfl, rfl, trivial⟩ (fun w h => h)
theorem oc_nil (e : TypeId) (o : Option Own) : oc e o (ivals []) = oc e o [] := rfl
set_option maxRecDepth 10000 in
set_option maxHeartbeats 8000000 in
theorem sheets_spec (W : World) (Ls : List Chunk) (v : Value) (cs : List (Int × Int)) (hv : CL (K W Ls) v cs) (hl : cs.length ≤ 1000000) :
    Spec Try.prog 17 #[v] (K W Ls) (X := { o : Option Own // owfO 1 o (asc (·.1) cs).length (ivals (asc (·.1) cs)) }) (fun o => ov o.1 (asc (·.1) cs).length) (fun o => K W (oc 3 o.1 (ivals (asc (·.1) cs)) :: Ls)) := by
  obtain ⟨pa, c, rfl, hc, hcs⟩ := hv.open
  refine enter (args := [_]) Try.func17 rfl Try.ntmps17 rfl ?_
  refine c_seq ?_
  refine c_region ?_
  refine s_y (y_assign rfl) rfl rfl rfl ?_
  refine s_nil ?_
  refine f_then ?_
  refine c_seq ?_
  refine c_region ?_
  refine s_y (y_assign rfl) rfl rfl rfl ?_
  refine s_nil ?_
  refine f_then ?_
  refine c_seq ?_
  refine c_seq ?_
  refine c_region ?_
  refine s_y (y_assign rfl) rfl rfl rfl ?_
  refine s_nil ?_
  refine f_then ?_
  refine c_block ?_
  refine c_loopP (α := Nat × Option Own) (fun z => [(0, .slice pa cs.length c), (3, ov z.2 (asc (·.1) (cs.take z.1)).length), (4, .int .i64 z.1)]) (fun z => z.1 ≤ cs.length ∧ owfO 1 z.2 (asc (·.1) (cs.take z.1)).length (ivals (asc (·.1) (cs.take z.1))))
    (fun z => K W (oc 3 z.2 (ivals (asc (·.1) (cs.take z.1))) :: Ls)) (fun z => cs.length - z.1) (0, none) ⟨rfl, rfl, rfl, trivial⟩ ⟨Nat.zero_le _, rfl, rfl⟩ (fun w h => h.addNil) ?_
  rintro ⟨i, o⟩ ⟨hi, ho⟩
  dsimp only at hi ho ⊢
  refine c_seq ?_
  refine c_seq ?_
  refine c_region ?_
  refine s_y (y_move rfl) rfl rfl rfl ?_
  refine s_y (y_move rfl) rfl rfl rfl ?_
  refine s_y (y_len Try.tab rfl rfl) rfl rfl rfl ?_
  refine s_y (y_lss rfl rfl) rfl rfl rfl ?_
  refine s_nil ?_
  refine f_then ?_
  refine c_condD rfl (fun hlt => ?_) (fun hge => ?_)
  rotate_left
  · rw [show i = cs.length by omega, List.take_length] at ho ⊢
    refine c_exit ?_
    refine f_thenE ?_
    refine f_rndE ?_
    refine f_blockE ?_
    refine f_then ?_
    refine c_seq ?_
    refine c_region ?_
    refine s_y (y_move rfl) rfl rfl rfl ?_
    refine s_y (y_assign rfl) rfl rfl rfl ?_
    refine s_nil ?_
    refine f_then ?_
    refine c_ret ?_
    exact f_ret ⟨o, ho⟩ (res1 rfl rfl) (fun w h => h)
  obtain ⟨b, q, rfl, hcell⟩ := hcs (by omega)
  have hci := (hcell i (by omega)).2.cls (C := K W (oc 3 o (ivals (asc (·.1) (cs.take i))) :: Ls)) fun w h => h.tail
  have hlen := asc_len (·.1) (cs.take i)
  rw [List.length_take] at hlen
  have hI : IL (K W (oc 3 o (ivals (asc (·.1) (cs.take i))) :: Ls)) (ov o (asc (·.1) (cs.take i)).length) (asc (·.1) (cs.take i)) := IL.oc 0 rfl ho
  refine c_skip ?_
  refine f_then ?_
  refine c_seq ?_
  refine c_block ?_
  refine c_region ?_
  refine s_y (y_move rfl) rfl rfl rfl ?_
  refine s_y (y_move rfl) rfl rfl rfl ?_
  refine s_y (y_move rfl) rfl rfl rfl ?_
  refine s_y (y_indexAddr (s := 2) Try.tab rfl rfl rfl rfl _ rfl (by omega)) rfl rfl rfl ?_
  refine s_y (y_fieldAddr0 Try.tab rfl rfl rfl rfl rfl) rfl rfl rfl ?_
  refine s_y (y_load Try.tab rfl rfl hci) rfl rfl rfl ?_
  refine s_call (en_f rfl Try.call32) (put_spec W _ _ (asc (·.1) (cs.take i)) (cs.getD i (0, 0)).1 hI (by omega)) rfl rfl rfl (fun o2 => ?_)
  have e : put (cs.getD i (0, 0)).1 (asc (·.1) (cs.take i)) = asc (·.1) (cs.take (i + 1)) := by rw [take_snoc cs i (0, 0) (by omega), asc_snoc]
  obtain ⟨o2, ho2⟩ := o2
  dsimp only
  rw [e] at ho2 ⊢
  refine s_y (y_assign rfl) rfl rfl rfl ?_
  refine s_nil ?_
  refine f_blockN ?_
  refine f_then ?_
  refine c_region ?_
  refine s_y (y_move rfl) rfl rfl rfl ?_
  refine s_y (y_add rfl rfl (by omega)) rfl rfl rfl ?_
  refine s_y (y_assign rfl) rfl rfl rfl ?_
  refine s_nil ?_
  exact f_roundP (i + 1, some o2) ⟨by show i + 1 ≤ _; omega, ho2⟩ (by show cs.length - (i + 1) < cs.length - i; omega) ⟨rfl, rfl, rfl, trivial⟩ (fun w h => h.dropAt 1)
end Go.KL
end

section
/- Walks: repairs refused for the layout, and repairs that are the same. -/
namespace Go.KL
open Go.Proofs
attribute [local irreducible] SC St Fin Sq Sw Ylds Doos Sets Enters Spec CellIs CellsAre Then Ret Rnd Chn resOK ints bools recs arr
set_option maxRecDepth 10000 in
set_option maxHeartbeats 8000000 in
theorem same_yes (W : World) (Ls : List Chunk) (va vb : Value) (n : Nat) (f : Nat → Int) (ha : SlI (K W Ls) va n f) (hb : SlI (K W Ls) vb n f) (hn : n ≤ 1073741824) : Spec Try.prog 51 #[va, vb] (K W Ls) (fun _ : Unit => .bool true) (fun _ => K W Ls) := by
  obtain ⟨pa, ca, rfl, _, h2⟩ := SlV.cells ha
  obtain ⟨pb, cb, rfl, _, k2⟩ := SlV.cells hb
  refine enter (args := [_, _]) Try.func51 rfl Try.ntmps51 rfl ?_
  refine c_seq ?_
  refine c_region ?_
  refine s_y (y_assign rfl) rfl rfl rfl ?_
  refine s_nil ?_
  refine f_then ?_
  refine c_seq ?_
  refine c_seq ?_
  refine c_region ?_
  refine s_y (y_move rfl) rfl rfl rfl ?_
  refine s_y (y_len Try.tab rfl rfl) rfl rfl rfl ?_
  refine s_y (y_move rfl) rfl rfl rfl ?_
  refine s_y (y_len Try.tab rfl rfl) rfl rfl rfl ?_
  refine s_y (y_F (y_neq rfl rfl) (by omega)) rfl rfl rfl ?_
  refine s_nil ?_
  refine f_then ?_
  refine c_condF rfl ?_
  refine c_skip ?_
  refine f_then ?_
  refine c_seq ?_
  refine c_seq ?_
  refine c_region ?_
  refine s_y (y_assign rfl) rfl rfl rfl ?_
  refine s_nil ?_
  refine f_then ?_
  refine c_block ?_
  refine c_loopP (α := Nat) (fun z => [(0, .slice pa n ca), (1, .slice pb n cb), (5, .int .i64 z)]) (fun z => z ≤ n) (fun _ => K W Ls) (fun z => n - z) 0 ⟨rfl, rfl, rfl, trivial⟩ (Nat.zero_le _) (fun w h => h) ?_
  rintro i hi
  refine c_seq ?_
  refine c_seq ?_
  refine c_region ?_
  refine s_y (y_move rfl) rfl rfl rfl ?_
  refine s_y (y_move rfl) rfl rfl rfl ?_
  refine s_y (y_len Try.tab rfl rfl) rfl rfl rfl ?_
  refine s_y (y_lss rfl rfl) rfl rfl rfl ?_
  refine s_nil ?_
  refine f_then ?_
  refine c_condD rfl (fun hlt => ?_) (fun hge => ?_)
  · obtain ⟨b1, o1, rfl, _, hA⟩ := h2 (by omega)
    obtain ⟨b2, o2, rfl, _, hB⟩ := k2 (by omega)
    have qA := hA 0 (by omega) i (by omega)
    have qB := hB 0 (by omega) i (by omega)
    rw [Nat.mul_one, Nat.add_zero] at qA qB
    refine c_skip ?_
    refine f_then ?_
    refine c_seq ?_
    refine c_block ?_
    refine c_seq ?_
    refine c_quiet Try.mixed (by kernel_rfl) K.drew ?_
    refine q_y (y_move rfl) rfl rfl rfl ?_
    refine q_y (y_move rfl) rfl rfl rfl ?_
    refine q_y (y_indexAddr1o Try.tab rfl rfl rfl rfl _ rfl (by omega)) rfl rfl rfl ?_
    refine q_y (y_load Try.tab rfl rfl qA) rfl rfl rfl ?_
    refine q_y (y_move rfl) rfl rfl rfl ?_
    refine q_y (y_move rfl) rfl rfl rfl ?_
    refine q_y (y_indexAddr1o Try.tab rfl rfl rfl rfl _ rfl (by omega)) rfl rfl rfl ?_
    refine q_y (y_load Try.tab rfl rfl qB) rfl rfl rfl ?_
    refine q_y (y_F (y_neq rfl rfl) (by omega)) rfl rfl rfl ?_
    refine q_nil ?_
    refine f_then ?_
    refine c_condF rfl ?_
    refine c_skip ?_
    refine f_blockN ?_
    refine f_then ?_
    refine c_region ?_
    refine s_y (y_move rfl) rfl rfl rfl ?_
    refine s_y (y_add rfl rfl (by omega)) rfl rfl rfl ?_
    refine s_y (y_assign rfl) rfl rfl rfl ?_
    refine s_nil ?_
    exact f_roundP (i + 1) (by omega) (by omega) ⟨rfl, rfl, rfl, trivial⟩ (fun w h => h)
  · refine c_exit ?_
    refine f_thenE ?_
    refine f_rndE ?_
    refine f_blockE ?_
    refine f_then ?_
    refine c_seq ?_
    refine c_region ?_
    refine s_y (y_assign rfl) rfl rfl rfl ?_
    refine s_nil ?_
    refine f_then ?_
    refine c_ret ?_
    exact f_ret () (res1 rfl rfl) (fun w h => h)
/-- A repair. -/
structure Rep where
  cost : Int
  rv : Value
  sv : Value
  ov : Value
abbrev Rep.v (r : Rep) : Value := .agg #[.int .i64 r.cost, r.rv, r.sv, r.ov]
/-- What its lists say. -/
structure RepL (C : World → Prop) (x : Rep) (n m k : Nat) (f g h : Nat → Int) : Prop where
  r : SlI C x.rv n f
  s : SlI C x.sv m g
  o : SlI C x.ov k h
set_option maxRecDepth 10000 in
set_option maxHeartbeats 8000000 in
theorem alike_yes (W : World) (Ls : List Chunk) (x y : Rep) (n m k : Nat) (f g h : Nat → Int) (hc : x.cost = y.cost) (ha : RepL (K W Ls) x n m k f g h) (hb : RepL (K W Ls) y n m k f g h) (hn : n ≤ 1073741824) (hm : m ≤ 1073741824) (hk : k ≤ 1073741824) :
    Spec Try.prog 19 #[x.v, y.v] (K W Ls) (fun _ : Unit => .bool true) (fun _ => K W Ls) := by
  refine enter (args := [_, _]) Try.func19 rfl Try.ntmps19 rfl ?_
  refine c_seq ?_
  refine c_region ?_
  refine s_do (do_box rfl) rfl rfl rfl (fun b2 => ?_)
  refine s_do (do_box rfl) rfl rfl rfl (fun b3 => ?_)
  refine s_y (y_assign rfl) rfl rfl rfl ?_
  refine s_nil ?_
  refine f_then ?_
  refine c_seq ?_
  refine c_region ?_
  refine s_y (y_fieldAddr0 Try.tab rfl rfl rfl rfl rfl) rfl rfl rfl ?_
  refine s_y (y_load Try.tab rfl rfl (cell_row 1 rfl rfl)) rfl rfl rfl ?_
  refine s_y (y_fieldAddr0 Try.tab rfl rfl rfl rfl rfl) rfl rfl rfl ?_
  refine s_y (y_load Try.tab rfl rfl (cell_row 0 rfl rfl)) rfl rfl rfl ?_
  refine s_y (y_T (y_eql rfl rfl) (by assumption)) rfl rfl rfl ?_
  refine s_y (y_move rfl) rfl rfl rfl ?_
  refine s_y (y_fieldAddrB Try.tab 1 rfl rfl rfl rfl rfl) rfl rfl rfl ?_
  refine s_y (y_load Try.tab rfl rfl (cell_row 1 rfl rfl)) rfl rfl rfl ?_
  refine s_y (y_fieldAddrB Try.tab 1 rfl rfl rfl rfl rfl) rfl rfl rfl ?_
  refine s_y (y_load Try.tab rfl rfl (cell_row 0 rfl rfl)) rfl rfl rfl ?_
  refine s_call (en_f rfl Try.call51) (same_yes _ _ _ _ _ _ (SlV.cls ha.r fun w h => K.tail (K.tail h)) (SlV.cls hb.r fun w h => K.tail (K.tail h)) hn) rfl rfl rfl (fun _ => ?_)
  refine s_y (y_pickT rfl rfl) rfl rfl rfl ?_
  refine s_y (y_move rfl) rfl rfl rfl ?_
  refine s_y (y_fieldAddrB Try.tab 2 rfl rfl rfl rfl rfl) rfl rfl rfl ?_
  refine s_y (y_load Try.tab rfl rfl (cell_row 1 rfl rfl)) rfl rfl rfl ?_
  refine s_y (y_fieldAddrB Try.tab 2 rfl rfl rfl rfl rfl) rfl rfl rfl ?_
  refine s_y (y_load Try.tab rfl rfl (cell_row 0 rfl rfl)) rfl rfl rfl ?_
  refine s_call (en_f rfl Try.call51) (same_yes _ _ _ _ _ _ (SlV.cls ha.s fun w h => K.tail (K.tail h)) (SlV.cls hb.s fun w h => K.tail (K.tail h)) hm) rfl rfl rfl (fun _ => ?_)
  refine s_y (y_pickT rfl rfl) rfl rfl rfl ?_
  refine s_y (y_move rfl) rfl rfl rfl ?_
  refine s_y (y_fieldAddrB Try.tab 3 rfl rfl rfl rfl rfl) rfl rfl rfl ?_
  refine s_y (y_load Try.tab rfl rfl (cell_row 1 rfl rfl)) rfl rfl rfl ?_
  refine s_y (y_fieldAddrB Try.tab 3 rfl rfl rfl rfl rfl) rfl rfl rfl ?_
  refine s_y (y_load Try.tab rfl rfl (cell_row 0 rfl rfl)) rfl rfl rfl ?_
  refine s_call (en_f rfl Try.call51) (same_yes _ _ _ _ _ _ (SlV.cls ha.o fun w h => K.tail (K.tail h)) (SlV.cls hb.o fun w h => K.tail (K.tail h)) hk) rfl rfl rfl (fun _ => ?_)
  refine s_y (y_pickT rfl rfl) rfl rfl rfl ?_
  refine s_y (y_assign rfl) rfl rfl rfl ?_
  refine s_nil ?_
  refine f_then ?_
  refine c_ret ?_
  exact f_ret () (res1 rfl rfl) (fun w h => h.tail.tail)
set_option maxRecDepth 10000 in
set_option maxHeartbeats 8000000 in
theorem examine_bad (W : World) (Ls : List Chunk) (l : Lay) (s : Int) (v u : Value) (c : Cos) (h : ¬ Gd l s) :
    Spec Try.prog 43 #[l.v, .int .i64 s, v, c.v, u] (K W Ls) (fun _ : Unit => .tuple #[.agg #[.map none, .map none, .int .i64 0], .int .i64 (wrg l s)]) (fun _ => K W Ls) := by
  have hw : wrg l s ≠ 0 := fun e => h (wrg_0.1 e)
  refine enter (args := [_, _, _, _, _]) Try.func43 rfl Try.ntmps43 rfl ?_
  refine c_seq ?_
  refine c_region ?_
  refine s_do (do_box rfl) rfl rfl rfl (fun b5 => ?_)
  refine s_do (do_box rfl) rfl rfl rfl (fun b8 => ?_)
  refine s_do (do_alloc Try.tab rfl) rfl rfl rfl (fun b10 => ?_)
  refine s_y (y_assign rfl) rfl rfl rfl ?_
  refine s_nil ?_
  refine f_then ?_
  refine c_seq ?_
  refine c_region ?_
  refine s_y (y_loadA Try.tab rfl rfl rfl rfl (cells_row0 2 rfl rfl)) rfl rfl rfl ?_
  refine s_y (y_move rfl) rfl rfl rfl ?_
  refine s_call (en_f rfl Try.call52) (newRun_bad _ _ _ _ h) rfl rfl rfl (fun _ => ?_)
  refine s_y (y_move rfl) rfl rfl rfl ?_
  refine s_y (y_extract rfl rfl) rfl rfl rfl ?_
  refine s_y (y_extract rfl rfl) rfl rfl rfl ?_
  refine s_do (do_alloc Try.tab rfl) rfl rfl rfl (fun b12 => ?_)
  refine s_set (set_box Try.tab 0 rfl rfl rfl rfl rfl rfl rfl) rfl rfl ?_
  refine s_y (y_assign rfl) rfl rfl rfl ?_
  refine s_nil ?_
  refine f_then ?_
  refine c_seq ?_
  refine c_seq ?_
  refine c_region ?_
  refine s_y (y_move rfl) rfl rfl rfl ?_
  refine s_y (y_T (y_neq rfl rfl) (by assumption)) rfl rfl rfl ?_
  refine s_nil ?_
  refine f_then ?_
  refine c_condT rfl ?_
  refine c_seq ?_
  refine c_region ?_
  refine s_y (y_build Try.tab rfl rfl rfl rfl rfl) rfl rfl rfl ?_
  refine s_y (y_move rfl) rfl rfl rfl ?_
  refine s_set (set_box Try.tab 1 rfl rfl rfl rfl rfl rfl rfl) rfl rfl ?_
  refine s_y (y_assign rfl) rfl rfl rfl ?_
  refine s_nil ?_
  refine f_then ?_
  refine c_ret ?_
  refine f_thenR ?_
  exact f_ret () (resA1 Try.tab rfl rfl rfl rfl rfl rfl (cells_row0 1 rfl rfl)) (fun w h => h.tail.tail.tail.tail)
set_option maxRecDepth 10000 in
set_option maxHeartbeats 8000000 in
theorem Plan_bad (W : World) (Ls : List Chunk) (l : Lay) (s : Int) (v : Value) (c : Cos) (h : ¬ Gd l s) :
    Spec Try.prog 18 #[l.v, .int .i64 s, v, c.v] (K W Ls) (fun _ : Unit => .tuple #[.agg #[.int .i64 0, nilS, nilS, nilS], .int .i64 (wrg l s)]) (fun _ => K W Ls) := by
  have hw : wrg l s ≠ 0 := fun e => h (wrg_0.1 e)
  refine enter (args := [_, _, _, _]) Try.func18 rfl Try.ntmps18 rfl ?_
  refine c_seq ?_
  refine c_region ?_
  refine s_do (do_box rfl) rfl rfl rfl (fun b4 => ?_)
  refine s_do (do_box rfl) rfl rfl rfl (fun b7 => ?_)
  refine s_do (do_alloc Try.tab rfl) rfl rfl rfl (fun b8 => ?_)
  refine s_y (y_assign rfl) rfl rfl rfl ?_
  refine s_nil ?_
  refine f_then ?_
  refine c_seq ?_
  refine c_region ?_
  refine s_y (y_loadA Try.tab rfl rfl rfl rfl (cells_row0 2 rfl rfl)) rfl rfl rfl ?_
  refine s_y (y_move rfl) rfl rfl rfl ?_
  refine s_y (y_move rfl) rfl rfl rfl ?_
  refine s_y (y_loadA Try.tab rfl rfl rfl rfl (cells_row0 1 rfl rfl)) rfl rfl rfl ?_
  refine s_call (en_f rfl Try.call43) (examine_bad _ _ _ _ _ _ _ h) rfl rfl rfl (fun _ => ?_)
  refine s_y (y_move rfl) rfl rfl rfl ?_
  refine s_y (y_extract rfl rfl) rfl rfl rfl ?_
  refine s_y (y_extract rfl rfl) rfl rfl rfl ?_
  refine s_do (do_alloc Try.tab rfl) rfl rfl rfl (fun b10 => ?_)
  refine s_set (set_box Try.tab 0 rfl rfl rfl rfl rfl rfl rfl) rfl rfl ?_
  refine s_y (y_assign rfl) rfl rfl rfl ?_
  refine s_nil ?_
  refine f_then ?_
  refine c_seq ?_
  refine c_seq ?_
  refine c_region ?_
  refine s_y (y_move rfl) rfl rfl rfl ?_
  refine s_y (y_T (y_neq rfl rfl) (by assumption)) rfl rfl rfl ?_
  refine s_nil ?_
  refine f_then ?_
  refine c_condT rfl ?_
  refine c_seq ?_
  refine c_region ?_
  refine s_y (y_build Try.tab rfl rfl rfl rfl rfl) rfl rfl rfl ?_
  refine s_y (y_move rfl) rfl rfl rfl ?_
  refine s_set (set_box Try.tab 1 rfl rfl rfl rfl rfl rfl rfl) rfl rfl ?_
  refine s_y (y_assign rfl) rfl rfl rfl ?_
  refine s_nil ?_
  refine f_then ?_
  refine c_ret ?_
  refine f_thenR ?_
  exact f_ret () (resA1 Try.tab rfl rfl rfl rfl rfl rfl (cells_row0 1 rfl rfl)) (fun w h => h.tail.tail.tail.tail)
set_option maxRecDepth 10000 in
set_option maxHeartbeats 8000000 in
theorem Price_bad (W : World) (Ls : List Chunk) (l : Lay) (s : Int) (v u : Value) (c : Cos) (h : ¬ Gd l s) :
    Spec Try.prog 31 #[l.v, .int .i64 s, v, c.v, u] (K W Ls) (fun _ : Unit => .tuple #[.int .i64 0, .int .i64 (wrg l s)]) (fun _ => K W Ls) := by
  have hw : wrg l s ≠ 0 := fun e => h (wrg_0.1 e)
  refine enter (args := [_, _, _, _, _]) Try.func31 rfl Try.ntmps31 rfl ?_
  refine c_seq ?_
  refine c_region ?_
  refine s_do (do_box rfl) rfl rfl rfl (fun b5 => ?_)
  refine s_do (do_box rfl) rfl rfl rfl (fun b8 => ?_)
  refine s_y (y_assign rfl) rfl rfl rfl ?_
  refine s_y (y_assign rfl) rfl rfl rfl ?_
  refine s_nil ?_
  refine f_then ?_
  refine c_seq ?_
  refine c_region ?_
  refine s_y (y_loadA Try.tab rfl rfl rfl rfl (cells_row0 1 rfl rfl)) rfl rfl rfl ?_
  refine s_y (y_move rfl) rfl rfl rfl ?_
  refine s_y (y_move rfl) rfl rfl rfl ?_
  refine s_y (y_loadA Try.tab rfl rfl rfl rfl (cells_row0 0 rfl rfl)) rfl rfl rfl ?_
  refine s_y (y_move rfl) rfl rfl rfl ?_
  refine s_call (en_f rfl Try.call43) (examine_bad _ _ _ _ _ _ _ h) rfl rfl rfl (fun _ => ?_)
  refine s_y (y_move rfl) rfl rfl rfl ?_
  refine s_y (y_extract rfl rfl) rfl rfl rfl ?_
  refine s_y (y_extract rfl rfl) rfl rfl rfl ?_
  refine s_do (do_alloc Try.tab rfl) rfl rfl rfl (fun b12 => ?_)
  refine s_set (set_box Try.tab 0 rfl rfl rfl rfl rfl rfl rfl) rfl rfl ?_
  refine s_y (y_assign rfl) rfl rfl rfl ?_
  refine s_nil ?_
  refine f_then ?_
  refine c_seq ?_
  refine c_seq ?_
  refine c_region ?_
  refine s_y (y_move rfl) rfl rfl rfl ?_
  refine s_y (y_T (y_neq rfl rfl) (by assumption)) rfl rfl rfl ?_
  refine s_nil ?_
  refine f_then ?_
  refine c_condT rfl ?_
  refine c_seq ?_
  refine c_region ?_
  refine s_y (y_move rfl) rfl rfl rfl ?_
  refine s_y (y_assign rfl) rfl rfl rfl ?_
  refine s_y (y_assign rfl) rfl rfl rfl ?_
  refine s_nil ?_
  refine f_then ?_
  refine c_ret ?_
  refine f_thenR ?_
  exact f_ret () (res2 rfl rfl rfl) (fun w h => h.tail.tail.tail)
end Go.KL
end

section
/- Walks: the reference's Once, BundleOf, Repaired. -/
namespace Go.KL
open Go.Proofs
attribute [local irreducible] SC St Fin Sq Sw Ylds Doos Sets Enters Spec CellIs CellsAre Then Ret Rnd Chn resOK ints bools recs arr
set_option maxRecDepth 10000 in
set_option maxHeartbeats 8000000 in
theorem once_spec (W : World) (Ls : List Chunk) (v : Value) (cs : List (Int × Int)) (hv : CL (K W Ls) v cs) (hl : cs.length ≤ 1000000) :
    Spec Try.prog 34 #[v] (K W Ls) (X := { o : Option Own // owfO 2 o (onces cs).length (cvals (onces cs)) }) (fun o => ov o.1 (onces cs).length) (fun o => K W (oc 37 o.1 (cvals (onces cs)) :: Ls)) := by
  obtain ⟨pa, c, rfl, hc, hcs⟩ := hv.open
  refine enter (args := [_]) Try.func34 rfl Try.ntmps34 rfl ?_
  refine c_seq ?_
  refine c_region ?_
  refine s_y (y_assign rfl) rfl rfl rfl ?_
  refine s_nil ?_
  refine f_then ?_
  refine c_seq ?_
  refine c_region ?_
  refine s_y (y_assign rfl) rfl rfl rfl ?_
  refine s_nil ?_
  refine f_then ?_
  refine c_seq ?_
  refine c_seq ?_
  refine c_region ?_
  refine s_y (y_assign rfl) rfl rfl rfl ?_
  refine s_nil ?_
  refine f_then ?_
  refine c_block ?_
  refine c_loopP (α := Nat × Option Own) (fun z => [(0, .slice pa cs.length c), (3, ov z.2 (onces (cs.take z.1)).length), (4, .int .i64 z.1)]) (fun z => z.1 ≤ cs.length ∧ owfO 2 z.2 (onces (cs.take z.1)).length (cvals (onces (cs.take z.1))))
    (fun z => K W (oc 37 z.2 (cvals (onces (cs.take z.1))) :: Ls)) (fun z => cs.length - z.1) (0, none) ⟨rfl, rfl, rfl, trivial⟩ ⟨Nat.zero_le _, rfl, rfl⟩ (fun w h => h.addNil) ?_
  rintro ⟨i, o⟩ ⟨hi, ho⟩
  dsimp only at hi ho ⊢
  refine c_seq ?_
  refine c_seq ?_
  refine c_region ?_
  refine s_y (y_move rfl) rfl rfl rfl ?_
  refine s_y (y_move rfl) rfl rfl rfl ?_
  refine s_y (y_len Try.tab rfl rfl) rfl rfl rfl ?_
  refine s_y (y_lss rfl rfl) rfl rfl rfl ?_
  refine s_nil ?_
  refine f_then ?_
  refine c_condD rfl (fun hlt => ?_) (fun hge => ?_)
  rotate_left
  · rw [show i = cs.length by omega, List.take_length] at ho ⊢
    refine c_exit ?_
    refine f_thenE ?_
    refine f_rndE ?_
    refine f_blockE ?_
    refine f_then ?_
    refine c_seq ?_
    refine c_region ?_
    refine s_y (y_move rfl) rfl rfl rfl ?_
    refine s_y (y_assign rfl) rfl rfl rfl ?_
    refine s_nil ?_
    refine f_then ?_
    refine c_ret ?_
    exact f_ret ⟨o, ho⟩ (res1 rfl rfl) (fun w h => h)
  obtain ⟨b, q, rfl, hcell⟩ := hcs (by omega)
  have hci := (hcell i (by omega)).1.cls (C := K W (oc 37 o (cvals (onces (cs.take i))) :: Ls)) fun w h => h.tail
  have hlen := (onces_spec (cs.take i)).2.2
  rw [List.length_take] at hlen
  have hO : CL (K W (oc 37 o (cvals (onces (cs.take i))) :: Ls)) (ov o (onces (cs.take i)).length) (onces (cs.take i)) := CL.oc 0 rfl ho
  have hnext := onces_snoc (cs.take i) (cs.getD i (0, 0))
  rw [← take_snoc cs i (0, 0) (by omega)] at hnext
  generalize hD : onces (cs.take i) = D at *
  generalize hx : cs.getD i (0, 0) = x at *
  obtain ⟨pd, cd, hvd, hcd, hds⟩ := hO.open
  rw [hvd]
  refine c_skip ?_
  refine f_then ?_
  refine c_seq ?_
  refine c_block ?_
  refine c_seq ?_
  refine c_region ?_
  refine s_y (y_assign rfl) rfl rfl rfl ?_
  refine s_nil ?_
  refine f_then ?_
  refine c_seq ?_
  refine c_seq ?_
  refine c_region ?_
  refine s_y (y_assign rfl) rfl rfl rfl ?_
  refine s_nil ?_
  refine f_then ?_
  refine c_block ?_
  refine c_loopP (α := Nat × Bool) (fun z => [(0, .slice (some ⟨b, q, none⟩) cs.length c), (3, .slice pd D.length cd), (4, .int .i64 i), (5, .bool z.2), (6, .int .i64 z.1)]) (fun z => z.1 ≤ D.length ∧ z.2 = decide (x ∈ D.take z.1))
    (fun z => K W (oc 37 o (cvals D) :: Ls)) (fun z => D.length - z.1) (0, false) ⟨rfl, rfl, rfl, rfl, rfl, trivial⟩ ⟨Nat.zero_le _, by simp⟩ (fun w h => h) ?_
  rintro ⟨k, f⟩ ⟨hk, hf⟩
  dsimp only at hk hf ⊢
  refine c_seq ?_
  refine c_seq ?_
  refine c_region ?_
  refine s_y (y_move rfl) rfl rfl rfl ?_
  refine s_y (y_move rfl) rfl rfl rfl ?_
  refine s_y (y_len Try.tab rfl rfl) rfl rfl rfl ?_
  refine s_y (y_lss rfl rfl) rfl rfl rfl ?_
  refine s_nil ?_
  refine f_then ?_
  refine c_condD rfl (fun hlt2 => ?_) (fun hge => ?_)
  · obtain ⟨bd, qd, rfl, hdcell⟩ := hds (by omega)
    have hdk := (hdcell k (by omega)).1
    have hnx : decide (x ∈ D.take (k + 1)) = (f || decide (D.getD k (0, 0) = x)) := by
      rw [hf, take_snoc D k (0, 0) (by omega), Bool.eq_iff_iff]
      simp only [List.mem_append, List.mem_singleton, decide_eq_true_eq, Bool.or_eq_true]
      exact or_congr Iff.rfl ⟨Eq.symm, Eq.symm⟩
    cases f with
    | true =>
      refine c_skip ?_
      refine f_then ?_
      refine c_seq ?_
      refine c_block ?_
      refine c_quiet Try.mixed (by kernel_rfl) K.drew ?_
      refine q_y (y_move rfl) rfl rfl rfl ?_
      refine q_y (y_move rfl) rfl rfl rfl ?_
      iterate 9 refine q_skip rfl rfl rfl ?_
      refine q_y (y_pickT rfl rfl) rfl rfl rfl ?_
      refine q_y (y_assign rfl) rfl rfl rfl ?_
      refine q_nil ?_
      refine f_blockN ?_
      refine f_then ?_
      refine c_region ?_
      refine s_y (y_move rfl) rfl rfl rfl ?_
      refine s_y (y_add rfl rfl (by omega)) rfl rfl rfl ?_
      refine s_y (y_assign rfl) rfl rfl rfl ?_
      refine s_nil ?_
      exact f_roundP (k + 1, true) ⟨by show k + 1 ≤ _; omega, by rw [hnx]; rfl⟩ (by show D.length - (k + 1) < D.length - k; omega) ⟨rfl, rfl, rfl, rfl, rfl, trivial⟩ (fun w h => h)
    | false =>
      have hp : decide ((D.getD k (0, 0)).1 = x.1 ∧ (D.getD k (0, 0)).2 = x.2) = decide (D.getD k (0, 0) = x) := decide_eq_decide.2 Prod.ext_iff.symm
      refine c_skip ?_
      refine f_then ?_
      refine c_seq ?_
      refine c_block ?_
      refine c_quiet Try.mixed (by kernel_rfl) K.drew ?_
      refine q_y (y_move rfl) rfl rfl rfl ?_
      refine q_y (y_move rfl) rfl rfl rfl ?_
      refine q_y (y_move rfl) rfl rfl rfl ?_
      refine q_y (y_move rfl) rfl rfl rfl ?_
      refine q_y (y_indexAddr (s := 2) Try.tab rfl rfl rfl rfl _ rfl (by omega)) rfl rfl rfl ?_
      refine q_y (y_loadA Try.tab rfl rfl rfl rfl hdk) rfl rfl rfl ?_
      refine q_y (y_move rfl) rfl rfl rfl ?_
      refine q_y (y_move rfl) rfl rfl rfl ?_
      refine q_y (y_indexAddr (s := 2) Try.tab rfl rfl rfl rfl _ rfl (by omega)) rfl rfl rfl ?_
      refine q_y (y_loadA Try.tab rfl rfl rfl rfl hci) rfl rfl rfl ?_
      refine q_y (y_eqlCell rfl rfl) rfl rfl rfl ?_
      refine q_y (y_pickF rfl rfl) rfl rfl rfl ?_
      refine q_y (y_assign rfl) rfl rfl rfl ?_
      refine q_nil ?_
      refine f_blockN ?_
      refine f_then ?_
      refine c_region ?_
      refine s_y (y_move rfl) rfl rfl rfl ?_
      refine s_y (y_add rfl rfl (by omega)) rfl rfl rfl ?_
      refine s_y (y_assign rfl) rfl rfl rfl ?_
      refine s_nil ?_
      exact f_roundP (k + 1, decide ((D.getD k (0, 0)).1 = x.1 ∧ (D.getD k (0, 0)).2 = x.2)) ⟨by show k + 1 ≤ _; omega, by rw [hnx, hp]; rfl⟩ (by show D.length - (k + 1) < D.length - k; omega) ⟨rfl, rfl, rfl, rfl, rfl, trivial⟩ (fun w h => h)
  have hke : k = D.length := by omega
  rw [hke, List.take_length] at hf
  cases f with
  | true =>
    have hm : x ∈ D := by simpa using hf.symm
    rw [if_pos hm] at hnext
    refine c_exit ?_
    refine f_thenE ?_
    refine f_rndE ?_
    refine f_blockE ?_
    refine f_then ?_
    refine c_seq ?_
    refine c_region ?_
    refine s_y (y_move rfl) rfl rfl rfl ?_
    refine s_y (y_notT rfl) rfl rfl rfl ?_
    refine s_nil ?_
    refine f_then ?_
    refine c_condF rfl ?_
    refine c_skip ?_
    refine f_blockN ?_
    refine f_then ?_
    refine c_region ?_
    refine s_y (y_move rfl) rfl rfl rfl ?_
    refine s_y (y_add rfl rfl (by omega)) rfl rfl rfl ?_
    refine s_y (y_assign rfl) rfl rfl rfl ?_
    refine s_nil ?_
    exact f_roundP (i + 1, o) ⟨by show i + 1 ≤ _; omega, by rw [hnext]; exact ho⟩ (by show cs.length - (i + 1) < cs.length - i; omega) ⟨rfl, by show some (Value.slice pd D.length cd) = some (ov o (onces (cs.take (i + 1))).length); rw [hnext]; exact congrArg some hvd.symm, rfl, trivial⟩ (fun w h => by rw [hnext]; exact h)
  | false =>
    have hm : x ∉ D := by simpa using hf.symm
    rw [if_neg hm] at hnext
    rw [← hvd]
    refine c_exit ?_
    refine f_thenE ?_
    refine f_rndE ?_
    refine f_blockE ?_
    refine f_then ?_
    refine c_seq ?_
    refine c_region ?_
    refine s_y (y_move rfl) rfl rfl rfl ?_
    refine s_y (y_notF rfl) rfl rfl rfl ?_
    refine s_nil ?_
    refine f_then ?_
    refine c_condT rfl ?_
    refine c_region ?_
    refine s_y (y_move rfl) rfl rfl rfl ?_
    refine s_y (y_move rfl) rfl rfl rfl ?_
    refine s_y (y_move rfl) rfl rfl rfl ?_
    refine s_y (y_indexAddr (s := 2) Try.tab rfl rfl rfl rfl _ rfl (by omega)) rfl rfl rfl ?_
    refine s_y (y_loadA Try.tab rfl rfl rfl rfl hci) rfl rfl rfl ?_
    refine s_do (do_buildSliceS Try.tab ⟨rfl, rfl, rfl, rfl⟩ rfl rfl rfl rfl) rfl rfl rfl (fun b38 => ?_)
    refine s_do (do_appendO Try.tab 1 (s := 2) (by_ := 16) (k := 1) (news := [.int .i64 x.1, .int .i64 x.2]) (xs := cvals D) (o := o) rfl rfl ⟨rfl, rfl, rfl, rfl⟩ rfl rfl (by simp) ho (cells_row0 0 rfl rfl) rfl (by simp [Value.oneCell']) (by omega) (by unfold maxLen; omega) (by omega)) rfl rfl rfl (fun o2 => ?_)
    refine s_y (y_assign rfl) rfl rfl rfl ?_
    refine s_nil ?_
    refine f_blockN ?_
    refine f_then ?_
    refine c_region ?_
    refine s_y (y_move rfl) rfl rfl rfl ?_
    refine s_y (y_add rfl rfl (by omega)) rfl rfl rfl ?_
    refine s_y (y_assign rfl) rfl rfl rfl ?_
    refine s_nil ?_
    have hvs : cvals D ++ [.int .i64 x.1, .int .i64 x.2] = cvals (D ++ [x]) := by rw [cvals_snoc]
    have hl2 : D.length + 1 = (D ++ [x]).length := by simp
    exact f_roundP (i + 1, some o2.1) ⟨by show i + 1 ≤ _; omega, by show owfO 2 (some o2.1) (onces (cs.take (i + 1))).length _; rw [hnext, ← hvs, ← hl2]; exact o2.2⟩ (by show cs.length - (i + 1) < cs.length - i; omega) ⟨rfl, by show some (osl o2.1 (D.length + 1)) = some (ov (some o2.1) (onces (cs.take (i + 1))).length); rw [hnext, ← hl2]; rfl, rfl, trivial⟩ (fun w h => by show K W (oc 37 (some o2.1) (cvals (onces (cs.take (i + 1)))) :: Ls) w; rw [hnext, ← hvs]; exact h.tail)
set_option maxHeartbeats 8000000 in
theorem up_spec (W : World) (Ls : List Chunk) (a b : Int) (ha : 0 ≤ a ∧ a ≤ 1000000000) (hb : 1 ≤ b ∧ b ≤ 1000000) : Spec Try.prog 64 #[.int .i64 a, .int .i64 b] (K W Ls) (fun _ : Unit => .int .i64 ((a + b - 1) / b)) (fun _ => K W Ls) := by
  refine enter (args := [_, _]) Try.func64 rfl Try.ntmps64 rfl ?_
  refine c_seq ?_
  refine c_region ?_
  refine s_y (y_assign rfl) rfl rfl rfl ?_
  refine s_nil ?_
  refine f_then ?_
  refine c_seq ?_
  refine c_region ?_
  refine s_y (y_move rfl) rfl rfl rfl ?_
  refine s_y (y_move rfl) rfl rfl rfl ?_
  refine s_y (y_add rfl rfl (by omega)) rfl rfl rfl ?_
  refine s_y (y_sub rfl rfl (by omega)) rfl rfl rfl ?_
  refine s_y (y_move rfl) rfl rfl rfl ?_
  refine s_y (y_quo rfl rfl (by omega)) rfl rfl rfl ?_
  refine s_y (y_assign rfl) rfl rfl rfl ?_
  refine s_nil ?_
  refine f_then ?_
  refine c_ret ?_
  exact f_ret () (res1 rfl rfl) (fun w h => h)
/-- The bundle of a cell. -/
def bunC (l : Lay) (s : Int) (x : Int × Int) : Int := bunOfF l s (np l) (noteF l s (np l) x.1 x.2)
def notC (l : Lay) (s : Int) (x : Int × Int) : Int := noteF l s (np l) x.1 x.2
theorem bunC_of {l : Lay} {s : Int} {x : Int × Int} (h : Gd l s) (hc : CellIn l s x.1 x.2) :
    bunC l s x = rF l x.1 / l.m * l.r * l.c * ((l.m + l.b - 1) / l.b) + x.2 * ((rD l s (rF l x.1) + l.b - 1) / l.b) + (if l.d then rD l s (rF l x.1) - 1 - (x.1 - rF l x.1) else x.1 - rF l x.1) / l.b := by
  have hm := h.1.m
  have hr := inReam_of (l := l) (s := s) (sh := x.1) hm.1 hc.1
  obtain ⟨ef, h5, h6, h7, _⟩ := pl_ream (p := np l) hr hc.2
  have hn := noteF_pl (p := np l) (pos := x.2) hr
  unfold bunC bunOfF rbun
  rw [hn, ef, h5, h6, h7]
  unfold perR np
  rw [Int.mul_assoc (rF l x.1 / l.m), Int.mul_assoc, Int.mul_assoc, Int.mul_assoc, Int.add_assoc]
end Go.KL
end
