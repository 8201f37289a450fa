/- The library of the proof, part 6: a program logic over the model, walks of functions, plain laws. -/
import Derived.Lib.Builder
import Derived.Lib.UnsafeStr
import Derived.Lib.Strings
import Derived.Laws.Concat
import Derived.Laws.Strings
import Derived.ChangeSame
import Derived.WideKeyArgs
import Derived.RowKit
import Derived.OpenShut
import Derived.Deep.OwnRows
import Derived.SizedLaws
import Derived.Test.YtdknafhaphadiaaRows
import Derived.JoinedOf
import Derived.Laws.BytesString
import Derived.Test.YtdknafhaphadiaaL5
section
/- Strings, bytes, rows that grow from nil, and the operations of strings.Builder. No program in sight. -/
namespace Go.KL
/-- A string with these bytes. -/
def strV (l : List Nat) : Value := .string ⟨(l.map UInt8.ofNat).toArray⟩
theorem strV_app (a b : List Nat) : (⟨(a.map UInt8.ofNat).toArray⟩ : ByteArray) ++ ⟨(b.map UInt8.ofNat).toArray⟩ = ⟨((a ++ b).map UInt8.ofNat).toArray⟩ := by
  apply ByteArray.ext
  simp
theorem strV_inj {a b : List Nat} (ha : ∀ x ∈ a, x < 256) (hb : ∀ x ∈ b, x < 256) : (a.map UInt8.ofNat = b.map UInt8.ofNat) ↔ a = b := by
  refine ⟨fun h => ?_, fun h => by rw [h]⟩
  have h2 := congrArg (List.map UInt8.toNat) h
  rw [List.map_map, List.map_map] at h2
  have key : ∀ l : List Nat, (∀ x ∈ l, x < 256) → l.map (UInt8.toNat ∘ UInt8.ofNat) = l := by
    intro l hl
    conv => rhs; rw [← List.map_id l]
    refine List.map_congr_left fun x hx => ?_
    have := hl x hx
    simp only [Function.comp, UInt8.toNat_ofNat', id]
    omega
  rwa [key a ha, key b hb] at h2
section
variable {P : Program} {W w : World} {Ls : List Chunk} {n : Nat} {σ : Slots} {C : World → Prop} {dst : Option Tmp} {ty : TypeId} {pos : String} {after : Array Edge} {guard : Option (Nat × Bool)}
theorem y_cat {x y : Operand} {t t' : TypeId} {a b : List Nat} (hx : ev σ x = some (strV a)) (hy : ev σ y = some (strV b)) (hl : a.length + b.length ≤ 9223372036854775807) :
    Ylds P n σ C ⟨dst, .binOp .add t x y t', ty, pos, after, guard⟩ (strV (a ++ b)) := by
  intro u w hE _
  have h := run_string_add_sum (P := P) (w := w) ⟨(a.map UInt8.ofNat).toArray⟩ ⟨(b.map UInt8.ofNat).toArray⟩ (by simpa [ByteArray.size] using hl)
  rw [strV_app] at h
  simp [execOp, ev_eval hE hx, ev_eval hE hy, strV, binOp_string_add, eqGuard, h]
theorem y_neqT {x y : Operand} {t t' : TypeId} {a b : List Nat} (hx : ev σ x = some (strV a)) (hy : ev σ y = some (strV b)) (ha : ∀ x ∈ a, x < 256) (hb : ∀ x ∈ b, x < 256) :
    Ylds P n σ C ⟨dst, .binOp .neq t x y t', ty, pos, after, guard⟩ (.bool (decide (a ≠ b))) := by
  intro u w hE _
  have h : (!((⟨(a.map UInt8.ofNat).toArray⟩ : ByteArray).toList == (⟨(b.map UInt8.ofNat).toArray⟩ : ByteArray).toList)) = decide (a ≠ b) := by
    rw [Lib.toList_data, Lib.toList_data]
    have := strV_inj ha hb
    by_cases h : a = b
    · simp [h]
    · simp [h]
      rw [this]
      exact h
  simp [execOp, ev_eval hE hx, ev_eval hE hy, strV, binOp_string_neq, eqGuard]
  simpa using h
theorem y_eqlT {x y : Operand} {t t' : TypeId} {a b : List Nat} (hx : ev σ x = some (strV a)) (hy : ev σ y = some (strV b)) (ha : ∀ x ∈ a, x < 256) (hb : ∀ x ∈ b, x < 256) :
    Ylds P n σ C ⟨dst, .binOp .eql t x y t', ty, pos, after, guard⟩ (.bool (decide (a = b))) := by
  intro u w hE _
  have h : ((⟨(a.map UInt8.ofNat).toArray⟩ : ByteArray).toList == (⟨(b.map UInt8.ofNat).toArray⟩ : ByteArray).toList) = decide (a = b) := by
    rw [Lib.toList_data, Lib.toList_data]
    have := strV_inj ha hb
    by_cases h : a = b
    · simp [h]
    · simp [h]
      rw [this]
      exact h
  simp [execOp, ev_eval hE hx, ev_eval hE hy, strV, binOp_string_eql, eqGuard]
  simpa using h
def blkOf : Value → Nat
  | .slice (some a) _ _ => a.block
  | _ => 0
/-- A row that begins as nil, and grows. -/
structure Buf (e : TypeId) (s : Nat) (v : Value) (c : Chunk) (m : Nat) (xs : List Value) : Prop where
  ok : (m = 0 ∧ xs = [] ∧ v = .slice none 0 0 ∧ c = []) ∨ ∃ o : Own, v = osl o m ∧ c = och e o xs ∧ owf s o m xs ∧ o.pre = []
theorem Buf.nil {e : TypeId} {s : Nat} : Buf e s (.slice none 0 0) [] 0 [] := ⟨.inl ⟨rfl, rfl, rfl, rfl⟩⟩
theorem K.putNil {c : Chunk} {i : Nat} (hi : i < Ls.length) (h0 : Ls.getD i [] = []) (h : K W (c :: Ls) w) : K W (Ls.set i c) w := by
  refine h.weak [] ?_
  have h1 := front_perm i Ls
  have h2 := front_perm i (Ls.set i c)
  have e1 : KL.front i Ls = [] :: Ls.eraseIdx i := by rw [KL.front, h0]
  have e2 : KL.front i (Ls.set i c) = c :: Ls.eraseIdx i := by
    rw [KL.front]
    congr 1
    · rw [List.getD_eq_getElem?_getD, List.getElem?_set_self hi]; rfl
    · rw [List.eraseIdx_set_eq]
  rw [e1] at h1
  rw [e2] at h2
  rw [List.append_nil, List.flatten_cons]
  refine List.Perm.trans (List.Perm.append_left c ?_) h2.symm
  simpa using h1
/-- One more element. -/
theorem do_appendB (T : Tab P) (i : Nat) {x y : Operand} {t e : TypeId} {s by_ m k c2 : Nat} {z xs news : List Value} {v : Value} {c : Chunk} {p : Addr} (hx : ev σ x = some v) (hB : Buf e s v c m xs) (hy : ev σ y = some (.slice (some p) k c2))
    (hT : TabE T t e s by_ z) (hzs : z.length = s) (hl : i < Ls.length) (hi : Ls.getD i [] = c) (hk : 0 < k)
    (hn : CellsAre (K W Ls) p news) (hnl : news.length = k * s) (h1 : ∀ v ∈ news, v.oneCell' = true) (hmax : m + k ≤ maxLen) (hby : (m + k) * by_ ≤ 140737488355328) :
    Doos P n σ (K W Ls) ⟨dst, .call ⟨.builtin .append, #[x, y], #[t, t]⟩, ty, pos, after, guard⟩ (X := { u : Value × Chunk // Buf e s u.1 u.2 (m + k) (xs ++ news) }) (fun u => u.1.1) (fun u => K W (Ls.set i u.1.2)) := by
  rcases hB.ok with ⟨rfl, rfl, rfl, rfl⟩ | ⟨o, rfl, rfl, ho, hp⟩
  · intro a w hE hw
    obtain ⟨o', w', hr, hk'⟩ := do_append_nil (W := W) (Ls := Ls) (n := n) (dst := dst) (ty := ty) (pos := pos) (after := after) (guard := guard) T hx hy hT hzs hn hnl hk (by omega) (by rw [Nat.zero_add] at hby; exact hby) a w hE hw
    refine ⟨⟨(osl o'.1 k, och e o'.1 news), ⟨.inr ⟨o'.1, by rw [Nat.zero_add], rfl, by rw [Nat.zero_add]; exact o'.2.1, ?_⟩⟩⟩, w', hr, K.putNil hl hi hk'⟩
    exact List.eq_nil_of_length_eq_zero (Nat.le_zero.1 o'.2.2)
  · intro a w hE hw
    obtain ⟨o', w', hr, hk'⟩ := do_append (W := W) (Ls := Ls) (n := n) (dst := dst) (ty := ty) (pos := pos) (after := after) (guard := guard) T i hx hy hT hzs hi ho hn hnl h1 hmax hby a w hE hw
    refine ⟨⟨(osl o'.1 (m + k), och e o'.1 (xs ++ news)), ⟨.inr ⟨o'.1, rfl, rfl, o'.2.1, ?_⟩⟩⟩, w', hr, hk'⟩
    have := o'.2.2
    exact List.eq_nil_of_length_eq_zero (Nat.le_zero.1 (Nat.le_trans this (by rw [hp]; exact Nat.le_refl 0)))
theorem y_lenBuf (T : Tab P) {x : Operand} {t e : TypeId} {s m : Nat} {xs : List Value} {v : Value} {c : Chunk} (hx : ev σ x = some v) (hB : Buf e s v c m xs) (ht : T.und t = some (.slice e)) :
    Ylds P n σ C ⟨dst, .call ⟨.builtin .len, #[x], #[t]⟩, ty, pos, after, guard⟩ (.int .i64 m) := by
  rcases hB.ok with ⟨rfl, rfl, rfl, rfl⟩ | ⟨o, rfl, rfl, ho, hp⟩
  · exact y_len T hx ht
  · exact y_len T hx ht
/-- Freezing a row, that then is nobody's. -/
theorem K.freezeDrop {b : Nat} {e : TypeId} {l : List Value} {i m : Nat} (hi : Ls.getD i [] = [(b, row e l)]) (h : K W Ls w) : K W (Ls.set i []) (w.freeze ⟨b, 0, none⟩ m) := by
  have hlt := getD_lt hi
  have h1 := h.front i
  rw [KL.front, hi] at h1
  have h2 : K W (Ls.set i []) w := by
    have h3 := front_perm i (Ls.set i [])
    have e2 : KL.front i (Ls.set i []) = [] :: Ls.eraseIdx i := by
      rw [KL.front]
      congr 1
      · rw [List.getD_eq_getElem?_getD, List.getElem?_set_self hlt]; rfl
      · rw [List.eraseIdx_set_eq]
    rw [e2] at h3
    refine h1.tail.weak [] ?_
    rw [List.append_nil]
    exact (by simpa using h3.symm : (Ls.eraseIdx i).flatten.Perm (Ls.set i []).flatten)
  unfold World.freeze
  split
  · exact h2
  · have hb := h1.own (b, row e l) (by simp)
    have hnb : ∀ x ∈ (Ls.set i []).flatten, x.1 ≠ b := by
      intro x hx he
      have hnd := h1.nd
      have hp : (Ls.set i []).flatten.Perm (Ls.eraseIdx i).flatten := by
        have h3 := front_perm i (Ls.set i [])
        have e2 : KL.front i (Ls.set i []) = [] :: Ls.eraseIdx i := by
          rw [KL.front]
          congr 1
          · rw [List.getD_eq_getElem?_getD, List.getElem?_set_self hlt]; rfl
          · rw [List.eraseIdx_set_eq]
        rw [e2] at h3
        simpa using h3
      have hx' := hp.mem_iff.1 hx
      simp only [List.flatten_cons, List.map_cons, List.singleton_append, List.nodup_cons] at hnd
      exact hnd.1 (List.mem_map.2 ⟨x, hx', he⟩)
    refine ⟨h2.os, h2.tape, h2.output, by simpa using h2.size, fun b' hb' => ?_, fun x hx => ⟨(h2.own x hx).1, ?_⟩, h2.nd⟩
    · rw [Array.getElem?_modify, if_neg (by have := hb.1; dsimp only at this ⊢; omega)]
      exact h2.base b' hb'
    · rw [Array.getElem?_modify, if_neg (fun h => hnb x hx h.symm)]
      exact (h2.own x hx).2
/-- A function without a body, by its entry. -/
theorem y_ext {fid : FuncId} {xs : List Operand} {vs : List Value} {ats : Array TypeId} {v : Value} (hx : evs σ xs = some vs) (hf : ∀ w, (callFunc fid vs.toArray).run P w = .ok (.value v) w) :
    Ylds P n σ C ⟨dst, .call ⟨.value (.func fid), xs.toArray, ats⟩, ty, pos, after, guard⟩ v := by
  intro a w hE _
  have h1 := evs_eval hE hx
  have h2 : Array.map a.eval xs.toArray = vs.toArray := by simp [h1]
  have h3 := hf w
  simp [execOp, resolve, invoke, Deferred.ofValue, h2, h3, Act.eval]
theorem y_eqlPN (T : Tab P) {x : Operand} {t e t' : TypeId} {p : Option Addr} (hx : ev σ x = some (.pointer p)) (ht : T.und t = some (.pointer e)) :
    Ylds P n σ C ⟨dst, .binOp .eql t x (.const (.pointer none)) t', ty, pos, after, guard⟩ (.bool p.isNone) := by
  intro a w hE _
  have h : ∀ d : Nat, (Op.equalIn (d + 1) t (.pointer p) (.pointer none)).run P w = .ok p.isNone w := fun d => by
    cases p <;> simp [Op.equalIn, run_und T ht]
  have h2 : (binOp .eql t (.pointer p) (.pointer none)).run P w = .ok (.bool p.isNone) w := by
    simp only [binOp]
    simp [Op.equal, Op.maxDepth, h 9999]
  have h3 : a.eval (.const (.pointer none)) = .pointer none := rfl
  simp [execOp, ev_eval hE hx, h3, eqGuard, h2]
theorem y_neqPS (T : Tab P) {x y : Operand} {t e t' : TypeId} {p : Addr} {s : Nat} (hx : ev σ x = some (.pointer (some p))) (hy : ev σ y = some (.pointer (some p))) (ht : T.und t = some (.pointer e)) (hs : T.size e = some s) :
    Ylds P n σ C ⟨dst, .binOp .neq t x y t', ty, pos, after, guard⟩ (.bool false) := by
  intro a w hE _
  obtain ⟨j, hj, _⟩ := T.size_ok hs
  have h := Lib.run_neq_ptr_same (P := P) w p (T.und_ok ht) hj
  simp [execOp, ev_eval hE hx, ev_eval hE hy, eqGuard, h]
theorem shape_row (h : K W Ls w) {i b : Nat} {e : TypeId} {l : List Value} {c : Chunk} (hi : Ls.getD i [] = (b, row e l) :: c) : w.shape? b = some (e, l.length) := by
  have := h.at hi
  simp [World.shape?, this]
theorem y_toUnsafe (T : Tab P) (i : Nat) {x : Operand} {s t d : TypeId} {b m : Nat} {e : TypeId} {l : List Value} {c : Chunk} (hx : ev σ x = some (.pointer (some ⟨b, 0, none⟩))) (hs : T.und s = some (.pointer d)) (ht : T.und t = some .unsafePointer) (hz : T.size d = some (m + 1))
    (hi : Ls.getD i [] = (b, row e l) :: c) (hl : 0 < l.length) : Ylds P n σ (K W Ls) ⟨dst, .convert s t x, ty, pos, after, guard⟩ (.pointer (some ⟨b, 0, none⟩)) := by
  intro a w hE hw
  obtain ⟨j, hj, hj2⟩ := T.size_ok hz
  have h := Lib.run_to_unsafe (P := P) w ⟨b, 0, none⟩ (T.und_ok hs) (T.und_ok ht) hj (by omega) (shape_row hw hi) hl
  simp [execOp, ev_eval hE hx, h]
theorem y_fromUnsafe (T : Tab P) (i : Nat) {x : Operand} {s t d : TypeId} {b m : Nat} {e : TypeId} {l : List Value} {c : Chunk} (hx : ev σ x = some (.pointer (some ⟨b, 0, none⟩))) (hs : T.und s = some .unsafePointer) (ht : T.und t = some (.pointer d)) (hz : T.size d = some m)
    (hi : Ls.getD i [] = (b, row e l) :: c) (hl : liesAt P P.depth e (l.length / P.cellsOf e) 0 d 1 = true) : Ylds P n σ (K W Ls) ⟨dst, .convert s t x, ty, pos, after, guard⟩ (.pointer (some ⟨b, 0, none⟩)) := by
  intro a w hE hw
  obtain ⟨j, hj, hj2⟩ := T.size_ok hz
  have h := Lib.run_from_unsafe (P := P) w ⟨b, 0, none⟩ (T.und_ok hs) (T.und_ok ht) hj (shape_row hw hi) hl
  simp [execOp, ev_eval hE hx, h]
theorem y_to8 (T : Tab P) {x : Operand} {s t : TypeId} {k : IntKind} {z : Int} {d : TypeDesc} (hx : ev σ x = some (.int k z)) (hs : T.und s = some d) (ht : T.und t = some (.int .u8)) (hz : 0 ≤ z ∧ z < 256) :
    Ylds P n σ C ⟨dst, .convert s t x, ty, pos, after, guard⟩ (.int .u8 z) :=
  y_cvtId T hx hs ht (by rw [u8_mod]; omega)
theorem y_addU8 {x y : Operand} {t t' : TypeId} {p q : Int} (hx : ev σ x = some (.int .u8 p)) (hy : ev σ y = some (.int .u8 q)) (hb : 0 ≤ p + q ∧ p + q < 256) :
    Ylds P n σ C ⟨dst, .binOp .add t x y t', ty, pos, after, guard⟩ (.int .u8 (p + q)) := by
  have := y_addw (P := P) (n := n) (C := C) (dst := dst) (ty := ty) (pos := pos) (after := after) (guard := guard) (t := t) (t' := t') hx hy
  rwa [u8_mod, Int.emod_eq_of_lt hb.1 hb.2] at this
theorem Buf.one {e : TypeId} {s m : Nat} {xs : List Value} {v : Value} {c : Chunk} (h : Buf e s v c m xs) : v.oneCell' = true := by
  rcases h.ok with ⟨_, _, rfl, _⟩ | ⟨o, rfl, _⟩ <;> rfl
/-- Bytes as cells. -/
def bys (l : List Nat) : List Value := l.map fun (b : Nat) => Value.int .u8 (b : Int)
theorem bys_app (a b : List Nat) : bys (a ++ b) = bys a ++ bys b := by simp [bys]
theorem bys_len (l : List Nat) : (bys l).length = l.length := by simp [bys]
theorem y_sliceData {x : Operand} {t e : TypeId} {s m : Nat} {xs : List Value} {v : Value} {c : Chunk} (hx : ev σ x = some v) (hB : Buf e s v c m xs) (hm : 0 < m) :
    Ylds P n σ C ⟨dst, .call ⟨.builtin .unsafeSliceData, #[x], #[t]⟩, ty, pos, after, guard⟩ (.pointer (some ⟨blkOf v, 0, none⟩)) := by
  intro a w hE _
  rcases hB.ok with ⟨rfl, rfl, rfl, rfl⟩ | ⟨o, rfl, rfl, ho, hp⟩
  · omega
  · have h : (Builtin.unsafeSliceData_ #[t] ty #[osl o m]).run P w = .ok (.pointer (some ⟨o.b, 0, none⟩)) w := by
      have h0 := Lib.run_unsafeSliceData_row (P := P) w #[t] ty ⟨o.b, o.pre.length, none⟩ m o.cap (by have := ho.le; omega)
      have e : o.pre.length = 0 := by rw [hp]; rfl
      show (Builtin.unsafeSliceData_ #[t] ty #[.slice (some ⟨o.b, o.pre.length, none⟩) m o.cap]).run P w = _
      rw [e] at h0 ⊢
      exact h0
    simp [execOp, resolve, invoke, builtin, ev_eval hE hx, h, blkOf]
theorem cellsOf_one (T : Tab P) {e : TypeId} (hs : T.size e = some 1) : P.cellsOf e = 1 := by
  obtain ⟨j, hj, hj2⟩ := T.size_ok hs
  simp [Program.cellsOf, hj, hj2]
theorem do_unsafeString (T : Tab P) (i : Nat) {x y : Operand} {pt it e : TypeId} {l : List Nat} {v : Value} {c : Chunk} (hx : ev σ x = some (.pointer (some ⟨blkOf v, 0, none⟩))) (hy : ev σ y = some (.int .i64 (l.length : Nat))) (hB : Buf e 1 v c l.length (bys l))
    (hp : T.und pt = some (.pointer e)) (hs : T.size e = some 1) (hb : ∀ x ∈ l, x < 256) (hl : 0 < l.length) (hi : Ls.getD i [] = c) :
    Doos P n σ (K W Ls) ⟨dst, .call ⟨.builtin .unsafeString, #[x, y], #[pt, it]⟩, ty, pos, after, guard⟩ (X := Unit) (fun _ => strV l) (fun _ => K W (Ls.set i [])) := by
  intro a w hE hw
  rcases hB.ok with ⟨h0, _⟩ | ⟨o, rfl, rfl, ho, hpre⟩
  · omega
  · have hi2 : Ls.getD i [] = [(o.b, row e (bys l ++ o.rest))] := by rw [hi, och, hpre]; rfl
    refine ⟨(), w.freeze ⟨o.b, 0, none⟩ l.length, ?_, K.freezeDrop hi2 hw⟩
    have hlen : (l.map UInt8.ofNat).length = l.length := by simp
    have hmx := ho.max
    have hle := ho.le
    have h := Lib.run_unsafeString_row (P := P) w pt it ty e (T.und_ok hp) (cellsOf_one T hs) o.b (bys l ++ o.rest).length (shape_row hw hi2) (l.map UInt8.ofNat) (by intro h; rw [h] at hlen; simp at hlen; omega) (by rw [List.length_append, bys_len]; omega) (by rw [hlen]; unfold maxLen at hmx; omega)
      (fun j x hj => by
        rw [List.getElem?_map] at hj
        obtain ⟨b, h1, h2⟩ := Option.map_eq_some_iff.1 hj
        have h3 := hb b (List.mem_of_getElem? h1)
        subst h2
        have hjl : j < l.length := by
          rcases Nat.lt_or_ge j l.length with h | h
          · exact h
          · rw [List.getElem?_eq_none h] at h1; cases h1
        rw [addr_add, Nat.zero_add]
        refine (cell_row i hi2 (v := .int .u8 (b : Int)) ?_ w hw).trans ?_
        · rw [List.getElem?_append_left (by rw [bys_len]; exact hjl), bys, List.getElem?_map, h1]
          rfl
        · congr 2
          rw [UInt8.toNat_ofNat']
          congr 1
          omega)
    rw [hlen] at h
    simp [execOp, resolve, invoke, builtin, ev_eval hE hx, ev_eval hE hy, blkOf, h, strV]
end
end Go.KL
end

section
/- Decimal numerals, plain. No program in sight. -/
namespace Go.KL
def decF : Nat → Nat → List Nat
  | 0, _ => []
  | f + 1, n => if n = 0 then [] else n % 10 :: decF f (n / 10)
/-- The decimal digits, the lowest first. -/
def dec (n : Nat) : List Nat := decF n n
theorem decF_eq : ∀ {f f' n : Nat}, n ≤ f → n ≤ f' → decF f n = decF f' n
  | 0, 0, _, _, _ => rfl
  | 0, f' + 1, n, h, _ => by
    obtain rfl : n = 0 := by omega
    rfl
  | f + 1, 0, n, _, h => by
    obtain rfl : n = 0 := by omega
    rfl
  | f + 1, f' + 1, n, h, h' => by
    rw [decF, decF]
    by_cases h0 : n = 0
    · rw [if_pos h0, if_pos h0]
    · rw [if_neg h0, if_neg h0, decF_eq (f := f) (f' := f') (by omega) (by omega)]
theorem dec_zero : dec 0 = [] := rfl
theorem dec_pos {n : Nat} (h : n ≠ 0) : dec n = n % 10 :: dec (n / 10) := by
  unfold dec
  obtain ⟨m, rfl⟩ : ∃ m, n = m + 1 := ⟨n - 1, by omega⟩
  rw [decF, if_neg h]
  congr 1
  exact decF_eq (by omega) (Nat.le_refl _)
/-- The numeral's bytes, without a first zero (none at 0). -/
def num0 (n : Nat) : List Nat := (dec n).reverse.map (fun d => 48 + d)
/-- The numeral's bytes. -/
def numL (n : Nat) : List Nat := if n = 0 then [48] else num0 n
theorem num0_step {n : Nat} (h : n ≠ 0) : num0 n = num0 (n / 10) ++ [48 + n % 10] := by
  unfold num0
  rw [dec_pos h, List.reverse_cons, List.map_append]
  rfl
theorem num0_zero : num0 0 = [] := rfl
theorem num0_ne {n : Nat} (h : n ≠ 0) : num0 n ≠ [] := by
  rw [num0_step h]
  simp
theorem num0_len0 {n : Nat} : (num0 n).length = 0 ↔ n = 0 := by
  refine ⟨fun h => ?_, fun h => by rw [h]; rfl⟩
  apply Classical.byContradiction
  intro h0
  rw [num0_step h0, List.length_append] at h
  simp at h
theorem decF_lt : ∀ {f n : Nat}, ∀ x ∈ decF f n, x < 10
  | 0, _, _, h => by cases h
  | f + 1, n, x, h => by
    rw [decF] at h
    split at h
    · cases h
    · rcases List.mem_cons.1 h with h | h
      · omega
      · exact decF_lt x h
theorem num0_lt {n : Nat} : ∀ x ∈ num0 n, x < 256 := by
  intro x h
  obtain ⟨d, h1, rfl⟩ := List.mem_map.1 h
  have := decF_lt d (List.mem_reverse.1 h1)
  omega
theorem numL_lt {n : Nat} : ∀ x ∈ numL n, x < 256 := by
  intro x h
  unfold numL at h
  split at h
  · simp at h; omega
  · exact num0_lt x h
/-- From the numeral, the number. -/
def ofDec : List Nat → Nat
  | [] => 0
  | d :: l => d + 10 * ofDec l
theorem ofDec_decF : ∀ {f n : Nat}, n ≤ f → ofDec (decF f n) = n
  | 0, n, h => by
    obtain rfl : n = 0 := by omega
    rfl
  | f + 1, n, h => by
    rw [decF]
    split
    · rename_i h0
      rw [h0]
      rfl
    · rw [ofDec, ofDec_decF (by omega)]
      omega
theorem dec_inj {m n : Nat} (h : dec m = dec n) : m = n := by
  rw [← ofDec_decF (Nat.le_refl m), ← ofDec_decF (Nat.le_refl n)]
  exact congrArg ofDec h
theorem num0_inj {m n : Nat} (h : num0 m = num0 n) : m = n := by
  unfold num0 at h
  have h2 : ∀ l l' : List Nat, l.map (fun d => 48 + d) = l'.map (fun d => 48 + d) → l = l' := by
    intro l
    induction l with
    | nil =>
      intro l' h
      cases l' with
      | nil => rfl
      | cons a l' => simp at h
    | cons a l ih =>
      intro l' h
      cases l' with
      | nil => simp at h
      | cons b l' =>
        simp only [List.map_cons, List.cons.injEq] at h
        rw [ih l' h.2, show a = b by omega]
  exact dec_inj (List.reverse_inj.1 (h2 _ _ h))
theorem num0_48 {n : Nat} : num0 n ≠ [48] := by
  intro h
  by_cases h0 : n = 0
  · rw [h0] at h
    cases h
  · rw [num0_step h0] at h
    by_cases h1 : n / 10 = 0
    · rw [h1, num0_zero] at h
      simp at h
      omega
    · have h2 := congrArg List.length h
      rw [List.length_append] at h2
      have h3 := mt num0_len0.1 h1
      have h4 : ([48 + n % 10] : List Nat).length = 1 := rfl
      have h5 : ([48] : List Nat).length = 1 := rfl
      omega
theorem numL_inj {m n : Nat} (h : numL m = numL n) : m = n := by
  unfold numL at h
  by_cases hm : m = 0 <;> by_cases hn : n = 0
  · omega
  · rw [if_pos hm, if_neg hn] at h
    exact absurd h.symm num0_48
  · rw [if_neg hm, if_pos hn] at h
    exact absurd h num0_48
  · rw [if_neg hm, if_neg hn] at h
    exact num0_inj h
theorem decF_len : ∀ {f n k : Nat}, n < 10 ^ k → (decF f n).length ≤ k
  | 0, _, _, _ => Nat.zero_le _
  | f + 1, n, 0, h => by
    obtain rfl : n = 0 := by simp at h; exact h
    rw [decF, if_pos rfl]
    exact Nat.le_refl _
  | f + 1, n, k + 1, h => by
    rw [decF]
    split
    · exact Nat.zero_le _
    · rw [List.length_cons]
      refine Nat.succ_le_succ (decF_len ?_)
      rw [Nat.pow_succ] at h
      omega
theorem numL_len {n k : Nat} (h : n < 10 ^ k) : (numL n).length ≤ k + 1 := by
  unfold numL
  split
  · simp
  · unfold num0
    rw [List.length_map, List.length_reverse]
    exact Nat.le_trans (decF_len h) (Nat.le_succ k)
end Go.KL
end

section
/- Walks: strings.Builder. -/
namespace Go.KL
open Go.Proofs
attribute [local irreducible] SC St Fin Sq Ylds Doos Sets Enters Spec CellIs CellsAre Then Ret Rnd Chn resOK ints bools recs arr
theorem blen_spec {W : World} {Ls : List Chunk} {b : Nat} {p v : Value} {c : Chunk} {m : Nat} {xs : List Value} (hB : Buf 5 1 v c m xs) :
    Spec Try.prog 106 #[.pointer (some ⟨b, 0, none⟩)] (K W ([(b, row 132 [p, v])] :: Ls)) (fun _ : Unit => .int .i64 (m : Nat)) (fun _ => K W ([(b, row 132 [p, v])] :: Ls)) := by
  refine enter (args := [_]) Try.func106 rfl Try.ntmps106 rfl ?_
  refine c_seq ?_
  refine c_region ?_
  refine s_y (y_assign rfl) rfl rfl rfl ?_
  refine s_nil ?_
  refine f_then ?_
  refine c_seq ?_
  refine c_region ?_
  refine s_y (y_move rfl) rfl rfl rfl ?_
  refine s_y (y_nilP rfl) rfl rfl rfl ?_
  refine s_y (y_fieldAddrB Try.tab 1 rfl rfl rfl rfl rfl) rfl rfl rfl ?_
  refine s_y (y_load Try.tab rfl rfl (cell_row 0 rfl rfl)) rfl rfl rfl ?_
  refine s_y (y_lenBuf Try.tab rfl hB rfl) rfl rfl rfl ?_
  refine s_y (y_assign rfl) rfl rfl rfl ?_
  refine s_nil ?_
  refine f_then ?_
  refine c_ret ?_
  exact f_ret () (res1 rfl rfl) (fun w h => h)
theorem copyCheck_spec {W : World} {Ls : List Chunk} {b : Nat} {p : Option Addr} {v : Value} (hp : p = none ∨ p = some ⟨b, 0, none⟩) :
    Spec Try.prog 128 #[.pointer (some ⟨b, 0, none⟩)] (K W ([(b, row 132 [.pointer p, v])] :: Ls)) (fun _ : Unit => .tuple #[]) (fun _ => K W ([(b, row 132 [.pointer (some ⟨b, 0, none⟩), v])] :: Ls)) := by
  refine enter (args := [_]) Try.func128 rfl Try.ntmps128 rfl ?_
  refine c_seq ?_
  refine c_region ?_
  refine s_y (y_move rfl) rfl rfl rfl ?_
  refine s_y (y_nilP rfl) rfl rfl rfl ?_
  refine s_y (y_fieldAddr0 Try.tab rfl rfl rfl rfl rfl) rfl rfl rfl ?_
  refine s_y (y_load Try.tab rfl rfl (cell_row 0 rfl rfl)) rfl rfl rfl ?_
  refine s_y (y_eqlPN Try.tab rfl rfl) rfl rfl rfl ?_
  rcases hp with rfl | rfl
  · refine s_nil ?_
    refine f_then ?_
    refine c_condT rfl ?_
    refine c_region ?_
    refine s_y (y_move rfl) rfl rfl rfl ?_
    refine s_y (y_move rfl) rfl rfl rfl ?_
    refine s_y (y_toUnsafe Try.tab 0 rfl rfl rfl rfl rfl (Nat.zero_lt_succ 1)) rfl rfl rfl ?_
    have hx : ∀ w, (callFunc 148 #[.pointer (some ⟨b, 0, none⟩)]).run Try.prog w = .ok (.value (.pointer (some ⟨b, 0, none⟩))) w := fun w => by
      rw [run_callFunc_extern Try.func148 (by kernel_rfl) (by kernel_rfl) (by kernel_rfl) (e := Extern.AbiNoEscape.same) (by kernel_rfl), Lib.run_noEscape]
      rfl
    refine s_y (y_ext rfl hx) rfl rfl rfl ?_
    refine s_y (y_fromUnsafe Try.tab 0 rfl rfl rfl rfl rfl (by kernel_rfl)) rfl rfl rfl ?_
    refine s_y (y_nilP rfl) rfl rfl rfl ?_
    refine s_y (y_fieldAddr0 Try.tab rfl rfl rfl rfl rfl) rfl rfl rfl ?_
    refine s_set (set_rowB Try.tab 0 rfl rfl rfl rfl rfl rfl) rfl rfl ?_
    refine s_nil ?_
    exact f_end () (res0 rfl) (fun w h => h)
  · refine s_nil ?_
    refine f_then ?_
    refine c_condF rfl ?_
    refine c_seq ?_
    refine c_region ?_
    refine s_y (y_move rfl) rfl rfl rfl ?_
    refine s_y (y_nilP rfl) rfl rfl rfl ?_
    refine s_y (y_fieldAddr0 Try.tab rfl rfl rfl rfl rfl) rfl rfl rfl ?_
    refine s_y (y_load Try.tab rfl rfl (cell_row 0 rfl rfl)) rfl rfl rfl ?_
    refine s_y (y_move rfl) rfl rfl rfl ?_
    refine s_y (y_neqPS Try.tab rfl rfl rfl rfl) rfl rfl rfl ?_
    refine s_nil ?_
    refine f_then ?_
    refine c_condF rfl ?_
    refine c_skip ?_
    exact f_end () (res0 rfl) (fun w h => h)
theorem writeByte_spec {W : World} {Ls : List Chunk} {b : Nat} {p : Option Addr} {v : Value} {c : Chunk} {l : List Nat} {d : Nat} (hp : p = none ∨ p = some ⟨b, 0, none⟩) (hB : Buf 5 1 v c l.length (bys l)) (hm : l.length + 1 ≤ 1000000) :
    Spec Try.prog 107 #[.pointer (some ⟨b, 0, none⟩), .int .u8 (d : Int)] (K W ([(b, row 132 [.pointer p, v])] :: c :: Ls)) (X := { u : Value × Chunk // Buf 5 1 u.1 u.2 (l ++ [d]).length (bys (l ++ [d])) }) (fun _ => .nilIface) (fun u => K W ([(b, row 132 [.pointer (some ⟨b, 0, none⟩), u.1.1])] :: u.1.2 :: Ls)) := by
  refine enter (args := [_, _]) Try.func107 rfl Try.ntmps107 rfl ?_
  refine c_seq ?_
  refine c_region ?_
  refine s_y (y_assign rfl) rfl rfl rfl ?_
  refine s_nil ?_
  refine f_then ?_
  refine c_seq ?_
  refine c_region ?_
  refine s_y (y_move rfl) rfl rfl rfl ?_
  refine s_call (en_f rfl Try.call128) (copyCheck_spec hp) rfl rfl rfl (fun _ => ?_)
  refine s_nil ?_
  refine f_then ?_
  refine c_seq ?_
  refine c_region ?_
  refine s_y (y_move rfl) rfl rfl rfl ?_
  refine s_y (y_move rfl) rfl rfl rfl ?_
  refine s_y (y_nilP rfl) rfl rfl rfl ?_
  refine s_y (y_fieldAddrB Try.tab 1 rfl rfl rfl rfl rfl) rfl rfl rfl ?_
  refine s_y (y_load Try.tab rfl rfl (cell_row 0 rfl rfl)) rfl rfl rfl ?_
  refine s_y (y_move rfl) rfl rfl rfl ?_
  refine s_do (do_buildSlice1 Try.tab ⟨rfl, rfl, rfl, rfl⟩ rfl rfl rfl rfl) rfl rfl rfl (fun b13 => ?_)
  refine s_do (do_appendB (by_ := 1) Try.tab 2 rfl hB rfl ⟨rfl, rfl, rfl, rfl⟩ rfl (by simp) rfl (by omega) (cells_row0 0 rfl rfl) rfl (by simp [Value.oneCell']) (by unfold maxLen; omega) (by omega)) rfl rfl rfl (fun u => ?_)
  refine s_y (y_nilP rfl) rfl rfl rfl ?_
  refine s_y (y_fieldAddrB Try.tab 1 rfl rfl rfl rfl rfl) rfl rfl rfl ?_
  refine s_set (set_row Try.tab 1 rfl rfl u.2.one rfl rfl (Nat.one_lt_succ_succ 0)) rfl rfl ?_
  refine s_nil ?_
  refine f_then ?_
  refine c_seq ?_
  refine c_region ?_
  refine s_y (y_assign rfl) rfl rfl rfl ?_
  refine s_nil ?_
  refine f_then ?_
  refine c_ret ?_
  have hu : Buf 5 1 u.1.1 u.1.2 (l ++ [d]).length (bys (l ++ [d])) := by
    rw [List.length_append, bys_app]
    exact u.2
  exact f_ret ⟨u.1, hu⟩ (res1 rfl rfl) (fun w h => h.tail)
set_option maxRecDepth 10000 in
theorem bstring_spec {W : World} {N : List Chunk} {b : Nat} {p : Value} {v : Value} {c : Chunk} {l : List Nat} (hB : Buf 5 1 v c l.length (bys l)) (hl : ∀ x ∈ l, x < 256) (hl0 : 0 < l.length) :
    Spec Try.prog 108 #[.pointer (some ⟨b, 0, none⟩)] (K W ([(b, row 132 [p, v])] :: c :: N)) (fun _ : Unit => strV l) (fun _ => K W N) := by
  refine enter (args := [_]) Try.func108 rfl Try.ntmps108 rfl ?_
  refine c_seq ?_
  refine c_region ?_
  refine s_y (y_assign rfl) rfl rfl rfl ?_
  refine s_nil ?_
  refine f_then ?_
  refine c_seq ?_
  refine SC.cls (C' := K W (c :: [(b, row 132 [p, v])] :: N)) ?_ (fun w h => h.front 1)
  refine c_drawn [(0, .pointer (some ⟨b, 0, none⟩))] [[], [(0, 3)], [(1, 4)], [(2, 5)], [(3, 6)], [], [(5, 8)], [(6, 9)], [(7, 10)], [(8, 11)], [(4, 7), (9, 12), (3, 6), (8, 11)], [(10, 13)]] [(11, 2)] (fun s => [bxO (s 10) c, [(b, row 132 [p, v])]])
    [fun _ v _ => .pointer (some ⟨b, 0, none⟩) = v, fun _ v _ => .pointer (some ⟨b, 0, none⟩) = v, fun _ v _ => .pointer (some ⟨b, 1, none⟩) = v, fun _ u _ => v = u, fun _ u _ => Value.pointer (some ⟨blkOf v, 0, none⟩) = u, fun _ v _ => .pointer (some ⟨b, 0, none⟩) = v, fun _ v _ => .pointer (some ⟨b, 0, none⟩) = v, fun _ v _ => .pointer (some ⟨b, 1, none⟩) = v, fun _ u _ => v = u, fun _ u _ => Value.int .i64 (l.length : Nat) = u, fun _ u c => strV l = u ∧ c = [], fun _ u _ => strV l = u]
    N (fun N' => ∃ M, N' = M ++ N) ⟨[], rfl⟩ (fun M N' ⟨M2, e⟩ => ⟨M ++ M2, by rw [e, List.append_assoc]⟩) Try.mixed (by kernel_rfl) rfl ⟨rfl, trivial⟩ (fun w h => h)
    ⟨fun _ _ _ _ h => h, fun _ _ _ _ h => h, fun _ _ _ _ h => h, fun _ _ _ _ h => h, fun _ _ _ _ h => h, fun _ _ _ _ h => h, fun _ _ _ _ h => h, fun _ _ _ _ h => h, fun _ _ _ _ h => h, fun _ _ _ _ h => h, fun _ _ _ _ h => h, fun _ _ _ _ h => h, trivial⟩
    ⟨?_, ?_, ?_, ?_, ?_, ?_, ?_, ?_, ?_, ?_, ?_, ?_, trivial⟩ ?_
  · intro s N' gN h0 hn0
    show Acts _ _ _ (K W (bxO (s 10) c :: [(b, row 132 [p, v])] :: N')) _ _
    exact a_y (y_move rfl) fun w h => ⟨[], [], h, rfl⟩
  · rintro s N' gN h0 hn0 v0 d0 e0 rfl
    show Acts _ _ _ (K W (bxO (s 10) c :: [(b, row 132 [p, v])] :: N')) _ _
    exact a_y (y_nilP rfl) fun w h => ⟨[], [], h, rfl⟩
  · rintro s N' gN h0 hn0 v1 d1 e1 rfl
    show Acts _ _ _ (K W (bxO (s 10) c :: [(b, row 132 [p, v])] :: N')) _ _
    exact a_y (y_fieldAddrB Try.tab 1 rfl rfl rfl rfl rfl) fun w h => ⟨[], [], h, rfl⟩
  · rintro s N' gN h0 hn0 v2 d2 e2 rfl
    show Acts _ _ _ (K W (bxO (s 10) c :: [(b, row 132 [p, v])] :: N')) _ _
    have hz : s 10 = none := hn0 10 rfl
    rw [hz]
    show Acts _ _ _ (K W (c :: [(b, row 132 [p, v])] :: N')) _ _
    exact a_y (y_load Try.tab rfl rfl (cell_row 1 rfl rfl)) fun w h => ⟨[], [], (by show K W (bxO (s 10) c :: [(b, row 132 [p, v])] :: N') w; rw [hz]; exact h), rfl⟩
  · rintro s N' gN h0 hn0 v3 d3 e3 rfl
    show Acts _ _ _ (K W (bxO (s 10) c :: [(b, row 132 [p, v])] :: N')) _ _
    have hz : s 10 = none := hn0 10 rfl
    rw [hz]
    show Acts _ _ _ (K W (c :: [(b, row 132 [p, v])] :: N')) _ _
    exact a_y (y_sliceData rfl hB hl0) fun w h => ⟨[], [], (by show K W (bxO (s 10) c :: [(b, row 132 [p, v])] :: N') w; rw [hz]; exact h), rfl⟩
  · intro s N' gN h0 hn0
    show Acts _ _ _ (K W (bxO (s 10) c :: [(b, row 132 [p, v])] :: N')) _ _
    exact a_y (y_move rfl) fun w h => ⟨[], [], h, rfl⟩
  · rintro s N' gN h0 hn0 v5 d5 e5 rfl
    show Acts _ _ _ (K W (bxO (s 10) c :: [(b, row 132 [p, v])] :: N')) _ _
    exact a_y (y_nilP rfl) fun w h => ⟨[], [], h, rfl⟩
  · rintro s N' gN h0 hn0 v6 d6 e6 rfl
    show Acts _ _ _ (K W (bxO (s 10) c :: [(b, row 132 [p, v])] :: N')) _ _
    exact a_y (y_fieldAddrB Try.tab 1 rfl rfl rfl rfl rfl) fun w h => ⟨[], [], h, rfl⟩
  · rintro s N' gN h0 hn0 v7 d7 e7 rfl
    show Acts _ _ _ (K W (bxO (s 10) c :: [(b, row 132 [p, v])] :: N')) _ _
    have hz : s 10 = none := hn0 10 rfl
    rw [hz]
    show Acts _ _ _ (K W (c :: [(b, row 132 [p, v])] :: N')) _ _
    exact a_y (y_load Try.tab rfl rfl (cell_row 1 rfl rfl)) fun w h => ⟨[], [], (by show K W (bxO (s 10) c :: [(b, row 132 [p, v])] :: N') w; rw [hz]; exact h), rfl⟩
  · rintro s N' gN h0 hn0 v8 d8 e8 rfl
    show Acts _ _ _ (K W (bxO (s 10) c :: [(b, row 132 [p, v])] :: N')) _ _
    have hz : s 10 = none := hn0 10 rfl
    rw [hz]
    show Acts _ _ _ (K W (c :: [(b, row 132 [p, v])] :: N')) _ _
    exact a_y (y_lenBuf Try.tab rfl hB rfl) fun w h => ⟨[], [], (by show K W (bxO (s 10) c :: [(b, row 132 [p, v])] :: N') w; rw [hz]; exact h), rfl⟩
  · rintro s N' gN h0 hn0 v4 d4 e4 rfl v9 d9 e9 rfl v3 d3 e3 rfl v8 d8 e8 rfl
    show Acts _ _ _ (K W (bxO (s 10) c :: [(b, row 132 [p, v])] :: N')) _ _
    have hz : s 10 = none := h0
    rw [hz]
    show Acts _ _ _ (K W (c :: [(b, row 132 [p, v])] :: N')) _ _
    exact a_do (do_unsafeString Try.tab 0 rfl rfl hB rfl rfl hl hl0 rfl) fun _ w h => ⟨[], [], h, rfl, rfl⟩
  · rintro s N' gN h0 hn0 v10 d10 e10 ⟨rfl, rfl⟩
    show Acts _ _ _ (K W (bxO (s 10) c :: [(b, row 132 [p, v])] :: N')) _ _
    exact a_y (y_assign rfl) fun w h => ⟨[], [], h, rfl⟩
  · intro s N' gN hall v11 d11 e11 f11
    subst f11
    obtain ⟨M, hM⟩ := gN
    subst hM
    show Fin _ _ _ _ (K W (bxO (s 10) c :: [(b, row 132 [p, v])] :: (M ++ N)))
    refine f_then ?_
    refine c_ret ?_
    exact f_ret () (res1 rfl rfl) (fun w h => h.tail.tail.bck)
end Go.KL
end

section
/- Walks: the numeral of a number. -/
namespace Go.KL
open Go.Proofs
theorem dig_chunk {x i m : Nat} (hm : m ≤ 8) : x / 10 ^ (9 * i) % 1000000000 / 10 ^ m % 10 = x / 10 ^ (9 * i + m) % 10 := by
  have h1 : 1000000000 = 10 ^ m * 10 ^ (9 - m) := by
    rw [← Nat.pow_add, show m + (9 - m) = 9 by omega]
  have h2 : (10 : Nat) ∣ 10 ^ (9 - m) := ⟨10 ^ (8 - m), by rw [show 9 - m = (8 - m) + 1 by omega, Nat.pow_succ, Nat.mul_comm]⟩
  rw [h1, Nat.mod_mul_right_div_self, Nat.mod_mod_of_dvd _ h2, Nat.div_div_eq_div_mul, ← Nat.pow_add]
theorem div_step {x e : Nat} : x / 10 ^ (e + 1) = x / 10 ^ e / 10 := by
  rw [Nat.pow_succ, Nat.div_div_eq_div_mul]
def scl : Nat → Nat
  | 0 => 0
  | m + 1 => 10 ^ m
theorem scl_div : ∀ {m : Nat}, scl (m + 1) / 10 = scl m
  | 0 => rfl
  | m + 1 => by
    show 10 ^ (m + 1) / 10 = 10 ^ m
    rw [Nat.pow_succ]
    omega
theorem scl_le : ∀ {m : Nat}, m ≤ 9 → scl m ≤ 100000000
  | 0, _ => Nat.zero_le _
  | m + 1, h => by
    show 10 ^ m ≤ 10 ^ 8
    exact Nat.pow_le_pow_right (by omega) (by omega)
/-- Chunks of nine digits. -/
def chk9 (x i : Nat) : Nat := x / 10 ^ (9 * i) % 1000000000
def chks (x k : Nat) : List Value := (List.range k).map fun i => .int .u32 (chk9 x i : Int)
theorem chks_snoc {x k : Nat} : chks x (k + 1) = chks x k ++ [.int .u32 (chk9 x k : Int)] := by
  unfold chks
  rw [List.range_succ, List.map_append]
  rfl
attribute [local irreducible] SC St Fin Sq Ylds Doos Sets Enters Spec CellIs CellsAre Then Ret Rnd Chn resOK ints bools recs arr
theorem norm2_spec {C D : World → Prop} {v : Value} {n : Nat} {g : Nat → Nat} [hr : RawV C v n g] [hr2 : RawV D v n g] (hd : Dig g n) : Spec Try.prog 101 #[v] C (X := { r : Value // NatV C r (val g n) ∧ NatV D r (val g n) }) (fun r => r.1) (fun _ => C) := by
  have hcap := hr.cap
  have hmx : maxLen = 9223372036854775807 := rfl
  refine enter (args := [_]) Try.func101 rfl Try.ntmps101 rfl ?_
  refine c_seq ?_
  refine c_region ?_
  refine s_y (y_assign rfl) rfl rfl rfl ?_
  refine s_nil ?_
  refine f_then ?_
  refine c_seq ?_
  refine c_region ?_
  refine s_y (y_move rfl) rfl rfl rfl ?_
  refine s_y (y_lenR Try.tab rfl rfl) rfl rfl rfl ?_
  refine s_y (y_assign rfl) rfl rfl rfl ?_
  refine s_nil ?_
  refine f_then ?_
  refine c_seq ?_
  refine c_block ?_
  refine c_loopP (α := Nat) (fun k => [(0, v), (3, .int .i64 k)]) (fun k => k ≤ n ∧ ∀ i, k ≤ i → i < n → g i = 0) (fun _ => C) (fun k => k) n ⟨rfl, rfl, trivial⟩ ⟨Nat.le_refl _, fun i h1 h2 => by omega⟩ (fun w h => h) ?_
  rintro k ⟨hk, h0⟩
  by_cases hk0 : k = 0
  · subst hk0
    refine c_seq ?_
    refine c_seq ?_
    refine c_region ?_
    refine s_y (y_move rfl) rfl rfl rfl ?_
    refine s_y (y_F (y_gtr rfl rfl) (by omega)) rfl rfl rfl ?_
    refine s_y (y_move rfl) rfl rfl rfl ?_
    iterate 6 refine s_skip rfl rfl rfl ?_
    refine s_y (y_pickF rfl rfl) rfl rfl rfl ?_
    refine s_nil ?_
    refine f_then ?_
    refine c_condF rfl ?_
    refine c_exit ?_
    refine f_thenE ?_
    refine f_rndE ?_
    refine f_blockE ?_
    refine f_then ?_
    refine c_seq ?_
    refine c_region ?_
    refine s_y (y_move rfl) rfl rfl rfl ?_
    refine s_y (y_move rfl) rfl rfl rfl ?_
    refine s_y (y_move rfl) rfl rfl rfl ?_
    refine s_y (y_sl3R Try.tab rfl rfl rfl rfl rfl rfl rfl (by omega) (by omega)) rfl rfl rfl ?_
    refine s_y (y_assign rfl) rfl rfl rfl ?_
    refine s_nil ?_
    refine f_then ?_
    refine c_ret ?_
    refine f_ret ⟨vto v 0 0, ?_⟩ (res1 rfl rfl) (fun w h => h)
    have := val_cut hk h0
    rw [this]
    exact ⟨NatV.ofRaw (hr.to hk (Nat.le_refl _) (by omega)) (hd.less hk) (fun h => absurd h (by omega)), NatV.ofRaw (hr2.to hk (Nat.le_refl _) (by omega)) (hd.less hk) (fun h => absurd h (by omega))⟩
  refine c_seq ?_
  refine c_seq ?_
  refine c_region ?_
  refine s_y (y_move rfl) rfl rfl rfl ?_
  refine s_y (y_T (y_gtr rfl rfl) (by omega)) rfl rfl rfl ?_
  refine s_y (y_move rfl) rfl rfl rfl ?_
  refine s_y (y_move rfl) rfl rfl rfl ?_
  refine s_y (y_move rfl) rfl rfl rfl ?_
  refine s_y (y_sub rfl rfl (by omega)) rfl rfl rfl ?_
  refine s_y (y_ixR Try.tab rfl rfl rfl rfl _ (Int.toNat_of_nonneg (by omega)).symm (by omega)) rfl rfl rfl ?_
  refine s_y (y_ldR Try.tab rfl rfl (by omega)) rfl rfl rfl ?_
  refine s_y (y_eql rfl rfl) rfl rfl rfl ?_
  refine s_y (y_pickT rfl rfl) rfl rfl rfl ?_
  refine s_nil ?_
  refine f_then ?_
  have e1 : ((k : Int) - 1).toNat = k - 1 := by omega
  refine c_condD rfl (fun hz => ?_) (fun hz => ?_)
  · refine c_skip ?_
    refine f_then ?_
    refine c_block ?_
    refine c_region ?_
    refine s_y (y_move rfl) rfl rfl rfl ?_
    refine s_y (y_sub rfl rfl (by omega)) rfl rfl rfl ?_
    refine s_y (y_assign rfl) rfl rfl rfl ?_
    refine s_nil ?_
    refine f_blockN ?_
    refine f_roundP (k - 1) ⟨by omega, fun i h1 h2 => ?_⟩ (by omega) ⟨rfl, ?_, trivial⟩ (fun w h => h)
    · rcases Nat.lt_or_ge i k with h3 | h3
      · have : i = k - 1 := by omega
        subst this
        rw [e1] at hz
        omega
      · exact h0 i h3 h2
    · show some (Value.int .i64 ((k : Int) - 1)) = _
      congr 2
      omega
  · refine c_exit ?_
    refine f_thenE ?_
    refine f_rndE ?_
    refine f_blockE ?_
    refine f_then ?_
    refine c_seq ?_
    refine c_region ?_
    refine s_y (y_move rfl) rfl rfl rfl ?_
    refine s_y (y_move rfl) rfl rfl rfl ?_
    refine s_y (y_move rfl) rfl rfl rfl ?_
    refine s_y (y_sl3R Try.tab rfl rfl rfl rfl rfl rfl rfl (by omega) (by omega)) rfl rfl rfl ?_
    refine s_y (y_assign rfl) rfl rfl rfl ?_
    refine s_nil ?_
    refine f_then ?_
    refine c_ret ?_
    refine f_ret ⟨vto v k k, ?_⟩ (res1 rfl rfl) (fun w h => h)
    have := val_cut hk h0
    rw [this]
    refine ⟨NatV.ofRaw (hr.to hk (Nat.le_refl _) (by omega)) (hd.less hk) (fun _ => ?_), NatV.ofRaw (hr2.to hk (Nat.le_refl _) (by omega)) (hd.less hk) (fun _ => ?_)⟩
    · rw [e1] at hz
      omega
    · rw [e1] at hz
      omega
set_option maxRecDepth 10000 in
set_option maxHeartbeats 4000000 in
theorem divWord2_spec {W : World} {N : List Chunk} {a : Value} {x d : Nat} [ha : NatV (K W N) a x] (hx : wl x ≤ 1000000) (hd : 1 ≤ d) (hd2 : d < 4294967296) :
    Spec Try.prog 105 #[a, .int .u32 (d : Int)] (K W N) (X := { r : Chunk × Value // NatV (K W [r.1]) r.2 (x / d) }) (fun r => .tuple #[r.1.2, .int .u32 ((x % d : Nat) : Int)]) (fun r => K W (r.1.1 :: N)) := by
  refine enter (args := [_, _]) Try.func105 rfl Try.ntmps105 rfl ?_
  refine c_seq ?_
  refine c_region ?_
  refine s_y (y_assign rfl) rfl rfl rfl ?_
  refine s_y (y_assign rfl) rfl rfl rfl ?_
  refine s_nil ?_
  refine f_then ?_
  refine c_seq ?_
  refine c_region ?_
  refine s_y (y_move rfl) rfl rfl rfl ?_
  refine s_y (y_lenR Try.tab rfl rfl) rfl rfl rfl ?_
  refine s_do (make_u32 (by_ := 4) Try.tab rfl rfl rfl rfl rfl rfl (by omega)) rfl rfl rfl (fun b12 => ?_)
  refine s_y (y_assign rfl) rfl rfl rfl ?_
  refine s_nil ?_
  refine f_then ?_
  refine c_seq ?_
  refine c_region ?_
  refine s_y (y_assign rfl) rfl rfl rfl ?_
  refine s_nil ?_
  refine f_then ?_
  refine c_seq ?_
  refine c_seq ?_
  refine c_region ?_
  refine s_y (y_move rfl) rfl rfl rfl ?_
  refine s_y (y_lenR Try.tab rfl rfl) rfl rfl rfl ?_
  refine s_y (y_sub rfl rfl (by omega)) rfl rfl rfl ?_
  refine s_y (y_assign rfl) rfl rfl rfl ?_
  refine s_nil ?_
  refine f_then ?_
  refine c_block ?_
  refine c_loopP (α := Nat × Nat × (Nat → Nat)) (fun z => [(0, a), (1, .int .u32 (d : Int)), (6, .slice (some ⟨b12, 0, none⟩) (wl x) (wl x)), (7, .int .u64 (z.2.1 : Int)), (8, .int .i64 ((z.1 : Int) - 1))])
    (fun z => z.1 ≤ wl x ∧ z.2.1 < d ∧ Dig z.2.2 (wl x) ∧ x / B ^ z.1 = d * val (fun i => z.2.2 (z.1 + i)) (wl x - z.1) + z.2.1) (fun z => K W ([(b12, u32s (wl x) z.2.2 [])] :: N)) (fun z => z.1) (wl x, 0, fun _ => 0)
    ⟨rfl, rfl, rfl, rfl, rfl, trivial⟩ ⟨Nat.le_refl _, hd, Dig.zero _, by dsimp only; rw [Nat.sub_self, val_0, Nat.div_eq_of_lt (lt_wl x)]; rfl⟩ (fun w h => h) ?_
  rintro ⟨k, r, g⟩ ⟨hk, hr, hg, hv⟩
  dsimp only at hk hr hg hv ⊢
  by_cases hk0 : k = 0
  · subst hk0
    have hv2 : x = d * val g (wl x) + r := by simpa using hv
    have hq : val g (wl x) = x / d := by
      rw [hv2, Nat.mul_add_div (by omega), Nat.div_eq_of_lt hr, Nat.add_zero]
      rw [← hv2]
    have hm : x % d = r := by rw [hv2, Nat.mul_add_mod, Nat.mod_eq_of_lt hr]
    refine c_seq ?_
    refine c_seq ?_
    refine c_region ?_
    refine s_y (y_move rfl) rfl rfl rfl ?_
    refine s_y (y_F (y_geq rfl rfl) (by omega)) rfl rfl rfl ?_
    refine s_nil ?_
    refine f_then ?_
    refine c_condF rfl ?_
    refine c_exit ?_
    refine f_thenE ?_
    refine f_rndE ?_
    refine f_blockE ?_
    refine f_then ?_
    refine c_seq ?_
    refine c_region ?_
    refine s_y (y_move rfl) rfl rfl rfl ?_
    haveI hr2 : RawV (K W ([(b12, u32s (wl x) g [])] :: N)) (.slice (some ⟨b12, 0, none⟩) (wl x) (wl x)) (wl x) g := RawV.ownT 0 rfl (Nat.le_refl _) (by unfold maxLen; omega)
    haveI hr3 : RawV (K W [[(b12, u32s (wl x) g [])]]) (.slice (some ⟨b12, 0, none⟩) (wl x) (wl x)) (wl x) g := RawV.ownT 0 rfl (Nat.le_refl _) (by unfold maxLen; omega)
    refine s_call (en_f rfl Try.call101) (norm2_spec (D := K W [[(b12, u32s (wl x) g [])]]) hg) rfl rfl rfl (fun r9 => ?_)
    refine s_y (y_move rfl) rfl rfl rfl ?_
    refine s_y (y_to32 Try.tab rfl rfl rfl) rfl rfl rfl ?_
    refine s_y (y_assign rfl) rfl rfl rfl ?_
    refine s_y (y_assign rfl) rfl rfl rfl ?_
    refine s_nil ?_
    refine f_then ?_
    refine c_ret ?_
    exact f_retE ⟨([(b12, u32s (wl x) g [])], r9.1), r9.2.2.of hq⟩ (res2 rfl rfl rfl) (by rw [hm, show ((r : Int) % 4294967296) = r by omega]) (fun w h => h)
  · have dx := dg_lt' x (k - 1)
    have e1 : ((k : Int) - 1).toNat = k - 1 := by omega
    have hstep := div_dg x (k - 1)
    rw [Nat.sub_add_cancel (by omega)] at hstep
    refine c_seq ?_
    refine c_seq ?_
    refine c_region ?_
    refine s_y (y_move rfl) rfl rfl rfl ?_
    refine s_y (y_T (y_geq rfl rfl) (by omega)) rfl rfl rfl ?_
    refine s_nil ?_
    refine f_then ?_
    refine c_condT rfl ?_
    refine c_skip ?_
    refine f_then ?_
    refine c_seq ?_
    refine c_block ?_
    refine c_seq ?_
    refine c_region ?_
    refine s_y (y_move rfl) rfl rfl rfl ?_
    refine s_y (y_shlV (d := 4294967296) rfl rfl (by decide) rfl (by omega)) rfl rfl rfl ?_
    refine s_y (y_move rfl) rfl rfl rfl ?_
    refine s_y (y_move rfl) rfl rfl rfl ?_
    refine s_y (y_ixR Try.tab rfl rfl rfl rfl _ (Int.toNat_of_nonneg (by omega)).symm (by omega)) rfl rfl rfl ?_
    refine s_y (y_ldR Try.tab rfl rfl (by omega)) rfl rfl rfl ?_
    rw [e1]
    obtain ⟨t, ht⟩ : ∃ t, t = r * 4294967296 + dg x (k - 1) := ⟨_, rfl⟩
    have htd : t < d * 4294967296 := by
      have : (r + 1) * 4294967296 ≤ d * 4294967296 := Nat.mul_le_mul_right _ hr
      omega
    have hq : t / d < 4294967296 := by rw [Nat.div_lt_iff_lt_mul (by omega), Nat.mul_comm]; exact htd
    have hdm := Nat.div_add_mod t d
    have hrd : t % d < d := Nat.mod_lt _ (by omega)
    refine s_y (y_to64 Try.tab rfl rfl rfl (by omega)) rfl rfl rfl ?_
    refine s_y (y_orW rfl rfl (by omega)) rfl rfl rfl ?_
    refine s_y (y_assign rfl) rfl rfl rfl ?_
    refine s_nil ?_
    refine f_then ?_
    refine c_seq ?_
    refine c_region ?_
    refine s_y (y_move rfl) rfl rfl rfl ?_
    refine s_y (y_move rfl) rfl rfl rfl ?_
    refine s_y (y_move rfl) rfl rfl rfl ?_
    refine s_y (y_move rfl) rfl rfl rfl ?_
    refine s_y (y_to64 Try.tab rfl rfl rfl (by omega)) rfl rfl rfl ?_
    refine s_y (y_quoU rfl rfl (by omega)) rfl rfl rfl ?_
    refine s_y (y_to32 Try.tab rfl rfl rfl) rfl rfl rfl ?_
    refine s_y (y_indexAddr1 Try.tab rfl rfl rfl rfl _ (Int.toNat_of_nonneg (by omega)).symm (by omega)) rfl rfl rfl ?_
    refine s_set (set_u32 Try.tab 0 _ rfl rfl rfl rfl (Int.toNat_of_nonneg (by omega)).symm (by omega)) rfl rfl ?_
    refine s_nil ?_
    refine f_then ?_
    refine c_region ?_
    refine s_y (y_move rfl) rfl rfl rfl ?_
    refine s_y (y_move rfl) rfl rfl rfl ?_
    refine s_y (y_to64 Try.tab rfl rfl rfl (by omega)) rfl rfl rfl ?_
    refine s_y (y_remK rfl rfl (by omega)) rfl rfl rfl ?_
    refine s_y (y_assign rfl) rfl rfl rfl ?_
    refine s_nil ?_
    refine f_blockN ?_
    refine f_then ?_
    refine c_region ?_
    refine s_y (y_move rfl) rfl rfl rfl ?_
    refine s_y (y_sub rfl rfl (by omega)) rfl rfl rfl ?_
    refine s_y (y_assign rfl) rfl rfl rfl ?_
    refine s_nil ?_
    rw [← ht, e1]
    have e2 : ((t : Int) / (d : Int) % 4294967296).toNat = t / d := by
      rw [← Int.natCast_ediv, toNat_mod32, Nat.mod_eq_of_lt hq]
    rw [e2]
    refine f_roundP (k - 1, t % d, upd g (k - 1) (t / d)) ⟨by dsimp only; omega, hrd, hg.updL hq, ?_⟩ (by dsimp only; omega) ⟨rfl, rfl, rfl, rfl, congrArg (fun z => some (Value.int .i64 z)) (by omega), trivial⟩ (fun w h => h)
    dsimp only
    rw [hstep, hv, show wl x - (k - 1) = (wl x - k) + 1 by omega, val_down]
    have h1 : upd g (k - 1) (t / d) (k - 1 + 0) = t / d := by simp [upd]
    have h2 : val (fun i => upd g (k - 1) (t / d) (k - 1 + (1 + i))) (wl x - k) = val (fun i => g (k + i)) (wl x - k) := val_congr fun i _ => by rw [upd_get, if_neg (by omega)]; congr 1; omega
    rw [h1, h2]
    show _ = d * (t / d + 4294967296 * _) + t % d
    generalize val (fun i => g (k + i)) (wl x - k) = V
    have h3 : d * (t / d + 4294967296 * V) = d * (t / d) + d * V * 4294967296 := by rw [Nat.mul_add]; congr 1; rw [Nat.mul_comm 4294967296, Nat.mul_assoc]
    rw [h3, Nat.add_mul]
    omega

end Go.KL
end

section
/- Walks: Nat.String. -/
namespace Go.KL
open Go.Proofs
theorem wl_eq0 {x : Nat} : wl x = 0 ↔ x = 0 := by
  refine ⟨fun h => ?_, fun h => by rw [h, wl_zero]⟩
  have := lt_wl x
  rw [h] at this
  simpa using this
theorem K.dropM {W w : World} {A L N : List Chunk} (h : K W (A ++ (L ++ N)) w) : K W (A ++ N) w :=
  h.weak L.flatten (by
    simp only [List.flatten_append, List.append_assoc]
    exact List.Perm.append_left _ List.perm_append_comm)
theorem och_chks {ob oc x k : Nat} {orest : List Value} : och 123 ⟨ob, oc, [], orest⟩ (chks x k) = [(ob, u32s k (chk9 x) orest)] := rfl
theorem num0_len {n k : Nat} (h : n < 10 ^ k) : (num0 n).length ≤ k := by
  unfold num0
  rw [List.length_map, List.length_reverse]
  exact decF_len h
attribute [local irreducible] SC St Fin Sq Ylds Doos Sets Enters Spec CellIs CellsAre Then Ret Rnd Chn resOK ints bools recs arr
set_option maxRecDepth 10000 in
set_option maxHeartbeats 8000000 in
theorem nstr_spec {W : World} {N : List Chunk} {a : Value} {x : Nat} [ha : NatV (K W N) a x] (hx : wl x ≤ 10000) (hk9 : ∀ k, x / 10 ^ (9 * k) ≠ 0 → k ≤ 100000) :
    Spec Try.prog 66 #[.agg #[a]] (K W N) (fun _ : Unit => strV (numL x)) (fun _ => K W N) := by
  refine enter (args := [_]) Try.func66 rfl Try.ntmps66 rfl ?_
  by_cases h0 : x = 0
  · have hw0 := wl_eq0.2 h0
    refine c_seq ?_
    refine c_region ?_
    refine s_do (do_box rfl) rfl rfl rfl (fun b1 => ?_)
    refine s_y (y_assign rfl) rfl rfl rfl ?_
    refine s_nil ?_
    refine f_then ?_
    refine c_seq ?_
    refine c_seq ?_
    refine c_region ?_
    refine s_y (y_fieldAddr0 Try.tab rfl rfl rfl rfl rfl) rfl rfl rfl ?_
    refine s_y (y_load Try.tab rfl rfl (cell_row 0 rfl rfl)) rfl rfl rfl ?_
    refine s_y (y_lenR Try.tab rfl rfl) rfl rfl rfl ?_
    refine s_y (y_T (y_eql rfl rfl) (by omega)) rfl rfl rfl ?_
    refine s_nil ?_
    refine f_then ?_
    refine c_condT rfl ?_
    refine c_seq ?_
    refine c_region ?_
    refine s_y (y_assign rfl) rfl rfl rfl ?_
    refine s_nil ?_
    refine f_then ?_
    refine c_ret ?_
    refine f_thenR ?_
    exact f_retE () (res1 rfl rfl) (by rw [h0]; rfl) (fun w h => h.tail)
  have hw0 := mt wl_eq0.1 h0
  refine c_seq ?_
  refine c_region ?_
  refine s_do (do_box rfl) rfl rfl rfl (fun b1 => ?_)
  refine s_y (y_assign rfl) rfl rfl rfl ?_
  refine s_nil ?_
  refine f_then ?_
  refine c_seq ?_
  refine c_seq ?_
  refine c_region ?_
  refine s_y (y_fieldAddr0 Try.tab rfl rfl rfl rfl rfl) rfl rfl rfl ?_
  refine s_y (y_load Try.tab rfl rfl (cell_row 0 rfl rfl)) rfl rfl rfl ?_
  refine s_y (y_lenR Try.tab rfl rfl) rfl rfl rfl ?_
  refine s_y (y_F (y_eql rfl rfl) (by omega)) rfl rfl rfl ?_
  refine s_nil ?_
  refine f_then ?_
  refine c_condF rfl ?_
  refine c_skip ?_
  refine f_then ?_
  refine c_seq ?_
  refine c_region ?_
  refine s_y (y_assign rfl) rfl rfl rfl ?_
  refine s_nil ?_
  refine f_then ?_
  refine c_seq ?_
  refine c_seq ?_
  refine c_region ?_
  refine s_y (y_fieldAddr0 Try.tab rfl rfl rfl rfl rfl) rfl rfl rfl ?_
  refine s_y (y_load Try.tab rfl rfl (cell_row 0 rfl rfl)) rfl rfl rfl ?_
  refine s_y (y_assign rfl) rfl rfl rfl ?_
  refine s_nil ?_
  refine f_then ?_
  refine c_block ?_
  refine c_loopP (α := Nat × Value × Value × Chunk × List Chunk) (fun z => [(3, z.2.2.1), (4, z.2.1)])
    (fun z => NatV (K W (z.2.2.2.2 ++ N)) z.2.1 (x / 10 ^ (9 * z.1)) ∧ Buf 123 1 z.2.2.1 z.2.2.2.1 z.1 (chks x z.1) ∧ (z.1 ≠ 0 ∨ x / 10 ^ (9 * z.1) ≠ 0) ∧ z.1 ≤ 100001)
    (fun z => K W (z.2.2.2.1 :: (z.2.2.2.2 ++ N))) (fun z => x / 10 ^ (9 * z.1)) (0, a, .slice none 0 0, [], [])
    ⟨rfl, rfl, trivial⟩ ⟨by simpa using ha, Buf.nil, by simpa using h0, Nat.zero_le _⟩ (fun w h => h.tail.addNil) ?_
  rintro ⟨k, q, v, c, L⟩ ⟨hq, hB, hne, hkb⟩
  dsimp only at hq hB hne hkb ⊢
  obtain ⟨y, hy⟩ : ∃ y, y = x / 10 ^ (9 * k) := ⟨_, rfl⟩
  rw [← hy] at hq hne
  by_cases hy0 : y = 0
  · have hwy := wl_eq0.2 hy0
    refine c_seq ?_
    refine c_seq ?_
    refine c_region ?_
    refine s_y (y_move rfl) rfl rfl rfl ?_
    refine s_y (y_lenR Try.tab rfl rfl) rfl rfl rfl ?_
    refine s_y (y_F (y_gtr rfl rfl) (by omega)) rfl rfl rfl ?_
    refine s_nil ?_
    refine f_then ?_
    refine c_condF rfl ?_
    refine c_exit ?_
    refine f_thenE ?_
    refine f_rndE ?_
    refine f_blockE ?_
    refine f_then ?_
    refine c_seq ?_
    refine c_region ?_
    refine s_do (do_alloc Try.tab rfl) rfl rfl rfl (fun b7 => ?_)
    refine s_nil ?_
    refine f_then ?_
    refine c_seq ?_
    refine c_seq ?_
    refine c_region ?_
    refine s_y (y_move rfl) rfl rfl rfl ?_
    refine s_y (y_lenBuf Try.tab rfl hB rfl) rfl rfl rfl ?_
    refine s_y (y_sub rfl rfl (by omega)) rfl rfl rfl ?_
    refine s_y (y_assign rfl) rfl rfl rfl ?_
    refine s_nil ?_
    refine f_then ?_
    refine c_block ?_
    have hk0 : k ≠ 0 := by omega
    rcases hB.ok with ⟨hz, _⟩ | ⟨o, rfl, rfl, ho, hpre⟩
    · exact absurd hz hk0
    obtain ⟨ob, oc, opre, orest⟩ := o
    dsimp only at hpre
    subst hpre
    have hkle := ho.le
    have hkm := ho.max
    dsimp only at hkle hkm
    have hmx : maxLen = 9223372036854775807 := rfl
    have ec : (Value.agg #[.pointer none, .slice none 0 0]).cells.toList = [.pointer none, .slice none 0 0] := by simp [Value.cells]
    skip
    rw [ec]
    refine c_loopP (α := Nat × Option Addr × Value × Chunk) (fun z => [(3, .slice (some ⟨ob, 0, none⟩) k oc), (7, .pointer (some ⟨b7, 0, none⟩)), (8, .int .i64 ((z.1 : Int) - 1))])
      (fun z => z.1 ≤ k ∧ (z.2.1 = none ∨ z.2.1 = some ⟨b7, 0, none⟩) ∧ Buf 5 1 z.2.2.1 z.2.2.2 (num0 (x / 10 ^ (9 * z.1))).length (bys (num0 (x / 10 ^ (9 * z.1)))))
      (fun z => K W ([(b7, row 132 [.pointer z.2.1, z.2.2.1])] :: z.2.2.2 :: [(ob, u32s k (chk9 x) orest)] :: (L ++ N))) (fun z => z.1) (k, none, .slice none 0 0, [])
      ⟨rfl, rfl, rfl, trivial⟩ ⟨Nat.le_refl _, .inl rfl, by rw [← hy, hy0]; exact Buf.nil⟩ (fun w h => (by have h2 : K W ([(b7, row 132 [.pointer none, .slice none 0 0])] :: [] :: och 123 ⟨ob, oc, [], orest⟩ (chks x k) :: (L ++ N)) w := h.addNil.front 1; rw [och_chks] at h2; exact h2)) ?_
    rintro ⟨j, p, bv, bc⟩ ⟨hj, hp, hb⟩
    dsimp only at hj hp hb ⊢
    cases j with
    | zero =>
      rw [Nat.mul_zero, Nat.pow_zero, Nat.div_one] at hb
      refine c_seq ?_
      refine c_seq ?_
      refine c_region ?_
      refine s_y (y_move rfl) rfl rfl rfl ?_
      refine s_y (y_F (y_geq rfl rfl) (by omega)) rfl rfl rfl ?_
      refine s_nil ?_
      refine f_then ?_
      refine c_condF rfl ?_
      refine c_exit ?_
      refine f_thenE ?_
      refine f_rndE ?_
      refine f_blockE ?_
      refine f_then ?_
      refine c_seq ?_
      refine c_region ?_
      refine s_call (en_f rfl Try.call108) (bstring_spec (N := [(ob, u32s k (chk9 x) orest)] :: (L ++ N)) hb num0_lt (Nat.pos_of_ne_zero (mt num0_len0.1 h0))) rfl rfl rfl (fun _ => ?_)
      refine s_y (y_assign rfl) rfl rfl rfl ?_
      refine s_nil ?_
      refine f_then ?_
      refine c_ret ?_
      exact f_retE () (res1 rfl rfl) (by rw [numL, if_neg h0]) (fun w h => h.tail.bck)
    | succ j =>
      refine c_seq ?_
      refine c_seq ?_
      refine c_region ?_
      refine s_y (y_move rfl) rfl rfl rfl ?_
      refine s_y (y_T (y_geq rfl rfl) (by omega)) rfl rfl rfl ?_
      refine s_nil ?_
      refine f_then ?_
      refine c_condT rfl ?_
      refine c_skip ?_
      refine f_then ?_
      refine c_seq ?_
      refine c_block ?_
      refine c_seq ?_
      refine c_region ?_
      refine s_y (y_assign rfl) rfl rfl rfl ?_
      refine s_nil ?_
      refine f_then ?_
      refine c_block ?_
      rw [show ((j + 1 : Nat) : Int) - 1 = (j : Int) by omega]
      refine c_loopP (α := Nat × Option Addr × Value × Chunk) (fun z => [(3, .slice (some ⟨ob, 0, none⟩) k oc), (7, .pointer (some ⟨b7, 0, none⟩)), (8, .int .i64 (j : Int)), (9, .int .u32 (scl z.1 : Nat))])
        (fun z => z.1 ≤ 9 ∧ (z.2.1 = none ∨ z.2.1 = some ⟨b7, 0, none⟩) ∧ Buf 5 1 z.2.2.1 z.2.2.2 (num0 (x / 10 ^ (9 * j + z.1))).length (bys (num0 (x / 10 ^ (9 * j + z.1)))))
        (fun z => K W ([(b7, row 132 [.pointer z.2.1, z.2.2.1])] :: z.2.2.2 :: [(ob, u32s k (chk9 x) orest)] :: (L ++ N))) (fun z => z.1) (9, p, bv, bc)
        ⟨rfl, rfl, rfl, rfl, trivial⟩ ⟨Nat.le_refl _, hp, hb⟩ (fun w h => h) ?_
      rintro ⟨m, p, bv, bc⟩ ⟨hm, hp, hb⟩
      dsimp only at hm hp hb ⊢
      cases m with
      | zero =>
        have hs0 : scl 0 = 0 := rfl
        refine c_seq ?_
        refine c_seq ?_
        refine c_region ?_
        refine s_y (y_move rfl) rfl rfl rfl ?_
        refine s_y (y_F (y_gtr rfl rfl) (by omega)) rfl rfl rfl ?_
        refine s_nil ?_
        refine f_then ?_
        refine c_condF rfl ?_
        refine c_exit ?_
        refine f_thenE ?_
        refine f_rndE ?_
        refine f_blockE ?_
        refine f_blockN ?_
        refine f_then ?_
        refine c_region ?_
        refine s_y (y_move rfl) rfl rfl rfl ?_
        refine s_y (y_sub rfl rfl (by omega)) rfl rfl rfl ?_
        refine s_y (y_assign rfl) rfl rfl rfl ?_
        refine s_nil ?_
        exact f_roundP (j, p, bv, bc) ⟨by dsimp only; omega, hp, hb⟩ (by dsimp only; omega) ⟨rfl, rfl, rfl, trivial⟩ (fun w h => h)
      | succ m =>
        have hs0 : 1 ≤ scl (m + 1) := Nat.pos_of_ne_zero (by show 10 ^ m ≠ 0; exact Nat.pos_iff_ne_zero.1 (Nat.pow_pos (by omega)))
        have hs1 := scl_le hm
        have hc9 : chk9 x j < 1000000000 := Nat.mod_lt _ (by omega)
        refine c_seq ?_
        refine c_seq ?_
        refine c_region ?_
        refine s_y (y_move rfl) rfl rfl rfl ?_
        refine s_y (y_T (y_gtr rfl rfl) (by omega)) rfl rfl rfl ?_
        refine s_nil ?_
        refine f_then ?_
        refine c_condT rfl ?_
        refine c_skip ?_
        refine f_then ?_
        refine c_seq ?_
        refine c_block ?_
        refine c_seq ?_
        refine c_region ?_
        refine s_y (y_move rfl) rfl rfl rfl ?_
        refine s_y (y_move rfl) rfl rfl rfl ?_
        refine s_y (y_indexAddr1 Try.tab rfl rfl rfl rfl _ rfl (by omega)) rfl rfl rfl ?_
        refine s_y (y_load Try.tab rfl rfl (cell_u32 2 rfl (by omega))) rfl rfl rfl ?_
        refine s_y (y_move rfl) rfl rfl rfl ?_
        refine s_y (y_quo32 rfl rfl (by omega)) rfl rfl rfl ?_
        obtain ⟨V, hV⟩ : ∃ V, V = x / 10 ^ (9 * j + m) := ⟨_, rfl⟩
        have e0 : x / 10 ^ (9 * j + (m + 1)) = V / 10 := by rw [← Nat.add_assoc, div_step, hV]
        have e1 : ((chk9 x j : Nat) : Int) / ((scl (m + 1) : Nat) : Int) = ((chk9 x j / scl (m + 1) : Nat) : Int) := (Int.natCast_ediv _ _).symm
        have e2 : ((chk9 x j / scl (m + 1) : Nat) : Int) % 10 = ((V % 10 : Nat) : Int) := by
          have : chk9 x j / scl (m + 1) % 10 = V % 10 := by rw [hV]; exact dig_chunk (by omega)
          omega
        have hV10 : V % 10 < 10 := Nat.mod_lt _ (by omega)
        rw [e0] at hb
        rw [e1]
        refine s_y (y_remK rfl rfl ⟨Int.natCast_nonneg _, by decide⟩) rfl rfl rfl ?_
        rw [e2]
        refine s_y (y_assign rfl) rfl rfl rfl ?_
        refine s_nil ?_
        refine f_then ?_
        refine c_seq ?_
        refine c_region ?_
        refine s_call (en_f rfl Try.call106) (blen_spec (Ls := bc :: [(ob, u32s k (chk9 x) orest)] :: (L ++ N)) hb) rfl rfl rfl (fun _ => ?_)
        have e4 : ((scl (m + 1) : Nat) : Int) / 10 = ((scl m : Nat) : Int) := by
          have := scl_div (m := m)
          omega
        have hnl : (num0 (V / 10)).length ≤ 9 * k := num0_len (by
          have h1 : x / 10 ^ (9 * k) = 0 := hy ▸ hy0
          have h2 : V / 10 ≤ x := by rw [hV]; exact Nat.le_trans (Nat.div_le_self _ _) (Nat.div_le_self _ _)
          have h3 := (Nat.div_eq_zero_iff.1 h1).resolve_left (Nat.pos_iff_ne_zero.1 (Nat.pow_pos (by omega)))
          omega)
        by_cases hl0 : (num0 (V / 10)).length = 0
        · have hV1 := num0_len0.1 hl0
          by_cases hd0 : V % 10 = 0
          · have hV0 : V = 0 := by omega
            rw [hd0]
            refine s_y (y_F (y_gtr rfl rfl) (by omega)) rfl rfl rfl ?_
            refine s_y (y_move rfl) rfl rfl rfl ?_
            refine s_y (y_move rfl) rfl rfl rfl ?_
            refine s_y (y_F (y_gtr rfl rfl) (by omega)) rfl rfl rfl ?_
            refine s_y (y_pickF rfl rfl) rfl rfl rfl ?_
            refine s_nil ?_
            refine f_then ?_
            refine c_condF rfl ?_
            refine c_skip ?_
            refine f_blockN ?_
            refine f_then ?_
            refine c_region ?_
            refine s_y (y_move rfl) rfl rfl rfl ?_
            refine s_y (y_quo32 rfl rfl (by omega)) rfl rfl rfl ?_
            refine s_y (y_assign rfl) rfl rfl rfl ?_
            refine s_nil ?_
            rw [e4]
            exact f_roundP (m, p, bv, bc) ⟨by dsimp only; omega, hp, by dsimp only; rw [← hV, hV0]; rw [hV0] at hb; exact hb⟩ (by dsimp only; omega) ⟨rfl, rfl, rfl, rfl, trivial⟩ (fun w h => h)
          · have hVn : V ≠ 0 := by omega
            refine s_y (y_F (y_gtr rfl rfl) (by omega)) rfl rfl rfl ?_
            refine s_y (y_move rfl) rfl rfl rfl ?_
            refine s_y (y_move rfl) rfl rfl rfl ?_
            refine s_y (y_T (y_gtr rfl rfl) (by omega)) rfl rfl rfl ?_
            refine s_y (y_pickF rfl rfl) rfl rfl rfl ?_
            refine s_nil ?_
            refine f_then ?_
            refine c_condT rfl ?_
            refine c_region ?_
            refine s_y (y_move rfl) rfl rfl rfl ?_
            refine s_y (y_to8 Try.tab rfl rfl rfl ⟨by omega, by omega⟩) rfl rfl rfl ?_
            refine s_y (y_addU8 rfl rfl ⟨by omega, by omega⟩) rfl rfl rfl ?_
            rw [show (48 : Int) + ((V % 10 : Nat) : Int) = ((48 + V % 10 : Nat) : Int) by omega]
            refine s_call (en_f rfl Try.call107) (writeByte_spec (Ls := [(ob, u32s k (chk9 x) orest)] :: (L ++ N)) (l := num0 (V / 10)) (d := 48 + V % 10) hp hb (by omega)) rfl rfl rfl (fun u => ?_)
            refine s_nil ?_
            refine f_blockN ?_
            refine f_then ?_
            refine c_region ?_
            refine s_y (y_move rfl) rfl rfl rfl ?_
            refine s_y (y_quo32 rfl rfl (by omega)) rfl rfl rfl ?_
            refine s_y (y_assign rfl) rfl rfl rfl ?_
            refine s_nil ?_
            rw [e4]
            exact f_roundP (m, some ⟨b7, 0, none⟩, u.1.1, u.1.2) ⟨by dsimp only; omega, .inr rfl, by dsimp only; rw [← hV, num0_step hVn]; exact u.2⟩ (by dsimp only; omega) ⟨rfl, rfl, rfl, rfl, trivial⟩ (fun w h => h)
        · have hVn : V ≠ 0 := by
            intro h
            rw [h] at hl0
            exact hl0 rfl
          refine s_y (y_T (y_gtr rfl rfl) (by omega)) rfl rfl rfl ?_
          refine s_y (y_move rfl) rfl rfl rfl ?_
          iterate 2 refine s_skip rfl rfl rfl ?_
          refine s_y (y_pickT rfl rfl) rfl rfl rfl ?_
          refine s_nil ?_
          refine f_then ?_
          refine c_condT rfl ?_
          refine c_region ?_
          refine s_y (y_move rfl) rfl rfl rfl ?_
          refine s_y (y_to8 Try.tab rfl rfl rfl ⟨by omega, by omega⟩) rfl rfl rfl ?_
          refine s_y (y_addU8 rfl rfl ⟨by omega, by omega⟩) rfl rfl rfl ?_
          rw [show (48 : Int) + ((V % 10 : Nat) : Int) = ((48 + V % 10 : Nat) : Int) by omega]
          refine s_call (en_f rfl Try.call107) (writeByte_spec (Ls := [(ob, u32s k (chk9 x) orest)] :: (L ++ N)) (l := num0 (V / 10)) (d := 48 + V % 10) hp hb (by omega)) rfl rfl rfl (fun u => ?_)
          refine s_nil ?_
          refine f_blockN ?_
          refine f_then ?_
          refine c_region ?_
          refine s_y (y_move rfl) rfl rfl rfl ?_
          refine s_y (y_quo32 rfl rfl (by omega)) rfl rfl rfl ?_
          refine s_y (y_assign rfl) rfl rfl rfl ?_
          refine s_nil ?_
          rw [e4]
          exact f_roundP (m, some ⟨b7, 0, none⟩, u.1.1, u.1.2) ⟨by dsimp only; omega, .inr rfl, by dsimp only; rw [← hV, num0_step hVn]; exact u.2⟩ (by dsimp only; omega) ⟨rfl, rfl, rfl, rfl, trivial⟩ (fun w h => h)
  · have hwy := mt wl_eq0.1 hy0
    have hyx : wl y ≤ 1000000 := Nat.le_trans (wl_mono (hy ▸ Nat.div_le_self _ _)) (by omega)
    refine c_seq ?_
    refine c_seq ?_
    refine c_region ?_
    refine s_y (y_move rfl) rfl rfl rfl ?_
    refine s_y (y_lenR Try.tab rfl rfl) rfl rfl rfl ?_
    refine s_y (y_T (y_gtr rfl rfl) (by omega)) rfl rfl rfl ?_
    refine s_nil ?_
    refine f_then ?_
    refine c_condT rfl ?_
    refine c_skip ?_
    refine f_then ?_
    refine c_block ?_
    refine c_seq ?_
    refine c_region ?_
    refine s_y (y_move rfl) rfl rfl rfl ?_
    refine s_call (en_f rfl Try.call105) (divWord2_spec (N := c :: (L ++ N)) (x := y) (d := 1000000000) hyx (by omega) (by omega)) rfl rfl rfl (fun r => ?_)
    refine s_y (y_move rfl) rfl rfl rfl ?_
    refine s_y (y_extract rfl rfl) rfl rfl rfl ?_
    refine s_y (y_extract rfl rfl) rfl rfl rfl ?_
    refine s_y (y_assign rfl) rfl rfl rfl ?_
    refine s_y (y_assign rfl) rfl rfl rfl ?_
    refine s_nil ?_
    refine f_then ?_
    refine c_seq ?_
    refine c_region ?_
    refine s_y (y_move rfl) rfl rfl rfl ?_
    refine s_y (y_move rfl) rfl rfl rfl ?_
    refine s_do (do_buildSlice1 Try.tab ⟨rfl, rfl, rfl, rfl⟩ rfl rfl rfl rfl) rfl rfl rfl (fun b27 => ?_)
    refine s_do (do_appendB (by_ := 4) (news := [.int .u32 ((y % 1000000000 : Nat) : Int)]) Try.tab 2 rfl hB rfl ⟨rfl, rfl, rfl, rfl⟩ rfl (by simp) rfl (by omega) (cells_row0 0 rfl rfl) rfl (by simp [Value.oneCell']) (by have := hk9 k (hy ▸ hy0); unfold maxLen; omega) (by have := hk9 k (hy ▸ hy0); omega)) rfl rfl rfl (fun u => ?_)
    refine s_y (y_assign rfl) rfl rfl rfl ?_
    refine s_nil ?_
    refine f_then ?_
    refine c_region ?_
    refine s_y (y_move rfl) rfl rfl rfl ?_
    refine s_y (y_assign rfl) rfl rfl rfl ?_
    refine s_nil ?_
    refine f_blockN ?_
    have e1 : y / 1000000000 = x / 10 ^ (9 * (k + 1)) := by rw [hy, Nat.div_div_eq_div_mul, Nat.mul_add, Nat.pow_add]
    have e2 : chk9 x k = y % 1000000000 := by rw [hy]; rfl
    refine f_roundP (k + 1, r.1.2, u.1.1, u.1.2, [r.1.1]) ⟨?_, ?_, .inl (Nat.succ_ne_zero k), Nat.succ_le_succ (hk9 k (hy ▸ hy0))⟩ ?_ ⟨rfl, rfl, trivial⟩ (fun w h => ?_)
    · show NatV (K W ([r.1.1] ++ N)) r.1.2 (x / 10 ^ (9 * (k + 1)))
      rw [← e1]
      exact r.2.cls fun w h => h.front_of
    · show Buf 123 1 u.1.1 u.1.2 (k + 1) (chks x (k + 1))
      rw [chks_snoc, e2]
      exact u.2
    · show x / 10 ^ (9 * (k + 1)) < x / 10 ^ (9 * k)
      rw [← e1, ← hy]
      omega
    · exact K.dropM (A := [u.1.2, r.1.1]) (h.tail.front 1)
end Go.KL
end

section
/- Walks: Frac.String. -/
namespace Go.KL
open Go.Proofs
/-- A fraction's text. -/
def fracL (p q : Nat) : List Nat := if q = 1 then numL p else numL p ++ ([47] ++ numL q)
theorem fracL_lt {p q : Nat} : ∀ x ∈ fracL p q, x < 256 := by
  intro x h
  unfold fracL at h
  split at h
  · exact numL_lt x h
  · rcases List.mem_append.1 h with h | h
    · exact numL_lt x h
    · rcases List.mem_append.1 h with h | h
      · simp at h; omega
      · exact numL_lt x h
theorem small_chunks {x : Nat} (h : x < 2 ^ 16384) : ∀ k, x / 10 ^ (9 * k) ≠ 0 → k ≤ 100000 := by
  intro k hk
  obtain ⟨e, he⟩ : ∃ e, e = 16384 := ⟨_, rfl⟩
  rw [← he] at h
  apply Classical.byContradiction
  intro hk2
  apply hk
  refine Nat.div_eq_of_lt (Nat.lt_of_lt_of_le h ?_)
  refine Nat.le_trans (Nat.pow_le_pow_right (by omega) (show e ≤ 9 * k by omega)) ?_
  exact Nat.pow_le_pow_left (by omega) _
theorem numL_small {x : Nat} (h : x < 2 ^ 16384) : (numL x).length ≤ 16385 := by
  obtain ⟨e, he⟩ : ∃ e, e = 16384 := ⟨_, rfl⟩
  rw [← he] at h
  rw [show 16385 = e + 1 by omega]
  exact numL_len (Nat.lt_of_lt_of_le h (Nat.pow_le_pow_left (by omega) _))
attribute [local irreducible] SC St Fin Sq Ylds Doos Sets Enters Spec CellIs CellsAre Then Ret Rnd Chn resOK ints bools recs arr
set_option maxRecDepth 10000 in
set_option maxHeartbeats 8000000 in
theorem fstr_spec {W : World} {N : List Chunk} {a b : Value} {p q : Nat} [ha : NatV (K W N) a p] [hb : NatV (K W N) b (q - 1)] (hq : q ≠ 0) (hp2 : p < 2 ^ 16384) (hq2 : q < 2 ^ 16384) :
    Spec Try.prog 33 #[.agg #[a, b]] (K W N) (fun _ : Unit => strV (fracL p q)) (fun _ => K W N) := by
  have hw1 : wl p ≤ 10000 := Nat.le_trans (wl_16k hp2) (by omega)
  have hw2 : wl q ≤ 10000 := Nat.le_trans (wl_16k hq2) (by omega)
  have hw3 : wl (q - 1) ≤ 10000 := Nat.le_trans (wl_mono (Nat.sub_le q 1)) hw2
  refine enter (args := [_]) Try.func33 rfl Try.ntmps33 rfl ?_
  refine c_seq ?_
  refine c_region ?_
  refine s_do (do_box rfl) rfl rfl rfl (fun b1 => ?_)
  refine s_y (y_assign rfl) rfl rfl rfl ?_
  refine s_nil ?_
  refine f_then ?_
  refine c_seq ?_
  refine c_region ?_
  refine s_y (y_fieldAddr0 Try.tab rfl rfl rfl rfl rfl) rfl rfl rfl ?_
  refine s_y (y_load Try.tab rfl rfl (cell_row 0 rfl rfl)) rfl rfl rfl ?_
  refine s_y (y_build71 rfl) rfl rfl rfl ?_
  refine s_call (en_f rfl Try.call66) (nstr_spec (N := [(b1, row 25 [a, b])] :: N) (x := p) hw1 (small_chunks hp2)) rfl rfl rfl (fun _ => ?_)
  have hn1 := numL_small hp2
  have hn2 := numL_small hq2
  by_cases h1 : q = 1
  · have hz : wl (q - 1) = 0 := by rw [h1]; exact wl_zero
    have hf : fracL p q = numL p := if_pos h1
    rw [hf]
    refine s_y (y_assign rfl) rfl rfl rfl ?_
    refine s_nil ?_
    refine f_then ?_
    refine c_seq ?_
    refine c_seq ?_
    refine c_region ?_
    refine s_y (y_fieldAddrB Try.tab 1 rfl rfl rfl rfl rfl) rfl rfl rfl ?_
    refine s_y (y_load Try.tab rfl rfl (cell_row 0 rfl rfl)) rfl rfl rfl ?_
    refine s_y (y_lenR Try.tab rfl rfl) rfl rfl rfl ?_
    refine s_y (y_F (y_gtr rfl rfl) (by omega)) rfl rfl rfl ?_
    refine s_nil ?_
    refine f_then ?_
    refine c_condF rfl ?_
    refine c_skip ?_
    refine f_then ?_
    refine c_seq ?_
    refine c_region ?_
    refine s_y (y_move rfl) rfl rfl rfl ?_
    refine s_y (y_assign rfl) rfl rfl rfl ?_
    refine s_nil ?_
    refine f_then ?_
    refine c_ret ?_
    exact f_ret () (res1 rfl rfl) (fun w h => h.tail)
  · have hz : wl (q - 1) ≠ 0 := mt wl_eq0.1 (by omega)
    have hf : fracL p q = numL p ++ ([47] ++ numL q) := if_neg h1
    rw [hf]
    refine s_y (y_assign rfl) rfl rfl rfl ?_
    refine s_nil ?_
    refine f_then ?_
    refine c_seq ?_
    refine c_seq ?_
    refine c_region ?_
    refine s_y (y_fieldAddrB Try.tab 1 rfl rfl rfl rfl rfl) rfl rfl rfl ?_
    refine s_y (y_load Try.tab rfl rfl (cell_row 0 rfl rfl)) rfl rfl rfl ?_
    refine s_y (y_lenR Try.tab rfl rfl) rfl rfl rfl ?_
    refine s_y (y_T (y_gtr rfl rfl) (by omega)) rfl rfl rfl ?_
    refine s_nil ?_
    refine f_then ?_
    refine c_condT rfl ?_
    refine c_region ?_
    refine s_y (y_move rfl) rfl rfl rfl ?_
    refine s_y (y_loadA Try.tab rfl rfl rfl rfl (cells_row0 0 rfl rfl)) rfl rfl rfl ?_
    refine s_call (en_f rfl Try.call64) (bx1 (u := fun v => v) (den_spec (d := q - 1) (by omega)) rfl) rfl rfl rfl (fun r => ?_)
    haveI : NatV (K W (r.L :: N)) r.v q := r.ok.of (by omega)
    refine s_y (y_build71 rfl) rfl rfl rfl ?_
    refine s_call (en_f rfl Try.call66) (nstr_spec (N := [(b1, row 25 [a, b])] :: r.L :: N) (x := q) hw2 (small_chunks hq2)) rfl rfl rfl (fun _ => ?_)
    refine s_y (y_cat (a := [47]) rfl rfl (by simp only [List.length_cons, List.length_nil]; omega)) rfl rfl rfl ?_
    refine s_y (y_cat rfl rfl (by rw [List.length_append]; simp only [List.length_cons, List.length_nil]; omega)) rfl rfl rfl ?_
    refine s_y (y_assign rfl) rfl rfl rfl ?_
    refine s_nil ?_
    refine f_then ?_
    refine c_seq ?_
    refine c_region ?_
    refine s_y (y_move rfl) rfl rfl rfl ?_
    refine s_y (y_assign rfl) rfl rfl rfl ?_
    refine s_nil ?_
    refine f_then ?_
    refine c_ret ?_
    exact f_ret () (res1 rfl rfl) (fun w h => h.tail.tail)
end Go.KL
end

section
/- Walks: awake. -/
namespace Go.KL
open Go.Proofs
theorem awake_num1 : accN 10 2 3 0 / Nat.gcd (accN 10 2 3 0) (bino 10 3) = 7 := by decide +kernel
theorem awake_num2 : bino 10 3 / Nat.gcd (accN 10 2 3 0) (bino 10 3) - 1 = 14 := by decide +kernel
theorem awake_plan : planF 10 0 5 0 100000 10 0 = (3, 0) := by decide +kernel
theorem awake_jud : jud 5 1 (fun _ => false) 4 0 = (1, 4) := by decide +kernel
theorem awake_txt : fracL 7 15 = [55, 47, 49, 53] := by decide +kernel
theorem BoolV.own {W : World} {Ls : List Chunk} {b m : Nat} {f : Nat → Bool} {rest : List Value} {ch : Chunk} (hm : m ≤ maxLen) : BoolV (K W (((b, arr 4 m (fun i => .bool (f i)) rest) :: ch) :: Ls)) (.slice (some ⟨b, 0, none⟩) m m) m f := by
  refine ⟨⟨_, _, rfl, Nat.le_refl _, fun _ => ⟨b, 0, rfl, fun i hi j hj w hw => ?_⟩⟩, by unfold maxLen at hm; omega⟩
  obtain rfl : j = 0 := by omega
  have h3 : w.heap[b]? = some (row 4 ((List.range m).map (fun i => Value.bool (f i)) ++ rest)) := hw.at (i := 0) rfl
  simp only [World.cell?, h3, Nat.zero_add, Nat.mul_one, Nat.add_zero]
  simpa using arr_get (rest := rest) (f := fun i => Value.bool (f i)) hi
theorem small16 {x : Nat} (h : x ≤ 16) : x < 2 ^ 16384 := by
  obtain ⟨e, he⟩ : ∃ e, e = 16384 := ⟨_, rfl⟩
  rw [← he]
  exact Nat.lt_of_le_of_lt h (Nat.lt_of_lt_of_le (by decide : 16 < 2 ^ 5) (Nat.pow_le_pow_right (by decide) (by omega)))
attribute [local irreducible] SC St Fin Sq Ylds Doos Sets Enters Spec CellIs CellsAre Then Ret Rnd Chn resOK ints bools recs arr
set_option maxRecDepth 10000 in
set_option maxHeartbeats 8000000 in
theorem awake_spec {W : World} {N : List Chunk} : Spec Try.prog 19 #[] (K W N) (fun _ : Unit => .bool true) (fun _ => K W N) := by
  refine enter (args := []) Try.func19 rfl Try.ntmps19 rfl ?_
  refine c_seq ?_
  refine c_region ?_
  refine s_y (y_assign rfl) rfl rfl rfl ?_
  refine s_nil ?_
  refine f_then ?_
  refine c_seq ?_
  refine c_region ?_
  refine s_call (en_f rfl Try.call20) (accept_spec (W := W) (N := N) (lot := 10) (bad := 2) (n := 3) (c := 0) (by omega) (by omega) (by omega)) rfl rfl rfl (fun r => ?_)
  refine s_y (y_move rfl) rfl rfl rfl ?_
  refine s_y (y_extract rfl rfl) rfl rfl rfl ?_
  refine s_y (y_extract rfl rfl) rfl rfl rfl ?_
  refine s_do (do_alloc Try.tab rfl) rfl rfl rfl (fun b1 => ?_)
  refine s_set (set_25 0 rfl rfl rfl rfl) rfl rfl ?_
  refine s_y (y_assign rfl) rfl rfl rfl ?_
  refine s_nil ?_
  refine f_then ?_
  refine c_seq ?_
  refine c_region ?_
  refine St.cls (C' := K W ([(b1, row 25 [r.v1, r.v2])] :: r.L :: N)) ?_ (fun w h => h)
  refine s_call (en_f rfl Try.call25) (plan_spec (N := [(b1, row 25 [r.v1, r.v2])] :: r.L :: N) (lot := 10) (good := 0) (bad := 5) (alpha := 0) (beta := 100000) (by omega) (by omega) (by omega) (by omega) (by omega) (by omega)) rfl rfl rfl (fun _ => ?_)
  rw [awake_plan]
  refine s_y (y_move rfl) rfl rfl rfl ?_
  refine s_y (y_extract rfl rfl) rfl rfl rfl ?_
  refine s_y (y_extract rfl rfl) rfl rfl rfl ?_
  refine s_y (y_extract rfl rfl) rfl rfl rfl ?_
  refine s_y (y_assign rfl) rfl rfl rfl ?_
  refine s_y (y_assign rfl) rfl rfl rfl ?_
  refine s_y (y_assign rfl) rfl rfl rfl ?_
  refine s_nil ?_
  refine f_then ?_
  refine c_seq ?_
  refine c_region ?_
  refine s_do (makes (by_ := 1) (m := 4) Try.tab rfl rfl rfl rfl rfl rfl ⟨by omega, by omega⟩) rfl rfl rfl (fun b3 => ?_)
  haveI hbv : BoolV (K W ([(b3, arr 4 4 (fun _ => .bool false) [])] :: [(b1, row 25 [r.v1, r.v2])] :: r.L :: N)) (.slice (some ⟨b3, 0, none⟩) 4 4) 4 (fun _ => false) := BoolV.own (m := 4) (f := fun _ => false) (by unfold maxLen; omega)
  refine s_call (en_f rfl Try.call28) (judge_spec (n := 5) (c := 1) (len := 4) (f := fun _ => false) (by omega) (by omega) (by omega) (by omega)) rfl rfl rfl (fun _ => ?_)
  rw [awake_jud]
  refine s_y (y_move rfl) rfl rfl rfl ?_
  refine s_y (y_extract rfl rfl) rfl rfl rfl ?_
  refine s_y (y_extract rfl rfl) rfl rfl rfl ?_
  refine s_y (y_extract rfl rfl) rfl rfl rfl ?_
  refine s_y (y_assign rfl) rfl rfl rfl ?_
  refine s_y (y_assign rfl) rfl rfl rfl ?_
  refine s_y (y_assign rfl) rfl rfl rfl ?_
  refine s_nil ?_
  refine f_then ?_
  refine c_seq ?_
  refine c_seq ?_
  refine c_region ?_
  refine s_y (y_loadA Try.tab rfl rfl rfl rfl (cells_row0 1 rfl rfl)) rfl rfl rfl ?_
  haveI h7 : NatV (K W (r.L :: N)) r.v1 7 := r.ok1.of awake_num1
  haveI h14 : NatV (K W (r.L :: N)) r.v2 (15 - 1) := r.ok2.of awake_num2
  refine s_call (en_f rfl Try.call33) (fstr_spec (p := 7) (q := 15) (by omega) (small16 (by omega)) (small16 (by omega))) rfl rfl rfl (fun _ => ?_)
  refine s_y (y_neqT (b := [55, 47, 49, 53]) rfl rfl fracL_lt (by decide)) rfl rfl rfl ?_
  rw [awake_txt]
  refine s_y (y_move rfl) rfl rfl rfl ?_
  refine s_y (y_move rfl) rfl rfl rfl ?_
  refine s_y (y_F (y_neq rfl rfl) (by omega)) rfl rfl rfl ?_
  refine s_y (y_pickF rfl rfl) rfl rfl rfl ?_
  refine s_y (y_move rfl) rfl rfl rfl ?_
  refine s_y (y_move rfl) rfl rfl rfl ?_
  refine s_y (y_F (y_neq rfl rfl) (by omega)) rfl rfl rfl ?_
  refine s_y (y_pickF rfl rfl) rfl rfl rfl ?_
  refine s_y (y_move rfl) rfl rfl rfl ?_
  refine s_y (y_move rfl) rfl rfl rfl ?_
  refine s_y (y_F (y_neq rfl rfl) (by omega)) rfl rfl rfl ?_
  refine s_y (y_pickF rfl rfl) rfl rfl rfl ?_
  refine s_y (y_move rfl) rfl rfl rfl ?_
  refine s_y (y_move rfl) rfl rfl rfl ?_
  refine s_y (y_F (y_neq rfl rfl) (by omega)) rfl rfl rfl ?_
  refine s_y (y_pickF rfl rfl) rfl rfl rfl ?_
  refine s_y (y_move rfl) rfl rfl rfl ?_
  refine s_y (y_move rfl) rfl rfl rfl ?_
  refine s_y (y_F (y_neq rfl rfl) (by omega)) rfl rfl rfl ?_
  refine s_y (y_pickF rfl rfl) rfl rfl rfl ?_
  refine s_y (y_move rfl) rfl rfl rfl ?_
  refine s_y (y_move rfl) rfl rfl rfl ?_
  refine s_y (y_F (y_neq rfl rfl) (by omega)) rfl rfl rfl ?_
  refine s_y (y_pickF rfl rfl) rfl rfl rfl ?_
  refine s_y (y_move rfl) rfl rfl rfl ?_
  refine s_y (y_move rfl) rfl rfl rfl ?_
  refine s_y (y_F (y_neq rfl rfl) (by omega)) rfl rfl rfl ?_
  refine s_y (y_pickF rfl rfl) rfl rfl rfl ?_
  refine s_nil ?_
  refine f_then ?_
  refine c_condF rfl ?_
  refine c_skip ?_
  refine f_then ?_
  refine c_seq ?_
  refine c_region ?_
  refine s_y (y_assign rfl) rfl rfl rfl ?_
  refine s_nil ?_
  refine f_then ?_
  refine c_ret ?_
  exact f_ret () (res1 rfl rfl) (fun w h => h.tail.tail.tail)
end Go.KL
end

section
/- From the reading of a law's arguments to views of slices; what a law that writes nothing old leaves behind. No program in sight. -/
namespace Go.KL
open Go.ChangeShapes Go.WideShapes Go.RowKit Go.WideElems
section
variable {H : Type} {enc : TypeId × Value → H} {P : Program}

theorem Ext.since {W w : World} (h : Ext W w) : W.Since W.heap.size w := ⟨h.os, h.tape, h.output, h.size, h.block⟩

theorem trodAll_ext {W w : World} (he : Ext W w) (hl : laidOutB P = true) {sp : Nat → Bool} : ∀ {ts : List TypeId} {vs : List Value} {ds : List (DataW H)} {ps : List MemPlace},
    (∀ t ∈ ts, P.readableRec t = true ∧ t < P.types.size) → DataW.TrodAll enc P W 0 (fun _ => true) true ts vs ds ps → (∀ p ∈ ps, p.block < W.heap.size) → (∀ p ∈ ps, sp p.block = true) →
    DataW.TrodAll enc P w 0 sp true ts vs ds ps
  | [], vs, ds, ps, _, h, _, _ => by
    obtain ⟨rfl, rfl, rfl⟩ := trodAll_nil h
    exact trodAll_mk0
  | t :: ts, vs, ds, ps, hr, h, hb, hsp => by
    obtain ⟨v, vs', d, ds', p, q, rfl, rfl, rfl, h1, h2⟩ := trodAll_cons h
    have hr1 := hr t (by simp)
    exact trodAll_cons_mk (Trod_stays hl hr1.1 hr1.2 h1 (fun x hx => he.since.sameAt (hb x (by simp [hx]))) (fun x hx => hsp x (by simp [hx])))
      (trodAll_ext he hl (fun t ht => hr t (by simp [ht])) h2 (fun x hx => hb x (by simp [hx])) (fun x hx => hsp x (by simp [hx])))

/-- What a law leaves behind that has written to nothing that was there: true, and its arguments read as they did. -/
theorem law_post {f : Func} {s : ChangeSpec} {W W' : World} {args : Array Value} {ds gs : List (DataW H)} {before : List MemPlace} {t : TypeId}
    (hl : laidOutB P = true) (hts : ∀ t ∈ f.params.toList, P.readableRec t = true ∧ t < P.types.size) (hv : s.vars = []) (hr : f.resultTypes = #[t]) (ht : P.underlying t = some .bool)
    (hW : DataW.Whole enc P f.params.toList s.vars false W args.toList ds gs before) (hfn : s.fn H (ds ++ gs) = { results := [.lit (.bool true)], args := ds }) (he : Ext W W') :
    s.post enc P f false true false false W args (.bool true) W' := by
  have hlt := hW.lt
  have hW' := hW
  obtain ⟨p, q, hA, hV, rfl, hz, hn⟩ := hW'
  rw [hv] at hV
  obtain ⟨rfl, rfl⟩ := trodVars_none hV
  refine ⟨ds, [], p ++ [], [], p, [], hW, ?_, ?_, ?_, ?_, ?_⟩
  · rw [hfn, hr]
    exact trodAll_cons_mk (shut_bool ht true) trodAll_mk0
  · rw [hfn]
    refine trodAll_ext he hl hts hA (fun x hx => hlt x (by simp [hx])) (fun x hx => ?_)
    simpa using hlt x (by simp [hx])
  · rw [hfn, hv]
    exact hV
  · exact he.since.frame _
  · intro h; cases h

section
variable {W : World} {sp : Nat → Bool} {held : Bool} {fuel : Nat} {cs : List Value} {x : DataW H × List MemPlace} {t e : TypeId} {s : Nat}

theorem cell_K {b o : Nat} {v : Value} (h : W.cell? ⟨b, o, none⟩ = some v) : CellIs (K W []) ⟨b, o, none⟩ v := by
  intro w hw
  have hb : b < W.heap.size := by
    rcases Nat.lt_or_ge b W.heap.size with hb | hb
    · exact hb
    · simp [World.cell?, Array.getElem?_eq_none hb] at h
  rw [hw.toExt.since.cell (a := ⟨b, o, none⟩) hb, h]

/-- A slice, opened: its cells by a function; each element reads. -/
theorem open_view (ht : P.underlying t = some (.slice e)) (hs : P.cellsOf e = s) (hpos : 0 < s) (h : DataW.trod enc P W 0 sp held fuel t cs = some x) :
    ∃ pa n c G, cs = [.slice pa n c] ∧ n ≤ 9223372036854775807 ∧ SlV (K W []) (.slice pa n c) n s G ∧ ∀ i, i < n → ∃ z m, DataW.trod enc P W 0 sp held m e ((List.range s).map (G i)) = some z := by
  rcases DataW.trod_slice ht h with ⟨rfl, _⟩ | ⟨a, len, cap, elems, rest, m, _, rfl, _, _, hlc, hcm, hlen, hel, _⟩
  · exact ⟨none, 0, 0, fun _ _ => undef, rfl, by omega, ⟨none, 0, rfl, by omega, fun h => by omega⟩, fun i hi => by omega⟩
  have hmax : cap ≤ 9223372036854775807 := by
    have : maxLen ≤ 9223372036854775807 := by decide
    omega
  by_cases h0 : len = 0
  · subst h0
    exact ⟨some a, 0, cap, fun _ _ => undef, rfl, by omega, ⟨some a, cap, rfl, by omega, fun h => by omega⟩, fun i hi => by omega⟩
  have hone : ∀ i, i < len → ∃ el z, (∀ j, j < s → W.cell? (a.add (i * s + j)) = el[j]?) ∧ el.length = s ∧ DataW.trod enc P W 0 sp held m e el = some z := by
    intro i hi
    have := hel i hi
    rw [hs] at this
    have hz : ∃ z, elems[i]? = some z := ⟨elems[i]'(by omega), by simp [List.getElem?_eq_getElem (show i < elems.length by omega)]⟩
    obtain ⟨z, hz⟩ := hz
    rw [hz, Option.bind_eq_some_iff] at this
    obtain ⟨el, h1, h2⟩ := this
    obtain ⟨_, h4, h5⟩ := World.cells?_some h1
    refine ⟨el, z, fun j hj => ?_, h4, h2⟩
    rw [← h5 j hj]
    obtain ⟨b, o, spot⟩ := a
    by_cases e1 : i * s = 0 <;> by_cases e2 : j = 0 <;> simp [Addr.add, e1, e2, Nat.add_assoc]
  obtain ⟨b, o, spot⟩ := a
  have hspot : spot = none := by
    obtain ⟨el, z, h1, h2, _⟩ := hone 0 (by omega)
    have := h1 0 hpos
    rw [List.getElem?_eq_getElem (by omega)] at this
    simpa [Addr.add] using World.cell?_spot this
  subst hspot
  have hG : ∀ i, i < len → ∃ z, DataW.trod enc P W 0 sp held m e ((List.range s).map fun j => (W.cell? ⟨b, o + (i * s + j), none⟩).getD undef) = some z ∧ ∀ j, j < s → W.cell? ⟨b, o + (i * s + j), none⟩ = some ((W.cell? ⟨b, o + (i * s + j), none⟩).getD undef) := by
    intro i hi
    obtain ⟨el, z, h1, h2, h3⟩ := hone i hi
    have h1 : ∀ j, j < s → W.cell? ⟨b, o + (i * s + j), none⟩ = el[j]? := fun j hj => by rw [← h1 j hj, add_plain]
    refine ⟨z, ?_, fun j hj => ?_⟩
    · have : ((List.range s).map fun j => (W.cell? ⟨b, o + (i * s + j), none⟩).getD undef) = el := by
        apply List.ext_getElem?
        intro j
        by_cases hj : j < s
        · rw [List.getElem?_map, List.getElem?_range hj]
          simp only [Option.map_some, h1 j hj]
          rw [List.getElem?_eq_getElem (by omega)]
          rfl
        · rw [List.getElem?_eq_none (by simp; omega), List.getElem?_eq_none (by omega)]
      rw [this]; exact h3
    · rw [h1 j hj, List.getElem?_eq_getElem (by omega)]; rfl
  refine ⟨some ⟨b, o, none⟩, len, cap, fun i j => (W.cell? ⟨b, o + (i * s + j), none⟩).getD undef, rfl, by omega, ⟨_, _, rfl, hlc, fun _ => ⟨b, o, rfl, fun i hi j hj => ?_⟩⟩, fun i hi => ?_⟩
  · rw [Nat.add_assoc]
    exact cell_K ((hG i hi).choose_spec.2 j hj)
  · obtain ⟨z, hz, _⟩ := hG i hi
    exact ⟨z, m, hz⟩

def vI : Value → Int
  | .int _ k => k
  | _ => 0
def vB : Value → Bool
  | .bool b => b
  | _ => false
def i64 (k : Int) : Prop := -9223372036854775808 ≤ k ∧ k ≤ 9223372036854775807

theorem trod_i64 {v : Value} (ht : P.underlying t = some (.int .i64)) (h : DataW.trod enc P W 0 sp held fuel t [v] = some x) : v = .int .i64 (vI v) ∧ i64 (vI v) := by
  obtain ⟨k, h1, _, h2⟩ := DataW.trod_int ht h
  injection h1 with h1
  subst h1
  exact ⟨rfl, bounds_i64 h2⟩
theorem trod_bo {v : Value} (ht : P.underlying t = some .bool) (h : DataW.trod enc P W 0 sp held fuel t [v] = some x) : v = .bool (vB v) := by
  obtain ⟨k, h1, _⟩ := DataW.trod_bool ht h
  injection h1 with h1
  subst h1
  rfl

theorem open_ints (ht : P.underlying t = some (.slice e)) (he : P.underlying e = some (.int .i64)) (hs : P.cellsOf e = 1) (h : DataW.trod enc P W 0 sp held fuel t cs = some x) :
    ∃ pa n c f, cs = [.slice pa n c] ∧ n ≤ 9223372036854775807 ∧ SlI (K W []) (.slice pa n c) n f ∧ ∀ i, i < n → i64 (f i) := by
  obtain ⟨pa, n, c, G, h1, h2, h3, h4⟩ := open_view ht hs (by omega) h
  have h5 : ∀ i, i < n → G i 0 = .int .i64 (vI (G i 0)) ∧ i64 (vI (G i 0)) := fun i hi => by
    obtain ⟨z, m, hz⟩ := h4 i hi
    exact trod_i64 he hz
  refine ⟨pa, n, c, fun i => vI (G i 0), h1, h2, h3.congr fun i hi j hj => ?_, fun i hi => (h5 i hi).2⟩
  have : j = 0 := by omega
  subst this
  exact (h5 i hi).1
theorem open_bools (ht : P.underlying t = some (.slice e)) (he : P.underlying e = some .bool) (hs : P.cellsOf e = 1) (h : DataW.trod enc P W 0 sp held fuel t cs = some x) :
    ∃ pa n c f, cs = [.slice pa n c] ∧ n ≤ 9223372036854775807 ∧ SlB (K W []) (.slice pa n c) n f := by
  obtain ⟨pa, n, c, G, h1, h2, h3, h4⟩ := open_view ht hs (by omega) h
  refine ⟨pa, n, c, fun i => vB (G i 0), h1, h2, h3.congr fun i hi j hj => ?_⟩
  have : j = 0 := by omega
  subst this
  obtain ⟨z, m, hz⟩ := h4 i hi
  exact trod_bo he hz
/-- Elements of s cells, each an integer. -/
theorem open_recs (ht : P.underlying t = some (.slice e)) (hs : P.cellsOf e = s) (hpos : 0 < s) (hel : ∀ (G : Nat → Value) m z, DataW.trod enc P W 0 sp held m e ((List.range s).map G) = some z → ∀ j, j < s → G j = .int .i64 (vI (G j)) ∧ i64 (vI (G j)))
    (h : DataW.trod enc P W 0 sp held fuel t cs = some x) :
    ∃ (pa : Option Addr) (n c : Nat) (f : Nat → Nat → Int), cs = [.slice pa n c] ∧ n ≤ 9223372036854775807 ∧ SlV (K W []) (.slice pa n c) n s (fun i j => .int .i64 (f i j)) ∧ ∀ i, i < n → ∀ j, j < s → i64 (f i j) := by
  obtain ⟨pa, n, c, G, h1, h2, h3, h4⟩ := open_view ht hs hpos h
  have h5 : ∀ i, i < n → ∀ j, j < s → G i j = .int .i64 (vI (G i j)) ∧ i64 (vI (G i j)) := fun i hi j hj => by
    obtain ⟨z, m, hz⟩ := h4 i hi
    exact hel _ _ _ hz j hj
  exact ⟨pa, n, c, fun i j => vI (G i j), h1, h2, h3.congr fun i hi j hj => (h5 i hi j hj).1, fun i hi j hj => (h5 i hi j hj).2⟩
/-- The value of an argument of a slice type. -/
theorem open_arg {r : Reach} {b0 : Nat} {v : Value} {d : DataW H} {ps : List MemPlace} (ht : P.underlying t = some (.slice e)) (hval : Value.okWide P W r b0 t v) (hd : DataW.Trod enc P W 0 sp held t v d ps) :
    ∃ pa n c m, v = .slice pa n c ∧ DataW.trod enc P W 0 sp held m t [.slice pa n c] = some (d, ps) := by
  obtain ⟨pa, n, c, rfl⟩ := okWide_slice ht hval
  obtain ⟨m, hm⟩ := hd
  exact ⟨pa, n, c, m, rfl, by simpa [Value.cells] using hm⟩
end
end
end Go.KL
end

section
/- The arguments of the sample laws, opened. -/
namespace Go.KL
open Go.ChangeShapes Go.WideShapes Go.RowKit Go.WideElems
open Go.Proofs
theorem u3 : Try.prog.underlying 3 = some (.int .i64) := by kernel_rfl
theorem u4 : Try.prog.underlying 4 = some .bool := by kernel_rfl
theorem u63 : Try.prog.underlying 63 = some (.int .u64) := by kernel_rfl
theorem u32 : Try.prog.underlying 32 = some (.slice 3) := by kernel_rfl
theorem u41 : Try.prog.underlying 41 = some (.slice 4) := by kernel_rfl
theorem z3 : Try.prog.cellsOf 3 = 1 := by kernel_rfl
theorem z4 : Try.prog.cellsOf 4 = 1 := by kernel_rfl
theorem laidOut : laidOutB Try.prog = true := by kernel_rfl
section
variable {H : Type} {enc : TypeId × Value → H} {W : World} {sp : Nat → Bool} {held : Bool}
section
variable {r : Reach} {b0 : Nat} {v : Value} {d : DataW H} {ps : List MemPlace}
set_option maxRecDepth 100000 in
/-- An argument of the type int. -/
theorem arg3 (hval : Value.okWide Try.prog W r b0 3 v) (hd : DataW.Trod enc Try.prog W 0 sp held 3 v d ps) : ∃ n : Int, v = .int .i64 n ∧ i64 n := by
  obtain ⟨n, h1, _, _, h2⟩ := open_int u3 hval hd
  exact ⟨n, h1, bounds_i64 h2⟩
set_option maxRecDepth 100000 in
/-- Of the type uint64. -/
theorem arg63 (hval : Value.okWide Try.prog W r b0 63 v) (hd : DataW.Trod enc Try.prog W 0 sp held 63 v d ps) : ∃ n : Nat, v = .int .u64 (n : Int) ∧ n < 18446744073709551616 := by
  obtain ⟨n, h1, _, _, h2⟩ := open_int u63 hval hd
  have h3 := bounds_u64 h2
  exact ⟨n.toNat, by rw [h1]; congr 1; omega, by omega⟩
set_option maxRecDepth 100000 in
/-- Of the type []int. -/
theorem arg32 (hval : Value.okWide Try.prog W r b0 32 v) (hd : DataW.Trod enc Try.prog W 0 sp held 32 v d ps) : ∃ n f, SlI (K W []) v n f ∧ n ≤ 9223372036854775807 ∧ ∀ i, i < n → i64 (f i) := by
  obtain ⟨pa, n, c, m, rfl, h⟩ := open_arg u32 hval hd
  obtain ⟨pa', n', c', f, h1, h2, h3, h4⟩ := open_ints u32 u3 z3 h
  injection h1 with h1
  rw [h1]
  exact ⟨n', f, h3, h2, h4⟩
set_option maxRecDepth 100000 in
/-- Of the type []bool. -/
theorem arg41 (hval : Value.okWide Try.prog W r b0 41 v) (hd : DataW.Trod enc Try.prog W 0 sp held 41 v d ps) : ∃ n f, SlB (K W []) v n f ∧ n ≤ 9223372036854775807 := by
  obtain ⟨pa, n, c, m, rfl, h⟩ := open_arg u41 hval hd
  obtain ⟨pa', n', c', f, h1, h2, h3⟩ := open_bools u41 u4 z4 h
  injection h1 with h1
  rw [h1]
  exact ⟨n', f, h3, h2⟩
theorem y4 : Try.prog.bytesOf 4 = 1 := by kernel_rfl
theorem y3 : Try.prog.bytesOf 3 = 8 := by kernel_rfl
/-- How long a slice can be, by the form's own reach. -/
theorem long_arg {t e : TypeId} {k n : Nat} {ts : List TypeId} {ds : List (DataW H)} {j : Nat} {pa : Option Addr} {c : Nat} (ht : Try.prog.underlying t = some (.slice e)) (hk : Try.prog.bytesOf e = k) (hd : DataW.Trod enc Try.prog W 0 sp held t (.slice pa n c) d ps)
    (hs : (DataW.weightsEach Try.prog ts ds).all (· ≤ reachBytes) = true) (hj : ts[j]? = some t) (hj2 : ds[j]? = some d) : n * k ≤ 140737488351232 := by
  obtain ⟨fuel, h⟩ := hd
  rcases DataW.trod_slice ht (by simpa [Value.cells] using h) with ⟨h1, _⟩ | ⟨a, len, cap, elems, rest, m, _, h1, h2, _, _, _, h3, _⟩
  · simp only [List.cons.injEq, Value.slice.injEq, and_true] at h1
    rw [h1.2.1, Nat.zero_mul]
    exact Nat.zero_le _
  · simp only [List.cons.injEq, Value.slice.injEq, and_true] at h1
    have h4 := congrArg Prod.fst h2
    dsimp only at h4
    rw [h4] at hj2
    have h5 := sized_slice hs hj hj2 ht
    rw [hk, List.length_map, List.length_map, h3, ← h1.2.1] at h5
    have h6 : n * k ≤ (n + rest.length) * k := Nat.mul_le_mul_right k (Nat.le_add_right n _)
    unfold reachBytes at h5
    omega
theorem long41 {n : Nat} {f : Nat → Bool} {ts : List TypeId} {ds : List (DataW H)} {j : Nat} (hv : SlB (K W []) v n f) (hd : DataW.Trod enc Try.prog W 0 sp held 41 v d ps) (hs : (DataW.weightsEach Try.prog ts ds).all (· ≤ reachBytes) = true) (hj : ts[j]? = some 41) (hj2 : ds[j]? = some d) : n ≤ 140737488355328 := by
  obtain ⟨pa, c, rfl, _⟩ := hv
  have := long_arg u41 y4 hd hs hj hj2
  omega
end
end
end Go.KL
end

section
/- What the form of a claim asks of the program as a whole, reckoned once. No condition. -/
namespace Go.KL
open Go.Proofs
theorem ws_word : ∀ {w r : List Char}, (∀ c ∈ w, c ≠ Char.ofNat 32) → wordsSigns (w ++ Char.ofNat 32 :: r) = w :: wordsSigns r
  | [], r, _ => rfl
  | c :: w, r, h => by
    have hc : c ≠ Char.ofNat 32 := h c (by simp)
    have ih := ws_word (w := w) (r := r) fun x hx => h x (by simp [hx])
    rw [List.cons_append, wordsSigns, ih]
    exact hc
/-- The signs of the first three words of the program's own word, and of the rest, by their numbers. -/
def sg1 : List Nat := [104, 97, 114, 110, 101, 115, 115]
def sg2 : List Nat := [98, 56, 98, 53, 48, 97, 56, 102, 102, 99, 56, 98, 98, 102, 48, 55, 54, 50, 101, 55, 48, 54, 97, 101, 55, 57, 50, 51, 97, 48, 57, 100, 52, 101, 49, 57, 49, 49, 100, 48, 50, 51, 99, 102, 57, 97, 97, 55, 48, 102, 49, 99, 51, 102, 50, 50, 97, 56, 56, 56, 102, 57, 57, 56]
def sg3 : List Nat := [99, 117, 116]
def sg4 : List Nat := [97, 116, 32, 103, 117, 105, 108, 108, 111, 99, 104, 101, 47, 103, 117, 105, 108, 108, 111, 99, 104, 101, 108, 97, 119, 48, 54, 46, 83, 97, 109, 112, 108, 101, 65, 99, 99, 101, 112, 116, 115, 32, 103, 117, 105, 108, 108, 111, 99, 104, 101, 47, 103, 117, 105, 108, 108, 111, 99, 104, 101, 108, 97, 119, 48, 54, 46, 83, 97, 109, 112, 108, 101, 80, 108, 97, 110, 115, 32, 103, 117, 105, 108, 108, 111, 99, 104, 101, 47, 103, 117, 105, 108, 108, 111, 99, 104, 101, 108, 97, 119, 48, 54, 46, 83, 97, 109, 112, 108, 101, 74, 117, 100, 103, 101, 115, 32, 103, 117, 105, 108, 108, 111, 99, 104, 101, 47, 103, 117, 105, 108, 108, 111, 99, 104, 101, 108, 97, 119, 48, 54, 46, 83, 97, 109, 112, 108, 101, 86, 101, 114, 100, 105, 99, 116, 115, 32, 103, 117, 105, 108, 108, 111, 99, 104, 101, 47, 103, 117, 105, 108, 108, 111, 99, 104, 101, 108, 97, 119, 48, 54, 46, 83, 97, 109, 112, 108, 101, 71, 114, 111, 119, 115, 32, 103, 117, 105, 108, 108, 111, 99, 104, 101, 47, 103, 117, 105, 108, 108, 111, 99, 104, 101, 108, 97, 119, 48, 54, 46, 83, 97, 109, 112, 108, 101, 84, 117, 114, 110, 101, 100, 32, 103, 117, 105, 108, 108, 111, 99, 104, 101, 47, 103, 117, 105, 108, 108, 111, 99, 104, 101, 108, 97, 119, 48, 54, 46, 83, 97, 109, 112, 108, 101, 83, 109, 97, 108, 108, 101, 114, 32, 103, 117, 105, 108, 108, 111, 99, 104, 101, 47, 103, 117, 105, 108, 108, 111, 99, 104, 101, 108, 97, 119, 48, 54, 46, 83, 97, 109, 112, 108, 101, 66, 111, 117, 110, 100, 115, 32, 103, 117, 105, 108, 108, 111, 99, 104, 101, 47, 103, 117, 105, 108, 108, 111, 99, 104, 101, 108, 97, 119, 48, 54, 46, 83, 97, 109, 112, 108, 101, 69, 120, 112, 108, 97, 105, 110, 115, 32, 103, 117, 105, 108, 108, 111, 99, 104, 101, 47, 103, 117, 105, 108, 108, 111, 99, 104, 101, 108, 97, 119, 48, 54, 46, 83, 97, 109, 112, 108, 101, 70, 105, 114, 115, 116, 32, 103, 117, 105, 108, 108, 111, 99, 104, 101, 47, 103, 117, 105, 108, 108, 111, 99, 104, 101, 108, 97, 119, 48, 54, 46, 83, 97, 109, 112, 108, 101, 69, 120, 112, 101, 99, 116, 115, 32, 103, 117, 105, 108, 108, 111, 99, 104, 101, 47, 103, 117, 105, 108, 108, 111, 99, 104, 101, 108, 97, 119, 48, 54, 46, 83, 97, 109, 112, 108, 101, 78, 101, 120, 116, 32, 103, 117, 105, 108, 108, 111, 99, 104, 101, 47, 103, 117, 105, 108, 108, 111, 99, 104, 101, 108, 97, 119, 48, 54, 46, 83, 97, 109, 112, 108, 101, 65, 108, 108, 111, 116, 115, 32, 103, 117, 105, 108, 108, 111, 99, 104, 101, 47, 103, 117, 105, 108, 108, 111, 99, 104, 101, 108, 97, 119, 48, 54, 46, 83, 97, 109, 112, 108, 101, 83, 104, 97, 114, 101, 115, 32, 103, 117, 105, 108, 108, 111, 99, 104, 101, 47, 103, 117, 105, 108, 108, 111, 99, 104, 101, 108, 97, 119, 48, 54, 46, 83, 97, 109, 112, 108, 101, 68, 114, 97, 119, 115, 32, 103, 117, 105, 108, 108, 111, 99, 104, 101, 47, 103, 117, 105, 108, 108, 111, 99, 104, 101, 108, 97, 119, 48, 54, 46, 83, 97, 109, 112, 108, 101, 79, 100, 100]
def chs (l : List Nat) : List Char := l.map Char.ofNat
theorem order_signs : Try.prog.initOrder = String.ofList (chs sg1 ++ Char.ofNat 32 :: (chs sg2 ++ Char.ofNat 32 :: (chs sg3 ++ Char.ofNat 32 :: chs sg4))) := by kernel_rfl
theorem order_words : wordsSigns Try.prog.initOrder.toList = chs sg1 :: chs sg2 :: chs sg3 :: wordsSigns (chs sg4) := by
  rw [order_signs, String.toList_ofList, ws_word (by decide +kernel), ws_word (by decide +kernel), ws_word (by decide +kernel)]
theorem behind_words (R : List (List Char)) : behindMainWord (chs sg1 :: chs sg2 :: chs sg3 :: R) = chs sg3 :: R := by kernel_rfl
theorem words_signs : ∃ R, behindMainWord (wordsSigns Try.prog.initOrder.toList) = chs sg3 :: R := ⟨_, by rw [order_words, behind_words]⟩
theorem strip_words (R : List (List Char)) : stripLifts liftWords (chs sg3 :: R) = ([], chs sg3 :: R) := by kernel_rfl
theorem lays_later : Try.prog.laysLater = false := by kernel_rfl
theorem bears_reflect : Try.prog.bearsReflect = false := by kernel_rfl
theorem door_fits : Try.prog.doorFits [] = true := by kernel_rfl
theorem cut_word : chs sg3 = "cut".toList := by kernel_rfl
theorem may_of {P : Program} {c : List Char} {R : List (List Char)} (h : behindMainWord (wordsSigns P.initOrder.toList) = c :: R) (h1 : stripLifts liftWords (c :: R) = ([], c :: R)) (h2 : P.laysLater = false) (h3 : P.bearsReflect = false) (h4 : P.doorFits [] = true) (h5 : c = "cut".toList) :
    P.mayEnter = true := by
  unfold Program.mayEnter
  rw [h]
  simp [h1, h2, h3, h4]
  exact Or.inr (h5.trans (by decide +kernel))
theorem make_of {P : Program} {c : List Char} {R : List (List Char)} (h : behindMainWord (wordsSigns P.initOrder.toList) = c :: R) (h1 : (c == "gc".toList || c == "spec".toList) = false) (h2 : (c == "cut".toList) = true) : P.make = some .cut := by
  unfold Program.make
  rw [h]
  simp only [h1, h2, Bool.true_or, if_true, Bool.false_eq_true, if_false]
theorem may_enter : Try.prog.mayEnter = true := by
  obtain ⟨R, h⟩ := words_signs
  exact may_of h (strip_words R) lays_later bears_reflect door_fits cut_word
theorem lifts_final : Try.prog.liftsFinal = false := by
  obtain ⟨R, h⟩ := words_signs
  unfold Program.liftsFinal Program.headLifts
  rw [h]
  kernel_rfl
theorem gc_word : (chs sg3 == "gc".toList || chs sg3 == "spec".toList) = false := by kernel_rfl
theorem cut_word2 : (chs sg3 == "cut".toList) = true := by kernel_rfl
theorem make_cut : Try.prog.make = some .cut := by
  obtain ⟨R, h⟩ := words_signs
  exact make_of h gc_word cut_word2
end Go.KL
end

section
/- Samples with so many bad pieces: sums and their laws, plain. No program in sight. -/
namespace Go.KL
def fct : Nat → Nat
  | 0 => 1
  | n + 1 => fct n * (n + 1)
theorem fct_pos : ∀ n, 0 < fct n
  | 0 => Nat.one_pos
  | n + 1 => Nat.mul_pos (fct_pos n) (Nat.succ_pos n)
theorem bino_fct : ∀ (a b : Nat), bino (a + b) a * (fct a * fct b) = fct (a + b)
  | 0, b => by
    have : bino (0 + b) 0 = 1 := by unfold bino; rfl
    rw [this, Nat.zero_add, fct, Nat.one_mul, Nat.one_mul]
  | a + 1, b => by
    have h := bino_succ (a + b) a
    have ih := bino_fct a b
    rw [show a + 1 + b = (a + b) + 1 by omega, fct, fct, ← ih]
    calc bino (a + b + 1) (a + 1) * (fct a * (a + 1) * fct b) = (bino (a + b + 1) (a + 1) * (a + 1)) * (fct a * fct b) := by
            simp only [Nat.mul_assoc, Nat.mul_comm, Nat.mul_left_comm]
      _ = bino (a + b) a * (fct a * fct b) * (a + b + 1) := by
            rw [h]
            simp only [Nat.mul_assoc, Nat.mul_comm]
/-- The samples of n with i bad pieces. -/
def tmz (g b n i : Nat) : Nat := if i ≤ n then bino b i * bino g (n - i) else 0
theorem tmz_tm {g b n i : Nat} (h : i ≤ n) : tmz g b n i = tm g b n i := by
  rw [tmz, if_pos h, tm]
theorem tmz_bad {g b n i : Nat} (h : b < i) : tmz g b n i = 0 := by
  unfold tmz
  split
  · rw [bino_out h, Nat.zero_mul]
  · rfl
theorem tmz_good {g b n i : Nat} (h : g < n - i) : tmz g b n i = 0 := by
  unfold tmz
  split
  · rw [bino_out h, Nat.mul_zero]
  · rfl
theorem psum_congr {T T' : Nat → Nat} {lo : Nat} : ∀ {d : Nat}, (∀ j, j < d → T (lo + j) = T' (lo + j)) → psum T lo d = psum T' lo d
  | 0, _ => rfl
  | d + 1, h => by
    rw [psum, psum, psum_congr fun j hj => h j (by omega), h d (by omega)]
theorem psum_split {T : Nat → Nat} {lo a : Nat} : ∀ b, psum T lo (a + b) = psum T lo a + psum T (lo + a) b
  | 0 => rfl
  | b + 1 => by
    rw [← Nat.add_assoc, psum, psum_split b, psum, Nat.add_assoc, Nat.add_assoc]
theorem psum_zero {T : Nat → Nat} {lo : Nat} : ∀ {d : Nat}, (∀ j, j < d → T (lo + j) = 0) → psum T lo d = 0
  | 0, _ => rfl
  | d + 1, h => by
    rw [psum, psum_zero fun j hj => h j (by omega), h d (by omega)]
theorem psum_add {T T' : Nat → Nat} {lo : Nat} : ∀ {d : Nat}, psum (fun i => T i + T' i) lo d = psum T lo d + psum T' lo d
  | 0 => rfl
  | d + 1 => by
    rw [psum, psum, psum, psum_add]
    omega
theorem psum_mul {T : Nat → Nat} {k lo : Nat} : ∀ {d : Nat}, psum (fun i => k * T i) lo d = k * psum T lo d
  | 0 => rfl
  | d + 1 => by
    rw [psum, psum, psum_mul, Nat.mul_add]
theorem psum_shift {T : Nat → Nat} : ∀ d, psum T 0 (d + 1) = T 0 + psum (fun i => T (i + 1)) 0 d
  | 0 => by rw [psum, psum, psum, Nat.zero_add]; rfl
  | d + 1 => by
    rw [psum, psum_shift d, psum]
    simp only [Nat.zero_add]
    omega
theorem psum_mono {T : Nat → Nat} {lo a : Nat} (b : Nat) : psum T lo a ≤ psum T lo (a + b) := by
  rw [psum_split]
  exact Nat.le_add_right _ _
/-- The samples of n with at most c - 1 bad pieces. -/
def cumT (g b n c : Nat) : Nat := psum (tmz g b n) 0 c
theorem cumT_long {g b n c : Nat} (h : min n b < c) : cumT g b n c = cumT g b n (min n b + 1) := by
  unfold cumT
  rw [show c = (min n b + 1) + (c - (min n b + 1)) by omega, psum_split, psum_zero (d := c - (min n b + 1)), Nat.add_zero]
  intro j _
  by_cases hi : 0 + (min n b + 1) + j ≤ n
  · exact tmz_bad (by omega)
  · rw [tmz, if_neg hi]
theorem accN_cum {lot bad n c : Nat} : accN lot bad n (c : Int) = cumT (lot - bad) bad n (c + 1) := by
  obtain ⟨g, hg⟩ : ∃ g, g = lot - bad := ⟨_, rfl⟩
  obtain ⟨lo, hlo⟩ : ∃ lo, lo = n - g := ⟨_, rfl⟩
  have key : ∀ e, lo ≤ e → e ≤ min n bad + 1 → cumT g bad n e = psum (tm g bad n) lo (e - lo) := by
    intro e h1 h2
    unfold cumT
    rw [show psum (tmz g bad n) 0 e = psum (tmz g bad n) 0 (lo + (e - lo)) by rw [show lo + (e - lo) = e by omega], psum_split, psum_zero (d := lo), Nat.zero_add, Nat.zero_add]
    · exact psum_congr fun j hj => tmz_tm (by omega)
    · intro j hj
      exact tmz_good (by omega)
  unfold accN
  rw [← hg, ← hlo]
  by_cases h1 : c + 1 ≤ lo
  · have hz : cumT g bad n (c + 1) = 0 := psum_zero fun j hj => tmz_good (by omega)
    rw [hz, show min n bad + 1 - lo = 0 + (min n bad + 1 - lo) by omega, sumTo_out (by omega)]
    rfl
  · by_cases h2 : c ≤ min n bad
    · rw [show min n bad + 1 - lo = (c + 1 - lo) + (min n bad - c) by omega, sumTo_out (by omega), sumTo_in (by omega), key (c + 1) (by omega) (by omega)]
    · rw [cumT_long (by omega)]
      by_cases h3 : lo ≤ min n bad + 1
      · rw [key _ h3 (Nat.le_refl _), sumTo_in (by omega)]
      · have hz : cumT g bad n (min n bad + 1) = 0 := psum_zero fun j hj => tmz_good (by omega)
        rw [hz, show min n bad + 1 - lo = 0 by omega]
        rfl
theorem accN_neg {lot bad n : Nat} {c : Int} (h : c < 0) : accN lot bad n c = 0 := by
  unfold accN
  rw [show min n bad + 1 - (n - (lot - bad)) = 0 + (min n bad + 1 - (n - (lot - bad))) by omega, sumTo_out (by omega)]
  rfl
/-- A further bad piece, a further good one. -/
theorem tmz_bad1 {g b n i : Nat} : tmz g (b + 1) (n + 1) (i + 1) = tmz g b n i + tmz g b (n + 1) (i + 1) := by
  unfold tmz
  by_cases h : i ≤ n
  · rw [if_pos (by omega), if_pos h, if_pos (by omega), bino, Nat.add_mul, show n + 1 - (i + 1) = n - i by omega]
  · rw [if_neg (by omega), if_neg h, if_neg (by omega)]
theorem tmz_bad0 {g b n : Nat} : tmz g (b + 1) n 0 = tmz g b n 0 := by
  unfold tmz
  have e : ∀ k, bino k 0 = 1 := fun k => by unfold bino; rfl
  rw [e, e]
theorem tmz_good1 {g b n i : Nat} : tmz (g + 1) b (n + 1) i = tmz g b n i + tmz g b (n + 1) i := by
  unfold tmz
  by_cases h : i ≤ n
  · rw [if_pos (by omega), if_pos h, if_pos (by omega), show n + 1 - i = (n - i) + 1 by omega, bino, Nat.mul_add]
  · by_cases h2 : i = n + 1
    · have e : ∀ k, bino k 0 = 1 := fun k => by unfold bino; rfl
      subst h2
      rw [if_pos (Nat.le_refl _), if_neg h, if_pos (Nat.le_refl _), Nat.sub_self, e, e, Nat.zero_add]
    · rw [if_neg (by omega), if_neg h, if_neg (by omega)]
theorem cum_bad1 {g b n c : Nat} : cumT g (b + 1) (n + 1) (c + 1) = cumT g b (n + 1) (c + 1) + cumT g b n c := by
  unfold cumT
  rw [psum_shift, psum_shift, tmz_bad0, psum_congr (T' := fun i => tmz g b n i + tmz g b (n + 1) (i + 1)) fun j _ => tmz_bad1, psum_add]
  omega
theorem cum_good1 {g b n c : Nat} : cumT (g + 1) b (n + 1) c = cumT g b n c + cumT g b (n + 1) c := by
  unfold cumT
  rw [psum_congr (T' := fun i => tmz g b n i + tmz g b (n + 1) i) fun j _ => tmz_good1, psum_add]
/-- One more of the pieces is bad. -/
theorem cum_worse {g b n c : Nat} : cumT g (b + 1) n c ≤ cumT (g + 1) b n c := by
  cases n with
  | zero =>
    unfold cumT
    rw [psum_congr (T' := tmz (g + 1) b 0) fun j _ => ?_]
    · exact Nat.le_refl _
    · unfold tmz
      split
      · have e : ∀ k, bino k 0 = 1 := fun k => by unfold bino; rfl
        rw [show 0 + j = 0 by omega, e, e, e, e]
      · rfl
  | succ n =>
    cases c with
    | zero => exact Nat.le_refl _
    | succ c =>
      rw [cum_bad1, cum_good1]
      have h : cumT g b n c ≤ cumT g b n (c + 1) := psum_mono 1
      omega
/-- All samples. -/
theorem cum_all : ∀ {b g n : Nat}, cumT g b n (n + 1) = bino (b + g) n
  | 0, g, n => by
    unfold cumT
    have e : ∀ k, bino k 0 = 1 := fun k => by unfold bino; rfl
    rw [psum_shift, psum_zero (T := fun i => tmz g 0 n (i + 1)) fun j _ => tmz_bad (by omega), Nat.add_zero, tmz, if_pos (Nat.zero_le n), e, Nat.one_mul, Nat.zero_add]
    rfl
  | b + 1, g, 0 => by
    unfold cumT
    have e : ∀ k, bino k 0 = 1 := fun k => by unfold bino; rfl
    rw [psum, psum, tmz, if_pos (Nat.le_refl _), e, e, e]
  | b + 1, g, n + 1 => by
    have h1 := cum_all (b := b) (g := g) (n := n)
    have h2 := cum_all (b := b) (g := g) (n := n + 1)
    rw [cum_bad1, h2, h1, show b + 1 + g = (b + g) + 1 by omega, bino, Nat.add_comm]
theorem cum_le {g b n c : Nat} : cumT g b n c ≤ bino (b + g) n := by
  rw [← cum_all]
  by_cases h : c ≤ n + 1
  · rw [show n + 1 = c + (n + 1 - c) by omega]
    exact psum_mono _
  · rw [show c = (n + 1) + (c - (n + 1)) by omega]
    unfold cumT
    rw [psum_split, psum_zero (d := c - (n + 1)), Nat.add_zero]
    · exact Nat.le_refl _
    · intro j _
      rw [tmz, if_neg (by omega)]
theorem cum_full {g b n c : Nat} (h : n < c) : cumT g b n c = bino (b + g) n := by
  rw [← cum_all, show c = (n + 1) + (c - (n + 1)) by omega]
  unfold cumT
  rw [psum_split, psum_zero (d := c - (n + 1)), Nat.add_zero]
  intro j _
  rw [tmz, if_neg (by omega)]
end Go.KL
end

section
/- The laws of acceptance, plain: exchanged, after a first piece; fractions in lowest terms. No program in sight. -/
namespace Go.KL
theorem fct4 {i p q r : Nat} : bino (i + p + (q + r)) (i + p) * (bino (i + p) i * bino (q + r) q) * (fct i * fct p * (fct q * fct r)) = fct (i + p + (q + r)) := by
  have h1 := bino_fct (i + p) (q + r)
  have h2 := bino_fct i p
  have h3 := bino_fct q r
  rw [← h1, ← h2, ← h3]
  simp only [Nat.mul_assoc, Nat.mul_comm, Nat.mul_left_comm]
theorem turn_term {lot bad n i : Nat} (h1 : bad ≤ lot) (h2 : n ≤ lot) : bino lot bad * tmz (lot - bad) bad n i = bino lot n * tmz (lot - n) n bad i := by
  by_cases hb : i ≤ bad
  · by_cases hn : i ≤ n
    · by_cases hg : n - i ≤ lot - bad
      · obtain ⟨p, hp⟩ : ∃ p, p = bad - i := ⟨_, rfl⟩
        obtain ⟨q, hq⟩ : ∃ q, q = n - i := ⟨_, rfl⟩
        obtain ⟨r, hr⟩ : ∃ r, r = lot - bad - (n - i) := ⟨_, rfl⟩
        have e1 : lot = i + p + (q + r) := by omega
        have e2 : lot = i + q + (p + r) := by omega
        have e3 : bad = i + p := by omega
        have e4 : n = i + q := by omega
        have k1 := fct4 (i := i) (p := p) (q := q) (r := r)
        have k2 := fct4 (i := i) (p := q) (q := p) (r := r)
        rw [tmz, if_pos hn, tmz, if_pos hb, show lot - bad = q + r by omega, show n - i = q by omega, show lot - n = p + r by omega, show bad - i = p by omega]
        rw [← e1, ← e3] at k1
        rw [← e2, ← e4] at k2
        have k3 : fct i * fct q * (fct p * fct r) = fct i * fct p * (fct q * fct r) := by simp only [Nat.mul_assoc, Nat.mul_left_comm]
        rw [k3] at k2
        exact Nat.eq_of_mul_eq_mul_right (Nat.mul_pos (Nat.mul_pos (fct_pos i) (fct_pos p)) (Nat.mul_pos (fct_pos q) (fct_pos r))) (k1.trans k2.symm)
      · rw [tmz_good (by omega), tmz_good (by omega), Nat.mul_zero, Nat.mul_zero]
    · rw [tmz, if_neg hn, tmz_bad (by omega), Nat.mul_zero, Nat.mul_zero]
  · rw [tmz_bad (by omega), tmz, if_neg hb, Nat.mul_zero, Nat.mul_zero]
/-- The pieces that are bad and those that are drawn, exchanged. -/
theorem cum_turn {lot bad n c : Nat} (h1 : bad ≤ lot) (h2 : n ≤ lot) : bino lot bad * cumT (lot - bad) bad n c = bino lot n * cumT (lot - n) n bad c := by
  unfold cumT
  rw [← psum_mul, ← psum_mul]
  exact psum_congr fun j _ => turn_term h1 h2
theorem absorb {b i : Nat} : (i + 1) * bino (b + 1) (i + 1) = (b + 1) * bino b i := by
  rw [Nat.mul_comm, bino_succ, Nat.mul_comm]
theorem first_term {g b n i : Nat} : (n + 1) * tmz (g + 1) (b + 1) (n + 1) (i + 1) = (b + 1) * tmz (g + 1) b n i + (g + 1) * tmz g (b + 1) n (i + 1) := by
  unfold tmz
  by_cases h : i ≤ n
  · have ha := absorb (b := b) (i := i)
    rw [if_pos (by omega), if_pos h, show n + 1 - (i + 1) = n - i by omega]
    by_cases h2 : i + 1 ≤ n
    · have hg := absorb (b := g) (i := n - (i + 1))
      rw [show n - (i + 1) + 1 = n - i by omega] at hg
      rw [if_pos h2]
      calc (n + 1) * (bino (b + 1) (i + 1) * bino (g + 1) (n - i)) = ((i + 1) * bino (b + 1) (i + 1)) * bino (g + 1) (n - i) + bino (b + 1) (i + 1) * ((n - i) * bino (g + 1) (n - i)) := by
              rw [show n + 1 = (i + 1) + (n - i) by omega, Nat.add_mul]
              congr 1
              · rw [Nat.mul_assoc]
              · rw [Nat.mul_left_comm]
        _ = _ := by
              rw [ha, hg, Nat.mul_assoc]
              congr 1
              rw [Nat.mul_left_comm]
    · obtain rfl : i = n := by omega
      have e : ∀ k, bino k 0 = 1 := fun k => by unfold bino; rfl
      rw [if_neg h2, Nat.sub_self, e, Nat.mul_one, Nat.mul_one, ha, Nat.mul_zero]
      omega
  · rw [if_neg (by omega), if_neg h, if_neg (by omega), Nat.mul_zero, Nat.mul_zero, Nat.mul_zero]
theorem first_term0 {g b n : Nat} : (n + 1) * tmz (g + 1) (b + 1) (n + 1) 0 = (g + 1) * tmz g (b + 1) n 0 := by
  have e : ∀ k, bino k 0 = 1 := fun k => by unfold bino; rfl
  rw [tmz, if_pos (Nat.zero_le _), tmz, if_pos (Nat.zero_le _), e, Nat.one_mul, Nat.one_mul, Nat.sub_zero, Nat.sub_zero, absorb]
/-- After a bad first piece, or a good one. -/
theorem cum_first {g b n c : Nat} : (n + 1) * cumT (g + 1) (b + 1) (n + 1) (c + 1) = (b + 1) * cumT (g + 1) b n c + (g + 1) * cumT g (b + 1) n (c + 1) := by
  unfold cumT
  rw [psum_shift, psum_shift, Nat.mul_add, Nat.mul_add, first_term0, ← psum_mul, ← psum_mul, ← psum_mul, psum_congr (T' := fun i => (b + 1) * tmz (g + 1) b n i + (g + 1) * tmz g (b + 1) n (i + 1)) fun j _ => first_term, psum_add]
  omega
/-- Fractions in lowest terms. -/
def lwN (p q : Nat) : Nat := p / Nat.gcd p q
def lwD (p q : Nat) : Nat := q / Nat.gcd p q
theorem lw_cross {p q : Nat} : lwN p q * q = p * lwD p q := by
  unfold lwN lwD
  rw [← Nat.mul_div_right_comm (Nat.gcd_dvd_left p q), ← Nat.mul_div_assoc _ (Nat.gcd_dvd_right p q)]
theorem lwD_pos {p q : Nat} (h : q ≠ 0) : 0 < lwD p q := Nat.div_pos (Nat.le_of_dvd (by omega) (Nat.gcd_dvd_right p q)) (Nat.gcd_pos_of_pos_right _ (by omega))
theorem lw_le {p q : Nat} : lwN p q ≤ p ∧ lwD p q ≤ q := ⟨Nat.div_le_self _ _, Nat.div_le_self _ _⟩
/-- Comparing what stands in lowest terms. -/
theorem lw_lt {p q r s : Nat} (hq : q ≠ 0) (hs : s ≠ 0) : lwN p q * lwD r s < lwN r s * lwD p q ↔ p * s < r * q := by
  have h1 := lw_cross (p := p) (q := q)
  have h2 := lw_cross (p := r) (q := s)
  have d1 := lwD_pos (p := p) hq
  have d2 := lwD_pos (p := r) hs
  have e1 : lwN p q * lwD r s * (q * s) = (p * s) * (lwD p q * lwD r s) := by
    calc lwN p q * lwD r s * (q * s) = (lwN p q * q) * (lwD r s * s) := by simp only [Nat.mul_assoc, Nat.mul_left_comm]
      _ = _ := by
        rw [h1]
        simp only [Nat.mul_assoc, Nat.mul_comm, Nat.mul_left_comm]
  have e2 : lwN r s * lwD p q * (q * s) = (r * q) * (lwD p q * lwD r s) := by
    calc lwN r s * lwD p q * (q * s) = (lwN r s * s) * (lwD p q * q) := by simp only [Nat.mul_assoc, Nat.mul_comm, Nat.mul_left_comm]
      _ = _ := by
        rw [h2]
        simp only [Nat.mul_assoc, Nat.mul_comm, Nat.mul_left_comm]
  have p1 : 0 < q * s := Nat.mul_pos (by omega) (by omega)
  have p2 : 0 < lwD p q * lwD r s := Nat.mul_pos d1 d2
  rw [← Nat.mul_lt_mul_right p1, e1, e2, Nat.mul_lt_mul_right p2]
theorem lw_zero {q : Nat} (h : q ≠ 0) : lwN 0 q = 0 ∧ lwD 0 q = 1 := by
  unfold lwN lwD
  rw [Nat.gcd_zero_left]
  exact ⟨Nat.zero_div _, Nat.div_self (by omega)⟩
theorem lw_one {q : Nat} (h : q ≠ 0) : lwN q q = 1 ∧ lwD q q = 1 := by
  unfold lwN lwD
  rw [Nat.gcd_self]
  exact ⟨Nat.div_self (by omega), Nat.div_self (by omega)⟩
end Go.KL
end

section
/- Walks: what the laws of samples share: valid arguments, ratios, comparisons. -/
namespace Go.KL
open Go.Proofs
def goodB (lot bad n most : Int) : Prop := 0 ≤ lot ∧ lot ≤ most ∧ 0 ≤ bad ∧ bad ≤ lot ∧ 0 ≤ n ∧ n ≤ lot
instance (lot bad n most : Int) : Decidable (goodB lot bad n most) := by unfold goodB; infer_instance
def boundedB (lot n found risk : Int) : Prop := 0 ≤ lot ∧ lot ≤ 256 ∧ 0 ≤ n ∧ n ≤ lot ∧ 0 ≤ found ∧ found ≤ n ∧ 0 ≤ risk ∧ risk ≤ 1000000
instance (lot n found risk : Int) : Decidable (boundedB lot n found risk) := by unfold boundedB; infer_instance
def plannedB (lot good bad alpha beta : Int) : Prop := 1 ≤ lot ∧ lot ≤ 256 ∧ 0 ≤ good ∧ good < bad ∧ bad ≤ lot ∧ (0 ≤ alpha ∧ alpha ≤ 1000000) ∧ (0 ≤ beta ∧ beta ≤ 1000000)
instance (lot good bad alpha beta : Int) : Decidable (plannedB lot good bad alpha beta) := by unfold plannedB; infer_instance
attribute [local irreducible] SC St Fin Sq Ylds Doos Sets Enters Spec CellIs CellsAre Then Ret Rnd Chn resOK ints bools recs arr
set_option maxRecDepth 10000 in
set_option maxHeartbeats 8000000 in
theorem good_spec {C : World → Prop} {lot bad n most : Int} : Spec Try.prog 21 #[.int .i64 lot, .int .i64 bad, .int .i64 n, .int .i64 most] C (fun _ : Unit => .bool (decide (goodB lot bad n most))) (fun _ => C) := by
  refine enter (args := [_, _, _, _]) Try.func21 rfl Try.ntmps21 rfl ?_
  by_cases h1 : 0 ≤ lot
  · by_cases h2 : lot ≤ most
    · by_cases h3 : 0 ≤ bad
      · by_cases h4 : bad ≤ lot
        · by_cases h5 : 0 ≤ n
          · by_cases h6 : n ≤ lot
            · rw [decide_eq_true (show goodB lot bad n most from ⟨h1, h2, h3, h4, h5, h6⟩)]
              refine c_seq ?_
              refine c_region ?_
              refine s_y (y_assign rfl) rfl rfl rfl ?_
              refine s_nil ?_
              refine f_then ?_
              refine c_seq ?_
              refine c_region ?_
              refine s_y (y_move rfl) rfl rfl rfl ?_
              refine s_y (y_T (y_geq rfl rfl) (by assumption)) rfl rfl rfl ?_
              refine s_y (y_move rfl) rfl rfl rfl ?_
              refine s_y (y_move rfl) rfl rfl rfl ?_
              refine s_y (y_move rfl) rfl rfl rfl ?_
              refine s_y (y_T (y_leq rfl rfl) (by assumption)) rfl rfl rfl ?_
              refine s_y (y_pickT rfl rfl) rfl rfl rfl ?_
              refine s_y (y_move rfl) rfl rfl rfl ?_
              refine s_y (y_move rfl) rfl rfl rfl ?_
              refine s_y (y_T (y_geq rfl rfl) (by assumption)) rfl rfl rfl ?_
              refine s_y (y_pickT rfl rfl) rfl rfl rfl ?_
              refine s_y (y_move rfl) rfl rfl rfl ?_
              refine s_y (y_move rfl) rfl rfl rfl ?_
              refine s_y (y_move rfl) rfl rfl rfl ?_
              refine s_y (y_T (y_leq rfl rfl) (by assumption)) rfl rfl rfl ?_
              refine s_y (y_pickT rfl rfl) rfl rfl rfl ?_
              refine s_y (y_move rfl) rfl rfl rfl ?_
              refine s_y (y_move rfl) rfl rfl rfl ?_
              refine s_y (y_T (y_geq rfl rfl) (by assumption)) rfl rfl rfl ?_
              refine s_y (y_pickT rfl rfl) rfl rfl rfl ?_
              refine s_y (y_move rfl) rfl rfl rfl ?_
              refine s_y (y_move rfl) rfl rfl rfl ?_
              refine s_y (y_move rfl) rfl rfl rfl ?_
              refine s_y (y_T (y_leq rfl rfl) (by assumption)) rfl rfl rfl ?_
              refine s_y (y_pickT rfl rfl) rfl rfl rfl ?_
              refine s_y (y_assign rfl) rfl rfl rfl ?_
              refine s_nil ?_
              refine f_then ?_
              refine c_ret ?_
              exact f_ret () (res1 rfl rfl) (fun w h => h)
            · rw [decide_eq_false (show ¬ goodB lot bad n most from fun h => h6 h.2.2.2.2.2)]
              refine c_seq ?_
              refine c_region ?_
              refine s_y (y_assign rfl) rfl rfl rfl ?_
              refine s_nil ?_
              refine f_then ?_
              refine c_seq ?_
              refine c_region ?_
              refine s_y (y_move rfl) rfl rfl rfl ?_
              refine s_y (y_T (y_geq rfl rfl) (by assumption)) rfl rfl rfl ?_
              refine s_y (y_move rfl) rfl rfl rfl ?_
              refine s_y (y_move rfl) rfl rfl rfl ?_
              refine s_y (y_move rfl) rfl rfl rfl ?_
              refine s_y (y_T (y_leq rfl rfl) (by assumption)) rfl rfl rfl ?_
              refine s_y (y_pickT rfl rfl) rfl rfl rfl ?_
              refine s_y (y_move rfl) rfl rfl rfl ?_
              refine s_y (y_move rfl) rfl rfl rfl ?_
              refine s_y (y_T (y_geq rfl rfl) (by assumption)) rfl rfl rfl ?_
              refine s_y (y_pickT rfl rfl) rfl rfl rfl ?_
              refine s_y (y_move rfl) rfl rfl rfl ?_
              refine s_y (y_move rfl) rfl rfl rfl ?_
              refine s_y (y_move rfl) rfl rfl rfl ?_
              refine s_y (y_T (y_leq rfl rfl) (by assumption)) rfl rfl rfl ?_
              refine s_y (y_pickT rfl rfl) rfl rfl rfl ?_
              refine s_y (y_move rfl) rfl rfl rfl ?_
              refine s_y (y_move rfl) rfl rfl rfl ?_
              refine s_y (y_T (y_geq rfl rfl) (by assumption)) rfl rfl rfl ?_
              refine s_y (y_pickT rfl rfl) rfl rfl rfl ?_
              refine s_y (y_move rfl) rfl rfl rfl ?_
              refine s_y (y_move rfl) rfl rfl rfl ?_
              refine s_y (y_move rfl) rfl rfl rfl ?_
              refine s_y (y_F (y_leq rfl rfl) (by assumption)) rfl rfl rfl ?_
              refine s_y (y_pickT rfl rfl) rfl rfl rfl ?_
              refine s_y (y_assign rfl) rfl rfl rfl ?_
              refine s_nil ?_
              refine f_then ?_
              refine c_ret ?_
              exact f_ret () (res1 rfl rfl) (fun w h => h)
          · rw [decide_eq_false (show ¬ goodB lot bad n most from fun h => h5 h.2.2.2.2.1)]
            refine c_seq ?_
            refine c_region ?_
            refine s_y (y_assign rfl) rfl rfl rfl ?_
            refine s_nil ?_
            refine f_then ?_
            refine c_seq ?_
            refine c_region ?_
            refine s_y (y_move rfl) rfl rfl rfl ?_
            refine s_y (y_T (y_geq rfl rfl) (by assumption)) rfl rfl rfl ?_
            refine s_y (y_move rfl) rfl rfl rfl ?_
            refine s_y (y_move rfl) rfl rfl rfl ?_
            refine s_y (y_move rfl) rfl rfl rfl ?_
            refine s_y (y_T (y_leq rfl rfl) (by assumption)) rfl rfl rfl ?_
            refine s_y (y_pickT rfl rfl) rfl rfl rfl ?_
            refine s_y (y_move rfl) rfl rfl rfl ?_
            refine s_y (y_move rfl) rfl rfl rfl ?_
            refine s_y (y_T (y_geq rfl rfl) (by assumption)) rfl rfl rfl ?_
            refine s_y (y_pickT rfl rfl) rfl rfl rfl ?_
            refine s_y (y_move rfl) rfl rfl rfl ?_
            refine s_y (y_move rfl) rfl rfl rfl ?_
            refine s_y (y_move rfl) rfl rfl rfl ?_
            refine s_y (y_T (y_leq rfl rfl) (by assumption)) rfl rfl rfl ?_
            refine s_y (y_pickT rfl rfl) rfl rfl rfl ?_
            refine s_y (y_move rfl) rfl rfl rfl ?_
            refine s_y (y_move rfl) rfl rfl rfl ?_
            refine s_y (y_F (y_geq rfl rfl) (by assumption)) rfl rfl rfl ?_
            refine s_y (y_pickT rfl rfl) rfl rfl rfl ?_
            refine s_y (y_move rfl) rfl rfl rfl ?_
            iterate 3 refine s_skip rfl rfl rfl ?_
            refine s_y (y_pickF rfl rfl) rfl rfl rfl ?_
            refine s_y (y_assign rfl) rfl rfl rfl ?_
            refine s_nil ?_
            refine f_then ?_
            refine c_ret ?_
            exact f_ret () (res1 rfl rfl) (fun w h => h)
        · rw [decide_eq_false (show ¬ goodB lot bad n most from fun h => h4 h.2.2.2.1)]
          refine c_seq ?_
          refine c_region ?_
          refine s_y (y_assign rfl) rfl rfl rfl ?_
          refine s_nil ?_
          refine f_then ?_
          refine c_seq ?_
          refine c_region ?_
          refine s_y (y_move rfl) rfl rfl rfl ?_
          refine s_y (y_T (y_geq rfl rfl) (by assumption)) rfl rfl rfl ?_
          refine s_y (y_move rfl) rfl rfl rfl ?_
          refine s_y (y_move rfl) rfl rfl rfl ?_
          refine s_y (y_move rfl) rfl rfl rfl ?_
          refine s_y (y_T (y_leq rfl rfl) (by assumption)) rfl rfl rfl ?_
          refine s_y (y_pickT rfl rfl) rfl rfl rfl ?_
          refine s_y (y_move rfl) rfl rfl rfl ?_
          refine s_y (y_move rfl) rfl rfl rfl ?_
          refine s_y (y_T (y_geq rfl rfl) (by assumption)) rfl rfl rfl ?_
          refine s_y (y_pickT rfl rfl) rfl rfl rfl ?_
          refine s_y (y_move rfl) rfl rfl rfl ?_
          refine s_y (y_move rfl) rfl rfl rfl ?_
          refine s_y (y_move rfl) rfl rfl rfl ?_
          refine s_y (y_F (y_leq rfl rfl) (by assumption)) rfl rfl rfl ?_
          refine s_y (y_pickT rfl rfl) rfl rfl rfl ?_
          refine s_y (y_move rfl) rfl rfl rfl ?_
          iterate 2 refine s_skip rfl rfl rfl ?_
          refine s_y (y_pickF rfl rfl) rfl rfl rfl ?_
          refine s_y (y_move rfl) rfl rfl rfl ?_
          iterate 3 refine s_skip rfl rfl rfl ?_
          refine s_y (y_pickF rfl rfl) rfl rfl rfl ?_
          refine s_y (y_assign rfl) rfl rfl rfl ?_
          refine s_nil ?_
          refine f_then ?_
          refine c_ret ?_
          exact f_ret () (res1 rfl rfl) (fun w h => h)
      · rw [decide_eq_false (show ¬ goodB lot bad n most from fun h => h3 h.2.2.1)]
        refine c_seq ?_
        refine c_region ?_
        refine s_y (y_assign rfl) rfl rfl rfl ?_
        refine s_nil ?_
        refine f_then ?_
        refine c_seq ?_
        refine c_region ?_
        refine s_y (y_move rfl) rfl rfl rfl ?_
        refine s_y (y_T (y_geq rfl rfl) (by assumption)) rfl rfl rfl ?_
        refine s_y (y_move rfl) rfl rfl rfl ?_
        refine s_y (y_move rfl) rfl rfl rfl ?_
        refine s_y (y_move rfl) rfl rfl rfl ?_
        refine s_y (y_T (y_leq rfl rfl) (by assumption)) rfl rfl rfl ?_
        refine s_y (y_pickT rfl rfl) rfl rfl rfl ?_
        refine s_y (y_move rfl) rfl rfl rfl ?_
        refine s_y (y_move rfl) rfl rfl rfl ?_
        refine s_y (y_F (y_geq rfl rfl) (by assumption)) rfl rfl rfl ?_
        refine s_y (y_pickT rfl rfl) rfl rfl rfl ?_
        refine s_y (y_move rfl) rfl rfl rfl ?_
        iterate 3 refine s_skip rfl rfl rfl ?_
        refine s_y (y_pickF rfl rfl) rfl rfl rfl ?_
        refine s_y (y_move rfl) rfl rfl rfl ?_
        iterate 2 refine s_skip rfl rfl rfl ?_
        refine s_y (y_pickF rfl rfl) rfl rfl rfl ?_
        refine s_y (y_move rfl) rfl rfl rfl ?_
        iterate 3 refine s_skip rfl rfl rfl ?_
        refine s_y (y_pickF rfl rfl) rfl rfl rfl ?_
        refine s_y (y_assign rfl) rfl rfl rfl ?_
        refine s_nil ?_
        refine f_then ?_
        refine c_ret ?_
        exact f_ret () (res1 rfl rfl) (fun w h => h)
    · rw [decide_eq_false (show ¬ goodB lot bad n most from fun h => h2 h.2.1)]
      refine c_seq ?_
      refine c_region ?_
      refine s_y (y_assign rfl) rfl rfl rfl ?_
      refine s_nil ?_
      refine f_then ?_
      refine c_seq ?_
      refine c_region ?_
      refine s_y (y_move rfl) rfl rfl rfl ?_
      refine s_y (y_T (y_geq rfl rfl) (by assumption)) rfl rfl rfl ?_
      refine s_y (y_move rfl) rfl rfl rfl ?_
      refine s_y (y_move rfl) rfl rfl rfl ?_
      refine s_y (y_move rfl) rfl rfl rfl ?_
      refine s_y (y_F (y_leq rfl rfl) (by assumption)) rfl rfl rfl ?_
      refine s_y (y_pickT rfl rfl) rfl rfl rfl ?_
      refine s_y (y_move rfl) rfl rfl rfl ?_
      iterate 2 refine s_skip rfl rfl rfl ?_
      refine s_y (y_pickF rfl rfl) rfl rfl rfl ?_
      refine s_y (y_move rfl) rfl rfl rfl ?_
      iterate 3 refine s_skip rfl rfl rfl ?_
      refine s_y (y_pickF rfl rfl) rfl rfl rfl ?_
      refine s_y (y_move rfl) rfl rfl rfl ?_
      iterate 2 refine s_skip rfl rfl rfl ?_
      refine s_y (y_pickF rfl rfl) rfl rfl rfl ?_
      refine s_y (y_move rfl) rfl rfl rfl ?_
      iterate 3 refine s_skip rfl rfl rfl ?_
      refine s_y (y_pickF rfl rfl) rfl rfl rfl ?_
      refine s_y (y_assign rfl) rfl rfl rfl ?_
      refine s_nil ?_
      refine f_then ?_
      refine c_ret ?_
      exact f_ret () (res1 rfl rfl) (fun w h => h)
  · rw [decide_eq_false (show ¬ goodB lot bad n most from fun h => h1 h.1)]
    refine c_seq ?_
    refine c_region ?_
    refine s_y (y_assign rfl) rfl rfl rfl ?_
    refine s_nil ?_
    refine f_then ?_
    refine c_seq ?_
    refine c_region ?_
    refine s_y (y_move rfl) rfl rfl rfl ?_
    refine s_y (y_F (y_geq rfl rfl) (by assumption)) rfl rfl rfl ?_
    refine s_y (y_move rfl) rfl rfl rfl ?_
    iterate 3 refine s_skip rfl rfl rfl ?_
    refine s_y (y_pickF rfl rfl) rfl rfl rfl ?_
    refine s_y (y_move rfl) rfl rfl rfl ?_
    iterate 2 refine s_skip rfl rfl rfl ?_
    refine s_y (y_pickF rfl rfl) rfl rfl rfl ?_
    refine s_y (y_move rfl) rfl rfl rfl ?_
    iterate 3 refine s_skip rfl rfl rfl ?_
    refine s_y (y_pickF rfl rfl) rfl rfl rfl ?_
    refine s_y (y_move rfl) rfl rfl rfl ?_
    iterate 2 refine s_skip rfl rfl rfl ?_
    refine s_y (y_pickF rfl rfl) rfl rfl rfl ?_
    refine s_y (y_move rfl) rfl rfl rfl ?_
    iterate 3 refine s_skip rfl rfl rfl ?_
    refine s_y (y_pickF rfl rfl) rfl rfl rfl ?_
    refine s_y (y_assign rfl) rfl rfl rfl ?_
    refine s_nil ?_
    refine f_then ?_
    refine c_ret ?_
    exact f_ret () (res1 rfl rfl) (fun w h => h)
theorem isRisk_spec {C : World → Prop} {n : Int} : Spec Try.prog 60 #[.int .i64 n] C (fun _ : Unit => .bool (decide (0 ≤ n ∧ n ≤ 1000000))) (fun _ => C) := by
  refine enter (args := [_]) Try.func60 rfl Try.ntmps60 rfl ?_
  by_cases h1 : 0 ≤ n
  · by_cases h2 : n ≤ 1000000
    · rw [decide_eq_true (show 0 ≤ n ∧ n ≤ 1000000 from ⟨h1, h2⟩)]
      refine c_seq ?_
      refine c_region ?_
      refine s_y (y_assign rfl) rfl rfl rfl ?_
      refine s_nil ?_
      refine f_then ?_
      refine c_seq ?_
      refine c_region ?_
      refine s_y (y_move rfl) rfl rfl rfl ?_
      refine s_y (y_T (y_geq rfl rfl) (by assumption)) rfl rfl rfl ?_
      refine s_y (y_move rfl) rfl rfl rfl ?_
      refine s_y (y_move rfl) rfl rfl rfl ?_
      refine s_y (y_T (y_leq rfl rfl) (by assumption)) rfl rfl rfl ?_
      refine s_y (y_pickT rfl rfl) rfl rfl rfl ?_
      refine s_y (y_assign rfl) rfl rfl rfl ?_
      refine s_nil ?_
      refine f_then ?_
      refine c_ret ?_
      exact f_ret () (res1 rfl rfl) (fun w h => h)
    · rw [decide_eq_false (show ¬ (0 ≤ n ∧ n ≤ 1000000) from fun h => h2 h.2)]
      refine c_seq ?_
      refine c_region ?_
      refine s_y (y_assign rfl) rfl rfl rfl ?_
      refine s_nil ?_
      refine f_then ?_
      refine c_seq ?_
      refine c_region ?_
      refine s_y (y_move rfl) rfl rfl rfl ?_
      refine s_y (y_T (y_geq rfl rfl) (by assumption)) rfl rfl rfl ?_
      refine s_y (y_move rfl) rfl rfl rfl ?_
      refine s_y (y_move rfl) rfl rfl rfl ?_
      refine s_y (y_F (y_leq rfl rfl) (by assumption)) rfl rfl rfl ?_
      refine s_y (y_pickT rfl rfl) rfl rfl rfl ?_
      refine s_y (y_assign rfl) rfl rfl rfl ?_
      refine s_nil ?_
      refine f_then ?_
      refine c_ret ?_
      exact f_ret () (res1 rfl rfl) (fun w h => h)
  · rw [decide_eq_false (show ¬ (0 ≤ n ∧ n ≤ 1000000) from fun h => h1 h.1)]
    refine c_seq ?_
    refine c_region ?_
    refine s_y (y_assign rfl) rfl rfl rfl ?_
    refine s_nil ?_
    refine f_then ?_
    refine c_seq ?_
    refine c_region ?_
    refine s_y (y_move rfl) rfl rfl rfl ?_
    refine s_y (y_F (y_geq rfl rfl) (by assumption)) rfl rfl rfl ?_
    refine s_y (y_move rfl) rfl rfl rfl ?_
    iterate 2 refine s_skip rfl rfl rfl ?_
    refine s_y (y_pickF rfl rfl) rfl rfl rfl ?_
    refine s_y (y_assign rfl) rfl rfl rfl ?_
    refine s_nil ?_
    refine f_then ?_
    refine c_ret ?_
    exact f_ret () (res1 rfl rfl) (fun w h => h)
set_option maxRecDepth 10000 in
set_option maxHeartbeats 8000000 in
theorem bounded_spec {C : World → Prop} {lot n found risk : Int} : Spec Try.prog 36 #[.int .i64 lot, .int .i64 n, .int .i64 found, .int .i64 risk] C (fun _ : Unit => .bool (decide (boundedB lot n found risk))) (fun _ => C) := by
  refine enter (args := [_, _, _, _]) Try.func36 rfl Try.ntmps36 rfl ?_
  by_cases h1 : 0 ≤ lot
  · by_cases h2 : lot ≤ 256
    · by_cases h3 : 0 ≤ n
      · by_cases h4 : n ≤ lot
        · by_cases h5 : 0 ≤ found
          · by_cases h6 : found ≤ n
            · have hd : decide (boundedB lot n found risk) = decide (0 ≤ risk ∧ risk ≤ 1000000) := by
                refine decide_eq_decide.2 ⟨fun h => h.2.2.2.2.2.2, fun h => ⟨h1, h2, h3, h4, h5, h6, h⟩⟩
              rw [hd]
              refine c_seq ?_
              refine c_region ?_
              refine s_y (y_assign rfl) rfl rfl rfl ?_
              refine s_nil ?_
              refine f_then ?_
              refine c_seq ?_
              refine c_region ?_
              refine s_y (y_move rfl) rfl rfl rfl ?_
              refine s_y (y_T (y_geq rfl rfl) (by assumption)) rfl rfl rfl ?_
              refine s_y (y_move rfl) rfl rfl rfl ?_
              refine s_y (y_move rfl) rfl rfl rfl ?_
              refine s_y (y_T (y_leq rfl rfl) (by assumption)) rfl rfl rfl ?_
              refine s_y (y_pickT rfl rfl) rfl rfl rfl ?_
              refine s_y (y_move rfl) rfl rfl rfl ?_
              refine s_y (y_move rfl) rfl rfl rfl ?_
              refine s_y (y_T (y_geq rfl rfl) (by assumption)) rfl rfl rfl ?_
              refine s_y (y_pickT rfl rfl) rfl rfl rfl ?_
              refine s_y (y_move rfl) rfl rfl rfl ?_
              refine s_y (y_move rfl) rfl rfl rfl ?_
              refine s_y (y_move rfl) rfl rfl rfl ?_
              refine s_y (y_T (y_leq rfl rfl) (by assumption)) rfl rfl rfl ?_
              refine s_y (y_pickT rfl rfl) rfl rfl rfl ?_
              refine s_y (y_move rfl) rfl rfl rfl ?_
              refine s_y (y_move rfl) rfl rfl rfl ?_
              refine s_y (y_T (y_geq rfl rfl) (by assumption)) rfl rfl rfl ?_
              refine s_y (y_pickT rfl rfl) rfl rfl rfl ?_
              refine s_y (y_move rfl) rfl rfl rfl ?_
              refine s_y (y_move rfl) rfl rfl rfl ?_
              refine s_y (y_move rfl) rfl rfl rfl ?_
              refine s_y (y_T (y_leq rfl rfl) (by assumption)) rfl rfl rfl ?_
              refine s_y (y_pickT rfl rfl) rfl rfl rfl ?_
              refine s_y (y_move rfl) rfl rfl rfl ?_
              refine s_y (y_move rfl) rfl rfl rfl ?_
              refine s_call (en_f rfl Try.call60) isRisk_spec rfl rfl rfl (fun _ => ?_)
              by_cases h7 : 0 ≤ risk ∧ risk ≤ 1000000
              · rw [decide_eq_true h7]
                refine s_y (y_pickT rfl rfl) rfl rfl rfl ?_
                refine s_y (y_assign rfl) rfl rfl rfl ?_
                refine s_nil ?_
                refine f_then ?_
                refine c_ret ?_
                exact f_ret () (res1 rfl rfl) (fun w h => h)
              · rw [decide_eq_false h7]
                refine s_y (y_pickT rfl rfl) rfl rfl rfl ?_
                refine s_y (y_assign rfl) rfl rfl rfl ?_
                refine s_nil ?_
                refine f_then ?_
                refine c_ret ?_
                exact f_ret () (res1 rfl rfl) (fun w h => h)
            · rw [decide_eq_false (show ¬ boundedB lot n found risk from fun h => h6 h.2.2.2.2.2.1)]
              refine c_seq ?_
              refine c_region ?_
              refine s_y (y_assign rfl) rfl rfl rfl ?_
              refine s_nil ?_
              refine f_then ?_
              refine c_seq ?_
              refine c_region ?_
              refine s_y (y_move rfl) rfl rfl rfl ?_
              refine s_y (y_T (y_geq rfl rfl) (by assumption)) rfl rfl rfl ?_
              refine s_y (y_move rfl) rfl rfl rfl ?_
              refine s_y (y_move rfl) rfl rfl rfl ?_
              refine s_y (y_T (y_leq rfl rfl) (by assumption)) rfl rfl rfl ?_
              refine s_y (y_pickT rfl rfl) rfl rfl rfl ?_
              refine s_y (y_move rfl) rfl rfl rfl ?_
              refine s_y (y_move rfl) rfl rfl rfl ?_
              refine s_y (y_T (y_geq rfl rfl) (by assumption)) rfl rfl rfl ?_
              refine s_y (y_pickT rfl rfl) rfl rfl rfl ?_
              refine s_y (y_move rfl) rfl rfl rfl ?_
              refine s_y (y_move rfl) rfl rfl rfl ?_
              refine s_y (y_move rfl) rfl rfl rfl ?_
              refine s_y (y_T (y_leq rfl rfl) (by assumption)) rfl rfl rfl ?_
              refine s_y (y_pickT rfl rfl) rfl rfl rfl ?_
              refine s_y (y_move rfl) rfl rfl rfl ?_
              refine s_y (y_move rfl) rfl rfl rfl ?_
              refine s_y (y_T (y_geq rfl rfl) (by assumption)) rfl rfl rfl ?_
              refine s_y (y_pickT rfl rfl) rfl rfl rfl ?_
              refine s_y (y_move rfl) rfl rfl rfl ?_
              refine s_y (y_move rfl) rfl rfl rfl ?_
              refine s_y (y_move rfl) rfl rfl rfl ?_
              refine s_y (y_F (y_leq rfl rfl) (by assumption)) rfl rfl rfl ?_
              refine s_y (y_pickT rfl rfl) rfl rfl rfl ?_
              refine s_y (y_move rfl) rfl rfl rfl ?_
              iterate 2 refine s_skip rfl rfl rfl ?_
              refine s_y (y_pickF rfl rfl) rfl rfl rfl ?_
              refine s_y (y_assign rfl) rfl rfl rfl ?_
              refine s_nil ?_
              refine f_then ?_
              refine c_ret ?_
              exact f_ret () (res1 rfl rfl) (fun w h => h)
          · rw [decide_eq_false (show ¬ boundedB lot n found risk from fun h => h5 h.2.2.2.2.1)]
            refine c_seq ?_
            refine c_region ?_
            refine s_y (y_assign rfl) rfl rfl rfl ?_
            refine s_nil ?_
            refine f_then ?_
            refine c_seq ?_
            refine c_region ?_
            refine s_y (y_move rfl) rfl rfl rfl ?_
            refine s_y (y_T (y_geq rfl rfl) (by assumption)) rfl rfl rfl ?_
            refine s_y (y_move rfl) rfl rfl rfl ?_
            refine s_y (y_move rfl) rfl rfl rfl ?_
            refine s_y (y_T (y_leq rfl rfl) (by assumption)) rfl rfl rfl ?_
            refine s_y (y_pickT rfl rfl) rfl rfl rfl ?_
            refine s_y (y_move rfl) rfl rfl rfl ?_
            refine s_y (y_move rfl) rfl rfl rfl ?_
            refine s_y (y_T (y_geq rfl rfl) (by assumption)) rfl rfl rfl ?_
            refine s_y (y_pickT rfl rfl) rfl rfl rfl ?_
            refine s_y (y_move rfl) rfl rfl rfl ?_
            refine s_y (y_move rfl) rfl rfl rfl ?_
            refine s_y (y_move rfl) rfl rfl rfl ?_
            refine s_y (y_T (y_leq rfl rfl) (by assumption)) rfl rfl rfl ?_
            refine s_y (y_pickT rfl rfl) rfl rfl rfl ?_
            refine s_y (y_move rfl) rfl rfl rfl ?_
            refine s_y (y_move rfl) rfl rfl rfl ?_
            refine s_y (y_F (y_geq rfl rfl) (by assumption)) rfl rfl rfl ?_
            refine s_y (y_pickT rfl rfl) rfl rfl rfl ?_
            refine s_y (y_move rfl) rfl rfl rfl ?_
            iterate 3 refine s_skip rfl rfl rfl ?_
            refine s_y (y_pickF rfl rfl) rfl rfl rfl ?_
            refine s_y (y_move rfl) rfl rfl rfl ?_
            iterate 2 refine s_skip rfl rfl rfl ?_
            refine s_y (y_pickF rfl rfl) rfl rfl rfl ?_
            refine s_y (y_assign rfl) rfl rfl rfl ?_
            refine s_nil ?_
            refine f_then ?_
            refine c_ret ?_
            exact f_ret () (res1 rfl rfl) (fun w h => h)
        · rw [decide_eq_false (show ¬ boundedB lot n found risk from fun h => h4 h.2.2.2.1)]
          refine c_seq ?_
          refine c_region ?_
          refine s_y (y_assign rfl) rfl rfl rfl ?_
          refine s_nil ?_
          refine f_then ?_
          refine c_seq ?_
          refine c_region ?_
          refine s_y (y_move rfl) rfl rfl rfl ?_
          refine s_y (y_T (y_geq rfl rfl) (by assumption)) rfl rfl rfl ?_
          refine s_y (y_move rfl) rfl rfl rfl ?_
          refine s_y (y_move rfl) rfl rfl rfl ?_
          refine s_y (y_T (y_leq rfl rfl) (by assumption)) rfl rfl rfl ?_
          refine s_y (y_pickT rfl rfl) rfl rfl rfl ?_
          refine s_y (y_move rfl) rfl rfl rfl ?_
          refine s_y (y_move rfl) rfl rfl rfl ?_
          refine s_y (y_T (y_geq rfl rfl) (by assumption)) rfl rfl rfl ?_
          refine s_y (y_pickT rfl rfl) rfl rfl rfl ?_
          refine s_y (y_move rfl) rfl rfl rfl ?_
          refine s_y (y_move rfl) rfl rfl rfl ?_
          refine s_y (y_move rfl) rfl rfl rfl ?_
          refine s_y (y_F (y_leq rfl rfl) (by assumption)) rfl rfl rfl ?_
          refine s_y (y_pickT rfl rfl) rfl rfl rfl ?_
          refine s_y (y_move rfl) rfl rfl rfl ?_
          iterate 2 refine s_skip rfl rfl rfl ?_
          refine s_y (y_pickF rfl rfl) rfl rfl rfl ?_
          refine s_y (y_move rfl) rfl rfl rfl ?_
          iterate 3 refine s_skip rfl rfl rfl ?_
          refine s_y (y_pickF rfl rfl) rfl rfl rfl ?_
          refine s_y (y_move rfl) rfl rfl rfl ?_
          iterate 2 refine s_skip rfl rfl rfl ?_
          refine s_y (y_pickF rfl rfl) rfl rfl rfl ?_
          refine s_y (y_assign rfl) rfl rfl rfl ?_
          refine s_nil ?_
          refine f_then ?_
          refine c_ret ?_
          exact f_ret () (res1 rfl rfl) (fun w h => h)
      · rw [decide_eq_false (show ¬ boundedB lot n found risk from fun h => h3 h.2.2.1)]
        refine c_seq ?_
        refine c_region ?_
        refine s_y (y_assign rfl) rfl rfl rfl ?_
        refine s_nil ?_
        refine f_then ?_
        refine c_seq ?_
        refine c_region ?_
        refine s_y (y_move rfl) rfl rfl rfl ?_
        refine s_y (y_T (y_geq rfl rfl) (by assumption)) rfl rfl rfl ?_
        refine s_y (y_move rfl) rfl rfl rfl ?_
        refine s_y (y_move rfl) rfl rfl rfl ?_
        refine s_y (y_T (y_leq rfl rfl) (by assumption)) rfl rfl rfl ?_
        refine s_y (y_pickT rfl rfl) rfl rfl rfl ?_
        refine s_y (y_move rfl) rfl rfl rfl ?_
        refine s_y (y_move rfl) rfl rfl rfl ?_
        refine s_y (y_F (y_geq rfl rfl) (by assumption)) rfl rfl rfl ?_
        refine s_y (y_pickT rfl rfl) rfl rfl rfl ?_
        refine s_y (y_move rfl) rfl rfl rfl ?_
        iterate 3 refine s_skip rfl rfl rfl ?_
        refine s_y (y_pickF rfl rfl) rfl rfl rfl ?_
        refine s_y (y_move rfl) rfl rfl rfl ?_
        iterate 2 refine s_skip rfl rfl rfl ?_
        refine s_y (y_pickF rfl rfl) rfl rfl rfl ?_
        refine s_y (y_move rfl) rfl rfl rfl ?_
        iterate 3 refine s_skip rfl rfl rfl ?_
        refine s_y (y_pickF rfl rfl) rfl rfl rfl ?_
        refine s_y (y_move rfl) rfl rfl rfl ?_
        iterate 2 refine s_skip rfl rfl rfl ?_
        refine s_y (y_pickF rfl rfl) rfl rfl rfl ?_
        refine s_y (y_assign rfl) rfl rfl rfl ?_
        refine s_nil ?_
        refine f_then ?_
        refine c_ret ?_
        exact f_ret () (res1 rfl rfl) (fun w h => h)
    · rw [decide_eq_false (show ¬ boundedB lot n found risk from fun h => h2 h.2.1)]
      refine c_seq ?_
      refine c_region ?_
      refine s_y (y_assign rfl) rfl rfl rfl ?_
      refine s_nil ?_
      refine f_then ?_
      refine c_seq ?_
      refine c_region ?_
      refine s_y (y_move rfl) rfl rfl rfl ?_
      refine s_y (y_T (y_geq rfl rfl) (by assumption)) rfl rfl rfl ?_
      refine s_y (y_move rfl) rfl rfl rfl ?_
      refine s_y (y_move rfl) rfl rfl rfl ?_
      refine s_y (y_F (y_leq rfl rfl) (by assumption)) rfl rfl rfl ?_
      refine s_y (y_pickT rfl rfl) rfl rfl rfl ?_
      refine s_y (y_move rfl) rfl rfl rfl ?_
      iterate 2 refine s_skip rfl rfl rfl ?_
      refine s_y (y_pickF rfl rfl) rfl rfl rfl ?_
      refine s_y (y_move rfl) rfl rfl rfl ?_
      iterate 3 refine s_skip rfl rfl rfl ?_
      refine s_y (y_pickF rfl rfl) rfl rfl rfl ?_
      refine s_y (y_move rfl) rfl rfl rfl ?_
      iterate 2 refine s_skip rfl rfl rfl ?_
      refine s_y (y_pickF rfl rfl) rfl rfl rfl ?_
      refine s_y (y_move rfl) rfl rfl rfl ?_
      iterate 3 refine s_skip rfl rfl rfl ?_
      refine s_y (y_pickF rfl rfl) rfl rfl rfl ?_
      refine s_y (y_move rfl) rfl rfl rfl ?_
      iterate 2 refine s_skip rfl rfl rfl ?_
      refine s_y (y_pickF rfl rfl) rfl rfl rfl ?_
      refine s_y (y_assign rfl) rfl rfl rfl ?_
      refine s_nil ?_
      refine f_then ?_
      refine c_ret ?_
      exact f_ret () (res1 rfl rfl) (fun w h => h)
  · rw [decide_eq_false (show ¬ boundedB lot n found risk from fun h => h1 h.1)]
    refine c_seq ?_
    refine c_region ?_
    refine s_y (y_assign rfl) rfl rfl rfl ?_
    refine s_nil ?_
    refine f_then ?_
    refine c_seq ?_
    refine c_region ?_
    refine s_y (y_move rfl) rfl rfl rfl ?_
    refine s_y (y_F (y_geq rfl rfl) (by assumption)) rfl rfl rfl ?_
    refine s_y (y_move rfl) rfl rfl rfl ?_
    iterate 2 refine s_skip rfl rfl rfl ?_
    refine s_y (y_pickF rfl rfl) rfl rfl rfl ?_
    refine s_y (y_move rfl) rfl rfl rfl ?_
    iterate 2 refine s_skip rfl rfl rfl ?_
    refine s_y (y_pickF rfl rfl) rfl rfl rfl ?_
    refine s_y (y_move rfl) rfl rfl rfl ?_
    iterate 3 refine s_skip rfl rfl rfl ?_
    refine s_y (y_pickF rfl rfl) rfl rfl rfl ?_
    refine s_y (y_move rfl) rfl rfl rfl ?_
    iterate 2 refine s_skip rfl rfl rfl ?_
    refine s_y (y_pickF rfl rfl) rfl rfl rfl ?_
    refine s_y (y_move rfl) rfl rfl rfl ?_
    iterate 3 refine s_skip rfl rfl rfl ?_
    refine s_y (y_pickF rfl rfl) rfl rfl rfl ?_
    refine s_y (y_move rfl) rfl rfl rfl ?_
    iterate 2 refine s_skip rfl rfl rfl ?_
    refine s_y (y_pickF rfl rfl) rfl rfl rfl ?_
    refine s_y (y_assign rfl) rfl rfl rfl ?_
    refine s_nil ?_
    refine f_then ?_
    refine c_ret ?_
    exact f_ret () (res1 rfl rfl) (fun w h => h)
set_option maxRecDepth 10000 in
set_option maxHeartbeats 8000000 in
theorem planned_spec {C : World → Prop} {lot good bad alpha beta : Int} : Spec Try.prog 26 #[.int .i64 lot, .int .i64 good, .int .i64 bad, .int .i64 alpha, .int .i64 beta] C (fun _ : Unit => .bool (decide (plannedB lot good bad alpha beta))) (fun _ => C) := by
  refine enter (args := [_, _, _, _, _]) Try.func26 rfl Try.ntmps26 rfl ?_
  by_cases h1 : 1 ≤ lot
  · by_cases h2 : lot ≤ 256
    · by_cases h3 : 0 ≤ good
      · by_cases h4 : good < bad
        · by_cases h5 : bad ≤ lot
          · refine c_seq ?_
            refine c_region ?_
            refine s_y (y_assign rfl) rfl rfl rfl ?_
            refine s_nil ?_
            refine f_then ?_
            refine c_seq ?_
            refine c_region ?_
            refine s_y (y_move rfl) rfl rfl rfl ?_
            refine s_y (y_T (y_geq rfl rfl) (by assumption)) rfl rfl rfl ?_
            refine s_y (y_move rfl) rfl rfl rfl ?_
            refine s_y (y_move rfl) rfl rfl rfl ?_
            refine s_y (y_T (y_leq rfl rfl) (by assumption)) rfl rfl rfl ?_
            refine s_y (y_pickT rfl rfl) rfl rfl rfl ?_
            refine s_y (y_move rfl) rfl rfl rfl ?_
            refine s_y (y_move rfl) rfl rfl rfl ?_
            refine s_y (y_T (y_geq rfl rfl) (by assumption)) rfl rfl rfl ?_
            refine s_y (y_pickT rfl rfl) rfl rfl rfl ?_
            refine s_y (y_move rfl) rfl rfl rfl ?_
            refine s_y (y_move rfl) rfl rfl rfl ?_
            refine s_y (y_move rfl) rfl rfl rfl ?_
            refine s_y (y_T (y_lss rfl rfl) (by assumption)) rfl rfl rfl ?_
            refine s_y (y_pickT rfl rfl) rfl rfl rfl ?_
            refine s_y (y_move rfl) rfl rfl rfl ?_
            refine s_y (y_move rfl) rfl rfl rfl ?_
            refine s_y (y_move rfl) rfl rfl rfl ?_
            refine s_y (y_T (y_leq rfl rfl) (by assumption)) rfl rfl rfl ?_
            refine s_y (y_pickT rfl rfl) rfl rfl rfl ?_
            refine s_y (y_move rfl) rfl rfl rfl ?_
            refine s_y (y_move rfl) rfl rfl rfl ?_
            refine s_call (en_f rfl Try.call60) isRisk_spec rfl rfl rfl (fun _ => ?_)
            by_cases h6 : 0 ≤ alpha ∧ alpha ≤ 1000000
            · rw [decide_eq_true h6]
              refine s_y (y_pickT rfl rfl) rfl rfl rfl ?_
              refine s_y (y_move rfl) rfl rfl rfl ?_
              refine s_y (y_move rfl) rfl rfl rfl ?_
              refine s_call (en_f rfl Try.call60) isRisk_spec rfl rfl rfl (fun _ => ?_)
              by_cases h7 : 0 ≤ beta ∧ beta ≤ 1000000
              · rw [decide_eq_true (show plannedB lot good bad alpha beta from ⟨h1, h2, h3, h4, h5, h6, h7⟩), decide_eq_true h7]
                refine s_y (y_pickT rfl rfl) rfl rfl rfl ?_
                refine s_y (y_assign rfl) rfl rfl rfl ?_
                refine s_nil ?_
                refine f_then ?_
                refine c_ret ?_
                exact f_ret () (res1 rfl rfl) (fun w h => h)
              · rw [decide_eq_false (show ¬ plannedB lot good bad alpha beta from fun h => h7 h.2.2.2.2.2.2), decide_eq_false h7]
                refine s_y (y_pickT rfl rfl) rfl rfl rfl ?_
                refine s_y (y_assign rfl) rfl rfl rfl ?_
                refine s_nil ?_
                refine f_then ?_
                refine c_ret ?_
                exact f_ret () (res1 rfl rfl) (fun w h => h)
            · rw [decide_eq_false (show ¬ plannedB lot good bad alpha beta from fun h => h6 h.2.2.2.2.2.1), decide_eq_false h6]
              refine s_y (y_pickT rfl rfl) rfl rfl rfl ?_
              refine s_y (y_move rfl) rfl rfl rfl ?_
              iterate 2 refine s_skip rfl rfl rfl ?_
              refine s_y (y_pickF rfl rfl) rfl rfl rfl ?_
              refine s_y (y_assign rfl) rfl rfl rfl ?_
              refine s_nil ?_
              refine f_then ?_
              refine c_ret ?_
              exact f_ret () (res1 rfl rfl) (fun w h => h)
          · rw [decide_eq_false (show ¬ plannedB lot good bad alpha beta from fun h => h5 h.2.2.2.2.1)]
            refine c_seq ?_
            refine c_region ?_
            refine s_y (y_assign rfl) rfl rfl rfl ?_
            refine s_nil ?_
            refine f_then ?_
            refine c_seq ?_
            refine c_region ?_
            refine s_y (y_move rfl) rfl rfl rfl ?_
            refine s_y (y_T (y_geq rfl rfl) (by assumption)) rfl rfl rfl ?_
            refine s_y (y_move rfl) rfl rfl rfl ?_
            refine s_y (y_move rfl) rfl rfl rfl ?_
            refine s_y (y_T (y_leq rfl rfl) (by assumption)) rfl rfl rfl ?_
            refine s_y (y_pickT rfl rfl) rfl rfl rfl ?_
            refine s_y (y_move rfl) rfl rfl rfl ?_
            refine s_y (y_move rfl) rfl rfl rfl ?_
            refine s_y (y_T (y_geq rfl rfl) (by assumption)) rfl rfl rfl ?_
            refine s_y (y_pickT rfl rfl) rfl rfl rfl ?_
            refine s_y (y_move rfl) rfl rfl rfl ?_
            refine s_y (y_move rfl) rfl rfl rfl ?_
            refine s_y (y_move rfl) rfl rfl rfl ?_
            refine s_y (y_T (y_lss rfl rfl) (by assumption)) rfl rfl rfl ?_
            refine s_y (y_pickT rfl rfl) rfl rfl rfl ?_
            refine s_y (y_move rfl) rfl rfl rfl ?_
            refine s_y (y_move rfl) rfl rfl rfl ?_
            refine s_y (y_move rfl) rfl rfl rfl ?_
            refine s_y (y_F (y_leq rfl rfl) (by assumption)) rfl rfl rfl ?_
            refine s_y (y_pickT rfl rfl) rfl rfl rfl ?_
            refine s_y (y_move rfl) rfl rfl rfl ?_
            iterate 2 refine s_skip rfl rfl rfl ?_
            refine s_y (y_pickF rfl rfl) rfl rfl rfl ?_
            refine s_y (y_move rfl) rfl rfl rfl ?_
            iterate 2 refine s_skip rfl rfl rfl ?_
            refine s_y (y_pickF rfl rfl) rfl rfl rfl ?_
            refine s_y (y_assign rfl) rfl rfl rfl ?_
            refine s_nil ?_
            refine f_then ?_
            refine c_ret ?_
            exact f_ret () (res1 rfl rfl) (fun w h => h)
        · rw [decide_eq_false (show ¬ plannedB lot good bad alpha beta from fun h => h4 h.2.2.2.1)]
          refine c_seq ?_
          refine c_region ?_
          refine s_y (y_assign rfl) rfl rfl rfl ?_
          refine s_nil ?_
          refine f_then ?_
          refine c_seq ?_
          refine c_region ?_
          refine s_y (y_move rfl) rfl rfl rfl ?_
          refine s_y (y_T (y_geq rfl rfl) (by assumption)) rfl rfl rfl ?_
          refine s_y (y_move rfl) rfl rfl rfl ?_
          refine s_y (y_move rfl) rfl rfl rfl ?_
          refine s_y (y_T (y_leq rfl rfl) (by assumption)) rfl rfl rfl ?_
          refine s_y (y_pickT rfl rfl) rfl rfl rfl ?_
          refine s_y (y_move rfl) rfl rfl rfl ?_
          refine s_y (y_move rfl) rfl rfl rfl ?_
          refine s_y (y_T (y_geq rfl rfl) (by assumption)) rfl rfl rfl ?_
          refine s_y (y_pickT rfl rfl) rfl rfl rfl ?_
          refine s_y (y_move rfl) rfl rfl rfl ?_
          refine s_y (y_move rfl) rfl rfl rfl ?_
          refine s_y (y_move rfl) rfl rfl rfl ?_
          refine s_y (y_F (y_lss rfl rfl) (by assumption)) rfl rfl rfl ?_
          refine s_y (y_pickT rfl rfl) rfl rfl rfl ?_
          refine s_y (y_move rfl) rfl rfl rfl ?_
          iterate 3 refine s_skip rfl rfl rfl ?_
          refine s_y (y_pickF rfl rfl) rfl rfl rfl ?_
          refine s_y (y_move rfl) rfl rfl rfl ?_
          iterate 2 refine s_skip rfl rfl rfl ?_
          refine s_y (y_pickF rfl rfl) rfl rfl rfl ?_
          refine s_y (y_move rfl) rfl rfl rfl ?_
          iterate 2 refine s_skip rfl rfl rfl ?_
          refine s_y (y_pickF rfl rfl) rfl rfl rfl ?_
          refine s_y (y_assign rfl) rfl rfl rfl ?_
          refine s_nil ?_
          refine f_then ?_
          refine c_ret ?_
          exact f_ret () (res1 rfl rfl) (fun w h => h)
      · rw [decide_eq_false (show ¬ plannedB lot good bad alpha beta from fun h => h3 h.2.2.1)]
        refine c_seq ?_
        refine c_region ?_
        refine s_y (y_assign rfl) rfl rfl rfl ?_
        refine s_nil ?_
        refine f_then ?_
        refine c_seq ?_
        refine c_region ?_
        refine s_y (y_move rfl) rfl rfl rfl ?_
        refine s_y (y_T (y_geq rfl rfl) (by assumption)) rfl rfl rfl ?_
        refine s_y (y_move rfl) rfl rfl rfl ?_
        refine s_y (y_move rfl) rfl rfl rfl ?_
        refine s_y (y_T (y_leq rfl rfl) (by assumption)) rfl rfl rfl ?_
        refine s_y (y_pickT rfl rfl) rfl rfl rfl ?_
        refine s_y (y_move rfl) rfl rfl rfl ?_
        refine s_y (y_move rfl) rfl rfl rfl ?_
        refine s_y (y_F (y_geq rfl rfl) (by assumption)) rfl rfl rfl ?_
        refine s_y (y_pickT rfl rfl) rfl rfl rfl ?_
        refine s_y (y_move rfl) rfl rfl rfl ?_
        iterate 3 refine s_skip rfl rfl rfl ?_
        refine s_y (y_pickF rfl rfl) rfl rfl rfl ?_
        refine s_y (y_move rfl) rfl rfl rfl ?_
        iterate 3 refine s_skip rfl rfl rfl ?_
        refine s_y (y_pickF rfl rfl) rfl rfl rfl ?_
        refine s_y (y_move rfl) rfl rfl rfl ?_
        iterate 2 refine s_skip rfl rfl rfl ?_
        refine s_y (y_pickF rfl rfl) rfl rfl rfl ?_
        refine s_y (y_move rfl) rfl rfl rfl ?_
        iterate 2 refine s_skip rfl rfl rfl ?_
        refine s_y (y_pickF rfl rfl) rfl rfl rfl ?_
        refine s_y (y_assign rfl) rfl rfl rfl ?_
        refine s_nil ?_
        refine f_then ?_
        refine c_ret ?_
        exact f_ret () (res1 rfl rfl) (fun w h => h)
    · rw [decide_eq_false (show ¬ plannedB lot good bad alpha beta from fun h => h2 h.2.1)]
      refine c_seq ?_
      refine c_region ?_
      refine s_y (y_assign rfl) rfl rfl rfl ?_
      refine s_nil ?_
      refine f_then ?_
      refine c_seq ?_
      refine c_region ?_
      refine s_y (y_move rfl) rfl rfl rfl ?_
      refine s_y (y_T (y_geq rfl rfl) (by assumption)) rfl rfl rfl ?_
      refine s_y (y_move rfl) rfl rfl rfl ?_
      refine s_y (y_move rfl) rfl rfl rfl ?_
      refine s_y (y_F (y_leq rfl rfl) (by assumption)) rfl rfl rfl ?_
      refine s_y (y_pickT rfl rfl) rfl rfl rfl ?_
      refine s_y (y_move rfl) rfl rfl rfl ?_
      iterate 2 refine s_skip rfl rfl rfl ?_
      refine s_y (y_pickF rfl rfl) rfl rfl rfl ?_
      refine s_y (y_move rfl) rfl rfl rfl ?_
      iterate 3 refine s_skip rfl rfl rfl ?_
      refine s_y (y_pickF rfl rfl) rfl rfl rfl ?_
      refine s_y (y_move rfl) rfl rfl rfl ?_
      iterate 3 refine s_skip rfl rfl rfl ?_
      refine s_y (y_pickF rfl rfl) rfl rfl rfl ?_
      refine s_y (y_move rfl) rfl rfl rfl ?_
      iterate 2 refine s_skip rfl rfl rfl ?_
      refine s_y (y_pickF rfl rfl) rfl rfl rfl ?_
      refine s_y (y_move rfl) rfl rfl rfl ?_
      iterate 2 refine s_skip rfl rfl rfl ?_
      refine s_y (y_pickF rfl rfl) rfl rfl rfl ?_
      refine s_y (y_assign rfl) rfl rfl rfl ?_
      refine s_nil ?_
      refine f_then ?_
      refine c_ret ?_
      exact f_ret () (res1 rfl rfl) (fun w h => h)
  · rw [decide_eq_false (show ¬ plannedB lot good bad alpha beta from fun h => h1 h.1)]
    refine c_seq ?_
    refine c_region ?_
    refine s_y (y_assign rfl) rfl rfl rfl ?_
    refine s_nil ?_
    refine f_then ?_
    refine c_seq ?_
    refine c_region ?_
    refine s_y (y_move rfl) rfl rfl rfl ?_
    refine s_y (y_F (y_geq rfl rfl) (by assumption)) rfl rfl rfl ?_
    refine s_y (y_move rfl) rfl rfl rfl ?_
    iterate 2 refine s_skip rfl rfl rfl ?_
    refine s_y (y_pickF rfl rfl) rfl rfl rfl ?_
    refine s_y (y_move rfl) rfl rfl rfl ?_
    iterate 2 refine s_skip rfl rfl rfl ?_
    refine s_y (y_pickF rfl rfl) rfl rfl rfl ?_
    refine s_y (y_move rfl) rfl rfl rfl ?_
    iterate 3 refine s_skip rfl rfl rfl ?_
    refine s_y (y_pickF rfl rfl) rfl rfl rfl ?_
    refine s_y (y_move rfl) rfl rfl rfl ?_
    iterate 3 refine s_skip rfl rfl rfl ?_
    refine s_y (y_pickF rfl rfl) rfl rfl rfl ?_
    refine s_y (y_move rfl) rfl rfl rfl ?_
    iterate 2 refine s_skip rfl rfl rfl ?_
    refine s_y (y_pickF rfl rfl) rfl rfl rfl ?_
    refine s_y (y_move rfl) rfl rfl rfl ?_
    iterate 2 refine s_skip rfl rfl rfl ?_
    refine s_y (y_pickF rfl rfl) rfl rfl rfl ?_
    refine s_y (y_assign rfl) rfl rfl rfl ?_
    refine s_nil ?_
    refine f_then ?_
    refine c_ret ?_
    exact f_ret () (res1 rfl rfl) (fun w h => h)
end Go.KL
end

section
/- Walks: ratio, and the comparison of fractions in lowest terms. -/
namespace Go.KL
open Go.Proofs
theorem cmpV_lw {p q r s : Nat} (hq : q ≠ 0) (hs : s ≠ 0) : (if lwN p q * (lwD r s - 1 + 1) < lwN r s * (lwD p q - 1 + 1) then (-1 : Int) else if lwN r s * (lwD p q - 1 + 1) < lwN p q * (lwD r s - 1 + 1) then 1 else 0) = cmpV (p * s) (r * q) := by
  have d1 := lwD_pos (p := p) hq
  have d2 := lwD_pos (p := r) hs
  rw [Nat.sub_add_cancel d1, Nat.sub_add_cancel d2]
  unfold cmpV
  have h1 := lw_lt (p := p) (q := q) (r := r) (s := s) hq hs
  have h2 := lw_lt (p := r) (q := s) (r := p) (s := q) hs hq
  by_cases c1 : p * s < r * q
  · rw [if_pos (h1.2 c1), if_pos c1]
  · rw [if_neg (mt h1.1 c1), if_neg c1]
    by_cases c2 : r * q < p * s
    · rw [if_pos (h2.2 c2), if_pos c2]
    · rw [if_neg (mt h2.1 c2), if_neg c2]
theorem wl_u64 {x : Nat} (h : x < 2 ^ 64) : wl x ≤ 2 := wl_ex (by omega) h
theorem wl_lw {p q e : Nat} (hp : wl p ≤ e) (hq : wl q ≤ e) : wl (lwN p q) ≤ e ∧ wl (lwD p q - 1) ≤ e :=
  ⟨Nat.le_trans (wl_mono lw_le.1) hp, Nat.le_trans (wl_mono (Nat.le_trans (Nat.sub_le _ 1) lw_le.2)) hq⟩
theorem wl_acc {lot bad n : Nat} {c : Int} (h1 : lot ≤ 2048) (h2 : bad ≤ lot) (h3 : n ≤ lot) : wl (accN lot bad n c) ≤ 10000 := Nat.le_trans (wl_16k (accN_lt (by omega) h2 h3)) (by omega)
theorem wl_bin {lot n : Nat} (h1 : lot ≤ 2048) : wl (bino lot n) ≤ 10000 := Nat.le_trans (wl_exl (d := 512) (e := 4096) (f := 16384) (by omega) (by omega) (bino_4k (by omega))) (by omega)
theorem bino_nz {n k : Nat} (h : k ≤ n) : bino n k ≠ 0 := Nat.pos_iff_ne_zero.1 (bino_pos h)
theorem cmpV_eq {a b : Nat} (h : a = b) : cmpV a b = 0 := by
  unfold cmpV
  rw [if_neg (by omega), if_neg (by omega)]
attribute [local irreducible] SC St Fin Sq Ylds Doos Sets Enters Spec CellIs CellsAre Then Ret Rnd Chn resOK ints bools recs arr
theorem fcmp2_spec {W : World} {N : List Chunk} {a b c d : Value} {p q r s : Nat} [ha : NatV (K W N) a (lwN p q)] [hb : NatV (K W N) b (lwD p q - 1)] [hc : NatV (K W N) c (lwN r s)] [hd : NatV (K W N) d (lwD r s - 1)] (hp : wl p ≤ 10000) (hq : wl q ≤ 10000) (hr : wl r ≤ 10000) (hs : wl s ≤ 10000) (hq0 : q ≠ 0) (hs0 : s ≠ 0) :
    Spec Try.prog 31 #[.agg #[a, b], .agg #[c, d]] (K W N) (fun _ : Unit => .int .i64 (cmpV (p * s) (r * q))) (fun _ => K W N) := by
  have h1 := wl_lw hp hq
  have h2 := wl_lw hr hs
  have h := fcmp_spec (W := W) (N := N) (a := a) (b := b) (c := c) (d := d) h1.1 h1.2 h2.1 h2.2
  rw [cmpV_lw hq0 hs0] at h
  exact h
set_option maxRecDepth 10000 in
set_option maxHeartbeats 8000000 in
theorem ratio_spec {W : World} {N : List Chunk} {a b : Nat} (ha : a < 9223372036854775808) (hb : b < 9223372036854775808) (hb0 : b ≠ 0) :
    Spec Try.prog 32 #[.int .i64 (a : Int), .int .i64 (b : Int)] (K W N) (X := Res2 W N (lwN a b) (lwD a b - 1)) (fun r => .agg #[r.v1, r.v2]) (fun r => K W (r.L :: N)) := by
  refine enter (args := [_, _]) Try.func32 rfl Try.ntmps32 rfl ?_
  refine c_seq ?_
  refine c_region ?_
  refine s_do (do_alloc Try.tab rfl) rfl rfl rfl (fun b4 => ?_)
  refine s_nil ?_
  refine f_then ?_
  refine c_seq ?_
  refine c_region ?_
  refine s_y (y_move rfl) rfl rfl rfl ?_
  refine s_call (en_f rfl Try.call65) (bx1 (u := fun v => .tuple #[.agg #[v], .int .i64 0]) (new_spec (x := (a : Int)) (by omega) (by omega)) rfl) rfl rfl rfl (fun r1 => ?_)
  haveI : NatV (K W (r1.L :: N)) r1.v a := r1.ok.of (Int.toNat_natCast a)
  refine s_y (y_move rfl) rfl rfl rfl ?_
  refine s_y (y_extract rfl rfl) rfl rfl rfl ?_
  refine s_y (y_extract rfl rfl) rfl rfl rfl ?_
  refine s_do (do_alloc Try.tab rfl) rfl rfl rfl (fun b5 => ?_)
  refine s_set (set_71 0 rfl rfl rfl rfl) rfl rfl ?_
  refine s_y (y_assign rfl) rfl rfl rfl ?_
  refine s_nil ?_
  refine f_then ?_
  refine c_seq ?_
  refine c_region ?_
  refine s_y (y_move rfl) rfl rfl rfl ?_
  refine St.cls (C' := K W ([(b5, row 71 [r1.v])] :: [(b4, row 25 (Value.agg #[.slice none 0 0, .slice none 0 0]).cells.toList)] :: r1.L :: N)) ?_ (fun w h => h)
  refine s_call (en_f rfl Try.call65) (bx2 (u := fun v => .tuple #[.agg #[v], .int .i64 0]) (new_spec (x := (b : Int)) (by omega) (by omega)) rfl) rfl rfl rfl (fun r2 => ?_)
  haveI : NatV (K W (r2.L :: r1.L :: N)) r2.v b := r2.ok.of (Int.toNat_natCast b)
  refine s_y (y_move rfl) rfl rfl rfl ?_
  refine s_y (y_extract rfl rfl) rfl rfl rfl ?_
  refine s_y (y_extract rfl rfl) rfl rfl rfl ?_
  refine s_do (do_alloc Try.tab rfl) rfl rfl rfl (fun b7 => ?_)
  refine s_set (set_71 0 rfl rfl rfl rfl) rfl rfl ?_
  refine s_y (y_assign rfl) rfl rfl rfl ?_
  refine s_nil ?_
  refine f_then ?_
  refine c_seq ?_
  refine c_region ?_
  refine s_y (y_loadA Try.tab rfl rfl rfl rfl (cells_row0 1 rfl rfl)) rfl rfl rfl ?_
  refine s_y (y_loadA Try.tab rfl rfl rfl rfl (cells_row0 0 rfl rfl)) rfl rfl rfl ?_
  refine St.cls (C' := K W ([(b7, row 71 [r2.v])] :: [(b5, row 71 [r1.v])] :: [(b4, row 25 (Value.agg #[.slice none 0 0, .slice none 0 0]).cells.toList)] :: r2.L :: r1.L :: N)) ?_ (fun w h => h)
  refine s_call (en_f rfl Try.call50) (by3 (u2 := fun v w => .tuple #[.agg #[v, w], .int .i64 0]) (newFrac_spec (x := a) (y := b) (Nat.le_trans (wl_u64 (by omega)) (by omega)) (Nat.le_trans (wl_u64 (by omega)) (by omega)) hb0) rfl) rfl rfl rfl (fun r3 => ?_)
  refine s_y (y_move rfl) rfl rfl rfl ?_
  refine s_y (y_extract rfl rfl) rfl rfl rfl ?_
  refine s_y (y_extract rfl rfl) rfl rfl rfl ?_
  refine s_do (do_alloc Try.tab rfl) rfl rfl rfl (fun b9 => ?_)
  refine s_set (set_25 0 rfl rfl rfl rfl) rfl rfl ?_
  refine s_y (y_assign rfl) rfl rfl rfl ?_
  refine s_nil ?_
  refine f_then ?_
  refine c_seq ?_
  refine c_region ?_
  refine s_y (y_loadA Try.tab rfl rfl rfl rfl (cells_row0 0 rfl rfl)) rfl rfl rfl ?_
  refine s_set (set_25 3 rfl rfl rfl rfl) rfl rfl ?_
  refine s_nil ?_
  refine f_then ?_
  refine c_ret ?_
  have k1 : NatV (K W ([r3.L, r2.L, r1.L] ++ N)) r3.v1 (lwN a b) := r3.ok1
  have k2 : NatV (K W ([r3.L, r2.L, r1.L] ++ N)) r3.v2 (lwD a b - 1) := r3.ok2
  exact f_ret (Res2.of k1 k2) (resA Try.tab rfl rfl rfl rfl rfl (cells_row0 3 rfl rfl)) (fun w h => Res2.of_cls k1 k2 h.tail.tail.tail.tail)
/-- Accept, in lowest terms. -/
theorem accept2_spec {W : World} {N : List Chunk} {lot bad n : Nat} {c : Int} (h1 : lot ≤ 2048) (h2 : bad ≤ lot) (h3 : n ≤ lot) :
    Spec Try.prog 20 #[.int .i64 (lot : Int), .int .i64 (bad : Int), .int .i64 (n : Int), .int .i64 c] (K W N) (X := Res2 W N (lwN (accN lot bad n c) (bino lot n)) (lwD (accN lot bad n c) (bino lot n) - 1)) (fun r => .tuple #[.agg #[r.v1, r.v2], .int .i64 0]) (fun r => K W (r.L :: N)) := accept_spec h1 h2 h3
end Go.KL
end

section
/- Walks: Frac.Mul and Frac.Add in lowest terms, while they fit. -/
namespace Go.KL
open Go.Proofs
section
variable {P : Program} {n : Nat} {σ : Slots} {C D : World → Prop} {Q : Post} {ops : Array Oper} {dr : Nat → Bool}
/-- An operation that stands alone, passed over. -/
theorem d_sskip {i : Nat} {o : Oper} {plan : List PS} {d : Nat} (hi : ops[i]? = some o) (hg : gd ops σ o = some false) (hd : o.dst = some d) (hn : Nat.blt d n = true) (hD : dr i = true → ∀ w, C w → D w)
    (k : Sd P n ops dr D Q plan ((d, undef) :: σ) C) : Sd P n ops dr D Q (.s i :: plan) σ C := by
  intro listed a hE hdc hB hs
  simp only [planB, Bool.and_eq_true, beq_iff_eq] at hB
  refine one_ready hi hB.1 (.inr ⟨gd_wanted hE hg, hD, ?_⟩)
  rw [hd]
  exact k _ _ (hE.put hn undef) (hdc.set (ready_PL (by rw [hB.1]; simp))) hB.2 hs
end
theorem cop_eq {a b c d : Nat} (h1 : Nat.Coprime a b) (h2 : Nat.Coprime c d) (h : a * d = c * b) : a = c ∧ b = d := by
  have k1 : a ∣ c := h1.dvd_of_dvd_mul_right (h ▸ Nat.dvd_mul_right a d)
  have k2 : c ∣ a := h2.dvd_of_dvd_mul_right (h.symm ▸ Nat.dvd_mul_right c b)
  have k3 : b ∣ d := h1.symm.dvd_of_dvd_mul_left (h.symm ▸ Nat.dvd_mul_left b c)
  have k4 : d ∣ b := h2.symm.dvd_of_dvd_mul_left (h ▸ Nat.dvd_mul_left d a)
  exact ⟨Nat.dvd_antisymm k1 k2, Nat.dvd_antisymm k3 k4⟩
theorem lw_cop {p q : Nat} (h : q ≠ 0) : Nat.Coprime (lwN p q) (lwD p q) := Nat.coprime_div_gcd_div_gcd (Nat.gcd_pos_of_pos_right _ (by omega))
theorem lw_canon {p q p' q' : Nat} (hq : q ≠ 0) (hq' : q' ≠ 0) (h : p * q' = p' * q) : lwN p q = lwN p' q' ∧ lwD p q = lwD p' q' := by
  refine cop_eq (lw_cop hq) (lw_cop hq') ?_
  have h1 := lw_cross (p := p) (q := q)
  have h2 := lw_cross (p := p') (q := q')
  have pp : 0 < q * q' := Nat.mul_pos (by omega) (by omega)
  refine Nat.eq_of_mul_eq_mul_right pp ?_
  calc lwN p q * lwD p' q' * (q * q') = (lwN p q * q) * lwD p' q' * q' := by simp only [Nat.mul_assoc, Nat.mul_left_comm]
    _ = (p * q') * lwD p q * lwD p' q' := by
      rw [h1]
      simp only [Nat.mul_assoc, Nat.mul_comm, Nat.mul_left_comm]
    _ = (p' * lwD p' q') * lwD p q * q := by
      rw [h]
      simp only [Nat.mul_assoc, Nat.mul_comm, Nat.mul_left_comm]
    _ = lwN p' q' * lwD p q * (q * q') := by
      rw [← h2]
      simp only [Nat.mul_assoc, Nat.mul_comm, Nat.mul_left_comm]
theorem lw_mul {p q r s : Nat} (hq : q ≠ 0) (hs : s ≠ 0) : lwN (lwN p q * lwN r s) (lwD p q * lwD r s) = lwN (p * r) (q * s) ∧ lwD (lwN p q * lwN r s) (lwD p q * lwD r s) = lwD (p * r) (q * s) := by
  have d1 := lwD_pos (p := p) hq
  have d2 := lwD_pos (p := r) hs
  refine lw_canon (Nat.pos_iff_ne_zero.1 (Nat.mul_pos d1 d2)) (Nat.mul_ne_zero hq hs) ?_
  have h1 := lw_cross (p := p) (q := q)
  have h2 := lw_cross (p := r) (q := s)
  calc lwN p q * lwN r s * (q * s) = (lwN p q * q) * (lwN r s * s) := by simp only [Nat.mul_assoc, Nat.mul_left_comm]
    _ = _ := by
      rw [h1, h2]
      simp only [Nat.mul_assoc, Nat.mul_left_comm]
theorem lw_add {p q r s : Nat} (hq : q ≠ 0) (hs : s ≠ 0) : lwN (lwN p q * lwD r s + lwN r s * lwD p q) (lwD p q * lwD r s) = lwN (p * s + r * q) (q * s) ∧ lwD (lwN p q * lwD r s + lwN r s * lwD p q) (lwD p q * lwD r s) = lwD (p * s + r * q) (q * s) := by
  have d1 := lwD_pos (p := p) hq
  have d2 := lwD_pos (p := r) hs
  refine lw_canon (Nat.pos_iff_ne_zero.1 (Nat.mul_pos d1 d2)) (Nat.mul_ne_zero hq hs) ?_
  have h1 := lw_cross (p := p) (q := q)
  have h2 := lw_cross (p := r) (q := s)
  calc (lwN p q * lwD r s + lwN r s * lwD p q) * (q * s) = (lwN p q * q) * (lwD r s * s) + (lwN r s * s) * (lwD p q * q) := by
          rw [Nat.add_mul]
          simp only [Nat.mul_assoc, Nat.mul_comm, Nat.mul_left_comm]
    _ = (p * s + r * q) * (lwD p q * lwD r s) := by
      rw [h1, h2, Nat.add_mul]
      simp only [Nat.mul_assoc, Nat.mul_comm, Nat.mul_left_comm]
theorem fcap_id {p q z : Nat} (h1 : p < 2 ^ 16384) (h2 : q + 1 < 2 ^ 16384) : fcap p q z = z ∧ fcapE p q = 0 := by
  have hb : ¬ fbig p q := by
    unfold fbig big
    have k1 := (bl_le (x := p) (k := 16384)).2 h1
    have k2 := (bl_le (x := q + 1) (k := 16384)).2 h2
    omega
  exact ⟨if_neg hb, if_neg hb⟩
theorem fcap_lw {p q z : Nat} (hq : q ≠ 0) (h1 : p < 2 ^ 16384) (h2 : q < 2 ^ 16384) : fcap (lwN p q) (lwD p q - 1) z = z ∧ fcapE (lwN p q) (lwD p q - 1) = 0 := by
  have d := lwD_pos (p := p) hq
  have h := lw_le (p := p) (q := q)
  refine fcap_id (Nat.lt_of_le_of_lt h.1 h1) ?_
  rw [Nat.sub_add_cancel d]
  exact Nat.lt_of_le_of_lt h.2 h2
theorem acc_le {lot bad n : Nat} {c : Int} (h : bad ≤ lot) : accN lot bad n c ≤ bino lot n := by
  by_cases hc : c < 0
  · rw [accN_neg hc]
    exact Nat.zero_le _
  · obtain ⟨k, rfl⟩ : ∃ k : Nat, c = (k : Int) := ⟨c.toNat, by omega⟩
    rw [accN_cum]
    have := cum_le (g := lot - bad) (b := bad) (n := n) (c := k + 1)
    rwa [show bad + (lot - bad) = lot by omega] at this
theorem fit {x y a b c : Nat} (hx : x ≤ 2 ^ a) (hy : y ≤ 2 ^ b) (h : a + b ≤ c) : x * y ≤ 2 ^ c :=
  Nat.le_trans (Nat.mul_le_mul hx hy) (by rw [← Nat.pow_add]; exact Nat.pow_le_pow_right (by decide) h)
theorem fit_lt {x a e : Nat} (hx : x ≤ 2 ^ a) (h : a < e) : x < 2 ^ e := Nat.lt_of_le_of_lt hx (Nat.pow_lt_pow_right (by decide) h)
theorem bino_e {n k e : Nat} (h : n ≤ e) : bino n k ≤ 2 ^ e := Nat.le_trans (bino_le n k) (Nat.pow_le_pow_right (by decide) h)
theorem wl_e {x e : Nat} (h : x ≤ 2 ^ e) (he : e < 16384) : wl x ≤ 10000 := Nat.le_trans (wl_exl (d := 512) (f := 16384) (by omega) he h) (by omega)
attribute [local irreducible] SC St Fin Sq Ylds Doos Sets Enters Spec CellIs CellsAre Then Ret Rnd Chn resOK ints bools recs arr
theorem fmul2_spec {W : World} {N : List Chunk} {a b c d : Value} {p q r s : Nat} [ha : NatV (K W N) a (lwN p q)] [hb : NatV (K W N) b (lwD p q - 1)] [hc : NatV (K W N) c (lwN r s)] [hd : NatV (K W N) d (lwD r s - 1)] (hp : wl p ≤ 10000) (hq : wl q ≤ 10000) (hr : wl r ≤ 10000) (hs : wl s ≤ 10000) (hq0 : q ≠ 0) (hs0 : s ≠ 0) (h1 : p * r < 2 ^ 16384) (h2 : q * s < 2 ^ 16384) :
    Spec Try.prog 38 #[.agg #[a, b], .agg #[c, d]] (K W N) (X := Res2 W N (lwN (p * r) (q * s)) (lwD (p * r) (q * s) - 1)) (fun r => .tuple #[.agg #[r.v1, r.v2], .int .i64 0]) (fun r => K W (r.L :: N)) := by
  have g1 := wl_lw hp hq
  have g2 := wl_lw hr hs
  have d1 := lwD_pos (p := p) hq0
  have d2 := lwD_pos (p := r) hs0
  have hm := lw_mul (p := p) (q := q) (r := r) (s := s) hq0 hs0
  have h := fmul_spec (W := W) (N := N) (a := a) (b := b) (c := c) (d := d) (X := lwN (p * r) (q * s)) (Y := lwD (p * r) (q * s) - 1) g1.1 g1.2 g2.1 g2.2 (by
    rw [Nat.sub_add_cancel d1, Nat.sub_add_cancel d2, ← hm.1]
    rfl) (by
    rw [Nat.sub_add_cancel d1, Nat.sub_add_cancel d2, ← hm.2]
    rfl)
  have k := fun z => fcap_lw (z := z) (p := p * r) (q := q * s) (Nat.mul_ne_zero hq0 hs0) h1 h2
  rw [(k _).1, (k _).1, (k 0).2] at h
  exact h
theorem fadd2_spec {W : World} {N : List Chunk} {a b c d : Value} {p q r s : Nat} [ha : NatV (K W N) a (lwN p q)] [hb : NatV (K W N) b (lwD p q - 1)] [hc : NatV (K W N) c (lwN r s)] [hd : NatV (K W N) d (lwD r s - 1)] (hp : wl p ≤ 10000) (hq : wl q ≤ 10000) (hr : wl r ≤ 10000) (hs : wl s ≤ 10000) (hq0 : q ≠ 0) (hs0 : s ≠ 0) (h1 : p * s + r * q < 2 ^ 16384) (h2 : q * s < 2 ^ 16384) :
    Spec Try.prog 39 #[.agg #[a, b], .agg #[c, d]] (K W N) (X := Res2 W N (lwN (p * s + r * q) (q * s)) (lwD (p * s + r * q) (q * s) - 1)) (fun r => .tuple #[.agg #[r.v1, r.v2], .int .i64 0]) (fun r => K W (r.L :: N)) := by
  have g1 := wl_lw hp hq
  have g2 := wl_lw hr hs
  have d1 := lwD_pos (p := p) hq0
  have d2 := lwD_pos (p := r) hs0
  have hm := lw_add (p := p) (q := q) (r := r) (s := s) hq0 hs0
  have h := fadd_spec (W := W) (N := N) (a := a) (b := b) (c := c) (d := d) (X := lwN (p * s + r * q) (q * s)) (Y := lwD (p * s + r * q) (q * s) - 1) g1.1 g1.2 g2.1 g2.2 (by
    rw [Nat.sub_add_cancel d1, Nat.sub_add_cancel d2, ← hm.1]
    rfl) (by
    rw [Nat.sub_add_cancel d1, Nat.sub_add_cancel d2, ← hm.2]
    rfl)
  have k := fun z => fcap_lw (z := z) (p := p * s + r * q) (q := q * s) (Nat.mul_ne_zero hq0 hs0) h1 h2
  rw [(k _).1, (k _).1, (k 0).2] at h
  exact h
theorem boxes_bxD25 {z : List Value} {x y : Option VC} {F : List Chunk} : boxes (bxD 25 z x y :: F) = boxes F := by
  unfold boxes
  rw [List.all_cons]
  have : (bxD 25 z x y).all (fun e => notU e.2) = true := by
    unfold bxD
    split
    · rfl
    · split
      · split <;> rfl
      · rfl
  rw [this]
  rfl
end Go.KL
end

section
/- Plain: numbers by their digits to the base 2^16. No program in sight. -/
namespace Go.KR
abbrev B : Nat := 65536
def dg (x i : Nat) : Nat := x / B ^ i % B
def val (g : Nat → Nat) : Nat → Nat
  | 0 => 0
  | n + 1 => val g n + g n * B ^ n
theorem B_pos (n : Nat) : 0 < B ^ n := Nat.pow_pos (by decide)
theorem dg_lt (x i : Nat) : dg x i < B := Nat.mod_lt _ (by decide)
theorem B_succ (n : Nat) : B ^ (n + 1) = B ^ n * B := Nat.pow_succ ..
theorem B_le {m n : Nat} (h : m ≤ n) : B ^ m ≤ B ^ n := Nat.pow_le_pow_right (by decide) h
theorem B_lt {m n : Nat} (h : m < n) : B ^ m < B ^ n := Nat.pow_lt_pow_right (by decide) h
def Dig (g : Nat → Nat) (n : Nat) : Prop := ∀ i, i < n → g i < B
theorem Dig.dg (x n : Nat) : Dig (dg x) n := fun i _ => dg_lt x i
theorem Dig.less {g : Nat → Nat} {m n : Nat} (h : Dig g n) (hm : m ≤ n) : Dig g m := fun i hi => h i (by omega)
theorem Dig.upd {g : Nat → Nat} {n k x : Nat} (h : Dig g n) (hx : x < B) : Dig (fun j => if j = k then x else g j) n := fun i hi => by
  show (if i = k then x else g i) < B
  split
  · exact hx
  · exact h i hi
theorem val_lt {g : Nat → Nat} : ∀ {n : Nat}, Dig g n → val g n < B ^ n
  | 0, _ => by simp [val]
  | n + 1, h => by
    have h1 := val_lt (h.less (Nat.le_succ n))
    have h2 : g n + 1 ≤ B := h n (Nat.lt_succ_self n)
    have h3 := Nat.mul_le_mul_right (B ^ n) h2
    rw [B_succ, Nat.mul_comm (B ^ n) B]
    simp only [val]
    rw [Nat.add_mul] at h3
    omega
theorem val_congr {g g' : Nat → Nat} : ∀ {n : Nat}, (∀ i, i < n → g i = g' i) → val g n = val g' n
  | 0, _ => rfl
  | n + 1, h => by simp only [val]; rw [val_congr (fun i hi => h i (by omega)), h n (by omega)]
theorem val_dg (x : Nat) : ∀ n, val (dg x) n = x % B ^ n
  | 0 => by simp [val, Nat.mod_one]
  | n + 1 => by
    simp only [val]
    rw [val_dg x n, B_succ, Nat.mod_mul, dg, Nat.mul_comm]
theorem val_split (g : Nat → Nat) (m : Nat) : ∀ n, val g (m + n) = val g m + B ^ m * val (fun i => g (m + i)) n
  | 0 => by simp [val]
  | n + 1 => by
    rw [← Nat.add_assoc]
    simp only [val]
    rw [val_split g m n, Nat.pow_add]
    grind
theorem val_zero {g : Nat → Nat} : ∀ {n : Nat}, (∀ i, i < n → g i = 0) → val g n = 0
  | 0, _ => rfl
  | n + 1, h => by simp only [val]; rw [val_zero (fun i hi => h i (by omega)), h n (by omega)]; simp
theorem dg_val {g : Nat → Nat} {n i : Nat} (h : Dig g n) (hi : i < n) : dg (val g n) i = g i := by
  have e : n = i + (1 + (n - i - 1)) := by omega
  rw [e, val_split, val_split]
  have h1 : val g i < B ^ i := val_lt (h.less (by omega))
  have h2 : g i < B := h i hi
  unfold dg
  rw [Nat.add_mul_div_left _ _ (B_pos i), Nat.div_eq_of_lt h1, Nat.zero_add]
  have h3 : val (fun k => g (i + k)) 1 = g i := by simp [val]
  rw [h3, Nat.pow_one, Nat.add_mul_mod_self_left, Nat.mod_eq_of_lt h2]
/-- How many digits. -/
def wl (x : Nat) : Nat := if h : x = 0 then 0 else wl (x / B) + 1
termination_by x
decreasing_by exact Nat.div_lt_self (Nat.pos_of_ne_zero h) (by decide)
theorem wl_zero : wl 0 = 0 := by rw [wl]; simp
theorem wl_pos {x : Nat} (h : x ≠ 0) : wl x = wl (x / B) + 1 := by rw [wl]; simp [h]
theorem wl_le : ∀ {n x : Nat}, wl x ≤ n ↔ x < B ^ n
  | 0, x => by
    by_cases h : x = 0
    · subst h; simp [wl_zero]
    · rw [wl_pos h]; simp [h]
  | n + 1, x => by
    by_cases h : x = 0
    · subst h; simp [wl_zero, B_pos]
    · rw [wl_pos h, Nat.add_le_add_iff_right, wl_le, B_succ, Nat.div_lt_iff_lt_mul (by decide)]
theorem lt_wl (x : Nat) : x < B ^ wl x := wl_le.1 (Nat.le_refl _)
theorem wl_ge {x n : Nat} (h : n < wl x) : B ^ n ≤ x := by
  rcases Nat.lt_or_ge x (B ^ n) with h1 | h1
  · have := wl_le.2 h1; omega
  · exact h1
theorem val_wl (x : Nat) : val (dg x) (wl x) = x := by rw [val_dg, Nat.mod_eq_of_lt (lt_wl x)]
theorem val_of_le {x n : Nat} (h : wl x ≤ n) : val (dg x) n = x := by rw [val_dg, Nat.mod_eq_of_lt (wl_le.1 h)]
theorem dg_out {x i : Nat} (h : wl x ≤ i) : dg x i = 0 := by
  unfold dg
  rw [Nat.div_eq_of_lt (wl_le.1 h), Nat.zero_mod]
theorem wl_val {g : Nat → Nat} {n : Nat} (h : Dig g n) (ht : 0 < n → g (n - 1) ≠ 0) : wl (val g n) = n := by
  apply Nat.le_antisymm
  · exact wl_le.2 (val_lt h)
  · rcases Nat.eq_zero_or_pos n with h0 | h0
    · omega
    · rcases Nat.lt_or_ge (wl (val g n)) n with h1 | h1
      · have h2 : val g n < B ^ (n - 1) := wl_le.1 (by omega)
        obtain ⟨k, rfl⟩ : ∃ k, n = k + 1 := ⟨n - 1, by omega⟩
        simp only [val, Nat.add_sub_cancel] at h2 ht
        have h3 : 1 * B ^ k ≤ g k * B ^ k := Nat.mul_le_mul_right _ (Nat.pos_of_ne_zero (ht (by omega)))
        omega
      · exact h1
theorem dg_top {x : Nat} (h : 0 < wl x) : dg x (wl x - 1) ≠ 0 := by
  intro e
  have h1 : val (dg x) (wl x - 1 + 1) = x := by rw [Nat.sub_add_cancel h]; exact val_wl x
  simp only [val, e, Nat.zero_mul, Nat.add_zero] at h1
  have h2 := val_lt (Dig.dg x (wl x - 1))
  rw [h1] at h2
  have := wl_le.2 h2
  omega
theorem wl_eq_zero {x : Nat} : wl x = 0 ↔ x = 0 := by
  constructor
  · intro h
    have := lt_wl x
    rw [h] at this
    simpa using this
  · intro h; subst h; exact wl_zero
theorem wl_one : wl 1 = 1 := by rw [wl_pos (by decide), Nat.div_eq_of_lt (by decide), wl_zero]
theorem wl_mono {x y : Nat} (h : x ≤ y) : wl x ≤ wl y := wl_le.2 (Nat.lt_of_le_of_lt h (lt_wl y))
theorem dg_zero (x : Nat) : dg x 0 = x % B := by simp [dg]
/-- One digit anew. -/
theorem val_upd {g : Nat → Nat} {k x : Nat} : ∀ {n : Nat}, k < n → val (fun j => if j = k then x else g j) n + g k * B ^ k = val g n + x * B ^ k
  | 0, h => absurd h (Nat.not_lt_zero _)
  | n + 1, h => by
    simp only [val]
    by_cases hk : k = n
    · subst hk
      rw [val_congr (g' := g) (fun i hi => by simp [show i ≠ k by omega])]
      simp
      omega
    · have := val_upd (g := g) (x := x) (n := n) (k := k) (by omega)
      simp only [show n ≠ k by omega, if_false]
      omega
/-- Comparing from the top. -/
theorem val_lt_of {f g : Nat → Nat} {n k : Nat} (hf : Dig f n) (hk : k < n) (he : ∀ i, k < i → i < n → f i = g i) (hlt : f k < g k) : val f n < val g n := by
  have e : n = k + (1 + (n - k - 1)) := by omega
  rw [e, val_split f, val_split g, val_split (fun i => f (k + i)), val_split (fun i => g (k + i))]
  have h1 : val f k < B ^ k := val_lt (hf.less (by omega))
  have h2 : val (fun i => f (k + (1 + i))) (n - k - 1) = val (fun i => g (k + (1 + i))) (n - k - 1) := val_congr fun i hi => he _ (by omega) (by omega)
  rw [h2]
  have h3 : val (fun i => f (k + i)) 1 = f k := by simp [val]
  have h4 : val (fun i => g (k + i)) 1 = g k := by simp [val]
  rw [h3, h4, Nat.mul_add, Nat.mul_add]
  have h5 : B ^ k * (f k + 1) ≤ B ^ k * g k := Nat.mul_le_mul_left _ hlt
  rw [Nat.mul_add, Nat.mul_one] at h5
  omega
end Go.KR
end

section
/- The reference's numbers, rows of ints in memory: views, and how they last. No program in sight. -/
namespace Go.KL
/-- Words in memory. -/
class RawI (C : World → Prop) (v : Value) (n : outParam Nat) (g : outParam (Nat → Nat)) : Prop where
  ok : ∃ pa c, v = .slice pa n c ∧ n ≤ c ∧ c ≤ maxLen ∧ (0 < n → ∃ b o, pa = some ⟨b, o, none⟩ ∧ ∀ w, C w → ∃ l, w.heap[b]? = some (row 3 l) ∧ ∀ i, i < n → l[o + i]? = some (.int .i64 (g i : Int)))
/-- A number. -/
class NumV (C : World → Prop) (v : Value) (x : outParam Nat) : Prop where
  raw : RawI C v (KR.wl x) (KR.dg x)
theorem RawI.cls {C D : World → Prop} {v : Value} {n : Nat} {g : Nat → Nat} (h : RawI C v n g) (hC : ∀ w, D w → C w) : RawI D v n g := by
  obtain ⟨pa, c, h1, h2, h3, h4⟩ := h.ok
  refine ⟨pa, c, h1, h2, h3, fun hn => ?_⟩
  obtain ⟨b, o, h5, h6⟩ := h4 hn
  exact ⟨b, o, h5, fun w hw => h6 w (hC w hw)⟩
theorem RawI.congr {C : World → Prop} {v : Value} {n : Nat} {g g' : Nat → Nat} (h : RawI C v n g) (hg : ∀ i, i < n → g i = g' i) : RawI C v n g' := by
  obtain ⟨pa, c, h1, h2, h3, h4⟩ := h.ok
  refine ⟨pa, c, h1, h2, h3, fun hn => ?_⟩
  obtain ⟨b, o, h5, h6⟩ := h4 hn
  refine ⟨b, o, h5, fun w hw => ?_⟩
  obtain ⟨l, h7, h8⟩ := h6 w hw
  exact ⟨l, h7, fun i hi => by rw [h8 i hi, hg i hi]⟩
theorem NumV.cls {C D : World → Prop} {v : Value} {x : Nat} (h : NumV C v x) (hC : ∀ w, D w → C w) : NumV D v x := ⟨h.raw.cls hC⟩
theorem NumV.of {C : World → Prop} {v : Value} {x y : Nat} (h : NumV C v x) (e : x = y) : NumV C v y := e ▸ h
section
variable {W : World} {Ls N : List Chunk} {C : World → Prop} {v : Value} {x n : Nat} {g : Nat → Nat}
instance NumV.rawI [h : NumV C v x] : RawI C v (KR.wl x) (KR.dg x) := h.raw
instance RawI.cons {c : Chunk} [h : RawI (K W Ls) v n g] : RawI (K W (c :: Ls)) v n g := h.cls fun _ h => h.tail
instance NumV.cons {c : Chunk} [h : NumV (K W Ls) v x] : NumV (K W (c :: Ls)) v x := h.cls fun _ h => h.tail
instance NumV.app {F : List Chunk} [h : NumV (K W N) v x] : NumV (K W (N ++ F)) v x := h.cls fun _ h => h.front_of
instance RawI.app {F : List Chunk} [h : RawI (K W N) v n g] : RawI (K W (N ++ F)) v n g := h.cls fun _ h => h.front_of
theorem NumV.nil {pa : Option Addr} {c : Nat} (hc : c ≤ maxLen) : NumV C (.slice pa 0 c) 0 := by
  constructor
  rw [KR.wl_zero]
  exact ⟨pa, c, rfl, Nat.zero_le _, hc, fun h => absurd h (Nat.lt_irrefl 0)⟩
instance NumV.nilI : NumV C (.slice none 0 0) 0 := NumV.nil (Nat.zero_le _)
theorem NumV.ofRaw (h : RawI C v n g) (hd : KR.Dig g n) (ht : 0 < n → g (n - 1) ≠ 0) : NumV C v (KR.val g n) := by
  constructor
  rw [KR.wl_val hd ht]
  exact h.congr fun i hi => (KR.dg_val hd hi).symm
/-- A row of words of one's own. -/
abbrev i64s (n : Nat) (g : Nat → Nat) (rest : List Value) : Obj := ints 3 n (fun i => (g i : Int)) rest
theorem RawI.own {b c : Nat} {rest : List Value} {ch : Chunk} (hc : n ≤ c) (hm : c ≤ maxLen) : RawI (K W (((b, i64s n g rest) :: ch) :: Ls)) (.slice (some ⟨b, 0, none⟩) n c) n g := by
  refine ⟨_, _, rfl, hc, hm, fun hn => ⟨b, 0, rfl, fun w hw => ⟨_, hw.at (i := 0) rfl, fun i hi => ?_⟩⟩⟩
  rw [Nat.zero_add]
  exact arr_get hi
end

/-! ### Reading -/
section
variable {P : Program} {m : Nat} {σ : Slots} {C : World → Prop} {v : Value} {n : Nat} {g : Nat → Nat} {dst : Option Tmp} {ty : TypeId} {pos : String} {after : Array Edge} {guard : Option (Nat × Bool)}
theorem y_lenN (T : Tab P) {x : Operand} {t e : TypeId} (hx : ev σ x = some v) (ht : T.und t = some (.slice e)) [h : RawI C v n g] :
    Ylds P m σ C ⟨dst, .call ⟨.builtin .len, #[x], #[t]⟩, ty, pos, after, guard⟩ (.int .i64 n) := by
  obtain ⟨pa, c, h1, _⟩ := h.ok
  subst h1
  exact y_len T hx ht
theorem y_ixN (T : Tab P) {x i : Operand} {t e : TypeId} {k : IntKind} {z : Int} (hx : ev σ x = some v) (hi : ev σ i = some (.int k z)) (ht : T.und t = some (.slice e)) (hs : T.size e = some 1) [h : RawI C v n g] (j : Nat) (hj : z = (j : Int)) (hlt : j < n) :
    Ylds P m σ C ⟨dst, .indexAddr t x i, ty, pos, after, guard⟩ (.pointer (some ⟨blk v, off v + j, none⟩)) := by
  obtain ⟨pa, c, h1, _, _, h4⟩ := h.ok
  obtain ⟨b, o, h5, _⟩ := h4 (by omega)
  subst h5
  subst h1
  have := y_indexAddr (n := m) (C := C) (dst := dst) (ty := ty) (pos := pos) (after := after) (guard := guard) T hx hi ht hs j hj hlt
  rwa [Nat.mul_one] at this
theorem cell_N [h : RawI C v n g] {j : Nat} (hj : j < n) : CellIs C ⟨blk v, off v + j, none⟩ (.int .i64 (g j : Int)) := by
  obtain ⟨pa, c, h1, _, _, h4⟩ := h.ok
  obtain ⟨b, o, h5, h6⟩ := h4 (by omega)
  subst h5
  subst h1
  intro w hw
  obtain ⟨l, h7, h8⟩ := h6 w hw
  show w.cell? ⟨b, o + j, none⟩ = _
  simp [World.cell?, h7, h8 j hj]
theorem y_ldN (T : Tab P) {x : Operand} {t : TypeId} {j : Nat} (hx : ev σ x = some (.pointer (some ⟨blk v, off v + j, none⟩))) (ha : T.agg t = some false) [h : RawI C v n g] (hj : j < n) :
    Ylds P m σ C ⟨dst, .load t x, ty, pos, after, guard⟩ (.int .i64 (g j : Int)) := y_load T hx ha (cell_N hj)
theorem RawI.to (h : RawI C v n g) {k c : Nat} (hk : k ≤ n) (hc : k ≤ c) (hm : c ≤ maxLen) : RawI C (vto v k c) k g := by
  obtain ⟨pa, c', h1, h2, h3, h4⟩ := h.ok
  subst h1
  refine ⟨pa, c, rfl, hc, hm, fun hn => ?_⟩
  obtain ⟨b, o, h5, h6⟩ := h4 (by omega)
  refine ⟨b, o, h5, fun w hw => ?_⟩
  obtain ⟨l, h7, h8⟩ := h6 w hw
  exact ⟨l, h7, fun i hi => h8 i (by omega)⟩
theorem RawI.from (h : RawI C v n g) {k : Nat} (hk : k ≤ n) : RawI C (vfrom v k) (n - k) (fun i => g (k + i)) := by
  obtain ⟨pa, c', h1, h2, h3, h4⟩ := h.ok
  subst h1
  refine ⟨_, _, rfl, by omega, by omega, fun hn => ?_⟩
  obtain ⟨b, o, h5, h6⟩ := h4 (by omega)
  subst h5
  rw [if_neg (by omega)]
  refine ⟨b, o + k, by simp [addr_add], fun w hw => ?_⟩
  obtain ⟨l, h7, h8⟩ := h6 w hw
  exact ⟨l, h7, fun i hi => by rw [Nat.add_assoc]; exact h8 _ (by omega)⟩
theorem y_sl3N (T : Tab P) {x a2 a3 : Operand} {t e : TypeId} {s hi mx : Nat} {z2 z3 : Int} (hx : ev σ x = some v) (hh : ev σ a2 = some (.int .i64 z2)) (hm : ev σ a3 = some (.int .i64 z3)) (ht : T.und t = some (.slice e)) (hs : T.size e = some s) [h : RawI C v n g]
    (e2 : z2 = (hi : Int)) (e3 : z3 = (mx : Int)) (h2 : hi ≤ mx) (h3 : mx ≤ n) :
    Ylds P m σ C ⟨dst, .slice t x none (some a2) (some a3), ty, pos, after, guard⟩ (vto v hi mx) := by
  obtain ⟨pa, c', h1, h4, _, _⟩ := h.ok
  subst h1
  exact y_slice3To T hx hh hm ht hs e2 e3 h2 (by omega)
theorem y_slFromN (T : Tab P) {x a1 : Operand} {t e : TypeId} {lo : Nat} {z1 : Int} (hx : ev σ x = some v) (hl : ev σ a1 = some (.int .i64 z1)) (ht : T.und t = some (.slice e)) (hs : T.size e = some 1) [h : RawI C v n g]
    (e1 : z1 = (lo : Int)) (h1 : lo ≤ n) : Ylds P m σ C ⟨dst, .slice t x (some a1) none none, ty, pos, after, guard⟩ (vfrom v lo) := by
  obtain ⟨pa, c', h2, h4, _, _⟩ := h.ok
  subst h2
  exact y_sliceFrom T hx hl ht hs e1 h1 (by omega)
theorem RawI.cap (h : RawI C v n g) : n ≤ vcap v ∧ vcap v ≤ maxLen := by
  obtain ⟨pa, c', h2, h4, h5, _⟩ := h.ok
  subst h2
  exact ⟨h4, h5⟩
theorem y_slToN (T : Tab P) {x a2 : Operand} {t e : TypeId} {s hi : Nat} {z2 : Int} (hx : ev σ x = some v) (hh : ev σ a2 = some (.int .i64 z2)) (ht : T.und t = some (.slice e)) (hs : T.size e = some s) [h : RawI C v n g]
    (e2 : z2 = (hi : Int)) (h2 : hi ≤ n) : Ylds P m σ C ⟨dst, .slice t x none (some a2) none, ty, pos, after, guard⟩ (vto v hi (vcap v)) := by
  obtain ⟨pa, c', h3, h4, _, _⟩ := h.ok
  subst h3
  exact y_sliceTo T hx hh ht hs e2 (by show hi ≤ c'; omega)
end

/-! ### Results -/
/-- A number that a call has made, and what it has made besides. -/
structure NRes (W : World) (N : List Chunk) (z : Nat) where
  L : Chunk
  v : Value
  ok : NumV (K W (L :: N)) v z
structure NRes2 (W : World) (N : List Chunk) (z1 z2 : Nat) where
  L : Chunk
  v1 : Value
  v2 : Value
  ok1 : NumV (K W (L :: N)) v1 z1
  ok2 : NumV (K W (L :: N)) v2 z2
instance NRes.inst {W : World} {N : List Chunk} {z : Nat} (r : NRes W N z) : NumV (K W (r.L :: N)) r.v z := r.ok
instance NRes2.inst1 {W : World} {N : List Chunk} {z1 z2 : Nat} (r : NRes2 W N z1 z2) : NumV (K W (r.L :: N)) r.v1 z1 := r.ok1
instance NRes2.inst2 {W : World} {N : List Chunk} {z1 z2 : Nat} (r : NRes2 W N z1 z2) : NumV (K W (r.L :: N)) r.v2 z2 := r.ok2
/-- A part of what was there. -/
structure NPrt (C : World → Prop) (z : Nat) where
  v : Value
  ok : NumV C v z
instance NPrt.inst {C : World → Prop} {z : Nat} (r : NPrt C z) : NumV C r.v z := r.ok

/-! ### What holds beside boxesI holds without them -/
def notI : Obj → Bool
  | .cells _ t => !(Nat.beq t 3)
  | _ => true
def boxesI (F : List Chunk) : Bool := F.all fun c => c.all fun e => notI e.2
theorem putAt_beyondI (w : World) {b k : Nat} (o : Obj) {l : List Value} (h : k ≠ b) (hk : (putAt w b o).heap[k]? = some (row 3 l)) : w.heap[k]? = some (row 3 l) := by
  rcases Nat.lt_or_ge k w.heap.size with h1 | h1
  · rwa [putAt_other w o h h1] at hk
  · exfalso
    rcases Nat.lt_or_ge k (max w.heap.size (b + 1)) with h2 | h2
    · simp [putAt, h2, h, Array.getElem?_eq_none h1, row] at hk
    · rw [Array.getElem?_eq_none (by rw [putAt_size]; omega)] at hk
      cases hk
theorem unframeI1 {W : World} {Ls : List Chunk} {b : Nat} {o : Obj} {v : Value} {x : Nat} {w0 : World} (hw0 : K W (Ls ++ [[(b, o)]]) w0) (ho : notI o = true) (h : NumV (K W (Ls ++ [[(b, o)]])) v x) : NumV (K W Ls) v x := by
  have hfl : (Ls ++ [[(b, o)]]).flatten = Ls.flatten ++ [(b, o)] := by simp
  have hnd := hw0.nd
  rw [hfl, List.map_append, List.nodup_append] at hnd
  obtain ⟨nd1, _, nd3⟩ := hnd
  have hbW := (hw0.own (b, o) (by rw [hfl]; simp)).1
  have key : ∀ w, K W Ls w → K W (Ls ++ [[(b, o)]]) (putAt w b o) := by
    intro w hw
    refine ⟨hw.os, hw.tape, hw.output, by rw [putAt_size]; have := hw.size; omega, ?_, ?_, ?_⟩
    · intro k hk
      rw [putAt_other w o (by simp at hbW; omega) (by have := hw.size; omega)]
      exact hw.base k hk
    · intro e he
      rw [hfl] at he
      rcases List.mem_append.1 he with he | he
      · have h1 := hw.own e he
        have hne : e.1 ≠ b := nd3 e.1 (List.mem_map.2 ⟨e, he, rfl⟩) b (by simp)
        exact ⟨h1.1, by rw [putAt_other w o hne (heap_lt h1.2)]; exact h1.2⟩
      · simp only [List.mem_singleton] at he
        subst he
        exact ⟨hbW, putAt_same w b o⟩
    · rw [hfl, List.map_append, List.nodup_append]
      exact ⟨nd1, by simp, nd3⟩
  constructor
  obtain ⟨pa, c, h1, h2, h3, h4⟩ := h.raw.ok
  refine ⟨pa, c, h1, h2, h3, fun hn => ?_⟩
  obtain ⟨b', o', h5, h6⟩ := h4 hn
  refine ⟨b', o', h5, fun w hw => ?_⟩
  obtain ⟨l, h7, h8⟩ := h6 _ (key w hw)
  refine ⟨l, putAt_beyondI w o ?_ h7, h8⟩
  intro e
  subst e
  rw [putAt_same] at h7
  simp only [Option.some.injEq] at h7
  subst h7
  simp [notI, row] at ho
theorem unframeIS {W : World} {v : Value} {x : Nat} {w0 : World} : ∀ (c : Chunk) {Ls : List Chunk}, K W (Ls ++ c.map fun e => [e]) w0 → c.all (fun e => notI e.2) = true → NumV (K W (Ls ++ c.map fun e => [e])) v x → NumV (K W Ls) v x
  | [], Ls, _, _, h => by simpa using h
  | e :: r, Ls, hw0, ho, h => by
    simp only [List.all_cons, Bool.and_eq_true] at ho
    have e1 : Ls ++ (e :: r).map (fun e => [e]) = (Ls ++ [[e]]) ++ r.map fun e => [e] := by simp
    rw [e1] at hw0 h
    exact unframeI1 (b := e.1) (o := e.2) hw0.front_of ho.1 (unframeIS r hw0 ho.2 h)
theorem unframeI {W : World} {v : Value} {x : Nat} {w0 : World} : ∀ (F : List Chunk) {Ls : List Chunk}, boxesI F = true → K W (Ls ++ F) w0 → NumV (K W (Ls ++ F)) v x → NumV (K W Ls) v x
  | [], Ls, _, _, h => by simpa using h
  | c :: F, Ls, hF, hw0, h => by
    simp only [boxesI, List.all_cons, Bool.and_eq_true] at hF
    have e1 : Ls ++ c :: F = (Ls ++ [c]) ++ F := by simp
    rw [e1] at hw0 h
    have h1 := unframeI F hF.2 hw0 h
    exact unframeIS c hw0.front_of.unflat hF.1 (h1.cls fun _ hw => hw.reflat)

end Go.KL
end

section
/- Plain: laws of numbers by digits to the base 2^16, a step at a time. No program in sight. -/
namespace Go.KR
theorem div_succ (x i : Nat) : x / B ^ (i + 1) = x / B ^ i / B := by rw [B_succ, Nat.div_div_eq_div_mul]
theorem wl_le_iff {x i : Nat} : wl x ≤ i ↔ x / B ^ i = 0 := by
  rw [wl_le, Nat.div_eq_zero_iff]
  have := B_pos i
  omega
theorem lt_wl_iff {x i : Nat} : i < wl x ↔ x / B ^ i ≠ 0 := by
  have := wl_le_iff (x := x) (i := i)
  omega
theorem dg_lt' (x i : Nat) : dg x i < 65536 := dg_lt x i
theorem add_step {x y c i : Nat} (h : (x + y) / B ^ i = x / B ^ i + y / B ^ i + c) : (c + (dg x i + dg y i)) % 65536 = dg (x + y) i ∧ (x + y) / B ^ (i + 1) = x / B ^ (i + 1) + y / B ^ (i + 1) + (c + (dg x i + dg y i)) / 65536 := by
  unfold dg
  rw [div_succ, div_succ, div_succ, h]
  generalize x / B ^ i = X
  generalize y / B ^ i = Y
  have e : B = 65536 := rfl
  rw [e]
  omega
theorem sub_step {x y c i : Nat} (hc : c ≤ 1) (h : (x - y) / B ^ i + y / B ^ i + c = x / B ^ i) :
    (dg y i + c ≤ dg x i → dg (x - y) i + (dg y i + c) = dg x i ∧ (x - y) / B ^ (i + 1) + y / B ^ (i + 1) + 0 = x / B ^ (i + 1)) ∧
    (dg x i < dg y i + c → dg (x - y) i + (dg y i + c) = dg x i + 65536 ∧ (x - y) / B ^ (i + 1) + y / B ^ (i + 1) + 1 = x / B ^ (i + 1)) := by
  unfold dg
  rw [div_succ, div_succ, div_succ, ← h]
  generalize (x - y) / B ^ i = X
  generalize y / B ^ i = Y
  have e : B = 65536 := rfl
  rw [e]
  omega
theorem small_step {x d k : Nat} (hd : 0 < d) : (x / B ^ (k + 1) % d * 65536 + dg x k) / d = dg (x / d) k ∧ (x / B ^ (k + 1) % d * 65536 + dg x k) % d = x / B ^ k % d := by
  unfold dg
  rw [div_succ, Nat.div_div_eq_div_mul x d, Nat.mul_comm d, ← Nat.div_div_eq_div_mul]
  generalize x / B ^ k = X
  have e : B = 65536 := rfl
  rw [e]
  have h1 := Nat.div_add_mod X 65536
  have h2 := Nat.div_add_mod (X / 65536) d
  have h3 : X / 65536 % d < d := Nat.mod_lt _ hd
  generalize X / 65536 % d = r at *
  generalize X / 65536 / d = q at *
  have h4 : X % 65536 < 65536 := Nat.mod_lt _ (by decide)
  generalize X % 65536 = u at *
  have h5 : X = (r * 65536 + u) + (65536 * q) * d := by
    rw [← h2] at h1
    rw [← h1]
    grind
  have h6 : (r * 65536 + u) / d < 65536 := by
    rw [Nat.div_lt_iff_lt_mul hd]
    have : r + 1 ≤ d := h3
    omega
  rw [h5, Nat.add_mul_div_right _ _ hd, Nat.add_mul_mod_self_right]
  refine ⟨?_, rfl⟩
  generalize (r * 65536 + u) / d = t at *
  omega
theorem shl_step {x m c i : Nat} (h : x * m / B ^ i = x / B ^ i * m + c) : (c + dg x i * m) % 65536 = dg (x * m) i ∧ x * m / B ^ (i + 1) = x / B ^ (i + 1) * m + (c + dg x i * m) / 65536 := by
  unfold dg
  rw [div_succ, div_succ, h]
  generalize x / B ^ i = X
  have e : B = 65536 := rfl
  rw [e]
  have h1 := Nat.div_add_mod X 65536
  generalize X / 65536 = q at *
  generalize X % 65536 = u at *
  have h2 : X * m + c = 65536 * (q * m) + (c + u * m) := by
    rw [← h1]
    grind
  rw [h2]
  generalize q * m = a
  generalize u * m = b
  omega
theorem dg_shl (y s j : Nat) : dg (y * B ^ s) j = if j < s then 0 else dg y (j - s) := by
  unfold dg
  split
  · rename_i h
    obtain ⟨t, rfl⟩ : ∃ t, s = j + (t + 1) := ⟨s - j - 1, by omega⟩
    rw [Nat.pow_add, B_succ, show y * (B ^ j * (B ^ t * B)) = B ^ j * (y * B ^ t * B) by grind, Nat.mul_div_cancel_left _ (B_pos j), Nat.mul_mod_left]
  · rename_i h
    obtain ⟨t, rfl⟩ : ∃ t, j = s + t := ⟨j - s, by omega⟩
    rw [Nat.add_sub_cancel_left, Nat.pow_add, ← Nat.div_div_eq_div_mul, Nat.mul_div_cancel _ (B_pos s)]
theorem shr1_step (x i : Nat) : dg x i / 2 + dg x (i + 1) % 2 * 32768 = dg (x / 2) i := by
  unfold dg
  rw [div_succ, Nat.div_div_eq_div_mul x 2, Nat.mul_comm 2, ← Nat.div_div_eq_div_mul]
  generalize x / B ^ i = X
  have e : B = 65536 := rfl
  rw [e]
  omega
theorem B_two (s : Nat) : B ^ s = 2 ^ (16 * s) := by rw [Nat.pow_mul]
theorem bit_eq (x i : Nat) : dg x (i / 16) / 2 ^ (i % 16) % 2 = x / 2 ^ i % 2 := by
  unfold dg
  have hr : i % 16 < 16 := Nat.mod_lt _ (by decide)
  have e : (2 : Nat) ^ i = B ^ (i / 16) * 2 ^ (i % 16) := by
    rw [B_two, ← Nat.pow_add, Nat.div_add_mod]
  rw [e, ← Nat.div_div_eq_div_mul]
  generalize x / B ^ (i / 16) = X
  generalize i % 16 = r at *
  obtain ⟨k, hk⟩ : ∃ k, 16 = r + (k + 1) := ⟨15 - r, by omega⟩
  have e2 : B = 2 ^ r * 2 ^ (k + 1) := by
    rw [← Nat.pow_add, ← hk]
  rw [e2, Nat.mod_mul_right_div_self, Nat.mod_mod_of_dvd]
  exact ⟨2 ^ k, by rw [Nat.pow_succ, Nat.mul_comm]⟩
/-- Room for one more bit. -/
theorem bit_room {g : Nat → Nat} {n s r z : Nat} (hg : Dig g n) (hv : val g n = z * 2 ^ (16 * s + r + 1)) (hs : s < n) (hr : r < 16) : g s + 2 ^ r < 65536 := by
  have h1 := dg_val hg hs
  rw [hv, Nat.add_assoc, Nat.pow_add, ← B_two] at h1
  unfold dg at h1
  rw [show z * (B ^ s * 2 ^ (r + 1)) = B ^ s * (z * 2 ^ (r + 1)) by grind, Nat.mul_div_cancel_left _ (B_pos s)] at h1
  obtain ⟨k, hk⟩ : ∃ k, 16 = k + (r + 1) := ⟨15 - r, by omega⟩
  have e2 : B = 2 ^ k * 2 ^ (r + 1) := by rw [← Nat.pow_add, ← hk]
  rw [e2, Nat.mul_mod_mul_right] at h1
  have h2 : z % 2 ^ k < 2 ^ k := Nat.mod_lt _ (Nat.pow_pos (by decide))
  have h3 : (z % 2 ^ k + 1) * 2 ^ (r + 1) ≤ 2 ^ k * 2 ^ (r + 1) := Nat.mul_le_mul_right _ h2
  rw [← e2, Nat.add_mul, h1] at h3
  have h4 : (2 : Nat) ^ (r + 1) = 2 ^ r * 2 := Nat.pow_succ ..
  have h5 : 0 < 2 ^ r := Nat.pow_pos (by decide)
  have e : B = 65536 := rfl
  rw [e] at h3
  omega
/-- Division, bit by bit. -/
theorem div_bit {x y k : Nat} (hy : 0 < y) (r : Nat) (hr : r = x / 2 ^ (k + 1) % y * 2 + x / 2 ^ k % 2) :
    (y ≤ r → x / 2 ^ k % y = r - y ∧ x / 2 ^ k / y * 2 ^ k = x / 2 ^ (k + 1) / y * 2 ^ (k + 1) + 2 ^ k) ∧ (r < y → x / 2 ^ k % y = r ∧ x / 2 ^ k / y * 2 ^ k = x / 2 ^ (k + 1) / y * 2 ^ (k + 1)) := by
  have e1 : x / 2 ^ (k + 1) = x / 2 ^ k / 2 := by rw [Nat.pow_succ, Nat.div_div_eq_div_mul]
  rw [e1] at hr ⊢
  clear e1
  generalize x / 2 ^ k = X at *
  have h1 := Nat.div_add_mod X 2
  have h2 := Nat.div_add_mod (X / 2) y
  have h3 : X / 2 % y < y := Nat.mod_lt _ hy
  generalize X / 2 % y = u at *
  generalize X / 2 / y = q at *
  have h4 : X % 2 < 2 := Nat.mod_lt _ (by decide)
  generalize X % 2 = t at *
  have h5 : X = r + y * (2 * q) := by
    rw [← h2] at h1
    rw [← h1, hr]
    grind
  have h6 : (2 : Nat) ^ (k + 1) = 2 * 2 ^ k := by rw [Nat.pow_succ, Nat.mul_comm]
  constructor
  · intro h
    have h7 : X = (r - y) + y * (2 * q + 1) := by rw [h5, Nat.mul_add]; omega
    have h8 : X / y = 2 * q + 1 := by rw [h7, Nat.add_mul_div_left _ _ hy, Nat.div_eq_of_lt (by omega), Nat.zero_add]
    have h9 : X % y = r - y := by rw [h7, Nat.add_mul_mod_self_left, Nat.mod_eq_of_lt (by omega)]
    refine ⟨h9, ?_⟩
    rw [h8, h6]
    grind
  · intro h
    have h8 : X / y = 2 * q := by rw [h5, Nat.add_mul_div_left _ _ hy, Nat.div_eq_of_lt h, Nat.zero_add]
    have h9 : X % y = r := by rw [h5, Nat.add_mul_mod_self_left, Nat.mod_eq_of_lt h]
    refine ⟨h9, ?_⟩
    rw [h8, h6]
    grind
/-- Row by row. -/
theorem mp_step {H H' V hp xi yk c i k s P : Nat} (hs : s = c + (hp + xi * yk)) (h1 : H' + hp * P = H + s % 65536 * P) (hP : P = B ^ i * B ^ k) (hv : H + c * P = V) :
    H' + s / 65536 * (P * B) = V + xi * B ^ i * (yk * B ^ k) := by
  have hd := Nat.div_add_mod s 65536
  have e : B = 65536 := rfl
  have e1 : xi * B ^ i * (yk * B ^ k) = xi * yk * P := by rw [hP]; grind
  rw [e1]
  have e2 : s / 65536 * (P * B) + s % 65536 * P = s * P := by
    rw [e]
    conv => rhs; rw [← hd]
    grind
  have e3 : s * P = xi * yk * P + hp * P + c * P := by rw [hs]; grind
  omega
theorem cmp_up {x y k : Nat} (hk : k < wl x) (hl : wl x = wl y) (he : ∀ i, k < i → i < wl x → dg x i = dg y i) (hlt : dg x k < dg y k) : x < y := by
  have := val_lt_of (Dig.dg x (wl x)) hk he hlt
  rw [val_wl, val_of_le (by omega)] at this
  exact this
theorem val_cut {g : Nat → Nat} {k n : Nat} (hk : k ≤ n) (h : ∀ i, k ≤ i → i < n → g i = 0) : val g n = val g k := by
  have e : n = k + (n - k) := by omega
  rw [e, val_split, val_zero (g := fun i => g (k + i)) (fun i hi => h _ (by omega) (by omega)), Nat.mul_zero, Nat.add_zero]
theorem wl_mul {x y m n : Nat} (hx : wl x ≤ m) (hy : wl y ≤ n) : wl (x * y) ≤ m + n := by
  rw [wl_le] at *
  rw [Nat.pow_add]
  rcases Nat.eq_zero_or_pos y with h | h
  · subst h
    rw [Nat.mul_zero]
    exact Nat.mul_pos (B_pos m) (B_pos n)
  · exact Nat.lt_of_lt_of_le (Nat.mul_lt_mul_of_pos_right hx h) (Nat.mul_le_mul_left _ (Nat.le_of_lt hy))
theorem wl_add {x y m : Nat} (hx : wl x ≤ m) (hy : wl y ≤ m) : wl (x + y) ≤ m + 1 := by
  rw [wl_le] at *
  rw [B_succ]
  have e : B ^ m * B = B ^ m * 65536 := rfl
  omega
theorem wl_small {x n : Nat} (h : x < B ^ n) : wl x ≤ n := wl_le.2 h
theorem wl_int {x : Nat} (h : x < 18446744073709551616) : wl x ≤ 4 := wl_le.2 h
end Go.KR
end

section
/- Rows of the reference's numbers that grow, rows of one's own, results. No program in sight. -/
namespace Go.KL
/-- Digits as cells. -/
def dgs (g : Nat → Nat) (m : Nat) : List Value := (List.range m).map fun i => .int .i64 (g i : Int)
theorem dgs_zero (g : Nat → Nat) : dgs g 0 = [] := rfl
theorem dgs_succ (g : Nat → Nat) (m : Nat) : dgs g (m + 1) = dgs g m ++ [.int .i64 (g m : Int)] := by simp [dgs, List.range_succ]
theorem dgs_len (g : Nat → Nat) (m : Nat) : (dgs g m).length = m := by simp [dgs]
theorem dgs_congr {g g' : Nat → Nat} {m : Nat} (h : ∀ i, i < m → g i = g' i) : dgs g m = dgs g' m := by
  unfold dgs
  refine List.map_congr_left fun i hi => ?_
  rw [h i (List.mem_range.1 hi)]
theorem dgs_get {g : Nat → Nat} {m j : Nat} (h : j < m) : (dgs g m)[j]? = some (.int .i64 (g j : Int)) := by
  simp [dgs, h]
theorem upd_nat (g : Nat → Nat) (k u : Nat) : upd (fun i => ((g i : Nat) : Int)) k ((u : Nat) : Int) = fun i => ((upd g k u i : Nat) : Int) := upd_map (fun (a : Nat) => (a : Int)) g k u
section
variable {W w : World} {Ls N M : List Chunk} {v : Value} {c : Chunk} {m n z : Nat} {g : Nat → Nat}
theorem Buf.rawI (i : Nat) (h : Buf 3 1 v c m (dgs g m)) (hi : Ls.getD i [] = c) : RawI (K W Ls) v m g := by
  rcases h.ok with ⟨h0, h1, rfl, rfl⟩ | ⟨o, rfl, rfl, ho, hp⟩
  · subst h0
    exact ⟨none, 0, rfl, Nat.le_refl _, Nat.zero_le _, fun h => absurd h (Nat.lt_irrefl 0)⟩
  · refine ⟨_, _, rfl, ho.le, ho.max, fun hn => ⟨o.b, o.pre.length, rfl, fun w hw => ⟨_, hw.at (i := i) (by rw [hi]), fun j hj => ?_⟩⟩⟩
    rw [och_get (by rw [dgs_len]; exact hj), dgs_get hj]
theorem Buf.numV (i : Nat) {x : Nat} (h : Buf 3 1 v c (KR.wl x) (dgs (KR.dg x) (KR.wl x))) (hi : Ls.getD i [] = c) : NumV (K W Ls) v x := ⟨h.rawI i hi⟩
/-- A row that was made. -/
theorem Buf.made {b : Nat} {f : Nat → Int} (hm : m ≤ maxLen) (hf : ∀ i, i < m → f i = (g i : Int)) : Buf 3 1 (.slice (some ⟨b, 0, none⟩) m m) [(b, ints 3 m f [])] m (dgs g m) := by
  refine ⟨.inr ⟨⟨b, m, [], []⟩, rfl, ?_, ⟨Nat.le_refl _, hm, by rw [dgs_len, Nat.mul_one], by simp⟩, rfl⟩⟩
  have e : dgs g m = (List.range m).map fun i => .int .i64 (f i) := by
    unfold dgs
    refine List.map_congr_left fun i hi => ?_
    rw [hf i (List.mem_range.1 hi)]
  rw [e]
  exact (och_ints 3 ⟨b, m, [], []⟩ m f (Nat.le_refl 0)).symm
theorem RawI.ownT {b cp : Nat} {rest : List Value} (i : Nat) {ch : Chunk} (hi : Ls.getD i [] = (b, i64s m g rest) :: ch) (hc : m ≤ cp) (hm : cp ≤ maxLen) : RawI (K W Ls) (.slice (some ⟨b, 0, none⟩) m cp) m g := by
  refine ⟨_, _, rfl, hc, hm, fun hn => ⟨b, 0, rfl, fun w hw => ⟨_, hw.at (i := i) hi, fun j hj => ?_⟩⟩⟩
  rw [Nat.zero_add]
  exact arr_get hj
theorem K.hd {c : Chunk} (h : K W (c :: N) w) : K W [c] w := h.weak N.flatten (by simp)
/-- What Trim keeps. -/
structure Trm (n : Nat) (g : Nat → Nat) where
  k : Nat
  le : k ≤ n
  zero : ∀ i, k ≤ i → i < n → g i = 0
  top : 0 < k → g (k - 1) ≠ 0
def Trm.val {n : Nat} {g : Nat → Nat} (r : Trm n g) (v : Value) : Value := vto v r.k (vcap v)
theorem Trm.num {C : World → Prop} {n : Nat} {g : Nat → Nat} {v : Value} (r : Trm n g) (h : RawI C v n g) (hd : KR.Dig g n) : NumV C (r.val v) (KR.val g n) := by
  have hcap := h.cap
  rw [KR.val_cut r.le r.zero]
  exact NumV.ofRaw (h.to r.le (Nat.le_trans r.le hcap.1) hcap.2) (hd.less r.le) r.top
/-- A number of its own chunk. -/
structure NFr (W : World) (z : Nat) where
  L : Chunk
  v : Value
  ok : NumV (K W [L]) v z
instance NFr.inst {W : World} {N : List Chunk} {z : Nat} (r : NFr W z) : NumV (K W (r.L :: N)) r.v z := r.ok.cls fun _ h => h.hd
structure NFr2 (W : World) (z1 z2 : Nat) where
  L : Chunk
  v1 : Value
  v2 : Value
  ok1 : NumV (K W [L]) v1 z1
  ok2 : NumV (K W [L]) v2 z2
instance NFr2.inst1 {W : World} {N : List Chunk} {z1 z2 : Nat} (r : NFr2 W z1 z2) : NumV (K W (r.L :: N)) r.v1 z1 := r.ok1.cls fun _ h => h.hd
instance NFr2.inst2 {W : World} {N : List Chunk} {z1 z2 : Nat} (r : NFr2 W z1 z2) : NumV (K W (r.L :: N)) r.v2 z2 := r.ok2.cls fun _ h => h.hd
/-- Two chunks as one. -/
theorem K.glue {c1 c2 : Chunk} (h : K W (c1 :: c2 :: N) w) : K W ((c1 ++ c2) :: N) w := h.weak [] (by simp)
theorem K.unglue {c1 c2 : Chunk} (h : K W ((c1 ++ c2) :: N) w) : K W (c1 :: c2 :: N) w := h.weak [] (by simp)
def NRes.of (h : NumV (K W (M ++ N)) v z) : NRes W N z := ⟨M.flatten, v, h.cls fun _ k => k.weak [] (by simp)⟩
theorem NRes.of_cls (h : NumV (K W (M ++ N)) v z) (hw : K W (M ++ N) w) : K W ((NRes.of h).L :: N) w := hw.weak [] (by simp [NRes.of])
def NRes2.of {v1 v2 : Value} {z1 z2 : Nat} (h1 : NumV (K W (M ++ N)) v1 z1) (h2 : NumV (K W (M ++ N)) v2 z2) : NRes2 W N z1 z2 := ⟨M.flatten, v1, v2, h1.cls fun _ k => k.weak [] (by simp), h2.cls fun _ k => k.weak [] (by simp)⟩
theorem NRes2.of_cls {v1 v2 : Value} {z1 z2 : Nat} (h1 : NumV (K W (M ++ N)) v1 z1) (h2 : NumV (K W (M ++ N)) v2 z2) (hw : K W (M ++ N) w) : K W ((NRes2.of h1 h2).L :: N) w := hw.weak [] (by simp [NRes2.of])
end
end Go.KL
end

section
/- Bytes made a string by conversion. No program in sight. -/
namespace Go.KL
section
variable {P : Program} {W w : World} {Ls : List Chunk} {n : Nat} {σ : Slots} {C : World → Prop} {dst : Option Tmp} {ty : TypeId} {pos : String} {after : Array Edge} {guard : Option (Nat × Bool)}
theorem loads_ok {C : World → Prop} {p : Addr} {l : List Value} (hc : CellsAre C p l) {w : World} (hw : C w) : (loadCells p l.length).run P w = .ok l.toArray w := by
  have h1 : ∀ (m i : Nat) (acc : Array Value), i + m ≤ l.length → (loadCellsFrom p i m acc).run P w = .ok (acc ++ ((l.drop i).take m).toArray) w := by
    intro m
    induction m with
    | zero => intro i acc _; simp [loadCellsFrom]
    | succ m ih =>
      intro i acc hi
      have h2 := hc w hw i (by omega)
      have h3 : l[i]? = some (l[i]'(by omega)) := List.getElem?_eq_getElem (by omega)
      rw [h3] at h2
      have h4 : (l.drop i).take (m + 1) = l[i]'(by omega) :: (l.drop (i + 1)).take m := by
        rw [List.drop_eq_getElem_cons (by omega), List.take_succ_cons]
      simp [loadCellsFrom, h2, ih (i + 1) _ (by omega), h4]
  have h5 := h1 l.length 0 #[] (by omega)
  simpa [loadCells] using h5
theorem foldl_push : ∀ (l : List Nat) (r : ByteArray), (l.map fun (b : Nat) => (b : Int)).foldl (fun r n => r.push (UInt8.ofNat n.toNat)) r = ⟨(r.data.toList ++ l.map UInt8.ofNat).toArray⟩
  | [], r => by simp
  | b :: l, r => by
    simp only [List.map_cons, List.foldl_cons]
    rw [foldl_push l]
    apply ByteArray.ext
    simp [ByteArray.push]
theorem y_bytesStr (T : Tab P) {x : Operand} {s t e : TypeId} {b cp : Nat} {l : List Nat} (hx : ev σ x = some (.slice (some ⟨b, 0, none⟩) l.length cp)) (hs : T.und s = some (.slice e)) (he : T.und e = some (.int .u8)) (ht : T.und t = some .string) (hc : CellsAre C ⟨b, 0, none⟩ (bys l)) :
    Ylds P n σ C ⟨dst, .convert s t x, ty, pos, after, guard⟩ (strV l) := by
  intro a w hE hw
  have h1 := loads_ok (P := P) hc hw
  have e1 : bys l = (l.map fun (b : Nat) => (b : Int)).map (Value.int .u8) := by simp [bys]
  rw [bys_len, e1] at h1
  have h2 := run_bytesToString (P := P) w ⟨b, 0, none⟩ l.length cp _ h1
  rw [foldl_push] at h2
  have h3 := run_convert_bytes_string (P := P) w s t e (some ⟨b, 0, none⟩) l.length cp (T.und_ok hs) (T.und_ok he) (T.und_ok ht)
  rw [h2] at h3
  simp [execOp, ev_eval hE hx, h3, strV]
end
end Go.KL
end

section
/- Walks: the reference's Trim, at, Of, Cmp. -/
namespace Go.KL
open Go.Proofs
attribute [local irreducible] SC St Fin Sq Ylds Doos Sets Enters Spec CellIs CellsAre Then Ret Rnd Chn resOK ints bools recs arr
set_option maxRecDepth 10000 in
set_option maxHeartbeats 4000000 in
theorem trim_spec {C : World → Prop} {v : Value} {n : Nat} {g : Nat → Nat} [hr : RawI C v n g] : Spec Try.prog 94 #[v] C (X := Trm n g) (fun r => r.val v) (fun _ => C) := by
  have hcap := hr.cap
  have hmx : maxLen = 9223372036854775807 := rfl
  refine enter (args := [_]) Try.func94 rfl Try.ntmps94 rfl ?_
  refine c_seq ?_
  refine c_region ?_
  refine s_y (y_assign rfl) rfl rfl rfl ?_
  refine s_nil ?_
  refine f_then ?_
  refine c_seq ?_
  refine c_region ?_
  refine s_y (y_move rfl) rfl rfl rfl ?_
  refine s_y (y_lenN Try.tab rfl rfl) rfl rfl rfl ?_
  refine s_y (y_assign rfl) rfl rfl rfl ?_
  refine s_nil ?_
  refine f_then ?_
  refine c_seq ?_
  refine c_block ?_
  refine c_loopP (α := Nat) (fun k => [(0, v), (3, .int .i64 k)]) (fun k => k ≤ n ∧ ∀ i, k ≤ i → i < n → g i = 0) (fun _ => C) (fun k => k) n ⟨rfl, rfl, trivial⟩ ⟨Nat.le_refl _, fun i h1 h2 => by omega⟩ (fun w h => h) ?_
  rintro k ⟨hk, h0⟩
  by_cases hk0 : k = 0
  · subst hk0
    refine c_seq ?_
    refine c_seq ?_
    refine c_region ?_
    refine s_y (y_move rfl) rfl rfl rfl ?_
    refine s_y (y_F (y_gtr rfl rfl) (by omega)) rfl rfl rfl ?_
    refine s_y (y_move rfl) rfl rfl rfl ?_
    iterate 6 refine s_skip rfl rfl rfl ?_
    refine s_y (y_pickF rfl rfl) rfl rfl rfl ?_
    refine s_nil ?_
    refine f_then ?_
    refine c_condF rfl ?_
    refine c_exit ?_
    refine f_thenE ?_
    refine f_rndE ?_
    refine f_blockE ?_
    refine f_then ?_
    refine c_seq ?_
    refine c_region ?_
    refine s_y (y_move rfl) rfl rfl rfl ?_
    refine s_y (y_move rfl) rfl rfl rfl ?_
    refine s_y (y_slToN Try.tab rfl rfl rfl rfl rfl (by omega)) rfl rfl rfl ?_
    refine s_y (y_assign rfl) rfl rfl rfl ?_
    refine s_nil ?_
    refine f_then ?_
    refine c_ret ?_
    exact f_ret ⟨0, hk, h0, fun h => absurd h (Nat.lt_irrefl 0)⟩ (res1 rfl rfl) (fun w h => h)
  have e1 : ((k : Int) - 1).toNat = k - 1 := by omega
  by_cases hz : g (k - 1) = 0
  · have hz2 : ((g ((k : Int) - 1).toNat : Nat) : Int) = 0 := by rw [e1, hz]; rfl
    refine c_seq ?_
    refine c_seq ?_
    refine c_region ?_
    refine s_y (y_move rfl) rfl rfl rfl ?_
    refine s_y (y_T (y_gtr rfl rfl) (by omega)) rfl rfl rfl ?_
    refine s_y (y_move rfl) rfl rfl rfl ?_
    refine s_y (y_move rfl) rfl rfl rfl ?_
    refine s_y (y_move rfl) rfl rfl rfl ?_
    refine s_y (y_sub rfl rfl (by omega)) rfl rfl rfl ?_
    refine s_y (y_ixN Try.tab rfl rfl rfl rfl _ (Int.toNat_of_nonneg (by omega)).symm (by omega)) rfl rfl rfl ?_
    refine s_y (y_ldN Try.tab rfl rfl (by omega)) rfl rfl rfl ?_
    refine s_y (y_T (y_eql rfl rfl) (by assumption)) rfl rfl rfl ?_
    refine s_y (y_pickT rfl rfl) rfl rfl rfl ?_
    refine s_nil ?_
    refine f_then ?_
    refine c_condT rfl ?_
    refine c_skip ?_
    refine f_then ?_
    refine c_block ?_
    refine c_region ?_
    refine s_y (y_move rfl) rfl rfl rfl ?_
    refine s_y (y_sub rfl rfl (by omega)) rfl rfl rfl ?_
    refine s_y (y_assign rfl) rfl rfl rfl ?_
    refine s_nil ?_
    refine f_blockN ?_
    refine f_roundP (k - 1) ⟨by omega, fun i h1 h2 => ?_⟩ (by omega) ⟨rfl, ?_, trivial⟩ (fun w h => h)
    · rcases Nat.lt_or_ge i k with h3 | h3
      · have : i = k - 1 := by omega
        subst this
        exact hz
      · exact h0 i h3 h2
    · show some (Value.int .i64 ((k : Int) - 1)) = _
      congr 2
      omega
  · have hz2 : ¬ ((g ((k : Int) - 1).toNat : Nat) : Int) = 0 := by rw [e1]; omega
    refine c_seq ?_
    refine c_seq ?_
    refine c_region ?_
    refine s_y (y_move rfl) rfl rfl rfl ?_
    refine s_y (y_T (y_gtr rfl rfl) (by omega)) rfl rfl rfl ?_
    refine s_y (y_move rfl) rfl rfl rfl ?_
    refine s_y (y_move rfl) rfl rfl rfl ?_
    refine s_y (y_move rfl) rfl rfl rfl ?_
    refine s_y (y_sub rfl rfl (by omega)) rfl rfl rfl ?_
    refine s_y (y_ixN Try.tab rfl rfl rfl rfl _ (Int.toNat_of_nonneg (by omega)).symm (by omega)) rfl rfl rfl ?_
    refine s_y (y_ldN Try.tab rfl rfl (by omega)) rfl rfl rfl ?_
    refine s_y (y_F (y_eql rfl rfl) (by assumption)) rfl rfl rfl ?_
    refine s_y (y_pickT rfl rfl) rfl rfl rfl ?_
    refine s_nil ?_
    refine f_then ?_
    refine c_condF rfl ?_
    refine c_exit ?_
    refine f_thenE ?_
    refine f_rndE ?_
    refine f_blockE ?_
    refine f_then ?_
    refine c_seq ?_
    refine c_region ?_
    refine s_y (y_move rfl) rfl rfl rfl ?_
    refine s_y (y_move rfl) rfl rfl rfl ?_
    refine s_y (y_slToN Try.tab rfl rfl rfl rfl rfl (by omega)) rfl rfl rfl ?_
    refine s_y (y_assign rfl) rfl rfl rfl ?_
    refine s_nil ?_
    refine f_then ?_
    refine c_ret ?_
    exact f_ret ⟨k, hk, h0, fun _ => hz⟩ (res1 rfl rfl) (fun w h => h)
theorem at_spec {C : World → Prop} {a : Value} {x i : Nat} [ha : NumV C a x] : Spec Try.prog 93 #[a, .int .i64 (i : Int)] C (fun _ : Unit => .int .i64 (KR.dg x i : Int)) (fun _ => C) := by
  refine enter (args := [_, _]) Try.func93 rfl Try.ntmps93 rfl ?_
  by_cases h : i < KR.wl x
  · refine c_seq ?_
    refine c_region ?_
    refine s_y (y_assign rfl) rfl rfl rfl ?_
    refine s_nil ?_
    refine f_then ?_
    refine c_seq ?_
    refine c_seq ?_
    refine c_region ?_
    refine s_y (y_move rfl) rfl rfl rfl ?_
    refine s_y (y_move rfl) rfl rfl rfl ?_
    refine s_y (y_lenN Try.tab rfl rfl) rfl rfl rfl ?_
    refine s_y (y_T (y_lss rfl rfl) (by omega)) rfl rfl rfl ?_
    refine s_nil ?_
    refine f_then ?_
    refine c_condT rfl ?_
    refine c_seq ?_
    refine c_region ?_
    refine s_y (y_move rfl) rfl rfl rfl ?_
    refine s_y (y_move rfl) rfl rfl rfl ?_
    refine s_y (y_ixN Try.tab rfl rfl rfl rfl _ rfl (by omega)) rfl rfl rfl ?_
    refine s_y (y_ldN Try.tab rfl rfl (by omega)) rfl rfl rfl ?_
    refine s_y (y_assign rfl) rfl rfl rfl ?_
    refine s_nil ?_
    refine f_then ?_
    refine c_ret ?_
    refine f_thenR ?_
    exact f_ret () (res1 rfl rfl) (fun w h => h)
  · have h0 : KR.dg x i = 0 := KR.dg_out (by omega)
    rw [h0]
    refine c_seq ?_
    refine c_region ?_
    refine s_y (y_assign rfl) rfl rfl rfl ?_
    refine s_nil ?_
    refine f_then ?_
    refine c_seq ?_
    refine c_seq ?_
    refine c_region ?_
    refine s_y (y_move rfl) rfl rfl rfl ?_
    refine s_y (y_move rfl) rfl rfl rfl ?_
    refine s_y (y_lenN Try.tab rfl rfl) rfl rfl rfl ?_
    refine s_y (y_F (y_lss rfl rfl) (by omega)) rfl rfl rfl ?_
    refine s_nil ?_
    refine f_then ?_
    refine c_condF rfl ?_
    refine c_skip ?_
    refine f_then ?_
    refine c_seq ?_
    refine c_region ?_
    refine s_y (y_assign rfl) rfl rfl rfl ?_
    refine s_nil ?_
    refine f_then ?_
    refine c_ret ?_
    exact f_ret () (res1 rfl rfl) (fun w h => h)
structure OfSt (x : Nat) where
  u : Nat
  q : Nat
  v : Value
  c : Chunk
  buf : Buf 3 1 v c u (dgs (KR.dg x) u)
theorem of_spec {W : World} {N : List Chunk} {x : Nat} (hx : x < 9223372036854775808) : Spec Try.prog 91 #[.int .i64 (x : Int)] (K W N) (X := NFr W x) (fun r => r.v) (fun r => K W (r.L :: N)) := by
  have hw := KR.wl_int (x := x) (by omega)
  refine enter (args := [_]) Try.func91 rfl Try.ntmps91 rfl ?_
  refine c_seq ?_
  refine c_region ?_
  refine s_y (y_assign rfl) rfl rfl rfl ?_
  refine s_nil ?_
  refine f_then ?_
  refine c_seq ?_
  refine c_region ?_
  refine s_y (y_assign rfl) rfl rfl rfl ?_
  refine s_nil ?_
  refine f_then ?_
  refine c_seq ?_
  refine c_block ?_
  refine SC.cls (C' := K W ([] :: N)) ?_ (fun w h => h.weak [] (by simp))
  refine c_loopP (α := OfSt x) (fun z => [(0, .int .i64 ((z.q : Nat) : Int)), (3, z.v)]) (fun z => z.u ≤ KR.wl x ∧ z.q = x / KR.B ^ z.u) (fun z => K W (z.c :: N)) (fun z => KR.wl x - z.u) ⟨0, x, .slice none 0 0, [], .nil⟩ ⟨rfl, rfl, trivial⟩ ⟨Nat.zero_le _, by simp⟩ (fun w h => h) ?_
  rintro ⟨u, q, v, c, hB⟩ ⟨hu, hq⟩
  dsimp only at hu hq ⊢
  by_cases h0 : q = 0
  · have e : u = KR.wl x := Nat.le_antisymm hu (KR.wl_le_iff.2 (by rw [← hq]; exact h0))
    subst e
    refine c_seq ?_
    refine c_seq ?_
    refine c_region ?_
    refine s_y (y_move rfl) rfl rfl rfl ?_
    refine s_y (y_F (y_gtr rfl rfl) (by omega)) rfl rfl rfl ?_
    refine s_nil ?_
    refine f_then ?_
    refine c_condF rfl ?_
    refine c_exit ?_
    refine f_thenE ?_
    refine f_rndE ?_
    refine f_blockE ?_
    refine f_then ?_
    refine c_seq ?_
    refine c_region ?_
    refine s_y (y_move rfl) rfl rfl rfl ?_
    refine s_y (y_assign rfl) rfl rfl rfl ?_
    refine s_nil ?_
    refine f_then ?_
    refine c_ret ?_
    exact f_ret ⟨c, v, hB.numV 0 rfl⟩ (res1 rfl rfl) (fun w h => h)
  · have hlt : u < KR.wl x := KR.lt_wl_iff.2 (by rw [← hq]; exact h0)
    have hqb : q ≤ x := hq ▸ Nat.div_le_self _ _
    have hdg : ((KR.dg x u : Nat) : Int) = (q : Int) % 65536 := by
      unfold KR.dg
      rw [← hq]
      rfl
    have hnx : q / 65536 = x / KR.B ^ (u + 1) := by rw [KR.div_succ, ← hq]
    clear hq
    refine c_seq ?_
    refine c_seq ?_
    refine c_region ?_
    refine s_y (y_move rfl) rfl rfl rfl ?_
    refine s_y (y_T (y_gtr rfl rfl) (by omega)) rfl rfl rfl ?_
    refine s_nil ?_
    refine f_then ?_
    refine c_condT rfl ?_
    refine c_skip ?_
    refine f_then ?_
    refine c_block ?_
    refine c_seq ?_
    refine c_region ?_
    refine s_y (y_move rfl) rfl rfl rfl ?_
    refine s_y (y_move rfl) rfl rfl rfl ?_
    refine s_y (y_rem rfl rfl (by omega)) rfl rfl rfl ?_
    refine s_do (do_buildSlice1 Try.tab ⟨rfl, rfl, rfl, rfl⟩ rfl rfl rfl rfl) rfl rfl rfl (fun b9 => ?_)
    refine s_do (do_appendB (by_ := 8) Try.tab 1 rfl hB rfl ⟨rfl, rfl, rfl, rfl⟩ rfl (by simp) rfl (by omega) (cells_row0 0 rfl rfl) rfl (by simp [Value.oneCell']) (by unfold maxLen; omega) (by omega)) rfl rfl rfl (fun r => ?_)
    refine s_y (y_assign rfl) rfl rfl rfl ?_
    refine s_nil ?_
    refine f_then ?_
    refine c_region ?_
    refine s_y (y_move rfl) rfl rfl rfl ?_
    refine s_y (y_quo rfl rfl (by omega)) rfl rfl rfl ?_
    refine s_y (y_assign rfl) rfl rfl rfl ?_
    refine s_nil ?_
    refine f_blockN ?_
    exact f_roundP ⟨u + 1, q / 65536, r.1.1, r.1.2, by rw [dgs_succ, hdg]; exact r.2⟩ ⟨by exact hlt, hnx⟩ (by dsimp only; omega) ⟨rfl, rfl, trivial⟩ (fun w h => h.tail)
theorem rcmp_spec {W : World} {Ls : List Chunk} {a b : Value} {x y : Nat} [ha : NumV (K W Ls) a x] [hb : NumV (K W Ls) b y] : Spec Try.prog 90 #[a, b] (K W Ls) (fun _ : Unit => .int .i64 (if x < y then -1 else if y < x then 1 else 0)) (fun _ => K W Ls) := by
  have q1 := ha.raw.cap
  have q2 := hb.raw.cap
  have hmx : maxLen = 9223372036854775807 := rfl
  refine enter (args := [_, _]) Try.func90 rfl Try.ntmps90 rfl ?_
  by_cases c1 : KR.wl x < KR.wl y
  · have h1 : x < y := by
      rcases Nat.lt_or_ge x y with h | h
      · exact h
      · have := KR.wl_mono h; omega
    refine c_seq ?_
    refine c_region ?_
    refine s_y (y_assign rfl) rfl rfl rfl ?_
    refine s_nil ?_
    refine f_then ?_
    refine c_seq ?_
    refine c_seq ?_
    refine c_region ?_
    refine s_y (y_move rfl) rfl rfl rfl ?_
    refine s_y (y_lenN Try.tab rfl rfl) rfl rfl rfl ?_
    refine s_y (y_move rfl) rfl rfl rfl ?_
    refine s_y (y_lenN Try.tab rfl rfl) rfl rfl rfl ?_
    refine s_y (y_T (y_lss rfl rfl) (by omega)) rfl rfl rfl ?_
    refine s_nil ?_
    refine f_then ?_
    refine c_condT rfl ?_
    refine c_seq ?_
    refine c_region ?_
    refine s_y (y_assign rfl) rfl rfl rfl ?_
    refine s_nil ?_
    refine f_then ?_
    refine c_ret ?_
    refine f_thenR ?_
    exact f_ret () (res1 rfl (by simp [h1]; rfl)) (fun w h => h)
  by_cases c2 : KR.wl y < KR.wl x
  · have h1 : y < x := by
      rcases Nat.lt_or_ge y x with h | h
      · exact h
      · have := KR.wl_mono h; omega
    have h2 : ¬ x < y := by omega
    refine c_seq ?_
    refine c_region ?_
    refine s_y (y_assign rfl) rfl rfl rfl ?_
    refine s_nil ?_
    refine f_then ?_
    refine c_seq ?_
    refine c_seq ?_
    refine c_region ?_
    refine s_y (y_move rfl) rfl rfl rfl ?_
    refine s_y (y_lenN Try.tab rfl rfl) rfl rfl rfl ?_
    refine s_y (y_move rfl) rfl rfl rfl ?_
    refine s_y (y_lenN Try.tab rfl rfl) rfl rfl rfl ?_
    refine s_y (y_F (y_lss rfl rfl) (by omega)) rfl rfl rfl ?_
    refine s_nil ?_
    refine f_then ?_
    refine c_condF rfl ?_
    refine c_skip ?_
    refine f_then ?_
    refine c_seq ?_
    refine c_seq ?_
    refine c_region ?_
    refine s_y (y_move rfl) rfl rfl rfl ?_
    refine s_y (y_lenN Try.tab rfl rfl) rfl rfl rfl ?_
    refine s_y (y_move rfl) rfl rfl rfl ?_
    refine s_y (y_lenN Try.tab rfl rfl) rfl rfl rfl ?_
    refine s_y (y_T (y_gtr rfl rfl) (by omega)) rfl rfl rfl ?_
    refine s_nil ?_
    refine f_then ?_
    refine c_condT rfl ?_
    refine c_seq ?_
    refine c_region ?_
    refine s_y (y_assign rfl) rfl rfl rfl ?_
    refine s_nil ?_
    refine f_then ?_
    refine c_ret ?_
    refine f_thenR ?_
    exact f_ret () (res1 rfl (by simp [h1, h2]; rfl)) (fun w h => h)
  have hl : KR.wl x = KR.wl y := by omega
  refine c_seq ?_
  refine c_region ?_
  refine s_y (y_assign rfl) rfl rfl rfl ?_
  refine s_nil ?_
  refine f_then ?_
  refine c_seq ?_
  refine c_seq ?_
  refine c_region ?_
  refine s_y (y_move rfl) rfl rfl rfl ?_
  refine s_y (y_lenN Try.tab rfl rfl) rfl rfl rfl ?_
  refine s_y (y_move rfl) rfl rfl rfl ?_
  refine s_y (y_lenN Try.tab rfl rfl) rfl rfl rfl ?_
  refine s_y (y_F (y_lss rfl rfl) (by omega)) rfl rfl rfl ?_
  refine s_nil ?_
  refine f_then ?_
  refine c_condF rfl ?_
  refine c_skip ?_
  refine f_then ?_
  refine c_seq ?_
  refine c_seq ?_
  refine c_region ?_
  refine s_y (y_move rfl) rfl rfl rfl ?_
  refine s_y (y_lenN Try.tab rfl rfl) rfl rfl rfl ?_
  refine s_y (y_move rfl) rfl rfl rfl ?_
  refine s_y (y_lenN Try.tab rfl rfl) rfl rfl rfl ?_
  refine s_y (y_F (y_gtr rfl rfl) (by omega)) rfl rfl rfl ?_
  refine s_nil ?_
  refine f_then ?_
  refine c_condF rfl ?_
  refine c_skip ?_
  refine f_then ?_
  refine c_seq ?_
  refine c_seq ?_
  refine c_region ?_
  refine s_y (y_move rfl) rfl rfl rfl ?_
  refine s_y (y_lenN Try.tab rfl rfl) rfl rfl rfl ?_
  refine s_y (y_sub rfl rfl (by omega)) rfl rfl rfl ?_
  refine s_y (y_assign rfl) rfl rfl rfl ?_
  refine s_nil ?_
  refine f_then ?_
  refine c_block ?_
  refine c_loopP (α := Nat) (fun k => [(0, a), (1, b), (5, .int .i64 ((k : Int) - 1))]) (fun k => k ≤ KR.wl x ∧ ∀ i, k ≤ i → i < KR.wl x → KR.dg x i = KR.dg y i) (fun _ => K W Ls) (fun k => k) (KR.wl x) ⟨rfl, rfl, rfl, trivial⟩ ⟨Nat.le_refl _, fun i h1 h2 => by omega⟩ (fun w h => h) ?_
  rintro k ⟨hk, h0⟩
  rcases k with _ | k
  · have h1 : x = y := by
      rw [← KR.val_wl x, ← KR.val_wl y, ← hl]
      exact KR.val_congr fun i hi => h0 i (by omega) hi
    have h2 : ¬ x < y := by omega
    have h3 : ¬ y < x := by omega
    refine c_seq ?_
    refine c_seq ?_
    refine c_region ?_
    refine s_y (y_move rfl) rfl rfl rfl ?_
    refine s_y (y_F (y_geq rfl rfl) (by omega)) rfl rfl rfl ?_
    refine s_nil ?_
    refine f_then ?_
    refine c_condF rfl ?_
    refine c_exit ?_
    refine f_thenE ?_
    refine f_rndE ?_
    refine f_blockE ?_
    refine f_then ?_
    refine c_seq ?_
    refine c_region ?_
    refine s_y (y_assign rfl) rfl rfl rfl ?_
    refine s_nil ?_
    refine f_then ?_
    refine c_ret ?_
    exact f_ret () (res1 rfl (by simp only [h2, h3, if_false]; rfl)) (fun w h => h)
  rw [show ((k + 1 : Nat) : Int) - 1 = (k : Int) by omega]
  rcases Nat.lt_trichotomy (KR.dg x k) (KR.dg y k) with hlt | heq | hgt
  · have h1 : x < y := KR.cmp_up (k := k) (by omega) hl (fun i h1 h2 => h0 i (by omega) h2) hlt
    refine c_seq ?_
    refine c_seq ?_
    refine c_region ?_
    refine s_y (y_move rfl) rfl rfl rfl ?_
    refine s_y (y_T (y_geq rfl rfl) (by omega)) rfl rfl rfl ?_
    refine s_nil ?_
    refine f_then ?_
    refine c_condT rfl ?_
    refine c_skip ?_
    refine f_then ?_
    refine c_seq ?_
    refine c_block ?_
    refine c_seq ?_
    refine c_seq ?_
    refine c_quiet Try.mixed (by kernel_rfl) K.drew ?_
    refine q_y (y_move rfl) rfl rfl rfl ?_
    refine q_y (y_move rfl) rfl rfl rfl ?_
    refine q_y (y_ixN Try.tab rfl rfl rfl rfl _ rfl (by omega)) rfl rfl rfl ?_
    refine q_y (y_ldN Try.tab rfl rfl (by omega)) rfl rfl rfl ?_
    refine q_y (y_move rfl) rfl rfl rfl ?_
    refine q_y (y_move rfl) rfl rfl rfl ?_
    refine q_y (y_ixN Try.tab rfl rfl rfl rfl _ rfl (by omega)) rfl rfl rfl ?_
    refine q_y (y_ldN Try.tab rfl rfl (by omega)) rfl rfl rfl ?_
    refine q_y (y_T (y_lss rfl rfl) (by omega)) rfl rfl rfl ?_
    refine q_nil ?_
    refine f_then ?_
    refine c_condT rfl ?_
    refine c_seq ?_
    refine c_region ?_
    refine s_y (y_assign rfl) rfl rfl rfl ?_
    refine s_nil ?_
    refine f_then ?_
    refine c_ret ?_
    refine f_thenR ?_
    refine f_blockR ?_
    refine f_thenR ?_
    refine f_rndR ?_
    refine f_blockR ?_
    refine f_thenR ?_
    exact f_ret () (res1 rfl (by simp only [h1, if_true]; rfl)) (fun w h => h)
  · refine c_seq ?_
    refine c_seq ?_
    refine c_region ?_
    refine s_y (y_move rfl) rfl rfl rfl ?_
    refine s_y (y_T (y_geq rfl rfl) (by omega)) rfl rfl rfl ?_
    refine s_nil ?_
    refine f_then ?_
    refine c_condT rfl ?_
    refine c_skip ?_
    refine f_then ?_
    refine c_seq ?_
    refine c_block ?_
    refine c_seq ?_
    refine c_seq ?_
    refine c_quiet Try.mixed (by kernel_rfl) K.drew ?_
    refine q_y (y_move rfl) rfl rfl rfl ?_
    refine q_y (y_move rfl) rfl rfl rfl ?_
    refine q_y (y_ixN Try.tab rfl rfl rfl rfl _ rfl (by omega)) rfl rfl rfl ?_
    refine q_y (y_ldN Try.tab rfl rfl (by omega)) rfl rfl rfl ?_
    refine q_y (y_move rfl) rfl rfl rfl ?_
    refine q_y (y_move rfl) rfl rfl rfl ?_
    refine q_y (y_ixN Try.tab rfl rfl rfl rfl _ rfl (by omega)) rfl rfl rfl ?_
    refine q_y (y_ldN Try.tab rfl rfl (by omega)) rfl rfl rfl ?_
    refine q_y (y_F (y_lss rfl rfl) (by omega)) rfl rfl rfl ?_
    refine q_nil ?_
    refine f_then ?_
    refine c_condF rfl ?_
    refine c_skip ?_
    refine f_then ?_
    refine c_seq ?_
    refine c_quiet Try.mixed (by kernel_rfl) K.drew ?_
    refine q_y (y_move rfl) rfl rfl rfl ?_
    refine q_y (y_move rfl) rfl rfl rfl ?_
    refine q_y (y_ixN Try.tab rfl rfl rfl rfl _ rfl (by omega)) rfl rfl rfl ?_
    refine q_y (y_ldN Try.tab rfl rfl (by omega)) rfl rfl rfl ?_
    refine q_y (y_move rfl) rfl rfl rfl ?_
    refine q_y (y_move rfl) rfl rfl rfl ?_
    refine q_y (y_ixN Try.tab rfl rfl rfl rfl _ rfl (by omega)) rfl rfl rfl ?_
    refine q_y (y_ldN Try.tab rfl rfl (by omega)) rfl rfl rfl ?_
    refine q_y (y_F (y_gtr rfl rfl) (by omega)) rfl rfl rfl ?_
    refine q_nil ?_
    refine f_then ?_
    refine c_condF rfl ?_
    refine c_skip ?_
    refine f_blockN ?_
    refine f_then ?_
    refine c_region ?_
    refine s_y (y_move rfl) rfl rfl rfl ?_
    refine s_y (y_sub rfl rfl (by omega)) rfl rfl rfl ?_
    refine s_y (y_assign rfl) rfl rfl rfl ?_
    refine s_nil ?_
    refine f_roundP k ⟨by omega, fun i h1 h2 => ?_⟩ (by omega) ⟨rfl, rfl, rfl, trivial⟩ (fun w h => h)
    rcases Nat.lt_or_ge k i with h3 | h3
    · exact h0 i h3 h2
    · obtain rfl : i = k := by omega
      exact heq
  · have h1 : y < x := KR.cmp_up (k := k) (by omega) hl.symm (fun i h1 h2 => (h0 i (by omega) (by omega)).symm) hgt
    have h2 : ¬ x < y := by omega
    refine c_seq ?_
    refine c_seq ?_
    refine c_region ?_
    refine s_y (y_move rfl) rfl rfl rfl ?_
    refine s_y (y_T (y_geq rfl rfl) (by omega)) rfl rfl rfl ?_
    refine s_nil ?_
    refine f_then ?_
    refine c_condT rfl ?_
    refine c_skip ?_
    refine f_then ?_
    refine c_seq ?_
    refine c_block ?_
    refine c_seq ?_
    refine c_seq ?_
    refine c_quiet Try.mixed (by kernel_rfl) K.drew ?_
    refine q_y (y_move rfl) rfl rfl rfl ?_
    refine q_y (y_move rfl) rfl rfl rfl ?_
    refine q_y (y_ixN Try.tab rfl rfl rfl rfl _ rfl (by omega)) rfl rfl rfl ?_
    refine q_y (y_ldN Try.tab rfl rfl (by omega)) rfl rfl rfl ?_
    refine q_y (y_move rfl) rfl rfl rfl ?_
    refine q_y (y_move rfl) rfl rfl rfl ?_
    refine q_y (y_ixN Try.tab rfl rfl rfl rfl _ rfl (by omega)) rfl rfl rfl ?_
    refine q_y (y_ldN Try.tab rfl rfl (by omega)) rfl rfl rfl ?_
    refine q_y (y_F (y_lss rfl rfl) (by omega)) rfl rfl rfl ?_
    refine q_nil ?_
    refine f_then ?_
    refine c_condF rfl ?_
    refine c_skip ?_
    refine f_then ?_
    refine c_seq ?_
    refine c_quiet Try.mixed (by kernel_rfl) K.drew ?_
    refine q_y (y_move rfl) rfl rfl rfl ?_
    refine q_y (y_move rfl) rfl rfl rfl ?_
    refine q_y (y_ixN Try.tab rfl rfl rfl rfl _ rfl (by omega)) rfl rfl rfl ?_
    refine q_y (y_ldN Try.tab rfl rfl (by omega)) rfl rfl rfl ?_
    refine q_y (y_move rfl) rfl rfl rfl ?_
    refine q_y (y_move rfl) rfl rfl rfl ?_
    refine q_y (y_ixN Try.tab rfl rfl rfl rfl _ rfl (by omega)) rfl rfl rfl ?_
    refine q_y (y_ldN Try.tab rfl rfl (by omega)) rfl rfl rfl ?_
    refine q_y (y_T (y_gtr rfl rfl) (by omega)) rfl rfl rfl ?_
    refine q_nil ?_
    refine f_then ?_
    refine c_condT rfl ?_
    refine c_seq ?_
    refine c_region ?_
    refine s_y (y_assign rfl) rfl rfl rfl ?_
    refine s_nil ?_
    refine f_then ?_
    refine c_ret ?_
    refine f_blockR ?_
    refine f_thenR ?_
    refine f_rndR ?_
    refine f_blockR ?_
    refine f_thenR ?_
    exact f_ret () (res1 rfl (by simp only [h1, h2, if_true, if_false]; rfl)) (fun w h => h)
theorem power_spec {C : World → Prop} {n : Nat} (hn : n ≤ 16) : Spec Try.prog 122 #[.int .i64 (n : Int)] C (fun _ : Unit => .int .i64 ((2 ^ n : Nat) : Int)) (fun _ => C) := by
  refine enter (args := [_]) Try.func122 rfl Try.ntmps122 rfl ?_
  refine c_seq ?_
  refine c_region ?_
  refine s_y (y_assign rfl) rfl rfl rfl ?_
  refine s_nil ?_
  refine f_then ?_
  refine c_seq ?_
  refine c_region ?_
  refine s_y (y_assign rfl) rfl rfl rfl ?_
  refine s_nil ?_
  refine f_then ?_
  refine c_seq ?_
  refine c_seq ?_
  refine c_region ?_
  refine s_y (y_assign rfl) rfl rfl rfl ?_
  refine s_nil ?_
  refine f_then ?_
  refine c_block ?_
  refine c_loopP (α := Nat) (fun z => [(0, .int .i64 (n : Int)), (3, .int .i64 ((2 ^ z : Nat) : Int)), (4, .int .i64 (z : Int))]) (fun z => z ≤ n) (fun _ => C) (fun z => n - z) 0 ⟨rfl, rfl, rfl, trivial⟩ (Nat.zero_le _) (fun w h => h) ?_
  intro k hk
  by_cases h : k < n
  · have h2 : 2 ^ k ≤ 2 ^ 16 := Nat.pow_le_pow_right (by omega) (by omega)
    have e : (2 : Nat) ^ (k + 1) = 2 * 2 ^ k := by rw [Nat.pow_succ, Nat.mul_comm]
    obtain ⟨p, hp⟩ : ∃ p, 2 ^ k = p := ⟨_, rfl⟩
    rw [hp] at h2 e ⊢
    refine c_seq ?_
    refine c_seq ?_
    refine c_region ?_
    refine s_y (y_move rfl) rfl rfl rfl ?_
    refine s_y (y_move rfl) rfl rfl rfl ?_
    refine s_y (y_T (y_lss rfl rfl) (by omega)) rfl rfl rfl ?_
    refine s_nil ?_
    refine f_then ?_
    refine c_condT rfl ?_
    refine c_skip ?_
    refine f_then ?_
    refine c_seq ?_
    refine c_block ?_
    refine c_region ?_
    refine s_y (y_move rfl) rfl rfl rfl ?_
    refine s_y (y_mul rfl rfl (by omega)) rfl rfl rfl ?_
    refine s_y (y_assign rfl) rfl rfl rfl ?_
    refine s_nil ?_
    refine f_blockN ?_
    refine f_then ?_
    refine c_region ?_
    refine s_y (y_move rfl) rfl rfl rfl ?_
    refine s_y (y_add rfl rfl (by omega)) rfl rfl rfl ?_
    refine s_y (y_assign rfl) rfl rfl rfl ?_
    refine s_nil ?_
    exact f_roundP (k + 1) (by exact h) (by omega) ⟨rfl, by rw [e]; rfl, rfl, trivial⟩ (fun w h => h)
  · obtain rfl : k = n := by omega
    refine c_seq ?_
    refine c_seq ?_
    refine c_region ?_
    refine s_y (y_move rfl) rfl rfl rfl ?_
    refine s_y (y_move rfl) rfl rfl rfl ?_
    refine s_y (y_F (y_lss rfl rfl) (by omega)) rfl rfl rfl ?_
    refine s_nil ?_
    refine f_then ?_
    refine c_condF rfl ?_
    refine c_exit ?_
    refine f_thenE ?_
    refine f_rndE ?_
    refine f_blockE ?_
    refine f_then ?_
    refine c_seq ?_
    refine c_region ?_
    refine s_y (y_move rfl) rfl rfl rfl ?_
    refine s_y (y_assign rfl) rfl rfl rfl ?_
    refine s_nil ?_
    refine f_then ?_
    refine c_ret ?_
    exact f_ret () (res1 rfl rfl) (fun w h => h)
end Go.KL
end
