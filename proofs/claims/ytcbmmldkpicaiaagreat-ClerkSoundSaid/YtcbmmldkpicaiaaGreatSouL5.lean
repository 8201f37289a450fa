/- The library of the proof, part 5: a program logic over the model, walks of functions, plain laws. No condition. -/
import Derived.Test.YtcbmmldkpicaiaaGreatSouL4
set_option maxRecDepth 10000
set_option maxHeartbeats 16000000
section
/- Operations of transactions, done again and undone; plain. No program in sight. -/
namespace Go.KL
abbrev stp (f : Nat → Nat) (o : Oa) : Nat → Nat := if o.mv then setf f o.lo o.hi o.to else f
theorem ap_cons (f : Nat → Nat) (o : Oa) (l : List Oa) : ap f (o :: l) = ap (stp f o) l := rfl
theorem ap_app (f : Nat → Nat) (l m : List Oa) : ap f (l ++ m) = ap (ap f l) m := List.foldl_append
theorem ap_snoc (f : Nat → Nat) (l : List Oa) (o : Oa) : ap f (l ++ [o]) = stp (ap f l) o := by rw [ap_app]; rfl
theorem un_cons (f : Nat → Nat) (o : Oa) (l : List Oa) : KL.un f (o :: l) = if o.mv then setf (KL.un f l) o.lo o.hi o.fr else KL.un f l := rfl
def tch (l : List Oa) (i : Nat) : Prop := ∃ o ∈ l, o.mv = true ∧ o.lo ≤ i ∧ i < o.hi
theorem tch.nil {i : Nat} : ¬ tch [] i := fun ⟨_, h, _⟩ => by simp at h
theorem tch.cons {o : Oa} {l : List Oa} {i : Nat} : tch (o :: l) i ↔ (o.mv = true ∧ o.lo ≤ i ∧ i < o.hi) ∨ tch l i := by
  unfold tch;simp
theorem tch.app {l m : List Oa} {i : Nat} : tch (l ++ m) i ↔ tch l i ∨ tch m i := by
  unfold tch;constructor
  · rintro ⟨o, ho, h⟩;rcases List.mem_append.1 ho with ho | ho
    · exact .inl ⟨o, ho, h⟩
    · exact .inr ⟨o, ho, h⟩
  · rintro (⟨o, ho, h⟩ | ⟨o, ho, h⟩)
    · exact ⟨o, List.mem_append_left _ ho, h⟩
    · exact ⟨o, List.mem_append_right _ ho, h⟩
theorem setf_in {f : Nat → Nat} {lo hi t i : Nat} (h : lo ≤ i ∧ i < hi) : setf f lo hi t i = t := if_pos h
theorem setf_out {f : Nat → Nat} {lo hi t i : Nat} (h : ¬ (lo ≤ i ∧ i < hi)) : setf f lo hi t i = f i := if_neg h
theorem stp_out {f : Nat → Nat} {o : Oa} {i : Nat} (h : ¬ (o.mv = true ∧ o.lo ≤ i ∧ i < o.hi)) : stp f o i = f i := by
  unfold stp;split
  · rename_i hm;exact setf_out fun c => h ⟨hm, c⟩
  · rfl
theorem stp_in {f : Nat → Nat} {o : Oa} {i : Nat} (h : o.mv = true ∧ o.lo ≤ i ∧ i < o.hi) : stp f o i = o.to := by
  unfold stp;rw [if_pos h.1, setf_in h.2]
theorem stp_congr {f g : Nat → Nat} {o : Oa} {i : Nat} (h : f i = g i) : stp f o i = stp g o i := by
  by_cases c : o.mv = true ∧ o.lo ≤ i ∧ i < o.hi
  · rw [stp_in c, stp_in c]
  · rw [stp_out c, stp_out c, h]
theorem ap_congr : ∀ {l : List Oa} {f g : Nat → Nat} {i : Nat}, f i = g i → ap f l i = ap g l i
  | [], _, _, _, h => h
  | o :: l, f, g, i, h => by
    rw [ap_cons, ap_cons];exact ap_congr (stp_congr h)
theorem ap_tch : ∀ {l : List Oa} {f g : Nat → Nat} {i : Nat}, tch l i → ap f l i = ap g l i
  | [], _, _, _, h => absurd h tch.nil
  | o :: l, f, g, i, h => by
    rw [ap_cons, ap_cons];by_cases c : o.mv = true ∧ o.lo ≤ i ∧ i < o.hi
    · exact ap_congr (by rw [stp_in c, stp_in c])
    · exact ap_tch ((tch.cons.1 h).resolve_left c)
theorem ap_not : ∀ {l : List Oa} {f : Nat → Nat} {i : Nat}, ¬ tch l i → ap f l i = f i
  | [], _, _, _ => rfl
  | o :: l, f, i, h => by
    rw [ap_cons, ap_not fun c => h (tch.cons.2 (.inr c)), stp_out fun c => h (tch.cons.2 (.inl c))]
structure Opk (n : Nat) (f : Nat → Nat) (o : Oa) : Prop where
  rng : o.lo ≤ o.hi ∧ o.hi ≤ n
  tag : o.fr < 16 ∧ o.to < 16
  look : o.mv = false → o.runs = rns f o.lo o.hi
  move : o.mv = true → ∀ i, o.lo ≤ i → i < o.hi → f i = o.fr
  no : o.mv = true → o.runs = []
theorem Opk.congr {n : Nat} {f g : Nat → Nat} {o : Oa} (h : Opk n f o) (e : ∀ i, o.lo ≤ i → i < o.hi → f i = g i) : Opk n g o :=
  ⟨h.rng, h.tag, fun c => by rw [h.look c]; exact rns_congr h.rng.1 e, fun c i h1 h2 => by rw [← e i h1 h2]; exact h.move c i h1 h2, h.no⟩
def Rep (n : Nat) : (Nat → Nat) → List Oa → Prop
  | _, [] => True
  | f, o :: l => Opk n f o ∧ Rep n (stp f o) l
theorem Rep.app {n : Nat} : ∀ {l m : List Oa} {f : Nat → Nat}, Rep n f (l ++ m) ↔ Rep n f l ∧ Rep n (ap f l) m
  | [], m, f => ⟨fun h => ⟨trivial, h⟩, fun h => h.2⟩
  | o :: l, m, f => by
    rw [List.cons_append, Rep, Rep, Rep.app, ap_cons, and_assoc]
theorem Rep.snoc {n : Nat} {l : List Oa} {o : Oa} {f : Nat → Nat} (h : Rep n f l) (ho : Opk n (ap f l) o) : Rep n f (l ++ [o]) := Rep.app.2 ⟨h, ho, trivial⟩
theorem Rep.congr {n : Nat} : ∀ {l : List Oa} {f g : Nat → Nat}, Rep n f l → (∀ o ∈ l, ∀ i, o.lo ≤ i → i < o.hi → f i = g i) → Rep n g l
  | [], _, _, _, _ => trivial
  | o :: _, _, _, h, e => ⟨h.1.congr (e o (List.mem_cons_self ..)), h.2.congr fun x hx i h1 h2 => stp_congr (e x (List.mem_cons_of_mem _ hx) i h1 h2)⟩
theorem Rep.mem {n : Nat} : ∀ {l : List Oa} {f : Nat → Nat} {o : Oa}, Rep n f l → o ∈ l → ∃ g, Opk n g o
  | [], _, _, _, h => by simp at h
  | x :: l, f, o, h, ho => by
    rcases List.mem_cons.1 ho with rfl | ho
    · exact ⟨f, h.1⟩
    · exact h.2.mem ho
theorem Rep.drop {n : Nat} {l : List Oa} {f : Nat → Nat} (h : Rep n f l) (k : Nat) : Rep n (ap f (l.take k)) (l.drop k) := by
  rw [← List.take_append_drop k l] at h;exact (Rep.app.1 h).2
theorem un_not : ∀ {l : List Oa} {f : Nat → Nat} {i : Nat}, ¬ tch l i → KL.un f l i = f i
  | [], _, _, _ => rfl
  | o :: l, f, i, h => by
    rw [un_cons];have ih := un_not (f := f) fun c => h (tch.cons.2 (.inr c));split
    · rename_i hm;rw [setf_out fun c => h (tch.cons.2 (.inl ⟨hm, c⟩)), ih]
    · exact ih
theorem Rep.un {n : Nat} : ∀ {l : List Oa} {f g : Nat → Nat} {i : Nat}, Rep n f l → tch l i → KL.un g l i = f i
  | [], _, _, _, _, h => absurd h tch.nil
  | o :: l, f, g, i, h, ht => by
    rw [un_cons];by_cases c : o.mv = true ∧ o.lo ≤ i ∧ i < o.hi
    · rw [if_pos c.1, setf_in c.2, h.1.move c.1 i c.2.1 c.2.2]
    · have ih := h.2.un (g := g) ((tch.cons.1 ht).resolve_left c);rw [stp_out c] at ih;split
      · rename_i hm;rw [setf_out fun d => c ⟨hm, d⟩, ih]
      · exact ih
theorem mvs_cons (o : Oa) (l : List Oa) : mvs (o :: l) = (if o.mv then 1 else 0) + mvs l := by
  unfold mvs;rw [List.filter_cons];split
  · rw [List.length_cons]; omega
  · omega
theorem mvs_app (l m : List Oa) : mvs (l ++ m) = mvs l + mvs m := by
  unfold mvs;rw [List.filter_append, List.length_append]
theorem mvs_tk (l : List Oa) (k : Nat) : mvs (l.take k) ≤ mvs l := by
  have := mvs_app (l.take k) (l.drop k);rw [List.take_append_drop] at this;omega
theorem nbd_ap (n : Nat) : ∀ (l : List Oa) (f : Nat → Nat), nbd (ap f l) n ≤ nbd f n + 2 * mvs l
  | [], _ => Nat.le_refl _
  | o :: l, f => by
    rw [ap_cons, mvs_cons];have h := nbd_ap n l (stp f o);by_cases c : o.mv = true
    · have h2 := nbd_set2 f o.lo o.hi o.to n;have e : stp f o = setf f o.lo o.hi o.to := if_pos c;rw [e] at h ⊢;rw [if_pos c];omega
    · have e : stp f o = f := if_neg c;rw [e] at h ⊢;rw [if_neg c];omega
def Wf (f : Nat → Nat) (ls : List (List Oa)) : Nat → Nat := ls.foldl ap f
theorem nbd_Wf (n : Nat) : ∀ (ls : List (List Oa)) (f : Nat → Nat), nbd (Wf f ls) n ≤ nbd f n + 2 * (ls.map mvs).sum
  | [], _ => by simp [Wf]
  | l :: ls, f => by
    have h1 := nbd_ap n l f;have h2 := nbd_Wf n ls (ap f l);show nbd (Wf (ap f l) ls) n ≤ _;rw [List.map_cons, List.sum_cons];omega
theorem Wf_not {i : Nat} : ∀ {ls : List (List Oa)} {f : Nat → Nat}, (∀ l ∈ ls, ¬ tch l i) → Wf f ls i = f i
  | [], _, _ => rfl
  | l :: ls, f, h => by
    show Wf (ap f l) ls i = _;rw [Wf_not fun m hm => h m (List.mem_cons_of_mem _ hm), ap_not (h l (List.mem_cons_self ..))]
theorem Wf_tch {i : Nat} : ∀ {ls : List (List Oa)} {f : Nat → Nat} {l : List Oa}, ls.Pairwise (fun a b => ¬ (tch a i ∧ tch b i)) → l ∈ ls → tch l i → Wf f ls i = ap f l i
  | [], _, _, _, h, _ => by simp at h
  | m :: ls, f, l, hp, hl, ht => by
    obtain ⟨h1, h2⟩ := List.pairwise_cons.1 hp;show Wf (ap f m) ls i = _;rcases List.mem_cons.1 hl with rfl | hl
    · exact Wf_not fun x hx c => h1 x hx ⟨ht, c⟩
    · rw [Wf_tch h2 hl ht];exact ap_tch ht
end Go.KL
end

section
/- What always holds of a book, and its changes; plain. No program in sight. -/
namespace Go.KL
theorem cfl_iff {a b : Lk} : cfl a b = true ↔ a.tx ≠ b.tx ∧ (a.wr = true ∨ b.wr = true) ∧ max a.lo b.lo < min a.hi b.hi := by
  simp [cfl]
theorem cfl_comm (a b : Lk) : cfl a b = cfl b a := by
  have : cfl a b = true ↔ cfl b a = true := by
    rw [cfl_iff, cfl_iff];constructor
    · rintro ⟨h1, h2, h3⟩; exact ⟨fun e => h1 e.symm, h2.symm, by omega⟩
    · rintro ⟨h1, h2, h3⟩; exact ⟨fun e => h1 e.symm, h2.symm, by omega⟩
  cases h : cfl a b with
  | true => exact (this.1 h).symm
  | false =>
    cases h2 : cfl b a with
    | true => exact absurd (this.2 h2) (by rw [h]; decide)
    | false => rfl
theorem cfl_self {a b : Lk} (h : a.tx = b.tx) : cfl a b = false := by
  cases c : cfl a b with
  | true => exact absurd h (cfl_iff.1 c).1
  | false => rfl
theorem Hold.mono {L M : List Lk} {lo hi : Nat} {wr : Bool} (h : Hold L lo hi wr) (hs : ∀ x ∈ L, x ∈ M) : Hold M lo hi wr := fun i h1 h2 => by
  obtain ⟨x, hx, hx2⟩ := h i h1 h2;exact ⟨x, hs x hx, hx2⟩
theorem Hold.last {L : List Lk} {k lo hi : Nat} {wr : Bool} : Hold (L ++ [⟨k, lo, hi, wr⟩]) lo hi wr := fun i h1 h2 =>
  ⟨⟨k, lo, hi, wr⟩, List.mem_append_right _ (List.mem_singleton.2 rfl), by cases wr <;> simp, h1, h2⟩
theorem Hold.ne {L : List Lk} {lo hi : Nat} {wr : Bool} (h : ¬ Hold L lo hi wr) : lo < hi := by
  rcases Nat.lt_or_ge lo hi with c | c
  · exact c
  · exact absurd (fun i h1 h2 => by omega) h
theorem sum_filter {f : Nat → Nat} {k : Nat} : ∀ {l : List Nat}, ((l.filter fun j => !decide (j = k)).map f).sum ≤ (l.map f).sum ∧ (k ∈ l → ((l.filter fun j => !decide (j = k)).map f).sum + f k ≤ (l.map f).sum)
  | [] => by simp
  | a :: l => by
    obtain ⟨h1, h2⟩ := sum_filter (f := f) (k := k) (l := l);rw [List.filter_cons, List.map_cons, List.sum_cons];by_cases c : a = k
    · subst c;simp only [decide_true, Bool.not_true, Bool.false_eq_true, if_false];exact ⟨by omega, fun _ => by omega⟩
    · rw [if_pos (by simp [c]), List.map_cons, List.sum_cons];refine ⟨by omega, fun h => ?_⟩;rcases List.mem_cons.1 h with h | h
      · exact absurd h.symm c
      · have := h2 h;omega
theorem sum_congr {f g : Nat → Nat} {l : List Nat} (h : ∀ k ∈ l, f k = g k) : (l.map f).sum = (l.map g).sum := by rw [List.map_congr_left h]
theorem sum_mem {f : Nat → Nat} {k : Nat} : ∀ {l : List Nat}, k ∈ l → f k ≤ (l.map f).sum
  | [], h => by simp at h
  | a :: l, h => by
    rw [List.map_cons, List.sum_cons];rcases List.mem_cons.1 h with rfl | h
    · omega
    · have := sum_mem (f := f) h;omega
theorem nodup_len {l : List Nat} : ∀ {m : List Nat}, l.Nodup → (∀ x ∈ l, x ∈ m) → l.length ≤ m.length := by
  induction l with
  | nil => intro m _ _; exact Nat.zero_le _
  | cons a l ih =>
    intro m hn hs;obtain ⟨n1, n2⟩ := List.nodup_cons.1 hn;have h1 := ih (m := m.filter fun j => !decide (j = a)) n2 fun x hx => List.mem_filter.2 ⟨hs x (List.mem_cons_of_mem _ hx), by simp; exact fun e => n1 (e ▸ hx)⟩;have h2 := Bk.filter_lt (hs a (List.mem_cons_self ..));rw [List.length_cons];omega
theorem sum_one {f g : Nat → Nat} {k d : Nat} : ∀ {l : List Nat}, l.Nodup → k ∈ l → g k = f k + d → (∀ j ∈ l, j ≠ k → g j = f j) → (l.map g).sum = (l.map f).sum + d
  | [], _, h, _, _ => by simp at h
  | a :: l, hn, h, e, h2 => by
    obtain ⟨n1, n2⟩ := List.nodup_cons.1 hn;rw [List.map_cons, List.sum_cons, List.map_cons, List.sum_cons];rcases List.mem_cons.1 h with rfl | h
    · rw [e, sum_congr (f := g) (g := f) (l := l) fun j hj => h2 j (List.mem_cons_of_mem _ hj) fun c => n1 (c ▸ hj)];omega
    · rw [sum_one n2 h e fun j hj => h2 j (List.mem_cons_of_mem _ hj), h2 a (List.mem_cons_self ..) fun c => n1 (c ▸ h)];omega
namespace Bk
theorem has_set {A : Bk} {k j : Nat} {t : Tx} : (A.setT k t).has j ↔ A.has j := by
  unfold Bk.has Bk.setT;simp
theorem tx_set {A : Bk} {k j : Nat} {t : Tx} (hk : A.has k) (hj : A.has j) : (A.setT k t).tx j = if j = k then t else A.tx j := by
  unfold Bk.has at hk hj;unfold Bk.tx Bk.setT;rw [List.getD_eq_getElem?_getD, List.getD_eq_getElem?_getD, List.getElem?_set];by_cases c : j = k
  · subst c;rw [if_pos rfl, if_pos rfl, if_pos (by omega)];rfl
  · rw [if_neg (by omega), if_neg c]
theorem mem_tx {A : Bk} {t : Tx} (h : t ∈ A.ts) : ∃ k, A.has k ∧ A.tx k = t := by
  obtain ⟨i, hi, rfl⟩ := List.mem_iff_getElem.1 h;refine ⟨i + 1, ⟨by omega, by omega⟩, ?_⟩;unfold Bk.tx;rw [List.getD_eq_getElem?_getD, Nat.add_sub_cancel, List.getElem?_eq_getElem hi];rfl
structure Inv (A : Bk) (b : Nat) : Prop where
  sz : 0 < A.size ∧ A.size ≤ 1099511627776
  rn : ∀ k, k ∈ A.rn ↔ A.has k ∧ ((A.tx k).st = 1 ∨ (A.tx k).st = 2)
  rnd : A.rn.Nodup
  rnl : A.rn.length ≤ 64
  q : ∀ k, k ∈ A.q ↔ A.has k ∧ (A.tx k).st = 2
  qnd : A.q.Nodup
  st : ∀ k, A.has k → (A.tx k).st = 1 ∨ (A.tx k).st = 2 ∨ (A.tx k).st = 3 ∨ (A.tx k).st = 4
  off : ∀ k, A.has k → k ∉ A.rn → (A.tx k).locks = [] ∧ (A.tx k).ops = []
  lk : ∀ k, A.has k → ∀ x ∈ (A.tx k).locks, x.tx = k ∧ x.lo < x.hi ∧ x.hi ≤ A.size
  rq : ∀ k ∈ A.q, (A.tx k).req.tx = k ∧ (A.tx k).req.lo < (A.tx k).req.hi ∧ (A.tx k).req.hi ≤ A.size
  cnt : A.count ≤ 1024
  fr : ∀ j ∈ A.rn, ∀ k ∈ A.rn, ∀ x ∈ (A.tx j).locks, ∀ y ∈ (A.tx k).locks, cfl x y = false
  held : ∀ k ∈ A.rn, ∀ o ∈ (A.tx k).ops, Hold (A.tx k).locks o.lo o.hi o.mv
  rep : ∀ k ∈ A.rn, Rep A.size A.C (A.tx k).ops
  wU : ∀ i, (∀ k ∈ A.rn, ¬ tch (A.tx k).ops i) → A.W i = A.C i
  wT : ∀ k ∈ A.rn, ∀ i, tch (A.tx k).ops i → A.W i = ap A.C (A.tx k).ops i
  rm : nbd A.C A.size + 2 * A.moves ≤ 4096
  ol : ∀ k, A.has k → (A.tx k).ops.length ≤ b
variable {A : Bk} {b : Nat}
theorem Inv.has (h : A.Inv b) {k : Nat} (hk : k ∈ A.rn) : A.has k := ((h.rn k).1 hk).1
theorem Inv.qhas (h : A.Inv b) {k : Nat} (hk : k ∈ A.q) : A.has k := ((h.q k).1 hk).1
theorem Inv.qrn (h : A.Inv b) {k : Nat} (hk : k ∈ A.q) : k ∈ A.rn := (h.rn k).2 ⟨h.qhas hk, .inr ((h.q k).1 hk).2⟩
theorem Inv.ql (h : A.Inv b) : A.q.length ≤ 64 := Nat.le_trans (nodup_len h.qnd fun _ hx => h.qrn hx) h.rnl
theorem Inv.mono (h : A.Inv b) {c : Nat} (hc : b ≤ c) : A.Inv c := { h with ol := fun k hk => Nat.le_trans (h.ol k hk) hc }
theorem Inv.tsz (h : A.Inv b) {k i : Nat} (hk : k ∈ A.rn) (ht : tch (A.tx k).ops i) : ∃ x ∈ (A.tx k).locks, x.wr = true ∧ x.lo ≤ i ∧ i < x.hi := by
  obtain ⟨o, ho, hm, h1, h2⟩ := ht;obtain ⟨x, hx, h3, h4⟩ := h.held k hk o ho i h1 h2;refine ⟨x, hx, ?_, h4⟩;rw [hm] at h3;simpa using h3
theorem Inv.apart (h : A.Inv b) {j k i : Nat} (hj : j ∈ A.rn) (hk : k ∈ A.rn) (hne : j ≠ k) (ht : tch (A.tx j).ops i) {x : Lk} (hx : x ∈ (A.tx k).locks) : ¬ (x.lo ≤ i ∧ i < x.hi) := fun hi => by
  obtain ⟨y, hy, hw, h1, h2⟩ := h.tsz hj ht;have := h.fr j hj k hk y hy x hx;rw [← Bool.not_eq_true, cfl_iff] at this;refine this ⟨?_, .inl hw, by omega⟩;rw [(h.lk j (h.has hj) y hy).1, (h.lk k (h.has hk) x hx).1];exact hne
theorem Inv.disj (h : A.Inv b) {j k i : Nat} (hj : j ∈ A.rn) (hk : k ∈ A.rn) (hne : j ≠ k) : ¬ (tch (A.tx j).ops i ∧ tch (A.tx k).ops i) := fun ⟨h1, h2⟩ => by
  obtain ⟨x, hx, _, h3⟩ := h.tsz hk h2;exact h.apart hj hk hne h1 hx h3
theorem Inv.view (h : A.Inv b) {k i : Nat} (hk : k ∈ A.rn) {x : Lk} (hx : x ∈ (A.tx k).locks) (hi : x.lo ≤ i ∧ i < x.hi) : A.W i = ap A.C (A.tx k).ops i := by
  by_cases c : tch (A.tx k).ops i
  · exact h.wT k hk i c
  · rw [ap_not c];refine h.wU i fun j hj ht => ?_;by_cases e : j = k
    · rw [e] at ht; exact c ht
    · exact h.apart hj hk e ht hx hi
theorem Inv.view' (h : A.Inv b) {k lo hi : Nat} {wr : Bool} (hk : k ∈ A.rn) (hh : Hold (A.tx k).locks lo hi wr) {i : Nat} (h1 : lo ≤ i) (h2 : i < hi) : A.W i = ap A.C (A.tx k).ops i := by
  obtain ⟨x, hx, _, h3⟩ := hh i h1 h2;exact h.view hk hx h3
theorem Inv.pw (h : A.Inv b) (f : Nat → List Oa) (hf : ∀ k ∈ A.rn, ∀ i, tch (f k) i → tch (A.tx k).ops i) : (A.rn.map f).Pairwise (fun a b => ∀ i, ¬ (tch a i ∧ tch b i)) := by
  rw [List.pairwise_map];refine h.rnd.imp_of_mem fun {j k} hj hk hne i ⟨h1, h2⟩ => h.disj hj hk hne ⟨hf j hj i h1, hf k hk i h2⟩
theorem Inv.pw1 (h : A.Inv b) (f : Nat → List Oa) (hf : ∀ k ∈ A.rn, ∀ i, tch (f k) i → tch (A.tx k).ops i) (i : Nat) : (A.rn.map f).Pairwise (fun a b => ¬ (tch a i ∧ tch b i)) := (h.pw f hf).imp fun hx => hx i
theorem Inv.nbd (h : A.Inv b) (f : Nat → List Oa) (hf : ∀ k ∈ A.rn, ∀ i, tch (f k) i → tch (A.tx k).ops i) (hm : ∀ k ∈ A.rn, mvs (f k) ≤ mvs (A.tx k).ops) {V : Nat → Nat} (h1 : ∀ i, (∀ k ∈ A.rn, ¬ tch (f k) i) → V i = A.C i) (h2 : ∀ k ∈ A.rn, ∀ i, tch (f k) i → V i = ap A.C (f k) i) : KL.nbd V A.size ≤ KL.nbd A.C A.size + 2 * A.moves := by
  have e : V = Wf A.C (A.rn.map f) := by
    funext i;by_cases c : ∀ k ∈ A.rn, ¬ tch (f k) i
    · rw [h1 i c, Wf_not fun l hl => by
        obtain ⟨k, hk, rfl⟩ := List.mem_map.1 hl;exact c k hk]
    · obtain ⟨k, hk, ht⟩ : ∃ k, k ∈ A.rn ∧ tch (f k) i := by
        refine Classical.byContradiction fun hn => c fun k hk ht => hn ⟨k, hk, ht⟩
      rw [h2 k hk i ht, Wf_tch (h.pw1 f hf i) (List.mem_map.2 ⟨k, hk, rfl⟩) ht]
  rw [e];refine Nat.le_trans (nbd_Wf _ _ _) ?_;have : ∀ l : List Nat, (∀ k ∈ l, mvs (f k) ≤ mvs (A.tx k).ops) → ((l.map f).map mvs).sum ≤ (l.map fun k => mvs (A.tx k).ops).sum := by
    intro l;induction l with
    | nil => intro _; simp
    | cons a l ih =>
      intro hl;have h3 := ih fun k hk => hl k (List.mem_cons_of_mem _ hk);have h4 := hl a (List.mem_cons_self ..);simp only [List.map_cons, List.sum_cons];omega
  have h5 := this A.rn hm;unfold Bk.moves;omega
theorem Inv.nbdW (h : A.Inv b) : KL.nbd A.W A.size ≤ KL.nbd A.C A.size + 2 * A.moves := h.nbd (fun k => (A.tx k).ops) (fun _ _ _ h => h) (fun _ _ => Nat.le_refl _) h.wU h.wT
theorem Inv.nbdU (h : A.Inv b) {k : Nat} (hk : A.has k) (n : Nat) : KL.nbd (KL.un A.W ((A.tx k).ops.drop n)) A.size ≤ 4096 := by
  by_cases hr : k ∈ A.rn
  · refine Nat.le_trans (h.nbd (fun j => if j = k then (A.tx k).ops.take n else (A.tx j).ops) (fun j _ i ht => ?_) (fun j _ => ?_) (fun i hi => ?_) (fun j hj i ht => ?_)) h.rm
    · by_cases e : j = k
      · subst e;simp only [if_true] at ht;obtain ⟨o, ho, h2⟩ := ht;exact ⟨o, List.mem_of_mem_take ho, h2⟩
      · simp only [if_neg e] at ht;exact ht
    · split
      · rename_i e;subst e;exact mvs_tk _ _
      · exact Nat.le_refl _
    · have h0 := hi k hr;simp only [if_true] at h0;by_cases c : tch ((A.tx k).ops.drop n) i
      · rw [((h.rep k hr).drop n).un c, ap_not h0]
      · rw [un_not c];refine h.wU i fun j hj ht => ?_;by_cases e : j = k
        · subst e;rw [← List.take_append_drop n (A.tx j).ops] at ht;exact (tch.app.1 ht).elim h0 c
        · have := hi j hj;simp only [if_neg e] at this;exact this ht
    · by_cases e : j = k
      · subst e;simp only [if_true] at ht ⊢;by_cases c : tch ((A.tx j).ops.drop n) i
        · exact ((h.rep j hr).drop n).un c
        · rw [un_not c, h.wT j hr i (by rw [← List.take_append_drop n (A.tx j).ops]; exact tch.app.2 (.inl ht))];conv => lhs; rw [← List.take_append_drop n (A.tx j).ops, ap_app, ap_not c]
      · simp only [if_neg e] at ht ⊢;rw [un_not fun c => ?_, h.wT j hj i ht];refine h.disj hj hr e ⟨ht, ?_⟩;obtain ⟨o, ho, h2⟩ := c;exact ⟨o, List.mem_of_mem_drop ho, h2⟩
  · rw [(h.off k hk hr).2, List.drop_nil];exact Nat.le_trans h.nbdW h.rm
theorem Inv.good (h : A.Inv b) (hb : b < 100000) : A.Good := by
  refine ⟨h.rnl, h.ql, fun k hk hs => (h.q k).2 ⟨hk, hs⟩, fun t ht => ?_, fun t ht => ?_, fun t ht => ?_⟩
  · obtain ⟨k, hk, rfl⟩ := mem_tx ht;refine ⟨?_, fun x hx => ?_⟩
    · by_cases hr : k ∈ A.rn
      · have h1 := h.cnt;have h2 := sum_mem (f := fun k => (A.tx k).locks.length) hr;unfold Bk.count at h1;omega
      · rw [(h.off k hk hr).1];exact Nat.zero_le _
    · have h1 := h.lk k hk x hx;have h2 := h.sz;omega
  · obtain ⟨k, hk, rfl⟩ := mem_tx ht;have := h.ol k hk;omega
  · obtain ⟨k, hk, rfl⟩ := mem_tx ht;refine ⟨fun o ho _ => ?_, fun n => h.nbdU hk n⟩;by_cases hr : k ∈ A.rn
    · obtain ⟨g, hg⟩ := (h.rep k hr).mem ho;exact ⟨hg.rng.1, hg.rng.2, hg.tag.1⟩
    · rw [(h.off k hk hr).2] at ho;simp at ho
theorem Inv.apOK (h : A.Inv b) {k : Nat} (hk : A.has k) : ApOK A.size A.C (A.tx k).ops := by
  by_cases hr : k ∈ A.rn
  · refine ⟨fun o ho _ => ?_, fun n => ?_⟩
    · obtain ⟨g, hg⟩ := (h.rep k hr).mem ho;exact ⟨hg.rng.1, hg.rng.2, hg.tag.2⟩
    · have h1 := nbd_ap A.size ((A.tx k).ops.take n) A.C;have h2 := mvs_tk (A.tx k).ops n;have h3 := sum_mem (f := fun k => mvs (A.tx k).ops) hr;have h4 := h.rm;unfold Bk.moves at h4;omega
  · rw [(h.off k hk hr).2];refine ⟨fun o ho => by simp at ho, fun n => ?_⟩;have := h.rm;rw [List.take_nil];show KL.nbd A.C A.size ≤ 4096;omega
end Bk
end Go.KL
end

section
/- Ending a transaction and examining the queue keep what always holds; plain. No program in sight. -/
namespace Go.KL
theorem tw_in {i : Nat} {b : List Nat} : ∀ {a : List Nat}, i ∈ a → (a ++ b).takeWhile (fun j => !decide (j = i)) = a.takeWhile (fun j => !decide (j = i))
  | [], h => by simp at h
  | x :: a, h => by
    rw [List.cons_append, List.takeWhile_cons, List.takeWhile_cons];by_cases c : x = i
    · simp [c]
    · rw [if_pos (by simp [c]), if_pos (by simp [c]), tw_in ((List.mem_cons.1 h).resolve_left fun e => c e.symm)]
theorem tw_out {i : Nat} {b : List Nat} : ∀ {a : List Nat}, i ∉ a → (a ++ b).takeWhile (fun j => !decide (j = i)) = a ++ b.takeWhile (fun j => !decide (j = i))
  | [], _ => rfl
  | x :: a, h => by
    rw [List.cons_append, List.takeWhile_cons, if_pos (by simp; intro e; exact h (e ▸ List.mem_cons_self ..)), tw_out fun c => h (List.mem_cons_of_mem _ c)];rfl
theorem tw_filter {i k : Nat} (hne : i ≠ k) : ∀ {q : List Nat}, ∀ j ∈ (q.filter fun j => !decide (j = k)).takeWhile (fun j => !decide (j = i)), j ∈ q.takeWhile (fun j => !decide (j = i))
  | [], j, h => by simp at h
  | x :: q, j, h => by
    rw [List.filter_cons] at h;rw [List.takeWhile_cons];by_cases c : x = k
    · rw [if_neg (by simp [c])] at h;rw [if_pos (by simp [c]; exact fun e => hne e.symm)];exact List.mem_cons_of_mem _ (tw_filter hne j h)
    · rw [if_pos (by simp [c]), List.takeWhile_cons] at h;by_cases d : x = i
      · rw [if_neg (by simp [d])] at h;simp at h
      · rw [if_pos (by simp [d])] at h ⊢;rcases List.mem_cons.1 h with h | h
        · exact h ▸ List.mem_cons_self ..
        · exact List.mem_cons_of_mem _ (tw_filter hne j h)
theorem nodup_mid {k : Nat} {l : List Nat} : ∀ {st : List Nat}, (st ++ k :: l).Nodup → k ∉ st ++ l ∧ (st ++ l).Nodup
  | [], h => List.nodup_cons.1 h
  | a :: st, h => by
    obtain ⟨h1, h2⟩ := List.nodup_cons.1 h;obtain ⟨h3, h4⟩ := nodup_mid h2;refine ⟨fun c => ?_, List.nodup_cons.2 ⟨fun c => h1 ?_, h4⟩⟩
    · rcases List.mem_cons.1 c with rfl | c
      · exact h1 (by simp)
      · exact h3 c
    · rcases List.mem_append.1 c with c | c
      · exact List.mem_append_left _ c
      · exact List.mem_append_right _ (List.mem_cons_of_mem _ c)
namespace Bk
variable {A : Bk} {b : Nat}
abbrev wq (A : Bk) (q : List Nat) : Bk := { A with q := q }
theorem mem_mid {st l : List Nat} {k j : Nat} : j ∈ st ++ k :: l ↔ j = k ∨ j ∈ st ++ l := by
  simp only [List.mem_append, List.mem_cons];constructor
  · rintro (h | h | h)
    · exact .inr (.inl h)
    · exact .inl h
    · exact .inr (.inr h)
  · rintro (h | h | h)
    · exact .inr (.inl h)
    · exact .inl h
    · exact .inr (.inr h)
theorem grant_tx {k j : Nat} (hk : A.has k) (hj : A.has j) : (A.grant k).tx j = if j = k then ⟨1, (A.tx k).locks ++ [(A.tx k).req], Lk.zero, (A.tx k).ops⟩ else A.tx j := tx_set hk hj
theorem grant_has {k j : Nat} : (A.grant k).has j ↔ A.has j := has_set
theorem grant_ops {k j : Nat} (hk : A.has k) (hj : A.has j) : ((A.grant k).tx j).ops = (A.tx j).ops := by
  rw [grant_tx hk hj];split
  · rename_i e; rw [e]
  · rfl
theorem grant_inv {k : Nat} {st l : List Nat} (h : (A.wq (st ++ k :: l)).Inv b) (hf : A.free (A.tx k).req st = true) : ((A.grant k).wq (st ++ l)).Inv b := by
  have hkq : k ∈ (A.wq (st ++ k :: l)).q := mem_mid.2 (.inl rfl);have hk : A.has k := h.qhas hkq;have hr : k ∈ A.rn := h.qrn hkq;have hs : (A.tx k).st = 2 := ((h.q k).1 hkq).2;have hnd : (st ++ k :: l).Nodup := h.qnd;obtain ⟨hnk, hnd2⟩ := nodup_mid hnd;have hH : ∀ {j}, j ∈ A.rn → A.has j := fun hj => h.has hj;have ho : ∀ j, A.has j → ((A.grant k).tx j).ops = (A.tx j).ops := fun j hj => grant_ops hk hj;obtain ⟨hf1, hf2⟩ := free_iff.1 hf;have hrq := h.rq k hkq;have hsb : ∀ j, A.has j → ∀ x ∈ (A.tx j).locks, x ∈ ((A.grant k).tx j).locks := fun j hj x hx => by
    rw [grant_tx hk hj];split
    · rename_i e;rw [e] at hx;exact List.mem_append_left _ hx
    · exact hx
  have hlk : ∀ j, A.has j → ∀ x ∈ ((A.grant k).tx j).locks, x ∈ (A.tx j).locks ∨ (j = k ∧ x = (A.tx k).req) := fun j hj x hx => by
    rw [grant_tx hk hj] at hx;split at hx
    · rename_i e;rcases List.mem_append.1 hx with hx | hx
      · exact .inl (by rw [e]; exact hx)
      · exact .inr ⟨e, List.mem_singleton.1 hx⟩
    · exact .inl hx
  refine { sz := h.sz, rn := fun j => ?_, rnd := h.rnd, rnl := h.rnl, q := fun j => ?_, qnd := hnd2, st := fun j hj => ?_, off := fun j hj hn => ?_, lk := fun j hj x hx => ?_, rq := fun j hj => ?_, cnt := ?_, fr := fun i hi j hj x hx y hy => ?_, held := fun j hj o hoo => ?_, rep := fun j hj => ?_, wU := fun i hi => ?_, wT := fun j hj i ht => ?_, rm := ?_, ol := fun j hj => ?_ }
  · show j ∈ A.rn ↔ (A.grant k).has j ∧ (((A.grant k).tx j).st = 1 ∨ ((A.grant k).tx j).st = 2);have h1 : j ∈ A.rn ↔ A.has j ∧ ((A.tx j).st = 1 ∨ (A.tx j).st = 2) := h.rn j;rw [h1, grant_has];refine and_congr_right fun hj => ?_;rw [grant_tx hk hj];by_cases e : j = k
    · subst e;rw [if_pos rfl, hs];simp
    · rw [if_neg e]
  · show j ∈ st ++ l ↔ (A.grant k).has j ∧ ((A.grant k).tx j).st = 2;have h1 : j ∈ st ++ k :: l ↔ A.has j ∧ (A.tx j).st = 2 := h.q j;rw [grant_has];by_cases e : j = k
    · subst e;refine ⟨fun c => absurd c hnk, fun ⟨c1, c2⟩ => ?_⟩;rw [grant_tx hk c1, if_pos rfl] at c2;cases c2
    · have h2 : j ∈ st ++ k :: l ↔ j ∈ st ++ l := by rw [mem_mid]; exact or_iff_right e
      rw [← h2, h1];refine and_congr_right fun hj => ?_;rw [grant_tx hk hj, if_neg e]
  · have hj' : A.has j := grant_has.1 hj;show ((A.grant k).tx j).st = 1 ∨ _;show ((A.grant k).tx j).st = 1 ∨ ((A.grant k).tx j).st = 2 ∨ ((A.grant k).tx j).st = 3 ∨ ((A.grant k).tx j).st = 4;rw [grant_tx hk hj'];split
    · exact .inl rfl
    · exact h.st j hj'
  · have hj' : A.has j := grant_has.1 hj;have e : j ≠ k := fun e => hn (by rw [e]; exact hr);show ((A.grant k).tx j).locks = [] ∧ ((A.grant k).tx j).ops = [];rw [grant_tx hk hj', if_neg e];exact h.off j hj' hn
  · have hj' : A.has j := grant_has.1 hj;rcases hlk j hj' x hx with hx | ⟨e, hx⟩
    · exact h.lk j hj' x hx
    · rw [hx, e]; exact hrq
  · have hj' : j ∈ st ++ k :: l := mem_mid.2 (.inr hj);have e : j ≠ k := fun e => hnk (e ▸ hj);show ((A.grant k).tx j).req.tx = j ∧ ((A.grant k).tx j).req.lo < ((A.grant k).tx j).req.hi ∧ ((A.grant k).tx j).req.hi ≤ A.size;rw [grant_tx hk (h.qhas hj'), if_neg e];exact h.rq j hj'
  · have h1 : (A.rn.map fun j => (A.tx j).locks.length).sum + (st ++ k :: l).length ≤ 1024 := h.cnt;have h2 : (A.rn.map fun j => ((A.grant k).tx j).locks.length).sum = (A.rn.map fun j => (A.tx j).locks.length).sum + 1 := sum_one h.rnd hr (by rw [grant_tx hk hk, if_pos rfl]; simp) fun j hj e => by rw [grant_tx hk (hH hj), if_neg e]
    show (A.rn.map fun j => ((A.grant k).tx j).locks.length).sum + (st ++ l).length ≤ 1024;simp only [List.length_append, List.length_cons] at h1 ⊢;omega
  · rcases hlk i (hH hi) x hx with hx | ⟨e1, hx⟩ <;> rcases hlk j (hH hj) y hy with hy | ⟨e2, hy⟩
    · exact h.fr i hi j hj x hx y hy
    · rw [hy]; exact hf1 i hi x hx
    · rw [hx, cfl_comm]; exact hf1 j hj y hy
    · rw [hx, hy]; exact cfl_self rfl
  · have hoo' : o ∈ (A.tx j).ops := by rw [← ho j (hH hj)]; exact hoo
    exact (h.held j hj o hoo').mono (hsb j (hH hj))
  · show Rep A.size A.C ((A.grant k).tx j).ops;rw [ho j (hH hj)];exact h.rep j hj
  · refine h.wU i fun j hj ht => hi j hj ?_;show tch ((A.grant k).tx j).ops i;rw [ho j (hH hj)];exact ht
  · change tch ((A.grant k).tx j).ops i at ht;show A.W i = ap A.C ((A.grant k).tx j).ops i;rw [ho j (hH hj)] at ht ⊢;exact h.wT j hj i ht
  · have h1 : KL.nbd A.C A.size + 2 * (A.rn.map fun j => mvs (A.tx j).ops).sum ≤ 4096 := h.rm;show KL.nbd A.C A.size + 2 * (A.rn.map fun j => mvs ((A.grant k).tx j).ops).sum ≤ 4096;rw [sum_congr (g := fun j => mvs (A.tx j).ops) fun j hj => by rw [ho j (hH hj)]];exact h1
  · have hj' : A.has j := grant_has.1 hj;show ((A.grant k).tx j).ops.length ≤ b;rw [ho j hj'];exact h.ol j hj'
theorem gr_inv : ∀ (l : List Nat) (A : Bk) (st : List Nat), (A.wq (st ++ l)).Inv b → ((gr A l st).1.wq (gr A l st).2).Inv b
  | [], A, st, h => by
    rw [List.append_nil] at h;exact h
  | k :: l, A, st, h => by
    rw [gr];by_cases c : A.free (A.tx k).req st = true
    · rw [if_pos c];exact gr_inv l _ _ (grant_inv h c)
    · rw [if_neg c];refine gr_inv l _ _ ?_;rw [List.append_assoc];exact h
def fin (A : Bk) : Bk := { (gr A A.q []).1 with q := (gr A A.q []).2 }
theorem fin_inv (h : A.Inv b) : A.fin.Inv b := gr_inv A.q A [] h
def ended (A : Bk) (k s : Nat) (r : Lk) (C W : Nat → Nat) (lg : List (Nat × List Oa)) : Bk := ⟨A.size, C, W, A.ts.set (k - 1) ⟨s, [], r, []⟩, A.rn.filter fun j => !decide (j = k), A.q.filter fun j => !decide (j = k), lg⟩
theorem off_eq {k s : Nat} {r : Lk} {L : List Lk} {C W : Nat → Nat} {lg : List (Nat × List Oa)} (hk : A.has k) : ({ A.setT k ⟨s, L, r, []⟩ with C := C, W := W, log := lg } : Bk).off k = A.ended k s r C W lg := by
  have e : ({ A.setT k ⟨s, L, r, []⟩ with C := C, W := W, log := lg } : Bk).tx k = ⟨s, L, r, []⟩ := by
    show (A.setT k ⟨s, L, r, []⟩).tx k = _;rw [tx_set hk hk, if_pos rfl]
  unfold Bk.off;rw [e];unfold Bk.setT ended;simp only [List.set_set]
theorem abort_eq {k : Nat} (hk : A.has k) : A.abort k = (A.ended k 4 Lk.zero A.C (KL.un A.W (A.tx k).ops) A.log).fin := by
  unfold Bk.abort Bk.release fin;rw [← off_eq (L := (A.tx k).locks) hk];rfl
theorem commit_eq {k : Nat} (hk : A.has k) : A.commit k = (A.ended k 3 (A.tx k).req (ap A.C (A.tx k).ops) A.W (A.log ++ [(k, (A.tx k).ops)])).fin := by
  unfold Bk.commit Bk.release fin;rw [← off_eq (L := (A.tx k).locks) hk];rfl
section
variable {k s : Nat} {r : Lk} {C W : Nat → Nat} {lg : List (Nat × List Oa)}
theorem ended_has {j : Nat} : (A.ended k s r C W lg).has j ↔ A.has j := has_set (A := A) (t := ⟨s, [], r, []⟩)
theorem ended_tx {j : Nat} (hk : A.has k) (hj : A.has j) : (A.ended k s r C W lg).tx j = if j = k then ⟨s, [], r, []⟩ else A.tx j := tx_set hk hj
theorem ended_ne {j : Nat} (hk : A.has k) (hj : A.has j) (e : j ≠ k) : (A.ended k s r C W lg).tx j = A.tx j := by rw [ended_tx hk hj, if_neg e]
theorem mem_ne {l : List Nat} {k j : Nat} : j ∈ (l.filter fun j => !decide (j = k)) ↔ j ∈ l ∧ j ≠ k := by simp
theorem ended_inv (h : A.Inv b) (hk : A.has k) (hs : s = 3 ∨ s = 4) (h1 : ∀ j ∈ A.rn, j ≠ k → Rep A.size C (A.tx j).ops) (h2 : ∀ i, (∀ j ∈ A.rn, j ≠ k → ¬ tch (A.tx j).ops i) → W i = C i) (h3 : ∀ j ∈ A.rn, j ≠ k → ∀ i, tch (A.tx j).ops i → W i = ap C (A.tx j).ops i)
    (h4 : KL.nbd C A.size + 2 * ((A.rn.filter fun j => !decide (j = k)).map fun j => mvs (A.tx j).ops).sum ≤ 4096) : (A.ended k s r C W lg).Inv b := by
  have hN : ∀ {j}, j ∈ (A.ended k s r C W lg).rn → j ∈ A.rn ∧ j ≠ k ∧ (A.ended k s r C W lg).tx j = A.tx j := fun hj => by
    obtain ⟨a1, a2⟩ := mem_ne.1 hj;exact ⟨a1, a2, ended_ne hk (h.has a1) a2⟩
  have hQ : ∀ {j}, j ∈ (A.ended k s r C W lg).q → j ∈ A.q ∧ j ≠ k ∧ (A.ended k s r C W lg).tx j = A.tx j := fun hj => by
    obtain ⟨a1, a2⟩ := mem_ne.1 hj;exact ⟨a1, a2, ended_ne hk (h.qhas a1) a2⟩
  refine { sz := h.sz, rn := fun j => ?_, rnd := h.rnd.filter _, rnl := Nat.le_trans (List.length_filter_le ..) h.rnl, q := fun j => ?_, qnd := h.qnd.filter _, st := fun j hj => ?_, off := fun j hj hn => ?_, lk := fun j hj x hx => ?_, rq := fun j hj => ?_, cnt := ?_, fr := fun i hi j hj x hx y hy => ?_, held := fun j hj o hoo => ?_, rep := fun j hj => ?_, wU := fun i hi => ?_, wT := fun j hj i ht => ?_, rm := ?_, ol := fun j hj => ?_ }
  · rw [ended_has];show j ∈ A.rn.filter _ ↔ _;rw [mem_ne];by_cases e : j = k
    · subst e;refine ⟨fun c => absurd rfl c.2, fun c => ?_⟩;rw [ended_tx hk hk, if_pos rfl] at c;exact absurd c.2 (by dsimp only; omega)
    · rw [h.rn j];constructor
      · rintro ⟨⟨a1, a2⟩, _⟩;rw [ended_ne hk a1 e];exact ⟨a1, a2⟩
      · rintro ⟨a1, a2⟩;rw [ended_ne hk a1 e] at a2;exact ⟨⟨a1, a2⟩, e⟩
  · rw [ended_has];show j ∈ A.q.filter _ ↔ _;rw [mem_ne];by_cases e : j = k
    · subst e;refine ⟨fun c => absurd rfl c.2, fun c => ?_⟩;rw [ended_tx hk hk, if_pos rfl] at c;exact absurd c.2 (by dsimp only; omega)
    · rw [h.q j];constructor
      · rintro ⟨⟨a1, a2⟩, _⟩;rw [ended_ne hk a1 e];exact ⟨a1, a2⟩
      · rintro ⟨a1, a2⟩;rw [ended_ne hk a1 e] at a2;exact ⟨⟨a1, a2⟩, e⟩
  · rw [ended_tx hk (ended_has.1 hj)];split
    · dsimp only; omega
    · exact h.st j (ended_has.1 hj)
  · rw [ended_tx hk (ended_has.1 hj)];split
    · exact ⟨rfl, rfl⟩
    · rename_i e;exact h.off j (ended_has.1 hj) fun c => hn (mem_ne.2 ⟨c, e⟩)
  · rw [ended_tx hk (ended_has.1 hj)] at hx;split at hx
    · simp at hx
    · exact h.lk j (ended_has.1 hj) x hx
  · obtain ⟨a1, a2, a3⟩ := hQ hj;rw [a3];exact h.rq j a1
  · have a1 := sum_filter (f := fun j => (A.tx j).locks.length) (k := k) (l := A.rn);have a2 := List.length_filter_le (fun j => !decide (j = k)) A.q;have a3 := h.cnt;have a4 : ((A.ended k s r C W lg).rn.map fun j => ((A.ended k s r C W lg).tx j).locks.length).sum = ((A.ended k s r C W lg).rn.map fun j => (A.tx j).locks.length).sum := sum_congr fun j hj => by rw [(hN hj).2.2]
    have a5 : ((A.ended k s r C W lg).rn.map fun j => (A.tx j).locks.length).sum = ((A.rn.filter fun j => !decide (j = k)).map fun j => (A.tx j).locks.length).sum := rfl;have a6 : (A.ended k s r C W lg).q.length = (A.q.filter fun j => !decide (j = k)).length := rfl;unfold Bk.count at a3 ⊢;rw [a4, a5, a6];omega
  · obtain ⟨a1, _, a3⟩ := hN hi;obtain ⟨b1, _, b3⟩ := hN hj;rw [a3] at hx;rw [b3] at hy;exact h.fr i a1 j b1 x hx y hy
  · obtain ⟨a1, _, a3⟩ := hN hj;rw [a3] at hoo ⊢;exact h.held j a1 o hoo
  · obtain ⟨a1, a2, a3⟩ := hN hj;rw [a3];exact h1 j a1 a2
  · refine h2 i fun j hj e ht => hi j (mem_ne.2 ⟨hj, e⟩) ?_;rw [ended_ne hk (h.has hj) e];exact ht
  · obtain ⟨a1, a2, a3⟩ := hN hj;rw [a3] at ht ⊢;exact h3 j a1 a2 i ht
  · have a4 : (A.ended k s r C W lg).moves = ((A.rn.filter fun j => !decide (j = k)).map fun j => mvs (A.tx j).ops).sum := sum_congr (l := (A.ended k s r C W lg).rn) fun j hj => by rw [(hN hj).2.2]
    rw [a4];exact h4
  · rw [ended_tx hk (ended_has.1 hj)];split
    · exact Nat.zero_le _
    · exact h.ol j (ended_has.1 hj)
end
theorem Inv.ab (h : A.Inv b) {k : Nat} (hk : A.has k) : (A.ended k 4 Lk.zero A.C (KL.un A.W (A.tx k).ops) A.log).Inv b := by
  refine ended_inv h hk (.inr rfl) (fun j hj _ => h.rep j hj) (fun i hi => ?_) (fun j hj e i ht => ?_) ?_
  · by_cases hr : k ∈ A.rn
    · by_cases c : tch (A.tx k).ops i
      · exact (h.rep k hr).un c
      · rw [un_not c];refine h.wU i fun j hj ht => ?_;by_cases e : j = k
        · rw [e] at ht; exact c ht
        · exact hi j hj e ht
    · rw [(h.off k hk hr).2];refine h.wU i fun j hj ht => hi j hj (fun e => hr (e ▸ hj)) ht
  · rw [un_not fun c => ?_]
    · exact h.wT j hj i ht
    · by_cases hr : k ∈ A.rn
      · exact h.disj hj hr e ⟨ht, c⟩
      · rw [(h.off k hk hr).2] at c;exact tch.nil c
  · have h1 := (sum_filter (f := fun j => mvs (A.tx j).ops) (k := k) (l := A.rn)).1;have h2 := h.rm;unfold Bk.moves at h2;omega
theorem Inv.abort (h : A.Inv b) {k : Nat} (hk : A.has k) : (A.abort k).Inv b := by
  rw [abort_eq hk];exact fin_inv (h.ab hk)
theorem Inv.cm (h : A.Inv b) {k : Nat} (hk : A.has k) (hr : k ∈ A.rn) : (A.ended k 3 (A.tx k).req (ap A.C (A.tx k).ops) A.W (A.log ++ [(k, (A.tx k).ops)])).Inv b := by
  refine ended_inv h hk (.inl rfl) (fun j hj e => ?_) (fun i hi => ?_) (fun j hj e i ht => ?_) ?_
  · refine (h.rep j hj).congr fun o ho i h1 h2 => ?_;obtain ⟨x, hx, _, h3⟩ := h.held j hj o ho i h1 h2;rw [ap_not fun c => h.apart hr hj (fun e' => e e'.symm) c hx h3]
  · by_cases c : tch (A.tx k).ops i
    · exact h.wT k hr i c
    · rw [ap_not c];refine h.wU i fun j hj ht => ?_;by_cases e : j = k
      · rw [e] at ht; exact c ht
      · exact hi j hj e ht
  · rw [h.wT j hj i ht];exact ap_tch ht
  · have h1 := (sum_filter (f := fun j => mvs (A.tx j).ops) (k := k) (l := A.rn)).2 hr;have h2 := h.rm;have h3 := nbd_ap A.size (A.tx k).ops A.C;unfold Bk.moves at h2;omega
theorem Inv.commit (h : A.Inv b) {k : Nat} (hr : k ∈ A.rn) : (A.commit k).Inv b := by
  rw [commit_eq (h.has hr)];exact fin_inv (h.cm (h.has hr) hr)
end Bk
end Go.KL
end

section
/- Who waits for whom, kept by the changes of a book; plain. No program in sight. -/
namespace Go.KL
open Relation
namespace Bk
variable {A : Bk} {b : Nat}
theorem gr_has : ∀ (l : List Nat) (A : Bk) (st : List Nat) {j : Nat}, (gr A l st).1.has j ↔ A.has j
  | [], _, _, _ => Iff.rfl
  | k :: l, A, st, j => by
    rw [gr];split
    · rw [gr_has l]; exact grant_has
    · exact gr_has l _ _
theorem gr_same : ∀ (l : List Nat) (A : Bk) (st : List Nat), (gr A l st).1.size = A.size ∧ (gr A l st).1.C = A.C ∧ (gr A l st).1.W = A.W ∧ (gr A l st).1.log = A.log ∧ (gr A l st).1.ts.length = A.ts.length
  | [], _, _ => ⟨rfl, rfl, rfl, rfl, rfl⟩
  | k :: l, A, st => by
    rw [gr];split
    · obtain ⟨h1, h2, h3, h4, h5⟩ := gr_same l (A.grant k) st;exact ⟨h1, h2, h3, h4, h5.trans (by simp [grant, setT])⟩
    · exact gr_same l _ _
theorem gr_old : ∀ (l : List Nat) (A : Bk) (st : List Nat) {j : Nat}, j ∈ st → j ∈ (gr A l st).2
  | [], _, _, _, h => h
  | k :: l, A, st, j, h => by
    rw [gr];split
    · exact gr_old l _ _ h
    · exact gr_old l _ _ (List.mem_append_left _ h)
theorem gr_sub : ∀ (l : List Nat) (A : Bk) (st : List Nat) {j : Nat}, j ∈ (gr A l st).2 → j ∈ st ++ l
  | [], _, _, _, h => by simpa [gr] using h
  | k :: l, A, st, j, h => by
    rw [gr] at h;split at h
    · exact mem_mid.2 (.inr (gr_sub l _ _ h))
    · have := gr_sub l _ _ h;simpa using this
theorem gr_tx : ∀ (l : List Nat) (A : Bk) (st : List Nat) {j : Nat}, (st ++ l).Nodup → (∀ k ∈ l, A.has k) → A.has j →
    ((gr A l st).1.tx j = A.tx j ∧ (j ∈ l → j ∈ (gr A l st).2)) ∨ (j ∈ l ∧ j ∉ (gr A l st).2 ∧ (gr A l st).1.tx j = ⟨1, (A.tx j).locks ++ [(A.tx j).req], Lk.zero, (A.tx j).ops⟩)
  | [], _, _, _, _, _, _ => .inl ⟨rfl, fun h => by simp at h⟩
  | k :: l, A, st, j, hn, hh, hj => by
    have hk : A.has k := hh k (List.mem_cons_self ..);obtain ⟨n1, n2⟩ := nodup_mid hn;rw [gr];split
    · have ih := gr_tx l (A.grant k) st (j := j) n2 (fun m hm => grant_has.2 (hh m (List.mem_cons_of_mem _ hm))) (grant_has.2 hj);by_cases e : j = k
      · subst e;rcases ih with ⟨h1, _⟩ | ⟨h1, _⟩
        · rw [grant_tx hk hk, if_pos rfl] at h1;exact .inr ⟨List.mem_cons_self .., fun c => n1 (gr_sub l _ _ c), h1⟩
        · exact absurd (List.mem_append_right _ h1) n1
      · rw [grant_tx hk hj, if_neg e] at ih;rcases ih with ⟨h1, h2⟩ | ⟨h1, h2⟩
        · exact .inl ⟨h1, fun c => h2 ((List.mem_cons.1 c).resolve_left e)⟩
        · exact .inr ⟨List.mem_cons_of_mem _ h1, h2⟩
    · rcases gr_tx l A (st ++ [k]) (j := j) (by simpa using hn) (fun m hm => hh m (List.mem_cons_of_mem _ hm)) hj with ⟨h1, h2⟩ | ⟨h1, h2⟩
      · refine .inl ⟨h1, fun c => ?_⟩;rcases List.mem_cons.1 c with rfl | c
        · exact gr_old l _ _ (by simp)
        · exact h2 c
      · exact .inr ⟨List.mem_cons_of_mem _ h1, h2⟩
def BlkF (A : Bk) : List Nat → List Nat → Prop
  | _, [] => True
  | pre, k :: l => A.free (A.tx k).req pre = false ∧ BlkF A (pre ++ [k]) l
theorem BlkF.snoc {k : Nat} : ∀ {l pre : List Nat}, BlkF A pre (l ++ [k]) ↔ BlkF A pre l ∧ A.free (A.tx k).req (pre ++ l) = false
  | [], pre => by simp [BlkF]
  | a :: l, pre => by
    rw [List.cons_append, BlkF, BlkF, BlkF.snoc, and_assoc, List.append_assoc];rfl
theorem BlkF.mem {k : Nat} : ∀ {l pre : List Nat}, BlkF A pre l → k ∈ l → A.free (A.tx k).req (pre ++ l.takeWhile (fun j => !decide (j = k))) = false
  | [], _, _, h => by simp at h
  | a :: l, pre, h, hk => by
    rw [List.takeWhile_cons];by_cases c : a = k
    · rw [if_neg (by simp [c]), List.append_nil, ← c];exact h.1
    · rw [if_pos (by simp [c])];have := h.2.mem ((List.mem_cons.1 hk).resolve_left fun e => c e.symm);rw [List.append_assoc] at this;exact this
theorem free_mono {B : Bk} {x : Lk} {pre : List Nat} (h : A.free x pre = false) (h1 : ∀ m ∈ A.rn, m ∈ B.rn ∧ ∀ y ∈ (A.tx m).locks, y ∈ (B.tx m).locks) (h2 : ∀ m ∈ pre, (B.tx m).req = (A.tx m).req) : B.free x pre = false := by
  cases c : B.free x pre with
  | false => rfl
  | true =>
    obtain ⟨c1, c2⟩ := free_iff.1 c;have : A.free x pre = true := free_iff.2 ⟨fun m hm y hy => c1 m (h1 m hm).1 y ((h1 m hm).2 y hy), fun m hm => by rw [← h2 m hm]; exact c2 m hm⟩;rw [h] at this;cases this
theorem BlkF.mono {B : Bk} (h1 : ∀ m ∈ A.rn, m ∈ B.rn ∧ ∀ y ∈ (A.tx m).locks, y ∈ (B.tx m).locks) : ∀ {l pre : List Nat}, BlkF A pre l → (∀ m ∈ pre ++ l, (B.tx m).req = (A.tx m).req) → BlkF B pre l
  | [], _, _, _ => trivial
  | k :: l, pre, h, h2 => by
    refine ⟨?_, h.2.mono h1 fun m hm => h2 m (by simpa using hm)⟩;rw [h2 k (by simp)];exact free_mono h.1 h1 fun m hm => h2 m (List.mem_append_left _ hm)
def Blk (A : Bk) : Prop := BlkF A [] A.q
theorem gr_blk : ∀ (l : List Nat) (A : Bk) (st : List Nat), (A.wq (st ++ l)).Inv b → BlkF A [] st → BlkF (gr A l st).1 [] (gr A l st).2
  | [], _, _, _, h => h
  | k :: l, A, st, hI, h => by
    have hkq : k ∈ (A.wq (st ++ k :: l)).q := mem_mid.2 (.inl rfl);have hk : A.has k := hI.qhas hkq;have hnk := (nodup_mid hI.qnd).1;rw [gr];by_cases c : A.free (A.tx k).req st = true
    · rw [if_pos c];refine gr_blk l _ _ (grant_inv hI c) (BlkF.mono (A := A) (B := A.grant k) (fun m hm => ⟨hm, fun y hy => ?_⟩) h fun m hm => ?_)
      · rw [grant_tx hk (hI.has hm)];split
        · rename_i e;rw [e] at hy;exact List.mem_append_left _ hy
        · exact hy
      · have hm' : m ∈ st := hm;have hne : m ≠ k := fun e => hnk (by rw [← e]; exact List.mem_append_left _ hm');rw [grant_tx hk (hI.qhas (List.mem_append_left _ hm')), if_neg hne]
    · rw [if_neg c];refine gr_blk l _ _ (by rw [List.append_assoc]; exact hI) (BlkF.snoc.2 ⟨h, ?_⟩);simpa using c
theorem fin_blk (h : A.Inv b) : A.fin.Blk := BlkF.mono (A := (gr A A.q []).1) (B := A.fin) (fun _ hm => ⟨hm, fun _ hy => hy⟩) (gr_blk A.q A [] h trivial) fun _ _ => rfl
def EF (A : Bk) (q : List Nat) (k j : Nat) : Prop := (A.tx k).st = 2 ∧ ((j ∈ A.rn ∧ ∃ x ∈ (A.tx j).locks, cfl x (A.tx k).req = true) ∨ (j ∈ q.takeWhile (fun j => !decide (j = k)) ∧ cfl (A.tx j).req (A.tx k).req = true))
theorem E_iff {k j : Nat} : A.E k j ↔ EF A A.q k j := by
  unfold Bk.E Bk.waits EF Bk.before;by_cases c : (A.tx k).st = 2
  · rw [if_neg (by simp [c]), List.mem_append, mem_owners, mem_ahead];exact ⟨fun h => ⟨c, h⟩, fun h => h.2⟩
  · rw [if_pos c];exact ⟨fun h => by simp at h, fun h => absurd h.1 c⟩
theorem grant_edge {k i j : Nat} {st l : List Nat} (h : (A.wq (st ++ k :: l)).Inv b) (hf : A.free (A.tx k).req st = true) (hi : A.has i) (he : EF (A.grant k) (st ++ l) i j) : EF A (st ++ k :: l) i j := by
  have hkq : k ∈ (A.wq (st ++ k :: l)).q := mem_mid.2 (.inl rfl);have hk : A.has k := h.qhas hkq;have hnk := (nodup_mid h.qnd).1;obtain ⟨hf1, hf2⟩ := free_iff.1 hf;obtain ⟨hs, he⟩ := he;have e : i ≠ k := fun e => by
    rw [e, grant_tx hk hk, if_pos rfl] at hs;cases hs
  rw [grant_tx hk hi, if_neg e] at hs he;have hiq : i ∈ st ++ l := (mem_mid.1 ((h.q i).2 ⟨hi, hs⟩ : i ∈ st ++ k :: l)).resolve_left e;refine ⟨hs, ?_⟩;rcases he with ⟨hj, x, hx, hc⟩ | ⟨hj, hc⟩
  · have hjh : A.has j := h.has hj;rw [grant_tx hk hjh] at hx;split at hx
    · rename_i e2;subst e2;rcases List.mem_append.1 hx with hx | hx
      · exact .inl ⟨hj, x, hx, hc⟩
      · rw [List.mem_singleton.1 hx] at hc;refine .inr ⟨?_, hc⟩;by_cases cs : i ∈ st
        · exact absurd (hf2 i cs) (by rw [cfl_comm, hc]; decide)
        · rw [tw_out cs, List.takeWhile_cons, if_pos (by simp; exact fun e' => e e'.symm)];simp
    · exact .inl ⟨hj, x, hx, hc⟩
  · have hjq : j ∈ st ++ l := (List.takeWhile_sublist _).subset hj;have hne : j ≠ k := fun e' => hnk (e' ▸ hjq);rw [grant_tx hk (h.qhas (mem_mid.2 (.inr hjq) : j ∈ st ++ k :: l)), if_neg hne] at hc;refine .inr ⟨?_, hc⟩;by_cases cs : i ∈ st
    · rw [tw_in cs] at hj ⊢;exact hj
    · rw [tw_out cs] at hj ⊢;rw [List.takeWhile_cons, if_pos (by simp; exact fun e' => e e'.symm)];exact mem_mid.2 (.inr hj)
theorem gr_edge : ∀ (l : List Nat) (A : Bk) (st : List Nat) {i j : Nat}, (A.wq (st ++ l)).Inv b → A.has i → EF (gr A l st).1 (gr A l st).2 i j → EF A (st ++ l) i j
  | [], A, st, i, j, _, _, h => by
    rw [List.append_nil];exact h
  | k :: l, A, st, i, j, hI, hi, h => by
    rw [gr] at h;by_cases c : A.free (A.tx k).req st = true
    · rw [if_pos c] at h;exact grant_edge hI c hi (gr_edge l _ _ (grant_inv hI c) (grant_has.2 hi) h)
    · rw [if_neg c] at h;have := gr_edge l A (st ++ [k]) (by rw [List.append_assoc]; exact hI) hi h;rw [List.append_assoc] at this;exact this
theorem fin_edge {i j : Nat} (h : A.Inv b) (hi : A.has i) (he : A.fin.E i j) : A.E i j := E_iff.2 (gr_edge A.q A [] h hi (E_iff.1 he))
theorem ended_edge {k s : Nat} {r : Lk} {C W : Nat → Nat} {lg : List (Nat × List Oa)} {i j : Nat} (h : A.Inv b) (hk : A.has k) (hs : s = 3 ∨ s = 4) (hi : A.has i) (he : (A.ended k s r C W lg).E i j) : A.E i j := by
  obtain ⟨h1, h2⟩ := E_iff.1 he;have e : i ≠ k := fun e => by
    rw [e, ended_tx hk hk, if_pos rfl] at h1;dsimp only at h1;omega
  rw [ended_ne hk hi e] at h1 h2;refine E_iff.2 ⟨h1, ?_⟩;rcases h2 with ⟨hj, x, hx, hc⟩ | ⟨hj, hc⟩
  · obtain ⟨a1, a2⟩ := mem_ne.1 hj;rw [ended_ne hk (h.has a1) a2] at hx;exact .inl ⟨a1, x, hx, hc⟩
  · have hjq := (List.takeWhile_sublist _).subset hj;obtain ⟨a1, a2⟩ := mem_ne.1 hjq;rw [ended_ne hk (h.qhas a1) a2] at hc;exact .inr ⟨tw_filter e j hj, hc⟩
theorem fin_has {j : Nat} : A.fin.has j ↔ A.has j := gr_has A.q A []
theorem abort_has {k j : Nat} (hk : A.has k) : (A.abort k).has j ↔ A.has j := by rw [abort_eq hk, fin_has, ended_has]
theorem commit_has {k j : Nat} (hk : A.has k) : (A.commit k).has j ↔ A.has j := by rw [commit_eq hk, fin_has, ended_has]
theorem abort_edge {k i j : Nat} (h : A.Inv b) (hk : A.has k) (hi : A.has i) (he : (A.abort k).E i j) : A.E i j := by
  rw [abort_eq hk] at he;exact ended_edge h hk (.inr rfl) hi (fin_edge (h.ab hk) (ended_has.2 hi) he)
theorem commit_edge {k i j : Nat} (h : A.Inv b) (hr : k ∈ A.rn) (hi : A.has i) (he : (A.commit k).E i j) : A.E i j := by
  rw [commit_eq (h.has hr)] at he;exact ended_edge h (h.has hr) (.inl rfl) hi (fin_edge (h.cm (h.has hr) hr) (ended_has.2 hi) he)
theorem E_has {i j : Nat} (h : A.Inv b) (he : A.E i j) : A.has j := by
  rcases (E_iff.1 he).2 with ⟨hj, _⟩ | ⟨hj, _⟩
  · exact h.has hj
  · exact h.qhas ((List.takeWhile_sublist _).subset hj)
theorem E_rn {i j : Nat} (h : A.Inv b) (he : A.E i j) : j ∈ A.rn := by
  rcases (E_iff.1 he).2 with ⟨hj, _⟩ | ⟨hj, _⟩
  · exact hj
  · exact h.qrn ((List.takeWhile_sublist _).subset hj)
theorem R_iff {k j : Nat} : A.R k j ↔ TransGen A.E k j := by
  constructor
  · intro h;induction h with
    | one h => exact .single h
    | more _ h ih => exact .tail ih h
  · intro h;induction h with
    | single h => exact .one h
    | tail _ h ih => exact .more ih h
def Ac (A : Bk) : Prop := ∀ k, A.has k → ¬ TransGen A.E k k
def AcW (A : Bk) (k : Nat) : Prop := ∀ j, A.has j → ¬ TransGen (fun i m => A.E i m ∧ i ≠ k) j j
theorem trans_sub {P Q : Nat → Nat → Prop} {H : Nat → Prop} (h1 : ∀ i m, P i m → H m) (h2 : ∀ i m, H i → P i m → Q i m) {i j : Nat} (hi : H i) (h : TransGen P i j) : TransGen Q i j ∧ H j := by
  induction h with
  | single h => exact ⟨.single (h2 _ _ hi h), h1 _ _ h⟩
  | tail _ h ih => exact ⟨.tail ih.1 (h2 _ _ ih.2 h), h1 _ _ h⟩
theorem Ac.sub {B : Bk} (h : A.Ac) (hB : B.Inv b) (hh : ∀ i, B.has i → A.has i) (he : ∀ i j, A.has i → B.E i j → A.E i j) : B.Ac := fun k hk hc =>
  h k (hh k hk) (trans_sub (H := A.has) (fun _ _ c => hh _ (E_has hB c)) he (hh k hk) hc).1
theorem AcW.sub {B : Bk} {k : Nat} (h : A.AcW k) (hB : B.Inv b) (hh : ∀ i, B.has i → A.has i) (he : ∀ i j, A.has i → B.E i j → A.E i j) : B.AcW k := fun j hj hc =>
  h j (hh j hj) (trans_sub (H := A.has) (fun _ _ c => hh _ (E_has hB c.1)) (fun i m hi c => ⟨he i m hi c.1, c.2⟩) (hh j hj) hc).1
theorem Ac.w (h : A.Ac) (k : Nat) : A.AcW k := fun j hj hc => h j hj (by
  have : ∀ {a c}, TransGen (fun i m => A.E i m ∧ i ≠ k) a c → TransGen A.E a c := fun h => by
    induction h with
    | single h => exact .single h.1
    | tail _ h ih => exact .tail ih h.1
  exact this hc)
theorem path_split {k j i : Nat} (h : TransGen A.E j i) : TransGen (fun i m => A.E i m ∧ i ≠ k) j i ∨ ((j = k ∨ TransGen A.E j k) ∧ TransGen A.E k i) := by
  induction h with
  | @single m h =>
    by_cases e : j = k
    · exact .inr ⟨.inl e, by rw [← e]; exact .single h⟩
    · exact .inl (.single ⟨h, e⟩)
  | @tail m n h h2 ih =>
    rcases ih with ih | ⟨h3, h4⟩
    · by_cases e : m = k
      · exact .inr ⟨.inr (by rw [← e]; exact h), by rw [← e]; exact .single h2⟩
      · exact .inl (.tail ih ⟨h2, e⟩)
    · exact .inr ⟨h3, .tail h4 h2⟩
theorem AcW.ac {k : Nat} (h : A.AcW k) (hk : ¬ TransGen A.E k k) : A.Ac := fun j hj hc => by
  rcases path_split (k := k) hc with c | ⟨c1, c2⟩
  · exact h j hj c
  · rcases c1 with rfl | c1
    · exact hk hc
    · exact hk (TransGen.trans c2 c1)
theorem AcW.ac' {k : Nat} (h : A.AcW k) (hk : (A.tx k).st ≠ 2) : A.Ac := h.ac fun c => by
  have : ∀ {i j}, TransGen A.E i j → ∃ m, A.E i m := fun h => by
    induction h with
    | single h => exact ⟨_, h⟩
    | tail _ _ ih => exact ih
  obtain ⟨m, hm⟩ := this c;exact hk (E_iff.1 hm).1
end Bk
end Go.KL
end

section
/- All calls keep what always holds; plain. No program in sight. -/
namespace Go.KL
open Relation
theorem sum_swap {f g : Nat → Nat} {k : Nat} : ∀ {l : List Nat}, l.Nodup → k ∈ l → (∀ j ∈ l, j ≠ k → g j = f j) → (l.map g).sum + f k = (l.map f).sum + g k
  | [], _, h, _ => by simp at h
  | a :: l, hn, h, h2 => by
    obtain ⟨n1, n2⟩ := List.nodup_cons.1 hn;rw [List.map_cons, List.sum_cons, List.map_cons, List.sum_cons];rcases List.mem_cons.1 h with rfl | h
    · rw [sum_congr (f := g) (g := f) (l := l) fun j hj => h2 j (List.mem_cons_of_mem _ hj) fun c => n1 (c ▸ hj)];omega
    · have := sum_swap n2 h fun j hj => h2 j (List.mem_cons_of_mem _ hj);rw [h2 a (List.mem_cons_self ..) fun c => n1 (c ▸ h)];omega
namespace Bk
variable {A : Bk} {b : Nat}
def up (A : Bk) (k : Nat) (t : Tx) (q : List Nat) (W : Nat → Nat) : Bk := ⟨A.size, A.C, W, A.ts.set (k - 1) t, A.rn, q, A.log⟩
theorem Inv.upd (h : A.Inv b) {k b' : Nat} {t : Tx} {q' : List Nat} {W' : Nat → Nat} (hr : k ∈ A.rn) (hst : t.st = 1 ∨ t.st = 2) (hq : ∀ j, j ∈ q' ↔ (j ∈ A.q ∧ j ≠ k) ∨ (j = k ∧ t.st = 2)) (hqn : q'.Nodup) (hb : b ≤ b')
    (hl : ∀ x ∈ t.locks, x.tx = k ∧ x.lo < x.hi ∧ x.hi ≤ A.size) (hrq : t.st = 2 → t.req.tx = k ∧ t.req.lo < t.req.hi ∧ t.req.hi ≤ A.size) (hc : t.locks.length + q'.length + A.count ≤ 1024 + (A.tx k).locks.length + A.q.length)
    (hfr : ∀ j ∈ A.rn, j ≠ k → ∀ x ∈ (A.tx j).locks, ∀ y ∈ t.locks, cfl x y = false) (hh : ∀ o ∈ t.ops, Hold t.locks o.lo o.hi o.mv) (hrep : Rep A.size A.C t.ops)
    (hU : ∀ i, (∀ j ∈ A.rn, j ≠ k → ¬ tch (A.tx j).ops i) → ¬ tch t.ops i → W' i = A.C i) (hT : ∀ i, tch t.ops i → W' i = ap A.C t.ops i) (hT' : ∀ j ∈ A.rn, j ≠ k → ∀ i, tch (A.tx j).ops i → W' i = ap A.C (A.tx j).ops i)
    (hm : KL.nbd A.C A.size + 2 * (A.moves + mvs t.ops) ≤ 4096 + 2 * mvs (A.tx k).ops) (hol : t.ops.length ≤ b') : (A.up k t q' W').Inv b' := by
  have hk : A.has k := h.has hr;have hx : ∀ {j}, A.has j → (A.up k t q' W').tx j = if j = k then t else A.tx j := fun hj => tx_set hk hj;have hH : ∀ {j}, (A.up k t q' W').has j ↔ A.has j := has_set;refine { sz := h.sz, rn := fun j => ?_, rnd := h.rnd, rnl := h.rnl, q := fun j => ?_, qnd := hqn, st := fun j hj => ?_, off := fun j hj hn => ?_, lk := fun j hj x hxx => ?_, rq := fun j hj => ?_, cnt := ?_, fr := fun i hi j hj x hxx y hy => ?_, held := fun j hj o hoo => ?_, rep := fun j hj => ?_, wU := fun i hi => ?_, wT := fun j hj i ht => ?_, rm := ?_, ol := fun j hj => ?_ }
  · rw [hH];have h1 := h.rn j;show j ∈ A.rn ↔ _;rw [h1];refine and_congr_right fun hj => ?_;rw [hx hj];by_cases e : j = k
    · rw [if_pos e, e];have h2 := (h.rn k).1 hr;exact ⟨fun _ => hst, fun _ => h2.2⟩
    · rw [if_neg e]
  · rw [hH];show j ∈ q' ↔ _;rw [hq j];by_cases e : j = k
    · subst e;rw [hx hk, if_pos rfl];exact ⟨fun c => c.elim (fun c => absurd rfl c.2) fun c => ⟨hk, c.2⟩, fun c => .inr ⟨rfl, c.2⟩⟩
    · rw [h.q j];constructor
      · rintro (⟨⟨h1, h2⟩, _⟩ | ⟨h1, _⟩)
        · rw [hx h1, if_neg e]; exact ⟨h1, h2⟩
        · exact absurd h1 e
      · rintro ⟨h1, h2⟩;rw [hx h1, if_neg e] at h2;exact .inl ⟨⟨h1, h2⟩, e⟩
  · rw [hx (hH.1 hj)];split
    · omega
    · exact h.st j (hH.1 hj)
  · have e : j ≠ k := fun e => hn (by rw [e]; exact hr);rw [hx (hH.1 hj), if_neg e];exact h.off j (hH.1 hj) hn
  · rw [hx (hH.1 hj)] at hxx;split at hxx
    · rename_i e;rw [e];exact hl x hxx
    · exact h.lk j (hH.1 hj) x hxx
  · rcases (hq j).1 hj with ⟨h1, e⟩ | ⟨e, h1⟩
    · rw [hx (h.qhas h1), if_neg e];exact h.rq j h1
    · subst e;rw [hx hk, if_pos rfl];exact hrq h1
  · have h1 := sum_swap (f := fun j => (A.tx j).locks.length) (g := fun j => ((A.up k t q' W').tx j).locks.length) h.rnd hr fun j hj e => by rw [hx (h.has hj), if_neg e]
    have h2 := h.cnt;rw [hx hk, if_pos rfl] at h1;unfold Bk.count at hc h2;have h3 : (A.rn.map fun j => ((A.up k t q' W').tx j).locks.length).sum + q'.length ≤ 1024 := by omega
    exact h3
  · rw [hx (h.has hi)] at hxx;rw [hx (h.has hj)] at hy;split at hxx <;> split at hy
    · rename_i e1 e2;exact cfl_self ((hl x hxx).1.trans (hl y hy).1.symm)
    · rename_i e1 e2;rw [cfl_comm];exact hfr j hj e2 y hy x hxx
    · rename_i e1 e2;exact hfr i hi e1 x hxx y hy
    · exact h.fr i hi j hj x hxx y hy
  · rw [hx (h.has hj)] at hoo ⊢;split at hoo
    · rename_i e;rw [if_pos e];exact hh o hoo
    · rename_i e;rw [if_neg e];exact h.held j hj o hoo
  · rw [hx (h.has hj)];split
    · exact hrep
    · exact h.rep j hj
  · refine hU i (fun j hj e ht => hi j hj ?_) fun ht => hi k hr ?_
    · rw [hx (h.has hj), if_neg e];exact ht
    · rw [hx hk, if_pos rfl];exact ht
  · rw [hx (h.has hj)] at ht ⊢;split at ht
    · rename_i e;rw [if_pos e];exact hT i ht
    · rename_i e;rw [if_neg e];exact hT' j hj e i ht
  · have h1 := sum_swap (f := fun j => mvs (A.tx j).ops) (g := fun j => mvs ((A.up k t q' W').tx j).ops) h.rnd hr fun j hj e => by rw [hx (h.has hj), if_neg e]
    have h4 : A.moves = (A.rn.map fun j => mvs (A.tx j).ops).sum := rfl;have h5 := h.rm;rw [hx hk, if_pos rfl] at h1;have h3 : KL.nbd A.C A.size + 2 * (A.rn.map fun j => mvs ((A.up k t q' W').tx j).ops).sum ≤ 4096 := by omega
    exact h3
  · rw [hx (hH.1 hj)];split
    · exact hol
    · exact Nat.le_trans (h.ol j (hH.1 hj)) hb
section
variable {k : Nat}
theorem Inv.run (h : A.Inv b) (hk : A.has k) (hs : (A.tx k).st = 1) : k ∈ A.rn := (h.rn k).2 ⟨hk, .inl hs⟩
theorem Inv.noq (h : A.Inv b) (hs : (A.tx k).st = 1) : k ∉ A.q := fun c => by
  have := ((h.q k).1 c).2;omega
theorem Inv.q1 (h : A.Inv b) (hs : (A.tx k).st = 1) {s : Nat} (h1 : s = 1) (j : Nat) : j ∈ A.q ↔ (j ∈ A.q ∧ j ≠ k) ∨ (j = k ∧ s = 2) := by
  constructor
  · exact fun c => .inl ⟨c, fun e => h.noq hs (e ▸ c)⟩
  · rintro (c | c)
    · exact c.1
    · omega
theorem Inv.got (h : A.Inv b) (hk : A.has k) (hs : (A.tx k).st = 1) {lo hi : Nat} {wr : Bool} (h1 : lo < hi) (h2 : hi ≤ A.size) (hc : A.count < 1024) (hf : A.free ⟨k, lo, hi, wr⟩ A.q = true) : (A.setT k { A.tx k with locks := (A.tx k).locks ++ [⟨k, lo, hi, wr⟩] }).Inv b := by
  have hr := h.run hk hs;obtain ⟨f1, _⟩ := free_iff.1 hf;refine h.upd (t := { A.tx k with locks := (A.tx k).locks ++ [⟨k, lo, hi, wr⟩] }) (q' := A.q) (W' := A.W) hr (.inl hs) (h.q1 hs hs) h.qnd (Nat.le_refl _) (fun x hx => ?_) (fun c => ?_) ?_ (fun j hj e x hx y hy => ?_) (fun o ho => ?_) (h.rep k hr) (fun i hi hn => h.wU i fun j hj => ?_) (h.wT k hr) (fun j hj _ => h.wT j hj) ?_ (h.ol k hk)
  · rcases List.mem_append.1 hx with hx | hx
    · exact h.lk k hk x hx
    · rw [List.mem_singleton.1 hx];exact ⟨rfl, h1, h2⟩
  · dsimp only at c; omega
  · dsimp only;rw [List.length_append, List.length_singleton];omega
  · rcases List.mem_append.1 hy with hy | hy
    · exact h.fr j hj k hr x hx y hy
    · rw [List.mem_singleton.1 hy];exact f1 j hj x hx
  · exact (h.held k hr o ho).mono fun x hx => List.mem_append_left _ hx
  · by_cases e : j = k
    · rw [e]; exact hn
    · exact hi j hj e
  · have := h.rm;dsimp only;omega
theorem Inv.wait (h : A.Inv b) (hk : A.has k) (hs : (A.tx k).st = 1) {lo hi : Nat} {wr : Bool} (h1 : lo < hi) (h2 : hi ≤ A.size) (hc : A.count < 1024) : (A.wait k ⟨k, lo, hi, wr⟩).Inv b := by
  have hr := h.run hk hs;refine h.upd (t := ⟨2, (A.tx k).locks, ⟨k, lo, hi, wr⟩, (A.tx k).ops⟩) (q' := A.q ++ [k]) (W' := A.W) hr (.inr rfl) (fun j => ?_) ?_ (Nat.le_refl _) (h.lk k hk) (fun _ => ⟨rfl, h1, h2⟩) ?_ (fun j hj _ x hx y hy => h.fr j hj k hr x hx y hy) (h.held k hr) (h.rep k hr) (fun i hi hn => h.wU i fun j hj => ?_) (h.wT k hr) (fun j hj _ => h.wT j hj) ?_ (h.ol k hk)
  · rw [List.mem_append, List.mem_singleton];constructor
    · rintro (c | c)
      · exact .inl ⟨c, fun e => h.noq hs (e ▸ c)⟩
      · exact .inr ⟨c, rfl⟩
    · rintro (c | c)
      · exact .inl c.1
      · exact .inr c.1
  · refine List.nodup_append.2 ⟨h.qnd, by simp, fun x hx y hy => ?_⟩;rw [List.mem_singleton.1 hy];exact fun e => h.noq hs (e ▸ hx)
  · dsimp only;rw [List.length_append, List.length_singleton];omega
  · by_cases e : j = k
    · rw [e]; exact hn
    · exact hi j hj e
  · have := h.rm;dsimp only;omega
theorem Inv.looked (h : A.Inv b) (hk : A.has k) (hs : (A.tx k).st = 1) {lo hi fr to : Nat} (h1 : lo ≤ hi) (h2 : hi ≤ A.size) (h3 : fr < 16 ∧ to < 16) (hh : Hold (A.tx k).locks lo hi false) : (A.done k ⟨false, lo, hi, fr, to, rns A.W lo hi⟩).Inv (b + 1) := by
  have hr := h.run hk hs;have hnt : ∀ i, tch ((A.tx k).ops ++ [⟨false, lo, hi, fr, to, rns A.W lo hi⟩]) i → tch (A.tx k).ops i := fun i ht => by
    rcases tch.app.1 ht with c | ⟨o, ho, c, _⟩
    · exact c
    · rw [List.mem_singleton.1 ho] at c; cases c
  refine h.upd (t := { A.tx k with ops := (A.tx k).ops ++ [⟨false, lo, hi, fr, to, rns A.W lo hi⟩] }) (q' := A.q) (W' := A.W) hr (.inl hs) (h.q1 hs hs) h.qnd (Nat.le_succ _) (h.lk k hk) (fun c => ?_) ?_ (fun j hj _ x hx y hy => h.fr j hj k hr x hx y hy) (fun o ho => ?_) ?_ (fun i hi hn => h.wU i fun j hj => ?_) (fun i ht => ?_) (fun j hj _ => h.wT j hj) ?_ ?_
  · dsimp only at c; omega
  · have := h.cnt;dsimp only;omega
  · rcases List.mem_append.1 ho with ho | ho
    · exact h.held k hr o ho
    · rw [List.mem_singleton.1 ho];exact hh
  · exact (h.rep k hr).snoc ⟨⟨h1, h2⟩, h3, fun _ => rns_congr h1 fun i a1 a2 => h.view' hr hh a1 a2, fun c => (by cases c), fun c => (by cases c)⟩
  · by_cases e : j = k
    · rw [e];exact fun c => hn (tch.app.2 (.inl c))
    · exact hi j hj e
  · have := hnt i ht;rw [h.wT k hr i this];dsimp only;rw [ap_snoc];rfl
  · have := h.rm;dsimp only;rw [mvs_app];show _ + 2 * (_ + (_ + 0)) ≤ _;omega
  · have := h.ol k hk;dsimp only;rw [List.length_append];simp;omega
theorem Inv.room (hr : A.room ≠ 0) : KL.nbd A.C A.size + 2 * A.moves + 2 ≤ 4096 := by
  unfold Bk.room at hr;omega
theorem Inv.moved (h : A.Inv b) (hk : A.has k) (hs : (A.tx k).st = 1) {lo hi fr to : Nat} (h1 : lo ≤ hi) (h2 : hi ≤ A.size) (h3 : fr < 16 ∧ to < 16) (hh : Hold (A.tx k).locks lo hi true) (ha : A.allT lo hi fr) (hro : A.room ≠ 0) : (({ A with W := setf A.W lo hi to } : Bk).done k ⟨true, lo, hi, fr, to, []⟩).Inv (b + 1) := by
  have hr := h.run hk hs;have hin : ∀ i, lo ≤ i → i < hi → tch ((A.tx k).ops ++ [⟨true, lo, hi, fr, to, []⟩]) i := fun i a1 a2 => tch.app.2 (.inr ⟨_, List.mem_singleton.2 rfl, rfl, a1, a2⟩);refine h.upd (t := { A.tx k with ops := (A.tx k).ops ++ [⟨true, lo, hi, fr, to, []⟩] }) (q' := A.q) (W' := setf A.W lo hi to) hr (.inl hs) (h.q1 hs hs) h.qnd (Nat.le_succ _) (h.lk k hk) (fun c => ?_) ?_ (fun j hj _ x hx y hy => h.fr j hj k hr x hx y hy) (fun o ho => ?_) ?_ (fun i hi hn => ?_) (fun i ht => ?_) (fun j hj e i ht => ?_) ?_ ?_
  · dsimp only at c; omega
  · have := h.cnt;dsimp only;omega
  · rcases List.mem_append.1 ho with ho | ho
    · exact h.held k hr o ho
    · rw [List.mem_singleton.1 ho];exact hh
  · exact (h.rep k hr).snoc ⟨⟨h1, h2⟩, h3, fun c => (by cases c), fun _ i a1 a2 => (h.view' hr hh a1 a2).symm.trans (ha i a1 a2), fun _ => rfl⟩
  · rw [setf_out fun c => hn (hin i c.1 c.2)];refine h.wU i fun j hj => ?_;by_cases e : j = k
    · rw [e];exact fun c => hn (tch.app.2 (.inl c))
    · exact hi j hj e
  · dsimp only at ht ⊢;rw [ap_snoc];by_cases c : lo ≤ i ∧ i < hi
    · rw [setf_in c, stp_in (o := ⟨true, lo, hi, fr, to, []⟩) ⟨rfl, c⟩]
    · rw [setf_out c, stp_out (o := ⟨true, lo, hi, fr, to, []⟩) fun d => c d.2];refine h.wT k hr i ?_;rcases tch.app.1 ht with d | ⟨o, ho, _, d⟩
      · exact d
      · rw [List.mem_singleton.1 ho] at d;exact absurd d c
  · rw [setf_out fun c => ?_]
    · exact h.wT j hj i ht
    · obtain ⟨x, hx, _, h5⟩ := hh i c.1 c.2;exact h.apart hj hr e ht hx h5
  · have := Inv.room hro;dsimp only;rw [mvs_app];show _ + 2 * (_ + (_ + 1)) ≤ _;omega
  · have := h.ol k hk;dsimp only;rw [List.length_append];simp;omega
end
end Bk
end Go.KL
end

section
/- All calls keep what always holds (end); what the walks ask; plain. No program in sight. -/
namespace Go.KL
open Relation
namespace Bk
variable {A : Bk} {b : Nat}
structure Ok (A : Bk) (b : Nat) : Prop where
  inv : A.Inv b
  blk : A.Blk
  ac : A.Ac
theorem Ok.mono (h : A.Ok b) {c : Nat} (hc : b ≤ c) : A.Ok c := ⟨h.inv.mono hc, h.blk, h.ac⟩
theorem fin_tx {j : Nat} (h : A.Inv b) (hj : A.has j) : (A.fin.tx j = A.tx j ∧ (j ∈ A.q → j ∈ A.fin.q)) ∨ (j ∈ A.q ∧ j ∉ A.fin.q ∧ A.fin.tx j = ⟨1, (A.tx j).locks ++ [(A.tx j).req], Lk.zero, (A.tx j).ops⟩) :=
  gr_tx A.q A [] h.qnd (fun _ hk => h.qhas hk) hj
theorem fin_same : A.fin.size = A.size ∧ A.fin.C = A.C ∧ A.fin.W = A.W ∧ A.fin.log = A.log ∧ A.fin.ts.length = A.ts.length := gr_same A.q A []
section
variable {k : Nat}
theorem abort_same (hk : A.has k) : (A.abort k).size = A.size ∧ (A.abort k).C = A.C ∧ (A.abort k).log = A.log ∧ (A.abort k).ts.length = A.ts.length := by
  rw [abort_eq hk];obtain ⟨h1, h2, _, h4, h5⟩ := fin_same (A := A.ended k 4 Lk.zero A.C (KL.un A.W (A.tx k).ops) A.log);exact ⟨h1, h2, h4, h5.trans (by simp [ended])⟩
theorem abort_me (h : A.Inv b) (hk : A.has k) : (A.abort k).tx k = ⟨4, [], Lk.zero, []⟩ := by
  rw [abort_eq hk];have e := ended_tx (s := 4) (r := Lk.zero) (C := A.C) (W := KL.un A.W (A.tx k).ops) (lg := A.log) hk hk;rw [if_pos rfl] at e;rcases fin_tx (h.ab hk) (ended_has.2 hk) with ⟨h1, _⟩ | ⟨h1, _⟩
  · rw [h1, e]
  · exact absurd rfl (mem_ne.1 h1).2
theorem abort_tx {j : Nat} (h : A.Inv b) (hk : A.has k) (hj : A.has j) (hne : j ≠ k) : ((A.abort k).tx j = A.tx j ∧ (j ∈ A.q → j ∈ (A.abort k).q)) ∨ (j ∈ A.q ∧ j ∉ (A.abort k).q ∧ (A.abort k).tx j = ⟨1, (A.tx j).locks ++ [(A.tx j).req], Lk.zero, (A.tx j).ops⟩) := by
  rw [abort_eq hk];have e := ended_ne (s := 4) (r := Lk.zero) (C := A.C) (W := KL.un A.W (A.tx k).ops) (lg := A.log) hk hj hne;rcases fin_tx (h.ab hk) (ended_has.2 hj) with ⟨h1, h2⟩ | ⟨h1, h2, h3⟩
  · exact .inl ⟨h1.trans e, fun c => h2 (mem_ne.2 ⟨c, hne⟩)⟩
  · rw [e] at h3;exact .inr ⟨(mem_ne.1 h1).1, h2, h3⟩
structure Rs (A0 : Bk) (b k : Nat) (l : Lk) (A : Bk) : Prop where
  inv : A.Inv b
  blk : A.Blk
  w : A.AcW k
  hk : A.has k
  sm : A.size = A0.size ∧ A.C = A0.C ∧ A.log = A0.log ∧ A.ts.length = A0.ts.length
  me : ((A.tx k).st = 2 ∧ (A.tx k).req = l ∧ (A.tx k).locks = (A0.tx k).locks ∧ (A.tx k).ops = (A0.tx k).ops) ∨ ((A.tx k).st = 1 ∧ (A.tx k).locks = (A0.tx k).locks ++ [l] ∧ (A.tx k).ops = (A0.tx k).ops) ∨ (A.tx k).st = 4
theorem Rs.abort {A0 : Bk} {l : Lk} {v : Nat} (h : Rs A0 b k l A) (hs : (A.tx k).st = 2) (hv : A.has v) : Rs A0 b k l (A.abort v) := by
  obtain ⟨s1, s2, s3, s4⟩ := h.sm;obtain ⟨t1, t2, t3, t4⟩ := abort_same hv;have hi := h.inv.abort hv;refine ⟨hi, ?_, h.w.sub hi (fun i c => (abort_has hv).1 c) fun i j hi he => abort_edge h.inv hv hi he, (abort_has hv).2 h.hk, ⟨t1.trans s1, t2.trans s2, t3.trans s3, t4.trans s4⟩, ?_⟩
  · rw [abort_eq hv];exact fin_blk (h.inv.ab hv)
  · by_cases e : k = v
    · subst e;rw [abort_me h.inv hv];exact .inr (.inr rfl)
    · obtain ⟨_, m2, m3, m4⟩ : (A.tx k).st = 2 ∧ (A.tx k).req = l ∧ (A.tx k).locks = (A0.tx k).locks ∧ (A.tx k).ops = (A0.tx k).ops := by
        rcases h.me with c | c | c
        · exact c
        · omega
        · omega
      rcases abort_tx h.inv hv h.hk e with ⟨h1, _⟩ | ⟨_, _, h1⟩
      · rw [h1]; exact .inl ⟨hs, m2, m3, m4⟩
      · rw [h1, m2, m3, m4];exact .inr (.inl ⟨rfl, rfl, rfl⟩)
theorem IsVic.has (h : A.Inv b) {v : Nat} (hv : A.IsVic k v) (h0 : v ≠ 0) : A.has v := by
  rcases hv with ⟨c, _⟩ | ⟨_, ⟨c, _⟩, _⟩
  · exact absurd c h0
  · rcases R.sub c with c | c
    · exact h.has c
    · exact h.qhas c
theorem before_app {q : List Nat} {i j : Nat} (h : i ∈ q) : (q ++ [j]).takeWhile (fun x => !decide (x = i)) = q.takeWhile (fun x => !decide (x = i)) := tw_in h
theorem wait_tx {l : Lk} {j : Nat} (hk : A.has k) (hj : A.has j) : (A.wait k l).tx j = if j = k then ⟨2, (A.tx k).locks, l, (A.tx k).ops⟩ else A.tx j := tx_set (t := ⟨2, (A.tx k).locks, l, (A.tx k).ops⟩) hk hj
theorem wait_has {l : Lk} {j : Nat} : (A.wait k l).has j ↔ A.has j := has_set (t := ⟨2, (A.tx k).locks, l, (A.tx k).ops⟩)
theorem Ok.rs (h : A.Ok b) (hk : A.has k) (hs : (A.tx k).st = 1) {lo hi : Nat} {wr : Bool} (h1 : lo < hi) (h2 : hi ≤ A.size) (hc : A.count < 1024) (hf : A.free ⟨k, lo, hi, wr⟩ A.q = false) : Rs A b k ⟨k, lo, hi, wr⟩ (A.wait k ⟨k, lo, hi, wr⟩) := by
  have hi' := h.inv.wait hk hs (wr := wr) h1 h2 hc;have hlk : ∀ m ∈ A.rn, m ∈ (A.wait k ⟨k, lo, hi, wr⟩).rn ∧ ∀ y ∈ (A.tx m).locks, y ∈ ((A.wait k ⟨k, lo, hi, wr⟩).tx m).locks := fun m hm => ⟨hm, fun y hy => by
    rw [wait_tx hk (h.inv.has hm)];split
    · rename_i e; rw [e] at hy; exact hy
    · exact hy⟩
  have hrq : ∀ m ∈ A.q, (A.wait k ⟨k, lo, hi, wr⟩).tx m = A.tx m := fun m hm => by
    rw [wait_tx hk (h.inv.qhas hm), if_neg (show m ≠ k from fun e => h.inv.noq hs (e ▸ hm))]
  refine ⟨hi', BlkF.snoc.2 ⟨?_, ?_⟩, fun j hj hcy => ?_, wait_has.2 hk, ⟨rfl, rfl, rfl, by simp [Bk.wait, Bk.setT]⟩, ?_⟩
  · exact BlkF.mono (A := A) (B := A.wait k ⟨k, lo, hi, wr⟩) hlk h.blk fun m hm => by rw [hrq m hm]
  · rw [wait_tx hk hk, if_pos rfl];exact free_mono hf hlk fun m hm => by rw [hrq m hm]
  · refine h.ac j (wait_has.1 hj) (trans_sub (H := A.has) (fun _ _ c => wait_has.1 (E_has hi' c.1)) (fun i m hi c => ?_) (wait_has.1 hj) hcy).1;obtain ⟨c1, c2⟩ := c;obtain ⟨c3, c4⟩ := E_iff.1 c1;rw [wait_tx hk hi, if_neg c2] at c3 c4;have hiq : i ∈ A.q := (h.inv.q i).2 ⟨hi, c3⟩;refine E_iff.2 ⟨c3, ?_⟩;rcases c4 with ⟨hm, x, hx, hcf⟩ | ⟨hm, hcf⟩
    · refine .inl ⟨hm, x, ?_, hcf⟩;rw [wait_tx hk (h.inv.has hm)] at hx;split at hx
      · rename_i e; rw [e]; exact hx
      · exact hx
    · have hm2 : m ∈ (A.q ++ [k]).takeWhile (fun x => !decide (x = i)) := hm;rw [before_app hiq] at hm2;rw [hrq m ((List.takeWhile_sublist _).subset hm2)] at hcf;exact .inr ⟨hm2, hcf⟩
  · rw [wait_tx hk hk, if_pos rfl];exact .inl ⟨rfl, rfl, rfl, rfl⟩
structure Got (A : Bk) (b k lo hi : Nat) (wr : Bool) (B : Bk) (e : Nat) : Prop where
  ok : B.Ok b
  hk : B.has k
  sm : B.size = A.size ∧ B.C = A.C ∧ B.log = A.log ∧ B.ts.length = A.ts.length
  z : e = 0 → (B.tx k).st = 1 ∧ Hold (B.tx k).locks lo hi wr ∧ (B.tx k).ops = (A.tx k).ops
theorem Rs.res {A0 B : Bk} {lo hi e : Nat} {wr : Bool} (hr : Res k A B e) : Rs A0 b k ⟨k, lo, hi, wr⟩ A → Got A0 b k lo hi wr B e := by
  induction hr with
  | @free A hs =>
    intro h;refine ⟨⟨h.inv, h.blk, h.w.ac' (by omega)⟩, h.hk, h.sm, fun _ => ⟨hs, ?_⟩⟩;rcases h.me with c | ⟨_, c2, c3⟩ | c
    · omega
    · rw [c2, c3];exact ⟨Hold.last, rfl⟩
    · omega
  | @gone A hs =>
    intro h;exact ⟨⟨h.inv, h.blk, h.w.ac' (by omega)⟩, h.hk, h.sm, fun c => by cases c⟩
  | @wait A hs hv =>
    intro h;refine ⟨⟨h.inv, h.blk, h.w.ac fun c => ?_⟩, h.hk, h.sm, fun c => by cases c⟩;rcases hv with ⟨_, hv⟩ | ⟨h0, _⟩
    · exact hv k ⟨R_iff.2 c, R_iff.2 c⟩
    · exact absurd rfl h0
  | @next A B v e hs hv h0 _ ih =>
    intro h;exact ih (h.abort hs (hv.has h.inv h0))
theorem Ok.obt (h : A.Ok b) (hk : A.has k) (hs : (A.tx k).st = 1) {lo hi e : Nat} {wr : Bool} {B : Bk} (h2 : hi ≤ A.size) (ho : A.Obt k lo hi wr B e) : Got A b k lo hi wr B e := by
  cases ho with
  | has hh => exact ⟨h, hk, ⟨rfl, rfl, rfl, rfl⟩, fun _ => ⟨hs, hh, rfl⟩⟩
  | full _ _ => exact ⟨h, hk, ⟨rfl, rfl, rfl, rfl⟩, fun c => by cases c⟩
  | got hn hc hf =>
    have hi' := h.inv.got hk hs (Hold.ne hn) h2 hc hf;change Got A b k lo hi wr (A.setT k ⟨(A.tx k).st, (A.tx k).locks ++ [⟨k, lo, hi, wr⟩], (A.tx k).req, (A.tx k).ops⟩) 0;change (A.setT k ⟨(A.tx k).st, (A.tx k).locks ++ [⟨k, lo, hi, wr⟩], (A.tx k).req, (A.tx k).ops⟩).Inv b at hi';obtain ⟨D, hD⟩ : ∃ D, D = A.setT k ⟨(A.tx k).st, (A.tx k).locks ++ [⟨k, lo, hi, wr⟩], (A.tx k).req, (A.tx k).ops⟩ := ⟨_, rfl⟩;have hx : ∀ {j}, A.has j → D.tx j = if j = k then ⟨(A.tx k).st, (A.tx k).locks ++ [⟨k, lo, hi, wr⟩], (A.tx k).req, (A.tx k).ops⟩ else A.tx j := fun hj => by rw [hD]; exact tx_set hk hj
    have hH : ∀ {j}, D.has j ↔ A.has j := by rw [hD]; exact has_set
    have hDq : D.q = A.q := by rw [hD]; rfl
    have hDr : D.rn = A.rn := by rw [hD]; rfl
    have hDs : D.size = A.size ∧ D.C = A.C ∧ D.log = A.log ∧ D.ts.length = A.ts.length := by rw [hD]; exact ⟨rfl, rfl, rfl, by simp [Bk.setT]⟩
    rw [← hD] at hi' ⊢;have hq : ∀ m ∈ A.q, D.tx m = A.tx m := fun m hm => by
      rw [hx (h.inv.qhas hm), if_neg (show m ≠ k from fun e => h.inv.noq hs (e ▸ hm))]
    obtain ⟨_, f2⟩ := free_iff.1 hf;refine ⟨⟨hi', ?_, h.ac.sub hi' (fun i c => hH.1 c) fun i j hi he => ?_⟩, hH.2 hk, hDs, fun _ => ?_⟩
    · unfold Blk;rw [hDq];refine BlkF.mono (A := A) (B := D) (fun m hm => ⟨by rw [hDr]; exact hm, fun y hy => ?_⟩) h.blk fun m hm => by rw [hq m hm]
      rw [hx (h.inv.has hm)];split
      · rename_i e; rw [e] at hy; exact List.mem_append_left _ hy
      · exact hy
    · obtain ⟨c3, c4⟩ := E_iff.1 he;have hik : i ≠ k := fun e => by
        rw [e, hx hk, if_pos rfl] at c3;dsimp only at c3;omega
      rw [hDr, hDq] at c4;rw [hx hi, if_neg hik] at c3 c4;have hiq : i ∈ A.q := (h.inv.q i).2 ⟨hi, c3⟩;refine E_iff.2 ⟨c3, ?_⟩;rcases c4 with ⟨hm, x, hxx, hcf⟩ | ⟨hm, hcf⟩
      · rw [hx (h.inv.has hm)] at hxx;split at hxx
        · rename_i e;rcases List.mem_append.1 hxx with hxx | hxx
          · exact .inl ⟨hm, x, by rw [e]; exact hxx, hcf⟩
          · rw [List.mem_singleton.1 hxx, cfl_comm, f2 i hiq] at hcf;cases hcf
        · exact .inl ⟨hm, x, hxx, hcf⟩
      · rw [hq j ((List.takeWhile_sublist _).subset hm)] at hcf;exact .inr ⟨hm, hcf⟩
    · rw [hx hk, if_pos rfl];exact ⟨hs, Hold.last, rfl⟩
  | res hn hc hf hr => exact (h.rs hk hs (Hold.ne hn) h2 hc hf).res hr
theorem Ok.ops (h : A.Ok b) (hk : A.has k) {o : Oa} {W : Nat → Nat} (hI : (({ A with W := W } : Bk).done k o).Inv (b + 1)) : (({ A with W := W } : Bk).done k o).Ok (b + 1) := by
  have hx : ∀ {j}, A.has j → (({ A with W := W } : Bk).done k o).tx j = if j = k then { A.tx k with ops := (A.tx k).ops ++ [o] } else A.tx j := fun hj => tx_set (t := { A.tx k with ops := (A.tx k).ops ++ [o] }) hk hj;have hl : ∀ {j}, A.has j → ((({ A with W := W } : Bk).done k o).tx j).locks = (A.tx j).locks ∧ ((({ A with W := W } : Bk).done k o).tx j).req = (A.tx j).req ∧ ((({ A with W := W } : Bk).done k o).tx j).st = (A.tx j).st := fun {j} hj => by
    rw [hx hj];split
    · rename_i e; rw [e]; exact ⟨rfl, rfl, rfl⟩
    · exact ⟨rfl, rfl, rfl⟩
  refine ⟨hI, ?_, h.ac.sub hI (fun i c => has_set.1 c) fun i j hi he => ?_⟩
  · exact BlkF.mono (A := A) (B := ({ A with W := W } : Bk).done k o) (fun m hm => ⟨hm, fun y hy => by rw [(hl (h.inv.has hm)).1]; exact hy⟩) h.blk fun m hm => (hl (h.inv.qhas hm)).2.1
  · obtain ⟨c3, c4⟩ := E_iff.1 he;obtain ⟨_, e2, e3⟩ := hl hi;rw [e3] at c3;rw [e2] at c4;refine E_iff.2 ⟨c3, ?_⟩;rcases c4 with ⟨hm, x, hxx, hcf⟩ | ⟨hm, hcf⟩
    · rw [(hl (h.inv.has hm)).1] at hxx;exact .inl ⟨hm, x, hxx, hcf⟩
    · rw [(hl (h.inv.qhas ((List.takeWhile_sublist _).subset hm))).2.1] at hcf;exact .inr ⟨hm, hcf⟩
theorem Ok.looked (h : A.Ok b) (hk : A.has k) (hs : (A.tx k).st = 1) {lo hi fr to : Nat} (h1 : lo ≤ hi) (h2 : hi ≤ A.size) (h3 : fr < 16 ∧ to < 16) (hh : Hold (A.tx k).locks lo hi false) : (A.done k ⟨false, lo, hi, fr, to, rns A.W lo hi⟩).Ok (b + 1) := h.ops (W := A.W) hk (h.inv.looked hk hs h1 h2 h3 hh)
theorem Ok.moved (h : A.Ok b) (hk : A.has k) (hs : (A.tx k).st = 1) {lo hi fr to : Nat} (h1 : lo ≤ hi) (h2 : hi ≤ A.size) (h3 : fr < 16 ∧ to < 16) (hh : Hold (A.tx k).locks lo hi true) (ha : A.allT lo hi fr) (hro : A.room ≠ 0) : (({ A with W := setf A.W lo hi to } : Bk).done k ⟨true, lo, hi, fr, to, []⟩).Ok (b + 1) := h.ops hk (h.inv.moved hk hs h1 h2 h3 hh ha hro)
theorem Ok.perf (h : A.Ok b) {tx lo hi fr to : Int} {mv : Bool} {B : Bk} {e : Nat} {rs : List Rn} (hp : A.Perf tx mv lo hi fr to B e rs) : B.Ok (b + 1) ∧ B.size = A.size ∧ B.C = A.C ∧ B.log = A.log ∧ B.ts.length = A.ts.length := by
  cases hp with
  | none _ => exact ⟨h.mono (Nat.le_succ _), rfl, rfl, rfl, rfl⟩
  | aborted _ _ _ => exact ⟨h.mono (Nat.le_succ _), rfl, rfl, rfl, rfl⟩
  | committed _ _ _ => exact ⟨h.mono (Nat.le_succ _), rfl, rfl, rfl, rfl⟩
  | waiting _ _ _ => exact ⟨h.mono (Nat.le_succ _), rfl, rfl, rfl, rfl⟩
  | range _ _ _ _ => exact ⟨h.mono (Nat.le_succ _), rfl, rfl, rfl, rfl⟩
  | arg _ _ _ _ _ => exact ⟨h.mono (Nat.le_succ _), rfl, rfl, rfl, rfl⟩
  | no _ hh hs _ _ _ _ hr _ ho _ =>
    have g := h.obt hh hs hr.2 ho;exact ⟨g.ok.mono (Nat.le_succ _), g.sm⟩
  | look _ hh hs _ _ _ _ hr ha ho hmv =>
    have g := h.obt hh hs hr.2 ho;obtain ⟨g1, g2, _⟩ := g.z rfl;obtain ⟨s1, s2, s3, s4⟩ := g.sm;subst hmv;refine ⟨g.ok.looked g.hk g1 hr.1 (by rw [s1]; exact hr.2) ha g2, s1, s2, s3, ?_⟩;rw [← s4];simp [Bk.done, Bk.setT]
  | move _ hh hs _ _ _ _ hr ha ho hmv hd =>
    have g := h.obt hh hs hr.2 ho;obtain ⟨g1, g2, _⟩ := g.z rfl;obtain ⟨s1, s2, s3, s4⟩ := g.sm;subst hmv;rcases hd with ⟨_, rfl, _⟩ | ⟨_, _, rfl, _⟩ | ⟨ha1, hro, rfl, _⟩
    · exact ⟨g.ok.mono (Nat.le_succ _), g.sm⟩
    · exact ⟨g.ok.mono (Nat.le_succ _), g.sm⟩
    · refine ⟨g.ok.moved g.hk g1 hr.1 (by rw [s1]; exact hr.2) ha g2 ha1 hro, s1, s2, s3, ?_⟩;rw [← s4];simp [Bk.done, Bk.setT]
theorem Ok.pre (h : A.Ok b) (hb : b < 100000) {tx lo hi : Int} {mv : Bool} : A.Pre tx lo hi mv := by
  refine ⟨h.inv.good hb, h.inv.st, fun k l m _ _ _ hk hs h1 h2 => ⟨⟨fun D => Rs A b k ⟨k, l, m, mv⟩ D, fun D hD => hD.inv.good hb, fun D v hD hs2 hv h0 => hD.abort hs2 (hv.has hD.inv h0), fun hn hc hf => h.rs hk hs (Hold.ne hn) h2 hc hf, fun D hD => ?_⟩, fun B hB => ?_⟩⟩
  · rcases hD.me with c | c | c
    · exact .inr (.inl c.1)
    · exact .inl c.1
    · exact .inr (.inr c)
  · have g := h.obt hk hs h2 hB;have gi := g.ok.inv;refine ⟨g.sm.1, gi.good hb, Nat.le_trans gi.nbdW gi.rm, gi.rm, fun hro to => ?_⟩;have h3 := nbd_set2 B.W l m to B.size;have h4 := gi.nbdW;have h5 := Inv.room hro;omega
theorem Ok.abort (h : A.Ok b) (hk : A.has k) : (A.abort k).Ok b := by
  have hi := h.inv.abort hk;refine ⟨hi, ?_, h.ac.sub hi (fun i c => (abort_has hk).1 c) fun i j hi he => abort_edge h.inv hk hi he⟩;rw [abort_eq hk];exact fin_blk (h.inv.ab hk)
theorem Ok.commit (h : A.Ok b) (hr : k ∈ A.rn) : (A.commit k).Ok b := by
  have hi := h.inv.commit hr;refine ⟨hi, ?_, h.ac.sub hi (fun i c => (commit_has (h.inv.has hr)).1 c) fun i j hi he => commit_edge h.inv hr hi he⟩;rw [commit_eq (h.inv.has hr)];exact fin_blk (h.inv.cm (h.inv.has hr) hr)
end
theorem begin_has {j : Nat} : A.begin.has j ↔ A.has j ∨ j = A.ts.length + 1 := by
  unfold Bk.has Bk.begin;simp;omega
theorem begin_tx {j : Nat} (hj : A.has j) : A.begin.tx j = A.tx j := by
  unfold Bk.has at hj;unfold Bk.tx Bk.begin;rw [List.getD_eq_getElem?_getD, List.getD_eq_getElem?_getD, List.getElem?_append_left (by omega)]
theorem begin_new : A.begin.tx (A.ts.length + 1) = Tx.new := by
  unfold Bk.tx Bk.begin;rw [List.getD_eq_getElem?_getD, List.getElem?_append_right (by omega)];simp
theorem Inv.begin (h : A.Inv b) (hl : A.rn.length < 64) : A.begin.Inv b := by
  have hno : ¬ A.has (A.ts.length + 1) := fun c => by unfold Bk.has at c; omega
  have hR : ∀ {j}, j ∈ A.begin.rn ↔ j ∈ A.rn ∨ j = A.ts.length + 1 := by
    intro j;show j ∈ A.rn ++ [A.ts.length + 1] ↔ _;simp
  have hnr : A.ts.length + 1 ∉ A.rn := fun c => hno (h.has c);have hnq : A.ts.length + 1 ∉ A.q := fun c => hno (h.qhas c);have hO : ∀ {j}, j ∈ A.begin.rn → (j ∈ A.rn ∧ A.begin.tx j = A.tx j) ∨ (j = A.ts.length + 1 ∧ A.begin.tx j = Tx.new) := fun hj => by
    rcases hR.1 hj with c | c
    · exact .inl ⟨c, begin_tx (h.has c)⟩
    · exact .inr ⟨c, by rw [c]; exact begin_new⟩
  have hs : ∀ f : Tx → Nat, (A.begin.rn.map fun k => f (A.begin.tx k)).sum = (A.rn.map fun k => f (A.tx k)).sum + f Tx.new := fun f => by
    show ((A.rn ++ [A.ts.length + 1]).map _).sum = _;rw [List.map_append, List.sum_append_nat, sum_congr (g := fun k => f (A.tx k)) fun j hj => by rw [begin_tx (h.has hj)]];simp [begin_new]
  refine { sz := h.sz, rn := fun j => ?_, rnd := ?_, rnl := ?_, q := fun j => ?_, qnd := h.qnd, st := fun j hj => ?_, off := fun j hj hn => ?_, lk := fun j hj x hx => ?_, rq := fun j hj => ?_, cnt := ?_, fr := fun i hi j hj x hx y hy => ?_, held := fun j hj o ho => ?_, rep := fun j hj => ?_, wU := fun i hi => ?_, wT := fun j hj i ht => ?_, rm := ?_, ol := fun j hj => ?_ }
  · rw [hR, begin_has];by_cases e : j = A.ts.length + 1
    · subst e;rw [begin_new];simp [Tx.new]
    · rw [or_iff_left e, or_iff_left e, h.rn j];exact and_congr_right fun hj => by rw [begin_tx hj]
  · refine List.nodup_append.2 ⟨h.rnd, by simp, fun x hx y hy => ?_⟩;rw [List.mem_singleton.1 hy];exact fun e => hnr (e ▸ hx)
  · show (A.rn ++ [_]).length ≤ 64;rw [List.length_append];simp;omega
  · show j ∈ A.q ↔ _;rw [begin_has];by_cases e : j = A.ts.length + 1
    · subst e;rw [begin_new];simp [Tx.new, hnq]
    · rw [or_iff_left e, h.q j];exact and_congr_right fun hj => by rw [begin_tx hj]
  · rcases begin_has.1 hj with c | c
    · rw [begin_tx c]; exact h.st j c
    · rw [c, begin_new]; exact .inl rfl
  · rcases begin_has.1 hj with c | c
    · rw [begin_tx c];exact h.off j c fun d => hn (hR.2 (.inl d))
    · rw [c, begin_new]; exact ⟨rfl, rfl⟩
  · rcases begin_has.1 hj with c | c
    · rw [begin_tx c] at hx;exact h.lk j c x hx
    · rw [c, begin_new] at hx;simp [Tx.new] at hx
  · rw [begin_tx (h.qhas hj)];exact h.rq j hj
  · have h1 := hs fun t => t.locks.length;have h2 := h.cnt;unfold Bk.count at h2 ⊢;rw [h1];show _ + 0 + A.q.length ≤ 1024;omega
  · rcases hO hi with ⟨a1, a2⟩ | ⟨_, a2⟩
    · rcases hO hj with ⟨b1, b2⟩ | ⟨_, b2⟩
      · rw [a2] at hx;rw [b2] at hy;exact h.fr i a1 j b1 x hx y hy
      · rw [b2] at hy;simp [Tx.new] at hy
    · rw [a2] at hx;simp [Tx.new] at hx
  · rcases hO hj with ⟨a1, a2⟩ | ⟨_, a2⟩
    · rw [a2] at ho ⊢;exact h.held j a1 o ho
    · rw [a2] at ho;simp [Tx.new] at ho
  · rcases hO hj with ⟨a1, a2⟩ | ⟨_, a2⟩
    · rw [a2]; exact h.rep j a1
    · rw [a2]; exact trivial
  · refine h.wU i fun j hj ht => hi j (hR.2 (.inl hj)) ?_;rw [begin_tx (h.has hj)];exact ht
  · rcases hO hj with ⟨a1, a2⟩ | ⟨_, a2⟩
    · rw [a2] at ht ⊢;exact h.wT j a1 i ht
    · rw [a2] at ht;exact absurd ht tch.nil
  · have h1 := hs fun t => mvs t.ops;have h2 := h.rm;unfold Bk.moves at h2 ⊢;rw [h1];show KL.nbd A.C A.size + 2 * (_ + 0) ≤ 4096;exact h2
  · rcases begin_has.1 hj with c | c
    · rw [begin_tx c]; exact h.ol j c
    · rw [c, begin_new]; exact Nat.zero_le _
theorem Ok.begin (h : A.Ok b) (hl : A.rn.length < 64) : A.begin.Ok b := by
  have hi := h.inv.begin hl;have hno : ¬ A.has (A.ts.length + 1) := fun c => by unfold Bk.has at c; omega
  refine ⟨hi, ?_, fun k hk hc => ?_⟩
  · refine BlkF.mono (A := A) (B := A.begin) (fun m hm => ⟨List.mem_append_left _ hm, fun y hy => ?_⟩) h.blk fun m hm => ?_
    · rw [begin_tx (h.inv.has hm)]; exact hy
    · have hm' : m ∈ A.q := hm;rw [begin_tx (h.inv.qhas hm')]
  · have he : ∀ i j, A.begin.has i → A.begin.E i j → A.has i ∧ A.has j ∧ A.E i j := fun i j hi' he => by
      obtain ⟨c1, c2⟩ := E_iff.1 he;have hia : A.has i := by
        rcases begin_has.1 hi' with c | c
        · exact c
        · rw [c, begin_new] at c1;cases c1
      rw [begin_tx hia] at c1 c2;rcases c2 with ⟨hm, x, hxx, hcf⟩ | ⟨hm, hcf⟩
      · rcases List.mem_append.1 (show j ∈ A.rn ++ [A.ts.length + 1] from hm) with c | c
        · rw [begin_tx (h.inv.has c)] at hxx;exact ⟨hia, h.inv.has c, E_iff.2 ⟨c1, .inl ⟨c, x, hxx, hcf⟩⟩⟩
        · rw [List.mem_singleton.1 c, begin_new] at hxx;simp [Tx.new] at hxx
      · have hmq : j ∈ A.q := (List.takeWhile_sublist _).subset hm;rw [begin_tx (h.inv.qhas hmq)] at hcf;exact ⟨hia, h.inv.qhas hmq, E_iff.2 ⟨c1, .inr ⟨hm, hcf⟩⟩⟩
    have hka : A.has k := by
      have : ∀ {i j}, TransGen A.begin.E i j → A.begin.has i → A.has i := fun c hi => by
        induction c with
        | single c => exact (he _ _ hi c).1
        | tail _ _ ih => exact ih
      exact this hc hk
    exact h.ac k hka (trans_sub (H := A.begin.has) (fun _ _ c => E_has hi c) (fun i j hi c => (he i j hi c).2.2) hk hc).1
theorem fresh_ok {n : Nat} {f : Nat → Nat} (h1 : 0 < n ∧ n ≤ 1099511627776) (h2 : KL.nbd f n ≤ 4096) : (fresh n f).Ok 0 := by
  have hno : ∀ k, ¬ (fresh n f).has k := fun k hk => by
    have h1 := hk.1;have h2 : k ≤ 0 := hk.2;omega
  refine ⟨{ sz := h1, rn := fun j => ⟨fun h => by simp [fresh] at h, fun h => absurd h.1 (hno j)⟩, rnd := List.nodup_nil, rnl := Nat.zero_le _, q := fun j => ⟨fun h => by simp [fresh] at h, fun h => absurd h.1 (hno j)⟩, qnd := List.nodup_nil, st := fun j hj => absurd hj (hno j), off := fun j hj => absurd hj (hno j), lk := fun j hj => absurd hj (hno j), rq := fun j hj => by simp [fresh] at hj, cnt := Nat.zero_le _, fr := fun j hj => by simp [fresh] at hj, held := fun j hj => by simp [fresh] at hj, rep := fun j hj => by simp [fresh] at hj, wU := fun _ _ => rfl, wT := fun j hj => by simp [fresh] at hj, rm := h2, ol := fun j hj => absurd hj (hno j) }, trivial, fun k hk => absurd hk (hno k)⟩
theorem Ok.abt (h : A.Ok b) {tx : Int} {B : Bk} {e : Nat} (ha : A.Abt tx B e) : B.Ok b := by
  rcases ha with ⟨_, rfl, _⟩ | ⟨k, _, hk, ⟨_, rfl, _⟩ | ⟨_, rfl, _⟩ | ⟨_, _, rfl, _⟩⟩
  · exact h
  · exact h
  · exact h
  · exact h.abort hk
theorem Ok.cmt (h : A.Ok b) {tx : Int} {B : Bk} {n e : Nat} (ha : A.Cmt tx B n e) : B.Ok b := by
  rcases ha with ⟨_, rfl, _⟩ | ⟨k, _, hk, ⟨_, rfl, _⟩ | ⟨_, rfl, _⟩ | ⟨_, rfl, _⟩ | ⟨c2, c3, c4, rfl, _⟩⟩
  · exact h
  · exact h
  · exact h
  · exact h
  · refine h.commit (h.inv.run hk ?_);have := h.inv.st k hk;omega
end Bk
end Go.KL
end

section
/- Walks: Queue, begun, call. -/
namespace Go.KL
open Go.Proofs Go.Proofs.Tryz
theorem K.dropMid {W w : World} {A : List Chunk} {d : Chunk} {N : List Chunk} (h : K W (A ++ (d :: N)) w) : K W (A ++ N) w := (K.bckN (A := A) (B := [d]) (N := N) h).tail
def Bk.reqs (A : Bk) : List Lk := A.q.map fun k => (A.tx k).req
attribute [local irreducible] SC St Fin Sq Ylds Doos Sets Enters Spec CellIs CellsAre Then Ret Rnd Chn resOK ints bools recs arr
section
variable {g : Bg} {W : World} {N : List Chunk}
theorem Queue_b (hB : g.OK) (hG : g.bk.Good) : Spec prog 39 #[.pointer (some ⟨g.b, 0, none⟩)] (K W (g.L ++ N)) (X := { x : Value × Chunk // BufR 111 4 x.1 x.2 (lks g.bk.reqs) }) (fun x => x.1.1) (fun x => K W (x.1.2 :: (g.L ++ N))) := by
  have hus := usable_spec (hB.bf (C := K W (g.L ++ N)) Hs.bk);obtain ⟨f0, f1, f2, f3, f4, f5, fq, fl, fea, fer⟩ := hB.bf (C := K W (g.L ++ N)) Hs.bk;have hql : (ptrs g g.q).length = g.q.length := List.length_map _;have hq64 : g.q.length ≤ 64 := hG.q;refine enter (args := [_]) func39 rfl ntmps39 rfl ?_;refine csr (sa ?_);refine snf (c_seq (csr (sm ?_)));refine sk call52 hus fun _ => ?_;refine sy (y_notT rfl) ?_;refine snf (c_condF rfl (c_skip (f_then (csr (sa ?_)))));refine snf (c_seq (csr (sm ?_)));refine sn ?_;refine sf 4 ?_;refine sl f4 ?_;refine sy (y_lenE tab rfl (fq) rfl) ?_;refine sm ?_;refine snf (c_block ?_);refine c_loopP (α := Nat × Value × Chunk) (fun z => [(0, .pointer (some ⟨g.b, 0, none⟩)), (3, z.2.1), (12, g.qv), (13, .int .i64 (ptrs g g.q).length), (14, .int .i64 (z.1 : Nat))]) (fun z => z.1 ≤ g.q.length ∧ BufR 111 4 z.2.1 z.2.2 (lks (g.bk.reqs.take z.1))) (fun z => K W (z.2.2 :: (g.L ++ N))) (fun z => g.q.length - z.1) (0, .slice none 0 0, [])
    ⟨rfl, rfl, rfl, rfl, rfl, trivial⟩ ⟨Nat.zero_le _, .nil⟩ (fun w h => h.addNil) ?_
  rintro ⟨i, u, d⟩ ⟨hi, hu⟩;dsimp only at hi hu ⊢;have fq' : EV (K W (d :: (g.L ++ N))) g.qv 1 (ptrs g g.q) := fq.cons;by_cases c1 : i < g.q.length
  · obtain ⟨k, hk⟩ : ∃ k, g.q[i]? = some k := ⟨g.q[i], by simp [c1]⟩;have hkm : k ∈ g.q := List.mem_of_getElem? hk;obtain ⟨t, htm, hti, hid, hpb, htx⟩ := hB.at (hB.qh k hkm);have ep : g.ptr k = .pointer (some ⟨t.b, 0, none⟩) := by rw [Bg.ptr, hpb]
    have hcell := fq'.cell (i := i) (x := .pointer (some ⟨t.b, 0, none⟩)) (by rw [← ep]; simp [hk]);have e3 := ((hB.tf (C := K W (g.L ++ N)) Hs.bk htm).c3).cons (c := d);have hll : (lks (g.bk.reqs.take i)).length ≤ 64 := by
      rw [List.length_map, List.length_take];omega
    refine csr (sy (y_T (y_lss rfl rfl) (by omega)) ?_);refine snf (c_seq (c_condT rfl (c_skip (f_then (c_seq (c_block (csr (sy (y_ixE tab rfl rfl rfl rfl (fq') _ rfl (by omega)) ?_))))))));refine sl hcell ?_;refine sa ?_;refine snf (c_region (sm ?_));refine sm ?_;refine sn ?_;refine sf 3 ?_;refine sy (y_loadA tab rfl rfl rfl rfl e3) ?_;refine s_do (do_buildSliceS tab ⟨rfl, rfl, rfl, rfl⟩ rfl rfl rfl rfl) rfl rfl rfl (fun b23 => ?_);refine s_do (do_appendR (by_ := 32) (news := lkc t.req) tab 1 rfl hu rfl ⟨rfl, rfl, rfl, rfl⟩ rfl (by simp) rfl (cells_row0 0 rfl rfl) rfl rfl (by omega) (by omega)) rfl rfl rfl (fun x => ?_);obtain ⟨⟨u', d'⟩, hu'⟩ := x;dsimp only at hu' ⊢;refine sa ?_;refine s_nil (f_blockN (f_then (c_region (sy (y_add rfl rfl (by omega)) ?_))));refine sm ?_;refine s_nil ?_;exact f_roundP (i + 1, u', d') ⟨c1, hu'.of (by rw [List.take_add_one, show g.bk.reqs[i]? = some t.req by rw [Bk.reqs, List.getElem?_map, show g.bk.q[i]? = some k from hk]; simp [htx, Tg.tx]]; simp)⟩ (by dsimp only; omega) ⟨rfl, rfl, rfl, rfl, rfl, trivial⟩ (fun w h => h.tail)
  · obtain rfl : i = g.q.length := by omega
    rw [List.take_of_length_le (show g.bk.reqs.length ≤ g.q.length by simp [Bk.reqs, Bg.bk])] at hu;refine csr (sy (y_F (y_lss rfl rfl) (by omega)) ?_);refine snf (c_seq (c_condF rfl (c_exit (f_thenE (f_rndE (f_blockE (f_then (csr (sm ?_)))))))));refine sa ?_;refine snf (c_ret ?_);exact f_ret ⟨(u, d), hu⟩ (res1 rfl rfl) (fun w h => h)
theorem begun_spec {most : Nat} (hB : g.OK) (hm : most < 1000000) (hS : ∀ k, g.bk.has k → (g.bk.tx k).st = 1 ∨ (g.bk.tx k).st = 2 ∨ (g.bk.tx k).st = 3 ∨ (g.bk.tx k).st = 4) : Spec prog 41 #[.pointer (some ⟨g.b, 0, none⟩), .int .i64 (most : Nat)] (K W (g.L ++ N)) (fun _ : Unit => .int .i64 (min most g.ts.length : Nat)) (fun _ => K W (g.L ++ N)) := by
  refine enter (args := [_, _]) func41 rfl ntmps41 rfl ?_;refine csr (sa ?_);refine snf (csr (sa ?_));refine snf (c_seq (c_block (c_loopP (α := Nat) (fun z => [(0, .pointer (some ⟨g.b, 0, none⟩)), (1, .int .i64 (most : Nat)), (5, .int .i64 (z : Nat))]) (fun z => z ≤ most ∧ z ≤ g.ts.length) (fun _ => K W (g.L ++ N)) (fun z => most - z) 0 ⟨rfl, rfl, rfl, trivial⟩ ⟨Nat.zero_le _, Nat.zero_le _⟩ (fun w h => h) ?_)));rintro i ⟨h1, h2⟩;by_cases c : i < most
  · have hs := State_b (W := W) (N := N) (tx := (i : Int) + 1) hB;by_cases c2 : i < g.ts.length
    · have e : g.bk.stI ((i : Int) + 1) = (g.bk.tx (i + 1)).st := by
        rw [Bk.stI, if_pos (by simp [Bg.bk]; omega)];rfl
      have h3 := hS (i + 1) ⟨by omega, by simp [Bg.bk]; omega⟩;rw [e] at hs;refine c_seq (csr (sm ?_));refine sm ?_;refine sy (y_T (y_lss rfl rfl) (by omega)) ?_;refine sm ?_;refine sm ?_;refine sm ?_;refine sy (y_add rfl rfl (by omega)) ?_;refine sk call38 hs fun _ => ?_;refine sy (y_T (y_neq rfl rfl) (by omega)) ?_;refine spT ?_;refine snf (c_condT rfl (c_skip (f_then (c_block (c_region (sm ?_))))));refine sy (y_add rfl rfl (by omega)) ?_;refine sa ?_;refine s_nil (f_blockN ?_);exact f_roundP (i + 1) ⟨by omega, by omega⟩ (by omega) ⟨rfl, rfl, rfl, trivial⟩ (fun w h => h)
    · have e : g.bk.stI ((i : Int) + 1) = 0 := by
        rw [Bk.stI, if_neg (by simp [Bg.bk]; omega)]
      rw [e] at hs;refine c_seq (csr (sm ?_));refine sm ?_;refine sy (y_T (y_lss rfl rfl) (by omega)) ?_;refine sm ?_;refine sm ?_;refine sm ?_;refine sy (y_add rfl rfl (by omega)) ?_;refine sk call38 hs fun _ => ?_;refine sy (y_F (y_neq rfl rfl) (by omega)) ?_;refine spT ?_;refine snf (c_condF rfl (c_exit (f_thenE (f_rndE (f_blockE (f_then (csr (sm ?_))))))));refine sa ?_;refine snf (c_ret ?_);exact f_ret () (res1 rfl (by rw [show i = min most g.ts.length by omega]; rfl)) (fun w h => h)
  · refine c_seq (csr (sm ?_));refine sm ?_;refine sy (y_F (y_lss rfl rfl) (by omega)) ?_;refine sm ?_
    iterate 5 refine s_skip rfl rfl rfl ?_
    refine spF ?_;refine snf (c_condF rfl (c_exit (f_thenE (f_rndE (f_blockE (f_then (csr (sm ?_))))))));refine sa ?_;refine snf (c_ret ?_);exact f_ret () (res1 rfl (by rw [show i = min most g.ts.length by omega]; rfl)) (fun w h => h)
def Bk.Cl (A : Bk) (f : Nat → Int) (B : Bk) : Prop :=
  (f 0 % 6 = 0 ∧ ((64 ≤ A.rn.length ∧ B = A) ∨ (A.rn.length < 64 ∧ B = A.begin))) ∨ ((f 0 % 6 = 1 ∨ f 0 % 6 = 2) ∧ ∃ e rs, A.Perf (f 1) false (f 2) (f 3) 0 0 B e rs) ∨ (f 0 % 6 = 3 ∧ ∃ e rs, A.Perf (f 1) true (f 2) (f 3) (f 4) (f 5) B e rs) ∨ (f 0 % 6 = 4 ∧ ∃ n e, A.Cmt (f 1) B n e) ∨ (f 0 % 6 = 5 ∧ ∃ e, A.Abt (f 1) B e)
theorem Bk.Ok.cl {A B : Bk} {b : Nat} {f : Nat → Int} (h : A.Ok b) (hc : A.Cl f B) : B.Ok (b + 1) := by
  rcases hc with ⟨_, ⟨_, rfl⟩ | ⟨h1, rfl⟩⟩ | ⟨_, e, rs, hp⟩ | ⟨_, e, rs, hp⟩ | ⟨_, n, e, hp⟩ | ⟨_, e, hp⟩
  · exact h.mono (Nat.le_succ _)
  · exact (h.begin h1).mono (Nat.le_succ _)
  · exact (h.perf hp).1
  · exact (h.perf hp).1
  · exact (h.cmt hp).mono (Nat.le_succ _)
  · exact (h.abt hp).mono (Nat.le_succ _)
theorem call_spec {b : Nat} {f : Nat → Int} (hB : g.OK) (hO : g.bk.Ok b) (hb : b < 100000) (htl : g.ts.length < 1000000) (hll : g.ls.length < 1000000) (hf : 0 ≤ f 0 ∧ f 0 < 256) :
    Spec prog 40 #[.pointer (some ⟨g.b, 0, none⟩), .agg #[.int .u8 (f 0), .int .i64 (f 1), .int .i64 (f 2), .int .i64 (f 3), .int .i64 (f 4), .int .i64 (f 5)]] (K W (g.L ++ N)) (X := { g' : Bg // g'.OK ∧ g.bk.Cl f g'.bk ∧ g'.b = g.b }) (fun _ => .tuple #[]) (fun x => K W (x.1.L ++ N)) := by
  refine enter (args := [_, _]) func40 rfl ntmps40 rfl ?_;refine csr (sbx fun b3 => ?_);refine snf (csr (sf0 ?_));refine slr 0 ?_;refine sy (y_remK rfl rfl (by omega)) ?_;by_cases c0 : f 0 % 6 = 0
  · have hp := Begin_b (W := W) (N := ([(b3, row 46 [.int .u8 (f 0), .int .i64 (f 1), .int .i64 (f 2), .int .i64 (f 3), .int .i64 (f 4), .int .i64 (f 5)])] :: N)) hB htl;refine snf (c_block (csr (sy (y_T (y_eql rfl rfl) (by assumption)) ?_)));refine sa ?_;refine snf (c_condT rfl (c_region (sm ?_)));refine St.cls (C' := K W (g.L ++ ([(b3, row 46 [.int .u8 (f 0), .int .i64 (f 1), .int .i64 (f 2), .int .i64 (f 3), .int .i64 (f 4), .int .i64 (f 5)])] :: N))) ?_ (fun w h => K.bckN (A := [[(b3, row 46 [.int .u8 (f 0), .int .i64 (f 1), .int .i64 (f 2), .int .i64 (f 3), .int .i64 (f 4), .int .i64 (f 5)])]]) (B := g.L) h);refine sk call26 hp fun x => ?_;obtain ⟨⟨g', n, e⟩, hB', hb', hc⟩ := x;dsimp only at hB' hb' hc ⊢;refine s_nil (f_blockN (f_end ⟨g', hB', .inl ⟨c0, ?_⟩, hb'⟩ (res0 rfl) (fun w h => h.dropMid)));rcases hc with ⟨h1, h2, _⟩ | ⟨h1, h2, _⟩
    · exact .inl ⟨h1, h2⟩
    · exact .inr ⟨h1, h2⟩
  by_cases c3 : f 0 % 6 = 3
  · have hp := Move_b (W := W) (N := ([(b3, row 46 [.int .u8 (f 0), .int .i64 (f 1), .int .i64 (f 2), .int .i64 (f 3), .int .i64 (f 4), .int .i64 (f 5)])] :: N)) (tx := f 1) (lo := f 2) (hi := f 3) (fr := f 4) (to := f 5) hB (hO.pre hb);refine snf (c_block (csr (sy (y_F (y_eql rfl rfl) (by assumption)) ?_)));refine sa ?_;refine snf (c_condF rfl (csr (sy (y_T (y_eql rfl rfl) (by assumption)) ?_)));refine sa ?_;refine snf (c_condT rfl (c_region (sm ?_)));refine sf 1 ?_;refine slr 0 ?_;refine sf 2 ?_;refine slr 0 ?_;refine sf 3 ?_;refine slr 0 ?_;refine sf 4 ?_;refine slr 0 ?_;refine sf 5 ?_;refine slr 0 ?_;refine St.cls (C' := K W (g.L ++ ([(b3, row 46 [.int .u8 (f 0), .int .i64 (f 1), .int .i64 (f 2), .int .i64 (f 3), .int .i64 (f 4), .int .i64 (f 5)])] :: N))) ?_ (fun w h => K.bckN (A := [[(b3, row 46 [.int .u8 (f 0), .int .i64 (f 1), .int .i64 (f 2), .int .i64 (f 3), .int .i64 (f 4), .int .i64 (f 5)])]]) (B := g.L) h);refine sk call27 hp fun x => ?_;obtain ⟨⟨g', e, rs, v, c⟩, hB', hp', hA, _⟩ := x;dsimp only at hB' hp' hA ⊢;refine s_nil (f_blockN ?_);exact f_end ⟨g', hB', .inr (.inr (.inl ⟨c3, e, rs, hp'⟩)), hA.b⟩ (res0 rfl) (fun w h => h.tail.dropMid)
  by_cases c4 : f 0 % 6 = 4
  · have hp := Commit_b (W := W) (N := ([(b3, row 46 [.int .u8 (f 0), .int .i64 (f 1), .int .i64 (f 2), .int .i64 (f 3), .int .i64 (f 4), .int .i64 (f 5)])] :: N)) (tx := f 1) hB (hO.inv.good hb) (fun k _ hk _ _ => hO.inv.apOK hk) hll;refine snf (c_block (csr (sy (y_F (y_eql rfl rfl) (by assumption)) ?_)));refine sa ?_;refine snf (c_condF rfl (csr (sy (y_F (y_eql rfl rfl) (by assumption)) ?_)));refine sa ?_;refine snf (c_condF rfl (csr (sy (y_T (y_eql rfl rfl) (by assumption)) ?_)));refine sa ?_;refine snf (c_condT rfl (c_region (sm ?_)));refine sf 1 ?_;refine slr 0 ?_;refine St.cls (C' := K W (g.L ++ ([(b3, row 46 [.int .u8 (f 0), .int .i64 (f 1), .int .i64 (f 2), .int .i64 (f 3), .int .i64 (f 4), .int .i64 (f 5)])] :: N))) ?_ (fun w h => K.bckN (A := [[(b3, row 46 [.int .u8 (f 0), .int .i64 (f 1), .int .i64 (f 2), .int .i64 (f 3), .int .i64 (f 4), .int .i64 (f 5)])]]) (B := g.L) h);refine sk call30 hp fun x => ?_;obtain ⟨⟨g', n, e⟩, hB', hp', hA⟩ := x;dsimp only at hB' hp' hA ⊢;refine s_nil (f_blockN ?_);exact f_end ⟨g', hB', .inr (.inr (.inr (.inl ⟨c4, n, e, hp'⟩))), hA.b⟩ (res0 rfl) (fun w h => h.dropMid)
  by_cases c5 : f 0 % 6 = 5
  · have hp := Abort_b (W := W) (N := ([(b3, row 46 [.int .u8 (f 0), .int .i64 (f 1), .int .i64 (f 2), .int .i64 (f 3), .int .i64 (f 4), .int .i64 (f 5)])] :: N)) (tx := f 1) hB (hO.inv.good hb);refine snf (c_block (csr (sy (y_F (y_eql rfl rfl) (by assumption)) ?_)));refine sa ?_;refine snf (c_condF rfl (csr (sy (y_F (y_eql rfl rfl) (by assumption)) ?_)));refine sa ?_;refine snf (c_condF rfl (csr (sy (y_F (y_eql rfl rfl) (by assumption)) ?_)));refine sa ?_;refine snf (c_condF rfl (csr (sy (y_T (y_eql rfl rfl) (by assumption)) ?_)));refine sa ?_;refine snf (c_condT rfl (c_region (sm ?_)));refine sf 1 ?_;refine slr 0 ?_;refine St.cls (C' := K W (g.L ++ ([(b3, row 46 [.int .u8 (f 0), .int .i64 (f 1), .int .i64 (f 2), .int .i64 (f 3), .int .i64 (f 4), .int .i64 (f 5)])] :: N))) ?_ (fun w h => K.bckN (A := [[(b3, row 46 [.int .u8 (f 0), .int .i64 (f 1), .int .i64 (f 2), .int .i64 (f 3), .int .i64 (f 4), .int .i64 (f 5)])]]) (B := g.L) h);refine sk call31 hp fun x => ?_;obtain ⟨⟨g', e⟩, hB', hp', hA⟩ := x;dsimp only at hB' hp' hA ⊢;refine s_nil (f_blockN ?_);exact f_end ⟨g', hB', .inr (.inr (.inr (.inr ⟨c5, e, hp'⟩))), hA.b⟩ (res0 rfl) (fun w h => h.dropMid)
  · have hp := Look_b (W := W) (N := ([(b3, row 46 [.int .u8 (f 0), .int .i64 (f 1), .int .i64 (f 2), .int .i64 (f 3), .int .i64 (f 4), .int .i64 (f 5)])] :: N)) (tx := f 1) (lo := f 2) (hi := f 3) hB (hO.pre hb);refine snf (c_block (csr (sy (y_F (y_eql rfl rfl) (by assumption)) ?_)));refine sa ?_;refine snf (c_condF rfl (csr (sy (y_F (y_eql rfl rfl) (by assumption)) ?_)));refine sa ?_;refine snf (c_condF rfl (csr (sy (y_F (y_eql rfl rfl) (by assumption)) ?_)));refine sa ?_;refine snf (c_condF rfl (csr (sy (y_F (y_eql rfl rfl) (by assumption)) ?_)));refine sa ?_;refine snf (c_condF rfl (c_region (sm ?_)));refine sf 1 ?_;refine slr 0 ?_;refine sf 2 ?_;refine slr 0 ?_;refine sf 3 ?_;refine slr 0 ?_;refine St.cls (C' := K W (g.L ++ ([(b3, row 46 [.int .u8 (f 0), .int .i64 (f 1), .int .i64 (f 2), .int .i64 (f 3), .int .i64 (f 4), .int .i64 (f 5)])] :: N))) ?_ (fun w h => K.bckN (A := [[(b3, row 46 [.int .u8 (f 0), .int .i64 (f 1), .int .i64 (f 2), .int .i64 (f 3), .int .i64 (f 4), .int .i64 (f 5)])]]) (B := g.L) h);refine sk call28 hp fun x => ?_;obtain ⟨⟨g', e, rs, v, c⟩, hB', hp', hA, _⟩ := x;dsimp only at hB' hp' hA ⊢;refine s_nil (f_blockN ?_);exact f_end ⟨g', hB', .inr (.inl ⟨by omega, e, rs, hp'⟩), hA.b⟩ (res0 rfl) (fun w h => h.tail.dropMid)
end
end Go.KL
end

section
/- Runs of maps: parts, replaced tags, counts; plain. No program in sight. -/
namespace Go.KL
theorem jn_no {R : List Rn} {x : Rn} (h : x.2.1 ≤ x.1) : jn R x = R := by rw [jn, if_pos h]
theorem Rns.jn' {f : Nat → Nat} {R : List Rn} {lo m m' t : Nat} (h : Rns f lo m R) (ht : ∀ i, m ≤ i → i < m' → f i = t) : Rns f lo (max m m') (KL.jn R (m, m', t)) := by
  by_cases c : m' ≤ m
  · rw [jn_no c, show max m m' = m by omega];exact h
  · rw [show max m m' = m' by omega];exact h.jn (by omega) ht
theorem Rns.clip {f : Nat → Nat} {R : List Rn} {lo hi a b t : Nat} (h : Rns f lo (max lo (min hi a)) R) (hab : a < b) (ht : ∀ i, a ≤ i → i < b → f i = t) : Rns f lo (max lo (min hi b)) (KL.jn R (max lo a, min hi b, t)) := by
  by_cases c : min hi b ≤ max lo a
  · rw [jn_no c, show max lo (min hi b) = max lo (min hi a) by omega];exact h
  · rw [show max lo (min hi a) = max lo a by omega] at h;rw [show max lo (min hi b) = min hi b by omega];exact h.jn (by omega) fun i h1 h2 => ht i (by omega) (by omega)
def swf (f : Nat → Nat) (lo hi fr to : Nat) : Nat → Nat := fun i => if (lo ≤ i ∧ i < hi) ∧ f i = fr then to else f i
theorem swf_setf {f : Nat → Nat} {lo hi fr to : Nat} (h : ∀ i, lo ≤ i → i < hi → f i = fr) : swf f lo hi fr to = setf f lo hi to := by
  funext i;unfold swf setf;by_cases c : lo ≤ i ∧ i < hi
  · rw [if_pos c, if_pos ⟨c, h i c.1 c.2⟩]
  · rw [if_neg c, if_neg fun d => c d.1]
abbrev swa (lo a b : Nat) : Nat := max a (min lo b)
abbrev swb (hi a b : Nat) : Nat := min b (max hi a)
theorem Rns.swap {f : Nat → Nat} {R : List Rn} {lo hi fr to a b t : Nat} (h : Rns (swf f lo hi fr to) 0 a R) (hab : a < b) (ht : ∀ i, a ≤ i → i < b → f i = t) :
    Rns (swf f lo hi fr to) 0 b (KL.jn (KL.jn (KL.jn R (a, swa lo a b, t)) (swa lo a b, swb hi a b, if t = fr then to else t)) (max (swa lo a b) (swb hi a b), b, t)) := by
  have hA : swa lo a b = max a (min lo b) := rfl;have hB : swb hi a b = min b (max hi a) := rfl;have h1 := h.jn' (m' := swa lo a b) (t := t) fun i h1 h2 => by
    unfold swf;rw [ht i h1 (by omega), if_neg (by omega)]
  rw [show max a (swa lo a b) = swa lo a b by omega] at h1;have h2 := h1.jn' (m' := swb hi a b) (t := if t = fr then to else t) fun i h1 h2 => by
    unfold swf;rw [ht i (by omega) (by omega)];by_cases c : t = fr
    · rw [if_pos c, if_pos ⟨by omega, c⟩]
    · rw [if_neg c, if_neg fun d => c d.2]
  have h3 := h2.jn' (m' := b) (t := t) fun i h1 h2 => by
    unfold swf;rw [ht i (by omega) h2, if_neg (by omega)]
  rw [show max (max (swa lo a b) (swb hi a b)) b = b by omega] at h3;exact h3
def cntR (t : Nat) (R : List Rn) : Nat := (R.map fun x => if x.2.2 = t then x.2.1 - x.1 else 0).sum
theorem cntf_seg {f : Nat → Nat} {t u a b : Nat} (hab : a ≤ b) (h : ∀ i, a ≤ i → i < b → f i = u) : cntf f t b = cntf f t a + if u = t then b - a else 0 := by
  obtain ⟨k, rfl⟩ : ∃ k, b = a + k := ⟨b - a, by omega⟩;rw [cntf_add, cntf_const (u := u) fun i hi => h (a + i) (by omega) (by omega), Nat.add_sub_cancel_left];by_cases c : t = u
  · rw [if_pos c, if_pos c.symm]
  · rw [if_neg c, if_neg fun d => c d.symm]
theorem Rns.cnt {f : Nat → Nat} {t : Nat} : ∀ {R : List Rn} {lo hi : Nat}, Rns f lo hi R → cntf f t hi = cntf f t lo + cntR t R
  | [], lo, hi, h => by
    have : lo = hi := h;rw [this];rfl
  | x :: R, lo, hi, h => by
    have h1 := cntf_seg (t := t) (Nat.le_of_lt h.2.1) h.2.2.1;rw [h.2.2.2.2.cnt, h1, ← h.1];unfold cntR;rw [List.map_cons, List.sum_cons];omega
end Go.KL
end

section
/- Walks: the document's maps: Usable, valid, Tag, full, Runs, Count. -/
namespace Go.KL
open Go.Proofs Go.Proofs.Tryz
structure RMp (C : World → Prop) (lv : Value) (n : Nat) (f : Nat → Nat) : Prop where
  v : EV C lv 3 (rnl (rns f 0 n))
  pos : 1 ≤ n ∧ n ≤ 1099511627776
  nb : nbd f n ≤ 4096
theorem RMp.cls {C D : World → Prop} {lv : Value} {n : Nat} {f : Nat → Nat} (h : RMp C lv n f) (hD : ∀ w, D w → C w) : RMp D lv n f := ⟨h.v.cls hD, h.pos, h.nb⟩
theorem RMp.cons {W : World} {Ls : List Chunk} {d : Chunk} {lv : Value} {n : Nat} {f : Nat → Nat} (h : RMp (K W Ls) lv n f) : RMp (K W (d :: Ls)) lv n f := ⟨h.v.cons, h.pos, h.nb⟩
attribute [local irreducible] SC St Fin Sq Ylds Doos Sets Enters Spec CellIs CellsAre Then Ret Rnd Chn resOK ints bools recs arr
section
variable {W : World} {N : List Chunk} {lv : Value} {n : Nat} {f : Nat → Nat}
end
end Go.KL
end

section
/- Walks: the document's maps: full, Swap, move, Alike; runs. -/
namespace Go.KL
open Go.Proofs Go.Proofs.Tryz
attribute [local irreducible] SC St Fin Sq Ylds Doos Sets Enters Spec CellIs CellsAre Then Ret Rnd Chn resOK ints bools recs arr
section
variable {W : World} {N : List Chunk} {lv : Value} {n : Nat} {f : Nat → Nat}
end
section
variable {W : World} {N : List Chunk} {a b : Value} {R R' : List Rn}
end
end Go.KL
end

section
/- Walks: few; Log of a book that has committed nothing. -/
namespace Go.KL
open Go.Proofs Go.Proofs.Tryz
attribute [local irreducible] SC St Fin Sq Ylds Doos Sets Enters Spec CellIs CellsAre Then Ret Rnd Chn resOK ints bools recs arr
section
variable {g : Bg} {W : World} {N : List Chunk}
theorem fewC_spec {tv lv : Value} {nt nl s s' : Nat} {G G' : Nat → Nat → Value} (hT : SlV (K W N) tv nt s G) (hL : SlV (K W N) lv nl s' G') : Spec prog 21 #[tv, lv] (K W N) (fun _ : Unit => .bool (decide (nt ≤ 60 ∧ nl ≤ 60))) (fun _ => K W N) := by
  refine enter (args := [_, _]) func21 rfl ntmps21 rfl ?_;by_cases c1 : nt ≤ 60
  · by_cases c2 : nl ≤ 60
    · rw [decide_eq_true (show nt ≤ 60 ∧ nl ≤ 60 from ⟨c1, c2⟩)];refine csr (sa ?_);refine snf (csr (sm ?_));refine sy (y_lenV tab rfl (hT) rfl) ?_;refine sy (y_T (y_leq rfl rfl) (by omega)) ?_;refine sm ?_;refine sm ?_;refine sy (y_lenV tab rfl (hL) rfl) ?_;refine sy (y_T (y_leq rfl rfl) (by omega)) ?_;refine spT ?_;refine sa ?_;refine snf (c_ret ?_);exact f_ret () (res1 rfl rfl) (fun w h => h)
    · rw [decide_eq_false (show ¬ (nt ≤ 60 ∧ nl ≤ 60) from fun h => c2 h.2)];refine csr (sa ?_);refine snf (csr (sm ?_));refine sy (y_lenV tab rfl (hT) rfl) ?_;refine sy (y_T (y_leq rfl rfl) (by omega)) ?_;refine sm ?_;refine sm ?_;refine sy (y_lenV tab rfl (hL) rfl) ?_;refine sy (y_F (y_leq rfl rfl) (by omega)) ?_;refine spT ?_;refine sa ?_;refine snf (c_ret ?_);exact f_ret () (res1 rfl rfl) (fun w h => h)
  · rw [decide_eq_false (show ¬ (nt ≤ 60 ∧ nl ≤ 60) from fun h => c1 h.1)];refine csr (sa ?_);refine snf (csr (sm ?_));refine sy (y_lenV tab rfl (hT) rfl) ?_;refine sy (y_F (y_leq rfl rfl) (by omega)) ?_;refine sm ?_
    iterate 3 refine s_skip rfl rfl rfl ?_
    refine spF ?_;refine sa ?_;refine snf (c_ret ?_);exact f_ret () (res1 rfl rfl) (fun w h => h)
end
end Go.KL
end

section
/- Some transaction can always go on; how many calls there are; plain. No program in sight. -/
namespace Go.KL
open Relation
open Classical in
theorem cyc {E : Nat → Nat → Prop} : ∀ (n : Nat) (l : List Nat), l.length ≤ n → l ≠ [] → (∀ x ∈ l, ∃ y ∈ l, E x y) → ∃ x ∈ l, TransGen E x x
  | 0, l, h, h0, _ => absurd (List.eq_nil_of_length_eq_zero (by omega)) h0
  | n + 1, l, h, h0, hE => by
    obtain ⟨x, hx⟩ : ∃ x, x ∈ l := by
      cases l with
      | nil => exact absurd rfl h0
      | cons x l => exact ⟨x, List.mem_cons_self ..⟩
    by_cases c : TransGen E x x
    · exact ⟨x, hx, c⟩
    · have hS : ∀ y, y ∈ l.filter (fun y => decide (TransGen E x y)) ↔ y ∈ l ∧ TransGen E x y := fun y => by simp
      obtain ⟨y, hy, hxy⟩ := hE x hx;have hlt : (l.filter fun y => decide (TransGen E x y)).length < l.length := by
        have h1 := List.length_filter_le (fun y => decide (TransGen E x y)) l;by_cases e : (l.filter fun y => decide (TransGen E x y)).length = l.length
        · have := List.length_filter_eq_length_iff.1 e x hx;exact absurd (of_decide_eq_true this) c
        · omega
      obtain ⟨z, hz, hzz⟩ := cyc (E := E) n (l.filter fun y => decide (TransGen E x y)) (by omega) (fun e => by
        have := (hS y).2 ⟨hy, .single hxy⟩;rw [e] at this;simp at this) (fun z hz => by
        obtain ⟨hz1, hz2⟩ := (hS z).1 hz;obtain ⟨u, hu, hzu⟩ := hE z hz1;exact ⟨u, (hS u).2 ⟨hu, .tail hz2 hzu⟩, hzu⟩)
      exact ⟨z, ((hS z).1 hz).1, hzz⟩
namespace Bk
variable {A : Bk} {b : Nat}
theorem Ok.active (h : A.Ok b) (hr : A.rn ≠ []) : ∃ k, A.has k ∧ (A.tx k).st = 1 := by
  refine Classical.byContradiction fun hn => ?_;have h2 : ∀ k ∈ A.rn, ∃ j ∈ A.rn, A.E k j := fun k hk => by
    have hs : (A.tx k).st = 2 := by
      rcases ((h.inv.rn k).1 hk).2 with c | c
      · exact absurd ⟨k, h.inv.has hk, c⟩ hn
      · exact c
    have hq : k ∈ A.q := (h.inv.q k).2 ⟨h.inv.has hk, hs⟩;have hb := BlkF.mem h.blk hq;rw [List.nil_append] at hb;have : ∃ j, A.E k j := by
      refine Classical.byContradiction fun hne => ?_;have : A.free (A.tx k).req (A.q.takeWhile (fun j => !decide (j = k))) = true := free_iff.2 ⟨fun m hm y hy => ?_, fun m hm => ?_⟩
      · rw [hb] at this;cases this
      · cases c : cfl y (A.tx k).req with
        | false => rfl
        | true => exact absurd ⟨m, E_iff.2 ⟨hs, .inl ⟨hm, y, hy, c⟩⟩⟩ hne
      · cases c : cfl (A.tx m).req (A.tx k).req with
        | false => rfl
        | true => exact absurd ⟨m, E_iff.2 ⟨hs, .inr ⟨hm, c⟩⟩⟩ hne
    obtain ⟨j, hj⟩ := this;exact ⟨j, E_rn h.inv hj, hj⟩
  obtain ⟨x, hx, hc⟩ := cyc A.rn.length A.rn (Nat.le_refl _) hr h2;exact h.ac x (h.inv.has hx) hc
theorem commit_same {k : Nat} (hk : A.has k) : (A.commit k).size = A.size ∧ (A.commit k).C = ap A.C (A.tx k).ops ∧ (A.commit k).log = A.log ++ [(k, (A.tx k).ops)] ∧ (A.commit k).ts.length = A.ts.length := by
  rw [commit_eq hk];obtain ⟨h1, h2, _, h4, h5⟩ := fin_same (A := A.ended k 3 (A.tx k).req (ap A.C (A.tx k).ops) A.W (A.log ++ [(k, (A.tx k).ops)]));exact ⟨h1, h2, h4, h5.trans (by simp [ended])⟩
theorem Ok.grow {B : Bk} {f : Nat → Int} (h : A.Ok b) (hc : A.Cl f B) : B.size = A.size ∧ A.ts.length ≤ B.ts.length ∧ B.ts.length ≤ A.ts.length + 1 ∧ B.log.length ≤ A.log.length + 1 := by
  rcases hc with ⟨_, ⟨_, rfl⟩ | ⟨_, rfl⟩⟩ | ⟨_, e, rs, hp⟩ | ⟨_, e, rs, hp⟩ | ⟨_, n, e, hp⟩ | ⟨_, e, hp⟩
  · exact ⟨rfl, by omega, by omega, by omega⟩
  · exact ⟨rfl, by simp [Bk.begin], by simp [Bk.begin], by show A.log.length ≤ _; omega⟩
  · obtain ⟨_, h1, _, h3, h4⟩ := h.perf hp;exact ⟨h1, by omega, by omega, by rw [h3]; omega⟩
  · obtain ⟨_, h1, _, h3, h4⟩ := h.perf hp;exact ⟨h1, by omega, by omega, by rw [h3]; omega⟩
  · rcases hp with ⟨_, rfl, _⟩ | ⟨k, _, hk, ⟨_, rfl, _⟩ | ⟨_, rfl, _⟩ | ⟨_, rfl, _⟩ | ⟨_, _, _, rfl, _⟩⟩
    · exact ⟨rfl, by omega, by omega, by omega⟩
    · exact ⟨rfl, by omega, by omega, by omega⟩
    · exact ⟨rfl, by omega, by omega, by omega⟩
    · exact ⟨rfl, by omega, by omega, by omega⟩
    · obtain ⟨h1, _, h3, h4⟩ := commit_same hk;exact ⟨h1, by omega, by omega, by rw [h3, List.length_append]; simp⟩
  · rcases hp with ⟨_, rfl, _⟩ | ⟨k, _, hk, ⟨_, rfl, _⟩ | ⟨_, rfl, _⟩ | ⟨_, _, rfl, _⟩⟩
    · exact ⟨rfl, by omega, by omega, by omega⟩
    · exact ⟨rfl, by omega, by omega, by omega⟩
    · exact ⟨rfl, by omega, by omega, by omega⟩
    · obtain ⟨h1, _, h3, h4⟩ := abort_same hk;exact ⟨h1, by omega, by omega, by rw [h3]; omega⟩
structure Turn (A : Bk) (b n t x : Nat) : Prop where
  ok : A.Ok b
  len : A.ts.length = n
  lg : A.log.length + A.rn.length ≤ 300
  le : A.rn.length + t ≤ n ∨ A.rn = []
  go : A.rn = [] ∨ A.rn.length + t + 1 ≤ n ∨ ∃ k, x ≤ k ∧ A.has k ∧ (A.tx k).st = 1
theorem Turn.start {n t : Nat} (ok : A.Ok b) (len : A.ts.length = n) (lg : A.log.length + A.rn.length ≤ 300) (le : A.rn.length + t ≤ n ∨ A.rn = []) : Turn A b n t 1 := by
  refine ⟨ok, len, lg, le, ?_⟩;by_cases c : A.rn = []
  · exact .inl c
  · obtain ⟨k, hk, hs⟩ := ok.active c;exact .inr (.inr ⟨k, hk.1, hk, hs⟩)
theorem Turn.skip {n t x : Nat} (h : Turn A b n t x) (hs : (A.tx x).st ≠ 1) : Turn A b n t (x + 1) := by
  refine ⟨h.ok, h.len, h.lg, h.le, ?_⟩;rcases h.go with c | c | ⟨k, h1, h2, h3⟩
  · exact .inl c
  · exact .inr (.inl c)
  · refine .inr (.inr ⟨k, ?_, h2, h3⟩);rcases Nat.lt_or_ge x k with c | c
    · exact c
    · have : k = x := by omega
      rw [this] at h3;exact absurd h3 hs
theorem Turn.fin {n t x : Nat} {B : Bk} (h : Turn A b n t x) (hx : A.has x) (hs : (A.tx x).st = 1) (hok : B.Ok b) (hlen : B.ts.length = A.ts.length) (hrn : B.rn = A.rn.filter fun j => !decide (j = x)) (hlg : B.log.length ≤ A.log.length + 1) : Turn B b n t (x + 1) := by
  have hr := h.ok.inv.run hx hs;have h1 := filter_lt hr;have h2 := h.lg;have h3 : A.rn.length + t ≤ n := by
    rcases h.le with c | c
    · exact c
    · rw [c] at hr; simp at hr
  refine ⟨hok, hlen.trans h.len, by rw [hrn]; omega, .inl (by rw [hrn]; omega), .inr (.inl (by rw [hrn]; omega))⟩
theorem Turn.next {n t : Nat} (h : Turn A b n t (n + 1)) : A.rn.length + (t + 1) ≤ n ∨ A.rn = [] := by
  rcases h.go with c | c | ⟨k, h1, h2, _⟩
  · exact .inr c
  · exact .inl (by omega)
  · have := h2.2;rw [h.len] at this;omega
theorem Ok.none (h : A.Ok b) (hr : A.rn = []) : A.q = [] ∧ ∀ k, A.has k → ((A.tx k).st = 3 ∨ (A.tx k).st = 4) ∧ (A.tx k).locks = [] := by
  refine ⟨?_, fun k hk => ?_⟩
  · cases e : A.q with
    | nil => rfl
    | cons k l =>
      have : k ∈ A.q := by rw [e]; exact List.mem_cons_self ..
      have := h.inv.qrn this;rw [hr] at this;simp at this
  · have hn : k ∉ A.rn := by rw [hr]; simp
    refine ⟨?_, (h.inv.off k hk hn).1⟩;have h1 := h.inv.st k hk;have h2 : ¬ ((A.tx k).st = 1 ∨ (A.tx k).st = 2) := fun c => hn ((h.inv.rn k).2 ⟨hk, c⟩);omega
end Bk
end Go.KL
end

section
/- Walks: Log of a book. -/
namespace Go.KL
open Go.Proofs Go.Proofs.Tryz
theorem K.mrg {W w : World} {A B : List Chunk} {D : Chunk} (h : K W A w) (p : ∀ x : Nat × Obj, ∀ (_ : DecidableEq (Nat × Obj)), A.flatten.count x = B.flatten.count x + D.count x) : K W B w := h.weak D (by
  haveI : DecidableEq (Nat × Obj) := fun a b => Classical.propDecidable (a = b);exact List.perm_iff_count.2 fun x => by rw [p x _, List.count_append])
section
variable {e : TypeId} {s : Nat} {v : Value} {c p : Chunk} {rows : List (List Value)}
theorem BufR.put {i j : Nat} {x : List Value} (h : BufR e s v c rows) (hi : rows[i]? = some x) (hj : j < s) :
    ∃ (o : Own) (l : List Value), v = .slice (some ⟨o.b, 0, none⟩) rows.length o.cap ∧ c = [(o.b, row e l)] ∧ i * s + j < l.length ∧ ∀ z, BufR e s v [(o.b, row e (l.set (i * s + j) z))] (rows.set i (x.set j z)) := by
  have hil : i < rows.length := (List.getElem?_eq_some_iff.1 hi).1;have hx : x.length = s := h.len x (List.mem_of_getElem? hi);rcases h.buf.ok with ⟨h0, _⟩ | ⟨o, hv, hc, ho, hp⟩
  · omega
  obtain ⟨b, cap, pre, rest⟩ := o;dsimp only at hp;subst hp;have hfl := flat_len h.len;have hlt : i * s + j < rows.flatten.length := by
    rw [hfl];have : (i + 1) * s ≤ rows.length * s := Nat.mul_le_mul_right s hil;rw [Nat.add_mul] at this;omega
  have hset : ∀ z, (rows.set i (x.set j z)).flatten = rows.flatten.set (i * s + j) z := fun z => by
    have hl2 : lens s (rows.set i (x.set j z)) := fun y hy => by
      rcases List.mem_or_eq_of_mem_set hy with hy | rfl
      · exact h.len y hy
      · rw [List.length_set, hx]
    apply List.ext_getElem?;intro n;by_cases c : n < rows.length * s
    · have hs : 0 < s := by omega
      have h1 : n / s < rows.length := (Nat.div_lt_iff_lt_mul hs).2 c;have h2 := Nat.mod_lt n hs;have e1 : n / s * s + n % s = n := Nat.div_add_mod' n s;obtain ⟨y, hy⟩ : ∃ y, rows[n / s]? = some y := ⟨rows[n / s], by simp [h1]⟩;by_cases c2 : n / s = i
      · have hy' : rows[n / s]? = some x := by rw [c2]; exact hi
        have hg : (rows.set i (x.set j z))[n / s]? = some (x.set j z) := by rw [c2, List.getElem?_set_self hil]
        have h3 := flat_get hl2 hg h2;have h4 := flat_get h.len hy' h2;rw [e1] at h3 h4;rw [h3];by_cases c3 : n % s = j
        · have e2 : i * s + j = n := by rw [← c2, ← c3]; exact e1
          rw [e2, List.getElem?_set_self (by rw [hfl]; exact c), c3, List.getElem?_set_self (by omega)]
        · have e2 : i * s + j ≠ n := fun e => c3 (by rw [← c2] at e; omega);rw [List.getElem?_set_ne e2, List.getElem?_set_ne (fun e => c3 e.symm), h4]
      · have hg : (rows.set i (x.set j z))[n / s]? = some y := by rw [List.getElem?_set_ne (fun e => c2 e.symm)]; exact hy
        have h3 := flat_get hl2 hg h2;have h4 := flat_get h.len hy h2;rw [e1] at h3 h4;have e2 : i * s + j ≠ n := fun e => c2 (by rw [← e, Nat.mul_comm, Nat.mul_add_div hs, Nat.div_eq_of_lt hj]; omega);rw [h3, List.getElem?_set_ne e2, h4]
    · rw [List.getElem?_eq_none (by rw [flat_len hl2, List.length_set]; omega), List.getElem?_eq_none (by rw [List.length_set, hfl]; omega)]
  refine ⟨⟨b, cap, [], rest⟩, rows.flatten ++ rest, hv, ?_, ?_, fun z => ?_⟩
  · rw [hc]; simp
  · rw [List.length_append]; omega
  · refine ⟨fun y hy => ?_, ⟨.inr ⟨⟨b, cap, [], rest⟩, by rw [List.length_set]; exact hv, ?_, ?_, rfl⟩⟩⟩
    · rcases List.mem_or_eq_of_mem_set hy with hy | rfl
      · exact h.len y hy
      · rw [List.length_set, hx]
    · show [(b, row e ((rows.flatten ++ rest).set (i * s + j) z))] = [(b, row e ([] ++ (rows.set i (x.set j z)).flatten ++ rest))];rw [hset, List.set_append_left _ _ hlt, List.nil_append]
    · rw [List.length_set];exact ⟨ho.le, ho.max, by rw [flat_len (show lens s (rows.set i (x.set j z)) from fun y hy => by
        rcases List.mem_or_eq_of_mem_set hy with hy | rfl
        · exact h.len y hy
        · rw [List.length_set, hx]), List.length_set], ho.room⟩
end
end Go.KL
end

section
/- Walks: Log of a book, in full. -/
namespace Go.KL
open Go.Proofs Go.Proofs.Tryz
attribute [local irreducible] SC St Fin Sq Ylds Doos Sets Enters Spec CellIs CellsAre Then Ret Rnd Chn resOK ints bools recs arr
section
variable {g : Bg} {W : World} {N : List Chunk}
abbrev lgr (ls : List Lg) : List (List Value) := ls.map fun x => [.int .i64 (x.1 : Nat), x.2.1]
end
end Go.KL
end

section
/- Walks: the document's Replay. -/
namespace Go.KL
open Go.Proofs Go.Proofs.Tryz
theorem Opk.swf {n : Nat} {f : Nat → Nat} {o : Oa} (h : Opk n f o) (hm : o.mv = true) : KL.swf f o.lo o.hi o.fr o.to = stp f o := by
  rw [swf_setf (h.move hm), stp, if_pos hm]
theorem K.pre {W w : World} {A B : List Chunk} (h : K W (A ++ B) w) : K W A w := h.weak B.flatten (by rw [List.flatten_append])
theorem K.pre2 {W w : World} {A B G : List Chunk} (h : K W (A ++ (B ++ G)) w) : K W (A ++ B) w := K.pre (B := G) (by rw [List.append_assoc]; exact h)
attribute [local irreducible] SC St Fin Sq Ylds Doos Sets Enters Spec CellIs CellsAre Then Ret Rnd Chn resOK ints bools recs arr
section
variable {W : World} {M G : List Chunk} {v lv : Value} {n : Nat} {f : Nat → Nat} {ls : List Lg}
end
end Go.KL
end

section
/- The document's book, and how it is the same as the program's; plain. No program in sight. -/
namespace Go.KL
open Relation
structure RT where
  st : Nat
  locks : List Lk
  ops : List Oa
structure RB where
  size : Nat
  C : Nat → Nat
  T : List RT
  Q : List Lk
  D : List (Nat × List Oa)
def RT.inP (t : RT) : Bool := decide (t.st = 1) || decide (t.st = 2)
def cfr (a b : Lk) : Bool := decide (a.tx ≠ b.tx) && (decide (a.lo < b.hi) && (decide (b.lo < a.hi) && (a.wr || b.wr)))
theorem cfr_cfl {a b : Lk} (ha : a.lo < a.hi) (hb : b.lo < b.hi) : cfr a b = cfl a b := by
  unfold cfr cfl;have e : decide (max a.lo b.lo < min a.hi b.hi) = (decide (a.lo < b.hi) && decide (b.lo < a.hi)) := by
    rw [← Bool.decide_and];refine decide_eq_decide.2 ⟨fun h => by omega, fun h => by omega⟩
  rw [e];cases decide (a.tx ≠ b.tx) <;> cases decide (a.lo < b.hi) <;> cases decide (b.lo < a.hi) <;> cases (a.wr || b.wr) <;> rfl
namespace RB
variable (b : RB)
def tx (k : Nat) : RT := b.T.getD (k - 1) ⟨1, [], []⟩
def has (k : Nat) : Prop := 1 ≤ k ∧ k ≤ b.T.length
instance (k : Nat) : Decidable (b.has k) := inferInstanceAs (Decidable (1 ≤ k ∧ k ≤ b.T.length))
def locks : List Lk := (b.T.filter RT.inP).flatMap RT.locks
def progress : Nat := (b.T.filter RT.inP).length
def put (k : Nat) (t : RT) : RB := { b with T := b.T.set (k - 1) t }
def free (x : Lk) (n : Nat) : Bool := (b.locks ++ b.Q.take n).all fun y => !cfr x y
def grant (x : Lk) : RB := b.put x.tx ⟨1, (b.tx x.tx).locks ++ [x], (b.tx x.tx).ops⟩
def endl (k : Nat) : List Lk → RB → RB
  | [], b => b
  | x :: l, b => if x.tx = k then endl k l b else if b.free x b.Q.length then endl k l (b.grant x) else endl k l { b with Q := b.Q ++ [x] }
def end_ (k s : Nat) : RB := endl k b.Q { b.put k ⟨s, (b.tx k).locks, (b.tx k).ops⟩ with Q := [] }
def held (u : Nat) : List Lk := if b.has u ∧ (b.tx u).inP = true then (b.tx u).locks else []
def waits (t u : Nat) : Prop := ∃ i x, b.Q[i]? = some x ∧ x.tx = t ∧ ∃ y ∈ b.held u ++ b.Q.take i, y.tx = u ∧ cfr x y = true
noncomputable instance (t u : Nat) : Decidable (b.waits t u) := Classical.propDecidable _
def E (t u : Nat) : Prop := b.has u ∧ b.waits t u
def dead (k j : Nat) : Prop := TransGen b.E k j ∧ TransGen b.E j k
def IsVic (k v : Nat) : Prop := (v = 0 ∧ ∀ j, ¬ b.dead k j) ∨ (v ≠ 0 ∧ b.dead k v ∧ ∀ j, b.dead k j → j ≤ v)
def count : Nat := b.locks.length + b.Q.length
def moves : Nat := ((b.T.filter RT.inP).map fun t => mvs t.ops).sum
def room : Nat := (4096 - nbd b.C b.size - 2 * b.moves) / 2
def done (k : Nat) (o : Oa) : RB := b.put k ⟨(b.tx k).st, (b.tx k).locks, (b.tx k).ops ++ [o]⟩
def wait (k : Nat) (l : Lk) : RB := { b.put k ⟨2, (b.tx k).locks, (b.tx k).ops⟩ with Q := b.Q ++ [l] }
def begin : RB := { b with T := b.T ++ [⟨1, [], []⟩] }
def view (k : Nat) : Nat → Nat := ap b.C (b.tx k).ops
def commit (k : Nat) : RB := end_ { b with C := b.view k, D := b.D ++ [(k, (b.tx k).ops)] } k 3
variable {b}
theorem tx_put {k j : Nat} {t : RT} (hk : b.has k) (hj : b.has j) : (b.put k t).tx j = if j = k then t else b.tx j := by
  unfold has at hk hj;unfold tx put;rw [List.getD_eq_getElem?_getD, List.getD_eq_getElem?_getD, List.getElem?_set];by_cases c : j = k
  · subst c;rw [if_pos rfl, if_pos rfl, if_pos (by omega)];rfl
  · rw [if_neg (by omega), if_neg c]
end RB
theorem sum_range {f : Nat → Nat} {l : List Nat} {n : Nat} (hn : l.Nodup) (hl : ∀ k ∈ l, 1 ≤ k ∧ k ≤ n) : (l.map f).sum = (((List.range n).filter fun i => decide (i + 1 ∈ l)).map fun i => f (i + 1)).sum := by
  have hp : l.Perm (((List.range n).filter fun i => decide (i + 1 ∈ l)).map fun i => i + 1) := by
    refine (List.perm_ext_iff_of_nodup hn ?_).2 fun k => ?_
    · exact List.Pairwise.map _ (fun a b h => by omega) (List.nodup_range.filter _)
    · simp only [List.mem_map, List.mem_filter, List.mem_range, decide_eq_true_eq];constructor
      · intro h;have := hl k h;refine ⟨k - 1, ⟨by omega, ?_⟩, by omega⟩;rw [Nat.sub_add_cancel this.1];exact h
      · rintro ⟨i, ⟨_, h⟩, rfl⟩;exact h
  rw [(hp.map f).sum_nat, List.map_map];rfl
structure Sm (A : Bk) (b : RB) : Prop where
  size : b.size = A.size
  C : b.C = A.C
  len : b.T.length = A.ts.length
  st : ∀ k, A.has k → (b.tx k).st = (A.tx k).st
  run : ∀ k ∈ A.rn, (b.tx k).locks = (A.tx k).locks ∧ (b.tx k).ops = (A.tx k).ops
  Q : b.Q = A.reqs
  D : b.D = A.log
namespace Sm
variable {A : Bk} {b : RB} {m : Nat}
theorem has (h : Sm A b) {k : Nat} : b.has k ↔ A.has k := by
  unfold RB.has Bk.has;rw [h.len]
theorem inP (h : Sm A b) (hI : A.Inv m) {k : Nat} (hk : A.has k) : (b.tx k).inP = true ↔ k ∈ A.rn := by
  rw [hI.rn k, RT.inP, h.st k hk];simp [hk]
theorem T_eq (b : RB) : b.T = (List.range b.T.length).map fun i => b.tx (i + 1) := by
  apply List.ext_getElem?;intro i;rw [List.getElem?_map];unfold RB.tx;by_cases c : i < b.T.length
  · rw [List.getElem?_range c, Option.map_some, Nat.add_sub_cancel, List.getD_eq_getElem?_getD, List.getElem?_eq_getElem c];rfl
  · rw [List.getElem?_eq_none (by omega), List.getElem?_eq_none (by simp; omega)];rfl
theorem filt (h : Sm A b) (hI : A.Inv m) : b.T.filter RT.inP = ((List.range b.T.length).filter fun i => decide (i + 1 ∈ A.rn)).map fun i => b.tx (i + 1) := by
  conv => lhs; rw [T_eq b]
  rw [List.filter_map];congr 1;apply List.filter_congr;intro i hi;have hk : A.has (i + 1) := ⟨by omega, by rw [← h.len]; have := List.mem_range.1 hi; omega⟩;have := h.inP hI hk;simp only [Function.comp];by_cases c : i + 1 ∈ A.rn
  · rw [this.2 c, decide_eq_true c]
  · rw [decide_eq_false c];cases e : (b.tx (i + 1)).inP with
    | true => exact absurd (this.1 e) c
    | false => rfl
theorem sum (h : Sm A b) (hI : A.Inv m) (g : RT → Nat) : ((b.T.filter RT.inP).map g).sum = (A.rn.map fun k => g (b.tx k)).sum := by
  rw [h.filt hI, List.map_map, sum_range (n := b.T.length) hI.rnd fun k hk => by have := hI.has hk; unfold Bk.has at this; rw [h.len]; exact this];rfl
theorem progress (h : Sm A b) (hI : A.Inv m) : b.progress = A.rn.length := by
  have e : ∀ {α : Type} (l : List α), (l.map fun _ => 1).sum = l.length := fun l => by
    induction l with
    | nil => rfl
    | cons a l ih => rw [List.map_cons, List.sum_cons, ih, List.length_cons, Nat.add_comm]
  have := h.sum hI fun _ => 1;rw [e, e] at this;exact this
theorem moves (h : Sm A b) (hI : A.Inv m) : b.moves = A.moves := by
  unfold RB.moves Bk.moves;rw [h.sum hI fun t => mvs t.ops];exact sum_congr fun k hk => by rw [(h.run k hk).2]
theorem count (h : Sm A b) (hI : A.Inv m) : b.count = A.count := by
  unfold RB.count Bk.count RB.locks;rw [List.length_flatMap, h.sum hI fun t => t.locks.length, h.Q, Bk.reqs, List.length_map, sum_congr fun k hk => by rw [(h.run k hk).1]]
theorem room (h : Sm A b) (hI : A.Inv m) : b.room = A.room := by
  unfold RB.room Bk.room;rw [h.moves hI, h.C, h.size]
theorem mem_locks (h : Sm A b) (hI : A.Inv m) {y : Lk} : y ∈ b.locks ↔ ∃ k ∈ A.rn, y ∈ (A.tx k).locks := by
  unfold RB.locks;rw [h.filt hI, List.mem_flatMap];constructor
  · rintro ⟨t, ht, hy⟩;obtain ⟨i, hi, rfl⟩ := List.mem_map.1 ht;have hr : i + 1 ∈ A.rn := by simpa using (List.mem_filter.1 hi).2
    exact ⟨i + 1, hr, by rw [← (h.run _ hr).1]; exact hy⟩
  · rintro ⟨k, hk, hy⟩;have hh := hI.has hk;unfold Bk.has at hh;refine ⟨b.tx k, List.mem_map.2 ⟨k - 1, List.mem_filter.2 ⟨List.mem_range.2 (by rw [h.len]; omega), ?_⟩, by rw [Nat.sub_add_cancel hh.1]⟩, by rw [(h.run k hk).1]; exact hy⟩;rw [Nat.sub_add_cancel hh.1];exact decide_eq_true hk
theorem free (h : Sm A b) (hI : A.Inv m) {x : Lk} (hx : x.lo < x.hi) (n : Nat) : b.free x n = A.free x (A.q.take n) := by
  have key : b.free x n = true ↔ A.free x (A.q.take n) = true := by
    unfold RB.free;rw [List.all_eq_true, Bk.free_iff];constructor
    · intro c;refine ⟨fun k hk y hy => ?_, fun k hk => ?_⟩
      · have := c y (List.mem_append_left _ ((h.mem_locks hI).2 ⟨k, hk, hy⟩));rw [cfr_cfl hx (hI.lk k (hI.has hk) y hy).2.1, cfl_comm] at this;simpa using this
      · have := c (A.tx k).req (List.mem_append_right _ (by rw [h.Q, Bk.reqs, ← List.map_take]; exact List.mem_map.2 ⟨k, hk, rfl⟩));rw [cfr_cfl hx (hI.rq k (List.mem_of_mem_take hk)).2.1, cfl_comm] at this;simpa using this
    · rintro ⟨c1, c2⟩ y hy;rcases List.mem_append.1 hy with hy | hy
      · obtain ⟨k, hk, hy⟩ := (h.mem_locks hI).1 hy;rw [cfr_cfl hx (hI.lk k (hI.has hk) y hy).2.1, cfl_comm, c1 k hk y hy];rfl
      · rw [h.Q, Bk.reqs, ← List.map_take] at hy;obtain ⟨k, hk, rfl⟩ := List.mem_map.1 hy;rw [cfr_cfl hx (hI.rq k (List.mem_of_mem_take hk)).2.1, cfl_comm, c2 k hk];rfl
  cases c1 : b.free x n with
  | true => exact (key.1 c1).symm
  | false =>
    cases c2 : A.free x (A.q.take n) with
    | true => rw [key.2 c2] at c1; cases c1
    | false => rfl
theorem held (h : Sm A b) (hI : A.Inv m) (u : Nat) : b.held u = if u ∈ A.rn then (A.tx u).locks else [] := by
  unfold RB.held;by_cases c : u ∈ A.rn
  · have hh := hI.has c;rw [if_pos c, if_pos ⟨h.has.2 hh, (h.inP hI hh).2 c⟩, (h.run u c).1]
  · rw [if_neg c, if_neg fun d => c ((h.inP hI (h.has.1 d.1)).1 d.2)]
theorem take_before {q : List Nat} {i t : Nat} (hn : q.Nodup) (hi : q[i]? = some t) : q.take i = q.takeWhile (fun j => !decide (j = t)) := by
  refine (tw_take (fun j hj e => ?_) hi).symm;have := (List.getElem?_inj (by
    rcases Nat.lt_or_ge j q.length with c | c
    · exact c
    · rw [List.getElem?_eq_none c] at e; cases e) hn).1 (e.trans hi.symm)
  omega
theorem E (h : Sm A b) (hI : A.Inv m) {t u : Nat} (ht : A.has t) : b.E t u ↔ A.E t u := by
  rw [Bk.E_iff];unfold RB.E RB.waits Bk.EF;constructor
  · rintro ⟨hu, i, x, hx, rfl, y, hy, hyu, hc⟩;rw [h.Q, Bk.reqs, List.getElem?_map] at hx;obtain ⟨k, hk, rfl⟩ := Option.map_eq_some_iff.1 hx;have hkq := List.mem_of_getElem? hk;have hr := hI.rq k hkq;rw [hr.1];refine ⟨((hI.q k).1 hkq).2, ?_⟩;rcases List.mem_append.1 hy with hy | hy
    · rw [h.held hI] at hy;split at hy
      · rename_i c;exact .inl ⟨c, y, hy, by rw [← cfr_cfl (hI.lk u (hI.has c) y hy).2.1 hr.2.1, cfr_cfl (hI.lk u (hI.has c) y hy).2.1 hr.2.1, cfl_comm, ← cfr_cfl hr.2.1 (hI.lk u (hI.has c) y hy).2.1]; exact hc⟩
      · simp at hy
    · rw [h.Q, Bk.reqs, ← List.map_take] at hy;obtain ⟨j, hj, rfl⟩ := List.mem_map.1 hy;have hjq := List.mem_of_mem_take hj;have hrj := hI.rq j hjq;rw [hrj.1] at hyu;subst hyu;rw [take_before hI.qnd hk] at hj;exact .inr ⟨hj, by rw [cfl_comm, ← cfr_cfl hr.2.1 hrj.2.1]; exact hc⟩
  · rintro ⟨hs, hE⟩;have htq : t ∈ A.q := (hI.q t).2 ⟨ht, hs⟩;have hr := hI.rq t htq;obtain ⟨i, hi, hit⟩ := List.mem_iff_getElem.1 htq;have hit' : A.q[i]? = some t := by rw [List.getElem?_eq_getElem hi, hit]
    have hQ : b.Q[i]? = some (A.tx t).req := by rw [h.Q, Bk.reqs, List.getElem?_map, hit']; rfl
    rcases hE with ⟨hu, y, hy, hc⟩ | ⟨hu, hc⟩
    · have hl := hI.lk u (hI.has hu) y hy;refine ⟨h.has.2 (hI.has hu), i, _, hQ, hr.1, y, List.mem_append_left _ (by rw [h.held hI, if_pos hu]; exact hy), hl.1, ?_⟩;rw [cfr_cfl hr.2.1 hl.2.1, cfl_comm];exact hc
    · have huq := (List.takeWhile_sublist _).subset hu;have hru := hI.rq u huq;refine ⟨h.has.2 (hI.qhas huq), i, _, hQ, hr.1, (A.tx u).req, List.mem_append_right _ ?_, hru.1, ?_⟩
      · rw [h.Q, Bk.reqs, ← List.map_take, take_before hI.qnd hit'];exact List.mem_map.2 ⟨u, hu, rfl⟩
      · rw [cfr_cfl hr.2.1 hru.2.1, cfl_comm];exact hc
theorem trans (h : Sm A b) (hI : A.Inv m) {t u : Nat} (ht : A.has t) : TransGen b.E t u ↔ TransGen A.E t u :=
  ⟨fun c => (Bk.trans_sub (H := A.has) (fun _ _ d => h.has.1 d.1) (fun _ _ hi d => (h.E hI hi).1 d) ht c).1, fun c => (Bk.trans_sub (H := A.has) (fun _ _ d => Bk.E_has hI d) (fun _ _ hi d => (h.E hI hi).2 d) ht c).1⟩
theorem dead (h : Sm A b) (hI : A.Inv m) {k j : Nat} (hk : A.has k) : b.dead k j ↔ A.dead k j := by
  unfold RB.dead Bk.dead;rw [Bk.R_iff, Bk.R_iff, h.trans hI hk];refine and_congr_right fun c => ?_;have hj : A.has j := (Bk.trans_sub (P := A.E) (Q := A.E) (H := A.has) (fun _ _ d => Bk.E_has hI d) (fun _ _ _ d => d) hk c).2;exact h.trans hI hj
theorem isVic (h : Sm A b) (hI : A.Inv m) {k v : Nat} (hk : A.has k) (hv : b.IsVic k v) : A.IsVic k v := by
  rcases hv with ⟨h1, h2⟩ | ⟨h1, h2, h3⟩
  · exact .inl ⟨h1, fun j c => h2 j ((h.dead hI hk).2 c)⟩
  · exact .inr ⟨h1, (h.dead hI hk).1 h2, fun j c => h3 j ((h.dead hI hk).2 c)⟩
theorem upd (h : Sm A b) (hI : A.Inv m) {k : Nat} {t : Tx} {u : RT} {q : List Nat} {W : Nat → Nat} {Q : List Lk} (hk : A.has k) (h1 : u.st = t.st) (h2 : k ∈ A.rn → u.locks = t.locks ∧ u.ops = t.ops) (hQ : Q = q.map fun j => (if j = k then t else A.tx j).req) (hq : ∀ j ∈ q, A.has j) : Sm (A.up k t q W) { b.put k u with Q := Q } := by
  have hkb := h.has.2 hk;have ha : ∀ {j}, A.has j → (A.up k t q W).tx j = if j = k then t else A.tx j := fun hj => Bk.tx_set hk hj;have hH : ∀ {j}, (A.up k t q W).has j ↔ A.has j := Bk.has_set;have hb : ∀ {j}, A.has j → (({ b.put k u with Q := Q } : RB)).tx j = if j = k then u else b.tx j := fun hj => RB.tx_put hkb (h.has.2 hj);refine ⟨h.size, h.C, by simp [RB.put, Bk.up, h.len], fun j hj => ?_, fun j hj => ?_, ?_, h.D⟩
  · rw [ha (hH.1 hj), hb (hH.1 hj)];split
    · exact h1
    · exact h.st j (hH.1 hj)
  · have hj' : j ∈ A.rn := hj;rw [ha (hI.has hj'), hb (hI.has hj')];split
    · rename_i e;rw [e] at hj';exact h2 hj'
    · exact h.run j hj'
  · show Q = q.map fun j => ((A.up k t q W).tx j).req;rw [hQ];exact List.map_congr_left fun j hj => by rw [ha (hq j hj)]
end Sm
end Go.KL
end

section
/- Walks: the document's book, its readers. -/
namespace Go.KL
open Go.Proofs Go.Proofs.Tryz
structure Wh where
  p : Option Addr
  c : Nat
structure Dt where
  st : Nat
  locks : List Lk
  os : List Ov
  l : Wh
  o : Wh
abbrev Dt.lv (t : Dt) : Value := .slice t.l.p (lks t.locks).length t.l.c
abbrev Dt.ov (t : Dt) : Value := .slice t.o.p (opl t.os).length t.o.c
abbrev Dt.cells (t : Dt) : List Value := [.int .i64 (t.st : Nat), t.lv, t.ov]
abbrev Dt.rt (t : Dt) : RT := ⟨t.st, t.locks, ops t.os⟩
abbrev dtl (ts : List Dt) : List (List Value) := ts.map Dt.cells
structure Rg where
  size : Nat
  C : Nat → Nat
  m : Wh
  ts : List Dt
  t : Wh
  Q : List Lk
  q : Wh
  ds : List Lg
  d : Wh
namespace Rg
variable (g : Rg)
abbrev mv : Value := .slice g.m.p (rnl (rns g.C 0 g.size)).length g.m.c
abbrev tv : Value := .slice g.t.p (dtl g.ts).length g.t.c
abbrev qv : Value := .slice g.q.p (lks g.Q).length g.q.c
abbrev dv : Value := .slice g.d.p (lgr g.ds).length g.d.c
abbrev cells : List Value := [.int .i64 (g.size : Nat), g.mv, g.tv, g.qv, g.dv]
abbrev val : Value := .agg #[.int .i64 (g.size : Nat), g.mv, g.tv, g.qv, g.dv]
def rb : RB := ⟨g.size, g.C, g.ts.map Dt.rt, g.Q, g.ds.map fun x => (x.1, ops x.2.2)⟩
end Rg
structure DtV (C : World → Prop) (t : Dt) : Prop where
  l : EV C t.lv 4 (lks t.locks)
  o : EV C t.ov 6 (opl t.os)
  r : ∀ o ∈ t.os, EV C o.2 3 (rnl o.1.runs)
structure RV (C : World → Prop) (g : Rg) : Prop where
  m : RMp C g.mv g.size g.C
  t : EV C g.tv 3 (dtl g.ts)
  tx : ∀ t ∈ g.ts, DtV C t
  q : EV C g.qv 4 (lks g.Q)
  d : EV C g.dv 2 (lgr g.ds)
  dx : ∀ x ∈ g.ds, EV C x.2.1 6 (opl x.2.2) ∧ ∀ o ∈ x.2.2, EV C o.2 3 (rnl o.1.runs)
  n : g.ts.length < 1000000
theorem DtV.cls {C D : World → Prop} {t : Dt} (h : DtV C t) (hD : ∀ w, D w → C w) : DtV D t := ⟨h.l.cls hD, h.o.cls hD, fun o ho => (h.r o ho).cls hD⟩
theorem RV.cls {C D : World → Prop} {g : Rg} (h : RV C g) (hD : ∀ w, D w → C w) : RV D g := ⟨h.m.cls hD, h.t.cls hD, fun t ht => (h.tx t ht).cls hD, h.q.cls hD, h.d.cls hD, fun x hx => ⟨(h.dx x hx).1.cls hD, fun o ho => ((h.dx x hx).2 o ho).cls hD⟩, h.n⟩
theorem RV.cons {W : World} {N : List Chunk} {c : Chunk} {g : Rg} (h : RV (K W N) g) : RV (K W (c :: N)) g := h.cls fun _ h => h.tail
attribute [local irreducible] SC St Fin Sq Ylds Doos Sets Enters Spec CellIs CellsAre Then Ret Rnd Chn resOK ints bools recs arr
section
variable {W : World} {N : List Chunk} {g : Rg}
theorem In_spec {t : Dt} : Spec prog 54 #[.agg #[.int .i64 (t.st : Nat), t.lv, t.ov]] (K W N) (fun _ : Unit => .bool t.rt.inP) (fun _ => K W N) := by
  refine enter (args := [_]) func54 rfl ntmps54 rfl ?_;by_cases c1 : t.st = 1
  · rw [show t.rt.inP = true by simp [RT.inP, c1]];refine csr (sbx fun b1 => ?_);refine sa ?_;refine snf (csr (sf0 ?_));refine slr 0 ?_;refine sy (y_T (y_eql rfl rfl) (by omega)) ?_;refine sm ?_
    iterate 3 refine s_skip rfl rfl rfl ?_
    refine spT ?_;refine sa ?_;refine snf (c_ret ?_);exact f_ret () (res1 rfl rfl) (fun w h => h.tail)
  · by_cases c2 : t.st = 2
    · rw [show t.rt.inP = true by simp [RT.inP, c2]];refine csr (sbx fun b1 => ?_);refine sa ?_;refine snf (csr (sf0 ?_));refine slr 0 ?_;refine sy (y_F (y_eql rfl rfl) (by omega)) ?_;refine sm ?_;refine sf0 ?_;refine slr 0 ?_;refine sy (y_T (y_eql rfl rfl) (by omega)) ?_;refine spF ?_;refine sa ?_;refine snf (c_ret ?_);exact f_ret () (res1 rfl rfl) (fun w h => h.tail)
    · rw [show t.rt.inP = false by simp [RT.inP, c1, c2]];refine csr (sbx fun b1 => ?_);refine sa ?_;refine snf (csr (sf0 ?_));refine slr 0 ?_;refine sy (y_F (y_eql rfl rfl) (by omega)) ?_;refine sm ?_;refine sf0 ?_;refine slr 0 ?_;refine sy (y_F (y_eql rfl rfl) (by omega)) ?_;refine spF ?_;refine sa ?_;refine snf (c_ret ?_);exact f_ret () (res1 rfl rfl) (fun w h => h.tail)
theorem Is_spec (_ : RV (K W N) g) {k : Int} : Spec prog 88 #[g.val, .int .i64 k] (K W N) (fun _ : Unit => .bool (decide (1 ≤ k ∧ k ≤ g.ts.length))) (fun _ => K W N) := by
  have hl : (dtl g.ts).length = g.ts.length := List.length_map _;refine enter (args := [_, _]) func88 rfl ntmps88 rfl ?_;by_cases c1 : 1 ≤ k
  · by_cases c2 : k ≤ g.ts.length
    · rw [decide_eq_true (show 1 ≤ k ∧ k ≤ g.ts.length from ⟨c1, c2⟩)];refine csr (sbx fun b2 => ?_);refine sa ?_;refine snf (csr (sm ?_));refine sy (y_T (y_geq rfl rfl) (by assumption)) ?_;refine sm ?_;refine sm ?_;refine sf 2 ?_;refine slr 0 ?_;refine sy (y_len tab rfl rfl) ?_;refine sy (y_T (y_leq rfl rfl) (by omega)) ?_;refine spT ?_;refine sa ?_;refine snf (c_ret ?_);exact f_ret () (res1 rfl rfl) (fun w h => h.tail)
    · rw [decide_eq_false (show ¬ (1 ≤ k ∧ k ≤ g.ts.length) from fun h => c2 h.2)];refine csr (sbx fun b2 => ?_);refine sa ?_;refine snf (csr (sm ?_));refine sy (y_T (y_geq rfl rfl) (by assumption)) ?_;refine sm ?_;refine sm ?_;refine sf 2 ?_;refine slr 0 ?_;refine sy (y_len tab rfl rfl) ?_;refine sy (y_F (y_leq rfl rfl) (by omega)) ?_;refine spT ?_;refine sa ?_;refine snf (c_ret ?_);exact f_ret () (res1 rfl rfl) (fun w h => h.tail)
  · rw [decide_eq_false (show ¬ (1 ≤ k ∧ k ≤ g.ts.length) from fun h => c1 h.1)];refine csr (sbx fun b2 => ?_);refine sa ?_;refine snf (csr (sm ?_));refine sy (y_F (y_geq rfl rfl) (by assumption)) ?_;refine sm ?_
    iterate 5 refine s_skip rfl rfl rfl ?_
    refine spF ?_;refine sa ?_;refine snf (c_ret ?_);exact f_ret () (res1 rfl rfl) (fun w h => h.tail)
theorem rb_has {k : Nat} : g.rb.has k ↔ 1 ≤ k ∧ k ≤ g.ts.length := by simp [RB.has, Rg.rb]
theorem rb_tx {k : Nat} {t : Dt} (h : g.ts[k - 1]? = some t) : g.rb.tx k = t.rt := by simp [RB.tx, Rg.rb, h]
def _root_.Go.KL.RB.stI (b : RB) (k : Int) : Nat := if 1 ≤ k ∧ k ≤ b.T.length then (b.tx k.toNat).st else 0
theorem RState_spec (hV : RV (K W N) g) {k : Int} : Spec prog 55 #[g.val, .int .i64 k] (K W N) (fun _ : Unit => .int .i64 (g.rb.stI k : Nat)) (fun _ => K W N) := by
  have hl : (dtl g.ts).length = g.ts.length := List.length_map _;have hn := hV.n;refine enter (args := [_, _]) func55 rfl ntmps55 rfl ?_;by_cases c : 1 ≤ k ∧ k ≤ g.ts.length
  · obtain ⟨j, rfl⟩ : ∃ j : Nat, k = j := ⟨k.toNat, by omega⟩;obtain ⟨t, ht⟩ : ∃ t, g.ts[j - 1]? = some t := ⟨g.ts[j - 1], List.getElem?_eq_getElem (by omega)⟩;have e : g.rb.stI j = t.st := by
      rw [RB.stI, if_pos (by simp only [Rg.rb, List.length_map]; exact c), Int.toNat_natCast, rb_tx ht]
    rw [e];refine csr (sbx fun b2 => ?_);refine sa ?_;refine snf (c_seq (csr (sy (y_loadA tab rfl rfl rfl rfl (cells_row0 0 rfl rfl)) ?_)));refine sm ?_;refine sk call88 (Is_spec hV.cons) fun _ => ?_;rw [decide_eq_true c];have hE : EV (K W ([(b2, row 42 g.cells)] :: N)) g.tv 3 (dtl g.ts) := hV.t.cons;obtain ⟨jx, hjx⟩ : ∃ jx, jx = j - 1 := ⟨_, rfl⟩;have hrow := hE.row (i := jx) (x := t.cells) (by simp [hjx, ht]);refine sy (y_notT rfl) ?_;refine snf (c_condF rfl (c_skip (f_then (csr (sf 2 ?_)))));refine slr 0 ?_;refine sm ?_;refine sy (y_sub rfl rfl (by omega)) ?_;refine sy (y_ixE tab rfl rfl rfl rfl (hE) jx (by omega) (by omega)) ?_;refine sf0 ?_;refine sl (CellsAre.at0 (hrow) rfl) ?_;refine sa ?_;refine snf (c_ret ?_);exact f_ret () (res1 rfl rfl) (fun w h => h.tail)
  · have e : g.rb.stI k = 0 := by
      rw [RB.stI, if_neg (by simp only [Rg.rb, List.length_map]; exact c)]
    rw [e];refine csr (sbx fun b2 => ?_);refine sa ?_;refine snf (c_seq (csr (sy (y_loadA tab rfl rfl rfl rfl (cells_row0 0 rfl rfl)) ?_)));refine sm ?_;refine sk call88 (Is_spec hV.cons) fun _ => ?_;rw [decide_eq_false c];refine sy (y_notF rfl) ?_;refine snf (c_condT rfl (csr (sa ?_)));refine snf (c_ret (f_thenR ?_));exact f_ret () (res1 rfl rfl) (fun w h => h.tail)
def _root_.Go.KL.RB.ref (b : RB) (k : Int) (w : Bool) : Nat := if b.stI k = 0 then 80 else if b.stI k = 4 then 81 else if b.stI k = 3 then 82 else if b.stI k = 2 ∧ w = true then 83 else 0
end
end Go.KL
end

section
/- Walks: the document's View, Room, SameLocks. -/
namespace Go.KL
open Go.Proofs Go.Proofs.Tryz
attribute [local irreducible] SC St Fin Sq Ylds Doos Sets Enters Spec CellIs CellsAre Then Ret Rnd Chn resOK ints bools recs arr
section
variable {W : World} {N G : List Chunk} {g : Rg}
end
end Go.KL
end

section
/- Walks: put and Begin of the document's book. -/
namespace Go.KL
open Go.Proofs Go.Proofs.Tryz
section
variable {e : TypeId} {s : Nat} {rows : List (List Value)} {b m cap : Nat} {l : List Value}
end
def Rg.setT (g : Rg) (ts : List Dt) (t : Wh) : Rg := ⟨g.size, g.C, g.m, ts, t, g.Q, g.q, g.ds, g.d⟩
theorem RV.setT {C D : World → Prop} {g : Rg} {ts : List Dt} {u : Wh} (h : RV C g) (hD : ∀ w, D w → C w) (hv : EV D (.slice u.p (dtl ts).length u.c) 3 (dtl ts)) (ht : ∀ t ∈ ts, DtV D t) (hn : ts.length < 1000000) : RV D (g.setT ts u) := ⟨h.m.cls hD, hv, ht, h.q.cls hD, h.d.cls hD, fun x hx => ⟨(h.dx x hx).1.cls hD, fun o ho => ((h.dx x hx).2 o ho).cls hD⟩, hn⟩
attribute [local irreducible] SC St Fin Sq Ylds Doos Sets Enters Spec CellIs CellsAre Then Ret Rnd Chn resOK ints bools recs arr
section
variable {W : World} {N G : List Chunk} {g : Rg}
def Dt.new : Dt := ⟨1, [], [], ⟨none, 0⟩, ⟨none, 0⟩⟩
def _root_.Go.KL.RB.Bg (b b' : RB) (n e : Nat) : Prop := (64 ≤ b.progress ∧ b' = b ∧ n = 0 ∧ e = 5) ∨ (b.progress < 64 ∧ b' = b.begin ∧ n = b.T.length + 1 ∧ e = 0)
end
end Go.KL
end

section
/- Walks: Conflict, Locks, free of the document's book. -/
namespace Go.KL
open Go.Proofs Go.Proofs.Tryz
theorem EV.upto {C : World → Prop} {p : Option Addr} {l c s k : Nat} {rows : List (List Value)} (h : EV C (.slice p l c) s rows) (hk : k ≤ rows.length) : EV C (.slice p k c) s (rows.take k) := by
  have hl := h.len;obtain ⟨pa, c', e, hc, hv⟩ := h.view;injection e with e1 e2 e3;subst e1 e3;refine ⟨fun x hx => hl x (List.mem_of_mem_take hx), ?_⟩;rw [List.length_take, Nat.min_eq_left hk];refine ⟨_, _, rfl, by omega, fun h0 => ?_⟩;obtain ⟨b, o, hp, h3⟩ := hv (by omega);refine ⟨b, o, hp, fun i hi j hj => ?_⟩;have := h3 i (by omega) j hj;simp only [rix, List.getD_eq_getElem?_getD] at this ⊢;rw [List.getElem?_take_of_lt hi];exact this
theorem lks_all (L : List Lk) : ∀ r ∈ lks L, r.all Value.oneCell' = true := fun r hr => by
  obtain ⟨t, _, rfl⟩ := List.mem_map.1 hr;rfl
attribute [local irreducible] SC St Fin Sq Ylds Doos Sets Enters Spec CellIs CellsAre Then Ret Rnd Chn resOK ints bools recs arr
section
variable {W : World} {N : List Chunk} {g : Rg}
theorem Conflict_spec {a b : Lk} : Spec prog 76 #[lkv a, lkv b] (K W N) (fun _ : Unit => .bool (cfr a b)) (fun _ => K W N) := by
  obtain ⟨cf, hcf⟩ : ∃ cf, cf = cfr a b := ⟨_, rfl⟩;rw [← hcf];show Spec prog 76 #[.agg #[.int .i64 (a.tx : Nat), .int .i64 (a.lo : Nat), .int .i64 (a.hi : Nat), .bool a.wr], lkv b] (K W N) _ _;obtain ⟨aw, haw⟩ : ∃ aw, aw = a.wr := ⟨_, rfl⟩;rw [← haw];refine enter (args := [_, _]) func76 rfl ntmps76 rfl ?_;by_cases c1 : a.tx = b.tx
  · rw [show cf = false by rw [hcf]; simp [cfr, c1]];refine csr (sbx fun b2 => ?_);refine sbx fun b3 => ?_;refine sa ?_;refine snf (csr (sf0 ?_));refine slr 1 ?_;refine sf0 ?_;refine slr 0 ?_;refine sy (y_F (y_neq rfl rfl) (by omega)) ?_;refine sm ?_
    iterate 5 refine s_skip rfl rfl rfl ?_
    refine spF ?_;refine sm ?_
    iterate 5 refine s_skip rfl rfl rfl ?_
    refine spF ?_;refine sm ?_
    iterate 6 refine s_skip rfl rfl rfl ?_
    refine spF ?_;refine sa ?_;refine snf (c_ret ?_);exact f_ret () (res1 rfl rfl) (fun w h => h.tail.tail)
  by_cases c2 : a.lo < b.hi
  · by_cases c3 : b.lo < a.hi
    · cases aw with
      | true =>
        rw [show cf = true by rw [hcf]; simp [cfr, c1, c2, c3, ← haw]];refine csr (sbx fun b2 => ?_);refine sbx fun b3 => ?_;refine sa ?_;refine snf (csr (sf0 ?_));refine slr 1 ?_;refine sf0 ?_;refine slr 0 ?_;refine sy (y_T (y_neq rfl rfl) (by omega)) ?_;refine sm ?_;refine sf 1 ?_;refine slr 1 ?_;refine sf 2 ?_;refine slr 0 ?_;refine sy (y_T (y_lss rfl rfl) (by omega)) ?_;refine spT ?_;refine sm ?_;refine sf 1 ?_;refine slr 0 ?_;refine sf 2 ?_;refine slr 1 ?_;refine sy (y_T (y_lss rfl rfl) (by omega)) ?_;refine spT ?_;refine sm ?_;refine sf 3 ?_;refine slr 1 ?_;refine sm ?_
        iterate 2 refine s_skip rfl rfl rfl ?_
        refine spT ?_;refine spT ?_;refine sa ?_;refine snf (c_ret ?_);exact f_ret () (res1 rfl rfl) (fun w h => h.tail.tail)
      | false =>
        rw [show cf = b.wr by rw [hcf]; simp [cfr, c1, c2, c3, ← haw]];refine csr (sbx fun b2 => ?_);refine sbx fun b3 => ?_;refine sa ?_;refine snf (csr (sf0 ?_));refine slr 1 ?_;refine sf0 ?_;refine slr 0 ?_;refine sy (y_T (y_neq rfl rfl) (by omega)) ?_;refine sm ?_;refine sf 1 ?_;refine slr 1 ?_;refine sf 2 ?_;refine slr 0 ?_;refine sy (y_T (y_lss rfl rfl) (by omega)) ?_;refine spT ?_;refine sm ?_;refine sf 1 ?_;refine slr 0 ?_;refine sf 2 ?_;refine slr 1 ?_;refine sy (y_T (y_lss rfl rfl) (by omega)) ?_;refine spT ?_;refine sm ?_;refine sf 3 ?_;refine slr 1 ?_;refine sm ?_;refine sf 3 ?_;refine slr 0 ?_;refine spF ?_;refine spT ?_;refine sa ?_;refine snf (c_ret ?_);exact f_ret () (res1 rfl rfl) (fun w h => h.tail.tail)
    · rw [show cf = false by rw [hcf]; simp [cfr, c3]];refine csr (sbx fun b2 => ?_);refine sbx fun b3 => ?_;refine sa ?_;refine snf (csr (sf0 ?_));refine slr 1 ?_;refine sf0 ?_;refine slr 0 ?_;refine sy (y_T (y_neq rfl rfl) (by omega)) ?_;refine sm ?_;refine sf 1 ?_;refine slr 1 ?_;refine sf 2 ?_;refine slr 0 ?_;refine sy (y_T (y_lss rfl rfl) (by omega)) ?_;refine spT ?_;refine sm ?_;refine sf 1 ?_;refine slr 0 ?_;refine sf 2 ?_;refine slr 1 ?_;refine sy (y_F (y_lss rfl rfl) (by omega)) ?_;refine spT ?_;refine sm ?_
      iterate 6 refine s_skip rfl rfl rfl ?_
      refine spF ?_;refine sa ?_;refine snf (c_ret ?_);exact f_ret () (res1 rfl rfl) (fun w h => h.tail.tail)
  · rw [show cf = false by rw [hcf]; simp [cfr, c2]];refine csr (sbx fun b2 => ?_);refine sbx fun b3 => ?_;refine sa ?_;refine snf (csr (sf0 ?_));refine slr 1 ?_;refine sf0 ?_;refine slr 0 ?_;refine sy (y_T (y_neq rfl rfl) (by omega)) ?_;refine sm ?_;refine sf 1 ?_;refine slr 1 ?_;refine sf 2 ?_;refine slr 0 ?_;refine sy (y_F (y_lss rfl rfl) (by omega)) ?_;refine spT ?_;refine sm ?_
    iterate 5 refine s_skip rfl rfl rfl ?_
    refine spF ?_;refine sm ?_
    iterate 6 refine s_skip rfl rfl rfl ?_
    refine spF ?_;refine sa ?_;refine snf (c_ret ?_);exact f_ret () (res1 rfl rfl) (fun w h => h.tail.tail)
theorem Locks_spec (hV : RV (K W N) g) (hc : g.rb.locks.length < 100000) : Spec prog 75 #[g.val] (K W N) (X := { x : Value × Chunk // BufR 111 4 x.1 x.2 (lks g.rb.locks) }) (fun x => x.1.1) (fun x => K W (x.1.2 :: N)) := by
  have hdl : (dtl g.ts).length = g.ts.length := List.length_map _;have hn := hV.n;have hloc : g.rb.locks = (g.ts.filter fun t => t.rt.inP).flatMap fun t => t.locks := by
    rw [RB.locks, Rg.rb];simp only [List.filter_map, List.flatMap_map];rfl
  refine enter (args := [_]) func75 rfl ntmps75 rfl ?_;refine csr (sbx fun b1 => ?_);refine sa ?_;refine snf (csr (sa ?_));refine snf (c_seq (csr (sa ?_)));refine snf (c_block ?_);refine c_loopP (α := Nat × Value × Chunk) (fun z => [(1, .pointer (some ⟨b1, 0, none⟩)), (3, z.2.1), (4, .int .i64 (z.1 : Nat))]) (fun z => z.1 ≤ g.ts.length ∧ BufR 111 4 z.2.1 z.2.2 (lks ((((g.ts.take z.1).filter fun t => t.rt.inP)).flatMap fun t => t.locks)))
    (fun z => K W (z.2.2 :: [(b1, row 42 g.cells)] :: N)) (fun z => g.ts.length - z.1) (0, .slice none 0 0, []) ⟨rfl, rfl, rfl, trivial⟩ ⟨Nat.zero_le _, .nil⟩ (fun w h => h.addNil) ?_
  rintro ⟨i, v, c⟩ ⟨hi, hB⟩;dsimp only at hi hB ⊢;have hE : EV (K W (c :: [(b1, row 42 g.cells)] :: N)) g.tv 3 (dtl g.ts) := hV.t.cons.cons;by_cases c1 : i < g.ts.length
  · obtain ⟨t, ht⟩ : ∃ t, g.ts[i]? = some t := ⟨g.ts[i], List.getElem?_eq_getElem c1⟩;have htm := List.mem_of_getElem? ht;have hrow := hE.row (i := i) (x := t.cells) (by simp [ht]);have htk : (g.ts.take (i + 1)).filter (fun t => t.rt.inP) = (g.ts.take i).filter (fun t => t.rt.inP) ++ (if t.rt.inP then [t] else []) := by
      rw [List.take_add_one, ht];simp [List.filter_append, List.filter_cons]
    have hle : ((((g.ts.take (i + 1)).filter fun t => t.rt.inP)).flatMap fun t => t.locks).length ≤ g.rb.locks.length := by
      rw [hloc];conv => rhs; rw [← List.take_append_drop (i + 1) g.ts]
      rw [List.filter_append, List.flatMap_append, List.length_append];omega
    refine c_seq (csr (sm ?_));refine sf 2 ?_;refine slr 1 ?_;refine sy (y_lenE tab rfl (hE) rfl) ?_;refine sy (y_T (y_lss rfl rfl) (by omega)) ?_;refine snf (c_condT rfl (c_skip (f_then (c_seq (c_block (csr (sf 2 ?_)))))));refine slr 1 ?_;refine sm ?_;refine sy (y_ixE tab rfl rfl rfl rfl (hE) _ rfl (by omega)) ?_;refine sy (y_loadA tab rfl rfl rfl rfl hrow) ?_;refine sk call54 (In_spec (t := t)) fun _ => ?_;cases hp : t.rt.inP with
    | false =>
      rw [hp, if_neg (by decide), List.append_nil] at htk;refine snf (c_condF rfl (c_skip (f_blockN (f_then (c_region (sm ?_))))));refine sy (y_add rfl rfl (by omega)) ?_;refine sa ?_;refine s_nil ?_;exact f_roundP (i + 1, v, c) ⟨c1, by rw [htk]; exact hB⟩ (by dsimp only; omega) ⟨rfl, rfl, rfl, trivial⟩ (fun w h => h)
    | true =>
      rw [hp, if_pos rfl] at htk;rw [htk, List.flatMap_append, List.length_append] at hle;simp only [List.flatMap_cons, List.flatMap_nil, List.append_nil] at hle;have hEl : EV (K W (c :: [(b1, row 42 g.cells)] :: N)) t.lv 4 (lks t.locks) := (hV.tx t htm).l.cls fun w h => h.tail.tail;refine snf (c_condT rfl (c_region (sm ?_)));refine sf 2 ?_;refine slr 1 ?_;refine sm ?_;refine sy (y_ixE tab rfl rfl rfl rfl (hE) _ rfl (by omega)) ?_;refine sy (y_fieldAddr tab 1 rfl rfl rfl rfl rfl) ?_;refine sl (CellsAre.nth 1 (hrow) rfl) ?_;refine s_do (do_appendRV (by_ := 32) tab 0 rfl hB rfl hEl ⟨rfl, rfl, rfl, rfl⟩ rfl (by omega) (Nat.lt_of_sub_eq_succ rfl) rfl (lks_all _) (by rw [List.length_map, List.length_map]; omega) (by omega)) rfl rfl rfl (fun x => ?_);obtain ⟨⟨v', c'⟩, hB'⟩ := x;dsimp only at hB' ⊢;refine sa ?_;refine s_nil (f_blockN (f_then (c_region (sm ?_))));refine sy (y_add rfl rfl (by omega)) ?_;refine sa ?_;refine s_nil ?_;exact f_roundP (i + 1, v', c') ⟨c1, by
        rw [htk, List.flatMap_append];exact hB'.of (by simp [lks])⟩ (by dsimp only; omega) ⟨rfl, rfl, rfl, trivial⟩ (fun w h => h)
  · obtain rfl : i = g.ts.length := by omega
    rw [List.take_length, ← hloc] at hB;refine c_seq (csr (sm ?_));refine sf 2 ?_;refine slr 1 ?_;refine sy (y_lenE tab rfl (hE) rfl) ?_;refine sy (y_F (y_lss rfl rfl) (by omega)) ?_;refine snf (c_condF rfl (c_exit (f_thenE (f_rndE (f_blockE (f_then (csr (sm ?_))))))));refine sa ?_;refine snf (c_ret ?_);exact f_ret ⟨(v, c), hB⟩ (res1 rfl rfl) (fun w h => h.dropAt 1)
end
end Go.KL
end

section
/- Walks: free, grant of the document's book. -/
namespace Go.KL
open Go.Proofs Go.Proofs.Tryz
attribute [local irreducible] SC St Fin Sq Ylds Doos Sets Enters Spec CellIs CellsAre Then Ret Rnd Chn resOK ints bools recs arr
section
variable {W : World} {N : List Chunk} {g : Rg}
end
end Go.KL
end

section
/- Walks: grant of the document's book. -/
namespace Go.KL
open Go.Proofs Go.Proofs.Tryz
section
variable {P : Program} {W : World} {n : Nat} {σ : Slots} {Q : Post} {Y : Type}
end
theorem K.perm {W w : World} {A B : List Chunk} (h : K W A w) (p : ∀ x : Chunk, ∀ (_ : DecidableEq Chunk), A.count x = B.count x) : K W B w := h.weak [] (by
  haveI : DecidableEq Chunk := fun a b => Classical.propDecidable (a = b);simpa using (List.perm_iff_count.2 fun x => p x _ : A.Perm B).flatten)
attribute [local irreducible] SC St Fin Sq Ylds Doos Sets Enters Spec CellIs CellsAre Then Ret Rnd Chn resOK ints bools recs arr
section
variable {W : World} {N G : List Chunk} {g : Rg}
end
end Go.KL
end

section
/- Walks: end of the document's book. -/
namespace Go.KL
open Go.Proofs Go.Proofs.Tryz
def RB.EndOK (k : Nat) : List Lk → RB → Prop
  | [], _ => True
  | x :: l, b => x.tx = k ∧ EndOK k l b ∨ x.tx ≠ k ∧ b.count < 100000 ∧ b.has x.tx ∧ (b.tx x.tx).locks.length < 100000 ∧ b.Q.length < 100000 ∧ (b.free x b.Q.length = true ∧ EndOK k l (b.grant x) ∨ b.free x b.Q.length = false ∧ EndOK k l ⟨b.size, b.C, b.T, b.Q ++ [x], b.D⟩)
def Rg.setQ (g : Rg) (Q : List Lk) (q : Wh) : Rg := ⟨g.size, g.C, g.m, g.ts, g.t, Q, q, g.ds, g.d⟩
theorem RV.setQ {C D : World → Prop} {g : Rg} {Q : List Lk} {u : Wh} (h : RV C g) (hD : ∀ w, D w → C w) (hv : EV D (.slice u.p (lks Q).length u.c) 4 (lks Q)) : RV D (g.setQ Q u) := ⟨h.m.cls hD, h.t.cls hD, fun t ht => (h.tx t ht).cls hD, hv, h.d.cls hD, fun x hx => ⟨(h.dx x hx).1.cls hD, fun o ho => ((h.dx x hx).2 o ho).cls hD⟩, h.n⟩
attribute [local irreducible] SC St Fin Sq Ylds Doos Sets Enters Spec CellIs CellsAre Then Ret Rnd Chn resOK ints bools recs arr
section
variable {W : World} {N G : List Chunk} {g : Rg}
end
end Go.KL
end

section
/- Walks: Abort of the document's book. -/
namespace Go.KL
open Go.Proofs Go.Proofs.Tryz
def RB.Ab (b : RB) (k : Int) (b' : RB) (e : Nat) : Prop := (b.ref k false ≠ 0 ∧ b' = b ∧ e = b.ref k false) ∨ (b.ref k false = 0 ∧ e = 0 ∧ ∃ j : Nat, k = j ∧ b' = b.end_ j 4)
attribute [local irreducible] SC St Fin Sq Ylds Doos Sets Enters Spec CellIs CellsAre Then Ret Rnd Chn resOK ints bools recs arr
section
variable {W : World} {N G : List Chunk} {g : Rg}
end
end Go.KL
end

section
/- Walks: Commit of the document's book. -/
namespace Go.KL
open Go.Proofs Go.Proofs.Tryz
def RB.Cm (b : RB) (k : Int) (b' : RB) (n e : Nat) : Prop := (b.ref k true ≠ 0 ∧ b' = b ∧ n = 0 ∧ e = b.ref k true) ∨ (b.ref k true = 0 ∧ e = 0 ∧ n = b.D.length + 1 ∧ ∃ j : Nat, k = j ∧ b' = b.commit j)
attribute [local irreducible] SC St Fin Sq Ylds Doos Sets Enters Spec CellIs CellsAre Then Ret Rnd Chn resOK ints bools recs arr
section
variable {W : World} {N G : List Chunk} {g : Rg}
end
end Go.KL
end

section
/- Walks: Room of the document's book. -/
namespace Go.KL
open Go.Proofs Go.Proofs.Tryz
attribute [local irreducible] SC St Fin Sq Ylds Doos Sets Enters Spec CellIs CellsAre Then Ret Rnd Chn resOK ints bools recs arr
section
variable {W : World} {N : List Chunk} {g : Rg}
end
end Go.KL
end

section
/- The document's book and the program's stay the same: Begin, Abort, Commit; plain. No program in sight. -/
namespace Go.KL
namespace Sm
variable {A : Bk} {b : RB} {m : Nat}
abbrev qs (b : RB) (Q : List Lk) : RB := ⟨b.size, b.C, b.T, Q, b.D⟩
theorem free_qs {b : RB} {Q : List Lk} {x : Lk} : (qs b (b.Q ++ Q)).free x b.Q.length = b.free x b.Q.length := by
  unfold RB.free;rw [List.take_left, List.take_length];rfl
theorem endl_gr {k : Nat} : ∀ (L : List Lk) (l : List Nat) (A : Bk) (b : RB) (st : List Nat), (A.wq (st ++ l)).Inv m → Sm (A.wq (st ++ l)) (qs b (b.Q ++ l.map fun j => (A.tx j).req)) →
    b.Q = (st.map fun j => (A.tx j).req) → (L.filter fun x => !decide (x.tx = k)) = (l.map fun j => (A.tx j).req) →
    Sm ((Bk.gr A l st).1.wq (Bk.gr A l st).2) (RB.endl k L b) ∧ RB.EndOK k L b
  | [], l, A, b, st, hI, hS, hQ, hL => by
    have : l = [] := by
      cases l with
      | nil => rfl
      | cons a l => simp at hL
    subst this;rw [List.append_nil, List.map_nil, List.append_nil] at hS;exact ⟨hS, trivial⟩
  | x :: L, l, A, b, st, hI, hS, hQ, hL => by
    by_cases c : x.tx = k
    · rw [List.filter_cons, if_neg (by simp [c])] at hL;obtain ⟨h1, h2⟩ := endl_gr L l A b st hI hS hQ hL;rw [RB.endl, if_pos c];exact ⟨h1, .inl ⟨c, h2⟩⟩
    · rw [List.filter_cons, if_pos (by simp [c])] at hL;obtain ⟨j, l', rfl, hx, hL⟩ : ∃ j l', l = j :: l' ∧ x = (A.tx j).req ∧ (L.filter fun x => !decide (x.tx = k)) = (l'.map fun j => (A.tx j).req) := by
        cases l with
        | nil => simp at hL
        | cons j l' =>
          rw [List.map_cons] at hL;exact ⟨j, l', rfl, (List.cons.inj hL).1, (List.cons.inj hL).2⟩
      have hjq : j ∈ (A.wq (st ++ j :: l')).q := List.mem_append_right _ (List.mem_cons_self ..);obtain ⟨hj1, hj2, _⟩ := hI.rq j hjq;have hj1 : (A.tx j).req.tx = j := hj1;have hj2 : (A.tx j).req.lo < (A.tx j).req.hi := hj2;have hh : (A.wq (st ++ j :: l')).has j := hI.qhas hjq;have hr : j ∈ A.rn := hI.qrn hjq;have hb : b.has j := hS.has.2 hh;have hxj : x.tx = j := by rw [hx]; exact hj1
      have hlen : b.Q.length = st.length := by rw [hQ, List.length_map]
      have hfr : b.free x b.Q.length = A.free (A.tx j).req st := by
        have := hS.free hI (x := x) (by rw [hx]; exact hj2) b.Q.length;rw [free_qs] at this;rw [this, hlen, hx];show A.free (A.tx j).req ((st ++ j :: l').take st.length) = _;rw [List.take_left]
      have hnd := (nodup_mid (l := l') (k := j) (st := st) hI.qnd).1;have hcn : b.count < 100000 := by
        have h1 := hS.count hI;have h2 := hI.cnt;unfold RB.count at h1 ⊢;have h3 : (qs b (b.Q ++ (j :: l').map fun j => (A.tx j).req)).locks = b.locks := rfl;have h4 : b.Q.length ≤ (qs b (b.Q ++ (j :: l').map fun j => (A.tx j).req)).Q.length := by
          show _ ≤ (b.Q ++ _).length;rw [List.length_append];omega
        rw [h3] at h1;omega
      have hrun := hS.run j hr;have hrun1 : (b.tx j).locks = (A.tx j).locks := hrun.1;have hrun2 : (b.tx j).ops = (A.tx j).ops := hrun.2;have hll : (b.tx x.tx).locks.length < 100000 := by
        rw [hxj, hrun1];have h2 := hI.cnt;unfold Bk.count at h2;have h3 : (A.tx j).locks.length ≤ (A.rn.map fun k => (A.tx k).locks.length).sum := sum_mem (f := fun k => (A.tx k).locks.length) hr;have h4 : ((A.wq (st ++ j :: l')).rn.map fun k => ((A.wq (st ++ j :: l')).tx k).locks.length).sum = (A.rn.map fun k => (A.tx k).locks.length).sum := rfl;rw [h4] at h2;omega
      have hqn : b.Q.length < 100000 := by
        unfold RB.count at hcn;omega
      rw [RB.endl, if_neg c];cases hf : A.free (A.tx j).req st with
      | true =>
        rw [hf] at hfr;rw [if_pos hfr];have e : Bk.gr A (j :: l') st = Bk.gr (A.grant j) l' st := by rw [Bk.gr, if_pos hf]
        rw [e];have hI2 := Bk.grant_inv hI hf;have hreq : ∀ i ∈ st ++ l', ((A.grant j).tx i).req = (A.tx i).req := fun i hi => by
          have hne : i ≠ j := fun e => hnd (e ▸ hi);have hin : i ∈ (A.wq (st ++ j :: l')).q := Bk.mem_mid.2 (.inr hi);have hhi : (A.wq (st ++ j :: l')).has i := hI.qhas hin;rw [Bk.grant_tx (A := A) hh hhi, if_neg hne]
        have hm1 : (st.map fun i => ((A.grant j).tx i).req) = (st.map fun i => (A.tx i).req) := List.map_congr_left fun i hi => hreq i (List.mem_append_left _ hi);have hm2 : (l'.map fun i => ((A.grant j).tx i).req) = (l'.map fun i => (A.tx i).req) := List.map_congr_left fun i hi => hreq i (List.mem_append_right _ hi);have hup := hS.upd hI (k := j) (t := ⟨1, (A.tx j).locks ++ [(A.tx j).req], Lk.zero, (A.tx j).ops⟩) (u := ⟨1, (b.tx j).locks ++ [x], (b.tx j).ops⟩) (q := st ++ l') (W := A.W) (Q := b.Q ++ l'.map fun i => ((A.grant j).tx i).req) hh rfl (fun _ => ⟨by rw [hrun1, hx], hrun2⟩) (by
          rw [hm2, hQ, ← List.map_append];refine List.map_congr_left fun i hi => ?_;rw [if_neg (show i ≠ j from fun e => hnd (e ▸ hi))];rfl) (fun i hi => hI.qhas (Bk.mem_mid.2 (.inr hi)))
        have hbg : b.grant x = b.put j ⟨1, (b.tx j).locks ++ [x], (b.tx j).ops⟩ := by rw [RB.grant, hxj]
        obtain ⟨h1, h2⟩ := endl_gr L l' (A.grant j) (b.grant x) st hI2 (by
          rw [hbg];exact hup) (by
          rw [hm1];exact hQ) (by rw [hm2]; exact hL)
        exact ⟨h1, .inr ⟨c, hcn, by rw [hxj]; exact hb, hll, hqn, .inl ⟨hfr, h2⟩⟩⟩
      | false =>
        rw [hf] at hfr;rw [if_neg (by rw [hfr]; decide)];have e : Bk.gr A (j :: l') st = Bk.gr A l' (st ++ [j]) := by rw [Bk.gr, if_neg (by rw [hf]; decide)]
        rw [e];have ea : st ++ j :: l' = (st ++ [j]) ++ l' := by simp
        obtain ⟨h1, h2⟩ := endl_gr L l' A (qs b (b.Q ++ [x])) (st ++ [j]) (by rw [← ea]; exact hI) (by
          rw [← ea];have ex : qs (qs b (b.Q ++ [x])) ((qs b (b.Q ++ [x])).Q ++ l'.map fun j => (A.tx j).req) = qs b (b.Q ++ (j :: l').map fun j => (A.tx j).req) := by
            simp [qs, hx]
          rw [ex];exact hS) (by
          show b.Q ++ [x] = _;rw [hQ, List.map_append, hx];rfl) hL
        exact ⟨h1, .inr ⟨c, hcn, by rw [hxj]; exact hb, hll, hqn, .inr ⟨hfr, h2⟩⟩⟩
theorem ended (h : Sm A b) {k s : Nat} {r : Lk} {C W : Nat → Nat} {lg : List (Nat × List Oa)} {u : RT} (hk : A.has k) (hs : u.st = s) (hI : A.Inv m) (hE : (A.ended k s r C W lg).Inv m) :
    Sm (A.ended k s r C W lg).fin (RB.endl k b.Q ⟨b.size, C, (b.put k u).T, [], lg⟩) ∧ RB.EndOK k b.Q ⟨b.size, C, (b.put k u).T, [], lg⟩ := by
  have hkb := h.has.2 hk;have hb : ∀ {j}, A.has j → (⟨b.size, C, (b.put k u).T, [], lg⟩ : RB).tx j = if j = k then u else b.tx j := fun hj => RB.tx_put hkb (h.has.2 hj);refine endl_gr b.Q (A.ended k s r C W lg).q (A.ended k s r C W lg) ⟨b.size, C, (b.put k u).T, [], lg⟩ [] hE ?_ rfl ?_
  · refine ⟨h.size, rfl, ?_, fun j hj => ?_, fun j hj => ?_, ?_, rfl⟩
    · show (b.T.set _ _).length = (A.ts.set _ _).length;rw [List.length_set, List.length_set, h.len]
    · have hj' : A.has j := Bk.ended_has.1 hj;show ((⟨b.size, C, (b.put k u).T, [], lg⟩ : RB).tx j).st = ((A.ended k s r C W lg).tx j).st;rw [hb hj', Bk.ended_tx hk hj'];split
      · exact hs
      · exact h.st j hj'
    · obtain ⟨hj1, hne⟩ := Bk.mem_ne.1 (show j ∈ A.rn.filter fun j => !decide (j = k) from hj);have hj' := hI.has hj1;show ((⟨b.size, C, (b.put k u).T, [], lg⟩ : RB).tx j).locks = ((A.ended k s r C W lg).tx j).locks ∧ ((⟨b.size, C, (b.put k u).T, [], lg⟩ : RB).tx j).ops = ((A.ended k s r C W lg).tx j).ops;rw [hb hj', Bk.ended_tx hk hj', if_neg hne, if_neg hne];exact h.run j hj1
    · show [] ++ _ = _;rfl
  · show (b.Q.filter fun x => !decide (x.tx = k)) = ((A.q.filter fun j => !decide (j = k)).map fun j => ((A.ended k s r C W lg).tx j).req);rw [h.Q, Bk.reqs, List.filter_map];have e1 : (A.q.filter ((fun x : Lk => !decide (x.tx = k)) ∘ fun j => (A.tx j).req)) = (A.q.filter fun j => !decide (j = k)) := List.filter_congr fun j hj => by
      show (!decide ((A.tx j).req.tx = k)) = _;rw [(hI.rq j hj).1]
    rw [e1];refine List.map_congr_left fun j hj => ?_;obtain ⟨hj1, hne⟩ := Bk.mem_ne.1 hj;rw [Bk.ended_tx hk (hI.qhas hj1), if_neg hne]
theorem abort (h : Sm A b) {k : Nat} (hk : A.has k) (hI : A.Inv m) : Sm (A.abort k) (b.end_ k 4) ∧ RB.EndOK k b.Q ⟨b.size, b.C, (b.put k ⟨4, (b.tx k).locks, (b.tx k).ops⟩).T, [], b.D⟩ := by
  rw [Bk.abort_eq hk];have := h.ended (C := A.C) (W := KL.un A.W (A.tx k).ops) (lg := A.log) (r := Lk.zero) (s := 4) (u := ⟨4, (b.tx k).locks, (b.tx k).ops⟩) hk rfl hI (hI.ab hk);rw [← h.C, ← h.D] at this ⊢;exact this
theorem commit (h : Sm A b) {k : Nat} (hr : k ∈ A.rn) (hI : A.Inv m) : Sm (A.commit k) (b.commit k) ∧ RB.EndOK k b.Q ⟨b.size, ap b.C (b.tx k).ops, (b.put k ⟨3, (b.tx k).locks, (b.tx k).ops⟩).T, [], b.D ++ [(k, (b.tx k).ops)]⟩ := by
  have hk := hI.has hr;rw [Bk.commit_eq hk];have := h.ended (C := ap A.C (A.tx k).ops) (W := A.W) (lg := A.log ++ [(k, (A.tx k).ops)]) (r := (A.tx k).req) (s := 3) (u := ⟨3, (b.tx k).locks, (b.tx k).ops⟩) hk rfl hI (hI.cm hk hr);rw [← h.C, ← h.D, ← (h.run k hr).2] at this ⊢;exact this
theorem begin (h : Sm A b) (hI : A.Inv m) : Sm A.begin b.begin := by
  have hl := h.len;have htb : ∀ {j}, A.has j → b.begin.tx j = b.tx j := fun {j} hj => by
    unfold Bk.has at hj;unfold RB.tx RB.begin;rw [List.getD_eq_getElem?_getD, List.getD_eq_getElem?_getD, List.getElem?_append_left (by omega)]
  have hnb : b.begin.tx (A.ts.length + 1) = ⟨1, [], []⟩ := by
    unfold RB.tx RB.begin;rw [List.getD_eq_getElem?_getD, List.getElem?_append_right (by omega), show A.ts.length + 1 - 1 - b.T.length = 0 from by omega];rfl
  refine ⟨h.size, h.C, by simp [RB.begin, Bk.begin, hl], fun j hj => ?_, fun j hj => ?_, ?_, h.D⟩
  · rcases Bk.begin_has.1 hj with c | rfl
    · rw [htb c, Bk.begin_tx c]; exact h.st j c
    · rw [hnb, Bk.begin_new]; rfl
  · rcases List.mem_append.1 (show j ∈ A.rn ++ [A.ts.length + 1] from hj) with c | c
    · have := hI.has c;rw [htb this, Bk.begin_tx this];exact h.run j c
    · rw [List.mem_singleton.1 c, hnb, Bk.begin_new];exact ⟨rfl, rfl⟩
  · show b.Q = A.q.map fun j => (A.begin.tx j).req;rw [h.Q, Bk.reqs];exact List.map_congr_left fun j hj => by rw [Bk.begin_tx (hI.qhas hj)]
end Sm
end Go.KL
end

section
/- The document's book and the program's stay the same: obtaining, done; plain. No program in sight. -/
namespace Go.KL
namespace Bk
theorem IsVic.uniq {A : Bk} {k v w : Nat} (h : A.IsVic k v) (g : A.IsVic k w) : v = w := by
  rcases h with ⟨rfl, h⟩ | ⟨h0, h1, h2⟩
  · rcases g with ⟨rfl, _⟩ | ⟨g0, g1, g2⟩
    · rfl
    · exact absurd g1 (h w)
  · rcases g with ⟨rfl, g⟩ | ⟨g0, g1, g2⟩
    · exact absurd h1 (g v)
    · exact Nat.le_antisymm (g2 v h1) (h2 w g1)
end Bk
namespace Sm
variable {A : Bk} {b : RB} {m : Nat}
theorem grant (h : Sm A b) (hI : A.Inv m) {k lo hi : Nat} {wr : Bool} (hk : A.has k) (hs : (A.tx k).st = 1) : Sm (A.setT k { A.tx k with locks := (A.tx k).locks ++ [⟨k, lo, hi, wr⟩] }) (b.grant ⟨k, lo, hi, wr⟩) := by
  have hr := hI.run hk hs;have hrun := h.run k hr;have := h.upd hI (k := k) (t := { A.tx k with locks := (A.tx k).locks ++ [⟨k, lo, hi, wr⟩] }) (u := ⟨1, (b.tx k).locks ++ [⟨k, lo, hi, wr⟩], (b.tx k).ops⟩) (q := A.q) (W := A.W) (Q := b.Q) hk hs.symm (fun _ => ⟨by rw [hrun.1], hrun.2⟩) (by
    rw [h.Q, Bk.reqs];refine List.map_congr_left fun j hj => ?_;have hne : j ≠ k := fun e => hI.noq hs (e ▸ hj);rw [if_neg hne]) (fun j hj => hI.qhas hj)
  exact this
theorem wait (h : Sm A b) (hI : A.Inv m) {k : Nat} {l : Lk} (hk : A.has k) (hs : (A.tx k).st = 1) : Sm (A.wait k l) (b.wait k l) := by
  have hr := hI.run hk hs;have hrun := h.run k hr;have := h.upd hI (k := k) (t := ⟨2, (A.tx k).locks, l, (A.tx k).ops⟩) (u := ⟨2, (b.tx k).locks, (b.tx k).ops⟩) (q := A.q ++ [k]) (W := A.W) (Q := b.Q ++ [l]) hk rfl (fun _ => hrun) (by
    rw [h.Q, Bk.reqs, List.map_append, List.map_cons, List.map_nil, if_pos rfl];congr 1;refine List.map_congr_left fun j hj => ?_;have hne : j ≠ k := fun e => hI.noq hs (e ▸ hj);rw [if_neg hne]) (fun j hj => by
    rcases List.mem_append.1 hj with hj | hj
    · exact hI.qhas hj
    · rw [List.mem_singleton.1 hj]; exact hk)
  exact this
theorem done (h : Sm A b) (hI : A.Inv m) {k : Nat} {o : Oa} {W : Nat → Nat} (hk : A.has k) (hs : (A.tx k).st = 1) : Sm (({ A with W := W } : Bk).done k o) (b.done k o) := by
  have hr := hI.run hk hs;have hrun := h.run k hr;have := h.upd hI (k := k) (t := { A.tx k with ops := (A.tx k).ops ++ [o] }) (u := ⟨(b.tx k).st, (b.tx k).locks, (b.tx k).ops ++ [o]⟩) (q := A.q) (W := W) (Q := b.Q) hk (h.st k hk) (fun _ => ⟨hrun.1, by rw [hrun.2]⟩) (by
    rw [h.Q, Bk.reqs];refine List.map_congr_left fun j hj => ?_;have hne : j ≠ k := fun e => hI.noq hs (e ▸ hj);rw [if_neg hne]) (fun j hj => hI.qhas hj)
  exact this
theorem locks_le (h : Sm A b) (hI : A.Inv m) : b.locks.length + b.Q.length ≤ 1024 := by
  have h1 := h.count hI;have h2 := hI.cnt;unfold RB.count at h1;omega
end Sm
end Go.KL
end

section
/- Walks: Holds, waits of the document's book. -/
namespace Go.KL
open Go.Proofs Go.Proofs.Tryz
def Rg.hv (g : Rg) (k : Nat) : Value := if 1 ≤ k ∧ (g.rb.tx k).inP = true then ((g.ts[k - 1]?).elim (.slice none 0 0) Dt.lv) else .slice none 0 0
theorem hv_in {g : Rg} {k : Nat} {t : Dt} (hk : 1 ≤ k) (ht : g.ts[k - 1]? = some t) : g.hv k = if t.rt.inP = true then t.lv else .slice none 0 0 := by
  unfold Rg.hv;rw [rb_tx ht, ht];by_cases c : t.rt.inP = true
  · rw [if_pos ⟨hk, c⟩, if_pos c];rfl
  · rw [if_neg fun h => c h.2, if_neg c]
theorem hv_out {g : Rg} {k : Nat} (hk : ¬ (1 ≤ k ∧ k ≤ g.ts.length)) : g.hv k = .slice none 0 0 := by
  unfold Rg.hv;split
  · rw [List.getElem?_eq_none (by omega)];rfl
  · rfl
theorem hv_ev {C : World → Prop} {g : Rg} (hV : RV C g) (k : Nat) : EV C (g.hv k) 4 (lks (g.rb.held k)) := by
  by_cases c : 1 ≤ k ∧ k ≤ g.ts.length
  · obtain ⟨t, ht⟩ : ∃ t, g.ts[k - 1]? = some t := ⟨g.ts[k - 1], List.getElem?_eq_getElem (by omega)⟩;rw [hv_in c.1 ht];by_cases hp : t.rt.inP = true
    · rw [if_pos hp, RB.held, if_pos ⟨rb_has.2 c, by rw [rb_tx ht]; exact hp⟩, rb_tx ht];exact (hV.tx t (List.mem_of_getElem? ht)).l
    · rw [if_neg hp, RB.held, if_neg (by rw [rb_tx ht]; exact fun h => hp h.2)];exact EV.empty
  · rw [hv_out c, RB.held, if_neg (fun h => c (rb_has.1 h.1))];exact EV.empty
attribute [local irreducible] SC St Fin Sq Ylds Doos Sets Enters Spec CellIs CellsAre Then Ret Rnd Chn resOK ints bools recs arr
section
variable {W : World} {N : List Chunk} {g : Rg}
theorem Hv_spec (hV : RV (K W N) g) {k : Nat} : Spec prog 57 #[g.val, .int .i64 (k : Nat)] (K W N) (fun _ : Unit => g.hv k) (fun _ => K W N) := by
  have hl : (dtl g.ts).length = g.ts.length := List.length_map _;have hn := hV.n;refine enter (args := [_, _]) func57 rfl ntmps57 rfl ?_;by_cases c : 1 ≤ k ∧ k ≤ g.ts.length
  · obtain ⟨t, ht⟩ : ∃ t, g.ts[k - 1]? = some t := ⟨g.ts[k - 1], List.getElem?_eq_getElem (by omega)⟩;obtain ⟨jx, hjx⟩ : ∃ jx, jx = k - 1 := ⟨_, rfl⟩;rw [hv_in c.1 ht];refine csr (sbx fun b2 => ?_);refine sa ?_;refine snf (c_seq (csr (sy (y_loadA tab rfl rfl rfl rfl (cells_row0 0 rfl rfl)) ?_)));refine sm ?_;refine sk call88 (Is_spec hV.cons) fun _ => ?_;rw [decide_eq_true (show 1 ≤ (k : Int) ∧ (k : Int) ≤ g.ts.length from by omega)];have hE : EV (K W ([(b2, row 42 g.cells)] :: N)) g.tv 3 (dtl g.ts) := hV.t.cons;have hrow := hE.row (i := jx) (x := t.cells) (by simp [hjx, ht]);refine sy (y_notT rfl) ?_;refine sm ?_;refine sf 2 ?_;refine slr 0 ?_;refine sm ?_;refine sy (y_sub rfl rfl (by omega)) ?_;refine sy (y_ixE tab rfl rfl rfl rfl (hE) jx (by omega) (by omega)) ?_;refine sy (y_loadA tab rfl rfl rfl rfl hrow) ?_;refine sk call54 (In_spec (t := t)) fun _ => ?_;cases hp : t.rt.inP with
    | false =>
      rw [if_neg (by decide)];refine sy (y_notF rfl) ?_;refine spF ?_;refine snf (c_condT rfl (csr (sa ?_)));refine snf (c_ret (f_thenR ?_));exact f_ret () (res1 rfl rfl) (fun w h => h.tail)
    | true =>
      rw [if_pos rfl];refine sy (y_notT rfl) ?_;refine spF ?_;refine snf (c_condF rfl (c_skip (f_then (csr (sf 2 ?_)))));refine slr 0 ?_;refine sm ?_;refine sy (y_sub rfl rfl (by omega)) ?_;refine sy (y_ixE tab rfl rfl rfl rfl (hE) jx (by omega) (by omega)) ?_;refine sy (y_fieldAddr tab 1 rfl rfl rfl rfl rfl) ?_;refine sl (CellsAre.nth 1 (hrow) rfl) ?_;refine sa ?_;refine snf (c_ret ?_);exact f_ret () (res1 rfl rfl) (fun w h => h.tail)
  · rw [hv_out c];refine csr (sbx fun b2 => ?_);refine sa ?_;refine snf (c_seq (csr (sy (y_loadA tab rfl rfl rfl rfl (cells_row0 0 rfl rfl)) ?_)));refine sm ?_;refine sk call88 (Is_spec hV.cons) fun _ => ?_;rw [decide_eq_false (show ¬ (1 ≤ (k : Int) ∧ (k : Int) ≤ g.ts.length) from by omega)];refine sy (y_notF rfl) ?_;refine sm ?_
    iterate 8 refine s_skip rfl rfl rfl ?_
    refine spT ?_;refine snf (c_condT rfl (csr (sa ?_)));refine snf (c_ret (f_thenR ?_));exact f_ret () (res1 rfl rfl) (fun w h => h.tail)
end
end Go.KL
end

section
/- Walks: waits of the document's book. -/
namespace Go.KL
open Go.Proofs Go.Proofs.Tryz
attribute [local irreducible] SC St Fin Sq Ylds Doos Sets Enters Spec CellIs CellsAre Then Ret Rnd Chn resOK ints bools recs arr
section
variable {W : World} {N : List Chunk} {g : Rg}
theorem waits_spec (hV : RV (K W N) g) {t u : Nat} (hq : g.Q.length < 100000) (hh : (g.rb.held u).length < 100000) : Spec prog 120 #[g.val, .int .i64 (t : Nat), .int .i64 (u : Nat)] (K W N) (fun _ : Unit => .bool (decide (g.rb.waits t u))) (fun _ => K W N) := by
  have hlq : (lks g.Q).length = g.Q.length := List.length_map _;obtain ⟨R, hR⟩ : ∃ R, R = decide (g.rb.waits t u) := ⟨_, rfl⟩;rw [← hR];refine enter (args := [_, _, _]) func120 rfl ntmps120 rfl ?_;refine csr (sbx fun b3 => ?_);refine sa ?_;refine snf (c_seq (csr (sa ?_)));refine snf (c_block (c_loopP (α := Nat) (fun z => [(1, .int .i64 (t : Nat)), (2, .int .i64 (u : Nat)), (3, .pointer (some ⟨b3, 0, none⟩)), (7, .int .i64 (z : Nat))]) (fun z => z ≤ g.Q.length ∧ ∀ i x, i < z → g.Q[i]? = some x → x.tx = t → ∀ y ∈ g.rb.held u ++ g.Q.take i, y.tx = u → cfr x y = false) (fun _ => K W ([(b3, row 42 g.cells)] :: N)) (fun z => g.Q.length - z) 0 ⟨rfl, rfl, rfl, rfl, trivial⟩ ⟨Nat.zero_le _, fun i x h => by omega⟩ (fun w h => h) ?_));rintro z ⟨hz, hno⟩;have hV3 : RV (K W ([(b3, row 42 g.cells)] :: N)) g := hV.cons;have hQ := hV3.q;by_cases c : z < g.Q.length
  · obtain ⟨x, hx⟩ : ∃ x, g.Q[z]? = some x := ⟨g.Q[z], List.getElem?_eq_getElem c⟩;have hrow := hQ.row (lks_get hx);have hstep : (x.tx = t → ∀ y ∈ g.rb.held u ++ g.Q.take z, y.tx = u → cfr x y = false) → ∀ i y, i < z + 1 → g.Q[i]? = some y → y.tx = t → ∀ v ∈ g.rb.held u ++ g.Q.take i, v.tx = u → cfr y v = false := fun h i y hi hy => by
      by_cases e : i = z
      · subst e;rw [hx] at hy;obtain rfl := Option.some.inj hy;exact h
      · exact hno i y (by omega) hy
    by_cases cx : x.tx = t
    · have cxi : (x.tx : Int) = (t : Int) := by omega
      have hnx : ¬ ((x.tx : Int) ≠ (t : Int)) := fun h => h cxi;refine c_seq (csr (sm ?_));refine sf 3 ?_;refine slr 0 ?_;refine sy (y_lenE tab rfl (hQ) rfl) ?_;refine sy (y_T (y_lss rfl rfl) (by omega)) ?_;refine snf (c_condT rfl (c_skip (f_then (c_seq (c_block (c_seq (csr (sf 3 ?_))))))));refine slr 0 ?_;refine sm ?_;refine sy (y_ixE tab rfl rfl rfl rfl (hQ) _ rfl (by omega)) ?_;refine sf0 ?_;refine sl (CellsAre.at0 (hrow) rfl) ?_;refine sm ?_;refine sy (y_F (y_neq rfl rfl) (by assumption)) ?_;refine snf (c_condF rfl (c_skip (f_then (csr (sf 3 ?_)))));refine slr 0 ?_;refine sm ?_;refine sy (y_ixE tab rfl rfl rfl rfl (hQ) _ rfl (by omega)) ?_;refine sy (y_loadA tab rfl rfl rfl rfl hrow) ?_;refine sal fun b8 => ?_;refine ss (set_box tab 0 rfl rfl rfl rfl rfl rfl rfl) ?_;refine snf (c_seq ?_);obtain ⟨N0, hN0⟩ : ∃ N0, N0 = [(b8, row 111 (lkc x))] :: [(b3, row 42 g.cells)] :: N := ⟨_, rfl⟩;have hV0 : RV (K W N0) g := by rw [hN0]; exact hV3.cons
      obtain ⟨F, hF⟩ : ∃ F : Option Nat → List Chunk, F = flo (fun b => [(b, row 111 [])]) := ⟨_, rfl⟩;have hD : ∀ (A : List Chunk) (y : Option Nat) (w : World), K W (A ++ (F y ++ N0)) w → K W N0 w := fun A y w h => K.bck (K.bck h);have hVy : ∀ y, RV (K W ([] ++ (F y ++ N0))) g := fun y => hV0.cls (hD [] y);have hc3 : CellsAre (K W N0) ⟨b3, 0, none⟩ g.cells := by rw [hN0]; exact cells_row0 1 rfl rfl
      have hqt := hV0.q.upto (k := z) (by omega);have hal : ∀ (A : List Chunk) {σ : Slots} {o : Oper}, Doos prog 62 σ (K W (A ++ N0)) o (fun b => Value.slice (some ⟨b, 0, none⟩) 0 0) (fun b => K W ([(b, row 111 [])] :: (A ++ N0))) → Outs prog 62 σ (K W (A ++ (F none ++ N0))) o (fun b => Value.slice (some ⟨b, 0, none⟩) 0 0) (fun b => K W (A ++ (F (some b) ++ N0))) := fun A σ o h => by
        rw [hF];exact h.outs.conv fun b w hk => K.bckN (A := [[(b, row 111 [])]]) (B := A) hk
      have hqn : z ≤ g.q.c := by
        obtain ⟨pa, c', e, hc', _⟩ := hV.q.view;injection e with e1 e2 e3;omega
      refine SC.cls (C' := K W ([] ++ (F none ++ N0))) ?_ (fun w h => by rw [hF, hN0]; exact h);refine c_planJ (Y := Nat) 0 31 (fun b => .slice (some ⟨b, 0, none⟩) 0 0) [.c 1, .c 2, .c 5, .c 6, .c 7, .c 8, .s 3] [.s 4, .s 9, .s 10] (K W N0) (fun y => K W ([] ++ (F y ++ N0))) mixed (by kernel_rfl) rfl K.cl ?_;refine j_c rfl (Qui.ylds (y_loadA tab rfl rfl rfl rfl hc3)) rfl (fun _ => rfl) rfl rfl rfl rfl rfl (hD _) (fun _ => K.cl) ?_;refine j_c rfl (Qui.ylds (y_move rfl)) rfl (fun _ => rfl) rfl rfl rfl rfl rfl (hD _) (fun _ => K.cl) ?_;refine j_c rfl (Qui.ylds (y_fieldAddrB tab 3 rfl rfl rfl rfl rfl)) rfl (fun _ => rfl) rfl rfl rfl rfl rfl (hD _) (fun _ => K.cl) ?_;refine j_c rfl (Qui.ylds (y_load tab rfl rfl (CellsAre.nth 3 hc3 rfl))) rfl (fun _ => rfl) rfl rfl rfl rfl rfl (hD _) (fun _ => K.cl) ?_;refine j_c rfl (Qui.ylds (y_move rfl)) rfl (fun _ => rfl) rfl rfl rfl rfl rfl (hD _) (fun _ => K.cl) ?_;refine j_c rfl (Qui.ylds (y_sliceTo tab rfl rfl rfl rfl rfl (by omega))) rfl (fun _ => rfl) rfl rfl rfl rfl rfl (hD _) (fun _ => K.cl) ?_;refine j_s (X := Unit) (v := fun _ => g.hv u) (C' := fun _ y => K W ([] ++ (F y ++ N0))) rfl rfl (fun y => Outs.call (en_f rfl call57) (Hv_spec (hVy y))) (hal [] (do_buildSliceS (vs := []) (len := 0) (ps := []) tab ⟨rfl, rfl, rfl, rfl⟩ rfl rfl rfl rfl)) rfl (fun _ => rfl) rfl rfl rfl rfl rfl rfl rfl (fun _ => K.cl) (fun _ _ => K.cl) (hD _) (fun _ y => hD _ y) (fun _ => ?_);refine j_j rfl (hal [] (do_buildSliceS (vs := []) (len := 0) (ps := []) tab ⟨rfl, rfl, rfl, rfl⟩ rfl rfl rfl rfl)) rfl rfl rfl (fun _ => K.cl) (hD _) (fun b31 => ?_);refine Sd.cls (C' := K W ([(b31, row 111 [])] :: N0)) ?_ (fun w h => by rw [hF] at h; exact h);have hle : (lks (g.rb.held u)).length = (g.rb.held u).length := List.length_map _;refine d_s rfl (do_appendRV (by_ := 32) tab 0 rfl .lit rfl (hv_ev (hV0.cls fun _ h => h.tail) u) ⟨rfl, rfl, rfl, rfl⟩ rfl (by omega) (Nat.lt_of_sub_eq_succ rfl) rfl (lks_all _) (by simp only [List.length_nil]; omega) (by omega)) rfl rfl rfl (fun _ => K.cl) (fun _ _ _ h => h.tail) (fun y => ?_);obtain ⟨⟨v, cc⟩, hB⟩ := y;have hB : BufR 111 4 v cc (lks (g.rb.held u)) := hB;dsimp only;refine d_s rfl (do_appendRV (by_ := 32) tab 0 rfl hB rfl (hqt.cls fun _ h => h.tail) ⟨rfl, rfl, rfl, rfl⟩ rfl (by omega) (Nat.lt_of_sub_eq_succ rfl) rfl (fun r hr => lks_all _ r (List.mem_of_mem_take hr)) (by rw [List.length_take, List.length_map, List.length_map]; omega) (by omega)) rfl rfl rfl (fun _ => K.cl) (fun _ _ _ h => h.tail) (fun y => ?_);obtain ⟨⟨v, cc⟩, hB⟩ := y;obtain ⟨al, hal2⟩ : ∃ al, al = g.rb.held u ++ g.Q.take z := ⟨_, rfl⟩;have hB : BufR 111 4 v cc (lks al) := hB.of (by rw [hal2]; simp [lks, List.map_take]);have hall : al.length < 200000 := by rw [hal2, List.length_append, List.length_take]; omega
      dsimp only;refine d_sy rfl (y_assign rfl) rfl rfl rfl K.cl (fun _ _ h => h.tail) ?_;refine d_nil (Fin.cls (C' := K W (cc :: [(b8, row 111 (lkc x))] :: [(b3, row 42 g.cells)] :: N)) ?_ (fun w h => by rw [hN0] at h; exact h));have hE : EV (K W (cc :: [(b8, row 111 (lkc x))] :: [(b3, row 42 g.cells)] :: N)) v 4 (lks al) := hB.view (Hs.at 0 rfl);have hla : (lks al).length = al.length := List.length_map _;rw [← hal2] at hstep;have hyes : ∀ y ∈ al, y.tx = u → cfr x y = true → R = true := fun y hy hyu hc => by
        rw [hR];exact decide_eq_true ⟨z, x, hx, cx, y, by rw [hal2] at hy; exact hy, hyu, hc⟩
      clear hD hVy hal hqt hc3 hB hal2 hle;refine f_then (csr (sa ?_));refine snf (c_block (c_loopP (α := Nat) (fun k => [(1, .int .i64 (t : Nat)), (2, .int .i64 (u : Nat)), (3, .pointer (some ⟨b3, 0, none⟩)), (7, .int .i64 (z : Nat)), (8, .pointer (some ⟨b8, 0, none⟩)), (9, v), (10, .int .i64 (k : Nat))]) (fun k => k ≤ al.length ∧ ∀ y ∈ al.take k, y.tx = u → cfr x y = false) (fun _ => K W (cc :: [(b8, row 111 (lkc x))] :: [(b3, row 42 g.cells)] :: N)) (fun k => al.length - k) 0 ⟨rfl, rfl, rfl, rfl, rfl, rfl, rfl, trivial⟩ ⟨Nat.zero_le _, fun y hy => by simp at hy⟩ (fun w h => h) ?_));rintro k ⟨hk, hnk⟩;by_cases ck : k < al.length
      · obtain ⟨y, hy⟩ : ∃ y, al[k]? = some y := ⟨al[k], List.getElem?_eq_getElem ck⟩;have hry := hE.row (lks_get hy);have hym := List.mem_of_getElem? hy;have htk : al.take (k + 1) = al.take k ++ [y] := by rw [List.take_add_one, hy]; rfl
        have hD := fun (w : World) (h : K W (cc :: [(b8, row 111 (lkc x))] :: [(b3, row 42 g.cells)] :: N) w) => h;have hc8 : CellsAre (K W (cc :: [(b8, row 111 (lkc x))] :: [(b3, row 42 g.cells)] :: N)) ⟨b8, 0, none⟩ (lkc x) := cells_row0 1 rfl rfl;by_cases cy : y.tx = u
        · have cyi : (y.tx : Int) = (u : Int) := by omega
          refine c_seq (csr (sm ?_));refine sm ?_;refine sy (y_lenE tab rfl (hE) rfl) ?_;refine sy (y_T (y_lss rfl rfl) (by omega)) ?_;refine snf (c_condT rfl (c_skip (f_then (c_seq (c_block (c_seq (c_plan [.c 0, .c 1, .c 2, .c 3, .c 4, .c 5, .c 6, .c 7, .c 8, .c 9, .c 10, .c 11, .c 12, .s 13, .c 14] [] ((K W (cc :: [(b8, row 111 (lkc x))] :: [(b3, row 42 g.cells)] :: N))) mixed (by kernel_rfl) rfl K.cl ?_)))))));refine dy rfl (y_move rfl) hD ?_;refine dy rfl (y_move rfl) hD ?_;refine dy rfl (y_ixE tab rfl rfl rfl rfl (hE) _ rfl (by omega)) hD ?_;refine dy rfl (y_fieldAddr0 tab rfl rfl rfl rfl rfl) hD ?_;refine dy rfl (y_load tab rfl rfl (CellsAre.at0 (hry) rfl)) hD ?_;refine dy rfl (y_move rfl) hD ?_;refine dy rfl (y_T (y_eql rfl rfl) (by assumption)) hD ?_;refine dy rfl (y_move rfl) hD ?_;refine dy rfl (y_loadA tab rfl rfl rfl rfl hc8) hD ?_;refine dy rfl (y_move rfl) hD ?_;refine dy rfl (y_move rfl) hD ?_;refine dy rfl (y_ixE tab rfl rfl rfl rfl (hE) _ rfl (by omega)) hD ?_;refine dy rfl (y_loadA tab rfl rfl rfl rfl hry) hD ?_;refine d_call rfl (en_f rfl call76) (Conflict_spec (a := x) (b := y)) rfl rfl rfl (fun _ => K.cl) (fun _ _ _ h => h) (fun _ => ?_);cases hcf : cfr x y with
          | false =>
            refine dy rfl (y_pickT rfl rfl) hD ?_;refine d_nil (f_then (c_condF rfl (c_skip (f_blockN (f_then (c_region (sm ?_)))))));refine sy (y_add rfl rfl (by omega)) ?_;refine sa ?_;refine s_nil (f_roundP (k + 1) ⟨ck, fun s hs hu => ?_⟩ (by omega) ⟨rfl, rfl, rfl, rfl, rfl, rfl, rfl, trivial⟩ (fun w h => h));rw [htk] at hs;rcases List.mem_append.1 hs with hs | hs
            · exact hnk s hs hu
            · rw [List.mem_singleton.1 hs]; exact hcf
          | true =>
            rw [hyes y hym cy hcf];refine dy rfl (y_pickT rfl rfl) hD ?_;refine d_nil (f_then (c_condT rfl (csr (sa ?_))));refine snf (c_ret (f_blockR (f_thenR (f_rndR (f_blockR (f_blockR (f_thenR (f_rndR (f_blockR (f_thenR ?_))))))))));exact f_ret () (res1 rfl rfl) (fun w h => h.tail.tail.tail)
        · have cyi : ¬ (y.tx : Int) = (u : Int) := by omega
          refine c_seq (csr (sm ?_));refine sm ?_;refine sy (y_lenE tab rfl (hE) rfl) ?_;refine sy (y_T (y_lss rfl rfl) (by omega)) ?_;refine snf (c_condT rfl (c_skip (f_then (c_seq (c_block (c_seq (c_plan [.c 0, .c 1, .c 2, .c 3, .c 4, .c 5, .c 6, .c 7, .c 8, .c 9, .c 10, .c 11, .c 12, .s 13, .c 14] [] ((K W (cc :: [(b8, row 111 (lkc x))] :: [(b3, row 42 g.cells)] :: N))) mixed (by kernel_rfl) rfl K.cl ?_)))))));refine dy rfl (y_move rfl) hD ?_;refine dy rfl (y_move rfl) hD ?_;refine dy rfl (y_ixE tab rfl rfl rfl rfl (hE) _ rfl (by omega)) hD ?_;refine dy rfl (y_fieldAddr0 tab rfl rfl rfl rfl rfl) hD ?_;refine dy rfl (y_load tab rfl rfl (CellsAre.at0 (hry) rfl)) hD ?_;refine dy rfl (y_move rfl) hD ?_;refine dy rfl (y_F (y_eql rfl rfl) (by assumption)) hD ?_;refine dy rfl (y_move rfl) hD ?_;refine d_skip rfl rfl rfl rfl hD K.cl ?_;refine d_skip rfl rfl rfl rfl hD K.cl ?_;refine d_skip rfl rfl rfl rfl hD K.cl ?_;refine d_skip rfl rfl rfl rfl hD K.cl ?_;refine d_skip rfl rfl rfl rfl hD K.cl ?_;refine d_sskip rfl rfl rfl rfl (fun _ _ h => h) ?_;refine dy rfl (y_pickF rfl rfl) hD ?_;refine d_nil (f_then (c_condF rfl (c_skip (f_blockN (f_then (c_region (sm ?_)))))));refine sy (y_add rfl rfl (by omega)) ?_;refine sa ?_;refine s_nil (f_roundP (k + 1) ⟨ck, fun s hs hu => ?_⟩ (by omega) ⟨rfl, rfl, rfl, rfl, rfl, rfl, rfl, trivial⟩ (fun w h => h));rw [htk] at hs;rcases List.mem_append.1 hs with hs | hs
          · exact hnk s hs hu
          · rw [List.mem_singleton.1 hs] at hu; exact absurd hu cy
      · obtain rfl : k = al.length := by omega
        rw [List.take_length] at hnk;refine c_seq (csr (sm ?_));refine sm ?_;refine sy (y_lenE tab rfl (hE) rfl) ?_;refine sy (y_F (y_lss rfl rfl) (by omega)) ?_;refine snf (c_condF rfl (c_exit (f_thenE (f_rndE (f_blockE (f_blockN (f_then (c_region (sm ?_)))))))));refine sy (y_add rfl rfl (by omega)) ?_;refine sa ?_;refine s_nil ?_;exact f_roundP (z + 1) ⟨c, hstep fun _ => hnk⟩ (by omega) ⟨rfl, rfl, rfl, rfl, trivial⟩ (fun w h => h.tail.tail)
    · have cxi : (x.tx : Int) ≠ (t : Int) := by omega
      refine c_seq (csr (sm ?_));refine sf 3 ?_;refine slr 0 ?_;refine sy (y_lenE tab rfl (hQ) rfl) ?_;refine sy (y_T (y_lss rfl rfl) (by omega)) ?_;refine snf (c_condT rfl (c_skip (f_then (c_seq (c_block (c_seq (csr (sf 3 ?_))))))));refine slr 0 ?_;refine sm ?_;refine sy (y_ixE tab rfl rfl rfl rfl (hQ) _ rfl (by omega)) ?_;refine sf0 ?_;refine sl (CellsAre.at0 (hrow) rfl) ?_;refine sm ?_;refine sy (y_T (y_neq rfl rfl) (by assumption)) ?_;refine snf (c_condT rfl (c_exit (f_thenE (f_blockE (f_then (c_region (sm ?_)))))));refine sy (y_add rfl rfl (by omega)) ?_;refine sa ?_;refine s_nil ?_;exact f_roundP (z + 1) ⟨c, hstep fun h => absurd h cx⟩ (by omega) ⟨rfl, rfl, rfl, rfl, trivial⟩ (fun w h => h)
  · obtain rfl : z = g.Q.length := by omega
    have hf : R = false := by
      rw [hR];refine decide_eq_false ?_;rintro ⟨i, x, hx, hxt, y, hy, hyu, hc⟩;have hi : i < g.Q.length := by
        rcases Nat.lt_or_ge i g.Q.length with h | h
        · exact h
        · have : g.Q[i]? = some x := hx;rw [List.getElem?_eq_none h] at this;cases this
      rw [hno i x hi hx hxt y hy hyu] at hc;cases hc
    rw [hf];refine c_seq (csr (sm ?_));refine sf 3 ?_;refine slr 0 ?_;refine sy (y_lenE tab rfl (hQ) rfl) ?_;refine sy (y_F (y_lss rfl rfl) (by omega)) ?_;refine snf (c_condF rfl (c_exit (f_thenE (f_rndE (f_blockE (f_then (csr (sa ?_))))))));refine snf (c_ret ?_);exact f_ret () (res1 rfl rfl) (fun w h => h.tail)
end
end Go.KL
end

section
/- Walks: reach, Deadlock of the document's book. -/
namespace Go.KL
open Go.Proofs Go.Proofs.Tryz Relation
theorem BufR.lit1 {e : TypeId} {b : Nat} {v : Value} : BufR e 1 (.slice (some ⟨b, 0, none⟩) 1 1) [(b, row e [v])] [[v]] := ⟨fun r hr => by rw [List.mem_singleton.1 hr]; rfl, ⟨.inr ⟨⟨b, 1, [], []⟩, rfl, rfl, ⟨Nat.le_refl _, (by simp; decide), by simp, by simp⟩, rfl⟩⟩⟩
structure RcS (b : RB) (t : Nat) (F : List Nat) (O : Nat → Bool) : Prop where
  hd : F[0]? = some t
  nd : F.tail.Nodup
  tl : ∀ v, v ∈ F.tail ↔ (b.has v ∧ O v = true)
  rc : ∀ v, b.has v → O v = true → TransGen b.E t v
namespace RcS
variable {b : RB} {t : Nat} {F : List Nat} {O : Nat → Bool}
theorem start : RcS b t [t] (fun _ => false) := ⟨rfl, List.nodup_nil, fun v => by simp, fun v _ h => by cases h⟩
theorem ne (h : RcS b t F O) : ∃ G, F = t :: G := by
  have := h.hd;cases F with
  | nil => cases this
  | cons a G => exact ⟨G, by rw [show a = t from Option.some.inj this]⟩
theorem len (h : RcS b t F O) : F.length ≤ b.T.length + 1 := by
  obtain ⟨G, rfl⟩ := h.ne;have h1 := nodup_len (l := G) (m := (List.range b.T.length).map (· + 1)) h.nd fun x hx => by
    have := ((h.tl x).1 hx).1;unfold RB.has at this;exact List.mem_map.2 ⟨x - 1, List.mem_range.2 (by omega), by omega⟩
  rw [List.length_map, List.length_range] at h1;rw [List.length_cons];omega
theorem from_ (h : RcS b t F O) {i w : Nat} (hi : F[i]? = some w) : w = t ∨ TransGen b.E t w := by
  obtain ⟨G, rfl⟩ := h.ne;rcases List.mem_cons.1 (List.mem_of_getElem? hi) with e | e
  · exact .inl e
  · obtain ⟨h1, h2⟩ := (h.tl w).1 e;exact .inr (h.rc w h1 h2)
theorem mem (h : RcS b t F O) {v : Nat} (hv : b.has v) (ho : O v = true) : ∃ i : Nat, F[i]? = some v := by
  have := (h.tl v).2 ⟨hv, ho⟩;obtain ⟨G, rfl⟩ := h.ne;obtain ⟨i, hi, e⟩ := List.mem_iff_getElem.1 (List.mem_cons_of_mem t this);exact ⟨i, by show (t :: (t :: G).tail)[i]? = _; rw [List.getElem?_eq_getElem hi, e]⟩
theorem add (h : RcS b t F O) {i w u : Nat} (hi : F[i]? = some w) (hE : b.E w u) (ho : O u = false) : RcS b t (F ++ [u]) (upd O u true) := by
  have hw := h.from_ hi;obtain ⟨G, rfl⟩ := h.ne;refine ⟨rfl, ?_, fun v => ?_, fun v hv hv2 => ?_⟩
  · show (G ++ [u]).Nodup;refine List.nodup_append.2 ⟨h.nd, by simp, fun a ha c hc => ?_⟩;rw [List.mem_singleton.1 hc];rintro rfl;rw [((h.tl a).1 ha).2] at ho;cases ho
  · show v ∈ G ++ [u] ↔ _;rw [List.mem_append, List.mem_singleton, show v ∈ G ↔ _ from h.tl v];by_cases e : v = u
    · rw [e, upd_same];exact ⟨fun _ => ⟨hE.1, rfl⟩, fun _ => .inr rfl⟩
    · rw [upd_ne _ _ e];simp [e]
  · by_cases e : v = u
    · rw [e];rcases hw with rfl | hw
      · exact .single hE
      · exact hw.tail hE
    · rw [upd_ne _ _ e] at hv2;exact h.rc v hv hv2
theorem done (h : RcS b t F O) (hd : ∀ (i w : Nat), F[i]? = some w → ∀ v, b.E w v → O v = true) {v : Nat} (hv : b.has v) : O v = true ↔ TransGen b.E t v := by
  refine ⟨h.rc v hv, fun c => ?_⟩;induction c with
  | single e => exact hd 0 t h.hd _ e
  | @tail w v c0 e ih =>
    have hw : b.has w := by
      cases c0 with
      | single e => exact e.1
      | tail _ e => exact e.1
    obtain ⟨i, hi⟩ := h.mem hw (ih hw);exact hd i w hi v e
end RcS
abbrev nrs (F : List Nat) : List (List Value) := F.map fun v => [.int .i64 (v : Nat)]
theorem nrs_get {F : List Nat} {i v : Nat} (h : F[i]? = some v) : (nrs F)[i]? = some [.int .i64 (v : Nat)] := by simp [h]
attribute [local irreducible] SC St Fin Sq Ylds Doos Sets Enters Spec CellIs CellsAre Then Ret Rnd Chn resOK ints bools recs arr
section
variable {W : World} {N : List Chunk} {g : Rg}
theorem reach_spec (hV : RV (K W N) g) {t : Nat} (hq : g.Q.length < 100000) (hh : ∀ u, (g.rb.held u).length < 100000) (hnn : g.ts.length < 100000) : Spec prog 100 #[g.val, .int .i64 (t : Nat)] (K W N) (X := { x : Nat × (Nat → Bool) // ∀ v, g.rb.has v → (x.2 v = true ↔ TransGen g.rb.E t v) }) (fun x => .slice (some ⟨x.1.1, 0, none⟩) (g.ts.length + 1) (g.ts.length + 1)) (fun x => K W ([(x.1.1, bools 4 (g.ts.length + 1) x.1.2 [])] :: N)) := by
  have hdl : (dtl g.ts).length = g.ts.length := List.length_map _;have hTl : g.rb.T.length = g.ts.length := List.length_map _;refine enter (args := [_, _]) func100 rfl ntmps100 rfl ?_;refine csr (sbx fun b2 => ?_);refine sa ?_;refine snf (csr (sf 2 ?_));refine slr 0 ?_;refine sy (y_len tab rfl rfl) ?_;refine sy (y_add rfl rfl (by omega)) ?_;refine s_do (make_bools (by_ := 1) (m := g.ts.length + 1) tab rfl rfl rfl rfl rfl (by omega) (by omega)) rfl rfl rfl (fun b13 => ?_);refine sa ?_;refine snf (csr (sm ?_));refine s_do (do_buildSlice1 tab ⟨rfl, rfl, rfl, rfl⟩ rfl rfl rfl rfl) rfl rfl rfl (fun b15 => ?_);refine sa ?_;refine snf (c_seq (csr (sa ?_)));refine snf (c_block ?_);obtain ⟨n, hn⟩ : ∃ n, n = g.ts.length := ⟨_, rfl⟩;rw [← hn] at hdl hTl hnn ⊢;refine SC.cls (C' := K W ([(b15, row 3 [.int .i64 (t : Nat)])] :: [(b13, bools 4 (n + 1) (fun _ => false) [])] :: [(b2, row 42 g.cells)] :: N)) ?_ (fun w h => h);refine c_loopP (α := Nat × List Nat × (Nat → Bool) × Value × Chunk) (fun z => [(2, .pointer (some ⟨b2, 0, none⟩)), (5, .slice (some ⟨b13, 0, none⟩) (n + 1) (n + 1)), (6, z.2.2.2.1), (7, .int .i64 (z.1 : Nat))])
    (fun z => z.1 ≤ z.2.1.length ∧ RcS g.rb t z.2.1 z.2.2.1 ∧ BufR 3 1 z.2.2.2.1 z.2.2.2.2 (nrs z.2.1) ∧ ∀ i w, i < z.1 → z.2.1[i]? = some w → ∀ v, g.rb.E w v → z.2.2.1 v = true) (fun z => K W (z.2.2.2.2 :: [(b13, bools 4 (n + 1) z.2.2.1 [])] :: [(b2, row 42 g.cells)] :: N)) (fun z => n + 1 - z.1) (0, [t], (fun _ => false), .slice (some ⟨b15, 0, none⟩) 1 1, [(b15, row 3 [.int .i64 (t : Nat)])])
    ⟨rfl, rfl, rfl, rfl, trivial⟩ ⟨Nat.zero_le _, .start, .lit1, fun i w h => by omega⟩ (fun w h => h) ?_
  rintro ⟨i, F, O, fv, fc⟩ ⟨hi, hS, hB, hdn⟩;dsimp only at hi hS hB hdn ⊢;have hFl := hS.len;rw [hTl] at hFl;have hnl : (nrs F).length = F.length := List.length_map _;by_cases c : i < F.length
  · obtain ⟨w0, hw0⟩ : ∃ w0, F[i]? = some w0 := ⟨F[i], List.getElem?_eq_getElem c⟩;have hEF : EV (K W (fc :: [(b13, bools 4 (n + 1) O [])] :: [(b2, row 42 g.cells)] :: N)) fv 1 (nrs F) := hB.view (Hs.at 0 rfl);refine c_seq (csr (sm ?_));refine sm ?_;refine sy (y_lenE tab rfl (hEF) rfl) ?_;refine sy (y_T (y_lss rfl rfl) (by omega)) ?_;refine snf (c_condT rfl (c_skip (f_then (c_seq (c_block (csr (sa ?_)))))));refine snf (c_block ?_);refine c_loopP (α := Nat × List Nat × (Nat → Bool) × Value × Chunk) (fun z => [(2, .pointer (some ⟨b2, 0, none⟩)), (5, .slice (some ⟨b13, 0, none⟩) (n + 1) (n + 1)), (6, z.2.2.2.1), (7, .int .i64 (i : Nat)), (8, .int .i64 (z.1 : Nat))])
      (fun z => (1 ≤ z.1 ∧ z.1 ≤ n + 1) ∧ i < z.2.1.length ∧ z.2.1[i]? = some w0 ∧ RcS g.rb t z.2.1 z.2.2.1 ∧ BufR 3 1 z.2.2.2.1 z.2.2.2.2 (nrs z.2.1) ∧ (∀ j w, j < i → z.2.1[j]? = some w → ∀ v, g.rb.E w v → z.2.2.1 v = true) ∧ ∀ v, v < z.1 → g.rb.E w0 v → z.2.2.1 v = true) (fun z => K W (z.2.2.2.2 :: [(b13, bools 4 (n + 1) z.2.2.1 [])] :: [(b2, row 42 g.cells)] :: N)) (fun z => n + 1 - z.1) (1, F, O, fv, fc)
      ⟨rfl, rfl, rfl, rfl, rfl, trivial⟩ ⟨by omega, c, hw0, hS, hB, hdn, fun v hv hE => by have := hE.1; unfold RB.has at this; omega⟩ (fun w h => h) ?_
    clear hS hB hdn hFl hnl hEF c hw0;rintro ⟨u, F, O, fv, fc⟩ ⟨⟨hu1, hu2⟩, c, hw0, hS, hB, hdn, hun⟩;dsimp only at hu1 hu2 c hw0 hS hB hdn hun ⊢;have hnl : (nrs F).length = F.length := List.length_map _;have hFl := hS.len;rw [hTl] at hFl;have hEF : EV (K W (fc :: [(b13, bools 4 (n + 1) O [])] :: [(b2, row 42 g.cells)] :: N)) fv 1 (nrs F) := hB.view (Hs.at 0 rfl);have hrow := hEF.row (nrs_get hw0);have hVc : RV (K W (fc :: [(b13, bools 4 (n + 1) O [])] :: [(b2, row 42 g.cells)] :: N)) g := hV.cons.cons.cons;by_cases cu : u ≤ n
    · have hhas : g.rb.has u := ⟨hu1, by rw [hTl]; exact cu⟩;have hD := fun (w : World) (h : K W (fc :: [(b13, bools 4 (n + 1) O [])] :: [(b2, row 42 g.cells)] :: N) w) => h;have hc13 := cell_bools (W := W) (Ls := fc :: [(b13, bools 4 (n + 1) O [])] :: [(b2, row 42 g.cells)] :: N) (b := b13) (k := u) (n := n + 1) (e := 4) (g := O) (rest := []) (c := []) 1 rfl (by omega);cases ho : O u with
      | true =>
        rw [ho] at hc13;have hun' : ∀ v, v < u + 1 → g.rb.E w0 v → O v = true := fun v hv hE => by
          by_cases e : v = u
          · rw [e]; exact ho
          · exact hun v (by omega) hE
        refine c_seq (csr (sm ?_));refine sf 2 ?_;refine slr 2 ?_;refine sy (y_len tab rfl rfl) ?_;refine sy (y_T (y_leq rfl rfl) (by omega)) ?_;refine snf (c_condT rfl (c_skip (f_then (c_seq (c_block (c_seq (c_plan [.c 0, .c 1, .c 2, .c 3, .c 4, .c 5, .c 6, .c 7, .c 8, .c 9, .c 10, .c 11, .s 12, .c 13] [] ((K W (fc :: [(b13, bools 4 (n + 1) O [])] :: [(b2, row 42 g.cells)] :: N))) mixed (by kernel_rfl) rfl K.cl ?_)))))));refine dy rfl (y_move rfl) hD ?_;refine dy rfl (y_move rfl) hD ?_;refine dy rfl (y_indexAddr1 tab rfl rfl rfl rfl _ rfl (by omega)) hD ?_;refine dy rfl (y_load tab rfl rfl hc13) hD ?_;refine dy rfl (y_notT rfl) hD ?_;refine dy rfl (y_move rfl) hD ?_;refine d_skip rfl rfl rfl rfl hD K.cl ?_;refine d_skip rfl rfl rfl rfl hD K.cl ?_;refine d_skip rfl rfl rfl rfl hD K.cl ?_;refine d_skip rfl rfl rfl rfl hD K.cl ?_;refine d_skip rfl rfl rfl rfl hD K.cl ?_;refine d_skip rfl rfl rfl rfl hD K.cl ?_;refine d_sskip rfl rfl rfl rfl (fun _ _ h => h) ?_;refine dy rfl (y_pickF rfl rfl) hD ?_;refine d_nil (f_then (c_condF rfl (c_skip (f_blockN (f_then (c_region (sm ?_)))))));refine sy (y_add rfl rfl (by omega)) ?_;refine sa ?_;refine s_nil ?_;exact f_roundP (u + 1, F, O, fv, fc) ⟨by dsimp only; omega, c, hw0, hS, hB, hdn, hun'⟩ (by dsimp only; omega) ⟨rfl, rfl, rfl, rfl, rfl, trivial⟩ (fun w h => h)
      | false =>
        rw [ho] at hc13;refine c_seq (csr (sm ?_));refine sf 2 ?_;refine slr 2 ?_;refine sy (y_len tab rfl rfl) ?_;refine sy (y_T (y_leq rfl rfl) (by omega)) ?_;refine snf (c_condT rfl (c_skip (f_then (c_seq (c_block (c_seq (c_plan [.c 0, .c 1, .c 2, .c 3, .c 4, .c 5, .c 6, .c 7, .c 8, .c 9, .c 10, .c 11, .s 12, .c 13] [] ((K W (fc :: [(b13, bools 4 (n + 1) O [])] :: [(b2, row 42 g.cells)] :: N))) mixed (by kernel_rfl) rfl K.cl ?_)))))));refine dy rfl (y_move rfl) hD ?_;refine dy rfl (y_move rfl) hD ?_;refine dy rfl (y_indexAddr1 tab rfl rfl rfl rfl _ rfl (by omega)) hD ?_;refine dy rfl (y_load tab rfl rfl hc13) hD ?_;refine dy rfl (y_notF rfl) hD ?_;refine dy rfl (y_move rfl) hD ?_;refine dy rfl (y_loadA tab rfl rfl rfl rfl (cells_row0 2 rfl rfl)) hD ?_;refine dy rfl (y_move rfl) hD ?_;refine dy rfl (y_move rfl) hD ?_;refine dy rfl (y_ixE tab rfl rfl rfl rfl (hEF) _ rfl (by omega)) hD ?_;refine dy rfl (y_load tab rfl rfl (CellsAre.at0 (hrow) rfl)) hD ?_;refine dy rfl (y_move rfl) hD ?_;refine d_call rfl (en_f rfl call120) (waits_spec hVc hq (hh u)) rfl rfl rfl (fun _ => K.cl) (fun _ _ _ h => h) (fun _ => ?_);by_cases hw : g.rb.waits w0 u
        · rw [decide_eq_true hw];have hE : g.rb.E w0 u := ⟨hhas, hw⟩;have hS2 := hS.add hw0 hE ho;have hl2 := hS2.len;rw [hTl, List.length_append] at hl2;have hup : ∀ v, O v = true → upd O u true v = true := fun v h => by
            unfold upd;split
            · rfl
            · exact h
          refine dy rfl (y_pickT rfl rfl) hD ?_;refine d_nil (f_then (c_condT rfl (csr (sm ?_))));refine sm ?_;refine sy (y_indexAddr1 tab rfl rfl rfl rfl _ rfl (by omega)) ?_;refine ss (set_bools tab 1 rfl rfl rfl rfl (by omega)) ?_;refine snf (c_region (sm ?_));refine sm ?_;refine s_do (do_buildSlice1 tab ⟨rfl, rfl, rfl, rfl⟩ rfl rfl rfl rfl) rfl rfl rfl (fun b48 => ?_);refine s_do (do_appendR (by_ := 8) (news := [.int .i64 (u : Nat)]) tab 1 rfl hB rfl ⟨rfl, rfl, rfl, rfl⟩ rfl (by simp) rfl (cells_row0 0 rfl rfl) rfl rfl (by omega) (by omega)) rfl rfl rfl (fun x => ?_);obtain ⟨⟨v, c2⟩, hB2⟩ := x;have hB2 : BufR 3 1 v c2 (nrs (F ++ [u])) := hB2.of (by simp);dsimp only;refine sa ?_;refine s_nil (f_blockN (f_then (c_region (sm ?_))));refine sy (y_add rfl rfl (by omega)) ?_;refine sa ?_;refine s_nil ?_;refine f_roundP (u + 1, F ++ [u], upd O u true, v, c2) ⟨by dsimp only; omega, by dsimp only; rw [List.length_append]; omega, by dsimp only; rw [List.getElem?_append_left c]; exact hw0, hS2, hB2, fun j w hj hw v hE => ?_, fun v hv hE => ?_⟩ (by dsimp only; omega) ⟨rfl, rfl, rfl, rfl, rfl, trivial⟩ (fun w h => h.tail)
          · dsimp only at hw;rw [List.getElem?_append_left (by omega)] at hw;exact hup v (hdn j w hj hw v hE)
          · by_cases e : v = u
            · rw [e]; exact upd_same _ _ _
            · exact hup v (hun v (by dsimp only at hv; omega) hE)
        · rw [decide_eq_false hw];refine dy rfl (y_pickT rfl rfl) hD ?_;refine d_nil (f_then (c_condF rfl (c_skip (f_blockN (f_then (c_region (sm ?_)))))));refine sy (y_add rfl rfl (by omega)) ?_;refine sa ?_;refine s_nil (f_roundP (u + 1, F, O, fv, fc) ⟨by dsimp only; omega, c, hw0, hS, hB, hdn, fun v hv hE => ?_⟩ (by dsimp only; omega) ⟨rfl, rfl, rfl, rfl, rfl, trivial⟩ (fun w h => h));by_cases e : v = u
          · rw [e] at hE; exact absurd hE.2 hw
          · exact hun v (by dsimp only at hv; omega) hE
    · obtain rfl : u = n + 1 := by omega
      refine c_seq (csr (sm ?_));refine sf 2 ?_;refine slr 2 ?_;refine sy (y_len tab rfl rfl) ?_;refine sy (y_F (y_leq rfl rfl) (by omega)) ?_;refine snf (c_condF rfl (c_exit (f_thenE (f_rndE (f_blockE (f_blockN (f_then (c_region (sm ?_)))))))));refine sy (y_add rfl rfl (by omega)) ?_;refine sa ?_;refine s_nil (f_roundP (i + 1, F, O, fv, fc) ⟨c, hS, hB, fun j w hj hw v hE => ?_⟩ (by dsimp only; omega) ⟨rfl, rfl, rfl, rfl, trivial⟩ (fun w h => h));by_cases e : j = i
      · rw [e, hw0] at hw;obtain rfl := Option.some.inj hw;have := hE.1;unfold RB.has at this;exact hun v (by omega) hE
      · exact hdn j w (by dsimp only at hj; omega) hw v hE
  · obtain rfl : i = F.length := by omega
    have hEF : EV (K W (fc :: [(b13, bools 4 (n + 1) O [])] :: [(b2, row 42 g.cells)] :: N)) fv 1 (nrs F) := hB.view (Hs.at 0 rfl);have hfin : ∀ v, g.rb.has v → (O v = true ↔ TransGen g.rb.E t v) := fun v hv => hS.done (fun i w hw v hE => hdn i w (by
      rcases Nat.lt_or_ge i F.length with h | h
      · exact h
      · rw [List.getElem?_eq_none h] at hw; cases hw) hw v hE) hv
    refine c_seq (csr (sm ?_));refine sm ?_;refine sy (y_lenE tab rfl (hEF) rfl) ?_;refine sy (y_F (y_lss rfl rfl) (by omega)) ?_;refine snf (c_condF rfl (c_exit (f_thenE (f_rndE (f_blockE (f_then (csr (sm ?_))))))));refine sa ?_;refine snf (c_ret ?_);exact f_ret ⟨(b13, O), hfin⟩ (res1 rfl rfl) (fun w h => h.tail.dropAt 1)
theorem Deadlock_spec (hV : RV (K W N) g) {t : Nat} (ht : g.rb.has t) (hq : g.Q.length < 100000) (hh : ∀ u, (g.rb.held u).length < 100000) (hnn : g.ts.length < 100000) : Spec prog 77 #[g.val, .int .i64 (t : Nat)] (K W N) (X := { v : Nat // g.rb.IsVic t v }) (fun v => .int .i64 (v.1 : Nat)) (fun _ => K W N) := by
  have hdl : (dtl g.ts).length = g.ts.length := List.length_map _;have hTl : g.rb.T.length = g.ts.length := List.length_map _;have ht2 := ht;unfold RB.has at ht2;rw [hTl] at ht2;refine enter (args := [_, _]) func77 rfl ntmps77 rfl ?_;refine csr (sbx fun b2 => ?_);refine sa ?_;refine snf (csr (sy (y_loadA tab rfl rfl rfl rfl (cells_row0 0 rfl rfl)) ?_));refine sm ?_;refine sk call100 (reach_spec hV.cons hq hh hnn) fun x => ?_;obtain ⟨⟨bm, O⟩, hO⟩ := x;dsimp only at hO ⊢;refine sa ?_;refine snf (csr (sa ?_));refine snf (c_seq (csr (sa ?_)));refine snf (c_block ?_);refine c_loopP (α := Nat × Nat) (fun z => [(1, .int .i64 (t : Nat)), (2, .pointer (some ⟨b2, 0, none⟩)), (5, .slice (some ⟨bm, 0, none⟩) (g.ts.length + 1) (g.ts.length + 1)), (6, .int .i64 (z.2 : Nat)), (7, .int .i64 (z.1 : Nat))])
    (fun z => (1 ≤ z.1 ∧ z.1 ≤ g.ts.length + 1) ∧ ((z.2 = 0 ∧ ∀ j, j < z.1 → ¬ g.rb.dead t j) ∨ (z.2 ≠ 0 ∧ g.rb.dead t z.2 ∧ ∀ j, j < z.1 → g.rb.dead t j → j ≤ z.2))) (fun _ => K W ([(bm, bools 4 (g.ts.length + 1) O [])] :: [(b2, row 42 g.cells)] :: N)) (fun z => g.ts.length + 1 - z.1) (1, 0)
    ⟨rfl, rfl, rfl, rfl, rfl, trivial⟩ ⟨by omega, .inl ⟨rfl, fun j hj hd => by
      obtain ⟨_, hd⟩ := hd;obtain ⟨h1, _⟩ : 1 ≤ j ∧ j ≤ g.rb.T.length := by
        rename_i h;cases h with
        | single e => exact e.1
        | tail _ e => exact e.1
      omega⟩⟩ (fun w h => h) ?_
  rintro ⟨u, wv⟩ ⟨⟨hu1, hu2⟩, hw⟩;dsimp only at hu1 hu2 hw ⊢;have hVc : RV (K W ([(bm, bools 4 (g.ts.length + 1) O [])] :: [(b2, row 42 g.cells)] :: N)) g := hV.cons.cons;by_cases cu : u ≤ g.ts.length
  · have hhas : g.rb.has u := ⟨hu1, by rw [hTl]; exact cu⟩;have hcm := cell_bools (W := W) (Ls := [(bm, bools 4 (g.ts.length + 1) O [])] :: [(b2, row 42 g.cells)] :: N) (b := bm) (k := u) (n := g.ts.length + 1) (e := 4) (g := O) (rest := []) (c := []) 0 rfl (by omega);have hno : ¬ g.rb.dead t u → (wv = 0 ∧ ∀ j, j < u + 1 → ¬ g.rb.dead t j) ∨ (wv ≠ 0 ∧ g.rb.dead t wv ∧ ∀ j, j < u + 1 → g.rb.dead t j → j ≤ wv) := fun h => by
      rcases hw with ⟨h1, h2⟩ | ⟨h1, h2, h3⟩
      · refine .inl ⟨h1, fun j hj => ?_⟩;by_cases e : j = u
        · rw [e]; exact h
        · exact h2 j (by omega)
      · refine .inr ⟨h1, h2, fun j hj hd => ?_⟩;by_cases e : j = u
        · rw [e] at hd; exact absurd hd h
        · exact h3 j (by omega) hd
    have hyes : g.rb.dead t u → (u = 0 ∧ ∀ j, j < u + 1 → ¬ g.rb.dead t j) ∨ (u ≠ 0 ∧ g.rb.dead t u ∧ ∀ j, j < u + 1 → g.rb.dead t j → j ≤ u) := fun h => .inr ⟨by omega, h, fun j hj _ => by omega⟩;cases ho : O u with
    | false =>
      rw [ho] at hcm;have hd : ¬ g.rb.dead t u := fun h => by
        rw [(hO u hhas).2 h.1] at ho;cases ho
      refine c_seq (csr (sm ?_));refine sf 2 ?_;refine slr 1 ?_;refine sy (y_len tab rfl rfl) ?_;refine sy (y_T (y_leq rfl rfl) (by omega)) ?_;refine snf (c_condT rfl (c_skip (f_then (c_seq (c_block (csr (sm ?_)))))));refine sm ?_;refine sy (y_indexAddr1 tab rfl rfl rfl rfl _ rfl (by omega)) ?_;refine sl hcm ?_;refine sm ?_
      iterate 6 refine s_skip rfl rfl rfl ?_
      refine spF ?_;refine snf (c_condF rfl (c_skip (f_blockN (f_then (c_region (sm ?_))))));refine sy (y_add rfl rfl (by omega)) ?_;refine sa ?_;refine s_nil ?_;exact f_roundP (u + 1, wv) ⟨by dsimp only; omega, hno hd⟩ (by dsimp only; omega) ⟨rfl, rfl, rfl, rfl, rfl, trivial⟩ (fun w h => h)
    | true =>
      rw [ho] at hcm;refine c_seq (csr (sm ?_));refine sf 2 ?_;refine slr 1 ?_;refine sy (y_len tab rfl rfl) ?_;refine sy (y_T (y_leq rfl rfl) (by omega)) ?_;refine snf (c_condT rfl (c_skip (f_then (c_seq (c_block (csr (sm ?_)))))));refine sm ?_;refine sy (y_indexAddr1 tab rfl rfl rfl rfl _ rfl (by omega)) ?_;refine sl hcm ?_;refine sm ?_;refine sy (y_loadA tab rfl rfl rfl rfl (cells_row0 1 rfl rfl)) ?_;refine sm ?_;refine sk call100 (reach_spec hVc hq hh hnn) fun x => ?_;obtain ⟨⟨b2m, O2⟩, hO2⟩ := x;dsimp only at hO2 ⊢;have hct := cell_bools (W := W) (Ls := [(b2m, bools 4 (g.ts.length + 1) O2 [])] :: [(bm, bools 4 (g.ts.length + 1) O [])] :: [(b2, row 42 g.cells)] :: N) (b := b2m) (k := t) (n := g.ts.length + 1) (e := 4) (g := O2) (rest := []) (c := []) 0 rfl (by omega);cases ho2 : O2 t with
      | false =>
        rw [ho2] at hct;have hd : ¬ g.rb.dead t u := fun h => by
          rw [(hO2 t ht).2 h.2] at ho2;cases ho2
        refine sm ?_;refine sy (y_indexAddr1 tab rfl rfl rfl rfl _ rfl (by omega)) ?_;refine sl hct ?_;refine spT ?_;refine snf (c_condF rfl (c_skip (f_blockN (f_then (c_region (sm ?_))))));refine sy (y_add rfl rfl (by omega)) ?_;refine sa ?_;refine s_nil ?_;exact f_roundP (u + 1, wv) ⟨by dsimp only; omega, hno hd⟩ (by dsimp only; omega) ⟨rfl, rfl, rfl, rfl, rfl, trivial⟩ (fun w h => h.tail)
      | true =>
        rw [ho2] at hct;have hd : g.rb.dead t u := ⟨(hO u hhas).1 ho, (hO2 t ht).1 ho2⟩;refine sm ?_;refine sy (y_indexAddr1 tab rfl rfl rfl rfl _ rfl (by omega)) ?_;refine sl hct ?_;refine spT ?_;refine snf (c_condT rfl (c_region (sm ?_)));refine sa ?_;refine s_nil (f_blockN (f_then (c_region (sm ?_))));refine sy (y_add rfl rfl (by omega)) ?_;refine sa ?_;refine s_nil ?_;exact f_roundP (u + 1, u) ⟨by dsimp only; omega, hyes hd⟩ (by dsimp only; omega) ⟨rfl, rfl, rfl, rfl, rfl, trivial⟩ (fun w h => h.tail)
  · obtain rfl : u = g.ts.length + 1 := by omega
    have hdl2 : ∀ j, g.rb.dead t j → j < g.ts.length + 1 := fun j hd => by
      obtain ⟨h, _⟩ := hd;have : g.rb.has j := by
        cases h with
        | single e => exact e.1
        | tail _ e => exact e.1
      unfold RB.has at this;omega
    have hfin : g.rb.IsVic t wv := by
      rcases hw with ⟨h1, h2⟩ | ⟨h1, h2, h3⟩
      · exact .inl ⟨h1, fun j hd => h2 j (hdl2 j hd) hd⟩
      · exact .inr ⟨h1, h2, fun j hd => h3 j (hdl2 j hd) hd⟩
    refine c_seq (csr (sm ?_));refine sf 2 ?_;refine slr 1 ?_;refine sy (y_len tab rfl rfl) ?_;refine sy (y_F (y_leq rfl rfl) (by omega)) ?_;refine snf (c_condF rfl (c_exit (f_thenE (f_rndE (f_blockE (f_then (csr (sm ?_))))))));refine sa ?_;refine snf (c_ret ?_);exact f_ret ⟨wv, hfin⟩ (res1 rfl rfl) (fun w h => h.tail.tail)
end
end Go.KL
end

section
/- What always holds of a book is what ClerkSound asks; plain. No program in sight. -/
namespace Go.KL
open Relation
namespace Bk
def bare (A : Bk) (f : Nat → Nat) : Bk := ⟨A.size, f, f, A.ts.map fun t => ⟨t.st, t.locks, t.req, []⟩, A.rn, A.q, []⟩
variable {A : Bk} {f : Nat → Nat} {m : Nat}
theorem bare_has {k : Nat} : (A.bare f).has k ↔ A.has k := by simp [Bk.has, bare]
theorem bare_tx (k : Nat) : (A.bare f).tx k = ⟨(A.tx k).st, (A.tx k).locks, (A.tx k).req, []⟩ := by
  unfold Bk.tx bare;rw [List.getD_eq_getElem?_getD, List.getD_eq_getElem?_getD, List.getElem?_map];cases A.ts[k - 1]? <;> rfl
theorem bare_count : (A.bare f).count = A.count := by
  unfold Bk.count;have : ((A.bare f).rn.map fun k => ((A.bare f).tx k).locks.length) = (A.rn.map fun k => (A.tx k).locks.length) := List.map_congr_left fun k _ => by rw [bare_tx]
  rw [this];rfl
theorem bare_moves : (A.bare f).moves = 0 := by
  unfold Bk.moves;have : ∀ l : List Nat, (l.map fun k => mvs ((A.bare f).tx k).ops).sum = 0 := fun l => by
    induction l with
    | nil => rfl
    | cons k l ih => rw [List.map_cons, List.sum_cons, ih, bare_tx]; rfl
  exact this _
theorem bare_inv (h : A.Inv m) (hf : nbd f A.size ≤ 4096) : (A.bare f).Inv m := by
  have ht : ∀ {k i : Nat}, ¬ tch ((A.bare f).tx k).ops i := fun {k i} => by rw [bare_tx]; exact tch.nil
  refine ⟨h.sz, fun k => ?_, h.rnd, h.rnl, fun k => ?_, h.qnd, fun k hk => ?_, fun k hk hn => ?_, fun k hk => ?_, fun k hk => ?_, ?_, fun j hj k hk => ?_, fun k hk o ho => ?_, fun k hk => ?_, fun i _ => rfl, fun k hk i hi => absurd hi ht, ?_, fun k hk => ?_⟩
  · rw [bare_has, bare_tx]; exact h.rn k
  · rw [bare_has, bare_tx]; exact h.q k
  · rw [bare_tx]; exact h.st k (bare_has.1 hk)
  · rw [bare_tx]; exact ⟨(h.off k (bare_has.1 hk) hn).1, rfl⟩
  · rw [bare_tx]; exact h.lk k (bare_has.1 hk)
  · rw [bare_tx]; exact h.rq k hk
  · rw [bare_count]; exact h.cnt
  · rw [bare_tx, bare_tx]; exact h.fr j hj k hk
  · rw [bare_tx] at ho; cases ho
  · rw [bare_tx]; trivial
  · rw [bare_moves]; exact hf
  · rw [bare_tx]; exact Nat.zero_le _
theorem bare_E {i j : Nat} : (A.bare f).E i j ↔ A.E i j := by
  rw [E_iff, E_iff];unfold EF;rw [bare_tx, bare_tx];rfl
theorem bare_blk (h : A.Blk) : (A.bare f).Blk := BlkF.mono (A := A) (B := A.bare f) (fun m hm => ⟨hm, fun y hy => by rw [bare_tx]; exact hy⟩) h fun m _ => by rw [bare_tx]
theorem bare_ok (h : A.Ok m) (hf : nbd f A.size ≤ 4096) : (A.bare f).Ok m := by
  refine ⟨bare_inv h.inv hf, bare_blk h.blk, fun k hk hc => h.ac k (bare_has.1 hk) ?_⟩;exact (trans_sub (H := fun _ => True) (fun _ _ _ => trivial) (fun _ _ _ c => bare_E.1 c) trivial hc).1
end Bk
structure RB.Snd (b : RB) : Prop where
  no : ∀ x ∈ b.locks, ∀ y ∈ b.locks, cfr x y = false
  vic : ∀ k, b.has k → ∀ v, b.IsVic k v → v = 0
  blk : ∀ i x, b.Q[i]? = some x → b.free x i = false ∧ b.has x.tx ∧ (b.tx x.tx).st = 2
  cnt : (b.T.filter fun t => decide (t.st = 2)).length = b.Q.length
namespace Sm
variable {A : Bk} {b : RB} {m : Nat}
theorem snd (h : Sm A b) (hO : A.Ok m) : b.Snd := by
  have hI := hO.inv;refine ⟨fun x hx y hy => ?_, fun k hk v hv => ?_, fun i x hx => ?_, ?_⟩
  · obtain ⟨j, hj, hx⟩ := (h.mem_locks hI).1 hx;obtain ⟨k, hk, hy⟩ := (h.mem_locks hI).1 hy;rw [cfr_cfl (hI.lk j (hI.has hj) x hx).2.1 (hI.lk k (hI.has hk) y hy).2.1];exact hI.fr j hj k hk x hx y hy
  · rcases h.isVic hI (h.has.1 hk) hv with ⟨h0, _⟩ | ⟨_, ⟨h1, h2⟩, _⟩
    · exact h0
    · exact absurd (TransGen.trans (Bk.R_iff.1 h1) (Bk.R_iff.1 h2)) (hO.ac k (h.has.1 hk))
  · have hx' := hx;rw [h.Q, Bk.reqs, List.getElem?_map] at hx;obtain ⟨k, hk, rfl⟩ := Option.map_eq_some_iff.1 hx;have hkq := List.mem_of_getElem? hk;have hr := hI.rq k hkq;have hkk := (hI.q k).1 hkq;refine ⟨?_, by rw [hr.1]; exact h.has.2 hkk.1, by rw [hr.1, h.st k hkk.1]; exact hkk.2⟩;rw [h.free hI hr.2.1, take_before hI.qnd hk];exact Bk.BlkF.mem (pre := []) hO.blk hkq
  · have e1 : b.Q.length = A.q.length := by rw [h.Q, Bk.reqs, List.length_map]
    rw [e1, T_eq b, List.filter_map, List.length_map];have hp : A.q.Perm (((List.range b.T.length).filter ((fun t : RT => decide (t.st = 2)) ∘ fun i => b.tx (i + 1))).map fun i => i + 1) := by
      refine (List.perm_ext_iff_of_nodup hI.qnd ?_).2 fun k => ?_
      · exact List.Pairwise.map _ (fun a b h => by omega) (List.nodup_range.filter _)
      · simp only [List.mem_map, List.mem_filter, List.mem_range, Function.comp, decide_eq_true_eq];constructor
        · intro hk;obtain ⟨hh, hs⟩ := (hI.q k).1 hk;have hh2 := hh;unfold Bk.has at hh2;rw [← h.len] at hh2;refine ⟨k - 1, ⟨by omega, ?_⟩, by omega⟩;rw [Nat.sub_add_cancel hh2.1, h.st k hh];exact hs
        · rintro ⟨i, ⟨h1, h2⟩, rfl⟩;have hh : A.has (i + 1) := ⟨by omega, by rw [← h.len]; omega⟩;exact (hI.q _).2 ⟨hh, by rw [← h.st _ hh]; exact h2⟩
    rw [hp.length_eq, List.length_map]
end Sm
end Go.KL
end

section
/- Walks: sound. -/
namespace Go.KL
open Go.Proofs Go.Proofs.Tryz
def wtn (ts : List Dt) : Nat := (ts.filter fun t => decide (t.st = 2)).length
theorem wtn_snoc (ts : List Dt) (t : Dt) : wtn (ts ++ [t]) = wtn ts + if t.st = 2 then 1 else 0 := by
  unfold wtn;rw [List.filter_append, List.length_append, List.filter_cons];by_cases c : t.st = 2
  · rw [if_pos (by simp [c]), if_pos c]; rfl
  · rw [if_neg (by simp [c]), if_neg c]; rfl
theorem wtn_le (ts : List Dt) : wtn ts ≤ ts.length := List.length_filter_le _ _
attribute [local irreducible] SC St Fin Sq Ylds Doos Sets Enters Spec CellIs CellsAre Then Ret Rnd Chn resOK ints bools recs arr
section
variable {W : World} {N : List Chunk} {g : Rg}
theorem sound_spec (hV : RV (K W N) g) (hS : g.rb.Snd) (hL : ∀ t ∈ g.ts, t.rt.inP = false → t.locks = []) (hq : g.Q.length < 100000) (hh : ∀ u, (g.rb.held u).length < 100000) (hnn : g.ts.length < 100000) (hlo : g.rb.locks.length < 100000) :
    Spec prog 42 #[g.val] (K W N) (fun _ : Unit => .bool true) (fun _ => K W N) := by
  have hdl : (dtl g.ts).length = g.ts.length := List.length_map _;have hTl : g.rb.T.length = g.ts.length := List.length_map _;have hlq : (lks g.Q).length = g.Q.length := List.length_map _;have hwn : wtn g.ts = g.Q.length := by
    have h1 : (g.rb.T.filter fun t => decide (t.st = 2)).length = g.Q.length := hS.cnt;rw [← h1];unfold wtn Rg.rb;simp [List.filter_map, Function.comp_def]
  obtain ⟨ll, hll⟩ : ∃ ll, ll = g.rb.locks := ⟨_, rfl⟩;refine enter (args := [_]) func42 rfl ntmps42 rfl ?_;refine csr (sbx fun b1 => ?_);refine sa ?_;refine snf (csr (sy (y_loadA tab rfl rfl rfl rfl (cells_row0 0 rfl rfl)) ?_));refine s_call (en_f rfl call75) (Locks_spec hV.cons (by omega)) rfl rfl rfl (fun x => ?_);obtain ⟨⟨lv, cl⟩, hB⟩ := x;dsimp only at hB ⊢;rw [← hll] at hB hlo;have hla : (lks ll).length = ll.length := List.length_map _;refine sa ?_;refine snf (c_seq (csr (sa ?_)));refine snf (c_block ?_);have hE : EV (K W (cl :: [(b1, row 42 g.cells)] :: N)) lv 4 (lks ll) := hB.view (Hs.at 0 rfl);have hVc : RV (K W (cl :: [(b1, row 42 g.cells)] :: N)) g := hV.cons.cons;have hQ := hVc.q;have hT := hVc.t;have hD := fun (w : World) (h : K W (cl :: [(b1, row 42 g.cells)] :: N) w) => h;refine c_loopP (α := Nat) (fun z => [(1, .pointer (some ⟨b1, 0, none⟩)), (3, lv), (4, .int .i64 (z : Nat))]) (fun z => z ≤ ll.length) (fun _ => K W (cl :: [(b1, row 42 g.cells)] :: N)) (fun z => ll.length - z) 0 ⟨rfl, rfl, rfl, trivial⟩ (Nat.zero_le _) (fun w h => h) ?_;rintro i hi;by_cases ci : i < ll.length
  · obtain ⟨x, hx⟩ : ∃ x, ll[i]? = some x := ⟨ll[i], List.getElem?_eq_getElem ci⟩;have hrx := hE.row (lks_get hx);refine c_seq (csr (sm ?_));refine sm ?_;refine sy (y_lenE tab rfl (hE) rfl) ?_;refine sy (y_T (y_lss rfl rfl) (by omega)) ?_;refine snf (c_condT rfl (c_skip (f_then (c_seq (c_block (csr (sa ?_)))))));refine snf (c_block (c_loopP (α := Nat) (fun z => [(1, .pointer (some ⟨b1, 0, none⟩)), (3, lv), (4, .int .i64 (i : Nat)), (5, .int .i64 (z : Nat))]) (fun z => z ≤ i) (fun _ => K W (cl :: [(b1, row 42 g.cells)] :: N)) (fun z => i - z) 0 ⟨rfl, rfl, rfl, rfl, trivial⟩ (Nat.zero_le _) (fun w h => h) ?_));rintro k hk;by_cases ck : k < i
    · obtain ⟨y, hy⟩ : ∃ y, ll[k]? = some y := ⟨ll[k]'(by omega), List.getElem?_eq_getElem (by omega)⟩;have hry := hE.row (lks_get hy);have hcf := Conflict_spec (W := W) (N := cl :: [(b1, row 42 g.cells)] :: N) (a := x) (b := y);rw [hS.no x (by rw [← hll]; exact List.mem_of_getElem? hx) y (by rw [← hll]; exact List.mem_of_getElem? hy)] at hcf;refine c_seq (csr (sm ?_));refine sm ?_;refine sy (y_T (y_lss rfl rfl) (by omega)) ?_;refine snf (c_condT rfl (c_skip (f_then (c_seq (c_block (c_seq (c_plan [.c 0, .c 1, .c 2, .c 3, .c 4, .c 5, .c 6, .c 7, .s 8] [] ((K W (cl :: [(b1, row 42 g.cells)] :: N))) mixed (by kernel_rfl) rfl K.cl ?_)))))));refine dy rfl (y_move rfl) hD ?_;refine dy rfl (y_move rfl) hD ?_;refine dy rfl (y_ixE tab rfl rfl rfl rfl (hE) _ rfl (by omega)) hD ?_;refine dy rfl (y_loadA tab rfl rfl rfl rfl hrx) hD ?_;refine dy rfl (y_move rfl) hD ?_;refine dy rfl (y_move rfl) hD ?_;refine dy rfl (y_ixE tab rfl rfl rfl rfl (hE) _ rfl (by omega)) hD ?_;refine dy rfl (y_loadA tab rfl rfl rfl rfl hry) hD ?_;refine d_call rfl (en_f rfl call76) hcf rfl rfl rfl (fun _ => K.cl) (fun _ _ _ h => h) (fun _ => ?_);refine d_nil (f_then (c_condF rfl (c_skip (f_blockN (f_then (c_region (sm ?_)))))));refine sy (y_add rfl rfl (by omega)) ?_;refine sa ?_;refine s_nil ?_;exact f_roundP (k + 1) ck (by omega) ⟨rfl, rfl, rfl, rfl, trivial⟩ (fun w h => h)
    · obtain rfl : k = i := by omega
      refine c_seq (csr (sm ?_));refine sm ?_;refine sy (y_F (y_lss rfl rfl) (by omega)) ?_;refine snf (c_condF rfl (c_exit (f_thenE (f_rndE (f_blockE (f_blockN (f_then (c_region (sm ?_)))))))));refine sy (y_add rfl rfl (by omega)) ?_;refine sa ?_;refine s_nil ?_;exact f_roundP (k + 1) ci (by omega) ⟨rfl, rfl, rfl, trivial⟩ (fun w h => h)
  · obtain rfl : i = ll.length := by omega
    refine c_seq (csr (sm ?_));refine sm ?_;refine sy (y_lenE tab rfl (hE) rfl) ?_;refine sy (y_F (y_lss rfl rfl) (by omega)) ?_;refine snf (c_condF rfl (c_exit (f_thenE (f_rndE (f_blockE (f_then (csr (sa ?_))))))));refine snf (c_seq (csr (sa ?_)));refine snf (c_block (c_loopP (α := Nat) (fun z => [(1, .pointer (some ⟨b1, 0, none⟩)), (3, lv), (6, .int .i64 (wtn (g.ts.take z) : Nat)), (7, .int .i64 ((z : Nat) + 1))]) (fun z => z ≤ g.ts.length) (fun _ => K W (cl :: [(b1, row 42 g.cells)] :: N)) (fun z => g.ts.length - z) 0 ⟨rfl, rfl, rfl, rfl, trivial⟩ (Nat.zero_le _) (fun w h => h) ?_));rintro u hu;have hwl := wtn_le (g.ts.take u);rw [List.length_take] at hwl;by_cases cu : u < g.ts.length
    · obtain ⟨t, ht⟩ : ∃ t, g.ts[u]? = some t := ⟨g.ts[u], List.getElem?_eq_getElem cu⟩;obtain ⟨jx, hjx⟩ : ∃ jx, jx = u := ⟨_, rfl⟩;have hrow := hT.row (i := jx) (x := t.cells) (by simp [hjx, ht]);have htk : wtn (g.ts.take (u + 1)) = wtn (g.ts.take u) + if t.st = 2 then 1 else 0 := by
        rw [List.take_add_one, ht];exact wtn_snoc _ _
      have hdk := Deadlock_spec hVc (t := u + 1) ⟨by omega, by omega⟩ hq hh hnn;have hu1 : ((u + 1 : Nat) : Int) = (u : Int) + 1 := by omega
      rw [hu1] at hdk;obtain ⟨wn, hwn2⟩ : ∃ wn, wn = wtn (g.ts.take u) := ⟨_, rfl⟩;rw [← hwn2] at hwl htk ⊢;have hvic : ∀ v, g.rb.IsVic (u + 1) v → v = 0 := fun v hv => hS.vic (u + 1) ⟨by omega, by omega⟩ v hv;have hcells : t.cells = [.int .i64 (t.st : Nat), t.lv, t.ov] := rfl;have hlt : (lks t.locks).length = t.locks.length := List.length_map _;by_cases cs : (t.st : Int) = 2
      · rw [if_pos (by omega)] at htk;refine c_seq (csr (sm ?_));refine sf 2 ?_;refine slr 1 ?_;refine sy (y_lenE tab rfl (hT) rfl) ?_;refine sy (y_T (y_leq rfl rfl) (by omega)) ?_;refine snf (c_condT rfl (c_skip (f_then (c_seq (c_block (c_seq (csr (sf 2 ?_))))))));refine slr 1 ?_;refine sm ?_;refine sy (y_sub rfl rfl (by omega)) ?_;refine sy (y_ixE tab rfl rfl rfl rfl (hT) jx (by omega) (by omega)) ?_;refine sf0 ?_;refine sl (CellsAre.at0 (hrow) rfl) ?_;refine sy (y_T (y_eql rfl rfl) (by assumption)) ?_;refine snf (c_condT rfl (c_region (sm ?_)));refine sy (y_add rfl rfl (by omega)) ?_;refine sa ?_;refine snf (csr (sy (y_loadA tab rfl rfl rfl rfl (cells_row0 1 rfl rfl)) ?_));refine sm ?_;refine sk call77 hdk fun v => ?_;obtain ⟨v, hv⟩ := v;obtain rfl := hvic v hv;dsimp only;refine sy (y_F (y_neq rfl rfl) (by omega)) ?_;refine sm ?_;refine sf 2 ?_;refine slr 1 ?_;refine sm ?_;refine sy (y_sub rfl rfl (by omega)) ?_;refine sy (y_ixE tab rfl rfl rfl rfl (hT) jx (by omega) (by omega)) ?_;refine sy (y_loadA tab rfl rfl rfl rfl hrow) ?_;refine sk call54 (In_spec (t := t)) fun _ => ?_;rw [show t.rt.inP = true by simp [RT.inP, show t.st = 2 by omega]];refine sy (y_notT rfl) ?_;refine sm ?_
        iterate 9 refine s_skip rfl rfl rfl ?_
        refine spF ?_;refine spF ?_;refine snf (c_condF rfl (c_skip (f_blockN (f_then (c_region (sm ?_))))));refine sy (y_add rfl rfl (by omega)) ?_;refine sa ?_;refine s_nil ?_;exact f_roundP (u + 1) cu (by omega) ⟨rfl, rfl, by rw [htk]; rfl, rfl, trivial⟩ (fun w h => h)
      · rw [if_neg (by omega), Nat.add_zero] at htk;refine c_seq (csr (sm ?_));refine sf 2 ?_;refine slr 1 ?_;refine sy (y_lenE tab rfl (hT) rfl) ?_;refine sy (y_T (y_leq rfl rfl) (by omega)) ?_;refine snf (c_condT rfl (c_skip (f_then (c_seq (c_block (c_seq (csr (sf 2 ?_))))))));refine slr 1 ?_;refine sm ?_;refine sy (y_sub rfl rfl (by omega)) ?_;refine sy (y_ixE tab rfl rfl rfl rfl (hT) jx (by omega) (by omega)) ?_;refine sf0 ?_;refine sl (CellsAre.at0 (hrow) rfl) ?_;refine sy (y_F (y_eql rfl rfl) (by assumption)) ?_;refine snf (c_condF rfl (c_skip (f_then (csr (sy (y_loadA tab rfl rfl rfl rfl (cells_row0 1 rfl rfl)) ?_)))));refine sm ?_;refine sk call77 hdk fun v => ?_;obtain ⟨v, hv⟩ := v;obtain rfl := hvic v hv;dsimp only;refine sy (y_F (y_neq rfl rfl) (by omega)) ?_;refine sm ?_;refine sf 2 ?_;refine slr 1 ?_;refine sm ?_;refine sy (y_sub rfl rfl (by omega)) ?_;refine sy (y_ixE tab rfl rfl rfl rfl (hT) jx (by omega) (by omega)) ?_;refine sy (y_loadA tab rfl rfl rfl rfl hrow) ?_;refine sk call54 (In_spec (t := t)) fun _ => ?_;cases hp : t.rt.inP with
        | true =>
          refine sy (y_notT rfl) ?_;refine sm ?_
          iterate 9 refine s_skip rfl rfl rfl ?_
          refine spF ?_;refine spF ?_;refine snf (c_condF rfl (c_skip (f_blockN (f_then (c_region (sm ?_))))));refine sy (y_add rfl rfl (by omega)) ?_;refine sa ?_;refine s_nil ?_;exact f_roundP (u + 1) cu (by omega) ⟨rfl, rfl, by rw [htk]; rfl, rfl, trivial⟩ (fun w h => h)
        | false =>
          have h0 := hL t (List.mem_of_getElem? ht) hp;have hl0 : ¬ ((lks t.locks).length : Int) > 0 := by rw [hlt, h0]; simp
          refine sy (y_notF rfl) ?_;refine sm ?_;refine sf 2 ?_;refine slr 1 ?_;refine sm ?_;refine sy (y_sub rfl rfl (by omega)) ?_;refine sy (y_ixE tab rfl rfl rfl rfl (hT) jx (by omega) (by omega)) ?_;refine sy (y_fieldAddr tab 1 rfl rfl rfl rfl rfl) ?_;refine sl (CellsAre.nth 1 (hrow) rfl) ?_;refine sy (y_len tab rfl rfl) ?_;refine sy (y_F (y_gtr rfl rfl) (by assumption)) ?_;refine spT ?_;refine spF ?_;refine snf (c_condF rfl (c_skip (f_blockN (f_then (c_region (sm ?_))))));refine sy (y_add rfl rfl (by omega)) ?_;refine sa ?_;refine s_nil ?_;exact f_roundP (u + 1) cu (by omega) ⟨rfl, rfl, by rw [htk]; rfl, rfl, trivial⟩ (fun w h => h)
    · obtain rfl : u = g.ts.length := by omega
      rw [List.take_length, hwn];refine c_seq (csr (sm ?_));refine sf 2 ?_;refine slr 1 ?_;refine sy (y_lenE tab rfl (hT) rfl) ?_;refine sy (y_F (y_leq rfl rfl) (by omega)) ?_;refine snf (c_condF rfl (c_exit (f_thenE (f_rndE (f_blockE (f_then (c_seq (csr (sa ?_)))))))));refine snf (c_block (c_loopP (α := Nat) (fun z => [(1, .pointer (some ⟨b1, 0, none⟩)), (3, lv), (6, .int .i64 (g.Q.length : Nat)), (8, .int .i64 (z : Nat))]) (fun z => z ≤ g.Q.length) (fun _ => K W (cl :: [(b1, row 42 g.cells)] :: N)) (fun z => g.Q.length - z) 0 ⟨rfl, rfl, rfl, rfl, trivial⟩ (Nat.zero_le _) (fun w h => h) ?_));rintro q hq2;by_cases cq : q < g.Q.length
      · obtain ⟨x, hx⟩ : ∃ x, g.Q[q]? = some x := ⟨g.Q[q], List.getElem?_eq_getElem cq⟩;have hrx := hQ.row (lks_get hx);obtain ⟨hb1, hb2, hb3⟩ := hS.blk q x hx;have hqt := hQ.upto (k := q) (by omega);have hqn : q ≤ g.q.c := by
          obtain ⟨pa, c', e, hc', _⟩ := hV.q.view;injection e with e1 e2 e3;omega
        refine c_seq (csr (sm ?_));refine sf 3 ?_;refine slr 1 ?_;refine sy (y_lenE tab rfl (hQ) rfl) ?_;refine sy (y_T (y_lss rfl rfl) (by omega)) ?_;refine snf (c_condT rfl (c_skip (f_then (c_seq (c_block (csr (sa ?_)))))));refine snf (c_seq (c_plan [.c 1, .c 3, .c 4, .c 5, .c 6, .s 0, .s 2, .s 7, .s 8] [] (K W (cl :: [(b1, row 42 g.cells)] :: N)) mixed (by kernel_rfl) rfl K.cl ?_));refine dy rfl (y_move rfl) hD ?_;refine dy rfl (y_fieldAddrB tab 3 rfl rfl rfl rfl rfl) hD ?_;refine dy rfl (y_load tab rfl rfl (cell_row 1 rfl rfl)) hD ?_;refine dy rfl (y_move rfl) hD ?_;refine dy rfl (y_sliceTo tab rfl rfl rfl rfl rfl (by omega)) hD ?_;refine d_s rfl (do_buildSliceS tab ⟨rfl, rfl, rfl, rfl⟩ rfl rfl rfl rfl) rfl rfl rfl (fun _ => K.cl) (fun _ _ w h => hD w h.tail) (fun b83 => ?_);refine d_s rfl (do_appendRV (by_ := 32) tab 0 rfl .lit rfl hE.cons ⟨rfl, rfl, rfl, rfl⟩ rfl (by omega) (Nat.lt_of_sub_eq_succ rfl) rfl (lks_all _) (by simp only [List.length_nil]; omega) (by omega)) rfl rfl rfl (fun _ => K.cl) (fun _ _ _ h => h.tail) (fun y => ?_);obtain ⟨⟨v, cc⟩, hB2⟩ := y;have hB2 : BufR 111 4 v cc (lks ll) := hB2;dsimp only;refine d_s rfl (do_appendRV (by_ := 32) tab 0 rfl hB2 rfl (hqt.cls fun _ h => h.tail) ⟨rfl, rfl, rfl, rfl⟩ rfl (by omega) (Nat.lt_of_sub_eq_succ rfl) rfl (fun r hr => lks_all _ r (List.mem_of_mem_take hr)) (by rw [List.length_take, List.length_map, List.length_map]; omega) (by omega)) rfl rfl rfl (fun _ => K.cl) (fun _ _ _ h => h.tail) (fun y => ?_);obtain ⟨⟨v, cc⟩, hB3⟩ := y;obtain ⟨al, hal⟩ : ∃ al, al = ll ++ g.Q.take q := ⟨_, rfl⟩;have hB3 : BufR 111 4 v cc (lks al) := hB3.of (by rw [hal]; simp [lks, List.map_take]);have hall : al.length < 200000 := by rw [hal, List.length_append, List.length_take]; omega
        dsimp only;refine d_sy rfl (y_assign rfl) rfl rfl rfl K.cl (fun _ _ h => h.tail) ?_;refine d_nil ?_;have hany : (al.any fun y => cfr x y) = true := by
          have h1 : g.rb.free x q = al.all fun y => !cfr x y := by rw [hal, hll]; rfl
          rw [h1] at hb1;obtain ⟨y, hy, hc⟩ := List.all_eq_false.1 hb1;exact List.any_eq_true.2 ⟨y, hy, by simpa using hc⟩
        have hla2 : (lks al).length = al.length := List.length_map _;have hE3 : EV (K W (cc :: cl :: [(b1, row 42 g.cells)] :: N)) v 4 (lks al) := hB3.view (Hs.at 0 rfl);have hQ3 : EV (K W (cc :: cl :: [(b1, row 42 g.cells)] :: N)) g.qv 4 (lks g.Q) := hQ.cons;have hrx3 := hQ3.row (lks_get hx);have hD3 := fun (w : World) (h : K W (cc :: cl :: [(b1, row 42 g.cells)] :: N) w) => h;have hc1 : CellsAre (K W (cc :: cl :: [(b1, row 42 g.cells)] :: N)) ⟨b1, 0, none⟩ g.cells := cells_row0 2 rfl rfl;have hst := RState_spec (hVc.cons (c := cc)) (k := (x.tx : Nat));rw [show g.rb.stI (x.tx : Nat) = 2 from by
          unfold RB.has at hb2;rw [RB.stI, if_pos (by omega), Int.toNat_natCast];exact hb3] at hst
        clear hB3 hB2 hD hqt hrx;refine f_then (c_seq (csr (sa ?_)));refine snf (c_block (c_loopP (α := Nat) (fun z => [(1, .pointer (some ⟨b1, 0, none⟩)), (3, lv), (6, .int .i64 (g.Q.length : Nat)), (8, .int .i64 (q : Nat)), (9, .bool ((al.take z).any fun y => cfr x y)), (10, v), (11, .int .i64 (z : Nat))]) (fun z => z ≤ al.length) (fun _ => K W (cc :: cl :: [(b1, row 42 g.cells)] :: N)) (fun z => al.length - z) 0 ⟨rfl, rfl, rfl, rfl, rfl, rfl, rfl, trivial⟩ (Nat.zero_le _) (fun w h => h) ?_));rintro k hk;by_cases ck : k < al.length
        · obtain ⟨y, hy⟩ : ∃ y, al[k]? = some y := ⟨al[k], List.getElem?_eq_getElem ck⟩;have hry := hE3.row (lks_get hy);have htk : ((al.take (k + 1)).any fun y => cfr x y) = (((al.take k).any fun y => cfr x y) || cfr x y) := by
            rw [List.take_add_one, hy, List.any_append];simp
          obtain ⟨fd, hfd⟩ : ∃ fd, fd = ((al.take k).any fun y => cfr x y) := ⟨_, rfl⟩;rw [← hfd] at htk ⊢;cases fd with
          | true =>
            refine c_seq (csr (sm ?_));refine sm ?_;refine sy (y_lenE tab rfl (hE3) rfl) ?_;refine sy (y_T (y_lss rfl rfl) (by omega)) ?_;refine snf (c_condT rfl (c_skip (f_then (c_seq (c_block (c_plan [.c 0, .c 1, .c 2, .c 3, .c 4, .c 5, .c 6, .c 7, .c 8, .c 9, .c 10, .s 11, .c 12, .c 13] [] ((K W (cc :: cl :: [(b1, row 42 g.cells)] :: N))) mixed (by kernel_rfl) rfl K.cl ?_))))));refine dy rfl (y_move rfl) (fun _ h => h) ?_;refine dy rfl (y_move rfl) (fun _ h => h) ?_;refine d_skip rfl rfl rfl rfl (fun _ h => h) K.cl ?_;refine d_skip rfl rfl rfl rfl (fun _ h => h) K.cl ?_;refine d_skip rfl rfl rfl rfl (fun _ h => h) K.cl ?_;refine d_skip rfl rfl rfl rfl (fun _ h => h) K.cl ?_;refine d_skip rfl rfl rfl rfl (fun _ h => h) K.cl ?_;refine d_skip rfl rfl rfl rfl (fun _ h => h) K.cl ?_;refine d_skip rfl rfl rfl rfl (fun _ h => h) K.cl ?_;refine d_skip rfl rfl rfl rfl (fun _ h => h) K.cl ?_;refine d_skip rfl rfl rfl rfl (fun _ h => h) K.cl ?_;refine d_sskip rfl rfl rfl rfl (fun _ _ h => h) ?_;refine dy rfl (y_pickT rfl rfl) (fun _ h => h) ?_;refine dy rfl (y_assign rfl) (fun _ h => h) ?_;refine d_nil (f_blockN (f_then (c_region (sm ?_))));refine sy (y_add rfl rfl (by omega)) ?_;refine sa ?_;refine s_nil ?_;exact f_roundP (k + 1) ck (by omega) ⟨rfl, rfl, rfl, rfl, by rw [htk]; rfl, rfl, rfl, trivial⟩ (fun w h => h)
          | false =>
            refine c_seq (csr (sm ?_));refine sm ?_;refine sy (y_lenE tab rfl (hE3) rfl) ?_;refine sy (y_T (y_lss rfl rfl) (by omega)) ?_;refine snf (c_condT rfl (c_skip (f_then (c_seq (c_block (c_plan [.c 0, .c 1, .c 2, .c 3, .c 4, .c 5, .c 6, .c 7, .c 8, .c 9, .c 10, .s 11, .c 12, .c 13] [] ((K W (cc :: cl :: [(b1, row 42 g.cells)] :: N))) mixed (by kernel_rfl) rfl K.cl ?_))))));refine dy rfl (y_move rfl) (fun _ h => h) ?_;refine dy rfl (y_move rfl) (fun _ h => h) ?_;refine dy rfl (y_fieldAddrB tab 3 rfl rfl rfl rfl rfl) (fun _ h => h) ?_;refine dy rfl (y_load tab rfl rfl (CellsAre.nth 3 (hc1) rfl)) (fun _ h => h) ?_;refine dy rfl (y_move rfl) (fun _ h => h) ?_;refine dy rfl (y_ixE tab rfl rfl rfl rfl (hQ3) _ rfl (by omega)) (fun _ h => h) ?_;refine dy rfl (y_loadA tab rfl rfl rfl rfl hrx3) (fun _ h => h) ?_;refine dy rfl (y_move rfl) (fun _ h => h) ?_;refine dy rfl (y_move rfl) (fun _ h => h) ?_;refine dy rfl (y_ixE tab rfl rfl rfl rfl (hE3) _ rfl (by omega)) (fun _ h => h) ?_;refine dy rfl (y_loadA tab rfl rfl rfl rfl hry) (fun _ h => h) ?_;refine d_call rfl (en_f rfl call76) (Conflict_spec (a := x) (b := y)) rfl rfl rfl (fun _ => K.cl) (fun _ _ _ h => h) (fun _ => ?_);refine dy rfl (y_pickF rfl rfl) (fun _ h => h) ?_;refine dy rfl (y_assign rfl) (fun _ h => h) ?_;refine d_nil (f_blockN (f_then (c_region (sm ?_))));refine sy (y_add rfl rfl (by omega)) ?_;refine sa ?_;refine s_nil ?_;exact f_roundP (k + 1) ck (by omega) ⟨rfl, rfl, rfl, rfl, by rw [htk]; rfl, rfl, rfl, trivial⟩ (fun w h => h)
        · obtain rfl : k = al.length := by omega
          rw [List.take_length, hany];refine c_seq (csr (sm ?_));refine sm ?_;refine sy (y_lenE tab rfl (hE3) rfl) ?_;refine sy (y_F (y_lss rfl rfl) (by omega)) ?_;refine snf (c_condF rfl (c_exit (f_thenE (f_rndE (f_blockE (f_then (c_seq (c_plan [.c 0, .c 1, .c 2, .c 3, .c 4, .c 5, .c 6, .c 7, .c 8, .c 9, .s 10, .c 11, .c 12] [] ((K W (cc :: cl :: [(b1, row 42 g.cells)] :: N))) mixed (by kernel_rfl) rfl K.cl ?_))))))));refine dy rfl (y_move rfl) (fun _ h => h) ?_;refine dy rfl (y_notT rfl) (fun _ h => h) ?_;refine dy rfl (y_move rfl) (fun _ h => h) ?_;refine dy rfl (y_loadA tab rfl rfl rfl rfl hc1) (fun _ h => h) ?_;refine dy rfl (y_fieldAddrB tab 3 rfl rfl rfl rfl rfl) (fun _ h => h) ?_;refine dy rfl (y_load tab rfl rfl (CellsAre.nth 3 (hc1) rfl)) (fun _ h => h) ?_;refine dy rfl (y_move rfl) (fun _ h => h) ?_;refine dy rfl (y_ixE tab rfl rfl rfl rfl (hQ3) _ rfl (by omega)) (fun _ h => h) ?_;refine dy rfl (y_fieldAddr0 tab rfl rfl rfl rfl rfl) (fun _ h => h) ?_;refine dy rfl (y_load tab rfl rfl (CellsAre.at0 (hrx3) rfl)) (fun _ h => h) ?_;refine d_call rfl (en_f rfl call55) hst rfl rfl rfl (fun _ => K.cl) (fun _ _ _ h => h) (fun _ => ?_);refine dy rfl (y_F (y_neq rfl rfl) (by omega)) (fun _ h => h) ?_;refine dy rfl (y_pickF rfl rfl) (fun _ h => h) ?_;refine d_nil (f_then (c_condF rfl (c_skip (f_blockN (f_then (c_region (sm ?_)))))));refine sy (y_add rfl rfl (by omega)) ?_;refine sa ?_;refine s_nil ?_;exact f_roundP (q + 1) cq (by omega) ⟨rfl, rfl, rfl, rfl, trivial⟩ (fun w h => h.tail)
      · obtain rfl : q = g.Q.length := by omega
        have hqe : (g.Q.length : Int) = ((lks g.Q).length : Nat) := by rw [hlq]
        refine c_seq (csr (sm ?_));refine sf 3 ?_;refine slr 1 ?_;refine sy (y_lenE tab rfl (hQ) rfl) ?_;refine sy (y_F (y_lss rfl rfl) (by omega)) ?_;refine snf (c_condF rfl (c_exit (f_thenE (f_rndE (f_blockE (f_then (csr (sm ?_))))))));refine sf 3 ?_;refine slr 1 ?_;refine sy (y_lenE tab rfl (hQ) rfl) ?_;refine sy (y_T (y_eql rfl rfl) (by assumption)) ?_;refine sa ?_;refine snf (c_ret ?_);exact f_ret () (res1 rfl rfl) (fun w h => h.tail.tail)
end
end Go.KL
end

section
/- Walks: whether two books are in the same state. -/
namespace Go.KL
open Go.Proofs Go.Proofs.Tryz
namespace Sm
variable {A : Bk} {b : RB} {m : Nat}
theorem stI (h : Sm A b) (k : Int) : b.stI k = A.stI k := by
  unfold RB.stI Bk.stI;rw [h.len];split
  · rename_i c;exact h.st _ ⟨by omega, by omega⟩
  · rfl
theorem heldI (h : Sm A b) (hI : A.Inv m) (k : Nat) : b.held k = A.lkI k := by
  rw [h.held hI];unfold Bk.lkI;rw [Int.toNat_natCast];by_cases c : k ∈ A.rn
  · have hh := hI.has c;unfold Bk.has at hh;rw [if_pos c, if_pos (by omega)]
  · rw [if_neg c];split
    · rename_i d;exact (hI.off k ⟨by omega, by omega⟩ c).1.symm
    · rfl
end Sm
theorem Bk.Inv.lkl {A : Bk} {m : Nat} (hI : A.Inv m) (k : Int) : (A.lkI k).length ≤ 1024 := by
  unfold Bk.lkI;split
  · rename_i c;by_cases d : k.toNat ∈ A.rn
    · have h2 := hI.cnt;unfold Bk.count at h2;have h3 : (A.tx k.toNat).locks.length ≤ (A.rn.map fun k => (A.tx k).locks.length).sum := sum_mem (f := fun k => (A.tx k).locks.length) d;omega
    · rw [(hI.off _ ⟨by omega, by omega⟩ d).1];simp
  · simp
theorem Sm.osl {A : Bk} {r : Rg} {m : Nat} (h : Sm A r.rb) (hI : A.Inv m) (hm : m < 100000) : ∀ t ∈ r.ts, t.rt.inP = true → t.os.length < 100000 := fun t ht hp => by
  obtain ⟨i, hi, hit⟩ := List.mem_iff_getElem.1 ht;have hk : r.rb.has (i + 1) := ⟨by omega, by simp [Rg.rb]; omega⟩;have htx : r.rb.tx (i + 1) = t.rt := rb_tx (by rw [Nat.add_sub_cancel, List.getElem?_eq_getElem hi, hit]);have hA := h.has.1 hk;have hr : i + 1 ∈ A.rn := (h.inP hI hA).1 (by rw [htx]; exact hp);have h3 := hI.ol _ hA;have h4 := (h.run _ hr).2;rw [htx] at h4;have h5 : (ops t.os).length = t.os.length := List.length_map _;have h6 : ops t.os = (A.tx (i + 1)).ops := h4;rw [← h6] at h3;omega
attribute [local irreducible] SC St Fin Sq Ylds Doos Sets Enters Spec CellIs CellsAre Then Ret Rnd Chn resOK ints bools recs arr
section
variable {W : World} {M : List Chunk} {g : Bg} {r : Rg}
end
end Go.KL
end

section
/- Walks: a call on both books: Begin, Commit, Abort. -/
namespace Go.KL
open Go.Proofs Go.Proofs.Tryz
theorem Bk.Ok.r5 {A : Bk} {b : RB} {m : Nat} (h : A.Ok m) (hS : Sm A b) (k : Int) : b.stI k < 5 := by
  rw [hS.stI];unfold Bk.stI;split
  · rename_i c;rcases h.inv.st k.toNat ⟨by omega, by omega⟩ with h | h | h | h <;> omega
  · omega
theorem Sm.refI {A : Bk} {b : RB} {m : Nat} (hS : Sm A b) (h : A.Inv m) (k : Int) (w : Bool) :
    (¬ (1 ≤ k ∧ k ≤ A.ts.length) ∧ b.ref k w = 80) ∨ ∃ j : Nat, k = j ∧ A.has j ∧ (((A.tx j).st = 4 ∧ b.ref k w = 81) ∨ ((A.tx j).st = 3 ∧ b.ref k w = 82) ∨ ((A.tx j).st = 2 ∧ b.ref k w = if w = true then 83 else 0) ∨ ((A.tx j).st = 1 ∧ b.ref k w = 0)) := by
  have e : b.ref k w = if A.stI k = 0 then 80 else if A.stI k = 4 then 81 else if A.stI k = 3 then 82 else if A.stI k = 2 ∧ w = true then 83 else 0 := by
    rw [RB.ref, hS.stI]
  by_cases c : 1 ≤ k ∧ k ≤ A.ts.length
  · refine .inr ⟨k.toNat, by omega, ⟨by omega, by omega⟩, ?_⟩;have e2 : A.stI k = (A.tx k.toNat).st := by rw [Bk.stI, if_pos c]
    rw [e, e2];rcases h.st k.toNat ⟨by omega, by omega⟩ with h | h | h | h
    · rw [h]; simp
    · rw [h]; cases w <;> simp
    · rw [h]; simp
    · rw [h]; simp
  · refine .inl ⟨c, ?_⟩;have e2 : A.stI k = 0 := by rw [Bk.stI, if_neg c]
    rw [e, if_pos e2]
theorem K.d1 {W w : World} {L M G : List Chunk} {a b c : Chunk} (h : K W (a :: b :: c :: (L ++ (M ++ G))) w) : K W (L ++ (M ++ (a :: b :: c :: G))) w := K.perm h fun x _ => by
  simp only [List.count_append, List.count_cons];omega
theorem K.d2 {W w : World} {L M G : List Chunk} {a b c : Chunk} (h : K W (L ++ (M ++ (a :: b :: c :: G))) w) : K W (a :: b :: c :: (L ++ (M ++ G))) w := K.perm h fun x _ => by
  simp only [List.count_append, List.count_cons];omega
theorem K.d3 {W w : World} {L M G : List Chunk} {a b c : Chunk} (h : K W (a :: b :: c :: (L ++ (M ++ G))) w) : K W (M ++ (a :: b :: c :: (L ++ G))) w := K.perm h fun x _ => by
  simp only [List.count_append, List.count_cons];omega
theorem Sm.cm {A B : Bk} {b b' : RB} {m n e n' e' : Nat} {k : Int} (hS : Sm A b) (hI : A.Inv m) (hc : A.Cmt k B n e) (hd : b.Cm k b' n' e') : Sm B b' ∧ n' = n ∧ e' = e := by
  rcases hS.refI hI k true with ⟨h1, h2⟩ | ⟨j, rfl, hj, h⟩
  · rcases hc with ⟨_, rfl, rfl, rfl⟩ | ⟨i, rfl, hi, _⟩
    · rcases hd with ⟨_, rfl, rfl, rfl⟩ | ⟨d, _⟩
      · exact ⟨hS, rfl, h2⟩
      · omega
    · unfold Bk.has at hi;omega
  · rcases hc with ⟨hn, _⟩ | ⟨i, hi, _, hc⟩
    · unfold Bk.has at hj;omega
    · obtain rfl : j = i := by omega
      rcases hd with ⟨d, rfl, rfl, rfl⟩ | ⟨d, rfl, rfl, i, hi', rfl⟩
      · rcases hc with ⟨s, rfl, rfl, rfl⟩ | ⟨s, rfl, rfl, rfl⟩ | ⟨s, rfl, rfl, rfl⟩ | ⟨s2, s3, s4, _⟩
        · exact ⟨hS, rfl, by rcases h with ⟨t, h⟩ | ⟨t, h⟩ | ⟨t, h⟩ | ⟨t, h⟩ <;> omega⟩
        · exact ⟨hS, rfl, by rcases h with ⟨t, h⟩ | ⟨t, h⟩ | ⟨t, h⟩ | ⟨t, h⟩ <;> omega⟩
        · exact ⟨hS, rfl, by rcases h with ⟨t, h⟩ | ⟨t, h⟩ | ⟨t, h⟩ | ⟨t, h⟩ <;> first | omega | (rw [if_pos rfl] at h; omega)⟩
        · rcases h with ⟨t, h⟩ | ⟨t, h⟩ | ⟨t, h⟩ | ⟨t, h⟩ <;> omega
      · obtain rfl : j = i := by omega
        have hst : (A.tx j).st = 1 := by
          rcases h with ⟨t, h⟩ | ⟨t, h⟩ | ⟨t, h⟩ | ⟨t, h⟩
          · omega
          · omega
          · rw [if_pos rfl] at h; omega
          · exact t
        rcases hc with ⟨s, _⟩ | ⟨s, _⟩ | ⟨s, _⟩ | ⟨_, _, _, rfl, rfl, rfl⟩
        · omega
        · omega
        · omega
        · have hr := hI.run hj hst;obtain ⟨_, _, c3, _⟩ := Bk.commit_same hj;refine ⟨(hS.commit hr hI).1, ?_, rfl⟩;rw [c3, List.length_append, hS.D];rfl
theorem Sm.ab {A B : Bk} {b b' : RB} {m e e' : Nat} {k : Int} (hS : Sm A b) (hI : A.Inv m) (hc : A.Abt k B e) (hd : b.Ab k b' e') : Sm B b' ∧ e' = e := by
  rcases hS.refI hI k false with ⟨h1, h2⟩ | ⟨j, rfl, hj, h⟩
  · rcases hc with ⟨_, rfl, rfl⟩ | ⟨i, rfl, hi, _⟩
    · rcases hd with ⟨_, rfl, rfl⟩ | ⟨d, _⟩
      · exact ⟨hS, h2⟩
      · omega
    · unfold Bk.has at hi;omega
  · rcases hc with ⟨hn, _⟩ | ⟨i, hi, _, hc⟩
    · unfold Bk.has at hj;omega
    · obtain rfl : j = i := by omega
      rcases hd with ⟨d, rfl, rfl⟩ | ⟨d, rfl, i, hi', rfl⟩
      · rcases hc with ⟨s, rfl, rfl⟩ | ⟨s, rfl, rfl⟩ | ⟨s2, s3, _⟩
        · exact ⟨hS, by rcases h with ⟨t, h⟩ | ⟨t, h⟩ | ⟨t, h⟩ | ⟨t, h⟩ <;> omega⟩
        · exact ⟨hS, by rcases h with ⟨t, h⟩ | ⟨t, h⟩ | ⟨t, h⟩ | ⟨t, h⟩ <;> omega⟩
        · rcases h with ⟨t, h⟩ | ⟨t, h⟩ | ⟨t, h⟩ | ⟨t, h⟩
          · omega
          · omega
          · rw [if_neg (by decide)] at h; omega
          · omega
      · obtain rfl : j = i := by omega
        rcases hc with ⟨s, _⟩ | ⟨s, _⟩ | ⟨_, _, rfl, rfl⟩
        · rcases h with ⟨t, h⟩ | ⟨t, h⟩ | ⟨t, h⟩ | ⟨t, h⟩ <;> omega
        · rcases h with ⟨t, h⟩ | ⟨t, h⟩ | ⟨t, h⟩ | ⟨t, h⟩ <;> omega
        · exact ⟨(hS.abort hj hI).1, rfl⟩
theorem Sm.ql {A : Bk} {r : Rg} {m : Nat} (hS : Sm A r.rb) (hI : A.Inv m) : r.Q.length ≤ 64 := by
  have h : r.Q = A.reqs := hS.Q;have := hI.ql;rw [h, Bk.reqs, List.length_map];exact this
attribute [local irreducible] SC St Fin Sq Ylds Doos Sets Enters Spec CellIs CellsAre Then Ret Rnd Chn resOK ints bools recs arr
section
variable {W : World} {M G : List Chunk} {g : Bg} {r : Rg} {f : Nat → Int} {m : Nat}
end
end Go.KL
end
