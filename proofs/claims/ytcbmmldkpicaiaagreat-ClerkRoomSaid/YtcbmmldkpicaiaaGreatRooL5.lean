/- The library of the proof, part 5: a program logic over the model, walks of functions, plain laws. No condition. -/
import Derived.Test.YtcbmmldkpicaiaaGreatRooL4
set_option maxRecDepth 10000
set_option maxHeartbeats 16000000
section
/- All calls keep what always holds; plain. No program in sight. -/
namespace Go.KL
open Relation
theorem sum_swap {f g : Nat → Nat} {k : Nat} : ∀ {l : List Nat}, l.Nodup → k ∈ l → (∀ j ∈ l, j ≠ k → g j = f j) → (l.map g).sum + f k = (l.map f).sum + g k
  | [], _, h, _ => by simp at h
  | a :: l, hn, h, h2 => by
    obtain ⟨n1, n2⟩ := List.nodup_cons.1 hn;rw [List.map_cons, List.sum_cons, List.map_cons, List.sum_cons];rcases List.mem_cons.1 h with rfl | h
    · rw [sum_congr (f := g) (g := f) (l := l) fun j hj => h2 j (List.mem_cons_of_mem _ hj) fun c => n1 (c ▸ hj)];omega
    · have := sum_swap n2 h fun j hj => h2 j (List.mem_cons_of_mem _ hj);rw [h2 a (List.mem_cons_self ..) fun c => n1 (c ▸ h)];omega
namespace Bk
variable {A : Bk} {b : Nat}
def up (A : Bk) (k : Nat) (t : Tx) (q : List Nat) (W : Nat → Nat) : Bk := ⟨A.size, A.C, W, A.ts.set (k - 1) t, A.rn, q, A.log⟩
theorem Inv.upd (h : A.Inv b) {k b' : Nat} {t : Tx} {q' : List Nat} {W' : Nat → Nat} (hr : k ∈ A.rn) (hst : t.st = 1 ∨ t.st = 2) (hq : ∀ j, j ∈ q' ↔ (j ∈ A.q ∧ j ≠ k) ∨ (j = k ∧ t.st = 2)) (hqn : q'.Nodup) (hb : b ≤ b')
    (hl : ∀ x ∈ t.locks, x.tx = k ∧ x.lo < x.hi ∧ x.hi ≤ A.size) (hrq : t.st = 2 → t.req.tx = k ∧ t.req.lo < t.req.hi ∧ t.req.hi ≤ A.size) (hc : t.locks.length + q'.length + A.count ≤ 1024 + (A.tx k).locks.length + A.q.length)
    (hfr : ∀ j ∈ A.rn, j ≠ k → ∀ x ∈ (A.tx j).locks, ∀ y ∈ t.locks, cfl x y = false) (hh : ∀ o ∈ t.ops, Hold t.locks o.lo o.hi o.mv) (hrep : Rep A.size A.C t.ops)
    (hU : ∀ i, (∀ j ∈ A.rn, j ≠ k → ¬ tch (A.tx j).ops i) → ¬ tch t.ops i → W' i = A.C i) (hT : ∀ i, tch t.ops i → W' i = ap A.C t.ops i) (hT' : ∀ j ∈ A.rn, j ≠ k → ∀ i, tch (A.tx j).ops i → W' i = ap A.C (A.tx j).ops i)
    (hm : KL.nbd A.C A.size + 2 * (A.moves + mvs t.ops) ≤ 4096 + 2 * mvs (A.tx k).ops) (hol : t.ops.length ≤ b') : (A.up k t q' W').Inv b' := by
  have hk : A.has k := h.has hr;have hx : ∀ {j}, A.has j → (A.up k t q' W').tx j = if j = k then t else A.tx j := fun hj => tx_set hk hj;have hH : ∀ {j}, (A.up k t q' W').has j ↔ A.has j := has_set;refine { sz := h.sz, rn := fun j => ?_, rnd := h.rnd, rnl := h.rnl, q := fun j => ?_, qnd := hqn, st := fun j hj => ?_, off := fun j hj hn => ?_, lk := fun j hj x hxx => ?_, rq := fun j hj => ?_, cnt := ?_, fr := fun i hi j hj x hxx y hy => ?_, held := fun j hj o hoo => ?_, rep := fun j hj => ?_, wU := fun i hi => ?_, wT := fun j hj i ht => ?_, rm := ?_, ol := fun j hj => ?_ }
  · rw [hH];have h1 := h.rn j;show j ∈ A.rn ↔ _;rw [h1];refine and_congr_right fun hj => ?_;rw [hx hj];by_cases e : j = k
    · rw [if_pos e, e];have h2 := (h.rn k).1 hr;exact ⟨fun _ => hst, fun _ => h2.2⟩
    · rw [if_neg e]
  · rw [hH];show j ∈ q' ↔ _;rw [hq j];by_cases e : j = k
    · subst e;rw [hx hk, if_pos rfl];exact ⟨fun c => c.elim (fun c => absurd rfl c.2) fun c => ⟨hk, c.2⟩, fun c => .inr ⟨rfl, c.2⟩⟩
    · rw [h.q j];constructor
      · rintro (⟨⟨h1, h2⟩, _⟩ | ⟨h1, _⟩)
        · rw [hx h1, if_neg e]; exact ⟨h1, h2⟩
        · exact absurd h1 e
      · rintro ⟨h1, h2⟩;rw [hx h1, if_neg e] at h2;exact .inl ⟨⟨h1, h2⟩, e⟩
  · rw [hx (hH.1 hj)];split
    · omega
    · exact h.st j (hH.1 hj)
  · have e : j ≠ k := fun e => hn (by rw [e]; exact hr);rw [hx (hH.1 hj), if_neg e];exact h.off j (hH.1 hj) hn
  · rw [hx (hH.1 hj)] at hxx;split at hxx
    · rename_i e;rw [e];exact hl x hxx
    · exact h.lk j (hH.1 hj) x hxx
  · rcases (hq j).1 hj with ⟨h1, e⟩ | ⟨e, h1⟩
    · rw [hx (h.qhas h1), if_neg e];exact h.rq j h1
    · subst e;rw [hx hk, if_pos rfl];exact hrq h1
  · have h1 := sum_swap (f := fun j => (A.tx j).locks.length) (g := fun j => ((A.up k t q' W').tx j).locks.length) h.rnd hr fun j hj e => by rw [hx (h.has hj), if_neg e]
    have h2 := h.cnt;rw [hx hk, if_pos rfl] at h1;unfold Bk.count at hc h2;have h3 : (A.rn.map fun j => ((A.up k t q' W').tx j).locks.length).sum + q'.length ≤ 1024 := by omega
    exact h3
  · rw [hx (h.has hi)] at hxx;rw [hx (h.has hj)] at hy;split at hxx <;> split at hy
    · rename_i e1 e2;exact cfl_self ((hl x hxx).1.trans (hl y hy).1.symm)
    · rename_i e1 e2;rw [cfl_comm];exact hfr j hj e2 y hy x hxx
    · rename_i e1 e2;exact hfr i hi e1 x hxx y hy
    · exact h.fr i hi j hj x hxx y hy
  · rw [hx (h.has hj)] at hoo ⊢;split at hoo
    · rename_i e;rw [if_pos e];exact hh o hoo
    · rename_i e;rw [if_neg e];exact h.held j hj o hoo
  · rw [hx (h.has hj)];split
    · exact hrep
    · exact h.rep j hj
  · refine hU i (fun j hj e ht => hi j hj ?_) fun ht => hi k hr ?_
    · rw [hx (h.has hj), if_neg e];exact ht
    · rw [hx hk, if_pos rfl];exact ht
  · rw [hx (h.has hj)] at ht ⊢;split at ht
    · rename_i e;rw [if_pos e];exact hT i ht
    · rename_i e;rw [if_neg e];exact hT' j hj e i ht
  · have h1 := sum_swap (f := fun j => mvs (A.tx j).ops) (g := fun j => mvs ((A.up k t q' W').tx j).ops) h.rnd hr fun j hj e => by rw [hx (h.has hj), if_neg e]
    have h4 : A.moves = (A.rn.map fun j => mvs (A.tx j).ops).sum := rfl;have h5 := h.rm;rw [hx hk, if_pos rfl] at h1;have h3 : KL.nbd A.C A.size + 2 * (A.rn.map fun j => mvs ((A.up k t q' W').tx j).ops).sum ≤ 4096 := by omega
    exact h3
  · rw [hx (hH.1 hj)];split
    · exact hol
    · exact Nat.le_trans (h.ol j (hH.1 hj)) hb
section
variable {k : Nat}
theorem Inv.run (h : A.Inv b) (hk : A.has k) (hs : (A.tx k).st = 1) : k ∈ A.rn := (h.rn k).2 ⟨hk, .inl hs⟩
theorem Inv.noq (h : A.Inv b) (hs : (A.tx k).st = 1) : k ∉ A.q := fun c => by
  have := ((h.q k).1 c).2;omega
theorem Inv.q1 (h : A.Inv b) (hs : (A.tx k).st = 1) {s : Nat} (h1 : s = 1) (j : Nat) : j ∈ A.q ↔ (j ∈ A.q ∧ j ≠ k) ∨ (j = k ∧ s = 2) := by
  constructor
  · exact fun c => .inl ⟨c, fun e => h.noq hs (e ▸ c)⟩
  · rintro (c | c)
    · exact c.1
    · omega
theorem Inv.got (h : A.Inv b) (hk : A.has k) (hs : (A.tx k).st = 1) {lo hi : Nat} {wr : Bool} (h1 : lo < hi) (h2 : hi ≤ A.size) (hc : A.count < 1024) (hf : A.free ⟨k, lo, hi, wr⟩ A.q = true) : (A.setT k { A.tx k with locks := (A.tx k).locks ++ [⟨k, lo, hi, wr⟩] }).Inv b := by
  have hr := h.run hk hs;obtain ⟨f1, _⟩ := free_iff.1 hf;refine h.upd (t := { A.tx k with locks := (A.tx k).locks ++ [⟨k, lo, hi, wr⟩] }) (q' := A.q) (W' := A.W) hr (.inl hs) (h.q1 hs hs) h.qnd (Nat.le_refl _) (fun x hx => ?_) (fun c => ?_) ?_ (fun j hj e x hx y hy => ?_) (fun o ho => ?_) (h.rep k hr) (fun i hi hn => h.wU i fun j hj => ?_) (h.wT k hr) (fun j hj _ => h.wT j hj) ?_ (h.ol k hk)
  · rcases List.mem_append.1 hx with hx | hx
    · exact h.lk k hk x hx
    · rw [List.mem_singleton.1 hx];exact ⟨rfl, h1, h2⟩
  · dsimp only at c; omega
  · dsimp only;rw [List.length_append, List.length_singleton];omega
  · rcases List.mem_append.1 hy with hy | hy
    · exact h.fr j hj k hr x hx y hy
    · rw [List.mem_singleton.1 hy];exact f1 j hj x hx
  · exact (h.held k hr o ho).mono fun x hx => List.mem_append_left _ hx
  · by_cases e : j = k
    · rw [e]; exact hn
    · exact hi j hj e
  · have := h.rm;dsimp only;omega
theorem Inv.wait (h : A.Inv b) (hk : A.has k) (hs : (A.tx k).st = 1) {lo hi : Nat} {wr : Bool} (h1 : lo < hi) (h2 : hi ≤ A.size) (hc : A.count < 1024) : (A.wait k ⟨k, lo, hi, wr⟩).Inv b := by
  have hr := h.run hk hs;refine h.upd (t := ⟨2, (A.tx k).locks, ⟨k, lo, hi, wr⟩, (A.tx k).ops⟩) (q' := A.q ++ [k]) (W' := A.W) hr (.inr rfl) (fun j => ?_) ?_ (Nat.le_refl _) (h.lk k hk) (fun _ => ⟨rfl, h1, h2⟩) ?_ (fun j hj _ x hx y hy => h.fr j hj k hr x hx y hy) (h.held k hr) (h.rep k hr) (fun i hi hn => h.wU i fun j hj => ?_) (h.wT k hr) (fun j hj _ => h.wT j hj) ?_ (h.ol k hk)
  · rw [List.mem_append, List.mem_singleton];constructor
    · rintro (c | c)
      · exact .inl ⟨c, fun e => h.noq hs (e ▸ c)⟩
      · exact .inr ⟨c, rfl⟩
    · rintro (c | c)
      · exact .inl c.1
      · exact .inr c.1
  · refine List.nodup_append.2 ⟨h.qnd, by simp, fun x hx y hy => ?_⟩;rw [List.mem_singleton.1 hy];exact fun e => h.noq hs (e ▸ hx)
  · dsimp only;rw [List.length_append, List.length_singleton];omega
  · by_cases e : j = k
    · rw [e]; exact hn
    · exact hi j hj e
  · have := h.rm;dsimp only;omega
theorem Inv.looked (h : A.Inv b) (hk : A.has k) (hs : (A.tx k).st = 1) {lo hi fr to : Nat} (h1 : lo ≤ hi) (h2 : hi ≤ A.size) (h3 : fr < 16 ∧ to < 16) (hh : Hold (A.tx k).locks lo hi false) : (A.done k ⟨false, lo, hi, fr, to, rns A.W lo hi⟩).Inv (b + 1) := by
  have hr := h.run hk hs;have hnt : ∀ i, tch ((A.tx k).ops ++ [⟨false, lo, hi, fr, to, rns A.W lo hi⟩]) i → tch (A.tx k).ops i := fun i ht => by
    rcases tch.app.1 ht with c | ⟨o, ho, c, _⟩
    · exact c
    · rw [List.mem_singleton.1 ho] at c; cases c
  refine h.upd (t := { A.tx k with ops := (A.tx k).ops ++ [⟨false, lo, hi, fr, to, rns A.W lo hi⟩] }) (q' := A.q) (W' := A.W) hr (.inl hs) (h.q1 hs hs) h.qnd (Nat.le_succ _) (h.lk k hk) (fun c => ?_) ?_ (fun j hj _ x hx y hy => h.fr j hj k hr x hx y hy) (fun o ho => ?_) ?_ (fun i hi hn => h.wU i fun j hj => ?_) (fun i ht => ?_) (fun j hj _ => h.wT j hj) ?_ ?_
  · dsimp only at c; omega
  · have := h.cnt;dsimp only;omega
  · rcases List.mem_append.1 ho with ho | ho
    · exact h.held k hr o ho
    · rw [List.mem_singleton.1 ho];exact hh
  · exact (h.rep k hr).snoc ⟨⟨h1, h2⟩, h3, fun _ => rns_congr h1 fun i a1 a2 => h.view' hr hh a1 a2, fun c => (by cases c), fun c => (by cases c)⟩
  · by_cases e : j = k
    · rw [e];exact fun c => hn (tch.app.2 (.inl c))
    · exact hi j hj e
  · have := hnt i ht;rw [h.wT k hr i this];dsimp only;rw [ap_snoc];rfl
  · have := h.rm;dsimp only;rw [mvs_app];show _ + 2 * (_ + (_ + 0)) ≤ _;omega
  · have := h.ol k hk;dsimp only;rw [List.length_append];simp;omega
theorem Inv.room (hr : A.room ≠ 0) : KL.nbd A.C A.size + 2 * A.moves + 2 ≤ 4096 := by
  unfold Bk.room at hr;omega
theorem Inv.moved (h : A.Inv b) (hk : A.has k) (hs : (A.tx k).st = 1) {lo hi fr to : Nat} (h1 : lo ≤ hi) (h2 : hi ≤ A.size) (h3 : fr < 16 ∧ to < 16) (hh : Hold (A.tx k).locks lo hi true) (ha : A.allT lo hi fr) (hro : A.room ≠ 0) : (({ A with W := setf A.W lo hi to } : Bk).done k ⟨true, lo, hi, fr, to, []⟩).Inv (b + 1) := by
  have hr := h.run hk hs;have hin : ∀ i, lo ≤ i → i < hi → tch ((A.tx k).ops ++ [⟨true, lo, hi, fr, to, []⟩]) i := fun i a1 a2 => tch.app.2 (.inr ⟨_, List.mem_singleton.2 rfl, rfl, a1, a2⟩);refine h.upd (t := { A.tx k with ops := (A.tx k).ops ++ [⟨true, lo, hi, fr, to, []⟩] }) (q' := A.q) (W' := setf A.W lo hi to) hr (.inl hs) (h.q1 hs hs) h.qnd (Nat.le_succ _) (h.lk k hk) (fun c => ?_) ?_ (fun j hj _ x hx y hy => h.fr j hj k hr x hx y hy) (fun o ho => ?_) ?_ (fun i hi hn => ?_) (fun i ht => ?_) (fun j hj e i ht => ?_) ?_ ?_
  · dsimp only at c; omega
  · have := h.cnt;dsimp only;omega
  · rcases List.mem_append.1 ho with ho | ho
    · exact h.held k hr o ho
    · rw [List.mem_singleton.1 ho];exact hh
  · exact (h.rep k hr).snoc ⟨⟨h1, h2⟩, h3, fun c => (by cases c), fun _ i a1 a2 => (h.view' hr hh a1 a2).symm.trans (ha i a1 a2), fun _ => rfl⟩
  · rw [setf_out fun c => hn (hin i c.1 c.2)];refine h.wU i fun j hj => ?_;by_cases e : j = k
    · rw [e];exact fun c => hn (tch.app.2 (.inl c))
    · exact hi j hj e
  · dsimp only at ht ⊢;rw [ap_snoc];by_cases c : lo ≤ i ∧ i < hi
    · rw [setf_in c, stp_in (o := ⟨true, lo, hi, fr, to, []⟩) ⟨rfl, c⟩]
    · rw [setf_out c, stp_out (o := ⟨true, lo, hi, fr, to, []⟩) fun d => c d.2];refine h.wT k hr i ?_;rcases tch.app.1 ht with d | ⟨o, ho, _, d⟩
      · exact d
      · rw [List.mem_singleton.1 ho] at d;exact absurd d c
  · rw [setf_out fun c => ?_]
    · exact h.wT j hj i ht
    · obtain ⟨x, hx, _, h5⟩ := hh i c.1 c.2;exact h.apart hj hr e ht hx h5
  · have := Inv.room hro;dsimp only;rw [mvs_app];show _ + 2 * (_ + (_ + 1)) ≤ _;omega
  · have := h.ol k hk;dsimp only;rw [List.length_append];simp;omega
end
end Bk
end Go.KL
end

section
/- All calls keep what always holds (end); what the walks ask; plain. No program in sight. -/
namespace Go.KL
open Relation
namespace Bk
variable {A : Bk} {b : Nat}
structure Ok (A : Bk) (b : Nat) : Prop where
  inv : A.Inv b
  blk : A.Blk
  ac : A.Ac
theorem Ok.mono (h : A.Ok b) {c : Nat} (hc : b ≤ c) : A.Ok c := ⟨h.inv.mono hc, h.blk, h.ac⟩
theorem fin_tx {j : Nat} (h : A.Inv b) (hj : A.has j) : (A.fin.tx j = A.tx j ∧ (j ∈ A.q → j ∈ A.fin.q)) ∨ (j ∈ A.q ∧ j ∉ A.fin.q ∧ A.fin.tx j = ⟨1, (A.tx j).locks ++ [(A.tx j).req], Lk.zero, (A.tx j).ops⟩) :=
  gr_tx A.q A [] h.qnd (fun _ hk => h.qhas hk) hj
theorem fin_same : A.fin.size = A.size ∧ A.fin.C = A.C ∧ A.fin.W = A.W ∧ A.fin.log = A.log ∧ A.fin.ts.length = A.ts.length := gr_same A.q A []
section
variable {k : Nat}
theorem abort_same (hk : A.has k) : (A.abort k).size = A.size ∧ (A.abort k).C = A.C ∧ (A.abort k).log = A.log ∧ (A.abort k).ts.length = A.ts.length := by
  rw [abort_eq hk];obtain ⟨h1, h2, _, h4, h5⟩ := fin_same (A := A.ended k 4 Lk.zero A.C (KL.un A.W (A.tx k).ops) A.log);exact ⟨h1, h2, h4, h5.trans (by simp [ended])⟩
theorem abort_me (h : A.Inv b) (hk : A.has k) : (A.abort k).tx k = ⟨4, [], Lk.zero, []⟩ := by
  rw [abort_eq hk];have e := ended_tx (s := 4) (r := Lk.zero) (C := A.C) (W := KL.un A.W (A.tx k).ops) (lg := A.log) hk hk;rw [if_pos rfl] at e;rcases fin_tx (h.ab hk) (ended_has.2 hk) with ⟨h1, _⟩ | ⟨h1, _⟩
  · rw [h1, e]
  · exact absurd rfl (mem_ne.1 h1).2
theorem abort_tx {j : Nat} (h : A.Inv b) (hk : A.has k) (hj : A.has j) (hne : j ≠ k) : ((A.abort k).tx j = A.tx j ∧ (j ∈ A.q → j ∈ (A.abort k).q)) ∨ (j ∈ A.q ∧ j ∉ (A.abort k).q ∧ (A.abort k).tx j = ⟨1, (A.tx j).locks ++ [(A.tx j).req], Lk.zero, (A.tx j).ops⟩) := by
  rw [abort_eq hk];have e := ended_ne (s := 4) (r := Lk.zero) (C := A.C) (W := KL.un A.W (A.tx k).ops) (lg := A.log) hk hj hne;rcases fin_tx (h.ab hk) (ended_has.2 hj) with ⟨h1, h2⟩ | ⟨h1, h2, h3⟩
  · exact .inl ⟨h1.trans e, fun c => h2 (mem_ne.2 ⟨c, hne⟩)⟩
  · rw [e] at h3;exact .inr ⟨(mem_ne.1 h1).1, h2, h3⟩
structure Rs (A0 : Bk) (b k : Nat) (l : Lk) (A : Bk) : Prop where
  inv : A.Inv b
  blk : A.Blk
  w : A.AcW k
  hk : A.has k
  sm : A.size = A0.size ∧ A.C = A0.C ∧ A.log = A0.log ∧ A.ts.length = A0.ts.length
  me : ((A.tx k).st = 2 ∧ (A.tx k).req = l ∧ (A.tx k).locks = (A0.tx k).locks ∧ (A.tx k).ops = (A0.tx k).ops) ∨ ((A.tx k).st = 1 ∧ (A.tx k).locks = (A0.tx k).locks ++ [l] ∧ (A.tx k).ops = (A0.tx k).ops) ∨ (A.tx k).st = 4
theorem Rs.abort {A0 : Bk} {l : Lk} {v : Nat} (h : Rs A0 b k l A) (hs : (A.tx k).st = 2) (hv : A.has v) : Rs A0 b k l (A.abort v) := by
  obtain ⟨s1, s2, s3, s4⟩ := h.sm;obtain ⟨t1, t2, t3, t4⟩ := abort_same hv;have hi := h.inv.abort hv;refine ⟨hi, ?_, h.w.sub hi (fun i c => (abort_has hv).1 c) fun i j hi he => abort_edge h.inv hv hi he, (abort_has hv).2 h.hk, ⟨t1.trans s1, t2.trans s2, t3.trans s3, t4.trans s4⟩, ?_⟩
  · rw [abort_eq hv];exact fin_blk (h.inv.ab hv)
  · by_cases e : k = v
    · subst e;rw [abort_me h.inv hv];exact .inr (.inr rfl)
    · obtain ⟨_, m2, m3, m4⟩ : (A.tx k).st = 2 ∧ (A.tx k).req = l ∧ (A.tx k).locks = (A0.tx k).locks ∧ (A.tx k).ops = (A0.tx k).ops := by
        rcases h.me with c | c | c
        · exact c
        · omega
        · omega
      rcases abort_tx h.inv hv h.hk e with ⟨h1, _⟩ | ⟨_, _, h1⟩
      · rw [h1]; exact .inl ⟨hs, m2, m3, m4⟩
      · rw [h1, m2, m3, m4];exact .inr (.inl ⟨rfl, rfl, rfl⟩)
theorem IsVic.has (h : A.Inv b) {v : Nat} (hv : A.IsVic k v) (h0 : v ≠ 0) : A.has v := by
  rcases hv with ⟨c, _⟩ | ⟨_, ⟨c, _⟩, _⟩
  · exact absurd c h0
  · rcases R.sub c with c | c
    · exact h.has c
    · exact h.qhas c
theorem before_app {q : List Nat} {i j : Nat} (h : i ∈ q) : (q ++ [j]).takeWhile (fun x => !decide (x = i)) = q.takeWhile (fun x => !decide (x = i)) := tw_in h
theorem wait_tx {l : Lk} {j : Nat} (hk : A.has k) (hj : A.has j) : (A.wait k l).tx j = if j = k then ⟨2, (A.tx k).locks, l, (A.tx k).ops⟩ else A.tx j := tx_set (t := ⟨2, (A.tx k).locks, l, (A.tx k).ops⟩) hk hj
theorem wait_has {l : Lk} {j : Nat} : (A.wait k l).has j ↔ A.has j := has_set (t := ⟨2, (A.tx k).locks, l, (A.tx k).ops⟩)
theorem Ok.rs (h : A.Ok b) (hk : A.has k) (hs : (A.tx k).st = 1) {lo hi : Nat} {wr : Bool} (h1 : lo < hi) (h2 : hi ≤ A.size) (hc : A.count < 1024) (hf : A.free ⟨k, lo, hi, wr⟩ A.q = false) : Rs A b k ⟨k, lo, hi, wr⟩ (A.wait k ⟨k, lo, hi, wr⟩) := by
  have hi' := h.inv.wait hk hs (wr := wr) h1 h2 hc;have hlk : ∀ m ∈ A.rn, m ∈ (A.wait k ⟨k, lo, hi, wr⟩).rn ∧ ∀ y ∈ (A.tx m).locks, y ∈ ((A.wait k ⟨k, lo, hi, wr⟩).tx m).locks := fun m hm => ⟨hm, fun y hy => by
    rw [wait_tx hk (h.inv.has hm)];split
    · rename_i e; rw [e] at hy; exact hy
    · exact hy⟩
  have hrq : ∀ m ∈ A.q, (A.wait k ⟨k, lo, hi, wr⟩).tx m = A.tx m := fun m hm => by
    rw [wait_tx hk (h.inv.qhas hm), if_neg (show m ≠ k from fun e => h.inv.noq hs (e ▸ hm))]
  refine ⟨hi', BlkF.snoc.2 ⟨?_, ?_⟩, fun j hj hcy => ?_, wait_has.2 hk, ⟨rfl, rfl, rfl, by simp [Bk.wait, Bk.setT]⟩, ?_⟩
  · exact BlkF.mono (A := A) (B := A.wait k ⟨k, lo, hi, wr⟩) hlk h.blk fun m hm => by rw [hrq m hm]
  · rw [wait_tx hk hk, if_pos rfl];exact free_mono hf hlk fun m hm => by rw [hrq m hm]
  · refine h.ac j (wait_has.1 hj) (trans_sub (H := A.has) (fun _ _ c => wait_has.1 (E_has hi' c.1)) (fun i m hi c => ?_) (wait_has.1 hj) hcy).1;obtain ⟨c1, c2⟩ := c;obtain ⟨c3, c4⟩ := E_iff.1 c1;rw [wait_tx hk hi, if_neg c2] at c3 c4;have hiq : i ∈ A.q := (h.inv.q i).2 ⟨hi, c3⟩;refine E_iff.2 ⟨c3, ?_⟩;rcases c4 with ⟨hm, x, hx, hcf⟩ | ⟨hm, hcf⟩
    · refine .inl ⟨hm, x, ?_, hcf⟩;rw [wait_tx hk (h.inv.has hm)] at hx;split at hx
      · rename_i e; rw [e]; exact hx
      · exact hx
    · have hm2 : m ∈ (A.q ++ [k]).takeWhile (fun x => !decide (x = i)) := hm;rw [before_app hiq] at hm2;rw [hrq m ((List.takeWhile_sublist _).subset hm2)] at hcf;exact .inr ⟨hm2, hcf⟩
  · rw [wait_tx hk hk, if_pos rfl];exact .inl ⟨rfl, rfl, rfl, rfl⟩
structure Got (A : Bk) (b k lo hi : Nat) (wr : Bool) (B : Bk) (e : Nat) : Prop where
  ok : B.Ok b
  hk : B.has k
  sm : B.size = A.size ∧ B.C = A.C ∧ B.log = A.log ∧ B.ts.length = A.ts.length
  z : e = 0 → (B.tx k).st = 1 ∧ Hold (B.tx k).locks lo hi wr ∧ (B.tx k).ops = (A.tx k).ops
theorem Rs.res {A0 B : Bk} {lo hi e : Nat} {wr : Bool} (hr : Res k A B e) : Rs A0 b k ⟨k, lo, hi, wr⟩ A → Got A0 b k lo hi wr B e := by
  induction hr with
  | @free A hs =>
    intro h;refine ⟨⟨h.inv, h.blk, h.w.ac' (by omega)⟩, h.hk, h.sm, fun _ => ⟨hs, ?_⟩⟩;rcases h.me with c | ⟨_, c2, c3⟩ | c
    · omega
    · rw [c2, c3];exact ⟨Hold.last, rfl⟩
    · omega
  | @gone A hs =>
    intro h;exact ⟨⟨h.inv, h.blk, h.w.ac' (by omega)⟩, h.hk, h.sm, fun c => by cases c⟩
  | @wait A hs hv =>
    intro h;refine ⟨⟨h.inv, h.blk, h.w.ac fun c => ?_⟩, h.hk, h.sm, fun c => by cases c⟩;rcases hv with ⟨_, hv⟩ | ⟨h0, _⟩
    · exact hv k ⟨R_iff.2 c, R_iff.2 c⟩
    · exact absurd rfl h0
  | @next A B v e hs hv h0 _ ih =>
    intro h;exact ih (h.abort hs (hv.has h.inv h0))
theorem Ok.obt (h : A.Ok b) (hk : A.has k) (hs : (A.tx k).st = 1) {lo hi e : Nat} {wr : Bool} {B : Bk} (h2 : hi ≤ A.size) (ho : A.Obt k lo hi wr B e) : Got A b k lo hi wr B e := by
  cases ho with
  | has hh => exact ⟨h, hk, ⟨rfl, rfl, rfl, rfl⟩, fun _ => ⟨hs, hh, rfl⟩⟩
  | full _ _ => exact ⟨h, hk, ⟨rfl, rfl, rfl, rfl⟩, fun c => by cases c⟩
  | got hn hc hf =>
    have hi' := h.inv.got hk hs (Hold.ne hn) h2 hc hf;change Got A b k lo hi wr (A.setT k ⟨(A.tx k).st, (A.tx k).locks ++ [⟨k, lo, hi, wr⟩], (A.tx k).req, (A.tx k).ops⟩) 0;change (A.setT k ⟨(A.tx k).st, (A.tx k).locks ++ [⟨k, lo, hi, wr⟩], (A.tx k).req, (A.tx k).ops⟩).Inv b at hi';obtain ⟨D, hD⟩ : ∃ D, D = A.setT k ⟨(A.tx k).st, (A.tx k).locks ++ [⟨k, lo, hi, wr⟩], (A.tx k).req, (A.tx k).ops⟩ := ⟨_, rfl⟩;have hx : ∀ {j}, A.has j → D.tx j = if j = k then ⟨(A.tx k).st, (A.tx k).locks ++ [⟨k, lo, hi, wr⟩], (A.tx k).req, (A.tx k).ops⟩ else A.tx j := fun hj => by rw [hD]; exact tx_set hk hj
    have hH : ∀ {j}, D.has j ↔ A.has j := by rw [hD]; exact has_set
    have hDq : D.q = A.q := by rw [hD]; rfl
    have hDr : D.rn = A.rn := by rw [hD]; rfl
    have hDs : D.size = A.size ∧ D.C = A.C ∧ D.log = A.log ∧ D.ts.length = A.ts.length := by rw [hD]; exact ⟨rfl, rfl, rfl, by simp [Bk.setT]⟩
    rw [← hD] at hi' ⊢;have hq : ∀ m ∈ A.q, D.tx m = A.tx m := fun m hm => by
      rw [hx (h.inv.qhas hm), if_neg (show m ≠ k from fun e => h.inv.noq hs (e ▸ hm))]
    obtain ⟨_, f2⟩ := free_iff.1 hf;refine ⟨⟨hi', ?_, h.ac.sub hi' (fun i c => hH.1 c) fun i j hi he => ?_⟩, hH.2 hk, hDs, fun _ => ?_⟩
    · unfold Blk;rw [hDq];refine BlkF.mono (A := A) (B := D) (fun m hm => ⟨by rw [hDr]; exact hm, fun y hy => ?_⟩) h.blk fun m hm => by rw [hq m hm]
      rw [hx (h.inv.has hm)];split
      · rename_i e; rw [e] at hy; exact List.mem_append_left _ hy
      · exact hy
    · obtain ⟨c3, c4⟩ := E_iff.1 he;have hik : i ≠ k := fun e => by
        rw [e, hx hk, if_pos rfl] at c3;dsimp only at c3;omega
      rw [hDr, hDq] at c4;rw [hx hi, if_neg hik] at c3 c4;have hiq : i ∈ A.q := (h.inv.q i).2 ⟨hi, c3⟩;refine E_iff.2 ⟨c3, ?_⟩;rcases c4 with ⟨hm, x, hxx, hcf⟩ | ⟨hm, hcf⟩
      · rw [hx (h.inv.has hm)] at hxx;split at hxx
        · rename_i e;rcases List.mem_append.1 hxx with hxx | hxx
          · exact .inl ⟨hm, x, by rw [e]; exact hxx, hcf⟩
          · rw [List.mem_singleton.1 hxx, cfl_comm, f2 i hiq] at hcf;cases hcf
        · exact .inl ⟨hm, x, hxx, hcf⟩
      · rw [hq j ((List.takeWhile_sublist _).subset hm)] at hcf;exact .inr ⟨hm, hcf⟩
    · rw [hx hk, if_pos rfl];exact ⟨hs, Hold.last, rfl⟩
  | res hn hc hf hr => exact (h.rs hk hs (Hold.ne hn) h2 hc hf).res hr
theorem Ok.ops (h : A.Ok b) (hk : A.has k) {o : Oa} {W : Nat → Nat} (hI : (({ A with W := W } : Bk).done k o).Inv (b + 1)) : (({ A with W := W } : Bk).done k o).Ok (b + 1) := by
  have hx : ∀ {j}, A.has j → (({ A with W := W } : Bk).done k o).tx j = if j = k then { A.tx k with ops := (A.tx k).ops ++ [o] } else A.tx j := fun hj => tx_set (t := { A.tx k with ops := (A.tx k).ops ++ [o] }) hk hj;have hl : ∀ {j}, A.has j → ((({ A with W := W } : Bk).done k o).tx j).locks = (A.tx j).locks ∧ ((({ A with W := W } : Bk).done k o).tx j).req = (A.tx j).req ∧ ((({ A with W := W } : Bk).done k o).tx j).st = (A.tx j).st := fun {j} hj => by
    rw [hx hj];split
    · rename_i e; rw [e]; exact ⟨rfl, rfl, rfl⟩
    · exact ⟨rfl, rfl, rfl⟩
  refine ⟨hI, ?_, h.ac.sub hI (fun i c => has_set.1 c) fun i j hi he => ?_⟩
  · exact BlkF.mono (A := A) (B := ({ A with W := W } : Bk).done k o) (fun m hm => ⟨hm, fun y hy => by rw [(hl (h.inv.has hm)).1]; exact hy⟩) h.blk fun m hm => (hl (h.inv.qhas hm)).2.1
  · obtain ⟨c3, c4⟩ := E_iff.1 he;obtain ⟨_, e2, e3⟩ := hl hi;rw [e3] at c3;rw [e2] at c4;refine E_iff.2 ⟨c3, ?_⟩;rcases c4 with ⟨hm, x, hxx, hcf⟩ | ⟨hm, hcf⟩
    · rw [(hl (h.inv.has hm)).1] at hxx;exact .inl ⟨hm, x, hxx, hcf⟩
    · rw [(hl (h.inv.qhas ((List.takeWhile_sublist _).subset hm))).2.1] at hcf;exact .inr ⟨hm, hcf⟩
theorem Ok.looked (h : A.Ok b) (hk : A.has k) (hs : (A.tx k).st = 1) {lo hi fr to : Nat} (h1 : lo ≤ hi) (h2 : hi ≤ A.size) (h3 : fr < 16 ∧ to < 16) (hh : Hold (A.tx k).locks lo hi false) : (A.done k ⟨false, lo, hi, fr, to, rns A.W lo hi⟩).Ok (b + 1) := h.ops (W := A.W) hk (h.inv.looked hk hs h1 h2 h3 hh)
theorem Ok.moved (h : A.Ok b) (hk : A.has k) (hs : (A.tx k).st = 1) {lo hi fr to : Nat} (h1 : lo ≤ hi) (h2 : hi ≤ A.size) (h3 : fr < 16 ∧ to < 16) (hh : Hold (A.tx k).locks lo hi true) (ha : A.allT lo hi fr) (hro : A.room ≠ 0) : (({ A with W := setf A.W lo hi to } : Bk).done k ⟨true, lo, hi, fr, to, []⟩).Ok (b + 1) := h.ops hk (h.inv.moved hk hs h1 h2 h3 hh ha hro)
theorem Ok.perf (h : A.Ok b) {tx lo hi fr to : Int} {mv : Bool} {B : Bk} {e : Nat} {rs : List Rn} (hp : A.Perf tx mv lo hi fr to B e rs) : B.Ok (b + 1) ∧ B.size = A.size ∧ B.C = A.C ∧ B.log = A.log ∧ B.ts.length = A.ts.length := by
  cases hp with
  | none _ => exact ⟨h.mono (Nat.le_succ _), rfl, rfl, rfl, rfl⟩
  | aborted _ _ _ => exact ⟨h.mono (Nat.le_succ _), rfl, rfl, rfl, rfl⟩
  | committed _ _ _ => exact ⟨h.mono (Nat.le_succ _), rfl, rfl, rfl, rfl⟩
  | waiting _ _ _ => exact ⟨h.mono (Nat.le_succ _), rfl, rfl, rfl, rfl⟩
  | range _ _ _ _ => exact ⟨h.mono (Nat.le_succ _), rfl, rfl, rfl, rfl⟩
  | arg _ _ _ _ _ => exact ⟨h.mono (Nat.le_succ _), rfl, rfl, rfl, rfl⟩
  | no _ hh hs _ _ _ _ hr _ ho _ =>
    have g := h.obt hh hs hr.2 ho;exact ⟨g.ok.mono (Nat.le_succ _), g.sm⟩
  | look _ hh hs _ _ _ _ hr ha ho hmv =>
    have g := h.obt hh hs hr.2 ho;obtain ⟨g1, g2, _⟩ := g.z rfl;obtain ⟨s1, s2, s3, s4⟩ := g.sm;subst hmv;refine ⟨g.ok.looked g.hk g1 hr.1 (by rw [s1]; exact hr.2) ha g2, s1, s2, s3, ?_⟩;rw [← s4];simp [Bk.done, Bk.setT]
  | move _ hh hs _ _ _ _ hr ha ho hmv hd =>
    have g := h.obt hh hs hr.2 ho;obtain ⟨g1, g2, _⟩ := g.z rfl;obtain ⟨s1, s2, s3, s4⟩ := g.sm;subst hmv;rcases hd with ⟨_, rfl, _⟩ | ⟨_, _, rfl, _⟩ | ⟨ha1, hro, rfl, _⟩
    · exact ⟨g.ok.mono (Nat.le_succ _), g.sm⟩
    · exact ⟨g.ok.mono (Nat.le_succ _), g.sm⟩
    · refine ⟨g.ok.moved g.hk g1 hr.1 (by rw [s1]; exact hr.2) ha g2 ha1 hro, s1, s2, s3, ?_⟩;rw [← s4];simp [Bk.done, Bk.setT]
theorem Ok.pre (h : A.Ok b) (hb : b < 100000) {tx lo hi : Int} {mv : Bool} : A.Pre tx lo hi mv := by
  refine ⟨h.inv.good hb, h.inv.st, fun k l m _ _ _ hk hs h1 h2 => ⟨⟨fun D => Rs A b k ⟨k, l, m, mv⟩ D, fun D hD => hD.inv.good hb, fun D v hD hs2 hv h0 => hD.abort hs2 (hv.has hD.inv h0), fun hn hc hf => h.rs hk hs (Hold.ne hn) h2 hc hf, fun D hD => ?_⟩, fun B hB => ?_⟩⟩
  · rcases hD.me with c | c | c
    · exact .inr (.inl c.1)
    · exact .inl c.1
    · exact .inr (.inr c)
  · have g := h.obt hk hs h2 hB;have gi := g.ok.inv;refine ⟨g.sm.1, gi.good hb, Nat.le_trans gi.nbdW gi.rm, gi.rm, fun hro to => ?_⟩;have h3 := nbd_set2 B.W l m to B.size;have h4 := gi.nbdW;have h5 := Inv.room hro;omega
theorem Ok.abort (h : A.Ok b) (hk : A.has k) : (A.abort k).Ok b := by
  have hi := h.inv.abort hk;refine ⟨hi, ?_, h.ac.sub hi (fun i c => (abort_has hk).1 c) fun i j hi he => abort_edge h.inv hk hi he⟩;rw [abort_eq hk];exact fin_blk (h.inv.ab hk)
theorem Ok.commit (h : A.Ok b) (hr : k ∈ A.rn) : (A.commit k).Ok b := by
  have hi := h.inv.commit hr;refine ⟨hi, ?_, h.ac.sub hi (fun i c => (commit_has (h.inv.has hr)).1 c) fun i j hi he => commit_edge h.inv hr hi he⟩;rw [commit_eq (h.inv.has hr)];exact fin_blk (h.inv.cm (h.inv.has hr) hr)
end
theorem begin_has {j : Nat} : A.begin.has j ↔ A.has j ∨ j = A.ts.length + 1 := by
  unfold Bk.has Bk.begin;simp;omega
theorem begin_tx {j : Nat} (hj : A.has j) : A.begin.tx j = A.tx j := by
  unfold Bk.has at hj;unfold Bk.tx Bk.begin;rw [List.getD_eq_getElem?_getD, List.getD_eq_getElem?_getD, List.getElem?_append_left (by omega)]
theorem begin_new : A.begin.tx (A.ts.length + 1) = Tx.new := by
  unfold Bk.tx Bk.begin;rw [List.getD_eq_getElem?_getD, List.getElem?_append_right (by omega)];simp
theorem Inv.begin (h : A.Inv b) (hl : A.rn.length < 64) : A.begin.Inv b := by
  have hno : ¬ A.has (A.ts.length + 1) := fun c => by unfold Bk.has at c; omega
  have hR : ∀ {j}, j ∈ A.begin.rn ↔ j ∈ A.rn ∨ j = A.ts.length + 1 := by
    intro j;show j ∈ A.rn ++ [A.ts.length + 1] ↔ _;simp
  have hnr : A.ts.length + 1 ∉ A.rn := fun c => hno (h.has c);have hnq : A.ts.length + 1 ∉ A.q := fun c => hno (h.qhas c);have hO : ∀ {j}, j ∈ A.begin.rn → (j ∈ A.rn ∧ A.begin.tx j = A.tx j) ∨ (j = A.ts.length + 1 ∧ A.begin.tx j = Tx.new) := fun hj => by
    rcases hR.1 hj with c | c
    · exact .inl ⟨c, begin_tx (h.has c)⟩
    · exact .inr ⟨c, by rw [c]; exact begin_new⟩
  have hs : ∀ f : Tx → Nat, (A.begin.rn.map fun k => f (A.begin.tx k)).sum = (A.rn.map fun k => f (A.tx k)).sum + f Tx.new := fun f => by
    show ((A.rn ++ [A.ts.length + 1]).map _).sum = _;rw [List.map_append, List.sum_append_nat, sum_congr (g := fun k => f (A.tx k)) fun j hj => by rw [begin_tx (h.has hj)]];simp [begin_new]
  refine { sz := h.sz, rn := fun j => ?_, rnd := ?_, rnl := ?_, q := fun j => ?_, qnd := h.qnd, st := fun j hj => ?_, off := fun j hj hn => ?_, lk := fun j hj x hx => ?_, rq := fun j hj => ?_, cnt := ?_, fr := fun i hi j hj x hx y hy => ?_, held := fun j hj o ho => ?_, rep := fun j hj => ?_, wU := fun i hi => ?_, wT := fun j hj i ht => ?_, rm := ?_, ol := fun j hj => ?_ }
  · rw [hR, begin_has];by_cases e : j = A.ts.length + 1
    · subst e;rw [begin_new];simp [Tx.new]
    · rw [or_iff_left e, or_iff_left e, h.rn j];exact and_congr_right fun hj => by rw [begin_tx hj]
  · refine List.nodup_append.2 ⟨h.rnd, by simp, fun x hx y hy => ?_⟩;rw [List.mem_singleton.1 hy];exact fun e => hnr (e ▸ hx)
  · show (A.rn ++ [_]).length ≤ 64;rw [List.length_append];simp;omega
  · show j ∈ A.q ↔ _;rw [begin_has];by_cases e : j = A.ts.length + 1
    · subst e;rw [begin_new];simp [Tx.new, hnq]
    · rw [or_iff_left e, h.q j];exact and_congr_right fun hj => by rw [begin_tx hj]
  · rcases begin_has.1 hj with c | c
    · rw [begin_tx c]; exact h.st j c
    · rw [c, begin_new]; exact .inl rfl
  · rcases begin_has.1 hj with c | c
    · rw [begin_tx c];exact h.off j c fun d => hn (hR.2 (.inl d))
    · rw [c, begin_new]; exact ⟨rfl, rfl⟩
  · rcases begin_has.1 hj with c | c
    · rw [begin_tx c] at hx;exact h.lk j c x hx
    · rw [c, begin_new] at hx;simp [Tx.new] at hx
  · rw [begin_tx (h.qhas hj)];exact h.rq j hj
  · have h1 := hs fun t => t.locks.length;have h2 := h.cnt;unfold Bk.count at h2 ⊢;rw [h1];show _ + 0 + A.q.length ≤ 1024;omega
  · rcases hO hi with ⟨a1, a2⟩ | ⟨_, a2⟩
    · rcases hO hj with ⟨b1, b2⟩ | ⟨_, b2⟩
      · rw [a2] at hx;rw [b2] at hy;exact h.fr i a1 j b1 x hx y hy
      · rw [b2] at hy;simp [Tx.new] at hy
    · rw [a2] at hx;simp [Tx.new] at hx
  · rcases hO hj with ⟨a1, a2⟩ | ⟨_, a2⟩
    · rw [a2] at ho ⊢;exact h.held j a1 o ho
    · rw [a2] at ho;simp [Tx.new] at ho
  · rcases hO hj with ⟨a1, a2⟩ | ⟨_, a2⟩
    · rw [a2]; exact h.rep j a1
    · rw [a2]; exact trivial
  · refine h.wU i fun j hj ht => hi j (hR.2 (.inl hj)) ?_;rw [begin_tx (h.has hj)];exact ht
  · rcases hO hj with ⟨a1, a2⟩ | ⟨_, a2⟩
    · rw [a2] at ht ⊢;exact h.wT j a1 i ht
    · rw [a2] at ht;exact absurd ht tch.nil
  · have h1 := hs fun t => mvs t.ops;have h2 := h.rm;unfold Bk.moves at h2 ⊢;rw [h1];show KL.nbd A.C A.size + 2 * (_ + 0) ≤ 4096;exact h2
  · rcases begin_has.1 hj with c | c
    · rw [begin_tx c]; exact h.ol j c
    · rw [c, begin_new]; exact Nat.zero_le _
theorem Ok.begin (h : A.Ok b) (hl : A.rn.length < 64) : A.begin.Ok b := by
  have hi := h.inv.begin hl;have hno : ¬ A.has (A.ts.length + 1) := fun c => by unfold Bk.has at c; omega
  refine ⟨hi, ?_, fun k hk hc => ?_⟩
  · refine BlkF.mono (A := A) (B := A.begin) (fun m hm => ⟨List.mem_append_left _ hm, fun y hy => ?_⟩) h.blk fun m hm => ?_
    · rw [begin_tx (h.inv.has hm)]; exact hy
    · have hm' : m ∈ A.q := hm;rw [begin_tx (h.inv.qhas hm')]
  · have he : ∀ i j, A.begin.has i → A.begin.E i j → A.has i ∧ A.has j ∧ A.E i j := fun i j hi' he => by
      obtain ⟨c1, c2⟩ := E_iff.1 he;have hia : A.has i := by
        rcases begin_has.1 hi' with c | c
        · exact c
        · rw [c, begin_new] at c1;cases c1
      rw [begin_tx hia] at c1 c2;rcases c2 with ⟨hm, x, hxx, hcf⟩ | ⟨hm, hcf⟩
      · rcases List.mem_append.1 (show j ∈ A.rn ++ [A.ts.length + 1] from hm) with c | c
        · rw [begin_tx (h.inv.has c)] at hxx;exact ⟨hia, h.inv.has c, E_iff.2 ⟨c1, .inl ⟨c, x, hxx, hcf⟩⟩⟩
        · rw [List.mem_singleton.1 c, begin_new] at hxx;simp [Tx.new] at hxx
      · have hmq : j ∈ A.q := (List.takeWhile_sublist _).subset hm;rw [begin_tx (h.inv.qhas hmq)] at hcf;exact ⟨hia, h.inv.qhas hmq, E_iff.2 ⟨c1, .inr ⟨hm, hcf⟩⟩⟩
    have hka : A.has k := by
      have : ∀ {i j}, TransGen A.begin.E i j → A.begin.has i → A.has i := fun c hi => by
        induction c with
        | single c => exact (he _ _ hi c).1
        | tail _ _ ih => exact ih
      exact this hc hk
    exact h.ac k hka (trans_sub (H := A.begin.has) (fun _ _ c => E_has hi c) (fun i j hi c => (he i j hi c).2.2) hk hc).1
theorem fresh_ok {n : Nat} {f : Nat → Nat} (h1 : 0 < n ∧ n ≤ 1099511627776) (h2 : KL.nbd f n ≤ 4096) : (fresh n f).Ok 0 := by
  have hno : ∀ k, ¬ (fresh n f).has k := fun k hk => by
    have h1 := hk.1;have h2 : k ≤ 0 := hk.2;omega
  refine ⟨{ sz := h1, rn := fun j => ⟨fun h => by simp [fresh] at h, fun h => absurd h.1 (hno j)⟩, rnd := List.nodup_nil, rnl := Nat.zero_le _, q := fun j => ⟨fun h => by simp [fresh] at h, fun h => absurd h.1 (hno j)⟩, qnd := List.nodup_nil, st := fun j hj => absurd hj (hno j), off := fun j hj => absurd hj (hno j), lk := fun j hj => absurd hj (hno j), rq := fun j hj => by simp [fresh] at hj, cnt := Nat.zero_le _, fr := fun j hj => by simp [fresh] at hj, held := fun j hj => by simp [fresh] at hj, rep := fun j hj => by simp [fresh] at hj, wU := fun _ _ => rfl, wT := fun j hj => by simp [fresh] at hj, rm := h2, ol := fun j hj => absurd hj (hno j) }, trivial, fun k hk => absurd hk (hno k)⟩
theorem Ok.abt (h : A.Ok b) {tx : Int} {B : Bk} {e : Nat} (ha : A.Abt tx B e) : B.Ok b := by
  rcases ha with ⟨_, rfl, _⟩ | ⟨k, _, hk, ⟨_, rfl, _⟩ | ⟨_, rfl, _⟩ | ⟨_, _, rfl, _⟩⟩
  · exact h
  · exact h
  · exact h
  · exact h.abort hk
theorem Ok.cmt (h : A.Ok b) {tx : Int} {B : Bk} {n e : Nat} (ha : A.Cmt tx B n e) : B.Ok b := by
  rcases ha with ⟨_, rfl, _⟩ | ⟨k, _, hk, ⟨_, rfl, _⟩ | ⟨_, rfl, _⟩ | ⟨_, rfl, _⟩ | ⟨c2, c3, c4, rfl, _⟩⟩
  · exact h
  · exact h
  · exact h
  · exact h
  · refine h.commit (h.inv.run hk ?_);have := h.inv.st k hk;omega
end Bk
end Go.KL
end

section
/- Walks: Queue, begun, call. -/
namespace Go.KL
open Go.Proofs Go.Proofs.Tryz
theorem K.dropMid {W w : World} {A : List Chunk} {d : Chunk} {N : List Chunk} (h : K W (A ++ (d :: N)) w) : K W (A ++ N) w := (K.bckN (A := A) (B := [d]) (N := N) h).tail
def Bk.reqs (A : Bk) : List Lk := A.q.map fun k => (A.tx k).req
attribute [local irreducible] SC St Fin Sq Ylds Doos Sets Enters Spec CellIs CellsAre Then Ret Rnd Chn resOK ints bools recs arr
section
variable {g : Bg} {W : World} {N : List Chunk}
theorem Queue_b (hB : g.OK) (hG : g.bk.Good) : Spec prog 39 #[.pointer (some ⟨g.b, 0, none⟩)] (K W (g.L ++ N)) (X := { x : Value × Chunk // BufR 111 4 x.1 x.2 (lks g.bk.reqs) }) (fun x => x.1.1) (fun x => K W (x.1.2 :: (g.L ++ N))) := by
  have hus := usable_spec (hB.bf (C := K W (g.L ++ N)) Hs.bk);obtain ⟨f0, f1, f2, f3, f4, f5, fq, fl, fea, fer⟩ := hB.bf (C := K W (g.L ++ N)) Hs.bk;have hql : (ptrs g g.q).length = g.q.length := List.length_map _;have hq64 : g.q.length ≤ 64 := hG.q;refine enter (args := [_]) func39 rfl ntmps39 rfl ?_;refine csr (sa ?_);refine snf (c_seq (csr (sm ?_)));refine sk call52 hus fun _ => ?_;refine sy (y_notT rfl) ?_;refine snf (c_condF rfl (c_skip (f_then (csr (sa ?_)))));refine snf (c_seq (csr (sm ?_)));refine sn ?_;refine sf 4 ?_;refine sl f4 ?_;refine sy (y_lenE tab rfl (fq) rfl) ?_;refine sm ?_;refine snf (c_block ?_);refine c_loopP (α := Nat × Value × Chunk) (fun z => [(0, .pointer (some ⟨g.b, 0, none⟩)), (3, z.2.1), (12, g.qv), (13, .int .i64 (ptrs g g.q).length), (14, .int .i64 (z.1 : Nat))]) (fun z => z.1 ≤ g.q.length ∧ BufR 111 4 z.2.1 z.2.2 (lks (g.bk.reqs.take z.1))) (fun z => K W (z.2.2 :: (g.L ++ N))) (fun z => g.q.length - z.1) (0, .slice none 0 0, [])
    ⟨rfl, rfl, rfl, rfl, rfl, trivial⟩ ⟨Nat.zero_le _, .nil⟩ (fun w h => h.addNil) ?_
  rintro ⟨i, u, d⟩ ⟨hi, hu⟩;dsimp only at hi hu ⊢;have fq' : EV (K W (d :: (g.L ++ N))) g.qv 1 (ptrs g g.q) := fq.cons;by_cases c1 : i < g.q.length
  · obtain ⟨k, hk⟩ : ∃ k, g.q[i]? = some k := ⟨g.q[i], by simp [c1]⟩;have hkm : k ∈ g.q := List.mem_of_getElem? hk;obtain ⟨t, htm, hti, hid, hpb, htx⟩ := hB.at (hB.qh k hkm);have ep : g.ptr k = .pointer (some ⟨t.b, 0, none⟩) := by rw [Bg.ptr, hpb]
    have hcell := fq'.cell (i := i) (x := .pointer (some ⟨t.b, 0, none⟩)) (by rw [← ep]; simp [hk]);have e3 := ((hB.tf (C := K W (g.L ++ N)) Hs.bk htm).c3).cons (c := d);have hll : (lks (g.bk.reqs.take i)).length ≤ 64 := by
      rw [List.length_map, List.length_take];omega
    refine csr (sy (y_T (y_lss rfl rfl) (by omega)) ?_);refine snf (c_seq (c_condT rfl (c_skip (f_then (c_seq (c_block (csr (sy (y_ixE tab rfl rfl rfl rfl (fq') _ rfl (by omega)) ?_))))))));refine sl hcell ?_;refine sa ?_;refine snf (c_region (sm ?_));refine sm ?_;refine sn ?_;refine sf 3 ?_;refine sy (y_loadA tab rfl rfl rfl rfl e3) ?_;refine s_do (do_buildSliceS tab ⟨rfl, rfl, rfl, rfl⟩ rfl rfl rfl rfl) rfl rfl rfl (fun b23 => ?_);refine s_do (do_appendR (by_ := 32) (news := lkc t.req) tab 1 rfl hu rfl ⟨rfl, rfl, rfl, rfl⟩ rfl (by simp) rfl (cells_row0 0 rfl rfl) rfl rfl (by omega) (by omega)) rfl rfl rfl (fun x => ?_);obtain ⟨⟨u', d'⟩, hu'⟩ := x;dsimp only at hu' ⊢;refine sa ?_;refine s_nil (f_blockN (f_then (c_region (sy (y_add rfl rfl (by omega)) ?_))));refine sm ?_;refine s_nil ?_;exact f_roundP (i + 1, u', d') ⟨c1, hu'.of (by rw [List.take_add_one, show g.bk.reqs[i]? = some t.req by rw [Bk.reqs, List.getElem?_map, show g.bk.q[i]? = some k from hk]; simp [htx, Tg.tx]]; simp)⟩ (by dsimp only; omega) ⟨rfl, rfl, rfl, rfl, rfl, trivial⟩ (fun w h => h.tail)
  · obtain rfl : i = g.q.length := by omega
    rw [List.take_of_length_le (show g.bk.reqs.length ≤ g.q.length by simp [Bk.reqs, Bg.bk])] at hu;refine csr (sy (y_F (y_lss rfl rfl) (by omega)) ?_);refine snf (c_seq (c_condF rfl (c_exit (f_thenE (f_rndE (f_blockE (f_then (csr (sm ?_)))))))));refine sa ?_;refine snf (c_ret ?_);exact f_ret ⟨(u, d), hu⟩ (res1 rfl rfl) (fun w h => h)
def Bk.Cl (A : Bk) (f : Nat → Int) (B : Bk) : Prop :=
  (f 0 % 6 = 0 ∧ ((64 ≤ A.rn.length ∧ B = A) ∨ (A.rn.length < 64 ∧ B = A.begin))) ∨ ((f 0 % 6 = 1 ∨ f 0 % 6 = 2) ∧ ∃ e rs, A.Perf (f 1) false (f 2) (f 3) 0 0 B e rs) ∨ (f 0 % 6 = 3 ∧ ∃ e rs, A.Perf (f 1) true (f 2) (f 3) (f 4) (f 5) B e rs) ∨ (f 0 % 6 = 4 ∧ ∃ n e, A.Cmt (f 1) B n e) ∨ (f 0 % 6 = 5 ∧ ∃ e, A.Abt (f 1) B e)
theorem Bk.Ok.cl {A B : Bk} {b : Nat} {f : Nat → Int} (h : A.Ok b) (hc : A.Cl f B) : B.Ok (b + 1) := by
  rcases hc with ⟨_, ⟨_, rfl⟩ | ⟨h1, rfl⟩⟩ | ⟨_, e, rs, hp⟩ | ⟨_, e, rs, hp⟩ | ⟨_, n, e, hp⟩ | ⟨_, e, hp⟩
  · exact h.mono (Nat.le_succ _)
  · exact (h.begin h1).mono (Nat.le_succ _)
  · exact (h.perf hp).1
  · exact (h.perf hp).1
  · exact (h.cmt hp).mono (Nat.le_succ _)
  · exact (h.abt hp).mono (Nat.le_succ _)
end
end Go.KL
end

section
/- Views appended; parts of views. No program in sight. -/
namespace Go.KL
section
variable {P : Program} {W w : World} {Ls : List Chunk} {n : Nat} {σ : Slots} {C D : World → Prop} {dst : Option Tmp} {ty : TypeId} {pos : String} {after : Array Edge} {guard : Option (Nat × Bool)} {e : TypeId} {s : Nat} {v : Value} {c p : Chunk} {rows rows' : List (List Value)}
def frv : Value → Nat → Nat → Value
  | .slice p m c, k, s => .slice (if c = k then p else p.map (·.add (k * s))) (m - k) (c - k)
  | x, _, _ => x
theorem EV.fr (h : EV C v s rows) {k : Nat} (hk : k ≤ rows.length) : EV C (frv v k s) s (rows.drop k) := by
  have hl := h.len;obtain ⟨pa, c, rfl, hc, hv⟩ := h.view;refine ⟨fun x hx => hl x (List.mem_of_mem_drop hx), ?_⟩;rw [List.length_drop];refine ⟨_, _, rfl, by omega, fun h0 => ?_⟩;obtain ⟨b, o, rfl, h3⟩ := hv (by omega);rw [if_neg (by omega)];refine ⟨b, o + k * s, by rw [Option.map_some, Go.WideShapes.add_plain], fun i hi j hj => ?_⟩;have := h3 (k + i) (by omega) j hj;rw [show o + (k + i) * s + j = o + k * s + i * s + j by rw [Nat.add_mul]; omega] at this;simp only [rix, List.getD_eq_getElem?_getD] at this ⊢;rw [List.getElem?_drop];exact this
theorem y_slFrE (T : Tab P) {x a1 : Operand} {t e : TypeId} {k : Nat} {z : Int} (hx : ev σ x = some v) (hh : ev σ a1 = some (.int .i64 z)) (ht : T.und t = some (.slice e)) (hs : T.size e = some s) (hV : EV C v s rows) (e2 : z = (k : Int)) (hk : k ≤ rows.length) :
    Ylds P n σ C ⟨dst, .slice t x (some a1) none none, ty, pos, after, guard⟩ (frv v k s) := by
  obtain ⟨pa, c, rfl, hc, _⟩ := hV.view;exact y_sliceFrom T hx hh ht hs e2 hk hc
theorem do_appendRV (T : Tab P) (i : Nat) {x y : Operand} {t : TypeId} {by_ : Nat} {z : List Value} {u : Value} (hx : ev σ x = some v) (hB : BufR e s v c rows) (hy : ev σ y = some u) (hV : EV (K W Ls) u s rows')
    (hT : TabE T t e s by_ z) (hzs : z.length = s) (hs0 : 0 < s) (hl : i < Ls.length) (hi : Ls.getD i [] = c) (h1 : ∀ r ∈ rows', r.all Value.oneCell' = true) (hmax : rows.length + rows'.length < 1000000) (hby : by_ ≤ 1000) :
    Doos P n σ (K W Ls) ⟨dst, .call ⟨.builtin .append, #[x, y], #[t, t]⟩, ty, pos, after, guard⟩ (X := { u : Value × Chunk // BufR e s u.1 u.2 (rows ++ rows') }) (fun u => u.1.1) (fun u => K W (Ls.set i u.1.2)) := by
  have h2 : (rows.length + rows'.length) * by_ ≤ 1000000 * 1000 := Nat.mul_le_mul (by omega) hby
  have hlen := lens.app.2 ⟨hB.len, hV.len⟩;have hfl := flat_len hV.len;by_cases h0 : rows'.length = 0
  · obtain rfl : rows' = [] := List.eq_nil_of_length_eq_zero h0;obtain ⟨pa, k, rfl, hk, hc⟩ := hV.view;rcases hB.buf.ok with ⟨hz, hz2, rfl, rfl⟩ | ⟨o, rfl, rfl, ho, hp⟩
    · intro a w hE hw;refine ⟨⟨(.slice none 0 0, []), by rw [List.append_nil]; exact hB⟩, w, ?_, ?_⟩
      · exact y_append_nn (C := K W Ls) T hx hy hT a w hE hw
      · show K W (Ls.set i []) w;rw [set_same hl hi]; exact hw
    · intro a w hE hw;obtain ⟨o', w', hr, hk'⟩ := do_append0 (W := W) (Ls := Ls) (n := n) (dst := dst) (ty := ty) (pos := pos) (after := after) (guard := guard) T i hx hy hT hi ho a w hE hw;refine ⟨⟨(osl o'.1 (rows.length + 0), och e o'.1 (rows.flatten ++ [])), ⟨hlen, ⟨.inr ⟨o'.1, ?_, by simp, ?_, ?_⟩⟩⟩⟩, w', hr, hk'⟩
      · simp
      · simpa using o'.2.1
      · have := o'.2.2;exact List.eq_nil_of_length_eq_zero (Nat.le_zero.1 (Nat.le_trans this (by rw [hp]; exact Nat.le_refl 0)))
  · obtain ⟨pa, k, rfl, hk, hc⟩ := hV.view;obtain ⟨b, o2, rfl, h3⟩ := hc (by omega);have hn : CellsAre (K W Ls) ⟨b, o2, none⟩ rows'.flatten := fun w hw j hj => by
      have hj2 : j / s < rows'.length := by
        rw [hfl] at hj;exact (Nat.div_lt_iff_lt_mul hs0).2 hj
      have h4 := hV.view.cell (i := j / s) (j := j % s) hj2 (Nat.mod_lt _ hs0) w hw;obtain ⟨x, hx⟩ : ∃ x, rows'[j / s]? = some x := ⟨rows'[j / s], by simp [hj2]⟩;have h5 := flat_get hV.len hx (j := j % s) (Nat.mod_lt _ hs0);have h6 : j / s * s + j % s = j := Nat.div_add_mod' j s;rw [h6] at h5;rw [addr_add];simp only [vblk, voff] at h4;rw [show o2 + j / s * s + j % s = o2 + j by omega] at h4;rw [h4, h5];have h7 : j % s < x.length := by rw [hV.len x (List.mem_of_getElem? hx)]; exact Nat.mod_lt _ hs0
      simp [rix, List.getD_eq_getElem?_getD, hx, h7]
    intro a w hE hw;obtain ⟨u, w', hr, hk'⟩ := do_appendB (W := W) (n := n) (σ := σ) (dst := dst) (ty := ty) (pos := pos) (after := after) (guard := guard) (k := rows'.length) T i hx hB.buf hy hT hzs hl hi (by omega) hn hfl (fun v hv => by
      obtain ⟨r, hr, hv⟩ := List.mem_flatten.1 hv;exact List.all_eq_true.1 (h1 r hr) v hv) (by unfold maxLen; omega) (by omega) a w hE hw
    exact ⟨⟨u.1, ⟨hlen, by
      have := u.2;rw [List.length_append, List.flatten_append];exact this⟩⟩, w', hr, hk'⟩
theorem CellsAre.nth {b o : Nat} {l : List Value} {x : Value} (j : Nat) (h : CellsAre C ⟨b, o, none⟩ l) (hx : l[j]? = some x) : CellIs C ⟨b, o + j, none⟩ x := fun w hw => by
  have hj : j < l.length := by
    rcases Nat.lt_or_ge j l.length with c | c
    · exact c
    · rw [List.getElem?_eq_none c] at hx; cases hx
  have h1 := h w hw j hj;rw [addr_add] at h1;rw [h1, hx]
theorem BufR.lit {b : Nat} : BufR e s (.slice (some ⟨b, 0, none⟩) 0 0) [(b, row e [])] [] := ⟨lens.nil, ⟨.inr ⟨⟨b, 0, [], []⟩, rfl, rfl, ⟨Nat.le_refl _, by simp, by simp, by simp⟩, rfl⟩⟩⟩
end
end Go.KL
end

section
/- Walks: Join, Of. -/
namespace Go.KL
open Go.Proofs Go.Proofs.Tryz
theorem rnl_get {R : List Rn} {i : Nat} {x : Rn} (h : R[i]? = some x) : (rnl R)[i]? = some (rnc x) := by rw [List.getElem?_map, h]; rfl
theorem rnl_one {R : List Rn} : ∀ r ∈ rnl R, r.all Value.oneCell' = true := fun r hr => by
  obtain ⟨x, _, rfl⟩ := List.mem_map.1 hr;rfl
attribute [local irreducible] SC St Fin Sq Ylds Doos Sets Enters Spec CellIs CellsAre Then Ret Rnd Chn resOK ints bools recs arr
theorem rjoin_spec {W : World} {N : List Chunk} {v : Value} {c : Chunk} {R : List Rn} {lo hi tag : Nat} (hB : BufR 26 3 v c (rnl R)) (hl : R.length < 100000) : Spec prog 68 #[v, .agg #[.int .i64 (lo : Nat), .int .i64 (hi : Nat), .int .i64 (tag : Nat)]] (K W (c :: N))
    (X := { x : Value × Chunk // BufR 26 3 x.1 x.2 (rnl (jn R (lo, hi, tag))) }) (fun x => x.1.1) (fun x => K W (x.1.2 :: N)) := by
  have hrl : (rnl R).length = R.length := List.length_map _;have h1 := hB.one;refine enter (args := [_, _]) func68 rfl ntmps68 rfl ?_;refine csr (sbx fun b3 => ?_);by_cases c0 : hi ≤ lo
  · refine sa ?_;refine snf (c_seq (csr (sf0 ?_)));refine slr 0 ?_;refine sf 1 ?_;refine slr 0 ?_;refine sy (y_T (y_geq rfl rfl) (by omega)) ?_;refine snf (c_condT rfl (csr (sm ?_)));refine sa ?_;refine snf (c_ret (f_thenR ?_));exact f_ret ⟨(v, c), hB.of (by rw [jn, if_pos c0])⟩ (res1 rfl rfl) (fun w h => h.tail)
  rcases List.eq_nil_or_concat R with e | ⟨R', y, e⟩
  · subst e;refine sa ?_;refine snf (c_seq (csr (sf0 ?_)));refine slr 0 ?_;refine sf 1 ?_;refine slr 0 ?_;refine sy (y_F (y_geq rfl rfl) (by omega)) ?_;refine snf (c_condF rfl (c_skip (f_then (csr (sm ?_)))));refine sy (y_lenR' tab rfl hB rfl) ?_;refine sa ?_;refine snf (c_seq (c_seq (c_quiet mixed (by kernel_rfl) K.drew ?_)));refine q_y (y_move rfl) rfl rfl rfl ?_;refine q_y (y_gtr rfl rfl) rfl rfl rfl ?_;refine q_y (y_move rfl) rfl rfl rfl ?_
    iterate 9 refine q_skip rfl rfl rfl ?_
    refine q_y (y_pickF rfl rfl) rfl rfl rfl ?_;refine q_nil (f_then (c_condF rfl (c_skip (f_then (csr (sm ?_))))));refine sy (y_loadA tab rfl rfl rfl rfl (cells_row0 0 rfl rfl)) ?_;refine s_do (do_buildSliceS tab ⟨rfl, rfl, rfl, rfl⟩ rfl rfl rfl rfl) rfl rfl rfl (fun b50 => ?_);refine s_do (do_appendR (by_ := 24) (news := rnc (lo, hi, tag)) tab 2 rfl hB rfl ⟨rfl, rfl, rfl, rfl⟩ rfl (by simp) rfl (cells_row0 0 rfl rfl) rfl rfl (by omega) (by omega)) rfl rfl rfl (fun x => ?_);obtain ⟨⟨u, d⟩, hu⟩ := x;dsimp only at hu ⊢;refine sa ?_;refine snf (c_ret ?_);exact f_ret ⟨(u, d), hu.of (by rw [jn_nil _ (by show lo < hi; omega)]; rfl)⟩ (res1 rfl rfl) (fun w h => h.tail.tail)
  · rw [List.concat_eq_append] at e;subst e;have hE : EV (K W ([(b3, row 26 [.int .i64 (lo : Nat), .int .i64 (hi : Nat), .int .i64 (tag : Nat)])] :: c :: N)) v 3 (rnl (R' ++ [y])) := hB.view (Hs.at 1 rfl);have hl2 : (R' ++ [y]).length = R'.length + 1 := by simp
    have hcy : CellsAre (K W ([(b3, row 26 [.int .i64 (lo : Nat), .int .i64 (hi : Nat), .int .i64 (tag : Nat)])] :: c :: N)) ⟨vblk v, voff v + R'.length * 3, none⟩ [.int .i64 (y.1 : Nat), .int .i64 (y.2.1 : Nat), .int .i64 (y.2.2 : Nat)] := hE.row (rnl_get (i := R'.length) (x := y) (by simp));have hjn := jn_snoc R' y (lo, hi, tag) (by show lo < hi; omega);have e1 : ((rnl (R' ++ [y])).length : Int) - 1 = (R'.length : Nat) := by omega
    by_cases c1 : y.2.2 = tag
    · rw [if_pos c1] at hjn;refine sa ?_;refine snf (c_seq (csr (sf0 ?_)));refine slr 0 ?_;refine sf 1 ?_;refine slr 0 ?_;refine sy (y_F (y_geq rfl rfl) (by omega)) ?_;refine snf (c_condF rfl (c_skip (f_then (csr (sm ?_)))));refine sy (y_lenE tab rfl (hE) rfl) ?_;refine sa ?_;refine snf (c_seq (c_seq (c_quiet mixed (by kernel_rfl) K.drew ?_)));refine q_y (y_move rfl) rfl rfl rfl ?_;refine q_y (y_T (y_gtr rfl rfl) (by omega)) rfl rfl rfl ?_;refine q_y (y_move rfl) rfl rfl rfl ?_;refine q_y (y_move rfl) rfl rfl rfl ?_;refine q_y (y_move rfl) rfl rfl rfl ?_;refine q_y (y_sub rfl rfl (by omega)) rfl rfl rfl ?_;refine q_y (y_ixE tab rfl rfl rfl rfl hE R'.length e1 (by omega)) rfl rfl rfl ?_;refine q_y (y_fieldAddr tab 2 rfl rfl rfl rfl rfl) rfl rfl rfl ?_;refine q_y (y_load tab rfl rfl (CellsAre.nth 2 (hcy) rfl)) rfl rfl rfl ?_;refine q_y (y_fieldAddrB tab 2 rfl rfl rfl rfl rfl) rfl rfl rfl ?_;refine q_y (y_load tab rfl rfl (cell_row 0 rfl rfl)) rfl rfl rfl ?_;refine q_y (y_T (y_eql rfl rfl) (by omega)) rfl rfl rfl ?_;refine q_y (y_pickT rfl rfl) rfl rfl rfl ?_;refine q_nil (f_then (c_condT rfl (csr (sa ?_))));refine snf (csr (sm ?_));refine sm ?_;refine sm ?_;refine sy (y_sub rfl rfl (by omega)) ?_;refine sy (y_toV tab rfl rfl rfl rfl hE e1 (by omega)) ?_;refine St.cls (C' := K W ([] :: [(b3, row 26 [.int .i64 (lo : Nat), .int .i64 (hi : Nat), .int .i64 (tag : Nat)])] :: c :: N)) ?_ (fun w h => h.addNil);refine s_do (do_appendRV (by_ := 24) tab 0 rfl .nil rfl ((hE.to (k := R'.length) (by omega)).cons) ⟨rfl, rfl, rfl, rfl⟩ rfl (by omega) (Nat.lt_of_sub_eq_succ rfl) rfl (fun r hr => rnl_one r (List.mem_of_mem_take hr)) (by simp; omega) (by omega)) rfl rfl rfl (fun x => ?_);obtain ⟨⟨u, d⟩, hu⟩ := x;have hu : BufR 26 3 u d (rnl R') := hu.of (by simp [rnl]);dsimp only;have hur : (rnl R').length = R'.length := List.length_map _;have hE2 : EV (K W (d :: [(b3, row 26 [.int .i64 (lo : Nat), .int .i64 (hi : Nat), .int .i64 (tag : Nat)])] :: c :: N)) v 3 (rnl (R' ++ [y])) := hE.cons;have hcy2 := hcy.cons (c := d);refine sa ?_;refine snf (c_seq (c_plan [.c 0, .c 1, .c 2, .c 3, .c 4, .c 5, .c 6, .c 7, .c 8, .c 9, .c 10, .c 11, .s 12, .s 13, .c 14] [] ((K W ([(b3, row 26 [.int .i64 (lo : Nat), .int .i64 (hi : Nat), .int .i64 (tag : Nat)])] :: c :: N))) mixed (by kernel_rfl) rfl K.cl ?_));refine dy rfl (y_move rfl) (fun _ h => h.tail) ?_;refine dy rfl (y_move rfl) (fun _ h => h.tail) ?_;refine dy rfl (y_move rfl) (fun _ h => h.tail) ?_;refine dy rfl (y_sub rfl rfl (by omega)) (fun _ h => h.tail) ?_;refine dy rfl (y_ixE tab rfl rfl rfl rfl hE R'.length e1 (by omega)) (fun w h => h.tail) ?_;refine dy rfl (y_fieldAddr0 tab rfl rfl rfl rfl rfl) (fun _ h => h.tail) ?_;refine dy rfl (y_load tab rfl rfl (CellsAre.at0 (hcy) rfl)) (fun _ h => h.tail) ?_;refine dy rfl (y_fieldAddrB tab 1 rfl rfl rfl rfl rfl) (fun _ h => h.tail) ?_;refine dy rfl (y_load tab rfl rfl (cell_row 0 rfl rfl)) (fun _ h => h.tail) ?_;refine dy rfl (y_fieldAddrB tab 2 rfl rfl rfl rfl rfl) (fun _ h => h.tail) ?_;refine dy rfl (y_load tab rfl rfl (cell_row 0 rfl rfl)) (fun _ h => h.tail) ?_;refine dy rfl (y_build tab rfl rfl rfl rfl rfl) (fun _ h => h.tail) ?_;refine d_s rfl (do_buildSliceS tab ⟨rfl, rfl, rfl, rfl⟩ rfl rfl rfl rfl) rfl rfl rfl (fun _ => K.cl) (fun _ _ _ h => h.tail.tail) (fun b46 => ?_);refine d_s rfl (do_appendR (by_ := 24) (news := rnc (y.1, hi, tag)) tab 1 rfl hu rfl ⟨rfl, rfl, rfl, rfl⟩ rfl (Nat.lt_of_sub_eq_succ rfl) rfl (cells_row0 0 rfl rfl) rfl rfl (by omega) (by omega)) rfl rfl rfl (fun _ => K.cl) (fun _ _ _ h => h.tail.tail) (fun x => ?_);obtain ⟨⟨u', d'⟩, hu'⟩ := x;dsimp only at hu' ⊢;refine dy rfl (y_assign rfl) (fun _ h => h.tail.tail) ?_;refine d_nil (f_then (c_ret (f_thenR ?_)));exact f_ret ⟨(u', d'), hu'.of (by rw [hjn]; simp [rnl])⟩ (res1 rfl rfl) (fun w h => (h.tail.dropAt 1).dropAt 1)
    · rw [if_neg c1] at hjn;refine sa ?_;refine snf (c_seq (csr (sf0 ?_)));refine slr 0 ?_;refine sf 1 ?_;refine slr 0 ?_;refine sy (y_F (y_geq rfl rfl) (by omega)) ?_;refine snf (c_condF rfl (c_skip (f_then (csr (sm ?_)))));refine sy (y_lenE tab rfl (hE) rfl) ?_;refine sa ?_;refine snf (c_seq (c_seq (c_quiet mixed (by kernel_rfl) K.drew ?_)));refine q_y (y_move rfl) rfl rfl rfl ?_;refine q_y (y_T (y_gtr rfl rfl) (by omega)) rfl rfl rfl ?_;refine q_y (y_move rfl) rfl rfl rfl ?_;refine q_y (y_move rfl) rfl rfl rfl ?_;refine q_y (y_move rfl) rfl rfl rfl ?_;refine q_y (y_sub rfl rfl (by omega)) rfl rfl rfl ?_;refine q_y (y_ixE tab rfl rfl rfl rfl hE R'.length e1 (by omega)) rfl rfl rfl ?_;refine q_y (y_fieldAddr tab 2 rfl rfl rfl rfl rfl) rfl rfl rfl ?_;refine q_y (y_load tab rfl rfl (CellsAre.nth 2 (hcy) rfl)) rfl rfl rfl ?_;refine q_y (y_fieldAddrB tab 2 rfl rfl rfl rfl rfl) rfl rfl rfl ?_;refine q_y (y_load tab rfl rfl (cell_row 0 rfl rfl)) rfl rfl rfl ?_;refine q_y (y_F (y_eql rfl rfl) (by omega)) rfl rfl rfl ?_;refine q_y (y_pickT rfl rfl) rfl rfl rfl ?_;refine q_nil (f_then (c_condF rfl (c_skip (f_then (csr (sm ?_))))));refine sy (y_loadA tab rfl rfl rfl rfl (cells_row0 0 rfl rfl)) ?_;refine s_do (do_buildSliceS tab ⟨rfl, rfl, rfl, rfl⟩ rfl rfl rfl rfl) rfl rfl rfl (fun b50 => ?_);refine s_do (do_appendR (by_ := 24) (news := rnc (lo, hi, tag)) tab 2 rfl hB rfl ⟨rfl, rfl, rfl, rfl⟩ rfl (Nat.lt_of_sub_eq_succ rfl) rfl (cells_row0 0 rfl rfl) rfl rfl (by omega) (by omega)) rfl rfl rfl (fun x => ?_);obtain ⟨⟨u, d⟩, hu⟩ := x;dsimp only at hu ⊢;refine sa ?_;refine snf (c_ret ?_);exact f_ret ⟨(u, d), hu.of (by rw [hjn]; simp [rnl])⟩ (res1 rfl rfl) (fun w h => h.tail.tail)
end Go.KL
end

section
/- Runs of maps: parts, replaced tags, counts; plain. No program in sight. -/
namespace Go.KL
theorem jn_len (R : List Rn) (x : Rn) : (jn R x).length ≤ R.length + 1 := by
  unfold jn;split
  · omega
  · split
    · simp
    · split
      · simp [List.length_dropLast]
      · simp
theorem jn_no {R : List Rn} {x : Rn} (h : x.2.1 ≤ x.1) : jn R x = R := by rw [jn, if_pos h]
theorem Rns.jn' {f : Nat → Nat} {R : List Rn} {lo m m' t : Nat} (h : Rns f lo m R) (ht : ∀ i, m ≤ i → i < m' → f i = t) : Rns f lo (max m m') (KL.jn R (m, m', t)) := by
  by_cases c : m' ≤ m
  · rw [jn_no c, show max m m' = m by omega];exact h
  · rw [show max m m' = m' by omega];exact h.jn (by omega) ht
theorem Rns.clip {f : Nat → Nat} {R : List Rn} {lo hi a b t : Nat} (h : Rns f lo (max lo (min hi a)) R) (hab : a < b) (ht : ∀ i, a ≤ i → i < b → f i = t) : Rns f lo (max lo (min hi b)) (KL.jn R (max lo a, min hi b, t)) := by
  by_cases c : min hi b ≤ max lo a
  · rw [jn_no c, show max lo (min hi b) = max lo (min hi a) by omega];exact h
  · rw [show max lo (min hi a) = max lo a by omega] at h;rw [show max lo (min hi b) = min hi b by omega];exact h.jn (by omega) fun i h1 h2 => ht i (by omega) (by omega)
def swf (f : Nat → Nat) (lo hi fr to : Nat) : Nat → Nat := fun i => if (lo ≤ i ∧ i < hi) ∧ f i = fr then to else f i
theorem swf_setf {f : Nat → Nat} {lo hi fr to : Nat} (h : ∀ i, lo ≤ i → i < hi → f i = fr) : swf f lo hi fr to = setf f lo hi to := by
  funext i;unfold swf setf;by_cases c : lo ≤ i ∧ i < hi
  · rw [if_pos c, if_pos ⟨c, h i c.1 c.2⟩]
  · rw [if_neg c, if_neg fun d => c d.1]
abbrev swa (lo a b : Nat) : Nat := max a (min lo b)
abbrev swb (hi a b : Nat) : Nat := min b (max hi a)
theorem Rns.swap {f : Nat → Nat} {R : List Rn} {lo hi fr to a b t : Nat} (h : Rns (swf f lo hi fr to) 0 a R) (hab : a < b) (ht : ∀ i, a ≤ i → i < b → f i = t) :
    Rns (swf f lo hi fr to) 0 b (KL.jn (KL.jn (KL.jn R (a, swa lo a b, t)) (swa lo a b, swb hi a b, if t = fr then to else t)) (max (swa lo a b) (swb hi a b), b, t)) := by
  have hA : swa lo a b = max a (min lo b) := rfl;have hB : swb hi a b = min b (max hi a) := rfl;have h1 := h.jn' (m' := swa lo a b) (t := t) fun i h1 h2 => by
    unfold swf;rw [ht i h1 (by omega), if_neg (by omega)]
  rw [show max a (swa lo a b) = swa lo a b by omega] at h1;have h2 := h1.jn' (m' := swb hi a b) (t := if t = fr then to else t) fun i h1 h2 => by
    unfold swf;rw [ht i (by omega) (by omega)];by_cases c : t = fr
    · rw [if_pos c, if_pos ⟨by omega, c⟩]
    · rw [if_neg c, if_neg fun d => c d.2]
  have h3 := h2.jn' (m' := b) (t := t) fun i h1 h2 => by
    unfold swf;rw [ht i (by omega) h2, if_neg (by omega)]
  rw [show max (max (swa lo a b) (swb hi a b)) b = b by omega] at h3;exact h3
def cntR (t : Nat) (R : List Rn) : Nat := (R.map fun x => if x.2.2 = t then x.2.1 - x.1 else 0).sum
theorem cntf_seg {f : Nat → Nat} {t u a b : Nat} (hab : a ≤ b) (h : ∀ i, a ≤ i → i < b → f i = u) : cntf f t b = cntf f t a + if u = t then b - a else 0 := by
  obtain ⟨k, rfl⟩ : ∃ k, b = a + k := ⟨b - a, by omega⟩;rw [cntf_add, cntf_const (u := u) fun i hi => h (a + i) (by omega) (by omega), Nat.add_sub_cancel_left];by_cases c : t = u
  · rw [if_pos c, if_pos c.symm]
  · rw [if_neg c, if_neg fun d => c d.symm]
theorem Rns.cnt {f : Nat → Nat} {t : Nat} : ∀ {R : List Rn} {lo hi : Nat}, Rns f lo hi R → cntf f t hi = cntf f t lo + cntR t R
  | [], lo, hi, h => by
    have : lo = hi := h;rw [this];rfl
  | x :: R, lo, hi, h => by
    have h1 := cntf_seg (t := t) (Nat.le_of_lt h.2.1) h.2.2.1;rw [h.2.2.2.2.cnt, h1, ← h.1];unfold cntR;rw [List.map_cons, List.sum_cons];omega
theorem cntR_take {t : Nat} {R : List Rn} {i : Nat} {x : Rn} (h : R[i]? = some x) : cntR t (R.take (i + 1)) = cntR t (R.take i) + if x.2.2 = t then x.2.1 - x.1 else 0 := by
  unfold cntR;rw [List.take_add_one, h];simp
theorem cntR_le {f : Nat → Nat} {t : Nat} {R : List Rn} {lo hi : Nat} (h : Rns f lo hi R) (i : Nat) : cntR t (R.take i) ≤ hi := by
  have h1 := h.cnt (t := t);have h2 := cntf_le f t hi;have h3 : cntR t (R.take i) ≤ cntR t R := by
    unfold cntR;conv => rhs; rw [← List.take_append_drop i R]
    rw [List.map_append, List.sum_append_nat];omega
  omega
theorem cntR_all {f : Nat → Nat} {t lo hi : Nat} (h : lo ≤ hi) : (cntR t (rns f lo hi) : Int) = (hi : Int) - (lo : Int) ↔ ∀ i, lo ≤ i → i < hi → f i = t := by
  rw [← cntf_range f t h];have := (rns_ok (f := f) h).cnt (t := t);omega
end Go.KL
end

section
/- Walks: the document's maps: Usable, valid, Tag, full, Runs, Count. -/
namespace Go.KL
open Go.Proofs Go.Proofs.Tryz
structure RMp (C : World → Prop) (lv : Value) (n : Nat) (f : Nat → Nat) : Prop where
  v : EV C lv 3 (rnl (rns f 0 n))
  pos : 1 ≤ n ∧ n ≤ 1099511627776
  nb : nbd f n ≤ 4096
theorem RMp.cls {C D : World → Prop} {lv : Value} {n : Nat} {f : Nat → Nat} (h : RMp C lv n f) (hD : ∀ w, D w → C w) : RMp D lv n f := ⟨h.v.cls hD, h.pos, h.nb⟩
theorem RMp.cons {W : World} {Ls : List Chunk} {d : Chunk} {lv : Value} {n : Nat} {f : Nat → Nat} (h : RMp (K W Ls) lv n f) : RMp (K W (d :: Ls)) lv n f := ⟨h.v.cons, h.pos, h.nb⟩
theorem drop_get' {α : Type} {l : List α} {i : Nat} {x : α} (h : l[i]? = some x) : l.drop i = x :: l.drop (i + 1) := by
  obtain ⟨hi, rfl⟩ := List.getElem?_eq_some_iff.1 h;exact List.drop_eq_getElem_cons hi
theorem rns_mem {f : Nat → Nat} : ∀ {R : List Rn} {lo hi : Nat}, Rns f lo hi R → ∀ x ∈ R, x.1 < x.2.1 ∧ x.2.1 ≤ hi
  | [], _, _, _, x, hx => by simp at hx
  | y :: R, lo, hi, h, x, hx => by
    rcases List.mem_cons.1 hx with rfl | hx
    · exact ⟨h.2.1, h.2.2.2.2.le⟩
    · exact rns_mem h.2.2.2.2 x hx
theorem rns_pos {f : Nat → Nat} {n : Nat} (h : 1 ≤ n) : 0 < (rns f 0 n).length := by
  have hR := rns_ok (f := f) (lo := 0) (hi := n) (Nat.zero_le _);cases e : rns f 0 n with
  | nil =>
    rw [e] at hR;have : 0 = n := hR;omega
  | cons x r => simp
attribute [local irreducible] SC St Fin Sq Ylds Doos Sets Enters Spec CellIs CellsAre Then Ret Rnd Chn resOK ints bools recs arr
section
variable {W : World} {N : List Chunk} {lv : Value} {n : Nat} {f : Nat → Nat}
theorem rtag_spec {C : World → Prop} {z : Int} : Spec prog 71 #[.int .i64 z] C (fun _ : Unit => .bool (decide (0 ≤ z ∧ z < 16))) (fun _ => C) := by
  refine enter (args := [_]) func71 rfl ntmps71 rfl ?_;by_cases c : 0 ≤ z
  · by_cases c2 : z < 16
    · rw [decide_eq_true (show 0 ≤ z ∧ z < 16 from ⟨c, c2⟩)];refine csr (sa ?_);refine snf (csr (sm ?_));refine sy (y_T (y_geq rfl rfl) (by assumption)) ?_;refine sm ?_;refine sm ?_;refine sy (y_T (y_lss rfl rfl) (by assumption)) ?_;refine spT ?_;refine sa ?_;refine snf (c_ret ?_);exact f_ret () (res1 rfl rfl) (fun w h => h)
    · rw [decide_eq_false (show ¬ (0 ≤ z ∧ z < 16) from fun h => c2 h.2)];refine csr (sa ?_);refine snf (csr (sm ?_));refine sy (y_T (y_geq rfl rfl) (by assumption)) ?_;refine sm ?_;refine sm ?_;refine sy (y_F (y_lss rfl rfl) (by assumption)) ?_;refine spT ?_;refine sa ?_;refine snf (c_ret ?_);exact f_ret () (res1 rfl rfl) (fun w h => h)
  · rw [decide_eq_false (show ¬ (0 ≤ z ∧ z < 16) from fun h => c h.1)];refine csr (sa ?_);refine snf (csr (sm ?_));refine sy (y_F (y_geq rfl rfl) (by assumption)) ?_;refine sm ?_
    iterate 2 refine s_skip rfl rfl rfl ?_
    refine spF ?_;refine sa ?_;refine snf (c_ret ?_);exact f_ret () (res1 rfl rfl) (fun w h => h)
theorem rtagT {C : World → Prop} {z : Int} (h : 0 ≤ z ∧ z < 16) : Spec prog 71 #[.int .i64 z] C (fun _ : Unit => .bool true) (fun _ => C) := by
  have := rtag_spec (C := C) (z := z)
  rwa [decide_eq_true h] at this
theorem usableM_spec (h : RMp (K W N) lv n f) : Spec prog 69 #[.agg #[.int .i64 (n : Nat), lv]] (K W N) (fun _ : Unit => .bool true) (fun _ => K W N) := by
  have hp := rns_pos (f := f) h.pos.1;have hl : (rnl (rns f 0 n)).length = (rns f 0 n).length := List.length_map _;have hV := h.v;obtain ⟨pa, k, rfl, _, _⟩ := hV.view;refine enter (args := [_]) func69 rfl ntmps69 rfl ?_;refine csr (sbx fun b1 => ?_);refine sa ?_;refine snf (csr (sf 1 ?_));refine slr 0 ?_;refine sy (y_lenE tab rfl (hV.cons) rfl) ?_;refine sy (y_T (y_gtr rfl rfl) (by omega)) ?_;refine sa ?_;refine snf (c_ret ?_);exact f_ret () (res1 rfl rfl) (fun w h => h.tail)
theorem validM_spec (h : RMp (K W N) lv n f) {lo hi : Int} : Spec prog 70 #[.agg #[.int .i64 (n : Nat), lv], .int .i64 lo, .int .i64 hi] (K W N) (fun _ : Unit => .bool (decide (0 ≤ lo ∧ lo ≤ hi ∧ hi ≤ n))) (fun _ => K W N) := by
  have hV := h.v;obtain ⟨pa, k, rfl, _, _⟩ := hV.view;refine enter (args := [_, _, _]) func70 rfl ntmps70 rfl ?_;by_cases c1 : 0 ≤ lo
  · by_cases c2 : lo ≤ hi
    · by_cases c3 : hi ≤ n
      · rw [decide_eq_true (show 0 ≤ lo ∧ lo ≤ hi ∧ hi ≤ n from ⟨c1, c2, c3⟩)];refine csr (sbx fun b3 => ?_);refine sa ?_;refine snf (csr (sm ?_));refine sy (y_T (y_leq rfl rfl) (by assumption)) ?_;refine sm ?_;refine sm ?_;refine sm ?_;refine sy (y_T (y_leq rfl rfl) (by assumption)) ?_;refine spT ?_;refine sm ?_;refine sm ?_;refine sf0 ?_;refine slr 0 ?_;refine sy (y_T (y_leq rfl rfl) (by assumption)) ?_;refine spT ?_;refine sa ?_;refine snf (c_ret ?_);exact f_ret () (res1 rfl rfl) (fun w h => h.tail)
      · rw [decide_eq_false (show ¬ (0 ≤ lo ∧ lo ≤ hi ∧ hi ≤ n) from fun h => c3 h.2.2)];refine csr (sbx fun b3 => ?_);refine sa ?_;refine snf (csr (sm ?_));refine sy (y_T (y_leq rfl rfl) (by assumption)) ?_;refine sm ?_;refine sm ?_;refine sm ?_;refine sy (y_T (y_leq rfl rfl) (by assumption)) ?_;refine spT ?_;refine sm ?_;refine sm ?_;refine sf0 ?_;refine slr 0 ?_;refine sy (y_F (y_leq rfl rfl) (by assumption)) ?_;refine spT ?_;refine sa ?_;refine snf (c_ret ?_);exact f_ret () (res1 rfl rfl) (fun w h => h.tail)
    · rw [decide_eq_false (show ¬ (0 ≤ lo ∧ lo ≤ hi ∧ hi ≤ n) from fun h => c2 h.2.1)];refine csr (sbx fun b3 => ?_);refine sa ?_;refine snf (csr (sm ?_));refine sy (y_T (y_leq rfl rfl) (by assumption)) ?_;refine sm ?_;refine sm ?_;refine sm ?_;refine sy (y_F (y_leq rfl rfl) (by assumption)) ?_;refine spT ?_;refine sm ?_
      iterate 4 refine s_skip rfl rfl rfl ?_
      refine spF ?_;refine sa ?_;refine snf (c_ret ?_);exact f_ret () (res1 rfl rfl) (fun w h => h.tail)
  · rw [decide_eq_false (show ¬ (0 ≤ lo ∧ lo ≤ hi ∧ hi ≤ n) from fun h => c1 h.1)];refine csr (sbx fun b3 => ?_);refine sa ?_;refine snf (csr (sm ?_));refine sy (y_F (y_leq rfl rfl) (by assumption)) ?_;refine sm ?_
    iterate 3 refine s_skip rfl rfl rfl ?_
    refine spF ?_;refine sm ?_
    iterate 4 refine s_skip rfl rfl rfl ?_
    refine spF ?_;refine sa ?_;refine snf (c_ret ?_);exact f_ret () (res1 rfl rfl) (fun w h => h.tail)
theorem validT (h : RMp (K W N) lv n f) {lo hi : Nat} (h1 : lo ≤ hi) (h2 : hi ≤ n) : Spec prog 70 #[.agg #[.int .i64 (n : Nat), lv], .int .i64 (lo : Nat), .int .i64 (hi : Nat)] (K W N) (fun _ : Unit => .bool true) (fun _ => K W N) := by
  have := validM_spec h (lo := lo) (hi := hi)
  rwa [decide_eq_true (show 0 ≤ (lo : Int) ∧ (lo : Int) ≤ hi ∧ (hi : Int) ≤ n by omega)] at this
theorem rruns_spec (h : RMp (K W N) lv n f) {lo hi : Nat} (h1 : lo ≤ hi) (h2 : hi ≤ n) : Spec prog 78 #[.agg #[.int .i64 (n : Nat), lv], .int .i64 (lo : Nat), .int .i64 (hi : Nat)] (K W N) (X := { x : Value × Chunk // BufR 26 3 x.1 x.2 (rnl (rns f lo hi)) }) (fun x => .tuple #[x.1.1, .int .i64 0]) (fun x => K W (x.1.2 :: N)) := by
  have hR := rns_ok (f := f) (lo := 0) (hi := n) (Nat.zero_le _);have hlen := rns_len f n;have hV := h.v;have hM := h;have hnb := h.nb;obtain ⟨pa, k, rfl, _, _⟩ := hV.view;have hlr : (rnl (rns f 0 n)).length = (rns f 0 n).length := List.length_map _;refine enter (args := [_, _, _]) func78 rfl ntmps78 rfl ?_;refine csr (sbx fun b3 => ?_);refine sa ?_;refine sa ?_;refine snf (c_seq (csr (sy (y_loadA tab rfl rfl rfl rfl (cells_row0 0 rfl rfl)) ?_)));refine sk call69 (usableM_spec h.cons) fun _ => ?_;refine sy (y_notT rfl) ?_;refine snf (c_condF rfl (c_skip (f_then (c_seq (csr (sy (y_loadA tab rfl rfl rfl rfl (cells_row0 0 rfl rfl)) ?_))))));refine sm ?_;refine sm ?_;refine sk call70 (validT h.cons h1 h2) fun _ => ?_;refine sy (y_notT rfl) ?_;refine snf (c_condF rfl (c_skip (f_then (csr (sa ?_)))));refine snf (c_seq (csr (sa ?_)));refine snf (c_block ?_);refine c_loopP (α := Nat × Nat × Value × Chunk × List Rn) (fun z => [(0, .agg #[.int .i64 (n : Nat), .slice pa (rnl (rns f 0 n)).length k]), (1, .int .i64 (lo : Nat)), (2, .int .i64 (hi : Nat)), (3, .pointer (some ⟨b3, 0, none⟩)), (8, z.2.2.1), (9, .int .i64 (z.1 : Nat))])
    (fun z => z.1 ≤ (rns f 0 n).length ∧ Rns f z.2.1 n ((rns f 0 n).drop z.1) ∧ Rns f lo (max lo (min hi z.2.1)) z.2.2.2.2 ∧ z.2.2.2.2.length ≤ z.1 ∧ BufR 26 3 z.2.2.1 z.2.2.2.1 (rnl z.2.2.2.2)) (fun z => K W (z.2.2.2.1 :: [(b3, row 37 [.int .i64 (n : Nat), .slice pa (rnl (rns f 0 n)).length k])] :: N)) (fun z => (rns f 0 n).length - z.1) (0, 0, .slice none 0 0, [], [])
    ⟨rfl, rfl, rfl, rfl, rfl, rfl, trivial⟩ ⟨Nat.zero_le _, by rw [List.drop_zero]; exact hR, by show lo = _; dsimp only; omega, Nat.le_refl _, .nil⟩ (fun w h => h.addNil) ?_
  rintro ⟨i, at_, u, d, R⟩ ⟨g1, g2, g3, g4, g5⟩;dsimp only at g1 g2 g3 g4 g5 ⊢;have hV2 : EV (K W (d :: [(b3, row 37 [.int .i64 (n : Nat), .slice pa (rnl (rns f 0 n)).length k])] :: N)) (.slice pa (rnl (rns f 0 n)).length k) 3 (rnl (rns f 0 n)) := hV.cons.cons;by_cases c : i < (rns f 0 n).length
  · obtain ⟨x, hx⟩ : ∃ x, (rns f 0 n)[i]? = some x := ⟨(rns f 0 n)[i], by rw [List.getElem?_eq_getElem]⟩;have hcx : CellsAre (K W (d :: [(b3, row 37 [.int .i64 (n : Nat), .slice pa (rnl (rns f 0 n)).length k])] :: N)) ⟨vblk (.slice pa (rnl (rns f 0 n)).length k), voff (.slice pa (rnl (rns f 0 n)).length k) + i * 3, none⟩ [.int .i64 (x.1 : Nat), .int .i64 (x.2.1 : Nat), .int .i64 (x.2.2 : Nat)] := hV2.row (rnl_get hx);rw [drop_get' hx] at g2;obtain ⟨rfl, q2, q3, _, q5⟩ := g2;have hc := g3.clip q2 q3;have hxn := q5.le;have hj := fun {A : List Chunk} => rjoin_spec (W := W) (N := A) (lo := max lo x.1) (hi := min hi x.2.1) (tag := x.2.2) g5 (by omega);rw [show ((max lo x.1 : Nat) : Int) = max (lo : Int) (x.1 : Int) by omega, show ((min hi x.2.1 : Nat) : Int) = min (hi : Int) (x.2.1 : Int) by omega] at hj;have hjl := jn_len R (max lo x.1, min hi x.2.1, x.2.2);refine c_seq (csr (sm ?_));refine sf 1 ?_;refine slr 1 ?_;refine sy (y_lenE tab rfl (hV2) rfl) ?_;refine sy (y_T (y_lss rfl rfl) (by omega)) ?_;refine snf (c_condT rfl (c_skip (f_then (c_seq (c_block (csr (sf 1 ?_)))))));refine slr 1 ?_;refine sm ?_;refine sy (y_ixE tab rfl rfl rfl rfl (hV2) _ rfl (by omega)) ?_;refine sy (y_loadA tab rfl rfl rfl rfl hcx) ?_;refine sal fun b10 => ?_;refine ss (set_box tab 0 rfl rfl rfl rfl rfl rfl rfl) ?_;refine snf (c_region (sm ?_));refine sm ?_;refine sf0 ?_;refine slr 0 ?_;refine sy (y_max rfl rfl) ?_;refine sm ?_;refine sf 1 ?_;refine slr 0 ?_;refine sy (y_min rfl rfl) ?_;refine sf 2 ?_;refine slr 0 ?_;refine sy (y_build tab rfl rfl rfl rfl rfl) ?_;refine St.cls (C' := K W (d :: [(b10, row 26 [.int .i64 (x.1 : Nat), .int .i64 (x.2.1 : Nat), .int .i64 (x.2.2 : Nat)])] :: [(b3, row 37 [.int .i64 (n : Nat), .slice pa (rnl (rns f 0 n)).length k])] :: N)) ?_ (fun w h => K.front 1 h);refine sk call68 hj fun y => ?_;obtain ⟨⟨u', d'⟩, hu'⟩ := y;dsimp only at hu' ⊢;refine sa ?_;refine s_nil (f_blockN (f_then (c_region (sm ?_))));refine sy (y_add rfl rfl (by omega)) ?_;refine sa ?_;refine s_nil ?_;exact f_roundP (i + 1, x.2.1, u', d', jn R (max lo x.1, min hi x.2.1, x.2.2)) ⟨c, q5, hc, by dsimp only; omega, hu'⟩ (by dsimp only; omega) ⟨rfl, rfl, rfl, rfl, rfl, rfl, trivial⟩ (fun w h => h.dropAt 1)
  · obtain rfl : i = (rns f 0 n).length := by omega
    rw [List.drop_length] at g2;obtain rfl : at_ = n := g2;rw [show max lo (min hi at_) = hi by omega] at g3;refine c_seq (csr (sm ?_));refine sf 1 ?_;refine slr 1 ?_;refine sy (y_lenE tab rfl (hV2) rfl) ?_;refine sy (y_F (y_lss rfl rfl) (by omega)) ?_;refine snf (c_condF rfl (c_exit (f_thenE (f_rndE (f_blockE (f_then (csr (sm ?_))))))));refine sa ?_;refine sa ?_;refine snf (c_ret ?_);exact f_ret ⟨(u, d), g5.of (by rw [g3.eq])⟩ (res2 rfl rfl rfl) (fun w h => h.dropAt 1)
theorem rcount_spec (h : RMp (K W N) lv n f) {lo hi tag : Nat} (h1 : lo ≤ hi) (h2 : hi ≤ n) (h3 : tag < 16) : Spec prog 79 #[.agg #[.int .i64 (n : Nat), lv], .int .i64 (lo : Nat), .int .i64 (hi : Nat), .int .i64 (tag : Nat)] (K W N) (fun _ : Unit => .tuple #[.int .i64 (cntR tag (rns f lo hi) : Nat), .int .i64 0]) (fun _ => K W N) := by
  have hR := rns_ok (f := f) h1;have hV := h.v;have hn := h.pos;have hnb := h.nb;have hle := rns_le (f := f) h1 h2;obtain ⟨pa, k, rfl, _, _⟩ := hV.view;have hlr : (rnl (rns f lo hi)).length = (rns f lo hi).length := List.length_map _;refine enter (args := [_, _, _, _]) func79 rfl ntmps79 rfl ?_;refine csr (sbx fun b4 => ?_);refine sa ?_;refine sa ?_;refine snf (csr (sy (y_loadA tab rfl rfl rfl rfl (cells_row0 0 rfl rfl)) ?_));refine sm ?_;refine sm ?_;refine sk call78 (rruns_spec h.cons h1 h2) fun y => ?_;obtain ⟨⟨u, d⟩, hu⟩ := y;dsimp only at hu ⊢;refine sm ?_;refine sx ?_;refine sx ?_;refine sa ?_;refine sa ?_;refine snf (c_seq (csr (sm ?_)));refine sy (y_F (y_neq rfl rfl) (by omega)) ?_;refine snf (c_condF rfl (c_skip (f_then (c_seq (csr (sm ?_))))));refine s_call (en_f rfl call71) (rtagT (by omega)) rfl rfl rfl (fun _ => ?_);refine sy (y_notT rfl) ?_;refine snf (c_condF rfl (c_skip (f_then (csr (sa ?_)))));refine snf (c_seq (csr (sa ?_)));refine snf (c_block ?_);have hVu : EV (K W (d :: [(b4, row 37 [.int .i64 (n : Nat), .slice pa (rnl (rns f 0 n)).length k])] :: N)) u 3 (rnl (rns f lo hi)) := hu.view (Hs.at 0 rfl);refine c_loopP (α := Nat) (fun z => [(3, .int .i64 (tag : Nat)), (10, u), (12, .int .i64 (cntR tag ((rns f lo hi).take z) : Nat)), (13, .int .i64 (z : Nat))]) (fun z => z ≤ (rns f lo hi).length) (fun _ => K W (d :: [(b4, row 37 [.int .i64 (n : Nat), .slice pa (rnl (rns f 0 n)).length k])] :: N)) (fun z => (rns f lo hi).length - z) 0
    ⟨rfl, rfl, rfl, rfl, trivial⟩ (Nat.zero_le _) (fun w h => h) ?_
  rintro i g1;by_cases c : i < (rns f lo hi).length
  · obtain ⟨x, hx⟩ : ∃ x, (rns f lo hi)[i]? = some x := ⟨(rns f lo hi)[i], by rw [List.getElem?_eq_getElem]⟩;have hcx : CellsAre (K W (d :: [(b4, row 37 [.int .i64 (n : Nat), .slice pa (rnl (rns f 0 n)).length k])] :: N)) ⟨vblk u, voff u + i * 3, none⟩ [.int .i64 (x.1 : Nat), .int .i64 (x.2.1 : Nat), .int .i64 (x.2.2 : Nat)] := hVu.row (rnl_get hx);have hst := cntR_take (t := tag) hx;have hb1 := cntR_le (t := tag) hR i;have hb2 := cntR_le (t := tag) hR (i + 1);have hxx := rns_mem hR x (List.mem_of_getElem? hx);by_cases ct : x.2.2 = tag
    · rw [if_pos ct] at hst;refine c_seq (csr (sm ?_));refine sm ?_;refine sy (y_lenE tab rfl (hVu) rfl) ?_;refine sy (y_T (y_lss rfl rfl) (by omega)) ?_;refine snf (c_condT rfl (c_skip (f_then (c_seq (c_block (csr (sm ?_)))))));refine sm ?_;refine sy (y_ixE tab rfl rfl rfl rfl (hVu) _ rfl (by omega)) ?_;refine sy (y_fieldAddr tab 2 rfl rfl rfl rfl rfl) ?_;refine sl (CellsAre.nth 2 (hcx) rfl) ?_;refine sm ?_;refine sy (y_T (y_eql rfl rfl) (by omega)) ?_;refine snf (c_condT rfl (c_quiet mixed (by kernel_rfl) K.drew ?_));refine q_y (y_move rfl) rfl rfl rfl ?_;refine q_y (y_move rfl) rfl rfl rfl ?_;refine q_y (y_move rfl) rfl rfl rfl ?_;refine q_y (y_ixE tab rfl rfl rfl rfl (hVu) _ rfl (by omega)) rfl rfl rfl ?_;refine q_y (y_fieldAddr tab 1 rfl rfl rfl rfl rfl) rfl rfl rfl ?_;refine q_y (y_load tab rfl rfl (CellsAre.nth 1 (hcx) rfl)) rfl rfl rfl ?_;refine q_y (y_move rfl) rfl rfl rfl ?_;refine q_y (y_move rfl) rfl rfl rfl ?_;refine q_y (y_ixE tab rfl rfl rfl rfl (hVu) _ rfl (by omega)) rfl rfl rfl ?_;refine q_y (y_fieldAddr0 tab rfl rfl rfl rfl rfl) rfl rfl rfl ?_;refine q_y (y_load tab rfl rfl (CellsAre.at0 (hcx) rfl)) rfl rfl rfl ?_;refine q_y (y_sub rfl rfl (by omega)) rfl rfl rfl ?_;refine q_y (y_add rfl rfl (by omega)) rfl rfl rfl ?_;refine q_y (y_assign rfl) rfl rfl rfl ?_;refine q_nil (f_blockN (f_then (c_region (sm ?_))));refine sy (y_add rfl rfl (by omega)) ?_;refine sa ?_;refine s_nil ?_;rw [show (cntR tag ((rns f lo hi).take i) : Int) + ((x.2.1 : Int) - (x.1 : Int)) = (cntR tag ((rns f lo hi).take (i + 1)) : Nat) by omega];exact f_roundP (i + 1) c (by omega) ⟨rfl, rfl, rfl, rfl, trivial⟩ (fun w h => h)
    · rw [if_neg ct] at hst;have hst2 : cntR tag ((rns f lo hi).take i) = cntR tag ((rns f lo hi).take (i + 1)) := by omega
      refine c_seq (csr (sm ?_));refine sm ?_;refine sy (y_lenE tab rfl (hVu) rfl) ?_;refine sy (y_T (y_lss rfl rfl) (by omega)) ?_;refine snf (c_condT rfl (c_skip (f_then (c_seq (c_block (csr (sm ?_)))))));refine sm ?_;refine sy (y_ixE tab rfl rfl rfl rfl (hVu) _ rfl (by omega)) ?_;refine sy (y_fieldAddr tab 2 rfl rfl rfl rfl rfl) ?_;refine sl (CellsAre.nth 2 (hcx) rfl) ?_;refine sm ?_;refine sy (y_F (y_eql rfl rfl) (by omega)) ?_;refine snf (c_condF rfl (c_skip (f_blockN (f_then (c_region (sm ?_))))));refine sy (y_add rfl rfl (by omega)) ?_;refine sa ?_;refine s_nil ?_;rw [hst2];exact f_roundP (i + 1) c (by omega) ⟨rfl, rfl, rfl, rfl, trivial⟩ (fun w h => h)
  · obtain rfl : i = (rns f lo hi).length := by omega
    rw [List.take_length];refine c_seq (csr (sm ?_));refine sm ?_;refine sy (y_lenE tab rfl (hVu) rfl) ?_;refine sy (y_F (y_lss rfl rfl) (by omega)) ?_;refine snf (c_condF rfl (c_exit (f_thenE (f_rndE (f_blockE (f_then (csr (sm ?_))))))));refine sa ?_;refine sa ?_;refine snf (c_ret ?_);exact f_ret () (res2 rfl rfl rfl) (fun w h => h.tail.tail)
end
end Go.KL
end

section
/- Walks: build, From, made. -/
namespace Go.KL
open Go.Proofs Go.Proofs.Tryz
def bld : Nat → List Rn → Tree
  | 0, _ => .nil
  | k + 1, R => match R[R.length / 2]? with
    | none => .nil
    | some x => .node (bld k (R.take (R.length / 2))) (x.2.1 - x.1) x.2.2 (bld k (R.drop (R.length / 2 + 1)))
theorem bld_node {k : Nat} {R : List Rn} {x : Rn} (h : R[R.length / 2]? = some x) : bld (k + 1) R = .node (bld k (R.take (R.length / 2))) (x.2.1 - x.1) x.2.2 (bld k (R.drop (R.length / 2 + 1))) := by
  rw [bld, h]
theorem bld_none {k : Nat} {R : List Rn} (h : R.length = 0) : bld k R = .nil := by
  cases k with
  | zero => rfl
  | succ k => rw [bld, List.getElem?_eq_none (by omega)]
abbrev rll (x : Rn) : Nat × Nat := (x.2.1 - x.1, x.2.2)
theorem mid_get {R : List Rn} (h : 0 < R.length) : ∃ x, R[R.length / 2]? = some x := ⟨R[R.length / 2], by rw [List.getElem?_eq_getElem]⟩
theorem mid_split {R : List Rn} {x : Rn} {i : Nat} (h : R[i]? = some x) : R = R.take i ++ x :: R.drop (i + 1) := by
  obtain ⟨hi, rfl⟩ := List.getElem?_eq_some_iff.1 h;rw [← List.drop_eq_getElem_cons hi, List.take_append_drop]
theorem bld_toL : ∀ (k : Nat) (R : List Rn), R.length ≤ k → (bld k R).toL = R.map rll
  | 0, R, h => by
    have : R = [] := List.eq_nil_of_length_eq_zero (by omega);rw [this]; rfl
  | k + 1, R, h => by
    by_cases c : R.length = 0
    · have : R = [] := List.eq_nil_of_length_eq_zero c;rw [this]; rfl
    · obtain ⟨x, hx⟩ := mid_get (R := R) (by omega);rw [bld_node hx, Tree.toL, bld_toL k _ (by rw [List.length_take]; omega), bld_toL k _ (by rw [List.length_drop]; omega)];conv => rhs; rw [mid_split hx]
      rw [List.map_append, List.map_cons]
theorem bld_hi : ∀ (k h : Nat) (R : List Rn), R.length < 2 ^ h → (bld k R).ht ≤ h
  | 0, _, _, _ => Nat.zero_le _
  | k + 1, h, R, hl => by
    by_cases c : R.length = 0
    · rw [bld_none c]; exact Nat.zero_le _
    · obtain ⟨x, hx⟩ := mid_get (R := R) (by omega);cases h with
      | zero => rw [Nat.pow_zero] at hl; omega
      | succ h =>
        rw [Nat.pow_succ] at hl;have h1 := bld_hi k h (R.take (R.length / 2)) (by rw [List.length_take]; omega);have h2 := bld_hi k h (R.drop (R.length / 2 + 1)) (by rw [List.length_drop]; omega);rw [bld_node hx, Tree.ht];omega
theorem bld_lo : ∀ (k h : Nat) (R : List Rn), 2 ^ h ≤ R.length → R.length ≤ k → h + 1 ≤ (bld k R).ht
  | 0, h, R, h1, h2 => by
    have := Nat.two_pow_pos h;omega
  | k + 1, h, R, h1, h2 => by
    have hp := Nat.two_pow_pos h;obtain ⟨x, hx⟩ := mid_get (R := R) (by omega);rw [bld_node hx, Tree.ht];cases h with
    | zero => omega
    | succ h =>
      rw [Nat.pow_succ] at h1;have h3 := bld_lo k h (R.take (R.length / 2)) (by rw [List.length_take]; omega) (by rw [List.length_take]; omega);omega
theorem bld_bal : ∀ (k : Nat) (R : List Rn), R.length ≤ k → (bld k R).Bal
  | 0, _, _ => trivial
  | k + 1, R, h => by
    by_cases c : R.length = 0
    · rw [bld_none c]; trivial
    · obtain ⟨x, hx⟩ := mid_get (R := R) (by omega);rw [bld_node hx];have l1 : (R.take (R.length / 2)).length = R.length / 2 := by rw [List.length_take]; omega
      have l2 : (R.drop (R.length / 2 + 1)).length = R.length - (R.length / 2 + 1) := by rw [List.length_drop]
      refine ⟨bld_bal k _ (by omega), bld_bal k _ (by omega), ?_, ?_⟩
      · refine bld_hi k _ _ ?_;rw [Nat.pow_succ];rcases Nat.lt_or_ge (R.drop (R.length / 2 + 1)).length (2 ^ (bld k (R.drop (R.length / 2 + 1))).ht) with d | d
        · omega
        · have := bld_lo k _ _ d (by omega);omega
      · refine Nat.le_trans (bld_hi k (bld k (R.take (R.length / 2))).ht _ ?_) (Nat.le_succ _);rcases Nat.lt_or_ge (R.take (R.length / 2)).length (2 ^ (bld k (R.take (R.length / 2))).ht) with d | d
        · omega
        · have := bld_lo k _ _ d (by omega);omega
structure RnOK (R : List Rn) : Prop where
  ok : ∀ x ∈ R, x.1 ≤ x.2.1 ∧ x.2.2 < 16
  sz : szL (R.map rll) ≤ 1152921504606846976
  len : R.length ≤ 1000000
theorem RnOK.left {A B : List Rn} (h : RnOK (A ++ B)) : RnOK A := ⟨fun x hx => h.ok x (List.mem_append_left _ hx), by have := h.sz; rw [List.map_append, szL_app] at this; omega, by have := h.len; rw [List.length_append] at this; omega⟩
theorem RnOK.right {A B : List Rn} (h : RnOK (A ++ B)) : RnOK B := ⟨fun x hx => h.ok x (List.mem_append_right _ hx), by have := h.sz; rw [List.map_append, szL_app] at this; omega, by have := h.len; rw [List.length_append] at this; omega⟩
attribute [local irreducible] SC St Fin Sq Ylds Doos Sets Enters Spec CellIs CellsAre Then Ret Rnd Chn resOK ints bools recs arr
theorem build_spec {W : World} {R : List Chunk} : ∀ (k : Nat) {p : Chunk} {v : Value} {L : List Rn}, L.length ≤ k → EV (K W R) v 3 (rnl L) → RnOK L → Spec prog 46 #[v] (K W (p :: R)) (X := TX p (bld k L)) (fun x => x.1.2) (fun x => K W (x.1.1 :: R)) := by
  intro k;induction k with
  | zero =>
    intro p v L hl hV hR;obtain rfl : L = [] := List.eq_nil_of_length_eq_zero (by omega);have hV' : EV (K W (p :: R)) v 3 (rnl []) := hV.cons;refine enter (args := [_]) func46 rfl ntmps46 rfl ?_;refine csr (sa ?_);refine snf (c_seq (csr (sm ?_)));refine sy (y_lenE tab rfl (hV') rfl) ?_;refine sy (y_eql rfl rfl) ?_;refine snf (c_condT rfl (csr (sa ?_)));refine snf (c_ret (f_thenR ?_));exact f_ret ⟨(p, .pointer none), .refl _, .nil⟩ (res1 rfl rfl) (fun w h => h)
  | succ k ih =>
    intro p v L hl hV hR;have hV' : EV (K W (p :: R)) v 3 (rnl L) := hV.cons;have hll : (rnl L).length = L.length := List.length_map _;have h1 := hR.len;refine enter (args := [_]) func46 rfl ntmps46 rfl ?_;by_cases c : L.length = 0
    · refine csr (sa ?_);refine snf (c_seq (csr (sm ?_)));refine sy (y_lenE tab rfl (hV') rfl) ?_;refine sy (y_T (y_eql rfl rfl) (by omega)) ?_;refine snf (c_condT rfl (csr (sa ?_)));refine snf (c_ret (f_thenR ?_));exact f_ret ⟨(p, .pointer none), .refl _, by rw [bld_none c]; exact .nil⟩ (res1 rfl rfl) (fun w h => h)
    · obtain ⟨x, hx⟩ := mid_get (R := L) (by omega);have hsp := mid_split hx;obtain ⟨m, hm⟩ : ∃ m, L.length / 2 = m := ⟨_, rfl⟩;have e1 : ((rnl L).length : Int) / 2 = (m : Nat) := by omega
      have e2 : ((rnl L).length : Int) / 2 + 1 = (m + 1 : Nat) := by omega
      rw [hm] at hx hsp;have hcx : CellsAre (K W R) ⟨vblk v, voff v + m * 3, none⟩ [.int .i64 (x.1 : Nat), .int .i64 (x.2.1 : Nat), .int .i64 (x.2.2 : Nat)] := hV.row (rnl_get hx);have hR' := hR;rw [hsp] at hR';have hRl := hR'.left;have hRr : RnOK (L.drop (m + 1)) := RnOK.right (A := [x]) hR'.right;obtain ⟨hx1, hx2⟩ := hR.ok x (List.mem_of_getElem? hx);have hxs : x.2.1 - x.1 ≤ 1152921504606846976 := by
        have := hR'.sz;rw [List.map_append, szL_app, List.map_cons] at this;simp only [szL] at this;omega
      have hVl : EV (K W R) (tov v m) 3 (rnl (L.take m)) := by
        have := hV.to (k := m) (by omega)
        rwa [rnl, ← List.map_take] at this
      have hVr : EV (K W R) (frv v (m + 1) 3) 3 (rnl (L.drop (m + 1))) := by
        have := hV.fr (k := m + 1) (by omega)
        rwa [rnl, ← List.map_drop] at this
      have i1 := fun {q : Chunk} => ih (p := q) (L := L.take m) (by rw [List.length_take]; omega) hVl hRl;have i2 := fun {q : Chunk} => ih (p := q) (L := L.drop (m + 1)) (by rw [List.length_drop]; omega) hVr hRr;have hb := bld_node (k := k) (R := L) (x := x) (by rw [hm]; exact hx);rw [hm] at hb;have hbl : (bld k (L.take m)).toL = (L.take m).map rll := bld_toL k _ (by rw [List.length_take]; omega);have hbr : (bld k (L.drop (m + 1))).toL = (L.drop (m + 1)).map rll := bld_toL k _ (by rw [List.length_drop]; omega);have hpc : (Tree.node (bld k (L.take m)) (x.2.1 - x.1) x.2.2 (bld k (L.drop (m + 1)))).pcs ≤ 1152921504606846976 := by
        have := hR'.sz;rw [List.map_append, szL_app, List.map_cons] at this;simp only [szL] at this;rw [Tree.pcs, Tree.pcs_toL, Tree.pcs_toL, hbl, hbr];omega
      have hrn : (Tree.node (bld k (L.take m)) (x.2.1 - x.1) x.2.2 (bld k (L.drop (m + 1)))).runs ≤ 1152921504606846976 := by
        rw [Tree.runs, Tree.runs_toL, Tree.runs_toL, hbl, hbr, List.length_map, List.length_map, List.length_take, List.length_drop];omega
      have hD := fun (q : Chunk) (w : World) (h : K W (q :: R) w) => h.tail;refine csr (sa ?_);refine snf (c_seq (csr (sm ?_)));refine sy (y_lenE tab rfl (hV') rfl) ?_;refine sy (y_F (y_eql rfl rfl) (by omega)) ?_;refine snf (c_condF rfl (c_skip (f_then (csr (sm ?_)))));refine sy (y_lenE tab rfl (hV') rfl) ?_;refine sy (y_quo rfl rfl (by omega)) ?_;refine sa ?_;refine snf (c_seq (c_plan [.c 0, .c 1, .c 2, .c 4, .c 5, .c 6, .c 7, .c 8, .c 9, .c 10, .c 11, .c 12, .c 13, .c 14, .c 15, .c 16, .c 17, .c 18, .c 19, .c 20, .c 21, .c 22, .c 23, .s 3, .s 24, .s 25, .c 26] [] ((K W R)) mixed (by kernel_rfl) rfl K.cl ?_));refine dy rfl (y_move rfl) (fun _ h => h.tail) ?_;refine dy rfl (y_move rfl) (fun _ h => h.tail) ?_;refine dy rfl (y_toV tab rfl rfl rfl rfl hV e1 (by omega)) (fun _ h => h.tail) ?_;refine dy rfl (y_move rfl) (fun _ h => h.tail) ?_;refine dy rfl (y_move rfl) (fun _ h => h.tail) ?_;refine dy rfl (y_ixE tab rfl rfl rfl rfl hV m e1 (by omega)) (fun _ h => h.tail) ?_;refine dy rfl (y_fieldAddr tab 1 rfl rfl rfl rfl rfl) (fun _ h => h.tail) ?_;refine dy rfl (y_load tab rfl rfl (CellsAre.nth 1 (hcx) rfl)) (fun _ h => h.tail) ?_;refine dy rfl (y_move rfl) (fun _ h => h.tail) ?_;refine dy rfl (y_move rfl) (fun _ h => h.tail) ?_;refine dy rfl (y_ixE tab rfl rfl rfl rfl hV m e1 (by omega)) (fun _ h => h.tail) ?_;refine dy rfl (y_fieldAddr0 tab rfl rfl rfl rfl rfl) (fun _ h => h.tail) ?_;refine dy rfl (y_load tab rfl rfl (CellsAre.at0 (hcx) rfl)) (fun _ h => h.tail) ?_;refine dy rfl (y_sub rfl rfl (by omega)) (fun _ h => h.tail) ?_;refine dy rfl (y_move rfl) (fun _ h => h.tail) ?_;refine dy rfl (y_move rfl) (fun _ h => h.tail) ?_;refine dy rfl (y_ixE tab rfl rfl rfl rfl hV m e1 (by omega)) (fun _ h => h.tail) ?_;refine dy rfl (y_fieldAddr tab 2 rfl rfl rfl rfl rfl) (fun _ h => h.tail) ?_;refine dy rfl (y_load tab rfl rfl (CellsAre.nth 2 (hcx) rfl)) (fun _ h => h.tail) ?_;refine dy rfl (y_move rfl) (fun _ h => h.tail) ?_;refine dy rfl (y_move rfl) (fun _ h => h.tail) ?_;refine dy rfl (y_add rfl rfl (by omega)) (fun _ h => h.tail) ?_;refine dy rfl (y_slFrE tab rfl rfl rfl rfl hV e2 (by omega)) (fun _ h => h.tail) ?_;rw [show ((x.2.1 : Int) - (x.1 : Int)) = ((x.2.1 - x.1 : Nat) : Int) by omega];refine d_call rfl (en_f rfl call46) i1 rfl rfl rfl (fun _ => K.cl) (fun _ _ _ h => h.tail) (fun y => ?_);obtain ⟨⟨p1, v1⟩, hS1, hT1⟩ := y;dsimp only at hS1 hT1 ⊢;skip;refine d_call rfl (en_f rfl call46) i2 rfl rfl rfl (fun _ => K.cl) (fun _ _ _ h => h.tail) (fun y => ?_);obtain ⟨⟨p2, v2⟩, hS2, hT2⟩ := y;dsimp only at hS2 hT2 ⊢;skip;refine d_call rfl (en_f rfl call81) (link_spec (hT1.sub hS2) hT2 hx2 hpc hrn) rfl rfl rfl (fun _ => K.cl) (fun _ _ _ h => h.tail) (fun y => ?_);obtain ⟨⟨p3, v3⟩, hS3, hT3⟩ := y;dsimp only at hS3 hT3 ⊢;refine dy rfl (y_assign rfl) (fun _ h => h.tail) ?_;refine d_nil (f_then (c_ret ?_));exact f_ret ⟨(p3, v3), hS1.trans (hS2.trans hS3), by rw [hb]; exact hT3⟩ (res1 rfl rfl) (fun w h => h)
end Go.KL
end

section
/- Walks: From, made. -/
namespace Go.KL
open Go.Proofs Go.Proofs.Tryz
structure RunsOK (n : Nat) (f : Nat → Nat) : Prop where
  pos : 1 ≤ n ∧ n ≤ 1099511627776
  nb : nbd f n ≤ 4096
  tag : ∀ i, f i < 16
  out : ∀ i, n ≤ i → f i = 0
theorem rns_tags {f : Nat → Nat} : ∀ {R : List Rn} {lo hi : Nat}, Rns f lo hi R → (∀ i, f i < 16) → ∀ x ∈ R, x.1 < x.2.1 ∧ x.2.2 < 16 ∧ x.2.1 ≤ hi
  | [], _, _, _, _, x, hx => by simp at hx
  | y :: R, lo, hi, h, ht, x, hx => by
    rcases List.mem_cons.1 hx with rfl | hx
    · refine ⟨h.2.1, ?_, h.2.2.2.2.le⟩;rw [← h.2.2.1 x.1 (Nat.le_refl _) h.2.1];exact ht _
    · exact rns_tags h.2.2.2.2 ht x hx
theorem rns_sz {f : Nat → Nat} : ∀ {R : List Rn} {lo hi : Nat}, Rns f lo hi R → szL (R.map rll) = hi - lo
  | [], lo, hi, h => by
    have : lo = hi := h;simp [szL, this]
  | x :: R, lo, hi, h => by
    have h1 := h.2.2.2.2.le;have h2 := rns_sz h.2.2.2.2;have h3 := h.1;have h4 := h.2.1;rw [List.map_cons, szL, h2];show x.2.1 - x.1 + (hi - x.2.1) = hi - lo;omega
theorem rns_can {f : Nat → Nat} : ∀ {R : List Rn} {lo hi : Nat}, Rns f lo hi R → Can (R.map rll)
  | [], _, _, _ => trivial
  | [x], lo, hi, h => ⟨by show 0 < x.2.1 - x.1; have := h.2.1; omega, by simp, trivial⟩
  | x :: y :: R, lo, hi, h => ⟨by show 0 < x.2.1 - x.1; have := h.2.1; omega, fun z hz => by
      simp at hz;rw [← hz];exact h.2.2.2.1 y rfl, rns_can h.2.2.2.2⟩
theorem rns_tag {f : Nat → Nat} : ∀ {R : List Rn} {lo hi i : Nat}, Rns f lo hi R → lo + i < hi → tagL (R.map rll) i = f (lo + i)
  | [], lo, hi, i, h, hi' => by
    have : lo = hi := h;omega
  | x :: R, lo, hi, i, h, hi' => by
    have h1 := h.1;have h2 := h.2.1;rw [List.map_cons, tagL];by_cases c : i < x.2.1 - x.1
    · rw [if_pos c, h.2.2.1 (lo + i) (by omega) (by omega)]
    · rw [if_neg c];show tagL (R.map rll) (i - (x.2.1 - x.1)) = _;rw [rns_tag h.2.2.2.2 (by omega)];congr 1;omega
theorem drop_get {α : Type} {l : List α} {i : Nat} {x : α} (h : l[i]? = some x) : l.drop i = x :: l.drop (i + 1) := by
  obtain ⟨hi, rfl⟩ := List.getElem?_eq_some_iff.1 h;exact List.drop_eq_getElem_cons hi
attribute [local irreducible] SC St Fin Sq Ylds Doos Sets Enters Spec CellIs CellsAre Then Ret Rnd Chn resOK ints bools recs arr
theorem isTagT {C : World → Prop} {z : Int} (h : 0 ≤ z ∧ z < 16) : Spec prog 45 #[.int .i64 z] C (fun _ : Unit => .bool true) (fun _ => C) := by
  have := isTag_spec (C := C) (z := z)
  rwa [decide_eq_true h] at this
theorem from_spec {W : World} {R : List Chunk} {p : Chunk} {v : Value} {n : Nat} {f : Nat → Nat} (hF : RunsOK n f) (hV : EV (K W R) v 3 (rnl (rns f 0 n))) : Spec prog 14 #[.int .i64 (n : Nat), v] (K W (p :: R)) (X := MX p n f) (fun x => .tuple #[.agg #[x.1.2], .int .i64 0]) (fun x => K W (x.1.1 :: R)) := by
  have hR := rns_ok (f := f) (lo := 0) (hi := n) (Nat.zero_le _);have hlen := rns_len f n;obtain ⟨L, hL⟩ : ∃ L, L = rns f 0 n := ⟨_, rfl⟩;rw [← hL] at hR hlen hV;have hlr : (rnl L).length = L.length := List.length_map _;have hnb := hF.nb;obtain ⟨hp1, hp2⟩ := hF.pos;have hpos : 0 < L.length := by
    cases L with
    | nil =>
      have : 0 = n := hR;omega
    | cons x r => simp
  have hok : RnOK L := ⟨fun x hx => by have := rns_tags hR hF.tag x hx; omega, by rw [rns_sz hR]; omega, by omega⟩;refine enter (args := [_, _]) func14 rfl ntmps14 rfl ?_;refine csr (sal fun b4 => ?_);have hV4 : EV (K W ([(b4, row 29 [.pointer none])] :: p :: R)) v 3 (rnl L) := hV.cons.cons;refine sa ?_;refine snf (c_seq (csr (sm ?_)));refine sk call44 sized_spec fun _ => ?_;rw [show decide (1 ≤ (n : Int) ∧ (n : Int) ≤ 1099511627776) = true by rw [decide_eq_true_eq]; omega];refine sy (y_notT rfl) ?_;refine sm ?_;refine sm ?_;refine sy (y_lenE tab rfl (hV4) rfl) ?_;refine sy (y_F (y_eql rfl rfl) (by omega)) ?_;refine spF ?_;refine snf (c_condF rfl (c_skip (f_then (csr (sy (y_build tab rfl rfl rfl rfl rfl) ?_)))));refine sal fun b6 => ?_;refine ss (set_box tab 0 rfl rfl rfl rfl rfl rfl rfl) ?_;refine snf (c_seq (csr (sm ?_)));refine sy (y_lenE tab rfl (hV4.cons) rfl) ?_;refine sm ?_;refine snf (c_block ?_);refine c_loopP (α := Nat × Nat × Nat × Int) (fun z => [(0, .int .i64 (n : Nat)), (1, v), (4, .pointer (some ⟨b4, 0, none⟩)), (5, .int .i64 0), (6, .pointer (some ⟨b6, 0, none⟩)), (19, v), (20, .int .i64 ((rnl L).length : Nat)), (21, .int .i64 (z.1 : Nat))])
    (fun z => z.1 ≤ L.length ∧ Rns f z.2.2.1 n (L.drop z.1) ∧ ∀ y ∈ (L.drop z.1).head?, ((y.2.2 : Nat) : Int) ≠ z.2.2.2) (fun z => K W ([(b6, row 26 [.int .i64 (z.2.1 : Nat), .int .i64 (z.2.2.1 : Nat), .int .i64 z.2.2.2])] :: [(b4, row 29 [.pointer none])] :: p :: R)) (fun z => L.length - z.1) (0, 0, 0, -1)
    ⟨rfl, rfl, rfl, rfl, rfl, rfl, rfl, rfl, trivial⟩ ⟨Nat.zero_le _, by rw [List.drop_zero]; exact hR, fun y _ => by dsimp only; omega⟩ (fun w h => h) ?_
  rintro ⟨i, ll, lh, lt⟩ ⟨h1, h2, h3⟩;dsimp only at h1 h2 h3 ⊢;have hV6 : EV (K W ([(b6, row 26 [.int .i64 (ll : Nat), .int .i64 (lh : Nat), .int .i64 lt])] :: [(b4, row 29 [.pointer none])] :: p :: R)) v 3 (rnl L) := hV.cons.cons.cons;by_cases c : i < L.length
  · obtain ⟨x, hx⟩ : ∃ x, L[i]? = some x := ⟨L[i], by simp [c]⟩;have hcx : CellsAre (K W ([(b6, row 26 [.int .i64 (ll : Nat), .int .i64 (lh : Nat), .int .i64 lt])] :: [(b4, row 29 [.pointer none])] :: p :: R)) ⟨vblk v, voff v + i * 3, none⟩ [.int .i64 (x.1 : Nat), .int .i64 (x.2.1 : Nat), .int .i64 (x.2.2 : Nat)] := hV6.row (rnl_get hx);rw [drop_get hx] at h2 h3;obtain ⟨g1, g2, _, g4, g5⟩ := h2;have g3 := h3 x rfl;have g6 := (rns_tags hR hF.tag x (List.mem_of_getElem? hx)).2;refine csr (sy (y_T (y_lss rfl rfl) (by omega)) ?_);refine snf (c_seq (c_condT rfl (c_skip (f_then (c_seq (c_block (csr (sy (y_ixE tab rfl rfl rfl rfl (hV6) _ rfl (by omega)) ?_))))))));refine sy (y_loadA tab rfl rfl rfl rfl hcx) ?_;refine sal fun b8 => ?_;refine ss (set_box tab 0 rfl rfl rfl rfl rfl rfl rfl) ?_;refine snf (c_seq (csr (sf0 ?_)));refine slr 0 ?_;refine sf 1 ?_;refine slr 1 ?_;refine sy (y_F (y_neq rfl rfl) (by omega)) ?_;refine sm ?_;refine sf0 ?_;refine slr 0 ?_;refine sf 1 ?_;refine slr 0 ?_;refine sy (y_F (y_geq rfl rfl) (by omega)) ?_;refine spF ?_;refine sm ?_;refine sf 1 ?_;refine slr 0 ?_;refine sm ?_;refine sy (y_F (y_gtr rfl rfl) (by omega)) ?_;refine spF ?_;refine sm ?_;refine sf 2 ?_;refine slr 0 ?_;refine s_call (en_f rfl call45) ((isTagT (by omega))) rfl rfl rfl (fun _ => ?_);refine sy (y_notT rfl) ?_;refine spF ?_;refine sm ?_;refine sf 2 ?_;refine slr 0 ?_;refine sf 2 ?_;refine slr 1 ?_;refine sy (y_F (y_eql rfl rfl) (by assumption)) ?_;refine spF ?_;refine snf (c_condF rfl (c_skip (f_then (c_region (sy (y_loadA tab rfl rfl rfl rfl (cells_row0 0 rfl rfl)) ?_)))));refine ss (set_box tab 1 rfl rfl rfl rfl rfl rfl rfl) ?_;refine s_nil (f_blockN (f_then (c_region (sy (y_add rfl rfl (by omega)) ?_))));refine sm ?_;refine s_nil ?_;exact f_roundP (i + 1, x.1, x.2.1, (x.2.2 : Nat)) ⟨c, g5, fun y hy => by have := g4 y hy; dsimp only; omega⟩ (by dsimp only; omega) ⟨rfl, rfl, rfl, rfl, rfl, rfl, rfl, rfl, trivial⟩ (fun w h => h.tail)
  · obtain rfl : i = L.length := by omega
    rw [List.drop_length] at h2;have h2 : lh = n := h2;subst h2;refine csr (sy (y_F (y_lss rfl rfl) (by omega)) ?_);refine snf (c_seq (c_condF rfl (c_exit (f_thenE (f_rndE (f_blockE (f_then (c_seq (c_block (csr (sf 1 ?_)))))))))));refine slr 0 ?_;refine sm ?_;refine sy (y_F (y_neq rfl rfl) (by omega)) ?_;refine sa ?_;refine snf (c_condF rfl (csr (sm ?_)));refine sy (y_lenE tab rfl (hV6) rfl) ?_;refine sy (y_F (y_gtr rfl rfl) (by omega)) ?_;refine sa ?_;refine snf (c_condF rfl (c_skip (f_blockN (f_then (csr (sm ?_))))));have hbs := build_spec (W := W) (R := [(b4, row 29 [.pointer none])] :: R) L.length (p := p) (Nat.le_refl _) hV.cons hok;have htl := bld_toL L.length L (Nat.le_refl _);have hne : bld L.length L ≠ .nil := fun e => by
      rw [e] at htl;have := congrArg List.length htl;rw [List.length_map] at this;exact absurd this (by show 0 ≠ L.length; omega)
    refine St.cls (C' := K W (p :: [(b4, row 29 [.pointer none])] :: R)) ?_ (fun w h => (K.front 1 h.tail));refine sk call46 hbs fun x => ?_;obtain ⟨⟨p', v'⟩, hS, hT⟩ := x;dsimp only at hS hT ⊢;obtain ⟨a, rfl⟩ := hT.neC hne;refine sy (y_build tab rfl rfl rfl rfl rfl) ?_;refine ss (set_box tab 1 rfl rfl rfl rfl rfl rfl rfl) ?_;refine sa ?_;refine snf (c_ret ?_);refine f_ret ⟨(p', .pointer (some a)), hS, _, hT, ⟨hne, bld_bal _ _ (Nat.le_refl _), ?_, ?_, ?_⟩, ?_, ?_, ?_⟩ (resA1 tab rfl rfl rfl rfl rfl rfl (cells_row0 1 rfl rfl)) (fun w h => h.dropAt 1)
    · rw [htl];exact (rns_can hR).pos
    · rw [htl];intro y hy;obtain ⟨z, hz, rfl⟩ := List.mem_map.1 hy;exact (rns_tags hR hF.tag z hz).2.1
    · rw [Tree.pcs_toL, htl, rns_sz hR];exact hp2
    · rw [htl];exact rns_can hR
    · rw [Tree.pcs_toL, htl, rns_sz hR, Nat.sub_zero]
    · rw [htl];funext i;by_cases ci : i < lh
      · rw [rns_tag hR (by omega), Nat.zero_add]
      · rw [hF.out i (by omega), tagL_out (by rw [rns_sz hR]; omega)]
end Go.KL
end

section
/- Drawn regions in which one operation may come at any time. No program in sight. -/
namespace Go.KL
section
variable {P : Program} {n : Nat} {σ : Slots} {D : World → Prop} {Q : Post} {ops : Array Oper} {dr : Nat → Bool}
theorem Env.swap {a : Act} {d e : Nat} {v u : Value} (hne : d ≠ e) (h : Env n ((d, v) :: (e, u) :: σ) a) : Env n ((e, u) :: (d, v) :: σ) a := by
  have hl : ∀ x, look ((e, u) :: (d, v) :: σ) x = look ((d, v) :: (e, u) :: σ) x := fun x => by
    by_cases c1 : d = x
    · subst c1;rw [look_cons_ne (fun h => hne h.symm)];simp [look]
    · rw [look_cons_ne c1];by_cases c2 : e = x
      · subst c2;simp [look]
      · rw [look_cons_ne c2, look_cons_ne c2, look_cons_ne c1]
  exact ⟨h.size, h.lt, by rw [hl]; exact h.defers, fun x w hx e' => h.at_ x w hx (by rw [← hl]; exact e')⟩
theorem Env.drop {a : Act} {d : Nat} {u : Value} (h : Env n ((d, u) :: σ) a) (hd : Nat.blt d n = true) (h0 : look σ d = none) : Env n σ a := by
  have hd' : d < n := by simpa [Nat.blt_eq] using hd
  have hM : d ≠ MK := by have := h.lt; omega
  refine ⟨h.size, h.lt, by rw [h.defers, look_cons_ne hM], fun x w hx e => h.at_ x w hx ?_⟩;rw [look_cons_ne fun c => ?_]
  · exact e
  · subst c;rw [h0] at e;cases e
def planJ (ops : Array Oper) (dr : Nat → Bool) (j : Nat) : List PS → List PS → Array Bool → Bool
  | [], q, listed => (Region.ready .any ops listed) == [j] && planB ops dr q (listed.setIfInBounds j true)
  | .c k :: r, q, listed => (Region.ready .any ops listed).contains k && freeD ops dr listed k && planJ ops dr j r q (listed.setIfInBounds k true)
  | .s i :: r, q, listed => ((Region.ready .any ops listed) == [i, j] || (Region.ready .any ops listed) == [j, i]) && planJ ops dr j r q (listed.setIfInBounds i true) && planB ops dr (.s i :: r ++ q) (listed.setIfInBounds j true)
  | .t _ _ :: _, _, _ => false
  | .e _ _ _ :: _, _, _ => false
variable {Y : Type} {u : Y → Value} {dj j : Nat}
structure SJ (P : Program) (n : Nat) (ops : Array Oper) (dr : Nat → Bool) (D : World → Prop) (Q : Post) (j dj : Nat) (u : Y → Value) (plan q : List PS) (σ : Slots) (C : Option Y → World → Prop) : Prop where
  s0 : ∀ listed a, Env n σ a → DC ops listed → planJ ops dr j plan q listed = true → (∀ (j : Nat) (o : Oper) cs b, ops[j]? = some o → o.op ≠ .select cs b) → AnyC P ops dr D Q (planLen (plan ++ q) + 1) listed a (C none)
  s1 : ∀ y, Sd P n ops dr D Q (plan ++ q) ((dj, u y) :: σ) (C (some y))
theorem c_planJ (j dj : Nat) (u : Y → Value) (plan q : List PS) (D : World → Prop) (C : Option Y → World → Prop) {id : Nat} {l : List Oper} (hm : P.follows .mixedOrders = true) (hsB : (Region.noSelect l.toArray && planJ l.toArray (drOf []) j plan q (Array.replicate l.toArray.size false)) = true) (hl : planLen (plan ++ q) + 1 = l.toArray.size)
    (hC : Cl (C none)) (h : SJ P n l.toArray (drOf []) D Q j dj u plan q σ C) : SC P n Q (.region id l.toArray true) σ (C none) := by
  obtain ⟨hs, hB⟩ := Bool.and_eq_true_iff.1 hsB;intro a w hE hw;refine wpIn_region_any hm ?_;have h1 := h.s0 _ a hE (fun j hj => by simp [Array.getElem?_replicate] at hj; split at hj <;> simp at hj) hB (Region.noSelect_spec hs);rw [hl] at h1;exact wpAny_of_AnyC _ _ _ _ h1 _ (hC _ _ hw (Ext.drew w))
theorem Qui.drop {o : Oper} {v x : Value} {d : Nat} (h : Qui P n σ D o v) (hd : Nat.blt d n = true) (h0 : look σ d = none) : Qui P n ((d, x) :: σ) D o v := fun a w hE hw => h a w (hE.drop hd h0) hw
theorem Sd.swap {plan : List PS} {C : World → Prop} {d e : Nat} {v x : Value} (h : Sd P n ops dr D Q plan ((d, v) :: (e, x) :: σ) C) (hne : Nat.beq d e = false) : Sd P n ops dr D Q plan ((e, x) :: (d, v) :: σ) C := fun listed a hE => h listed a (hE.swap fun c => Nat.ne_of_beq_eq_false hne c.symm)
def Outs (P : Program) (n : Nat) (σ : Slots) (C : World → Prop) (o : Oper) {X : Type} (v : X → Value) (C' : X → World → Prop) : Prop := ∀ a w, Env n σ a → C w → Out P o a w (fun u w' => ∃ x, u = v x ∧ C' x w')
theorem Outs.drop {o : Oper} {X : Type} {v : X → Value} {C : World → Prop} {C' : X → World → Prop} {x : Value} {d : Nat} (h : Outs P n σ C o v C') (hd : Nat.blt d n = true) (h0 : look σ d = none) : Outs P n ((d, x) :: σ) C o v C' := fun a w hE hw => h a w (hE.drop hd h0) hw
theorem Doos.outs {o : Oper} {X : Type} {v : X → Value} {C : World → Prop} {C' : X → World → Prop} (h : Doos P n σ C o v C') : Outs P n σ C o v C' := fun _ w hE hw => h.out hE w hw
theorem Outs.call {o : Oper} {f : FuncId} {args : Array Value} {X : Type} {v : X → Value} {C : World → Prop} {C' : X → World → Prop} (he : Enters P n σ C o f args) (hs : Spec P f args C v C') : Outs P n σ C o v C' := fun a w hE hw => by
  unfold Out;rw [he a w hE hw];exact (hs w hw).mono fun e w' ⟨x, h1, h2⟩ => ⟨v x, h1, x, rfl, h2⟩
theorem Outs.conv {o : Oper} {X : Type} {v : X → Value} {C : World → Prop} {C' C'' : X → World → Prop} (h : Outs P n σ C o v C') (hc : ∀ x w, C' x w → C'' x w) : Outs P n σ C o v C'' := fun a w hE hw => (h a w hE hw).mono fun _ _ ⟨x, h1, h2⟩ => ⟨x, h1, hc x _ h2⟩
theorem Outs.cls {o : Oper} {X : Type} {v : X → Value} {C D : World → Prop} {C' : X → World → Prop} (h : Outs P n σ C o v C') (hc : ∀ w, D w → C w) : Outs P n σ D o v C' := fun a w hE hw => h a w hE (hc w hw)
theorem d_o {C : World → Prop} {i : Nat} {o : Oper} {plan : List PS} {X : Type} {v : X → Value} {C' : X → World → Prop} {d : Nat} (hi : ops[i]? = some o) (hy : Outs P n σ C o v C') (hg : gd ops σ o = some true) (hd : o.dst = some d) (hn : Nat.blt d n = true)
    (hCl : ∀ x, Cl (C' x)) (hD : dr i = true → ∀ x w, C' x w → D w) (k : ∀ x, Sd P n ops dr D Q plan ((d, v x) :: σ) (C' x)) : Sd P n ops dr D Q (.s i :: plan) σ C := by
  intro listed a hE hdc hB hs;simp only [planB, Bool.and_eq_true, beq_iff_eq] at hB;refine one_ready hi hB.1 (.inl ⟨gd_wanted hE hg, X, v, C', fun w hw => hy a w hE hw, fun x => ⟨hCl x, fun h => hD h x, ?_⟩⟩);rw [hd];exact k x _ _ (hE.put hn _) (hdc.set (ready_PL (by rw [hB.1]; simp))) hB.2 hs
theorem j_c {k d : Nat} {o : Oper} {v : Value} {plan q : List PS} {C : Option Y → World → Prop} (hi : ops[k]? = some o) (hy : Qui P n σ D o v) (hg : gd ops σ o = some true) (hg1 : ∀ y, gd ops ((dj, u y) :: σ) o = some true) (hd : o.dst = some d) (hn : Nat.blt d n = true) (hdj : Nat.blt dj n = true) (h0 : look σ dj = none) (hne : Nat.beq dj d = false)
    (hCD : ∀ y w, C y w → D w) (hCl : ∀ y, Cl (C y)) (r : SJ P n ops dr D Q j dj u plan q ((d, v) :: σ) C) : SJ P n ops dr D Q j dj u (.c k :: plan) q σ C := by
  refine ⟨fun listed a hE hdc hB hs => ?_, fun y => ?_⟩
  · simp only [planJ, Bool.and_eq_true] at hB;obtain ⟨⟨h1, h2⟩, h3⟩ := hB;refine AnyC_first hi hs _ _ _ _ (freeD_spec hi h2) hdc (by simpa using h1) (.inl ⟨gd_wanted hE hg, fun w hw => hy a w hE hw⟩) (hCD none) (hCl none) ?_;rw [hd];exact r.s0 _ _ (hE.put hn v) (hdc.set (ready_PL (by simpa using h1))) h3 hs
  · exact d_c hi (hy.drop hdj h0) (hg1 y) hd hn (hCD _) (hCl _) ((r.s1 y).swap hne)
theorem j_s {i d : Nat} {o oj : Oper} {X : Type} {v : X → Value} {plan q : List PS} {C : Option Y → World → Prop} {C' : X → Option Y → World → Prop} (hi : ops[i]? = some o) (hj : ops[j]? = some oj) (hy : ∀ y, Outs P n σ (C y) o v (fun x => C' x y)) (hyj : Outs P n σ (C none) oj u (fun y => C (some y)))
    (hg : gd ops σ o = some true) (hg1 : ∀ y, gd ops ((dj, u y) :: σ) o = some true) (hgj : gd ops σ oj = some true) (hd : o.dst = some d) (hjd : oj.dst = some dj) (hn : Nat.blt d n = true) (hdj : Nat.blt dj n = true) (h0 : look σ dj = none) (hne : Nat.beq dj d = false)
    (hCl : ∀ y, Cl (C y)) (hCl' : ∀ x y, Cl (C' x y)) (hD : ∀ y w, C y w → D w) (hD' : ∀ x y w, C' x y w → D w) (r : ∀ x, SJ P n ops dr D Q j dj u plan q ((d, v x) :: σ) (C' x)) : SJ P n ops dr D Q j dj u (.s i :: plan) q σ C := by
  have s1 : ∀ y, Sd P n ops dr D Q (.s i :: (plan ++ q)) ((dj, u y) :: σ) (C (some y)) := fun y => d_o hi ((hy _).drop hdj h0) (hg1 y) hd hn (fun x => hCl' x _) (fun _ x => hD' x _) (fun x => ((r x).s1 y).swap hne);refine ⟨fun listed a hE hdc hB hs => ?_, s1⟩;simp only [planJ, Bool.and_eq_true, Bool.or_eq_true, beq_iff_eq] at hB;obtain ⟨⟨r1, b1⟩, b2⟩ := hB;have hmem : ∀ m, m ∈ Region.ready .any ops listed ↔ m = i ∨ m = j := fun m => by
    rcases r1 with r1 | r1
    · rw [r1]; simp
    · rw [r1]; simp [or_comm]
  refine ⟨fun h => ?_, fun m hm o' ho => ?_⟩
  · have := (hmem i).2 (.inl rfl);rw [h] at this;simp at this
  · rcases (hmem m).1 hm with rfl | rfl
    · rw [hi] at ho;obtain rfl := Option.some.inj ho;refine .inl ⟨gd_wanted hE hg, X, v, fun x => C' x none, fun w hw => hy none a w hE hw, fun x => ⟨hCl' x _, (fun _ => hD' x _), ?_⟩⟩;rw [hd];exact (r x).s0 _ _ (hE.put hn _) (hdc.set (ready_PL hm)) b1 hs
    · rw [hj] at ho;obtain rfl := Option.some.inj ho;refine .inl ⟨gd_wanted hE hgj, Y, u, fun y => C (some y), fun w hw => hyj a w hE hw, fun y => ⟨hCl _, (fun _ => hD _), ?_⟩⟩;rw [hjd];exact s1 y _ _ (hE.put hdj _) (hdc.set (ready_PL hm)) b2 hs
theorem j_j {oj : Oper} {q : List PS} {C : Option Y → World → Prop} (hj : ops[j]? = some oj) (hyj : Outs P n σ (C none) oj u (fun y => C (some y))) (hgj : gd ops σ oj = some true) (hjd : oj.dst = some dj) (hdj : Nat.blt dj n = true) (hCl : ∀ y, Cl (C y)) (hD : ∀ y w, C y w → D w)
    (r : ∀ y, Sd P n ops dr D Q q ((dj, u y) :: σ) (C (some y))) : SJ P n ops dr D Q j dj u [] q σ C := by
  refine ⟨fun listed a hE hdc hB hs => ?_, r⟩;simp only [planJ, Bool.and_eq_true, beq_iff_eq] at hB;refine one_ready hj hB.1 (.inl ⟨gd_wanted hE hgj, Y, u, fun y => C (some y), fun w hw => hyj a w hE hw, fun y => ⟨hCl _, (fun _ => hD _), ?_⟩⟩);rw [hjd];exact r y _ _ (hE.put hdj _) (hdc.set (ready_PL (by rw [hB.1]; simp))) hB.2 hs
end
end Go.KL
end

section
/- Walks: made. -/
namespace Go.KL
open Go.Proofs Go.Proofs.Tryz
def flo (c : Nat → Chunk) : Option Nat → List Chunk
  | none => []
  | some y => [c y]
attribute [local irreducible] SC St Fin Sq Ylds Doos Sets Enters Spec CellIs CellsAre Then Ret Rnd Chn resOK ints bools recs arr
end Go.KL
end

section
/- Walks: the document's maps: full, Swap, move, Alike; runs. -/
namespace Go.KL
open Go.Proofs Go.Proofs.Tryz
theorem resA12 {P : Program} {n : Nat} {σ : Slots} {C : World → Prop} {fn : Func} {a u u' : Tmp} {t : TypeId} {p : Addr} {s : Nat} {l : List Value} {v v' : Value} (T : Tab P) (hr : fn.results = #[.cell a t, .tmp u, .tmp u']) (ha : lookE σ a = some (.pointer (some p))) (hu : lookE σ u = some v) (hu' : lookE σ u' = some v')
    (hg : T.agg t = some true) (hs : T.size t = some s) (hl : l.length = s) (hc : CellsAre C p l) : resOK P fn n σ C (.tuple #[.agg l.toArray, v, v']) := by
  intro act w hE hw;have h1 := hE.atE ha;have h2 := hE.atE hu;have h2' := hE.atE hu';have h3 := run_loadVarA (P := P) T hg hs hl (hc w hw);rw [Array.getD_eq_getD_getElem?] at h1 h2 h2';simp [results, hr, h1, h2, h2', asAddr, h3]
attribute [local irreducible] SC St Fin Sq Ylds Doos Sets Enters Spec CellIs CellsAre Then Ret Rnd Chn resOK ints bools recs arr
section
variable {W : World} {N : List Chunk} {lv : Value} {n : Nat} {f : Nat → Nat}
theorem full_spec {u : Value} {c : Chunk} {R : List Rn} (hB : BufR 26 3 u c (rnl R)) (hl : R.length ≤ 4096) {lv : Value} : Spec prog 72 #[.agg #[.int .i64 (n : Nat), lv], u] (K W (c :: N)) (fun _ : Unit => .tuple #[.agg #[.int .i64 (n : Nat), u], .int .i64 0]) (fun _ => K W (c :: N)) := by
  have hlr : (rnl R).length = R.length := List.length_map _;obtain ⟨pa, k, rfl, _, _⟩ := (hB.view (C := K W (c :: N)) (Hs.at 0 rfl)).view;refine enter (args := [_, _]) func72 rfl ntmps72 rfl ?_;refine csr (sbx fun b2 => ?_);refine sal fun b4 => ?_;refine sa ?_;refine snf (c_seq (csr (sm ?_)));refine sy (y_lenR' tab rfl hB rfl) ?_;refine sy (y_F (y_gtr rfl rfl) (by omega)) ?_;refine snf (c_condF rfl (c_skip (f_then (csr (sf0 ?_)))));refine slr 1 ?_;refine sm ?_;refine sy (y_build tab rfl rfl rfl rfl rfl) ?_;refine ss (set_box tab 0 rfl rfl rfl rfl rfl rfl rfl) ?_;refine sa ?_;refine snf (c_ret ?_);exact f_ret () (resA1 tab rfl rfl rfl rfl rfl rfl (cells_row0 0 rfl rfl)) (fun w h => h.tail.tail)
theorem rswap_spec (h : RMp (K W N) lv n f) {lo hi fr to : Nat} (h1 : lo ≤ hi) (h2 : hi ≤ n) (h3 : fr < 16) (h4 : to < 16) (h5 : nbd (swf f lo hi fr to) n ≤ 4096) : Spec prog 33 #[.agg #[.int .i64 (n : Nat), lv], .int .i64 (lo : Nat), .int .i64 (hi : Nat), .int .i64 (fr : Nat), .int .i64 (to : Nat), .bool false] (K W N)
    (X := { x : Value × Chunk × Nat // BufR 26 3 x.1 x.2.1 (rnl (rns (swf f lo hi fr to) 0 n)) }) (fun x => .tuple #[.agg #[.int .i64 (n : Nat), x.1.1], .int .i64 (x.1.2.2 : Nat), .int .i64 0]) (fun x => K W (x.1.2.1 :: N)) := by
  have hR := rns_ok (f := f) (lo := 0) (hi := n) (Nat.zero_le _);have hlen := rns_len f n;have hV := h.v;have hnb := h.nb;have hpos := h.pos;obtain ⟨pa, k, rfl, _, _⟩ := hV.view;have hlr : (rnl (rns f 0 n)).length = (rns f 0 n).length := List.length_map _;refine enter (args := [_, _, _, _, _, _]) func33 rfl ntmps33 rfl ?_;refine csr (sbx fun b6 => ?_);refine sal fun b12 => ?_;refine sa ?_;refine sa ?_;refine snf (c_seq (csr (sy (y_loadA tab rfl rfl rfl rfl (cells_row0 1 rfl rfl)) ?_)));refine sk call69 (usableM_spec h.cons.cons) fun _ => ?_;refine sy (y_notT rfl) ?_;refine snf (c_condF rfl (c_skip (f_then (c_seq (csr (sy (y_loadA tab rfl rfl rfl rfl (cells_row0 1 rfl rfl)) ?_))))));refine sm ?_;refine sm ?_;refine sk call70 (validT h.cons.cons h1 h2) fun _ => ?_;refine sy (y_notT rfl) ?_;refine snf (c_condF rfl (c_skip (f_then (c_seq (csr (sm ?_))))));refine sy (y_notF rfl) ?_;refine sm ?_;refine sm ?_;refine s_call (en_f rfl call71) (rtagT (by omega)) rfl rfl rfl (fun _ => ?_);refine sy (y_notT rfl) ?_;refine spT ?_;refine sm ?_;refine sm ?_;refine s_call (en_f rfl call71) (rtagT (by omega)) rfl rfl rfl (fun _ => ?_);refine sy (y_notT rfl) ?_;refine spF ?_;refine snf (c_condF rfl (c_skip (f_then (csr (sa ?_)))));refine snf (csr (sa ?_));refine snf (c_seq (csr (sa ?_)));refine snf (c_block ?_);refine c_loopP (α := Nat × Nat × Nat × Value × Chunk × List Rn) (fun z => [(1, .int .i64 (lo : Nat)), (2, .int .i64 (hi : Nat)), (3, .int .i64 (fr : Nat)), (4, .int .i64 (to : Nat)), (5, .bool false), (6, .pointer (some ⟨b6, 0, none⟩)), (12, .pointer (some ⟨b12, 0, none⟩)), (15, z.2.2.2.1), (16, .int .i64 (z.2.2.1 : Nat)), (17, .int .i64 (z.1 : Nat))])
    (fun z => z.1 ≤ (rns f 0 n).length ∧ Rns f z.2.1 n ((rns f 0 n).drop z.1) ∧ Rns (swf f lo hi fr to) 0 z.2.1 z.2.2.2.2.2 ∧ z.2.2.2.2.2.length ≤ 3 * z.1 ∧ BufR 26 3 z.2.2.2.1 z.2.2.2.2.1 (rnl z.2.2.2.2.2) ∧ z.2.2.1 ≤ z.2.1) (fun z => K W (z.2.2.2.2.1 :: [(b12, row 37 [.int .i64 0, .slice none 0 0])] :: [(b6, row 37 [.int .i64 (n : Nat), .slice pa (rnl (rns f 0 n)).length k])] :: N)) (fun z => (rns f 0 n).length - z.1) (0, 0, 0, .slice none 0 0, [], [])
    ⟨rfl, rfl, rfl, rfl, rfl, rfl, rfl, rfl, rfl, rfl, trivial⟩ ⟨Nat.zero_le _, by rw [List.drop_zero]; exact hR, rfl, Nat.le_refl _, .nil, Nat.le_refl _⟩ (fun w h => h.addNil) ?_
  rintro ⟨i, at_, m, u, d, R⟩ ⟨g1, g2, g3, g4, g5, g6⟩;dsimp only at g1 g2 g3 g4 g5 g6 ⊢;have hV2 : EV (K W (d :: [(b12, row 37 [.int .i64 0, .slice none 0 0])] :: [(b6, row 37 [.int .i64 (n : Nat), .slice pa (rnl (rns f 0 n)).length k])] :: N)) (.slice pa (rnl (rns f 0 n)).length k) 3 (rnl (rns f 0 n)) := hV.cons.cons.cons;by_cases c : i < (rns f 0 n).length
  · obtain ⟨x, hx⟩ : ∃ x, (rns f 0 n)[i]? = some x := ⟨(rns f 0 n)[i], by rw [List.getElem?_eq_getElem]⟩;have hcx : CellsAre (K W (d :: [(b12, row 37 [.int .i64 0, .slice none 0 0])] :: [(b6, row 37 [.int .i64 (n : Nat), .slice pa (rnl (rns f 0 n)).length k])] :: N)) ⟨vblk (.slice pa (rnl (rns f 0 n)).length k), voff (.slice pa (rnl (rns f 0 n)).length k) + i * 3, none⟩ [.int .i64 (x.1 : Nat), .int .i64 (x.2.1 : Nat), .int .i64 (x.2.2 : Nat)] := hV2.row (rnl_get hx);rw [drop_get' hx] at g2;obtain ⟨rfl, q2, q3, _, q5⟩ := g2;have hc := g3.swap q2 q3;have hxn := q5.le;have hA : swa lo x.1 x.2.1 = max x.1 (min lo x.2.1) := rfl;have hB : swb hi x.1 x.2.1 = min x.2.1 (max hi x.1) := rfl;have ea : max (x.1 : Int) (min (lo : Int) (x.2.1 : Int)) = ((swa lo x.1 x.2.1 : Nat) : Int) := by omega
    have eb : min (x.2.1 : Int) (max (hi : Int) (x.1 : Int)) = ((swb hi x.1 x.2.1 : Nat) : Int) := by omega
    have j1 := fun {A : List Chunk} => rjoin_spec (W := W) (N := A) (lo := x.1) (hi := swa lo x.1 x.2.1) (tag := x.2.2) g5 (by omega);have l1 := jn_len R (x.1, swa lo x.1 x.2.1, x.2.2);by_cases ct : x.2.2 = fr
    · rw [if_pos ct] at hc;refine c_seq (csr (sm ?_));refine sf 1 ?_;refine slr 2 ?_;refine sy (y_lenE tab rfl (hV2) rfl) ?_;refine sy (y_T (y_lss rfl rfl) (by omega)) ?_;refine snf (c_condT rfl (c_skip (f_then (c_seq (c_block (csr (sf 1 ?_)))))));refine slr 2 ?_;refine sm ?_;refine sy (y_ixE tab rfl rfl rfl rfl (hV2) _ rfl (by omega)) ?_;refine sy (y_loadA tab rfl rfl rfl rfl hcx) ?_;refine sal fun b18 => ?_;refine ss (set_box tab 0 rfl rfl rfl rfl rfl rfl rfl) ?_;refine snf (c_seq (c_quiet mixed (by kernel_rfl) K.drew ?_));refine q_y (y_fieldAddr0 tab rfl rfl rfl rfl rfl) rfl rfl rfl ?_;refine q_y (y_load tab rfl rfl (cell_row 0 rfl rfl)) rfl rfl rfl ?_;refine q_y (y_move rfl) rfl rfl rfl ?_;refine q_y (y_fieldAddrB tab 1 rfl rfl rfl rfl rfl) rfl rfl rfl ?_;refine q_y (y_load tab rfl rfl (cell_row 0 rfl rfl)) rfl rfl rfl ?_;refine q_y (y_min rfl rfl) rfl rfl rfl ?_;refine q_y (y_max rfl rfl) rfl rfl rfl ?_;refine q_y (y_fieldAddrB tab 1 rfl rfl rfl rfl rfl) rfl rfl rfl ?_;refine q_y (y_load tab rfl rfl (cell_row 0 rfl rfl)) rfl rfl rfl ?_;refine q_y (y_move rfl) rfl rfl rfl ?_;refine q_y (y_fieldAddr0 tab rfl rfl rfl rfl rfl) rfl rfl rfl ?_;refine q_y (y_load tab rfl rfl (cell_row 0 rfl rfl)) rfl rfl rfl ?_;refine q_y (y_max rfl rfl) rfl rfl rfl ?_;refine q_y (y_min rfl rfl) rfl rfl rfl ?_;refine q_y (y_assign rfl) rfl rfl rfl ?_;refine q_y (y_assign rfl) rfl rfl rfl ?_;refine q_nil (f_then (csr (sf 2 ?_)));refine slr 0 ?_;refine sa ?_;refine snf (c_seq (csr (sm ?_)));refine sm ?_;refine sf 2 ?_;refine slr 0 ?_;refine sm ?_;refine sy (y_T (y_eql rfl rfl) (by omega)) ?_;refine spF ?_;refine snf (c_condT rfl (csr (sm ?_)));refine sa ?_;refine snf (c_region (sm ?_));refine sm ?_;refine sm ?_;refine sy (y_sub rfl rfl (by omega)) ?_;refine sy (y_max rfl rfl) ?_;refine sy (y_add rfl rfl (by omega)) ?_;refine sa ?_;refine snf (csr (sm ?_));refine sf0 ?_;refine slr 0 ?_;refine sm ?_;refine sf 2 ?_;refine slr 0 ?_;refine sy (y_build tab rfl rfl rfl rfl rfl) ?_;rw [ea, eb];skip;refine St.cls (C' := K W (d :: [(b18, row 26 [.int .i64 (x.1 : Nat), .int .i64 (x.2.1 : Nat), .int .i64 (x.2.2 : Nat)])] :: [(b12, row 37 [.int .i64 0, .slice none 0 0])] :: [(b6, row 37 [.int .i64 (n : Nat), .slice pa (rnl (rns f 0 n)).length k])] :: N)) ?_ (fun w h => K.front 1 h);refine sk call68 j1 fun y => ?_;obtain ⟨⟨u1, d1⟩, hu1⟩ := y;dsimp only at hu1 ⊢;have j2 := rjoin_spec (W := W) (N := [(b18, row 26 [.int .i64 (x.1 : Nat), .int .i64 (x.2.1 : Nat), .int .i64 (x.2.2 : Nat)])] :: [(b12, row 37 [.int .i64 0, .slice none 0 0])] :: [(b6, row 37 [.int .i64 (n : Nat), .slice pa (rnl (rns f 0 n)).length k])] :: N) (lo := swa lo x.1 x.2.1) (hi := swb hi x.1 x.2.1) (tag := to) hu1 (by omega);have l2 := jn_len (jn R (x.1, swa lo x.1 x.2.1, x.2.2)) (swa lo x.1 x.2.1, swb hi x.1 x.2.1, to);refine sa ?_;refine snf (csr (sm ?_));refine sm ?_;refine sm ?_;refine sm ?_;refine sy (y_build tab rfl rfl rfl rfl rfl) ?_;refine sk call68 j2 fun y => ?_;obtain ⟨⟨u2, d2⟩, hu2⟩ := y;dsimp only at hu2 ⊢;have j3 := rjoin_spec (W := W) (N := [(b18, row 26 [.int .i64 (x.1 : Nat), .int .i64 (x.2.1 : Nat), .int .i64 (x.2.2 : Nat)])] :: [(b12, row 37 [.int .i64 0, .slice none 0 0])] :: [(b6, row 37 [.int .i64 (n : Nat), .slice pa (rnl (rns f 0 n)).length k])] :: N) (lo := max (swa lo x.1 x.2.1) (swb hi x.1 x.2.1)) (hi := x.2.1) (tag := x.2.2) hu2 (by omega);rw [show ((max (swa lo x.1 x.2.1) (swb hi x.1 x.2.1) : Nat) : Int) = max ((swa lo x.1 x.2.1 : Nat) : Int) ((swb hi x.1 x.2.1 : Nat) : Int) by omega] at j3;have l3 := jn_len (jn (jn R (x.1, swa lo x.1 x.2.1, x.2.2)) (swa lo x.1 x.2.1, swb hi x.1 x.2.1, to)) (max (swa lo x.1 x.2.1) (swb hi x.1 x.2.1), x.2.1, x.2.2);refine sa ?_;refine snf (c_region (sm ?_));refine sm ?_;refine sm ?_;refine sy (y_max rfl rfl) ?_;refine sf 1 ?_;refine slr 1 ?_;refine sf 2 ?_;refine slr 1 ?_;refine sy (y_build tab rfl rfl rfl rfl rfl) ?_;refine sk call68 j3 fun y => ?_;obtain ⟨⟨u3, d3⟩, hu3⟩ := y;dsimp only at hu3 ⊢;refine sa ?_;refine s_nil (f_blockN (f_then (c_region (sm ?_))));refine sy (y_add rfl rfl (by omega)) ?_;refine sa ?_;refine s_nil ?_;rw [show (m : Int) + max 0 (((swb hi x.1 x.2.1 : Nat) : Int) - ((swa lo x.1 x.2.1 : Nat) : Int)) = ((m + (swb hi x.1 x.2.1 - swa lo x.1 x.2.1) : Nat) : Int) by omega];exact f_roundP (i + 1, x.2.1, m + (swb hi x.1 x.2.1 - swa lo x.1 x.2.1), u3, d3, jn (jn (jn R (x.1, swa lo x.1 x.2.1, x.2.2)) (swa lo x.1 x.2.1, swb hi x.1 x.2.1, to)) (max (swa lo x.1 x.2.1) (swb hi x.1 x.2.1), x.2.1, x.2.2)) ⟨c, q5, hc, by dsimp only; omega, hu3, by dsimp only; omega⟩ (by dsimp only; omega) ⟨rfl, rfl, rfl, rfl, rfl, rfl, rfl, rfl, rfl, rfl, trivial⟩ (fun w h => h.dropAt 1)
    · rw [if_neg ct] at hc;refine c_seq (csr (sm ?_));refine sf 1 ?_;refine slr 2 ?_;refine sy (y_lenE tab rfl (hV2) rfl) ?_;refine sy (y_T (y_lss rfl rfl) (by omega)) ?_;refine snf (c_condT rfl (c_skip (f_then (c_seq (c_block (csr (sf 1 ?_)))))));refine slr 2 ?_;refine sm ?_;refine sy (y_ixE tab rfl rfl rfl rfl (hV2) _ rfl (by omega)) ?_;refine sy (y_loadA tab rfl rfl rfl rfl hcx) ?_;refine sal fun b18 => ?_;refine ss (set_box tab 0 rfl rfl rfl rfl rfl rfl rfl) ?_;refine snf (c_seq (c_quiet mixed (by kernel_rfl) K.drew ?_));refine q_y (y_fieldAddr0 tab rfl rfl rfl rfl rfl) rfl rfl rfl ?_;refine q_y (y_load tab rfl rfl (cell_row 0 rfl rfl)) rfl rfl rfl ?_;refine q_y (y_move rfl) rfl rfl rfl ?_;refine q_y (y_fieldAddrB tab 1 rfl rfl rfl rfl rfl) rfl rfl rfl ?_;refine q_y (y_load tab rfl rfl (cell_row 0 rfl rfl)) rfl rfl rfl ?_;refine q_y (y_min rfl rfl) rfl rfl rfl ?_;refine q_y (y_max rfl rfl) rfl rfl rfl ?_;refine q_y (y_fieldAddrB tab 1 rfl rfl rfl rfl rfl) rfl rfl rfl ?_;refine q_y (y_load tab rfl rfl (cell_row 0 rfl rfl)) rfl rfl rfl ?_;refine q_y (y_move rfl) rfl rfl rfl ?_;refine q_y (y_fieldAddr0 tab rfl rfl rfl rfl rfl) rfl rfl rfl ?_;refine q_y (y_load tab rfl rfl (cell_row 0 rfl rfl)) rfl rfl rfl ?_;refine q_y (y_max rfl rfl) rfl rfl rfl ?_;refine q_y (y_min rfl rfl) rfl rfl rfl ?_;refine q_y (y_assign rfl) rfl rfl rfl ?_;refine q_y (y_assign rfl) rfl rfl rfl ?_;refine q_nil (f_then (csr (sf 2 ?_)));refine slr 0 ?_;refine sa ?_;refine snf (c_seq (csr (sm ?_)));refine sm ?_;refine sf 2 ?_;refine slr 0 ?_;refine sm ?_;refine sy (y_F (y_eql rfl rfl) (by omega)) ?_;refine spF ?_;refine snf (c_condF rfl (c_skip (f_then (csr (sm ?_)))));refine sf0 ?_;refine slr 0 ?_;refine sm ?_;refine sf 2 ?_;refine slr 0 ?_;refine sy (y_build tab rfl rfl rfl rfl rfl) ?_;rw [ea, eb];skip;refine St.cls (C' := K W (d :: [(b18, row 26 [.int .i64 (x.1 : Nat), .int .i64 (x.2.1 : Nat), .int .i64 (x.2.2 : Nat)])] :: [(b12, row 37 [.int .i64 0, .slice none 0 0])] :: [(b6, row 37 [.int .i64 (n : Nat), .slice pa (rnl (rns f 0 n)).length k])] :: N)) ?_ (fun w h => K.front 1 h);refine sk call68 j1 fun y => ?_;obtain ⟨⟨u1, d1⟩, hu1⟩ := y;dsimp only at hu1 ⊢;have j2 := rjoin_spec (W := W) (N := [(b18, row 26 [.int .i64 (x.1 : Nat), .int .i64 (x.2.1 : Nat), .int .i64 (x.2.2 : Nat)])] :: [(b12, row 37 [.int .i64 0, .slice none 0 0])] :: [(b6, row 37 [.int .i64 (n : Nat), .slice pa (rnl (rns f 0 n)).length k])] :: N) (lo := swa lo x.1 x.2.1) (hi := swb hi x.1 x.2.1) (tag := x.2.2) hu1 (by omega);have l2 := jn_len (jn R (x.1, swa lo x.1 x.2.1, x.2.2)) (swa lo x.1 x.2.1, swb hi x.1 x.2.1, x.2.2);refine sa ?_;refine snf (csr (sm ?_));refine sm ?_;refine sm ?_;refine sm ?_;refine sy (y_build tab rfl rfl rfl rfl rfl) ?_;refine sk call68 j2 fun y => ?_;obtain ⟨⟨u2, d2⟩, hu2⟩ := y;dsimp only at hu2 ⊢;have j3 := rjoin_spec (W := W) (N := [(b18, row 26 [.int .i64 (x.1 : Nat), .int .i64 (x.2.1 : Nat), .int .i64 (x.2.2 : Nat)])] :: [(b12, row 37 [.int .i64 0, .slice none 0 0])] :: [(b6, row 37 [.int .i64 (n : Nat), .slice pa (rnl (rns f 0 n)).length k])] :: N) (lo := max (swa lo x.1 x.2.1) (swb hi x.1 x.2.1)) (hi := x.2.1) (tag := x.2.2) hu2 (by omega);rw [show ((max (swa lo x.1 x.2.1) (swb hi x.1 x.2.1) : Nat) : Int) = max ((swa lo x.1 x.2.1 : Nat) : Int) ((swb hi x.1 x.2.1 : Nat) : Int) by omega] at j3;have l3 := jn_len (jn (jn R (x.1, swa lo x.1 x.2.1, x.2.2)) (swa lo x.1 x.2.1, swb hi x.1 x.2.1, x.2.2)) (max (swa lo x.1 x.2.1) (swb hi x.1 x.2.1), x.2.1, x.2.2);refine sa ?_;refine snf (c_region (sm ?_));refine sm ?_;refine sm ?_;refine sy (y_max rfl rfl) ?_;refine sf 1 ?_;refine slr 1 ?_;refine sf 2 ?_;refine slr 1 ?_;refine sy (y_build tab rfl rfl rfl rfl rfl) ?_;refine sk call68 j3 fun y => ?_;obtain ⟨⟨u3, d3⟩, hu3⟩ := y;dsimp only at hu3 ⊢;refine sa ?_;refine s_nil (f_blockN (f_then (c_region (sm ?_))));refine sy (y_add rfl rfl (by omega)) ?_;refine sa ?_;refine s_nil ?_;exact f_roundP (i + 1, x.2.1, m, u3, d3, jn (jn (jn R (x.1, swa lo x.1 x.2.1, x.2.2)) (swa lo x.1 x.2.1, swb hi x.1 x.2.1, x.2.2)) (max (swa lo x.1 x.2.1) (swb hi x.1 x.2.1), x.2.1, x.2.2)) ⟨c, q5, hc, by dsimp only; omega, hu3, by dsimp only; omega⟩ (by dsimp only; omega) ⟨rfl, rfl, rfl, rfl, rfl, rfl, rfl, rfl, rfl, rfl, trivial⟩ (fun w h => h.dropAt 1)
  · obtain rfl : i = (rns f 0 n).length := by omega
    rw [List.drop_length] at g2;obtain rfl : at_ = n := g2;have hRl : R.length ≤ 4096 := by rw [g3.eq, rns_len]; exact h5
    obtain ⟨pu, ku, rfl, _, _⟩ := (g5.view (C := K W (d :: N)) (Hs.at 0 rfl)).view;refine c_seq (csr (sm ?_));refine sf 1 ?_;refine slr 2 ?_;refine sy (y_lenE tab rfl (hV2) rfl) ?_;refine sy (y_F (y_lss rfl rfl) (by omega)) ?_;refine snf (c_condF rfl (c_exit (f_thenE (f_rndE (f_blockE (f_then (csr (sy (y_loadA tab rfl rfl rfl rfl (cells_row0 2 rfl rfl)) ?_))))))));refine sm ?_;refine sk call72 (full_spec g5 hRl) fun _ => ?_;refine sm ?_;refine sx ?_;refine sx ?_;refine sal fun b22 => ?_;refine ss (set_box tab 0 rfl rfl rfl rfl rfl rfl rfl) ?_;refine sa ?_;refine snf (c_seq (csr (sm ?_)));refine sy (y_F (y_neq rfl rfl) (by omega)) ?_;refine snf (c_condF rfl (c_skip (f_then (csr (sy (y_loadA tab rfl rfl rfl rfl (cells_row0 0 rfl rfl)) ?_)))));refine sm ?_;refine ss (set_box tab 2 rfl rfl rfl rfl rfl rfl rfl) ?_;refine sa ?_;refine sa ?_;refine snf (c_ret ?_);exact f_ret ⟨(_, d, m), g5.of (by rw [g3.eq])⟩ (resA12 tab rfl rfl rfl rfl rfl rfl rfl (cells_row0 2 rfl rfl)) (fun w h => (h.tail.dropAt 1).dropAt 1)
theorem rmove_spec (h : RMp (K W N) lv n f) {o : Oa} {rv : Value} (h1 : o.lo ≤ o.hi) (h2 : o.hi ≤ n) (h3 : o.fr < 16) (h4 : o.to < 16) (h5 : nbd (swf f o.lo o.hi o.fr o.to) n ≤ 4096) : Spec prog 80 #[.agg #[.int .i64 (n : Nat), lv], .agg #[.bool o.mv, .int .i64 (o.lo : Nat), .int .i64 (o.hi : Nat), .int .i64 (o.fr : Nat), .int .i64 (o.to : Nat), rv]] (K W N)
    (X := { x : Value × Chunk // BufR 26 3 x.1 x.2 (rnl (rns (swf f o.lo o.hi o.fr o.to) 0 n)) }) (fun x => .agg #[.int .i64 (n : Nat), x.1.1]) (fun x => K W (x.1.2 :: N)) := by
  have hV := h.v;obtain ⟨pa, k, rfl, _, _⟩ := hV.view;refine enter (args := [_, _]) func80 rfl ntmps80 rfl ?_;refine csr (sbx fun b2 => ?_);refine sbx fun b3 => ?_;refine sal fun b4 => ?_;refine snf (csr (sy (y_loadA tab rfl rfl rfl rfl (cells_row0 2 rfl rfl)) ?_));refine sf 1 ?_;refine slr 1 ?_;refine sf 2 ?_;refine slr 1 ?_;refine sf 3 ?_;refine slr 1 ?_;refine sf 4 ?_;refine slr 1 ?_;refine sk call33 (rswap_spec h.cons.cons.cons h1 h2 h3 h4 h5) fun y => ?_;obtain ⟨⟨u, d, m⟩, hu⟩ := y;dsimp only at hu ⊢;obtain ⟨pu, ku, rfl, _, _⟩ := (hu.view (C := K W (d :: N)) (Hs.at 0 rfl)).view;refine sm ?_;refine sx ?_;refine sx ?_;refine sx ?_;refine sal fun b5 => ?_;refine ss (set_box tab 0 rfl rfl rfl rfl rfl rfl rfl) ?_;refine sa ?_;refine sa ?_;refine snf (c_seq (csr (sm ?_)));refine sy (y_F (y_neq rfl rfl) (by omega)) ?_;refine snf (c_condF rfl (c_skip (f_then (csr (sy (y_loadA tab rfl rfl rfl rfl (cells_row0 0 rfl rfl)) ?_)))));refine ss (set_box tab 2 rfl rfl rfl rfl rfl rfl rfl) ?_;refine snf (c_ret ?_);exact f_ret ⟨(_, d), hu⟩ (resA tab rfl rfl rfl rfl rfl (cells_row0 2 rfl rfl)) (fun w h => ((h.tail.dropAt 1).dropAt 1).dropAt 1)
end
section
variable {W : World} {N : List Chunk} {a b : Value} {R R' : List Rn}
theorem rnc_inj {x y : Rn} (h : rnc x = rnc y) : x = y := by
  unfold rnc at h;simp only [List.cons.injEq, Value.int.injEq, true_and, and_true] at h;exact Prod.ext (by omega) (Prod.ext (by omega) (by omega))
theorem alike_spec (hA : EV (K W N) a 3 (rnl R)) (hB : EV (K W N) b 3 (rnl R')) (hl : R.length < 1000000) : Spec prog 34 #[a, b] (K W N) (fun _ : Unit => .bool (decide (R = R'))) (fun _ => K W N) := by
  have hla : (rnl R).length = R.length := List.length_map _;have hlb : (rnl R').length = R'.length := List.length_map _;refine enter (args := [_, _]) func34 rfl ntmps34 rfl ?_;by_cases c0 : R.length = R'.length
  · refine csr (sa ?_);refine snf (c_seq (csr (sm ?_)));refine sy (y_lenE tab rfl (hA) rfl) ?_;refine sm ?_;refine sy (y_lenE tab rfl (hB) rfl) ?_;refine sy (y_F (y_neq rfl rfl) (by omega)) ?_;refine snf (c_condF rfl (c_skip (f_then (c_seq (csr (sa ?_))))));refine snf (c_block (c_loopP (α := Nat) (fun z => [(0, a), (1, b), (5, .int .i64 (z : Nat))]) (fun z => z ≤ R.length ∧ R.take z = R'.take z) (fun _ => K W N) (fun z => R.length - z) 0 ⟨rfl, rfl, rfl, trivial⟩ ⟨Nat.zero_le _, rfl⟩ (fun w h => h) ?_));rintro i ⟨g1, g2⟩;by_cases c : i < R.length
    · obtain ⟨x, hx⟩ : ∃ x, R[i]? = some x := ⟨R[i], by rw [List.getElem?_eq_getElem]⟩;obtain ⟨y, hy⟩ : ∃ y, R'[i]? = some y := ⟨R'[i]'(by omega), by rw [List.getElem?_eq_getElem]⟩;have hcx : CellsAre (K W N) ⟨vblk a, voff a + i * 3, none⟩ [.int .i64 (x.1 : Nat), .int .i64 (x.2.1 : Nat), .int .i64 (x.2.2 : Nat)] := hA.row (rnl_get hx);have hcy : CellsAre (K W N) ⟨vblk b, voff b + i * 3, none⟩ [.int .i64 (y.1 : Nat), .int .i64 (y.2.1 : Nat), .int .i64 (y.2.2 : Nat)] := hB.row (rnl_get hy);by_cases e : x = y
      · subst e;refine c_seq (csr (sm ?_));refine sm ?_;refine sy (y_lenE tab rfl (hA) rfl) ?_;refine sy (y_T (y_lss rfl rfl) (by omega)) ?_;refine snf (c_condT rfl (c_skip (f_then (c_seq (c_block (c_seq (c_quiet mixed (by kernel_rfl) K.drew ?_)))))));refine q_y (y_move rfl) rfl rfl rfl ?_;refine q_y (y_move rfl) rfl rfl rfl ?_;refine q_y (y_ixE tab rfl rfl rfl rfl (hA) _ rfl (by omega)) rfl rfl rfl ?_;refine q_y (y_loadA tab rfl rfl rfl rfl hcx) rfl rfl rfl ?_;refine q_y (y_move rfl) rfl rfl rfl ?_;refine q_y (y_move rfl) rfl rfl rfl ?_;refine q_y (y_ixE tab rfl rfl rfl rfl (hB) _ rfl (by omega)) rfl rfl rfl ?_;refine q_y (y_loadA tab rfl rfl rfl rfl hcy) rfl rfl rfl ?_;refine q_y (y_neqS tab rfl rfl rfl (by kernel_rfl) (by kernel_rfl) rfl rfl) rfl rfl rfl ?_;refine q_nil (f_then (c_cond rfl (fun h => by simp at h) (fun _ => ?_)));refine c_skip (f_blockN (f_then (c_region (sm ?_))));refine sy (y_add rfl rfl (by omega)) ?_;refine sa ?_;refine s_nil ?_;exact f_roundP (i + 1) ⟨c, by rw [List.take_add_one, List.take_add_one, g2, hx, hy]⟩ (by omega) ⟨rfl, rfl, rfl, trivial⟩ (fun w h => h)
      · have hne : ¬ R = R' := fun h => by
          rw [h, hy] at hx;exact e (Option.some.inj hx).symm
        rw [decide_eq_false hne];refine c_seq (csr (sm ?_));refine sm ?_;refine sy (y_lenE tab rfl (hA) rfl) ?_;refine sy (y_T (y_lss rfl rfl) (by omega)) ?_;refine snf (c_condT rfl (c_skip (f_then (c_seq (c_block (c_seq (c_quiet mixed (by kernel_rfl) K.drew ?_)))))));refine q_y (y_move rfl) rfl rfl rfl ?_;refine q_y (y_move rfl) rfl rfl rfl ?_;refine q_y (y_ixE tab rfl rfl rfl rfl (hA) _ rfl (by omega)) rfl rfl rfl ?_;refine q_y (y_loadA tab rfl rfl rfl rfl hcx) rfl rfl rfl ?_;refine q_y (y_move rfl) rfl rfl rfl ?_;refine q_y (y_move rfl) rfl rfl rfl ?_;refine q_y (y_ixE tab rfl rfl rfl rfl (hB) _ rfl (by omega)) rfl rfl rfl ?_;refine q_y (y_loadA tab rfl rfl rfl rfl hcy) rfl rfl rfl ?_;refine q_y (y_neqS tab rfl rfl rfl (by kernel_rfl) (by kernel_rfl) rfl rfl) rfl rfl rfl ?_;refine q_nil (f_then (c_cond rfl (fun _ => ?_) (fun h => absurd (show rnc x = rnc y by simpa [rnc] using h) fun h2 => e (rnc_inj h2))));refine csr (sa ?_);refine snf (c_ret (f_blockR (f_thenR (f_rndR (f_blockR (f_thenR ?_))))));exact f_ret () (res1 rfl rfl) (fun w h => h)
    · have he : R = R' := by
        rw [List.take_of_length_le (by omega), List.take_of_length_le (by omega)] at g2;exact g2
      rw [decide_eq_true he];refine c_seq (csr (sm ?_));refine sm ?_;refine sy (y_lenE tab rfl (hA) rfl) ?_;refine sy (y_F (y_lss rfl rfl) (by omega)) ?_;refine snf (c_condF rfl (c_exit (f_thenE (f_rndE (f_blockE (f_then (csr (sa ?_))))))));refine snf (c_ret ?_);exact f_ret () (res1 rfl rfl) (fun w h => h)
  · rw [decide_eq_false (show ¬ R = R' from fun e => c0 (by rw [e]))];refine csr (sa ?_);refine snf (c_seq (csr (sm ?_)));refine sy (y_lenE tab rfl (hA) rfl) ?_;refine sm ?_;refine sy (y_lenE tab rfl (hB) rfl) ?_;refine sy (y_T (y_neq rfl rfl) (by omega)) ?_;refine snf (c_condT rfl (csr (sa ?_)));refine snf (c_ret (f_thenR ?_));exact f_ret () (res1 rfl rfl) (fun w h => h)
theorem runsEq_spec {p : Chunk} {mv lv : Value} {n : Nat} {f : Nat → Nat} (hM : MV p mv n f) (hnb : nbd f n ≤ 4096) (h : RMp (K W N) lv n f) : Spec prog 24 #[.agg #[mv], .agg #[.int .i64 (n : Nat), lv]] (K W (p :: N)) (fun _ : Unit => .bool true) (fun _ => K W (p :: N)) := by
  have hV := h.v;have hpos := h.pos;obtain ⟨pa, k, rfl, _, _⟩ := hV.view;obtain ⟨a, rfl⟩ := hM.ptr;refine enter (args := [_, _]) func24 rfl ntmps24 rfl ?_;refine csr (sbx fun b2 => ?_);refine sbx fun b3 => ?_;refine sa ?_;refine snf (c_seq (SC.cls (C' := K W (p :: [(b3, row 37 [.int .i64 (n : Nat), .slice pa (rnl (rns f 0 n)).length k])] :: [(b2, row 29 [.pointer (some a)])] :: N)) ?_ (fun w h => K.front 2 h)));refine c_plan [.c 0, .c 1, .s 2, .s 3, .c 4, .c 5, .c 6, .c 7, .c 8] [] ((K W [[(b3, row 37 [.int .i64 (n : Nat), .slice pa (rnl (rns f 0 n)).length k])], [(b2, row 29 [.pointer (some a)])]])) mixed (by kernel_rfl) rfl K.cl ?_;have hD := fun (w : World) (h : K W (p :: [(b3, row 37 [.int .i64 (n : Nat), .slice pa (rnl (rns f 0 n)).length k])] :: [(b2, row 29 [.pointer (some a)])] :: N) w) => h.tail.keep 2;refine dy rfl (y_loadA tab rfl rfl rfl rfl (cells_row0 1 rfl rfl)) hD ?_;refine dy rfl (y_loadA tab rfl rfl rfl rfl (cells_row0 1 rfl rfl)) hD ?_;refine d_call rfl (en_f rfl call36) (msize_spec hM) rfl rfl rfl (fun _ => K.cl) (fun _ _ _ h => h.tail.keep 2) (fun _ => ?_);skip;refine d_call rfl (en_f rfl call60) (mruns_spec (lo := 0) (most := 1048576) hM (Nat.zero_le _) (Nat.le_refl _) (by omega) hnb) rfl rfl rfl (fun _ => K.cl) (fun _ _ _ h => h.tail.tail.keep 2) (fun y => ?_);obtain ⟨⟨u, d⟩, hu⟩ := y;have hu := bufR_runs hu;dsimp only at hu ⊢;clear hD;have hD := fun (w : World) (h : K W (d :: p :: [(b3, row 37 [.int .i64 (n : Nat), .slice pa (rnl (rns f 0 n)).length k])] :: [(b2, row 29 [.pointer (some a)])] :: N) w) => h.tail.tail.keep 2;refine dy rfl (y_move rfl) hD ?_;refine dy rfl (y_extract rfl rfl) hD ?_;refine dy rfl (y_extract rfl rfl) hD ?_;refine dy rfl (y_assign rfl) hD ?_;refine dy rfl (y_assign rfl) hD ?_;refine d_nil (f_then (c_seq (SC.cls (C' := K W (p :: d :: [(b3, row 37 [.int .i64 (n : Nat), .slice pa (rnl (rns f 0 n)).length k])] :: [(b2, row 29 [.pointer (some a)])] :: N)) ?_ (fun w h => K.front 1 h))));have hEu : EV (K W (p :: d :: [(b3, row 37 [.int .i64 (n : Nat), .slice pa (rnl (rns f 0 n)).length k])] :: [(b2, row 29 [.pointer (some a)])] :: N)) u 3 (rnl (rns f 0 n)) := hu.view (Hs.at 1 rfl);have hEl : EV (K W (p :: d :: [(b3, row 37 [.int .i64 (n : Nat), .slice pa (rnl (rns f 0 n)).length k])] :: [(b2, row 29 [.pointer (some a)])] :: N)) (.slice pa (rnl (rns f 0 n)).length k) 3 (rnl (rns f 0 n)) := hV.cons.cons.cons.cons;have hal := alike_spec hEu hEl (by rw [rns_len]; omega);rw [decide_eq_true rfl] at hal;clear hD;have hD := fun (w : World) (h : K W (p :: d :: [(b3, row 37 [.int .i64 (n : Nat), .slice pa (rnl (rns f 0 n)).length k])] :: [(b2, row 29 [.pointer (some a)])] :: N) w) => h.tail.tail.keep 2;refine c_plan [.c 0, .c 2, .c 3, .s 1, .c 4, .c 5, .c 6, .c 7, .c 8, .c 9, .c 10, .c 11, .c 12, .s 13, .c 14, .c 15] [] ((K W [[(b3, row 37 [.int .i64 (n : Nat), .slice pa (rnl (rns f 0 n)).length k])], [(b2, row 29 [.pointer (some a)])]])) mixed (by kernel_rfl) rfl K.cl ?_;refine dy rfl (y_loadA tab rfl rfl rfl rfl (cells_row0 1 rfl rfl)) hD ?_;refine dy rfl (y_fieldAddr0 tab rfl rfl rfl rfl rfl) hD ?_;refine dy rfl (y_load tab rfl rfl (cell_row 0 rfl rfl)) hD ?_;refine d_call rfl (en_f rfl call36) (msize_spec hM) rfl rfl rfl (fun _ => K.cl) (fun _ _ _ h => h.tail.tail.keep 2) (fun _ => ?_);refine dy rfl (y_T (y_eql rfl rfl) (by omega)) hD ?_;refine dy rfl (y_move rfl) hD ?_;refine dy rfl (y_move rfl) hD ?_;refine dy rfl (y_T (y_eql rfl rfl) (by omega)) hD ?_;refine dy rfl (y_pickT rfl rfl) hD ?_;refine dy rfl (y_move rfl) hD ?_;refine dy rfl (y_move rfl) hD ?_;refine dy rfl (y_fieldAddrB tab 1 rfl rfl rfl rfl rfl) hD ?_;refine dy rfl (y_load tab rfl rfl (cell_row 0 rfl rfl)) hD ?_;refine d_call rfl (en_f rfl call34) hal rfl rfl rfl (fun _ => K.cl) (fun _ _ _ h => h.tail.tail.keep 2) (fun _ => ?_);refine dy rfl (y_pickT rfl rfl) hD ?_;refine dy rfl (y_assign rfl) hD ?_;refine d_nil (f_then (c_ret ?_));exact f_ret () (res1 rfl rfl) (fun w h => ((h.dropAt 1).dropAt 1).dropAt 1)
end
end Go.KL
end

section
/- Walks: few; Log of a book that has committed nothing. -/
namespace Go.KL
open Go.Proofs Go.Proofs.Tryz
attribute [local irreducible] SC St Fin Sq Ylds Doos Sets Enters Spec CellIs CellsAre Then Ret Rnd Chn resOK ints bools recs arr
section
variable {g : Bg} {W : World} {N : List Chunk}
theorem runsNow {lv : Value} {n : Nat} {f : Nat → Nat} (hB : g.OK) (hz : g.size = n) (hC : g.C = f) (h : RMp (K W N) lv n f) : Spec prog 24 #[.agg #[g.cv], .agg #[.int .i64 (n : Nat), lv]] (K W (g.L ++ N)) (fun _ : Unit => .bool true) (fun _ => K W (g.L ++ N)) := by
  have hM := hB.mC;rw [hz, hC] at hM;exact runsEq_spec (p := g.p) (N := g.L.tail ++ N) hM h.nb (h.cls fun w h => K.bck h)
end
end Go.KL
end

section
/- Walks: Log of a book. -/
namespace Go.KL
open Go.Proofs Go.Proofs.Tryz
theorem K.mrg {W w : World} {A B : List Chunk} {D : Chunk} (h : K W A w) (p : ∀ x : Nat × Obj, ∀ (_ : DecidableEq (Nat × Obj)), A.flatten.count x = B.flatten.count x + D.count x) : K W B w := h.weak D (by
  haveI : DecidableEq (Nat × Obj) := fun a b => Classical.propDecidable (a = b);exact List.perm_iff_count.2 fun x => by rw [p x _, List.count_append])
section
variable {e : TypeId} {s : Nat} {v : Value} {c p : Chunk} {rows : List (List Value)}
theorem BufR.put {i j : Nat} {x : List Value} (h : BufR e s v c rows) (hi : rows[i]? = some x) (hj : j < s) :
    ∃ (o : Own) (l : List Value), v = .slice (some ⟨o.b, 0, none⟩) rows.length o.cap ∧ c = [(o.b, row e l)] ∧ i * s + j < l.length ∧ ∀ z, BufR e s v [(o.b, row e (l.set (i * s + j) z))] (rows.set i (x.set j z)) := by
  have hil : i < rows.length := (List.getElem?_eq_some_iff.1 hi).1;have hx : x.length = s := h.len x (List.mem_of_getElem? hi);rcases h.buf.ok with ⟨h0, _⟩ | ⟨o, hv, hc, ho, hp⟩
  · omega
  obtain ⟨b, cap, pre, rest⟩ := o;dsimp only at hp;subst hp;have hfl := flat_len h.len;have hlt : i * s + j < rows.flatten.length := by
    rw [hfl];have : (i + 1) * s ≤ rows.length * s := Nat.mul_le_mul_right s hil;rw [Nat.add_mul] at this;omega
  have hset : ∀ z, (rows.set i (x.set j z)).flatten = rows.flatten.set (i * s + j) z := fun z => by
    have hl2 : lens s (rows.set i (x.set j z)) := fun y hy => by
      rcases List.mem_or_eq_of_mem_set hy with hy | rfl
      · exact h.len y hy
      · rw [List.length_set, hx]
    apply List.ext_getElem?;intro n;by_cases c : n < rows.length * s
    · have hs : 0 < s := by omega
      have h1 : n / s < rows.length := (Nat.div_lt_iff_lt_mul hs).2 c;have h2 := Nat.mod_lt n hs;have e1 : n / s * s + n % s = n := Nat.div_add_mod' n s;obtain ⟨y, hy⟩ : ∃ y, rows[n / s]? = some y := ⟨rows[n / s], by simp [h1]⟩;by_cases c2 : n / s = i
      · have hy' : rows[n / s]? = some x := by rw [c2]; exact hi
        have hg : (rows.set i (x.set j z))[n / s]? = some (x.set j z) := by rw [c2, List.getElem?_set_self hil]
        have h3 := flat_get hl2 hg h2;have h4 := flat_get h.len hy' h2;rw [e1] at h3 h4;rw [h3];by_cases c3 : n % s = j
        · have e2 : i * s + j = n := by rw [← c2, ← c3]; exact e1
          rw [e2, List.getElem?_set_self (by rw [hfl]; exact c), c3, List.getElem?_set_self (by omega)]
        · have e2 : i * s + j ≠ n := fun e => c3 (by rw [← c2] at e; omega);rw [List.getElem?_set_ne e2, List.getElem?_set_ne (fun e => c3 e.symm), h4]
      · have hg : (rows.set i (x.set j z))[n / s]? = some y := by rw [List.getElem?_set_ne (fun e => c2 e.symm)]; exact hy
        have h3 := flat_get hl2 hg h2;have h4 := flat_get h.len hy h2;rw [e1] at h3 h4;have e2 : i * s + j ≠ n := fun e => c2 (by rw [← e, Nat.mul_comm, Nat.mul_add_div hs, Nat.div_eq_of_lt hj]; omega);rw [h3, List.getElem?_set_ne e2, h4]
    · rw [List.getElem?_eq_none (by rw [flat_len hl2, List.length_set]; omega), List.getElem?_eq_none (by rw [List.length_set, hfl]; omega)]
  refine ⟨⟨b, cap, [], rest⟩, rows.flatten ++ rest, hv, ?_, ?_, fun z => ?_⟩
  · rw [hc]; simp
  · rw [List.length_append]; omega
  · refine ⟨fun y hy => ?_, ⟨.inr ⟨⟨b, cap, [], rest⟩, by rw [List.length_set]; exact hv, ?_, ?_, rfl⟩⟩⟩
    · rcases List.mem_or_eq_of_mem_set hy with hy | rfl
      · exact h.len y hy
      · rw [List.length_set, hx]
    · show [(b, row e ((rows.flatten ++ rest).set (i * s + j) z))] = [(b, row e ([] ++ (rows.set i (x.set j z)).flatten ++ rest))];rw [hset, List.set_append_left _ _ hlt, List.nil_append]
    · rw [List.length_set];exact ⟨ho.le, ho.max, by rw [flat_len (show lens s (rows.set i (x.set j z)) from fun y hy => by
        rcases List.mem_or_eq_of_mem_set hy with hy | rfl
        · exact h.len y hy
        · rw [List.length_set, hx]), List.length_set], ho.room⟩
end
end Go.KL
end

section
/- Walks: Log of a book, in full. -/
namespace Go.KL
open Go.Proofs Go.Proofs.Tryz
attribute [local irreducible] SC St Fin Sq Ylds Doos Sets Enters Spec CellIs CellsAre Then Ret Rnd Chn resOK ints bools recs arr
section
variable {g : Bg} {W : World} {N : List Chunk}
abbrev lgr (ls : List Lg) : List (List Value) := ls.map fun x => [.int .i64 (x.1 : Nat), x.2.1]
theorem opl_get2 {os : List Ov} {i : Nat} {x : Ov} (h : os[i]? = some x) : (opl os)[i]? = some (opc x.1 x.2) := by simp [h]
end
end Go.KL
end

section
/- Walks: the document's Replay. -/
namespace Go.KL
open Go.Proofs Go.Proofs.Tryz
theorem Opk.swf {n : Nat} {f : Nat → Nat} {o : Oa} (h : Opk n f o) (hm : o.mv = true) : KL.swf f o.lo o.hi o.fr o.to = stp f o := by
  rw [swf_setf (h.move hm), stp, if_pos hm]
theorem K.pre {W w : World} {A B : List Chunk} (h : K W (A ++ B) w) : K W A w := h.weak B.flatten (by rw [List.flatten_append])
theorem K.pre2 {W w : World} {A B G : List Chunk} (h : K W (A ++ (B ++ G)) w) : K W (A ++ B) w := K.pre (B := G) (by rw [List.append_assoc]; exact h)
attribute [local irreducible] SC St Fin Sq Ylds Doos Sets Enters Spec CellIs CellsAre Then Ret Rnd Chn resOK ints bools recs arr
section
variable {W : World} {M G : List Chunk} {v lv : Value} {n : Nat} {f : Nat → Nat} {ls : List Lg}
end
end Go.KL
end

section
/- The document's book, and how it is the same as the program's; plain. No program in sight. -/
namespace Go.KL
open Relation
structure RT where
  st : Nat
  locks : List Lk
  ops : List Oa
structure RB where
  size : Nat
  C : Nat → Nat
  T : List RT
  Q : List Lk
  D : List (Nat × List Oa)
def RT.inP (t : RT) : Bool := decide (t.st = 1) || decide (t.st = 2)
def cfr (a b : Lk) : Bool := decide (a.tx ≠ b.tx) && (decide (a.lo < b.hi) && (decide (b.lo < a.hi) && (a.wr || b.wr)))
theorem cfr_cfl {a b : Lk} (ha : a.lo < a.hi) (hb : b.lo < b.hi) : cfr a b = cfl a b := by
  unfold cfr cfl;have e : decide (max a.lo b.lo < min a.hi b.hi) = (decide (a.lo < b.hi) && decide (b.lo < a.hi)) := by
    rw [← Bool.decide_and];refine decide_eq_decide.2 ⟨fun h => by omega, fun h => by omega⟩
  rw [e];cases decide (a.tx ≠ b.tx) <;> cases decide (a.lo < b.hi) <;> cases decide (b.lo < a.hi) <;> cases (a.wr || b.wr) <;> rfl
namespace RB
variable (b : RB)
def tx (k : Nat) : RT := b.T.getD (k - 1) ⟨1, [], []⟩
def has (k : Nat) : Prop := 1 ≤ k ∧ k ≤ b.T.length
instance (k : Nat) : Decidable (b.has k) := inferInstanceAs (Decidable (1 ≤ k ∧ k ≤ b.T.length))
def locks : List Lk := (b.T.filter RT.inP).flatMap RT.locks
def progress : Nat := (b.T.filter RT.inP).length
def put (k : Nat) (t : RT) : RB := { b with T := b.T.set (k - 1) t }
def free (x : Lk) (n : Nat) : Bool := (b.locks ++ b.Q.take n).all fun y => !cfr x y
def grant (x : Lk) : RB := b.put x.tx ⟨1, (b.tx x.tx).locks ++ [x], (b.tx x.tx).ops⟩
def endl (k : Nat) : List Lk → RB → RB
  | [], b => b
  | x :: l, b => if x.tx = k then endl k l b else if b.free x b.Q.length then endl k l (b.grant x) else endl k l { b with Q := b.Q ++ [x] }
def end_ (k s : Nat) : RB := endl k b.Q { b.put k ⟨s, (b.tx k).locks, (b.tx k).ops⟩ with Q := [] }
def held (u : Nat) : List Lk := if b.has u ∧ (b.tx u).inP = true then (b.tx u).locks else []
def waits (t u : Nat) : Prop := ∃ i x, b.Q[i]? = some x ∧ x.tx = t ∧ ∃ y ∈ b.held u ++ b.Q.take i, y.tx = u ∧ cfr x y = true
noncomputable instance (t u : Nat) : Decidable (b.waits t u) := Classical.propDecidable _
def E (t u : Nat) : Prop := b.has u ∧ b.waits t u
def dead (k j : Nat) : Prop := TransGen b.E k j ∧ TransGen b.E j k
def IsVic (k v : Nat) : Prop := (v = 0 ∧ ∀ j, ¬ b.dead k j) ∨ (v ≠ 0 ∧ b.dead k v ∧ ∀ j, b.dead k j → j ≤ v)
def count : Nat := b.locks.length + b.Q.length
def moves : Nat := ((b.T.filter RT.inP).map fun t => mvs t.ops).sum
def room : Nat := (4096 - nbd b.C b.size - 2 * b.moves) / 2
def done (k : Nat) (o : Oa) : RB := b.put k ⟨(b.tx k).st, (b.tx k).locks, (b.tx k).ops ++ [o]⟩
def wait (k : Nat) (l : Lk) : RB := { b.put k ⟨2, (b.tx k).locks, (b.tx k).ops⟩ with Q := b.Q ++ [l] }
def begin : RB := { b with T := b.T ++ [⟨1, [], []⟩] }
def view (k : Nat) : Nat → Nat := ap b.C (b.tx k).ops
def commit (k : Nat) : RB := end_ { b with C := b.view k, D := b.D ++ [(k, (b.tx k).ops)] } k 3
variable {b}
theorem tx_put {k j : Nat} {t : RT} (hk : b.has k) (hj : b.has j) : (b.put k t).tx j = if j = k then t else b.tx j := by
  unfold has at hk hj;unfold tx put;rw [List.getD_eq_getElem?_getD, List.getD_eq_getElem?_getD, List.getElem?_set];by_cases c : j = k
  · subst c;rw [if_pos rfl, if_pos rfl, if_pos (by omega)];rfl
  · rw [if_neg (by omega), if_neg c]
end RB
theorem sum_range {f : Nat → Nat} {l : List Nat} {n : Nat} (hn : l.Nodup) (hl : ∀ k ∈ l, 1 ≤ k ∧ k ≤ n) : (l.map f).sum = (((List.range n).filter fun i => decide (i + 1 ∈ l)).map fun i => f (i + 1)).sum := by
  have hp : l.Perm (((List.range n).filter fun i => decide (i + 1 ∈ l)).map fun i => i + 1) := by
    refine (List.perm_ext_iff_of_nodup hn ?_).2 fun k => ?_
    · exact List.Pairwise.map _ (fun a b h => by omega) (List.nodup_range.filter _)
    · simp only [List.mem_map, List.mem_filter, List.mem_range, decide_eq_true_eq];constructor
      · intro h;have := hl k h;refine ⟨k - 1, ⟨by omega, ?_⟩, by omega⟩;rw [Nat.sub_add_cancel this.1];exact h
      · rintro ⟨i, ⟨_, h⟩, rfl⟩;exact h
  rw [(hp.map f).sum_nat, List.map_map];rfl
structure Sm (A : Bk) (b : RB) : Prop where
  size : b.size = A.size
  C : b.C = A.C
  len : b.T.length = A.ts.length
  st : ∀ k, A.has k → (b.tx k).st = (A.tx k).st
  run : ∀ k ∈ A.rn, (b.tx k).locks = (A.tx k).locks ∧ (b.tx k).ops = (A.tx k).ops
  Q : b.Q = A.reqs
  D : b.D = A.log
namespace Sm
variable {A : Bk} {b : RB} {m : Nat}
theorem has (h : Sm A b) {k : Nat} : b.has k ↔ A.has k := by
  unfold RB.has Bk.has;rw [h.len]
theorem inP (h : Sm A b) (hI : A.Inv m) {k : Nat} (hk : A.has k) : (b.tx k).inP = true ↔ k ∈ A.rn := by
  rw [hI.rn k, RT.inP, h.st k hk];simp [hk]
theorem T_eq (b : RB) : b.T = (List.range b.T.length).map fun i => b.tx (i + 1) := by
  apply List.ext_getElem?;intro i;rw [List.getElem?_map];unfold RB.tx;by_cases c : i < b.T.length
  · rw [List.getElem?_range c, Option.map_some, Nat.add_sub_cancel, List.getD_eq_getElem?_getD, List.getElem?_eq_getElem c];rfl
  · rw [List.getElem?_eq_none (by omega), List.getElem?_eq_none (by simp; omega)];rfl
theorem filt (h : Sm A b) (hI : A.Inv m) : b.T.filter RT.inP = ((List.range b.T.length).filter fun i => decide (i + 1 ∈ A.rn)).map fun i => b.tx (i + 1) := by
  conv => lhs; rw [T_eq b]
  rw [List.filter_map];congr 1;apply List.filter_congr;intro i hi;have hk : A.has (i + 1) := ⟨by omega, by rw [← h.len]; have := List.mem_range.1 hi; omega⟩;have := h.inP hI hk;simp only [Function.comp];by_cases c : i + 1 ∈ A.rn
  · rw [this.2 c, decide_eq_true c]
  · rw [decide_eq_false c];cases e : (b.tx (i + 1)).inP with
    | true => exact absurd (this.1 e) c
    | false => rfl
theorem sum (h : Sm A b) (hI : A.Inv m) (g : RT → Nat) : ((b.T.filter RT.inP).map g).sum = (A.rn.map fun k => g (b.tx k)).sum := by
  rw [h.filt hI, List.map_map, sum_range (n := b.T.length) hI.rnd fun k hk => by have := hI.has hk; unfold Bk.has at this; rw [h.len]; exact this];rfl
theorem progress (h : Sm A b) (hI : A.Inv m) : b.progress = A.rn.length := by
  have e : ∀ {α : Type} (l : List α), (l.map fun _ => 1).sum = l.length := fun l => by
    induction l with
    | nil => rfl
    | cons a l ih => rw [List.map_cons, List.sum_cons, ih, List.length_cons, Nat.add_comm]
  have := h.sum hI fun _ => 1;rw [e, e] at this;exact this
theorem moves (h : Sm A b) (hI : A.Inv m) : b.moves = A.moves := by
  unfold RB.moves Bk.moves;rw [h.sum hI fun t => mvs t.ops];exact sum_congr fun k hk => by rw [(h.run k hk).2]
theorem count (h : Sm A b) (hI : A.Inv m) : b.count = A.count := by
  unfold RB.count Bk.count RB.locks;rw [List.length_flatMap, h.sum hI fun t => t.locks.length, h.Q, Bk.reqs, List.length_map, sum_congr fun k hk => by rw [(h.run k hk).1]]
theorem room (h : Sm A b) (hI : A.Inv m) : b.room = A.room := by
  unfold RB.room Bk.room;rw [h.moves hI, h.C, h.size]
theorem mem_locks (h : Sm A b) (hI : A.Inv m) {y : Lk} : y ∈ b.locks ↔ ∃ k ∈ A.rn, y ∈ (A.tx k).locks := by
  unfold RB.locks;rw [h.filt hI, List.mem_flatMap];constructor
  · rintro ⟨t, ht, hy⟩;obtain ⟨i, hi, rfl⟩ := List.mem_map.1 ht;have hr : i + 1 ∈ A.rn := by simpa using (List.mem_filter.1 hi).2
    exact ⟨i + 1, hr, by rw [← (h.run _ hr).1]; exact hy⟩
  · rintro ⟨k, hk, hy⟩;have hh := hI.has hk;unfold Bk.has at hh;refine ⟨b.tx k, List.mem_map.2 ⟨k - 1, List.mem_filter.2 ⟨List.mem_range.2 (by rw [h.len]; omega), ?_⟩, by rw [Nat.sub_add_cancel hh.1]⟩, by rw [(h.run k hk).1]; exact hy⟩;rw [Nat.sub_add_cancel hh.1];exact decide_eq_true hk
theorem free (h : Sm A b) (hI : A.Inv m) {x : Lk} (hx : x.lo < x.hi) (n : Nat) : b.free x n = A.free x (A.q.take n) := by
  have key : b.free x n = true ↔ A.free x (A.q.take n) = true := by
    unfold RB.free;rw [List.all_eq_true, Bk.free_iff];constructor
    · intro c;refine ⟨fun k hk y hy => ?_, fun k hk => ?_⟩
      · have := c y (List.mem_append_left _ ((h.mem_locks hI).2 ⟨k, hk, hy⟩));rw [cfr_cfl hx (hI.lk k (hI.has hk) y hy).2.1, cfl_comm] at this;simpa using this
      · have := c (A.tx k).req (List.mem_append_right _ (by rw [h.Q, Bk.reqs, ← List.map_take]; exact List.mem_map.2 ⟨k, hk, rfl⟩));rw [cfr_cfl hx (hI.rq k (List.mem_of_mem_take hk)).2.1, cfl_comm] at this;simpa using this
    · rintro ⟨c1, c2⟩ y hy;rcases List.mem_append.1 hy with hy | hy
      · obtain ⟨k, hk, hy⟩ := (h.mem_locks hI).1 hy;rw [cfr_cfl hx (hI.lk k (hI.has hk) y hy).2.1, cfl_comm, c1 k hk y hy];rfl
      · rw [h.Q, Bk.reqs, ← List.map_take] at hy;obtain ⟨k, hk, rfl⟩ := List.mem_map.1 hy;rw [cfr_cfl hx (hI.rq k (List.mem_of_mem_take hk)).2.1, cfl_comm, c2 k hk];rfl
  cases c1 : b.free x n with
  | true => exact (key.1 c1).symm
  | false =>
    cases c2 : A.free x (A.q.take n) with
    | true => rw [key.2 c2] at c1; cases c1
    | false => rfl
theorem held (h : Sm A b) (hI : A.Inv m) (u : Nat) : b.held u = if u ∈ A.rn then (A.tx u).locks else [] := by
  unfold RB.held;by_cases c : u ∈ A.rn
  · have hh := hI.has c;rw [if_pos c, if_pos ⟨h.has.2 hh, (h.inP hI hh).2 c⟩, (h.run u c).1]
  · rw [if_neg c, if_neg fun d => c ((h.inP hI (h.has.1 d.1)).1 d.2)]
theorem take_before {q : List Nat} {i t : Nat} (hn : q.Nodup) (hi : q[i]? = some t) : q.take i = q.takeWhile (fun j => !decide (j = t)) := by
  refine (tw_take (fun j hj e => ?_) hi).symm;have := (List.getElem?_inj (by
    rcases Nat.lt_or_ge j q.length with c | c
    · exact c
    · rw [List.getElem?_eq_none c] at e; cases e) hn).1 (e.trans hi.symm)
  omega
theorem E (h : Sm A b) (hI : A.Inv m) {t u : Nat} (ht : A.has t) : b.E t u ↔ A.E t u := by
  rw [Bk.E_iff];unfold RB.E RB.waits Bk.EF;constructor
  · rintro ⟨hu, i, x, hx, rfl, y, hy, hyu, hc⟩;rw [h.Q, Bk.reqs, List.getElem?_map] at hx;obtain ⟨k, hk, rfl⟩ := Option.map_eq_some_iff.1 hx;have hkq := List.mem_of_getElem? hk;have hr := hI.rq k hkq;rw [hr.1];refine ⟨((hI.q k).1 hkq).2, ?_⟩;rcases List.mem_append.1 hy with hy | hy
    · rw [h.held hI] at hy;split at hy
      · rename_i c;exact .inl ⟨c, y, hy, by rw [← cfr_cfl (hI.lk u (hI.has c) y hy).2.1 hr.2.1, cfr_cfl (hI.lk u (hI.has c) y hy).2.1 hr.2.1, cfl_comm, ← cfr_cfl hr.2.1 (hI.lk u (hI.has c) y hy).2.1]; exact hc⟩
      · simp at hy
    · rw [h.Q, Bk.reqs, ← List.map_take] at hy;obtain ⟨j, hj, rfl⟩ := List.mem_map.1 hy;have hjq := List.mem_of_mem_take hj;have hrj := hI.rq j hjq;rw [hrj.1] at hyu;subst hyu;rw [take_before hI.qnd hk] at hj;exact .inr ⟨hj, by rw [cfl_comm, ← cfr_cfl hr.2.1 hrj.2.1]; exact hc⟩
  · rintro ⟨hs, hE⟩;have htq : t ∈ A.q := (hI.q t).2 ⟨ht, hs⟩;have hr := hI.rq t htq;obtain ⟨i, hi, hit⟩ := List.mem_iff_getElem.1 htq;have hit' : A.q[i]? = some t := by rw [List.getElem?_eq_getElem hi, hit]
    have hQ : b.Q[i]? = some (A.tx t).req := by rw [h.Q, Bk.reqs, List.getElem?_map, hit']; rfl
    rcases hE with ⟨hu, y, hy, hc⟩ | ⟨hu, hc⟩
    · have hl := hI.lk u (hI.has hu) y hy;refine ⟨h.has.2 (hI.has hu), i, _, hQ, hr.1, y, List.mem_append_left _ (by rw [h.held hI, if_pos hu]; exact hy), hl.1, ?_⟩;rw [cfr_cfl hr.2.1 hl.2.1, cfl_comm];exact hc
    · have huq := (List.takeWhile_sublist _).subset hu;have hru := hI.rq u huq;refine ⟨h.has.2 (hI.qhas huq), i, _, hQ, hr.1, (A.tx u).req, List.mem_append_right _ ?_, hru.1, ?_⟩
      · rw [h.Q, Bk.reqs, ← List.map_take, take_before hI.qnd hit'];exact List.mem_map.2 ⟨u, hu, rfl⟩
      · rw [cfr_cfl hr.2.1 hru.2.1, cfl_comm];exact hc
theorem trans (h : Sm A b) (hI : A.Inv m) {t u : Nat} (ht : A.has t) : TransGen b.E t u ↔ TransGen A.E t u :=
  ⟨fun c => (Bk.trans_sub (H := A.has) (fun _ _ d => h.has.1 d.1) (fun _ _ hi d => (h.E hI hi).1 d) ht c).1, fun c => (Bk.trans_sub (H := A.has) (fun _ _ d => Bk.E_has hI d) (fun _ _ hi d => (h.E hI hi).2 d) ht c).1⟩
theorem dead (h : Sm A b) (hI : A.Inv m) {k j : Nat} (hk : A.has k) : b.dead k j ↔ A.dead k j := by
  unfold RB.dead Bk.dead;rw [Bk.R_iff, Bk.R_iff, h.trans hI hk];refine and_congr_right fun c => ?_;have hj : A.has j := (Bk.trans_sub (P := A.E) (Q := A.E) (H := A.has) (fun _ _ d => Bk.E_has hI d) (fun _ _ _ d => d) hk c).2;exact h.trans hI hj
theorem isVic (h : Sm A b) (hI : A.Inv m) {k v : Nat} (hk : A.has k) (hv : b.IsVic k v) : A.IsVic k v := by
  rcases hv with ⟨h1, h2⟩ | ⟨h1, h2, h3⟩
  · exact .inl ⟨h1, fun j c => h2 j ((h.dead hI hk).2 c)⟩
  · exact .inr ⟨h1, (h.dead hI hk).1 h2, fun j c => h3 j ((h.dead hI hk).2 c)⟩
theorem upd (h : Sm A b) (hI : A.Inv m) {k : Nat} {t : Tx} {u : RT} {q : List Nat} {W : Nat → Nat} {Q : List Lk} (hk : A.has k) (h1 : u.st = t.st) (h2 : k ∈ A.rn → u.locks = t.locks ∧ u.ops = t.ops) (hQ : Q = q.map fun j => (if j = k then t else A.tx j).req) (hq : ∀ j ∈ q, A.has j) : Sm (A.up k t q W) { b.put k u with Q := Q } := by
  have hkb := h.has.2 hk;have ha : ∀ {j}, A.has j → (A.up k t q W).tx j = if j = k then t else A.tx j := fun hj => Bk.tx_set hk hj;have hH : ∀ {j}, (A.up k t q W).has j ↔ A.has j := Bk.has_set;have hb : ∀ {j}, A.has j → (({ b.put k u with Q := Q } : RB)).tx j = if j = k then u else b.tx j := fun hj => RB.tx_put hkb (h.has.2 hj);refine ⟨h.size, h.C, by simp [RB.put, Bk.up, h.len], fun j hj => ?_, fun j hj => ?_, ?_, h.D⟩
  · rw [ha (hH.1 hj), hb (hH.1 hj)];split
    · exact h1
    · exact h.st j (hH.1 hj)
  · have hj' : j ∈ A.rn := hj;rw [ha (hI.has hj'), hb (hI.has hj')];split
    · rename_i e;rw [e] at hj';exact h2 hj'
    · exact h.run j hj'
  · show Q = q.map fun j => ((A.up k t q W).tx j).req;rw [hQ];exact List.map_congr_left fun j hj => by rw [ha (hq j hj)]
end Sm
end Go.KL
end

section
/- Walks: the document's book, its readers. -/
namespace Go.KL
open Go.Proofs Go.Proofs.Tryz
structure Wh where
  p : Option Addr
  c : Nat
structure Dt where
  st : Nat
  locks : List Lk
  os : List Ov
  l : Wh
  o : Wh
abbrev Dt.lv (t : Dt) : Value := .slice t.l.p (lks t.locks).length t.l.c
abbrev Dt.ov (t : Dt) : Value := .slice t.o.p (opl t.os).length t.o.c
abbrev Dt.cells (t : Dt) : List Value := [.int .i64 (t.st : Nat), t.lv, t.ov]
abbrev Dt.rt (t : Dt) : RT := ⟨t.st, t.locks, ops t.os⟩
abbrev dtl (ts : List Dt) : List (List Value) := ts.map Dt.cells
structure Rg where
  size : Nat
  C : Nat → Nat
  m : Wh
  ts : List Dt
  t : Wh
  Q : List Lk
  q : Wh
  ds : List Lg
  d : Wh
namespace Rg
variable (g : Rg)
abbrev mv : Value := .slice g.m.p (rnl (rns g.C 0 g.size)).length g.m.c
abbrev tv : Value := .slice g.t.p (dtl g.ts).length g.t.c
abbrev qv : Value := .slice g.q.p (lks g.Q).length g.q.c
abbrev dv : Value := .slice g.d.p (lgr g.ds).length g.d.c
abbrev cells : List Value := [.int .i64 (g.size : Nat), g.mv, g.tv, g.qv, g.dv]
abbrev val : Value := .agg #[.int .i64 (g.size : Nat), g.mv, g.tv, g.qv, g.dv]
def rb : RB := ⟨g.size, g.C, g.ts.map Dt.rt, g.Q, g.ds.map fun x => (x.1, ops x.2.2)⟩
end Rg
structure DtV (C : World → Prop) (t : Dt) : Prop where
  l : EV C t.lv 4 (lks t.locks)
  o : EV C t.ov 6 (opl t.os)
  r : ∀ o ∈ t.os, EV C o.2 3 (rnl o.1.runs)
structure RV (C : World → Prop) (g : Rg) : Prop where
  m : RMp C g.mv g.size g.C
  t : EV C g.tv 3 (dtl g.ts)
  tx : ∀ t ∈ g.ts, DtV C t
  q : EV C g.qv 4 (lks g.Q)
  d : EV C g.dv 2 (lgr g.ds)
  dx : ∀ x ∈ g.ds, EV C x.2.1 6 (opl x.2.2) ∧ ∀ o ∈ x.2.2, EV C o.2 3 (rnl o.1.runs)
  n : g.ts.length < 1000000
theorem DtV.cls {C D : World → Prop} {t : Dt} (h : DtV C t) (hD : ∀ w, D w → C w) : DtV D t := ⟨h.l.cls hD, h.o.cls hD, fun o ho => (h.r o ho).cls hD⟩
theorem RV.cls {C D : World → Prop} {g : Rg} (h : RV C g) (hD : ∀ w, D w → C w) : RV D g := ⟨h.m.cls hD, h.t.cls hD, fun t ht => (h.tx t ht).cls hD, h.q.cls hD, h.d.cls hD, fun x hx => ⟨(h.dx x hx).1.cls hD, fun o ho => ((h.dx x hx).2 o ho).cls hD⟩, h.n⟩
theorem RV.cons {W : World} {N : List Chunk} {c : Chunk} {g : Rg} (h : RV (K W N) g) : RV (K W (c :: N)) g := h.cls fun _ h => h.tail
attribute [local irreducible] SC St Fin Sq Ylds Doos Sets Enters Spec CellIs CellsAre Then Ret Rnd Chn resOK ints bools recs arr
section
variable {W : World} {N : List Chunk} {g : Rg}
theorem In_spec {t : Dt} : Spec prog 54 #[.agg #[.int .i64 (t.st : Nat), t.lv, t.ov]] (K W N) (fun _ : Unit => .bool t.rt.inP) (fun _ => K W N) := by
  refine enter (args := [_]) func54 rfl ntmps54 rfl ?_;by_cases c1 : t.st = 1
  · rw [show t.rt.inP = true by simp [RT.inP, c1]];refine csr (sbx fun b1 => ?_);refine sa ?_;refine snf (csr (sf0 ?_));refine slr 0 ?_;refine sy (y_T (y_eql rfl rfl) (by omega)) ?_;refine sm ?_
    iterate 3 refine s_skip rfl rfl rfl ?_
    refine spT ?_;refine sa ?_;refine snf (c_ret ?_);exact f_ret () (res1 rfl rfl) (fun w h => h.tail)
  · by_cases c2 : t.st = 2
    · rw [show t.rt.inP = true by simp [RT.inP, c2]];refine csr (sbx fun b1 => ?_);refine sa ?_;refine snf (csr (sf0 ?_));refine slr 0 ?_;refine sy (y_F (y_eql rfl rfl) (by omega)) ?_;refine sm ?_;refine sf0 ?_;refine slr 0 ?_;refine sy (y_T (y_eql rfl rfl) (by omega)) ?_;refine spF ?_;refine sa ?_;refine snf (c_ret ?_);exact f_ret () (res1 rfl rfl) (fun w h => h.tail)
    · rw [show t.rt.inP = false by simp [RT.inP, c1, c2]];refine csr (sbx fun b1 => ?_);refine sa ?_;refine snf (csr (sf0 ?_));refine slr 0 ?_;refine sy (y_F (y_eql rfl rfl) (by omega)) ?_;refine sm ?_;refine sf0 ?_;refine slr 0 ?_;refine sy (y_F (y_eql rfl rfl) (by omega)) ?_;refine spF ?_;refine sa ?_;refine snf (c_ret ?_);exact f_ret () (res1 rfl rfl) (fun w h => h.tail)
theorem Is_spec (_ : RV (K W N) g) {k : Int} : Spec prog 88 #[g.val, .int .i64 k] (K W N) (fun _ : Unit => .bool (decide (1 ≤ k ∧ k ≤ g.ts.length))) (fun _ => K W N) := by
  have hl : (dtl g.ts).length = g.ts.length := List.length_map _;refine enter (args := [_, _]) func88 rfl ntmps88 rfl ?_;by_cases c1 : 1 ≤ k
  · by_cases c2 : k ≤ g.ts.length
    · rw [decide_eq_true (show 1 ≤ k ∧ k ≤ g.ts.length from ⟨c1, c2⟩)];refine csr (sbx fun b2 => ?_);refine sa ?_;refine snf (csr (sm ?_));refine sy (y_T (y_geq rfl rfl) (by assumption)) ?_;refine sm ?_;refine sm ?_;refine sf 2 ?_;refine slr 0 ?_;refine sy (y_len tab rfl rfl) ?_;refine sy (y_T (y_leq rfl rfl) (by omega)) ?_;refine spT ?_;refine sa ?_;refine snf (c_ret ?_);exact f_ret () (res1 rfl rfl) (fun w h => h.tail)
    · rw [decide_eq_false (show ¬ (1 ≤ k ∧ k ≤ g.ts.length) from fun h => c2 h.2)];refine csr (sbx fun b2 => ?_);refine sa ?_;refine snf (csr (sm ?_));refine sy (y_T (y_geq rfl rfl) (by assumption)) ?_;refine sm ?_;refine sm ?_;refine sf 2 ?_;refine slr 0 ?_;refine sy (y_len tab rfl rfl) ?_;refine sy (y_F (y_leq rfl rfl) (by omega)) ?_;refine spT ?_;refine sa ?_;refine snf (c_ret ?_);exact f_ret () (res1 rfl rfl) (fun w h => h.tail)
  · rw [decide_eq_false (show ¬ (1 ≤ k ∧ k ≤ g.ts.length) from fun h => c1 h.1)];refine csr (sbx fun b2 => ?_);refine sa ?_;refine snf (csr (sm ?_));refine sy (y_F (y_geq rfl rfl) (by assumption)) ?_;refine sm ?_
    iterate 5 refine s_skip rfl rfl rfl ?_
    refine spF ?_;refine sa ?_;refine snf (c_ret ?_);exact f_ret () (res1 rfl rfl) (fun w h => h.tail)
theorem rb_has {k : Nat} : g.rb.has k ↔ 1 ≤ k ∧ k ≤ g.ts.length := by simp [RB.has, Rg.rb]
theorem rb_tx {k : Nat} {t : Dt} (h : g.ts[k - 1]? = some t) : g.rb.tx k = t.rt := by simp [RB.tx, Rg.rb, h]
def _root_.Go.KL.RB.stI (b : RB) (k : Int) : Nat := if 1 ≤ k ∧ k ≤ b.T.length then (b.tx k.toNat).st else 0
theorem RState_spec (hV : RV (K W N) g) {k : Int} : Spec prog 55 #[g.val, .int .i64 k] (K W N) (fun _ : Unit => .int .i64 (g.rb.stI k : Nat)) (fun _ => K W N) := by
  have hl : (dtl g.ts).length = g.ts.length := List.length_map _;have hn := hV.n;refine enter (args := [_, _]) func55 rfl ntmps55 rfl ?_;by_cases c : 1 ≤ k ∧ k ≤ g.ts.length
  · obtain ⟨j, rfl⟩ : ∃ j : Nat, k = j := ⟨k.toNat, by omega⟩;obtain ⟨t, ht⟩ : ∃ t, g.ts[j - 1]? = some t := ⟨g.ts[j - 1], List.getElem?_eq_getElem (by omega)⟩;have e : g.rb.stI j = t.st := by
      rw [RB.stI, if_pos (by simp only [Rg.rb, List.length_map]; exact c), Int.toNat_natCast, rb_tx ht]
    rw [e];refine csr (sbx fun b2 => ?_);refine sa ?_;refine snf (c_seq (csr (sy (y_loadA tab rfl rfl rfl rfl (cells_row0 0 rfl rfl)) ?_)));refine sm ?_;refine sk call88 (Is_spec hV.cons) fun _ => ?_;rw [decide_eq_true c];have hE : EV (K W ([(b2, row 42 g.cells)] :: N)) g.tv 3 (dtl g.ts) := hV.t.cons;obtain ⟨jx, hjx⟩ : ∃ jx, jx = j - 1 := ⟨_, rfl⟩;have hrow := hE.row (i := jx) (x := t.cells) (by simp [hjx, ht]);refine sy (y_notT rfl) ?_;refine snf (c_condF rfl (c_skip (f_then (csr (sf 2 ?_)))));refine slr 0 ?_;refine sm ?_;refine sy (y_sub rfl rfl (by omega)) ?_;refine sy (y_ixE tab rfl rfl rfl rfl (hE) jx (by omega) (by omega)) ?_;refine sf0 ?_;refine sl (CellsAre.at0 (hrow) rfl) ?_;refine sa ?_;refine snf (c_ret ?_);exact f_ret () (res1 rfl rfl) (fun w h => h.tail)
  · have e : g.rb.stI k = 0 := by
      rw [RB.stI, if_neg (by simp only [Rg.rb, List.length_map]; exact c)]
    rw [e];refine csr (sbx fun b2 => ?_);refine sa ?_;refine snf (c_seq (csr (sy (y_loadA tab rfl rfl rfl rfl (cells_row0 0 rfl rfl)) ?_)));refine sm ?_;refine sk call88 (Is_spec hV.cons) fun _ => ?_;rw [decide_eq_false c];refine sy (y_notF rfl) ?_;refine snf (c_condT rfl (csr (sa ?_)));refine snf (c_ret (f_thenR ?_));exact f_ret () (res1 rfl rfl) (fun w h => h.tail)
theorem RHeld_spec (hV : RV (K W N) g) {k : Nat} : Spec prog 57 #[g.val, .int .i64 (k : Nat)] (K W N) (X := { x : Value // EV (K W N) x 4 (lks (g.rb.held k)) }) (fun x => x.1) (fun _ => K W N) := by
  have hl : (dtl g.ts).length = g.ts.length := List.length_map _;have hn := hV.n;refine enter (args := [_, _]) func57 rfl ntmps57 rfl ?_;by_cases c : 1 ≤ k ∧ k ≤ g.ts.length
  · obtain ⟨t, ht⟩ : ∃ t, g.ts[k - 1]? = some t := ⟨g.ts[k - 1], List.getElem?_eq_getElem (by omega)⟩;have htx := rb_tx ht;obtain ⟨jx, hjx⟩ : ∃ jx, jx = k - 1 := ⟨_, rfl⟩;refine csr (sbx fun b2 => ?_);refine sa ?_;refine snf (c_seq (csr (sy (y_loadA tab rfl rfl rfl rfl (cells_row0 0 rfl rfl)) ?_)));refine sm ?_;refine sk call88 (Is_spec hV.cons) fun _ => ?_;rw [decide_eq_true (show 1 ≤ (k : Int) ∧ (k : Int) ≤ g.ts.length from by omega)];have hE : EV (K W ([(b2, row 42 g.cells)] :: N)) g.tv 3 (dtl g.ts) := hV.t.cons;have hrow := hE.row (i := jx) (x := t.cells) (by simp [hjx, ht]);refine sy (y_notT rfl) ?_;refine sm ?_;refine sf 2 ?_;refine slr 0 ?_;refine sm ?_;refine sy (y_sub rfl rfl (by omega)) ?_;refine sy (y_ixE tab rfl rfl rfl rfl (hE) jx (by omega) (by omega)) ?_;refine sy (y_loadA tab rfl rfl rfl rfl hrow) ?_;refine sk call54 (In_spec (t := t)) fun _ => ?_;cases hp : t.rt.inP with
    | false =>
      have e : g.rb.held k = [] := by
        rw [RB.held, if_neg (by rw [htx, hp]; simp)]
      refine sy (y_notF rfl) ?_;refine spF ?_;refine snf (c_condT rfl (csr (sa ?_)));refine snf (c_ret (f_thenR ?_));exact f_ret ⟨_, by rw [e]; exact EV.empty⟩ (res1 rfl rfl) (fun w h => h.tail)
    | true =>
      have e : g.rb.held k = t.locks := by
        rw [RB.held, if_pos ⟨rb_has.2 c, by rw [htx]; exact hp⟩, htx]
      refine sy (y_notT rfl) ?_;refine spF ?_;refine snf (c_condF rfl (c_skip (f_then (csr (sf 2 ?_)))));refine slr 0 ?_;refine sm ?_;refine sy (y_sub rfl rfl (by omega)) ?_;refine sy (y_ixE tab rfl rfl rfl rfl (hE) jx (by omega) (by omega)) ?_;refine sy (y_fieldAddr tab 1 rfl rfl rfl rfl rfl) ?_;refine sl (CellsAre.nth 1 (hrow) rfl) ?_;refine sa ?_;refine snf (c_ret ?_);exact f_ret ⟨t.lv, by rw [e]; exact (hV.tx t (List.mem_of_getElem? ht)).l⟩ (res1 rfl rfl) (fun w h => h.tail)
  · have e : g.rb.held k = [] := by
      rw [RB.held, if_neg (fun h => c (rb_has.1 h.1))]
    refine csr (sbx fun b2 => ?_);refine sa ?_;refine snf (c_seq (csr (sy (y_loadA tab rfl rfl rfl rfl (cells_row0 0 rfl rfl)) ?_)));refine sm ?_;refine sk call88 (Is_spec hV.cons) fun _ => ?_;rw [decide_eq_false (show ¬ (1 ≤ (k : Int) ∧ (k : Int) ≤ g.ts.length) from by omega)];refine sy (y_notF rfl) ?_;refine sm ?_
    iterate 8 refine s_skip rfl rfl rfl ?_
    refine spT ?_;refine snf (c_condT rfl (csr (sa ?_)));refine snf (c_ret (f_thenR ?_));exact f_ret ⟨_, by rw [e]; exact EV.empty⟩ (res1 rfl rfl) (fun w h => h.tail)
theorem Progress_spec (hV : RV (K W N) g) : Spec prog 82 #[g.val] (K W N) (fun _ : Unit => .int .i64 (g.rb.progress : Nat)) (fun _ => K W N) := by
  have hl : (dtl g.ts).length = g.ts.length := List.length_map _;have hn := hV.n;refine enter (args := [_]) func82 rfl ntmps82 rfl ?_;refine csr (sbx fun b1 => ?_);refine sa ?_;refine snf (csr (sa ?_));refine snf (c_seq (csr (sa ?_)));refine snf (c_block ?_);have hE : EV (K W ([(b1, row 42 g.cells)] :: N)) g.tv 3 (dtl g.ts) := hV.t.cons;refine c_loopP (α := Nat) (fun z => [(1, .pointer (some ⟨b1, 0, none⟩)), (3, .int .i64 (((g.ts.take z).filter fun t => t.rt.inP).length : Nat)), (4, .int .i64 (z : Nat))]) (fun z => z ≤ g.ts.length) (fun _ => K W ([(b1, row 42 g.cells)] :: N)) (fun z => g.ts.length - z) 0 ⟨rfl, rfl, rfl, trivial⟩ (Nat.zero_le _) (fun w h => h) ?_;rintro z hz;by_cases c : z < g.ts.length
  · obtain ⟨t, ht⟩ : ∃ t, g.ts[z]? = some t := ⟨g.ts[z], List.getElem?_eq_getElem c⟩;have hrow := hE.row (i := z) (x := t.cells) (by simp [ht]);have hle : ((g.ts.take z).filter fun t => t.rt.inP).length ≤ z := Nat.le_trans (List.length_filter_le _ _) (by rw [List.length_take]; omega);have htk : (g.ts.take (z + 1)).filter (fun t => t.rt.inP) = (g.ts.take z).filter (fun t => t.rt.inP) ++ (if t.rt.inP then [t] else []) := by
      rw [List.take_add_one, ht];simp [List.filter_append, List.filter_cons]
    refine c_seq (csr (sm ?_));refine sf 2 ?_;refine slr 0 ?_;refine sy (y_lenE tab rfl (hE) rfl) ?_;refine sy (y_T (y_lss rfl rfl) (by omega)) ?_;refine snf (c_condT rfl (c_skip (f_then (c_seq (c_block (csr (sf 2 ?_)))))));refine slr 0 ?_;refine sm ?_;refine sy (y_ixE tab rfl rfl rfl rfl (hE) _ rfl (by omega)) ?_;refine sy (y_loadA tab rfl rfl rfl rfl hrow) ?_;refine sk call54 (In_spec (t := t)) fun _ => ?_;cases hp : t.rt.inP with
    | false =>
      rw [hp] at htk;have e2 : ((g.ts.take (z + 1)).filter fun t => t.rt.inP).length = ((g.ts.take z).filter fun t => t.rt.inP).length := by rw [htk]; simp
      refine snf (c_condF rfl (c_skip (f_blockN (f_then (c_region (sm ?_))))));refine sy (y_add rfl rfl (by omega)) ?_;refine sa ?_;refine s_nil ?_;exact f_roundP (z + 1) c (by omega) ⟨rfl, by rw [e2]; rfl, rfl, trivial⟩ (fun w h => h)
    | true =>
      rw [hp] at htk;have e2 : ((g.ts.take (z + 1)).filter fun t => t.rt.inP).length = ((g.ts.take z).filter fun t => t.rt.inP).length + 1 := by rw [htk]; simp
      refine snf (c_condT rfl (c_region (sm ?_)));refine sy (y_add rfl rfl (by omega)) ?_;refine sa ?_;refine s_nil (f_blockN (f_then (c_region (sm ?_))));refine sy (y_add rfl rfl (by omega)) ?_;refine sa ?_;refine s_nil ?_;exact f_roundP (z + 1) c (by omega) ⟨rfl, by rw [e2]; rfl, rfl, trivial⟩ (fun w h => h)
  · obtain rfl : z = g.ts.length := by omega
    have e : ((g.ts.take g.ts.length).filter fun t => t.rt.inP).length = g.rb.progress := by
      rw [List.take_length, RB.progress, Rg.rb];simp [List.filter_map, Function.comp_def]
    rw [e];refine c_seq (csr (sm ?_));refine sf 2 ?_;refine slr 0 ?_;refine sy (y_lenE tab rfl (hE) rfl) ?_;refine sy (y_F (y_lss rfl rfl) (by omega)) ?_;refine snf (c_condF rfl (c_exit (f_thenE (f_rndE (f_blockE (f_then (csr (sm ?_))))))));refine sa ?_;refine snf (c_ret ?_);exact f_ret () (res1 rfl rfl) (fun w h => h.tail)
def _root_.Go.KL.RB.ref (b : RB) (k : Int) (w : Bool) : Nat := if b.stI k = 0 then 80 else if b.stI k = 4 then 81 else if b.stI k = 3 then 82 else if b.stI k = 2 ∧ w = true then 83 else 0
theorem refused_spec (hV : RV (K W N) g) {k : Int} {wt : Bool} (h5 : g.rb.stI k < 5) : Spec prog 83 #[g.val, .int .i64 k, .bool wt] (K W N) (fun _ : Unit => .int .i64 (g.rb.ref k wt : Nat)) (fun _ => K W N) := by
  obtain ⟨s, hs⟩ : ∃ s, g.rb.stI k = s := ⟨_, rfl⟩;rw [RB.ref, hs];rw [hs] at h5;refine enter (args := [_, _, _]) func83 rfl ntmps83 rfl ?_;refine csr (sbx fun b3 => ?_);refine sa ?_;refine snf (c_seq (csr (sy (y_loadA tab rfl rfl rfl rfl (cells_row0 0 rfl rfl)) ?_)));refine sm ?_;refine sk call55 (RState_spec hV.cons) fun _ => ?_;rw [hs];clear hs;rcases (show s = 0 ∨ s = 1 ∨ s = 2 ∨ s = 3 ∨ s = 4 from by omega) with rfl | rfl | rfl | rfl | rfl
  · refine snf (c_block (csr (sy (y_T (y_eql rfl rfl) (by omega)) ?_)));refine sa ?_;refine snf (c_condT rfl (csr (sa ?_)));refine snf (c_ret (f_blockR (f_thenR ?_)));exact f_ret () (res1 rfl rfl) (fun w h => h.tail)
  · refine snf (c_block (csr (sy (y_F (y_eql rfl rfl) (by omega)) ?_)));refine sa ?_;refine snf (c_condF rfl (csr (sy (y_F (y_eql rfl rfl) (by omega)) ?_)));refine sa ?_;refine snf (c_condF rfl (csr (sy (y_F (y_eql rfl rfl) (by omega)) ?_)));refine sa ?_;refine snf (c_condF rfl (csr (sy (y_F (y_eql rfl rfl) (by omega)) ?_)));refine sa ?_;refine snf (c_condF rfl (c_skip (f_blockN (f_then (csr (sa ?_))))));refine snf (c_ret ?_);exact f_ret () (res1 rfl rfl) (fun w h => h.tail)
  · cases wt with
    | true =>
      refine snf (c_block (csr (sy (y_F (y_eql rfl rfl) (by omega)) ?_)));refine sa ?_;refine snf (c_condF rfl (csr (sy (y_F (y_eql rfl rfl) (by omega)) ?_)));refine sa ?_;refine snf (c_condF rfl (csr (sy (y_F (y_eql rfl rfl) (by omega)) ?_)));refine sa ?_;refine snf (c_condF rfl (csr (sy (y_T (y_eql rfl rfl) (by omega)) ?_)));refine sa ?_;refine snf (c_condT rfl (csr (sm ?_)));refine snf (c_condT rfl (csr (sa ?_)));refine snf (c_ret (f_blockR (f_thenR ?_)));exact f_ret () (res1 rfl rfl) (fun w h => h.tail)
    | false =>
      refine snf (c_block (csr (sy (y_F (y_eql rfl rfl) (by omega)) ?_)));refine sa ?_;refine snf (c_condF rfl (csr (sy (y_F (y_eql rfl rfl) (by omega)) ?_)));refine sa ?_;refine snf (c_condF rfl (csr (sy (y_F (y_eql rfl rfl) (by omega)) ?_)));refine sa ?_;refine snf (c_condF rfl (csr (sy (y_T (y_eql rfl rfl) (by omega)) ?_)));refine sa ?_;refine snf (c_condT rfl (csr (sm ?_)));refine snf (c_condF rfl (c_skip (f_blockN (f_then (csr (sa ?_))))));refine snf (c_ret ?_);exact f_ret () (res1 rfl rfl) (fun w h => h.tail)
  · refine snf (c_block (csr (sy (y_F (y_eql rfl rfl) (by omega)) ?_)));refine sa ?_;refine snf (c_condF rfl (csr (sy (y_F (y_eql rfl rfl) (by omega)) ?_)));refine sa ?_;refine snf (c_condF rfl (csr (sy (y_T (y_eql rfl rfl) (by omega)) ?_)));refine sa ?_;refine snf (c_condT rfl (csr (sa ?_)));refine snf (c_ret (f_blockR (f_thenR ?_)));exact f_ret () (res1 rfl rfl) (fun w h => h.tail)
  · refine snf (c_block (csr (sy (y_F (y_eql rfl rfl) (by omega)) ?_)));refine sa ?_;refine snf (c_condF rfl (csr (sy (y_T (y_eql rfl rfl) (by omega)) ?_)));refine sa ?_;refine snf (c_condT rfl (csr (sa ?_)));refine snf (c_ret (f_blockR (f_thenR ?_)));exact f_ret () (res1 rfl rfl) (fun w h => h.tail)
end
end Go.KL
end

section
/- Walks: the document's View, Room, SameLocks. -/
namespace Go.KL
open Go.Proofs Go.Proofs.Tryz
theorem lkc_inj {x y : Lk} (h : lkc x = lkc y) : x = y := by
  obtain ⟨a, b, c, d⟩ := x;obtain ⟨a', b', c', d'⟩ := y;simp [lkc] at h;obtain ⟨h1, h2, h3, h4⟩ := h;obtain rfl : a = a' := by omega
  obtain rfl : b = b' := by omega
  obtain rfl : c = c' := by omega
  subst h4;rfl
theorem K.rotV {W w : World} {c x a b N} (h : K W (c :: x :: a :: b :: N) w) : K W (x :: a :: b :: c :: N) w := h.mrg (D := []) fun z _ => by
  simp only [List.flatten_cons, List.count_append, List.count_nil];omega
attribute [local irreducible] SC St Fin Sq Ylds Doos Sets Enters Spec CellIs CellsAre Then Ret Rnd Chn resOK ints bools recs arr
section
variable {W : World} {N G : List Chunk} {g : Rg}
theorem SameLocks_spec {a b : Value} {A B : List Lk} (hA : EV (K W N) a 4 (lks A)) (hB : EV (K W N) b 4 (lks B)) (hl : A.length < 1000000) : Spec prog 56 #[a, b] (K W N) (fun _ : Unit => .bool (decide (A = B))) (fun _ => K W N) := by
  have hA2 := hA.view;have hB2 := hB.view;have eA : (lks A).length = A.length := List.length_map _;have eB : (lks B).length = B.length := List.length_map _;refine enter (args := [_, _]) func56 rfl ntmps56 rfl ?_;by_cases c : A.length = B.length
  · refine csr (sa ?_);refine snf (c_seq (csr (sm ?_)));refine sy (y_lenE tab rfl (hA) rfl) ?_;refine sm ?_;refine sy (y_lenE tab rfl (hB) rfl) ?_;refine sy (y_F (y_neq rfl rfl) (by omega)) ?_;refine snf (c_condF rfl (c_skip (f_then (c_seq (csr (sa ?_))))));refine snf (c_block (c_loopP (α := Nat) (fun z => [(0, a), (1, b), (5, .int .i64 (z : Nat))]) (fun z => z ≤ A.length ∧ A.take z = B.take z) (fun _ => K W N) (fun z => A.length - z) 0 ⟨rfl, rfl, rfl, trivial⟩ ⟨Nat.zero_le _, rfl⟩ (fun w h => h) ?_));rintro z ⟨hz, ht⟩;by_cases c1 : z < A.length
    · obtain ⟨x, hx⟩ : ∃ x, A[z]? = some x := ⟨A[z], List.getElem?_eq_getElem c1⟩;obtain ⟨y, hy⟩ : ∃ y, B[z]? = some y := ⟨B[z], List.getElem?_eq_getElem (by omega)⟩;have hrx := hA.row (lks_get hx);have hry := hB.row (lks_get hy);refine c_seq (csr (sm ?_));refine sm ?_;refine sy (y_lenE tab rfl (hA) rfl) ?_;refine sy (y_T (y_lss rfl rfl) (by omega)) ?_;refine snf (c_condT rfl (c_skip (f_then (c_seq (c_block (c_seq (c_quiet mixed (by kernel_rfl) K.drew ?_)))))));refine q_y (y_move rfl) rfl rfl rfl ?_;refine q_y (y_move rfl) rfl rfl rfl ?_;refine q_y (y_ixE tab rfl rfl rfl rfl (hA) _ rfl (by omega)) rfl rfl rfl ?_;refine q_y (y_loadA tab rfl rfl rfl rfl hrx) rfl rfl rfl ?_;refine q_y (y_move rfl) rfl rfl rfl ?_;refine q_y (y_move rfl) rfl rfl rfl ?_;refine q_y (y_ixE tab rfl rfl rfl rfl (hB) _ rfl (by omega)) rfl rfl rfl ?_;refine q_y (y_loadA tab rfl rfl rfl rfl hry) rfl rfl rfl ?_;refine q_y (y_neqS tab rfl rfl rfl (by kernel_rfl) (by kernel_rfl) rfl rfl) rfl rfl rfl ?_;refine q_nil (f_then ?_);have e1 : A.take (z + 1) = A.take z ++ [x] := by rw [List.take_add_one, hx]; rfl
      have e2 : B.take (z + 1) = B.take z ++ [y] := by rw [List.take_add_one, hy]; rfl
      by_cases e : x = y
      · rw [show ∀ i : Decidable (lkc x ≠ lkc y), @decide _ i = false from fun i => @decide_eq_false _ i fun h => h (by rw [e])];refine c_condF rfl (c_skip (f_blockN (f_then (c_region (sm ?_)))));refine sy (y_add rfl rfl (by omega)) ?_;refine sa ?_;refine s_nil ?_;exact f_roundP (z + 1) ⟨c1, by rw [e1, e2, ht, e]⟩ (by omega) ⟨rfl, rfl, rfl, trivial⟩ (fun w h => h)
      · rw [show ∀ i : Decidable (lkc x ≠ lkc y), @decide _ i = true from fun i => @decide_eq_true _ i fun h => e (lkc_inj h), decide_eq_false (show ¬ A = B from fun h => e (by rw [h, hy] at hx; exact (Option.some.inj hx).symm))];refine c_condT rfl (csr (sa ?_));refine snf (c_ret (f_blockR (f_thenR (f_rndR (f_blockR (f_thenR ?_))))));exact f_ret () (res1 rfl rfl) (fun w h => h)
    · obtain rfl : z = A.length := by omega
      have e : A = B := by
        rw [List.take_length, List.take_of_length_le (by omega)] at ht;exact ht
      rw [decide_eq_true e];refine c_seq (csr (sm ?_));refine sm ?_;refine sy (y_lenE tab rfl (hA) rfl) ?_;refine sy (y_F (y_lss rfl rfl) (by omega)) ?_;refine snf (c_condF rfl (c_exit (f_thenE (f_rndE (f_blockE (f_then (csr (sa ?_))))))));refine snf (c_ret ?_);exact f_ret () (res1 rfl rfl) (fun w h => h)
  · rw [decide_eq_false (fun e => c (by rw [e]))];refine csr (sa ?_);refine snf (c_seq (csr (sm ?_)));refine sy (y_lenE tab rfl (hA) rfl) ?_;refine sm ?_;refine sy (y_lenE tab rfl (hB) rfl) ?_;refine sy (y_T (y_neq rfl rfl) (by omega)) ?_;refine snf (c_condT rfl (csr (sa ?_)));refine snf (c_ret (f_thenR ?_));exact f_ret () (res1 rfl rfl) (fun w h => h)
theorem map_cells {b : Nat} {Ls : List Chunk} (i : Nat) (hi : Ls.getD i [] = [(b, row 42 g.cells)]) : CellsAre (K W Ls) ⟨b, 0, none⟩ [.int .i64 (g.size : Nat), g.mv] := cells_row i hi fun j hj => by
  have : j < 2 := hj;rcases (show j = 0 ∨ j = 1 by omega) with rfl | rfl <;> rfl
theorem stp_eq {f : Nat → Nat} {o : Oa} (h : o.mv = false) : stp f o = f := by rw [stp, if_neg (by rw [h]; decide)]
theorem View_spec (hV : RV (K W N) g) {k : Nat} {t : Dt} (hk : 1 ≤ k ∧ k ≤ g.ts.length) (ht : g.ts[k - 1]? = some t) (hR : Rep g.size g.C (ops t.os)) (hnb : ∀ i, nbd (ap g.C ((ops t.os).take i)) g.size ≤ 4096) (hl : t.os.length < 1000000) :
    Spec prog 85 #[g.val, .int .i64 (k : Nat)] (K W (N ++ G)) (X := { x : Value × List Chunk // RMp (K W (x.2 ++ N)) x.1 g.size (ap g.C (ops t.os)) }) (fun x => .agg #[.int .i64 (g.size : Nat), x.1.1]) (fun x => K W (x.1.2 ++ (N ++ G))) := by
  have hdl : (dtl g.ts).length = g.ts.length := List.length_map _;have hn := hV.n;have hol : (opl t.os).length = t.os.length := List.length_map _;have hM := hV.m;have htm := List.mem_of_getElem? ht;obtain ⟨jx, hjx⟩ : ∃ jx, jx = k - 1 := ⟨_, rfl⟩;rw [← hjx] at ht;refine enter (args := [_, _]) func85 rfl ntmps85 rfl ?_;refine csr (sbx fun b2 => ?_);refine sal fun b4 => ?_;refine snf (csr (sf0 ?_));have hc2 : CellsAre (K W ([(b4, row 37 [.int .i64 0, .slice none 0 0])] :: [(b2, row 42 g.cells)] :: (N ++ G))) ⟨b2, 0, none⟩ [.int .i64 (g.size : Nat), g.mv] := map_cells 1 rfl;refine sy (y_loadA tab rfl rfl rfl rfl hc2) ?_;refine sal fun b5 => ?_;refine ss (set_box tab 0 rfl rfl rfl rfl rfl rfl rfl) ?_;refine snf (c_seq (csr (sa ?_)));refine snf (c_block ?_);refine c_loopP (α := Nat × Value × List Chunk) (fun z => [(1, .int .i64 (k : Nat)), (2, .pointer (some ⟨b2, 0, none⟩)), (4, .pointer (some ⟨b4, 0, none⟩)), (5, .pointer (some ⟨b5, 0, none⟩)), (6, .int .i64 (z.1 : Nat))])
    (fun z => z.1 ≤ t.os.length ∧ RMp (K W (z.2.2 ++ N)) z.2.1 g.size (ap g.C ((ops t.os).take z.1)))
    (fun z => K W ([(b5, row 37 [.int .i64 (g.size : Nat), z.2.1])] :: [(b4, row 37 [.int .i64 0, .slice none 0 0])] :: [(b2, row 42 g.cells)] :: (z.2.2 ++ (N ++ G)))) (fun z => t.os.length - z.1) (0, g.mv, []) ⟨rfl, rfl, rfl, rfl, rfl, trivial⟩ ⟨Nat.zero_le _, hM⟩ (fun w h => h) ?_
  rintro ⟨i, lm, T⟩ ⟨hi, hRT⟩;dsimp only at hi hRT ⊢;have hV2 : RV (K W ([(b5, row 37 [.int .i64 (g.size : Nat), lm])] :: [(b4, row 37 [.int .i64 0, .slice none 0 0])] :: [(b2, row 42 g.cells)] :: (T ++ (N ++ G)))) g := hV.cls fun w h => K.pre (K.bck h.tail.tail.tail);have hE := hV2.t;have hrow := hE.row (i := jx) (x := t.cells) (by simp [ht]);have hO := (hV2.tx t htm).o;by_cases c : i < t.os.length
  · obtain ⟨o, ho⟩ : ∃ o, t.os[i]? = some o := ⟨t.os[i], List.getElem?_eq_getElem c⟩;have hok : (ops t.os)[i]? = some o.1 := by simp [ho]
    have hom := List.mem_of_getElem? ho;have hro := hO.row (opl_get2 ho);have hk1 : Opk g.size (ap g.C ((ops t.os).take i)) o.1 := by
      have := hR.drop i;rw [drop_get' hok] at this;exact this.1
    have hst : ap g.C ((ops t.os).take (i + 1)) = stp (ap g.C ((ops t.os).take i)) o.1 := by rw [List.take_add_one, hok]; exact ap_snoc _ _ _
    have hnx := hnb (i + 1);rw [hst] at hnx;obtain ⟨pq, kq, hov, _, _⟩ := ((hV2.tx t htm).r o hom).view;obtain ⟨o, ow⟩ := o;dsimp only at hov hro hk1 hst hnx;subst hov;refine c_seq (csr (sm ?_));refine sf 2 ?_;refine slr 2 ?_;refine sm ?_;refine sy (y_sub rfl rfl (by omega)) ?_;refine sy (y_ixE tab rfl rfl rfl rfl (hE) jx (by omega) (by omega)) ?_;refine sy (y_fieldAddr tab 2 rfl rfl rfl rfl rfl) ?_;refine sl (CellsAre.nth 2 (hrow) rfl) ?_;refine sy (y_lenE tab rfl (hO) rfl) ?_;refine sy (y_T (y_lss rfl rfl) (by omega)) ?_;refine snf (c_condT rfl (c_skip (f_then (c_seq (c_block (csr (sf 2 ?_)))))));refine slr 2 ?_;refine sm ?_;refine sy (y_sub rfl rfl (by omega)) ?_;refine sy (y_ixE tab rfl rfl rfl rfl (hE) jx (by omega) (by omega)) ?_;refine sy (y_fieldAddr tab 2 rfl rfl rfl rfl rfl) ?_;refine sl (CellsAre.nth 2 (hrow) rfl) ?_;refine sm ?_;refine sy (y_ixE tab rfl rfl rfl rfl (hO) _ rfl (by omega)) ?_;refine sf0 ?_;refine sl (CellsAre.at0 (hro) rfl) ?_;refine snf ?_;cases hmv : o.mv with
    | false =>
      refine c_condF rfl (c_skip (f_blockN (f_then (c_region (sm ?_)))));refine sy (y_add rfl rfl (by omega)) ?_;refine sa ?_;refine s_nil ?_;exact f_roundP (i + 1, lm, T) ⟨c, by rw [hst, stp_eq hmv]; exact hRT⟩ (by dsimp only; omega) ⟨rfl, rfl, rfl, rfl, rfl, trivial⟩ (fun w h => h)
    | true =>
      have hRT2 : RMp (K W ([(b5, row 37 [.int .i64 (g.size : Nat), lm])] :: [(b4, row 37 [.int .i64 0, .slice none 0 0])] :: [(b2, row 42 g.cells)] :: (T ++ (N ++ G)))) lm g.size (ap g.C ((ops t.os).take i)) := hRT.cls fun w h => K.pre2 h.tail.tail.tail;have hmvs := rmove_spec (o := o) (rv := .slice pq (rnl o.runs).length kq) hRT2 hk1.rng.1 hk1.rng.2 hk1.tag.1 hk1.tag.2 (by rw [hk1.swf hmv]; exact hnx);have hV3 : RV (K W ([(b4, row 37 [.int .i64 0, .slice none 0 0])] :: [(b2, row 42 g.cells)] :: (T ++ (N ++ G)))) g := hV.cls fun w h => K.pre (K.bck h.tail.tail);have hE := hV3.t;have hrow := hE.row (i := jx) (x := t.cells) (by simp [ht]);have hO := (hV3.tx t htm).o;have hro := hO.row (opl_get2 ho);have hD := fun (w : World) (h : K W ([(b5, row 37 [.int .i64 (g.size : Nat), lm])] :: [(b4, row 37 [.int .i64 0, .slice none 0 0])] :: [(b2, row 42 g.cells)] :: (T ++ (N ++ G))) w) => h.tail;refine c_condT rfl (c_plan [.c 1, .c 2, .c 3, .c 4, .c 5, .c 6, .c 7, .c 8, .c 9, .c 10, .s 0, .s 11, .s 12] [] (K W ([(b4, row 37 [.int .i64 0, .slice none 0 0])] :: [(b2, row 42 g.cells)] :: (T ++ (N ++ G)))) mixed (by kernel_rfl) rfl K.cl ?_);refine dy rfl (y_fieldAddrB tab 2 rfl rfl rfl rfl rfl) hD ?_;refine dy rfl (y_load tab rfl rfl (cell_row 1 rfl rfl)) hD ?_;refine dy rfl (y_move rfl) hD ?_;refine dy rfl (y_sub rfl rfl (by omega)) hD ?_;refine dy rfl (y_ixE tab rfl rfl rfl rfl (hE) jx (by omega) (by omega)) hD ?_;refine dy rfl (y_fieldAddr tab 2 rfl rfl rfl rfl rfl) hD ?_;refine dy rfl (y_load tab rfl rfl (CellsAre.nth 2 (hrow) rfl)) hD ?_;refine dy rfl (y_move rfl) hD ?_;refine dy rfl (y_ixE tab rfl rfl rfl rfl (hO) _ rfl (by omega)) hD ?_;refine dy rfl (y_loadA tab rfl rfl rfl rfl hro) hD ?_;refine d_sy rfl (y_loadA tab rfl rfl rfl rfl (cells_row0 0 rfl rfl)) rfl rfl rfl K.cl (fun _ => hD) ?_;refine d_call rfl (en_f rfl call80) hmvs rfl rfl rfl (fun _ => K.cl) (fun _ _ _ h => h.tail.tail) (fun x => ?_);obtain ⟨⟨v9, c9⟩, hB9⟩ := x;dsimp only at hB9 ⊢;rw [hk1.swf hmv] at hB9;have hR9 : RMp (K W ((c9 :: T) ++ N)) v9 g.size (stp (ap g.C ((ops t.os).take i)) o) := ⟨hB9.view (Hs.at 0 rfl), hRT.pos, hnx⟩;obtain ⟨pw, kw, rfl, _, _⟩ := hR9.v.view;refine d_set rfl (set_aggB tab 1 rfl rfl rfl rfl rfl rfl rfl) rfl rfl K.cl (fun _ _ h => h.tail.tail) ?_;refine d_nil (f_blockN (f_then (c_region (sm ?_))));refine sy (y_add rfl rfl (by omega)) ?_;refine sa ?_;refine s_nil ?_;exact f_roundP (i + 1, _, c9 :: T) ⟨c, by rw [hst]; exact hR9⟩ (by dsimp only; omega) ⟨rfl, rfl, rfl, rfl, rfl, trivial⟩ (fun w h => K.rotV h)
  · obtain rfl : i = t.os.length := by omega
    rw [List.take_of_length_le (by rw [List.length_map]; omega)] at hRT;obtain ⟨pm, km, rfl, _, _⟩ := hRT.v.view;refine c_seq (csr (sm ?_));refine sf 2 ?_;refine slr 2 ?_;refine sm ?_;refine sy (y_sub rfl rfl (by omega)) ?_;refine sy (y_ixE tab rfl rfl rfl rfl (hE) jx (by omega) (by omega)) ?_;refine sy (y_fieldAddr tab 2 rfl rfl rfl rfl rfl) ?_;refine sl (CellsAre.nth 2 (hrow) rfl) ?_;refine sy (y_lenE tab rfl (hO) rfl) ?_;refine sy (y_F (y_lss rfl rfl) (by omega)) ?_;refine snf (c_condF rfl (c_exit (f_thenE (f_rndE (f_blockE (f_then (csr (sy (y_loadA tab rfl rfl rfl rfl (cells_row0 0 rfl rfl)) ?_))))))));refine ss (set_box tab 1 rfl rfl rfl rfl rfl rfl rfl) ?_;refine snf (c_ret ?_);exact f_ret ⟨(_, T), hRT⟩ (resA tab rfl rfl rfl rfl rfl (cells_row0 1 rfl rfl)) (fun w h => h.tail.tail.tail)
end
end Go.KL
end

section
/- Walks: put and Begin of the document's book. -/
namespace Go.KL
open Go.Proofs Go.Proofs.Tryz
section
variable {e : TypeId} {s : Nat} {rows : List (List Value)} {b m cap : Nat} {l : List Value}
theorem BufR.put1 {i j : Nat} {x : List Value} {z : Value} (h : BufR e s (.slice (some ⟨b, 0, none⟩) m cap) [(b, row e l)] rows) (hi : rows[i]? = some x) (hj : j < s) : BufR e s (.slice (some ⟨b, 0, none⟩) m cap) [(b, row e (l.set (i * s + j) z))] (rows.set i (x.set j z)) ∧ i * s + j < l.length := by
  obtain ⟨o, l', hv, hc, hlt, hp⟩ := h.put hi hj;have hb : b = o.b := by injection hv with h1; injection h1 with h1; injection h1
  have hl : l = l' := by
    injection hc with h1;injection h1 with _ h1;simpa [row] using h1
  have := hp z;rw [← hb, ← hl] at this;exact ⟨this, by rw [hl]; exact hlt⟩
theorem BufR.put3 {i : Nat} {x y z : Value} (h : BufR e 3 (.slice (some ⟨b, 0, none⟩) m cap) [(b, row e l)] rows) (hi : i < rows.length) : BufR e 3 (.slice (some ⟨b, 0, none⟩) m cap) [(b, row e (over l (i * 3) [x, y, z]))] (rows.set i [x, y, z]) ∧ i * 3 + 3 ≤ l.length := by
  obtain ⟨r, hr⟩ : ∃ r, rows[i]? = some r := ⟨rows[i], List.getElem?_eq_getElem hi⟩;obtain ⟨a1, a2, a3, rfl⟩ : ∃ a1 a2 a3, r = [a1, a2, a3] := by
    have h3 := h.len r (List.mem_of_getElem? hr)
    match r, h3 with
    | [a1, a2, a3], _ => exact ⟨a1, a2, a3, rfl⟩
  obtain ⟨h1, _⟩ := h.put1 (z := x) hr (show 0 < 3 by decide);have g1 : (rows.set i ([a1, a2, a3].set 0 x))[i]? = some [x, a2, a3] := List.getElem?_set_self hi;obtain ⟨h2, _⟩ := h1.put1 (z := y) g1 (show 1 < 3 by decide);have g2 : ((rows.set i ([a1, a2, a3].set 0 x)).set i ([x, a2, a3].set 1 y))[i]? = some [x, y, a3] := List.getElem?_set_self (by rw [List.length_set]; exact hi);obtain ⟨h3, hl⟩ := h2.put1 (z := z) g2 (show 2 < 3 by decide);rw [List.set_set, List.set_set] at h3;refine ⟨h3, ?_⟩;rw [List.length_set, List.length_set] at hl;omega
end
def Rg.setT (g : Rg) (ts : List Dt) (t : Wh) : Rg := ⟨g.size, g.C, g.m, ts, t, g.Q, g.q, g.ds, g.d⟩
theorem RV.setT {C D : World → Prop} {g : Rg} {ts : List Dt} {u : Wh} (h : RV C g) (hD : ∀ w, D w → C w) (hv : EV D (.slice u.p (dtl ts).length u.c) 3 (dtl ts)) (ht : ∀ t ∈ ts, DtV D t) (hn : ts.length < 1000000) : RV D (g.setT ts u) := ⟨h.m.cls hD, hv, ht, h.q.cls hD, h.d.cls hD, fun x hx => ⟨(h.dx x hx).1.cls hD, fun o ho => ((h.dx x hx).2 o ho).cls hD⟩, hn⟩
theorem dtl_one (ts : List Dt) : ∀ r ∈ dtl ts, r.all Value.oneCell' = true := fun r hr => by
  obtain ⟨t, _, rfl⟩ := List.mem_map.1 hr;rfl
attribute [local irreducible] SC St Fin Sq Ylds Doos Sets Enters Spec CellIs CellsAre Then Ret Rnd Chn resOK ints bools recs arr
section
variable {W : World} {N G : List Chunk} {g : Rg}
theorem put_spec (hV : RV (K W N) g) {k : Nat} {t : Dt} (hk : 1 ≤ k ∧ k ≤ g.ts.length) (ht : DtV (K W N) t) : Spec prog 104 #[g.val, .int .i64 (k : Nat), .agg #[.int .i64 (t.st : Nat), t.lv, t.ov]] (K W (N ++ G))
    (X := { x : Wh × Chunk // RV (K W (x.2 :: N)) (g.setT (g.ts.set (k - 1) t) x.1) }) (fun x => (g.setT (g.ts.set (k - 1) t) x.1.1).val) (fun x => K W (x.1.2 :: (N ++ G))) := by
  have hdl : (dtl g.ts).length = g.ts.length := List.length_map _;have hn := hV.n;obtain ⟨jx, hjx⟩ : ∃ jx, jx = k - 1 := ⟨_, rfl⟩;rw [← hjx];refine enter (args := [_, _, _]) func104 rfl ntmps104 rfl ?_;refine csr (sbx fun b3 => ?_);refine sbx fun b5 => ?_;refine sal fun b6 => ?_;refine snf (csr (s_do (do_buildSliceS tab ⟨rfl, rfl, rfl, rfl⟩ rfl rfl rfl rfl) rfl rfl rfl (fun b7 => ?_)));refine sf 2 ?_;refine slr 3 ?_;have hE : EV (K W ([(b7, row 85 [])] :: [(b6, row 42 z42)] :: [(b5, row 85 t.cells)] :: [(b3, row 42 g.cells)] :: (N ++ G))) g.tv 3 (dtl g.ts) := (hV.t.cls fun _ h => K.pre h).cons.cons.cons.cons;skip;refine s_do (do_appendRV (by_ := 56) tab 0 rfl .lit rfl hE ⟨rfl, rfl, rfl, rfl⟩ rfl (by omega) (Nat.lt_of_sub_eq_succ rfl) rfl (dtl_one _) (by simp only [List.length_nil]; omega) (by omega)) rfl rfl rfl (fun x => ?_);obtain ⟨⟨v, c⟩, hB⟩ := x;have hB : BufR 85 3 v c (dtl g.ts) := hB;dsimp only;have el : (dtl g.ts).length = (dtl (g.ts.set jx t)).length := by simp
  have es : (dtl g.ts).set jx t.cells = dtl (g.ts.set jx t) := by rw [dtl, dtl, List.map_set]
  obtain ⟨r, hr⟩ : ∃ r, (dtl g.ts)[jx]? = some r := ⟨(dtl g.ts)[jx]'(by omega), List.getElem?_eq_getElem (by omega)⟩;obtain ⟨o, l, hv, hc, _, _⟩ := hB.put hr (show 0 < 3 by decide);rw [el] at hv;subst hv hc;have hE2 : EV (K W ([(o.b, row 85 l)] :: [(b6, row 42 z42)] :: [(b5, row 85 t.cells)] :: [(b3, row 42 [.int .i64 (g.size : Nat), g.mv, .slice (some ⟨o.b, 0, none⟩) (dtl (g.ts.set jx t)).length o.cap, g.qv, g.dv])] :: (N ++ G))) (.slice (some ⟨o.b, 0, none⟩) (dtl (g.ts.set jx t)).length o.cap) 3 (dtl g.ts) := hB.view (Hs.at 0 rfl);obtain ⟨h3, hlt⟩ := hB.put3 (x := .int .i64 (t.st : Nat)) (y := t.lv) (z := t.ov) (i := jx) (by omega);rw [es] at h3;refine sf 2 ?_;refine ss (set_rowB tab 3 rfl rfl rfl rfl rfl rfl) ?_;refine snf (csr (sf 2 ?_));refine slr 3 ?_;refine sm ?_;refine sy (y_sub rfl rfl (by omega)) ?_;refine sy (y_loadA tab rfl rfl rfl rfl (cells_row0 2 rfl rfl)) ?_;refine sy (y_ixE tab rfl rfl rfl rfl (hE2) jx (by omega) (by omega)) ?_;refine ss (set_agg tab 0 rfl rfl (vs := t.cells) (List.all_eq_true.1 rfl) rfl rfl rfl (by show 0 + jx * 3 + 3 ≤ l.length; omega)) ?_;refine St.cls (C' := K W ([(o.b, row 85 (over l (jx * 3) t.cells))] :: [(b6, row 42 z42)] :: [(b5, row 85 t.cells)] :: [(b3, row 42 [.int .i64 (g.size : Nat), g.mv, .slice (some ⟨o.b, 0, none⟩) (dtl (g.ts.set jx t)).length o.cap, g.qv, g.dv])] :: (N ++ G))) ?_ (fun w h => by rw [show jx * 3 = 0 + jx * 3 from by omega]; exact h);refine snf (csr (sy (y_loadA tab rfl rfl rfl rfl (cells_row0 3 rfl rfl)) ?_));refine ss (set_box tab 1 rfl rfl rfl rfl rfl rfl rfl) ?_;refine snf (c_ret (f_ret ⟨(⟨some ⟨o.b, 0, none⟩, o.cap⟩, [(o.b, row 85 (over l (jx * 3) t.cells))]), ?_⟩ (resA tab rfl rfl rfl rfl rfl (cells_row0 1 rfl rfl)) (fun w h => (h.dropAt 1).dropAt 1 |>.dropAt 1)));refine hV.setT (fun w h => h.tail) (h3.view (Hs.at 0 rfl)) (fun u hu => ?_) (by rw [List.length_set]; exact hn);rcases List.mem_or_eq_of_mem_set hu with hu | rfl
  · exact (hV.tx u hu).cls fun w h => h.tail
  · exact ht.cls fun w h => h.tail
def Dt.new : Dt := ⟨1, [], [], ⟨none, 0⟩, ⟨none, 0⟩⟩
theorem Dt.newV {C : World → Prop} : DtV C Dt.new := ⟨EV.empty, EV.empty, fun o ho => by cases ho⟩
def _root_.Go.KL.RB.Bg (b b' : RB) (n e : Nat) : Prop := (64 ≤ b.progress ∧ b' = b ∧ n = 0 ∧ e = 5) ∨ (b.progress < 64 ∧ b' = b.begin ∧ n = b.T.length + 1 ∧ e = 0)
theorem RBegin_spec (hV : RV (K W N) g) (hn1 : g.ts.length + 1 < 1000000) : Spec prog 47 #[g.val] (K W (N ++ G))
    (X := { x : Rg × List Chunk × Nat × Nat // RV (K W (x.2.1 ++ N)) x.1 ∧ g.rb.Bg x.1.rb x.2.2.1 x.2.2.2 }) (fun x => .tuple #[x.1.1.val, .int .i64 (x.1.2.2.1 : Nat), .int .i64 (x.1.2.2.2 : Nat)]) (fun x => K W (x.1.2.1 ++ (N ++ G))) := by
  have hdl : (dtl g.ts).length = g.ts.length := List.length_map _;refine enter (args := [_]) func47 rfl ntmps47 rfl ?_;refine csr (sbx fun b1 => ?_);refine sal fun b2 => ?_;refine sa ?_;refine sa ?_;refine snf (c_seq (csr (sy (y_loadA tab rfl rfl rfl rfl (cells_row0 1 rfl rfl)) ?_)));refine sk call82 (Progress_spec (hV.cls fun _ h => K.pre h).cons.cons) fun _ => ?_;by_cases hp : 64 ≤ g.rb.progress
  · refine sy (y_T (y_geq rfl rfl) (by omega)) ?_;refine snf (c_condT rfl (csr (sy (y_loadA tab rfl rfl rfl rfl (cells_row0 1 rfl rfl)) ?_)));refine ss (set_box tab 0 rfl rfl rfl rfl rfl rfl rfl) ?_;refine sa ?_;refine sa ?_;refine snf (c_ret (f_thenR ?_));exact f_ret ⟨(g, [], 0, 5), hV, .inl ⟨hp, rfl, rfl, rfl⟩⟩ (resA12 tab rfl rfl rfl rfl rfl rfl rfl (cells_row0 0 rfl rfl)) (fun w h => h.tail.tail)
  · refine sy (y_F (y_geq rfl rfl) (by omega)) ?_;refine snf (c_condF rfl (c_skip (f_then (csr (s_do (do_buildSliceS tab ⟨rfl, rfl, rfl, rfl⟩ rfl rfl rfl rfl) rfl rfl rfl (fun b9 => ?_))))));refine sf 2 ?_;refine slr 2 ?_;have hE : EV (K W ([(b9, row 85 [])] :: [(b2, row 42 z42)] :: [(b1, row 42 g.cells)] :: (N ++ G))) g.tv 3 (dtl g.ts) := (hV.t.cls fun _ h => K.pre h).cons.cons.cons;skip;refine s_do (do_appendRV (by_ := 56) tab 0 rfl .lit rfl hE ⟨rfl, rfl, rfl, rfl⟩ rfl (by omega) (Nat.lt_of_sub_eq_succ rfl) rfl (dtl_one _) (by simp only [List.length_nil]; omega) (by omega)) rfl rfl rfl (fun x => ?_);obtain ⟨⟨v, c⟩, hB⟩ := x;have hB : BufR 85 3 v c (dtl g.ts) := hB;dsimp only;refine sy (y_build tab rfl rfl rfl rfl rfl) ?_;refine s_do (do_buildSliceS tab ⟨rfl, rfl, rfl, rfl⟩ rfl rfl rfl rfl) rfl rfl rfl (fun b14 => ?_);refine s_do (do_appendR (by_ := 56) (news := Dt.new.cells) tab 1 rfl hB rfl ⟨rfl, rfl, rfl, rfl⟩ rfl (by simp) rfl (cells_row0 0 rfl rfl) rfl rfl (by omega) (by omega)) rfl rfl rfl (fun x => ?_);obtain ⟨⟨v, c⟩, hB⟩ := x;have hB : BufR 85 3 v c (dtl (g.ts ++ [Dt.new])) := hB.of (by simp);dsimp only;obtain ⟨pv, kv, rfl, _, _⟩ := (hB.view (C := K W (c :: [])) (Hs.at 0 rfl)).view;have hl2 : (dtl (g.ts ++ [Dt.new])).length = g.ts.length + 1 := by simp
    refine sf 2 ?_;refine ss (set_rowB tab 3 rfl rfl rfl rfl rfl rfl) ?_;refine snf (c_seq (SC.cls (C' := K W (c :: [(b2, row 42 z42)] :: [(b1, row 42 [.int .i64 (g.size : Nat), g.mv, .slice pv (dtl (g.ts ++ [Dt.new])).length kv, g.qv, g.dv])] :: (N ++ G))) ?_ (fun w h => h.tail)));have hD := fun (w : World) (h : K W (c :: [(b2, row 42 z42)] :: [(b1, row 42 [.int .i64 (g.size : Nat), g.mv, .slice pv (dtl (g.ts ++ [Dt.new])).length kv, g.qv, g.dv])] :: (N ++ G)) w) => h.tail.tail;refine c_plan [.c 0, .c 1, .c 2, .c 3, .s 4, .s 5, .s 6] [] (K W ([(b1, row 42 [.int .i64 (g.size : Nat), g.mv, .slice pv (dtl (g.ts ++ [Dt.new])).length kv, g.qv, g.dv])] :: (N ++ G))) mixed (by kernel_rfl) rfl K.cl ?_;refine dy rfl (y_loadA tab rfl rfl rfl rfl (cells_row0 0 rfl rfl)) hD ?_;refine dy rfl (y_fieldAddrB tab 2 rfl rfl rfl rfl rfl) hD ?_;refine dy rfl (y_load tab rfl rfl (cell_row 0 rfl rfl)) hD ?_;refine dy rfl (y_lenR' tab rfl hB rfl) hD ?_;refine d_set rfl (set_aggB tab 1 rfl rfl rfl rfl rfl rfl rfl) rfl rfl K.cl (fun _ _ h => h.tail.tail) ?_;refine d_sy rfl (y_assign rfl) rfl rfl rfl K.cl (fun _ _ h => h.tail.tail) ?_;refine d_sy rfl (y_assign rfl) rfl rfl rfl K.cl (fun _ _ h => h.tail.tail) ?_;refine d_nil (f_then (c_ret ?_));refine f_ret ⟨(g.setT (g.ts ++ [Dt.new]) ⟨pv, kv⟩, [c], g.ts.length + 1, 0), ?_, .inr ⟨by omega, ?_, by simp [Rg.rb], rfl⟩⟩ (resA12 tab rfl rfl (by rw [hl2]; rfl) rfl rfl rfl rfl (cells_row0 1 rfl rfl)) (fun w h => (h.dropAt 1).dropAt 1)
    · refine hV.setT (fun w h => h.tail) (hB.view (Hs.at 0 rfl)) (fun u hu => ?_) (by rw [List.length_append]; exact hn1);rcases List.mem_append.1 hu with hu | hu
      · exact (hV.tx u hu).cls fun w h => h.tail
      · rw [List.mem_singleton.1 hu];exact Dt.newV
    · simp [Rg.rb, RB.begin, Rg.setT, Dt.new]
end
end Go.KL
end

section
/- Walks: Conflict, Locks, free of the document's book. -/
namespace Go.KL
open Go.Proofs Go.Proofs.Tryz
theorem EV.upto {C : World → Prop} {p : Option Addr} {l c s k : Nat} {rows : List (List Value)} (h : EV C (.slice p l c) s rows) (hk : k ≤ rows.length) : EV C (.slice p k c) s (rows.take k) := by
  have hl := h.len;obtain ⟨pa, c', e, hc, hv⟩ := h.view;injection e with e1 e2 e3;subst e1 e3;refine ⟨fun x hx => hl x (List.mem_of_mem_take hx), ?_⟩;rw [List.length_take, Nat.min_eq_left hk];refine ⟨_, _, rfl, by omega, fun h0 => ?_⟩;obtain ⟨b, o, hp, h3⟩ := hv (by omega);refine ⟨b, o, hp, fun i hi j hj => ?_⟩;have := h3 i (by omega) j hj;simp only [rix, List.getD_eq_getElem?_getD] at this ⊢;rw [List.getElem?_take_of_lt hi];exact this
theorem lks_all (L : List Lk) : ∀ r ∈ lks L, r.all Value.oneCell' = true := fun r hr => by
  obtain ⟨t, _, rfl⟩ := List.mem_map.1 hr;rfl
attribute [local irreducible] SC St Fin Sq Ylds Doos Sets Enters Spec CellIs CellsAre Then Ret Rnd Chn resOK ints bools recs arr
section
variable {W : World} {N : List Chunk} {g : Rg}
theorem Conflict_spec {a b : Lk} : Spec prog 76 #[lkv a, lkv b] (K W N) (fun _ : Unit => .bool (cfr a b)) (fun _ => K W N) := by
  obtain ⟨cf, hcf⟩ : ∃ cf, cf = cfr a b := ⟨_, rfl⟩;rw [← hcf];show Spec prog 76 #[.agg #[.int .i64 (a.tx : Nat), .int .i64 (a.lo : Nat), .int .i64 (a.hi : Nat), .bool a.wr], lkv b] (K W N) _ _;obtain ⟨aw, haw⟩ : ∃ aw, aw = a.wr := ⟨_, rfl⟩;rw [← haw];refine enter (args := [_, _]) func76 rfl ntmps76 rfl ?_;by_cases c1 : a.tx = b.tx
  · rw [show cf = false by rw [hcf]; simp [cfr, c1]];refine csr (sbx fun b2 => ?_);refine sbx fun b3 => ?_;refine sa ?_;refine snf (csr (sf0 ?_));refine slr 1 ?_;refine sf0 ?_;refine slr 0 ?_;refine sy (y_F (y_neq rfl rfl) (by omega)) ?_;refine sm ?_
    iterate 5 refine s_skip rfl rfl rfl ?_
    refine spF ?_;refine sm ?_
    iterate 5 refine s_skip rfl rfl rfl ?_
    refine spF ?_;refine sm ?_
    iterate 6 refine s_skip rfl rfl rfl ?_
    refine spF ?_;refine sa ?_;refine snf (c_ret ?_);exact f_ret () (res1 rfl rfl) (fun w h => h.tail.tail)
  by_cases c2 : a.lo < b.hi
  · by_cases c3 : b.lo < a.hi
    · cases aw with
      | true =>
        rw [show cf = true by rw [hcf]; simp [cfr, c1, c2, c3, ← haw]];refine csr (sbx fun b2 => ?_);refine sbx fun b3 => ?_;refine sa ?_;refine snf (csr (sf0 ?_));refine slr 1 ?_;refine sf0 ?_;refine slr 0 ?_;refine sy (y_T (y_neq rfl rfl) (by omega)) ?_;refine sm ?_;refine sf 1 ?_;refine slr 1 ?_;refine sf 2 ?_;refine slr 0 ?_;refine sy (y_T (y_lss rfl rfl) (by omega)) ?_;refine spT ?_;refine sm ?_;refine sf 1 ?_;refine slr 0 ?_;refine sf 2 ?_;refine slr 1 ?_;refine sy (y_T (y_lss rfl rfl) (by omega)) ?_;refine spT ?_;refine sm ?_;refine sf 3 ?_;refine slr 1 ?_;refine sm ?_
        iterate 2 refine s_skip rfl rfl rfl ?_
        refine spT ?_;refine spT ?_;refine sa ?_;refine snf (c_ret ?_);exact f_ret () (res1 rfl rfl) (fun w h => h.tail.tail)
      | false =>
        rw [show cf = b.wr by rw [hcf]; simp [cfr, c1, c2, c3, ← haw]];refine csr (sbx fun b2 => ?_);refine sbx fun b3 => ?_;refine sa ?_;refine snf (csr (sf0 ?_));refine slr 1 ?_;refine sf0 ?_;refine slr 0 ?_;refine sy (y_T (y_neq rfl rfl) (by omega)) ?_;refine sm ?_;refine sf 1 ?_;refine slr 1 ?_;refine sf 2 ?_;refine slr 0 ?_;refine sy (y_T (y_lss rfl rfl) (by omega)) ?_;refine spT ?_;refine sm ?_;refine sf 1 ?_;refine slr 0 ?_;refine sf 2 ?_;refine slr 1 ?_;refine sy (y_T (y_lss rfl rfl) (by omega)) ?_;refine spT ?_;refine sm ?_;refine sf 3 ?_;refine slr 1 ?_;refine sm ?_;refine sf 3 ?_;refine slr 0 ?_;refine spF ?_;refine spT ?_;refine sa ?_;refine snf (c_ret ?_);exact f_ret () (res1 rfl rfl) (fun w h => h.tail.tail)
    · rw [show cf = false by rw [hcf]; simp [cfr, c3]];refine csr (sbx fun b2 => ?_);refine sbx fun b3 => ?_;refine sa ?_;refine snf (csr (sf0 ?_));refine slr 1 ?_;refine sf0 ?_;refine slr 0 ?_;refine sy (y_T (y_neq rfl rfl) (by omega)) ?_;refine sm ?_;refine sf 1 ?_;refine slr 1 ?_;refine sf 2 ?_;refine slr 0 ?_;refine sy (y_T (y_lss rfl rfl) (by omega)) ?_;refine spT ?_;refine sm ?_;refine sf 1 ?_;refine slr 0 ?_;refine sf 2 ?_;refine slr 1 ?_;refine sy (y_F (y_lss rfl rfl) (by omega)) ?_;refine spT ?_;refine sm ?_
      iterate 6 refine s_skip rfl rfl rfl ?_
      refine spF ?_;refine sa ?_;refine snf (c_ret ?_);exact f_ret () (res1 rfl rfl) (fun w h => h.tail.tail)
  · rw [show cf = false by rw [hcf]; simp [cfr, c2]];refine csr (sbx fun b2 => ?_);refine sbx fun b3 => ?_;refine sa ?_;refine snf (csr (sf0 ?_));refine slr 1 ?_;refine sf0 ?_;refine slr 0 ?_;refine sy (y_T (y_neq rfl rfl) (by omega)) ?_;refine sm ?_;refine sf 1 ?_;refine slr 1 ?_;refine sf 2 ?_;refine slr 0 ?_;refine sy (y_F (y_lss rfl rfl) (by omega)) ?_;refine spT ?_;refine sm ?_
    iterate 5 refine s_skip rfl rfl rfl ?_
    refine spF ?_;refine sm ?_
    iterate 6 refine s_skip rfl rfl rfl ?_
    refine spF ?_;refine sa ?_;refine snf (c_ret ?_);exact f_ret () (res1 rfl rfl) (fun w h => h.tail.tail)
theorem Locks_spec (hV : RV (K W N) g) (hc : g.rb.locks.length < 100000) : Spec prog 75 #[g.val] (K W N) (X := { x : Value × Chunk // BufR 111 4 x.1 x.2 (lks g.rb.locks) }) (fun x => x.1.1) (fun x => K W (x.1.2 :: N)) := by
  have hdl : (dtl g.ts).length = g.ts.length := List.length_map _;have hn := hV.n;have hloc : g.rb.locks = (g.ts.filter fun t => t.rt.inP).flatMap fun t => t.locks := by
    rw [RB.locks, Rg.rb];simp only [List.filter_map, List.flatMap_map];rfl
  refine enter (args := [_]) func75 rfl ntmps75 rfl ?_;refine csr (sbx fun b1 => ?_);refine sa ?_;refine snf (csr (sa ?_));refine snf (c_seq (csr (sa ?_)));refine snf (c_block ?_);refine c_loopP (α := Nat × Value × Chunk) (fun z => [(1, .pointer (some ⟨b1, 0, none⟩)), (3, z.2.1), (4, .int .i64 (z.1 : Nat))]) (fun z => z.1 ≤ g.ts.length ∧ BufR 111 4 z.2.1 z.2.2 (lks ((((g.ts.take z.1).filter fun t => t.rt.inP)).flatMap fun t => t.locks)))
    (fun z => K W (z.2.2 :: [(b1, row 42 g.cells)] :: N)) (fun z => g.ts.length - z.1) (0, .slice none 0 0, []) ⟨rfl, rfl, rfl, trivial⟩ ⟨Nat.zero_le _, .nil⟩ (fun w h => h.addNil) ?_
  rintro ⟨i, v, c⟩ ⟨hi, hB⟩;dsimp only at hi hB ⊢;have hE : EV (K W (c :: [(b1, row 42 g.cells)] :: N)) g.tv 3 (dtl g.ts) := hV.t.cons.cons;by_cases c1 : i < g.ts.length
  · obtain ⟨t, ht⟩ : ∃ t, g.ts[i]? = some t := ⟨g.ts[i], List.getElem?_eq_getElem c1⟩;have htm := List.mem_of_getElem? ht;have hrow := hE.row (i := i) (x := t.cells) (by simp [ht]);have htk : (g.ts.take (i + 1)).filter (fun t => t.rt.inP) = (g.ts.take i).filter (fun t => t.rt.inP) ++ (if t.rt.inP then [t] else []) := by
      rw [List.take_add_one, ht];simp [List.filter_append, List.filter_cons]
    have hle : ((((g.ts.take (i + 1)).filter fun t => t.rt.inP)).flatMap fun t => t.locks).length ≤ g.rb.locks.length := by
      rw [hloc];conv => rhs; rw [← List.take_append_drop (i + 1) g.ts]
      rw [List.filter_append, List.flatMap_append, List.length_append];omega
    refine c_seq (csr (sm ?_));refine sf 2 ?_;refine slr 1 ?_;refine sy (y_lenE tab rfl (hE) rfl) ?_;refine sy (y_T (y_lss rfl rfl) (by omega)) ?_;refine snf (c_condT rfl (c_skip (f_then (c_seq (c_block (csr (sf 2 ?_)))))));refine slr 1 ?_;refine sm ?_;refine sy (y_ixE tab rfl rfl rfl rfl (hE) _ rfl (by omega)) ?_;refine sy (y_loadA tab rfl rfl rfl rfl hrow) ?_;refine sk call54 (In_spec (t := t)) fun _ => ?_;cases hp : t.rt.inP with
    | false =>
      rw [hp, if_neg (by decide), List.append_nil] at htk;refine snf (c_condF rfl (c_skip (f_blockN (f_then (c_region (sm ?_))))));refine sy (y_add rfl rfl (by omega)) ?_;refine sa ?_;refine s_nil ?_;exact f_roundP (i + 1, v, c) ⟨c1, by rw [htk]; exact hB⟩ (by dsimp only; omega) ⟨rfl, rfl, rfl, trivial⟩ (fun w h => h)
    | true =>
      rw [hp, if_pos rfl] at htk;rw [htk, List.flatMap_append, List.length_append] at hle;simp only [List.flatMap_cons, List.flatMap_nil, List.append_nil] at hle;have hEl : EV (K W (c :: [(b1, row 42 g.cells)] :: N)) t.lv 4 (lks t.locks) := (hV.tx t htm).l.cls fun w h => h.tail.tail;refine snf (c_condT rfl (c_region (sm ?_)));refine sf 2 ?_;refine slr 1 ?_;refine sm ?_;refine sy (y_ixE tab rfl rfl rfl rfl (hE) _ rfl (by omega)) ?_;refine sy (y_fieldAddr tab 1 rfl rfl rfl rfl rfl) ?_;refine sl (CellsAre.nth 1 (hrow) rfl) ?_;refine s_do (do_appendRV (by_ := 32) tab 0 rfl hB rfl hEl ⟨rfl, rfl, rfl, rfl⟩ rfl (by omega) (Nat.lt_of_sub_eq_succ rfl) rfl (lks_all _) (by rw [List.length_map, List.length_map]; omega) (by omega)) rfl rfl rfl (fun x => ?_);obtain ⟨⟨v', c'⟩, hB'⟩ := x;dsimp only at hB' ⊢;refine sa ?_;refine s_nil (f_blockN (f_then (c_region (sm ?_))));refine sy (y_add rfl rfl (by omega)) ?_;refine sa ?_;refine s_nil ?_;exact f_roundP (i + 1, v', c') ⟨c1, by
        rw [htk, List.flatMap_append];exact hB'.of (by simp [lks])⟩ (by dsimp only; omega) ⟨rfl, rfl, rfl, trivial⟩ (fun w h => h)
  · obtain rfl : i = g.ts.length := by omega
    rw [List.take_length, ← hloc] at hB;refine c_seq (csr (sm ?_));refine sf 2 ?_;refine slr 1 ?_;refine sy (y_lenE tab rfl (hE) rfl) ?_;refine sy (y_F (y_lss rfl rfl) (by omega)) ?_;refine snf (c_condF rfl (c_exit (f_thenE (f_rndE (f_blockE (f_then (csr (sm ?_))))))));refine sa ?_;refine snf (c_ret ?_);exact f_ret ⟨(v, c), hB⟩ (res1 rfl rfl) (fun w h => h.dropAt 1)
end
end Go.KL
end

section
/- Walks: free, grant of the document's book. -/
namespace Go.KL
open Go.Proofs Go.Proofs.Tryz
attribute [local irreducible] SC St Fin Sq Ylds Doos Sets Enters Spec CellIs CellsAre Then Ret Rnd Chn resOK ints bools recs arr
section
variable {W : World} {N : List Chunk} {g : Rg}
theorem free_spec (hV : RV (K W N) g) {x : Lk} {n : Nat} (hq : n ≤ g.Q.length) (hc : g.rb.count < 100000) : Spec prog 102 #[g.val, lkv x, .int .i64 (n : Nat)] (K W N) (X := Chunk) (fun _ => .bool (g.rb.free x n)) (fun c => K W (c :: N)) := by
  have hcc : g.rb.locks.length + g.Q.length < 100000 := hc;have hlq : (lks g.Q).length = g.Q.length := List.length_map _;refine enter (args := [_, _, _]) func102 rfl ntmps102 rfl ?_;refine csr (sbx fun b3 => ?_);refine sbx fun b4 => ?_;refine sa ?_;refine snf (c_seq ?_);have hL := Locks_spec ((hV.cons (c := [(b3, row 42 g.cells)])).cons (c := [(b4, row 111 (lkc x))])) (by omega);have hD := fun (w : World) (h : K W ([(b4, row 111 (lkc x))] :: [(b3, row 42 g.cells)] :: N) w) => h;have hqn : n ≤ g.q.c := by
    obtain ⟨pa, c', e, hc', _⟩ := hV.q.view;injection e with e1 e2 e3;omega
  have hqt := hV.q.upto (k := n) (by omega);refine c_plan [.c 0, .c 2, .c 3, .c 4, .c 5, .s 1, .s 6, .s 7] [] (K W ([(b4, row 111 (lkc x))] :: [(b3, row 42 g.cells)] :: N)) mixed (by kernel_rfl) rfl K.cl ?_;refine dy rfl (y_loadA tab rfl rfl rfl rfl (cells_row0 1 rfl rfl)) hD ?_;refine dy rfl (y_fieldAddrB tab 3 rfl rfl rfl rfl rfl) hD ?_;refine dy rfl (y_load tab rfl rfl (cell_row 1 rfl rfl)) hD ?_;refine dy rfl (y_move rfl) hD ?_;refine dy rfl (y_sliceTo tab rfl rfl rfl rfl rfl (by omega)) hD ?_;refine d_call rfl (en_f rfl call75) hL rfl rfl rfl (fun _ => K.cl) (fun _ _ _ h => h.tail) (fun y => ?_);obtain ⟨⟨v, c⟩, hB⟩ := y;dsimp only at hB ⊢;refine d_s rfl (do_appendRV (by_ := 32) tab 0 rfl hB rfl hqt.cons.cons.cons ⟨rfl, rfl, rfl, rfl⟩ rfl (by omega) (Nat.lt_of_sub_eq_succ rfl) rfl (fun r hr => lks_all _ r (List.mem_of_mem_take hr)) (by rw [List.length_take, List.length_map]; omega) (by omega)) rfl rfl rfl (fun _ => K.cl) (fun _ _ _ h => h.tail) (fun y => ?_);obtain ⟨⟨v, c⟩, hB⟩ := y;obtain ⟨al, hal⟩ : ∃ al, al = g.rb.locks ++ g.Q.take n := ⟨_, rfl⟩;have hB : BufR 111 4 v c (lks al) := hB.of (by rw [hal]; simp [lks, List.map_take]);have hall : al.length < 200000 := by rw [hal, List.length_append, List.length_take]; omega
  have hfr : g.rb.free x n = al.all fun y => !cfr x y := by rw [hal]; rfl
  have hla : (lks al).length = al.length := List.length_map _;dsimp only;clear hD hL;have hD := fun (w : World) (h : K W (c :: [(b4, row 111 (lkc x))] :: [(b3, row 42 g.cells)] :: N) w) => h.tail;refine d_sy rfl (y_assign rfl) rfl rfl rfl K.cl (fun _ => hD) ?_;refine d_nil (f_then (c_seq (csr (sa ?_))));refine snf (c_block ?_);have hE : EV (K W (c :: [(b4, row 111 (lkc x))] :: [(b3, row 42 g.cells)] :: N)) v 4 (lks al) := hB.view (Hs.at 0 rfl);rw [hfr];clear hfr hB hcc hlq hqt hqn;refine c_loopP (α := Nat) (fun z => [(4, .pointer (some ⟨b4, 0, none⟩)), (7, v), (8, .int .i64 (z : Nat))]) (fun z => z ≤ al.length ∧ ∀ y ∈ al.take z, cfr x y = false) (fun _ => K W (c :: [(b4, row 111 (lkc x))] :: [(b3, row 42 g.cells)] :: N)) (fun z => al.length - z) 0 ⟨rfl, rfl, rfl, trivial⟩ ⟨Nat.zero_le _, fun y hy => by simp at hy⟩ (fun w h => h) ?_;rintro z ⟨hz, hno⟩;by_cases c1 : z < al.length
  · obtain ⟨y, hy⟩ : ∃ y, al[z]? = some y := ⟨al[z], List.getElem?_eq_getElem c1⟩;have hrow := hE.row (lks_get hy);have hD := fun (w : World) (h : K W (c :: [(b4, row 111 (lkc x))] :: [(b3, row 42 g.cells)] :: N) w) => h;refine c_seq (csr (sm ?_));refine sm ?_;refine sy (y_lenE tab rfl (hE) rfl) ?_;refine sy (y_T (y_lss rfl rfl) (by omega)) ?_;refine snf (c_condT rfl (c_skip (f_then (c_seq (c_block (c_seq (c_plan [.c 0, .c 1, .c 2, .c 3, .c 4, .s 5] [] ((K W (c :: [(b4, row 111 (lkc x))] :: [(b3, row 42 g.cells)] :: N))) mixed (by kernel_rfl) rfl K.cl ?_)))))));refine dy rfl (y_loadA tab rfl rfl rfl rfl (cells_row0 1 rfl rfl)) hD ?_;refine dy rfl (y_move rfl) hD ?_;refine dy rfl (y_move rfl) hD ?_;refine dy rfl (y_ixE tab rfl rfl rfl rfl (hE) _ rfl (by omega)) hD ?_;refine dy rfl (y_loadA tab rfl rfl rfl rfl hrow) hD ?_;refine d_call rfl (en_f rfl call76) (Conflict_spec (a := x) (b := y)) rfl rfl rfl (fun _ => K.cl) (fun _ _ _ h => h) (fun _ => ?_);cases hcf : cfr x y with
    | false =>
      refine d_nil (f_then (c_condF rfl (c_skip (f_blockN (f_then (c_region (sm ?_)))))));refine sy (y_add rfl rfl (by omega)) ?_;refine sa ?_;refine s_nil ?_;exact f_roundP (z + 1) ⟨c1, fun u hu => by
        rw [List.take_add_one, hy] at hu;rcases List.mem_append.1 hu with hu | hu
        · exact hno u hu
        · have : u = y := by simpa using hu
          rw [this]; exact hcf⟩ (by omega) ⟨rfl, rfl, rfl, trivial⟩ (fun w h => h)
    | true =>
      rw [show (al.all fun y => !cfr x y) = false from List.all_eq_false.2 ⟨y, List.mem_of_getElem? hy, by rw [hcf]; decide⟩];refine d_nil (f_then (c_condT rfl (csr (sa ?_))));refine snf (c_ret (f_blockR (f_thenR (f_rndR (f_blockR (f_thenR ?_))))));exact f_ret c (res1 rfl rfl) (fun w h => (h.dropAt 1).dropAt 1)
  · obtain rfl : z = al.length := by omega
    rw [List.take_length] at hno;rw [show (al.all fun y => !cfr x y) = true from List.all_eq_true.2 fun y hy => by rw [hno y hy]; rfl];refine c_seq (csr (sm ?_));refine sm ?_;refine sy (y_lenE tab rfl (hE) rfl) ?_;refine sy (y_F (y_lss rfl rfl) (by omega)) ?_;refine snf (c_condF rfl (c_exit (f_thenE (f_rndE (f_blockE (f_then (csr (sa ?_))))))));refine snf (c_ret ?_);exact f_ret c (res1 rfl rfl) (fun w h => (h.dropAt 1).dropAt 1)
end
end Go.KL
end

section
/- Walks: grant of the document's book. -/
namespace Go.KL
open Go.Proofs Go.Proofs.Tryz
section
variable {P : Program} {W : World} {n : Nat} {σ : Slots} {Q : Post} {Y : Type}
theorem c_planJL (j dj : Nat) (u : Y → Value) (plan q : List PS) (last : List Nat) (D : World → Prop) (C : Option Y → World → Prop) {id : Nat} {l : List Oper} (hm : P.follows .mixedOrders = true) (hsB : (Region.noSelect l.toArray && planJ l.toArray (drOf last) j plan q (Array.replicate l.toArray.size false)) = true) (hl : planLen (plan ++ q) + 1 = l.toArray.size)
    (hC : Cl (C none)) (h : SJ P n l.toArray (drOf last) D Q j dj u plan q σ C) : SC P n Q (.region id l.toArray true) σ (C none) := by
  obtain ⟨hs, hB⟩ := Bool.and_eq_true_iff.1 hsB;intro a w hE hw;refine wpIn_region_any hm ?_;have h1 := h.s0 _ a hE (fun j hj => by simp [Array.getElem?_replicate] at hj; split at hj <;> simp at hj) hB (Region.noSelect_spec hs);rw [hl] at h1;exact wpAny_of_AnyC _ _ _ _ h1 _ (hC _ _ hw (Ext.drew w))
end
theorem K.perm {W w : World} {A B : List Chunk} (h : K W A w) (p : ∀ x : Chunk, ∀ (_ : DecidableEq Chunk), A.count x = B.count x) : K W B w := h.weak [] (by
  haveI : DecidableEq Chunk := fun a b => Classical.propDecidable (a = b);simpa using (List.perm_iff_count.2 fun x => p x _ : A.Perm B).flatten)
theorem K.fr1 {W w : World} {N G : List Chunk} {d a b c e f : Chunk} (h : K W (d :: a :: b :: c :: e :: f :: (N ++ G)) w) : K W ((d :: N) ++ (a :: b :: c :: e :: f :: G)) w := K.perm h fun x _ => by
  simp only [List.count_append, List.count_cons];omega
theorem K.fr2 {W w : World} {N G : List Chunk} {d u a b c e f : Chunk} (h : K W (u :: ((d :: N) ++ (a :: b :: c :: e :: f :: G))) w) : K W (u :: d :: a :: b :: c :: e :: f :: (N ++ G)) w := K.perm h fun x _ => by
  simp only [List.count_append, List.count_cons];omega
attribute [local irreducible] SC St Fin Sq Ylds Doos Sets Enters Spec CellIs CellsAre Then Ret Rnd Chn resOK ints bools recs arr
section
variable {W : World} {N G : List Chunk} {g : Rg}
theorem grant_spec (hV : RV (K W N) g) {x : Lk} {t : Dt} (hk : 1 ≤ x.tx ∧ x.tx ≤ g.ts.length) (ht : g.ts[x.tx - 1]? = some t) (hl : t.locks.length < 100000) : Spec prog 103 #[g.val, lkv x] (K W (N ++ G))
    (X := { y : Rg × List Chunk // RV (K W (y.2 ++ N)) y.1 ∧ y.1.rb = g.rb.grant x }) (fun y => y.1.1.val) (fun y => K W (y.1.2 ++ (N ++ G))) := by
  have hdl : (dtl g.ts).length = g.ts.length := List.length_map _;have hll : (lks t.locks).length = t.locks.length := List.length_map _;have hn := hV.n;have htm := List.mem_of_getElem? ht;obtain ⟨jx, hjx⟩ : ∃ jx, jx = x.tx - 1 := ⟨_, rfl⟩;have htj := ht;rw [← hjx] at htj;refine enter (args := [_, _]) func103 rfl ntmps103 rfl ?_;refine csr (sbx fun b2 => ?_);refine sbx fun b3 => ?_;refine sal fun b4 => ?_;refine snf (csr (sf 2 ?_));refine slr 2 ?_;refine sf0 ?_;refine slr 1 ?_;refine sy (y_sub rfl rfl (by omega)) ?_;have hE : EV (K W ([(b4, row 42 z42)] :: [(b3, row 111 (lkc x))] :: [(b2, row 42 g.cells)] :: (N ++ G))) g.tv 3 (dtl g.ts) := (hV.t.cls fun _ h => K.pre h).cons.cons.cons;have hrow := hE.row (i := jx) (x := t.cells) (by simp [htj]);refine sy (y_ixE tab rfl rfl rfl rfl (hE) jx (by omega) (by omega)) ?_;refine sy (y_loadA tab rfl rfl rfl rfl hrow) ?_;refine sal fun b5 => ?_;refine ss (set_box tab 0 rfl rfl rfl rfl rfl rfl rfl) ?_;refine snf (csr (sf0 ?_));refine ss (set_rowB tab 0 rfl rfl rfl rfl rfl rfl) ?_;refine snf (c_seq ?_);obtain ⟨N0, hN0⟩ : ∃ N0, N0 = [(b5, row 85 [.int .i64 1, t.lv, t.ov])] :: [(b4, row 42 z42)] :: [(b3, row 111 (lkc x))] :: [(b2, row 42 g.cells)] :: (N ++ G) := ⟨_, rfl⟩;obtain ⟨F, hF⟩ : ∃ F : Option Nat → List Chunk, F = flo (fun b => [(b, row 111 (lkc x))]) := ⟨_, rfl⟩;have hD : ∀ (A : List Chunk) (y : Option Nat) (w : World), K W (A ++ (F y ++ N0)) w → K W N0 w := fun A y w h => K.bck (K.bck h);have hEy : ∀ (A : List Chunk) (y : Option Nat), EV (K W (A ++ (F y ++ N0))) t.lv 4 (lks t.locks) := fun A y => (hV.tx t htm).l.cls fun w h => by
    have h2 := hD A y w h;rw [hN0] at h2;exact K.pre h2.tail.tail.tail.tail
  have hc5 : CellsAre (K W N0) ⟨b5, 0, none⟩ [.int .i64 1, t.lv, t.ov] := by rw [hN0]; exact cells_row0 0 rfl rfl
  have hc3 : CellsAre (K W N0) ⟨b3, 0, none⟩ (lkc x) := by rw [hN0]; exact cells_row0 2 rfl rfl
  have hal : ∀ (A : List Chunk) {σ : Slots} {o : Oper}, Doos prog 27 σ (K W (A ++ N0)) o (fun b => Value.slice (some ⟨b, 0, none⟩) 1 1) (fun b => K W ([(b, row 111 (lkc x))] :: (A ++ N0))) → Outs prog 27 σ (K W (A ++ (F none ++ N0))) o (fun b => Value.slice (some ⟨b, 0, none⟩) 1 1) (fun b => K W (A ++ (F (some b) ++ N0))) := fun A σ o h => by
    rw [hF];exact h.outs.conv fun b w hk => K.bckN (A := [[(b, row 111 (lkc x))]]) (B := A) hk
  refine SC.cls (C' := K W ([] ++ (F none ++ N0))) ?_ (fun w h => by rw [hF, hN0]; exact h);refine c_planJL (Y := Nat) 5 19 (fun b => .slice (some ⟨b, 0, none⟩) 1 1) [.c 1, .c 2, .c 4, .s 0, .s 3] [.s 6, .s 7, .s 8] [8] (K W N0) (fun y => K W ([] ++ (F y ++ N0))) mixed (by kernel_rfl) rfl K.cl ?_;refine j_c rfl (Qui.ylds (y_fieldAddrB tab 1 rfl rfl rfl rfl rfl)) rfl (fun _ => rfl) rfl rfl rfl rfl rfl (hD _) (fun _ => K.cl) ?_;refine j_c rfl (Qui.ylds (y_load tab rfl rfl (CellsAre.nth 1 hc5 rfl))) rfl (fun _ => rfl) rfl rfl rfl rfl rfl (hD _) (fun _ => K.cl) ?_;refine j_c rfl (Qui.ylds (y_loadA tab rfl rfl rfl rfl hc3)) rfl (fun _ => rfl) rfl rfl rfl rfl rfl (hD _) (fun _ => K.cl) ?_;refine j_s (C' := fun b y => K W ([(b, row 111 [])] :: [] ++ (F y ++ N0))) rfl rfl (fun y => (do_buildSliceS (vs := []) (len := 0) (ps := []) tab ⟨rfl, rfl, rfl, rfl⟩ rfl rfl rfl rfl).outs) (hal [] (do_buildSliceS (vs := [lkv x]) (len := 1) (ps := [_]) tab ⟨rfl, rfl, rfl, rfl⟩ rfl rfl rfl rfl)) rfl (fun _ => rfl) rfl rfl rfl rfl rfl rfl rfl (fun _ => K.cl) (fun _ _ => K.cl) (hD _) (fun b y => hD [_] y) (fun b => ?_);refine j_s (X := { u : Value × Chunk // BufR 111 4 u.1 u.2 ([] ++ lks t.locks) }) (v := fun u => u.1.1) (C' := fun x y => K W ([x.1.2] ++ (F y ++ N0))) rfl rfl (fun y => (do_appendRV (by_ := 32) tab 0 rfl .lit rfl (hEy [_] y) ⟨rfl, rfl, rfl, rfl⟩ rfl (by omega) (Nat.lt_of_sub_eq_succ rfl) rfl (lks_all _) (by simp only [List.length_nil]; omega) (by omega)).outs) (hal [_] (do_buildSliceS (vs := [lkv x]) (len := 1) (ps := [_]) tab ⟨rfl, rfl, rfl, rfl⟩ rfl rfl rfl rfl)) rfl (fun _ => rfl) rfl rfl rfl rfl rfl rfl rfl (fun _ => K.cl) (fun _ _ => K.cl) (hD [_]) (fun x y => hD [_] y) (fun u => ?_);obtain ⟨⟨u, d⟩, hu⟩ := u;have hu : BufR 111 4 u d (lks t.locks) := hu;refine j_j rfl (hal [_] (do_buildSliceS (vs := [lkv x]) (len := 1) (ps := [_]) tab ⟨rfl, rfl, rfl, rfl⟩ rfl rfl rfl rfl)) rfl rfl rfl (fun _ => K.cl) (hD [_]) (fun b19 => ?_);refine Sd.cls (C' := K W (d :: [(b19, row 111 (lkc x))] :: [(b5, row 85 [.int .i64 1, t.lv, t.ov])] :: [(b4, row 42 z42)] :: [(b3, row 111 (lkc x))] :: [(b2, row 42 g.cells)] :: (N ++ G))) ?_ (fun w h => by
    rw [hF, hN0] at h;exact h)
  refine d_s rfl (do_appendR (by_ := 32) (news := lkc x) tab 0 rfl hu rfl ⟨rfl, rfl, rfl, rfl⟩ rfl (by simp) rfl (cells_row0 1 rfl rfl) rfl rfl (by omega) (by omega)) rfl rfl rfl (fun _ => K.cl) (fun _ _ w h => by rw [hN0]; exact h.tail.tail) (fun y => ?_);obtain ⟨⟨u2, d2⟩, hu2⟩ := y;have hu2 : BufR 111 4 u2 d2 (lks (t.locks ++ [x])) := hu2.of (by simp);dsimp only;obtain ⟨pv, kv, rfl, _, _⟩ := (hu2.view (C := K W (d2 :: [])) (Hs.at 0 rfl)).view;refine d_sy rfl (y_fieldAddrB tab 1 rfl rfl rfl rfl rfl) rfl rfl rfl K.cl (fun _ w h => by rw [hN0]; exact h.tail.tail) ?_;refine d_set rfl (set_rowB tab 2 rfl rfl rfl rfl rfl rfl) rfl rfl K.cl (fun h => by cases h) ?_;refine d_nil ?_;obtain ⟨t2, ht2⟩ : ∃ t2 : Dt, t2 = ⟨1, t.locks ++ [x], t.os, ⟨pv, kv⟩, t.o⟩ := ⟨_, rfl⟩;clear hal hEy hD hc5 hc3;have h2V : DtV (K W (d2 :: N)) t2 := by
    rw [ht2];exact ⟨hu2.view (Hs.at 0 rfl), (hV.tx t htm).o.cons, fun o ho => ((hV.tx t htm).r o ho).cons⟩
  have hput := put_spec (W := W) (N := d2 :: N) (G := [(b19, row 111 (lkc x))] :: [(b5, row 85 [.int .i64 1, .slice pv (lks (t.locks ++ [x])).length kv, t.ov])] :: [(b4, row 42 z42)] :: [(b3, row 111 (lkc x))] :: [(b2, row 42 g.cells)] :: G) (hV.cons (c := d2)) (k := x.tx) hk h2V;have hrb : (g.setT (g.ts.set (x.tx - 1) t2) ⟨none, 0⟩).rb = g.rb.grant x := by
    rw [ht2];simp [Rg.rb, Rg.setT, RB.grant, RB.put, RB.tx, ht, Dt.rt]
  rw [ht2] at hput;refine f_then (csr (sy (y_loadA tab rfl rfl rfl rfl (cells_row0 5 rfl rfl)) ?_));refine sf0 ?_;refine slr 4 ?_;refine sy (y_loadA tab rfl rfl rfl rfl (cells_row0 2 rfl rfl)) ?_;refine St.cls (C' := K W ((d2 :: N) ++ ([(b19, row 111 (lkc x))] :: [(b5, row 85 [.int .i64 1, .slice pv (lks (t.locks ++ [x])).length kv, t.ov])] :: [(b4, row 42 z42)] :: [(b3, row 111 (lkc x))] :: [(b2, row 42 g.cells)] :: G))) ?_ (fun w h => K.fr1 h);refine sk call104 hput fun y => ?_;obtain ⟨⟨wh, c⟩, hRV⟩ := y;dsimp only at hRV ⊢;refine St.cls (C' := K W (c :: d2 :: [(b19, row 111 (lkc x))] :: [(b5, row 85 [.int .i64 1, .slice pv (lks (t.locks ++ [x])).length kv, t.ov])] :: [(b4, row 42 z42)] :: [(b3, row 111 (lkc x))] :: [(b2, row 42 g.cells)] :: (N ++ G))) ?_ (fun w h => K.fr2 h);refine ss (set_box tab 4 rfl rfl rfl rfl rfl rfl rfl) ?_;refine snf (c_ret (f_ret ⟨(_, [c, d2]), hRV, ?_⟩ (resA tab rfl rfl rfl rfl rfl (cells_row0 4 rfl rfl)) (fun w h => ((((h.dropAt 2).dropAt 2).dropAt 2).dropAt 2).dropAt 2)));rw [← hrb, ht2];rfl
end
end Go.KL
end

section
/- Walks: end of the document's book. -/
namespace Go.KL
open Go.Proofs Go.Proofs.Tryz
def RB.EndOK (k : Nat) : List Lk → RB → Prop
  | [], _ => True
  | x :: l, b => x.tx = k ∧ EndOK k l b ∨ x.tx ≠ k ∧ b.count < 100000 ∧ b.has x.tx ∧ (b.tx x.tx).locks.length < 100000 ∧ b.Q.length < 100000 ∧ (b.free x b.Q.length = true ∧ EndOK k l (b.grant x) ∨ b.free x b.Q.length = false ∧ EndOK k l ⟨b.size, b.C, b.T, b.Q ++ [x], b.D⟩)
def Rg.setQ (g : Rg) (Q : List Lk) (q : Wh) : Rg := ⟨g.size, g.C, g.m, g.ts, g.t, Q, q, g.ds, g.d⟩
theorem RV.setQ {C D : World → Prop} {g : Rg} {Q : List Lk} {u : Wh} (h : RV C g) (hD : ∀ w, D w → C w) (hv : EV D (.slice u.p (lks Q).length u.c) 4 (lks Q)) : RV D (g.setQ Q u) := ⟨h.m.cls hD, h.t.cls hD, fun t ht => (h.tx t ht).cls hD, hv, h.d.cls hD, fun x hx => ⟨(h.dx x hx).1.cls hD, fun o ho => ((h.dx x hx).2 o ho).cls hD⟩, h.n⟩
theorem K.mv3 {W w : World} {N G : List Chunk} {a b c : Chunk} (h : K W (a :: b :: c :: (N ++ G)) w) : K W (N ++ (a :: b :: c :: G)) w := K.perm h fun x _ => by
  simp only [List.count_append, List.count_cons];omega
theorem K.mv3' {W w : World} {T N G : List Chunk} {a b c : Chunk} (h : K W (T ++ (N ++ (a :: b :: c :: G))) w) : K W (a :: b :: c :: ((T ++ N) ++ G)) w := K.perm h fun x _ => by
  simp only [List.count_append, List.count_cons];omega
theorem K.mv4 {W w : World} {N G : List Chunk} {d a b c : Chunk} (h : K W (d :: (N ++ (a :: b :: c :: G))) w) : K W (a :: b :: c :: ((d :: N) ++ G)) w := K.perm h fun x _ => by
  simp only [List.count_append, List.count_cons];omega
theorem K.mv5 {W w : World} {N : List Chunk} {d e a b c : Chunk} (h : K W (d :: e :: a :: b :: c :: N) w) : K W (a :: b :: c :: (d :: N)) w := (K.perm (B := e :: a :: b :: c :: (d :: N)) h fun x _ => by
  simp only [List.count_cons];omega).tail
attribute [local irreducible] SC St Fin Sq Ylds Doos Sets Enters Spec CellIs CellsAre Then Ret Rnd Chn resOK ints bools recs arr
section
variable {W : World} {N G : List Chunk} {g : Rg}
theorem end_spec (hV : RV (K W N) g) {k s : Nat} {t : Dt} (hk : 1 ≤ k ∧ k ≤ g.ts.length) (ht : g.ts[k - 1]? = some t) (hq : g.Q.length < 100000) (hE0 : RB.EndOK k g.Q ⟨g.size, g.C, (g.rb.put k ⟨s, t.locks, ops t.os⟩).T, [], g.rb.D⟩) : Spec prog 87 #[g.val, .int .i64 (k : Nat), .int .i64 (s : Nat)] (K W (N ++ G))
    (X := { y : Rg × List Chunk // RV (K W (y.2 ++ N)) y.1 ∧ y.1.rb = g.rb.end_ k s }) (fun y => y.1.1.val) (fun y => K W (y.1.2 ++ (N ++ G))) := by
  have hdl : (dtl g.ts).length = g.ts.length := List.length_map _;have hlq : (lks g.Q).length = g.Q.length := List.length_map _;have hn := hV.n;have htm := List.mem_of_getElem? ht;obtain ⟨jx, hjx⟩ : ∃ jx, jx = k - 1 := ⟨_, rfl⟩;have htj := ht;rw [← hjx] at htj;have hVG : RV (K W (N ++ G)) g := hV.cls fun _ h => K.pre h;refine enter (args := [_, _, _]) func87 rfl ntmps87 rfl ?_;refine csr (sbx fun b3 => ?_);refine sal fun b6 => ?_;refine snf (csr (sf 2 ?_));refine slr 1 ?_;refine sm ?_;refine sy (y_sub rfl rfl (by omega)) ?_;have hE : EV (K W ([(b6, row 42 z42)] :: [(b3, row 42 g.cells)] :: (N ++ G))) g.tv 3 (dtl g.ts) := hVG.t.cons.cons;have hrow := hE.row (i := jx) (x := t.cells) (by simp [htj]);refine sy (y_ixE tab rfl rfl rfl rfl (hE) jx (by omega) (by omega)) ?_;refine sy (y_loadA tab rfl rfl rfl rfl hrow) ?_;refine sal fun b7 => ?_;refine ss (set_box tab 0 rfl rfl rfl rfl rfl rfl rfl) ?_;refine snf (csr (sm ?_));refine sf0 ?_;refine ss (set_rowB tab 0 rfl rfl rfl rfl rfl rfl) ?_;refine snf (csr (sy (y_loadA tab rfl rfl rfl rfl (cells_row0 2 rfl rfl)) ?_));refine sm ?_;refine sy (y_loadA tab rfl rfl rfl rfl (cells_row0 0 rfl rfl)) ?_;obtain ⟨t1, ht1⟩ : ∃ t1 : Dt, t1 = ⟨s, t.locks, t.os, t.l, t.o⟩ := ⟨_, rfl⟩;have hV1 : DtV (K W N) t1 := by
    rw [ht1];exact ⟨(hV.tx t htm).l, (hV.tx t htm).o, (hV.tx t htm).r⟩
  have hput := put_spec (W := W) (N := N) (G := [(b7, row 85 [.int .i64 (s : Nat), t.lv, t.ov])] :: [(b6, row 42 z42)] :: [(b3, row 42 g.cells)] :: G) hV hk hV1;rw [ht1] at hput;refine St.cls (C' := K W (N ++ ([(b7, row 85 [.int .i64 (s : Nat), t.lv, t.ov])] :: [(b6, row 42 z42)] :: [(b3, row 42 g.cells)] :: G))) ?_ (fun w h => K.mv3 h);refine sk call104 hput fun y => ?_;obtain ⟨⟨wh, c⟩, hRV⟩ := y;dsimp only at hRV ⊢;refine St.cls (C' := K W ([(b7, row 85 [.int .i64 (s : Nat), t.lv, t.ov])] :: [(b6, row 42 z42)] :: [(b3, row 42 g.cells)] :: ((c :: N) ++ G))) ?_ (fun w h => K.mv4 h);refine ss (set_box tab 2 rfl rfl rfl rfl rfl rfl rfl) ?_;refine snf (csr (sf 3 ?_));refine slr 2 ?_;refine sa ?_;refine snf (csr (sf 3 ?_));refine ss (set_rowB tab 2 rfl rfl rfl rfl rfl rfl) ?_;refine snf (c_seq (csr (sa ?_)));refine snf (c_block ?_);have hRV := hRV.setQ (fun _ h => h) (Q := []) (u := ⟨none, 0⟩) EV.empty;obtain ⟨g1, hg1⟩ : ∃ g1, g1 = (g.setT (g.ts.set (k - 1) ⟨s, t.locks, t.os, t.l, t.o⟩) wh).setQ [] ⟨none, 0⟩ := ⟨_, rfl⟩;have hrb1 : g1.rb = ⟨g.size, g.C, (g.rb.put k ⟨s, t.locks, ops t.os⟩).T, [], g.rb.D⟩ := by
    rw [hg1];simp [Rg.rb, Rg.setT, Rg.setQ, RB.put, Dt.rt]
  have hend : RB.endl k g.Q g1.rb = g.rb.end_ k s := by
    rw [hrb1, RB.end_, rb_tx ht];rfl
  rw [← hg1] at hRV;rw [← hrb1] at hE0;refine SC.cls (C' := K W ([(b7, row 85 [.int .i64 (s : Nat), t.lv, t.ov])] :: [(b6, row 42 z42)] :: [(b3, row 42 g1.cells)] :: (([] ++ (c :: N)) ++ G))) ?_ (fun w h => by rw [hg1]; exact h);refine c_loopP (α := Nat × Rg × List Chunk) (fun z => [(1, .int .i64 (k : Nat)), (3, .pointer (some ⟨b3, 0, none⟩)), (6, .pointer (some ⟨b6, 0, none⟩)), (8, g.qv), (9, .int .i64 (z.1 : Nat))])
    (fun z => z.1 ≤ g.Q.length ∧ RV (K W (z.2.2 ++ (c :: N))) z.2.1 ∧ RB.endl k (g.Q.drop z.1) z.2.1.rb = g.rb.end_ k s ∧ RB.EndOK k (g.Q.drop z.1) z.2.1.rb)
    (fun z => K W ([(b7, row 85 [.int .i64 (s : Nat), t.lv, t.ov])] :: [(b6, row 42 z42)] :: [(b3, row 42 (z.2.1).cells)] :: ((z.2.2 ++ (c :: N)) ++ G))) (fun z => g.Q.length - z.1) (0, g1, []) ⟨rfl, rfl, rfl, rfl, rfl, trivial⟩ ⟨Nat.zero_le _, hRV, hend, hE0⟩ (fun w h => h) ?_
  clear hrb1 hend hE0 hRV hg1 hput hV1 ht1 hE hrow;rintro ⟨i, h, T⟩ ⟨hi, hR, hen, hok⟩;dsimp only at hi hR hen hok ⊢;have hQ : EV (K W ([(b7, row 85 [.int .i64 (s : Nat), t.lv, t.ov])] :: [(b6, row 42 z42)] :: [(b3, row 42 h.cells)] :: ((T ++ (c :: N)) ++ G))) g.qv 4 (lks g.Q) := hV.q.cls fun w h => (K.bck (K.pre h.tail.tail.tail)).tail;have hRc : RV (K W ([(b7, row 85 [.int .i64 (s : Nat), t.lv, t.ov])] :: [(b6, row 42 z42)] :: [(b3, row 42 h.cells)] :: ((T ++ (c :: N)) ++ G))) h := hR.cls fun w h => K.pre h.tail.tail.tail;by_cases c1 : i < g.Q.length
  · obtain ⟨x, hx⟩ : ∃ x, g.Q[i]? = some x := ⟨g.Q[i], List.getElem?_eq_getElem c1⟩;have hrow := hQ.row (lks_get hx);rw [drop_get' hx] at hen hok;rcases hok with ⟨hxk, hok⟩ | ⟨hxk, k1, k2, k3, k4, hok⟩
    · rw [RB.endl, if_pos hxk] at hen;refine c_seq (csr (sm ?_));refine sm ?_;refine sy (y_lenE tab rfl (hQ) rfl) ?_;refine sy (y_T (y_lss rfl rfl) (by omega)) ?_;refine snf (c_condT rfl (c_skip (f_then (c_seq (c_block (c_seq (csr (sm ?_))))))));refine sm ?_;refine sy (y_ixE tab rfl rfl rfl rfl (hQ) _ rfl (by omega)) ?_;refine sf0 ?_;refine sl (CellsAre.at0 (hrow) rfl) ?_;refine sm ?_;refine sy (y_T (y_eql rfl rfl) (by omega)) ?_;refine snf (c_condT rfl (c_exit (f_thenE (f_blockE (f_then (c_region (sm ?_)))))));refine sy (y_add rfl rfl (by omega)) ?_;refine sa ?_;refine s_nil ?_;exact f_roundP (i + 1, h, T) ⟨c1, hR, hen, hok⟩ (by dsimp only; omega) ⟨rfl, rfl, rfl, rfl, rfl, trivial⟩ (fun w h => h)
    · rw [RB.endl, if_neg hxk] at hen;have hlh : (lks h.Q).length = h.Q.length := List.length_map _;have k5 : h.Q.length < 100000 := k4;have hfr := free_spec hRc (x := x) (n := (lks h.Q).length) (Nat.le_of_eq hlh) k1;have hD := fun (w : World) (h : K W ([(b7, row 85 [.int .i64 (s : Nat), t.lv, t.ov])] :: [(b6, row 42 z42)] :: [(b3, row 42 h.cells)] :: ((T ++ (c :: N)) ++ G)) w) => h;refine c_seq (csr (sm ?_));refine sm ?_;refine sy (y_lenE tab rfl (hQ) rfl) ?_;refine sy (y_T (y_lss rfl rfl) (by omega)) ?_;refine snf (c_condT rfl (c_skip (f_then (c_seq (c_block (c_seq (csr (sm ?_))))))));refine sm ?_;refine sy (y_ixE tab rfl rfl rfl rfl (hQ) _ rfl (by omega)) ?_;refine sf0 ?_;refine sl (CellsAre.at0 (hrow) rfl) ?_;refine sm ?_;refine sy (y_F (y_eql rfl rfl) (by omega)) ?_;refine snf (c_condF rfl (c_skip (f_then (c_seq (c_plan [.c 0, .c 1, .c 2, .c 3, .c 4, .c 5, .c 6, .c 7, .s 8] [] ((K W ([(b7, row 85 [.int .i64 (s : Nat), t.lv, t.ov])] :: [(b6, row 42 z42)] :: [(b3, row 42 h.cells)] :: ((T ++ (c :: N)) ++ G)))) mixed (by kernel_rfl) rfl K.cl ?_)))));refine dy rfl (y_loadA tab rfl rfl rfl rfl (cells_row0 2 rfl rfl)) hD ?_;refine dy rfl (y_move rfl) hD ?_;refine dy rfl (y_move rfl) hD ?_;refine dy rfl (y_ixE tab rfl rfl rfl rfl (hQ) _ rfl (by omega)) hD ?_;refine dy rfl (y_loadA tab rfl rfl rfl rfl hrow) hD ?_;refine dy rfl (y_fieldAddrB tab 3 rfl rfl rfl rfl rfl) hD ?_;refine dy rfl (y_load tab rfl rfl (cell_row 2 rfl rfl)) hD ?_;refine dy rfl (y_len tab rfl rfl) hD ?_;refine d_call rfl (en_f rfl call102) hfr rfl rfl rfl (fun _ => K.cl) (fun _ _ _ h => h.tail) (fun _ => ?_);refine Sd.cls (C' := K W ([(b7, row 85 [.int .i64 (s : Nat), t.lv, t.ov])] :: [(b6, row 42 z42)] :: [(b3, row 42 h.cells)] :: ((T ++ (c :: N)) ++ G))) ?_ (fun w h => h.tail);rcases hok with ⟨hf, hok⟩ | ⟨hf, hok⟩
      · rw [if_pos hf] at hen;have hf : h.rb.free x (lks h.Q).length = true := by rw [hlh]; exact hf
        rw [hf];have hxt : 1 ≤ x.tx ∧ x.tx ≤ h.ts.length := rb_has.1 k2;obtain ⟨u, hu⟩ : ∃ u, h.ts[x.tx - 1]? = some u := ⟨h.ts[x.tx - 1]'(by omega), List.getElem?_eq_getElem (by omega)⟩;have hgr := grant_spec (W := W) (N := T ++ (c :: N)) (G := [(b7, row 85 [.int .i64 (s : Nat), t.lv, t.ov])] :: [(b6, row 42 z42)] :: [(b3, row 42 h.cells)] :: G) hR hxt hu (by rw [rb_tx hu] at k3; exact k3);refine d_nil (f_then (c_condT rfl (c_plan [.c 0, .c 1, .c 2, .c 3, .c 4, .s 5, .s 6] [6] (K W ([(b7, row 85 [.int .i64 (s : Nat), t.lv, t.ov])] :: [(b6, row 42 z42)] :: [(b3, row 42 h.cells)] :: ((T ++ (c :: N)) ++ G))) mixed (by kernel_rfl) rfl K.cl ?_)));refine dy rfl (y_loadA tab rfl rfl rfl rfl (cells_row0 2 rfl rfl)) hD ?_;refine dy rfl (y_move rfl) hD ?_;refine dy rfl (y_move rfl) hD ?_;refine dy rfl (y_ixE tab rfl rfl rfl rfl (hQ) _ rfl (by omega)) hD ?_;refine dy rfl (y_loadA tab rfl rfl rfl rfl hrow) hD ?_;refine Sd.cls (C' := K W ((T ++ (c :: N)) ++ ([(b7, row 85 [.int .i64 (s : Nat), t.lv, t.ov])] :: [(b6, row 42 z42)] :: [(b3, row 42 h.cells)] :: G))) ?_ (fun w h => K.mv3 h);refine d_call rfl (en_f rfl call103) hgr rfl rfl rfl (fun _ => K.cl) (fun _ _ _ h => K.mv3' (T := []) (K.bck h)) (fun y => ?_);obtain ⟨⟨h2, T2⟩, hR2, hb2⟩ := y;dsimp only at hR2 hb2 ⊢;refine Sd.cls (C' := K W ([(b7, row 85 [.int .i64 (s : Nat), t.lv, t.ov])] :: [(b6, row 42 z42)] :: [(b3, row 42 h.cells)] :: (((T2 ++ T) ++ (c :: N)) ++ G))) ?_ (fun w h => by
          have := K.mv3' h;rw [← List.append_assoc T2] at this;exact this)
        refine d_set rfl (set_aggB tab 2 rfl rfl rfl rfl rfl rfl rfl) rfl rfl K.cl (fun h => by cases h) ?_;refine d_nil (f_blockN (f_then (c_region (sm ?_))));refine sy (y_add rfl rfl (by omega)) ?_;refine sa ?_;refine s_nil ?_;exact f_roundP (i + 1, h2, T2 ++ T) ⟨c1, by rw [List.append_assoc]; exact hR2, by rw [hb2]; exact hen, by rw [hb2]; exact hok⟩ (by dsimp only; omega) ⟨rfl, rfl, rfl, rfl, rfl, trivial⟩ (fun w h => h)
      · rw [if_neg (by rw [hf]; decide)] at hen;have hf : h.rb.free x (lks h.Q).length = false := by rw [hlh]; exact hf
        rw [hf];refine d_nil (f_then (c_condF rfl ?_));obtain ⟨N0, hN0⟩ : ∃ N0, N0 = [(b7, row 85 [.int .i64 (s : Nat), t.lv, t.ov])] :: [(b6, row 42 z42)] :: [(b3, row 42 h.cells)] :: ((T ++ (c :: N)) ++ G) := ⟨_, rfl⟩;obtain ⟨F, hF⟩ : ∃ F : Option Nat → List Chunk, F = flo (fun b => [(b, row 111 (lkc x))]) := ⟨_, rfl⟩;clear hD;have hD : ∀ (A : List Chunk) (y : Option Nat) (w : World), K W (A ++ (F y ++ N0)) w → K W N0 w := fun A y w h => K.bck (K.bck h);have hEy : ∀ (A : List Chunk) (y : Option Nat), EV (K W (A ++ (F y ++ N0))) h.qv 4 (lks h.Q) := fun A y => hRc.q.cls fun w h => by
          have h2 := hD A y w h;rw [hN0] at h2;exact h2
        have hQ0 : EV (K W N0) g.qv 4 (lks g.Q) := by rw [hN0]; exact hQ
        have hrow0 := hQ0.row (lks_get hx);have hc3 : CellsAre (K W N0) ⟨b3, 0, none⟩ h.cells := by rw [hN0]; exact cells_row0 2 rfl rfl
        have hal : ∀ (A : List Chunk) {σ : Slots} {o : Oper}, Doos prog 65 σ (K W (A ++ N0)) o (fun b => Value.slice (some ⟨b, 0, none⟩) 1 1) (fun b => K W ([(b, row 111 (lkc x))] :: (A ++ N0))) → Outs prog 65 σ (K W (A ++ (F none ++ N0))) o (fun b => Value.slice (some ⟨b, 0, none⟩) 1 1) (fun b => K W (A ++ (F (some b) ++ N0))) := fun A σ o h => by
          rw [hF];exact h.outs.conv fun b w hk => K.bckN (A := [[(b, row 111 (lkc x))]]) (B := A) hk
        refine SC.cls (C' := K W ([] ++ (F none ++ N0))) ?_ (fun w h => by rw [hF, hN0]; exact h);refine c_planJL (Y := Nat) 8 61 (fun b => .slice (some ⟨b, 0, none⟩) 1 1) [.c 1, .c 2, .c 4, .c 5, .c 6, .c 7, .s 0, .s 3] [.s 9, .s 10, .s 11] [11] (K W N0) (fun y => K W ([] ++ (F y ++ N0))) mixed (by kernel_rfl) rfl K.cl ?_;refine j_c rfl (Qui.ylds (y_fieldAddrB tab 3 rfl rfl rfl rfl rfl)) rfl (fun _ => rfl) rfl rfl rfl rfl rfl (hD _) (fun _ => K.cl) ?_;refine j_c rfl (Qui.ylds (y_load tab rfl rfl (CellsAre.nth 3 hc3 rfl))) rfl (fun _ => rfl) rfl rfl rfl rfl rfl (hD _) (fun _ => K.cl) ?_;refine j_c rfl (Qui.ylds (y_move rfl)) rfl (fun _ => rfl) rfl rfl rfl rfl rfl (hD _) (fun _ => K.cl) ?_;refine j_c rfl (Qui.ylds (y_move rfl)) rfl (fun _ => rfl) rfl rfl rfl rfl rfl (hD _) (fun _ => K.cl) ?_;refine j_c rfl (Qui.ylds (y_ixE tab rfl rfl rfl rfl hQ0 _ rfl (by omega))) rfl (fun _ => rfl) rfl rfl rfl rfl rfl (hD _) (fun _ => K.cl) ?_;refine j_c rfl (Qui.ylds (y_loadA tab rfl rfl rfl rfl hrow0)) rfl (fun _ => rfl) rfl rfl rfl rfl rfl (hD _) (fun _ => K.cl) ?_;refine j_s (C' := fun b y => K W ([(b, row 111 [])] :: [] ++ (F y ++ N0))) rfl rfl (fun y => (do_buildSliceS (vs := []) (len := 0) (ps := []) tab ⟨rfl, rfl, rfl, rfl⟩ rfl rfl rfl rfl).outs) (hal [] (do_buildSliceS (vs := [lkv x]) (len := 1) (ps := [_]) tab ⟨rfl, rfl, rfl, rfl⟩ rfl rfl rfl rfl)) rfl (fun _ => rfl) rfl rfl rfl rfl rfl rfl rfl (fun _ => K.cl) (fun _ _ => K.cl) (hD _) (fun b y => hD [_] y) (fun b => ?_);refine j_s (X := { u : Value × Chunk // BufR 111 4 u.1 u.2 ([] ++ lks h.Q) }) (v := fun u => u.1.1) (C' := fun x y => K W ([x.1.2] ++ (F y ++ N0))) rfl rfl (fun y => (do_appendRV (by_ := 32) tab 0 rfl .lit rfl (hEy [_] y) ⟨rfl, rfl, rfl, rfl⟩ rfl (by omega) (Nat.lt_of_sub_eq_succ rfl) rfl (lks_all _) (by simp only [List.length_nil]; omega) (by omega)).outs) (hal [_] (do_buildSliceS (vs := [lkv x]) (len := 1) (ps := [_]) tab ⟨rfl, rfl, rfl, rfl⟩ rfl rfl rfl rfl)) rfl (fun _ => rfl) rfl rfl rfl rfl rfl rfl rfl (fun _ => K.cl) (fun _ _ => K.cl) (hD [_]) (fun x y => hD [_] y) (fun u => ?_);obtain ⟨⟨u, d⟩, hu⟩ := u;have hu : BufR 111 4 u d (lks h.Q) := hu;refine j_j rfl (hal [_] (do_buildSliceS (vs := [lkv x]) (len := 1) (ps := [_]) tab ⟨rfl, rfl, rfl, rfl⟩ rfl rfl rfl rfl)) rfl rfl rfl (fun _ => K.cl) (hD [_]) (fun b61 => ?_);refine Sd.cls (C' := K W (d :: [(b61, row 111 (lkc x))] :: [(b7, row 85 [.int .i64 (s : Nat), t.lv, t.ov])] :: [(b6, row 42 z42)] :: [(b3, row 42 h.cells)] :: ((T ++ (c :: N)) ++ G))) ?_ (fun w h => by
          rw [hF, hN0] at h;exact h)
        refine d_s rfl (do_appendR (by_ := 32) (news := lkc x) tab 0 rfl hu rfl ⟨rfl, rfl, rfl, rfl⟩ rfl (by simp) rfl (cells_row0 1 rfl rfl) rfl rfl (by omega) (by omega)) rfl rfl rfl (fun _ => K.cl) (fun _ _ w h => by rw [hN0]; exact h.tail.tail) (fun y => ?_);obtain ⟨⟨u2, d2⟩, hu2⟩ := y;have hu2 : BufR 111 4 u2 d2 (lks (h.Q ++ [x])) := hu2.of (by simp);dsimp only;obtain ⟨pv, kv, rfl, _, _⟩ := (hu2.view (C := K W (d2 :: [])) (Hs.at 0 rfl)).view;refine d_sy rfl (y_fieldAddrB tab 3 rfl rfl rfl rfl rfl) rfl rfl rfl K.cl (fun _ w h => by rw [hN0]; exact h.tail.tail) ?_;refine d_set rfl (set_rowB tab 4 rfl rfl rfl rfl rfl rfl) rfl rfl K.cl (fun h => by cases h) ?_;refine d_nil ?_;have hRq : RV (K W ((d2 :: T) ++ (c :: N))) (h.setQ (h.Q ++ [x]) ⟨pv, kv⟩) := hR.setQ (fun w h => h.tail) (hu2.view (Hs.at 0 rfl));clear hal hEy hD hc3 hQ0 hrow0;refine f_blockN (f_then (c_region (sm ?_)));refine sy (y_add rfl rfl (by omega)) ?_;refine sa ?_;refine s_nil ?_;exact f_roundP (i + 1, h.setQ (h.Q ++ [x]) ⟨pv, kv⟩, d2 :: T) ⟨c1, hRq, hen, hok⟩ (by dsimp only; omega) ⟨rfl, rfl, rfl, rfl, rfl, trivial⟩ (fun w h => K.mv5 h)
  · obtain rfl : i = g.Q.length := by omega
    rw [List.drop_length] at hen;refine c_seq (csr (sm ?_));refine sm ?_;refine sy (y_lenE tab rfl (hQ) rfl) ?_;refine sy (y_F (y_lss rfl rfl) (by omega)) ?_;refine snf (c_condF rfl (c_exit (f_thenE (f_rndE (f_blockE (f_then (csr (sy (y_loadA tab rfl rfl rfl rfl (cells_row0 2 rfl rfl)) ?_))))))));refine ss (set_box tab 1 rfl rfl rfl rfl rfl rfl rfl) ?_;refine snf (c_ret ?_);exact f_ret ⟨(h, T ++ [c]), by rw [List.append_assoc]; exact hR, hen⟩ (resA tab rfl rfl rfl rfl rfl (cells_row0 1 rfl rfl)) (fun w h => by
      have := h.tail.tail.tail;rw [List.append_assoc];rw [List.append_assoc] at this;exact this)
end
end Go.KL
end

section
/- The document's book and the program's stay the same: Begin, Abort, Commit; plain. No program in sight. -/
namespace Go.KL
namespace Sm
variable {A : Bk} {b : RB} {m : Nat}
abbrev qs (b : RB) (Q : List Lk) : RB := ⟨b.size, b.C, b.T, Q, b.D⟩
theorem free_qs {b : RB} {Q : List Lk} {x : Lk} : (qs b (b.Q ++ Q)).free x b.Q.length = b.free x b.Q.length := by
  unfold RB.free;rw [List.take_left, List.take_length];rfl
theorem endl_gr {k : Nat} : ∀ (L : List Lk) (l : List Nat) (A : Bk) (b : RB) (st : List Nat), (A.wq (st ++ l)).Inv m → Sm (A.wq (st ++ l)) (qs b (b.Q ++ l.map fun j => (A.tx j).req)) →
    b.Q = (st.map fun j => (A.tx j).req) → (L.filter fun x => !decide (x.tx = k)) = (l.map fun j => (A.tx j).req) →
    Sm ((Bk.gr A l st).1.wq (Bk.gr A l st).2) (RB.endl k L b) ∧ RB.EndOK k L b
  | [], l, A, b, st, hI, hS, hQ, hL => by
    have : l = [] := by
      cases l with
      | nil => rfl
      | cons a l => simp at hL
    subst this;rw [List.append_nil, List.map_nil, List.append_nil] at hS;exact ⟨hS, trivial⟩
  | x :: L, l, A, b, st, hI, hS, hQ, hL => by
    by_cases c : x.tx = k
    · rw [List.filter_cons, if_neg (by simp [c])] at hL;obtain ⟨h1, h2⟩ := endl_gr L l A b st hI hS hQ hL;rw [RB.endl, if_pos c];exact ⟨h1, .inl ⟨c, h2⟩⟩
    · rw [List.filter_cons, if_pos (by simp [c])] at hL;obtain ⟨j, l', rfl, hx, hL⟩ : ∃ j l', l = j :: l' ∧ x = (A.tx j).req ∧ (L.filter fun x => !decide (x.tx = k)) = (l'.map fun j => (A.tx j).req) := by
        cases l with
        | nil => simp at hL
        | cons j l' =>
          rw [List.map_cons] at hL;exact ⟨j, l', rfl, (List.cons.inj hL).1, (List.cons.inj hL).2⟩
      have hjq : j ∈ (A.wq (st ++ j :: l')).q := List.mem_append_right _ (List.mem_cons_self ..);obtain ⟨hj1, hj2, _⟩ := hI.rq j hjq;have hj1 : (A.tx j).req.tx = j := hj1;have hj2 : (A.tx j).req.lo < (A.tx j).req.hi := hj2;have hh : (A.wq (st ++ j :: l')).has j := hI.qhas hjq;have hr : j ∈ A.rn := hI.qrn hjq;have hb : b.has j := hS.has.2 hh;have hxj : x.tx = j := by rw [hx]; exact hj1
      have hlen : b.Q.length = st.length := by rw [hQ, List.length_map]
      have hfr : b.free x b.Q.length = A.free (A.tx j).req st := by
        have := hS.free hI (x := x) (by rw [hx]; exact hj2) b.Q.length;rw [free_qs] at this;rw [this, hlen, hx];show A.free (A.tx j).req ((st ++ j :: l').take st.length) = _;rw [List.take_left]
      have hnd := (nodup_mid (l := l') (k := j) (st := st) hI.qnd).1;have hcn : b.count < 100000 := by
        have h1 := hS.count hI;have h2 := hI.cnt;unfold RB.count at h1 ⊢;have h3 : (qs b (b.Q ++ (j :: l').map fun j => (A.tx j).req)).locks = b.locks := rfl;have h4 : b.Q.length ≤ (qs b (b.Q ++ (j :: l').map fun j => (A.tx j).req)).Q.length := by
          show _ ≤ (b.Q ++ _).length;rw [List.length_append];omega
        rw [h3] at h1;omega
      have hrun := hS.run j hr;have hrun1 : (b.tx j).locks = (A.tx j).locks := hrun.1;have hrun2 : (b.tx j).ops = (A.tx j).ops := hrun.2;have hll : (b.tx x.tx).locks.length < 100000 := by
        rw [hxj, hrun1];have h2 := hI.cnt;unfold Bk.count at h2;have h3 : (A.tx j).locks.length ≤ (A.rn.map fun k => (A.tx k).locks.length).sum := sum_mem (f := fun k => (A.tx k).locks.length) hr;have h4 : ((A.wq (st ++ j :: l')).rn.map fun k => ((A.wq (st ++ j :: l')).tx k).locks.length).sum = (A.rn.map fun k => (A.tx k).locks.length).sum := rfl;rw [h4] at h2;omega
      have hqn : b.Q.length < 100000 := by
        unfold RB.count at hcn;omega
      rw [RB.endl, if_neg c];cases hf : A.free (A.tx j).req st with
      | true =>
        rw [hf] at hfr;rw [if_pos hfr];have e : Bk.gr A (j :: l') st = Bk.gr (A.grant j) l' st := by rw [Bk.gr, if_pos hf]
        rw [e];have hI2 := Bk.grant_inv hI hf;have hreq : ∀ i ∈ st ++ l', ((A.grant j).tx i).req = (A.tx i).req := fun i hi => by
          have hne : i ≠ j := fun e => hnd (e ▸ hi);have hin : i ∈ (A.wq (st ++ j :: l')).q := Bk.mem_mid.2 (.inr hi);have hhi : (A.wq (st ++ j :: l')).has i := hI.qhas hin;rw [Bk.grant_tx (A := A) hh hhi, if_neg hne]
        have hm1 : (st.map fun i => ((A.grant j).tx i).req) = (st.map fun i => (A.tx i).req) := List.map_congr_left fun i hi => hreq i (List.mem_append_left _ hi);have hm2 : (l'.map fun i => ((A.grant j).tx i).req) = (l'.map fun i => (A.tx i).req) := List.map_congr_left fun i hi => hreq i (List.mem_append_right _ hi);have hup := hS.upd hI (k := j) (t := ⟨1, (A.tx j).locks ++ [(A.tx j).req], Lk.zero, (A.tx j).ops⟩) (u := ⟨1, (b.tx j).locks ++ [x], (b.tx j).ops⟩) (q := st ++ l') (W := A.W) (Q := b.Q ++ l'.map fun i => ((A.grant j).tx i).req) hh rfl (fun _ => ⟨by rw [hrun1, hx], hrun2⟩) (by
          rw [hm2, hQ, ← List.map_append];refine List.map_congr_left fun i hi => ?_;rw [if_neg (show i ≠ j from fun e => hnd (e ▸ hi))];rfl) (fun i hi => hI.qhas (Bk.mem_mid.2 (.inr hi)))
        have hbg : b.grant x = b.put j ⟨1, (b.tx j).locks ++ [x], (b.tx j).ops⟩ := by rw [RB.grant, hxj]
        obtain ⟨h1, h2⟩ := endl_gr L l' (A.grant j) (b.grant x) st hI2 (by
          rw [hbg];exact hup) (by
          rw [hm1];exact hQ) (by rw [hm2]; exact hL)
        exact ⟨h1, .inr ⟨c, hcn, by rw [hxj]; exact hb, hll, hqn, .inl ⟨hfr, h2⟩⟩⟩
      | false =>
        rw [hf] at hfr;rw [if_neg (by rw [hfr]; decide)];have e : Bk.gr A (j :: l') st = Bk.gr A l' (st ++ [j]) := by rw [Bk.gr, if_neg (by rw [hf]; decide)]
        rw [e];have ea : st ++ j :: l' = (st ++ [j]) ++ l' := by simp
        obtain ⟨h1, h2⟩ := endl_gr L l' A (qs b (b.Q ++ [x])) (st ++ [j]) (by rw [← ea]; exact hI) (by
          rw [← ea];have ex : qs (qs b (b.Q ++ [x])) ((qs b (b.Q ++ [x])).Q ++ l'.map fun j => (A.tx j).req) = qs b (b.Q ++ (j :: l').map fun j => (A.tx j).req) := by
            simp [qs, hx]
          rw [ex];exact hS) (by
          show b.Q ++ [x] = _;rw [hQ, List.map_append, hx];rfl) hL
        exact ⟨h1, .inr ⟨c, hcn, by rw [hxj]; exact hb, hll, hqn, .inr ⟨hfr, h2⟩⟩⟩
theorem ended (h : Sm A b) {k s : Nat} {r : Lk} {C W : Nat → Nat} {lg : List (Nat × List Oa)} {u : RT} (hk : A.has k) (hs : u.st = s) (hI : A.Inv m) (hE : (A.ended k s r C W lg).Inv m) :
    Sm (A.ended k s r C W lg).fin (RB.endl k b.Q ⟨b.size, C, (b.put k u).T, [], lg⟩) ∧ RB.EndOK k b.Q ⟨b.size, C, (b.put k u).T, [], lg⟩ := by
  have hkb := h.has.2 hk;have hb : ∀ {j}, A.has j → (⟨b.size, C, (b.put k u).T, [], lg⟩ : RB).tx j = if j = k then u else b.tx j := fun hj => RB.tx_put hkb (h.has.2 hj);refine endl_gr b.Q (A.ended k s r C W lg).q (A.ended k s r C W lg) ⟨b.size, C, (b.put k u).T, [], lg⟩ [] hE ?_ rfl ?_
  · refine ⟨h.size, rfl, ?_, fun j hj => ?_, fun j hj => ?_, ?_, rfl⟩
    · show (b.T.set _ _).length = (A.ts.set _ _).length;rw [List.length_set, List.length_set, h.len]
    · have hj' : A.has j := Bk.ended_has.1 hj;show ((⟨b.size, C, (b.put k u).T, [], lg⟩ : RB).tx j).st = ((A.ended k s r C W lg).tx j).st;rw [hb hj', Bk.ended_tx hk hj'];split
      · exact hs
      · exact h.st j hj'
    · obtain ⟨hj1, hne⟩ := Bk.mem_ne.1 (show j ∈ A.rn.filter fun j => !decide (j = k) from hj);have hj' := hI.has hj1;show ((⟨b.size, C, (b.put k u).T, [], lg⟩ : RB).tx j).locks = ((A.ended k s r C W lg).tx j).locks ∧ ((⟨b.size, C, (b.put k u).T, [], lg⟩ : RB).tx j).ops = ((A.ended k s r C W lg).tx j).ops;rw [hb hj', Bk.ended_tx hk hj', if_neg hne, if_neg hne];exact h.run j hj1
    · show [] ++ _ = _;rfl
  · show (b.Q.filter fun x => !decide (x.tx = k)) = ((A.q.filter fun j => !decide (j = k)).map fun j => ((A.ended k s r C W lg).tx j).req);rw [h.Q, Bk.reqs, List.filter_map];have e1 : (A.q.filter ((fun x : Lk => !decide (x.tx = k)) ∘ fun j => (A.tx j).req)) = (A.q.filter fun j => !decide (j = k)) := List.filter_congr fun j hj => by
      show (!decide ((A.tx j).req.tx = k)) = _;rw [(hI.rq j hj).1]
    rw [e1];refine List.map_congr_left fun j hj => ?_;obtain ⟨hj1, hne⟩ := Bk.mem_ne.1 hj;rw [Bk.ended_tx hk (hI.qhas hj1), if_neg hne]
theorem abort (h : Sm A b) {k : Nat} (hk : A.has k) (hI : A.Inv m) : Sm (A.abort k) (b.end_ k 4) ∧ RB.EndOK k b.Q ⟨b.size, b.C, (b.put k ⟨4, (b.tx k).locks, (b.tx k).ops⟩).T, [], b.D⟩ := by
  rw [Bk.abort_eq hk];have := h.ended (C := A.C) (W := KL.un A.W (A.tx k).ops) (lg := A.log) (r := Lk.zero) (s := 4) (u := ⟨4, (b.tx k).locks, (b.tx k).ops⟩) hk rfl hI (hI.ab hk);rw [← h.C, ← h.D] at this ⊢;exact this
theorem commit (h : Sm A b) {k : Nat} (hr : k ∈ A.rn) (hI : A.Inv m) : Sm (A.commit k) (b.commit k) ∧ RB.EndOK k b.Q ⟨b.size, ap b.C (b.tx k).ops, (b.put k ⟨3, (b.tx k).locks, (b.tx k).ops⟩).T, [], b.D ++ [(k, (b.tx k).ops)]⟩ := by
  have hk := hI.has hr;rw [Bk.commit_eq hk];have := h.ended (C := ap A.C (A.tx k).ops) (W := A.W) (lg := A.log ++ [(k, (A.tx k).ops)]) (r := (A.tx k).req) (s := 3) (u := ⟨3, (b.tx k).locks, (b.tx k).ops⟩) hk rfl hI (hI.cm hk hr);rw [← h.C, ← h.D, ← (h.run k hr).2] at this ⊢;exact this
theorem begin (h : Sm A b) (hI : A.Inv m) : Sm A.begin b.begin := by
  have hl := h.len;have htb : ∀ {j}, A.has j → b.begin.tx j = b.tx j := fun {j} hj => by
    unfold Bk.has at hj;unfold RB.tx RB.begin;rw [List.getD_eq_getElem?_getD, List.getD_eq_getElem?_getD, List.getElem?_append_left (by omega)]
  have hnb : b.begin.tx (A.ts.length + 1) = ⟨1, [], []⟩ := by
    unfold RB.tx RB.begin;rw [List.getD_eq_getElem?_getD, List.getElem?_append_right (by omega), show A.ts.length + 1 - 1 - b.T.length = 0 from by omega];rfl
  refine ⟨h.size, h.C, by simp [RB.begin, Bk.begin, hl], fun j hj => ?_, fun j hj => ?_, ?_, h.D⟩
  · rcases Bk.begin_has.1 hj with c | rfl
    · rw [htb c, Bk.begin_tx c]; exact h.st j c
    · rw [hnb, Bk.begin_new]; rfl
  · rcases List.mem_append.1 (show j ∈ A.rn ++ [A.ts.length + 1] from hj) with c | c
    · have := hI.has c;rw [htb this, Bk.begin_tx this];exact h.run j c
    · rw [List.mem_singleton.1 c, hnb, Bk.begin_new];exact ⟨rfl, rfl⟩
  · show b.Q = A.q.map fun j => (A.begin.tx j).req;rw [h.Q, Bk.reqs];exact List.map_congr_left fun j hj => by rw [Bk.begin_tx (hI.qhas hj)]
end Sm
end Go.KL
end

section
/- Walks: Abort of the document's book. -/
namespace Go.KL
open Go.Proofs Go.Proofs.Tryz
theorem K.mv2 {W w : World} {N G : List Chunk} {a b : Chunk} (h : K W (a :: b :: (N ++ G)) w) : K W (N ++ (a :: b :: G)) w := K.perm h fun x _ => by
  simp only [List.count_append, List.count_cons];omega
theorem K.mv2' {W w : World} {T N G : List Chunk} {a b : Chunk} (h : K W (T ++ (N ++ (a :: b :: G))) w) : K W (a :: b :: (T ++ (N ++ G))) w := K.perm h fun x _ => by
  simp only [List.count_append, List.count_cons];omega
def RB.Ab (b : RB) (k : Int) (b' : RB) (e : Nat) : Prop := (b.ref k false ≠ 0 ∧ b' = b ∧ e = b.ref k false) ∨ (b.ref k false = 0 ∧ e = 0 ∧ ∃ j : Nat, k = j ∧ b' = b.end_ j 4)
attribute [local irreducible] SC St Fin Sq Ylds Doos Sets Enters Spec CellIs CellsAre Then Ret Rnd Chn resOK ints bools recs arr
section
variable {W : World} {N G : List Chunk} {g : Rg}
theorem RAbort_spec (hV : RV (K W N) g) {k : Int} (h5 : g.rb.stI k < 5) (hq : g.Q.length < 100000) (hE0 : ∀ (j : Nat) (t : Dt), k = j → g.rb.ref k false = 0 → g.ts[j - 1]? = some t → RB.EndOK j g.Q ⟨g.size, g.C, (g.rb.put j ⟨4, t.locks, ops t.os⟩).T, [], g.rb.D⟩) : Spec prog 50 #[g.val, .int .i64 k] (K W (N ++ G))
    (X := { y : Rg × List Chunk × Nat // RV (K W (y.2.1 ++ N)) y.1 ∧ g.rb.Ab k y.1.rb y.2.2 }) (fun y => .tuple #[y.1.1.val, .int .i64 (y.1.2.2 : Nat)]) (fun y => K W (y.1.2.1 ++ (N ++ G))) := by
  have hVG : RV (K W (N ++ G)) g := hV.cls fun _ h => K.pre h;refine enter (args := [_, _]) func50 rfl ntmps50 rfl ?_;refine csr (sbx fun b2 => ?_);refine sal fun b4 => ?_;refine sa ?_;refine snf (csr (sy (y_loadA tab rfl rfl rfl rfl (cells_row0 1 rfl rfl)) ?_));refine sm ?_;refine sk call83 (refused_spec hVG.cons.cons h5) fun _ => ?_;obtain ⟨e, he⟩ : ∃ e, g.rb.ref k false = e := ⟨_, rfl⟩;rw [he];by_cases c : e = 0
  · subst c;have hst : 1 ≤ k ∧ k ≤ g.ts.length := by
      refine Classical.byContradiction fun hc => ?_;have h0 : g.rb.stI k = 0 := by rw [RB.stI, if_neg (by simp only [Rg.rb, List.length_map]; exact hc)]
      rw [RB.ref, if_pos h0] at he;cases he
    obtain ⟨j, rfl⟩ : ∃ j : Nat, k = j := ⟨k.toNat, by omega⟩;obtain ⟨t, ht⟩ : ∃ t, g.ts[j - 1]? = some t := ⟨g.ts[j - 1]'(by omega), List.getElem?_eq_getElem (by omega)⟩;have hen := end_spec (W := W) (G := [(b4, row 42 z42)] :: [(b2, row 42 g.cells)] :: G) (s := 4) hV (by omega) ht hq (hE0 j t rfl he ht);refine sa ?_;refine snf (c_seq (csr (sm ?_)));refine sy (y_F (y_neq rfl rfl) (by omega)) ?_;refine snf (c_condF rfl (c_skip (f_then (csr (sy (y_loadA tab rfl rfl rfl rfl (cells_row0 1 rfl rfl)) ?_)))));refine sm ?_;refine St.cls (C' := K W (N ++ ([(b4, row 42 z42)] :: [(b2, row 42 g.cells)] :: G))) ?_ (fun w h => K.mv2 h);refine sk call87 hen fun y => ?_;obtain ⟨⟨g2, T⟩, hR2, hb2⟩ := y;dsimp only at hR2 hb2 ⊢;refine St.cls (C' := K W ([(b4, row 42 z42)] :: [(b2, row 42 g.cells)] :: (T ++ (N ++ G)))) ?_ (fun w h => K.mv2' h);refine ss (set_box tab 0 rfl rfl rfl rfl rfl rfl rfl) ?_;refine sa ?_;refine snf (c_ret ?_);exact f_ret ⟨(g2, T, 0), hR2, .inr ⟨he, rfl, j, rfl, hb2⟩⟩ (resA1 tab rfl rfl rfl rfl rfl rfl (cells_row0 0 rfl rfl)) (fun w h => h.tail.tail)
  · refine sa ?_;refine snf (c_seq (csr (sm ?_)));refine sy (y_T (y_neq rfl rfl) (by omega)) ?_;refine snf (c_condT rfl (csr (sy (y_loadA tab rfl rfl rfl rfl (cells_row0 1 rfl rfl)) ?_)));refine sm ?_;refine ss (set_box tab 0 rfl rfl rfl rfl rfl rfl rfl) ?_;refine sa ?_;refine snf (c_ret (f_thenR ?_));exact f_ret ⟨(g, [], e), hV, .inl ⟨by rw [he]; exact c, rfl, he.symm⟩⟩ (resA1 tab rfl rfl rfl rfl rfl rfl (cells_row0 0 rfl rfl)) (fun w h => h.tail.tail)
end
end Go.KL
end

section
/- Walks: Commit of the document's book. -/
namespace Go.KL
open Go.Proofs Go.Proofs.Tryz
def Rg.setM (g : Rg) (C : Nat → Nat) (m : Wh) : Rg := ⟨g.size, C, m, g.ts, g.t, g.Q, g.q, g.ds, g.d⟩
def Rg.setD (g : Rg) (ds : List Lg) (d : Wh) : Rg := ⟨g.size, g.C, g.m, g.ts, g.t, g.Q, g.q, ds, d⟩
theorem RV.setM {C D : World → Prop} {g : Rg} {f : Nat → Nat} {u : Wh} (h : RV C g) (hD : ∀ w, D w → C w) (hm : RMp D (.slice u.p (rnl (rns f 0 g.size)).length u.c) g.size f) : RV D (g.setM f u) := ⟨hm, h.t.cls hD, fun t ht => (h.tx t ht).cls hD, h.q.cls hD, h.d.cls hD, fun x hx => ⟨(h.dx x hx).1.cls hD, fun o ho => ((h.dx x hx).2 o ho).cls hD⟩, h.n⟩
theorem RV.setD {C D : World → Prop} {g : Rg} {ds : List Lg} {u : Wh} (h : RV C g) (hD : ∀ w, D w → C w) (hv : EV D (.slice u.p (lgr ds).length u.c) 2 (lgr ds)) (hx : ∀ x ∈ ds, EV D x.2.1 6 (opl x.2.2) ∧ ∀ o ∈ x.2.2, EV D o.2 3 (rnl o.1.runs)) : RV D (g.setD ds u) := ⟨h.m.cls hD, h.t.cls hD, fun t ht => (h.tx t ht).cls hD, h.q.cls hD, hv, hx, h.n⟩
theorem lgr_one {C : World → Prop} {ds : List Lg} (h : ∀ x ∈ ds, EV C x.2.1 6 (opl x.2.2) ∧ ∀ o ∈ x.2.2, EV C o.2 3 (rnl o.1.runs)) : ∀ r ∈ lgr ds, r.all Value.oneCell' = true := fun r hr => by
  obtain ⟨x, hx, rfl⟩ := List.mem_map.1 hr;obtain ⟨pa, c, e, _, _⟩ := (h x hx).1.view;rw [e];rfl
theorem K.mv6 {W w : World} {T N G : List Chunk} {d e a b : Chunk} (h : K W (d :: e :: a :: b :: (T ++ (N ++ G))) w) : K W ((d :: (T ++ N)) ++ (a :: b :: G)) w := (K.perm (B := e :: ((d :: (T ++ N)) ++ (a :: b :: G))) h fun x _ => by
  simp only [List.count_append, List.count_cons];omega).tail
def RB.Cm (b : RB) (k : Int) (b' : RB) (n e : Nat) : Prop := (b.ref k true ≠ 0 ∧ b' = b ∧ n = 0 ∧ e = b.ref k true) ∨ (b.ref k true = 0 ∧ e = 0 ∧ n = b.D.length + 1 ∧ ∃ j : Nat, k = j ∧ b' = b.commit j)
attribute [local irreducible] SC St Fin Sq Ylds Doos Sets Enters Spec CellIs CellsAre Then Ret Rnd Chn resOK ints bools recs arr
section
variable {W : World} {N G : List Chunk} {g : Rg}
theorem RCommit_spec (hV : RV (K W N) g) {k : Int} (h5 : g.rb.stI k < 5) (hq : g.Q.length < 100000) (hds : g.ds.length < 100000)
    (hT : ∀ (j : Nat) (t : Dt), k = j → g.rb.ref k true = 0 → g.ts[j - 1]? = some t → Rep g.size g.C (ops t.os) ∧ (∀ i, nbd (ap g.C ((ops t.os).take i)) g.size ≤ 4096) ∧ t.os.length < 100000 ∧ RB.EndOK j g.Q ⟨g.size, ap g.C (ops t.os), (g.rb.put j ⟨3, t.locks, ops t.os⟩).T, [], g.rb.D ++ [(j, ops t.os)]⟩) : Spec prog 49 #[g.val, .int .i64 k] (K W (N ++ G))
    (X := { y : Rg × List Chunk × Nat × Nat // RV (K W (y.2.1 ++ N)) y.1 ∧ g.rb.Cm k y.1.rb y.2.2.1 y.2.2.2 }) (fun y => .tuple #[y.1.1.val, .int .i64 (y.1.2.2.1 : Nat), .int .i64 (y.1.2.2.2 : Nat)]) (fun y => K W (y.1.2.1 ++ (N ++ G))) := by
  have hVG : RV (K W (N ++ G)) g := hV.cls fun _ h => K.pre h;have hdl : (dtl g.ts).length = g.ts.length := List.length_map _;have hgl : (lgr g.ds).length = g.ds.length := List.length_map _;have hn := hV.n;refine enter (args := [_, _]) func49 rfl ntmps49 rfl ?_;refine csr (sbx fun b2 => ?_);refine sal fun b4 => ?_;refine sa ?_;refine sa ?_;refine snf (csr (sy (y_loadA tab rfl rfl rfl rfl (cells_row0 1 rfl rfl)) ?_));refine sm ?_;refine sk call83 (refused_spec hVG.cons.cons h5) fun _ => ?_;obtain ⟨e, he⟩ : ∃ e, g.rb.ref k true = e := ⟨_, rfl⟩;rw [he];by_cases c : e = 0
  · subst c;have hst : 1 ≤ k ∧ k ≤ g.ts.length := by
      refine Classical.byContradiction fun hc => ?_;have h0 : g.rb.stI k = 0 := by rw [RB.stI, if_neg (by simp only [Rg.rb, List.length_map]; exact hc)]
      rw [RB.ref, if_pos h0] at he;cases he
    obtain ⟨j, rfl⟩ : ∃ j : Nat, k = j := ⟨k.toNat, by omega⟩;obtain ⟨jx, hjx⟩ : ∃ jx, jx = j - 1 := ⟨_, rfl⟩;obtain ⟨t, ht⟩ : ∃ t, g.ts[j - 1]? = some t := ⟨g.ts[j - 1]'(by omega), List.getElem?_eq_getElem (by omega)⟩;have htj := ht;rw [← hjx] at htj;have htm := List.mem_of_getElem? ht;obtain ⟨t1, t2, t3, t4⟩ := hT j t rfl he ht;have hvw := View_spec (W := W) (G := [(b4, row 42 z42)] :: [(b2, row 42 g.cells)] :: G) hV (k := j) (by omega) ht t1 t2 (by omega);refine sa ?_;refine snf (c_seq (csr (sm ?_)));refine sy (y_F (y_neq rfl rfl) (by omega)) ?_;refine snf (c_condF rfl (c_skip (f_then (csr (sy (y_loadA tab rfl rfl rfl rfl (cells_row0 1 rfl rfl)) ?_)))));refine sm ?_;refine St.cls (C' := K W (N ++ ([(b4, row 42 z42)] :: [(b2, row 42 g.cells)] :: G))) ?_ (fun w h => K.mv2 h);refine sk call85 hvw fun y => ?_;obtain ⟨⟨vm, T⟩, hRm⟩ := y;dsimp only at hRm ⊢;obtain ⟨pm, km, rfl, _, _⟩ := hRm.v.view;have hR1 : RV (K W (T ++ N)) (g.setM (ap g.C (ops t.os)) ⟨pm, km⟩) := hV.setM (fun w h => K.bck h) hRm;refine St.cls (C' := K W ([(b4, row 42 z42)] :: [(b2, row 42 g.cells)] :: (T ++ (N ++ G)))) ?_ (fun w h => K.mv2' h);refine sf0 ?_;refine ss (set_aggB tab 1 rfl rfl rfl rfl rfl rfl rfl) ?_;refine snf (c_seq ?_);obtain ⟨N0, hN0⟩ : ∃ N0, N0 = [(b4, row 42 z42)] :: [(b2, row 42 [.int .i64 (g.size : Nat), .slice pm (rnl (rns (ap g.C (ops t.os)) 0 g.size)).length km, g.tv, g.qv, g.dv])] :: (T ++ (N ++ G)) := ⟨_, rfl⟩;have hVc : RV (K W N0) g := by rw [hN0]; exact hV.cls fun w h => K.pre (K.bck h.tail.tail)
    obtain ⟨F, hF⟩ : ∃ F : Option Nat → List Chunk, F = flo (fun b => [(b, row 58 [.int .i64 (j : Nat), t.ov])]) := ⟨_, rfl⟩;have hD : ∀ (A : List Chunk) (y : Option Nat) (w : World), K W (A ++ (F y ++ N0)) w → K W N0 w := fun A y w h => K.bck (K.bck h);have hEy : ∀ (A : List Chunk) (y : Option Nat), EV (K W (A ++ (F y ++ N0))) g.dv 2 (lgr g.ds) := fun A y => hVc.d.cls (hD A y);have hE0 := hVc.t;have hrow0 := hE0.row (i := jx) (x := t.cells) (by simp [htj]);have hc2 : CellsAre (K W N0) ⟨b2, 0, none⟩ [.int .i64 (g.size : Nat), .slice pm (rnl (rns (ap g.C (ops t.os)) 0 g.size)).length km, g.tv, g.qv, g.dv] := by rw [hN0]; exact cells_row0 1 rfl rfl
    have hone := lgr_one hVc.dx;have hal : ∀ (A : List Chunk) {σ : Slots} {o : Oper}, Doos prog 41 σ (K W (A ++ N0)) o (fun b => Value.slice (some ⟨b, 0, none⟩) 1 1) (fun b => K W ([(b, row 58 [.int .i64 (j : Nat), t.ov])] :: (A ++ N0))) → Outs prog 41 σ (K W (A ++ (F none ++ N0))) o (fun b => Value.slice (some ⟨b, 0, none⟩) 1 1) (fun b => K W (A ++ (F (some b) ++ N0))) := fun A σ o h => by
      rw [hF];exact h.outs.conv fun b w hk => K.bckN (A := [[(b, row 58 [.int .i64 (j : Nat), t.ov])]]) (B := A) hk
    refine SC.cls (C' := K W ([] ++ (F none ++ N0))) ?_ (fun w h => by rw [hF, hN0]; exact h);refine c_planJL (Y := Nat) 13 32 (fun b => .slice (some ⟨b, 0, none⟩) 1 1) [.c 1, .c 2, .c 4, .c 5, .c 6, .c 7, .c 8, .c 9, .c 10, .c 11, .c 12, .s 0, .s 3] [.s 14, .s 15, .s 16] [16] (K W N0) (fun y => K W ([] ++ (F y ++ N0))) mixed (by kernel_rfl) rfl K.cl ?_;refine j_c rfl (Qui.ylds (y_fieldAddrB tab 4 rfl rfl rfl rfl rfl)) rfl (fun _ => rfl) rfl rfl rfl rfl rfl (hD _) (fun _ => K.cl) ?_;refine j_c rfl (Qui.ylds (y_load tab rfl rfl (CellsAre.nth 4 hc2 rfl))) rfl (fun _ => rfl) rfl rfl rfl rfl rfl (hD _) (fun _ => K.cl) ?_;refine j_c rfl (Qui.ylds (y_move rfl)) rfl (fun _ => rfl) rfl rfl rfl rfl rfl (hD _) (fun _ => K.cl) ?_;refine j_c rfl (Qui.ylds (y_fieldAddrB tab 2 rfl rfl rfl rfl rfl)) rfl (fun _ => rfl) rfl rfl rfl rfl rfl (hD _) (fun _ => K.cl) ?_;refine j_c rfl (Qui.ylds (y_load tab rfl rfl (CellsAre.nth 2 hc2 rfl))) rfl (fun _ => rfl) rfl rfl rfl rfl rfl (hD _) (fun _ => K.cl) ?_;refine j_c rfl (Qui.ylds (y_move rfl)) rfl (fun _ => rfl) rfl rfl rfl rfl rfl (hD _) (fun _ => K.cl) ?_;refine j_c rfl (Qui.ylds (y_sub rfl rfl (by omega))) rfl (fun _ => rfl) rfl rfl rfl rfl rfl (hD _) (fun _ => K.cl) ?_;refine j_c rfl (Qui.ylds (y_ixE tab rfl rfl rfl rfl hE0 jx (by omega) (by omega))) rfl (fun _ => rfl) rfl rfl rfl rfl rfl (hD _) (fun _ => K.cl) ?_;refine j_c rfl (Qui.ylds (y_fieldAddr tab 2 rfl rfl rfl rfl rfl)) rfl (fun _ => rfl) rfl rfl rfl rfl rfl (hD _) (fun _ => K.cl) ?_;refine j_c rfl (Qui.ylds (y_load tab rfl rfl (CellsAre.nth 2 hrow0 rfl))) rfl (fun _ => rfl) rfl rfl rfl rfl rfl (hD _) (fun _ => K.cl) ?_;refine j_c rfl (Qui.ylds (y_build tab rfl rfl rfl rfl rfl)) rfl (fun _ => rfl) rfl rfl rfl rfl rfl (hD _) (fun _ => K.cl) ?_;refine j_s (C' := fun b y => K W ([(b, row 58 [])] :: [] ++ (F y ++ N0))) rfl rfl (fun y => (do_buildSliceS (vs := []) (len := 0) (ps := []) tab ⟨rfl, rfl, rfl, rfl⟩ rfl rfl rfl rfl).outs) (hal [] (do_buildSliceS (vs := [.agg #[.int .i64 (j : Nat), t.ov]]) (len := 1) (ps := [_]) tab ⟨rfl, rfl, rfl, rfl⟩ rfl rfl rfl rfl)) rfl (fun _ => rfl) rfl rfl rfl rfl rfl rfl rfl (fun _ => K.cl) (fun _ _ => K.cl) (hD _) (fun b y => hD [_] y) (fun b => ?_);refine j_s (X := { u : Value × Chunk // BufR 58 2 u.1 u.2 ([] ++ lgr g.ds) }) (v := fun u => u.1.1) (C' := fun x y => K W ([x.1.2] ++ (F y ++ N0))) rfl rfl (fun y => (do_appendRV (by_ := 32) tab 0 rfl .lit rfl (hEy [_] y) ⟨rfl, rfl, rfl, rfl⟩ rfl (by omega) (Nat.lt_of_sub_eq_succ rfl) rfl hone (by simp only [List.length_nil]; omega) (by omega)).outs) (hal [_] (do_buildSliceS (vs := [.agg #[.int .i64 (j : Nat), t.ov]]) (len := 1) (ps := [_]) tab ⟨rfl, rfl, rfl, rfl⟩ rfl rfl rfl rfl)) rfl (fun _ => rfl) rfl rfl rfl rfl rfl rfl rfl (fun _ => K.cl) (fun _ _ => K.cl) (hD [_]) (fun x y => hD [_] y) (fun u => ?_);obtain ⟨⟨u, d⟩, hu⟩ := u;have hu : BufR 58 2 u d (lgr g.ds) := hu;refine j_j rfl (hal [_] (do_buildSliceS (vs := [.agg #[.int .i64 (j : Nat), t.ov]]) (len := 1) (ps := [_]) tab ⟨rfl, rfl, rfl, rfl⟩ rfl rfl rfl rfl)) rfl rfl rfl (fun _ => K.cl) (hD [_]) (fun b32 => ?_);refine Sd.cls (C' := K W (d :: [(b32, row 58 [.int .i64 (j : Nat), t.ov])] :: [(b4, row 42 z42)] :: [(b2, row 42 [.int .i64 (g.size : Nat), .slice pm (rnl (rns (ap g.C (ops t.os)) 0 g.size)).length km, g.tv, g.qv, g.dv])] :: (T ++ (N ++ G)))) ?_ (fun w h => by
      rw [hF, hN0] at h;exact h)
    refine d_s rfl (do_appendR (by_ := 32) (news := [.int .i64 (j : Nat), t.ov]) tab 0 rfl hu rfl ⟨rfl, rfl, rfl, rfl⟩ rfl (by simp) rfl (cells_row0 1 rfl rfl) rfl rfl (by omega) (by omega)) rfl rfl rfl (fun _ => K.cl) (fun _ _ w h => by rw [hN0]; exact h.tail.tail) (fun y => ?_);obtain ⟨⟨u2, d2⟩, hu2⟩ := y;have hu2 : BufR 58 2 u2 d2 (lgr (g.ds ++ [(j, t.ov, t.os)])) := hu2.of (by simp [lgr]);dsimp only;obtain ⟨pv, kv, rfl, _, _⟩ := (hu2.view (C := K W (d2 :: [])) (Hs.at 0 rfl)).view;refine d_sy rfl (y_fieldAddrB tab 4 rfl rfl rfl rfl rfl) rfl rfl rfl K.cl (fun _ w h => by rw [hN0]; exact h.tail.tail) ?_;refine d_set rfl (set_rowB tab 3 rfl rfl rfl rfl rfl rfl) rfl rfl K.cl (fun h => by cases h) ?_;refine d_nil (f_then (c_seq ?_));obtain ⟨g2, hg2⟩ : ∃ g2, g2 = (g.setM (ap g.C (ops t.os)) ⟨pm, km⟩).setD (g.ds ++ [(j, t.ov, t.os)]) ⟨pv, kv⟩ := ⟨_, rfl⟩;have hR2 : RV (K W (d2 :: (T ++ N))) g2 := by
      rw [hg2];refine hR1.setD (fun w h => h.tail) (hu2.view (Hs.at 0 rfl)) (fun x hx => ?_);rcases List.mem_append.1 hx with hx | hx
      · exact ⟨(hV.dx x hx).1.cls fun w h => K.bck h.tail, fun o ho => ((hV.dx x hx).2 o ho).cls fun w h => K.bck h.tail⟩
      · rw [List.mem_singleton.1 hx];exact ⟨(hV.tx t htm).o.cls fun w h => K.bck h.tail, fun o ho => ((hV.tx t htm).r o ho).cls fun w h => K.bck h.tail⟩
    have hen := end_spec (W := W) (N := d2 :: (T ++ N)) (G := [(b4, row 42 z42)] :: [(b2, row 42 g2.cells)] :: G) (k := j) (s := 3) (t := t) hR2 (by rw [hg2]; exact ⟨by omega, by show j ≤ g.ts.length; omega⟩) (by rw [hg2]; exact ht) (by rw [hg2]; exact hq) (by
      rw [hg2];simpa [Rg.rb, Rg.setM, Rg.setD, RB.put] using t4)
    have hcm : g2.rb.end_ j 3 = g.rb.commit j := by
      rw [hg2, RB.commit, RB.view, rb_tx ht];simp [Rg.rb, Rg.setM, Rg.setD]
    have hl2 : (lgr g2.ds).length = g.rb.D.length + 1 := by rw [hg2]; simp [Rg.setM, Rg.setD, Rg.rb, lgr]
    refine SC.cls (C' := K W ((d2 :: (T ++ N)) ++ ([(b4, row 42 z42)] :: [(b2, row 42 g2.cells)] :: G))) ?_ (fun w h => by rw [hg2]; exact K.mv6 h);clear hD hal hEy hE0 hrow0 hc2 hone hVc;have hD := fun (w : World) (h : K W ((d2 :: (T ++ N)) ++ ([(b4, row 42 z42)] :: [(b2, row 42 g2.cells)] :: G)) w) => K.pre (A := [[(b2, row 42 g2.cells)]]) (B := G) (K.bck h).tail;refine c_plan [.c 0, .c 1, .c 3, .c 4, .c 5, .s 2, .s 6, .s 7, .s 8] [] (K W [[(b2, row 42 g2.cells)]]) mixed (by kernel_rfl) rfl K.cl ?_;refine dy rfl (y_loadA tab rfl rfl rfl rfl (cells_row0 0 rfl rfl)) hD ?_;refine dy rfl (y_move rfl) hD ?_;refine dy rfl (y_fieldAddrB tab 4 rfl rfl rfl rfl rfl) hD ?_;refine dy rfl (y_load tab rfl rfl (cell_row 0 rfl rfl)) hD ?_;refine dy rfl (y_len tab rfl rfl) hD ?_;refine d_call rfl (en_f rfl call87) hen rfl rfl rfl (fun _ => K.cl) (fun _ _ w h => hD w (K.bck h)) (fun y => ?_);obtain ⟨⟨g3, T2⟩, hR3, hb3⟩ := y;dsimp only at hR3 hb3 ⊢;refine Sd.cls (C' := K W ([(b4, row 42 z42)] :: [(b2, row 42 g2.cells)] :: (T2 ++ ((d2 :: (T ++ N)) ++ G)))) ?_ (fun w h => K.mv2' h);have hD3 := fun (A : Chunk) (w : World) (h : K W (A :: [(b2, row 42 g2.cells)] :: (T2 ++ ((d2 :: (T ++ N)) ++ G))) w) => K.pre (A := [[(b2, row 42 g2.cells)]]) (B := T2 ++ ((d2 :: (T ++ N)) ++ G)) h.tail;refine d_set rfl (set_aggB tab 0 rfl rfl rfl rfl rfl rfl rfl) rfl rfl K.cl (fun _ => hD3 _) ?_;refine d_sy rfl (y_assign rfl) rfl rfl rfl K.cl (fun _ => hD3 _) ?_;refine d_sy rfl (y_assign rfl) rfl rfl rfl K.cl (fun _ => hD3 _) ?_;refine d_nil ?_;rw [hl2];refine f_then (c_ret ?_);exact f_ret ⟨(g3, T2 ++ (d2 :: T), g.rb.D.length + 1, 0), by rw [List.append_assoc]; exact hR3, .inr ⟨he, rfl, rfl, j, rfl, hb3.trans hcm⟩⟩ (resA12 tab rfl rfl rfl rfl rfl rfl rfl (cells_row0 0 rfl rfl)) (fun w h => K.perm h.tail.tail fun x _ => by
      simp only [List.count_append, List.count_cons];omega)
  · refine sa ?_;refine snf (c_seq (csr (sm ?_)));refine sy (y_T (y_neq rfl rfl) (by omega)) ?_;refine snf (c_condT rfl (csr (sy (y_loadA tab rfl rfl rfl rfl (cells_row0 1 rfl rfl)) ?_)));refine sm ?_;refine ss (set_box tab 0 rfl rfl rfl rfl rfl rfl rfl) ?_;refine sa ?_;refine sa ?_;refine snf (c_ret (f_thenR ?_));exact f_ret ⟨(g, [], 0, e), hV, .inl ⟨by rw [he]; exact c, rfl, rfl, he.symm⟩⟩ (resA12 tab rfl rfl rfl rfl rfl rfl rfl (cells_row0 0 rfl rfl)) (fun w h => h.tail.tail)
end
end Go.KL
end
