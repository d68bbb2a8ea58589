/- A part (2 of 6) of this proof: For every grammar and tree that the guards let in, CstWithin returns true: in a valid tree without errors every leaf except the end has a nonempty text. -/
import Derived.Test.YtphmgaijkdflnaaDoorRows
import Derived.WalkKit
import Derived.ProofKit
import Derived.OpenShut
import Derived.ShutString
import Derived.ChangeOld
import Derived.Below
import Derived.SizedLaws
import Derived.Maps.Own
import Derived.Maps.OwnOps
import Derived.Maps.OwnSet
import Derived.Handy
import Derived.Outline
import Derived.Deep.RegionHeld3
import Derived.Test.YtphmgaijkdflnaaDoorZw1
section
namespace Go.Proofs.YtphmgaijkdflnaaDoor.H
open Go.RowKit Go.ChangeShapes Go.WideShapes Go.ChangeAt Go.Proofs.YtphmgaijkdflnaaDoorW.PrintWords Go.Proofs.YtphmgaijkdflnaaDoorW.PrintLast Go.Proofs.YtphmgaijkdflnaaDoorW.PrintMore
set_option linter.unusedVariables false
set_option linter.unusedSimpArgs false
def szList {α : Type} (f : α → Nat) : List α → Nat
  | [] => 0
  | x :: r => f x + szList f r
structure Opens (b : Nat) {α : Type} (P : Program) (t : TypeId) (K : Kd α) (ok : α → Prop) (sz : α → Nat) : Prop where
  cells : P.cellsOf t = K.sz
  op : ∀ {H : Type} {enc : TypeId × Value → H} {W : World} {base : Nat} {sp : Nat → Bool} {held : Bool} {n : Nat} {cs : List Value} {x : DataW H × List MemPlace}, n ≤ b →
    DataW.trod enc P W base sp held n t cs = some x → (∀ u ∈ DataW.weights P t x.1, u ≤ reachBytes) → ∃ v, K.K W v cs ∧ ok v ∧ sz v ≤ Rows.uptoBulk x.1
structure OpensF (b : Nat) {β : Type} (P : Program) (fs : List Field) (o : Nat) (K : Kd β) (ok : β → Prop) (sz : β → Nat) : Prop where
  op : ∀ {H : Type} {enc : TypeId × Value → H} {W : World} {base : Nat} {sp : Nat → Bool} {held : Bool} {n : Nat} {cs : List Value} {xs : List (DataW H × List MemPlace)}, n ≤ b →
    cs.length = o + K.sz → xs.length = fs.length → (∀ (i : Nat) (f : Field), fs[i]? = some f → DataW.trod enc P W base sp held n f.type ((cs.drop f.offset).take (P.cellsOf f.type)) = xs[i]?) →
    (∀ u ∈ DataW.weightsEach P (fs.map (·.type)) (xs.map (·.1)), u ≤ reachBytes) → ∃ v, K.K W v (cs.drop o) ∧ ok v ∧ sz v ≤ Rows.uptoBulkAll (xs.map (·.1))
section
variable {b : Nat} {P : Program} {α β : Type} {t e : TypeId}
theorem opens_int (k : IntKind) (ht : P.underlying t = some (.int k)) (hc : P.cellsOf t = 1) : Opens b P t (Kd.int k) (fun n => (Lit.int k n).wf = true) (fun _ => 1) :=
  ⟨hc, fun {H enc W base sp held n cs x} _ h _ => by obtain ⟨n, rfl, rfl, hw⟩ := DataW.trod_int ht h; exact ⟨n, rfl, hw, by simp [Rows.uptoBulk]⟩⟩
theorem opens_string (ht : P.underlying t = some .string) (hc : P.cellsOf t = 1) : Opens b P t Kd.string (fun s => s.size ≤ reachBytes) (fun s => s.size + 1) :=
  ⟨hc, fun {H enc W base sp held n cs x} _ h hw => by
    obtain ⟨s, rfl, rfl, _⟩ := DataW.trod_string ht h
    refine ⟨s, rfl, ?_, by simp [Rows.uptoBulk]⟩
    have := hw s.data.toList.length (by simp [DataW.weights])
    simpa using this⟩
theorem weightsAll_mem {H : Type} {e : TypeId} : ∀ {ds : List (DataW H)} {d : DataW H}, d ∈ ds → ∀ u ∈ d.weights P e, u ∈ DataW.weightsAll P e ds
  | [], _, h, _, _ => by cases h
  | d0 :: r, d, h, u, hu => by
    simp only [DataW.weightsAll, List.mem_append]
    rcases List.mem_cons.1 h with rfl | h
    · exact .inl hu
    · exact .inr (weightsAll_mem h u hu)
theorem list_of {Q : Nat → α → Prop} : ∀ (n : Nat), (∀ i, i < n → ∃ v, Q i v) → ∃ l : List α, l.length = n ∧ ∀ (i : Nat) v, l[i]? = some v → Q i v
  | 0, _ => ⟨[], rfl, fun i v h => by simp at h⟩
  | n + 1, h => by
    obtain ⟨l, hl, hq⟩ := list_of n (fun i hi => h i (by omega))
    obtain ⟨v, hv⟩ := h n (by omega)
    refine ⟨l ++ [v], by simp [hl], fun i u hu => ?_⟩
    rcases Nat.lt_or_ge i n with hi | hi
    · rw [List.getElem?_append_left (by omega)] at hu; exact hq i u hu
    · rw [List.getElem?_append_right (by omega), hl] at hu
      have h0 : i - n = 0 := by
        rcases Nat.eq_zero_or_pos (i - n) with h0 | h0
        · exact h0
        · rw [List.getElem?_eq_none (by simp; omega)] at hu; cases hu
      rw [h0] at hu
      obtain rfl : v = u := by simpa using hu
      obtain rfl : i = n := by omega
      exact hv
theorem opens_slice {d : Kd α} {ok : α → Prop} {sz : α → Nat} (ht : P.underlying t = some (.slice e)) (hc : P.cellsOf t = 1) {B : Nat} (hB : P.bytesOf e = B) (h : Opens b P e d ok sz) :
    Opens b P t (Kd.slice e d) (fun l => l.length * B ≤ reachBytes ∧ ∀ x ∈ l, ok x) (fun l => szList sz l + 1) :=
  ⟨hc, fun {H enc W base sp held n0 cs x} hn0 h0 hw => by
    rcases DataW.trod_slice ht h0 with ⟨rfl, rfl⟩ | ⟨a, len, cap, elems, rest, n, hn1, rfl, rfl, hb, hl, hm, hlen, hel, _, _⟩
    · exact ⟨[], ⟨none, 0, rfl, Nat.le_refl _, Kd.C_nil d W⟩, by simp, by simp [szList, Rows.uptoBulk]⟩
    · have hsz := hw ((elems.map (·.1)).length * P.bytesOf e + (rest.map (·.1)).length * P.bytesOf e) (by simp [DataW.weights, ht, Nat.add_mul])
      have hin : ∀ y ∈ elems, ∀ u ∈ y.1.weights P e, u ≤ reachBytes := fun y hy u hu => hw u (by
        simp only [DataW.weights, ht, List.mem_cons, List.mem_append]
        exact .inr (.inl (weightsAll_mem (List.mem_map_of_mem hy) u hu)))
      obtain ⟨l, hll, hq⟩ := list_of (Q := fun i v => ∃ c, W.cells? base (a.add (i * P.cellsOf e)) (P.cellsOf e) = some c ∧ d.K W v c ∧ ok v ∧ ∃ h : i < elems.length, sz v ≤ Rows.uptoBulk elems[i].1) len (fun i hi => by
        have h1 := hel i hi
        have hi' : i < elems.length := by omega
        rw [List.getElem?_eq_getElem hi'] at h1
        obtain ⟨c, h2, h3⟩ := Option.bind_eq_some_iff.1 h1
        obtain ⟨v, hK, hv, hz⟩ := h.op (by omega) h3 (hin _ (List.getElem_mem hi'))
        exact ⟨v, c, h2, hK, hv, hi', hz⟩)
      refine ⟨l, ⟨some a, cap, by rw [hll], by omega, rfl, ?_, fun hn => ⟨a, rfl, fun j p hp => ?_⟩⟩, ⟨?_, ?_⟩, ?_⟩
      · have : cap ≤ 9223372036854775807 := hm
        omega
      · obtain ⟨c, h2, hK, _⟩ := hq j p hp
        obtain ⟨_, hcl, hcc⟩ := World.cells?_some h2
        refine ⟨c, d.K_len hK, hK, fun i u hu => ?_⟩
        have hi : i < P.cellsOf e := by
          rcases Nat.lt_or_ge i c.length with q | q
          · omega
          · rw [List.getElem?_eq_none q] at hu; cases hu
        have := hcc i hi
        rw [Addr.add_add, h.cells] at this
        rw [this, hu]
      · simp only [List.length_map, hlen, hB] at hsz
        rw [hll]
        omega
      · intro x hx
        obtain ⟨i, hi, rfl⟩ := List.getElem_of_mem hx
        obtain ⟨_, _, _, hv, _⟩ := hq i _ (List.getElem?_eq_getElem hi)
        exact hv
      · have hs : ∀ (l : List α) (es : List (DataW H × List MemPlace)), l.length = es.length → (∀ (i : Nat) v, l[i]? = some v → ∃ h : i < es.length, sz v ≤ Rows.uptoBulk es[i].1) → szList sz l ≤ Rows.uptoBulkAll (es.map (·.1)) := by
          intro l
          induction l with
          | nil => intro es _ _; simp [szList]
          | cons y r ih =>
            intro es hl hq
            cases es with
            | nil => simp at hl
            | cons z q =>
              obtain ⟨_, h0⟩ := hq 0 y rfl
              have := ih q (by simpa using hl) (fun i v hi => by
                obtain ⟨h1, h2⟩ := hq (i + 1) v (by simpa using hi)
                exact ⟨by simpa using h1, by simpa using h2⟩)
              simp only [szList, List.map_cons, Rows.uptoBulkAll]
              simp at h0
              omega
        have := hs l elems (by omega) (fun i v hi => by obtain ⟨_, _, _, _, h⟩ := hq i v hi; exact h)
        simp only [Rows.uptoBulk]
        omega⟩
theorem opensF_one {f : Field} {o : Nat} {K : Kd α} {ok : α → Prop} {sz : α → Nat} {t : TypeId} (h : Opens b P t K ok sz) (ht : f.type = t) (ho : f.offset = o) : OpensF b P [f] o K ok sz := by
  subst ht
  constructor
  intro H enc W base sp held n cs xs hn hl hx hf hw
  obtain ⟨y, rfl⟩ : ∃ y, xs = [y] := by
    match xs, hx with
    | [y], _ => exact ⟨y, rfl⟩
  have h1 := hf 0 f rfl
  rw [ho, h.cells, List.take_of_length_le (by rw [List.length_drop]; omega)] at h1
  obtain ⟨v, hk, hv, hz⟩ := h.op hn (by simpa using h1) (fun u hu => hw u (by simp [DataW.weightsEach]; exact hu))
  exact ⟨v, hk, hv, by simpa [Rows.uptoBulkAll] using hz⟩
theorem opensF_cons {f : Field} {fs : List Field} {o : Nat} {K1 : Kd α} {K2 : Kd β} {ok1 : α → Prop} {ok2 : β → Prop} {sz1 : α → Nat} {sz2 : β → Nat} {t : TypeId} (h : Opens b P t K1 ok1 sz1) (ht : f.type = t) (ho : f.offset = o) (hr : OpensF b P fs (o + K1.sz) K2 ok2 sz2) :
    OpensF b P (f :: fs) o (Kd.pair K1 K2) (fun p => ok1 p.1 ∧ ok2 p.2) (fun p => sz1 p.1 + sz2 p.2) := by
  subst ht
  constructor
  intro H enc W base sp held n cs xs hn hl hx hf hw
  obtain ⟨y, ys, rfl⟩ : ∃ y ys, xs = y :: ys := by
    match xs, hx with
    | y :: ys, _ => exact ⟨y, ys, rfl⟩
  have hl' : cs.length = o + (K1.sz + K2.sz) := hl
  have h1 := hf 0 f rfl
  rw [ho, h.cells] at h1
  obtain ⟨v1, k1, g1, z1⟩ := h.op hn (by simpa using h1) (fun u hu => hw u (by simp [DataW.weightsEach]; exact .inl hu))
  obtain ⟨v2, k2, g2, z2⟩ := hr.op (cs := cs) (xs := ys) hn (by omega) (by simpa using hx) (fun i g hg => by have := hf (i + 1) g (by simpa using hg); simpa using this) (fun u hu => hw u (by simp [DataW.weightsEach]; exact .inr hu))
  refine ⟨(v1, v2), ⟨(cs.drop o).take K1.sz, cs.drop (o + K1.sz), ?_, k1, k2⟩, ⟨g1, g2⟩, by simp only [List.map_cons, Rows.uptoBulkAll]; omega⟩
  rw [← List.drop_drop, List.take_append_drop]
theorem opens_struct {fs : Array Field} {K : Kd α} {ok : α → Prop} {sz : α → Nat} (ht : P.underlying t = some (.struct fs)) (hc : P.cellsOf t = K.sz) (h : OpensF b P fs.toList 0 K ok sz) : Opens (b + 1) P t K ok (fun v => sz v + 1) :=
  ⟨hc, fun {H enc W base sp held n cs x} hn h0 hw => by
    obtain ⟨xs, m, rfl, rfl, hl, hx, hf⟩ := DataW.trod_struct ht h0
    obtain ⟨v, hk, ho, hz⟩ := h.op (cs := cs) (xs := xs) (by omega) (by omega) (by simpa using hx) (fun i f hi => hf i f (by simpa using hi)) (fun u hu => hw u (by simp only [DataW.weights, ht]; exact hu))
    exact ⟨v, by simpa using hk, ho, by simp only [Rows.uptoBulk]; omega⟩⟩
theorem opens_iso {K : Kd α} {ok : α → Prop} {sz : α → Nat} (f : β → α) (g : α → β) (hfg : ∀ a, f (g a) = a) (h : Opens b P t K ok sz) : Opens b P t (Kd.iso K f) (fun x => ok (f x)) (fun x => sz (f x)) :=
  ⟨h.cells, fun hn h0 hw => by
    obtain ⟨v, hk, ho, hz⟩ := h.op hn h0 hw
    exact ⟨g v, by show K.K _ (f (g v)) _; rw [hfg]; exact hk, by show ok (f (g v)); rw [hfg]; exact ho, by show sz (f (g v)) ≤ _; rw [hfg]; exact hz⟩⟩
theorem Opens.imp {K : Kd α} {ok ok' : α → Prop} {sz sz' : α → Nat} (h : Opens b P t K ok sz) (hi : ∀ x, ok x → ok' x) (hs : ∀ x, sz' x ≤ sz x) : Opens b P t K ok' sz' :=
  ⟨h.cells, fun hn h0 hw => by obtain ⟨v, hk, ho, hz⟩ := h.op hn h0 hw; exact ⟨v, hk, hi v ho, Nat.le_trans (hs v) hz⟩⟩
theorem Opens.le {K : Kd α} {ok : α → Prop} {sz : α → Nat} {c : Nat} (h : Opens b P t K ok sz) (hc : c ≤ b) : Opens c P t K ok sz := ⟨h.cells, fun hn h0 hw => h.op (Nat.le_trans hn hc) h0 hw⟩
theorem Opens.kind {K K' : Kd α} {ok : α → Prop} {sz : α → Nat} (h : Opens b P t K ok sz) (hs : K'.sz = K.sz) (hk : ∀ w x cs, K.K w x cs → K'.K w x cs) : Opens b P t K' ok sz :=
  ⟨h.cells.trans hs.symm, fun hn h0 hw => by obtain ⟨v, h1, h2, h3⟩ := h.op hn h0 hw; exact ⟨v, hk _ _ _ h1, h2, h3⟩⟩
theorem opens_zero {K : Kd α} {ok : α → Prop} {sz : α → Nat} (hc : P.cellsOf t = K.sz) : Opens 0 P t K ok sz := ⟨hc, fun hn h0 hw => by
  obtain rfl := Nat.le_zero.1 hn
  simp [DataW.trod] at h0⟩
theorem Opens.of {H : Type} {enc : TypeId × Value → H} {W : World} {base : Nat} {sp : Nat → Bool} {held : Bool} {K : Kd α} {ok : α → Prop} {sz : α → Nat} (h : ∀ b, Opens b P t K ok sz) {v : Value} {d : DataW H} {ps : List MemPlace} {ts : List TypeId} {ds : List (DataW H)} {j : Nat}
    (hsz : (DataW.weightsEach P ts ds).all (· ≤ reachBytes) = true) (ht : ts[j]? = some t) (hd : ds[j]? = some d) (h0 : DataW.Trod enc P W base sp held t v d ps) : ∃ x, K.K W x v.cells.toList ∧ ok x ∧ sz x ≤ Rows.uptoBulk d := by
  obtain ⟨fuel, hf⟩ := h0
  exact (h fuel).op (Nat.le_refl _) hf (fun u hu => by simpa using List.all_eq_true.1 hsz u (DataW.weights_mem_each ht hd u hu))
end
end Go.Proofs.YtphmgaijkdflnaaDoor.H
end
section
namespace Go.Proofs.YtphmgaijkdflnaaDoor.H
open Go.RowKit Go.ChangeShapes Go.WideShapes Go.ChangeAt Go.Proofs.YtphmgaijkdflnaaDoorW.PrintWords Go.Proofs.YtphmgaijkdflnaaDoorW.PrintLast Go.Proofs.YtphmgaijkdflnaaDoorW.PrintMore
set_option linter.unusedVariables false
def ok46 (x : S46) : Prop := ((fun n : Int => (Lit.int .i64 n).wf = true) x.f0 ∧ ((fun n : Int => (Lit.int .i64 n).wf = true) x.f1 ∧ (fun s : ByteArray => s.size ≤ reachBytes) x.f2))
def wt46 (x : S46) : Nat := ((fun _ : Int => 1) x.f0 + ((fun _ : Int => 1) x.f1 + (fun s : ByteArray => s.size + 1) x.f2)) + 1
set_option maxRecDepth 100000 in
theorem opens_k46 (b : Nat) : Opens b Tryd.prog 46 k46 ok46 wt46 := by
  have hS : Opens (b + 1) Tryd.prog 46 (Kd.pair (Kd.int .i64) (Kd.pair (Kd.int .i64) Kd.string)) (fun p : (Int) × (Int) × (ByteArray) => (fun n : Int => (Lit.int .i64 n).wf = true) p.1 ∧ (fun p : (Int) × (ByteArray) => (fun n : Int => (Lit.int .i64 n).wf = true) p.1 ∧ (fun s : ByteArray => s.size ≤ reachBytes) p.2) p.2) (fun v => (fun p : (Int) × (Int) × (ByteArray) => (fun _ : Int => 1) p.1 + (fun p : (Int) × (ByteArray) => (fun _ : Int => 1) p.1 + (fun s : ByteArray => s.size + 1) p.2) p.2) v + 1) := by
    refine opens_struct Tryd.underlying46 (by kernel_rfl) ?_
    refine opensF_cons (ok1 := (fun n : Int => (Lit.int .i64 n).wf = true)) (ok2 := (fun p : (Int) × (ByteArray) => (fun n : Int => (Lit.int .i64 n).wf = true) p.1 ∧ (fun s : ByteArray => s.size ≤ reachBytes) p.2)) (sz1 := (fun _ : Int => 1)) (sz2 := (fun p : (Int) × (ByteArray) => (fun _ : Int => 1) p.1 + (fun s : ByteArray => s.size + 1) p.2)) (opens_int .i64 Tryd.underlying44 (by kernel_rfl)) rfl (by kernel_rfl) ?_
    refine opensF_cons (ok1 := (fun n : Int => (Lit.int .i64 n).wf = true)) (ok2 := (fun s : ByteArray => s.size ≤ reachBytes)) (sz1 := (fun _ : Int => 1)) (sz2 := (fun s : ByteArray => s.size + 1)) (opens_int .i64 Tryd.underlying3 (by kernel_rfl)) rfl (by kernel_rfl) ?_
    exact opensF_one (ok := (fun s : ByteArray => s.size ≤ reachBytes)) (sz := (fun s : ByteArray => s.size + 1)) (opens_string Tryd.underlying9 (by kernel_rfl)) rfl (by kernel_rfl)
  have hI := opens_iso (fun x : S46 => (x.f0, x.f1, x.f2)) (fun p => ⟨p.1, p.2.1, p.2.2⟩) (fun _ => rfl) hS
  exact (hI.imp (fun _ h => h) (fun _ => Nat.le_refl _)).le (Nat.le_succ b)
theorem ok46_iff (x : S46) : ok46 x ↔ ((Lit.int .i64 x.f0).wf = true ∧ ((Lit.int .i64 x.f1).wf = true ∧ x.f2.size ≤ reachBytes)) := Iff.rfl
mutual
def ok26 : S26 → Prop
  | ⟨f0, f1, f2, f3, f4, f5, f6⟩ => ((fun n : Int => (Lit.int .i64 n).wf = true) f0 ∧ ((fun n : Int => (Lit.int .i64 n).wf = true) f1 ∧ ((fun n : Int => (Lit.int .i64 n).wf = true) f2 ∧ ((fun n : Int => (Lit.int .i64 n).wf = true) f3 ∧ ((fun l : List (S46) => l.length * 32 ≤ reachBytes ∧ ∀ x ∈ l, ok46 x) f4 ∧ ((fun s : ByteArray => s.size ≤ reachBytes) f5 ∧ (f6.length * 96 ≤ reachBytes ∧ ok26L f6)))))))
def ok26L : List S26 → Prop
  | [] => True
  | x :: r => ok26 x ∧ ok26L r
end
theorem ok26L_iff : ∀ l : List S26, ok26L l ↔ ∀ y ∈ l, ok26 y
  | [] => by simp [ok26L]
  | x :: r => by simp [ok26L, ok26L_iff r]
theorem ok26_iff' (x : S26) : ok26 x ↔ ((fun n : Int => (Lit.int .i64 n).wf = true) x.f0 ∧ ((fun n : Int => (Lit.int .i64 n).wf = true) x.f1 ∧ ((fun n : Int => (Lit.int .i64 n).wf = true) x.f2 ∧ ((fun n : Int => (Lit.int .i64 n).wf = true) x.f3 ∧ ((fun l : List (S46) => l.length * 32 ≤ reachBytes ∧ ∀ x ∈ l, ok46 x) x.f4 ∧ ((fun s : ByteArray => s.size ≤ reachBytes) x.f5 ∧ (x.f6.length * 96 ≤ reachBytes ∧ ∀ y ∈ x.f6, ok26 y))))))) := by cases x; simp only [ok26, ok26L_iff]
set_option maxRecDepth 100000 in
theorem opens_u26 (b : Nat) : Opens b Tryd.prog 26 (Kd.upto F26 7 [26, 46] b) ok26 (fun _ => 0) := by
  induction b with
  | zero => exact opens_zero (by kernel_rfl)
  | succ b ih =>
    have hS : Opens (b + 1) Tryd.prog 26 (Kd.pair (Kd.int .i64) (Kd.pair (Kd.int .i64) (Kd.pair (Kd.int .i64) (Kd.pair (Kd.int .i64) (Kd.pair (Kd.slice 46 k46) (Kd.pair Kd.string (Kd.slice 26 (Kd.upto F26 7 [26, 46] b)))))))) (fun p : (Int) × (Int) × (Int) × (Int) × (List (S46)) × (ByteArray) × (List S26) => (fun n : Int => (Lit.int .i64 n).wf = true) p.1 ∧ (fun p : (Int) × (Int) × (Int) × (List (S46)) × (ByteArray) × (List S26) => (fun n : Int => (Lit.int .i64 n).wf = true) p.1 ∧ (fun p : (Int) × (Int) × (List (S46)) × (ByteArray) × (List S26) => (fun n : Int => (Lit.int .i64 n).wf = true) p.1 ∧ (fun p : (Int) × (List (S46)) × (ByteArray) × (List S26) => (fun n : Int => (Lit.int .i64 n).wf = true) p.1 ∧ (fun p : (List (S46)) × (ByteArray) × (List S26) => (fun l : List (S46) => l.length * 32 ≤ reachBytes ∧ ∀ x ∈ l, ok46 x) p.1 ∧ (fun p : (ByteArray) × (List S26) => (fun s : ByteArray => s.size ≤ reachBytes) p.1 ∧ (fun l : List S26 => l.length * 96 ≤ reachBytes ∧ ∀ x ∈ l, ok26 x) p.2) p.2) p.2) p.2) p.2) p.2) (fun v => (fun p : (Int) × (Int) × (Int) × (Int) × (List (S46)) × (ByteArray) × (List S26) => (fun _ : Int => 1) p.1 + (fun p : (Int) × (Int) × (Int) × (List (S46)) × (ByteArray) × (List S26) => (fun _ : Int => 1) p.1 + (fun p : (Int) × (Int) × (List (S46)) × (ByteArray) × (List S26) => (fun _ : Int => 1) p.1 + (fun p : (Int) × (List (S46)) × (ByteArray) × (List S26) => (fun _ : Int => 1) p.1 + (fun p : (List (S46)) × (ByteArray) × (List S26) => (fun l : List (S46) => szList wt46 l + 1) p.1 + (fun p : (ByteArray) × (List S26) => (fun s : ByteArray => s.size + 1) p.1 + (fun l : List S26 => szList (fun _ => 0) l + 1) p.2) p.2) p.2) p.2) p.2) p.2) v + 1) := by
      refine opens_struct Tryd.underlying26 (by kernel_rfl) ?_
      refine opensF_cons (ok1 := (fun n : Int => (Lit.int .i64 n).wf = true)) (ok2 := (fun p : (Int) × (Int) × (Int) × (List (S46)) × (ByteArray) × (List S26) => (fun n : Int => (Lit.int .i64 n).wf = true) p.1 ∧ (fun p : (Int) × (Int) × (List (S46)) × (ByteArray) × (List S26) => (fun n : Int => (Lit.int .i64 n).wf = true) p.1 ∧ (fun p : (Int) × (List (S46)) × (ByteArray) × (List S26) => (fun n : Int => (Lit.int .i64 n).wf = true) p.1 ∧ (fun p : (List (S46)) × (ByteArray) × (List S26) => (fun l : List (S46) => l.length * 32 ≤ reachBytes ∧ ∀ x ∈ l, ok46 x) p.1 ∧ (fun p : (ByteArray) × (List S26) => (fun s : ByteArray => s.size ≤ reachBytes) p.1 ∧ (fun l : List S26 => l.length * 96 ≤ reachBytes ∧ ∀ x ∈ l, ok26 x) p.2) p.2) p.2) p.2) p.2)) (sz1 := (fun _ : Int => 1)) (sz2 := (fun p : (Int) × (Int) × (Int) × (List (S46)) × (ByteArray) × (List S26) => (fun _ : Int => 1) p.1 + (fun p : (Int) × (Int) × (List (S46)) × (ByteArray) × (List S26) => (fun _ : Int => 1) p.1 + (fun p : (Int) × (List (S46)) × (ByteArray) × (List S26) => (fun _ : Int => 1) p.1 + (fun p : (List (S46)) × (ByteArray) × (List S26) => (fun l : List (S46) => szList wt46 l + 1) p.1 + (fun p : (ByteArray) × (List S26) => (fun s : ByteArray => s.size + 1) p.1 + (fun l : List S26 => szList (fun _ => 0) l + 1) p.2) p.2) p.2) p.2) p.2)) (opens_int .i64 Tryd.underlying3 (by kernel_rfl)) rfl (by kernel_rfl) ?_
      refine opensF_cons (ok1 := (fun n : Int => (Lit.int .i64 n).wf = true)) (ok2 := (fun p : (Int) × (Int) × (List (S46)) × (ByteArray) × (List S26) => (fun n : Int => (Lit.int .i64 n).wf = true) p.1 ∧ (fun p : (Int) × (List (S46)) × (ByteArray) × (List S26) => (fun n : Int => (Lit.int .i64 n).wf = true) p.1 ∧ (fun p : (List (S46)) × (ByteArray) × (List S26) => (fun l : List (S46) => l.length * 32 ≤ reachBytes ∧ ∀ x ∈ l, ok46 x) p.1 ∧ (fun p : (ByteArray) × (List S26) => (fun s : ByteArray => s.size ≤ reachBytes) p.1 ∧ (fun l : List S26 => l.length * 96 ≤ reachBytes ∧ ∀ x ∈ l, ok26 x) p.2) p.2) p.2) p.2)) (sz1 := (fun _ : Int => 1)) (sz2 := (fun p : (Int) × (Int) × (List (S46)) × (ByteArray) × (List S26) => (fun _ : Int => 1) p.1 + (fun p : (Int) × (List (S46)) × (ByteArray) × (List S26) => (fun _ : Int => 1) p.1 + (fun p : (List (S46)) × (ByteArray) × (List S26) => (fun l : List (S46) => szList wt46 l + 1) p.1 + (fun p : (ByteArray) × (List S26) => (fun s : ByteArray => s.size + 1) p.1 + (fun l : List S26 => szList (fun _ => 0) l + 1) p.2) p.2) p.2) p.2)) (opens_int .i64 Tryd.underlying3 (by kernel_rfl)) rfl (by kernel_rfl) ?_
      refine opensF_cons (ok1 := (fun n : Int => (Lit.int .i64 n).wf = true)) (ok2 := (fun p : (Int) × (List (S46)) × (ByteArray) × (List S26) => (fun n : Int => (Lit.int .i64 n).wf = true) p.1 ∧ (fun p : (List (S46)) × (ByteArray) × (List S26) => (fun l : List (S46) => l.length * 32 ≤ reachBytes ∧ ∀ x ∈ l, ok46 x) p.1 ∧ (fun p : (ByteArray) × (List S26) => (fun s : ByteArray => s.size ≤ reachBytes) p.1 ∧ (fun l : List S26 => l.length * 96 ≤ reachBytes ∧ ∀ x ∈ l, ok26 x) p.2) p.2) p.2)) (sz1 := (fun _ : Int => 1)) (sz2 := (fun p : (Int) × (List (S46)) × (ByteArray) × (List S26) => (fun _ : Int => 1) p.1 + (fun p : (List (S46)) × (ByteArray) × (List S26) => (fun l : List (S46) => szList wt46 l + 1) p.1 + (fun p : (ByteArray) × (List S26) => (fun s : ByteArray => s.size + 1) p.1 + (fun l : List S26 => szList (fun _ => 0) l + 1) p.2) p.2) p.2)) (opens_int .i64 Tryd.underlying3 (by kernel_rfl)) rfl (by kernel_rfl) ?_
      refine opensF_cons (ok1 := (fun n : Int => (Lit.int .i64 n).wf = true)) (ok2 := (fun p : (List (S46)) × (ByteArray) × (List S26) => (fun l : List (S46) => l.length * 32 ≤ reachBytes ∧ ∀ x ∈ l, ok46 x) p.1 ∧ (fun p : (ByteArray) × (List S26) => (fun s : ByteArray => s.size ≤ reachBytes) p.1 ∧ (fun l : List S26 => l.length * 96 ≤ reachBytes ∧ ∀ x ∈ l, ok26 x) p.2) p.2)) (sz1 := (fun _ : Int => 1)) (sz2 := (fun p : (List (S46)) × (ByteArray) × (List S26) => (fun l : List (S46) => szList wt46 l + 1) p.1 + (fun p : (ByteArray) × (List S26) => (fun s : ByteArray => s.size + 1) p.1 + (fun l : List S26 => szList (fun _ => 0) l + 1) p.2) p.2)) (opens_int .i64 Tryd.underlying22 (by kernel_rfl)) rfl (by kernel_rfl) ?_
      refine opensF_cons (ok1 := (fun l : List (S46) => l.length * 32 ≤ reachBytes ∧ ∀ x ∈ l, ok46 x)) (ok2 := (fun p : (ByteArray) × (List S26) => (fun s : ByteArray => s.size ≤ reachBytes) p.1 ∧ (fun l : List S26 => l.length * 96 ≤ reachBytes ∧ ∀ x ∈ l, ok26 x) p.2)) (sz1 := (fun l : List (S46) => szList wt46 l + 1)) (sz2 := (fun p : (ByteArray) × (List S26) => (fun s : ByteArray => s.size + 1) p.1 + (fun l : List S26 => szList (fun _ => 0) l + 1) p.2)) (opens_slice Tryd.underlying23 (by kernel_rfl) (B := 32) (by kernel_rfl) (opens_k46 _)) rfl (by kernel_rfl) ?_
      refine opensF_cons (ok1 := (fun s : ByteArray => s.size ≤ reachBytes)) (ok2 := (fun l : List S26 => l.length * 96 ≤ reachBytes ∧ ∀ x ∈ l, ok26 x)) (sz1 := (fun s : ByteArray => s.size + 1)) (sz2 := (fun l : List S26 => szList (fun _ => 0) l + 1)) (opens_string Tryd.underlying9 (by kernel_rfl)) rfl (by kernel_rfl) ?_
      exact opensF_one (ok := (fun l : List S26 => l.length * 96 ≤ reachBytes ∧ ∀ x ∈ l, ok26 x)) (sz := (fun l : List S26 => szList (fun _ => 0) l + 1)) (opens_slice Tryd.underlying24 (by kernel_rfl) (B := 96) (by kernel_rfl) ih) rfl (by kernel_rfl)
    have hI := opens_iso (fun x : S26 => (x.f0, x.f1, x.f2, x.f3, x.f4, x.f5, x.f6)) (fun p => ⟨p.1, p.2.1, p.2.2.1, p.2.2.2.1, p.2.2.2.2.1, p.2.2.2.2.2.1, p.2.2.2.2.2.2⟩) (fun _ => rfl) hS
    exact hI.imp (fun x h => (ok26_iff' x).2 h) (fun _ => Nat.zero_le _)
theorem opens_k26 (b : Nat) : Opens b Tryd.prog 26 k26 ok26 (fun _ => 0) := (opens_u26 b).kind (sz26 b).symm (fun w x cs h => ⟨b, h⟩)
theorem ok26_iff (x : S26) : ok26 x ↔ ((fun n : Int => (Lit.int .i64 n).wf = true) x.f0 ∧ ((fun n : Int => (Lit.int .i64 n).wf = true) x.f1 ∧ ((fun n : Int => (Lit.int .i64 n).wf = true) x.f2 ∧ ((fun n : Int => (Lit.int .i64 n).wf = true) x.f3 ∧ ((fun l : List (S46) => l.length * 32 ≤ reachBytes ∧ ∀ x ∈ l, ok46 x) x.f4 ∧ ((fun s : ByteArray => s.size ≤ reachBytes) x.f5 ∧ (x.f6.length * 96 ≤ reachBytes ∧ ∀ y ∈ x.f6, ok26 y))))))) := ok26_iff' x
def ok58 (x : S58) : Prop := ((fun n : Int => (Lit.int .i64 n).wf = true) x.f0 ∧ ((fun l : List (Int) => l.length * 8 ≤ reachBytes ∧ ∀ x ∈ l, (fun n : Int => (Lit.int .i64 n).wf = true) x) x.f1 ∧ ((fun l : List (ByteArray) => l.length * 16 ≤ reachBytes ∧ ∀ x ∈ l, (fun s : ByteArray => s.size ≤ reachBytes) x) x.f2 ∧ ((fun s : ByteArray => s.size ≤ reachBytes) x.f3 ∧ (fun n : Int => (Lit.int .i64 n).wf = true) x.f4))))
def wt58 (x : S58) : Nat := ((fun _ : Int => 1) x.f0 + ((fun l : List (Int) => szList (fun _ : Int => 1) l + 1) x.f1 + ((fun l : List (ByteArray) => szList (fun s : ByteArray => s.size + 1) l + 1) x.f2 + ((fun s : ByteArray => s.size + 1) x.f3 + (fun _ : Int => 1) x.f4)))) + 1
set_option maxRecDepth 100000 in
theorem opens_k58 (b : Nat) : Opens b Tryd.prog 58 k58 ok58 wt58 := by
  have hS : Opens (b + 1) Tryd.prog 58 (Kd.pair (Kd.int .i64) (Kd.pair (Kd.slice 3 (Kd.int .i64)) (Kd.pair (Kd.slice 9 Kd.string) (Kd.pair Kd.string (Kd.int .i64))))) (fun p : (Int) × (List (Int)) × (List (ByteArray)) × (ByteArray) × (Int) => (fun n : Int => (Lit.int .i64 n).wf = true) p.1 ∧ (fun p : (List (Int)) × (List (ByteArray)) × (ByteArray) × (Int) => (fun l : List (Int) => l.length * 8 ≤ reachBytes ∧ ∀ x ∈ l, (fun n : Int => (Lit.int .i64 n).wf = true) x) p.1 ∧ (fun p : (List (ByteArray)) × (ByteArray) × (Int) => (fun l : List (ByteArray) => l.length * 16 ≤ reachBytes ∧ ∀ x ∈ l, (fun s : ByteArray => s.size ≤ reachBytes) x) p.1 ∧ (fun p : (ByteArray) × (Int) => (fun s : ByteArray => s.size ≤ reachBytes) p.1 ∧ (fun n : Int => (Lit.int .i64 n).wf = true) p.2) p.2) p.2) p.2) (fun v => (fun p : (Int) × (List (Int)) × (List (ByteArray)) × (ByteArray) × (Int) => (fun _ : Int => 1) p.1 + (fun p : (List (Int)) × (List (ByteArray)) × (ByteArray) × (Int) => (fun l : List (Int) => szList (fun _ : Int => 1) l + 1) p.1 + (fun p : (List (ByteArray)) × (ByteArray) × (Int) => (fun l : List (ByteArray) => szList (fun s : ByteArray => s.size + 1) l + 1) p.1 + (fun p : (ByteArray) × (Int) => (fun s : ByteArray => s.size + 1) p.1 + (fun _ : Int => 1) p.2) p.2) p.2) p.2) v + 1) := by
    refine opens_struct Tryd.underlying58 (by kernel_rfl) ?_
    refine opensF_cons (ok1 := (fun n : Int => (Lit.int .i64 n).wf = true)) (ok2 := (fun p : (List (Int)) × (List (ByteArray)) × (ByteArray) × (Int) => (fun l : List (Int) => l.length * 8 ≤ reachBytes ∧ ∀ x ∈ l, (fun n : Int => (Lit.int .i64 n).wf = true) x) p.1 ∧ (fun p : (List (ByteArray)) × (ByteArray) × (Int) => (fun l : List (ByteArray) => l.length * 16 ≤ reachBytes ∧ ∀ x ∈ l, (fun s : ByteArray => s.size ≤ reachBytes) x) p.1 ∧ (fun p : (ByteArray) × (Int) => (fun s : ByteArray => s.size ≤ reachBytes) p.1 ∧ (fun n : Int => (Lit.int .i64 n).wf = true) p.2) p.2) p.2)) (sz1 := (fun _ : Int => 1)) (sz2 := (fun p : (List (Int)) × (List (ByteArray)) × (ByteArray) × (Int) => (fun l : List (Int) => szList (fun _ : Int => 1) l + 1) p.1 + (fun p : (List (ByteArray)) × (ByteArray) × (Int) => (fun l : List (ByteArray) => szList (fun s : ByteArray => s.size + 1) l + 1) p.1 + (fun p : (ByteArray) × (Int) => (fun s : ByteArray => s.size + 1) p.1 + (fun _ : Int => 1) p.2) p.2) p.2)) (opens_int .i64 Tryd.underlying3 (by kernel_rfl)) rfl (by kernel_rfl) ?_
    refine opensF_cons (ok1 := (fun l : List (Int) => l.length * 8 ≤ reachBytes ∧ ∀ x ∈ l, (fun n : Int => (Lit.int .i64 n).wf = true) x)) (ok2 := (fun p : (List (ByteArray)) × (ByteArray) × (Int) => (fun l : List (ByteArray) => l.length * 16 ≤ reachBytes ∧ ∀ x ∈ l, (fun s : ByteArray => s.size ≤ reachBytes) x) p.1 ∧ (fun p : (ByteArray) × (Int) => (fun s : ByteArray => s.size ≤ reachBytes) p.1 ∧ (fun n : Int => (Lit.int .i64 n).wf = true) p.2) p.2)) (sz1 := (fun l : List (Int) => szList (fun _ : Int => 1) l + 1)) (sz2 := (fun p : (List (ByteArray)) × (ByteArray) × (Int) => (fun l : List (ByteArray) => szList (fun s : ByteArray => s.size + 1) l + 1) p.1 + (fun p : (ByteArray) × (Int) => (fun s : ByteArray => s.size + 1) p.1 + (fun _ : Int => 1) p.2) p.2)) (opens_slice Tryd.underlying56 (by kernel_rfl) (B := 8) (by kernel_rfl) (opens_int .i64 Tryd.underlying3 (by kernel_rfl))) rfl (by kernel_rfl) ?_
    refine opensF_cons (ok1 := (fun l : List (ByteArray) => l.length * 16 ≤ reachBytes ∧ ∀ x ∈ l, (fun s : ByteArray => s.size ≤ reachBytes) x)) (ok2 := (fun p : (ByteArray) × (Int) => (fun s : ByteArray => s.size ≤ reachBytes) p.1 ∧ (fun n : Int => (Lit.int .i64 n).wf = true) p.2)) (sz1 := (fun l : List (ByteArray) => szList (fun s : ByteArray => s.size + 1) l + 1)) (sz2 := (fun p : (ByteArray) × (Int) => (fun s : ByteArray => s.size + 1) p.1 + (fun _ : Int => 1) p.2)) (opens_slice Tryd.underlying35 (by kernel_rfl) (B := 16) (by kernel_rfl) (opens_string Tryd.underlying9 (by kernel_rfl))) rfl (by kernel_rfl) ?_
    refine opensF_cons (ok1 := (fun s : ByteArray => s.size ≤ reachBytes)) (ok2 := (fun n : Int => (Lit.int .i64 n).wf = true)) (sz1 := (fun s : ByteArray => s.size + 1)) (sz2 := (fun _ : Int => 1)) (opens_string Tryd.underlying9 (by kernel_rfl)) rfl (by kernel_rfl) ?_
    exact opensF_one (ok := (fun n : Int => (Lit.int .i64 n).wf = true)) (sz := (fun _ : Int => 1)) (opens_int .i64 Tryd.underlying3 (by kernel_rfl)) rfl (by kernel_rfl)
  have hI := opens_iso (fun x : S58 => (x.f0, x.f1, x.f2, x.f3, x.f4)) (fun p => ⟨p.1, p.2.1, p.2.2.1, p.2.2.2.1, p.2.2.2.2⟩) (fun _ => rfl) hS
  exact (hI.imp (fun _ h => h) (fun _ => Nat.le_refl _)).le (Nat.le_succ b)
theorem ok58_iff (x : S58) : ok58 x ↔ ((Lit.int .i64 x.f0).wf = true ∧ ((x.f1.length * 8 ≤ reachBytes ∧ ∀ y ∈ x.f1, (Lit.int .i64 y).wf = true) ∧ ((x.f2.length * 16 ≤ reachBytes ∧ ∀ y ∈ x.f2, y.size ≤ reachBytes) ∧ (x.f3.size ≤ reachBytes ∧ (Lit.int .i64 x.f4).wf = true)))) := Iff.rfl
def ok61 (x : S61) : Prop := ((fun n : Int => (Lit.int .i64 n).wf = true) x.f0 ∧ (fun l : List (Int) => l.length * 8 ≤ reachBytes ∧ ∀ x ∈ l, (fun n : Int => (Lit.int .i64 n).wf = true) x) x.f1)
def wt61 (x : S61) : Nat := ((fun _ : Int => 1) x.f0 + (fun l : List (Int) => szList (fun _ : Int => 1) l + 1) x.f1) + 1
set_option maxRecDepth 100000 in
theorem opens_k61 (b : Nat) : Opens b Tryd.prog 61 k61 ok61 wt61 := by
  have hS : Opens (b + 1) Tryd.prog 61 (Kd.pair (Kd.int .i64) (Kd.slice 3 (Kd.int .i64))) (fun p : (Int) × (List (Int)) => (fun n : Int => (Lit.int .i64 n).wf = true) p.1 ∧ (fun l : List (Int) => l.length * 8 ≤ reachBytes ∧ ∀ x ∈ l, (fun n : Int => (Lit.int .i64 n).wf = true) x) p.2) (fun v => (fun p : (Int) × (List (Int)) => (fun _ : Int => 1) p.1 + (fun l : List (Int) => szList (fun _ : Int => 1) l + 1) p.2) v + 1) := by
    refine opens_struct Tryd.underlying61 (by kernel_rfl) ?_
    refine opensF_cons (ok1 := (fun n : Int => (Lit.int .i64 n).wf = true)) (ok2 := (fun l : List (Int) => l.length * 8 ≤ reachBytes ∧ ∀ x ∈ l, (fun n : Int => (Lit.int .i64 n).wf = true) x)) (sz1 := (fun _ : Int => 1)) (sz2 := (fun l : List (Int) => szList (fun _ : Int => 1) l + 1)) (opens_int .i64 Tryd.underlying59 (by kernel_rfl)) rfl (by kernel_rfl) ?_
    exact opensF_one (ok := (fun l : List (Int) => l.length * 8 ≤ reachBytes ∧ ∀ x ∈ l, (fun n : Int => (Lit.int .i64 n).wf = true) x)) (sz := (fun l : List (Int) => szList (fun _ : Int => 1) l + 1)) (opens_slice Tryd.underlying56 (by kernel_rfl) (B := 8) (by kernel_rfl) (opens_int .i64 Tryd.underlying3 (by kernel_rfl))) rfl (by kernel_rfl)
  have hI := opens_iso (fun x : S61 => (x.f0, x.f1)) (fun p => ⟨p.1, p.2⟩) (fun _ => rfl) hS
  exact (hI.imp (fun _ h => h) (fun _ => Nat.le_refl _)).le (Nat.le_succ b)
theorem ok61_iff (x : S61) : ok61 x ↔ ((Lit.int .i64 x.f0).wf = true ∧ (x.f1.length * 8 ≤ reachBytes ∧ ∀ y ∈ x.f1, (Lit.int .i64 y).wf = true)) := Iff.rfl
def ok40 (x : S40) : Prop := ((fun l : List (ByteArray) => l.length * 16 ≤ reachBytes ∧ ∀ x ∈ l, (fun s : ByteArray => s.size ≤ reachBytes) x) x.f0 ∧ ((fun l : List (ByteArray) => l.length * 16 ≤ reachBytes ∧ ∀ x ∈ l, (fun s : ByteArray => s.size ≤ reachBytes) x) x.f1 ∧ ((fun l : List (Int) => l.length * 8 ≤ reachBytes ∧ ∀ x ∈ l, (fun n : Int => (Lit.int .i64 n).wf = true) x) x.f2 ∧ ((fun l : List (S58) => l.length * 80 ≤ reachBytes ∧ ∀ x ∈ l, ok58 x) x.f3 ∧ (fun l : List (S61) => l.length * 32 ≤ reachBytes ∧ ∀ x ∈ l, ok61 x) x.f4))))
def wt40 (x : S40) : Nat := ((fun l : List (ByteArray) => szList (fun s : ByteArray => s.size + 1) l + 1) x.f0 + ((fun l : List (ByteArray) => szList (fun s : ByteArray => s.size + 1) l + 1) x.f1 + ((fun l : List (Int) => szList (fun _ : Int => 1) l + 1) x.f2 + ((fun l : List (S58) => szList wt58 l + 1) x.f3 + (fun l : List (S61) => szList wt61 l + 1) x.f4)))) + 1
set_option maxRecDepth 100000 in
theorem opens_k40 (b : Nat) : Opens b Tryd.prog 40 k40 ok40 wt40 := by
  have hS : Opens (b + 1) Tryd.prog 40 (Kd.pair (Kd.slice 9 Kd.string) (Kd.pair (Kd.slice 9 Kd.string) (Kd.pair (Kd.slice 75 (Kd.int .i64)) (Kd.pair (Kd.slice 58 k58) (Kd.slice 61 k61))))) (fun p : (List (ByteArray)) × (List (ByteArray)) × (List (Int)) × (List (S58)) × (List (S61)) => (fun l : List (ByteArray) => l.length * 16 ≤ reachBytes ∧ ∀ x ∈ l, (fun s : ByteArray => s.size ≤ reachBytes) x) p.1 ∧ (fun p : (List (ByteArray)) × (List (Int)) × (List (S58)) × (List (S61)) => (fun l : List (ByteArray) => l.length * 16 ≤ reachBytes ∧ ∀ x ∈ l, (fun s : ByteArray => s.size ≤ reachBytes) x) p.1 ∧ (fun p : (List (Int)) × (List (S58)) × (List (S61)) => (fun l : List (Int) => l.length * 8 ≤ reachBytes ∧ ∀ x ∈ l, (fun n : Int => (Lit.int .i64 n).wf = true) x) p.1 ∧ (fun p : (List (S58)) × (List (S61)) => (fun l : List (S58) => l.length * 80 ≤ reachBytes ∧ ∀ x ∈ l, ok58 x) p.1 ∧ (fun l : List (S61) => l.length * 32 ≤ reachBytes ∧ ∀ x ∈ l, ok61 x) p.2) p.2) p.2) p.2) (fun v => (fun p : (List (ByteArray)) × (List (ByteArray)) × (List (Int)) × (List (S58)) × (List (S61)) => (fun l : List (ByteArray) => szList (fun s : ByteArray => s.size + 1) l + 1) p.1 + (fun p : (List (ByteArray)) × (List (Int)) × (List (S58)) × (List (S61)) => (fun l : List (ByteArray) => szList (fun s : ByteArray => s.size + 1) l + 1) p.1 + (fun p : (List (Int)) × (List (S58)) × (List (S61)) => (fun l : List (Int) => szList (fun _ : Int => 1) l + 1) p.1 + (fun p : (List (S58)) × (List (S61)) => (fun l : List (S58) => szList wt58 l + 1) p.1 + (fun l : List (S61) => szList wt61 l + 1) p.2) p.2) p.2) p.2) v + 1) := by
    refine opens_struct Tryd.underlying40 (by kernel_rfl) ?_
    refine opensF_cons (ok1 := (fun l : List (ByteArray) => l.length * 16 ≤ reachBytes ∧ ∀ x ∈ l, (fun s : ByteArray => s.size ≤ reachBytes) x)) (ok2 := (fun p : (List (ByteArray)) × (List (Int)) × (List (S58)) × (List (S61)) => (fun l : List (ByteArray) => l.length * 16 ≤ reachBytes ∧ ∀ x ∈ l, (fun s : ByteArray => s.size ≤ reachBytes) x) p.1 ∧ (fun p : (List (Int)) × (List (S58)) × (List (S61)) => (fun l : List (Int) => l.length * 8 ≤ reachBytes ∧ ∀ x ∈ l, (fun n : Int => (Lit.int .i64 n).wf = true) x) p.1 ∧ (fun p : (List (S58)) × (List (S61)) => (fun l : List (S58) => l.length * 80 ≤ reachBytes ∧ ∀ x ∈ l, ok58 x) p.1 ∧ (fun l : List (S61) => l.length * 32 ≤ reachBytes ∧ ∀ x ∈ l, ok61 x) p.2) p.2) p.2)) (sz1 := (fun l : List (ByteArray) => szList (fun s : ByteArray => s.size + 1) l + 1)) (sz2 := (fun p : (List (ByteArray)) × (List (Int)) × (List (S58)) × (List (S61)) => (fun l : List (ByteArray) => szList (fun s : ByteArray => s.size + 1) l + 1) p.1 + (fun p : (List (Int)) × (List (S58)) × (List (S61)) => (fun l : List (Int) => szList (fun _ : Int => 1) l + 1) p.1 + (fun p : (List (S58)) × (List (S61)) => (fun l : List (S58) => szList wt58 l + 1) p.1 + (fun l : List (S61) => szList wt61 l + 1) p.2) p.2) p.2)) (opens_slice Tryd.underlying35 (by kernel_rfl) (B := 16) (by kernel_rfl) (opens_string Tryd.underlying9 (by kernel_rfl))) rfl (by kernel_rfl) ?_
    refine opensF_cons (ok1 := (fun l : List (ByteArray) => l.length * 16 ≤ reachBytes ∧ ∀ x ∈ l, (fun s : ByteArray => s.size ≤ reachBytes) x)) (ok2 := (fun p : (List (Int)) × (List (S58)) × (List (S61)) => (fun l : List (Int) => l.length * 8 ≤ reachBytes ∧ ∀ x ∈ l, (fun n : Int => (Lit.int .i64 n).wf = true) x) p.1 ∧ (fun p : (List (S58)) × (List (S61)) => (fun l : List (S58) => l.length * 80 ≤ reachBytes ∧ ∀ x ∈ l, ok58 x) p.1 ∧ (fun l : List (S61) => l.length * 32 ≤ reachBytes ∧ ∀ x ∈ l, ok61 x) p.2) p.2)) (sz1 := (fun l : List (ByteArray) => szList (fun s : ByteArray => s.size + 1) l + 1)) (sz2 := (fun p : (List (Int)) × (List (S58)) × (List (S61)) => (fun l : List (Int) => szList (fun _ : Int => 1) l + 1) p.1 + (fun p : (List (S58)) × (List (S61)) => (fun l : List (S58) => szList wt58 l + 1) p.1 + (fun l : List (S61) => szList wt61 l + 1) p.2) p.2)) (opens_slice Tryd.underlying35 (by kernel_rfl) (B := 16) (by kernel_rfl) (opens_string Tryd.underlying9 (by kernel_rfl))) rfl (by kernel_rfl) ?_
    refine opensF_cons (ok1 := (fun l : List (Int) => l.length * 8 ≤ reachBytes ∧ ∀ x ∈ l, (fun n : Int => (Lit.int .i64 n).wf = true) x)) (ok2 := (fun p : (List (S58)) × (List (S61)) => (fun l : List (S58) => l.length * 80 ≤ reachBytes ∧ ∀ x ∈ l, ok58 x) p.1 ∧ (fun l : List (S61) => l.length * 32 ≤ reachBytes ∧ ∀ x ∈ l, ok61 x) p.2)) (sz1 := (fun l : List (Int) => szList (fun _ : Int => 1) l + 1)) (sz2 := (fun p : (List (S58)) × (List (S61)) => (fun l : List (S58) => szList wt58 l + 1) p.1 + (fun l : List (S61) => szList wt61 l + 1) p.2)) (opens_slice Tryd.underlying36 (by kernel_rfl) (B := 8) (by kernel_rfl) (opens_int .i64 Tryd.underlying75 (by kernel_rfl))) rfl (by kernel_rfl) ?_
    refine opensF_cons (ok1 := (fun l : List (S58) => l.length * 80 ≤ reachBytes ∧ ∀ x ∈ l, ok58 x)) (ok2 := (fun l : List (S61) => l.length * 32 ≤ reachBytes ∧ ∀ x ∈ l, ok61 x)) (sz1 := (fun l : List (S58) => szList wt58 l + 1)) (sz2 := (fun l : List (S61) => szList wt61 l + 1)) (opens_slice Tryd.underlying37 (by kernel_rfl) (B := 80) (by kernel_rfl) (opens_k58 _)) rfl (by kernel_rfl) ?_
    exact opensF_one (ok := (fun l : List (S61) => l.length * 32 ≤ reachBytes ∧ ∀ x ∈ l, ok61 x)) (sz := (fun l : List (S61) => szList wt61 l + 1)) (opens_slice Tryd.underlying38 (by kernel_rfl) (B := 32) (by kernel_rfl) (opens_k61 _)) rfl (by kernel_rfl)
  have hI := opens_iso (fun x : S40 => (x.f0, x.f1, x.f2, x.f3, x.f4)) (fun p => ⟨p.1, p.2.1, p.2.2.1, p.2.2.2.1, p.2.2.2.2⟩) (fun _ => rfl) hS
  exact (hI.imp (fun _ h => h) (fun _ => Nat.le_refl _)).le (Nat.le_succ b)
theorem ok40_iff (x : S40) : ok40 x ↔ ((x.f0.length * 16 ≤ reachBytes ∧ ∀ y ∈ x.f0, y.size ≤ reachBytes) ∧ ((x.f1.length * 16 ≤ reachBytes ∧ ∀ y ∈ x.f1, y.size ≤ reachBytes) ∧ ((x.f2.length * 8 ≤ reachBytes ∧ ∀ y ∈ x.f2, (Lit.int .i64 y).wf = true) ∧ ((x.f3.length * 80 ≤ reachBytes ∧ ∀ y ∈ x.f3, ok58 y) ∧ (x.f4.length * 32 ≤ reachBytes ∧ ∀ y ∈ x.f4, ok61 y))))) := Iff.rfl
end Go.Proofs.YtphmgaijkdflnaaDoor.H
end
section
namespace Go.Proofs.YtphmgaijkdflnaaDoor.H
open Go.RowKit Go.Proofs.YtphmgaijkdflnaaDoorW.PrintWords Go.Proofs.YtphmgaijkdflnaaDoorW.PrintLast Go.Proofs.YtphmgaijkdflnaaDoorW.PrintMore
open Go.WideMaps Go.Maps
set_option linter.unusedVariables false
set_option linter.unusedSimpArgs false
theorem ba_ext {a b : ByteArray} (h : a.data.toList = b.data.toList) : a = b := by
  cases a; cases b; simp_all
instance decBA : DecidableEq ByteArray := fun a b => decidable_of_iff (a.data.toList = b.data.toList) ⟨ba_ext, fun h => by rw [h]⟩
instance decMemBA (s : ByteArray) (l : List ByteArray) : Decidable (s ∈ l) := decidable_of_iff (l.any (fun y => decide (y = s)) = true) (by simp)
theorem lit_ne {a b : ByteArray} (h : a ≠ b) : (Lit.string a.data.toList) ≠ .string b.data.toList := fun he => h (by injection he with he; exact ba_ext he)
theorem rdOf_nat {α : Type} (z : α) (l : List α) (k : Nat) (h : k < l.length) : rdOf z l (k : Int) = l[k] := by
  simp [rdOf, List.getD_eq_getElem?_getD, List.getElem?_eq_getElem h]
theorem take_rd {α : Type} (z : α) (l : List α) (k : Nat) (h : k < l.length) : l.take (k + 1) = l.take k ++ [rdOf z l (k : Int)] := by
  rw [List.take_succ_eq_append_getElem h, rdOf_nat z l k h]
theorem at_string_nat {w : World} {A : Option Addr} {n : Nat} {xs : List ByteArray} (h : Kd.string.C w A n xs) (k : Nat) (hk : k < n) : ∃ ad, A = some ad ∧ w.cell? (ad.add k) = some (.string (rdOf ByteArray.empty xs (k : Int))) := by
  obtain ⟨ad, e, hc⟩ := Kd.at_string h (k : Int) (by omega) (by omega)
  exact ⟨ad, e, by rwa [Int.toNat_natCast] at hc⟩
theorem owns_drewN {H : Type} {P : Program} {k : TypeId} {R : Value → Option (DataW H × List MemPlace)} {w : World} {b n : Nat} {D : DataW H} (h : w.ownsMap P k R b n D) (N : Nat) : (w.drewN N).ownsMap P k R b n D := h
theorem lit_int_inj {H : Type} {d : DataW H} {a b : Int} (h : d = .lit (.int .i64 a)) (k : d = .lit (.int .i64 b)) : a = b := by
  have e := h.symm.trans k
  injection e with e
  injection e
theorem law_string : Keyed Tryd.prog 9 := string_keyed Tryd.underlying9
theorem zero_int (w : World) : (zeroValue 3).run Tryd.prog w = .ok (.int .i64 0) w := by kernel_rfl
end Go.Proofs.YtphmgaijkdflnaaDoor.H
end
section
namespace Go.Proofs.YtphmgaijkdflnaaDoor.H
open Go.RowKit Go.Proofs.YtphmgaijkdflnaaDoorW.PrintWords Go.Proofs.YtphmgaijkdflnaaDoorW.PrintLast Go.Proofs.YtphmgaijkdflnaaDoorW.PrintMore
set_option linter.unusedVariables false
def Ends {α : Type} (g : Nat → Option α) (v : α) : Prop := ∃ k0, ∀ k, k0 ≤ k → g k = some v
theorem Ends.const {α : Type} (v : α) : Ends (fun _ => some v) v := ⟨0, fun _ _ => rfl⟩
theorem Ends.of_mono {α : Type} {g : Nat → Option α} {v : α} (hm : ∀ k, LeO (g k) (g (k + 1))) (h : ∃ k, g k = some v) : Ends g v := by
  obtain ⟨k, hk⟩ := h
  refine ⟨k, fun m hmk => ?_⟩
  induction m with
  | zero => obtain rfl : k = 0 := by omega
            exact hk
  | succ m ih =>
    rcases Nat.lt_or_ge k (m + 1) with q | q
    · exact hm m v (ih (by omega))
    · obtain rfl : k = m + 1 := by omega
      exact hk
theorem Ends.step {α : Type} {g h : Nat → Option α} {v : α} (e : ∀ k, g (k + 1) = h k) (hh : Ends h v) : Ends g v := by
  obtain ⟨k0, hk⟩ := hh
  refine ⟨k0 + 1, fun k hk1 => ?_⟩
  obtain ⟨m, rfl⟩ : ∃ m, k = m + 1 := ⟨k - 1, by omega⟩
  rw [e]; exact hk m (by omega)
theorem Ends.bind {α β : Type} {f : Nat → Option α} {g : Nat → α → Option β} {a : α} {v : β} (hf : Ends f a) (hg : Ends (fun k => g k a) v) : Ends (fun k => (f k).bind (g k)) v := by
  obtain ⟨k1, h1⟩ := hf
  obtain ⟨k2, h2⟩ := hg
  refine ⟨k1 + k2, fun k hk => ?_⟩
  show (f k).bind (g k) = some v
  rw [h1 k (by omega)]; exact h2 k (by omega)
theorem Ends.bind0 {α β : Type} {f : Option α} {g : Nat → α → Option β} {a : α} {v : β} (hf : f = some a) (hg : Ends (fun k => g k a) v) : Ends (fun k => f.bind (g k)) v := by
  subst hf; exact hg
theorem Ends.pos {α : Type} {c : Prop} {d : Decidable c} {f g : Nat → Option α} {v : α} (hc : c) (h : Ends f v) : Ends (fun k => @ite _ c d (f k) (g k)) v := by
  obtain ⟨k0, hk⟩ := h
  exact ⟨k0, fun k hk1 => by simp only [if_pos hc]; exact hk k hk1⟩
theorem Ends.neg {α : Type} {c : Prop} {d : Decidable c} {f g : Nat → Option α} {v : α} (hc : ¬ c) (h : Ends g v) : Ends (fun k => @ite _ c d (f k) (g k)) v := by
  obtain ⟨k0, hk⟩ := h
  exact ⟨k0, fun k hk1 => by simp only [if_neg hc]; exact hk k hk1⟩
theorem Ends.get {α : Type} {g : Nat → Option α} {v : α} (h : Ends g v) : ∃ k, g k = some v := by
  obtain ⟨k0, hk⟩ := h
  exact ⟨k0, hk k0 (Nat.le_refl _)⟩
theorem Ends.val {α : Type} {g : Nat → Option α} {v w : α} (h : Ends g v) (e : v = w) : Ends g w := e ▸ h
end Go.Proofs.YtphmgaijkdflnaaDoor.H
end
section
namespace Go.Proofs.YtphmgaijkdflnaaDoor.H
open Go.RowKit Go.Proofs.YtphmgaijkdflnaaDoorW.PrintWords Go.Proofs.YtphmgaijkdflnaaDoorW.PrintLast Go.Proofs.YtphmgaijkdflnaaDoorW.PrintMore
set_option linter.unusedVariables false
set_option linter.unusedSimpArgs false
section
variable {P : Program} {ops : Array Oper} {rest : List Oper} {o : Oper} {a : Act} {Q : Exit → Act → World → Prop} {W : World} {α : Type}
theorem Kd.R_makecap (d : Kd α) {w0 W : World} (base e : Nat) (hgd : o.guard = none) {N : Tmp} (hd : o.dst = some N) (t : TypeId) (x y : Operand) (ho : o.op = .makeSlice t x y) (n : Int) (hx : a.eval x = .int .i64 0) (hy : a.eval y = .int .i64 n)
    (ht : P.underlying t = some (.slice e)) (z : Value) (bytes : Nat) (hinfo : (P.info? e).map (fun i => (i.zero, i.size, i.bytes)) = some (some z, d.sz, bytes)) (hz : z.cells.size = d.sz) (hs0 : 0 < d.sz) (hb0 : 0 < bytes)
    (z0 : α) {ok okp : Nat → Prop} (hzero : d.M W base okp z0 z.cells.toList) (hok : ∀ k, okp k → ok k) (hfresh : ok W.heap.size) (h0 : 0 ≤ n) (hl : n.toNat * bytes ≤ 281474976710656) (HB : Below base w0 W) (hbase : base ≤ W.heap.size)
    (h : ∀ v1 w1, d.R e w1 base ok v1 (List.replicate 0 z0) → Below base w0 w1 → W.grownBy w1 none → (∃ b, v1.ownBlock = some b ∧ W.heap.size ≤ b) → wpList P ops Q rest (a.put o.dst v1) w1) : wpList P ops Q (o :: rest) a W := by
  obtain ⟨m, rfl⟩ := Int.eq_ofNat_of_zero_le h0
  simp only [Int.toNat_natCast] at hl
  obtain ⟨i0, hi, hzz⟩ := Option.map_eq_some_iff.1 hinfo
  simp only [Prod.mk.injEq] at hzz
  obtain ⟨hz0, hz1, hz2⟩ := hzz
  have hm : m ≤ 281474976710656 := Nat.le_trans (Nat.le_mul_of_pos_right _ hb0) hl
  have hr := run_make (P := P) W t e i0 z ht hi hz0 .i64 .i64 (0 : Int) (m : Int) (by omega) (by omega)
    (by
      have h3 : ((i0.bytes * m : Nat) : Int) ≤ 281474976710656 := by rw [hz2, Nat.mul_comm]; omega
      rwa [Int.natCast_mul] at h3) (by omega)
  simp only [Int.toNat_natCast, Int.toNat_zero] at hr
  rw [hz1] at hr
  have hrun : (execOp a.eval o).run P W = .ok (.value (.slice (some ⟨W.heap.size, 0, none⟩) 0 m)) (W.alloc (.cells (madeCells z.cells (m * d.sz)) e)) := by simp [execOp, ho, hx, hy, hr]
  refine Kd.event_run hgd hrun (h _ _ ⟨fun k hk => ?_, [], ?_, ?_⟩ (HB.alloc hbase _) (World.grownBy_alloc W _ none) ⟨W.heap.size, by simp [Value.ownBlock], Nat.le_refl _⟩)
  · have : W.heap.size = k := by simpa [Value.ownBlock] using hk
    subst this
    exact hfresh
  · have h2 := own_take (m := 0) (World.ownsRow_lit (base := base) (e := e) (size := d.sz) W (madeCells z.cells (m * d.sz)) m hbase (by simp only [maxLen]; omega) (by simp [size_madeCells])) (Nat.zero_le _)
    simpa using h2
  · exact Reps.none _ _
end
end Go.Proofs.YtphmgaijkdflnaaDoor.H
end
section
namespace Go.Proofs.YtphmgaijkdflnaaDoor.H
open Go.RowKit Go.Proofs.YtphmgaijkdflnaaDoorW.PrintWords Go.Proofs.YtphmgaijkdflnaaDoorW.PrintLast Go.Proofs.YtphmgaijkdflnaaDoorW.PrintMore
attribute [local go_sem] max2_int min2_int max_two min_two max_three min_three max_four min_four
set_option linter.unusedVariables false
set_option linter.unusedSimpArgs false
def cst_own.l0 : Nat → List ByteArray → List (S46) → Int → Int → Int → Int → Int → Int → List (S46) → ByteArray → List (S26) → Option (List ByteArray)
 | 0, _, _, _, _, _, _, _, _, _, _, _ => none
 | k + 1, x3, x15, x16, x17, x124000, x124001, x124002, x124003, x124004, x124005, x124006 => if x17 < x16 then (if 0 ≤ x17 then (if x17 < (x15.length : Int) then (if x3.length < 8796093022208 then (cst_own.l0 k (x3 ++ [(rd_T46 x15 x17).f2]) x15 x16 (wrap64 (x17 + 1)) x124000 x124001 x124002 x124003 x124004 x124005 x124006) else (none)) else (none)) else (none)) else (if x3.length < 8796093022208 then (some (x3 ++ [x124005])) else (none))
def cst_own.f (k : Nat) (a0_0 : Int) (a0_1 : Int) (a0_2 : Int) (a0_3 : Int) (l0_4 : List (S46)) (a0_5 : ByteArray) (l0_6 : List (S26)) : Option (List ByteArray) := if a0_0 < 0 then (some ([] : List ByteArray)) else (if 0 ≤ (wrap64 ((l0_4.length : Int) + 1)) then (if (wrap64 ((l0_4.length : Int) + 1) : Int).toNat ≤ 17592186044416 then (cst_own.l0 k (List.replicate 0 (⟨#[]⟩ : ByteArray)) l0_4 (l0_4.length : Int) 0 a0_0 a0_1 a0_2 a0_3 l0_4 a0_5 l0_6) else (none)) else (none))
set_option maxHeartbeats 8000000 in
set_option maxRecDepth 100000 in
theorem cst_own.calls (k : Nat) (a0_0 : Int) (a0_1 : Int) (a0_2 : Int) (a0_3 : Int) (A0_4 : Option Addr) (c0_4 : Nat) (l0_4 : List (S46)) (a0_5 : ByteArray) (A0_6 : Option Addr) (c0_6 : Nat) (l0_6 : List (S26)) (r : List ByteArray) (w : World) (hr0_4 : Kd.C k46 w A0_4 l0_4.length l0_4) (hc0_4 : l0_4.length ≤ c0_4) (hr0_6 : Kd.C k26 w A0_6 l0_6.length l0_6) (hc0_6 : l0_6.length ≤ c0_6) (h : cst_own.f k a0_0 a0_1 a0_2 a0_3 l0_4 a0_5 l0_6 = some r) :
  Calls Tryd.prog 32 #[.agg #[.int .i64 a0_0, .int .i64 a0_1, .int .i64 a0_2, .int .i64 a0_3, .slice A0_4 l0_4.length c0_4, .string a0_5, .slice A0_6 l0_6.length c0_6]] w fun e w' => ∃ v0_ : Value, e = .returned (v0_) ∧ Kd.R Kd.string 9 w' w.heap.size (fun _ => True) v0_ r ∧ Below w.heap.size w w' := by
 (have hu26 := Tryd.underlying26); (have hu46 := Tryd.underlying46); (have HR0_4 := qM hr0_4); (have HC0_4 := qM hc0_4); clear hr0_4 hc0_4; (have HR0_6 := qM hr0_6); (have HC0_6 := qM hc0_6); clear hr0_6 hc0_6; (have HB := qM (Below.refl w.heap.size w)); (have H : (if a0_0 < 0 then (some ([] : List ByteArray)) else (if 0 ≤ (wrap64 ((l0_4.length : Int) + 1)) then (if (wrap64 ((l0_4.length : Int) + 1) : Int).toNat ≤ 17592186044416 then (cst_own.l0 k (List.replicate 0 (⟨#[]⟩ : ByteArray)) l0_4 (l0_4.length : Int) 0 a0_0 a0_1 a0_2 a0_3 l0_4 a0_5 l0_6) else (none)) else (none))) = some r := h); clear h; (by_cases c2 : a0_0 < 0)
 ·rw [if_pos c2] at H
  (have c2b0 : decide (a0_0 < 0) = true := decide_eq_true c2); clear c2; (obtain rfl := Option.some.inj H); (go_enter Tryd.func32, Tryd.ntmps32)
  go_wp2_with (first | ((with_reducible refine gate_dst (N := 1) rfl ?_); refine box_event ?hg (N := 1) ?hd (cs := #[.int .i64 a0_0, .int .i64 a0_1, .int .i64 a0_2, .int .i64 a0_3, .slice A0_4 l0_4.length c0_4, .string a0_5, .slice A0_6 l0_6.length c0_6]) (t := 26) ?hr ?_; (case hd => rfl); (case hg => rfl); (case hr => first | (go_simp; done) | (go_simp; rfl)); intro gb123 hg w3 hbox hb; have n0_ := qM (qP qF hb); have n1_ := qM (hbox); have n2_ := qM ((by rw [hg]; exact (qZ qF) : w.heap.size ≤ gb123)); have n3_ := qM ((by rw [hg]; exact (qZ qF) : w.heap.size ≤ gb123)); clear HB; have HB := n0_; have BK123 := n1_; have GW123 := n2_; have GE123 := n3_; clear n0_ n1_ n2_ n3_; clear hb hbox hg; obtain ⟨hcz4_0, hcz4_1, hcz4_2, hcz4_3, hcz4_4, hcz4_5, hcz4_6, hfz4_0, hfz4_1, hfz4_2, hfz4_3, hfz4_4, hfz4_5, hfz4_6⟩ := bx7 BK123.out))
  (go_ret); (exact ⟨_, qE, by first | exact Kd.R_nil _ _ _ _ _ | exact Kd.N_nil _ _ _ _ _ | exact Kd.V_nil _ _ _ _ _ | exact Kd.Q_nil _ _ _ _ _ | exact Kd.S_nil _ _ _ _ _, qF⟩)
 ·rw [if_neg c2] at H
  (have c2b0 : decide (a0_0 < 0) = false := decide_eq_false c2); clear c2; (obtain ⟨ji5, hji5⟩ : ∃ j_ : Int, (wrap64 ((l0_4.length : Int) + 1)) = j_ := ⟨_, rfl⟩); (replace H : (if 0 ≤ (ji5) then (if (ji5 : Int).toNat ≤ 17592186044416 then (cst_own.l0 k (List.replicate 0 (⟨#[]⟩ : ByteArray)) l0_4 (l0_4.length : Int) 0 a0_0 a0_1 a0_2 a0_3 l0_4 a0_5 l0_6) else (none)) else (none)) = some r := by first | (rw [hji5] at H; exact H) | (simp only [hji5] at H ⊢; exact H)); (have hji5w : (IntKind.i64.wrap ((l0_4.length : Int) + 1)) = ji5 := (i64_w _).trans hji5); (by_cases c6 : 0 ≤ (ji5))
  ·rw [if_pos c6] at H
   (have c6b0 := eq_true c6); (have c6b1 : decide (0 ≤ (ji5)) = true := decide_eq_true c6); clear c6; (by_cases c7 : (ji5 : Int).toNat ≤ 17592186044416)
   ·rw [if_pos c7] at H
    (have c7b0 := eq_true c7); (have c7b1 : decide ((ji5 : Int).toNat ≤ 17592186044416) = true := decide_eq_true c7); clear c7; (obtain ⟨y124, hy124⟩ : ∃ y_ : List ByteArray, y_ = (List.replicate 0 (⟨#[]⟩ : ByteArray)) := ⟨_, rfl⟩); (replace H : (cst_own.l0 k y124 l0_4 (l0_4.length : Int) 0 a0_0 a0_1 a0_2 a0_3 l0_4 a0_5 l0_6) = some r := by first | (rw [hy124]; with_reducible exact H) | (have H2_ := (Option.bind_some _ _).symm.trans H; rw [hy124]; with_reducible exact H2_) | (have H2_ := (Option.bind_some _ _).symm.trans H; with_reducible exact H2_) | with_reducible exact H | (rw [hy124]; exact H) | exact H); (have Ny124 := qM hy124); clear hy124; (have H' := qM H); clear H; (go_enter Tryd.func32, Tryd.ntmps32)
    go_wp2_with (first | ((with_reducible refine gate_dst (N := 1) rfl ?_); refine box_event ?hg (N := 1) ?hd (cs := #[.int .i64 a0_0, .int .i64 a0_1, .int .i64 a0_2, .int .i64 a0_3, .slice A0_4 l0_4.length c0_4, .string a0_5, .slice A0_6 l0_6.length c0_6]) (t := 26) ?hr ?_; (case hd => rfl); (case hg => rfl); (case hr => first | (go_simp; done) | (go_simp; rfl)); intro gb123 hg w8 hbox hb; have n0_ := qM (qP qF hb); have n1_ := qM (hbox); have n2_ := qM ((by rw [hg]; exact (qZ qF) : w.heap.size ≤ gb123)); have n3_ := qM ((by rw [hg]; exact (qZ qF) : w.heap.size ≤ gb123)); clear HB; have HB := n0_; have BK123 := n1_; have GW123 := n2_; have GE123 := n3_; clear n0_ n1_ n2_ n3_; clear hb hbox hg; obtain ⟨hcz9_0, hcz9_1, hcz9_2, hcz9_3, hcz9_4, hcz9_5, hcz9_6, hfz9_0, hfz9_1, hfz9_2, hfz9_3, hfz9_4, hfz9_5, hfz9_6⟩ := bx7 BK123.out) | ((with_reducible refine gate_dst (N := 13) rfl ?_); refine Kd.R_makecap Kd.string _ 9 rfl (N := 13) rfl 35 _ _ rfl ji5 rfl rfl Tryd.underlying35 (.string ⟨#[]⟩) 16 info9 rfl (by decide) (by omega) (⟨#[]⟩ : ByteArray) (ok := fun _ => True) (okp := fun _ => True) rfl (fun _ hk => hk) trivial (qo qX) (Nat.le_trans (Nat.mul_le_mul_right _ (qo qX : ji5.toNat ≤ 17592186044416)) (by omega)) (Below.refl _ _) (Nat.le_refl _) ?_; intro v125 w10 ho11 hb hg_ hnew_; clear hg_ hnew_; (first | rw [← Ny124.out] at ho11 | (simp only [Int.reduceToNat] at ho11; rw [← Ny124.out] at ho11)); have n0_ := qM (Kd.R_lower ho11 (qZ qF)); have n1_ := qM (qb (g := gb123) qK hb); have n2_ := qM (qP qF hb); clear BK123; clear HB; have HO126 := n0_; have BK123 := n1_; have HB := n2_; clear n0_ n1_ n2_; clear hb ho11; obtain ⟨hcz12_0, hcz12_1, hcz12_2, hcz12_3, hcz12_4, hcz12_5, hcz12_6, hfz12_0, hfz12_1, hfz12_2, hfz12_3, hfz12_4, hfz12_5, hfz12_6⟩ := bx7 BK123.out))
    go_loopg [3, 17] k (fun kq v3 v17 w' => ∃ (x3_1 : List ByteArray) (x17_1 : Int), v17 = .int .i64 x17_1 ∧ Aside0 (cst_own.l0 kq x3_1 l0_4 (l0_4.length : Int) x17_1 a0_0 a0_1 a0_2 a0_3 l0_4 a0_5 l0_6 = some r) ∧ Aside0 (kq ≤ k) ∧ Aside0 (Kd.R Kd.string 9 w' w.heap.size (fun _ => True) v3 x3_1) ∧ Aside0 (w'.heap[gb123]? = some (.cells #[.int .i64 a0_0, .int .i64 a0_1, .int .i64 a0_2, .int .i64 a0_3, (.slice A0_4 l0_4.length c0_4), .string a0_5, (.slice A0_6 l0_6.length c0_6)] 26 (0, 0))) ∧ Aside0 (Below w.heap.size w w'))
    case atStart => exact ⟨(y124), (0), qV, H', ⟨Nat.le_refl _⟩, ⟨by (with_reducible repeat (first | apply Kd.R_alloc | apply Kd.R_drewN | apply Kd.R_drew)); exact HO126.out⟩, ⟨qK⟩, ⟨qF⟩⟩
    case round =>
     (clear H'); (try clear c2); (try clear c2b0); (try clear p2); (try clear c3); (try clear c6); (try clear c6b0); (try clear c6b1); (try clear p6); (try clear c7); (try clear c7b0); (try clear c7b1); (try clear hcz12_0 hcz12_1 hcz12_2 hcz12_3 hcz12_4 hcz12_5 hcz12_6); (try clear hcz4_0 hcz4_1 hcz4_2 hcz4_3 hcz4_4 hcz4_5 hcz4_6); (try clear hcz9_0 hcz9_1 hcz9_2 hcz9_3 hcz9_4 hcz9_5 hcz9_6); (try clear hfz12_0 hfz12_1 hfz12_2 hfz12_3 hfz12_4 hfz12_5 hfz12_6); (try clear hfz4_0 hfz4_1 hfz4_2 hfz4_3 hfz4_4 hfz4_5 hfz4_6); (try clear hfz9_0 hfz9_1 hfz9_2 hfz9_3 hfz9_4 hfz9_5 hfz9_6); (obtain ⟨x3_1, x17_1, rfl, HA, HK1, HO_3, BK123, HB⟩ := hrel)
     cases gk with
     | zero => exact absurd HA.out (by simp [cst_own.l0])
     | succ k1 =>
      (have H := HA.out); clear HA; (simp only [cst_own.l0] at H); (by_cases c13 : x17_1 < (l0_4.length : Int))
      ·rw [if_pos c13] at H
       (have c13b0 : decide (x17_1 < (l0_4.length : Int)) = true := decide_eq_true c13); clear c13; (by_cases c14 : 0 ≤ x17_1)
       ·rw [if_pos c14] at H
        (have c14b0 : decide (0 ≤ x17_1) = true := decide_eq_true c14); clear c14; (by_cases c15 : x17_1 < (l0_4.length : Int))
        ·rw [if_pos c15] at H
         (have c15b0 : decide (x17_1 < (l0_4.length : Int)) = true := decide_eq_true c15); clear c15; (by_cases c16 : x3_1.length < 8796093022208)
         ·rw [if_pos c16] at H
          (have LMc16 := qM c16); clear c16; (obtain ⟨y129, hy129⟩ : ∃ y_ : List ByteArray, y_ = (x3_1 ++ [(rd_T46 l0_4 x17_1).f2]) := ⟨_, rfl⟩); (replace H : (cst_own.l0 k1 y129 l0_4 (l0_4.length : Int) (wrap64 (x17_1 + 1)) a0_0 a0_1 a0_2 a0_3 l0_4 a0_5 l0_6) = some r := by first | (rw [hy129]; with_reducible exact H) | (have H2_ := (Option.bind_some _ _).symm.trans H; rw [hy129]; with_reducible exact H2_) | (have H2_ := (Option.bind_some _ _).symm.trans H; with_reducible exact H2_) | with_reducible exact H | (rw [hy129]; exact H) | exact H); (have Ny129 := qM hy129); clear hy129; (have H' := qM H); clear H; (have p127 : 0 ≤ (x17_1 : Int) := qo qX); (have q127 : x17_1 < (l0_4.length : Int) := qo qX); (obtain ⟨ad127, e127, hx127_0, hx127_1, hx127_2⟩ := at_T46 HR0_4.out x17_1 p127 q127)
          cases e127
          (replace hx127_0 := (HB.out.cell (qB w _ hx127_0)).trans hx127_0); (replace hx127_1 := (HB.out.cell (qB w _ hx127_1)).trans hx127_1); (replace hx127_2 := (HB.out.cell (qB w _ hx127_2)).trans hx127_2); (replace p127 := eq_true p127); (replace q127 := eq_true q127)
          go_wp2_with (first | ((with_reducible refine gate_dst (N := 5) rfl ?_); refine box_event ?hg (N := 5) ?hd (cs := #[.int .i64 0, .int .i64 0, .string (⟨#[]⟩ : ByteArray)]) (t := 46) ?hr ?_; (case hd => rfl); (case hg => rfl); (case hr => first | (go_simp; done) | (go_simp; rfl)); intro gb128 hg w17 hbox hb; have n0_ := qM (Kd.R_below (by (with_reducible repeat (first | apply Kd.R_alloc | apply Kd.R_drewN | apply Kd.R_drew)); exact HO_3.out) hb); have n1_ := qM (qb (g := gb123) qK hb); have n2_ := qM (qP qF hb); have n3_ := qM (hbox); have n4_ := qM ((by rw [hg]; exact (qZ qF) : w.heap.size ≤ gb128)); have n5_ := qM ((by rw [hg]; exact (qZ qF) : w.heap.size ≤ gb128)); have n6_ := qM ((by rw [hg]; exact Nat.ne_of_lt (ql (g := gb123) qK) : gb123 ≠ gb128)); have n7_ := qM ((by rw [hg]; exact Nat.ne_of_gt (ql (g := gb123) qK) : gb128 ≠ gb123)); clear HO_3; clear BK123; clear HB; have HO_3 := n0_; have BK123 := n1_; have HB := n2_; have BK128 := n3_; have GW128 := n4_; have GE128 := n5_; have NB123_128 := n6_; have NB128_123 := n7_; clear n0_ n1_ n2_ n3_ n4_ n5_ n6_ n7_; clear hb hbox hg; have hnb18 := NB128_123.out; have hnc18 := NB123_128.out; obtain ⟨hcz19_0, hcz19_1, hcz19_2, hfz19_0, hfz19_1, hfz19_2⟩ := bx3 BK128.out) | ((with_reducible refine gate_builtin (b := .append) (xs := #[.tmp 21, .tmp 24]) rfl ?_); at_builtin; refine Kd.R_append Kd.string (w0 := w) w.heap.size rfl (.tmp 21) (.tmp 24) 35 9 (.string ⟨#[]⟩) 16 rfl Tryd.underlying35 info9 rfl (by decide) (by omega) u3 x3_1 ((rd_T46 l0_4 x17_1).f2) [.string ((rd_T46 l0_4 x17_1).f2)] (fun _ => True) (fun _ => False) rfl (by first | (go_simp; done) | (go_simp; rfl)) ?aP (fun _ hk => hk.elim) ?aF ?aO ?aB ?aS ?aL ?_; (case aP => exact rfl); (case aB => exact qF); (case aF => exact (fun _ _ => trivial)); (case aO => exact (by (with_reducible repeat (first | apply Kd.R_alloc | apply Kd.R_drewN | apply Kd.R_drew)); exact Kd.R_mono (Kd.R_far (p := ⟨gb128, 2, none⟩) (Kd.R_far (p := ⟨gb128, 1, none⟩) (Kd.R_far (p := ⟨gb128, 0, none⟩) (Kd.R_types HO_3.out BK128.out (by decide)) (fun _ hk => hk.2) (.int .i64 ((rd_T46 l0_4 x17_1).f0))) (fun _ hk => hk.2) (.int .i64 ((rd_T46 l0_4 x17_1).f1))) (fun _ hk => hk.2) (.string ((rd_T46 l0_4 x17_1).f2))) (fun _ hk => trivial))); (case aS => exact (qZ qF)); (case aL => have := LMc16.out; omega); intro v130 w20 ho hb hg hat; rw [← Ny129.out] at ho; have n0_ := qM (blk_grown (g := gb123) (o := .cells #[.int .i64 a0_0, .int .i64 a0_1, .int .i64 a0_2, .int .i64 a0_3, .slice (some ad127) l0_4.length c0_4, .string a0_5, .slice A0_6 l0_6.length c0_6] 26 (0, 0)) (by (with_reducible repeat (first | refine qn ?_ _ | refine qd ?_ | refine qa ?_ _)); refine qf ?_ NB123_128.out _; (with_reducible repeat (first | refine qn ?_ _ | refine qd ?_ | refine qa ?_ _)); refine qf ?_ NB123_128.out _; (with_reducible repeat (first | refine qn ?_ _ | refine qd ?_ | refine qa ?_ _)); refine qf ?_ NB123_128.out _; (with_reducible repeat (first | refine qn ?_ _ | refine qd ?_ | refine qa ?_ _)); exact BK123.out) hg (Kd.R_ne HO_3.out BK123.out (by decide))); have n1_ := qM (blk_grown (g := gb128) (o := .cells #[.int .i64 ((rd_T46 l0_4 x17_1).f0), .int .i64 ((rd_T46 l0_4 x17_1).f1), .string ((rd_T46 l0_4 x17_1).f2)] 46 (0, 0)) (by (with_reducible repeat (first | refine qn ?_ _ | refine qd ?_ | refine qa ?_ _)); refine blk_put (cs := #[.int .i64 ((rd_T46 l0_4 x17_1).f0), .int .i64 ((rd_T46 l0_4 x17_1).f1), .string (⟨#[]⟩ : ByteArray)]) ?_ 2 _ rfl; (with_reducible repeat (first | refine qn ?_ _ | refine qd ?_ | refine qa ?_ _)); refine blk_put (cs := #[.int .i64 ((rd_T46 l0_4 x17_1).f0), .int .i64 0, .string (⟨#[]⟩ : ByteArray)]) ?_ 1 _ rfl; (with_reducible repeat (first | refine qn ?_ _ | refine qd ?_ | refine qa ?_ _)); refine blk_put (cs := #[.int .i64 0, .int .i64 0, .string (⟨#[]⟩ : ByteArray)]) ?_ 0 _ rfl; (with_reducible repeat (first | refine qn ?_ _ | refine qd ?_ | refine qa ?_ _)); exact BK128.out) hg (Kd.R_ne HO_3.out BK128.out (by decide))); have n2_ := qM (hb); have n3_ := qM (ho); clear BK123; clear BK128; clear HB; clear HO_3; have BK123 := n0_; have BK128 := n1_; have HB := n2_; have HO131 := n3_; clear n0_ n1_ n2_ n3_; clear ho hb hg hat))
          go_roundg k1
          case measure => have := HK1.out; omega
          case rel => exact ⟨(y129), (wrap64 (x17_1 + 1)), qV, H', ⟨by have := HK1.out; omega⟩, ⟨by (with_reducible repeat (first | apply Kd.R_alloc | apply Kd.R_drewN | apply Kd.R_drew)); exact HO131.out⟩, ⟨qK⟩, ⟨qF⟩⟩
         ·rw [if_neg c16] at H
          exact absurd H (by simp)
        ·rw [if_neg c15] at H
         exact absurd H (by simp)
       ·rw [if_neg c14] at H
        exact absurd H (by simp)
      ·rw [if_neg c13] at H
       (have c13b0 : decide (x17_1 < (l0_4.length : Int)) = false := decide_eq_false c13); clear c13; (by_cases c21 : x3_1.length < 8796093022208)
       ·rw [if_pos c21] at H
        (have LMc21 := qM c21); clear c21; (obtain ⟨y132, hy132⟩ : ∃ y_ : List ByteArray, y_ = (x3_1 ++ [a0_5]) := ⟨_, rfl⟩); (replace H : (some y132) = some r := by first | (rw [hy132]; with_reducible exact H) | (have H2_ := (Option.bind_some _ _).symm.trans H; rw [hy132]; with_reducible exact H2_) | (have H2_ := (Option.bind_some _ _).symm.trans H; with_reducible exact H2_) | with_reducible exact H | (rw [hy132]; exact H) | exact H); (have Ny132 := qM hy132); clear hy132; (obtain rfl := Option.some.inj H); (obtain ⟨hcz22_0, hcz22_1, hcz22_2, hcz22_3, hcz22_4, hcz22_5, hcz22_6, hfz22_0, hfz22_1, hfz22_2, hfz22_3, hfz22_4, hfz22_5, hfz22_6⟩ := bx7 BK123.out)
        go_wp2_with (first | ((with_reducible refine gate_builtin (b := .append) (xs := #[.tmp 27, .tmp 30]) rfl ?_); at_builtin; refine Kd.R_append Kd.string (w0 := w) w.heap.size rfl (.tmp 27) (.tmp 30) 35 9 (.string ⟨#[]⟩) 16 rfl Tryd.underlying35 info9 rfl (by decide) (by omega) u3 x3_1 a0_5 [.string a0_5] (fun _ => True) (fun _ => False) rfl rfl ?aP (fun _ hk => hk.elim) ?aF ?aO ?aB ?aS ?aL ?_; (case aP => exact rfl); (case aB => exact qF); (case aF => exact (fun _ _ => trivial)); (case aO => exact (by (with_reducible repeat (first | apply Kd.R_alloc | apply Kd.R_drewN | apply Kd.R_drew)); exact HO_3.out)); (case aS => exact (qZ qF)); (case aL => have := LMc21.out; omega); intro v133 w23 ho hb hg hat; rw [← Ny132.out] at ho; have n0_ := qM (blk_grown (g := gb123) qK hg (Kd.R_ne HO_3.out BK123.out (by decide))); have n1_ := qM (hb); have n2_ := qM (ho); clear BK123; clear HB; clear HO_3; have BK123 := n0_; have HB := n1_; have HO134 := n2_; clear n0_ n1_ n2_; clear ho hb hg hat))
        (go_ret); (exact ⟨_, by first | rfl | (simp [errW_none, errW_some] <;> rfl) | (simp only [← hji5]; first | rfl | (simp [errW_none, errW_some] <;> rfl)) | (simp [*, errW_none, errW_some] <;> rfl), by (with_reducible repeat (first | apply Kd.R_alloc | apply Kd.R_drewN | apply Kd.R_drew)); exact HO134.out, qF⟩)
       ·rw [if_neg c21] at H
        exact absurd H (by simp)
   ·rw [if_neg c7] at H
    exact absurd H (by simp)
  ·rw [if_neg c6] at H
   exact absurd H (by simp)
end Go.Proofs.YtphmgaijkdflnaaDoor.H
end
section
namespace Go.Proofs.YtphmgaijkdflnaaDoor.H
open Go.RowKit Go.Proofs.YtphmgaijkdflnaaDoorW.PrintWords Go.Proofs.YtphmgaijkdflnaaDoorW.PrintLast Go.Proofs.YtphmgaijkdflnaaDoorW.PrintMore
set_option linter.unusedVariables false
set_option linter.unusedSimpArgs false
def nLeaf (s r f : Int) (t : ByteArray) : S26 := ⟨s, r, 0, f, [], t, []⟩
def nInner (s r : Int) (ks : List S26) : S26 := ⟨s, r, 0, 0, [], ⟨#[]⟩, ks⟩
def arboristlaw42_Plus.f : Option (Int × Int × Int × Int × List S46 × ByteArray × List S26) :=
  some (-1, 0, 0, 0, [], ⟨#[]⟩, [nInner (-2) 1 [nInner (-2) 2 [nLeaf 2 (-1) 0 ⟨#[49]⟩], nLeaf 3 (-1) 0 ⟨#[43]⟩, nInner (-2) 2 [nLeaf 2 (-1) 1 ⟨#[]⟩]], nLeaf 0 (-1) 0 ⟨#[]⟩])
theorem row_R {α : Type} (d : Kd α) {w : World} {base e g : Nat} {xs : List α} {inner : List Value} {ok : Nat → Prop} (hh : w.heap[g]? = some (.cells inner.toArray e (0, 0))) (hb : base ≤ g) (hok : ok g) (hm : xs.length ≤ 9223372036854775807)
    (hrep : Reps (d.M w base (fun k => ok k ∧ k ≠ g)) d.sz xs inner) : Kd.R d e w base ok (.slice (some ⟨g, 0, none⟩) xs.length xs.length) xs := by
  refine ⟨fun k hk => ?_, inner, ⟨hrep.1, .inr ⟨g, xs.length, inner.toArray, rfl, hb, hh, Nat.le_refl _, by simpa [maxLen] using hm, by simpa using hrep.1, ?_⟩⟩, ?_⟩
  · have : g = k := by simpa [Value.ownBlock] using hk
    subst this; exact hok
  · have h1 := hrep.1
    simp only [List.take_of_length_le (show inner.length ≤ xs.length * d.sz by omega)]
  · refine hrep.imp_ (fun p c hp => d.M_mono (fun k hk => ⟨hk.1, fun q => hk.2 ?_⟩) hp)
    simpa [Value.ownBlock] using q
theorem alloc8 (w : World) (o0 o1 o2 o3 o4 o5 o6 o7 : Obj) : ∃ W, (((((((w.alloc o0).alloc o1).alloc o2).alloc o3).alloc o4).alloc o5).alloc o6).alloc o7 = W ∧ Below w.heap.size w W ∧ W.heap[w.heap.size]? = some o0 ∧ W.heap[w.heap.size + 1]? = some o1 ∧ W.heap[w.heap.size + 1 + 1 + 1]? = some o3 ∧ W.heap[w.heap.size + 1 + 1 + 1 + 1 + 1]? = some o5 ∧ W.heap[w.heap.size + 1 + 1 + 1 + 1 + 1 + 1 + 1]? = some o7 := by
  refine ⟨_, rfl, below_alloc (below_alloc (below_alloc (below_alloc (below_alloc (below_alloc (below_alloc (below_alloc (Below.refl _ _) _) _) _) _) _) _) _) _, ?_, ?_, ?_, ?_, ?_⟩
  · exact blk_alloc (blk_alloc (blk_alloc (blk_alloc (blk_alloc (blk_alloc (blk_alloc (blk_new w _) _) _) _) _) _) _) _
  · have := blk_alloc (blk_alloc (blk_alloc (blk_alloc (blk_alloc (blk_alloc (blk_new (w.alloc o0) o1) o2) o3) o4) o5) o6) o7
    simpa using this
  · have := blk_alloc (blk_alloc (blk_alloc (blk_alloc (blk_new (((w.alloc o0).alloc o1).alloc o2) o3) o4) o5) o6) o7
    simpa using this
  · have := blk_alloc (blk_alloc (blk_new (((((w.alloc o0).alloc o1).alloc o2).alloc o3).alloc o4) o5) o6) o7
    simpa using this
  · have := blk_new (((((((w.alloc o0).alloc o1).alloc o2).alloc o3).alloc o4).alloc o5).alloc o6) o7
    simpa using this
def leafC (s r f : Int) (t : ByteArray) : List Value := [.int .i64 s, .int .i64 r, .int .i64 0, .int .i64 f, .slice none 0 0, .string t, .slice none 0 0]
def innerC (s r : Int) (g n : Nat) : List Value := [.int .i64 s, .int .i64 r, .int .i64 0, .int .i64 0, .slice none 0 0, .string ⟨#[]⟩, .slice (some ⟨g, 0, none⟩) n n]
theorem leafM (w : World) (base : Nat) (ok : Nat → Prop) (s r f : Int) (t : ByteArray) : k26.M w base ok (nLeaf s r f t) (leafC s r f t) := k26_mkM w base ok (nLeaf s r f t) (Kd.R_nil _ _ _ _ _) (Kd.R_nil _ _ _ _ _)
theorem innerM {w : World} {base : Nat} {ok : Nat → Prop} {s r : Int} {g n : Nat} {ks : List S26} (h : Kd.R k26 26 w base ok (.slice (some ⟨g, 0, none⟩) n n) ks) : k26.M w base ok (nInner s r ks) (innerC s r g n) := k26_mkM w base ok (nInner s r ks) (Kd.R_nil _ _ _ _ _) h
set_option maxRecDepth 100000 in
set_option maxHeartbeats 4000000 in
theorem arboristlaw42_Plus.calls (r0 r1 r2 r3 : Int) (r4 : List S46) (r5 : ByteArray) (r6 : List S26) (w : World) (h : arboristlaw42_Plus.f = some (r0, r1, r2, r3, r4, r5, r6)) :
    Calls Tryd.prog 30 #[] w fun e w' => ∃ v0_ v1_ : Value, e = .returned (.agg #[.int .i64 r0, .int .i64 r1, .int .i64 r2, .int .i64 r3, v0_, .string r5, v1_]) ∧ Kd.R k46 46 w' w.heap.size (fun k_ => (w.heap.size ≤ k_) ∧ some k_ ≠ (v1_ : Value).ownBlock) v0_ r4 ∧
      Kd.N k26 26 w' w.heap.size (fun k_ => (w.heap.size ≤ k_) ∧ some k_ ≠ (v0_ : Value).ownBlock) v1_ r6 ∧ Below w.heap.size w w' := by
  unfold arboristlaw42_Plus.f at h
  simp only [Option.some.injEq, Prod.mk.injEq] at h
  obtain ⟨rfl, rfl, rfl, rfl, rfl, rfl, rfl⟩ := h
  have hu := Tryd.underlying26
  go_enter Tryd.func30, Tryd.ntmps30
  go_wp2
  obtain ⟨W, hW, hB, h0, h1, h3, h5, h7⟩ := alloc8 w (.cells (innerC (-1) 0 (w.heap.size + 1 + 1 + 1 + 1 + 1 + 1 + 1) 2).toArray 26) (.cells (leafC 2 (-1) 0 ⟨#[49]⟩).toArray 26) (.cells (innerC (-2) 2 (w.heap.size + 1) 1).toArray 26) (.cells (leafC 2 (-1) 1 ⟨#[]⟩).toArray 26)
    (.cells (innerC (-2) 2 (w.heap.size + 1 + 1 + 1) 1).toArray 26) (.cells (innerC (-2) 2 (w.heap.size + 1) 1 ++ leafC 3 (-1) 0 ⟨#[43]⟩ ++ innerC (-2) 2 (w.heap.size + 1 + 1 + 1) 1).toArray 26) (.cells (innerC (-2) 1 (w.heap.size + 1 + 1 + 1 + 1 + 1) 3).toArray 26) (.cells (innerC (-2) 1 (w.heap.size + 1 + 1 + 1 + 1 + 1) 3 ++ leafC 0 (-1) 0 ⟨#[]⟩).toArray 26)
  have hW2 := hW
  simp only [innerC, leafC, List.cons_append, List.nil_append] at hW2
  rw [hW2]
  have c0 : W.cell? ⟨w.heap.size, 0, none⟩ = some (.int .i64 (-1)) := (blk_cell h0 0).trans rfl
  have c1 : W.cell? ⟨w.heap.size, 1, none⟩ = some (.int .i64 0) := (blk_cell h0 1).trans rfl
  have c2 : W.cell? ⟨w.heap.size, 2, none⟩ = some (.int .i64 0) := (blk_cell h0 2).trans rfl
  have c3 : W.cell? ⟨w.heap.size, 3, none⟩ = some (.int .i64 0) := (blk_cell h0 3).trans rfl
  have c4 : W.cell? ⟨w.heap.size, 4, none⟩ = some (.slice none 0 0) := (blk_cell h0 4).trans rfl
  have c5 : W.cell? ⟨w.heap.size, 5, none⟩ = some (.string ⟨#[]⟩) := (blk_cell h0 5).trans rfl
  have c6 : W.cell? ⟨w.heap.size, 6, none⟩ = some (.slice (some ⟨w.heap.size + 1 + 1 + 1 + 1 + 1 + 1 + 1, 0, none⟩) 2 2) := (blk_cell h0 6).trans rfl
  refine bodyPost_ret (v := .agg #[.int .i64 (-1), .int .i64 0, .int .i64 0, .int .i64 0, .slice none 0 0, .string ⟨#[]⟩, .slice (some ⟨w.heap.size + 1 + 1 + 1 + 1 + 1 + 1 + 1, 0, none⟩) 2 2]) ?_ rfl ?_
  · simp [results, Tryd.f30, go_sem, c0, c1, c2, c3, c4, c5, c6]
  refine ⟨_, _, rfl, Kd.R_nil _ _ _ _ _, Kd.R_N ?_, hB⟩
  have r1 : ∀ ok : Nat → Prop, ok (w.heap.size + 1) → Kd.R k26 26 W w.heap.size ok (.slice (some ⟨w.heap.size + 1, 0, none⟩) 1 1) [nLeaf 2 (-1) 0 ⟨#[49]⟩] := fun ok hk => row_R k26 (xs := [nLeaf 2 (-1) 0 ⟨#[49]⟩]) h1 (by omega) hk (by simp) ((Reps.none _ _).snoc (leafM _ _ _ _ _ _ _) rfl)
  have r3 : ∀ ok : Nat → Prop, ok (w.heap.size + 1 + 1 + 1) → Kd.R k26 26 W w.heap.size ok (.slice (some ⟨w.heap.size + 1 + 1 + 1, 0, none⟩) 1 1) [nLeaf 2 (-1) 1 ⟨#[]⟩] := fun ok hk => row_R k26 (xs := [nLeaf 2 (-1) 1 ⟨#[]⟩]) h3 (by omega) hk (by simp) ((Reps.none _ _).snoc (leafM _ _ _ _ _ _ _) rfl)
  have r5 : ∀ ok : Nat → Prop, ok (w.heap.size + 1) → ok (w.heap.size + 1 + 1 + 1) → ok (w.heap.size + 1 + 1 + 1 + 1 + 1) → Kd.R k26 26 W w.heap.size ok (.slice (some ⟨w.heap.size + 1 + 1 + 1 + 1 + 1, 0, none⟩) 3 3) [nInner (-2) 2 [nLeaf 2 (-1) 0 ⟨#[49]⟩], nLeaf 3 (-1) 0 ⟨#[43]⟩, nInner (-2) 2 [nLeaf 2 (-1) 1 ⟨#[]⟩]] := fun ok k1 k3 k5 =>
    row_R k26 (xs := [nInner (-2) 2 [nLeaf 2 (-1) 0 ⟨#[49]⟩], nLeaf 3 (-1) 0 ⟨#[43]⟩, nInner (-2) 2 [nLeaf 2 (-1) 1 ⟨#[]⟩]]) h5 (by omega) k5 (by simp) ((((Reps.none _ _).snoc (innerM (r1 _ ⟨k1, by omega⟩)) rfl).snoc (leafM _ _ _ _ _ _ _) rfl).snoc (innerM (r3 _ ⟨k3, by omega⟩)) rfl)
  refine row_R k26 (xs := [nInner (-2) 1 [nInner (-2) 2 [nLeaf 2 (-1) 0 ⟨#[49]⟩], nLeaf 3 (-1) 0 ⟨#[43]⟩, nInner (-2) 2 [nLeaf 2 (-1) 1 ⟨#[]⟩]], nLeaf 0 (-1) 0 ⟨#[]⟩]) h7 (by omega) ⟨by omega, by simp [Value.ownBlock]⟩ (by simp)
    (((Reps.none _ _).snoc (innerM (r5 _ ⟨⟨by omega, by simp [Value.ownBlock]⟩, by omega⟩ ⟨⟨by omega, by simp [Value.ownBlock]⟩, by omega⟩ ⟨⟨by omega, by simp [Value.ownBlock]⟩, by omega⟩)) rfl).snoc (leafM _ _ _ _ _ _ _) rfl)
end Go.Proofs.YtphmgaijkdflnaaDoor.H
end
section
namespace Go.Proofs.YtphmgaijkdflnaaDoor.H
open Go.RowKit Go.Proofs.YtphmgaijkdflnaaDoorW.PrintWords Go.Proofs.YtphmgaijkdflnaaDoorW.PrintLast Go.Proofs.YtphmgaijkdflnaaDoorW.PrintMore
attribute [local go_sem] max2_int min2_int max_two min_two max_three min_three max_four min_four
set_option linter.unusedVariables false
set_option linter.unusedSimpArgs false
mutual
def arboristref42_weigh.j1 : Nat → Int → Int → Int → Int → Int → Int → List (S46) → ByteArray → List (S26) → Option (Int)
 | 0, _, _, _, _, _, _, _, _, _ => none
 | k + 1, x1, x5, x185000, x185001, x185002, x185003, x185004, x185005, x185006 => arboristref42_weigh.l1 k x1 x5 0 x185000 x185001 x185002 x185003 x185004 x185005 x185006
def arboristref42_weigh.l1 : Nat → Int → Int → Int → Int → Int → Int → Int → List (S46) → ByteArray → List (S26) → Option (Int)
 | 0, _, _, _, _, _, _, _, _, _, _ => none
 | k + 1, x1, x5, x7, x185000, x185001, x185002, x185003, x185004, x185005, x185006 => if x7 < (x185006.length : Int) then (if x5 ≤ x1 then (if 0 ≤ x7 then ((arboristref42_weigh.f k ((rd_T26 x185006 x7).f0) ((rd_T26 x185006 x7).f1) ((rd_T26 x185006 x7).f2) ((rd_T26 x185006 x7).f3) ((rd_T26 x185006 x7).f4) ((rd_T26 x185006 x7).f5) ((rd_T26 x185006 x7).f6) (wrap64 (x1 - x5))).bind fun t187 => (arboristref42_weigh.l1 k x1 (wrap64 (x5 + t187)) (wrap64 (x7 + 1)) x185000 x185001 x185002 x185003 x185004 x185005 x185006)) else (none)) else (some x5)) else (some x5)
def arboristref42_weigh.l0 : Nat → Int → Int → Int → Int → Int → Int → Int → List (S46) → ByteArray → List (S26) → Option (Int)
 | 0, _, _, _, _, _, _, _, _, _, _ => none
 | k + 1, x1, x5, x6, x185000, x185001, x185002, x185003, x185004, x185005, x185006 => if x6 < (x185004.length : Int) then (if x5 ≤ x1 then (if 0 ≤ x6 then (arboristref42_weigh.l0 k x1 (wrap64 (x5 + (wrap64 ((((rd_T46 x185004 x6).f2).size : Int) / 16)))) (wrap64 (x6 + 1)) x185000 x185001 x185002 x185003 x185004 x185005 x185006) else (none)) else (arboristref42_weigh.j1 k x1 x5 x185000 x185001 x185002 x185003 x185004 x185005 x185006)) else (arboristref42_weigh.j1 k x1 x5 x185000 x185001 x185002 x185003 x185004 x185005 x185006)
def arboristref42_weigh.f : Nat → Int → Int → Int → Int → List (S46) → ByteArray → List (S26) → Int → Option (Int)
 | 0, _, _, _, _, _, _, _, _ => none
 | k + 1, a0_0, a0_1, a0_2, a0_3, l0_4, a0_5, l0_6, a1 => arboristref42_weigh.l0 k a1 (wrap64 ((wrap64 (1 + (l0_4.length : Int))) + (wrap64 ((a0_5.size : Int) / 16)))) 0 a0_0 a0_1 a0_2 a0_3 l0_4 a0_5 l0_6
end
set_option maxHeartbeats 8000000 in
set_option maxRecDepth 100000 in
theorem arboristref42_weigh.calls (k : Nat) : ∀ (a0_0 : Int) (a0_1 : Int) (a0_2 : Int) (a0_3 : Int) (A0_4 : Option Addr) (c0_4 : Nat) (l0_4 : List (S46)) (a0_5 : ByteArray) (A0_6 : Option Addr) (c0_6 : Nat) (l0_6 : List (S26)) (a1 : Int) (r : Int) (w : World) (hr0_4 : Kd.C k46 w A0_4 l0_4.length l0_4) (hc0_4 : l0_4.length ≤ c0_4) (hr0_6 : Kd.C k26 w A0_6 l0_6.length l0_6) (hc0_6 : l0_6.length ≤ c0_6) (h : arboristref42_weigh.f k a0_0 a0_1 a0_2 a0_3 l0_4 a0_5 l0_6 a1 = some r),
  Calls Tryd.prog 28 #[.agg #[.int .i64 a0_0, .int .i64 a0_1, .int .i64 a0_2, .int .i64 a0_3, .slice A0_4 l0_4.length c0_4, .string a0_5, .slice A0_6 l0_6.length c0_6], .int .i64 a1] w fun e w' => e = .returned (.int .i64 r) ∧ Below w.heap.size w w' := by
 induction k using Nat.strongRecOn with
 | _ k ih =>
 intro a0_0 a0_1 a0_2 a0_3 A0_4 c0_4 l0_4 a0_5 A0_6 c0_6 l0_6 a1 r w hr0_4 hc0_4 hr0_6 hc0_6 h
 cases k with
 | zero => exact absurd h (by simp [arboristref42_weigh.f])
 | succ k =>
 (simp only [arboristref42_weigh.f] at h); (have hu26 := Tryd.underlying26); (have HR0_4 := qM hr0_4); (have HC0_4 := qM hc0_4); clear hr0_4 hc0_4; (have HR0_6 := qM hr0_6); (have HC0_6 := qM hc0_6); clear hr0_6 hc0_6; (have HB := qM (Below.refl w.heap.size w)); (have H : (arboristref42_weigh.l0 k a1 (wrap64 ((wrap64 (1 + (l0_4.length : Int))) + (wrap64 ((a0_5.size : Int) / 16)))) 0 a0_0 a0_1 a0_2 a0_3 l0_4 a0_5 l0_6) = some r := h); clear h; (have HC3 := qM H); clear H; (go_enter Tryd.func28, Tryd.ntmps28)
 go_upto_block 0 with (first | ((with_reducible refine gate_dst (N := 2) rfl ?_); refine box_event ?hg (N := 2) ?hd (cs := #[.int .i64 a0_0, .int .i64 a0_1, .int .i64 a0_2, .int .i64 a0_3, .slice A0_4 l0_4.length c0_4, .string a0_5, .slice A0_6 l0_6.length c0_6]) (t := 26) ?hr ?_; (case hd => rfl); (case hg => rfl); (case hr => first | (go_simp; done) | (go_simp; rfl)); intro gb184 hg w4 hbox hb; have n0_ := qM (qP qF hb); have n1_ := qM (hbox); have n2_ := qM ((by rw [hg]; exact (qZ qF) : w.heap.size ≤ gb184)); have n3_ := qM ((by rw [hg]; exact (qZ qF) : w.heap.size ≤ gb184)); clear HB; have HB := n0_; have BK184 := n1_; have GW184 := n2_; have GE184 := n3_; clear n0_ n1_ n2_ n3_; clear hb hbox hg; obtain ⟨hcz5_0, hcz5_1, hcz5_2, hcz5_3, hcz5_4, hcz5_5, hcz5_6, hfz5_0, hfz5_1, hfz5_2, hfz5_3, hfz5_4, hfz5_5, hfz5_6⟩ := bx7 BK184.out))
 ((try simp only [Act.put, List.setIfInBounds_toArray, List.set_cons_zero, List.set_cons_succ])); (go_cut [5] (fun v5 wc => ∃ (kq : Nat) (x5_2 : Int), v5 = .int .i64 x5_2 ∧ Aside0 (arboristref42_weigh.j1 kq a1 x5_2 a0_0 a0_1 a0_2 a0_3 l0_4 a0_5 l0_6 = some r) ∧ Aside0 (kq ≤ k) ∧ Aside0 (wc.heap[gb184]? = some (.cells #[.int .i64 a0_0, .int .i64 a0_1, .int .i64 a0_2, .int .i64 a0_3, (.slice A0_4 l0_4.length c0_4), .string a0_5, (.slice A0_6 l0_6.length c0_6)] 26 (0, 0))) ∧ Aside0 (Below w.heap.size w wc)))
 case first =>
  (have H := HC3.out); clear HC3; (have H' := qM H); clear H; go_wp2; (go_loopg [5, 6] k (fun kq v5 v6 w' => ∃ (x5_1 : Int) (x6_1 : Int), v5 = .int .i64 x5_1 ∧ v6 = .int .i64 x6_1 ∧ Aside0 (arboristref42_weigh.l0 kq a1 x5_1 x6_1 a0_0 a0_1 a0_2 a0_3 l0_4 a0_5 l0_6 = some r) ∧ Aside0 (kq ≤ k) ∧ Aside0 (w'.heap[gb184]? = some (.cells #[.int .i64 a0_0, .int .i64 a0_1, .int .i64 a0_2, .int .i64 a0_3, (.slice A0_4 l0_4.length c0_4), .string a0_5, (.slice A0_6 l0_6.length c0_6)] 26 (0, 0))) ∧ Aside0 (Below w.heap.size w w')))
  case atStart => exact ⟨(wrap64 ((wrap64 (1 + (l0_4.length : Int))) + (wrap64 ((a0_5.size : Int) / 16)))), (0), qV, qV, H', ⟨Nat.le_refl _⟩, ⟨qK⟩, ⟨qF⟩⟩
  case round =>
   (clear H'); (try clear c2); (try clear p2); (try clear hcz5_0 hcz5_1 hcz5_2 hcz5_3 hcz5_4 hcz5_5 hcz5_6); (try clear hfz5_0 hfz5_1 hfz5_2 hfz5_3 hfz5_4 hfz5_5 hfz5_6); (obtain ⟨x5_1, x6_1, rfl, rfl, HA, HK1, BK184, HB⟩ := hrel)
   cases gk with
   | zero => exact absurd HA.out (by simp [arboristref42_weigh.l0])
   | succ k1 =>
    (have H := HA.out); clear HA; (simp only [arboristref42_weigh.l0] at H); (by_cases c6 : x6_1 < (l0_4.length : Int))
    ·rw [if_pos c6] at H
     (have c6b0 : decide (x6_1 < (l0_4.length : Int)) = true := decide_eq_true c6); clear c6; ((first | rw [c6b0] | (simp only [i64_w, i32_w]; rw [c6b0]) | skip)); (by_cases c7 : x5_1 ≤ a1)
     ·rw [if_pos c7] at H
      (have c7b0 : decide (x5_1 ≤ a1) = true := decide_eq_true c7); clear c7; (by_cases c8 : 0 ≤ x6_1)
      ·rw [if_pos c8] at H
       (have c8b0 : decide (0 ≤ x6_1) = true := decide_eq_true c8); clear c8; (have H' := qM H); clear H; (obtain ⟨hcz9_0, hcz9_1, hcz9_2, hcz9_3, hcz9_4, hcz9_5, hcz9_6, hfz9_0, hfz9_1, hfz9_2, hfz9_3, hfz9_4, hfz9_5, hfz9_6⟩ := bx7 BK184.out); (have p185 : 0 ≤ (x6_1 : Int) := qo qX); (have q185 : x6_1 < (l0_4.length : Int) := qo qX); (obtain ⟨ad185, e185, hx185_0, hx185_1, hx185_2⟩ := at_T46 HR0_4.out x6_1 p185 q185)
       cases e185
       (replace hx185_0 := (HB.out.cell (qB w _ hx185_0)).trans hx185_0); (replace hx185_1 := (HB.out.cell (qB w _ hx185_1)).trans hx185_1); (replace hx185_2 := (HB.out.cell (qB w _ hx185_2)).trans hx185_2); (replace p185 := eq_true p185); (replace q185 := eq_true q185); go_wp2; (go_roundg k1)
       case measure => have := HK1.out; omega
       case rel => exact ⟨(wrap64 (x5_1 + (wrap64 ((((rd_T46 l0_4 x6_1).f2).size : Int) / 16)))), (wrap64 (x6_1 + 1)), qV, qV, H', ⟨by have := HK1.out; omega⟩, ⟨qK⟩, ⟨qF⟩⟩
      ·rw [if_neg c8] at H
       exact absurd H (by simp)
     ·rw [if_neg c7] at H
      (have c7b0 : decide (x5_1 ≤ a1) = false := decide_eq_false c7); clear c7; (have H' := qM H); clear H; (obtain ⟨hcz10_0, hcz10_1, hcz10_2, hcz10_3, hcz10_4, hcz10_5, hcz10_6, hfz10_0, hfz10_1, hfz10_2, hfz10_3, hfz10_4, hfz10_5, hfz10_6⟩ := bx7 BK184.out); go_wp2; go_meet
      case rel => exact ⟨_, (x5_1), qV, H', ⟨by have := HK1.out; first | omega | exact Nat.le_refl _⟩, ⟨qK⟩, ⟨qF⟩⟩
    ·rw [if_neg c6] at H
     (have c6b0 : decide (x6_1 < (l0_4.length : Int)) = false := decide_eq_false c6); clear c6; ((first | rw [c6b0] | (simp only [i64_w, i32_w]; rw [c6b0]) | skip)); (have H' := qM H); clear H; (obtain ⟨hcz11_0, hcz11_1, hcz11_2, hcz11_3, hcz11_4, hcz11_5, hcz11_6, hfz11_0, hfz11_1, hfz11_2, hfz11_3, hfz11_4, hfz11_5, hfz11_6⟩ := bx7 BK184.out); go_wp2; go_meet
     case rel => exact ⟨_, (x5_1), qV, H', ⟨by have := HK1.out; first | omega | exact Nat.le_refl _⟩, ⟨qK⟩, ⟨qF⟩⟩
 case rest =>
  clear HC3; (try clear p1); (try clear q1); (try clear hx1); (try clear c2); (try clear p2); (try clear c6); (try clear c6b0); (try clear p6); (try clear c7); (try clear c7b0); (try clear c8); (try clear c8b0); (try clear hcz10_0 hcz10_1 hcz10_2 hcz10_3 hcz10_4 hcz10_5 hcz10_6); (try clear hcz11_0 hcz11_1 hcz11_2 hcz11_3 hcz11_4 hcz11_5 hcz11_6); (try clear hcz5_0 hcz5_1 hcz5_2 hcz5_3 hcz5_4 hcz5_5 hcz5_6); (try clear hcz9_0 hcz9_1 hcz9_2 hcz9_3 hcz9_4 hcz9_5 hcz9_6); (try clear hfz10_0 hfz10_1 hfz10_2 hfz10_3 hfz10_4 hfz10_5 hfz10_6); (try clear hfz11_0 hfz11_1 hfz11_2 hfz11_3 hfz11_4 hfz11_5 hfz11_6); (try clear hfz5_0 hfz5_1 hfz5_2 hfz5_3 hfz5_4 hfz5_5 hfz5_6); (try clear hfz9_0 hfz9_1 hfz9_2 hfz9_3 hfz9_4 hfz9_5 hfz9_6); (try clear hx185_0 hx185_1 hx185_2); (try clear p185); (try clear p2); (try clear q185); (obtain ⟨kq, x5_2, rfl, HA, HJ2, BK184, HB⟩ := hcut)
  cases kq with
  | zero => exact absurd HA.out (by simp [arboristref42_weigh.j1])
  | succ kj2 =>
   (have H := HA.out); clear HA; (simp only [arboristref42_weigh.j1] at H); (have H' := qM H); clear H; go_wp2; (go_loopg [5, 7] kj2 (fun kq v5 v7 w' => ∃ (x5_2 : Int) (x7_2 : Int), v5 = .int .i64 x5_2 ∧ v7 = .int .i64 x7_2 ∧ Aside0 (arboristref42_weigh.l1 kq a1 x5_2 x7_2 a0_0 a0_1 a0_2 a0_3 l0_4 a0_5 l0_6 = some r) ∧ Aside0 (kq ≤ kj2) ∧ Aside0 (w'.heap[gb184]? = some (.cells #[.int .i64 a0_0, .int .i64 a0_1, .int .i64 a0_2, .int .i64 a0_3, (.slice A0_4 l0_4.length c0_4), .string a0_5, (.slice A0_6 l0_6.length c0_6)] 26 (0, 0))) ∧ Aside0 (Below w.heap.size w w')))
   case atStart => exact ⟨(x5_2), (0), qV, qV, H', ⟨Nat.le_refl _⟩, ⟨qK⟩, ⟨qF⟩⟩
   case round =>
    (clear H'); (try clear p1); (try clear q1); (try clear hx1); (try clear c2); (try clear p2); (try clear c6); (try clear c6b0); (try clear p6); (try clear c7); (try clear c7b0); (try clear c8); (try clear c8b0); (try clear hcz10_0 hcz10_1 hcz10_2 hcz10_3 hcz10_4 hcz10_5 hcz10_6); (try clear hcz11_0 hcz11_1 hcz11_2 hcz11_3 hcz11_4 hcz11_5 hcz11_6); (try clear hcz5_0 hcz5_1 hcz5_2 hcz5_3 hcz5_4 hcz5_5 hcz5_6); (try clear hcz9_0 hcz9_1 hcz9_2 hcz9_3 hcz9_4 hcz9_5 hcz9_6); (try clear hfz10_0 hfz10_1 hfz10_2 hfz10_3 hfz10_4 hfz10_5 hfz10_6); (try clear hfz11_0 hfz11_1 hfz11_2 hfz11_3 hfz11_4 hfz11_5 hfz11_6); (try clear hfz5_0 hfz5_1 hfz5_2 hfz5_3 hfz5_4 hfz5_5 hfz5_6); (try clear hfz9_0 hfz9_1 hfz9_2 hfz9_3 hfz9_4 hfz9_5 hfz9_6); (try clear hx185_0 hx185_1 hx185_2); (try clear p1); (try clear p185); (try clear p2); (try clear p6); (try clear q1); (try clear q185); (obtain ⟨x5_2, x7_2, rfl, rfl, HA, HK2, BK184, HB⟩ := hrel)
    cases gk with
    | zero => exact absurd HA.out (by simp [arboristref42_weigh.l1])
    | succ k2 =>
     (have H := HA.out); clear HA; (simp only [arboristref42_weigh.l1] at H); (by_cases c12 : x7_2 < (l0_6.length : Int))
     ·rw [if_pos c12] at H
      (have c12b0 : decide (x7_2 < (l0_6.length : Int)) = true := decide_eq_true c12); clear c12; (by_cases c13 : x5_2 ≤ a1)
      ·rw [if_pos c13] at H
       (have c13b0 : decide (x5_2 ≤ a1) = true := decide_eq_true c13); clear c13; (by_cases c14 : 0 ≤ x7_2)
       ·rw [if_pos c14] at H
        (have c14b0 : decide (0 ≤ x7_2) = true := decide_eq_true c14); clear c14; (replace H := Option.bind_eq_some_iff.mp H); (obtain ⟨t187, A150, H⟩ := H); (replace H : (arboristref42_weigh.l1 k2 a1 (wrap64 (x5_2 + t187)) (wrap64 (x7_2 + 1)) a0_0 a0_1 a0_2 a0_3 l0_4 a0_5 l0_6) = some r := H); (have A15 := qM A150); clear A150; (have H' := qM H); clear H; (obtain ⟨hcz16_0, hcz16_1, hcz16_2, hcz16_3, hcz16_4, hcz16_5, hcz16_6, hfz16_0, hfz16_1, hfz16_2, hfz16_3, hfz16_4, hfz16_5, hfz16_6⟩ := bx7 BK184.out); (have p186 : 0 ≤ (x7_2 : Int) := qo qX); (have q186 : x7_2 < (l0_6.length : Int) := qo qX); (obtain ⟨ad186, A186_4, c186_4, A186_6, c186_6, e186, hx186_0, hx186_1, hx186_2, hx186_3, hx186_4, hx186_5, hx186_6, hl186_4, hi186_4, hl186_6, hi186_6⟩ := at_T26 HR0_6.out x7_2 p186 q186)
        cases e186
        (replace hx186_0 := (HB.out.cell (qB w _ hx186_0)).trans hx186_0); (replace hx186_1 := (HB.out.cell (qB w _ hx186_1)).trans hx186_1); (replace hx186_2 := (HB.out.cell (qB w _ hx186_2)).trans hx186_2); (replace hx186_3 := (HB.out.cell (qB w _ hx186_3)).trans hx186_3); (replace hx186_4 := (HB.out.cell (qB w _ hx186_4)).trans hx186_4); (replace hx186_5 := (HB.out.cell (qB w _ hx186_5)).trans hx186_5); (replace hx186_6 := (HB.out.cell (qB w _ hx186_6)).trans hx186_6); (have HR186_4 := qM hi186_4); (have HC186_4 := qM hl186_4); clear hi186_4 hl186_4; (have HR186_6 := qM hi186_6); (have HC186_6 := qM hl186_6); clear hi186_6 hl186_6; (replace p186 := eq_true p186); (replace q186 := eq_true q186)
        go_wp2_with (first | ((with_reducible refine gate_callee (f := 28) rfl ?_); refine goesL_ (some 60) rfl rfl Tryd.func28 (by kernel_rfl) rfl #[.agg #[.int .i64 ((rd_T26 l0_6 x7_2).f0), .int .i64 ((rd_T26 l0_6 x7_2).f1), .int .i64 ((rd_T26 l0_6 x7_2).f2), .int .i64 ((rd_T26 l0_6 x7_2).f3), .slice A186_4 ((rd_T26 l0_6 x7_2).f4).length c186_4, .string ((rd_T26 l0_6 x7_2).f5), .slice A186_6 ((rd_T26 l0_6 x7_2).f6).length c186_6], .int .i64 (wrap64 (a1 - x5_2))] rfl (by (try simp only [List.map_toArray, List.map_cons, List.map_nil]); first | done | rfl | (simp only [List.length_drop, List.length_take]; rfl)) ?_; (with_reducible refine (ih k2 (by have := HJ2.out; have := HK2.out; omega) ((rd_T26 l0_6 x7_2).f0) ((rd_T26 l0_6 x7_2).f1) ((rd_T26 l0_6 x7_2).f2) ((rd_T26 l0_6 x7_2).f3) _ _ ((rd_T26 l0_6 x7_2).f4) ((rd_T26 l0_6 x7_2).f5) _ _ ((rd_T26 l0_6 x7_2).f6) (wrap64 (a1 - x5_2)) t187 _ ?side1 ?side2 ?side3 ?side4 A15.out).mono ?_); (case side1 => exact qC HR186_4.out qF); (case side2 => exact HC186_4.out); (case side3 => exact qC HR186_6.out qF); (case side4 => exact HC186_6.out); rintro e w17 ⟨rfl, hb⟩; refine ⟨_, rfl, ?_⟩; have n0_ := qM (qb (g := gb184) qK hb); have n1_ := qM (qP qF hb); clear BK184; clear HB; have BK184 := n0_; have HB := n1_; clear n0_ n1_; (try clear hb); (try clear hb2); (try clear hk); (try clear hi)))
        go_roundg k2
        case measure => have := HJ2.out; have := HK2.out; omega
        case rel => exact ⟨(wrap64 (x5_2 + t187)), (wrap64 (x7_2 + 1)), qV, qV, H', ⟨by have := HJ2.out; have := HK2.out; omega⟩, ⟨qK⟩, ⟨qF⟩⟩
       ·rw [if_neg c14] at H
        exact absurd H (by simp)
      ·rw [if_neg c13] at H
       (have c13b0 : decide (x5_2 ≤ a1) = false := decide_eq_false c13); clear c13; (obtain rfl := Option.some.inj H); (obtain ⟨hcz18_0, hcz18_1, hcz18_2, hcz18_3, hcz18_4, hcz18_5, hcz18_6, hfz18_0, hfz18_1, hfz18_2, hfz18_3, hfz18_4, hfz18_5, hfz18_6⟩ := bx7 BK184.out); go_wp2; (go_ret); (exact ⟨qE, qF⟩)
     ·rw [if_neg c12] at H
      (have c12b0 : decide (x7_2 < (l0_6.length : Int)) = false := decide_eq_false c12); clear c12; (obtain rfl := Option.some.inj H); (obtain ⟨hcz19_0, hcz19_1, hcz19_2, hcz19_3, hcz19_4, hcz19_5, hcz19_6, hfz19_0, hfz19_1, hfz19_2, hfz19_3, hfz19_4, hfz19_5, hfz19_6⟩ := bx7 BK184.out); go_wp2; (go_ret); (exact ⟨qE, qF⟩)
def arboristref42_Few.f (k : Nat) (a0_0 : Int) (a0_1 : Int) (a0_2 : Int) (a0_3 : Int) (l0_4 : List (S46)) (a0_5 : ByteArray) (l0_6 : List (S26)) (a1 : Int) : Option (Bool) := (arboristref42_weigh.f k a0_0 a0_1 a0_2 a0_3 l0_4 a0_5 l0_6 a1).bind fun t189 => (some (decide (t189 ≤ a1)))
set_option maxHeartbeats 8000000 in
set_option maxRecDepth 100000 in
theorem arboristref42_Few.calls (k : Nat) (a0_0 : Int) (a0_1 : Int) (a0_2 : Int) (a0_3 : Int) (A0_4 : Option Addr) (c0_4 : Nat) (l0_4 : List (S46)) (a0_5 : ByteArray) (A0_6 : Option Addr) (c0_6 : Nat) (l0_6 : List (S26)) (a1 : Int) (r : Bool) (w : World) (hr0_4 : Kd.C k46 w A0_4 l0_4.length l0_4) (hc0_4 : l0_4.length ≤ c0_4) (hr0_6 : Kd.C k26 w A0_6 l0_6.length l0_6) (hc0_6 : l0_6.length ≤ c0_6) (h : arboristref42_Few.f k a0_0 a0_1 a0_2 a0_3 l0_4 a0_5 l0_6 a1 = some r) :
  Calls Tryd.prog 8 #[.agg #[.int .i64 a0_0, .int .i64 a0_1, .int .i64 a0_2, .int .i64 a0_3, .slice A0_4 l0_4.length c0_4, .string a0_5, .slice A0_6 l0_6.length c0_6], .int .i64 a1] w fun e w' => e = .returned (.bool r) ∧ Below w.heap.size w w' := by
 (have hu26 := Tryd.underlying26); (have HR0_4 := qM hr0_4); (have HC0_4 := qM hc0_4); clear hr0_4 hc0_4; (have HR0_6 := qM hr0_6); (have HC0_6 := qM hc0_6); clear hr0_6 hc0_6; (have HB := qM (Below.refl w.heap.size w)); (have H : ((arboristref42_weigh.f k a0_0 a0_1 a0_2 a0_3 l0_4 a0_5 l0_6 a1).bind fun t189 => (some (decide (t189 ≤ a1)))) = some r := h); clear h; (replace H := Option.bind_eq_some_iff.mp H); (obtain ⟨t189, A30, H⟩ := H); (replace H : (some (decide (t189 ≤ a1))) = some r := H); (have A3 := qM A30); clear A30; (obtain rfl := Option.some.inj H); (go_enter Tryd.func8, Tryd.ntmps8)
 go_wp2_with (first | ((with_reducible refine gate_dst (N := 2) rfl ?_); refine box_event ?hg (N := 2) ?hd (cs := #[.int .i64 a0_0, .int .i64 a0_1, .int .i64 a0_2, .int .i64 a0_3, .slice A0_4 l0_4.length c0_4, .string a0_5, .slice A0_6 l0_6.length c0_6]) (t := 26) ?hr ?_; (case hd => rfl); (case hg => rfl); (case hr => first | (go_simp; done) | (go_simp; rfl)); intro gb188 hg w4 hbox hb; have n0_ := qM (qP qF hb); have n1_ := qM (hbox); have n2_ := qM ((by rw [hg]; exact (qZ qF) : w.heap.size ≤ gb188)); have n3_ := qM ((by rw [hg]; exact (qZ qF) : w.heap.size ≤ gb188)); clear HB; have HB := n0_; have BK188 := n1_; have GW188 := n2_; have GE188 := n3_; clear n0_ n1_ n2_ n3_; clear hb hbox hg; obtain ⟨hcz5_0, hcz5_1, hcz5_2, hcz5_3, hcz5_4, hcz5_5, hcz5_6, hfz5_0, hfz5_1, hfz5_2, hfz5_3, hfz5_4, hfz5_5, hfz5_6⟩ := bx7 BK188.out) | ((with_reducible refine gate_callee (f := 28) rfl ?_); refine goesL_ (some 7) rfl rfl Tryd.func28 (by kernel_rfl) rfl #[.agg #[.int .i64 a0_0, .int .i64 a0_1, .int .i64 a0_2, .int .i64 a0_3, .slice A0_4 l0_4.length c0_4, .string a0_5, .slice A0_6 l0_6.length c0_6], .int .i64 a1] rfl (by (try simp only [List.map_toArray, List.map_cons, List.map_nil]); first | done | rfl | (simp only [List.length_drop, List.length_take]; rfl)) ?_; (with_reducible refine (arboristref42_weigh.calls k a0_0 a0_1 a0_2 a0_3 _ _ l0_4 a0_5 _ _ l0_6 a1 t189 _ ?side1 ?side2 ?side3 ?side4 A3.out).mono ?_); (case side1 => exact qC HR0_4.out qF); (case side2 => exact HC0_4.out); (case side3 => exact qC HR0_6.out qF); (case side4 => exact HC0_6.out); rintro e w6 ⟨rfl, hb⟩; refine ⟨_, rfl, ?_⟩; have n0_ := qM (qb (g := gb188) qK hb); have n1_ := qM (qP qF hb); clear BK188; clear HB; have BK188 := n0_; have HB := n1_; clear n0_ n1_; (try clear hb); (try clear hb2); (try clear hk); (try clear hi)))
 (go_ret); (exact ⟨qE, qF⟩)







theorem eqA46 (d : Nat) (w : World) (x0 y0 : Int) (x1 y1 : Int) (x2 y2 : ByteArray) :
  (Op.equalIn (d + 2) 46 (.agg #[.int .i64 x0, .int .i64 x1, .string x2]) (.agg #[.int .i64 y0, .int .i64 y1, .string y2])).run Tryd.prog w = .ok (x0 == y0 && (x1 == y1 && (x2.toList == y2.toList))) w := by
 (refine eqA_of Tryd.underlying46 (by kernel_rfl) ?_); (refine eqf_cons (by rfl) (by go_simp; rfl) (by go_simp; rfl) (by go_simp) ?_); (refine eqf_cons (by rfl) (by go_simp; rfl) (by go_simp; rfl) (by go_simp) ?_); (exact eqf_last (by rfl) (by go_simp; rfl) (by go_simp; rfl) (by go_simp))
attribute [local go_sem high] eqA46
def cst_sameLead.l0 : Nat → List (S46) → List (S46) → Int → Int → Option (Bool)
 | 0, _, _, _, _ => none
 | k + 1, x1, x12, x13, x14 => if x14 < x13 then (if 0 ≤ x14 then (if x14 < (x12.length : Int) then (if x14 < (x1.length : Int) then (if (!(((rd_T46 x12 x14).f0) == ((rd_T46 x1 x14).f0)) || (!(((rd_T46 x12 x14).f1) == ((rd_T46 x1 x14).f1)) || (!((((rd_T46 x12 x14).f2).toList) == (((rd_T46 x1 x14).f2).toList))))) = true then (some false) else (cst_sameLead.l0 k x1 x12 x13 (wrap64 (x14 + 1)))) else (none)) else (none)) else (none)) else (some true)
def cst_sameLead.f (k : Nat) (l0 : List (S46)) (l1 : List (S46)) : Option (Bool) := if (l0.length : Int) = (l1.length : Int) then (cst_sameLead.l0 k l1 l0 (l0.length : Int) 0) else (some false)
set_option maxHeartbeats 8000000 in
set_option maxRecDepth 100000 in
theorem cst_sameLead.calls (k : Nat) (A0 : Option Addr) (c0 : Nat) (l0 : List (S46)) (A1 : Option Addr) (c1 : Nat) (l1 : List (S46)) (r : Bool) (w : World) (hr0 : Kd.C k46 w A0 l0.length l0) (hc0 : l0.length ≤ c0) (hr1 : Kd.C k46 w A1 l1.length l1) (hc1 : l1.length ≤ c1) (h : cst_sameLead.f k l0 l1 = some r) :
  Calls Tryd.prog 36 #[.slice A0 l0.length c0, .slice A1 l1.length c1] w fun e w' => e = .returned (.bool r) ∧ Below w.heap.size w w' := by
 (have hu46 := Tryd.underlying46); (have HR0 := qM hr0); (have HC0 := qM hc0); clear hr0 hc0; (have HR1 := qM hr1); (have HC1 := qM hc1); clear hr1 hc1; (have HB := qM (Below.refl w.heap.size w)); (have H : (if (l0.length : Int) = (l1.length : Int) then (cst_sameLead.l0 k l1 l0 (l0.length : Int) 0) else (some false)) = some r := h); clear h; (by_cases c3 : (l0.length : Int) = (l1.length : Int))
 ·rw [if_pos c3] at H
  (have c3b0 : ((l0.length : Int) == (l1.length : Int)) = true := beq_iff_eq.mpr c3); (have c3b1 : ((l0.length : Int) != (l1.length : Int)) = false := bne_eq_false_iff_eq.mpr c3); (have c3b2 : (l0.length == l1.length) = true := by first | simpa using c3 | (simp at c3 ⊢; omega)); clear c3; (have H' := qM H); clear H; (go_enter Tryd.func36, Tryd.ntmps36); go_wp2; (repeat (go_quiet (fail); try go_wp2)); (go_loopg [14] k (fun kq v14 w' => ∃ (x14_1 : Int), v14 = .int .i64 x14_1 ∧ Aside0 (cst_sameLead.l0 kq l1 l0 (l0.length : Int) x14_1 = some r) ∧ Aside0 (kq ≤ k) ∧ Aside0 (Below w.heap.size w w')))
  case atStart => exact ⟨(0), qV, H', ⟨Nat.le_refl _⟩, ⟨qF⟩⟩
  case round =>
   (clear H'); (try clear c1); (try clear p2); (try clear c3); (try clear c3b0); (try clear c3b1); (try clear c3b2); (obtain ⟨x14_1, rfl, HA, HK1, HB⟩ := hrel)
   cases gk with
   | zero => exact absurd HA.out (by simp [cst_sameLead.l0])
   | succ k1 =>
    (have H := HA.out); clear HA; (simp only [cst_sameLead.l0] at H); (by_cases c4 : x14_1 < (l0.length : Int))
    ·rw [if_pos c4] at H
     (have c4b0 : decide (x14_1 < (l0.length : Int)) = true := decide_eq_true c4); clear c4; (by_cases c5 : 0 ≤ x14_1)
     ·rw [if_pos c5] at H
      (have c5b0 : decide (0 ≤ x14_1) = true := decide_eq_true c5); clear c5; (by_cases c6 : x14_1 < (l0.length : Int))
      ·rw [if_pos c6] at H
       (have c6b0 : decide (x14_1 < (l0.length : Int)) = true := decide_eq_true c6); clear c6; (by_cases c7 : x14_1 < (l1.length : Int))
       ·rw [if_pos c7] at H
        (have c7b0 : decide (x14_1 < (l1.length : Int)) = true := decide_eq_true c7); clear c7; (by_cases c8 : (!(((rd_T46 l0 x14_1).f0) == ((rd_T46 l1 x14_1).f0)) || (!(((rd_T46 l0 x14_1).f1) == ((rd_T46 l1 x14_1).f1)) || (!((((rd_T46 l0 x14_1).f2).toList) == (((rd_T46 l1 x14_1).f2).toList))))) = true)
        ·rw [if_pos c8] at H
         (have c8b0 : (!(((rd_T46 l0 x14_1).f0) == ((rd_T46 l1 x14_1).f0)) || (!(((rd_T46 l0 x14_1).f1) == ((rd_T46 l1 x14_1).f1)) || (!((((rd_T46 l0 x14_1).f2).toList) == (((rd_T46 l1 x14_1).f2).toList))))) = true := c8); clear c8; (obtain rfl := Option.some.inj H); (have p263 : 0 ≤ (x14_1 : Int) := qo qX); (have q263 : x14_1 < (l0.length : Int) := qo qX); (obtain ⟨ad263, e263, hx263_0, hx263_1, hx263_2⟩ := at_T46 HR0.out x14_1 p263 q263)
         cases e263
         (replace hx263_0 := (HB.out.cell (qB w _ hx263_0)).trans hx263_0); (replace hx263_1 := (HB.out.cell (qB w _ hx263_1)).trans hx263_1); (replace hx263_2 := (HB.out.cell (qB w _ hx263_2)).trans hx263_2); (replace p263 := eq_true p263); (replace q263 := eq_true q263)
         go_wp2_with (first | ((with_reducible refine gate_dst (N := 6) rfl ?_); refine box_event ?hg (N := 6) ?hd (cs := #[.int .i64 0, .int .i64 0, .string (⟨#[]⟩ : ByteArray)]) (t := 46) ?hr ?_; (case hd => rfl); (case hg => rfl); (case hr => first | (go_simp; done) | (go_simp; rfl)); intro gb264 hg w9 hbox hb; have n0_ := qM (qP qF hb); have n1_ := qM (hbox); have n2_ := qM ((by rw [hg]; exact (qZ qF) : w.heap.size ≤ gb264)); have n3_ := qM ((by rw [hg]; exact (qZ qF) : w.heap.size ≤ gb264)); clear HB; have HB := n0_; have BK264 := n1_; have GW264 := n2_; have GE264 := n3_; clear n0_ n1_ n2_ n3_; clear hb hbox hg; obtain ⟨hcz10_0, hcz10_1, hcz10_2, hfz10_0, hfz10_1, hfz10_2⟩ := bx3 BK264.out; have p265 : 0 ≤ (x14_1 : Int) := qo qX; have q265 : x14_1 < (l1.length : Int) := qo qX; obtain ⟨ad265, e265, hx265_0, hx265_1, hx265_2⟩ := at_T46 HR1.out x14_1 p265 q265; cases e265; have hn265_0 : ad265.block ≠ gb264 := Nat.ne_of_lt (Nat.lt_of_lt_of_le (by have := qB _ _ hx265_0; first | rwa [add_block] at this | exact this) GW264.out); have hn265_1 : ad265.block ≠ gb264 := Nat.ne_of_lt (Nat.lt_of_lt_of_le (by have := qB _ _ hx265_0; first | rwa [add_block] at this | exact this) GW264.out); have hn265_2 : ad265.block ≠ gb264 := Nat.ne_of_lt (Nat.lt_of_lt_of_le (by have := qB _ _ hx265_0; first | rwa [add_block] at this | exact this) GW264.out); replace hx265_0 := (HB.out.cell (qB w _ hx265_0)).trans hx265_0; replace hx265_1 := (HB.out.cell (qB w _ hx265_1)).trans hx265_1; replace hx265_2 := (HB.out.cell (qB w _ hx265_2)).trans hx265_2; have fr_ := fun (a_ : Addr) (h_ : a_.block ≠ gb264) (W_ : World) (u_ : Value) (e_ : W_.cell? a_ = some u_) => (cell_far (p := ⟨gb264, 2, none⟩) h_ (.string ((rd_T46 l0 x14_1).f2))).trans ((cell_far (p := ⟨gb264, 1, none⟩) h_ (.int .i64 ((rd_T46 l0 x14_1).f1))).trans ((cell_far (p := ⟨gb264, 0, none⟩) h_ (.int .i64 ((rd_T46 l0 x14_1).f0))).trans e_)); replace hx265_0 := fr_ _ (by first | (rw [add_block]; exact hn265_0) | (show (Addr.add _ _).block ≠ _; rw [add_block]; exact hn265_0) | exact hn265_0) _ _ hx265_0; replace hx265_1 := fr_ _ (by first | (rw [add_block]; exact hn265_0) | (show (Addr.add _ _).block ≠ _; rw [add_block]; exact hn265_0) | exact hn265_0) _ _ hx265_1; replace hx265_2 := fr_ _ (by first | (rw [add_block]; exact hn265_0) | (show (Addr.add _ _).block ≠ _; rw [add_block]; exact hn265_0) | exact hn265_0) _ _ hx265_2; clear fr_; (try have hy265_0 := fun (n_ : Nat) => (show (((((w9.drewN n_).setCell ⟨gb264, 0, none⟩ (.int .i64 ((rd_T46 l0 x14_1).f0))).setCell ⟨gb264, 1, none⟩ (.int .i64 ((rd_T46 l0 x14_1).f1))).setCell ⟨gb264, 2, none⟩ (.string ((rd_T46 l0 x14_1).f2)))).cell? _ = some _ from hx265_0)); (try have hy265_1 := fun (n_ : Nat) => (show (((((w9.drewN n_).setCell ⟨gb264, 0, none⟩ (.int .i64 ((rd_T46 l0 x14_1).f0))).setCell ⟨gb264, 1, none⟩ (.int .i64 ((rd_T46 l0 x14_1).f1))).setCell ⟨gb264, 2, none⟩ (.string ((rd_T46 l0 x14_1).f2)))).cell? _ = some _ from hx265_1)); (try have hy265_2 := fun (n_ : Nat) => (show (((((w9.drewN n_).setCell ⟨gb264, 0, none⟩ (.int .i64 ((rd_T46 l0 x14_1).f0))).setCell ⟨gb264, 1, none⟩ (.int .i64 ((rd_T46 l0 x14_1).f1))).setCell ⟨gb264, 2, none⟩ (.string ((rd_T46 l0 x14_1).f2)))).cell? _ = some _ from hx265_2)); clear hn265_0; clear hn265_1; clear hn265_2; replace p265 := eq_true p265; replace q265 := eq_true q265))
         repeat (go_quiet (first | ((with_reducible refine gate_dst (N := 6) rfl ?_); refine box_event ?hg (N := 6) ?hd (cs := #[.int .i64 0, .int .i64 0, .string (⟨#[]⟩ : ByteArray)]) (t := 46) ?hr ?_; (case hd => rfl); (case hg => rfl); (case hr => first | (go_simp; done) | (go_simp; rfl)); intro gb264 hg w9 hbox hb; have n0_ := qM (qP qF hb); have n1_ := qM (hbox); have n2_ := qM ((by rw [hg]; exact (qZ qF) : w.heap.size ≤ gb264)); have n3_ := qM ((by rw [hg]; exact (qZ qF) : w.heap.size ≤ gb264)); clear HB; have HB := n0_; have BK264 := n1_; have GW264 := n2_; have GE264 := n3_; clear n0_ n1_ n2_ n3_; clear hb hbox hg; obtain ⟨hcz10_0, hcz10_1, hcz10_2, hfz10_0, hfz10_1, hfz10_2⟩ := bx3 BK264.out; have p265 : 0 ≤ (x14_1 : Int) := qo qX; have q265 : x14_1 < (l1.length : Int) := qo qX; obtain ⟨ad265, e265, hx265_0, hx265_1, hx265_2⟩ := at_T46 HR1.out x14_1 p265 q265; cases e265; have hn265_0 : ad265.block ≠ gb264 := Nat.ne_of_lt (Nat.lt_of_lt_of_le (by have := qB _ _ hx265_0; first | rwa [add_block] at this | exact this) GW264.out); have hn265_1 : ad265.block ≠ gb264 := Nat.ne_of_lt (Nat.lt_of_lt_of_le (by have := qB _ _ hx265_0; first | rwa [add_block] at this | exact this) GW264.out); have hn265_2 : ad265.block ≠ gb264 := Nat.ne_of_lt (Nat.lt_of_lt_of_le (by have := qB _ _ hx265_0; first | rwa [add_block] at this | exact this) GW264.out); replace hx265_0 := (HB.out.cell (qB w _ hx265_0)).trans hx265_0; replace hx265_1 := (HB.out.cell (qB w _ hx265_1)).trans hx265_1; replace hx265_2 := (HB.out.cell (qB w _ hx265_2)).trans hx265_2; have fr_ := fun (a_ : Addr) (h_ : a_.block ≠ gb264) (W_ : World) (u_ : Value) (e_ : W_.cell? a_ = some u_) => (cell_far (p := ⟨gb264, 2, none⟩) h_ (.string ((rd_T46 l0 x14_1).f2))).trans ((cell_far (p := ⟨gb264, 1, none⟩) h_ (.int .i64 ((rd_T46 l0 x14_1).f1))).trans ((cell_far (p := ⟨gb264, 0, none⟩) h_ (.int .i64 ((rd_T46 l0 x14_1).f0))).trans e_)); replace hx265_0 := fr_ _ (by first | (rw [add_block]; exact hn265_0) | (show (Addr.add _ _).block ≠ _; rw [add_block]; exact hn265_0) | exact hn265_0) _ _ hx265_0; replace hx265_1 := fr_ _ (by first | (rw [add_block]; exact hn265_0) | (show (Addr.add _ _).block ≠ _; rw [add_block]; exact hn265_0) | exact hn265_0) _ _ hx265_1; replace hx265_2 := fr_ _ (by first | (rw [add_block]; exact hn265_0) | (show (Addr.add _ _).block ≠ _; rw [add_block]; exact hn265_0) | exact hn265_0) _ _ hx265_2; clear fr_; (try have hy265_0 := fun (n_ : Nat) => (show (((((w9.drewN n_).setCell ⟨gb264, 0, none⟩ (.int .i64 ((rd_T46 l0 x14_1).f0))).setCell ⟨gb264, 1, none⟩ (.int .i64 ((rd_T46 l0 x14_1).f1))).setCell ⟨gb264, 2, none⟩ (.string ((rd_T46 l0 x14_1).f2)))).cell? _ = some _ from hx265_0)); (try have hy265_1 := fun (n_ : Nat) => (show (((((w9.drewN n_).setCell ⟨gb264, 0, none⟩ (.int .i64 ((rd_T46 l0 x14_1).f0))).setCell ⟨gb264, 1, none⟩ (.int .i64 ((rd_T46 l0 x14_1).f1))).setCell ⟨gb264, 2, none⟩ (.string ((rd_T46 l0 x14_1).f2)))).cell? _ = some _ from hx265_1)); (try have hy265_2 := fun (n_ : Nat) => (show (((((w9.drewN n_).setCell ⟨gb264, 0, none⟩ (.int .i64 ((rd_T46 l0 x14_1).f0))).setCell ⟨gb264, 1, none⟩ (.int .i64 ((rd_T46 l0 x14_1).f1))).setCell ⟨gb264, 2, none⟩ (.string ((rd_T46 l0 x14_1).f2)))).cell? _ = some _ from hx265_2)); clear hn265_0; clear hn265_1; clear hn265_2; replace p265 := eq_true p265; replace q265 := eq_true q265)); try go_wp2_with (first | ((with_reducible refine gate_dst (N := 6) rfl ?_); refine box_event ?hg (N := 6) ?hd (cs := #[.int .i64 0, .int .i64 0, .string (⟨#[]⟩ : ByteArray)]) (t := 46) ?hr ?_; (case hd => rfl); (case hg => rfl); (case hr => first | (go_simp; done) | (go_simp; rfl)); intro gb264 hg w9 hbox hb; have n0_ := qM (qP qF hb); have n1_ := qM (hbox); have n2_ := qM ((by rw [hg]; exact (qZ qF) : w.heap.size ≤ gb264)); have n3_ := qM ((by rw [hg]; exact (qZ qF) : w.heap.size ≤ gb264)); clear HB; have HB := n0_; have BK264 := n1_; have GW264 := n2_; have GE264 := n3_; clear n0_ n1_ n2_ n3_; clear hb hbox hg; obtain ⟨hcz10_0, hcz10_1, hcz10_2, hfz10_0, hfz10_1, hfz10_2⟩ := bx3 BK264.out; have p265 : 0 ≤ (x14_1 : Int) := qo qX; have q265 : x14_1 < (l1.length : Int) := qo qX; obtain ⟨ad265, e265, hx265_0, hx265_1, hx265_2⟩ := at_T46 HR1.out x14_1 p265 q265; cases e265; have hn265_0 : ad265.block ≠ gb264 := Nat.ne_of_lt (Nat.lt_of_lt_of_le (by have := qB _ _ hx265_0; first | rwa [add_block] at this | exact this) GW264.out); have hn265_1 : ad265.block ≠ gb264 := Nat.ne_of_lt (Nat.lt_of_lt_of_le (by have := qB _ _ hx265_0; first | rwa [add_block] at this | exact this) GW264.out); have hn265_2 : ad265.block ≠ gb264 := Nat.ne_of_lt (Nat.lt_of_lt_of_le (by have := qB _ _ hx265_0; first | rwa [add_block] at this | exact this) GW264.out); replace hx265_0 := (HB.out.cell (qB w _ hx265_0)).trans hx265_0; replace hx265_1 := (HB.out.cell (qB w _ hx265_1)).trans hx265_1; replace hx265_2 := (HB.out.cell (qB w _ hx265_2)).trans hx265_2; have fr_ := fun (a_ : Addr) (h_ : a_.block ≠ gb264) (W_ : World) (u_ : Value) (e_ : W_.cell? a_ = some u_) => (cell_far (p := ⟨gb264, 2, none⟩) h_ (.string ((rd_T46 l0 x14_1).f2))).trans ((cell_far (p := ⟨gb264, 1, none⟩) h_ (.int .i64 ((rd_T46 l0 x14_1).f1))).trans ((cell_far (p := ⟨gb264, 0, none⟩) h_ (.int .i64 ((rd_T46 l0 x14_1).f0))).trans e_)); replace hx265_0 := fr_ _ (by first | (rw [add_block]; exact hn265_0) | (show (Addr.add _ _).block ≠ _; rw [add_block]; exact hn265_0) | exact hn265_0) _ _ hx265_0; replace hx265_1 := fr_ _ (by first | (rw [add_block]; exact hn265_0) | (show (Addr.add _ _).block ≠ _; rw [add_block]; exact hn265_0) | exact hn265_0) _ _ hx265_1; replace hx265_2 := fr_ _ (by first | (rw [add_block]; exact hn265_0) | (show (Addr.add _ _).block ≠ _; rw [add_block]; exact hn265_0) | exact hn265_0) _ _ hx265_2; clear fr_; (try have hy265_0 := fun (n_ : Nat) => (show (((((w9.drewN n_).setCell ⟨gb264, 0, none⟩ (.int .i64 ((rd_T46 l0 x14_1).f0))).setCell ⟨gb264, 1, none⟩ (.int .i64 ((rd_T46 l0 x14_1).f1))).setCell ⟨gb264, 2, none⟩ (.string ((rd_T46 l0 x14_1).f2)))).cell? _ = some _ from hx265_0)); (try have hy265_1 := fun (n_ : Nat) => (show (((((w9.drewN n_).setCell ⟨gb264, 0, none⟩ (.int .i64 ((rd_T46 l0 x14_1).f0))).setCell ⟨gb264, 1, none⟩ (.int .i64 ((rd_T46 l0 x14_1).f1))).setCell ⟨gb264, 2, none⟩ (.string ((rd_T46 l0 x14_1).f2)))).cell? _ = some _ from hx265_1)); (try have hy265_2 := fun (n_ : Nat) => (show (((((w9.drewN n_).setCell ⟨gb264, 0, none⟩ (.int .i64 ((rd_T46 l0 x14_1).f0))).setCell ⟨gb264, 1, none⟩ (.int .i64 ((rd_T46 l0 x14_1).f1))).setCell ⟨gb264, 2, none⟩ (.string ((rd_T46 l0 x14_1).f2)))).cell? _ = some _ from hx265_2)); clear hn265_0; clear hn265_1; clear hn265_2; replace p265 := eq_true p265; replace q265 := eq_true q265)))
         (go_ret); (exact ⟨qE, qF⟩)
        ·rw [if_neg c8] at H
         (have c8b0 : (!(((rd_T46 l0 x14_1).f0) == ((rd_T46 l1 x14_1).f0)) || (!(((rd_T46 l0 x14_1).f1) == ((rd_T46 l1 x14_1).f1)) || (!((((rd_T46 l0 x14_1).f2).toList) == (((rd_T46 l1 x14_1).f2).toList))))) = false := by simpa using c8); clear c8; (have H' := qM H); clear H; (have p263 : 0 ≤ (x14_1 : Int) := qo qX); (have q263 : x14_1 < (l0.length : Int) := qo qX); (obtain ⟨ad263, e263, hx263_0, hx263_1, hx263_2⟩ := at_T46 HR0.out x14_1 p263 q263)
         cases e263
         (replace hx263_0 := (HB.out.cell (qB w _ hx263_0)).trans hx263_0); (replace hx263_1 := (HB.out.cell (qB w _ hx263_1)).trans hx263_1); (replace hx263_2 := (HB.out.cell (qB w _ hx263_2)).trans hx263_2); (replace p263 := eq_true p263); (replace q263 := eq_true q263)
         go_wp2_with (first | ((with_reducible refine gate_dst (N := 6) rfl ?_); refine box_event ?hg (N := 6) ?hd (cs := #[.int .i64 0, .int .i64 0, .string (⟨#[]⟩ : ByteArray)]) (t := 46) ?hr ?_; (case hd => rfl); (case hg => rfl); (case hr => first | (go_simp; done) | (go_simp; rfl)); intro gb264 hg w11 hbox hb; have n0_ := qM (qP qF hb); have n1_ := qM (hbox); have n2_ := qM ((by rw [hg]; exact (qZ qF) : w.heap.size ≤ gb264)); have n3_ := qM ((by rw [hg]; exact (qZ qF) : w.heap.size ≤ gb264)); clear HB; have HB := n0_; have BK264 := n1_; have GW264 := n2_; have GE264 := n3_; clear n0_ n1_ n2_ n3_; clear hb hbox hg; obtain ⟨hcz12_0, hcz12_1, hcz12_2, hfz12_0, hfz12_1, hfz12_2⟩ := bx3 BK264.out; have p265 : 0 ≤ (x14_1 : Int) := qo qX; have q265 : x14_1 < (l1.length : Int) := qo qX; obtain ⟨ad265, e265, hx265_0, hx265_1, hx265_2⟩ := at_T46 HR1.out x14_1 p265 q265; cases e265; have hn265_0 : ad265.block ≠ gb264 := Nat.ne_of_lt (Nat.lt_of_lt_of_le (by have := qB _ _ hx265_0; first | rwa [add_block] at this | exact this) GW264.out); have hn265_1 : ad265.block ≠ gb264 := Nat.ne_of_lt (Nat.lt_of_lt_of_le (by have := qB _ _ hx265_0; first | rwa [add_block] at this | exact this) GW264.out); have hn265_2 : ad265.block ≠ gb264 := Nat.ne_of_lt (Nat.lt_of_lt_of_le (by have := qB _ _ hx265_0; first | rwa [add_block] at this | exact this) GW264.out); replace hx265_0 := (HB.out.cell (qB w _ hx265_0)).trans hx265_0; replace hx265_1 := (HB.out.cell (qB w _ hx265_1)).trans hx265_1; replace hx265_2 := (HB.out.cell (qB w _ hx265_2)).trans hx265_2; have fr_ := fun (a_ : Addr) (h_ : a_.block ≠ gb264) (W_ : World) (u_ : Value) (e_ : W_.cell? a_ = some u_) => (cell_far (p := ⟨gb264, 2, none⟩) h_ (.string ((rd_T46 l0 x14_1).f2))).trans ((cell_far (p := ⟨gb264, 1, none⟩) h_ (.int .i64 ((rd_T46 l0 x14_1).f1))).trans ((cell_far (p := ⟨gb264, 0, none⟩) h_ (.int .i64 ((rd_T46 l0 x14_1).f0))).trans e_)); replace hx265_0 := fr_ _ (by first | (rw [add_block]; exact hn265_0) | (show (Addr.add _ _).block ≠ _; rw [add_block]; exact hn265_0) | exact hn265_0) _ _ hx265_0; replace hx265_1 := fr_ _ (by first | (rw [add_block]; exact hn265_0) | (show (Addr.add _ _).block ≠ _; rw [add_block]; exact hn265_0) | exact hn265_0) _ _ hx265_1; replace hx265_2 := fr_ _ (by first | (rw [add_block]; exact hn265_0) | (show (Addr.add _ _).block ≠ _; rw [add_block]; exact hn265_0) | exact hn265_0) _ _ hx265_2; clear fr_; (try have hy265_0 := fun (n_ : Nat) => (show (((((w11.drewN n_).setCell ⟨gb264, 0, none⟩ (.int .i64 ((rd_T46 l0 x14_1).f0))).setCell ⟨gb264, 1, none⟩ (.int .i64 ((rd_T46 l0 x14_1).f1))).setCell ⟨gb264, 2, none⟩ (.string ((rd_T46 l0 x14_1).f2)))).cell? _ = some _ from hx265_0)); (try have hy265_1 := fun (n_ : Nat) => (show (((((w11.drewN n_).setCell ⟨gb264, 0, none⟩ (.int .i64 ((rd_T46 l0 x14_1).f0))).setCell ⟨gb264, 1, none⟩ (.int .i64 ((rd_T46 l0 x14_1).f1))).setCell ⟨gb264, 2, none⟩ (.string ((rd_T46 l0 x14_1).f2)))).cell? _ = some _ from hx265_1)); (try have hy265_2 := fun (n_ : Nat) => (show (((((w11.drewN n_).setCell ⟨gb264, 0, none⟩ (.int .i64 ((rd_T46 l0 x14_1).f0))).setCell ⟨gb264, 1, none⟩ (.int .i64 ((rd_T46 l0 x14_1).f1))).setCell ⟨gb264, 2, none⟩ (.string ((rd_T46 l0 x14_1).f2)))).cell? _ = some _ from hx265_2)); clear hn265_0; clear hn265_1; clear hn265_2; replace p265 := eq_true p265; replace q265 := eq_true q265))
         repeat (go_quiet (first | ((with_reducible refine gate_dst (N := 6) rfl ?_); refine box_event ?hg (N := 6) ?hd (cs := #[.int .i64 0, .int .i64 0, .string (⟨#[]⟩ : ByteArray)]) (t := 46) ?hr ?_; (case hd => rfl); (case hg => rfl); (case hr => first | (go_simp; done) | (go_simp; rfl)); intro gb264 hg w11 hbox hb; have n0_ := qM (qP qF hb); have n1_ := qM (hbox); have n2_ := qM ((by rw [hg]; exact (qZ qF) : w.heap.size ≤ gb264)); have n3_ := qM ((by rw [hg]; exact (qZ qF) : w.heap.size ≤ gb264)); clear HB; have HB := n0_; have BK264 := n1_; have GW264 := n2_; have GE264 := n3_; clear n0_ n1_ n2_ n3_; clear hb hbox hg; obtain ⟨hcz12_0, hcz12_1, hcz12_2, hfz12_0, hfz12_1, hfz12_2⟩ := bx3 BK264.out; have p265 : 0 ≤ (x14_1 : Int) := qo qX; have q265 : x14_1 < (l1.length : Int) := qo qX; obtain ⟨ad265, e265, hx265_0, hx265_1, hx265_2⟩ := at_T46 HR1.out x14_1 p265 q265; cases e265; have hn265_0 : ad265.block ≠ gb264 := Nat.ne_of_lt (Nat.lt_of_lt_of_le (by have := qB _ _ hx265_0; first | rwa [add_block] at this | exact this) GW264.out); have hn265_1 : ad265.block ≠ gb264 := Nat.ne_of_lt (Nat.lt_of_lt_of_le (by have := qB _ _ hx265_0; first | rwa [add_block] at this | exact this) GW264.out); have hn265_2 : ad265.block ≠ gb264 := Nat.ne_of_lt (Nat.lt_of_lt_of_le (by have := qB _ _ hx265_0; first | rwa [add_block] at this | exact this) GW264.out); replace hx265_0 := (HB.out.cell (qB w _ hx265_0)).trans hx265_0; replace hx265_1 := (HB.out.cell (qB w _ hx265_1)).trans hx265_1; replace hx265_2 := (HB.out.cell (qB w _ hx265_2)).trans hx265_2; have fr_ := fun (a_ : Addr) (h_ : a_.block ≠ gb264) (W_ : World) (u_ : Value) (e_ : W_.cell? a_ = some u_) => (cell_far (p := ⟨gb264, 2, none⟩) h_ (.string ((rd_T46 l0 x14_1).f2))).trans ((cell_far (p := ⟨gb264, 1, none⟩) h_ (.int .i64 ((rd_T46 l0 x14_1).f1))).trans ((cell_far (p := ⟨gb264, 0, none⟩) h_ (.int .i64 ((rd_T46 l0 x14_1).f0))).trans e_)); replace hx265_0 := fr_ _ (by first | (rw [add_block]; exact hn265_0) | (show (Addr.add _ _).block ≠ _; rw [add_block]; exact hn265_0) | exact hn265_0) _ _ hx265_0; replace hx265_1 := fr_ _ (by first | (rw [add_block]; exact hn265_0) | (show (Addr.add _ _).block ≠ _; rw [add_block]; exact hn265_0) | exact hn265_0) _ _ hx265_1; replace hx265_2 := fr_ _ (by first | (rw [add_block]; exact hn265_0) | (show (Addr.add _ _).block ≠ _; rw [add_block]; exact hn265_0) | exact hn265_0) _ _ hx265_2; clear fr_; (try have hy265_0 := fun (n_ : Nat) => (show (((((w11.drewN n_).setCell ⟨gb264, 0, none⟩ (.int .i64 ((rd_T46 l0 x14_1).f0))).setCell ⟨gb264, 1, none⟩ (.int .i64 ((rd_T46 l0 x14_1).f1))).setCell ⟨gb264, 2, none⟩ (.string ((rd_T46 l0 x14_1).f2)))).cell? _ = some _ from hx265_0)); (try have hy265_1 := fun (n_ : Nat) => (show (((((w11.drewN n_).setCell ⟨gb264, 0, none⟩ (.int .i64 ((rd_T46 l0 x14_1).f0))).setCell ⟨gb264, 1, none⟩ (.int .i64 ((rd_T46 l0 x14_1).f1))).setCell ⟨gb264, 2, none⟩ (.string ((rd_T46 l0 x14_1).f2)))).cell? _ = some _ from hx265_1)); (try have hy265_2 := fun (n_ : Nat) => (show (((((w11.drewN n_).setCell ⟨gb264, 0, none⟩ (.int .i64 ((rd_T46 l0 x14_1).f0))).setCell ⟨gb264, 1, none⟩ (.int .i64 ((rd_T46 l0 x14_1).f1))).setCell ⟨gb264, 2, none⟩ (.string ((rd_T46 l0 x14_1).f2)))).cell? _ = some _ from hx265_2)); clear hn265_0; clear hn265_1; clear hn265_2; replace p265 := eq_true p265; replace q265 := eq_true q265)); try go_wp2_with (first | ((with_reducible refine gate_dst (N := 6) rfl ?_); refine box_event ?hg (N := 6) ?hd (cs := #[.int .i64 0, .int .i64 0, .string (⟨#[]⟩ : ByteArray)]) (t := 46) ?hr ?_; (case hd => rfl); (case hg => rfl); (case hr => first | (go_simp; done) | (go_simp; rfl)); intro gb264 hg w11 hbox hb; have n0_ := qM (qP qF hb); have n1_ := qM (hbox); have n2_ := qM ((by rw [hg]; exact (qZ qF) : w.heap.size ≤ gb264)); have n3_ := qM ((by rw [hg]; exact (qZ qF) : w.heap.size ≤ gb264)); clear HB; have HB := n0_; have BK264 := n1_; have GW264 := n2_; have GE264 := n3_; clear n0_ n1_ n2_ n3_; clear hb hbox hg; obtain ⟨hcz12_0, hcz12_1, hcz12_2, hfz12_0, hfz12_1, hfz12_2⟩ := bx3 BK264.out; have p265 : 0 ≤ (x14_1 : Int) := qo qX; have q265 : x14_1 < (l1.length : Int) := qo qX; obtain ⟨ad265, e265, hx265_0, hx265_1, hx265_2⟩ := at_T46 HR1.out x14_1 p265 q265; cases e265; have hn265_0 : ad265.block ≠ gb264 := Nat.ne_of_lt (Nat.lt_of_lt_of_le (by have := qB _ _ hx265_0; first | rwa [add_block] at this | exact this) GW264.out); have hn265_1 : ad265.block ≠ gb264 := Nat.ne_of_lt (Nat.lt_of_lt_of_le (by have := qB _ _ hx265_0; first | rwa [add_block] at this | exact this) GW264.out); have hn265_2 : ad265.block ≠ gb264 := Nat.ne_of_lt (Nat.lt_of_lt_of_le (by have := qB _ _ hx265_0; first | rwa [add_block] at this | exact this) GW264.out); replace hx265_0 := (HB.out.cell (qB w _ hx265_0)).trans hx265_0; replace hx265_1 := (HB.out.cell (qB w _ hx265_1)).trans hx265_1; replace hx265_2 := (HB.out.cell (qB w _ hx265_2)).trans hx265_2; have fr_ := fun (a_ : Addr) (h_ : a_.block ≠ gb264) (W_ : World) (u_ : Value) (e_ : W_.cell? a_ = some u_) => (cell_far (p := ⟨gb264, 2, none⟩) h_ (.string ((rd_T46 l0 x14_1).f2))).trans ((cell_far (p := ⟨gb264, 1, none⟩) h_ (.int .i64 ((rd_T46 l0 x14_1).f1))).trans ((cell_far (p := ⟨gb264, 0, none⟩) h_ (.int .i64 ((rd_T46 l0 x14_1).f0))).trans e_)); replace hx265_0 := fr_ _ (by first | (rw [add_block]; exact hn265_0) | (show (Addr.add _ _).block ≠ _; rw [add_block]; exact hn265_0) | exact hn265_0) _ _ hx265_0; replace hx265_1 := fr_ _ (by first | (rw [add_block]; exact hn265_0) | (show (Addr.add _ _).block ≠ _; rw [add_block]; exact hn265_0) | exact hn265_0) _ _ hx265_1; replace hx265_2 := fr_ _ (by first | (rw [add_block]; exact hn265_0) | (show (Addr.add _ _).block ≠ _; rw [add_block]; exact hn265_0) | exact hn265_0) _ _ hx265_2; clear fr_; (try have hy265_0 := fun (n_ : Nat) => (show (((((w11.drewN n_).setCell ⟨gb264, 0, none⟩ (.int .i64 ((rd_T46 l0 x14_1).f0))).setCell ⟨gb264, 1, none⟩ (.int .i64 ((rd_T46 l0 x14_1).f1))).setCell ⟨gb264, 2, none⟩ (.string ((rd_T46 l0 x14_1).f2)))).cell? _ = some _ from hx265_0)); (try have hy265_1 := fun (n_ : Nat) => (show (((((w11.drewN n_).setCell ⟨gb264, 0, none⟩ (.int .i64 ((rd_T46 l0 x14_1).f0))).setCell ⟨gb264, 1, none⟩ (.int .i64 ((rd_T46 l0 x14_1).f1))).setCell ⟨gb264, 2, none⟩ (.string ((rd_T46 l0 x14_1).f2)))).cell? _ = some _ from hx265_1)); (try have hy265_2 := fun (n_ : Nat) => (show (((((w11.drewN n_).setCell ⟨gb264, 0, none⟩ (.int .i64 ((rd_T46 l0 x14_1).f0))).setCell ⟨gb264, 1, none⟩ (.int .i64 ((rd_T46 l0 x14_1).f1))).setCell ⟨gb264, 2, none⟩ (.string ((rd_T46 l0 x14_1).f2)))).cell? _ = some _ from hx265_2)); clear hn265_0; clear hn265_1; clear hn265_2; replace p265 := eq_true p265; replace q265 := eq_true q265)))
         go_roundg k1
         case measure => have := HK1.out; omega
         case rel => exact ⟨(wrap64 (x14_1 + 1)), qV, H', ⟨by have := HK1.out; omega⟩, ⟨qF⟩⟩
       ·rw [if_neg c7] at H
        exact absurd H (by simp)
      ·rw [if_neg c6] at H
       exact absurd H (by simp)
     ·rw [if_neg c5] at H
      exact absurd H (by simp)
    ·rw [if_neg c4] at H
     (have c4b0 : decide (x14_1 < (l0.length : Int)) = false := decide_eq_false c4); clear c4; (obtain rfl := Option.some.inj H); go_wp2; (repeat (go_quiet (fail); try go_wp2)); (go_ret); (exact ⟨qE, qF⟩)
 ·rw [if_neg c3] at H
  (have c3b0 : ((l0.length : Int) == (l1.length : Int)) = false := beq_eq_false_iff_ne.mpr c3); (have c3b1 : ((l0.length : Int) != (l1.length : Int)) = true := bne_iff_ne.mpr c3); (have c3b2 : (l0.length == l1.length) = false := by first | simpa using c3 | (simp at c3 ⊢; omega)); (obtain rfl := Option.some.inj H); (go_enter Tryd.func36, Tryd.ntmps36); go_wp2; (repeat (go_quiet (fail); try go_wp2)); (go_ret); (exact ⟨qE, qF⟩)
mutual
def cst_Same.j0 : Nat → Bool → Int → Int → Int → Int → List (S46) → ByteArray → List (S26) → Int → Int → Int → Int → List (S46) → ByteArray → List (S26) → Option (Bool)
 | 0, _, _, _, _, _, _, _, _, _, _, _, _, _, _, _ => none
 | k + 1, x56, x267000, x267001, x267002, x267003, x267004, x267005, x267006, x268000, x268001, x268002, x268003, x268004, x268005, x268006 => if x56 = true then (some false) else (cst_Same.l0 k x267006 (x267006.length : Int) 0 x268000 x268001 x268002 x268003 x268004 x268005 x268006)
def cst_Same.l0 : Nat → List (S26) → Int → Int → Int → Int → Int → Int → List (S46) → ByteArray → List (S26) → Option (Bool)
 | 0, _, _, _, _, _, _, _, _, _, _ => none
 | k + 1, x58, x59, x60, x268000, x268001, x268002, x268003, x268004, x268005, x268006 => if x60 < x59 then (if 0 ≤ x60 then (if x60 < (x58.length : Int) then (if x60 < (x268006.length : Int) then ((cst_Same.f k ((rd_T26 x58 x60).f0) ((rd_T26 x58 x60).f1) ((rd_T26 x58 x60).f2) ((rd_T26 x58 x60).f3) ((rd_T26 x58 x60).f4) ((rd_T26 x58 x60).f5) ((rd_T26 x58 x60).f6) ((rd_T26 x268006 x60).f0) ((rd_T26 x268006 x60).f1) ((rd_T26 x268006 x60).f2) ((rd_T26 x268006 x60).f3) ((rd_T26 x268006 x60).f4) ((rd_T26 x268006 x60).f5) ((rd_T26 x268006 x60).f6)).bind fun t272 => (if t272 = true then (cst_Same.l0 k x58 x59 (wrap64 (x60 + 1)) x268000 x268001 x268002 x268003 x268004 x268005 x268006) else (some false))) else (none)) else (none)) else (none)) else (some true)
def cst_Same.f : Nat → Int → Int → Int → Int → List (S46) → ByteArray → List (S26) → Int → Int → Int → Int → List (S46) → ByteArray → List (S26) → Option (Bool)
 | 0, _, _, _, _, _, _, _, _, _, _, _, _, _, _ => none
 | k + 1, a0_0, a0_1, a0_2, a0_3, l0_4, a0_5, l0_6, a1_0, a1_1, a1_2, a1_3, l1_4, a1_5, l1_6 => if a0_0 = a1_0 then (if a0_1 = a1_1 then (if a0_2 = a1_2 then (if a0_3 = a1_3 then (if a0_5.toList = a1_5.toList then (if (l0_6.length : Int) = (l1_6.length : Int) then ((cst_sameLead.f k l0_4 l1_4).bind fun t268 => (cst_Same.j0 k (!t268) a0_0 a0_1 a0_2 a0_3 l0_4 a0_5 l0_6 a1_0 a1_1 a1_2 a1_3 l1_4 a1_5 l1_6)) else (cst_Same.j0 k true a0_0 a0_1 a0_2 a0_3 l0_4 a0_5 l0_6 a1_0 a1_1 a1_2 a1_3 l1_4 a1_5 l1_6)) else (cst_Same.j0 k true a0_0 a0_1 a0_2 a0_3 l0_4 a0_5 l0_6 a1_0 a1_1 a1_2 a1_3 l1_4 a1_5 l1_6)) else (cst_Same.j0 k true a0_0 a0_1 a0_2 a0_3 l0_4 a0_5 l0_6 a1_0 a1_1 a1_2 a1_3 l1_4 a1_5 l1_6)) else (cst_Same.j0 k true a0_0 a0_1 a0_2 a0_3 l0_4 a0_5 l0_6 a1_0 a1_1 a1_2 a1_3 l1_4 a1_5 l1_6)) else (cst_Same.j0 k true a0_0 a0_1 a0_2 a0_3 l0_4 a0_5 l0_6 a1_0 a1_1 a1_2 a1_3 l1_4 a1_5 l1_6)) else (cst_Same.j0 k true a0_0 a0_1 a0_2 a0_3 l0_4 a0_5 l0_6 a1_0 a1_1 a1_2 a1_3 l1_4 a1_5 l1_6)
end
def cst_Same.T6 : Bool × List (List Nat × List Nat) := (true, [([], []), ([], []), ([1], [1]), ([], []), ([2, 3], [2, 3]), ([4], [4]), ([0, 5], [0, 5]), ([6], [6])])
def cst_Same.B6 : List Nat := [0, 0, 2, 0, 14, 30, 63, 127]
theorem cst_Same.tab6 : rtab .any (opsOf Tryd.f21 6) = cst_Same.T6 := by kernel_rfl
theorem cst_Same.bits6 : waitsOk cst_Same.T6.2 cst_Same.B6 = true := by kernel_rfl
set_option maxHeartbeats 8000000 in
set_option maxRecDepth 100000 in
theorem cst_Same.calls (k : Nat) : ∀ (a0_0 : Int) (a0_1 : Int) (a0_2 : Int) (a0_3 : Int) (A0_4 : Option Addr) (c0_4 : Nat) (l0_4 : List (S46)) (a0_5 : ByteArray) (A0_6 : Option Addr) (c0_6 : Nat) (l0_6 : List (S26)) (a1_0 : Int) (a1_1 : Int) (a1_2 : Int) (a1_3 : Int) (A1_4 : Option Addr) (c1_4 : Nat) (l1_4 : List (S46)) (a1_5 : ByteArray) (A1_6 : Option Addr) (c1_6 : Nat) (l1_6 : List (S26)) (r : Bool) (w : World) (hr0_4 : Kd.C k46 w A0_4 l0_4.length l0_4) (hc0_4 : l0_4.length ≤ c0_4) (hr0_6 : Kd.C k26 w A0_6 l0_6.length l0_6) (hc0_6 : l0_6.length ≤ c0_6) (hr1_4 : Kd.C k46 w A1_4 l1_4.length l1_4) (hc1_4 : l1_4.length ≤ c1_4) (hr1_6 : Kd.C k26 w A1_6 l1_6.length l1_6) (hc1_6 : l1_6.length ≤ c1_6) (h : cst_Same.f k a0_0 a0_1 a0_2 a0_3 l0_4 a0_5 l0_6 a1_0 a1_1 a1_2 a1_3 l1_4 a1_5 l1_6 = some r),
  Calls Tryd.prog 21 #[.agg #[.int .i64 a0_0, .int .i64 a0_1, .int .i64 a0_2, .int .i64 a0_3, .slice A0_4 l0_4.length c0_4, .string a0_5, .slice A0_6 l0_6.length c0_6], .agg #[.int .i64 a1_0, .int .i64 a1_1, .int .i64 a1_2, .int .i64 a1_3, .slice A1_4 l1_4.length c1_4, .string a1_5, .slice A1_6 l1_6.length c1_6]] w fun e w' => e = .returned (.bool r) ∧ Below w.heap.size w w' := by
 induction k using Nat.strongRecOn with
 | _ k ih =>
 intro a0_0 a0_1 a0_2 a0_3 A0_4 c0_4 l0_4 a0_5 A0_6 c0_6 l0_6 a1_0 a1_1 a1_2 a1_3 A1_4 c1_4 l1_4 a1_5 A1_6 c1_6 l1_6 r w hr0_4 hc0_4 hr0_6 hc0_6 hr1_4 hc1_4 hr1_6 hc1_6 h
 cases k with
 | zero => exact absurd h (by simp [cst_Same.f])
 | succ k =>
 (simp only [cst_Same.f] at h); (have hu26 := Tryd.underlying26); (have HR0_4 := qM hr0_4); (have HC0_4 := qM hc0_4); clear hr0_4 hc0_4; (have HR0_6 := qM hr0_6); (have HC0_6 := qM hc0_6); clear hr0_6 hc0_6; (have HR1_4 := qM hr1_4); (have HC1_4 := qM hc1_4); clear hr1_4 hc1_4; (have HR1_6 := qM hr1_6); (have HC1_6 := qM hc1_6); clear hr1_6 hc1_6; (have HB := qM (Below.refl w.heap.size w))
 have H : (if a0_0 = a1_0 then (if a0_1 = a1_1 then (if a0_2 = a1_2 then (if a0_3 = a1_3 then (if a0_5.toList = a1_5.toList then (if (l0_6.length : Int) = (l1_6.length : Int) then ((cst_sameLead.f k l0_4 l1_4).bind fun t268 => (cst_Same.j0 k (!t268) a0_0 a0_1 a0_2 a0_3 l0_4 a0_5 l0_6 a1_0 a1_1 a1_2 a1_3 l1_4 a1_5 l1_6)) else (cst_Same.j0 k true a0_0 a0_1 a0_2 a0_3 l0_4 a0_5 l0_6 a1_0 a1_1 a1_2 a1_3 l1_4 a1_5 l1_6)) else (cst_Same.j0 k true a0_0 a0_1 a0_2 a0_3 l0_4 a0_5 l0_6 a1_0 a1_1 a1_2 a1_3 l1_4 a1_5 l1_6)) else (cst_Same.j0 k true a0_0 a0_1 a0_2 a0_3 l0_4 a0_5 l0_6 a1_0 a1_1 a1_2 a1_3 l1_4 a1_5 l1_6)) else (cst_Same.j0 k true a0_0 a0_1 a0_2 a0_3 l0_4 a0_5 l0_6 a1_0 a1_1 a1_2 a1_3 l1_4 a1_5 l1_6)) else (cst_Same.j0 k true a0_0 a0_1 a0_2 a0_3 l0_4 a0_5 l0_6 a1_0 a1_1 a1_2 a1_3 l1_4 a1_5 l1_6)) else (cst_Same.j0 k true a0_0 a0_1 a0_2 a0_3 l0_4 a0_5 l0_6 a1_0 a1_1 a1_2 a1_3 l1_4 a1_5 l1_6)) = some r := h
 clear h; (have HC3 := qM H); clear H; (go_enter Tryd.func21, Tryd.ntmps21)
 go_upto_region 1 with (first | ((with_reducible refine gate_dst (N := 2) rfl ?_); (try (refine gate_guard (by rfl) ?_; dsimp only)); refine box_event ?hg (N := 2) ?hd (cs := #[.int .i64 a0_0, .int .i64 a0_1, .int .i64 a0_2, .int .i64 a0_3, .slice A0_4 l0_4.length c0_4, .string a0_5, .slice A0_6 l0_6.length c0_6]) (t := 26) ?hr ?_; (case hd => rfl); (case hg => rfl); (case hr => first | (go_simp; done) | (go_simp; rfl)); intro gb266 hg w4 hbox hb; have n0_ := qM (qP qF hb); have n1_ := qM (hbox); have n2_ := qM ((by rw [hg]; exact (qZ qF) : w.heap.size ≤ gb266)); have n3_ := qM ((by rw [hg]; exact (qZ qF) : w.heap.size ≤ gb266)); clear HB; have HB := n0_; have BK266 := n1_; have GW266 := n2_; have GE266 := n3_; clear n0_ n1_ n2_ n3_; clear hb hbox hg) | ((with_reducible refine gate_dst (N := 3) rfl ?_); (try (refine gate_guard (by rfl) ?_; dsimp only)); refine box_event ?hg (N := 3) ?hd (cs := #[.int .i64 a1_0, .int .i64 a1_1, .int .i64 a1_2, .int .i64 a1_3, .slice A1_4 l1_4.length c1_4, .string a1_5, .slice A1_6 l1_6.length c1_6]) (t := 26) ?hr ?_; (case hd => rfl); (case hg => rfl); (case hr => first | (go_simp; done) | (go_simp; rfl)); intro gb267 hg w5 hbox hb; have n0_ := qM (qb (g := gb266) qK hb); have n1_ := qM (qP qF hb); have n2_ := qM (hbox); have n3_ := qM ((by rw [hg]; exact (qZ qF) : w.heap.size ≤ gb267)); have n4_ := qM ((by rw [hg]; exact (qZ qF) : w.heap.size ≤ gb267)); have n5_ := qM ((by rw [hg]; exact Nat.ne_of_lt (ql (g := gb266) qK) : gb266 ≠ gb267)); have n6_ := qM ((by rw [hg]; exact Nat.ne_of_gt (ql (g := gb266) qK) : gb267 ≠ gb266)); clear BK266; clear HB; have BK266 := n0_; have HB := n1_; have BK267 := n2_; have GW267 := n3_; have GE267 := n4_; have NB266_267 := n5_; have NB267_266 := n6_; clear n0_ n1_ n2_ n3_ n4_ n5_ n6_; clear hb hbox hg))
 ((try simp only [Act.put, List.setIfInBounds_toArray, List.set_cons_zero, List.set_cons_succ])); (go_cut [56] (fun v56 wc => ∃ (kq : Nat) (x56_2 : Bool), v56 = .bool x56_2 ∧ Aside0 (cst_Same.j0 kq x56_2 a0_0 a0_1 a0_2 a0_3 l0_4 a0_5 l0_6 a1_0 a1_1 a1_2 a1_3 l1_4 a1_5 l1_6 = some r) ∧ Aside0 (kq ≤ k) ∧ Aside0 (wc.heap[gb266]? = some (.cells #[.int .i64 a0_0, .int .i64 a0_1, .int .i64 a0_2, .int .i64 a0_3, (.slice A0_4 l0_4.length c0_4), .string a0_5, (.slice A0_6 l0_6.length c0_6)] 26 (0, 0))) ∧ Aside0 (wc.heap[gb267]? = some (.cells #[.int .i64 a1_0, .int .i64 a1_1, .int .i64 a1_2, .int .i64 a1_3, (.slice A1_4 l1_4.length c1_4), .string a1_5, (.slice A1_6 l1_6.length c1_6)] 26 (0, 0))) ∧ Aside0 (Below w.heap.size w wc)))
 case first =>
  (have H := HC3.out); clear HC3; (by_cases c6 : a0_0 = a1_0)
  ·rw [if_pos c6] at H
   (have c6b0 : (a0_0 == a1_0) = true := beq_iff_eq.mpr c6); (have c6b1 : (a0_0 != a1_0) = false := bne_eq_false_iff_eq.mpr c6); clear c6; ((first | rw [c6b0] | (simp only [i64_w, i32_w]; rw [c6b0]) | skip)); (by_cases c7 : a0_1 = a1_1)
   ·rw [if_pos c7] at H
    (have c7b0 : (a0_1 == a1_1) = true := beq_iff_eq.mpr c7); (have c7b1 : (a0_1 != a1_1) = false := bne_eq_false_iff_eq.mpr c7); clear c7; (by_cases c8 : a0_2 = a1_2)
    ·rw [if_pos c8] at H
     (have c8b0 : (a0_2 == a1_2) = true := beq_iff_eq.mpr c8); (have c8b1 : (a0_2 != a1_2) = false := bne_eq_false_iff_eq.mpr c8); clear c8; (by_cases c9 : a0_3 = a1_3)
     ·rw [if_pos c9] at H
      (have c9b0 : (a0_3 == a1_3) = true := beq_iff_eq.mpr c9); (have c9b1 : (a0_3 != a1_3) = false := bne_eq_false_iff_eq.mpr c9); clear c9; (by_cases c10 : a0_5.toList = a1_5.toList)
      ·rw [if_pos c10] at H
       (have c10b0 : (a0_5.toList == a1_5.toList) = true := beq_iff_eq.mpr c10); (have c10b1 : (a0_5.toList != a1_5.toList) = false := bne_eq_false_iff_eq.mpr c10); clear c10; (by_cases c11 : (l0_6.length : Int) = (l1_6.length : Int))
       ·rw [if_pos c11] at H
        (have c11b0 : ((l0_6.length : Int) == (l1_6.length : Int)) = true := beq_iff_eq.mpr c11); (have c11b1 : ((l0_6.length : Int) != (l1_6.length : Int)) = false := bne_eq_false_iff_eq.mpr c11); (have c11b2 : (l0_6.length == l1_6.length) = true := by first | simpa using c11 | (simp at c11 ⊢; omega)); clear c11; (replace H := Option.bind_eq_some_iff.mp H); (obtain ⟨t268, A120, H⟩ := H); (replace H : (cst_Same.j0 k (!t268) a0_0 a0_1 a0_2 a0_3 l0_4 a0_5 l0_6 a1_0 a1_1 a1_2 a1_3 l1_4 a1_5 l1_6) = some r := H); (have A12 := qM A120); clear A120; (have H' := qM H); clear H; (have hnb13 := NB266_267.out); (have hnc13 := NB267_266.out); (obtain ⟨hcz14_0, hcz14_1, hcz14_2, hcz14_3, hcz14_4, hcz14_5, hcz14_6, hfz14_0, hfz14_1, hfz14_2, hfz14_3, hfz14_4, hfz14_5, hfz14_6⟩ := bx7 BK266.out); (obtain ⟨hcz15_0, hcz15_1, hcz15_2, hcz15_3, hcz15_4, hcz15_5, hcz15_6, hfz15_0, hfz15_1, hfz15_2, hfz15_3, hfz15_4, hfz15_5, hfz15_6⟩ := bx7 BK267.out)
        go_wp2_with (first | (go_at_call 36; (with_reducible refine (cst_sameLead.calls k _ _ l0_4 _ _ l1_4 t268 _ ?side1 ?side2 ?side3 ?side4 A12.out).mono ?_); (case side1 => exact qC HR0_4.out qF); (case side2 => exact HC0_4.out); (case side3 => exact qC HR1_4.out qF); (case side4 => exact HC1_4.out); rintro e w16 ⟨rfl, hb⟩; have n0_ := qM (qb (g := gb266) qK hb); have n1_ := qM (qb (g := gb267) qK hb); have n2_ := qM (qP qF hb); clear BK266; clear BK267; clear HB; have BK266 := n0_; have BK267 := n1_; have HB := n2_; clear n0_ n1_ n2_; (try clear hb); (try clear hb2); (try clear hk); (try clear hi)))
        go_meet
        case rel => exact ⟨_, (!t268), qV, H', ⟨by first | omega | exact Nat.le_refl _⟩, ⟨qK⟩, ⟨qK⟩, ⟨qF⟩⟩
       ·rw [if_neg c11] at H
        (have c11b0 : ((l0_6.length : Int) == (l1_6.length : Int)) = false := beq_eq_false_iff_ne.mpr c11); (have c11b1 : ((l0_6.length : Int) != (l1_6.length : Int)) = true := bne_iff_ne.mpr c11); (have c11b2 : (l0_6.length == l1_6.length) = false := by first | simpa using c11 | (simp at c11 ⊢; omega)); (have H' := qM H); clear H; (have hnb17 := NB266_267.out); (have hnc17 := NB267_266.out); (obtain ⟨hcz18_0, hcz18_1, hcz18_2, hcz18_3, hcz18_4, hcz18_5, hcz18_6, hfz18_0, hfz18_1, hfz18_2, hfz18_3, hfz18_4, hfz18_5, hfz18_6⟩ := bx7 BK266.out); (obtain ⟨hcz19_0, hcz19_1, hcz19_2, hcz19_3, hcz19_4, hcz19_5, hcz19_6, hfz19_0, hfz19_1, hfz19_2, hfz19_3, hfz19_4, hfz19_5, hfz19_6⟩ := bx7 BK267.out); go_wp2; go_meet
        case rel => exact ⟨_, (true), qV, H', ⟨by first | omega | exact Nat.le_refl _⟩, ⟨qK⟩, ⟨qK⟩, ⟨qF⟩⟩
      ·rw [if_neg c10] at H
       (have c10b0 : (a0_5.toList == a1_5.toList) = false := beq_eq_false_iff_ne.mpr c10); (have c10b1 : (a0_5.toList != a1_5.toList) = true := bne_iff_ne.mpr c10); (have H' := qM H); clear H; (have hnb20 := NB266_267.out); (have hnc20 := NB267_266.out); (obtain ⟨hcz21_0, hcz21_1, hcz21_2, hcz21_3, hcz21_4, hcz21_5, hcz21_6, hfz21_0, hfz21_1, hfz21_2, hfz21_3, hfz21_4, hfz21_5, hfz21_6⟩ := bx7 BK266.out); (obtain ⟨hcz22_0, hcz22_1, hcz22_2, hcz22_3, hcz22_4, hcz22_5, hcz22_6, hfz22_0, hfz22_1, hfz22_2, hfz22_3, hfz22_4, hfz22_5, hfz22_6⟩ := bx7 BK267.out); go_wp2; go_meet
       case rel => exact ⟨_, (true), qV, H', ⟨by first | omega | exact Nat.le_refl _⟩, ⟨qK⟩, ⟨qK⟩, ⟨qF⟩⟩
     ·rw [if_neg c9] at H
      (have c9b0 : (a0_3 == a1_3) = false := beq_eq_false_iff_ne.mpr c9); (have c9b1 : (a0_3 != a1_3) = true := bne_iff_ne.mpr c9); (have H' := qM H); clear H; (have hnb23 := NB266_267.out); (have hnc23 := NB267_266.out); (obtain ⟨hcz24_0, hcz24_1, hcz24_2, hcz24_3, hcz24_4, hcz24_5, hcz24_6, hfz24_0, hfz24_1, hfz24_2, hfz24_3, hfz24_4, hfz24_5, hfz24_6⟩ := bx7 BK266.out); (obtain ⟨hcz25_0, hcz25_1, hcz25_2, hcz25_3, hcz25_4, hcz25_5, hcz25_6, hfz25_0, hfz25_1, hfz25_2, hfz25_3, hfz25_4, hfz25_5, hfz25_6⟩ := bx7 BK267.out); go_wp2; go_meet
      case rel => exact ⟨_, (true), qV, H', ⟨by first | omega | exact Nat.le_refl _⟩, ⟨qK⟩, ⟨qK⟩, ⟨qF⟩⟩
    ·rw [if_neg c8] at H
     (have c8b0 : (a0_2 == a1_2) = false := beq_eq_false_iff_ne.mpr c8); (have c8b1 : (a0_2 != a1_2) = true := bne_iff_ne.mpr c8); (have H' := qM H); clear H; (have hnb26 := NB266_267.out); (have hnc26 := NB267_266.out); (obtain ⟨hcz27_0, hcz27_1, hcz27_2, hcz27_3, hcz27_4, hcz27_5, hcz27_6, hfz27_0, hfz27_1, hfz27_2, hfz27_3, hfz27_4, hfz27_5, hfz27_6⟩ := bx7 BK266.out); (obtain ⟨hcz28_0, hcz28_1, hcz28_2, hcz28_3, hcz28_4, hcz28_5, hcz28_6, hfz28_0, hfz28_1, hfz28_2, hfz28_3, hfz28_4, hfz28_5, hfz28_6⟩ := bx7 BK267.out); go_wp2; go_meet
     case rel => exact ⟨_, (true), qV, H', ⟨by first | omega | exact Nat.le_refl _⟩, ⟨qK⟩, ⟨qK⟩, ⟨qF⟩⟩
   ·rw [if_neg c7] at H
    (have c7b0 : (a0_1 == a1_1) = false := beq_eq_false_iff_ne.mpr c7); (have c7b1 : (a0_1 != a1_1) = true := bne_iff_ne.mpr c7); (have H' := qM H); clear H; (have hnb29 := NB266_267.out); (have hnc29 := NB267_266.out); (obtain ⟨hcz30_0, hcz30_1, hcz30_2, hcz30_3, hcz30_4, hcz30_5, hcz30_6, hfz30_0, hfz30_1, hfz30_2, hfz30_3, hfz30_4, hfz30_5, hfz30_6⟩ := bx7 BK266.out); (obtain ⟨hcz31_0, hcz31_1, hcz31_2, hcz31_3, hcz31_4, hcz31_5, hcz31_6, hfz31_0, hfz31_1, hfz31_2, hfz31_3, hfz31_4, hfz31_5, hfz31_6⟩ := bx7 BK267.out); go_wp2; go_meet
    case rel => exact ⟨_, (true), qV, H', ⟨by first | omega | exact Nat.le_refl _⟩, ⟨qK⟩, ⟨qK⟩, ⟨qF⟩⟩
  ·rw [if_neg c6] at H
   (have c6b0 : (a0_0 == a1_0) = false := beq_eq_false_iff_ne.mpr c6); (have c6b1 : (a0_0 != a1_0) = true := bne_iff_ne.mpr c6); ((first | rw [c6b0] | (simp only [i64_w, i32_w]; rw [c6b0]) | skip)); (have H' := qM H); clear H; (have hnb32 := NB266_267.out); (have hnc32 := NB267_266.out); (obtain ⟨hcz33_0, hcz33_1, hcz33_2, hcz33_3, hcz33_4, hcz33_5, hcz33_6, hfz33_0, hfz33_1, hfz33_2, hfz33_3, hfz33_4, hfz33_5, hfz33_6⟩ := bx7 BK266.out); (obtain ⟨hcz34_0, hcz34_1, hcz34_2, hcz34_3, hcz34_4, hcz34_5, hcz34_6, hfz34_0, hfz34_1, hfz34_2, hfz34_3, hfz34_4, hfz34_5, hfz34_6⟩ := bx7 BK267.out); go_wp2; go_meet
   case rel => exact ⟨_, (true), qV, H', ⟨by first | omega | exact Nat.le_refl _⟩, ⟨qK⟩, ⟨qK⟩, ⟨qF⟩⟩
 case rest =>
  clear HC3; (try clear c1); (try clear c2); (try clear p2); (try clear c3); (try clear c6); (try clear c6b0); (try clear c6b1); (try clear c7); (try clear c7b0); (try clear c7b1); (try clear c8); (try clear c8b0); (try clear c8b1); (try clear c9); (try clear c9b0); (try clear c9b1); (try clear c10); (try clear c10b0); (try clear c10b1); (try clear c11); (try clear c11b0); (try clear c11b1); (try clear c11b2); (try clear c13); (try clear c17); (try clear c20); (try clear c21); (try clear c23); (try clear c26); (try clear c29); (try clear c32); (try clear hcz14_0 hcz14_1 hcz14_2 hcz14_3 hcz14_4 hcz14_5 hcz14_6); (try clear hcz15_0 hcz15_1 hcz15_2 hcz15_3 hcz15_4 hcz15_5 hcz15_6); (try clear hcz18_0 hcz18_1 hcz18_2 hcz18_3 hcz18_4 hcz18_5 hcz18_6); (try clear hcz19_0 hcz19_1 hcz19_2 hcz19_3 hcz19_4 hcz19_5 hcz19_6); (try clear hcz21_0 hcz21_1 hcz21_2 hcz21_3 hcz21_4 hcz21_5 hcz21_6); (try clear hcz22_0 hcz22_1 hcz22_2 hcz22_3 hcz22_4 hcz22_5 hcz22_6); (try clear hcz24_0 hcz24_1 hcz24_2 hcz24_3 hcz24_4 hcz24_5 hcz24_6); (try clear hcz25_0 hcz25_1 hcz25_2 hcz25_3 hcz25_4 hcz25_5 hcz25_6); (try clear hcz27_0 hcz27_1 hcz27_2 hcz27_3 hcz27_4 hcz27_5 hcz27_6); (try clear hcz28_0 hcz28_1 hcz28_2 hcz28_3 hcz28_4 hcz28_5 hcz28_6); (try clear hcz30_0 hcz30_1 hcz30_2 hcz30_3 hcz30_4 hcz30_5 hcz30_6); (try clear hcz31_0 hcz31_1 hcz31_2 hcz31_3 hcz31_4 hcz31_5 hcz31_6); (try clear hcz33_0 hcz33_1 hcz33_2 hcz33_3 hcz33_4 hcz33_5 hcz33_6); (try clear hcz34_0 hcz34_1 hcz34_2 hcz34_3 hcz34_4 hcz34_5 hcz34_6); (try clear hfz14_0 hfz14_1 hfz14_2 hfz14_3 hfz14_4 hfz14_5 hfz14_6); (try clear hfz15_0 hfz15_1 hfz15_2 hfz15_3 hfz15_4 hfz15_5 hfz15_6); (try clear hfz18_0 hfz18_1 hfz18_2 hfz18_3 hfz18_4 hfz18_5 hfz18_6); (try clear hfz19_0 hfz19_1 hfz19_2 hfz19_3 hfz19_4 hfz19_5 hfz19_6); (try clear hfz21_0 hfz21_1 hfz21_2 hfz21_3 hfz21_4 hfz21_5 hfz21_6); (try clear hfz22_0 hfz22_1 hfz22_2 hfz22_3 hfz22_4 hfz22_5 hfz22_6); (try clear hfz24_0 hfz24_1 hfz24_2 hfz24_3 hfz24_4 hfz24_5 hfz24_6); (try clear hfz25_0 hfz25_1 hfz25_2 hfz25_3 hfz25_4 hfz25_5 hfz25_6); (try clear hfz27_0 hfz27_1 hfz27_2 hfz27_3 hfz27_4 hfz27_5 hfz27_6); (try clear hfz28_0 hfz28_1 hfz28_2 hfz28_3 hfz28_4 hfz28_5 hfz28_6); (try clear hfz30_0 hfz30_1 hfz30_2 hfz30_3 hfz30_4 hfz30_5 hfz30_6); (try clear hfz31_0 hfz31_1 hfz31_2 hfz31_3 hfz31_4 hfz31_5 hfz31_6); (try clear hfz33_0 hfz33_1 hfz33_2 hfz33_3 hfz33_4 hfz33_5 hfz33_6); (try clear hfz34_0 hfz34_1 hfz34_2 hfz34_3 hfz34_4 hfz34_5 hfz34_6); (obtain ⟨kq, x56_2, rfl, HA, HJ2, BK266, BK267, HB⟩ := hcut)
  cases kq with
  | zero => exact absurd HA.out (by simp [cst_Same.j0])
  | succ kj2 =>
   (have H := HA.out); clear HA; (simp only [cst_Same.j0] at H); (by_cases c35 : x56_2 = true)
   ·subst c35
    (have H1 : (some false) = some r := by rw [if_pos rfl] at H; exact H); clear H; (have H := H1); clear H1; (obtain rfl := Option.some.inj H); go_wp2; (go_ret); (exact ⟨qE, qF⟩)
   ·replace c35 := Bool.eq_false_iff.mpr c35
    subst c35; (have H1 : (cst_Same.l0 kj2 l0_6 (l0_6.length : Int) 0 a1_0 a1_1 a1_2 a1_3 l1_4 a1_5 l1_6) = some r := by rw [if_neg (show ¬ (false = true) by decide)] at H; exact H); clear H; (have H := H1); clear H1; (have H' := qM H); clear H; (have hnb36 := NB266_267.out); (have hnc36 := NB267_266.out); (obtain ⟨hcz37_0, hcz37_1, hcz37_2, hcz37_3, hcz37_4, hcz37_5, hcz37_6, hfz37_0, hfz37_1, hfz37_2, hfz37_3, hfz37_4, hfz37_5, hfz37_6⟩ := bx7 BK266.out); go_wp2; (go_loopg [60] kj2 (fun kq v60 w' => ∃ (x60_2 : Int), v60 = .int .i64 x60_2 ∧ Aside0 (cst_Same.l0 kq l0_6 (l0_6.length : Int) x60_2 a1_0 a1_1 a1_2 a1_3 l1_4 a1_5 l1_6 = some r) ∧ Aside0 (kq ≤ kj2) ∧ Aside0 (w'.heap[gb266]? = some (.cells #[.int .i64 a0_0, .int .i64 a0_1, .int .i64 a0_2, .int .i64 a0_3, (.slice A0_4 l0_4.length c0_4), .string a0_5, (.slice A0_6 l0_6.length c0_6)] 26 (0, 0))) ∧ Aside0 (w'.heap[gb267]? = some (.cells #[.int .i64 a1_0, .int .i64 a1_1, .int .i64 a1_2, .int .i64 a1_3, (.slice A1_4 l1_4.length c1_4), .string a1_5, (.slice A1_6 l1_6.length c1_6)] 26 (0, 0))) ∧ Aside0 (Below w.heap.size w w')))
    case atStart => exact ⟨(0), qV, H', ⟨Nat.le_refl _⟩, ⟨qK⟩, ⟨qK⟩, ⟨qF⟩⟩
    case round =>
     (clear H'); (try clear c1); (try clear c2); (try clear p2); (try clear c3); (try clear c6); (try clear c6b0); (try clear c6b1); (try clear c7); (try clear c7b0); (try clear c7b1); (try clear c8); (try clear c8b0); (try clear c8b1); (try clear c9); (try clear c9b0); (try clear c9b1); (try clear c10); (try clear c10b0); (try clear c10b1); (try clear c11); (try clear c11b0); (try clear c11b1); (try clear c11b2); (try clear c13); (try clear c17); (try clear c20); (try clear c21); (try clear c23); (try clear c26); (try clear c29); (try clear c32); (try clear c35); (try clear c36); (try clear hcz14_0 hcz14_1 hcz14_2 hcz14_3 hcz14_4 hcz14_5 hcz14_6); (try clear hcz15_0 hcz15_1 hcz15_2 hcz15_3 hcz15_4 hcz15_5 hcz15_6); (try clear hcz18_0 hcz18_1 hcz18_2 hcz18_3 hcz18_4 hcz18_5 hcz18_6); (try clear hcz19_0 hcz19_1 hcz19_2 hcz19_3 hcz19_4 hcz19_5 hcz19_6); (try clear hcz21_0 hcz21_1 hcz21_2 hcz21_3 hcz21_4 hcz21_5 hcz21_6); (try clear hcz22_0 hcz22_1 hcz22_2 hcz22_3 hcz22_4 hcz22_5 hcz22_6); (try clear hcz24_0 hcz24_1 hcz24_2 hcz24_3 hcz24_4 hcz24_5 hcz24_6); (try clear hcz25_0 hcz25_1 hcz25_2 hcz25_3 hcz25_4 hcz25_5 hcz25_6); (try clear hcz27_0 hcz27_1 hcz27_2 hcz27_3 hcz27_4 hcz27_5 hcz27_6); (try clear hcz28_0 hcz28_1 hcz28_2 hcz28_3 hcz28_4 hcz28_5 hcz28_6); (try clear hcz30_0 hcz30_1 hcz30_2 hcz30_3 hcz30_4 hcz30_5 hcz30_6); (try clear hcz31_0 hcz31_1 hcz31_2 hcz31_3 hcz31_4 hcz31_5 hcz31_6); (try clear hcz33_0 hcz33_1 hcz33_2 hcz33_3 hcz33_4 hcz33_5 hcz33_6); (try clear hcz34_0 hcz34_1 hcz34_2 hcz34_3 hcz34_4 hcz34_5 hcz34_6); (try clear hcz37_0 hcz37_1 hcz37_2 hcz37_3 hcz37_4 hcz37_5 hcz37_6); (try clear hfz14_0 hfz14_1 hfz14_2 hfz14_3 hfz14_4 hfz14_5 hfz14_6); (try clear hfz15_0 hfz15_1 hfz15_2 hfz15_3 hfz15_4 hfz15_5 hfz15_6); (try clear hfz18_0 hfz18_1 hfz18_2 hfz18_3 hfz18_4 hfz18_5 hfz18_6); (try clear hfz19_0 hfz19_1 hfz19_2 hfz19_3 hfz19_4 hfz19_5 hfz19_6); (try clear hfz21_0 hfz21_1 hfz21_2 hfz21_3 hfz21_4 hfz21_5 hfz21_6); (try clear hfz22_0 hfz22_1 hfz22_2 hfz22_3 hfz22_4 hfz22_5 hfz22_6); (try clear hfz24_0 hfz24_1 hfz24_2 hfz24_3 hfz24_4 hfz24_5 hfz24_6); (try clear hfz25_0 hfz25_1 hfz25_2 hfz25_3 hfz25_4 hfz25_5 hfz25_6); (try clear hfz27_0 hfz27_1 hfz27_2 hfz27_3 hfz27_4 hfz27_5 hfz27_6); (try clear hfz28_0 hfz28_1 hfz28_2 hfz28_3 hfz28_4 hfz28_5 hfz28_6); (try clear hfz30_0 hfz30_1 hfz30_2 hfz30_3 hfz30_4 hfz30_5 hfz30_6); (try clear hfz31_0 hfz31_1 hfz31_2 hfz31_3 hfz31_4 hfz31_5 hfz31_6); (try clear hfz33_0 hfz33_1 hfz33_2 hfz33_3 hfz33_4 hfz33_5 hfz33_6); (try clear hfz34_0 hfz34_1 hfz34_2 hfz34_3 hfz34_4 hfz34_5 hfz34_6); (try clear hfz37_0 hfz37_1 hfz37_2 hfz37_3 hfz37_4 hfz37_5 hfz37_6)
     (try clear p2); (obtain ⟨x60_2, rfl, HA, HK2, BK266, BK267, HB⟩ := hrel)
     cases gk with
     | zero => exact absurd HA.out (by simp [cst_Same.l0])
     | succ k2 =>
      (have H := HA.out); clear HA; (simp only [cst_Same.l0] at H); (by_cases c38 : x60_2 < (l0_6.length : Int))
      ·rw [if_pos c38] at H
       (have c38b0 : decide (x60_2 < (l0_6.length : Int)) = true := decide_eq_true c38); clear c38; (by_cases c39 : 0 ≤ x60_2)
       ·rw [if_pos c39] at H
        (have c39b0 : decide (0 ≤ x60_2) = true := decide_eq_true c39); clear c39; (by_cases c40 : x60_2 < (l0_6.length : Int))
        ·rw [if_pos c40] at H
         (have c40b0 : decide (x60_2 < (l0_6.length : Int)) = true := decide_eq_true c40); clear c40; (by_cases c41 : x60_2 < (l1_6.length : Int))
         ·rw [if_pos c41] at H
          (have c41b0 : decide (x60_2 < (l1_6.length : Int)) = true := decide_eq_true c41); clear c41; (replace H := Option.bind_eq_some_iff.mp H); (obtain ⟨t272, A420, H⟩ := H); (replace H : (if t272 = true then (cst_Same.l0 k2 l0_6 (l0_6.length : Int) (wrap64 (x60_2 + 1)) a1_0 a1_1 a1_2 a1_3 l1_4 a1_5 l1_6) else (some false)) = some r := H); (have A42 := qM A420); clear A420; (by_cases c43 : t272 = true)
          ·subst c43
           (have H1 : (cst_Same.l0 k2 l0_6 (l0_6.length : Int) (wrap64 (x60_2 + 1)) a1_0 a1_1 a1_2 a1_3 l1_4 a1_5 l1_6) = some r := by rw [if_pos rfl] at H; exact H); clear H; (have H := H1); clear H1; (have H' := qM H); clear H; (have p269 : 0 ≤ (x60_2 : Int) := qo qX); (have q269 : x60_2 < (l0_6.length : Int) := qo qX); (obtain ⟨ad269, A269_4, c269_4, A269_6, c269_6, e269, hx269_0, hx269_1, hx269_2, hx269_3, hx269_4, hx269_5, hx269_6, hl269_4, hi269_4, hl269_6, hi269_6⟩ := at_T26 HR0_6.out x60_2 p269 q269)
           cases e269
           (replace hx269_0 := (HB.out.cell (qB w _ hx269_0)).trans hx269_0); (replace hx269_1 := (HB.out.cell (qB w _ hx269_1)).trans hx269_1); (replace hx269_2 := (HB.out.cell (qB w _ hx269_2)).trans hx269_2); (replace hx269_3 := (HB.out.cell (qB w _ hx269_3)).trans hx269_3); (replace hx269_4 := (HB.out.cell (qB w _ hx269_4)).trans hx269_4); (replace hx269_5 := (HB.out.cell (qB w _ hx269_5)).trans hx269_5); (replace hx269_6 := (HB.out.cell (qB w _ hx269_6)).trans hx269_6); (have HR269_4 := qM hi269_4); (have HC269_4 := qM hl269_4); clear hi269_4 hl269_4; (have HR269_6 := qM hi269_6); (have HC269_6 := qM hl269_6); clear hi269_6 hl269_6; (replace p269 := eq_true p269); (replace q269 := eq_true q269)
           try go_wp2_with (first | ((with_reducible refine gate_dst (N := 6) rfl ?_); (try (refine gate_guard (by rfl) ?_; dsimp only)); refine box_event ?hg (N := 6) ?hd (cs := #[.int .i64 0, .int .i64 0, .int .i64 0, .int .i64 0, .slice none 0 0, .string (⟨#[]⟩ : ByteArray), .slice none 0 0]) (t := 26) ?hr ?_; (case hd => rfl); (case hg => rfl); (case hr => first | (go_simp; done) | (go_simp; rfl)); intro gb270 hg w44 hbox hb; have n0_ := qM (qb (g := gb266) qK hb); have n1_ := qM (qb (g := gb267) qK hb); have n2_ := qM (qP qF hb); have n3_ := qM (hbox); have n4_ := qM ((by rw [hg]; exact (qZ qF) : w.heap.size ≤ gb270)); have n5_ := qM ((by rw [hg]; exact (qZ qF) : w.heap.size ≤ gb270)); have n6_ := qM ((by rw [hg]; exact Nat.ne_of_lt (ql (g := gb266) qK) : gb266 ≠ gb270)); have n7_ := qM ((by rw [hg]; exact Nat.ne_of_gt (ql (g := gb266) qK) : gb270 ≠ gb266)); have n8_ := qM ((by rw [hg]; exact Nat.ne_of_lt (ql (g := gb267) qK) : gb267 ≠ gb270)); have n9_ := qM ((by rw [hg]; exact Nat.ne_of_gt (ql (g := gb267) qK) : gb270 ≠ gb267)); clear BK266; clear BK267; clear HB; have BK266 := n0_; have BK267 := n1_; have HB := n2_; have BK270 := n3_; have GW270 := n4_; have GE270 := n5_; have NB266_270 := n6_; have NB270_266 := n7_; have NB267_270 := n8_; have NB270_267 := n9_; clear n0_ n1_ n2_ n3_ n4_ n5_ n6_ n7_ n8_ n9_; clear hb hbox hg; have hnb45 := NB270_266.out; have hnc45 := NB266_270.out; have hnb46 := NB270_267.out; have hnc46 := NB267_270.out; obtain ⟨hcz47_0, hcz47_1, hcz47_2, hcz47_3, hcz47_4, hcz47_5, hcz47_6, hfz47_0, hfz47_1, hfz47_2, hfz47_3, hfz47_4, hfz47_5, hfz47_6⟩ := bx7 BK270.out))
           have n0_ : Aside0 ((((((((w44.setCell ⟨gb270, 0, none⟩ (.int .i64 ((rd_T26 l0_6 x60_2).f0))).setCell ⟨gb270, 1, none⟩ (.int .i64 ((rd_T26 l0_6 x60_2).f1))).setCell ⟨gb270, 2, none⟩ (.int .i64 ((rd_T26 l0_6 x60_2).f2))).setCell ⟨gb270, 3, none⟩ (.int .i64 ((rd_T26 l0_6 x60_2).f3))).setCell ⟨gb270, 4, none⟩ (.slice A269_4 ((rd_T26 l0_6 x60_2).f4).length c269_4)).setCell ⟨gb270, 5, none⟩ (.string ((rd_T26 l0_6 x60_2).f5))).setCell ⟨gb270, 6, none⟩ (.slice A269_6 ((rd_T26 l0_6 x60_2).f6).length c269_6)).heap[gb266]? = some (.cells #[.int .i64 a0_0, .int .i64 a0_1, .int .i64 a0_2, .int .i64 a0_3, .slice A0_4 l0_4.length c0_4, .string a0_5, .slice (some ad269) l0_6.length c0_6] 26 (0, 0))) := ⟨by (with_reducible repeat (first | refine qn ?_ _ | refine qd ?_ | refine qa ?_ _)); refine qf ?_ NB266_270.out _; (with_reducible repeat (first | refine qn ?_ _ | refine qd ?_ | refine qa ?_ _)); refine qf ?_ NB266_270.out _; (with_reducible repeat (first | refine qn ?_ _ | refine qd ?_ | refine qa ?_ _)); refine qf ?_ NB266_270.out _; (with_reducible repeat (first | refine qn ?_ _ | refine qd ?_ | refine qa ?_ _)); refine qf ?_ NB266_270.out _; (with_reducible repeat (first | refine qn ?_ _ | refine qd ?_ | refine qa ?_ _)); refine qf ?_ NB266_270.out _; (with_reducible repeat (first | refine qn ?_ _ | refine qd ?_ | refine qa ?_ _)); refine qf ?_ NB266_270.out _; (with_reducible repeat (first | refine qn ?_ _ | refine qd ?_ | refine qa ?_ _)); refine qf ?_ NB266_270.out _; (with_reducible repeat (first | refine qn ?_ _ | refine qd ?_ | refine qa ?_ _)); exact BK266.out⟩
           have n1_ : Aside0 ((((((((w44.setCell ⟨gb270, 0, none⟩ (.int .i64 ((rd_T26 l0_6 x60_2).f0))).setCell ⟨gb270, 1, none⟩ (.int .i64 ((rd_T26 l0_6 x60_2).f1))).setCell ⟨gb270, 2, none⟩ (.int .i64 ((rd_T26 l0_6 x60_2).f2))).setCell ⟨gb270, 3, none⟩ (.int .i64 ((rd_T26 l0_6 x60_2).f3))).setCell ⟨gb270, 4, none⟩ (.slice A269_4 ((rd_T26 l0_6 x60_2).f4).length c269_4)).setCell ⟨gb270, 5, none⟩ (.string ((rd_T26 l0_6 x60_2).f5))).setCell ⟨gb270, 6, none⟩ (.slice A269_6 ((rd_T26 l0_6 x60_2).f6).length c269_6)).heap[gb267]? = some (.cells #[.int .i64 a1_0, .int .i64 a1_1, .int .i64 a1_2, .int .i64 a1_3, .slice A1_4 l1_4.length c1_4, .string a1_5, .slice A1_6 l1_6.length c1_6] 26 (0, 0))) := ⟨by (with_reducible repeat (first | refine qn ?_ _ | refine qd ?_ | refine qa ?_ _)); refine qf ?_ NB267_270.out _; (with_reducible repeat (first | refine qn ?_ _ | refine qd ?_ | refine qa ?_ _)); refine qf ?_ NB267_270.out _; (with_reducible repeat (first | refine qn ?_ _ | refine qd ?_ | refine qa ?_ _)); refine qf ?_ NB267_270.out _; (with_reducible repeat (first | refine qn ?_ _ | refine qd ?_ | refine qa ?_ _)); refine qf ?_ NB267_270.out _; (with_reducible repeat (first | refine qn ?_ _ | refine qd ?_ | refine qa ?_ _)); refine qf ?_ NB267_270.out _; (with_reducible repeat (first | refine qn ?_ _ | refine qd ?_ | refine qa ?_ _)); refine qf ?_ NB267_270.out _; (with_reducible repeat (first | refine qn ?_ _ | refine qd ?_ | refine qa ?_ _)); refine qf ?_ NB267_270.out _; (with_reducible repeat (first | refine qn ?_ _ | refine qd ?_ | refine qa ?_ _)); exact BK267.out⟩
           have n2_ : Aside0 ((((((((w44.setCell ⟨gb270, 0, none⟩ (.int .i64 ((rd_T26 l0_6 x60_2).f0))).setCell ⟨gb270, 1, none⟩ (.int .i64 ((rd_T26 l0_6 x60_2).f1))).setCell ⟨gb270, 2, none⟩ (.int .i64 ((rd_T26 l0_6 x60_2).f2))).setCell ⟨gb270, 3, none⟩ (.int .i64 ((rd_T26 l0_6 x60_2).f3))).setCell ⟨gb270, 4, none⟩ (.slice A269_4 ((rd_T26 l0_6 x60_2).f4).length c269_4)).setCell ⟨gb270, 5, none⟩ (.string ((rd_T26 l0_6 x60_2).f5))).setCell ⟨gb270, 6, none⟩ (.slice A269_6 ((rd_T26 l0_6 x60_2).f6).length c269_6)).heap[gb270]? = some (.cells #[.int .i64 ((rd_T26 l0_6 x60_2).f0), .int .i64 ((rd_T26 l0_6 x60_2).f1), .int .i64 ((rd_T26 l0_6 x60_2).f2), .int .i64 ((rd_T26 l0_6 x60_2).f3), .slice A269_4 ((rd_T26 l0_6 x60_2).f4).length c269_4, .string ((rd_T26 l0_6 x60_2).f5), .slice A269_6 ((rd_T26 l0_6 x60_2).f6).length c269_6] 26 (0, 0))) := ⟨by (with_reducible repeat (first | refine qn ?_ _ | refine qd ?_ | refine qa ?_ _)); refine blk_put (cs := #[.int .i64 ((rd_T26 l0_6 x60_2).f0), .int .i64 ((rd_T26 l0_6 x60_2).f1), .int .i64 ((rd_T26 l0_6 x60_2).f2), .int .i64 ((rd_T26 l0_6 x60_2).f3), .slice A269_4 ((rd_T26 l0_6 x60_2).f4).length c269_4, .string ((rd_T26 l0_6 x60_2).f5), .slice none 0 0]) ?_ 6 _ rfl; (with_reducible repeat (first | refine qn ?_ _ | refine qd ?_ | refine qa ?_ _)); refine blk_put (cs := #[.int .i64 ((rd_T26 l0_6 x60_2).f0), .int .i64 ((rd_T26 l0_6 x60_2).f1), .int .i64 ((rd_T26 l0_6 x60_2).f2), .int .i64 ((rd_T26 l0_6 x60_2).f3), .slice A269_4 ((rd_T26 l0_6 x60_2).f4).length c269_4, .string (⟨#[]⟩ : ByteArray), .slice none 0 0]) ?_ 5 _ rfl; (with_reducible repeat (first | refine qn ?_ _ | refine qd ?_ | refine qa ?_ _)); refine blk_put (cs := #[.int .i64 ((rd_T26 l0_6 x60_2).f0), .int .i64 ((rd_T26 l0_6 x60_2).f1), .int .i64 ((rd_T26 l0_6 x60_2).f2), .int .i64 ((rd_T26 l0_6 x60_2).f3), .slice none 0 0, .string (⟨#[]⟩ : ByteArray), .slice none 0 0]) ?_ 4 _ rfl; (with_reducible repeat (first | refine qn ?_ _ | refine qd ?_ | refine qa ?_ _)); refine blk_put (cs := #[.int .i64 ((rd_T26 l0_6 x60_2).f0), .int .i64 ((rd_T26 l0_6 x60_2).f1), .int .i64 ((rd_T26 l0_6 x60_2).f2), .int .i64 0, .slice none 0 0, .string (⟨#[]⟩ : ByteArray), .slice none 0 0]) ?_ 3 _ rfl; (with_reducible repeat (first | refine qn ?_ _ | refine qd ?_ | refine qa ?_ _)); refine blk_put (cs := #[.int .i64 ((rd_T26 l0_6 x60_2).f0), .int .i64 ((rd_T26 l0_6 x60_2).f1), .int .i64 0, .int .i64 0, .slice none 0 0, .string (⟨#[]⟩ : ByteArray), .slice none 0 0]) ?_ 2 _ rfl; (with_reducible repeat (first | refine qn ?_ _ | refine qd ?_ | refine qa ?_ _)); refine blk_put (cs := #[.int .i64 ((rd_T26 l0_6 x60_2).f0), .int .i64 0, .int .i64 0, .int .i64 0, .slice none 0 0, .string (⟨#[]⟩ : ByteArray), .slice none 0 0]) ?_ 1 _ rfl; (with_reducible repeat (first | refine qn ?_ _ | refine qd ?_ | refine qa ?_ _)); refine blk_put (cs := #[.int .i64 0, .int .i64 0, .int .i64 0, .int .i64 0, .slice none 0 0, .string (⟨#[]⟩ : ByteArray), .slice none 0 0]) ?_ 0 _ rfl; (with_reducible repeat (first | refine qn ?_ _ | refine qd ?_ | refine qa ?_ _)); exact BK270.out⟩
           have n3_ : Aside0 (Below w.heap.size w (((((((w44.setCell ⟨gb270, 0, none⟩ (.int .i64 ((rd_T26 l0_6 x60_2).f0))).setCell ⟨gb270, 1, none⟩ (.int .i64 ((rd_T26 l0_6 x60_2).f1))).setCell ⟨gb270, 2, none⟩ (.int .i64 ((rd_T26 l0_6 x60_2).f2))).setCell ⟨gb270, 3, none⟩ (.int .i64 ((rd_T26 l0_6 x60_2).f3))).setCell ⟨gb270, 4, none⟩ (.slice A269_4 ((rd_T26 l0_6 x60_2).f4).length c269_4)).setCell ⟨gb270, 5, none⟩ (.string ((rd_T26 l0_6 x60_2).f5))).setCell ⟨gb270, 6, none⟩ (.slice A269_6 ((rd_T26 l0_6 x60_2).f6).length c269_6))) := ⟨qF⟩
           ((try clear BK266)); ((try clear BK267)); ((try clear BK270)); ((try clear HB)); (generalize (((((((w44.setCell ⟨gb270, 0, none⟩ (.int .i64 ((rd_T26 l0_6 x60_2).f0))).setCell ⟨gb270, 1, none⟩ (.int .i64 ((rd_T26 l0_6 x60_2).f1))).setCell ⟨gb270, 2, none⟩ (.int .i64 ((rd_T26 l0_6 x60_2).f2))).setCell ⟨gb270, 3, none⟩ (.int .i64 ((rd_T26 l0_6 x60_2).f3))).setCell ⟨gb270, 4, none⟩ (.slice A269_4 ((rd_T26 l0_6 x60_2).f4).length c269_4)).setCell ⟨gb270, 5, none⟩ (.string ((rd_T26 l0_6 x60_2).f5))).setCell ⟨gb270, 6, none⟩ (.slice A269_6 ((rd_T26 l0_6 x60_2).f6).length c269_6)) = w48 at n0_ n1_ n2_ n3_ ⊢); (have BK266 := n0_); (have BK267 := n1_); (have BK270 := n2_); (have HB := n3_); clear n0_ n1_ n2_ n3_; (have n0_ := qM (qd BK266.out)); (have n1_ := qM (qd BK267.out)); (have n2_ := qM (qd BK270.out)); (have n3_ := qM (qD HB.out)); clear BK266 BK267 BK270 HB; (have BK266 := n0_); (have BK267 := n1_); (have BK270 := n2_); (have HB := n3_); clear n0_ n1_ n2_ n3_; (have p271 : 0 ≤ (x60_2 : Int) := qo qX); (have q271 : x60_2 < (l1_6.length : Int) := qo qX); (obtain ⟨ad271, A271_4, c271_4, A271_6, c271_6, e271, hx271_0, hx271_1, hx271_2, hx271_3, hx271_4, hx271_5, hx271_6, hl271_4, hi271_4, hl271_6, hi271_6⟩ := at_T26 HR1_6.out x60_2 p271 q271); (have hw271_6 := hx271_6); (have hw271_5 := hx271_5); (have hw271_4 := hx271_4); (have hw271_3 := hx271_3); (have hw271_2 := hx271_2); (have hw271_1 := hx271_1); (have hw271_0 := hx271_0)
           cases e271
           (replace hx271_0 := (HB.out.cell (qB w _ hx271_0)).trans hx271_0); (replace hx271_1 := (HB.out.cell (qB w _ hx271_1)).trans hx271_1); (replace hx271_2 := (HB.out.cell (qB w _ hx271_2)).trans hx271_2); (replace hx271_3 := (HB.out.cell (qB w _ hx271_3)).trans hx271_3); (replace hx271_4 := (HB.out.cell (qB w _ hx271_4)).trans hx271_4); (replace hx271_5 := (HB.out.cell (qB w _ hx271_5)).trans hx271_5); (replace hx271_6 := (HB.out.cell (qB w _ hx271_6)).trans hx271_6); (have HR271_4 := qM hi271_4); (have HC271_4 := qM hl271_4); clear hi271_4 hl271_4; (have HR271_6 := qM hi271_6); (have HC271_6 := qM hl271_6); clear hi271_6 hl271_6; (replace p271 := eq_true p271); (replace q271 := eq_true q271)
           refine start_ (n := 8) (S := fun w' => w'.cell? ⟨gb270, 0, none⟩ = some (.int .i64 ((rd_T26 l0_6 x60_2).f0)) ∧ w'.cell? ⟨gb270, 1, none⟩ = some (.int .i64 ((rd_T26 l0_6 x60_2).f1)) ∧ w'.cell? ⟨gb270, 2, none⟩ = some (.int .i64 ((rd_T26 l0_6 x60_2).f2)) ∧ w'.cell? ⟨gb270, 3, none⟩ = some (.int .i64 ((rd_T26 l0_6 x60_2).f3)) ∧ w'.cell? ⟨gb270, 4, none⟩ = some (.slice A269_4 ((rd_T26 l0_6 x60_2).f4).length c269_4) ∧ w'.cell? ⟨gb270, 5, none⟩ = some (.string ((rd_T26 l0_6 x60_2).f5)) ∧ w'.cell? ⟨gb270, 6, none⟩ = some (.slice A269_6 ((rd_T26 l0_6 x60_2).f6).length c269_6) ∧ w'.cell? ⟨gb267, 0, none⟩ = some (.int .i64 a1_0) ∧ w'.cell? ⟨gb267, 1, none⟩ = some (.int .i64 a1_1) ∧ w'.cell? ⟨gb267, 2, none⟩ = some (.int .i64 a1_2) ∧ w'.cell? ⟨gb267, 3, none⟩ = some (.int .i64 a1_3) ∧ w'.cell? ⟨gb267, 4, none⟩ = some (.slice A1_4 l1_4.length c1_4) ∧ w'.cell? ⟨gb267, 5, none⟩ = some (.string a1_5) ∧ w'.cell? ⟨gb267, 6, none⟩ = some (.slice (some ad271) l1_6.length c1_6) ∧ w'.cell? (ad271.add ((x60_2).toNat * 7)) = some (.int .i64 ((rd_T26 l1_6 x60_2).f0)) ∧ w'.cell? ⟨(ad271.add ((x60_2).toNat * 7)).block, (ad271.add ((x60_2).toNat * 7)).off + 1, none⟩ = some (.int .i64 ((rd_T26 l1_6 x60_2).f1)) ∧ w'.cell? ⟨(ad271.add ((x60_2).toNat * 7)).block, (ad271.add ((x60_2).toNat * 7)).off + 2, none⟩ = some (.int .i64 ((rd_T26 l1_6 x60_2).f2)) ∧ w'.cell? ⟨(ad271.add ((x60_2).toNat * 7)).block, (ad271.add ((x60_2).toNat * 7)).off + 3, none⟩ = some (.int .i64 ((rd_T26 l1_6 x60_2).f3)) ∧ w'.cell? ⟨(ad271.add ((x60_2).toNat * 7)).block, (ad271.add ((x60_2).toNat * 7)).off + 4, none⟩ = some (.slice A271_4 ((rd_T26 l1_6 x60_2).f4).length c271_4) ∧ w'.cell? ⟨(ad271.add ((x60_2).toNat * 7)).block, (ad271.add ((x60_2).toNat * 7)).off + 5, none⟩ = some (.string ((rd_T26 l1_6 x60_2).f5)) ∧ w'.cell? ⟨(ad271.add ((x60_2).toNat * 7)).block, (ad271.add ((x60_2).toNat * 7)).off + 6, none⟩ = some (.slice A271_6 ((rd_T26 l1_6 x60_2).f6).length c271_6)) (ds := []) #[false, false, false, false, false, false, false, false] (by kernel_rfl) rfl rfl ⟨(blk_cell BK270.out 0).trans rfl, (blk_cell BK270.out 1).trans rfl, (blk_cell BK270.out 2).trans rfl, (blk_cell BK270.out 3).trans rfl, (blk_cell BK270.out 4).trans rfl, (blk_cell BK270.out 5).trans rfl, (blk_cell BK270.out 6).trans rfl, (blk_cell BK267.out 0).trans rfl, (blk_cell BK267.out 1).trans rfl, (blk_cell BK267.out 2).trans rfl, (blk_cell BK267.out 3).trans rfl, (blk_cell BK267.out 4).trans rfl, (blk_cell BK267.out 5).trans rfl, (blk_cell BK267.out 6).trans rfl, ((HB.out.cell (qB w _ hw271_0)).trans hw271_0), ((HB.out.cell (qB w _ hw271_1)).trans hw271_1), ((HB.out.cell (qB w _ hw271_2)).trans hw271_2), ((HB.out.cell (qB w _ hw271_3)).trans hw271_3), ((HB.out.cell (qB w _ hw271_4)).trans hw271_4), ((HB.out.cell (qB w _ hw271_5)).trans hw271_5), ((HB.out.cell (qB w _ hw271_6)).trans hw271_6)⟩ (fun hHeld => ?_); refine with_tabW cst_Same.tab6 cst_Same.bits6 (fun HT_ HW_ => ?_)
           (generalize w48.drew = w49 at BK266 BK267 BK270 HB HR271_4 HR271_6 hx271_0 hx271_1 hx271_2 hx271_3 hx271_4 hx271_5 hx271_6 hHeld ⊢); (refine pure_ (i := 1) (N := some 66) (v := ?_) (a' := ?_) #[false, true, false, false, false, false, false, false] rfl rfl (any_of HT_.out (by kernel_rfl)) (fun _ _ _ h => h) (Or.inl ⟨by rfl, ?_⟩) ?_ ?_); rotate_left; ((intro w'; go_simp; with_reducible rfl)); rotate_left; ((simp only [Act.put, List.setIfInBounds_toArray, List.set_cons_zero, List.set_cons_succ, i64_w, i32_w]; rfl)); (refine pure_ (i := 3) (N := some 68) (v := ?_) (a' := ?_) #[false, true, false, true, false, false, false, false] rfl rfl (any_of HT_.out (by kernel_rfl)) (fun _ _ _ h => h) (Or.inl ⟨by rfl, ?_⟩) ?_ ?_); rotate_left; ((intro w'; go_simp; with_reducible rfl)); rotate_left; ((simp only [Act.put, List.setIfInBounds_toArray, List.set_cons_zero, List.set_cons_succ, i64_w, i32_w]; rfl)); (refine take_ (i := 0) (N := some 65) (v := ?_) (a' := ?_) #[true, true, false, true, false, false, false, false] rfl rfl (take_ofW HT_.out HW_.out (by kernel_rfl)) (fun _ _ _ h => h) (Or.inl ⟨by rfl, ?_⟩) hHeld ?_ ?_); rotate_left
           ·rintro w' ⟨s0, s1, s2, s3, s4, s5, s6, s7, s8, s9, s10, s11, s12, s13, s14, s15, s16, s17, s18, s19, s20⟩
            (go_simp); (with_reducible rfl)
           rotate_left; ((simp only [Act.put, List.setIfInBounds_toArray, List.set_cons_zero, List.set_cons_succ, i64_w, i32_w]; rfl)); (refine take_ (i := 2) (N := some 67) (v := ?_) (a' := ?_) #[true, true, true, true, false, false, false, false] rfl rfl (take_ofW HT_.out HW_.out (by kernel_rfl)) (fun _ _ _ h => h) (Or.inl ⟨by rfl, ?_⟩) hHeld ?_ ?_); rotate_left
           ·rintro w' ⟨s0, s1, s2, s3, s4, s5, s6, s7, s8, s9, s10, s11, s12, s13, s14, s15, s16, s17, s18, s19, s20⟩
            (go_simp); (with_reducible rfl)
           rotate_left; ((simp only [Act.put, List.setIfInBounds_toArray, List.set_cons_zero, List.set_cons_succ, i64_w, i32_w]; rfl)); (refine pure_ (i := 4) (N := some 69) (v := ?_) (a' := ?_) #[true, true, true, true, true, false, false, false] rfl rfl (any_of HT_.out (by kernel_rfl)) (fun _ _ _ h => h) (Or.inl ⟨by rfl, ?_⟩) ?_ ?_); rotate_left; ((intro w'; go_simp; with_reducible rfl)); rotate_left; ((simp only [Act.put, List.setIfInBounds_toArray, List.set_cons_zero, List.set_cons_succ, i64_w, i32_w]; rfl)); (refine take_ (i := 5) (N := some 70) (v := ?_) (a' := ?_) #[true, true, true, true, true, true, false, false] rfl rfl (take_ofW HT_.out HW_.out (by kernel_rfl)) (fun _ _ _ h => h) (Or.inl ⟨by rfl, ?_⟩) hHeld ?_ ?_); rotate_left
           ·rintro w' ⟨s0, s1, s2, s3, s4, s5, s6, s7, s8, s9, s10, s11, s12, s13, s14, s15, s16, s17, s18, s19, s20⟩
            (go_simp); (with_reducible rfl)
           rotate_left; ((simp only [Act.put, List.setIfInBounds_toArray, List.set_cons_zero, List.set_cons_succ, i64_w, i32_w]; rfl)); (refine one_ (i := 6) (N := some 71) #[true, true, true, true, true, true, true, false] rfl rfl (one_of HT_.out (by kernel_rfl)) (by decide) (fun K hK => ?_))
           refine goes_ Tryd.func21 (by kernel_rfl) rfl #[.agg #[.int .i64 ((rd_T26 l0_6 x60_2).f0), .int .i64 ((rd_T26 l0_6 x60_2).f1), .int .i64 ((rd_T26 l0_6 x60_2).f2), .int .i64 ((rd_T26 l0_6 x60_2).f3), .slice A269_4 ((rd_T26 l0_6 x60_2).f4).length c269_4, .string ((rd_T26 l0_6 x60_2).f5), .slice A269_6 ((rd_T26 l0_6 x60_2).f6).length c269_6], .agg #[.int .i64 ((rd_T26 l1_6 x60_2).f0), .int .i64 ((rd_T26 l1_6 x60_2).f1), .int .i64 ((rd_T26 l1_6 x60_2).f2), .int .i64 ((rd_T26 l1_6 x60_2).f3), .slice A271_4 ((rd_T26 l1_6 x60_2).f4).length c271_4, .string ((rd_T26 l1_6 x60_2).f5), .slice A271_6 ((rd_T26 l1_6 x60_2).f6).length c271_6]] (by rfl) rfl rfl (by (try simp only [List.map_toArray, List.map_cons, List.map_nil]); first | done | rfl | (simp only [List.length_drop, List.length_take]; rfl)) ?_
           (with_reducible refine (ih k2 (by have := HJ2.out; have := HK2.out; omega) ((rd_T26 l0_6 x60_2).f0) ((rd_T26 l0_6 x60_2).f1) ((rd_T26 l0_6 x60_2).f2) ((rd_T26 l0_6 x60_2).f3) _ _ ((rd_T26 l0_6 x60_2).f4) ((rd_T26 l0_6 x60_2).f5) _ _ ((rd_T26 l0_6 x60_2).f6) ((rd_T26 l1_6 x60_2).f0) ((rd_T26 l1_6 x60_2).f1) ((rd_T26 l1_6 x60_2).f2) ((rd_T26 l1_6 x60_2).f3) _ _ ((rd_T26 l1_6 x60_2).f4) ((rd_T26 l1_6 x60_2).f5) _ _ ((rd_T26 l1_6 x60_2).f6) true _ ?side1 ?side2 ?side3 ?side4 ?side5 ?side6 ?side7 ?side8 A42.out).mono ?_); ((case side1 => exact qC HR269_4.out qF)); ((case side2 => exact HC269_4.out)); ((case side3 => exact qC HR269_6.out qF)); ((case side4 => exact HC269_6.out)); ((case side5 => exact qC HR271_4.out qF)); ((case side6 => exact HC271_4.out)); ((case side7 => exact qC HR271_6.out qF)); ((case side8 => exact HC271_6.out)); (rintro e w50 ⟨rfl, hb⟩); (refine ⟨_, rfl, ?_⟩); (have n0_ := qM (qb (g := gb266) qK hb)); (have n1_ := qM (qb (g := gb267) qK hb)); (have n2_ := qM (qb (g := gb270) qK hb))
           (have n3_ := qM (qP qF hb)); clear BK266 BK267 BK270 HB; (have BK266 := n0_); (have BK267 := n1_); (have BK270 := n2_); (have HB := n3_); clear n0_ n1_ n2_ n3_; ((try clear hb)); ((try clear hb2)); ((try clear hk)); ((try clear hi))
           refine hK.out _ _ ⟨(blk_cell BK270.out 0).trans rfl, (blk_cell BK270.out 1).trans rfl, (blk_cell BK270.out 2).trans rfl, (blk_cell BK270.out 3).trans rfl, (blk_cell BK270.out 4).trans rfl, (blk_cell BK270.out 5).trans rfl, (blk_cell BK270.out 6).trans rfl, (blk_cell BK267.out 0).trans rfl, (blk_cell BK267.out 1).trans rfl, (blk_cell BK267.out 2).trans rfl, (blk_cell BK267.out 3).trans rfl, (blk_cell BK267.out 4).trans rfl, (blk_cell BK267.out 5).trans rfl, (blk_cell BK267.out 6).trans rfl, ((HB.out.cell (qB w _ hw271_0)).trans hw271_0), ((HB.out.cell (qB w _ hw271_1)).trans hw271_1), ((HB.out.cell (qB w _ hw271_2)).trans hw271_2), ((HB.out.cell (qB w _ hw271_3)).trans hw271_3), ((HB.out.cell (qB w _ hw271_4)).trans hw271_4), ((HB.out.cell (qB w _ hw271_5)).trans hw271_5), ((HB.out.cell (qB w _ hw271_6)).trans hw271_6)⟩ (fun hHeld => ?_)
           clear hK K; (refine norm_ (a' := ?_) ?_ ?_); rotate_left; ((show Act.put _ (some 71) _ = _; simp only [Act.put, List.setIfInBounds_toArray, List.set_cons_zero, List.set_cons_succ, i64_w, i32_w]; rfl)); (refine pure_ (i := 7) (N := some 72) (v := ?_) (a' := ?_) #[true, true, true, true, true, true, true, true] rfl rfl (any_of HT_.out (by kernel_rfl)) (fun _ _ _ h => h) (Or.inl ⟨by rfl, ?_⟩) ?_ ?_); rotate_left; ((intro w'; go_simp; with_reducible rfl)); rotate_left; ((simp only [Act.put, List.setIfInBounds_toArray, List.set_cons_zero, List.set_cons_succ, i64_w, i32_w]; rfl)); (refine done_ (done_of HT_.out (by kernel_rfl)) ?_); (try go_wp2); (go_roundg k2)
           case measure => have := HJ2.out; have := HK2.out; omega
           case rel => exact ⟨(wrap64 (x60_2 + 1)), qV, H', ⟨by have := HJ2.out; have := HK2.out; omega⟩, ⟨qK⟩, ⟨qK⟩, ⟨qF⟩⟩
          ·replace c43 := Bool.eq_false_iff.mpr c43
           subst c43; (have H1 : (some false) = some r := by rw [if_neg (show ¬ (false = true) by decide)] at H; exact H); clear H; (have H := H1); clear H1; (obtain rfl := Option.some.inj H); (have p269 : 0 ≤ (x60_2 : Int) := qo qX); (have q269 : x60_2 < (l0_6.length : Int) := qo qX); (obtain ⟨ad269, A269_4, c269_4, A269_6, c269_6, e269, hx269_0, hx269_1, hx269_2, hx269_3, hx269_4, hx269_5, hx269_6, hl269_4, hi269_4, hl269_6, hi269_6⟩ := at_T26 HR0_6.out x60_2 p269 q269)
           cases e269
           (replace hx269_0 := (HB.out.cell (qB w _ hx269_0)).trans hx269_0); (replace hx269_1 := (HB.out.cell (qB w _ hx269_1)).trans hx269_1); (replace hx269_2 := (HB.out.cell (qB w _ hx269_2)).trans hx269_2); (replace hx269_3 := (HB.out.cell (qB w _ hx269_3)).trans hx269_3); (replace hx269_4 := (HB.out.cell (qB w _ hx269_4)).trans hx269_4); (replace hx269_5 := (HB.out.cell (qB w _ hx269_5)).trans hx269_5); (replace hx269_6 := (HB.out.cell (qB w _ hx269_6)).trans hx269_6); (have HR269_4 := qM hi269_4); (have HC269_4 := qM hl269_4); clear hi269_4 hl269_4; (have HR269_6 := qM hi269_6); (have HC269_6 := qM hl269_6); clear hi269_6 hl269_6; (replace p269 := eq_true p269); (replace q269 := eq_true q269)
           try go_wp2_with (first | ((with_reducible refine gate_dst (N := 6) rfl ?_); (try (refine gate_guard (by rfl) ?_; dsimp only)); refine box_event ?hg (N := 6) ?hd (cs := #[.int .i64 0, .int .i64 0, .int .i64 0, .int .i64 0, .slice none 0 0, .string (⟨#[]⟩ : ByteArray), .slice none 0 0]) (t := 26) ?hr ?_; (case hd => rfl); (case hg => rfl); (case hr => first | (go_simp; done) | (go_simp; rfl)); intro gb270 hg w51 hbox hb; have n0_ := qM (qb (g := gb266) qK hb); have n1_ := qM (qb (g := gb267) qK hb); have n2_ := qM (qP qF hb); have n3_ := qM (hbox); have n4_ := qM ((by rw [hg]; exact (qZ qF) : w.heap.size ≤ gb270)); have n5_ := qM ((by rw [hg]; exact (qZ qF) : w.heap.size ≤ gb270)); have n6_ := qM ((by rw [hg]; exact Nat.ne_of_lt (ql (g := gb266) qK) : gb266 ≠ gb270)); have n7_ := qM ((by rw [hg]; exact Nat.ne_of_gt (ql (g := gb266) qK) : gb270 ≠ gb266)); have n8_ := qM ((by rw [hg]; exact Nat.ne_of_lt (ql (g := gb267) qK) : gb267 ≠ gb270)); have n9_ := qM ((by rw [hg]; exact Nat.ne_of_gt (ql (g := gb267) qK) : gb270 ≠ gb267)); clear BK266; clear BK267; clear HB; have BK266 := n0_; have BK267 := n1_; have HB := n2_; have BK270 := n3_; have GW270 := n4_; have GE270 := n5_; have NB266_270 := n6_; have NB270_266 := n7_; have NB267_270 := n8_; have NB270_267 := n9_; clear n0_ n1_ n2_ n3_ n4_ n5_ n6_ n7_ n8_ n9_; clear hb hbox hg; have hnb52 := NB270_266.out; have hnc52 := NB266_270.out; have hnb53 := NB270_267.out; have hnc53 := NB267_270.out; obtain ⟨hcz54_0, hcz54_1, hcz54_2, hcz54_3, hcz54_4, hcz54_5, hcz54_6, hfz54_0, hfz54_1, hfz54_2, hfz54_3, hfz54_4, hfz54_5, hfz54_6⟩ := bx7 BK270.out))
           have n0_ : Aside0 ((((((((w51.setCell ⟨gb270, 0, none⟩ (.int .i64 ((rd_T26 l0_6 x60_2).f0))).setCell ⟨gb270, 1, none⟩ (.int .i64 ((rd_T26 l0_6 x60_2).f1))).setCell ⟨gb270, 2, none⟩ (.int .i64 ((rd_T26 l0_6 x60_2).f2))).setCell ⟨gb270, 3, none⟩ (.int .i64 ((rd_T26 l0_6 x60_2).f3))).setCell ⟨gb270, 4, none⟩ (.slice A269_4 ((rd_T26 l0_6 x60_2).f4).length c269_4)).setCell ⟨gb270, 5, none⟩ (.string ((rd_T26 l0_6 x60_2).f5))).setCell ⟨gb270, 6, none⟩ (.slice A269_6 ((rd_T26 l0_6 x60_2).f6).length c269_6)).heap[gb266]? = some (.cells #[.int .i64 a0_0, .int .i64 a0_1, .int .i64 a0_2, .int .i64 a0_3, .slice A0_4 l0_4.length c0_4, .string a0_5, .slice (some ad269) l0_6.length c0_6] 26 (0, 0))) := ⟨by (with_reducible repeat (first | refine qn ?_ _ | refine qd ?_ | refine qa ?_ _)); refine qf ?_ NB266_270.out _; (with_reducible repeat (first | refine qn ?_ _ | refine qd ?_ | refine qa ?_ _)); refine qf ?_ NB266_270.out _; (with_reducible repeat (first | refine qn ?_ _ | refine qd ?_ | refine qa ?_ _)); refine qf ?_ NB266_270.out _; (with_reducible repeat (first | refine qn ?_ _ | refine qd ?_ | refine qa ?_ _)); refine qf ?_ NB266_270.out _; (with_reducible repeat (first | refine qn ?_ _ | refine qd ?_ | refine qa ?_ _)); refine qf ?_ NB266_270.out _; (with_reducible repeat (first | refine qn ?_ _ | refine qd ?_ | refine qa ?_ _)); refine qf ?_ NB266_270.out _; (with_reducible repeat (first | refine qn ?_ _ | refine qd ?_ | refine qa ?_ _)); refine qf ?_ NB266_270.out _; (with_reducible repeat (first | refine qn ?_ _ | refine qd ?_ | refine qa ?_ _)); exact BK266.out⟩
           have n1_ : Aside0 ((((((((w51.setCell ⟨gb270, 0, none⟩ (.int .i64 ((rd_T26 l0_6 x60_2).f0))).setCell ⟨gb270, 1, none⟩ (.int .i64 ((rd_T26 l0_6 x60_2).f1))).setCell ⟨gb270, 2, none⟩ (.int .i64 ((rd_T26 l0_6 x60_2).f2))).setCell ⟨gb270, 3, none⟩ (.int .i64 ((rd_T26 l0_6 x60_2).f3))).setCell ⟨gb270, 4, none⟩ (.slice A269_4 ((rd_T26 l0_6 x60_2).f4).length c269_4)).setCell ⟨gb270, 5, none⟩ (.string ((rd_T26 l0_6 x60_2).f5))).setCell ⟨gb270, 6, none⟩ (.slice A269_6 ((rd_T26 l0_6 x60_2).f6).length c269_6)).heap[gb267]? = some (.cells #[.int .i64 a1_0, .int .i64 a1_1, .int .i64 a1_2, .int .i64 a1_3, .slice A1_4 l1_4.length c1_4, .string a1_5, .slice A1_6 l1_6.length c1_6] 26 (0, 0))) := ⟨by (with_reducible repeat (first | refine qn ?_ _ | refine qd ?_ | refine qa ?_ _)); refine qf ?_ NB267_270.out _; (with_reducible repeat (first | refine qn ?_ _ | refine qd ?_ | refine qa ?_ _)); refine qf ?_ NB267_270.out _; (with_reducible repeat (first | refine qn ?_ _ | refine qd ?_ | refine qa ?_ _)); refine qf ?_ NB267_270.out _; (with_reducible repeat (first | refine qn ?_ _ | refine qd ?_ | refine qa ?_ _)); refine qf ?_ NB267_270.out _; (with_reducible repeat (first | refine qn ?_ _ | refine qd ?_ | refine qa ?_ _)); refine qf ?_ NB267_270.out _; (with_reducible repeat (first | refine qn ?_ _ | refine qd ?_ | refine qa ?_ _)); refine qf ?_ NB267_270.out _; (with_reducible repeat (first | refine qn ?_ _ | refine qd ?_ | refine qa ?_ _)); refine qf ?_ NB267_270.out _; (with_reducible repeat (first | refine qn ?_ _ | refine qd ?_ | refine qa ?_ _)); exact BK267.out⟩
           have n2_ : Aside0 ((((((((w51.setCell ⟨gb270, 0, none⟩ (.int .i64 ((rd_T26 l0_6 x60_2).f0))).setCell ⟨gb270, 1, none⟩ (.int .i64 ((rd_T26 l0_6 x60_2).f1))).setCell ⟨gb270, 2, none⟩ (.int .i64 ((rd_T26 l0_6 x60_2).f2))).setCell ⟨gb270, 3, none⟩ (.int .i64 ((rd_T26 l0_6 x60_2).f3))).setCell ⟨gb270, 4, none⟩ (.slice A269_4 ((rd_T26 l0_6 x60_2).f4).length c269_4)).setCell ⟨gb270, 5, none⟩ (.string ((rd_T26 l0_6 x60_2).f5))).setCell ⟨gb270, 6, none⟩ (.slice A269_6 ((rd_T26 l0_6 x60_2).f6).length c269_6)).heap[gb270]? = some (.cells #[.int .i64 ((rd_T26 l0_6 x60_2).f0), .int .i64 ((rd_T26 l0_6 x60_2).f1), .int .i64 ((rd_T26 l0_6 x60_2).f2), .int .i64 ((rd_T26 l0_6 x60_2).f3), .slice A269_4 ((rd_T26 l0_6 x60_2).f4).length c269_4, .string ((rd_T26 l0_6 x60_2).f5), .slice A269_6 ((rd_T26 l0_6 x60_2).f6).length c269_6] 26 (0, 0))) := ⟨by (with_reducible repeat (first | refine qn ?_ _ | refine qd ?_ | refine qa ?_ _)); refine blk_put (cs := #[.int .i64 ((rd_T26 l0_6 x60_2).f0), .int .i64 ((rd_T26 l0_6 x60_2).f1), .int .i64 ((rd_T26 l0_6 x60_2).f2), .int .i64 ((rd_T26 l0_6 x60_2).f3), .slice A269_4 ((rd_T26 l0_6 x60_2).f4).length c269_4, .string ((rd_T26 l0_6 x60_2).f5), .slice none 0 0]) ?_ 6 _ rfl; (with_reducible repeat (first | refine qn ?_ _ | refine qd ?_ | refine qa ?_ _)); refine blk_put (cs := #[.int .i64 ((rd_T26 l0_6 x60_2).f0), .int .i64 ((rd_T26 l0_6 x60_2).f1), .int .i64 ((rd_T26 l0_6 x60_2).f2), .int .i64 ((rd_T26 l0_6 x60_2).f3), .slice A269_4 ((rd_T26 l0_6 x60_2).f4).length c269_4, .string (⟨#[]⟩ : ByteArray), .slice none 0 0]) ?_ 5 _ rfl; (with_reducible repeat (first | refine qn ?_ _ | refine qd ?_ | refine qa ?_ _)); refine blk_put (cs := #[.int .i64 ((rd_T26 l0_6 x60_2).f0), .int .i64 ((rd_T26 l0_6 x60_2).f1), .int .i64 ((rd_T26 l0_6 x60_2).f2), .int .i64 ((rd_T26 l0_6 x60_2).f3), .slice none 0 0, .string (⟨#[]⟩ : ByteArray), .slice none 0 0]) ?_ 4 _ rfl; (with_reducible repeat (first | refine qn ?_ _ | refine qd ?_ | refine qa ?_ _)); refine blk_put (cs := #[.int .i64 ((rd_T26 l0_6 x60_2).f0), .int .i64 ((rd_T26 l0_6 x60_2).f1), .int .i64 ((rd_T26 l0_6 x60_2).f2), .int .i64 0, .slice none 0 0, .string (⟨#[]⟩ : ByteArray), .slice none 0 0]) ?_ 3 _ rfl; (with_reducible repeat (first | refine qn ?_ _ | refine qd ?_ | refine qa ?_ _)); refine blk_put (cs := #[.int .i64 ((rd_T26 l0_6 x60_2).f0), .int .i64 ((rd_T26 l0_6 x60_2).f1), .int .i64 0, .int .i64 0, .slice none 0 0, .string (⟨#[]⟩ : ByteArray), .slice none 0 0]) ?_ 2 _ rfl; (with_reducible repeat (first | refine qn ?_ _ | refine qd ?_ | refine qa ?_ _)); refine blk_put (cs := #[.int .i64 ((rd_T26 l0_6 x60_2).f0), .int .i64 0, .int .i64 0, .int .i64 0, .slice none 0 0, .string (⟨#[]⟩ : ByteArray), .slice none 0 0]) ?_ 1 _ rfl; (with_reducible repeat (first | refine qn ?_ _ | refine qd ?_ | refine qa ?_ _)); refine blk_put (cs := #[.int .i64 0, .int .i64 0, .int .i64 0, .int .i64 0, .slice none 0 0, .string (⟨#[]⟩ : ByteArray), .slice none 0 0]) ?_ 0 _ rfl; (with_reducible repeat (first | refine qn ?_ _ | refine qd ?_ | refine qa ?_ _)); exact BK270.out⟩
           have n3_ : Aside0 (Below w.heap.size w (((((((w51.setCell ⟨gb270, 0, none⟩ (.int .i64 ((rd_T26 l0_6 x60_2).f0))).setCell ⟨gb270, 1, none⟩ (.int .i64 ((rd_T26 l0_6 x60_2).f1))).setCell ⟨gb270, 2, none⟩ (.int .i64 ((rd_T26 l0_6 x60_2).f2))).setCell ⟨gb270, 3, none⟩ (.int .i64 ((rd_T26 l0_6 x60_2).f3))).setCell ⟨gb270, 4, none⟩ (.slice A269_4 ((rd_T26 l0_6 x60_2).f4).length c269_4)).setCell ⟨gb270, 5, none⟩ (.string ((rd_T26 l0_6 x60_2).f5))).setCell ⟨gb270, 6, none⟩ (.slice A269_6 ((rd_T26 l0_6 x60_2).f6).length c269_6))) := ⟨qF⟩
           ((try clear BK266)); ((try clear BK267)); ((try clear BK270)); ((try clear HB)); (generalize (((((((w51.setCell ⟨gb270, 0, none⟩ (.int .i64 ((rd_T26 l0_6 x60_2).f0))).setCell ⟨gb270, 1, none⟩ (.int .i64 ((rd_T26 l0_6 x60_2).f1))).setCell ⟨gb270, 2, none⟩ (.int .i64 ((rd_T26 l0_6 x60_2).f2))).setCell ⟨gb270, 3, none⟩ (.int .i64 ((rd_T26 l0_6 x60_2).f3))).setCell ⟨gb270, 4, none⟩ (.slice A269_4 ((rd_T26 l0_6 x60_2).f4).length c269_4)).setCell ⟨gb270, 5, none⟩ (.string ((rd_T26 l0_6 x60_2).f5))).setCell ⟨gb270, 6, none⟩ (.slice A269_6 ((rd_T26 l0_6 x60_2).f6).length c269_6)) = w55 at n0_ n1_ n2_ n3_ ⊢); (have BK266 := n0_); (have BK267 := n1_); (have BK270 := n2_); (have HB := n3_); clear n0_ n1_ n2_ n3_; (have n0_ := qM (qd BK266.out)); (have n1_ := qM (qd BK267.out)); (have n2_ := qM (qd BK270.out)); (have n3_ := qM (qD HB.out)); clear BK266 BK267 BK270 HB; (have BK266 := n0_); (have BK267 := n1_); (have BK270 := n2_); (have HB := n3_); clear n0_ n1_ n2_ n3_; (have p271 : 0 ≤ (x60_2 : Int) := qo qX); (have q271 : x60_2 < (l1_6.length : Int) := qo qX); (obtain ⟨ad271, A271_4, c271_4, A271_6, c271_6, e271, hx271_0, hx271_1, hx271_2, hx271_3, hx271_4, hx271_5, hx271_6, hl271_4, hi271_4, hl271_6, hi271_6⟩ := at_T26 HR1_6.out x60_2 p271 q271); (have hw271_6 := hx271_6); (have hw271_5 := hx271_5); (have hw271_4 := hx271_4); (have hw271_3 := hx271_3); (have hw271_2 := hx271_2); (have hw271_1 := hx271_1); (have hw271_0 := hx271_0)
           cases e271
           (replace hx271_0 := (HB.out.cell (qB w _ hx271_0)).trans hx271_0); (replace hx271_1 := (HB.out.cell (qB w _ hx271_1)).trans hx271_1); (replace hx271_2 := (HB.out.cell (qB w _ hx271_2)).trans hx271_2); (replace hx271_3 := (HB.out.cell (qB w _ hx271_3)).trans hx271_3); (replace hx271_4 := (HB.out.cell (qB w _ hx271_4)).trans hx271_4); (replace hx271_5 := (HB.out.cell (qB w _ hx271_5)).trans hx271_5); (replace hx271_6 := (HB.out.cell (qB w _ hx271_6)).trans hx271_6); (have HR271_4 := qM hi271_4); (have HC271_4 := qM hl271_4); clear hi271_4 hl271_4; (have HR271_6 := qM hi271_6); (have HC271_6 := qM hl271_6); clear hi271_6 hl271_6; (replace p271 := eq_true p271); (replace q271 := eq_true q271)
           refine start_ (n := 8) (S := fun w' => w'.cell? ⟨gb270, 0, none⟩ = some (.int .i64 ((rd_T26 l0_6 x60_2).f0)) ∧ w'.cell? ⟨gb270, 1, none⟩ = some (.int .i64 ((rd_T26 l0_6 x60_2).f1)) ∧ w'.cell? ⟨gb270, 2, none⟩ = some (.int .i64 ((rd_T26 l0_6 x60_2).f2)) ∧ w'.cell? ⟨gb270, 3, none⟩ = some (.int .i64 ((rd_T26 l0_6 x60_2).f3)) ∧ w'.cell? ⟨gb270, 4, none⟩ = some (.slice A269_4 ((rd_T26 l0_6 x60_2).f4).length c269_4) ∧ w'.cell? ⟨gb270, 5, none⟩ = some (.string ((rd_T26 l0_6 x60_2).f5)) ∧ w'.cell? ⟨gb270, 6, none⟩ = some (.slice A269_6 ((rd_T26 l0_6 x60_2).f6).length c269_6) ∧ w'.cell? ⟨gb267, 0, none⟩ = some (.int .i64 a1_0) ∧ w'.cell? ⟨gb267, 1, none⟩ = some (.int .i64 a1_1) ∧ w'.cell? ⟨gb267, 2, none⟩ = some (.int .i64 a1_2) ∧ w'.cell? ⟨gb267, 3, none⟩ = some (.int .i64 a1_3) ∧ w'.cell? ⟨gb267, 4, none⟩ = some (.slice A1_4 l1_4.length c1_4) ∧ w'.cell? ⟨gb267, 5, none⟩ = some (.string a1_5) ∧ w'.cell? ⟨gb267, 6, none⟩ = some (.slice (some ad271) l1_6.length c1_6) ∧ w'.cell? (ad271.add ((x60_2).toNat * 7)) = some (.int .i64 ((rd_T26 l1_6 x60_2).f0)) ∧ w'.cell? ⟨(ad271.add ((x60_2).toNat * 7)).block, (ad271.add ((x60_2).toNat * 7)).off + 1, none⟩ = some (.int .i64 ((rd_T26 l1_6 x60_2).f1)) ∧ w'.cell? ⟨(ad271.add ((x60_2).toNat * 7)).block, (ad271.add ((x60_2).toNat * 7)).off + 2, none⟩ = some (.int .i64 ((rd_T26 l1_6 x60_2).f2)) ∧ w'.cell? ⟨(ad271.add ((x60_2).toNat * 7)).block, (ad271.add ((x60_2).toNat * 7)).off + 3, none⟩ = some (.int .i64 ((rd_T26 l1_6 x60_2).f3)) ∧ w'.cell? ⟨(ad271.add ((x60_2).toNat * 7)).block, (ad271.add ((x60_2).toNat * 7)).off + 4, none⟩ = some (.slice A271_4 ((rd_T26 l1_6 x60_2).f4).length c271_4) ∧ w'.cell? ⟨(ad271.add ((x60_2).toNat * 7)).block, (ad271.add ((x60_2).toNat * 7)).off + 5, none⟩ = some (.string ((rd_T26 l1_6 x60_2).f5)) ∧ w'.cell? ⟨(ad271.add ((x60_2).toNat * 7)).block, (ad271.add ((x60_2).toNat * 7)).off + 6, none⟩ = some (.slice A271_6 ((rd_T26 l1_6 x60_2).f6).length c271_6)) (ds := []) #[false, false, false, false, false, false, false, false] (by kernel_rfl) rfl rfl ⟨(blk_cell BK270.out 0).trans rfl, (blk_cell BK270.out 1).trans rfl, (blk_cell BK270.out 2).trans rfl, (blk_cell BK270.out 3).trans rfl, (blk_cell BK270.out 4).trans rfl, (blk_cell BK270.out 5).trans rfl, (blk_cell BK270.out 6).trans rfl, (blk_cell BK267.out 0).trans rfl, (blk_cell BK267.out 1).trans rfl, (blk_cell BK267.out 2).trans rfl, (blk_cell BK267.out 3).trans rfl, (blk_cell BK267.out 4).trans rfl, (blk_cell BK267.out 5).trans rfl, (blk_cell BK267.out 6).trans rfl, ((HB.out.cell (qB w _ hw271_0)).trans hw271_0), ((HB.out.cell (qB w _ hw271_1)).trans hw271_1), ((HB.out.cell (qB w _ hw271_2)).trans hw271_2), ((HB.out.cell (qB w _ hw271_3)).trans hw271_3), ((HB.out.cell (qB w _ hw271_4)).trans hw271_4), ((HB.out.cell (qB w _ hw271_5)).trans hw271_5), ((HB.out.cell (qB w _ hw271_6)).trans hw271_6)⟩ (fun hHeld => ?_); refine with_tabW cst_Same.tab6 cst_Same.bits6 (fun HT_ HW_ => ?_)
           (generalize w55.drew = w56 at BK266 BK267 BK270 HB HR271_4 HR271_6 hx271_0 hx271_1 hx271_2 hx271_3 hx271_4 hx271_5 hx271_6 hHeld ⊢); (refine pure_ (i := 1) (N := some 66) (v := ?_) (a' := ?_) #[false, true, false, false, false, false, false, false] rfl rfl (any_of HT_.out (by kernel_rfl)) (fun _ _ _ h => h) (Or.inl ⟨by rfl, ?_⟩) ?_ ?_); rotate_left; ((intro w'; go_simp; with_reducible rfl)); rotate_left; ((simp only [Act.put, List.setIfInBounds_toArray, List.set_cons_zero, List.set_cons_succ, i64_w, i32_w]; rfl)); (refine pure_ (i := 3) (N := some 68) (v := ?_) (a' := ?_) #[false, true, false, true, false, false, false, false] rfl rfl (any_of HT_.out (by kernel_rfl)) (fun _ _ _ h => h) (Or.inl ⟨by rfl, ?_⟩) ?_ ?_); rotate_left; ((intro w'; go_simp; with_reducible rfl)); rotate_left; ((simp only [Act.put, List.setIfInBounds_toArray, List.set_cons_zero, List.set_cons_succ, i64_w, i32_w]; rfl)); (refine take_ (i := 0) (N := some 65) (v := ?_) (a' := ?_) #[true, true, false, true, false, false, false, false] rfl rfl (take_ofW HT_.out HW_.out (by kernel_rfl)) (fun _ _ _ h => h) (Or.inl ⟨by rfl, ?_⟩) hHeld ?_ ?_); rotate_left
           ·rintro w' ⟨s0, s1, s2, s3, s4, s5, s6, s7, s8, s9, s10, s11, s12, s13, s14, s15, s16, s17, s18, s19, s20⟩
            (go_simp); (with_reducible rfl)
           rotate_left; ((simp only [Act.put, List.setIfInBounds_toArray, List.set_cons_zero, List.set_cons_succ, i64_w, i32_w]; rfl)); (refine take_ (i := 2) (N := some 67) (v := ?_) (a' := ?_) #[true, true, true, true, false, false, false, false] rfl rfl (take_ofW HT_.out HW_.out (by kernel_rfl)) (fun _ _ _ h => h) (Or.inl ⟨by rfl, ?_⟩) hHeld ?_ ?_); rotate_left
           ·rintro w' ⟨s0, s1, s2, s3, s4, s5, s6, s7, s8, s9, s10, s11, s12, s13, s14, s15, s16, s17, s18, s19, s20⟩
            (go_simp); (with_reducible rfl)
           rotate_left; ((simp only [Act.put, List.setIfInBounds_toArray, List.set_cons_zero, List.set_cons_succ, i64_w, i32_w]; rfl)); (refine pure_ (i := 4) (N := some 69) (v := ?_) (a' := ?_) #[true, true, true, true, true, false, false, false] rfl rfl (any_of HT_.out (by kernel_rfl)) (fun _ _ _ h => h) (Or.inl ⟨by rfl, ?_⟩) ?_ ?_); rotate_left; ((intro w'; go_simp; with_reducible rfl)); rotate_left; ((simp only [Act.put, List.setIfInBounds_toArray, List.set_cons_zero, List.set_cons_succ, i64_w, i32_w]; rfl)); (refine take_ (i := 5) (N := some 70) (v := ?_) (a' := ?_) #[true, true, true, true, true, true, false, false] rfl rfl (take_ofW HT_.out HW_.out (by kernel_rfl)) (fun _ _ _ h => h) (Or.inl ⟨by rfl, ?_⟩) hHeld ?_ ?_); rotate_left
           ·rintro w' ⟨s0, s1, s2, s3, s4, s5, s6, s7, s8, s9, s10, s11, s12, s13, s14, s15, s16, s17, s18, s19, s20⟩
            (go_simp); (with_reducible rfl)
           rotate_left; ((simp only [Act.put, List.setIfInBounds_toArray, List.set_cons_zero, List.set_cons_succ, i64_w, i32_w]; rfl)); (refine one_ (i := 6) (N := some 71) #[true, true, true, true, true, true, true, false] rfl rfl (one_of HT_.out (by kernel_rfl)) (by decide) (fun K hK => ?_))
           refine goes_ Tryd.func21 (by kernel_rfl) rfl #[.agg #[.int .i64 ((rd_T26 l0_6 x60_2).f0), .int .i64 ((rd_T26 l0_6 x60_2).f1), .int .i64 ((rd_T26 l0_6 x60_2).f2), .int .i64 ((rd_T26 l0_6 x60_2).f3), .slice A269_4 ((rd_T26 l0_6 x60_2).f4).length c269_4, .string ((rd_T26 l0_6 x60_2).f5), .slice A269_6 ((rd_T26 l0_6 x60_2).f6).length c269_6], .agg #[.int .i64 ((rd_T26 l1_6 x60_2).f0), .int .i64 ((rd_T26 l1_6 x60_2).f1), .int .i64 ((rd_T26 l1_6 x60_2).f2), .int .i64 ((rd_T26 l1_6 x60_2).f3), .slice A271_4 ((rd_T26 l1_6 x60_2).f4).length c271_4, .string ((rd_T26 l1_6 x60_2).f5), .slice A271_6 ((rd_T26 l1_6 x60_2).f6).length c271_6]] (by rfl) rfl rfl (by (try simp only [List.map_toArray, List.map_cons, List.map_nil]); first | done | rfl | (simp only [List.length_drop, List.length_take]; rfl)) ?_
           (with_reducible refine (ih k2 (by have := HJ2.out; have := HK2.out; omega) ((rd_T26 l0_6 x60_2).f0) ((rd_T26 l0_6 x60_2).f1) ((rd_T26 l0_6 x60_2).f2) ((rd_T26 l0_6 x60_2).f3) _ _ ((rd_T26 l0_6 x60_2).f4) ((rd_T26 l0_6 x60_2).f5) _ _ ((rd_T26 l0_6 x60_2).f6) ((rd_T26 l1_6 x60_2).f0) ((rd_T26 l1_6 x60_2).f1) ((rd_T26 l1_6 x60_2).f2) ((rd_T26 l1_6 x60_2).f3) _ _ ((rd_T26 l1_6 x60_2).f4) ((rd_T26 l1_6 x60_2).f5) _ _ ((rd_T26 l1_6 x60_2).f6) false _ ?side1 ?side2 ?side3 ?side4 ?side5 ?side6 ?side7 ?side8 A42.out).mono ?_); ((case side1 => exact qC HR269_4.out qF)); ((case side2 => exact HC269_4.out)); ((case side3 => exact qC HR269_6.out qF)); ((case side4 => exact HC269_6.out)); ((case side5 => exact qC HR271_4.out qF)); ((case side6 => exact HC271_4.out)); ((case side7 => exact qC HR271_6.out qF)); ((case side8 => exact HC271_6.out)); (rintro e w57 ⟨rfl, hb⟩); (refine ⟨_, rfl, ?_⟩); (have n0_ := qM (qb (g := gb266) qK hb)); (have n1_ := qM (qb (g := gb267) qK hb)); (have n2_ := qM (qb (g := gb270) qK hb))
           (have n3_ := qM (qP qF hb)); clear BK266 BK267 BK270 HB; (have BK266 := n0_); (have BK267 := n1_); (have BK270 := n2_); (have HB := n3_); clear n0_ n1_ n2_ n3_; ((try clear hb)); ((try clear hb2)); ((try clear hk)); ((try clear hi))
           refine hK.out _ _ ⟨(blk_cell BK270.out 0).trans rfl, (blk_cell BK270.out 1).trans rfl, (blk_cell BK270.out 2).trans rfl, (blk_cell BK270.out 3).trans rfl, (blk_cell BK270.out 4).trans rfl, (blk_cell BK270.out 5).trans rfl, (blk_cell BK270.out 6).trans rfl, (blk_cell BK267.out 0).trans rfl, (blk_cell BK267.out 1).trans rfl, (blk_cell BK267.out 2).trans rfl, (blk_cell BK267.out 3).trans rfl, (blk_cell BK267.out 4).trans rfl, (blk_cell BK267.out 5).trans rfl, (blk_cell BK267.out 6).trans rfl, ((HB.out.cell (qB w _ hw271_0)).trans hw271_0), ((HB.out.cell (qB w _ hw271_1)).trans hw271_1), ((HB.out.cell (qB w _ hw271_2)).trans hw271_2), ((HB.out.cell (qB w _ hw271_3)).trans hw271_3), ((HB.out.cell (qB w _ hw271_4)).trans hw271_4), ((HB.out.cell (qB w _ hw271_5)).trans hw271_5), ((HB.out.cell (qB w _ hw271_6)).trans hw271_6)⟩ (fun hHeld => ?_)
           clear hK K; (refine norm_ (a' := ?_) ?_ ?_); rotate_left; ((show Act.put _ (some 71) _ = _; simp only [Act.put, List.setIfInBounds_toArray, List.set_cons_zero, List.set_cons_succ, i64_w, i32_w]; rfl)); (refine pure_ (i := 7) (N := some 72) (v := ?_) (a' := ?_) #[true, true, true, true, true, true, true, true] rfl rfl (any_of HT_.out (by kernel_rfl)) (fun _ _ _ h => h) (Or.inl ⟨by rfl, ?_⟩) ?_ ?_); rotate_left; ((intro w'; go_simp; with_reducible rfl)); rotate_left; ((simp only [Act.put, List.setIfInBounds_toArray, List.set_cons_zero, List.set_cons_succ, i64_w, i32_w]; rfl)); (refine done_ (done_of HT_.out (by kernel_rfl)) ?_); (try go_wp2); (go_ret); (exact ⟨qE, qF⟩)
         ·rw [if_neg c41] at H
          exact absurd H (by simp)
        ·rw [if_neg c40] at H
         exact absurd H (by simp)
       ·rw [if_neg c39] at H
        exact absurd H (by simp)
      ·rw [if_neg c38] at H
       (have c38b0 : decide (x60_2 < (l0_6.length : Int)) = false := decide_eq_false c38); clear c38; (obtain rfl := Option.some.inj H); go_wp2; (go_ret); (exact ⟨qE, qF⟩)
attribute [local go_sem high] eqA46


end Go.Proofs.YtphmgaijkdflnaaDoor.H
end
section
namespace Go.Proofs.YtphmgaijkdflnaaDoor.H
open Go.RowKit Go.Proofs.YtphmgaijkdflnaaDoorW.PrintWords Go.Proofs.YtphmgaijkdflnaaDoorW.PrintLast Go.Proofs.YtphmgaijkdflnaaDoorW.PrintMore
open Go.WideMaps Go.Maps
set_option linter.unusedVariables false
set_option linter.unusedSimpArgs false
def grammar_twice.ok (l0 : List ByteArray) : Bool := l0.all (fun s => decide (s.size ≤ 140737488351232)) && decide (l0.length ≤ 17592186044416)
def grammar_twice.f (l0 : List ByteArray) : Option (Bool) := if grammar_twice.ok l0 = true then some (!decide l0.Nodup) else none
def grammar_twice.Rel {H : Type} (l : List ByteArray) (D : DataW H) (k : Nat) : Prop :=
  (∀ s : ByteArray, Maps.has D (.string s.data.toList) = decide (s ∈ l.take k)) ∧ Maps.size D ≤ k ∧ (Maps.size D < k ↔ ¬ (l.take k).Nodup)
theorem grammar_twice.rel_zero {H : Type} (l : List ByteArray) : grammar_twice.Rel (H := H) l (.map []) 0 :=
  ⟨fun s => by simp [Maps.has_eq], by simp [Maps.size_eq], by simp [Maps.size_eq]⟩
theorem nodup_snoc {l : List ByteArray} {x : ByteArray} : (l ++ [x]).Nodup ↔ l.Nodup ∧ x ∉ l := by
  simp only [List.nodup_append, List.mem_singleton, forall_eq]
  constructor
  · intro h; exact ⟨h.1, fun hx => h.2.2 x hx rfl⟩
  · intro h; exact ⟨h.1, by simp, fun a ha e => h.2 (e ▸ ha)⟩
theorem grammar_twice.rel_step {H : Type} (l : List ByteArray) (D : DataW H) (k : Nat) (h : k < l.length) (ht : Maps.Tidy D) (d : DataW H) (R : grammar_twice.Rel l D k) :
    grammar_twice.Rel l (D.put (.string (rdOf ByteArray.empty l k).data.toList) d) (k + 1) := by
  obtain ⟨h1, h2, h3⟩ := R
  have hs := take_rd ByteArray.empty l k h
  generalize hx : rdOf ByteArray.empty l k = x at *
  have hk : WideAt.IsKeyLit (.string x.data.toList) := trivial
  have hsz := Maps.size_put (k := .string x.data.toList) ht d
  rw [h1 x] at hsz
  refine ⟨fun s => ?_, ?_, ?_⟩
  · by_cases e : s = x
    · subst e
      rw [Maps.has_put_same ht.isMap hk]
      simp [hs]
    · rw [Maps.has_put_other (lit_ne e), h1 s, hs]
      simp [e]
  · rw [hsz]; split <;> omega
  · rw [hsz, hs, nodup_snoc]
    by_cases e : x ∈ l.take k
    · simp [e]; omega
    · simp only [e, decide_false, Bool.false_eq_true, if_false, not_false_eq_true, and_true]
      rw [← h3]; omega
set_option maxHeartbeats 1000000 in
set_option maxRecDepth 100000 in
theorem grammar_twice.calls (A0 : Option Addr) (c0 : Nat) (l0 : List ByteArray) (r : Bool) (w : World) (hr0 : Kd.C Kd.string w A0 l0.length l0) (hc0 : l0.length ≤ c0) (h : grammar_twice.f l0 = some r) :
    Calls Tryd.prog 52 #[.slice A0 l0.length c0] w fun e w' => e = .returned (.bool r) ∧ Below w.heap.size w w' := by
  unfold grammar_twice.f at h
  split at h
  case isFalse => cases h
  rename_i hok
  obtain rfl := Option.some.inj h
  simp only [grammar_twice.ok, Bool.and_eq_true, List.all_eq_true, decide_eq_true_eq] at hok
  obtain ⟨hsz, hlen⟩ := hok
  have HSZ := Aside0.mk hsz
  have HR := Aside0.mk hr0
  clear h hsz hr0
  have hmm := @run_makeMap Tryd.prog
  go_enter Tryd.func52, Tryd.ntmps52
  go_wp2
  go_loopw [9] (fun i wr => ∃ k : Nat, k ≤ l0.length ∧ i = .int .i64 k ∧ (∃ D : DataW Unit, Aside0 (wr.ownsMap Tryd.prog 9 (plainElem Tryd.prog 3) w.heap.size k D) ∧ Aside0 (grammar_twice.Rel l0 D k)) ∧ Aside0 (Below w.heap.size w wr))
    (fun i _ => l0.length - (intOf i).toNat)
  case atStart => exact ⟨0, Nat.zero_le _, rfl, ⟨.map [], ⟨World.ownsMap_made _ _ _ _⟩, ⟨grammar_twice.rel_zero l0⟩⟩, ⟨(Below.refl _ _).alloc (Nat.le_refl _) _⟩⟩
  case round =>
    obtain ⟨k, hk, rfl, ⟨D, HO, HD⟩, HB⟩ := hrel
    by_cases hlt : k < l0.length
    · obtain ⟨ad, e0, hcell⟩ := at_string_nat HR.out k hlt
      cases e0
      replace hcell := (HB.out.cell (World.block_lt_of_cell? w _ hcell)).trans hcell
      have HS : Aside0 ((rdOf ByteArray.empty l0 (k : Int)).size ≤ 140737488351232) := ⟨HSZ.out _ (by rw [rdOf_nat _ _ _ hlt]; exact List.getElem_mem hlt)⟩
      have HN := Aside0.mk (grammar_twice.rel_step l0 D k hlt (HO.out.tidy law_string))
      obtain ⟨s, hs⟩ : ∃ s, s = rdOf ByteArray.empty l0 (k : Int) := ⟨_, rfl⟩
      rw [← hs] at hcell HS HN
      clear hs
      have hsl : s.size ≤ maxLen := by have := HS.out; unfold maxLen; omega
      go_wp2_with (first
        | (at_lookup; refine wpList_lookup_own_int _ rfl _ _ 94 rfl 9 3 .i64 law_string Tryd.underlying94 Tryd.underlying3 (zero_int _) w.heap.size k _ rfl HO.out _ _ rfl (keyOf_string_mk Tryd.underlying9 hsl) ?_; intro c hat hwc)
        | (at_mapUpdate; refine wpList_mapUpdate_own _ rfl _ _ _ 94 rfl 9 3 law_string Tryd.underlying94 _ w.heap.size k _ rfl HO.out (by unfold maxLen; omega) _ _ _ rfl rfl (keyOf_string_mk Tryd.underlying9 hsl) _ [] (plainElem_int Tryd.underlying3 (wrap64_wf _)) ?_; intro w1 hown1 hgrow1))
      have R1 := Aside0.mk hown1
      have R2 := Aside0.mk (HB.out.grown hgrow1 HB.out.size (fun j hj => by cases hj; exact Nat.le_refl _))
      clear hown1 hgrow1 hat hwc hcell
      go_wp2
      go_roundw
      case rel => exact ⟨k + 1, by omega, by go_num, ⟨_, R1, ⟨HN.out _ HD.out⟩⟩, R2⟩
      case measure => simp [intOf]; omega
    · have hke : k = l0.length := by omega
      have HZ := Aside0.mk HD.out.2
      go_wp2_with (at_len; refine wpList_len_own _ rfl _ 94 rfl 9 3 Tryd.underlying94 _ w.heap.size k _ rfl HO.out ?_)
      go_ret
      refine ⟨?_, HB.out⟩
      rw [hke, List.take_of_length_le (Nat.le_refl _)] at HZ
      have := HZ.out.2
      refine congrArg Ending.returned (congrArg Value.bool (?_ : decide (Maps.size D < l0.length) = !decide l0.Nodup))
      by_cases hn : l0.Nodup
      · simp [hn, this]
      · simp [hn, this]
end Go.Proofs.YtphmgaijkdflnaaDoor.H
end
section
namespace Go.Proofs.YtphmgaijkdflnaaDoor.H
open Go.RowKit Go.Proofs.YtphmgaijkdflnaaDoorW.PrintWords Go.Proofs.YtphmgaijkdflnaaDoorW.PrintLast Go.Proofs.YtphmgaijkdflnaaDoorW.PrintMore
attribute [local go_sem] max2_int min2_int max_two min_two max_three min_three max_four min_four
set_option linter.unusedVariables false
set_option linter.unusedSimpArgs false
def grammar_counts_1.f (a0 : Int) : Option (Bool) := if a0 < 0 then (some true) else (some (decide (a0 > 5)))
set_option maxHeartbeats 8000000 in
set_option maxRecDepth 100000 in
theorem grammar_counts_1.calls (a0 : Int) (r : Bool) (w : World) (h : grammar_counts_1.f a0 = some r) :
  Calls Tryd.prog 74 #[.int .i64 a0] w fun e w' => e = .returned (.bool r) ∧ Drawn0 w w' := by
 (have H : (if a0 < 0 then (some true) else (some (decide (a0 > 5)))) = some r := h); clear h; (by_cases c2 : a0 < 0)
 ·rw [if_pos c2] at H
  (have c2b0 : decide (a0 < 0) = true := decide_eq_true c2); clear c2; (obtain rfl := Option.some.inj H); (go_enter Tryd.func74, Tryd.ntmps74); go_wp2; (go_ret); (exact ⟨qV, by repeat (first | exact Drawn0.refl _ | apply Drawn0.step)⟩)
 ·rw [if_neg c2] at H
  (have c2b0 : decide (a0 < 0) = false := decide_eq_false c2); clear c2; (obtain rfl := Option.some.inj H); (go_enter Tryd.func74, Tryd.ntmps74); go_wp2; (go_ret); (exact ⟨qV, by repeat (first | exact Drawn0.refl _ | apply Drawn0.step)⟩)
def slices_IndexFunc_grammar_counts_1.l0 : Nat → List Int → Int → Int → Option (Int)
 | 0, _, _, _ => none
 | k + 1, x0, x7, x8 => if x8 < x7 then (if 0 ≤ x8 then (if x8 < (x0.length : Int) then ((grammar_counts_1.f (rd x0 x8)).bind fun t148 => (if t148 = true then (some x8) else (slices_IndexFunc_grammar_counts_1.l0 k x0 x7 (wrap64 (x8 + 1))))) else (none)) else (none)) else (some (-1))
def slices_IndexFunc_grammar_counts_1.f (k : Nat) (l0 : List Int)  : Option (Int) := slices_IndexFunc_grammar_counts_1.l0 k l0 (l0.length : Int) 0
theorem slices_IndexFunc_grammar_counts_1.mono_l : ∀ k, (∀ y0 y1 y2, LeO (slices_IndexFunc_grammar_counts_1.l0 k y0 y1 y2) (slices_IndexFunc_grammar_counts_1.l0 (k + 1) y0 y1 y2))
 | 0 => fun _ _ _ r h => by simp [slices_IndexFunc_grammar_counts_1.l0] at h
 | k + 1 => by
  have ih0 := slices_IndexFunc_grammar_counts_1.mono_l k
  ·intro y0 y1 y2
   unfold slices_IndexFunc_grammar_counts_1.l0
   repeat' first
   | (with_reducible exact ih0 _ _ _)
   | (with_reducible exact LeO.refl _)
   | (with_reducible exact LeO.none _)
   | (with_reducible refine LeO.ite ?_ ?_)
   | (with_reducible refine LeO.bind ?_ (fun _ => ?_))
   | exact ih0 _ _ _
   | exact LeO.none _
   | refine LeO.ite ?_ ?_
   | refine LeO.bind ?_ (fun _ => ?_)
theorem slices_IndexFunc_grammar_counts_1.mono : ∀ a0 k, LeO (slices_IndexFunc_grammar_counts_1.f k a0) (slices_IndexFunc_grammar_counts_1.f (k + 1) a0) := by
 (intro a0 k); (have ih0 := slices_IndexFunc_grammar_counts_1.mono_l k); (unfold slices_IndexFunc_grammar_counts_1.f)
 repeat' first
   | (with_reducible exact ih0 _ _ _)
   | (with_reducible exact LeO.refl _)
   | (with_reducible exact LeO.none _)
   | (with_reducible refine LeO.ite ?_ ?_)
   | (with_reducible refine LeO.bind ?_ (fun _ => ?_))
   | exact ih0 _ _ _
   | exact LeO.none _
   | refine LeO.ite ?_ ?_
   | refine LeO.bind ?_ (fun _ => ?_)
set_option maxHeartbeats 8000000 in
set_option maxRecDepth 100000 in
theorem slices_IndexFunc_grammar_counts_1.calls (k : Nat) (A0 : Option Addr) (c0 : Nat) (l0 : List Int)   (r : Int) (w : World) (hr0 : Kd.C (Kd.int .i64) w A0 l0.length l0) (hc0 : l0.length ≤ c0) (h : slices_IndexFunc_grammar_counts_1.f k l0 = some r) :
  Calls Tryd.prog 83 #[.slice A0 l0.length c0, .func (.func 74) #[] #[]] w fun e w' => e = .returned (.int .i64 r) ∧ Drawn0 w w' := by
 (have HR0 := qM hr0); (have HC0 := qM hc0); clear hr0 hc0; (have H : (slices_IndexFunc_grammar_counts_1.l0 k l0 (l0.length : Int) 0) = some r := h); clear h; (have H' := qM H); clear H; (go_enter Tryd.func83, Tryd.ntmps83); go_wp2; (go_loopg [8] k (fun kq v8 w' => ∃ (x8_1 : Int), v8 = .int .i64 x8_1 ∧ Aside0 (slices_IndexFunc_grammar_counts_1.l0 kq l0 (l0.length : Int) x8_1 = some r) ∧ Aside0 (kq ≤ k) ∧ Drawn0 w w'))
 case atStart => exact ⟨(0), qV, H', ⟨Nat.le_refl _⟩, by repeat (first | exact Drawn0.refl _ | apply Drawn0.step)⟩
 case round =>
  (clear H'); (try clear p2); (obtain ⟨x8_1, rfl, HA, HK1, ⟨m1, rfl⟩⟩ := hrel)
  cases gk with
  | zero => exact absurd HA.out (by simp [slices_IndexFunc_grammar_counts_1.l0])
  | succ k1 =>
   (have H := HA.out); clear HA; (simp only [slices_IndexFunc_grammar_counts_1.l0] at H); (by_cases c3 : x8_1 < (l0.length : Int))
   ·rw [if_pos c3] at H
    (have c3b0 : decide (x8_1 < (l0.length : Int)) = true := decide_eq_true c3); clear c3; (by_cases c4 : 0 ≤ x8_1)
    ·rw [if_pos c4] at H
     (have c4b0 : decide (0 ≤ x8_1) = true := decide_eq_true c4); clear c4; (by_cases c5 : x8_1 < (l0.length : Int))
     ·rw [if_pos c5] at H
      (have c5b0 : decide (x8_1 < (l0.length : Int)) = true := decide_eq_true c5); clear c5; (replace H := Option.bind_eq_some_iff.mp H); (obtain ⟨t148, A60, H⟩ := H); (replace H : (if t148 = true then (some x8_1) else (slices_IndexFunc_grammar_counts_1.l0 k1 l0 (l0.length : Int) (wrap64 (x8_1 + 1)))) = some r := H); (have A6 := qM A60); clear A60; (by_cases c7 : t148 = true)
      ·subst c7
       (have H1 : (some x8_1) = some r := by rw [if_pos rfl] at H; exact H); clear H; (have H := H1); clear H1; (obtain rfl := Option.some.inj H); (have p147 : 0 ≤ (x8_1 : Int) := qo qX); (have q147 : x8_1 < (l0.length : Int) := qo qX); (obtain ⟨ad147, e147, hx147_0⟩ := Kd.at_int HR0.out x8_1 p147 q147)
       cases e147
       (replace p147 := eq_true p147); (replace q147 := eq_true q147); (go_wp2_with (first | (go_at_call 74; (with_reducible refine (grammar_counts_1.calls (rd l0 x8_1) true _ A6.out).mono ?_); rintro e w' ⟨rfl, ⟨nd, rfl⟩⟩))); (go_ret); (exact ⟨qV, by repeat (first | exact Drawn0.refl _ | apply Drawn0.step)⟩)
      ·replace c7 := Bool.eq_false_iff.mpr c7
       subst c7; (have H1 : (slices_IndexFunc_grammar_counts_1.l0 k1 l0 (l0.length : Int) (wrap64 (x8_1 + 1))) = some r := by rw [if_neg (show ¬ (false = true) by decide)] at H; exact H); clear H; (have H := H1); clear H1; (have H' := qM H); clear H; (have p147 : 0 ≤ (x8_1 : Int) := qo qX); (have q147 : x8_1 < (l0.length : Int) := qo qX); (obtain ⟨ad147, e147, hx147_0⟩ := Kd.at_int HR0.out x8_1 p147 q147)
       cases e147
       (replace p147 := eq_true p147); (replace q147 := eq_true q147); (go_wp2_with (first | (go_at_call 74; (with_reducible refine (grammar_counts_1.calls (rd l0 x8_1) false _ A6.out).mono ?_); rintro e w' ⟨rfl, ⟨nd, rfl⟩⟩))); (go_roundg k1)
       case measure => have := HK1.out; omega
       case rel => exact ⟨(wrap64 (x8_1 + 1)), qV, H', ⟨by have := HK1.out; omega⟩, by repeat (first | exact Drawn0.refl _ | apply Drawn0.step)⟩
     ·rw [if_neg c5] at H
      exact absurd H (by simp)
    ·rw [if_neg c4] at H
     exact absurd H (by simp)
   ·rw [if_neg c3] at H
    (have c3b0 : decide (x8_1 < (l0.length : Int)) = false := decide_eq_false c3); clear c3; (obtain rfl := Option.some.inj H); go_wp2; (go_ret); (exact ⟨qV, by repeat (first | exact Drawn0.refl _ | apply Drawn0.step)⟩)
def slices_ContainsFunc_grammar_counts_1.f (k : Nat) (l0 : List Int)  : Option (Bool) := (slices_IndexFunc_grammar_counts_1.f k l0).bind fun t149 => (some (decide (t149 ≥ 0)))
theorem slices_ContainsFunc_grammar_counts_1.mono : ∀ a0 k, LeO (slices_ContainsFunc_grammar_counts_1.f k a0) (slices_ContainsFunc_grammar_counts_1.f (k + 1) a0) := by
 (intro a0 k); (unfold slices_ContainsFunc_grammar_counts_1.f)
 repeat' first
   | (with_reducible exact slices_IndexFunc_grammar_counts_1.mono _ _)
   | (with_reducible exact LeO.refl _)
   | (with_reducible exact LeO.none _)
   | (with_reducible refine LeO.ite ?_ ?_)
   | (with_reducible refine LeO.bind ?_ (fun _ => ?_))
   | exact slices_IndexFunc_grammar_counts_1.mono _ _
   | exact LeO.none _
   | refine LeO.ite ?_ ?_
   | refine LeO.bind ?_ (fun _ => ?_)
set_option maxHeartbeats 8000000 in
set_option maxRecDepth 100000 in
theorem slices_ContainsFunc_grammar_counts_1.calls (k : Nat) (A0 : Option Addr) (c0 : Nat) (l0 : List Int)   (r : Bool) (w : World) (hr0 : Kd.C (Kd.int .i64) w A0 l0.length l0) (hc0 : l0.length ≤ c0) (h : slices_ContainsFunc_grammar_counts_1.f k l0 = some r) :
  Calls Tryd.prog 73 #[.slice A0 l0.length c0, .func (.func 74) #[] #[]] w fun e w' => e = .returned (.bool r) ∧ Drawn0 w w' := by
 (have HR0 := qM hr0); (have HC0 := qM hc0); clear hr0 hc0; (have H : ((slices_IndexFunc_grammar_counts_1.f k l0).bind fun t149 => (some (decide (t149 ≥ 0)))) = some r := h); clear h; (replace H := Option.bind_eq_some_iff.mp H); (obtain ⟨t149, A30, H⟩ := H); (replace H : (some (decide (t149 ≥ 0))) = some r := H); (have A3 := qM A30); clear A30; (obtain rfl := Option.some.inj H); (go_enter Tryd.func73, Tryd.ntmps73)
 go_wp2_with (first | ((with_reducible refine gate_callee (f := 83) rfl ?_); refine goesL_ (some 7) rfl rfl Tryd.func83 (by kernel_rfl) rfl #[.slice A0 l0.length c0, .func (.func 74) #[] #[]] rfl (by (try simp only [List.map_toArray, List.map_cons, List.map_nil]); first | done | rfl | (simp only [List.length_drop, List.length_take]; rfl)) ?_; (with_reducible refine (slices_IndexFunc_grammar_counts_1.calls k _ _ l0  t149 _ ?side1 ?side2 A3.out).mono ?_); (case side1 => repeat (first | exact HR0.out | (with_reducible refine Kd.C_alloc ?_ _) | (with_reducible refine Kd.C_drewN ?_ _) | (with_reducible refine Kd.C_drew ?_))); (case side2 => exact HC0.out); rintro e w' ⟨rfl, ⟨nd, rfl⟩⟩; refine ⟨_, rfl, ?_⟩))
 (go_ret); (exact ⟨qV, by repeat (first | exact Drawn0.refl _ | apply Drawn0.step)⟩)
def grammar_within.f (a0 : Int) (a1 : Int) (a2 : Int) : Option (Bool) := if a0 ≥ a1 then (some (decide (a0 ≤ a2))) else (some false)
set_option maxHeartbeats 8000000 in
set_option maxRecDepth 100000 in
theorem grammar_within.calls (a0 : Int) (a1 : Int) (a2 : Int) (r : Bool) (w : World) (h : grammar_within.f a0 a1 a2 = some r) :
  Calls Tryd.prog 55 #[.int .i64 a0, .int .i64 a1, .int .i64 a2] w fun e w' => e = .returned (.bool r) ∧ Drawn0 w w' := by
 (have H : (if a0 ≥ a1 then (some (decide (a0 ≤ a2))) else (some false)) = some r := h); clear h; (by_cases c4 : a0 ≥ a1)
 ·rw [if_pos c4] at H
  (have c4b0 : decide (a1 ≤ a0) = true := decide_eq_true c4); clear c4; (obtain rfl := Option.some.inj H); (go_enter Tryd.func55, Tryd.ntmps55); go_wp2; (go_ret); (exact ⟨qV, by repeat (first | exact Drawn0.refl _ | apply Drawn0.step)⟩)
 ·rw [if_neg c4] at H
  (have c4b0 : decide (a1 ≤ a0) = false := decide_eq_false c4); clear c4; (obtain rfl := Option.some.inj H); (go_enter Tryd.func55, Tryd.ntmps55); go_wp2; (go_ret); (exact ⟨qV, by repeat (first | exact Drawn0.refl _ | apply Drawn0.step)⟩)
def grammar_counts.l0 : Nat → Int → List (S58) → Int → Int → List ByteArray → List ByteArray → List Int → List (S58) → List (S61) → Option (Bool)
 | 0, _, _, _, _, _, _, _, _, _ => none
 | k + 1, x3, x7, x8, x9, x151000, x151001, x151002, x151003, x151004 => if x9 < x8 then (if 0 ≤ x9 then (if x9 < (x7.length : Int) then (grammar_counts.l0 k (wrap64 (x3 + (((rd_T58 x7 x9).f1).length : Int))) x7 x8 (wrap64 (x9 + 1)) x151000 x151001 x151002 x151003 x151004) else (none)) else (none)) else ((grammar_within.f (x151000.length : Int) 2 256).bind fun t153 => (if t153 = true then ((grammar_within.f (x151001.length : Int) 1 512).bind fun t154 => (if t154 = true then (if (x151002.length : Int) = (x151001.length : Int) then ((slices_ContainsFunc_grammar_counts_1.f k x151002).bind fun t155 => (if t155 = true then (some false) else ((grammar_within.f (x151003.length : Int) 1 1024).bind fun t156 => (if t156 = true then (if (x151004.length : Int) ≤ 32 then (some (decide (x3 ≤ 8192))) else (some false)) else (some false))))) else (some false)) else (some false))) else (some false)))
def grammar_counts.f (k : Nat) (l0_0 : List ByteArray) (l0_1 : List ByteArray) (l0_2 : List Int) (l0_3 : List (S58)) (l0_4 : List (S61)) : Option (Bool) := grammar_counts.l0 k 0 l0_3 (l0_3.length : Int) 0 l0_0 l0_1 l0_2 l0_3 l0_4
theorem grammar_counts.mono_l : ∀ k, (∀ y0 y1 y2 y3 y4 y5 y6 y7 y8, LeO (grammar_counts.l0 k y0 y1 y2 y3 y4 y5 y6 y7 y8) (grammar_counts.l0 (k + 1) y0 y1 y2 y3 y4 y5 y6 y7 y8))
 | 0 => fun _ _ _ _ _ _ _ _ _ r h => by simp [grammar_counts.l0] at h
 | k + 1 => by
  have ih0 := grammar_counts.mono_l k
  ·intro y0 y1 y2 y3 y4 y5 y6 y7 y8
   unfold grammar_counts.l0
   repeat' first
   | (with_reducible exact ih0 _ _ _ _ _ _ _ _ _)
   | (with_reducible exact slices_ContainsFunc_grammar_counts_1.mono _ _)
   | (with_reducible exact LeO.refl _)
   | (with_reducible exact LeO.none _)
   | (with_reducible refine LeO.ite ?_ ?_)
   | (with_reducible refine LeO.bind ?_ (fun _ => ?_))
   | exact ih0 _ _ _ _ _ _ _ _ _
   | exact slices_ContainsFunc_grammar_counts_1.mono _ _
   | exact LeO.none _
   | refine LeO.ite ?_ ?_
   | refine LeO.bind ?_ (fun _ => ?_)
theorem grammar_counts.mono : ∀ a0 a1 a2 a3 a4 k, LeO (grammar_counts.f k a0 a1 a2 a3 a4) (grammar_counts.f (k + 1) a0 a1 a2 a3 a4) := by
 (intro a0 a1 a2 a3 a4 k); (have ih0 := grammar_counts.mono_l k); (unfold grammar_counts.f)
 repeat' first
   | (with_reducible exact ih0 _ _ _ _ _ _ _ _ _)
   | (with_reducible exact slices_ContainsFunc_grammar_counts_1.mono _ _)
   | (with_reducible exact LeO.refl _)
   | (with_reducible exact LeO.none _)
   | (with_reducible refine LeO.ite ?_ ?_)
   | (with_reducible refine LeO.bind ?_ (fun _ => ?_))
   | exact ih0 _ _ _ _ _ _ _ _ _
   | exact slices_ContainsFunc_grammar_counts_1.mono _ _
   | exact LeO.none _
   | refine LeO.ite ?_ ?_
   | refine LeO.bind ?_ (fun _ => ?_)
set_option maxHeartbeats 8000000 in
set_option maxRecDepth 100000 in
theorem grammar_counts.calls (k : Nat) (A0_0 : Option Addr) (c0_0 : Nat) (l0_0 : List ByteArray) (A0_1 : Option Addr) (c0_1 : Nat) (l0_1 : List ByteArray) (A0_2 : Option Addr) (c0_2 : Nat) (l0_2 : List Int) (A0_3 : Option Addr) (c0_3 : Nat) (l0_3 : List (S58)) (A0_4 : Option Addr) (c0_4 : Nat) (l0_4 : List (S61)) (r : Bool) (w : World) (hr0_0 : Kd.C Kd.string w A0_0 l0_0.length l0_0) (hc0_0 : l0_0.length ≤ c0_0) (hr0_1 : Kd.C Kd.string w A0_1 l0_1.length l0_1) (hc0_1 : l0_1.length ≤ c0_1) (hr0_2 : Kd.C (Kd.int .i64) w A0_2 l0_2.length l0_2) (hc0_2 : l0_2.length ≤ c0_2) (hr0_3 : Kd.C k58 w A0_3 l0_3.length l0_3) (hc0_3 : l0_3.length ≤ c0_3) (hr0_4 : Kd.C k61 w A0_4 l0_4.length l0_4) (hc0_4 : l0_4.length ≤ c0_4) (h : grammar_counts.f k l0_0 l0_1 l0_2 l0_3 l0_4 = some r) :
  Calls Tryd.prog 51 #[.agg #[.slice A0_0 l0_0.length c0_0, .slice A0_1 l0_1.length c0_1, .slice A0_2 l0_2.length c0_2, .slice A0_3 l0_3.length c0_3, .slice A0_4 l0_4.length c0_4]] w fun e w' => e = .returned (.bool r) ∧ Below w.heap.size w w' := by
 (have hu40 := Tryd.underlying40); (have hu58 := Tryd.underlying58); (have HR0_0 := qM hr0_0); (have HC0_0 := qM hc0_0); clear hr0_0 hc0_0; (have HR0_1 := qM hr0_1); (have HC0_1 := qM hc0_1); clear hr0_1 hc0_1; (have HR0_2 := qM hr0_2); (have HC0_2 := qM hc0_2); clear hr0_2 hc0_2; (have HR0_3 := qM hr0_3); (have HC0_3 := qM hc0_3); clear hr0_3 hc0_3; (have HR0_4 := qM hr0_4); (have HC0_4 := qM hc0_4); clear hr0_4 hc0_4; (have HB := qM (Below.refl w.heap.size w)); (have H : (grammar_counts.l0 k 0 l0_3 (l0_3.length : Int) 0 l0_0 l0_1 l0_2 l0_3 l0_4) = some r := h); clear h; (have H' := qM H); clear H; (go_enter Tryd.func51, Tryd.ntmps51)
 go_wp2_with (first | ((with_reducible refine gate_dst (N := 1) rfl ?_); (try (refine gate_guard (by rfl) ?_; dsimp only)); refine box_event ?hg (N := 1) ?hd (cs := #[.slice A0_0 l0_0.length c0_0, .slice A0_1 l0_1.length c0_1, .slice A0_2 l0_2.length c0_2, .slice A0_3 l0_3.length c0_3, .slice A0_4 l0_4.length c0_4]) (t := 40) ?hr ?_; (case hd => rfl); (case hg => rfl); (case hr => first | (go_simp; done) | (go_simp; rfl)); intro gb150 hg w2 hbox hb; have n0_ := qM (qP qF hb); have n1_ := qM (hbox); have n2_ := qM ((by rw [hg]; exact (qZ qF) : w.heap.size ≤ gb150)); have n3_ := qM ((by rw [hg]; exact (qZ qF) : w.heap.size ≤ gb150)); clear HB; have HB := n0_; have BK150 := n1_; have GW150 := n2_; have GE150 := n3_; clear n0_ n1_ n2_ n3_; clear hb hbox hg; obtain ⟨hcz3_0, hcz3_1, hcz3_2, hcz3_3, hcz3_4, hfz3_0, hfz3_1, hfz3_2, hfz3_3, hfz3_4⟩ := bx5 BK150.out))
 go_loopg [3, 9] k (fun kq v3 v9 w' => ∃ (x3_1 : Int) (x9_1 : Int), v3 = .int .i64 x3_1 ∧ v9 = .int .i64 x9_1 ∧ Aside0 (grammar_counts.l0 kq x3_1 l0_3 (l0_3.length : Int) x9_1 l0_0 l0_1 l0_2 l0_3 l0_4 = some r) ∧ Aside0 (kq ≤ k) ∧ Aside0 (w'.heap[gb150]? = some (.cells #[(.slice A0_0 l0_0.length c0_0), (.slice A0_1 l0_1.length c0_1), (.slice A0_2 l0_2.length c0_2), (.slice A0_3 l0_3.length c0_3), (.slice A0_4 l0_4.length c0_4)] 40 (0, 0))) ∧ Aside0 (Below w.heap.size w w'))
 case atStart => exact ⟨(0), (0), qV, qV, H', ⟨Nat.le_refl _⟩, ⟨qK⟩, ⟨qF⟩⟩
 case round =>
  (clear H'); (try clear p2); (try clear hcz3_0 hcz3_1 hcz3_2 hcz3_3 hcz3_4); (try clear hfz3_0 hfz3_1 hfz3_2 hfz3_3 hfz3_4); (obtain ⟨x3_1, x9_1, rfl, rfl, HA, HK1, BK150, HB⟩ := hrel)
  cases gk with
  | zero => exact absurd HA.out (by simp [grammar_counts.l0])
  | succ k1 =>
   (have H := HA.out); clear HA; (simp only [grammar_counts.l0] at H); (by_cases c4 : x9_1 < (l0_3.length : Int))
   ·rw [if_pos c4] at H
    (have c4b0 : decide (x9_1 < (l0_3.length : Int)) = true := decide_eq_true c4); clear c4; (by_cases c5 : 0 ≤ x9_1)
    ·rw [if_pos c5] at H
     (have c5b0 : decide (0 ≤ x9_1) = true := decide_eq_true c5); clear c5; (by_cases c6 : x9_1 < (l0_3.length : Int))
     ·rw [if_pos c6] at H
      (have c6b0 : decide (x9_1 < (l0_3.length : Int)) = true := decide_eq_true c6); clear c6; (have H' := qM H); clear H; (have p151 : 0 ≤ (x9_1 : Int) := qo qX); (have q151 : x9_1 < (l0_3.length : Int) := qo qX); (obtain ⟨ad151, A151_1, c151_1, A151_2, c151_2, e151, hx151_0, hx151_1, hx151_2, hx151_3, hx151_4, hl151_1, hi151_1, hl151_2, hi151_2⟩ := at_T58 HR0_3.out x9_1 p151 q151)
      cases e151
      (replace hx151_0 := (HB.out.cell (qB w _ hx151_0)).trans hx151_0); (replace hx151_1 := (HB.out.cell (qB w _ hx151_1)).trans hx151_1); (replace hx151_2 := (HB.out.cell (qB w _ hx151_2)).trans hx151_2); (replace hx151_3 := (HB.out.cell (qB w _ hx151_3)).trans hx151_3); (replace hx151_4 := (HB.out.cell (qB w _ hx151_4)).trans hx151_4); (have HR151_1 := qM hi151_1); (have HC151_1 := qM hl151_1); clear hi151_1 hl151_1; (have HR151_2 := qM hi151_2); (have HC151_2 := qM hl151_2); clear hi151_2 hl151_2; (replace p151 := eq_true p151); (replace q151 := eq_true q151)
      go_wp2_with (first | ((with_reducible refine gate_dst (N := 5) rfl ?_); (try (refine gate_guard (by rfl) ?_; dsimp only)); refine box_event ?hg (N := 5) ?hd (cs := #[.int .i64 0, .slice none 0 0, .slice none 0 0, .string (⟨#[]⟩ : ByteArray), .int .i64 0]) (t := 58) ?hr ?_; (case hd => rfl); (case hg => rfl); (case hr => first | (go_simp; done) | (go_simp; rfl)); intro gb152 hg w7 hbox hb; have n0_ := qM (qb (g := gb150) qK hb); have n1_ := qM (qP qF hb); have n2_ := qM (hbox); have n3_ := qM ((by rw [hg]; exact (qZ qF) : w.heap.size ≤ gb152)); have n4_ := qM ((by rw [hg]; exact (qZ qF) : w.heap.size ≤ gb152)); have n5_ := qM ((by rw [hg]; exact Nat.ne_of_lt (ql (g := gb150) qK) : gb150 ≠ gb152)); have n6_ := qM ((by rw [hg]; exact Nat.ne_of_gt (ql (g := gb150) qK) : gb152 ≠ gb150)); clear BK150; clear HB; have BK150 := n0_; have HB := n1_; have BK152 := n2_; have GW152 := n3_; have GE152 := n4_; have NB150_152 := n5_; have NB152_150 := n6_; clear n0_ n1_ n2_ n3_ n4_ n5_ n6_; clear hb hbox hg; have hnb8 := NB152_150.out; have hnc8 := NB150_152.out; obtain ⟨hcz9_0, hcz9_1, hcz9_2, hcz9_3, hcz9_4, hfz9_0, hfz9_1, hfz9_2, hfz9_3, hfz9_4⟩ := bx5 BK152.out))
      go_roundg k1
      case measure => have := HK1.out; omega
      case rel => exact ⟨(wrap64 (x3_1 + (((rd_T58 l0_3 x9_1).f1).length : Int))), (wrap64 (x9_1 + 1)), qV, qV, H', ⟨by have := HK1.out; omega⟩, ⟨by (with_reducible repeat (first | refine qn ?_ _ | refine qd ?_ | refine qa ?_ _)); refine qf ?_ NB150_152.out _; (with_reducible repeat (first | refine qn ?_ _ | refine qd ?_ | refine qa ?_ _)); refine qf ?_ NB150_152.out _; (with_reducible repeat (first | refine qn ?_ _ | refine qd ?_ | refine qa ?_ _)); refine qf ?_ NB150_152.out _; (with_reducible repeat (first | refine qn ?_ _ | refine qd ?_ | refine qa ?_ _)); refine qf ?_ NB150_152.out _; (with_reducible repeat (first | refine qn ?_ _ | refine qd ?_ | refine qa ?_ _)); refine qf ?_ NB150_152.out _; (with_reducible repeat (first | refine qn ?_ _ | refine qd ?_ | refine qa ?_ _)); exact BK150.out⟩, ⟨qF⟩⟩
     ·rw [if_neg c6] at H
      exact absurd H (by simp)
    ·rw [if_neg c5] at H
     exact absurd H (by simp)
   ·rw [if_neg c4] at H
    (have c4b0 : decide (x9_1 < (l0_3.length : Int)) = false := decide_eq_false c4); clear c4; (replace H := Option.bind_eq_some_iff.mp H); (obtain ⟨t153, A100, H⟩ := H); (replace H : (if t153 = true then ((grammar_within.f (l0_1.length : Int) 1 512).bind fun t154 => (if t154 = true then (if (l0_2.length : Int) = (l0_1.length : Int) then ((slices_ContainsFunc_grammar_counts_1.f k1 l0_2).bind fun t155 => (if t155 = true then (some false) else ((grammar_within.f (l0_3.length : Int) 1 1024).bind fun t156 => (if t156 = true then (if (l0_4.length : Int) ≤ 32 then (some (decide (x3_1 ≤ 8192))) else (some false)) else (some false))))) else (some false)) else (some false))) else (some false)) = some r := H); (have A10 := qM A100); clear A100; (by_cases c11 : t153 = true)
    ·subst c11
     (have H1 : ((grammar_within.f (l0_1.length : Int) 1 512).bind fun t154 => (if t154 = true then (if (l0_2.length : Int) = (l0_1.length : Int) then ((slices_ContainsFunc_grammar_counts_1.f k1 l0_2).bind fun t155 => (if t155 = true then (some false) else ((grammar_within.f (l0_3.length : Int) 1 1024).bind fun t156 => (if t156 = true then (if (l0_4.length : Int) ≤ 32 then (some (decide (x3_1 ≤ 8192))) else (some false)) else (some false))))) else (some false)) else (some false))) = some r := by rw [if_pos rfl] at H; exact H); clear H; (have H := H1); clear H1; (replace H := Option.bind_eq_some_iff.mp H); (obtain ⟨t154, A120, H⟩ := H); (replace H : (if t154 = true then (if (l0_2.length : Int) = (l0_1.length : Int) then ((slices_ContainsFunc_grammar_counts_1.f k1 l0_2).bind fun t155 => (if t155 = true then (some false) else ((grammar_within.f (l0_3.length : Int) 1 1024).bind fun t156 => (if t156 = true then (if (l0_4.length : Int) ≤ 32 then (some (decide (x3_1 ≤ 8192))) else (some false)) else (some false))))) else (some false)) else (some false)) = some r := H); (have A12 := qM A120); clear A120; (by_cases c13 : t154 = true)
     ·subst c13
      (have H1 : (if (l0_2.length : Int) = (l0_1.length : Int) then ((slices_ContainsFunc_grammar_counts_1.f k1 l0_2).bind fun t155 => (if t155 = true then (some false) else ((grammar_within.f (l0_3.length : Int) 1 1024).bind fun t156 => (if t156 = true then (if (l0_4.length : Int) ≤ 32 then (some (decide (x3_1 ≤ 8192))) else (some false)) else (some false))))) else (some false)) = some r := by rw [if_pos rfl] at H; exact H); clear H; (have H := H1); clear H1; (by_cases c14 : (l0_2.length : Int) = (l0_1.length : Int))
      ·rw [if_pos c14] at H
       (have c14b0 : ((l0_2.length : Int) == (l0_1.length : Int)) = true := beq_iff_eq.mpr c14); (have c14b1 : ((l0_2.length : Int) != (l0_1.length : Int)) = false := bne_eq_false_iff_eq.mpr c14); (have c14b2 : (l0_2.length == l0_1.length) = true := by first | simpa using c14 | (simp at c14 ⊢; omega)); clear c14; (replace H := Option.bind_eq_some_iff.mp H); (obtain ⟨t155, A150, H⟩ := H); (replace H : (if t155 = true then (some false) else ((grammar_within.f (l0_3.length : Int) 1 1024).bind fun t156 => (if t156 = true then (if (l0_4.length : Int) ≤ 32 then (some (decide (x3_1 ≤ 8192))) else (some false)) else (some false)))) = some r := H); (have A15 := qM A150); clear A150; (by_cases c16 : t155 = true)
       ·subst c16
        (have H1 : (some false) = some r := by rw [if_pos rfl] at H; exact H); clear H; (have H := H1); clear H1; (obtain rfl := Option.some.inj H); (obtain ⟨hcz17_0, hcz17_1, hcz17_2, hcz17_3, hcz17_4, hfz17_0, hfz17_1, hfz17_2, hfz17_3, hfz17_4⟩ := bx5 BK150.out)
        go_wp2_with (first | ((with_reducible refine gate_callee (f := 55) rfl ?_); refine goesL_ (some 22) rfl rfl Tryd.func55 (by kernel_rfl) rfl #[.int .i64 (l0_0.length : Int), .int .i64 2, .int .i64 256] rfl (by (try simp only [List.map_toArray, List.map_cons, List.map_nil]); first | done | rfl | (simp only [List.length_drop, List.length_take]; rfl)) ?_; (with_reducible refine (grammar_within.calls (l0_0.length : Int) 2 256 true _ A10.out).mono ?_); rintro e w' ⟨rfl, ⟨nd, rfl⟩⟩; refine ⟨_, rfl, ?_⟩) | (go_at_call 55; (with_reducible refine (grammar_within.calls (l0_1.length : Int) 1 512 true _ A12.out).mono ?_); rintro e w' ⟨rfl, ⟨nd, rfl⟩⟩) | (go_at_call 73; (with_reducible refine (slices_ContainsFunc_grammar_counts_1.calls k1 _ _ l0_2  true _ ?side1 ?side2 A15.out).mono ?_); (case side1 => repeat (first | exact (Kd.C_below HR0_2.out qF) | (with_reducible refine Kd.C_alloc ?_ _) | (with_reducible refine Kd.C_drewN ?_ _) | (with_reducible refine Kd.C_drew ?_))); (case side2 => exact HC0_2.out); rintro e w' ⟨rfl, ⟨nd, rfl⟩⟩))
        (go_ret); (exact ⟨qE, qF⟩)
       ·replace c16 := Bool.eq_false_iff.mpr c16
        subst c16; (have H1 : ((grammar_within.f (l0_3.length : Int) 1 1024).bind fun t156 => (if t156 = true then (if (l0_4.length : Int) ≤ 32 then (some (decide (x3_1 ≤ 8192))) else (some false)) else (some false))) = some r := by rw [if_neg (show ¬ (false = true) by decide)] at H; exact H); clear H; (have H := H1); clear H1; (replace H := Option.bind_eq_some_iff.mp H); (obtain ⟨t156, A180, H⟩ := H); (replace H : (if t156 = true then (if (l0_4.length : Int) ≤ 32 then (some (decide (x3_1 ≤ 8192))) else (some false)) else (some false)) = some r := H); (have A18 := qM A180); clear A180; (by_cases c19 : t156 = true)
        ·subst c19
         (have H1 : (if (l0_4.length : Int) ≤ 32 then (some (decide (x3_1 ≤ 8192))) else (some false)) = some r := by rw [if_pos rfl] at H; exact H); clear H; (have H := H1); clear H1; (by_cases c20 : (l0_4.length : Int) ≤ 32)
         ·rw [if_pos c20] at H
          (have c20b0 : decide ((l0_4.length : Int) ≤ 32) = true := decide_eq_true c20); (have c20b1 : decide (l0_4.length ≤ 32) = true := decide_eq_true (by omega)); clear c20; (obtain rfl := Option.some.inj H); (obtain ⟨hcz21_0, hcz21_1, hcz21_2, hcz21_3, hcz21_4, hfz21_0, hfz21_1, hfz21_2, hfz21_3, hfz21_4⟩ := bx5 BK150.out)
          go_wp2_with (first | ((with_reducible refine gate_callee (f := 55) rfl ?_); refine goesL_ (some 22) rfl rfl Tryd.func55 (by kernel_rfl) rfl #[.int .i64 (l0_0.length : Int), .int .i64 2, .int .i64 256] rfl (by (try simp only [List.map_toArray, List.map_cons, List.map_nil]); first | done | rfl | (simp only [List.length_drop, List.length_take]; rfl)) ?_; (with_reducible refine (grammar_within.calls (l0_0.length : Int) 2 256 true _ A10.out).mono ?_); rintro e w' ⟨rfl, ⟨nd, rfl⟩⟩; refine ⟨_, rfl, ?_⟩) | (go_at_call 55; (with_reducible refine (grammar_within.calls (l0_1.length : Int) 1 512 true _ A12.out).mono ?_); rintro e w' ⟨rfl, ⟨nd, rfl⟩⟩) | (go_at_call 73; (with_reducible refine (slices_ContainsFunc_grammar_counts_1.calls k1 _ _ l0_2  false _ ?side1 ?side2 A15.out).mono ?_); (case side1 => repeat (first | exact (Kd.C_below HR0_2.out qF) | (with_reducible refine Kd.C_alloc ?_ _) | (with_reducible refine Kd.C_drewN ?_ _) | (with_reducible refine Kd.C_drew ?_))); (case side2 => exact HC0_2.out); rintro e w' ⟨rfl, ⟨nd, rfl⟩⟩) | (go_at_call 55; (with_reducible refine (grammar_within.calls (l0_3.length : Int) 1 1024 true _ A18.out).mono ?_); rintro e w' ⟨rfl, ⟨nd, rfl⟩⟩))
          (go_ret); (exact ⟨qE, qF⟩)
         ·rw [if_neg c20] at H
          (have c20b0 : decide ((l0_4.length : Int) ≤ 32) = false := decide_eq_false c20); (have c20b1 : decide (l0_4.length ≤ 32) = false := decide_eq_false (by omega)); clear c20; (obtain rfl := Option.some.inj H); (obtain ⟨hcz22_0, hcz22_1, hcz22_2, hcz22_3, hcz22_4, hfz22_0, hfz22_1, hfz22_2, hfz22_3, hfz22_4⟩ := bx5 BK150.out)
          go_wp2_with (first | ((with_reducible refine gate_callee (f := 55) rfl ?_); refine goesL_ (some 22) rfl rfl Tryd.func55 (by kernel_rfl) rfl #[.int .i64 (l0_0.length : Int), .int .i64 2, .int .i64 256] rfl (by (try simp only [List.map_toArray, List.map_cons, List.map_nil]); first | done | rfl | (simp only [List.length_drop, List.length_take]; rfl)) ?_; (with_reducible refine (grammar_within.calls (l0_0.length : Int) 2 256 true _ A10.out).mono ?_); rintro e w' ⟨rfl, ⟨nd, rfl⟩⟩; refine ⟨_, rfl, ?_⟩) | (go_at_call 55; (with_reducible refine (grammar_within.calls (l0_1.length : Int) 1 512 true _ A12.out).mono ?_); rintro e w' ⟨rfl, ⟨nd, rfl⟩⟩) | (go_at_call 73; (with_reducible refine (slices_ContainsFunc_grammar_counts_1.calls k1 _ _ l0_2  false _ ?side1 ?side2 A15.out).mono ?_); (case side1 => repeat (first | exact (Kd.C_below HR0_2.out qF) | (with_reducible refine Kd.C_alloc ?_ _) | (with_reducible refine Kd.C_drewN ?_ _) | (with_reducible refine Kd.C_drew ?_))); (case side2 => exact HC0_2.out); rintro e w' ⟨rfl, ⟨nd, rfl⟩⟩) | (go_at_call 55; (with_reducible refine (grammar_within.calls (l0_3.length : Int) 1 1024 true _ A18.out).mono ?_); rintro e w' ⟨rfl, ⟨nd, rfl⟩⟩))
          (go_ret); (exact ⟨qE, qF⟩)
        ·replace c19 := Bool.eq_false_iff.mpr c19
         subst c19; (have H1 : (some false) = some r := by rw [if_neg (show ¬ (false = true) by decide)] at H; exact H); clear H; (have H := H1); clear H1; (obtain rfl := Option.some.inj H); (obtain ⟨hcz23_0, hcz23_1, hcz23_2, hcz23_3, hcz23_4, hfz23_0, hfz23_1, hfz23_2, hfz23_3, hfz23_4⟩ := bx5 BK150.out)
         go_wp2_with (first | ((with_reducible refine gate_callee (f := 55) rfl ?_); refine goesL_ (some 22) rfl rfl Tryd.func55 (by kernel_rfl) rfl #[.int .i64 (l0_0.length : Int), .int .i64 2, .int .i64 256] rfl (by (try simp only [List.map_toArray, List.map_cons, List.map_nil]); first | done | rfl | (simp only [List.length_drop, List.length_take]; rfl)) ?_; (with_reducible refine (grammar_within.calls (l0_0.length : Int) 2 256 true _ A10.out).mono ?_); rintro e w' ⟨rfl, ⟨nd, rfl⟩⟩; refine ⟨_, rfl, ?_⟩) | (go_at_call 55; (with_reducible refine (grammar_within.calls (l0_1.length : Int) 1 512 true _ A12.out).mono ?_); rintro e w' ⟨rfl, ⟨nd, rfl⟩⟩) | (go_at_call 73; (with_reducible refine (slices_ContainsFunc_grammar_counts_1.calls k1 _ _ l0_2  false _ ?side1 ?side2 A15.out).mono ?_); (case side1 => repeat (first | exact (Kd.C_below HR0_2.out qF) | (with_reducible refine Kd.C_alloc ?_ _) | (with_reducible refine Kd.C_drewN ?_ _) | (with_reducible refine Kd.C_drew ?_))); (case side2 => exact HC0_2.out); rintro e w' ⟨rfl, ⟨nd, rfl⟩⟩) | (go_at_call 55; (with_reducible refine (grammar_within.calls (l0_3.length : Int) 1 1024 false _ A18.out).mono ?_); rintro e w' ⟨rfl, ⟨nd, rfl⟩⟩))
         (go_ret); (exact ⟨qE, qF⟩)
      ·rw [if_neg c14] at H
       (have c14b0 : ((l0_2.length : Int) == (l0_1.length : Int)) = false := beq_eq_false_iff_ne.mpr c14); (have c14b1 : ((l0_2.length : Int) != (l0_1.length : Int)) = true := bne_iff_ne.mpr c14); (have c14b2 : (l0_2.length == l0_1.length) = false := by first | simpa using c14 | (simp at c14 ⊢; omega)); (obtain rfl := Option.some.inj H); (obtain ⟨hcz24_0, hcz24_1, hcz24_2, hcz24_3, hcz24_4, hfz24_0, hfz24_1, hfz24_2, hfz24_3, hfz24_4⟩ := bx5 BK150.out); (go_wp2_with (first | ((with_reducible refine gate_callee (f := 55) rfl ?_); refine goesL_ (some 22) rfl rfl Tryd.func55 (by kernel_rfl) rfl #[.int .i64 (l0_0.length : Int), .int .i64 2, .int .i64 256] rfl (by (try simp only [List.map_toArray, List.map_cons, List.map_nil]); first | done | rfl | (simp only [List.length_drop, List.length_take]; rfl)) ?_; (with_reducible refine (grammar_within.calls (l0_0.length : Int) 2 256 true _ A10.out).mono ?_); rintro e w' ⟨rfl, ⟨nd, rfl⟩⟩; refine ⟨_, rfl, ?_⟩) | (go_at_call 55; (with_reducible refine (grammar_within.calls (l0_1.length : Int) 1 512 true _ A12.out).mono ?_); rintro e w' ⟨rfl, ⟨nd, rfl⟩⟩))); (go_ret); (exact ⟨qE, qF⟩)
     ·replace c13 := Bool.eq_false_iff.mpr c13
      subst c13; (have H1 : (some false) = some r := by rw [if_neg (show ¬ (false = true) by decide)] at H; exact H); clear H; (have H := H1); clear H1; (obtain rfl := Option.some.inj H); (obtain ⟨hcz25_0, hcz25_1, hcz25_2, hcz25_3, hcz25_4, hfz25_0, hfz25_1, hfz25_2, hfz25_3, hfz25_4⟩ := bx5 BK150.out); (go_wp2_with (first | ((with_reducible refine gate_callee (f := 55) rfl ?_); refine goesL_ (some 22) rfl rfl Tryd.func55 (by kernel_rfl) rfl #[.int .i64 (l0_0.length : Int), .int .i64 2, .int .i64 256] rfl (by (try simp only [List.map_toArray, List.map_cons, List.map_nil]); first | done | rfl | (simp only [List.length_drop, List.length_take]; rfl)) ?_; (with_reducible refine (grammar_within.calls (l0_0.length : Int) 2 256 true _ A10.out).mono ?_); rintro e w' ⟨rfl, ⟨nd, rfl⟩⟩; refine ⟨_, rfl, ?_⟩) | (go_at_call 55; (with_reducible refine (grammar_within.calls (l0_1.length : Int) 1 512 false _ A12.out).mono ?_); rintro e w' ⟨rfl, ⟨nd, rfl⟩⟩))); (go_ret); (exact ⟨qE, qF⟩)
    ·replace c11 := Bool.eq_false_iff.mpr c11
     subst c11; (have H1 : (some false) = some r := by rw [if_neg (show ¬ (false = true) by decide)] at H; exact H); clear H; (have H := H1); clear H1; (obtain rfl := Option.some.inj H); (obtain ⟨hcz26_0, hcz26_1, hcz26_2, hcz26_3, hcz26_4, hfz26_0, hfz26_1, hfz26_2, hfz26_3, hfz26_4⟩ := bx5 BK150.out); (go_wp2_with (first | ((with_reducible refine gate_callee (f := 55) rfl ?_); refine goesL_ (some 22) rfl rfl Tryd.func55 (by kernel_rfl) rfl #[.int .i64 (l0_0.length : Int), .int .i64 2, .int .i64 256] rfl (by (try simp only [List.map_toArray, List.map_cons, List.map_nil]); first | done | rfl | (simp only [List.length_drop, List.length_take]; rfl)) ?_; (with_reducible refine (grammar_within.calls (l0_0.length : Int) 2 256 false _ A10.out).mono ?_); rintro e w' ⟨rfl, ⟨nd, rfl⟩⟩; refine ⟨_, rfl, ?_⟩))); (go_ret); (exact ⟨qE, qF⟩)
def grammar_there.f (l0_0 : List ByteArray) (l0_1 : List ByteArray) (l0_2 : List Int) (l0_3 : List (S58)) (l0_4 : List (S61)) (a1 : Int) : Option (Bool) := if a1 < (l0_0.length : Int) then (some (decide (a1 ≥ (wrap64 (-(l0_1.length : Int)))))) else (some false)
set_option maxHeartbeats 8000000 in
set_option maxRecDepth 100000 in
theorem grammar_there.calls (A0_0 : Option Addr) (c0_0 : Nat) (l0_0 : List ByteArray) (A0_1 : Option Addr) (c0_1 : Nat) (l0_1 : List ByteArray) (A0_2 : Option Addr) (c0_2 : Nat) (l0_2 : List Int) (A0_3 : Option Addr) (c0_3 : Nat) (l0_3 : List (S58)) (A0_4 : Option Addr) (c0_4 : Nat) (l0_4 : List (S61)) (a1 : Int) (r : Bool) (w : World) (hr0_0 : Kd.C Kd.string w A0_0 l0_0.length l0_0) (hc0_0 : l0_0.length ≤ c0_0) (hr0_1 : Kd.C Kd.string w A0_1 l0_1.length l0_1) (hc0_1 : l0_1.length ≤ c0_1) (hr0_2 : Kd.C (Kd.int .i64) w A0_2 l0_2.length l0_2) (hc0_2 : l0_2.length ≤ c0_2) (hr0_3 : Kd.C k58 w A0_3 l0_3.length l0_3) (hc0_3 : l0_3.length ≤ c0_3) (hr0_4 : Kd.C k61 w A0_4 l0_4.length l0_4) (hc0_4 : l0_4.length ≤ c0_4) (h : grammar_there.f l0_0 l0_1 l0_2 l0_3 l0_4 a1 = some r) :
  Calls Tryd.prog 65 #[.agg #[.slice A0_0 l0_0.length c0_0, .slice A0_1 l0_1.length c0_1, .slice A0_2 l0_2.length c0_2, .slice A0_3 l0_3.length c0_3, .slice A0_4 l0_4.length c0_4], .int .i64 a1] w fun e w' => e = .returned (.bool r) ∧ Below w.heap.size w w' := by
 (have hu40 := Tryd.underlying40); (have HR0_0 := qM hr0_0); (have HC0_0 := qM hc0_0); clear hr0_0 hc0_0; (have HR0_1 := qM hr0_1); (have HC0_1 := qM hc0_1); clear hr0_1 hc0_1; (have HR0_2 := qM hr0_2); (have HC0_2 := qM hc0_2); clear hr0_2 hc0_2; (have HR0_3 := qM hr0_3); (have HC0_3 := qM hc0_3); clear hr0_3 hc0_3; (have HR0_4 := qM hr0_4); (have HC0_4 := qM hc0_4); clear hr0_4 hc0_4; (have HB := qM (Below.refl w.heap.size w)); (have H : (if a1 < (l0_0.length : Int) then (some (decide (a1 ≥ (wrap64 (-(l0_1.length : Int)))))) else (some false)) = some r := h); clear h; (by_cases c3 : a1 < (l0_0.length : Int))
 ·rw [if_pos c3] at H
  (have c3b0 : decide (a1 < (l0_0.length : Int)) = true := decide_eq_true c3); clear c3; (obtain rfl := Option.some.inj H); (go_enter Tryd.func65, Tryd.ntmps65)
  go_wp2_with (first | ((with_reducible refine gate_dst (N := 2) rfl ?_); (try (refine gate_guard (by rfl) ?_; dsimp only)); refine box_event ?hg (N := 2) ?hd (cs := #[.slice A0_0 l0_0.length c0_0, .slice A0_1 l0_1.length c0_1, .slice A0_2 l0_2.length c0_2, .slice A0_3 l0_3.length c0_3, .slice A0_4 l0_4.length c0_4]) (t := 40) ?hr ?_; (case hd => rfl); (case hg => rfl); (case hr => first | (go_simp; done) | (go_simp; rfl)); intro gb157 hg w4 hbox hb; have n0_ := qM (qP qF hb); have n1_ := qM (hbox); have n2_ := qM ((by rw [hg]; exact (qZ qF) : w.heap.size ≤ gb157)); have n3_ := qM ((by rw [hg]; exact (qZ qF) : w.heap.size ≤ gb157)); clear HB; have HB := n0_; have BK157 := n1_; have GW157 := n2_; have GE157 := n3_; clear n0_ n1_ n2_ n3_; clear hb hbox hg; obtain ⟨hcz5_0, hcz5_1, hcz5_2, hcz5_3, hcz5_4, hfz5_0, hfz5_1, hfz5_2, hfz5_3, hfz5_4⟩ := bx5 BK157.out))
  (go_ret); (exact ⟨qE, qF⟩)
 ·rw [if_neg c3] at H
  (have c3b0 : decide (a1 < (l0_0.length : Int)) = false := decide_eq_false c3); clear c3; (obtain rfl := Option.some.inj H); (go_enter Tryd.func65, Tryd.ntmps65)
  go_wp2_with (first | ((with_reducible refine gate_dst (N := 2) rfl ?_); (try (refine gate_guard (by rfl) ?_; dsimp only)); refine box_event ?hg (N := 2) ?hd (cs := #[.slice A0_0 l0_0.length c0_0, .slice A0_1 l0_1.length c0_1, .slice A0_2 l0_2.length c0_2, .slice A0_3 l0_3.length c0_3, .slice A0_4 l0_4.length c0_4]) (t := 40) ?hr ?_; (case hd => rfl); (case hg => rfl); (case hr => first | (go_simp; done) | (go_simp; rfl)); intro gb157 hg w6 hbox hb; have n0_ := qM (qP qF hb); have n1_ := qM (hbox); have n2_ := qM ((by rw [hg]; exact (qZ qF) : w.heap.size ≤ gb157)); have n3_ := qM ((by rw [hg]; exact (qZ qF) : w.heap.size ≤ gb157)); clear HB; have HB := n0_; have BK157 := n1_; have GW157 := n2_; have GE157 := n3_; clear n0_ n1_ n2_ n3_; clear hb hbox hg; obtain ⟨hcz7_0, hcz7_1, hcz7_2, hcz7_3, hcz7_4, hfz7_0, hfz7_1, hfz7_2, hfz7_3, hfz7_4⟩ := bx5 BK157.out))
  (go_ret); (exact ⟨qE, qF⟩)
def grammar_start_1.f (a0_0 : Int) (l0_1 : List Int) (l0_2 : List ByteArray) (a0_3 : ByteArray) (a0_4 : Int) : Option (Bool) := some (a0_0 == 0)
set_option maxHeartbeats 8000000 in
set_option maxRecDepth 100000 in
theorem grammar_start_1.calls (a0_0 : Int) (A0_1 : Option Addr) (c0_1 : Nat) (l0_1 : List Int) (A0_2 : Option Addr) (c0_2 : Nat) (l0_2 : List ByteArray) (a0_3 : ByteArray) (a0_4 : Int) (r : Bool) (w : World) (hr0_1 : Kd.C (Kd.int .i64) w A0_1 l0_1.length l0_1) (hc0_1 : l0_1.length ≤ c0_1) (hr0_2 : Kd.C Kd.string w A0_2 l0_2.length l0_2) (hc0_2 : l0_2.length ≤ c0_2) (h : grammar_start_1.f a0_0 l0_1 l0_2 a0_3 a0_4 = some r) :
  Calls Tryd.prog 76 #[.agg #[.int .i64 a0_0, .slice A0_1 l0_1.length c0_1, .slice A0_2 l0_2.length c0_2, .string a0_3, .int .i64 a0_4]] w fun e w' => e = .returned (.bool r) ∧ Below w.heap.size w w' := by
 (have hu58 := Tryd.underlying58); (have HR0_1 := qM hr0_1); (have HC0_1 := qM hc0_1); clear hr0_1 hc0_1; (have HR0_2 := qM hr0_2); (have HC0_2 := qM hc0_2); clear hr0_2 hc0_2; (have HB := qM (Below.refl w.heap.size w)); (have H : (some (a0_0 == 0)) = some r := h); clear h; (obtain rfl := Option.some.inj H); (go_enter Tryd.func76, Tryd.ntmps76)
 go_wp2_with (first | ((with_reducible refine gate_dst (N := 1) rfl ?_); refine box_event ?hg (N := 1) ?hd (cs := #[.int .i64 a0_0, .slice A0_1 l0_1.length c0_1, .slice A0_2 l0_2.length c0_2, .string a0_3, .int .i64 a0_4]) (t := 58) ?hr ?_; (case hd => rfl); (case hg => rfl); (case hr => first | (go_simp; done) | (go_simp; rfl)); intro gb158 hg w2 hbox hb; have n0_ := qM (qP qF hb); have n1_ := qM (hbox); have n2_ := qM ((by rw [hg]; exact (qZ qF) : w.heap.size ≤ gb158)); have n3_ := qM ((by rw [hg]; exact (qZ qF) : w.heap.size ≤ gb158)); clear HB; have HB := n0_; have BK158 := n1_; have GW158 := n2_; have GE158 := n3_; clear n0_ n1_ n2_ n3_; clear hb hbox hg; obtain ⟨hcz3_0, hcz3_1, hcz3_2, hcz3_3, hcz3_4, hfz3_0, hfz3_1, hfz3_2, hfz3_3, hfz3_4⟩ := bx5 BK158.out))
 (go_ret); (exact ⟨qE, qF⟩)
def slices_IndexFunc_grammar_start_1.l0 : Nat → List (S58) → Int → Int → Option (Int)
 | 0, _, _, _ => none
 | k + 1, x0, x7, x8 => if x8 < x7 then (if 0 ≤ x8 then (if x8 < (x0.length : Int) then ((grammar_start_1.f ((rd_T58 x0 x8).f0) ((rd_T58 x0 x8).f1) ((rd_T58 x0 x8).f2) ((rd_T58 x0 x8).f3) ((rd_T58 x0 x8).f4)).bind fun t159 => (if t159 = true then (some x8) else (slices_IndexFunc_grammar_start_1.l0 k x0 x7 (wrap64 (x8 + 1))))) else (none)) else (none)) else (some (-1))
def slices_IndexFunc_grammar_start_1.f (k : Nat) (l0 : List (S58))  : Option (Int) := slices_IndexFunc_grammar_start_1.l0 k l0 (l0.length : Int) 0
theorem slices_IndexFunc_grammar_start_1.mono_l : ∀ k, (∀ y0 y1 y2, LeO (slices_IndexFunc_grammar_start_1.l0 k y0 y1 y2) (slices_IndexFunc_grammar_start_1.l0 (k + 1) y0 y1 y2))
 | 0 => fun _ _ _ r h => by simp [slices_IndexFunc_grammar_start_1.l0] at h
 | k + 1 => by
  have ih0 := slices_IndexFunc_grammar_start_1.mono_l k
  ·intro y0 y1 y2
   unfold slices_IndexFunc_grammar_start_1.l0
   repeat' first
   | (with_reducible exact ih0 _ _ _)
   | (with_reducible exact LeO.refl _)
   | (with_reducible exact LeO.none _)
   | (with_reducible refine LeO.ite ?_ ?_)
   | (with_reducible refine LeO.bind ?_ (fun _ => ?_))
   | exact ih0 _ _ _
   | exact LeO.none _
   | refine LeO.ite ?_ ?_
   | refine LeO.bind ?_ (fun _ => ?_)
theorem slices_IndexFunc_grammar_start_1.mono : ∀ a0 k, LeO (slices_IndexFunc_grammar_start_1.f k a0) (slices_IndexFunc_grammar_start_1.f (k + 1) a0) := by
 (intro a0 k); (have ih0 := slices_IndexFunc_grammar_start_1.mono_l k); (unfold slices_IndexFunc_grammar_start_1.f)
 repeat' first
   | (with_reducible exact ih0 _ _ _)
   | (with_reducible exact LeO.refl _)
   | (with_reducible exact LeO.none _)
   | (with_reducible refine LeO.ite ?_ ?_)
   | (with_reducible refine LeO.bind ?_ (fun _ => ?_))
   | exact ih0 _ _ _
   | exact LeO.none _
   | refine LeO.ite ?_ ?_
   | refine LeO.bind ?_ (fun _ => ?_)
set_option maxHeartbeats 8000000 in
set_option maxRecDepth 100000 in
theorem slices_IndexFunc_grammar_start_1.calls (k : Nat) (A0 : Option Addr) (c0 : Nat) (l0 : List (S58))   (r : Int) (w : World) (hr0 : Kd.C k58 w A0 l0.length l0) (hc0 : l0.length ≤ c0) (h : slices_IndexFunc_grammar_start_1.f k l0 = some r) :
  Calls Tryd.prog 84 #[.slice A0 l0.length c0, .func (.func 76) #[] #[]] w fun e w' => e = .returned (.int .i64 r) ∧ Below w.heap.size w w' := by
 (have hu58 := Tryd.underlying58); (have HR0 := qM hr0); (have HC0 := qM hc0); clear hr0 hc0; (have HB := qM (Below.refl w.heap.size w)); (have H : (slices_IndexFunc_grammar_start_1.l0 k l0 (l0.length : Int) 0) = some r := h); clear h; (have H' := qM H); clear H; (go_enter Tryd.func84, Tryd.ntmps84); go_wp2; (go_loopg [8] k (fun kq v8 w' => ∃ (x8_1 : Int), v8 = .int .i64 x8_1 ∧ Aside0 (slices_IndexFunc_grammar_start_1.l0 kq l0 (l0.length : Int) x8_1 = some r) ∧ Aside0 (kq ≤ k) ∧ Aside0 (Below w.heap.size w w')))
 case atStart => exact ⟨(0), qV, H', ⟨Nat.le_refl _⟩, ⟨qF⟩⟩
 case round =>
  (clear H'); (try clear p2); (obtain ⟨x8_1, rfl, HA, HK1, HB⟩ := hrel)
  cases gk with
  | zero => exact absurd HA.out (by simp [slices_IndexFunc_grammar_start_1.l0])
  | succ k1 =>
   (have H := HA.out); clear HA; (simp only [slices_IndexFunc_grammar_start_1.l0] at H); (by_cases c3 : x8_1 < (l0.length : Int))
   ·rw [if_pos c3] at H
    (have c3b0 : decide (x8_1 < (l0.length : Int)) = true := decide_eq_true c3); clear c3; (by_cases c4 : 0 ≤ x8_1)
    ·rw [if_pos c4] at H
     (have c4b0 : decide (0 ≤ x8_1) = true := decide_eq_true c4); clear c4; (by_cases c5 : x8_1 < (l0.length : Int))
     ·rw [if_pos c5] at H
      (have c5b0 : decide (x8_1 < (l0.length : Int)) = true := decide_eq_true c5); clear c5; (replace H := Option.bind_eq_some_iff.mp H); (obtain ⟨t159, A60, H⟩ := H); (replace H : (if t159 = true then (some x8_1) else (slices_IndexFunc_grammar_start_1.l0 k1 l0 (l0.length : Int) (wrap64 (x8_1 + 1)))) = some r := H); (have A6 := qM A60); clear A60; (by_cases c7 : t159 = true)
      ·subst c7
       (have H1 : (some x8_1) = some r := by rw [if_pos rfl] at H; exact H); clear H; (have H := H1); clear H1; (obtain rfl := Option.some.inj H); (have p158 : 0 ≤ (x8_1 : Int) := qo qX); (have q158 : x8_1 < (l0.length : Int) := qo qX); (obtain ⟨ad158, A158_1, c158_1, A158_2, c158_2, e158, hx158_0, hx158_1, hx158_2, hx158_3, hx158_4, hl158_1, hi158_1, hl158_2, hi158_2⟩ := at_T58 HR0.out x8_1 p158 q158)
       cases e158
       (replace hx158_0 := (HB.out.cell (qB w _ hx158_0)).trans hx158_0); (replace hx158_1 := (HB.out.cell (qB w _ hx158_1)).trans hx158_1); (replace hx158_2 := (HB.out.cell (qB w _ hx158_2)).trans hx158_2); (replace hx158_3 := (HB.out.cell (qB w _ hx158_3)).trans hx158_3); (replace hx158_4 := (HB.out.cell (qB w _ hx158_4)).trans hx158_4); (have HR158_1 := qM hi158_1); (have HC158_1 := qM hl158_1); clear hi158_1 hl158_1; (have HR158_2 := qM hi158_2); (have HC158_2 := qM hl158_2); clear hi158_2 hl158_2; (replace p158 := eq_true p158); (replace q158 := eq_true q158)
       go_wp2_with (first | (go_at_call 76; (with_reducible refine (grammar_start_1.calls ((rd_T58 l0 x8_1).f0) _ _ ((rd_T58 l0 x8_1).f1) _ _ ((rd_T58 l0 x8_1).f2) ((rd_T58 l0 x8_1).f3) ((rd_T58 l0 x8_1).f4) true _ ?side1 ?side2 ?side3 ?side4 A6.out).mono ?_); (case side1 => exact qC HR158_1.out qF); (case side2 => exact HC158_1.out); (case side3 => exact qC HR158_2.out qF); (case side4 => exact HC158_2.out); rintro e w8 ⟨rfl, hb⟩; have n0_ := qM (qP qF hb); clear HB; have HB := n0_; clear n0_; (try clear hb); (try clear hb2); (try clear hk); (try clear hi)))
       (go_ret); (exact ⟨qE, qF⟩)
      ·replace c7 := Bool.eq_false_iff.mpr c7
       subst c7; (have H1 : (slices_IndexFunc_grammar_start_1.l0 k1 l0 (l0.length : Int) (wrap64 (x8_1 + 1))) = some r := by rw [if_neg (show ¬ (false = true) by decide)] at H; exact H); clear H; (have H := H1); clear H1; (have H' := qM H); clear H; (have p158 : 0 ≤ (x8_1 : Int) := qo qX); (have q158 : x8_1 < (l0.length : Int) := qo qX); (obtain ⟨ad158, A158_1, c158_1, A158_2, c158_2, e158, hx158_0, hx158_1, hx158_2, hx158_3, hx158_4, hl158_1, hi158_1, hl158_2, hi158_2⟩ := at_T58 HR0.out x8_1 p158 q158)
       cases e158
       (replace hx158_0 := (HB.out.cell (qB w _ hx158_0)).trans hx158_0); (replace hx158_1 := (HB.out.cell (qB w _ hx158_1)).trans hx158_1); (replace hx158_2 := (HB.out.cell (qB w _ hx158_2)).trans hx158_2); (replace hx158_3 := (HB.out.cell (qB w _ hx158_3)).trans hx158_3); (replace hx158_4 := (HB.out.cell (qB w _ hx158_4)).trans hx158_4); (have HR158_1 := qM hi158_1); (have HC158_1 := qM hl158_1); clear hi158_1 hl158_1; (have HR158_2 := qM hi158_2); (have HC158_2 := qM hl158_2); clear hi158_2 hl158_2; (replace p158 := eq_true p158); (replace q158 := eq_true q158)
       go_wp2_with (first | (go_at_call 76; (with_reducible refine (grammar_start_1.calls ((rd_T58 l0 x8_1).f0) _ _ ((rd_T58 l0 x8_1).f1) _ _ ((rd_T58 l0 x8_1).f2) ((rd_T58 l0 x8_1).f3) ((rd_T58 l0 x8_1).f4) false _ ?side1 ?side2 ?side3 ?side4 A6.out).mono ?_); (case side1 => exact qC HR158_1.out qF); (case side2 => exact HC158_1.out); (case side3 => exact qC HR158_2.out qF); (case side4 => exact HC158_2.out); rintro e w9 ⟨rfl, hb⟩; have n0_ := qM (qP qF hb); clear HB; have HB := n0_; clear n0_; (try clear hb); (try clear hb2); (try clear hk); (try clear hi)))
       go_roundg k1
       case measure => have := HK1.out; omega
       case rel => exact ⟨(wrap64 (x8_1 + 1)), qV, H', ⟨by have := HK1.out; omega⟩, ⟨qF⟩⟩
     ·rw [if_neg c5] at H
      exact absurd H (by simp)
    ·rw [if_neg c4] at H
     exact absurd H (by simp)
   ·rw [if_neg c3] at H
    (have c3b0 : decide (x8_1 < (l0.length : Int)) = false := decide_eq_false c3); clear c3; (obtain rfl := Option.some.inj H); go_wp2; (go_ret); (exact ⟨qE, qF⟩)
def slices_ContainsFunc_grammar_start_1.f (k : Nat) (l0 : List (S58))  : Option (Bool) := (slices_IndexFunc_grammar_start_1.f k l0).bind fun t160 => (some (decide (t160 ≥ 0)))
theorem slices_ContainsFunc_grammar_start_1.mono : ∀ a0 k, LeO (slices_ContainsFunc_grammar_start_1.f k a0) (slices_ContainsFunc_grammar_start_1.f (k + 1) a0) := by
 (intro a0 k); (unfold slices_ContainsFunc_grammar_start_1.f)
 repeat' first
   | (with_reducible exact slices_IndexFunc_grammar_start_1.mono _ _)
   | (with_reducible exact LeO.refl _)
   | (with_reducible exact LeO.none _)
   | (with_reducible refine LeO.ite ?_ ?_)
   | (with_reducible refine LeO.bind ?_ (fun _ => ?_))
   | exact slices_IndexFunc_grammar_start_1.mono _ _
   | exact LeO.none _
   | refine LeO.ite ?_ ?_
   | refine LeO.bind ?_ (fun _ => ?_)
set_option maxHeartbeats 8000000 in
set_option maxRecDepth 100000 in
theorem slices_ContainsFunc_grammar_start_1.calls (k : Nat) (A0 : Option Addr) (c0 : Nat) (l0 : List (S58))   (r : Bool) (w : World) (hr0 : Kd.C k58 w A0 l0.length l0) (hc0 : l0.length ≤ c0) (h : slices_ContainsFunc_grammar_start_1.f k l0 = some r) :
  Calls Tryd.prog 75 #[.slice A0 l0.length c0, .func (.func 76) #[] #[]] w fun e w' => e = .returned (.bool r) ∧ Below w.heap.size w w' := by
 (have HR0 := qM hr0); (have HC0 := qM hc0); clear hr0 hc0; (have HB := qM (Below.refl w.heap.size w)); (have H : ((slices_IndexFunc_grammar_start_1.f k l0).bind fun t160 => (some (decide (t160 ≥ 0)))) = some r := h); clear h; (replace H := Option.bind_eq_some_iff.mp H); (obtain ⟨t160, A30, H⟩ := H); (replace H : (some (decide (t160 ≥ 0))) = some r := H); (have A3 := qM A30); clear A30; (obtain rfl := Option.some.inj H); (go_enter Tryd.func75, Tryd.ntmps75)
 go_wp2_with (first | ((with_reducible refine gate_callee (f := 84) rfl ?_); refine goesL_ (some 7) rfl rfl Tryd.func84 (by kernel_rfl) rfl #[.slice A0 l0.length c0, .func (.func 76) #[] #[]] rfl (by (try simp only [List.map_toArray, List.map_cons, List.map_nil]); first | done | rfl | (simp only [List.length_drop, List.length_take]; rfl)) ?_; (with_reducible refine (slices_IndexFunc_grammar_start_1.calls k _ _ l0  t160 _ ?side1 ?side2 A3.out).mono ?_); (case side1 => repeat (first | exact HR0.out | (with_reducible refine Kd.C_alloc ?_ _) | (with_reducible refine Kd.C_drewN ?_ _) | (with_reducible refine Kd.C_drew ?_))); (case side2 => exact HC0.out); rintro e w4 ⟨rfl, hb⟩; refine ⟨_, rfl, ?_⟩; have n0_ := qM (qP qF hb); clear HB; have HB := n0_; clear n0_; (try clear hb); (try clear hb2); (try clear hk); (try clear hi)))
 (go_ret); (exact ⟨qE, qF⟩)
end Go.Proofs.YtphmgaijkdflnaaDoor.H
end
section
namespace Go.Proofs.YtphmgaijkdflnaaDoor.H
open Go.RowKit Go.Proofs.YtphmgaijkdflnaaDoorW.PrintWords Go.Proofs.YtphmgaijkdflnaaDoorW.PrintLast Go.Proofs.YtphmgaijkdflnaaDoorW.PrintMore
set_option linter.unusedVariables false
set_option linter.unusedSimpArgs false
def grammar_start.f (k : Nat) (l0_0 : List ByteArray) (l0_1 : List ByteArray) (l0_2 : List Int) (l0_3 : List (S58)) (l0_4 : List (S61)) : Option (Bool) := if 0 < (l0_3.length : Int) then (if ((rd_T58 l0_3 0).f0) = 0 then (if (((rd_T58 l0_3 0).f1).length : Int) = 1 then (if 0 < (((rd_T58 l0_3 0).f1).length : Int) then (if (rd ((rd_T58 l0_3 0).f1) 0) ≥ (-1) then (some false) else ((grammar_there.f l0_0 l0_1 l0_2 l0_3 l0_4 (rd ((rd_T58 l0_3 0).f1) 0)).bind fun t144 => (if t144 = true then (if 1 ≤ (l0_3.length : Int) then ((slices_ContainsFunc_grammar_start_1.f k (l0_3.drop 1)).bind fun t149 => (some (!t149))) else (none)) else (some false)))) else (none)) else (some false)) else (some false)) else (none)
theorem grammar_start.mono : ∀ a0 a1 a2 a3 a4 k, LeO (grammar_start.f k a0 a1 a2 a3 a4) (grammar_start.f (k + 1) a0 a1 a2 a3 a4) := by
  intro a0 a1 a2 a3 a4 k
  unfold grammar_start.f
  repeat' first
      | (with_reducible exact slices_ContainsFunc_grammar_start_1.mono _ _)
      | (with_reducible exact LeO.refl _)
      | (with_reducible exact LeO.none _)
      | (with_reducible refine LeO.ite ?_ ?_)
      | (with_reducible refine LeO.bind ?_ (fun _ => ?_))
      | exact slices_ContainsFunc_grammar_start_1.mono _ _
      | exact LeO.none _
      | refine LeO.ite ?_ ?_
      | refine LeO.bind ?_ (fun _ => ?_)
theorem kc4 {w W : World} {p : Addr} {v : Value} (hb : Below w.heap.size w W) (h : w.cell? p = some v) : W.cell? p = some v := (hb.cell (World.block_lt_of_cell? w _ h)).trans h
set_option maxHeartbeats 4000000 in
set_option maxRecDepth 100000 in
theorem grammar_start.calls (k : Nat) (A0_0 : Option Addr) (c0_0 : Nat) (l0_0 : List ByteArray) (A0_1 : Option Addr) (c0_1 : Nat) (l0_1 : List ByteArray) (A0_2 : Option Addr) (c0_2 : Nat) (l0_2 : List Int) (A0_3 : Option Addr) (c0_3 : Nat) (l0_3 : List S58) (A0_4 : Option Addr) (c0_4 : Nat) (l0_4 : List S61) (r : Bool) (w : World) (hr0_0 : Kd.C Kd.string w A0_0 l0_0.length l0_0) (hc0_0 : l0_0.length ≤ c0_0) (hr0_1 : Kd.C Kd.string w A0_1 l0_1.length l0_1) (hc0_1 : l0_1.length ≤ c0_1) (hr0_2 : Kd.C (Kd.int .i64) w A0_2 l0_2.length l0_2) (hc0_2 : l0_2.length ≤ c0_2) (hr0_3 : Kd.C k58 w A0_3 l0_3.length l0_3) (hc0_3 : l0_3.length ≤ c0_3) (hr0_4 : Kd.C k61 w A0_4 l0_4.length l0_4) (hc0_4 : l0_4.length ≤ c0_4) (h : grammar_start.f k l0_0 l0_1 l0_2 l0_3 l0_4 = some r) :
    Calls Tryd.prog 53 #[.agg #[.slice A0_0 l0_0.length c0_0, .slice A0_1 l0_1.length c0_1, .slice A0_2 l0_2.length c0_2, .slice A0_3 l0_3.length c0_3, .slice A0_4 l0_4.length c0_4]] w fun e w' => e = .returned (.bool r) ∧ Below w.heap.size w w' := by
  unfold grammar_start.f at h
  by_cases c2 : 0 < (l0_3.length : Int)
  case neg => rw [if_neg c2] at h; cases h
  rw [if_pos c2] at h
  obtain ⟨ar, R1, s1, R2, s2, er, hx0, hx1, hx2, hx3, hx4, hl1, hi1, hl2, hi2⟩ := at_T58 hr0_3 0 (by omega) c2
  obtain rfl : A0_3 = some ar := er
  rw [show ((0 : Int)).toNat * 5 = 0 from rfl, Addr.add_zero'] at hx0 hx1 hx2 hx3 hx4
  obtain ⟨x, hx⟩ : ∃ x, rd_T58 l0_3 0 = x := ⟨_, rfl⟩
  rw [hx] at h hx0 hx1 hx2 hx3 hx4 hl1 hi1 hl2 hi2
  clear hx
  have hBg := below_alloc (Below.refl w.heap.size w) (.cells #[.slice A0_0 l0_0.length c0_0, .slice A0_1 l0_1.length c0_1, .slice A0_2 l0_2.length c0_2, .slice (some ar) l0_3.length c0_3, .slice A0_4 l0_4.length c0_4] 40)
  have kx0 := kc4 hBg hx0
  have kx1 := kc4 hBg hx1
  have kx2 := kc4 hBg hx2
  have kx3 := kc4 hBg hx3
  have kx4 := kc4 hBg hx4
  have q0 : (0 : Int) < (l0_3.length : Int) := c2
  have HR0 := Aside0.mk hr0_0
  have HR1 := Aside0.mk hr0_1
  have HR2 := Aside0.mk hr0_2
  have HR3 := Aside0.mk hr0_3
  have HR4 := Aside0.mk hr0_4
  have HI1 := Aside0.mk hi1
  have HC0_3 := Aside0.mk hc0_3
  have HBg := Aside0.mk hBg
  have H := Aside0.mk h
  clear hr0_0 hr0_1 hr0_2 hr0_3 hr0_4 hi1 hi2 hl1 hl2 hBg h hx0 hx1 hx2 hx3 hx4 hc0_3
  go_enter Tryd.func53, Tryd.ntmps53
  go_wp2_with fail
  clear kx0 kx1 kx2 kx3 kx4
  have hW := blk_new (w.alloc (.cells #[.slice A0_0 l0_0.length c0_0, .slice A0_1 l0_1.length c0_1, .slice A0_2 l0_2.length c0_2, .slice (some ar) l0_3.length c0_3, .slice A0_4 l0_4.length c0_4] 40)) (.cells #[.int .i64 x.f0, .slice R1 x.f1.length s1, .slice R2 x.f2.length s2, .string x.f3, .int .i64 x.f4] 58)
  have hG := blk_alloc (blk_new w (.cells #[.slice A0_0 l0_0.length c0_0, .slice A0_1 l0_1.length c0_1, .slice A0_2 l0_2.length c0_2, .slice (some ar) l0_3.length c0_3, .slice A0_4 l0_4.length c0_4] 40)) (.cells #[.int .i64 x.f0, .slice R1 x.f1.length s1, .slice R2 x.f2.length s2, .string x.f3, .int .i64 x.f4] 58)
  have hB3 := below_alloc HBg.out (.cells #[.int .i64 x.f0, .slice R1 x.f1.length s1, .slice R2 x.f2.length s2, .string x.f3, .int .i64 x.f4] 58)
  rw [show (w.alloc (.cells #[.slice A0_0 l0_0.length c0_0, .slice A0_1 l0_1.length c0_1, .slice A0_2 l0_2.length c0_2, .slice (some ar) l0_3.length c0_3, .slice A0_4 l0_4.length c0_4] 40)).heap.size = w.heap.size + 1 by simp] at hW
  obtain ⟨W3, hW3⟩ : ∃ W3, (w.alloc (.cells #[.slice A0_0 l0_0.length c0_0, .slice A0_1 l0_1.length c0_1, .slice A0_2 l0_2.length c0_2, .slice (some ar) l0_3.length c0_3, .slice A0_4 l0_4.length c0_4] 40)).alloc (.cells #[.int .i64 x.f0, .slice R1 x.f1.length s1, .slice R2 x.f2.length s2, .string x.f3, .int .i64 x.f4] 58) = W3 := ⟨_, rfl⟩
  rw [hW3] at hW hG hB3 ⊢
  clear hW3
  have g0 : W3.cell? ⟨w.heap.size, 0, none⟩ = some (.slice A0_0 l0_0.length c0_0) := (blk_cell hG 0).trans rfl
  have g1 : W3.cell? ⟨w.heap.size, 1, none⟩ = some (.slice A0_1 l0_1.length c0_1) := (blk_cell hG 1).trans rfl
  have g2 : W3.cell? ⟨w.heap.size, 2, none⟩ = some (.slice A0_2 l0_2.length c0_2) := (blk_cell hG 2).trans rfl
  have g3 : W3.cell? ⟨w.heap.size, 3, none⟩ = some (.slice (some ar) l0_3.length c0_3) := (blk_cell hG 3).trans rfl
  have g4 : W3.cell? ⟨w.heap.size, 4, none⟩ = some (.slice A0_4 l0_4.length c0_4) := (blk_cell hG 4).trans rfl
  have b0 : W3.cell? ⟨w.heap.size + 1, 0, none⟩ = some (.int .i64 x.f0) := (blk_cell hW 0).trans rfl
  have b1 : W3.cell? ⟨w.heap.size + 1, 1, none⟩ = some (.slice R1 x.f1.length s1) := (blk_cell hW 1).trans rfl
  have b2 : W3.cell? ⟨w.heap.size + 1, 2, none⟩ = some (.slice R2 x.f2.length s2) := (blk_cell hW 2).trans rfl
  have b3 : W3.cell? ⟨w.heap.size + 1, 3, none⟩ = some (.string x.f3) := (blk_cell hW 3).trans rfl
  have b4 : W3.cell? ⟨w.heap.size + 1, 4, none⟩ = some (.int .i64 x.f4) := (blk_cell hW 4).trans rfl
  have HB3 := Aside0.mk hB3
  clear hW hG hB3
  have h := H.out
  clear H
  by_cases c3 : x.f0 = 0
  case neg =>
    rw [if_neg c3] at h
    obtain rfl := Option.some.inj h
    have e1 : (x.f0 != 0) = true := bne_iff_ne.mpr c3
    clear c3 h
    go_quiet (fail)
    go_wp2
    go_ret
    exact ⟨rfl, HB3.out.trans (Below.mono (by repeat (first | exact Below.refl _ _ | apply below_drew1 | apply pw_below_drewN)) HB3.out.size)⟩
  rw [if_pos c3] at h
  have e1 : (x.f0 != 0) = false := bne_eq_false_iff_eq.mpr c3
  clear c3
  by_cases c4 : (x.f1.length : Int) = 1
  case neg =>
    rw [if_neg c4] at h
    obtain rfl := Option.some.inj h
    have e2 : ((x.f1.length : Int) != 1) = true := bne_iff_ne.mpr c4
    clear c4 h
    go_quiet (fail)
    go_wp2
    go_ret
    exact ⟨rfl, HB3.out.trans (Below.mono (by repeat (first | exact Below.refl _ _ | apply below_drew1 | apply pw_below_drewN)) HB3.out.size)⟩
  rw [if_pos c4, if_pos (by omega)] at h
  have e2 : ((x.f1.length : Int) != 1) = false := bne_eq_false_iff_eq.mpr c4
  obtain ⟨af, ef, hf⟩ := Kd.at_int HI1.out 0 (by omega) (by omega)
  obtain rfl : R1 = some af := ef
  have kf : W3.cell? af = some (.int .i64 (rd x.f1 0)) := by
    first | (rw [show ((0 : Int)).toNat = 0 from rfl, Addr.add_zero'] at hf; exact kc4 HB3.out hf) | exact kc4 HB3.out hf
  have q1 : (0 : Int) < (x.f1.length : Int) := by omega
  have q1n : 0 < x.f1.length := by omega
  have q1t : (0 < x.f1.length) = True := eq_true q1n
  obtain ⟨s, hs⟩ : ∃ s, rd x.f1 0 = s := ⟨_, rfl⟩
  rw [hs] at kf h
  clear hf hs c4
  by_cases c6 : s ≥ -1
  case pos =>
    rw [if_pos c6] at h
    obtain rfl := Option.some.inj h
    have e3 : decide (-1 ≤ s) = true := decide_eq_true c6
    clear c6 h
    go_quiet (fail)
    go_wp2
    go_ret
    exact ⟨rfl, HB3.out.trans (Below.mono (by repeat (first | exact Below.refl _ _ | apply below_drew1 | apply pw_below_drewN)) HB3.out.size)⟩
  rw [if_neg c6] at h
  have e3 : decide (-1 ≤ s) = false := decide_eq_false c6
  clear c6
  obtain ⟨t, ht, h⟩ := Option.bind_eq_some_iff.1 h
  have HT := Aside0.mk ht
  have H := Aside0.mk h
  clear ht h
  first | (go_region_held3 (fun w' => w'.cell? ⟨w.heap.size, 0, none⟩ = some (.slice A0_0 l0_0.length c0_0) ∧ w'.cell? ⟨w.heap.size, 1, none⟩ = some (.slice A0_1 l0_1.length c0_1) ∧ w'.cell? ⟨w.heap.size, 2, none⟩ = some (.slice A0_2 l0_2.length c0_2) ∧ w'.cell? ⟨w.heap.size, 3, none⟩ = some (.slice (some ar) l0_3.length c0_3) ∧ w'.cell? ⟨w.heap.size, 4, none⟩ = some (.slice A0_4 l0_4.length c0_4) ∧ w'.cell? ⟨w.heap.size + 1, 0, none⟩ = some (.int .i64 x.f0) ∧ w'.cell? ⟨w.heap.size + 1, 1, none⟩ = some (.slice (some af) x.f1.length s1) ∧ w'.cell? ⟨w.heap.size + 1, 2, none⟩ = some (.slice R2 x.f2.length s2) ∧ w'.cell? ⟨w.heap.size + 1, 3, none⟩ = some (.string x.f3) ∧ w'.cell? ⟨w.heap.size + 1, 4, none⟩ = some (.int .i64 x.f4) ∧ w'.cell? af = some (.int .i64 s))
    (first
      | go_keep
      | (refine ⟨kc4 hb ?_, kc4 hb ?_, kc4 hb ?_, kc4 hb ?_, kc4 hb ?_, kc4 hb ?_, kc4 hb ?_, kc4 hb ?_, kc4 hb ?_, kc4 hb ?_, kc4 hb ?_⟩ <;> assumption))
    ((go_at_call 65; refine (grammar_there.calls _ _ l0_0 _ _ l0_1 _ _ l0_2 _ _ l0_3 _ _ l0_4 s t _ (Kd.C_below HR0.out (by repeat (first | exact HB3.out | apply below_drew1))) hc0_0 (Kd.C_below HR1.out (by repeat (first | exact HB3.out | apply below_drew1))) hc0_1 (Kd.C_below HR2.out (by repeat (first | exact HB3.out | apply below_drew1))) hc0_2 (Kd.C_below HR3.out (by repeat (first | exact HB3.out | apply below_drew1))) HC0_3.out (Kd.C_below HR4.out (by repeat (first | exact HB3.out | apply below_drew1))) hc0_4 HT.out).mono ?_; rintro e w4 ⟨rfl, hb⟩))) | fail
  have HB4 := Aside0.mk (show Below W3.heap.size W3 w4 from (show Below W3.heap.size W3 W3.drew from below_drew1 (Below.refl _ _)).trans hb)
  have j0 : w4.cell? ⟨w.heap.size, 0, none⟩ = some (.slice A0_0 l0_0.length c0_0) := kc4 HB4.out g0
  have j1 : w4.cell? ⟨w.heap.size, 1, none⟩ = some (.slice A0_1 l0_1.length c0_1) := kc4 HB4.out g1
  have j2 : w4.cell? ⟨w.heap.size, 2, none⟩ = some (.slice A0_2 l0_2.length c0_2) := kc4 HB4.out g2
  have j3 : w4.cell? ⟨w.heap.size, 3, none⟩ = some (.slice (some ar) l0_3.length c0_3) := kc4 HB4.out g3
  have j4 : w4.cell? ⟨w.heap.size, 4, none⟩ = some (.slice A0_4 l0_4.length c0_4) := kc4 HB4.out g4
  clear hb g0 g1 g2 g3 g4 b0 b1 b2 b3 b4 kf
  have h := H.out
  clear H
  cases t with
  | false =>
    obtain rfl : false = r := by simpa using h
    clear h
    go_wp2
    go_ret
    exact ⟨rfl, HB3.out.trans (HB4.out.mono HB3.out.size)⟩
  | true =>
    replace h : (if 1 ≤ (l0_3.length : Int) then ((slices_ContainsFunc_grammar_start_1.f k (l0_3.drop 1)).bind fun t149 => (some (!t149))) else (none)) = some r := by simpa using h
    rw [if_pos (by omega)] at h
    obtain ⟨u, hu, h⟩ := Option.bind_eq_some_iff.1 h
    obtain rfl := Option.some.inj h
    obtain ⟨y, hy⟩ : ∃ y : List S58, y = l0_3.drop 1 := ⟨_, rfl⟩
    rw [← hy] at hu
    have q27 : (1 : Int) ≤ ((l0_3.length : Int) : Int) := by omega
    obtain ⟨i027, hi027, _, hsz27, _⟩ := info_parts info58
    have hcut27 := cut_from (P := Tryd.prog) 37 58 .i64 Tryd.underlying37 hi027 5 hsz27 (some ar) l0_3.length c0_3 1 (by omega) q27
    have hr27 := Kd.C_drop (m := (1 : Int).toNat) (c := c0_3) HR3.out (by omega) HC0_3.out
    obtain ⟨A27, hA27⟩ : ∃ A1, A1 = (if c0_3 = (1 : Int).toNat then (some ar) else ((some ar) : Option Addr).map (·.add ((1 : Int).toNat * 5))) := ⟨_, rfl⟩
    obtain ⟨c27, hc27⟩ : ∃ c1, c1 = c0_3 - (1 : Int).toNat := ⟨_, rfl⟩
    have hy27 : y.length = l0_3.length - (1 : Int).toNat := by rw [hy, List.length_drop]; rfl
    rw [show (l0_3).drop (1 : Int).toNat = y from hy.symm] at hr27
    replace hr27 : Kd.C k58 w A27 y.length y := (by rw [hA27]; exact hr27)
    rw [← hy27, ← hA27, ← hc27] at hcut27
    have HR148 := Aside0.mk hr27
    have HC148 := Aside0.mk (show y.length ≤ c27 from by rw [hy27, hc27]; exact Nat.sub_le_sub_right HC0_3.out _)
    have HU := Aside0.mk hu
    have HBW := Aside0.mk (HB3.out.trans (HB4.out.mono HB3.out.size))
    clear hr27 hi027 hsz27 hc27 hy27 hA27 hu hy h
    replace q27 := eq_true q27
    go_wp2_with (go_at_call 75; refine (slices_ContainsFunc_grammar_start_1.calls k _ _ y u _ (Kd.C_below HR148.out HBW.out) HC148.out HU.out).mono ?_; rintro e w5 ⟨rfl, hb⟩; have HB5 := Aside0.mk hb; clear hb)
    go_ret
    exact ⟨rfl, HBW.out.trans (HB5.out.mono HBW.out.size)⟩
end Go.Proofs.YtphmgaijkdflnaaDoor.H
end
section
namespace Go.Proofs.YtphmgaijkdflnaaDoor.H
open Go.RowKit Go.Proofs.YtphmgaijkdflnaaDoorW.PrintWords Go.Proofs.YtphmgaijkdflnaaDoorW.PrintLast Go.Proofs.YtphmgaijkdflnaaDoorW.PrintMore
attribute [local go_sem] max2_int min2_int max_two min_two max_three min_three max_four min_four
set_option linter.unusedVariables false
set_option linter.unusedSimpArgs false
def grammar_rule_1_cap.f (a0 : Int) (l1_0 : List ByteArray) (l1_1 : List ByteArray) (l1_2 : List Int) (l1_3 : List (S58)) (l1_4 : List (S61)) : Option (Bool) := (grammar_there.f l1_0 l1_1 l1_2 l1_3 l1_4 a0).bind fun t172 => (if t172 = true then (if a0 ≥ (-1) then (some (decide (a0 ≤ 1))) else (some false)) else (some true))
set_option maxHeartbeats 8000000 in
set_option maxRecDepth 100000 in
theorem grammar_rule_1_cap.calls (a0 : Int) (g1_0 : Nat) (A1_0 : Option Addr) (c1_0 : Nat) (l1_0 : List ByteArray) (A1_1 : Option Addr) (c1_1 : Nat) (l1_1 : List ByteArray) (A1_2 : Option Addr) (c1_2 : Nat) (l1_2 : List Int) (A1_3 : Option Addr) (c1_3 : Nat) (l1_3 : List (S58)) (A1_4 : Option Addr) (c1_4 : Nat) (l1_4 : List (S61)) (r : Bool) (w : World) (hr1_0 : Kd.C Kd.string w A1_0 l1_0.length l1_0) (hc1_0 : l1_0.length ≤ c1_0) (hr1_1 : Kd.C Kd.string w A1_1 l1_1.length l1_1) (hc1_1 : l1_1.length ≤ c1_1) (hr1_2 : Kd.C (Kd.int .i64) w A1_2 l1_2.length l1_2) (hc1_2 : l1_2.length ≤ c1_2) (hr1_3 : Kd.C k58 w A1_3 l1_3.length l1_3) (hc1_3 : l1_3.length ≤ c1_3) (hr1_4 : Kd.C k61 w A1_4 l1_4.length l1_4) (hc1_4 : l1_4.length ≤ c1_4) (hbk1_0 : w.heap[g1_0]? = some (.cells #[.slice A1_0 l1_0.length c1_0, .slice A1_1 l1_1.length c1_1, .slice A1_2 l1_2.length c1_2, .slice A1_3 l1_3.length c1_3, .slice A1_4 l1_4.length c1_4] 40 (0, 0))) (h : grammar_rule_1_cap.f a0 l1_0 l1_1 l1_2 l1_3 l1_4 = some r) :
  Calls Tryd.prog 78 #[.int .i64 a0, .pointer (some ⟨g1_0, 0, none⟩)] w fun e w' => e = .returned (.bool r) ∧ Below w.heap.size w w' := by
 (have hu40 := Tryd.underlying40); (have HR1_0 := qM hr1_0); (have HC1_0 := qM hc1_0); clear hr1_0 hc1_0; (have HR1_1 := qM hr1_1); (have HC1_1 := qM hc1_1); clear hr1_1 hc1_1; (have HR1_2 := qM hr1_2); (have HC1_2 := qM hc1_2); clear hr1_2 hc1_2; (have HR1_3 := qM hr1_3); (have HC1_3 := qM hc1_3); clear hr1_3 hc1_3; (have HR1_4 := qM hr1_4); (have HC1_4 := qM hc1_4); clear hr1_4 hc1_4; (have BK520 := qM hbk1_0); clear hbk1_0; (have HB := qM (Below.refl w.heap.size w)); (have H : ((grammar_there.f l1_0 l1_1 l1_2 l1_3 l1_4 a0).bind fun t172 => (if t172 = true then (if a0 ≥ (-1) then (some (decide (a0 ≤ 1))) else (some false)) else (some true))) = some r := h); clear h; (replace H := Option.bind_eq_some_iff.mp H); (obtain ⟨t172, A30, H⟩ := H); (replace H : (if t172 = true then (if a0 ≥ (-1) then (some (decide (a0 ≤ 1))) else (some false)) else (some true)) = some r := H); (have A3 := qM A30); clear A30; (by_cases c4 : t172 = true)
 ·subst c4
  (have H1 : (if a0 ≥ (-1) then (some (decide (a0 ≤ 1))) else (some false)) = some r := by rw [if_pos rfl] at H; exact H); clear H; (have H := H1); clear H1; (by_cases c5 : a0 ≥ (-1))
  ·rw [if_pos c5] at H
   (have c5b0 : decide ((-1) ≤ a0) = true := decide_eq_true c5); clear c5; (obtain rfl := Option.some.inj H); (obtain ⟨hcz6_0, hcz6_1, hcz6_2, hcz6_3, hcz6_4, hfz6_0, hfz6_1, hfz6_2, hfz6_3, hfz6_4⟩ := bx5 BK520.out); (go_enter Tryd.func78, Tryd.ntmps78)
   go_wp2_with (first | ((with_reducible refine gate_callee (f := 65) rfl ?_); refine goesL_ (some 6) rfl rfl Tryd.func65 (by kernel_rfl) rfl #[.agg #[.slice A1_0 l1_0.length c1_0, .slice A1_1 l1_1.length c1_1, .slice A1_2 l1_2.length c1_2, .slice A1_3 l1_3.length c1_3, .slice A1_4 l1_4.length c1_4], .int .i64 a0] rfl (by (try simp only [List.map_toArray, List.map_cons, List.map_nil]); first | done | rfl | (simp only [List.length_drop, List.length_take]; rfl)) ?_; (with_reducible refine (grammar_there.calls _ _ l1_0 _ _ l1_1 _ _ l1_2 _ _ l1_3 _ _ l1_4 a0 true _ ?side1 ?side2 ?side3 ?side4 ?side5 ?side6 ?side7 ?side8 ?side9 ?side10 A3.out).mono ?_); (case side1 => repeat (first | exact HR1_0.out | (with_reducible refine Kd.C_alloc ?_ _) | (with_reducible refine Kd.C_drewN ?_ _) | (with_reducible refine Kd.C_drew ?_))); (case side2 => exact HC1_0.out); (case side3 => repeat (first | exact HR1_1.out | (with_reducible refine Kd.C_alloc ?_ _) | (with_reducible refine Kd.C_drewN ?_ _) | (with_reducible refine Kd.C_drew ?_))); (case side4 => exact HC1_1.out); (case side5 => repeat (first | exact HR1_2.out | (with_reducible refine Kd.C_alloc ?_ _) | (with_reducible refine Kd.C_drewN ?_ _) | (with_reducible refine Kd.C_drew ?_))); (case side6 => exact HC1_2.out); (case side7 => repeat (first | exact HR1_3.out | (with_reducible refine Kd.C_alloc ?_ _) | (with_reducible refine Kd.C_drewN ?_ _) | (with_reducible refine Kd.C_drew ?_))); (case side8 => exact HC1_3.out); (case side9 => repeat (first | exact HR1_4.out | (with_reducible refine Kd.C_alloc ?_ _) | (with_reducible refine Kd.C_drewN ?_ _) | (with_reducible refine Kd.C_drew ?_))); (case side10 => exact HC1_4.out); rintro e w7 ⟨rfl, hb⟩; refine ⟨_, rfl, ?_⟩; have n0_ := qM (qb (g := g1_0) qK hb); have n1_ := qM (qP qF hb); clear BK520; clear HB; have BK520 := n0_; have HB := n1_; clear n0_ n1_; (try clear hb); (try clear hb2); (try clear hk); (try clear hi)))
   (go_ret); (exact ⟨qE, qF⟩)
  ·rw [if_neg c5] at H
   (have c5b0 : decide ((-1) ≤ a0) = false := decide_eq_false c5); clear c5; (obtain rfl := Option.some.inj H); (obtain ⟨hcz8_0, hcz8_1, hcz8_2, hcz8_3, hcz8_4, hfz8_0, hfz8_1, hfz8_2, hfz8_3, hfz8_4⟩ := bx5 BK520.out); (go_enter Tryd.func78, Tryd.ntmps78)
   go_wp2_with (first | ((with_reducible refine gate_callee (f := 65) rfl ?_); refine goesL_ (some 6) rfl rfl Tryd.func65 (by kernel_rfl) rfl #[.agg #[.slice A1_0 l1_0.length c1_0, .slice A1_1 l1_1.length c1_1, .slice A1_2 l1_2.length c1_2, .slice A1_3 l1_3.length c1_3, .slice A1_4 l1_4.length c1_4], .int .i64 a0] rfl (by (try simp only [List.map_toArray, List.map_cons, List.map_nil]); first | done | rfl | (simp only [List.length_drop, List.length_take]; rfl)) ?_; (with_reducible refine (grammar_there.calls _ _ l1_0 _ _ l1_1 _ _ l1_2 _ _ l1_3 _ _ l1_4 a0 true _ ?side1 ?side2 ?side3 ?side4 ?side5 ?side6 ?side7 ?side8 ?side9 ?side10 A3.out).mono ?_); (case side1 => repeat (first | exact HR1_0.out | (with_reducible refine Kd.C_alloc ?_ _) | (with_reducible refine Kd.C_drewN ?_ _) | (with_reducible refine Kd.C_drew ?_))); (case side2 => exact HC1_0.out); (case side3 => repeat (first | exact HR1_1.out | (with_reducible refine Kd.C_alloc ?_ _) | (with_reducible refine Kd.C_drewN ?_ _) | (with_reducible refine Kd.C_drew ?_))); (case side4 => exact HC1_1.out); (case side5 => repeat (first | exact HR1_2.out | (with_reducible refine Kd.C_alloc ?_ _) | (with_reducible refine Kd.C_drewN ?_ _) | (with_reducible refine Kd.C_drew ?_))); (case side6 => exact HC1_2.out); (case side7 => repeat (first | exact HR1_3.out | (with_reducible refine Kd.C_alloc ?_ _) | (with_reducible refine Kd.C_drewN ?_ _) | (with_reducible refine Kd.C_drew ?_))); (case side8 => exact HC1_3.out); (case side9 => repeat (first | exact HR1_4.out | (with_reducible refine Kd.C_alloc ?_ _) | (with_reducible refine Kd.C_drewN ?_ _) | (with_reducible refine Kd.C_drew ?_))); (case side10 => exact HC1_4.out); rintro e w9 ⟨rfl, hb⟩; refine ⟨_, rfl, ?_⟩; have n0_ := qM (qb (g := g1_0) qK hb); have n1_ := qM (qP qF hb); clear BK520; clear HB; have BK520 := n0_; have HB := n1_; clear n0_ n1_; (try clear hb); (try clear hb2); (try clear hk); (try clear hi)))
   (go_ret); (exact ⟨qE, qF⟩)
 ·replace c4 := Bool.eq_false_iff.mpr c4
  subst c4; (have H1 : (some true) = some r := by rw [if_neg (show ¬ (false = true) by decide)] at H; exact H); clear H; (have H := H1); clear H1; (obtain rfl := Option.some.inj H); (obtain ⟨hcz10_0, hcz10_1, hcz10_2, hcz10_3, hcz10_4, hfz10_0, hfz10_1, hfz10_2, hfz10_3, hfz10_4⟩ := bx5 BK520.out); (go_enter Tryd.func78, Tryd.ntmps78)
  go_wp2_with (first | ((with_reducible refine gate_callee (f := 65) rfl ?_); refine goesL_ (some 6) rfl rfl Tryd.func65 (by kernel_rfl) rfl #[.agg #[.slice A1_0 l1_0.length c1_0, .slice A1_1 l1_1.length c1_1, .slice A1_2 l1_2.length c1_2, .slice A1_3 l1_3.length c1_3, .slice A1_4 l1_4.length c1_4], .int .i64 a0] rfl (by (try simp only [List.map_toArray, List.map_cons, List.map_nil]); first | done | rfl | (simp only [List.length_drop, List.length_take]; rfl)) ?_; (with_reducible refine (grammar_there.calls _ _ l1_0 _ _ l1_1 _ _ l1_2 _ _ l1_3 _ _ l1_4 a0 false _ ?side1 ?side2 ?side3 ?side4 ?side5 ?side6 ?side7 ?side8 ?side9 ?side10 A3.out).mono ?_); (case side1 => repeat (first | exact HR1_0.out | (with_reducible refine Kd.C_alloc ?_ _) | (with_reducible refine Kd.C_drewN ?_ _) | (with_reducible refine Kd.C_drew ?_))); (case side2 => exact HC1_0.out); (case side3 => repeat (first | exact HR1_1.out | (with_reducible refine Kd.C_alloc ?_ _) | (with_reducible refine Kd.C_drewN ?_ _) | (with_reducible refine Kd.C_drew ?_))); (case side4 => exact HC1_1.out); (case side5 => repeat (first | exact HR1_2.out | (with_reducible refine Kd.C_alloc ?_ _) | (with_reducible refine Kd.C_drewN ?_ _) | (with_reducible refine Kd.C_drew ?_))); (case side6 => exact HC1_2.out); (case side7 => repeat (first | exact HR1_3.out | (with_reducible refine Kd.C_alloc ?_ _) | (with_reducible refine Kd.C_drewN ?_ _) | (with_reducible refine Kd.C_drew ?_))); (case side8 => exact HC1_3.out); (case side9 => repeat (first | exact HR1_4.out | (with_reducible refine Kd.C_alloc ?_ _) | (with_reducible refine Kd.C_drewN ?_ _) | (with_reducible refine Kd.C_drew ?_))); (case side10 => exact HC1_4.out); rintro e w11 ⟨rfl, hb⟩; refine ⟨_, rfl, ?_⟩; have n0_ := qM (qb (g := g1_0) qK hb); have n1_ := qM (qP qF hb); clear BK520; clear HB; have BK520 := n0_; have HB := n1_; clear n0_ n1_; (try clear hb); (try clear hb2); (try clear hk); (try clear hi)))
  (go_ret); (exact ⟨qE, qF⟩)
end Go.Proofs.YtphmgaijkdflnaaDoor.H
end
