/- A part (2 of 7) of this proof: For every grammar and tree that the guards let in and whose bulk lies within the bound, CstRight returns true: Right and Show of package cst agree with the reference. -/
import Derived.Test.YtphmgaijkdflnaaDoorRows
import Derived.WalkKit
import Derived.ProofKit
import Derived.OpenShut
import Derived.ShutString
import Derived.ChangeOld
import Derived.Below
import Derived.SizedLaws
import Derived.Maps.Own
import Derived.Maps.OwnOps
import Derived.Maps.OwnSet
import Derived.Handy
import Derived.Outline
import Derived.Deep.RegionHeld3
import Derived.Test.YtphmgaijkdflnaaDoorZr1
section
namespace Go.Proofs.YtphmgaijkdflnaaDoor.H
open Go.RowKit
set_option linter.unusedVariables false
set_option linter.unusedSimpArgs false
set_option maxHeartbeats 8000000
set_option maxRecDepth 100000
section
open Go.ChangeShapes Go.WideShapes Go.ChangeAt Go.Proofs.YtphmgaijkdflnaaDoorW.PrintWords Go.Proofs.YtphmgaijkdflnaaDoorW.PrintLast Go.Proofs.YtphmgaijkdflnaaDoorW.PrintMore
def szList {α : Type} (f : α → Nat) : List α → Nat
 | [] => 0
 | x :: r => f x + szList f r
theorem szList_mem {α : Type} {f : α → Nat} : ∀ {l : List α} {x : α}, x ∈ l → f x ≤ szList f l
 | y :: r, x, h => by
  simp only [szList]
  rcases List.mem_cons.1 h with rfl | h
  ·omega
  ·have := szList_mem (f := f) h; omega
structure Opens (b : Nat) {α : Type} (P : Program) (t : TypeId) (K : Kd α) (ok : α → Prop) (sz : α → Nat) : Prop where
 cells : P.cellsOf t = K.sz
 op : ∀ {H : Type} {enc : TypeId × Value → H} {W : World} {base : Nat} {sp : Nat → Bool} {held : Bool} {n : Nat} {cs : List Value} {x : DataW H × List MemPlace}, n ≤ b →
  DataW.trod enc P W base sp held n t cs = some x → (∀ u ∈ DataW.weights P t x.1, u ≤ reachBytes) → ∃ v, K.K W v cs ∧ ok v ∧ sz v ≤ Rows.uptoBulk x.1
structure OpensF (b : Nat) {β : Type} (P : Program) (fs : List Field) (o : Nat) (K : Kd β) (ok : β → Prop) (sz : β → Nat) : Prop where
 op : ∀ {H : Type} {enc : TypeId × Value → H} {W : World} {base : Nat} {sp : Nat → Bool} {held : Bool} {n : Nat} {cs : List Value} {xs : List (DataW H × List MemPlace)}, n ≤ b →
  cs.length = o + K.sz → xs.length = fs.length → (∀ (i : Nat) (f : Field), fs[i]? = some f → DataW.trod enc P W base sp held n f.type ((cs.drop f.offset).take (P.cellsOf f.type)) = xs[i]?) →
  (∀ u ∈ DataW.weightsEach P (fs.map (·.type)) (xs.map (·.1)), u ≤ reachBytes) → ∃ v, K.K W v (cs.drop o) ∧ ok v ∧ sz v ≤ Rows.uptoBulkAll (xs.map (·.1))
section
variable {b : Nat} {P : Program} {α β : Type} {t e : TypeId}
theorem opens_int (k : IntKind) (ht : P.underlying t = some (.int k)) (hc : P.cellsOf t = 1) : Opens b P t (Kd.int k) (fun n => (Lit.int k n).wf = true) (fun _ => 1) :=
 ⟨hc, fun {H enc W base sp held n cs x} _ h _ => by obtain ⟨n, rfl, rfl, hw⟩ := DataW.trod_int ht h; exact ⟨n, rfl, hw, by simp [Rows.uptoBulk]⟩⟩
theorem opens_string (ht : P.underlying t = some .string) (hc : P.cellsOf t = 1) : Opens b P t Kd.string (fun s => s.size ≤ reachBytes) (fun s => s.size + 1) :=
 ⟨hc, fun {H enc W base sp held n cs x} _ h hw => by
  obtain ⟨s, rfl, rfl, _⟩ := DataW.trod_string ht h
  refine ⟨s, rfl, ?_, by simp [Rows.uptoBulk]⟩
  have := hw s.data.toList.length (by simp [DataW.weights])
  simpa using this⟩
theorem weightsAll_mem {H : Type} {e : TypeId} : ∀ {ds : List (DataW H)} {d : DataW H}, d ∈ ds → ∀ u ∈ d.weights P e, u ∈ DataW.weightsAll P e ds
 | [], _, h, _, _ => by cases h
 | d0 :: r, d, h, u, hu => by
  simp only [DataW.weightsAll, List.mem_append]
  rcases List.mem_cons.1 h with rfl | h
  ·exact .inl hu
  ·exact .inr (weightsAll_mem h u hu)
theorem list_of {Q : Nat → α → Prop} : ∀ (n : Nat), (∀ i, i < n → ∃ v, Q i v) → ∃ l : List α, l.length = n ∧ ∀ (i : Nat) v, l[i]? = some v → Q i v
 | 0, _ => ⟨[], rfl, fun i v h => by simp at h⟩
 | n + 1, h => by
  obtain ⟨l, hl, hq⟩ := list_of n (fun i hi => h i (by omega))
  obtain ⟨v, hv⟩ := h n (by omega)
  refine ⟨l ++ [v], by simp [hl], fun i u hu => ?_⟩
  rcases Nat.lt_or_ge i n with hi | hi
  ·rw [List.getElem?_append_left (by omega)] at hu; exact hq i u hu
  ·rw [List.getElem?_append_right (by omega), hl] at hu
   have h0 : i - n = 0 := by
    rcases Nat.eq_zero_or_pos (i - n) with h0 | h0
    ·exact h0
    ·rw [List.getElem?_eq_none (by simp; omega)] at hu; cases hu
   rw [h0] at hu
   obtain rfl : v = u := by simpa using hu
   obtain rfl : i = n := by omega
   exact hv
theorem opens_slice {d : Kd α} {ok : α → Prop} {sz : α → Nat} (ht : P.underlying t = some (.slice e)) (hc : P.cellsOf t = 1) {B : Nat} (hB : P.bytesOf e = B) (h : Opens b P e d ok sz) :
  Opens b P t (Kd.slice e d) (fun l => l.length * B ≤ reachBytes ∧ ∀ x ∈ l, ok x) (fun l => szList sz l + 1) :=
 ⟨hc, fun {H enc W base sp held n0 cs x} hn0 h0 hw => by
  rcases DataW.trod_slice ht h0 with ⟨rfl, rfl⟩ | ⟨a, len, cap, elems, rest, n, hn1, rfl, rfl, hb, hl, hm, hlen, hel, _, _⟩
  ·exact ⟨[], ⟨none, 0, rfl, Nat.le_refl _, Kd.C_nil d W⟩, by simp, by simp [szList, Rows.uptoBulk]⟩
  ·have hsz := hw ((elems.map (·.1)).length * P.bytesOf e + (rest.map (·.1)).length * P.bytesOf e) (by simp [DataW.weights, ht, Nat.add_mul])
   have hin : ∀ y ∈ elems, ∀ u ∈ y.1.weights P e, u ≤ reachBytes := fun y hy u hu => hw u (by
    simp only [DataW.weights, ht, List.mem_cons, List.mem_append]
    exact .inr (.inl (weightsAll_mem (List.mem_map_of_mem hy) u hu)))
   obtain ⟨l, hll, hq⟩ := list_of (Q := fun i v => ∃ c, W.cells? base (a.add (i * P.cellsOf e)) (P.cellsOf e) = some c ∧ d.K W v c ∧ ok v ∧ ∃ h : i < elems.length, sz v ≤ Rows.uptoBulk elems[i].1) len (fun i hi => by
    have h1 := hel i hi
    have hi' : i < elems.length := by omega
    rw [List.getElem?_eq_getElem hi'] at h1
    obtain ⟨c, h2, h3⟩ := Option.bind_eq_some_iff.1 h1
    obtain ⟨v, hK, hv, hz⟩ := h.op (by omega) h3 (hin _ (List.getElem_mem hi'))
    exact ⟨v, c, h2, hK, hv, hi', hz⟩)
   refine ⟨l, ⟨some a, cap, by rw [hll], by omega, rfl, ?_, fun hn => ⟨a, rfl, fun j p hp => ?_⟩⟩, ⟨?_, ?_⟩, ?_⟩
   ·have : cap ≤ 9223372036854775807 := hm
    omega
   ·obtain ⟨c, h2, hK, _⟩ := hq j p hp
    obtain ⟨_, hcl, hcc⟩ := World.cells?_some h2
    refine ⟨c, d.K_len hK, hK, fun i u hu => ?_⟩
    have hi : i < P.cellsOf e := by
     rcases Nat.lt_or_ge i c.length with q | q
     ·omega
     ·rw [List.getElem?_eq_none q] at hu; cases hu
    have := hcc i hi
    rw [Addr.add_add, h.cells] at this
    rw [this, hu]
   ·simp only [List.length_map, hlen, hB] at hsz
    rw [hll]
    omega
   ·intro x hx
    obtain ⟨i, hi, rfl⟩ := List.getElem_of_mem hx
    obtain ⟨_, _, _, hv, _⟩ := hq i _ (List.getElem?_eq_getElem hi)
    exact hv
   ·have hs : ∀ (l : List α) (es : List (DataW H × List MemPlace)), l.length = es.length → (∀ (i : Nat) v, l[i]? = some v → ∃ h : i < es.length, sz v ≤ Rows.uptoBulk es[i].1) → szList sz l ≤ Rows.uptoBulkAll (es.map (·.1)) := by
     intro l
     induction l with
     | nil => intro es _ _; simp [szList]
     | cons y r ih =>
      intro es hl hq
      cases es with
      | nil => simp at hl
      | cons z q =>
       obtain ⟨_, h0⟩ := hq 0 y rfl
       have := ih q (by simpa using hl) (fun i v hi => by
        obtain ⟨h1, h2⟩ := hq (i + 1) v (by simpa using hi)
        exact ⟨by simpa using h1, by simpa using h2⟩)
       simp only [szList, List.map_cons, Rows.uptoBulkAll]
       simp at h0
       omega
    have := hs l elems (by omega) (fun i v hi => by obtain ⟨_, _, _, _, h⟩ := hq i v hi; exact h)
    simp only [Rows.uptoBulk]
    omega⟩
theorem opensF_one {f : Field} {o : Nat} {K : Kd α} {ok : α → Prop} {sz : α → Nat} {t : TypeId} (h : Opens b P t K ok sz) (ht : f.type = t) (ho : f.offset = o) : OpensF b P [f] o K ok sz := by
 subst ht
 constructor
 intro H enc W base sp held n cs xs hn hl hx hf hw
 obtain ⟨y, rfl⟩ : ∃ y, xs = [y] := by
  match xs, hx with
  | [y], _ => exact ⟨y, rfl⟩
 have h1 := hf 0 f rfl
 rw [ho, h.cells, List.take_of_length_le (by rw [List.length_drop]; omega)] at h1
 obtain ⟨v, hk, hv, hz⟩ := h.op hn (by simpa using h1) (fun u hu => hw u (by simp [DataW.weightsEach]; exact hu))
 exact ⟨v, hk, hv, by simpa [Rows.uptoBulkAll] using hz⟩
theorem opensF_cons {f : Field} {fs : List Field} {o : Nat} {K1 : Kd α} {K2 : Kd β} {ok1 : α → Prop} {ok2 : β → Prop} {sz1 : α → Nat} {sz2 : β → Nat} {t : TypeId} (h : Opens b P t K1 ok1 sz1) (ht : f.type = t) (ho : f.offset = o) (hr : OpensF b P fs (o + K1.sz) K2 ok2 sz2) :
  OpensF b P (f :: fs) o (Kd.pair K1 K2) (fun p => ok1 p.1 ∧ ok2 p.2) (fun p => sz1 p.1 + sz2 p.2) := by
 subst ht
 constructor
 intro H enc W base sp held n cs xs hn hl hx hf hw
 obtain ⟨y, ys, rfl⟩ : ∃ y ys, xs = y :: ys := by
  match xs, hx with
  | y :: ys, _ => exact ⟨y, ys, rfl⟩
 have hl' : cs.length = o + (K1.sz + K2.sz) := hl
 have h1 := hf 0 f rfl
 rw [ho, h.cells] at h1
 obtain ⟨v1, k1, g1, z1⟩ := h.op hn (by simpa using h1) (fun u hu => hw u (by simp [DataW.weightsEach]; exact .inl hu))
 obtain ⟨v2, k2, g2, z2⟩ := hr.op (cs := cs) (xs := ys) hn (by omega) (by simpa using hx) (fun i g hg => by have := hf (i + 1) g (by simpa using hg); simpa using this) (fun u hu => hw u (by simp [DataW.weightsEach]; exact .inr hu))
 refine ⟨(v1, v2), ⟨(cs.drop o).take K1.sz, cs.drop (o + K1.sz), ?_, k1, k2⟩, ⟨g1, g2⟩, by simp only [List.map_cons, Rows.uptoBulkAll]; omega⟩
 rw [← List.drop_drop, List.take_append_drop]
theorem opens_struct {fs : Array Field} {K : Kd α} {ok : α → Prop} {sz : α → Nat} (ht : P.underlying t = some (.struct fs)) (hc : P.cellsOf t = K.sz) (h : OpensF b P fs.toList 0 K ok sz) : Opens (b + 1) P t K ok (fun v => sz v + 1) :=
 ⟨hc, fun {H enc W base sp held n cs x} hn h0 hw => by
  obtain ⟨xs, m, rfl, rfl, hl, hx, hf⟩ := DataW.trod_struct ht h0
  obtain ⟨v, hk, ho, hz⟩ := h.op (cs := cs) (xs := xs) (by omega) (by omega) (by simpa using hx) (fun i f hi => hf i f (by simpa using hi)) (fun u hu => hw u (by simp only [DataW.weights, ht]; exact hu))
  exact ⟨v, by simpa using hk, ho, by simp only [Rows.uptoBulk]; omega⟩⟩
theorem opens_iso {K : Kd α} {ok : α → Prop} {sz : α → Nat} (f : β → α) (g : α → β) (hfg : ∀ a, f (g a) = a) (h : Opens b P t K ok sz) : Opens b P t (Kd.iso K f) (fun x => ok (f x)) (fun x => sz (f x)) :=
 ⟨h.cells, fun hn h0 hw => by
  obtain ⟨v, hk, ho, hz⟩ := h.op hn h0 hw
  exact ⟨g v, by show K.K _ (f (g v)) _; rw [hfg]; exact hk, by show ok (f (g v)); rw [hfg]; exact ho, by show sz (f (g v)) ≤ _; rw [hfg]; exact hz⟩⟩
theorem Opens.imp {K : Kd α} {ok ok' : α → Prop} {sz sz' : α → Nat} (h : Opens b P t K ok sz) (hi : ∀ x, ok x → ok' x) (hs : ∀ x, sz' x ≤ sz x) : Opens b P t K ok' sz' :=
 ⟨h.cells, fun hn h0 hw => by obtain ⟨v, hk, ho, hz⟩ := h.op hn h0 hw; exact ⟨v, hk, hi v ho, Nat.le_trans (hs v) hz⟩⟩
theorem Opens.le {K : Kd α} {ok : α → Prop} {sz : α → Nat} {c : Nat} (h : Opens b P t K ok sz) (hc : c ≤ b) : Opens c P t K ok sz := ⟨h.cells, fun hn h0 hw => h.op (Nat.le_trans hn hc) h0 hw⟩
theorem Opens.kind {K K' : Kd α} {ok : α → Prop} {sz : α → Nat} (h : Opens b P t K ok sz) (hs : K'.sz = K.sz) (hk : ∀ w x cs, K.K w x cs → K'.K w x cs) : Opens b P t K' ok sz :=
 ⟨h.cells.trans hs.symm, fun hn h0 hw => by obtain ⟨v, h1, h2, h3⟩ := h.op hn h0 hw; exact ⟨v, hk _ _ _ h1, h2, h3⟩⟩
theorem opens_zero {K : Kd α} {ok : α → Prop} {sz : α → Nat} (hc : P.cellsOf t = K.sz) : Opens 0 P t K ok sz := ⟨hc, fun hn h0 hw => by
 obtain rfl := Nat.le_zero.1 hn
 simp [DataW.trod] at h0⟩
theorem Opens.of {H : Type} {enc : TypeId × Value → H} {W : World} {base : Nat} {sp : Nat → Bool} {held : Bool} {K : Kd α} {ok : α → Prop} {sz : α → Nat} (h : ∀ b, Opens b P t K ok sz) {v : Value} {d : DataW H} {ps : List MemPlace} {ts : List TypeId} {ds : List (DataW H)} {j : Nat}
  (hsz : (DataW.weightsEach P ts ds).all (· ≤ reachBytes) = true) (ht : ts[j]? = some t) (hd : ds[j]? = some d) (h0 : DataW.Trod enc P W base sp held t v d ps) : ∃ x, K.K W x v.cells.toList ∧ ok x ∧ sz x ≤ Rows.uptoBulk d := by
 obtain ⟨fuel, hf⟩ := h0
 exact (h fuel).op (Nat.le_refl _) hf (fun u hu => by simpa using List.all_eq_true.1 hsz u (DataW.weights_mem_each ht hd u hu))
end
end
section
open Go.ChangeShapes Go.WideShapes Go.ChangeAt Go.Proofs.YtphmgaijkdflnaaDoorW.PrintWords Go.Proofs.YtphmgaijkdflnaaDoorW.PrintLast Go.Proofs.YtphmgaijkdflnaaDoorW.PrintMore
def ok58 (x : S58) : Prop := ((fun n : Int => (Lit.int .i64 n).wf = true) x.f0 ∧ ((fun l : List (Int) => l.length * 8 ≤ reachBytes ∧ ∀ x ∈ l, (fun n : Int => (Lit.int .i64 n).wf = true) x) x.f1 ∧ ((fun l : List (ByteArray) => l.length * 16 ≤ reachBytes ∧ ∀ x ∈ l, (fun s : ByteArray => s.size ≤ reachBytes) x) x.f2 ∧ ((fun s : ByteArray => s.size ≤ reachBytes) x.f3 ∧ (fun n : Int => (Lit.int .i64 n).wf = true) x.f4))))
def wt58 (x : S58) : Nat := ((fun _ : Int => 1) x.f0 + ((fun l : List (Int) => szList (fun _ : Int => 1) l + 1) x.f1 + ((fun l : List (ByteArray) => szList (fun s : ByteArray => s.size + 1) l + 1) x.f2 + ((fun s : ByteArray => s.size + 1) x.f3 + (fun _ : Int => 1) x.f4)))) + 1
theorem opens_k58 (b : Nat) : Opens b Tryd.prog 58 k58 ok58 wt58 := by
 have hS : Opens (b + 1) Tryd.prog 58 (Kd.pair (Kd.int .i64) (Kd.pair (Kd.slice 3 (Kd.int .i64)) (Kd.pair (Kd.slice 9 Kd.string) (Kd.pair Kd.string (Kd.int .i64))))) (fun p : (Int) × (List (Int)) × (List (ByteArray)) × (ByteArray) × (Int) => (fun n : Int => (Lit.int .i64 n).wf = true) p.1 ∧ (fun p : (List (Int)) × (List (ByteArray)) × (ByteArray) × (Int) => (fun l : List (Int) => l.length * 8 ≤ reachBytes ∧ ∀ x ∈ l, (fun n : Int => (Lit.int .i64 n).wf = true) x) p.1 ∧ (fun p : (List (ByteArray)) × (ByteArray) × (Int) => (fun l : List (ByteArray) => l.length * 16 ≤ reachBytes ∧ ∀ x ∈ l, (fun s : ByteArray => s.size ≤ reachBytes) x) p.1 ∧ (fun p : (ByteArray) × (Int) => (fun s : ByteArray => s.size ≤ reachBytes) p.1 ∧ (fun n : Int => (Lit.int .i64 n).wf = true) p.2) p.2) p.2) p.2) (fun v => (fun p : (Int) × (List (Int)) × (List (ByteArray)) × (ByteArray) × (Int) => (fun _ : Int => 1) p.1 + (fun p : (List (Int)) × (List (ByteArray)) × (ByteArray) × (Int) => (fun l : List (Int) => szList (fun _ : Int => 1) l + 1) p.1 + (fun p : (List (ByteArray)) × (ByteArray) × (Int) => (fun l : List (ByteArray) => szList (fun s : ByteArray => s.size + 1) l + 1) p.1 + (fun p : (ByteArray) × (Int) => (fun s : ByteArray => s.size + 1) p.1 + (fun _ : Int => 1) p.2) p.2) p.2) p.2) v + 1) := by
  refine opens_struct Tryd.underlying58 (by kernel_rfl) ?_
  refine opensF_cons (ok1 := (fun n : Int => (Lit.int .i64 n).wf = true)) (ok2 := (fun p : (List (Int)) × (List (ByteArray)) × (ByteArray) × (Int) => (fun l : List (Int) => l.length * 8 ≤ reachBytes ∧ ∀ x ∈ l, (fun n : Int => (Lit.int .i64 n).wf = true) x) p.1 ∧ (fun p : (List (ByteArray)) × (ByteArray) × (Int) => (fun l : List (ByteArray) => l.length * 16 ≤ reachBytes ∧ ∀ x ∈ l, (fun s : ByteArray => s.size ≤ reachBytes) x) p.1 ∧ (fun p : (ByteArray) × (Int) => (fun s : ByteArray => s.size ≤ reachBytes) p.1 ∧ (fun n : Int => (Lit.int .i64 n).wf = true) p.2) p.2) p.2)) (sz1 := (fun _ : Int => 1)) (sz2 := (fun p : (List (Int)) × (List (ByteArray)) × (ByteArray) × (Int) => (fun l : List (Int) => szList (fun _ : Int => 1) l + 1) p.1 + (fun p : (List (ByteArray)) × (ByteArray) × (Int) => (fun l : List (ByteArray) => szList (fun s : ByteArray => s.size + 1) l + 1) p.1 + (fun p : (ByteArray) × (Int) => (fun s : ByteArray => s.size + 1) p.1 + (fun _ : Int => 1) p.2) p.2) p.2)) (opens_int .i64 Tryd.underlying3 (by kernel_rfl)) rfl (by kernel_rfl) ?_
  refine opensF_cons (ok1 := (fun l : List (Int) => l.length * 8 ≤ reachBytes ∧ ∀ x ∈ l, (fun n : Int => (Lit.int .i64 n).wf = true) x)) (ok2 := (fun p : (List (ByteArray)) × (ByteArray) × (Int) => (fun l : List (ByteArray) => l.length * 16 ≤ reachBytes ∧ ∀ x ∈ l, (fun s : ByteArray => s.size ≤ reachBytes) x) p.1 ∧ (fun p : (ByteArray) × (Int) => (fun s : ByteArray => s.size ≤ reachBytes) p.1 ∧ (fun n : Int => (Lit.int .i64 n).wf = true) p.2) p.2)) (sz1 := (fun l : List (Int) => szList (fun _ : Int => 1) l + 1)) (sz2 := (fun p : (List (ByteArray)) × (ByteArray) × (Int) => (fun l : List (ByteArray) => szList (fun s : ByteArray => s.size + 1) l + 1) p.1 + (fun p : (ByteArray) × (Int) => (fun s : ByteArray => s.size + 1) p.1 + (fun _ : Int => 1) p.2) p.2)) (opens_slice Tryd.underlying56 (by kernel_rfl) (B := 8) (by kernel_rfl) (opens_int .i64 Tryd.underlying3 (by kernel_rfl))) rfl (by kernel_rfl) ?_
  refine opensF_cons (ok1 := (fun l : List (ByteArray) => l.length * 16 ≤ reachBytes ∧ ∀ x ∈ l, (fun s : ByteArray => s.size ≤ reachBytes) x)) (ok2 := (fun p : (ByteArray) × (Int) => (fun s : ByteArray => s.size ≤ reachBytes) p.1 ∧ (fun n : Int => (Lit.int .i64 n).wf = true) p.2)) (sz1 := (fun l : List (ByteArray) => szList (fun s : ByteArray => s.size + 1) l + 1)) (sz2 := (fun p : (ByteArray) × (Int) => (fun s : ByteArray => s.size + 1) p.1 + (fun _ : Int => 1) p.2)) (opens_slice Tryd.underlying35 (by kernel_rfl) (B := 16) (by kernel_rfl) (opens_string Tryd.underlying9 (by kernel_rfl))) rfl (by kernel_rfl) ?_
  refine opensF_cons (ok1 := (fun s : ByteArray => s.size ≤ reachBytes)) (ok2 := (fun n : Int => (Lit.int .i64 n).wf = true)) (sz1 := (fun s : ByteArray => s.size + 1)) (sz2 := (fun _ : Int => 1)) (opens_string Tryd.underlying9 (by kernel_rfl)) rfl (by kernel_rfl) ?_
  exact opensF_one (ok := (fun n : Int => (Lit.int .i64 n).wf = true)) (sz := (fun _ : Int => 1)) (opens_int .i64 Tryd.underlying3 (by kernel_rfl)) rfl (by kernel_rfl)
 have hI := opens_iso (fun x : S58 => (x.f0, x.f1, x.f2, x.f3, x.f4)) (fun p => ⟨p.1, p.2.1, p.2.2.1, p.2.2.2.1, p.2.2.2.2⟩) (fun _ => rfl) hS
 exact (hI.imp (fun _ h => h) (fun _ => Nat.le_refl _)).le (Nat.le_succ b)
theorem ok58_iff (x : S58) : ok58 x ↔ ((Lit.int .i64 x.f0).wf = true ∧ ((x.f1.length * 8 ≤ reachBytes ∧ ∀ y ∈ x.f1, (Lit.int .i64 y).wf = true) ∧ ((x.f2.length * 16 ≤ reachBytes ∧ ∀ y ∈ x.f2, y.size ≤ reachBytes) ∧ (x.f3.size ≤ reachBytes ∧ (Lit.int .i64 x.f4).wf = true)))) := Iff.rfl
def ok61 (x : S61) : Prop := ((fun n : Int => (Lit.int .i64 n).wf = true) x.f0 ∧ (fun l : List (Int) => l.length * 8 ≤ reachBytes ∧ ∀ x ∈ l, (fun n : Int => (Lit.int .i64 n).wf = true) x) x.f1)
def wt61 (x : S61) : Nat := ((fun _ : Int => 1) x.f0 + (fun l : List (Int) => szList (fun _ : Int => 1) l + 1) x.f1) + 1
theorem opens_k61 (b : Nat) : Opens b Tryd.prog 61 k61 ok61 wt61 := by
 have hS : Opens (b + 1) Tryd.prog 61 (Kd.pair (Kd.int .i64) (Kd.slice 3 (Kd.int .i64))) (fun p : (Int) × (List (Int)) => (fun n : Int => (Lit.int .i64 n).wf = true) p.1 ∧ (fun l : List (Int) => l.length * 8 ≤ reachBytes ∧ ∀ x ∈ l, (fun n : Int => (Lit.int .i64 n).wf = true) x) p.2) (fun v => (fun p : (Int) × (List (Int)) => (fun _ : Int => 1) p.1 + (fun l : List (Int) => szList (fun _ : Int => 1) l + 1) p.2) v + 1) := by
  refine opens_struct Tryd.underlying61 (by kernel_rfl) ?_
  refine opensF_cons (ok1 := (fun n : Int => (Lit.int .i64 n).wf = true)) (ok2 := (fun l : List (Int) => l.length * 8 ≤ reachBytes ∧ ∀ x ∈ l, (fun n : Int => (Lit.int .i64 n).wf = true) x)) (sz1 := (fun _ : Int => 1)) (sz2 := (fun l : List (Int) => szList (fun _ : Int => 1) l + 1)) (opens_int .i64 Tryd.underlying59 (by kernel_rfl)) rfl (by kernel_rfl) ?_
  exact opensF_one (ok := (fun l : List (Int) => l.length * 8 ≤ reachBytes ∧ ∀ x ∈ l, (fun n : Int => (Lit.int .i64 n).wf = true) x)) (sz := (fun l : List (Int) => szList (fun _ : Int => 1) l + 1)) (opens_slice Tryd.underlying56 (by kernel_rfl) (B := 8) (by kernel_rfl) (opens_int .i64 Tryd.underlying3 (by kernel_rfl))) rfl (by kernel_rfl)
 have hI := opens_iso (fun x : S61 => (x.f0, x.f1)) (fun p => ⟨p.1, p.2⟩) (fun _ => rfl) hS
 exact (hI.imp (fun _ h => h) (fun _ => Nat.le_refl _)).le (Nat.le_succ b)
theorem ok61_iff (x : S61) : ok61 x ↔ ((Lit.int .i64 x.f0).wf = true ∧ (x.f1.length * 8 ≤ reachBytes ∧ ∀ y ∈ x.f1, (Lit.int .i64 y).wf = true)) := Iff.rfl
def ok40 (x : S40) : Prop := ((fun l : List (ByteArray) => l.length * 16 ≤ reachBytes ∧ ∀ x ∈ l, (fun s : ByteArray => s.size ≤ reachBytes) x) x.f0 ∧ ((fun l : List (ByteArray) => l.length * 16 ≤ reachBytes ∧ ∀ x ∈ l, (fun s : ByteArray => s.size ≤ reachBytes) x) x.f1 ∧ ((fun l : List (Int) => l.length * 8 ≤ reachBytes ∧ ∀ x ∈ l, (fun n : Int => (Lit.int .i64 n).wf = true) x) x.f2 ∧ ((fun l : List (S58) => l.length * 80 ≤ reachBytes ∧ ∀ x ∈ l, ok58 x) x.f3 ∧ (fun l : List (S61) => l.length * 32 ≤ reachBytes ∧ ∀ x ∈ l, ok61 x) x.f4))))
def wt40 (x : S40) : Nat := ((fun l : List (ByteArray) => szList (fun s : ByteArray => s.size + 1) l + 1) x.f0 + ((fun l : List (ByteArray) => szList (fun s : ByteArray => s.size + 1) l + 1) x.f1 + ((fun l : List (Int) => szList (fun _ : Int => 1) l + 1) x.f2 + ((fun l : List (S58) => szList wt58 l + 1) x.f3 + (fun l : List (S61) => szList wt61 l + 1) x.f4)))) + 1
theorem opens_k40 (b : Nat) : Opens b Tryd.prog 40 k40 ok40 wt40 := by
 have hS : Opens (b + 1) Tryd.prog 40 (Kd.pair (Kd.slice 9 Kd.string) (Kd.pair (Kd.slice 9 Kd.string) (Kd.pair (Kd.slice 75 (Kd.int .i64)) (Kd.pair (Kd.slice 58 k58) (Kd.slice 61 k61))))) (fun p : (List (ByteArray)) × (List (ByteArray)) × (List (Int)) × (List (S58)) × (List (S61)) => (fun l : List (ByteArray) => l.length * 16 ≤ reachBytes ∧ ∀ x ∈ l, (fun s : ByteArray => s.size ≤ reachBytes) x) p.1 ∧ (fun p : (List (ByteArray)) × (List (Int)) × (List (S58)) × (List (S61)) => (fun l : List (ByteArray) => l.length * 16 ≤ reachBytes ∧ ∀ x ∈ l, (fun s : ByteArray => s.size ≤ reachBytes) x) p.1 ∧ (fun p : (List (Int)) × (List (S58)) × (List (S61)) => (fun l : List (Int) => l.length * 8 ≤ reachBytes ∧ ∀ x ∈ l, (fun n : Int => (Lit.int .i64 n).wf = true) x) p.1 ∧ (fun p : (List (S58)) × (List (S61)) => (fun l : List (S58) => l.length * 80 ≤ reachBytes ∧ ∀ x ∈ l, ok58 x) p.1 ∧ (fun l : List (S61) => l.length * 32 ≤ reachBytes ∧ ∀ x ∈ l, ok61 x) p.2) p.2) p.2) p.2) (fun v => (fun p : (List (ByteArray)) × (List (ByteArray)) × (List (Int)) × (List (S58)) × (List (S61)) => (fun l : List (ByteArray) => szList (fun s : ByteArray => s.size + 1) l + 1) p.1 + (fun p : (List (ByteArray)) × (List (Int)) × (List (S58)) × (List (S61)) => (fun l : List (ByteArray) => szList (fun s : ByteArray => s.size + 1) l + 1) p.1 + (fun p : (List (Int)) × (List (S58)) × (List (S61)) => (fun l : List (Int) => szList (fun _ : Int => 1) l + 1) p.1 + (fun p : (List (S58)) × (List (S61)) => (fun l : List (S58) => szList wt58 l + 1) p.1 + (fun l : List (S61) => szList wt61 l + 1) p.2) p.2) p.2) p.2) v + 1) := by
  refine opens_struct Tryd.underlying40 (by kernel_rfl) ?_
  refine opensF_cons (ok1 := (fun l : List (ByteArray) => l.length * 16 ≤ reachBytes ∧ ∀ x ∈ l, (fun s : ByteArray => s.size ≤ reachBytes) x)) (ok2 := (fun p : (List (ByteArray)) × (List (Int)) × (List (S58)) × (List (S61)) => (fun l : List (ByteArray) => l.length * 16 ≤ reachBytes ∧ ∀ x ∈ l, (fun s : ByteArray => s.size ≤ reachBytes) x) p.1 ∧ (fun p : (List (Int)) × (List (S58)) × (List (S61)) => (fun l : List (Int) => l.length * 8 ≤ reachBytes ∧ ∀ x ∈ l, (fun n : Int => (Lit.int .i64 n).wf = true) x) p.1 ∧ (fun p : (List (S58)) × (List (S61)) => (fun l : List (S58) => l.length * 80 ≤ reachBytes ∧ ∀ x ∈ l, ok58 x) p.1 ∧ (fun l : List (S61) => l.length * 32 ≤ reachBytes ∧ ∀ x ∈ l, ok61 x) p.2) p.2) p.2)) (sz1 := (fun l : List (ByteArray) => szList (fun s : ByteArray => s.size + 1) l + 1)) (sz2 := (fun p : (List (ByteArray)) × (List (Int)) × (List (S58)) × (List (S61)) => (fun l : List (ByteArray) => szList (fun s : ByteArray => s.size + 1) l + 1) p.1 + (fun p : (List (Int)) × (List (S58)) × (List (S61)) => (fun l : List (Int) => szList (fun _ : Int => 1) l + 1) p.1 + (fun p : (List (S58)) × (List (S61)) => (fun l : List (S58) => szList wt58 l + 1) p.1 + (fun l : List (S61) => szList wt61 l + 1) p.2) p.2) p.2)) (opens_slice Tryd.underlying35 (by kernel_rfl) (B := 16) (by kernel_rfl) (opens_string Tryd.underlying9 (by kernel_rfl))) rfl (by kernel_rfl) ?_
  refine opensF_cons (ok1 := (fun l : List (ByteArray) => l.length * 16 ≤ reachBytes ∧ ∀ x ∈ l, (fun s : ByteArray => s.size ≤ reachBytes) x)) (ok2 := (fun p : (List (Int)) × (List (S58)) × (List (S61)) => (fun l : List (Int) => l.length * 8 ≤ reachBytes ∧ ∀ x ∈ l, (fun n : Int => (Lit.int .i64 n).wf = true) x) p.1 ∧ (fun p : (List (S58)) × (List (S61)) => (fun l : List (S58) => l.length * 80 ≤ reachBytes ∧ ∀ x ∈ l, ok58 x) p.1 ∧ (fun l : List (S61) => l.length * 32 ≤ reachBytes ∧ ∀ x ∈ l, ok61 x) p.2) p.2)) (sz1 := (fun l : List (ByteArray) => szList (fun s : ByteArray => s.size + 1) l + 1)) (sz2 := (fun p : (List (Int)) × (List (S58)) × (List (S61)) => (fun l : List (Int) => szList (fun _ : Int => 1) l + 1) p.1 + (fun p : (List (S58)) × (List (S61)) => (fun l : List (S58) => szList wt58 l + 1) p.1 + (fun l : List (S61) => szList wt61 l + 1) p.2) p.2)) (opens_slice Tryd.underlying35 (by kernel_rfl) (B := 16) (by kernel_rfl) (opens_string Tryd.underlying9 (by kernel_rfl))) rfl (by kernel_rfl) ?_
  refine opensF_cons (ok1 := (fun l : List (Int) => l.length * 8 ≤ reachBytes ∧ ∀ x ∈ l, (fun n : Int => (Lit.int .i64 n).wf = true) x)) (ok2 := (fun p : (List (S58)) × (List (S61)) => (fun l : List (S58) => l.length * 80 ≤ reachBytes ∧ ∀ x ∈ l, ok58 x) p.1 ∧ (fun l : List (S61) => l.length * 32 ≤ reachBytes ∧ ∀ x ∈ l, ok61 x) p.2)) (sz1 := (fun l : List (Int) => szList (fun _ : Int => 1) l + 1)) (sz2 := (fun p : (List (S58)) × (List (S61)) => (fun l : List (S58) => szList wt58 l + 1) p.1 + (fun l : List (S61) => szList wt61 l + 1) p.2)) (opens_slice Tryd.underlying36 (by kernel_rfl) (B := 8) (by kernel_rfl) (opens_int .i64 Tryd.underlying75 (by kernel_rfl))) rfl (by kernel_rfl) ?_
  refine opensF_cons (ok1 := (fun l : List (S58) => l.length * 80 ≤ reachBytes ∧ ∀ x ∈ l, ok58 x)) (ok2 := (fun l : List (S61) => l.length * 32 ≤ reachBytes ∧ ∀ x ∈ l, ok61 x)) (sz1 := (fun l : List (S58) => szList wt58 l + 1)) (sz2 := (fun l : List (S61) => szList wt61 l + 1)) (opens_slice Tryd.underlying37 (by kernel_rfl) (B := 80) (by kernel_rfl) (opens_k58 _)) rfl (by kernel_rfl) ?_
  exact opensF_one (ok := (fun l : List (S61) => l.length * 32 ≤ reachBytes ∧ ∀ x ∈ l, ok61 x)) (sz := (fun l : List (S61) => szList wt61 l + 1)) (opens_slice Tryd.underlying38 (by kernel_rfl) (B := 32) (by kernel_rfl) (opens_k61 _)) rfl (by kernel_rfl)
 have hI := opens_iso (fun x : S40 => (x.f0, x.f1, x.f2, x.f3, x.f4)) (fun p => ⟨p.1, p.2.1, p.2.2.1, p.2.2.2.1, p.2.2.2.2⟩) (fun _ => rfl) hS
 exact (hI.imp (fun _ h => h) (fun _ => Nat.le_refl _)).le (Nat.le_succ b)
theorem ok40_iff (x : S40) : ok40 x ↔ ((x.f0.length * 16 ≤ reachBytes ∧ ∀ y ∈ x.f0, y.size ≤ reachBytes) ∧ ((x.f1.length * 16 ≤ reachBytes ∧ ∀ y ∈ x.f1, y.size ≤ reachBytes) ∧ ((x.f2.length * 8 ≤ reachBytes ∧ ∀ y ∈ x.f2, (Lit.int .i64 y).wf = true) ∧ ((x.f3.length * 80 ≤ reachBytes ∧ ∀ y ∈ x.f3, ok58 y) ∧ (x.f4.length * 32 ≤ reachBytes ∧ ∀ y ∈ x.f4, ok61 y))))) := Iff.rfl
def ok46 (x : S46) : Prop := ((fun n : Int => (Lit.int .i64 n).wf = true) x.f0 ∧ ((fun n : Int => (Lit.int .i64 n).wf = true) x.f1 ∧ (fun s : ByteArray => s.size ≤ reachBytes) x.f2))
def wt46 (x : S46) : Nat := ((fun _ : Int => 1) x.f0 + ((fun _ : Int => 1) x.f1 + (fun s : ByteArray => s.size + 1) x.f2)) + 1
theorem opens_k46 (b : Nat) : Opens b Tryd.prog 46 k46 ok46 wt46 := by
 have hS : Opens (b + 1) Tryd.prog 46 (Kd.pair (Kd.int .i64) (Kd.pair (Kd.int .i64) Kd.string)) (fun p : (Int) × (Int) × (ByteArray) => (fun n : Int => (Lit.int .i64 n).wf = true) p.1 ∧ (fun p : (Int) × (ByteArray) => (fun n : Int => (Lit.int .i64 n).wf = true) p.1 ∧ (fun s : ByteArray => s.size ≤ reachBytes) p.2) p.2) (fun v => (fun p : (Int) × (Int) × (ByteArray) => (fun _ : Int => 1) p.1 + (fun p : (Int) × (ByteArray) => (fun _ : Int => 1) p.1 + (fun s : ByteArray => s.size + 1) p.2) p.2) v + 1) := by
  refine opens_struct Tryd.underlying46 (by kernel_rfl) ?_
  refine opensF_cons (ok1 := (fun n : Int => (Lit.int .i64 n).wf = true)) (ok2 := (fun p : (Int) × (ByteArray) => (fun n : Int => (Lit.int .i64 n).wf = true) p.1 ∧ (fun s : ByteArray => s.size ≤ reachBytes) p.2)) (sz1 := (fun _ : Int => 1)) (sz2 := (fun p : (Int) × (ByteArray) => (fun _ : Int => 1) p.1 + (fun s : ByteArray => s.size + 1) p.2)) (opens_int .i64 Tryd.underlying44 (by kernel_rfl)) rfl (by kernel_rfl) ?_
  refine opensF_cons (ok1 := (fun n : Int => (Lit.int .i64 n).wf = true)) (ok2 := (fun s : ByteArray => s.size ≤ reachBytes)) (sz1 := (fun _ : Int => 1)) (sz2 := (fun s : ByteArray => s.size + 1)) (opens_int .i64 Tryd.underlying3 (by kernel_rfl)) rfl (by kernel_rfl) ?_
  exact opensF_one (ok := (fun s : ByteArray => s.size ≤ reachBytes)) (sz := (fun s : ByteArray => s.size + 1)) (opens_string Tryd.underlying9 (by kernel_rfl)) rfl (by kernel_rfl)
 have hI := opens_iso (fun x : S46 => (x.f0, x.f1, x.f2)) (fun p => ⟨p.1, p.2.1, p.2.2⟩) (fun _ => rfl) hS
 exact (hI.imp (fun _ h => h) (fun _ => Nat.le_refl _)).le (Nat.le_succ b)
theorem ok46_iff (x : S46) : ok46 x ↔ ((Lit.int .i64 x.f0).wf = true ∧ ((Lit.int .i64 x.f1).wf = true ∧ x.f2.size ≤ reachBytes)) := Iff.rfl
mutual
def ok26 : S26 → Prop
 | ⟨f0, f1, f2, f3, f4, f5, f6⟩ => ((fun n : Int => (Lit.int .i64 n).wf = true) f0 ∧ ((fun n : Int => (Lit.int .i64 n).wf = true) f1 ∧ ((fun n : Int => (Lit.int .i64 n).wf = true) f2 ∧ ((fun n : Int => (Lit.int .i64 n).wf = true) f3 ∧ ((fun l : List (S46) => l.length * 32 ≤ reachBytes ∧ ∀ x ∈ l, ok46 x) f4 ∧ ((fun s : ByteArray => s.size ≤ reachBytes) f5 ∧ (f6.length * 96 ≤ reachBytes ∧ ok26L f6)))))))
def ok26L : List S26 → Prop
 | [] => True
 | x :: r => ok26 x ∧ ok26L r
end
theorem ok26L_iff : ∀ l : List S26, ok26L l ↔ ∀ y ∈ l, ok26 y
 | [] => by simp [ok26L]
 | x :: r => by simp [ok26L, ok26L_iff r]
theorem ok26_iff' (x : S26) : ok26 x ↔ ((fun n : Int => (Lit.int .i64 n).wf = true) x.f0 ∧ ((fun n : Int => (Lit.int .i64 n).wf = true) x.f1 ∧ ((fun n : Int => (Lit.int .i64 n).wf = true) x.f2 ∧ ((fun n : Int => (Lit.int .i64 n).wf = true) x.f3 ∧ ((fun l : List (S46) => l.length * 32 ≤ reachBytes ∧ ∀ x ∈ l, ok46 x) x.f4 ∧ ((fun s : ByteArray => s.size ≤ reachBytes) x.f5 ∧ (x.f6.length * 96 ≤ reachBytes ∧ ∀ y ∈ x.f6, ok26 y))))))) := by cases x; simp only [ok26, ok26L_iff]
theorem opens_u26 (b : Nat) : Opens b Tryd.prog 26 (Kd.upto F26 7 [26, 46] b) ok26 (fun _ => 0) := by
 induction b with
 | zero => exact opens_zero (by kernel_rfl)
 | succ b ih =>
  have hS : Opens (b + 1) Tryd.prog 26 (Kd.pair (Kd.int .i64) (Kd.pair (Kd.int .i64) (Kd.pair (Kd.int .i64) (Kd.pair (Kd.int .i64) (Kd.pair (Kd.slice 46 k46) (Kd.pair Kd.string (Kd.slice 26 (Kd.upto F26 7 [26, 46] b)))))))) (fun p : (Int) × (Int) × (Int) × (Int) × (List (S46)) × (ByteArray) × (List S26) => (fun n : Int => (Lit.int .i64 n).wf = true) p.1 ∧ (fun p : (Int) × (Int) × (Int) × (List (S46)) × (ByteArray) × (List S26) => (fun n : Int => (Lit.int .i64 n).wf = true) p.1 ∧ (fun p : (Int) × (Int) × (List (S46)) × (ByteArray) × (List S26) => (fun n : Int => (Lit.int .i64 n).wf = true) p.1 ∧ (fun p : (Int) × (List (S46)) × (ByteArray) × (List S26) => (fun n : Int => (Lit.int .i64 n).wf = true) p.1 ∧ (fun p : (List (S46)) × (ByteArray) × (List S26) => (fun l : List (S46) => l.length * 32 ≤ reachBytes ∧ ∀ x ∈ l, ok46 x) p.1 ∧ (fun p : (ByteArray) × (List S26) => (fun s : ByteArray => s.size ≤ reachBytes) p.1 ∧ (fun l : List S26 => l.length * 96 ≤ reachBytes ∧ ∀ x ∈ l, ok26 x) p.2) p.2) p.2) p.2) p.2) p.2) (fun v => (fun p : (Int) × (Int) × (Int) × (Int) × (List (S46)) × (ByteArray) × (List S26) => (fun _ : Int => 1) p.1 + (fun p : (Int) × (Int) × (Int) × (List (S46)) × (ByteArray) × (List S26) => (fun _ : Int => 1) p.1 + (fun p : (Int) × (Int) × (List (S46)) × (ByteArray) × (List S26) => (fun _ : Int => 1) p.1 + (fun p : (Int) × (List (S46)) × (ByteArray) × (List S26) => (fun _ : Int => 1) p.1 + (fun p : (List (S46)) × (ByteArray) × (List S26) => (fun l : List (S46) => szList wt46 l + 1) p.1 + (fun p : (ByteArray) × (List S26) => (fun s : ByteArray => s.size + 1) p.1 + (fun l : List S26 => szList (fun _ => 0) l + 1) p.2) p.2) p.2) p.2) p.2) p.2) v + 1) := by
   refine opens_struct Tryd.underlying26 (by kernel_rfl) ?_
   refine opensF_cons (ok1 := (fun n : Int => (Lit.int .i64 n).wf = true)) (ok2 := (fun p : (Int) × (Int) × (Int) × (List (S46)) × (ByteArray) × (List S26) => (fun n : Int => (Lit.int .i64 n).wf = true) p.1 ∧ (fun p : (Int) × (Int) × (List (S46)) × (ByteArray) × (List S26) => (fun n : Int => (Lit.int .i64 n).wf = true) p.1 ∧ (fun p : (Int) × (List (S46)) × (ByteArray) × (List S26) => (fun n : Int => (Lit.int .i64 n).wf = true) p.1 ∧ (fun p : (List (S46)) × (ByteArray) × (List S26) => (fun l : List (S46) => l.length * 32 ≤ reachBytes ∧ ∀ x ∈ l, ok46 x) p.1 ∧ (fun p : (ByteArray) × (List S26) => (fun s : ByteArray => s.size ≤ reachBytes) p.1 ∧ (fun l : List S26 => l.length * 96 ≤ reachBytes ∧ ∀ x ∈ l, ok26 x) p.2) p.2) p.2) p.2) p.2)) (sz1 := (fun _ : Int => 1)) (sz2 := (fun p : (Int) × (Int) × (Int) × (List (S46)) × (ByteArray) × (List S26) => (fun _ : Int => 1) p.1 + (fun p : (Int) × (Int) × (List (S46)) × (ByteArray) × (List S26) => (fun _ : Int => 1) p.1 + (fun p : (Int) × (List (S46)) × (ByteArray) × (List S26) => (fun _ : Int => 1) p.1 + (fun p : (List (S46)) × (ByteArray) × (List S26) => (fun l : List (S46) => szList wt46 l + 1) p.1 + (fun p : (ByteArray) × (List S26) => (fun s : ByteArray => s.size + 1) p.1 + (fun l : List S26 => szList (fun _ => 0) l + 1) p.2) p.2) p.2) p.2) p.2)) (opens_int .i64 Tryd.underlying3 (by kernel_rfl)) rfl (by kernel_rfl) ?_
   refine opensF_cons (ok1 := (fun n : Int => (Lit.int .i64 n).wf = true)) (ok2 := (fun p : (Int) × (Int) × (List (S46)) × (ByteArray) × (List S26) => (fun n : Int => (Lit.int .i64 n).wf = true) p.1 ∧ (fun p : (Int) × (List (S46)) × (ByteArray) × (List S26) => (fun n : Int => (Lit.int .i64 n).wf = true) p.1 ∧ (fun p : (List (S46)) × (ByteArray) × (List S26) => (fun l : List (S46) => l.length * 32 ≤ reachBytes ∧ ∀ x ∈ l, ok46 x) p.1 ∧ (fun p : (ByteArray) × (List S26) => (fun s : ByteArray => s.size ≤ reachBytes) p.1 ∧ (fun l : List S26 => l.length * 96 ≤ reachBytes ∧ ∀ x ∈ l, ok26 x) p.2) p.2) p.2) p.2)) (sz1 := (fun _ : Int => 1)) (sz2 := (fun p : (Int) × (Int) × (List (S46)) × (ByteArray) × (List S26) => (fun _ : Int => 1) p.1 + (fun p : (Int) × (List (S46)) × (ByteArray) × (List S26) => (fun _ : Int => 1) p.1 + (fun p : (List (S46)) × (ByteArray) × (List S26) => (fun l : List (S46) => szList wt46 l + 1) p.1 + (fun p : (ByteArray) × (List S26) => (fun s : ByteArray => s.size + 1) p.1 + (fun l : List S26 => szList (fun _ => 0) l + 1) p.2) p.2) p.2) p.2)) (opens_int .i64 Tryd.underlying3 (by kernel_rfl)) rfl (by kernel_rfl) ?_
   refine opensF_cons (ok1 := (fun n : Int => (Lit.int .i64 n).wf = true)) (ok2 := (fun p : (Int) × (List (S46)) × (ByteArray) × (List S26) => (fun n : Int => (Lit.int .i64 n).wf = true) p.1 ∧ (fun p : (List (S46)) × (ByteArray) × (List S26) => (fun l : List (S46) => l.length * 32 ≤ reachBytes ∧ ∀ x ∈ l, ok46 x) p.1 ∧ (fun p : (ByteArray) × (List S26) => (fun s : ByteArray => s.size ≤ reachBytes) p.1 ∧ (fun l : List S26 => l.length * 96 ≤ reachBytes ∧ ∀ x ∈ l, ok26 x) p.2) p.2) p.2)) (sz1 := (fun _ : Int => 1)) (sz2 := (fun p : (Int) × (List (S46)) × (ByteArray) × (List S26) => (fun _ : Int => 1) p.1 + (fun p : (List (S46)) × (ByteArray) × (List S26) => (fun l : List (S46) => szList wt46 l + 1) p.1 + (fun p : (ByteArray) × (List S26) => (fun s : ByteArray => s.size + 1) p.1 + (fun l : List S26 => szList (fun _ => 0) l + 1) p.2) p.2) p.2)) (opens_int .i64 Tryd.underlying3 (by kernel_rfl)) rfl (by kernel_rfl) ?_
   refine opensF_cons (ok1 := (fun n : Int => (Lit.int .i64 n).wf = true)) (ok2 := (fun p : (List (S46)) × (ByteArray) × (List S26) => (fun l : List (S46) => l.length * 32 ≤ reachBytes ∧ ∀ x ∈ l, ok46 x) p.1 ∧ (fun p : (ByteArray) × (List S26) => (fun s : ByteArray => s.size ≤ reachBytes) p.1 ∧ (fun l : List S26 => l.length * 96 ≤ reachBytes ∧ ∀ x ∈ l, ok26 x) p.2) p.2)) (sz1 := (fun _ : Int => 1)) (sz2 := (fun p : (List (S46)) × (ByteArray) × (List S26) => (fun l : List (S46) => szList wt46 l + 1) p.1 + (fun p : (ByteArray) × (List S26) => (fun s : ByteArray => s.size + 1) p.1 + (fun l : List S26 => szList (fun _ => 0) l + 1) p.2) p.2)) (opens_int .i64 Tryd.underlying22 (by kernel_rfl)) rfl (by kernel_rfl) ?_
   refine opensF_cons (ok1 := (fun l : List (S46) => l.length * 32 ≤ reachBytes ∧ ∀ x ∈ l, ok46 x)) (ok2 := (fun p : (ByteArray) × (List S26) => (fun s : ByteArray => s.size ≤ reachBytes) p.1 ∧ (fun l : List S26 => l.length * 96 ≤ reachBytes ∧ ∀ x ∈ l, ok26 x) p.2)) (sz1 := (fun l : List (S46) => szList wt46 l + 1)) (sz2 := (fun p : (ByteArray) × (List S26) => (fun s : ByteArray => s.size + 1) p.1 + (fun l : List S26 => szList (fun _ => 0) l + 1) p.2)) (opens_slice Tryd.underlying23 (by kernel_rfl) (B := 32) (by kernel_rfl) (opens_k46 _)) rfl (by kernel_rfl) ?_
   refine opensF_cons (ok1 := (fun s : ByteArray => s.size ≤ reachBytes)) (ok2 := (fun l : List S26 => l.length * 96 ≤ reachBytes ∧ ∀ x ∈ l, ok26 x)) (sz1 := (fun s : ByteArray => s.size + 1)) (sz2 := (fun l : List S26 => szList (fun _ => 0) l + 1)) (opens_string Tryd.underlying9 (by kernel_rfl)) rfl (by kernel_rfl) ?_
   exact opensF_one (ok := (fun l : List S26 => l.length * 96 ≤ reachBytes ∧ ∀ x ∈ l, ok26 x)) (sz := (fun l : List S26 => szList (fun _ => 0) l + 1)) (opens_slice Tryd.underlying24 (by kernel_rfl) (B := 96) (by kernel_rfl) ih) rfl (by kernel_rfl)
  have hI := opens_iso (fun x : S26 => (x.f0, x.f1, x.f2, x.f3, x.f4, x.f5, x.f6)) (fun p => ⟨p.1, p.2.1, p.2.2.1, p.2.2.2.1, p.2.2.2.2.1, p.2.2.2.2.2.1, p.2.2.2.2.2.2⟩) (fun _ => rfl) hS
  exact hI.imp (fun x h => (ok26_iff' x).2 h) (fun _ => Nat.zero_le _)
theorem opens_k26 (b : Nat) : Opens b Tryd.prog 26 k26 ok26 (fun _ => 0) := (opens_u26 b).kind (sz26 b).symm (fun w x cs h => ⟨b, h⟩)
def wt26 (x : S26) : Nat := 0
theorem ok26_iff (x : S26) : ok26 x ↔ ((fun n : Int => (Lit.int .i64 n).wf = true) x.f0 ∧ ((fun n : Int => (Lit.int .i64 n).wf = true) x.f1 ∧ ((fun n : Int => (Lit.int .i64 n).wf = true) x.f2 ∧ ((fun n : Int => (Lit.int .i64 n).wf = true) x.f3 ∧ ((fun l : List (S46) => l.length * 32 ≤ reachBytes ∧ ∀ x ∈ l, ok46 x) x.f4 ∧ ((fun s : ByteArray => s.size ≤ reachBytes) x.f5 ∧ (x.f6.length * 96 ≤ reachBytes ∧ ∀ y ∈ x.f6, ok26 y))))))) := ok26_iff' x
end
section
open Go.Proofs.YtphmgaijkdflnaaDoorW.PrintWords Go.Proofs.YtphmgaijkdflnaaDoorW.PrintLast Go.Proofs.YtphmgaijkdflnaaDoorW.PrintMore
open Go.WideMaps Go.Maps
theorem ba_ext {a b : ByteArray} (h : a.data.toList = b.data.toList) : a = b := by
 cases a; cases b; simp_all
instance decBA : DecidableEq ByteArray := fun a b => decidable_of_iff (a.data.toList = b.data.toList) ⟨ba_ext, fun h => by rw [h]⟩
instance decMemBA (s : ByteArray) (l : List ByteArray) : Decidable (s ∈ l) := decidable_of_iff (l.any (fun y => decide (y = s)) = true) (by simp)
theorem lit_ne {a b : ByteArray} (h : a ≠ b) : (Lit.string a.data.toList) ≠ .string b.data.toList := fun he => h (by injection he with he; exact ba_ext he)
theorem rdOf_nat {α : Type} (z : α) (l : List α) (k : Nat) (h : k < l.length) : rdOf z l (k : Int) = l[k] := by
 simp [rdOf, List.getD_eq_getElem?_getD, List.getElem?_eq_getElem h]
theorem take_rd {α : Type} (z : α) (l : List α) (k : Nat) (h : k < l.length) : l.take (k + 1) = l.take k ++ [rdOf z l (k : Int)] := by
 rw [List.take_succ_eq_append_getElem h, rdOf_nat z l k h]
theorem at_string_nat {w : World} {A : Option Addr} {n : Nat} {xs : List ByteArray} (h : Kd.string.C w A n xs) (k : Nat) (hk : k < n) : ∃ ad, A = some ad ∧ w.cell? (ad.add k) = some (.string (rdOf ByteArray.empty xs (k : Int))) := by
 obtain ⟨ad, e, hc⟩ := Kd.at_string h (k : Int) (by omega) (by omega)
 exact ⟨ad, e, by rwa [Int.toNat_natCast] at hc⟩
theorem owns_drewN {H : Type} {P : Program} {k : TypeId} {R : Value → Option (DataW H × List MemPlace)} {w : World} {b n : Nat} {D : DataW H} (h : w.ownsMap P k R b n D) (N : Nat) : (w.drewN N).ownsMap P k R b n D := h
theorem lit_int_inj {H : Type} {d : DataW H} {a b : Int} (h : d = .lit (.int .i64 a)) (k : d = .lit (.int .i64 b)) : a = b := by
 have e := h.symm.trans k
 injection e with e
 injection e
theorem law_string : Keyed Tryd.prog 9 := string_keyed Tryd.underlying9
theorem zero_int (w : World) : (zeroValue 3).run Tryd.prog w = .ok (.int .i64 0) w := by kernel_rfl
end
section
open Go.Proofs.YtphmgaijkdflnaaDoorW.PrintWords Go.Proofs.YtphmgaijkdflnaaDoorW.PrintLast Go.Proofs.YtphmgaijkdflnaaDoorW.PrintMore
def Ends {α : Type} (g : Nat → Option α) (v : α) : Prop := ∃ k0, ∀ k, k0 ≤ k → g k = some v
theorem Ends.const {α : Type} (v : α) : Ends (fun _ => some v) v := ⟨0, fun _ _ => rfl⟩
theorem Ends.of_mono {α : Type} {g : Nat → Option α} {v : α} (hm : ∀ k, LeO (g k) (g (k + 1))) (h : ∃ k, g k = some v) : Ends g v := by
 obtain ⟨k, hk⟩ := h
 refine ⟨k, fun m hmk => ?_⟩
 induction m with
 | zero =>
  obtain rfl : k = 0 := by omega
  exact hk
 | succ m ih =>
  rcases Nat.lt_or_ge k (m + 1) with q | q
  ·exact hm m v (ih (by omega))
  ·obtain rfl : k = m + 1 := by omega
   exact hk
theorem Ends.step {α : Type} {g h : Nat → Option α} {v : α} (e : ∀ k, g (k + 1) = h k) (hh : Ends h v) : Ends g v := by
 obtain ⟨k0, hk⟩ := hh
 refine ⟨k0 + 1, fun k hk1 => ?_⟩
 obtain ⟨m, rfl⟩ : ∃ m, k = m + 1 := ⟨k - 1, by omega⟩
 rw [e]; exact hk m (by omega)
theorem Ends.bind {α β : Type} {f : Nat → Option α} {g : Nat → α → Option β} {a : α} {v : β} (hf : Ends f a) (hg : Ends (fun k => g k a) v) : Ends (fun k => (f k).bind (g k)) v := by
 obtain ⟨k1, h1⟩ := hf
 obtain ⟨k2, h2⟩ := hg
 refine ⟨k1 + k2, fun k hk => ?_⟩
 show (f k).bind (g k) = some v
 rw [h1 k (by omega)]; exact h2 k (by omega)
theorem Ends.bind0 {α β : Type} {f : Option α} {g : Nat → α → Option β} {a : α} {v : β} (hf : f = some a) (hg : Ends (fun k => g k a) v) : Ends (fun k => f.bind (g k)) v := by
 subst hf; exact hg
theorem Ends.pos {α : Type} {c : Prop} {d : Decidable c} {f g : Nat → Option α} {v : α} (hc : c) (h : Ends f v) : Ends (fun k => @ite _ c d (f k) (g k)) v := by
 obtain ⟨k0, hk⟩ := h
 exact ⟨k0, fun k hk1 => by simp only [if_pos hc]; exact hk k hk1⟩
theorem Ends.neg {α : Type} {c : Prop} {d : Decidable c} {f g : Nat → Option α} {v : α} (hc : ¬ c) (h : Ends g v) : Ends (fun k => @ite _ c d (f k) (g k)) v := by
 obtain ⟨k0, hk⟩ := h
 exact ⟨k0, fun k hk1 => by simp only [if_neg hc]; exact hk k hk1⟩
theorem Ends.get {α : Type} {g : Nat → Option α} {v : α} (h : Ends g v) : ∃ k, g k = some v := by
 obtain ⟨k0, hk⟩ := h
 exact ⟨k0, hk k0 (Nat.le_refl _)⟩
theorem Ends.cast {α : Type} {g h : Nat → Option α} {v : α} (hh : Ends h v) (e : ∀ k, g k = h k) : Ends g v := by
 obtain ⟨k0, hk⟩ := hh
 exact ⟨k0, fun k hk1 => (e k).trans (hk k hk1)⟩
theorem Ends.val {α : Type} {g : Nat → Option α} {v w : α} (h : Ends g v) (e : v = w) : Ends g w := e ▸ h
end
section
open Go.Proofs.YtphmgaijkdflnaaDoorW.PrintWords Go.Proofs.YtphmgaijkdflnaaDoorW.PrintLast Go.Proofs.YtphmgaijkdflnaaDoorW.PrintMore
section
variable {P : Program} {ops : Array Oper} {rest : List Oper} {o : Oper} {a : Act} {Q : Exit → Act → World → Prop} {W : World} {α : Type}
theorem Kd.R_makecap (d : Kd α) {w0 W : World} (base e : Nat) (hgd : o.guard = none) {N : Tmp} (hd : o.dst = some N) (t : TypeId) (x y : Operand) (ho : o.op = .makeSlice t x y) (n : Int) (hx : a.eval x = .int .i64 0) (hy : a.eval y = .int .i64 n)
  (ht : P.underlying t = some (.slice e)) (z : Value) (bytes : Nat) (hinfo : (P.info? e).map (fun i => (i.zero, i.size, i.bytes)) = some (some z, d.sz, bytes)) (hz : z.cells.size = d.sz) (hs0 : 0 < d.sz) (hb0 : 0 < bytes)
  (z0 : α) {ok okp : Nat → Prop} (hzero : d.M W base okp z0 z.cells.toList) (hok : ∀ k, okp k → ok k) (hfresh : ok W.heap.size) (h0 : 0 ≤ n) (hl : n.toNat * bytes ≤ 281474976710656) (HB : Below base w0 W) (hbase : base ≤ W.heap.size)
  (h : ∀ v1 w1, d.R e w1 base ok v1 (List.replicate 0 z0) → Below base w0 w1 → W.grownBy w1 none → (∃ b, v1.ownBlock = some b ∧ W.heap.size ≤ b) → wpList P ops Q rest (a.put o.dst v1) w1) : wpList P ops Q (o :: rest) a W := by
 obtain ⟨m, rfl⟩ := Int.eq_ofNat_of_zero_le h0
 simp only [Int.toNat_natCast] at hl
 obtain ⟨i0, hi, hzz⟩ := Option.map_eq_some_iff.1 hinfo
 simp only [Prod.mk.injEq] at hzz
 obtain ⟨hz0, hz1, hz2⟩ := hzz
 have hm : m ≤ 281474976710656 := Nat.le_trans (Nat.le_mul_of_pos_right _ hb0) hl
 have hr := run_make (P := P) W t e i0 z ht hi hz0 .i64 .i64 (0 : Int) (m : Int) (by omega) (by omega)
  (by
   have h3 : ((i0.bytes * m : Nat) : Int) ≤ 281474976710656 := by rw [hz2, Nat.mul_comm]; omega
   rwa [Int.natCast_mul] at h3) (by omega)
 simp only [Int.toNat_natCast, Int.toNat_zero] at hr
 rw [hz1] at hr
 have hrun : (execOp a.eval o).run P W = .ok (.value (.slice (some ⟨W.heap.size, 0, none⟩) 0 m)) (W.alloc (.cells (madeCells z.cells (m * d.sz)) e)) := by simp [execOp, ho, hx, hy, hr]
 refine Kd.event_run hgd hrun (h _ _ ⟨fun k hk => ?_, [], ?_, ?_⟩ (HB.alloc hbase _) (World.grownBy_alloc W _ none) ⟨W.heap.size, by simp [Value.ownBlock], Nat.le_refl _⟩)
 ·have : W.heap.size = k := by simpa [Value.ownBlock] using hk
  subst this
  exact hfresh
 ·have h2 := own_take (m := 0) (World.ownsRow_lit (base := base) (e := e) (size := d.sz) W (madeCells z.cells (m * d.sz)) m hbase (by simp only [maxLen]; omega) (by simp [size_madeCells])) (Nat.zero_le _)
  simpa using h2
 ·exact Reps.none _ _
end
end
section
open Go.Proofs.YtphmgaijkdflnaaDoorW.PrintWords Go.Proofs.YtphmgaijkdflnaaDoorW.PrintLast Go.Proofs.YtphmgaijkdflnaaDoorW.PrintMore
attribute [local go_sem] max2_int min2_int max_two min_two max_three min_three max_four min_four
def cst_own.l0 : Nat → List ByteArray → List (S46) → Int → Int → Int → Int → Int → Int → List (S46) → ByteArray → List (S26) → Option (List ByteArray)
 | 0, _, _, _, _, _, _, _, _, _, _, _ => none
 | k + 1, x3, x15, x16, x17, x124000, x124001, x124002, x124003, x124004, x124005, x124006 => if x17 < x16 then (if 0 ≤ x17 then (if x17 < (x15.length : Int) then (if x3.length < 8796093022208 then (cst_own.l0 k (x3 ++ [(rd_T46 x15 x17).f2]) x15 x16 (wrap64 (x17 + 1)) x124000 x124001 x124002 x124003 x124004 x124005 x124006) else (none)) else (none)) else (none)) else (if x3.length < 8796093022208 then (some (x3 ++ [x124005])) else (none))
def cst_own.f (k : Nat) (a0_0 : Int) (a0_1 : Int) (a0_2 : Int) (a0_3 : Int) (l0_4 : List (S46)) (a0_5 : ByteArray) (l0_6 : List (S26)) : Option (List ByteArray) := if a0_0 < 0 then (some ([] : List ByteArray)) else (if 0 ≤ (wrap64 ((l0_4.length : Int) + 1)) then (if (wrap64 ((l0_4.length : Int) + 1) : Int).toNat ≤ 17592186044416 then (cst_own.l0 k (List.replicate 0 (⟨#[]⟩ : ByteArray)) l0_4 (l0_4.length : Int) 0 a0_0 a0_1 a0_2 a0_3 l0_4 a0_5 l0_6) else (none)) else (none))
theorem cst_own.calls (k : Nat) (a0_0 : Int) (a0_1 : Int) (a0_2 : Int) (a0_3 : Int) (A0_4 : Option Addr) (c0_4 : Nat) (l0_4 : List (S46)) (a0_5 : ByteArray) (A0_6 : Option Addr) (c0_6 : Nat) (l0_6 : List (S26)) (r : List ByteArray) (w : World) (hr0_4 : Kd.C k46 w A0_4 l0_4.length l0_4) (hc0_4 : l0_4.length ≤ c0_4) (hr0_6 : Kd.C k26 w A0_6 l0_6.length l0_6) (hc0_6 : l0_6.length ≤ c0_6) (h : cst_own.f k a0_0 a0_1 a0_2 a0_3 l0_4 a0_5 l0_6 = some r) :
  Calls Tryd.prog 32 #[.agg #[.int .i64 a0_0, .int .i64 a0_1, .int .i64 a0_2, .int .i64 a0_3, .slice A0_4 l0_4.length c0_4, .string a0_5, .slice A0_6 l0_6.length c0_6]] w fun e w' => ∃ v0_ : Value, e = .returned (v0_) ∧ Kd.R Kd.string 9 w' w.heap.size (fun _ => True) v0_ r ∧ Below w.heap.size w w' := by
 have hu26 := Tryd.underlying26; have hu46 := Tryd.underlying46; have HR0_4 := qM hr0_4; have HC0_4 := qM hc0_4; clear hr0_4 hc0_4; have HR0_6 := qM hr0_6; have HC0_6 := qM hc0_6; clear hr0_6 hc0_6; have HB := qM (Below.refl w.heap.size w); have H : (if a0_0 < 0 then (some ([] : List ByteArray)) else (if 0 ≤ (wrap64 ((l0_4.length : Int) + 1)) then (if (wrap64 ((l0_4.length : Int) + 1) : Int).toNat ≤ 17592186044416 then (cst_own.l0 k (List.replicate 0 (⟨#[]⟩ : ByteArray)) l0_4 (l0_4.length : Int) 0 a0_0 a0_1 a0_2 a0_3 l0_4 a0_5 l0_6) else (none)) else (none))) = some r := h; clear h; have HH_ := qM H; clear H; (go_enter Tryd.func32, Tryd.ntmps32)
 go_upto_region 1 with (first | ((with_reducible refine gate_dst (N := 1) rfl ?_); refine box_event ?hg (N := 1) ?hd (cs := #[.int .i64 a0_0, .int .i64 a0_1, .int .i64 a0_2, .int .i64 a0_3, .slice A0_4 l0_4.length c0_4, .string a0_5, .slice A0_6 l0_6.length c0_6]) (t := 26) ?hr ?_; (case hd | hg => rfl); (case hr => first | (go_simp; done) | (go_simp; rfl)); intro gb123 hg w3 hbox hb; have BK123 := qM (hbox); have GW123 := qM (qG hg); have GE123 := GW123; replace HB := qM (qP qF hb); clear hb hbox hg; have hz4 := bx7 BK123.out))
 have H := HH_.out; clear HH_; (refine iteD ?_ ?_ H <;> clear H <;> intro c2b0 H)
 ·obtain rfl := Option.some.inj H
  go_wp2; (go_ret); exact ⟨_, qE, by first | exact Kd.R_nil _ _ _ _ _ | exact Kd.N_nil _ _ _ _ _ | exact Kd.V_nil _ _ _ _ _ | exact Kd.Q_nil _ _ _ _ _ | exact Kd.S_nil _ _ _ _ _, qF⟩
 ·obtain ⟨ji5, hji5⟩ : ∃ j_ : Int, (wrap64 ((l0_4.length : Int) + 1)) = j_ := ⟨_, rfl⟩
  (replace H : (if 0 ≤ (ji5) then (if (ji5 : Int).toNat ≤ 17592186044416 then (cst_own.l0 k (List.replicate 0 (⟨#[]⟩ : ByteArray)) l0_4 (l0_4.length : Int) 0 a0_0 a0_1 a0_2 a0_3 l0_4 a0_5 l0_6) else (none)) else (none)) = some r := by first | (rw [hji5] at H; exact H) | (simp only [hji5] at H ⊢; exact H)); have hji5w : (IntKind.i64.wrap ((l0_4.length : Int) + 1)) = ji5 := (i64_w _).trans hji5; refine iteM ?_ H; clear H; (intro c6 H); have c6b0 := eq_true c6; have c6b1 := decide_eq_true c6; clear c6; refine iteM ?_ H; clear H; (intro c7 H); have c7b0 := eq_true c7; have c7b1 := decide_eq_true c7; clear c7; obtain ⟨y124, hy124⟩ : ∃ y_ : List ByteArray, y_ = (List.replicate 0 (⟨#[]⟩ : ByteArray)) := ⟨_, rfl⟩; (replace H : (cst_own.l0 k y124 l0_4 (l0_4.length : Int) 0 a0_0 a0_1 a0_2 a0_3 l0_4 a0_5 l0_6) = some r := by first | (rw [hy124]; with_reducible exact H) | (have H2_ := (Option.bind_some _ _).symm.trans H; rw [hy124]; with_reducible exact H2_) | (have H2_ := (Option.bind_some _ _).symm.trans H; with_reducible exact H2_) | with_reducible exact H | (rw [hy124]; exact H) | exact H); have Ny124 := qM hy124; clear hy124; have H' := qM H; clear H
  go_wp2_with (first | ((with_reducible refine gate_dst (N := 13) rfl ?_); refine Kd.R_makecap Kd.string _ 9 rfl (N := 13) rfl 35 _ _ rfl ji5 rfl rfl Tryd.underlying35 (.string ⟨#[]⟩) 16 info9 rfl (by decide) (by omega) (⟨#[]⟩ : ByteArray) (ok := fun _ => True) (okp := fun _ => True) rfl (fun _ hk => hk) trivial (qo qX) (Nat.le_trans (Nat.mul_le_mul_right _ (qo qX : ji5.toNat ≤ 17592186044416)) (by omega)) (Below.refl _ _) (Nat.le_refl _) ?_; intro v125 w10 ho11 hb hg_ hnew_; clear hg_ hnew_; (first | rw [← Ny124.out] at ho11 | (simp only [Int.reduceToNat] at ho11; rw [← Ny124.out] at ho11)); have HO126 := qM (Kd.R_lower ho11 (qZ qF)); replace BK123 := qM (qb (g := gb123) qK hb); replace HB := qM (qP qF hb); clear hb ho11; have hz12 := bx7 BK123.out))
  go_loopg [3, 17] k (fun kq v3 v17 w' => ∃ (x3_1 : List ByteArray) (x17_1 : Int), v17 = .int .i64 x17_1 ∧ Aside0 (cst_own.l0 kq x3_1 l0_4 (l0_4.length : Int) x17_1 a0_0 a0_1 a0_2 a0_3 l0_4 a0_5 l0_6 = some r) ∧ Aside0 (kq ≤ k) ∧ Aside0 (Kd.R Kd.string 9 w' w.heap.size (fun _ => True) v3 x3_1) ∧ Aside0 (w'.heap[gb123]? = some (.cells #[.int .i64 a0_0, .int .i64 a0_1, .int .i64 a0_2, .int .i64 a0_3, (.slice A0_4 l0_4.length c0_4), .string a0_5, (.slice A0_6 l0_6.length c0_6)] 26 (0, 0))) ∧ Aside0 (Below w.heap.size w w'))
  case atStart => exact ⟨(y124), (0), qV, H', ⟨Nat.le_refl _⟩, ⟨by (with_reducible repeat (first | apply Kd.R_alloc | apply Kd.R_drewN | apply Kd.R_drew)); exact HO126.out⟩, ⟨qK⟩, ⟨qF⟩⟩
  case round =>
   (clear H'); (try clear c2); (try clear c2b0); (try clear p2); (try clear c3); (try clear c6); (try clear c6b0); (try clear c6b1); (try clear p6); (try clear c7); (try clear c7b0); (try clear c7b1); (try clear hz12); (try clear hz4); (try clear hz4); obtain ⟨x3_1, x17_1, rfl, HA, HK1, HO_3, BK123, HB⟩ := hrel
   cases gk with
   | zero => exact absurd HA.out (by simp [cst_own.l0])
   | succ k1 =>
    have H := HA.out; clear HA; (simp only [cst_own.l0] at H); (refine iteD ?_ ?_ H <;> clear H <;> intro c13b0 H)
    ·refine iteN ?_ H
     clear H; (intro c14b0 H); refine iteN ?_ H; clear H; (intro c15b0 H); refine iteM ?_ H; clear H; (intro c16 H); have LMc16 := qM c16; clear c16; obtain ⟨y129, hy129⟩ : ∃ y_ : List ByteArray, y_ = (x3_1 ++ [(rd_T46 l0_4 x17_1).f2]) := ⟨_, rfl⟩; (replace H : (cst_own.l0 k1 y129 l0_4 (l0_4.length : Int) (wrap64 (x17_1 + 1)) a0_0 a0_1 a0_2 a0_3 l0_4 a0_5 l0_6) = some r := by first | (rw [hy129]; with_reducible exact H) | (have H2_ := (Option.bind_some _ _).symm.trans H; rw [hy129]; with_reducible exact H2_) | (have H2_ := (Option.bind_some _ _).symm.trans H; with_reducible exact H2_) | with_reducible exact H | (rw [hy129]; exact H) | exact H); have Ny129 := qM hy129; clear hy129; have H' := qM H; clear H; have p127 : 0 ≤ (x17_1 : Int) := qo qX; have q127 : x17_1 < (l0_4.length : Int) := qo qX; obtain ⟨ad127, e127, hx127_0, hx127_1, hx127_2⟩ := at_T46 HR0_4.out x17_1 p127 q127
     cases e127
     replace hx127_0 := qv HB.out hx127_0; replace hx127_1 := qv HB.out hx127_1; replace hx127_2 := qv HB.out hx127_2; replace p127 := eq_true p127; replace q127 := eq_true q127
     go_wp2_with (first | ((with_reducible refine gate_dst (N := 5) rfl ?_); refine box_event ?hg (N := 5) ?hd (cs := #[.int .i64 0, .int .i64 0, .string (⟨#[]⟩ : ByteArray)]) (t := 46) ?hr ?_; (case hd | hg => rfl); (case hr => first | (go_simp; done) | (go_simp; rfl)); intro gb128 hg w17 hbox hb; have BK128 := qM (hbox); have GW128 := qM (qG hg); have GE128 := GW128; have NB123_128 := qM ((by rw [hg]; exact Nat.ne_of_lt (ql (g := gb123) qK) : gb123 ≠ gb128)); have NB128_123 := qM (Ne.symm NB123_128.out); replace HO_3 := qM (Kd.R_below (by (with_reducible repeat (first | apply Kd.R_alloc | apply Kd.R_drewN | apply Kd.R_drew)); exact HO_3.out) hb); replace BK123 := qM (qb (g := gb123) qK hb); replace HB := qM (qP qF hb); clear hb hbox hg; have hnb18 := NB128_123.out; have hnc18 := NB123_128.out; have hz19 := bx3 BK128.out) | ((with_reducible refine gate_builtin (b := .append) (xs := #[.tmp 21, .tmp 24]) rfl ?_); at_builtin; refine Kd.R_append Kd.string (w0 := w) w.heap.size rfl (.tmp 21) (.tmp 24) 35 9 (.string ⟨#[]⟩) 16 rfl Tryd.underlying35 info9 rfl (by decide) (by omega) u3 x3_1 ((rd_T46 l0_4 x17_1).f2) [.string ((rd_T46 l0_4 x17_1).f2)] (fun _ => True) (fun _ => False) rfl (by first | (go_simp; done) | (go_simp; rfl)) ?aP (fun _ hk => hk.elim) ?aF ?aO ?aB ?aS ?aL ?_; (case aP => exact rfl); (case aB => exact qF); (case aF => exact (fun _ _ => trivial)); (case aO => exact (by (with_reducible repeat (first | apply Kd.R_alloc | apply Kd.R_drewN | apply Kd.R_drew)); exact Kd.R_mono (Kd.R_far (p := ⟨gb128, 2, none⟩) (Kd.R_far (p := ⟨gb128, 1, none⟩) (Kd.R_far (p := ⟨gb128, 0, none⟩) (Kd.R_types HO_3.out BK128.out (by decide)) (fun _ hk => hk.2) (.int .i64 ((rd_T46 l0_4 x17_1).f0))) (fun _ hk => hk.2) (.int .i64 ((rd_T46 l0_4 x17_1).f1))) (fun _ hk => hk.2) (.string ((rd_T46 l0_4 x17_1).f2))) (fun _ hk => trivial))); (case aS => exact (qZ qF)); (case aL => have := LMc16.out; omega); intro v130 w20 ho hb hg hat; rw [← Ny129.out] at ho; have n0_ := qM (blk_grown (g := gb123) qK hg (Kd.R_ne HO_3.out BK123.out (by decide))); have n1_ := qM (blk_grown (g := gb128) (o := .cells #[.int .i64 ((rd_T46 l0_4 x17_1).f0), .int .i64 ((rd_T46 l0_4 x17_1).f1), .string ((rd_T46 l0_4 x17_1).f2)] 46 (0, 0)) (by (with_reducible repeat (first | refine qn ?_ _ | refine qd ?_ | refine qa ?_ _)); refine blk_put (cs := #[.int .i64 ((rd_T46 l0_4 x17_1).f0), .int .i64 ((rd_T46 l0_4 x17_1).f1), .string (⟨#[]⟩ : ByteArray)]) ?_ 2 _ rfl; (with_reducible repeat (first | refine qn ?_ _ | refine qd ?_ | refine qa ?_ _)); refine blk_put (cs := #[.int .i64 ((rd_T46 l0_4 x17_1).f0), .int .i64 0, .string (⟨#[]⟩ : ByteArray)]) ?_ 1 _ rfl; (with_reducible repeat (first | refine qn ?_ _ | refine qd ?_ | refine qa ?_ _)); refine blk_put (cs := #[.int .i64 0, .int .i64 0, .string (⟨#[]⟩ : ByteArray)]) ?_ 0 _ rfl; (with_reducible repeat (first | refine qn ?_ _ | refine qd ?_ | refine qa ?_ _)); exact BK128.out) hg (Kd.R_ne HO_3.out BK128.out (by decide))); have n2_ := qM (hb); have n3_ := qM (ho); clear BK123; clear BK128; clear HB; clear HO_3; have BK123 := n0_; have BK128 := n1_; have HB := n2_; have HO131 := n3_; clear n0_ n1_ n2_ n3_; clear ho hb hg hat))
     go_roundg k1
     case measure => have := HK1.out; omega
     case rel => exact ⟨(y129), (wrap64 (x17_1 + 1)), qV, H', ⟨by have := HK1.out; omega⟩, ⟨by (with_reducible repeat (first | apply Kd.R_alloc | apply Kd.R_drewN | apply Kd.R_drew)); exact HO131.out⟩, ⟨qK⟩, ⟨qF⟩⟩
    ·refine iteM ?_ H
     clear H; (intro c21 H); have LMc21 := qM c21; clear c21; obtain ⟨y132, hy132⟩ : ∃ y_ : List ByteArray, y_ = (x3_1 ++ [a0_5]) := ⟨_, rfl⟩; (replace H : (some y132) = some r := by first | (rw [hy132]; with_reducible exact H) | (have H2_ := (Option.bind_some _ _).symm.trans H; rw [hy132]; with_reducible exact H2_) | (have H2_ := (Option.bind_some _ _).symm.trans H; with_reducible exact H2_) | with_reducible exact H | (rw [hy132]; exact H) | exact H); have Ny132 := qM hy132; clear hy132; obtain rfl := Option.some.inj H; have hz22 := bx7 BK123.out
     go_wp2_with (first | ((with_reducible refine gate_builtin (b := .append) (xs := #[.tmp 27, .tmp 30]) rfl ?_); at_builtin; refine Kd.R_append Kd.string (w0 := w) w.heap.size rfl (.tmp 27) (.tmp 30) 35 9 (.string ⟨#[]⟩) 16 rfl Tryd.underlying35 info9 rfl (by decide) (by omega) u3 x3_1 a0_5 [.string a0_5] (fun _ => True) (fun _ => False) rfl rfl ?aP (fun _ hk => hk.elim) ?aF ?aO ?aB ?aS ?aL ?_; (case aP => exact rfl); (case aB => exact qF); (case aF => exact (fun _ _ => trivial)); (case aO => exact (by (with_reducible repeat (first | apply Kd.R_alloc | apply Kd.R_drewN | apply Kd.R_drew)); exact HO_3.out)); (case aS => exact (qZ qF)); (case aL => have := LMc21.out; omega); intro v133 w23 ho hb hg hat; rw [← Ny132.out] at ho; have n0_ := qM (blk_grown (g := gb123) qK hg (Kd.R_ne HO_3.out BK123.out (by decide))); have n1_ := qM (hb); have n2_ := qM (ho); clear BK123; clear HB; clear HO_3; have BK123 := n0_; have HB := n1_; have HO134 := n2_; clear n0_ n1_ n2_; clear ho hb hg hat))
     (go_ret); exact ⟨_, by first | rfl | (simp [errW_none, errW_some] <;> rfl) | (simp only [← hji5]; first | rfl | (simp [errW_none, errW_some] <;> rfl)) | (simp [*, errW_none, errW_some] <;> rfl), by (with_reducible repeat (first | apply Kd.R_alloc | apply Kd.R_drewN | apply Kd.R_drew)); exact HO134.out, qF⟩
end
section
open Go.Proofs.YtphmgaijkdflnaaDoorW.PrintWords Go.Proofs.YtphmgaijkdflnaaDoorW.PrintLast Go.Proofs.YtphmgaijkdflnaaDoorW.PrintMore
def nLeaf (s r f : Int) (t : ByteArray) : S26 := ⟨s, r, 0, f, [], t, []⟩
def nInner (s r : Int) (ks : List S26) : S26 := ⟨s, r, 0, 0, [], ⟨#[]⟩, ks⟩
def arboristlaw42_Plus.f : Option (Int × Int × Int × Int × List S46 × ByteArray × List S26) :=
 some (-1, 0, 0, 0, [], ⟨#[]⟩, [nInner (-2) 1 [nInner (-2) 2 [nLeaf 2 (-1) 0 ⟨#[49]⟩], nLeaf 3 (-1) 0 ⟨#[43]⟩, nInner (-2) 2 [nLeaf 2 (-1) 1 ⟨#[]⟩]], nLeaf 0 (-1) 0 ⟨#[]⟩])
theorem row_R {α : Type} (d : Kd α) {w : World} {base e g : Nat} {xs : List α} {inner : List Value} {ok : Nat → Prop} (hh : w.heap[g]? = some (.cells inner.toArray e (0, 0))) (hb : base ≤ g) (hok : ok g) (hm : xs.length ≤ 9223372036854775807)
  (hrep : Reps (d.M w base (fun k => ok k ∧ k ≠ g)) d.sz xs inner) : Kd.R d e w base ok (.slice (some ⟨g, 0, none⟩) xs.length xs.length) xs := by
 refine ⟨fun k hk => ?_, inner, ⟨hrep.1, .inr ⟨g, xs.length, inner.toArray, rfl, hb, hh, Nat.le_refl _, by simpa [maxLen] using hm, by simpa using hrep.1, ?_⟩⟩, ?_⟩
 ·have : g = k := by simpa [Value.ownBlock] using hk
  subst this; exact hok
 ·have h1 := hrep.1
  simp only [List.take_of_length_le (show inner.length ≤ xs.length * d.sz by omega)]
 ·refine hrep.imp_ (fun p c hp => d.M_mono (fun k hk => ⟨hk.1, fun q => hk.2 ?_⟩) hp)
  simpa [Value.ownBlock] using q
theorem alloc8 (w : World) (o0 o1 o2 o3 o4 o5 o6 o7 : Obj) : ∃ W, (((((((w.alloc o0).alloc o1).alloc o2).alloc o3).alloc o4).alloc o5).alloc o6).alloc o7 = W ∧ Below w.heap.size w W ∧ W.heap[w.heap.size]? = some o0 ∧ W.heap[w.heap.size + 1]? = some o1 ∧ W.heap[w.heap.size + 1 + 1 + 1]? = some o3 ∧ W.heap[w.heap.size + 1 + 1 + 1 + 1 + 1]? = some o5 ∧ W.heap[w.heap.size + 1 + 1 + 1 + 1 + 1 + 1 + 1]? = some o7 := by
 refine ⟨_, rfl, below_alloc (below_alloc (below_alloc (below_alloc (below_alloc (below_alloc (below_alloc (below_alloc (Below.refl _ _) _) _) _) _) _) _) _) _, ?_, ?_, ?_, ?_, ?_⟩
 ·exact blk_alloc (blk_alloc (blk_alloc (blk_alloc (blk_alloc (blk_alloc (blk_alloc (blk_new w _) _) _) _) _) _) _) _
 ·have := blk_alloc (blk_alloc (blk_alloc (blk_alloc (blk_alloc (blk_alloc (blk_new (w.alloc o0) o1) o2) o3) o4) o5) o6) o7
  simpa using this
 ·have := blk_alloc (blk_alloc (blk_alloc (blk_alloc (blk_new (((w.alloc o0).alloc o1).alloc o2) o3) o4) o5) o6) o7
  simpa using this
 ·have := blk_alloc (blk_alloc (blk_new (((((w.alloc o0).alloc o1).alloc o2).alloc o3).alloc o4) o5) o6) o7
  simpa using this
 ·have := blk_new (((((((w.alloc o0).alloc o1).alloc o2).alloc o3).alloc o4).alloc o5).alloc o6) o7
  simpa using this
def leafC (s r f : Int) (t : ByteArray) : List Value := [.int .i64 s, .int .i64 r, .int .i64 0, .int .i64 f, .slice none 0 0, .string t, .slice none 0 0]
def innerC (s r : Int) (g n : Nat) : List Value := [.int .i64 s, .int .i64 r, .int .i64 0, .int .i64 0, .slice none 0 0, .string ⟨#[]⟩, .slice (some ⟨g, 0, none⟩) n n]
theorem leafM (w : World) (base : Nat) (ok : Nat → Prop) (s r f : Int) (t : ByteArray) : k26.M w base ok (nLeaf s r f t) (leafC s r f t) := k26_mkM w base ok (nLeaf s r f t) (Kd.R_nil _ _ _ _ _) (Kd.R_nil _ _ _ _ _)
theorem innerM {w : World} {base : Nat} {ok : Nat → Prop} {s r : Int} {g n : Nat} {ks : List S26} (h : Kd.R k26 26 w base ok (.slice (some ⟨g, 0, none⟩) n n) ks) : k26.M w base ok (nInner s r ks) (innerC s r g n) := k26_mkM w base ok (nInner s r ks) (Kd.R_nil _ _ _ _ _) h
theorem arboristlaw42_Plus.calls (r0 r1 r2 r3 : Int) (r4 : List S46) (r5 : ByteArray) (r6 : List S26) (w : World) (h : arboristlaw42_Plus.f = some (r0, r1, r2, r3, r4, r5, r6)) :
  Calls Tryd.prog 30 #[] w fun e w' => ∃ v0_ v1_ : Value, e = .returned (.agg #[.int .i64 r0, .int .i64 r1, .int .i64 r2, .int .i64 r3, v0_, .string r5, v1_]) ∧ Kd.R k46 46 w' w.heap.size (fun k_ => (w.heap.size ≤ k_) ∧ some k_ ≠ (v1_ : Value).ownBlock) v0_ r4 ∧
   Kd.N k26 26 w' w.heap.size (fun k_ => (w.heap.size ≤ k_) ∧ some k_ ≠ (v0_ : Value).ownBlock) v1_ r6 ∧ Below w.heap.size w w' := by
 unfold arboristlaw42_Plus.f at h
 simp only [Option.some.injEq, Prod.mk.injEq] at h
 obtain ⟨rfl, rfl, rfl, rfl, rfl, rfl, rfl⟩ := h
 have hu := Tryd.underlying26
 go_enter Tryd.func30, Tryd.ntmps30
 go_wp2
 obtain ⟨W, hW, hB, h0, h1, h3, h5, h7⟩ := alloc8 w (.cells (innerC (-1) 0 (w.heap.size + 1 + 1 + 1 + 1 + 1 + 1 + 1) 2).toArray 26) (.cells (leafC 2 (-1) 0 ⟨#[49]⟩).toArray 26) (.cells (innerC (-2) 2 (w.heap.size + 1) 1).toArray 26) (.cells (leafC 2 (-1) 1 ⟨#[]⟩).toArray 26)
  (.cells (innerC (-2) 2 (w.heap.size + 1 + 1 + 1) 1).toArray 26) (.cells (innerC (-2) 2 (w.heap.size + 1) 1 ++ leafC 3 (-1) 0 ⟨#[43]⟩ ++ innerC (-2) 2 (w.heap.size + 1 + 1 + 1) 1).toArray 26) (.cells (innerC (-2) 1 (w.heap.size + 1 + 1 + 1 + 1 + 1) 3).toArray 26) (.cells (innerC (-2) 1 (w.heap.size + 1 + 1 + 1 + 1 + 1) 3 ++ leafC 0 (-1) 0 ⟨#[]⟩).toArray 26)
 have hW2 := hW
 simp only [innerC, leafC, List.cons_append, List.nil_append] at hW2
 rw [hW2]
 have c0 : W.cell? ⟨w.heap.size, 0, none⟩ = some (.int .i64 (-1)) := (blk_cell h0 0).trans rfl
 have c1 : W.cell? ⟨w.heap.size, 1, none⟩ = some (.int .i64 0) := (blk_cell h0 1).trans rfl
 have c2 : W.cell? ⟨w.heap.size, 2, none⟩ = some (.int .i64 0) := (blk_cell h0 2).trans rfl
 have c3 : W.cell? ⟨w.heap.size, 3, none⟩ = some (.int .i64 0) := (blk_cell h0 3).trans rfl
 have c4 : W.cell? ⟨w.heap.size, 4, none⟩ = some (.slice none 0 0) := (blk_cell h0 4).trans rfl
 have c5 : W.cell? ⟨w.heap.size, 5, none⟩ = some (.string ⟨#[]⟩) := (blk_cell h0 5).trans rfl
 have c6 : W.cell? ⟨w.heap.size, 6, none⟩ = some (.slice (some ⟨w.heap.size + 1 + 1 + 1 + 1 + 1 + 1 + 1, 0, none⟩) 2 2) := (blk_cell h0 6).trans rfl
 refine bodyPost_ret (v := .agg #[.int .i64 (-1), .int .i64 0, .int .i64 0, .int .i64 0, .slice none 0 0, .string ⟨#[]⟩, .slice (some ⟨w.heap.size + 1 + 1 + 1 + 1 + 1 + 1 + 1, 0, none⟩) 2 2]) ?_ rfl ?_
 ·simp [results, Tryd.f30, go_sem, c0, c1, c2, c3, c4, c5, c6]
 refine ⟨_, _, rfl, Kd.R_nil _ _ _ _ _, Kd.R_N ?_, hB⟩
 have r1 : ∀ ok : Nat → Prop, ok (w.heap.size + 1) → Kd.R k26 26 W w.heap.size ok (.slice (some ⟨w.heap.size + 1, 0, none⟩) 1 1) [nLeaf 2 (-1) 0 ⟨#[49]⟩] := fun ok hk => row_R k26 (xs := [nLeaf 2 (-1) 0 ⟨#[49]⟩]) h1 (by omega) hk (by simp) ((Reps.none _ _).snoc (leafM _ _ _ _ _ _ _) rfl)
 have r3 : ∀ ok : Nat → Prop, ok (w.heap.size + 1 + 1 + 1) → Kd.R k26 26 W w.heap.size ok (.slice (some ⟨w.heap.size + 1 + 1 + 1, 0, none⟩) 1 1) [nLeaf 2 (-1) 1 ⟨#[]⟩] := fun ok hk => row_R k26 (xs := [nLeaf 2 (-1) 1 ⟨#[]⟩]) h3 (by omega) hk (by simp) ((Reps.none _ _).snoc (leafM _ _ _ _ _ _ _) rfl)
 have r5 : ∀ ok : Nat → Prop, ok (w.heap.size + 1) → ok (w.heap.size + 1 + 1 + 1) → ok (w.heap.size + 1 + 1 + 1 + 1 + 1) → Kd.R k26 26 W w.heap.size ok (.slice (some ⟨w.heap.size + 1 + 1 + 1 + 1 + 1, 0, none⟩) 3 3) [nInner (-2) 2 [nLeaf 2 (-1) 0 ⟨#[49]⟩], nLeaf 3 (-1) 0 ⟨#[43]⟩, nInner (-2) 2 [nLeaf 2 (-1) 1 ⟨#[]⟩]] := fun ok k1 k3 k5 =>
  row_R k26 (xs := [nInner (-2) 2 [nLeaf 2 (-1) 0 ⟨#[49]⟩], nLeaf 3 (-1) 0 ⟨#[43]⟩, nInner (-2) 2 [nLeaf 2 (-1) 1 ⟨#[]⟩]]) h5 (by omega) k5 (by simp) ((((Reps.none _ _).snoc (innerM (r1 _ ⟨k1, by omega⟩)) rfl).snoc (leafM _ _ _ _ _ _ _) rfl).snoc (innerM (r3 _ ⟨k3, by omega⟩)) rfl)
 refine row_R k26 (xs := [nInner (-2) 1 [nInner (-2) 2 [nLeaf 2 (-1) 0 ⟨#[49]⟩], nLeaf 3 (-1) 0 ⟨#[43]⟩, nInner (-2) 2 [nLeaf 2 (-1) 1 ⟨#[]⟩]], nLeaf 0 (-1) 0 ⟨#[]⟩]) h7 (by omega) ⟨by omega, by simp [Value.ownBlock]⟩ (by simp)
  (((Reps.none _ _).snoc (innerM (r5 _ ⟨⟨by omega, by simp [Value.ownBlock]⟩, by omega⟩ ⟨⟨by omega, by simp [Value.ownBlock]⟩, by omega⟩ ⟨⟨by omega, by simp [Value.ownBlock]⟩, by omega⟩)) rfl).snoc (leafM _ _ _ _ _ _ _) rfl)
end
section
open Go.Proofs.YtphmgaijkdflnaaDoorW.PrintWords Go.Proofs.YtphmgaijkdflnaaDoorW.PrintLast Go.Proofs.YtphmgaijkdflnaaDoorW.PrintMore
attribute [local go_sem] max2_int min2_int max_two min_two max_three min_three max_four min_four
mutual
def arboristref42_weigh.j1 : Nat → Int → Int → Int → Int → Int → Int → List (S46) → ByteArray → List (S26) → Option (Int)
 | 0, _, _, _, _, _, _, _, _, _ => none
 | k + 1, x1, x5, x195000, x195001, x195002, x195003, x195004, x195005, x195006 => arboristref42_weigh.l1 k x1 x5 0 x195000 x195001 x195002 x195003 x195004 x195005 x195006
def arboristref42_weigh.l1 : Nat → Int → Int → Int → Int → Int → Int → Int → List (S46) → ByteArray → List (S26) → Option (Int)
 | 0, _, _, _, _, _, _, _, _, _, _ => none
 | k + 1, x1, x5, x7, x195000, x195001, x195002, x195003, x195004, x195005, x195006 => if x7 < (x195006.length : Int) then (if x5 ≤ x1 then (if 0 ≤ x7 then ((arboristref42_weigh.f k ((rd_T26 x195006 x7).f0) ((rd_T26 x195006 x7).f1) ((rd_T26 x195006 x7).f2) ((rd_T26 x195006 x7).f3) ((rd_T26 x195006 x7).f4) ((rd_T26 x195006 x7).f5) ((rd_T26 x195006 x7).f6) (wrap64 (x1 - x5))).bind fun t197 => (arboristref42_weigh.l1 k x1 (wrap64 (x5 + t197)) (wrap64 (x7 + 1)) x195000 x195001 x195002 x195003 x195004 x195005 x195006)) else (none)) else (some x5)) else (some x5)
def arboristref42_weigh.l0 : Nat → Int → Int → Int → Int → Int → Int → Int → List (S46) → ByteArray → List (S26) → Option (Int)
 | 0, _, _, _, _, _, _, _, _, _, _ => none
 | k + 1, x1, x5, x6, x195000, x195001, x195002, x195003, x195004, x195005, x195006 => if x6 < (x195004.length : Int) then (if x5 ≤ x1 then (if 0 ≤ x6 then (arboristref42_weigh.l0 k x1 (wrap64 (x5 + (wrap64 ((((rd_T46 x195004 x6).f2).size : Int) / 16)))) (wrap64 (x6 + 1)) x195000 x195001 x195002 x195003 x195004 x195005 x195006) else (none)) else (arboristref42_weigh.j1 k x1 x5 x195000 x195001 x195002 x195003 x195004 x195005 x195006)) else (arboristref42_weigh.j1 k x1 x5 x195000 x195001 x195002 x195003 x195004 x195005 x195006)
def arboristref42_weigh.f : Nat → Int → Int → Int → Int → List (S46) → ByteArray → List (S26) → Int → Option (Int)
 | 0, _, _, _, _, _, _, _, _ => none
 | k + 1, a0_0, a0_1, a0_2, a0_3, l0_4, a0_5, l0_6, a1 => arboristref42_weigh.l0 k a1 (wrap64 ((wrap64 (1 + (l0_4.length : Int))) + (wrap64 ((a0_5.size : Int) / 16)))) 0 a0_0 a0_1 a0_2 a0_3 l0_4 a0_5 l0_6
end
theorem arboristref42_weigh.calls (k : Nat) : ∀ (a0_0 : Int) (a0_1 : Int) (a0_2 : Int) (a0_3 : Int) (A0_4 : Option Addr) (c0_4 : Nat) (l0_4 : List (S46)) (a0_5 : ByteArray) (A0_6 : Option Addr) (c0_6 : Nat) (l0_6 : List (S26)) (a1 : Int) (r : Int) (w : World) (hr0_4 : Kd.C k46 w A0_4 l0_4.length l0_4) (hc0_4 : l0_4.length ≤ c0_4) (hr0_6 : Kd.C k26 w A0_6 l0_6.length l0_6) (hc0_6 : l0_6.length ≤ c0_6) (h : arboristref42_weigh.f k a0_0 a0_1 a0_2 a0_3 l0_4 a0_5 l0_6 a1 = some r),
  Calls Tryd.prog 28 #[.agg #[.int .i64 a0_0, .int .i64 a0_1, .int .i64 a0_2, .int .i64 a0_3, .slice A0_4 l0_4.length c0_4, .string a0_5, .slice A0_6 l0_6.length c0_6], .int .i64 a1] w fun e w' => e = .returned (.int .i64 r) ∧ Below w.heap.size w w' := by
 induction k using Nat.strongRecOn with
 | _ k ih =>
 intro a0_0 a0_1 a0_2 a0_3 A0_4 c0_4 l0_4 a0_5 A0_6 c0_6 l0_6 a1 r w hr0_4 hc0_4 hr0_6 hc0_6 h
 cases k with
 | zero => exact absurd h (by simp [arboristref42_weigh.f])
 | succ k =>
 (simp only [arboristref42_weigh.f] at h); have hu26 := Tryd.underlying26; have HR0_4 := qM hr0_4; have HC0_4 := qM hc0_4; clear hr0_4 hc0_4; have HR0_6 := qM hr0_6; have HC0_6 := qM hc0_6; clear hr0_6 hc0_6; have HB := qM (Below.refl w.heap.size w); have H : (arboristref42_weigh.l0 k a1 (wrap64 ((wrap64 (1 + (l0_4.length : Int))) + (wrap64 ((a0_5.size : Int) / 16)))) 0 a0_0 a0_1 a0_2 a0_3 l0_4 a0_5 l0_6) = some r := h; clear h; have HC3 := qM H; clear H; (go_enter Tryd.func28, Tryd.ntmps28)
 go_upto_block 0 with (first | ((with_reducible refine gate_dst (N := 2) rfl ?_); refine box_event ?hg (N := 2) ?hd (cs := #[.int .i64 a0_0, .int .i64 a0_1, .int .i64 a0_2, .int .i64 a0_3, .slice A0_4 l0_4.length c0_4, .string a0_5, .slice A0_6 l0_6.length c0_6]) (t := 26) ?hr ?_; (case hd | hg => rfl); (case hr => first | (go_simp; done) | (go_simp; rfl)); intro gb194 hg w4 hbox hb; have BK194 := qM (hbox); have GW194 := qM (qG hg); have GE194 := GW194; replace HB := qM (qP qF hb); clear hb hbox hg; have hz5 := bx7 BK194.out))
 (try simp only [Act.put, List.setIfInBounds_toArray, List.set_cons_zero, List.set_cons_succ]); (go_cut [5] (fun v5 wc => ∃ (kq : Nat) (x5_2 : Int), v5 = .int .i64 x5_2 ∧ Aside0 (arboristref42_weigh.j1 kq a1 x5_2 a0_0 a0_1 a0_2 a0_3 l0_4 a0_5 l0_6 = some r) ∧ Aside0 (kq ≤ k) ∧ Aside0 (wc.heap[gb194]? = some (.cells #[.int .i64 a0_0, .int .i64 a0_1, .int .i64 a0_2, .int .i64 a0_3, (.slice A0_4 l0_4.length c0_4), .string a0_5, (.slice A0_6 l0_6.length c0_6)] 26 (0, 0))) ∧ Aside0 (Below w.heap.size w wc)))
 case first =>
  have H := HC3.out; clear HC3; have H' := qM H; clear H; go_wp2; (go_loopg [5, 6] k (fun kq v5 v6 w' => ∃ (x5_1 : Int) (x6_1 : Int), v5 = .int .i64 x5_1 ∧ v6 = .int .i64 x6_1 ∧ Aside0 (arboristref42_weigh.l0 kq a1 x5_1 x6_1 a0_0 a0_1 a0_2 a0_3 l0_4 a0_5 l0_6 = some r) ∧ Aside0 (kq ≤ k) ∧ Aside0 (w'.heap[gb194]? = some (.cells #[.int .i64 a0_0, .int .i64 a0_1, .int .i64 a0_2, .int .i64 a0_3, (.slice A0_4 l0_4.length c0_4), .string a0_5, (.slice A0_6 l0_6.length c0_6)] 26 (0, 0))) ∧ Aside0 (Below w.heap.size w w')))
  case atStart => exact ⟨(wrap64 ((wrap64 (1 + (l0_4.length : Int))) + (wrap64 ((a0_5.size : Int) / 16)))), (0), qV, qV, H', ⟨Nat.le_refl _⟩, ⟨qK⟩, ⟨qF⟩⟩
  case round =>
   (clear H'); (try clear c2); (try clear p2); (try clear hz5); obtain ⟨x5_1, x6_1, rfl, rfl, HA, HK1, BK194, HB⟩ := hrel
   cases gk with
   | zero => exact absurd HA.out (by simp [arboristref42_weigh.l0])
   | succ k1 =>
    have H := HA.out; clear HA; (simp only [arboristref42_weigh.l0] at H); (refine iteD ?_ ?_ H <;> clear H <;> intro c6b0 H)
    ·(first | rw [c6b0] | (simp only [i64_w, i32_w]; rw [c6b0]) | skip)
     refine iteD ?_ ?_ H <;> clear H <;> intro c7b0 H
     ·refine iteN ?_ H
      clear H; (intro c8b0 H); have H' := qM H; clear H; have hz9 := bx7 BK194.out; have p195 : 0 ≤ (x6_1 : Int) := qo qX; have q195 : x6_1 < (l0_4.length : Int) := qo qX; obtain ⟨ad195, e195, hx195_0, hx195_1, hx195_2⟩ := at_T46 HR0_4.out x6_1 p195 q195
      cases e195
      replace hx195_0 := qv HB.out hx195_0; replace hx195_1 := qv HB.out hx195_1; replace hx195_2 := qv HB.out hx195_2; replace p195 := eq_true p195; replace q195 := eq_true q195; go_wp2; (go_roundg k1)
      case measure => have := HK1.out; omega
      case rel => exact ⟨(wrap64 (x5_1 + (wrap64 ((((rd_T46 l0_4 x6_1).f2).size : Int) / 16)))), (wrap64 (x6_1 + 1)), qV, qV, H', ⟨by have := HK1.out; omega⟩, ⟨qK⟩, ⟨qF⟩⟩
     ·have H' := qM H
      clear H; have hz10 := bx7 BK194.out; go_wp2; go_meet
      case rel => exact ⟨_, (x5_1), qV, H', ⟨by have := HK1.out; first | omega | exact Nat.le_refl _⟩, ⟨qK⟩, ⟨qF⟩⟩
    ·(first | rw [c6b0] | (simp only [i64_w, i32_w]; rw [c6b0]) | skip)
     have H' := qM H; clear H; have hz11 := bx7 BK194.out; go_wp2; go_meet
     case rel => exact ⟨_, (x5_1), qV, H', ⟨by have := HK1.out; first | omega | exact Nat.le_refl _⟩, ⟨qK⟩, ⟨qF⟩⟩
 case rest =>
  clear HC3; (try clear p1); (try clear q1); (try clear hx1); (try clear c2); (try clear p2); (try clear c6); (try clear c6b0); (try clear p6); (try clear c7); (try clear c7b0); (try clear c8); (try clear c8b0); (try clear hz10); (try clear hz11); (try clear hz5); (try clear hz9); (try clear hx195_0 hx195_1 hx195_2); (try clear p195); (try clear p2); (try clear q195); obtain ⟨kq, x5_2, rfl, HA, HJ2, BK194, HB⟩ := hcut
  cases kq with
  | zero => exact absurd HA.out (by simp [arboristref42_weigh.j1])
  | succ kj2 =>
   have H := HA.out; clear HA; (simp only [arboristref42_weigh.j1] at H); have H' := qM H; clear H; go_wp2; (go_loopg [5, 7] kj2 (fun kq v5 v7 w' => ∃ (x5_2 : Int) (x7_2 : Int), v5 = .int .i64 x5_2 ∧ v7 = .int .i64 x7_2 ∧ Aside0 (arboristref42_weigh.l1 kq a1 x5_2 x7_2 a0_0 a0_1 a0_2 a0_3 l0_4 a0_5 l0_6 = some r) ∧ Aside0 (kq ≤ kj2) ∧ Aside0 (w'.heap[gb194]? = some (.cells #[.int .i64 a0_0, .int .i64 a0_1, .int .i64 a0_2, .int .i64 a0_3, (.slice A0_4 l0_4.length c0_4), .string a0_5, (.slice A0_6 l0_6.length c0_6)] 26 (0, 0))) ∧ Aside0 (Below w.heap.size w w')))
   case atStart => exact ⟨(x5_2), (0), qV, qV, H', ⟨Nat.le_refl _⟩, ⟨qK⟩, ⟨qF⟩⟩
   case round =>
    (clear H'); (try clear p1); (try clear q1); (try clear hx1); (try clear c2); (try clear p2); (try clear c6); (try clear c6b0); (try clear p6); (try clear c7); (try clear c7b0); (try clear c8); (try clear c8b0); (try clear hz10); (try clear hz11); (try clear hz5); (try clear hz9); (try clear hx195_0 hx195_1 hx195_2); (try clear p1); (try clear p195); (try clear p2); (try clear p6); (try clear q1); (try clear q195); obtain ⟨x5_2, x7_2, rfl, rfl, HA, HK2, BK194, HB⟩ := hrel
    cases gk with
    | zero => exact absurd HA.out (by simp [arboristref42_weigh.l1])
    | succ k2 =>
     have H := HA.out; clear HA; (simp only [arboristref42_weigh.l1] at H); (refine iteD ?_ ?_ H <;> clear H <;> intro c12b0 H)
     ·refine iteD ?_ ?_ H <;> clear H <;> intro c13b0 H
      ·refine iteN ?_ H
       clear H; (intro c14b0 H); replace H := Option.bind_eq_some_iff.mp H; obtain ⟨t197, A150, H⟩ := H; replace H : (arboristref42_weigh.l1 k2 a1 (wrap64 (x5_2 + t197)) (wrap64 (x7_2 + 1)) a0_0 a0_1 a0_2 a0_3 l0_4 a0_5 l0_6) = some r := H; have A15 := qM A150; clear A150; have H' := qM H; clear H; have hz16 := bx7 BK194.out; have p196 : 0 ≤ (x7_2 : Int) := qo qX; have q196 : x7_2 < (l0_6.length : Int) := qo qX; obtain ⟨ad196, A196_4, c196_4, A196_6, c196_6, e196, hx196_0, hx196_1, hx196_2, hx196_3, hx196_4, hx196_5, hx196_6, hl196_4, hi196_4, hl196_6, hi196_6⟩ := at_T26 HR0_6.out x7_2 p196 q196
       cases e196
       replace hx196_0 := qv HB.out hx196_0; replace hx196_1 := qv HB.out hx196_1; replace hx196_2 := qv HB.out hx196_2; replace hx196_3 := qv HB.out hx196_3; replace hx196_4 := qv HB.out hx196_4; replace hx196_5 := qv HB.out hx196_5; replace hx196_6 := qv HB.out hx196_6; have HR196_4 := qM hi196_4; have HC196_4 := qM hl196_4; clear hi196_4 hl196_4; have HR196_6 := qM hi196_6; have HC196_6 := qM hl196_6; clear hi196_6 hl196_6; replace p196 := eq_true p196; replace q196 := eq_true q196
       go_wp2_with (first | ((with_reducible refine gate_callee (f := 28) rfl ?_); refine goesL_ (some 60) rfl rfl Tryd.func28 (by kernel_rfl) rfl #[.agg #[.int .i64 ((rd_T26 l0_6 x7_2).f0), .int .i64 ((rd_T26 l0_6 x7_2).f1), .int .i64 ((rd_T26 l0_6 x7_2).f2), .int .i64 ((rd_T26 l0_6 x7_2).f3), .slice A196_4 ((rd_T26 l0_6 x7_2).f4).length c196_4, .string ((rd_T26 l0_6 x7_2).f5), .slice A196_6 ((rd_T26 l0_6 x7_2).f6).length c196_6], .int .i64 (wrap64 (a1 - x5_2))] rfl (by (try simp only [List.map_toArray, List.map_cons, List.map_nil]); first | done | rfl | (simp only [List.length_drop, List.length_take]; rfl)) ?_; (with_reducible refine (ih k2 (by have := HJ2.out; have := HK2.out; omega) ((rd_T26 l0_6 x7_2).f0) ((rd_T26 l0_6 x7_2).f1) ((rd_T26 l0_6 x7_2).f2) ((rd_T26 l0_6 x7_2).f3) _ _ ((rd_T26 l0_6 x7_2).f4) ((rd_T26 l0_6 x7_2).f5) _ _ ((rd_T26 l0_6 x7_2).f6) (wrap64 (a1 - x5_2)) t197 _ ?side1 ?side2 ?side3 ?side4 A15.out).mono ?_); (case side1 | side3 => exact qY); (case side2 | side4 => exact qO); rintro e w17 ⟨rfl, hb⟩; refine ⟨_, rfl, ?_⟩; replace BK194 := qM (qb (g := gb194) qK hb); replace HB := qM (qP qF hb); (try clear hb); (try clear hb2); (try clear hk); (try clear hi)))
       go_roundg k2
       case measure => have := HJ2.out; have := HK2.out; omega
       case rel => exact ⟨(wrap64 (x5_2 + t197)), (wrap64 (x7_2 + 1)), qV, qV, H', ⟨by have := HJ2.out; have := HK2.out; omega⟩, ⟨qK⟩, ⟨qF⟩⟩
      ·obtain rfl := Option.some.inj H
       have hz18 := bx7 BK194.out; go_wp2; (go_ret); exact ⟨qE, qF⟩
     ·obtain rfl := Option.some.inj H
      have hz19 := bx7 BK194.out; go_wp2; (go_ret); exact ⟨qE, qF⟩
def arboristref42_Few.f (k : Nat) (a0_0 : Int) (a0_1 : Int) (a0_2 : Int) (a0_3 : Int) (l0_4 : List (S46)) (a0_5 : ByteArray) (l0_6 : List (S26)) (a1 : Int) : Option (Bool) := (arboristref42_weigh.f k a0_0 a0_1 a0_2 a0_3 l0_4 a0_5 l0_6 a1).bind fun t199 => (some (decide (t199 ≤ a1)))
theorem arboristref42_Few.calls (k : Nat) (a0_0 : Int) (a0_1 : Int) (a0_2 : Int) (a0_3 : Int) (A0_4 : Option Addr) (c0_4 : Nat) (l0_4 : List (S46)) (a0_5 : ByteArray) (A0_6 : Option Addr) (c0_6 : Nat) (l0_6 : List (S26)) (a1 : Int) (r : Bool) (w : World) (hr0_4 : Kd.C k46 w A0_4 l0_4.length l0_4) (hc0_4 : l0_4.length ≤ c0_4) (hr0_6 : Kd.C k26 w A0_6 l0_6.length l0_6) (hc0_6 : l0_6.length ≤ c0_6) (h : arboristref42_Few.f k a0_0 a0_1 a0_2 a0_3 l0_4 a0_5 l0_6 a1 = some r) :
  Calls Tryd.prog 8 #[.agg #[.int .i64 a0_0, .int .i64 a0_1, .int .i64 a0_2, .int .i64 a0_3, .slice A0_4 l0_4.length c0_4, .string a0_5, .slice A0_6 l0_6.length c0_6], .int .i64 a1] w fun e w' => e = .returned (.bool r) ∧ Below w.heap.size w w' := by
 have hu26 := Tryd.underlying26; have HR0_4 := qM hr0_4; have HC0_4 := qM hc0_4; clear hr0_4 hc0_4; have HR0_6 := qM hr0_6; have HC0_6 := qM hc0_6; clear hr0_6 hc0_6; have HB := qM (Below.refl w.heap.size w); have H : ((arboristref42_weigh.f k a0_0 a0_1 a0_2 a0_3 l0_4 a0_5 l0_6 a1).bind fun t199 => (some (decide (t199 ≤ a1)))) = some r := h; clear h; replace H := Option.bind_eq_some_iff.mp H; obtain ⟨t199, A30, H⟩ := H; replace H : (some (decide (t199 ≤ a1))) = some r := H; have A3 := qM A30; clear A30; obtain rfl := Option.some.inj H; (go_enter Tryd.func8, Tryd.ntmps8)
 go_wp2_with (first | ((with_reducible refine gate_dst (N := 2) rfl ?_); refine box_event ?hg (N := 2) ?hd (cs := #[.int .i64 a0_0, .int .i64 a0_1, .int .i64 a0_2, .int .i64 a0_3, .slice A0_4 l0_4.length c0_4, .string a0_5, .slice A0_6 l0_6.length c0_6]) (t := 26) ?hr ?_; (case hd | hg => rfl); (case hr => first | (go_simp; done) | (go_simp; rfl)); intro gb198 hg w4 hbox hb; have BK198 := qM (hbox); have GW198 := qM (qG hg); have GE198 := GW198; replace HB := qM (qP qF hb); clear hb hbox hg; have hz5 := bx7 BK198.out) | ((with_reducible refine gate_callee (f := 28) rfl ?_); refine goesL_ (some 7) rfl rfl Tryd.func28 (by kernel_rfl) rfl #[.agg #[.int .i64 a0_0, .int .i64 a0_1, .int .i64 a0_2, .int .i64 a0_3, .slice A0_4 l0_4.length c0_4, .string a0_5, .slice A0_6 l0_6.length c0_6], .int .i64 a1] rfl (by (try simp only [List.map_toArray, List.map_cons, List.map_nil]); first | done | rfl | (simp only [List.length_drop, List.length_take]; rfl)) ?_; (with_reducible refine (arboristref42_weigh.calls k a0_0 a0_1 a0_2 a0_3 _ _ l0_4 a0_5 _ _ l0_6 a1 t199 _ ?side1 ?side2 ?side3 ?side4 A3.out).mono ?_); (case side1 | side3 => exact qY); (case side2 | side4 => exact qO); rintro e w6 ⟨rfl, hb⟩; refine ⟨_, rfl, ?_⟩; replace BK198 := qM (qb (g := gb198) qK hb); replace HB := qM (qP qF hb); (try clear hb); (try clear hb2); (try clear hk); (try clear hi)))
 (go_ret); exact ⟨qE, qF⟩


mutual
def arboristref42_Size.l0 : Nat → Int → Int → Int → Int → Int → Int → List (S46) → ByteArray → List (S26) → Option (Int)
 | 0, _, _, _, _, _, _, _, _, _ => none
 | k + 1, x3, x4, x205000, x205001, x205002, x205003, x205004, x205005, x205006 => if x4 < (x205006.length : Int) then (if 0 ≤ x4 then ((arboristref42_Size.f k ((rd_T26 x205006 x4).f0) ((rd_T26 x205006 x4).f1) ((rd_T26 x205006 x4).f2) ((rd_T26 x205006 x4).f3) ((rd_T26 x205006 x4).f4) ((rd_T26 x205006 x4).f5) ((rd_T26 x205006 x4).f6)).bind fun t206 => (arboristref42_Size.l0 k (wrap64 (x3 + t206)) (wrap64 (x4 + 1)) x205000 x205001 x205002 x205003 x205004 x205005 x205006)) else (none)) else (some x3)
def arboristref42_Size.f : Nat → Int → Int → Int → Int → List (S46) → ByteArray → List (S26) → Option (Int)
 | 0, _, _, _, _, _, _, _ => none
 | k + 1, a0_0, a0_1, a0_2, a0_3, l0_4, a0_5, l0_6 => arboristref42_Size.l0 k 1 0 a0_0 a0_1 a0_2 a0_3 l0_4 a0_5 l0_6
end
theorem arboristref42_Size.calls (k : Nat) : ∀ (a0_0 : Int) (a0_1 : Int) (a0_2 : Int) (a0_3 : Int) (A0_4 : Option Addr) (c0_4 : Nat) (l0_4 : List (S46)) (a0_5 : ByteArray) (A0_6 : Option Addr) (c0_6 : Nat) (l0_6 : List (S26)) (r : Int) (w : World) (hr0_4 : Kd.C k46 w A0_4 l0_4.length l0_4) (hc0_4 : l0_4.length ≤ c0_4) (hr0_6 : Kd.C k26 w A0_6 l0_6.length l0_6) (hc0_6 : l0_6.length ≤ c0_6) (h : arboristref42_Size.f k a0_0 a0_1 a0_2 a0_3 l0_4 a0_5 l0_6 = some r),
  Calls Tryd.prog 15 #[.agg #[.int .i64 a0_0, .int .i64 a0_1, .int .i64 a0_2, .int .i64 a0_3, .slice A0_4 l0_4.length c0_4, .string a0_5, .slice A0_6 l0_6.length c0_6]] w fun e w' => e = .returned (.int .i64 r) ∧ Below w.heap.size w w' := by
 induction k using Nat.strongRecOn with
 | _ k ih =>
 intro a0_0 a0_1 a0_2 a0_3 A0_4 c0_4 l0_4 a0_5 A0_6 c0_6 l0_6 r w hr0_4 hc0_4 hr0_6 hc0_6 h
 cases k with
 | zero => exact absurd h (by simp [arboristref42_Size.f])
 | succ k =>
 (simp only [arboristref42_Size.f] at h); have hu26 := Tryd.underlying26; have HR0_4 := qM hr0_4; have HC0_4 := qM hc0_4; clear hr0_4 hc0_4; have HR0_6 := qM hr0_6; have HC0_6 := qM hc0_6; clear hr0_6 hc0_6; have HB := qM (Below.refl w.heap.size w); have H : (arboristref42_Size.l0 k 1 0 a0_0 a0_1 a0_2 a0_3 l0_4 a0_5 l0_6) = some r := h; clear h; have H' := qM H; clear H; (go_enter Tryd.func15, Tryd.ntmps15)
 go_wp2_with (first | ((with_reducible refine gate_dst (N := 1) rfl ?_); refine box_event ?hg (N := 1) ?hd (cs := #[.int .i64 a0_0, .int .i64 a0_1, .int .i64 a0_2, .int .i64 a0_3, .slice A0_4 l0_4.length c0_4, .string a0_5, .slice A0_6 l0_6.length c0_6]) (t := 26) ?hr ?_; (case hd | hg => rfl); (case hr => first | (go_simp; done) | (go_simp; rfl)); intro gb204 hg w2 hbox hb; have BK204 := qM (hbox); have GW204 := qM (qG hg); have GE204 := GW204; replace HB := qM (qP qF hb); clear hb hbox hg))
 go_loopg [3, 4] k (fun kq v3 v4 w' => ∃ (x3_1 : Int) (x4_1 : Int), v3 = .int .i64 x3_1 ∧ v4 = .int .i64 x4_1 ∧ Aside0 (arboristref42_Size.l0 kq x3_1 x4_1 a0_0 a0_1 a0_2 a0_3 l0_4 a0_5 l0_6 = some r) ∧ Aside0 (kq ≤ k) ∧ Aside0 (w'.heap[gb204]? = some (.cells #[.int .i64 a0_0, .int .i64 a0_1, .int .i64 a0_2, .int .i64 a0_3, (.slice A0_4 l0_4.length c0_4), .string a0_5, (.slice A0_6 l0_6.length c0_6)] 26 (0, 0))) ∧ Aside0 (Below w.heap.size w w'))
 case atStart => exact ⟨(1), (0), qV, qV, H', ⟨Nat.le_refl _⟩, ⟨qK⟩, ⟨qF⟩⟩
 case round =>
  (clear H'); (try clear c1); (try clear p2); obtain ⟨x3_1, x4_1, rfl, rfl, HA, HK1, BK204, HB⟩ := hrel
  cases gk with
  | zero => exact absurd HA.out (by simp [arboristref42_Size.l0])
  | succ k1 =>
   have H := HA.out; clear HA; (simp only [arboristref42_Size.l0] at H); (refine iteD ?_ ?_ H <;> clear H <;> intro c3b0 H)
   ·refine iteN ?_ H
    clear H; (intro c4b0 H); replace H := Option.bind_eq_some_iff.mp H; obtain ⟨t206, A50, H⟩ := H; replace H : (arboristref42_Size.l0 k1 (wrap64 (x3_1 + t206)) (wrap64 (x4_1 + 1)) a0_0 a0_1 a0_2 a0_3 l0_4 a0_5 l0_6) = some r := H; have A5 := qM A50; clear A50; have H' := qM H; clear H; have hz6 := bx7 BK204.out; have p205 : 0 ≤ (x4_1 : Int) := qo qX; have q205 : x4_1 < (l0_6.length : Int) := qo qX; obtain ⟨ad205, A205_4, c205_4, A205_6, c205_6, e205, hx205_0, hx205_1, hx205_2, hx205_3, hx205_4, hx205_5, hx205_6, hl205_4, hi205_4, hl205_6, hi205_6⟩ := at_T26 HR0_6.out x4_1 p205 q205
    cases e205
    replace hx205_0 := qv HB.out hx205_0; replace hx205_1 := qv HB.out hx205_1; replace hx205_2 := qv HB.out hx205_2; replace hx205_3 := qv HB.out hx205_3; replace hx205_4 := qv HB.out hx205_4; replace hx205_5 := qv HB.out hx205_5; replace hx205_6 := qv HB.out hx205_6; have HR205_4 := qM hi205_4; have HC205_4 := qM hl205_4; clear hi205_4 hl205_4; have HR205_6 := qM hi205_6; have HC205_6 := qM hl205_6; clear hi205_6 hl205_6; replace p205 := eq_true p205; replace q205 := eq_true q205
    go_wp2_with (first | ((with_reducible refine gate_callee (f := 15) rfl ?_); refine goesL_ (some 18) rfl rfl Tryd.func15 (by kernel_rfl) rfl #[.agg #[.int .i64 ((rd_T26 l0_6 x4_1).f0), .int .i64 ((rd_T26 l0_6 x4_1).f1), .int .i64 ((rd_T26 l0_6 x4_1).f2), .int .i64 ((rd_T26 l0_6 x4_1).f3), .slice A205_4 ((rd_T26 l0_6 x4_1).f4).length c205_4, .string ((rd_T26 l0_6 x4_1).f5), .slice A205_6 ((rd_T26 l0_6 x4_1).f6).length c205_6]] rfl (by (try simp only [List.map_toArray, List.map_cons, List.map_nil]); first | done | rfl | (simp only [List.length_drop, List.length_take]; rfl)) ?_; (with_reducible refine (ih k1 (by have := HK1.out; omega) ((rd_T26 l0_6 x4_1).f0) ((rd_T26 l0_6 x4_1).f1) ((rd_T26 l0_6 x4_1).f2) ((rd_T26 l0_6 x4_1).f3) _ _ ((rd_T26 l0_6 x4_1).f4) ((rd_T26 l0_6 x4_1).f5) _ _ ((rd_T26 l0_6 x4_1).f6) t206 _ ?side1 ?side2 ?side3 ?side4 A5.out).mono ?_); (case side1 | side3 => exact qY); (case side2 | side4 => exact qO); rintro e w7 ⟨rfl, hb⟩; refine ⟨_, rfl, ?_⟩; replace BK204 := qM (qb (g := gb204) qK hb); replace HB := qM (qP qF hb); (try clear hb); (try clear hb2); (try clear hk); (try clear hi)))
    go_roundg k1
    case measure => have := HK1.out; omega
    case rel => exact ⟨(wrap64 (x3_1 + t206)), (wrap64 (x4_1 + 1)), qV, qV, H', ⟨by have := HK1.out; omega⟩, ⟨qK⟩, ⟨qF⟩⟩
   ·obtain rfl := Option.some.inj H
    have hz8 := bx7 BK204.out; go_wp2; (go_ret); exact ⟨qE, qF⟩




theorem eqA46 (d : Nat) (w : World) (x0 y0 : Int) (x1 y1 : Int) (x2 y2 : ByteArray) :
  (Op.equalIn (d + 2) 46 (.agg #[.int .i64 x0, .int .i64 x1, .string x2]) (.agg #[.int .i64 y0, .int .i64 y1, .string y2])).run Tryd.prog w = .ok (x0 == y0 && (x1 == y1 && (x2.toList == y2.toList))) w := by
 refine eqA_of Tryd.underlying46 (by kernel_rfl) ?_; refine eqf_cons (by rfl) (by go_simp; rfl) (by go_simp; rfl) (by go_simp) ?_; refine eqf_cons (by rfl) (by go_simp; rfl) (by go_simp; rfl) (by go_simp) ?_; exact eqf_last (by rfl) (by go_simp; rfl) (by go_simp; rfl) (by go_simp)
attribute [local go_sem high] eqA46
def cst_sameLead.l0 : Nat → List (S46) → List (S46) → Int → Int → Option (Bool)
 | 0, _, _, _, _ => none
 | k + 1, x1, x12, x13, x14 => if x14 < x13 then (if 0 ≤ x14 then (if x14 < (x12.length : Int) then (if x14 < (x1.length : Int) then (if (!(((rd_T46 x12 x14).f0) == ((rd_T46 x1 x14).f0)) || (!(((rd_T46 x12 x14).f1) == ((rd_T46 x1 x14).f1)) || (!((((rd_T46 x12 x14).f2).toList) == (((rd_T46 x1 x14).f2).toList))))) = true then (none) else (cst_sameLead.l0 k x1 x12 x13 (wrap64 (x14 + 1)))) else (none)) else (none)) else (none)) else (some true)
def cst_sameLead.f (k : Nat) (l0 : List (S46)) (l1 : List (S46)) : Option (Bool) := if (l0.length : Int) = (l1.length : Int) then (cst_sameLead.l0 k l1 l0 (l0.length : Int) 0) else (none)
theorem cst_sameLead.calls (k : Nat) (A0 : Option Addr) (c0 : Nat) (l0 : List (S46)) (A1 : Option Addr) (c1 : Nat) (l1 : List (S46)) (r : Bool) (w : World) (hr0 : Kd.C k46 w A0 l0.length l0) (hc0 : l0.length ≤ c0) (hr1 : Kd.C k46 w A1 l1.length l1) (hc1 : l1.length ≤ c1) (h : cst_sameLead.f k l0 l1 = some r) :
  Calls Tryd.prog 36 #[.slice A0 l0.length c0, .slice A1 l1.length c1] w fun e w' => e = .returned (.bool r) ∧ Below w.heap.size w w' := by
 have hu46 := Tryd.underlying46; have HR0 := qM hr0; have HC0 := qM hc0; clear hr0 hc0; have HR1 := qM hr1; have HC1 := qM hc1; clear hr1 hc1; have HB := qM (Below.refl w.heap.size w); have H : (if (l0.length : Int) = (l1.length : Int) then (cst_sameLead.l0 k l1 l0 (l0.length : Int) 0) else (none)) = some r := h; clear h; refine iteM ?_ H; clear H; (intro c3 H); have c3b0 := beq_iff_eq.mpr c3; have c3b1 := bne_eq_false_iff_eq.mpr c3; (have c3b2 : (l0.length == l1.length) = true := by first | simpa using c3 | (simp at c3 ⊢; omega)); clear c3; have H' := qM H; clear H; (go_enter Tryd.func36, Tryd.ntmps36); go_wp2; (repeat (go_quiet (fail); try go_wp2)); (go_loopg [14] k (fun kq v14 w' => ∃ (x14_1 : Int), v14 = .int .i64 x14_1 ∧ Aside0 (cst_sameLead.l0 kq l1 l0 (l0.length : Int) x14_1 = some r) ∧ Aside0 (kq ≤ k) ∧ Aside0 (Below w.heap.size w w')))
 case atStart => exact ⟨(0), qV, H', ⟨Nat.le_refl _⟩, ⟨qF⟩⟩
 case round =>
  (clear H'); (try clear c1); (try clear p2); (try clear c3); (try clear c3b0); (try clear c3b1); (try clear c3b2); obtain ⟨x14_1, rfl, HA, HK1, HB⟩ := hrel
  cases gk with
  | zero => exact absurd HA.out (by simp [cst_sameLead.l0])
  | succ k1 =>
   have H := HA.out; clear HA; (simp only [cst_sameLead.l0] at H); (refine iteD ?_ ?_ H <;> clear H <;> intro c4b0 H)
   ·refine iteN ?_ H
    clear H; (intro c5b0 H); refine iteN ?_ H; clear H; (intro c6b0 H); refine iteN ?_ H; clear H; (intro c7b0 H); (refine iteR ?_ ?_ H <;> clear H <;> intro c8 H)
    ·exact absurd H (by simp)
    ·have c8b0 : (!(((rd_T46 l0 x14_1).f0) == ((rd_T46 l1 x14_1).f0)) || (!(((rd_T46 l0 x14_1).f1) == ((rd_T46 l1 x14_1).f1)) || (!((((rd_T46 l0 x14_1).f2).toList) == (((rd_T46 l1 x14_1).f2).toList))))) = false := by simpa using c8
     clear c8; have H' := qM H; clear H; have p184 : 0 ≤ (x14_1 : Int) := qo qX; have q184 : x14_1 < (l0.length : Int) := qo qX; obtain ⟨ad184, e184, hx184_0, hx184_1, hx184_2⟩ := at_T46 HR0.out x14_1 p184 q184
     cases e184
     replace hx184_0 := qv HB.out hx184_0; replace hx184_1 := qv HB.out hx184_1; replace hx184_2 := qv HB.out hx184_2; replace p184 := eq_true p184; replace q184 := eq_true q184
     go_wp2_with (first | ((with_reducible refine gate_dst (N := 6) rfl ?_); refine box_event ?hg (N := 6) ?hd (cs := #[.int .i64 0, .int .i64 0, .string (⟨#[]⟩ : ByteArray)]) (t := 46) ?hr ?_; (case hd | hg => rfl); (case hr => first | (go_simp; done) | (go_simp; rfl)); intro gb185 hg w9 hbox hb; have BK185 := qM (hbox); have GW185 := qM (qG hg); have GE185 := GW185; replace HB := qM (qP qF hb); clear hb hbox hg; have hz10 := bx3 BK185.out; have p186 : 0 ≤ (x14_1 : Int) := qo qX; have q186 : x14_1 < (l1.length : Int) := qo qX; obtain ⟨ad186, e186, hx186_0, hx186_1, hx186_2⟩ := at_T46 HR1.out x14_1 p186 q186; cases e186; have hn186_0 : ad186.block ≠ gb185 := Nat.ne_of_lt (Nat.lt_of_lt_of_le (by have := qB _ _ hx186_0; first | rwa [add_block] at this | exact this) GW185.out); have hn186_1 : ad186.block ≠ gb185 := Nat.ne_of_lt (Nat.lt_of_lt_of_le (by have := qB _ _ hx186_0; first | rwa [add_block] at this | exact this) GW185.out); have hn186_2 : ad186.block ≠ gb185 := Nat.ne_of_lt (Nat.lt_of_lt_of_le (by have := qB _ _ hx186_0; first | rwa [add_block] at this | exact this) GW185.out); replace hx186_0 := qv HB.out hx186_0; replace hx186_1 := qv HB.out hx186_1; replace hx186_2 := qv HB.out hx186_2; have fr_ := fun (a_ : Addr) (h_ : a_.block ≠ gb185) (W_ : World) (u_ : Value) (e_ : W_.cell? a_ = some u_) => (cell_far (p := ⟨gb185, 2, none⟩) h_ (.string ((rd_T46 l0 x14_1).f2))).trans ((cell_far (p := ⟨gb185, 1, none⟩) h_ (.int .i64 ((rd_T46 l0 x14_1).f1))).trans ((cell_far (p := ⟨gb185, 0, none⟩) h_ (.int .i64 ((rd_T46 l0 x14_1).f0))).trans e_)); replace hx186_0 := fr_ _ (by first | (rw [add_block]; exact hn186_0) | (show (Addr.add _ _).block ≠ _; rw [add_block]; exact hn186_0) | exact hn186_0) _ _ hx186_0; replace hx186_1 := fr_ _ (by first | (rw [add_block]; exact hn186_0) | (show (Addr.add _ _).block ≠ _; rw [add_block]; exact hn186_0) | exact hn186_0) _ _ hx186_1; replace hx186_2 := fr_ _ (by first | (rw [add_block]; exact hn186_0) | (show (Addr.add _ _).block ≠ _; rw [add_block]; exact hn186_0) | exact hn186_0) _ _ hx186_2; clear fr_; (try have hy186_0 := fun (n_ : Nat) => (show (((((w9.drewN n_).setCell ⟨gb185, 0, none⟩ (.int .i64 ((rd_T46 l0 x14_1).f0))).setCell ⟨gb185, 1, none⟩ (.int .i64 ((rd_T46 l0 x14_1).f1))).setCell ⟨gb185, 2, none⟩ (.string ((rd_T46 l0 x14_1).f2)))).cell? _ = some _ from hx186_0)); (try have hy186_1 := fun (n_ : Nat) => (show (((((w9.drewN n_).setCell ⟨gb185, 0, none⟩ (.int .i64 ((rd_T46 l0 x14_1).f0))).setCell ⟨gb185, 1, none⟩ (.int .i64 ((rd_T46 l0 x14_1).f1))).setCell ⟨gb185, 2, none⟩ (.string ((rd_T46 l0 x14_1).f2)))).cell? _ = some _ from hx186_1)); (try have hy186_2 := fun (n_ : Nat) => (show (((((w9.drewN n_).setCell ⟨gb185, 0, none⟩ (.int .i64 ((rd_T46 l0 x14_1).f0))).setCell ⟨gb185, 1, none⟩ (.int .i64 ((rd_T46 l0 x14_1).f1))).setCell ⟨gb185, 2, none⟩ (.string ((rd_T46 l0 x14_1).f2)))).cell? _ = some _ from hx186_2)); clear hn186_0; clear hn186_1; clear hn186_2; replace p186 := eq_true p186; replace q186 := eq_true q186))
     repeat (go_quiet (first | ((with_reducible refine gate_dst (N := 6) rfl ?_); refine box_event ?hg (N := 6) ?hd (cs := #[.int .i64 0, .int .i64 0, .string (⟨#[]⟩ : ByteArray)]) (t := 46) ?hr ?_; (case hd | hg => rfl); (case hr => first | (go_simp; done) | (go_simp; rfl)); intro gb185 hg w9 hbox hb; have BK185 := qM (hbox); have GW185 := qM (qG hg); have GE185 := GW185; replace HB := qM (qP qF hb); clear hb hbox hg; have hz10 := bx3 BK185.out; have p186 : 0 ≤ (x14_1 : Int) := qo qX; have q186 : x14_1 < (l1.length : Int) := qo qX; obtain ⟨ad186, e186, hx186_0, hx186_1, hx186_2⟩ := at_T46 HR1.out x14_1 p186 q186; cases e186; have hn186_0 : ad186.block ≠ gb185 := Nat.ne_of_lt (Nat.lt_of_lt_of_le (by have := qB _ _ hx186_0; first | rwa [add_block] at this | exact this) GW185.out); have hn186_1 : ad186.block ≠ gb185 := Nat.ne_of_lt (Nat.lt_of_lt_of_le (by have := qB _ _ hx186_0; first | rwa [add_block] at this | exact this) GW185.out); have hn186_2 : ad186.block ≠ gb185 := Nat.ne_of_lt (Nat.lt_of_lt_of_le (by have := qB _ _ hx186_0; first | rwa [add_block] at this | exact this) GW185.out); replace hx186_0 := qv HB.out hx186_0; replace hx186_1 := qv HB.out hx186_1; replace hx186_2 := qv HB.out hx186_2; have fr_ := fun (a_ : Addr) (h_ : a_.block ≠ gb185) (W_ : World) (u_ : Value) (e_ : W_.cell? a_ = some u_) => (cell_far (p := ⟨gb185, 2, none⟩) h_ (.string ((rd_T46 l0 x14_1).f2))).trans ((cell_far (p := ⟨gb185, 1, none⟩) h_ (.int .i64 ((rd_T46 l0 x14_1).f1))).trans ((cell_far (p := ⟨gb185, 0, none⟩) h_ (.int .i64 ((rd_T46 l0 x14_1).f0))).trans e_)); replace hx186_0 := fr_ _ (by first | (rw [add_block]; exact hn186_0) | (show (Addr.add _ _).block ≠ _; rw [add_block]; exact hn186_0) | exact hn186_0) _ _ hx186_0; replace hx186_1 := fr_ _ (by first | (rw [add_block]; exact hn186_0) | (show (Addr.add _ _).block ≠ _; rw [add_block]; exact hn186_0) | exact hn186_0) _ _ hx186_1; replace hx186_2 := fr_ _ (by first | (rw [add_block]; exact hn186_0) | (show (Addr.add _ _).block ≠ _; rw [add_block]; exact hn186_0) | exact hn186_0) _ _ hx186_2; clear fr_; (try have hy186_0 := fun (n_ : Nat) => (show (((((w9.drewN n_).setCell ⟨gb185, 0, none⟩ (.int .i64 ((rd_T46 l0 x14_1).f0))).setCell ⟨gb185, 1, none⟩ (.int .i64 ((rd_T46 l0 x14_1).f1))).setCell ⟨gb185, 2, none⟩ (.string ((rd_T46 l0 x14_1).f2)))).cell? _ = some _ from hx186_0)); (try have hy186_1 := fun (n_ : Nat) => (show (((((w9.drewN n_).setCell ⟨gb185, 0, none⟩ (.int .i64 ((rd_T46 l0 x14_1).f0))).setCell ⟨gb185, 1, none⟩ (.int .i64 ((rd_T46 l0 x14_1).f1))).setCell ⟨gb185, 2, none⟩ (.string ((rd_T46 l0 x14_1).f2)))).cell? _ = some _ from hx186_1)); (try have hy186_2 := fun (n_ : Nat) => (show (((((w9.drewN n_).setCell ⟨gb185, 0, none⟩ (.int .i64 ((rd_T46 l0 x14_1).f0))).setCell ⟨gb185, 1, none⟩ (.int .i64 ((rd_T46 l0 x14_1).f1))).setCell ⟨gb185, 2, none⟩ (.string ((rd_T46 l0 x14_1).f2)))).cell? _ = some _ from hx186_2)); clear hn186_0; clear hn186_1; clear hn186_2; replace p186 := eq_true p186; replace q186 := eq_true q186)); try go_wp2_with (first | ((with_reducible refine gate_dst (N := 6) rfl ?_); refine box_event ?hg (N := 6) ?hd (cs := #[.int .i64 0, .int .i64 0, .string (⟨#[]⟩ : ByteArray)]) (t := 46) ?hr ?_; (case hd | hg => rfl); (case hr => first | (go_simp; done) | (go_simp; rfl)); intro gb185 hg w9 hbox hb; have BK185 := qM (hbox); have GW185 := qM (qG hg); have GE185 := GW185; replace HB := qM (qP qF hb); clear hb hbox hg; have hz10 := bx3 BK185.out; have p186 : 0 ≤ (x14_1 : Int) := qo qX; have q186 : x14_1 < (l1.length : Int) := qo qX; obtain ⟨ad186, e186, hx186_0, hx186_1, hx186_2⟩ := at_T46 HR1.out x14_1 p186 q186; cases e186; have hn186_0 : ad186.block ≠ gb185 := Nat.ne_of_lt (Nat.lt_of_lt_of_le (by have := qB _ _ hx186_0; first | rwa [add_block] at this | exact this) GW185.out); have hn186_1 : ad186.block ≠ gb185 := Nat.ne_of_lt (Nat.lt_of_lt_of_le (by have := qB _ _ hx186_0; first | rwa [add_block] at this | exact this) GW185.out); have hn186_2 : ad186.block ≠ gb185 := Nat.ne_of_lt (Nat.lt_of_lt_of_le (by have := qB _ _ hx186_0; first | rwa [add_block] at this | exact this) GW185.out); replace hx186_0 := qv HB.out hx186_0; replace hx186_1 := qv HB.out hx186_1; replace hx186_2 := qv HB.out hx186_2; have fr_ := fun (a_ : Addr) (h_ : a_.block ≠ gb185) (W_ : World) (u_ : Value) (e_ : W_.cell? a_ = some u_) => (cell_far (p := ⟨gb185, 2, none⟩) h_ (.string ((rd_T46 l0 x14_1).f2))).trans ((cell_far (p := ⟨gb185, 1, none⟩) h_ (.int .i64 ((rd_T46 l0 x14_1).f1))).trans ((cell_far (p := ⟨gb185, 0, none⟩) h_ (.int .i64 ((rd_T46 l0 x14_1).f0))).trans e_)); replace hx186_0 := fr_ _ (by first | (rw [add_block]; exact hn186_0) | (show (Addr.add _ _).block ≠ _; rw [add_block]; exact hn186_0) | exact hn186_0) _ _ hx186_0; replace hx186_1 := fr_ _ (by first | (rw [add_block]; exact hn186_0) | (show (Addr.add _ _).block ≠ _; rw [add_block]; exact hn186_0) | exact hn186_0) _ _ hx186_1; replace hx186_2 := fr_ _ (by first | (rw [add_block]; exact hn186_0) | (show (Addr.add _ _).block ≠ _; rw [add_block]; exact hn186_0) | exact hn186_0) _ _ hx186_2; clear fr_; (try have hy186_0 := fun (n_ : Nat) => (show (((((w9.drewN n_).setCell ⟨gb185, 0, none⟩ (.int .i64 ((rd_T46 l0 x14_1).f0))).setCell ⟨gb185, 1, none⟩ (.int .i64 ((rd_T46 l0 x14_1).f1))).setCell ⟨gb185, 2, none⟩ (.string ((rd_T46 l0 x14_1).f2)))).cell? _ = some _ from hx186_0)); (try have hy186_1 := fun (n_ : Nat) => (show (((((w9.drewN n_).setCell ⟨gb185, 0, none⟩ (.int .i64 ((rd_T46 l0 x14_1).f0))).setCell ⟨gb185, 1, none⟩ (.int .i64 ((rd_T46 l0 x14_1).f1))).setCell ⟨gb185, 2, none⟩ (.string ((rd_T46 l0 x14_1).f2)))).cell? _ = some _ from hx186_1)); (try have hy186_2 := fun (n_ : Nat) => (show (((((w9.drewN n_).setCell ⟨gb185, 0, none⟩ (.int .i64 ((rd_T46 l0 x14_1).f0))).setCell ⟨gb185, 1, none⟩ (.int .i64 ((rd_T46 l0 x14_1).f1))).setCell ⟨gb185, 2, none⟩ (.string ((rd_T46 l0 x14_1).f2)))).cell? _ = some _ from hx186_2)); clear hn186_0; clear hn186_1; clear hn186_2; replace p186 := eq_true p186; replace q186 := eq_true q186)))
     go_roundg k1
     case measure => have := HK1.out; omega
     case rel => exact ⟨(wrap64 (x14_1 + 1)), qV, H', ⟨by have := HK1.out; omega⟩, ⟨qF⟩⟩
   ·obtain rfl := Option.some.inj H
    go_wp2; (repeat (go_quiet (fail); try go_wp2)); (go_ret); exact ⟨qE, qF⟩
mutual
def cst_Same.l0 : Nat → List (S26) → Int → Int → Int → Int → Int → Int → List (S46) → ByteArray → List (S26) → Option (Bool)
 | 0, _, _, _, _, _, _, _, _, _, _ => none
 | k + 1, x58, x59, x60, x189000, x189001, x189002, x189003, x189004, x189005, x189006 => if x60 < x59 then (if 0 ≤ x60 then (if x60 < (x58.length : Int) then (if x60 < (x189006.length : Int) then ((cst_Same.f k ((rd_T26 x58 x60).f0) ((rd_T26 x58 x60).f1) ((rd_T26 x58 x60).f2) ((rd_T26 x58 x60).f3) ((rd_T26 x58 x60).f4) ((rd_T26 x58 x60).f5) ((rd_T26 x58 x60).f6) ((rd_T26 x189006 x60).f0) ((rd_T26 x189006 x60).f1) ((rd_T26 x189006 x60).f2) ((rd_T26 x189006 x60).f3) ((rd_T26 x189006 x60).f4) ((rd_T26 x189006 x60).f5) ((rd_T26 x189006 x60).f6)).bind fun t193 => (if t193 = true then (cst_Same.l0 k x58 x59 (wrap64 (x60 + 1)) x189000 x189001 x189002 x189003 x189004 x189005 x189006) else (none))) else (none)) else (none)) else (none)) else (some true)
def cst_Same.f : Nat → Int → Int → Int → Int → List (S46) → ByteArray → List (S26) → Int → Int → Int → Int → List (S46) → ByteArray → List (S26) → Option (Bool)
 | 0, _, _, _, _, _, _, _, _, _, _, _, _, _, _ => none
 | k + 1, a0_0, a0_1, a0_2, a0_3, l0_4, a0_5, l0_6, a1_0, a1_1, a1_2, a1_3, l1_4, a1_5, l1_6 => if a0_0 = a1_0 then (if a0_1 = a1_1 then (if a0_2 = a1_2 then (if a0_3 = a1_3 then (if a0_5.toList = a1_5.toList then (if (l0_6.length : Int) = (l1_6.length : Int) then ((cst_sameLead.f k l0_4 l1_4).bind fun t189 => (if t189 = true then (cst_Same.l0 k l0_6 (l0_6.length : Int) 0 a1_0 a1_1 a1_2 a1_3 l1_4 a1_5 l1_6) else (none))) else (none)) else (none)) else (none)) else (none)) else (none)) else (none)
end
def cst_Same.T6 : Bool × List (List Nat × List Nat) := (true, [([], []), ([], []), ([1], [1]), ([], []), ([2, 3], [2, 3]), ([4], [4]), ([0, 5], [0, 5]), ([6], [6])])
def cst_Same.B6 : List Nat := [0, 0, 2, 0, 14, 30, 63, 127]
theorem cst_Same.tab6 : rtab .any (opsOf Tryd.f21 6) = cst_Same.T6 := by kernel_rfl
theorem cst_Same.bits6 : waitsOk cst_Same.T6.2 cst_Same.B6 = true := by kernel_rfl
theorem cst_Same.calls (k : Nat) : ∀ (a0_0 : Int) (a0_1 : Int) (a0_2 : Int) (a0_3 : Int) (A0_4 : Option Addr) (c0_4 : Nat) (l0_4 : List (S46)) (a0_5 : ByteArray) (A0_6 : Option Addr) (c0_6 : Nat) (l0_6 : List (S26)) (a1_0 : Int) (a1_1 : Int) (a1_2 : Int) (a1_3 : Int) (A1_4 : Option Addr) (c1_4 : Nat) (l1_4 : List (S46)) (a1_5 : ByteArray) (A1_6 : Option Addr) (c1_6 : Nat) (l1_6 : List (S26)) (r : Bool) (w : World) (hr0_4 : Kd.C k46 w A0_4 l0_4.length l0_4) (hc0_4 : l0_4.length ≤ c0_4) (hr0_6 : Kd.C k26 w A0_6 l0_6.length l0_6) (hc0_6 : l0_6.length ≤ c0_6) (hr1_4 : Kd.C k46 w A1_4 l1_4.length l1_4) (hc1_4 : l1_4.length ≤ c1_4) (hr1_6 : Kd.C k26 w A1_6 l1_6.length l1_6) (hc1_6 : l1_6.length ≤ c1_6) (h : cst_Same.f k a0_0 a0_1 a0_2 a0_3 l0_4 a0_5 l0_6 a1_0 a1_1 a1_2 a1_3 l1_4 a1_5 l1_6 = some r),
  Calls Tryd.prog 21 #[.agg #[.int .i64 a0_0, .int .i64 a0_1, .int .i64 a0_2, .int .i64 a0_3, .slice A0_4 l0_4.length c0_4, .string a0_5, .slice A0_6 l0_6.length c0_6], .agg #[.int .i64 a1_0, .int .i64 a1_1, .int .i64 a1_2, .int .i64 a1_3, .slice A1_4 l1_4.length c1_4, .string a1_5, .slice A1_6 l1_6.length c1_6]] w fun e w' => e = .returned (.bool r) ∧ Below w.heap.size w w' := by
 induction k using Nat.strongRecOn with
 | _ k ih =>
 intro a0_0 a0_1 a0_2 a0_3 A0_4 c0_4 l0_4 a0_5 A0_6 c0_6 l0_6 a1_0 a1_1 a1_2 a1_3 A1_4 c1_4 l1_4 a1_5 A1_6 c1_6 l1_6 r w hr0_4 hc0_4 hr0_6 hc0_6 hr1_4 hc1_4 hr1_6 hc1_6 h
 cases k with
 | zero => exact absurd h (by simp [cst_Same.f])
 | succ k =>
 (simp only [cst_Same.f] at h); have hu26 := Tryd.underlying26; have HR0_4 := qM hr0_4; have HC0_4 := qM hc0_4; clear hr0_4 hc0_4; have HR0_6 := qM hr0_6; have HC0_6 := qM hc0_6; clear hr0_6 hc0_6; have HR1_4 := qM hr1_4; have HC1_4 := qM hc1_4; clear hr1_4 hc1_4; have HR1_6 := qM hr1_6; have HC1_6 := qM hc1_6; clear hr1_6 hc1_6; have HB := qM (Below.refl w.heap.size w); have H : (if a0_0 = a1_0 then (if a0_1 = a1_1 then (if a0_2 = a1_2 then (if a0_3 = a1_3 then (if a0_5.toList = a1_5.toList then (if (l0_6.length : Int) = (l1_6.length : Int) then ((cst_sameLead.f k l0_4 l1_4).bind fun t189 => (if t189 = true then (cst_Same.l0 k l0_6 (l0_6.length : Int) 0 a1_0 a1_1 a1_2 a1_3 l1_4 a1_5 l1_6) else (none))) else (none)) else (none)) else (none)) else (none)) else (none)) else (none)) = some r := h; clear h; refine iteM ?_ H; clear H; (intro c3 H); have c3b0 := beq_iff_eq.mpr c3; have c3b1 := bne_eq_false_iff_eq.mpr c3; clear c3; refine iteM ?_ H; clear H; (intro c4 H); have c4b0 := beq_iff_eq.mpr c4; have c4b1 := bne_eq_false_iff_eq.mpr c4; clear c4; refine iteM ?_ H; clear H; (intro c5 H); have c5b0 := beq_iff_eq.mpr c5; have c5b1 := bne_eq_false_iff_eq.mpr c5; clear c5; refine iteM ?_ H; clear H; (intro c6 H); have c6b0 := beq_iff_eq.mpr c6; have c6b1 := bne_eq_false_iff_eq.mpr c6; clear c6; refine iteM ?_ H; clear H; (intro c7 H); have c7b0 := beq_iff_eq.mpr c7; have c7b1 := bne_eq_false_iff_eq.mpr c7; clear c7; refine iteM ?_ H; clear H; (intro c8 H); have c8b0 := beq_iff_eq.mpr c8; have c8b1 := bne_eq_false_iff_eq.mpr c8; (have c8b2 : (l0_6.length == l1_6.length) = true := by first | simpa using c8 | (simp at c8 ⊢; omega)); clear c8; replace H := Option.bind_eq_some_iff.mp H; obtain ⟨t189, A90, H⟩ := H; replace H : (if t189 = true then (cst_Same.l0 k l0_6 (l0_6.length : Int) 0 a1_0 a1_1 a1_2 a1_3 l1_4 a1_5 l1_6) else (none)) = some r := H; have A9 := qM A90; clear A90; (refine iteR ?_ ?_ H <;> clear H <;> intro c10 H)
 ·subst c10
  have H' := qM H; clear H; (go_enter Tryd.func21, Tryd.ntmps21)
  go_wp2_with (first | ((with_reducible refine gate_dst (N := 2) rfl ?_); (try (refine gate_guard (by rfl) ?_; dsimp only)); refine box_event ?hg (N := 2) ?hd (cs := #[.int .i64 a0_0, .int .i64 a0_1, .int .i64 a0_2, .int .i64 a0_3, .slice A0_4 l0_4.length c0_4, .string a0_5, .slice A0_6 l0_6.length c0_6]) (t := 26) ?hr ?_; (case hd | hg => rfl); (case hr => first | (go_simp; done) | (go_simp; rfl)); intro gb187 hg w11 hbox hb; have BK187 := qM (hbox); have GW187 := qM (qG hg); have GE187 := GW187; replace HB := qM (qP qF hb); clear hb hbox hg) | ((with_reducible refine gate_dst (N := 3) rfl ?_); (try (refine gate_guard (by rfl) ?_; dsimp only)); refine box_event ?hg (N := 3) ?hd (cs := #[.int .i64 a1_0, .int .i64 a1_1, .int .i64 a1_2, .int .i64 a1_3, .slice A1_4 l1_4.length c1_4, .string a1_5, .slice A1_6 l1_6.length c1_6]) (t := 26) ?hr ?_; (case hd | hg => rfl); (case hr => first | (go_simp; done) | (go_simp; rfl)); intro gb188 hg w12 hbox hb; have BK188 := qM (hbox); have GW188 := qM (qG hg); have GE188 := GW188; have NB187_188 := qM ((by rw [hg]; exact Nat.ne_of_lt (ql (g := gb187) qK) : gb187 ≠ gb188)); have NB188_187 := qM (Ne.symm NB187_188.out); replace BK187 := qM (qb (g := gb187) qK hb); replace HB := qM (qP qF hb); clear hb hbox hg; have hnb13 := NB187_188.out; have hnc13 := NB188_187.out; have hz14 := bx7 BK187.out; have hz15 := bx7 BK188.out) | (go_at_call 36; (with_reducible refine (cst_sameLead.calls k _ _ l0_4 _ _ l1_4 true _ ?side1 ?side2 ?side3 ?side4 A9.out).mono ?_); (case side1 | side3 => exact qY); (case side2 | side4 => exact qO); rintro e w16 ⟨rfl, hb⟩; replace BK187 := qM (qb (g := gb187) qK hb); replace BK188 := qM (qb (g := gb188) qK hb); replace HB := qM (qP qF hb); (try clear hb); (try clear hb2); (try clear hk); (try clear hi); have hz17 := bx7 BK187.out))
  go_loopg [60] k (fun kq v60 w' => ∃ (x60_1 : Int), v60 = .int .i64 x60_1 ∧ Aside0 (cst_Same.l0 kq l0_6 (l0_6.length : Int) x60_1 a1_0 a1_1 a1_2 a1_3 l1_4 a1_5 l1_6 = some r) ∧ Aside0 (kq ≤ k) ∧ Aside0 (w'.heap[gb187]? = some (.cells #[.int .i64 a0_0, .int .i64 a0_1, .int .i64 a0_2, .int .i64 a0_3, (.slice A0_4 l0_4.length c0_4), .string a0_5, (.slice A0_6 l0_6.length c0_6)] 26 (0, 0))) ∧ Aside0 (w'.heap[gb188]? = some (.cells #[.int .i64 a1_0, .int .i64 a1_1, .int .i64 a1_2, .int .i64 a1_3, (.slice A1_4 l1_4.length c1_4), .string a1_5, (.slice A1_6 l1_6.length c1_6)] 26 (0, 0))) ∧ Aside0 (Below w.heap.size w w'))
  case atStart => exact ⟨(0), qV, H', ⟨Nat.le_refl _⟩, ⟨qK⟩, ⟨qK⟩, ⟨qF⟩⟩
  case round =>
   (clear H'); (try clear c1); (try clear c2); (try clear p2); (try clear c3); (try clear c3b0); (try clear c3b1); (try clear c4); (try clear c4b0); (try clear c4b1); (try clear c5); (try clear c5b0); (try clear c5b1); (try clear c6); (try clear c6b0); (try clear c6b1); (try clear c7); (try clear c7b0); (try clear c7b1); (try clear c8); (try clear c8b0); (try clear c8b1); (try clear c8b2); (try clear c10); (try clear c13); (try clear hz14); (try clear hz15); (try clear hz17); obtain ⟨x60_1, rfl, HA, HK1, BK187, BK188, HB⟩ := hrel
   cases gk with
   | zero => exact absurd HA.out (by simp [cst_Same.l0])
   | succ k1 =>
    have H := HA.out; clear HA; (simp only [cst_Same.l0] at H); (refine iteD ?_ ?_ H <;> clear H <;> intro c18b0 H)
    ·refine iteN ?_ H
     clear H; (intro c19b0 H); refine iteN ?_ H; clear H; (intro c20b0 H); refine iteN ?_ H; clear H; (intro c21b0 H); replace H := Option.bind_eq_some_iff.mp H; obtain ⟨t193, A220, H⟩ := H; replace H : (if t193 = true then (cst_Same.l0 k1 l0_6 (l0_6.length : Int) (wrap64 (x60_1 + 1)) a1_0 a1_1 a1_2 a1_3 l1_4 a1_5 l1_6) else (none)) = some r := H; have A22 := qM A220; clear A220; (refine iteR ?_ ?_ H <;> clear H <;> intro c23 H)
     ·subst c23
      have H' := qM H; clear H; have p190 : 0 ≤ (x60_1 : Int) := qo qX; have q190 : x60_1 < (l0_6.length : Int) := qo qX; obtain ⟨ad190, A190_4, c190_4, A190_6, c190_6, e190, hx190_0, hx190_1, hx190_2, hx190_3, hx190_4, hx190_5, hx190_6, hl190_4, hi190_4, hl190_6, hi190_6⟩ := at_T26 HR0_6.out x60_1 p190 q190
      cases e190
      replace hx190_0 := qv HB.out hx190_0; replace hx190_1 := qv HB.out hx190_1; replace hx190_2 := qv HB.out hx190_2; replace hx190_3 := qv HB.out hx190_3; replace hx190_4 := qv HB.out hx190_4; replace hx190_5 := qv HB.out hx190_5; replace hx190_6 := qv HB.out hx190_6; have HR190_4 := qM hi190_4; have HC190_4 := qM hl190_4; clear hi190_4 hl190_4; have HR190_6 := qM hi190_6; have HC190_6 := qM hl190_6; clear hi190_6 hl190_6; replace p190 := eq_true p190; replace q190 := eq_true q190
      try go_wp2_with (first | ((with_reducible refine gate_dst (N := 6) rfl ?_); (try (refine gate_guard (by rfl) ?_; dsimp only)); refine box_event ?hg (N := 6) ?hd (cs := #[.int .i64 0, .int .i64 0, .int .i64 0, .int .i64 0, .slice none 0 0, .string (⟨#[]⟩ : ByteArray), .slice none 0 0]) (t := 26) ?hr ?_; (case hd | hg => rfl); (case hr => first | (go_simp; done) | (go_simp; rfl)); intro gb191 hg w24 hbox hb; have BK191 := qM (hbox); have GW191 := qM (qG hg); have GE191 := GW191; have NB187_191 := qM ((by rw [hg]; exact Nat.ne_of_lt (ql (g := gb187) qK) : gb187 ≠ gb191)); have NB191_187 := qM (Ne.symm NB187_191.out); have NB188_191 := qM ((by rw [hg]; exact Nat.ne_of_lt (ql (g := gb188) qK) : gb188 ≠ gb191)); have NB191_188 := qM (Ne.symm NB188_191.out); replace BK187 := qM (qb (g := gb187) qK hb); replace BK188 := qM (qb (g := gb188) qK hb); replace HB := qM (qP qF hb); clear hb hbox hg; have hnb25 := NB191_187.out; have hnc25 := NB187_191.out; have hnb26 := NB191_188.out; have hnc26 := NB188_191.out; have hz27 := bx7 BK191.out))
      have n0_ : Aside0 ((((((((w24.setCell ⟨gb191, 0, none⟩ (.int .i64 ((rd_T26 l0_6 x60_1).f0))).setCell ⟨gb191, 1, none⟩ (.int .i64 ((rd_T26 l0_6 x60_1).f1))).setCell ⟨gb191, 2, none⟩ (.int .i64 ((rd_T26 l0_6 x60_1).f2))).setCell ⟨gb191, 3, none⟩ (.int .i64 ((rd_T26 l0_6 x60_1).f3))).setCell ⟨gb191, 4, none⟩ (.slice A190_4 ((rd_T26 l0_6 x60_1).f4).length c190_4)).setCell ⟨gb191, 5, none⟩ (.string ((rd_T26 l0_6 x60_1).f5))).setCell ⟨gb191, 6, none⟩ (.slice A190_6 ((rd_T26 l0_6 x60_1).f6).length c190_6)).heap[gb187]? = some (.cells #[.int .i64 a0_0, .int .i64 a0_1, .int .i64 a0_2, .int .i64 a0_3, .slice A0_4 l0_4.length c0_4, .string a0_5, .slice (some ad190) l0_6.length c0_6] 26 (0, 0))) := ⟨qK⟩
      have n1_ : Aside0 ((((((((w24.setCell ⟨gb191, 0, none⟩ (.int .i64 ((rd_T26 l0_6 x60_1).f0))).setCell ⟨gb191, 1, none⟩ (.int .i64 ((rd_T26 l0_6 x60_1).f1))).setCell ⟨gb191, 2, none⟩ (.int .i64 ((rd_T26 l0_6 x60_1).f2))).setCell ⟨gb191, 3, none⟩ (.int .i64 ((rd_T26 l0_6 x60_1).f3))).setCell ⟨gb191, 4, none⟩ (.slice A190_4 ((rd_T26 l0_6 x60_1).f4).length c190_4)).setCell ⟨gb191, 5, none⟩ (.string ((rd_T26 l0_6 x60_1).f5))).setCell ⟨gb191, 6, none⟩ (.slice A190_6 ((rd_T26 l0_6 x60_1).f6).length c190_6)).heap[gb188]? = some (.cells #[.int .i64 a1_0, .int .i64 a1_1, .int .i64 a1_2, .int .i64 a1_3, .slice A1_4 l1_4.length c1_4, .string a1_5, .slice A1_6 l1_6.length c1_6] 26 (0, 0))) := ⟨qK⟩
      have n2_ : Aside0 ((((((((w24.setCell ⟨gb191, 0, none⟩ (.int .i64 ((rd_T26 l0_6 x60_1).f0))).setCell ⟨gb191, 1, none⟩ (.int .i64 ((rd_T26 l0_6 x60_1).f1))).setCell ⟨gb191, 2, none⟩ (.int .i64 ((rd_T26 l0_6 x60_1).f2))).setCell ⟨gb191, 3, none⟩ (.int .i64 ((rd_T26 l0_6 x60_1).f3))).setCell ⟨gb191, 4, none⟩ (.slice A190_4 ((rd_T26 l0_6 x60_1).f4).length c190_4)).setCell ⟨gb191, 5, none⟩ (.string ((rd_T26 l0_6 x60_1).f5))).setCell ⟨gb191, 6, none⟩ (.slice A190_6 ((rd_T26 l0_6 x60_1).f6).length c190_6)).heap[gb191]? = some (.cells #[.int .i64 ((rd_T26 l0_6 x60_1).f0), .int .i64 ((rd_T26 l0_6 x60_1).f1), .int .i64 ((rd_T26 l0_6 x60_1).f2), .int .i64 ((rd_T26 l0_6 x60_1).f3), .slice A190_4 ((rd_T26 l0_6 x60_1).f4).length c190_4, .string ((rd_T26 l0_6 x60_1).f5), .slice A190_6 ((rd_T26 l0_6 x60_1).f6).length c190_6] 26 (0, 0))) := ⟨by (with_reducible repeat (first | refine qn ?_ _ | refine qd ?_ | refine qa ?_ _)); refine blk_put (cs := #[.int .i64 ((rd_T26 l0_6 x60_1).f0), .int .i64 ((rd_T26 l0_6 x60_1).f1), .int .i64 ((rd_T26 l0_6 x60_1).f2), .int .i64 ((rd_T26 l0_6 x60_1).f3), .slice A190_4 ((rd_T26 l0_6 x60_1).f4).length c190_4, .string ((rd_T26 l0_6 x60_1).f5), .slice none 0 0]) ?_ 6 _ rfl; (with_reducible repeat (first | refine qn ?_ _ | refine qd ?_ | refine qa ?_ _)); refine blk_put (cs := #[.int .i64 ((rd_T26 l0_6 x60_1).f0), .int .i64 ((rd_T26 l0_6 x60_1).f1), .int .i64 ((rd_T26 l0_6 x60_1).f2), .int .i64 ((rd_T26 l0_6 x60_1).f3), .slice A190_4 ((rd_T26 l0_6 x60_1).f4).length c190_4, .string (⟨#[]⟩ : ByteArray), .slice none 0 0]) ?_ 5 _ rfl; (with_reducible repeat (first | refine qn ?_ _ | refine qd ?_ | refine qa ?_ _)); refine blk_put (cs := #[.int .i64 ((rd_T26 l0_6 x60_1).f0), .int .i64 ((rd_T26 l0_6 x60_1).f1), .int .i64 ((rd_T26 l0_6 x60_1).f2), .int .i64 ((rd_T26 l0_6 x60_1).f3), .slice none 0 0, .string (⟨#[]⟩ : ByteArray), .slice none 0 0]) ?_ 4 _ rfl; (with_reducible repeat (first | refine qn ?_ _ | refine qd ?_ | refine qa ?_ _)); refine blk_put (cs := #[.int .i64 ((rd_T26 l0_6 x60_1).f0), .int .i64 ((rd_T26 l0_6 x60_1).f1), .int .i64 ((rd_T26 l0_6 x60_1).f2), .int .i64 0, .slice none 0 0, .string (⟨#[]⟩ : ByteArray), .slice none 0 0]) ?_ 3 _ rfl; (with_reducible repeat (first | refine qn ?_ _ | refine qd ?_ | refine qa ?_ _)); refine blk_put (cs := #[.int .i64 ((rd_T26 l0_6 x60_1).f0), .int .i64 ((rd_T26 l0_6 x60_1).f1), .int .i64 0, .int .i64 0, .slice none 0 0, .string (⟨#[]⟩ : ByteArray), .slice none 0 0]) ?_ 2 _ rfl; (with_reducible repeat (first | refine qn ?_ _ | refine qd ?_ | refine qa ?_ _)); refine blk_put (cs := #[.int .i64 ((rd_T26 l0_6 x60_1).f0), .int .i64 0, .int .i64 0, .int .i64 0, .slice none 0 0, .string (⟨#[]⟩ : ByteArray), .slice none 0 0]) ?_ 1 _ rfl; (with_reducible repeat (first | refine qn ?_ _ | refine qd ?_ | refine qa ?_ _)); refine blk_put (cs := #[.int .i64 0, .int .i64 0, .int .i64 0, .int .i64 0, .slice none 0 0, .string (⟨#[]⟩ : ByteArray), .slice none 0 0]) ?_ 0 _ rfl; (with_reducible repeat (first | refine qn ?_ _ | refine qd ?_ | refine qa ?_ _)); exact BK191.out⟩
      have n3_ : Aside0 (Below w.heap.size w (((((((w24.setCell ⟨gb191, 0, none⟩ (.int .i64 ((rd_T26 l0_6 x60_1).f0))).setCell ⟨gb191, 1, none⟩ (.int .i64 ((rd_T26 l0_6 x60_1).f1))).setCell ⟨gb191, 2, none⟩ (.int .i64 ((rd_T26 l0_6 x60_1).f2))).setCell ⟨gb191, 3, none⟩ (.int .i64 ((rd_T26 l0_6 x60_1).f3))).setCell ⟨gb191, 4, none⟩ (.slice A190_4 ((rd_T26 l0_6 x60_1).f4).length c190_4)).setCell ⟨gb191, 5, none⟩ (.string ((rd_T26 l0_6 x60_1).f5))).setCell ⟨gb191, 6, none⟩ (.slice A190_6 ((rd_T26 l0_6 x60_1).f6).length c190_6))) := ⟨qF⟩
      (try clear BK187); (try clear BK188); (try clear BK191); (try clear HB); (generalize (((((((w24.setCell ⟨gb191, 0, none⟩ (.int .i64 ((rd_T26 l0_6 x60_1).f0))).setCell ⟨gb191, 1, none⟩ (.int .i64 ((rd_T26 l0_6 x60_1).f1))).setCell ⟨gb191, 2, none⟩ (.int .i64 ((rd_T26 l0_6 x60_1).f2))).setCell ⟨gb191, 3, none⟩ (.int .i64 ((rd_T26 l0_6 x60_1).f3))).setCell ⟨gb191, 4, none⟩ (.slice A190_4 ((rd_T26 l0_6 x60_1).f4).length c190_4)).setCell ⟨gb191, 5, none⟩ (.string ((rd_T26 l0_6 x60_1).f5))).setCell ⟨gb191, 6, none⟩ (.slice A190_6 ((rd_T26 l0_6 x60_1).f6).length c190_6)) = w28 at n0_ n1_ n2_ n3_ ⊢); have BK187 := n0_; have BK188 := n1_; have BK191 := n2_; have HB := n3_; clear n0_ n1_ n2_ n3_; replace BK187 := qM (qd BK187.out); replace BK188 := qM (qd BK188.out); replace BK191 := qM (qd BK191.out); replace HB := qM (qD HB.out); have p192 : 0 ≤ (x60_1 : Int) := qo qX; have q192 : x60_1 < (l1_6.length : Int) := qo qX; obtain ⟨ad192, A192_4, c192_4, A192_6, c192_6, e192, hx192_0, hx192_1, hx192_2, hx192_3, hx192_4, hx192_5, hx192_6, hl192_4, hi192_4, hl192_6, hi192_6⟩ := at_T26 HR1_6.out x60_1 p192 q192; have hw192_6 := hx192_6; have hw192_5 := hx192_5; have hw192_4 := hx192_4; have hw192_3 := hx192_3; have hw192_2 := hx192_2; have hw192_1 := hx192_1; have hw192_0 := hx192_0
      cases e192
      replace hx192_0 := qv HB.out hx192_0; replace hx192_1 := qv HB.out hx192_1; replace hx192_2 := qv HB.out hx192_2; replace hx192_3 := qv HB.out hx192_3; replace hx192_4 := qv HB.out hx192_4; replace hx192_5 := qv HB.out hx192_5; replace hx192_6 := qv HB.out hx192_6; have HR192_4 := qM hi192_4; have HC192_4 := qM hl192_4; clear hi192_4 hl192_4; have HR192_6 := qM hi192_6; have HC192_6 := qM hl192_6; clear hi192_6 hl192_6; replace p192 := eq_true p192; replace q192 := eq_true q192
      refine start_ (n := 8) (S := fun w' => w'.cell? ⟨gb191, 0, none⟩ = some (.int .i64 ((rd_T26 l0_6 x60_1).f0)) ∧ w'.cell? ⟨gb191, 1, none⟩ = some (.int .i64 ((rd_T26 l0_6 x60_1).f1)) ∧ w'.cell? ⟨gb191, 2, none⟩ = some (.int .i64 ((rd_T26 l0_6 x60_1).f2)) ∧ w'.cell? ⟨gb191, 3, none⟩ = some (.int .i64 ((rd_T26 l0_6 x60_1).f3)) ∧ w'.cell? ⟨gb191, 4, none⟩ = some (.slice A190_4 ((rd_T26 l0_6 x60_1).f4).length c190_4) ∧ w'.cell? ⟨gb191, 5, none⟩ = some (.string ((rd_T26 l0_6 x60_1).f5)) ∧ w'.cell? ⟨gb191, 6, none⟩ = some (.slice A190_6 ((rd_T26 l0_6 x60_1).f6).length c190_6) ∧ w'.cell? ⟨gb188, 0, none⟩ = some (.int .i64 a1_0) ∧ w'.cell? ⟨gb188, 1, none⟩ = some (.int .i64 a1_1) ∧ w'.cell? ⟨gb188, 2, none⟩ = some (.int .i64 a1_2) ∧ w'.cell? ⟨gb188, 3, none⟩ = some (.int .i64 a1_3) ∧ w'.cell? ⟨gb188, 4, none⟩ = some (.slice A1_4 l1_4.length c1_4) ∧ w'.cell? ⟨gb188, 5, none⟩ = some (.string a1_5) ∧ w'.cell? ⟨gb188, 6, none⟩ = some (.slice (some ad192) l1_6.length c1_6) ∧ w'.cell? (ad192.add ((x60_1).toNat * 7)) = some (.int .i64 ((rd_T26 l1_6 x60_1).f0)) ∧ w'.cell? ⟨(ad192.add ((x60_1).toNat * 7)).block, (ad192.add ((x60_1).toNat * 7)).off + 1, none⟩ = some (.int .i64 ((rd_T26 l1_6 x60_1).f1)) ∧ w'.cell? ⟨(ad192.add ((x60_1).toNat * 7)).block, (ad192.add ((x60_1).toNat * 7)).off + 2, none⟩ = some (.int .i64 ((rd_T26 l1_6 x60_1).f2)) ∧ w'.cell? ⟨(ad192.add ((x60_1).toNat * 7)).block, (ad192.add ((x60_1).toNat * 7)).off + 3, none⟩ = some (.int .i64 ((rd_T26 l1_6 x60_1).f3)) ∧ w'.cell? ⟨(ad192.add ((x60_1).toNat * 7)).block, (ad192.add ((x60_1).toNat * 7)).off + 4, none⟩ = some (.slice A192_4 ((rd_T26 l1_6 x60_1).f4).length c192_4) ∧ w'.cell? ⟨(ad192.add ((x60_1).toNat * 7)).block, (ad192.add ((x60_1).toNat * 7)).off + 5, none⟩ = some (.string ((rd_T26 l1_6 x60_1).f5)) ∧ w'.cell? ⟨(ad192.add ((x60_1).toNat * 7)).block, (ad192.add ((x60_1).toNat * 7)).off + 6, none⟩ = some (.slice A192_6 ((rd_T26 l1_6 x60_1).f6).length c192_6)) (ds := []) (Array.replicate 8 false) (by kernel_rfl) rfl rfl (by and_intros <;> first | exact qW | exact qv HB.out (by assumption)) (fun hHeld => ?_); refine with_tabW cst_Same.tab6 cst_Same.bits6 (fun HT_ HW_ => ?_)
      (generalize w28.drew = w29 at BK187 BK188 BK191 HB HR192_4 HR192_6 hx192_0 hx192_1 hx192_2 hx192_3 hx192_4 hx192_5 hx192_6 hHeld ⊢); refine Ord.enter 8 0 [.p 1 66, .p 3 68, .t 0 65, .t 2 67, .p 4 69, .t 5 70] (by kernel_rfl) ?_; (repeat ((first | (show Ord (.p _ _ :: _) _; refine Ord.pure (v := ?_) (a' := ?_) HT_ ?_ ?_ ?_; rotate_left; (intro w'; go_simp; with_reducible rfl)) | (show Ord (.t _ _ :: _) _; refine Ord.take (v := ?_) (a' := ?_) HT_ HW_ ?_ hHeld ?_ ?_; rotate_left; (intro w' hSw; (try dsimp only at hSw); go_simp; with_reducible rfl))); rotate_left; (simp only [Act.put, List.setIfInBounds_toArray, List.set_cons_zero, List.set_cons_succ, i64_w, i32_w]; rfl))); refine Ord.done (fl 8 63) (by kernel_rfl) ?_; refine one_ (i := 6) (N := some 71) (fl 8 127) rfl rfl (one_of HT_.out (by kernel_rfl)) (by decide) (fun K hK => ?_)
      refine goes_ Tryd.func21 (by kernel_rfl) rfl #[.agg #[.int .i64 ((rd_T26 l0_6 x60_1).f0), .int .i64 ((rd_T26 l0_6 x60_1).f1), .int .i64 ((rd_T26 l0_6 x60_1).f2), .int .i64 ((rd_T26 l0_6 x60_1).f3), .slice A190_4 ((rd_T26 l0_6 x60_1).f4).length c190_4, .string ((rd_T26 l0_6 x60_1).f5), .slice A190_6 ((rd_T26 l0_6 x60_1).f6).length c190_6], .agg #[.int .i64 ((rd_T26 l1_6 x60_1).f0), .int .i64 ((rd_T26 l1_6 x60_1).f1), .int .i64 ((rd_T26 l1_6 x60_1).f2), .int .i64 ((rd_T26 l1_6 x60_1).f3), .slice A192_4 ((rd_T26 l1_6 x60_1).f4).length c192_4, .string ((rd_T26 l1_6 x60_1).f5), .slice A192_6 ((rd_T26 l1_6 x60_1).f6).length c192_6]] (by rfl) rfl rfl (by (try simp only [List.map_toArray, List.map_cons, List.map_nil]); first | done | rfl | (simp only [List.length_drop, List.length_take]; rfl)) ?_
      (with_reducible refine (ih k1 (by have := HK1.out; omega) ((rd_T26 l0_6 x60_1).f0) ((rd_T26 l0_6 x60_1).f1) ((rd_T26 l0_6 x60_1).f2) ((rd_T26 l0_6 x60_1).f3) _ _ ((rd_T26 l0_6 x60_1).f4) ((rd_T26 l0_6 x60_1).f5) _ _ ((rd_T26 l0_6 x60_1).f6) ((rd_T26 l1_6 x60_1).f0) ((rd_T26 l1_6 x60_1).f1) ((rd_T26 l1_6 x60_1).f2) ((rd_T26 l1_6 x60_1).f3) _ _ ((rd_T26 l1_6 x60_1).f4) ((rd_T26 l1_6 x60_1).f5) _ _ ((rd_T26 l1_6 x60_1).f6) true _ ?side1 ?side2 ?side3 ?side4 ?side5 ?side6 ?side7 ?side8 A22.out).mono ?_); (case side1 | side3 | side5 | side7 => exact qY); (case side2 | side4 | side6 | side8 => exact qO); (rintro e w30 ⟨rfl, hb⟩); refine ⟨_, rfl, ?_⟩; replace BK187 := qM (qb (g := gb187) qK hb); replace BK188 := qM (qb (g := gb188) qK hb); replace BK191 := qM (qb (g := gb191) qK hb)
      replace HB := qM (qP qF hb); (try clear hb); (try clear hb2); (try clear hk); (try clear hi)
      refine hK.out _ _ (by and_intros <;> first | exact qW | exact qv HB.out (by assumption)) (fun hHeld => ?_)
      clear hK K; refine norm_ (a' := ?_) ?_ ?_; rotate_left; (show Act.put _ (some 71) _ = _; simp only [Act.put, List.setIfInBounds_toArray, List.set_cons_zero, List.set_cons_succ, i64_w, i32_w]; rfl); refine pure_ (i := 7) (N := some 72) (v := ?_) (a' := ?_) (fl 8 255) rfl rfl (any_of HT_.out (by kernel_rfl)) (fun _ _ _ h => h) (Or.inl ⟨by rfl, ?_⟩) ?_ ?_; rotate_left; (intro w'; go_simp; with_reducible rfl); rotate_left; (simp only [Act.put, List.setIfInBounds_toArray, List.set_cons_zero, List.set_cons_succ, i64_w, i32_w]; rfl); refine done_ (done_of HT_.out (by kernel_rfl)) ?_; (try go_wp2); (go_roundg k1)
      case measure => have := HK1.out; omega
      case rel => exact ⟨(wrap64 (x60_1 + 1)), qV, H', ⟨by have := HK1.out; omega⟩, ⟨qK⟩, ⟨qK⟩, ⟨qF⟩⟩
     ·replace c23 := Bool.eq_false_iff.mpr c23
      subst c23; exact absurd H (by simp)
    ·obtain rfl := Option.some.inj H
     go_wp2; (go_ret); exact ⟨qE, qF⟩
 ·replace c10 := Bool.eq_false_iff.mpr c10
  subst c10; exact absurd H (by simp)
attribute [local go_sem high] eqA46


end
section
open Go.Proofs.YtphmgaijkdflnaaDoorW.PrintWords Go.Proofs.YtphmgaijkdflnaaDoorW.PrintLast Go.Proofs.YtphmgaijkdflnaaDoorW.PrintMore
open Go.WideMaps Go.Maps
def grammar_twice.ok (l0 : List ByteArray) : Bool := l0.all (fun s => decide (s.size ≤ 140737488351232)) && decide (l0.length ≤ 17592186044416)
def grammar_twice.f (l0 : List ByteArray) : Option (Bool) := if grammar_twice.ok l0 = true then some (!decide l0.Nodup) else none
def grammar_twice.Rel {H : Type} (l : List ByteArray) (D : DataW H) (k : Nat) : Prop :=
 (∀ s : ByteArray, Maps.has D (.string s.data.toList) = decide (s ∈ l.take k)) ∧ Maps.size D ≤ k ∧ (Maps.size D < k ↔ ¬ (l.take k).Nodup)
theorem grammar_twice.rel_zero {H : Type} (l : List ByteArray) : grammar_twice.Rel (H := H) l (.map []) 0 :=
 ⟨fun s => by simp [Maps.has_eq], by simp [Maps.size_eq], by simp [Maps.size_eq]⟩
theorem nodup_snoc {l : List ByteArray} {x : ByteArray} : (l ++ [x]).Nodup ↔ l.Nodup ∧ x ∉ l := by
 simp only [List.nodup_append, List.mem_singleton, forall_eq]
 constructor
 ·intro h; exact ⟨h.1, fun hx => h.2.2 x hx rfl⟩
 ·intro h; exact ⟨h.1, by simp, fun a ha e => h.2 (e ▸ ha)⟩
theorem grammar_twice.rel_step {H : Type} (l : List ByteArray) (D : DataW H) (k : Nat) (h : k < l.length) (ht : Maps.Tidy D) (d : DataW H) (R : grammar_twice.Rel l D k) :
  grammar_twice.Rel l (D.put (.string (rdOf ByteArray.empty l k).data.toList) d) (k + 1) := by
 obtain ⟨h1, h2, h3⟩ := R
 have hs := take_rd ByteArray.empty l k h
 generalize hx : rdOf ByteArray.empty l k = x at *
 have hk : WideAt.IsKeyLit (.string x.data.toList) := trivial
 have hsz := Maps.size_put (k := .string x.data.toList) ht d
 rw [h1 x] at hsz
 refine ⟨fun s => ?_, ?_, ?_⟩
 ·by_cases e : s = x
  ·subst e
   rw [Maps.has_put_same ht.isMap hk]
   simp [hs]
  ·rw [Maps.has_put_other (lit_ne e), h1 s, hs]
   simp [e]
 ·rw [hsz]; split <;> omega
 ·rw [hsz, hs, nodup_snoc]
  by_cases e : x ∈ l.take k
  ·simp [e]; omega
  ·simp only [e, decide_false, Bool.false_eq_true, if_false, not_false_eq_true, and_true]
   rw [← h3]; omega
theorem grammar_twice.calls (A0 : Option Addr) (c0 : Nat) (l0 : List ByteArray) (r : Bool) (w : World) (hr0 : Kd.C Kd.string w A0 l0.length l0) (hc0 : l0.length ≤ c0) (h : grammar_twice.f l0 = some r) :
  Calls Tryd.prog 52 #[.slice A0 l0.length c0] w fun e w' => e = .returned (.bool r) ∧ Below w.heap.size w w' := by
 unfold grammar_twice.f at h
 split at h
 case isFalse => cases h
 rename_i hok
 obtain rfl := Option.some.inj h
 simp only [grammar_twice.ok, Bool.and_eq_true, List.all_eq_true, decide_eq_true_eq] at hok
 obtain ⟨hsz, hlen⟩ := hok
 have HSZ := Aside0.mk hsz
 have HR := Aside0.mk hr0
 clear h hsz hr0
 have hmm := @run_makeMap Tryd.prog
 go_enter Tryd.func52, Tryd.ntmps52
 go_wp2
 go_loopw [9] (fun i wr => ∃ k : Nat, k ≤ l0.length ∧ i = .int .i64 k ∧ (∃ D : DataW Unit, Aside0 (wr.ownsMap Tryd.prog 9 (plainElem Tryd.prog 3) w.heap.size k D) ∧ Aside0 (grammar_twice.Rel l0 D k)) ∧ Aside0 (Below w.heap.size w wr))
  (fun i _ => l0.length - (intOf i).toNat)
 case atStart => exact ⟨0, Nat.zero_le _, rfl, ⟨.map [], ⟨World.ownsMap_made _ _ _ _⟩, ⟨grammar_twice.rel_zero l0⟩⟩, ⟨(Below.refl _ _).alloc (Nat.le_refl _) _⟩⟩
 case round =>
  obtain ⟨k, hk, rfl, ⟨D, HO, HD⟩, HB⟩ := hrel
  by_cases hlt : k < l0.length
  ·obtain ⟨ad, e0, hcell⟩ := at_string_nat HR.out k hlt
   cases e0
   replace hcell := (HB.out.cell (World.block_lt_of_cell? w _ hcell)).trans hcell
   have HS : Aside0 ((rdOf ByteArray.empty l0 (k : Int)).size ≤ 140737488351232) := ⟨HSZ.out _ (by rw [rdOf_nat _ _ _ hlt]; exact List.getElem_mem hlt)⟩
   have HN := Aside0.mk (grammar_twice.rel_step l0 D k hlt (HO.out.tidy law_string))
   obtain ⟨s, hs⟩ : ∃ s, s = rdOf ByteArray.empty l0 (k : Int) := ⟨_, rfl⟩
   rw [← hs] at hcell HS HN
   clear hs
   have hsl : s.size ≤ maxLen := by have := HS.out; unfold maxLen; omega
   go_wp2_with (first
    | (at_lookup; refine wpList_lookup_own_int _ rfl _ _ 94 rfl 9 3 .i64 law_string Tryd.underlying94 Tryd.underlying3 (zero_int _) w.heap.size k _ rfl HO.out _ _ rfl (keyOf_string_mk Tryd.underlying9 hsl) ?_; intro c hat hwc)
    | (at_mapUpdate; refine wpList_mapUpdate_own _ rfl _ _ _ 94 rfl 9 3 law_string Tryd.underlying94 _ w.heap.size k _ rfl HO.out (by unfold maxLen; omega) _ _ _ rfl rfl (keyOf_string_mk Tryd.underlying9 hsl) _ [] (plainElem_int Tryd.underlying3 (wrap64_wf _)) ?_; intro w1 hown1 hgrow1))
   have R1 := Aside0.mk hown1
   have R2 := Aside0.mk (HB.out.grown hgrow1 HB.out.size (fun j hj => by cases hj; exact Nat.le_refl _))
   clear hown1 hgrow1 hat hwc hcell
   go_wp2
   go_roundw
   case rel => exact ⟨k + 1, by omega, by go_num, ⟨_, R1, ⟨HN.out _ HD.out⟩⟩, R2⟩
   case measure => simp [intOf]; omega
  ·have hke : k = l0.length := by omega
   have HZ := Aside0.mk HD.out.2
   go_wp2_with (at_len; refine wpList_len_own _ rfl _ 94 rfl 9 3 Tryd.underlying94 _ w.heap.size k _ rfl HO.out ?_)
   go_ret
   refine ⟨?_, HB.out⟩
   rw [hke, List.take_of_length_le (Nat.le_refl _)] at HZ
   have := HZ.out.2
   refine congrArg Ending.returned (congrArg Value.bool (?_ : decide (Maps.size D < l0.length) = !decide l0.Nodup))
   by_cases hn : l0.Nodup
   ·simp [hn, this]
   ·simp [hn, this]
end
section
open Go.Proofs.YtphmgaijkdflnaaDoorW.PrintWords Go.Proofs.YtphmgaijkdflnaaDoorW.PrintLast Go.Proofs.YtphmgaijkdflnaaDoorW.PrintMore
attribute [local go_sem] max2_int min2_int max_two min_two max_three min_three max_four min_four
def grammar_counts_1.f (a0 : Int) : Option (Bool) := if a0 < 0 then (some true) else (some (decide (a0 > 5)))
theorem grammar_counts_1.calls (a0 : Int) (r : Bool) (w : World) (h : grammar_counts_1.f a0 = some r) :
  Calls Tryd.prog 74 #[.int .i64 a0] w fun e w' => e = .returned (.bool r) ∧ Drawn0 w w' := by
 have H : (if a0 < 0 then (some true) else (some (decide (a0 > 5)))) = some r := h; clear h; (refine iteD ?_ ?_ H <;> clear H <;> intro c2b0 H)
 ·obtain rfl := Option.some.inj H
  (go_enter Tryd.func74, Tryd.ntmps74); go_wp2; (go_ret); exact ⟨qV, by repeat (first | exact Drawn0.refl _ | apply Drawn0.step)⟩
 ·obtain rfl := Option.some.inj H
  (go_enter Tryd.func74, Tryd.ntmps74); go_wp2; (go_ret); exact ⟨qV, by repeat (first | exact Drawn0.refl _ | apply Drawn0.step)⟩
def slices_IndexFunc_grammar_counts_1.l0 : Nat → List Int → Int → Int → Option (Int)
 | 0, _, _, _ => none
 | k + 1, x0, x7, x8 => if x8 < x7 then (if 0 ≤ x8 then (if x8 < (x0.length : Int) then ((grammar_counts_1.f (rd x0 x8)).bind fun t148 => (if t148 = true then (some x8) else (slices_IndexFunc_grammar_counts_1.l0 k x0 x7 (wrap64 (x8 + 1))))) else (none)) else (none)) else (some (-1))
def slices_IndexFunc_grammar_counts_1.f (k : Nat) (l0 : List Int)  : Option (Int) := slices_IndexFunc_grammar_counts_1.l0 k l0 (l0.length : Int) 0
theorem slices_IndexFunc_grammar_counts_1.mono_l : ∀ k, (∀ y0 y1 y2, LeO (slices_IndexFunc_grammar_counts_1.l0 k y0 y1 y2) (slices_IndexFunc_grammar_counts_1.l0 (k + 1) y0 y1 y2))
 | 0 => fun _ _ _ r h => by simp [slices_IndexFunc_grammar_counts_1.l0] at h
 | k + 1 => by
  have ih0 := slices_IndexFunc_grammar_counts_1.mono_l k
  ·intro y0 y1 y2
   (unfold slices_IndexFunc_grammar_counts_1.l0); exact qL
theorem slices_IndexFunc_grammar_counts_1.mono : ∀ a0 k, LeO (slices_IndexFunc_grammar_counts_1.f k a0) (slices_IndexFunc_grammar_counts_1.f (k + 1) a0) := by
 (intro a0 k); have ih0 := slices_IndexFunc_grammar_counts_1.mono_l k; (unfold slices_IndexFunc_grammar_counts_1.f); exact qL
theorem slices_IndexFunc_grammar_counts_1.calls (k : Nat) (A0 : Option Addr) (c0 : Nat) (l0 : List Int)   (r : Int) (w : World) (hr0 : Kd.C (Kd.int .i64) w A0 l0.length l0) (hc0 : l0.length ≤ c0) (h : slices_IndexFunc_grammar_counts_1.f k l0 = some r) :
  Calls Tryd.prog 83 #[.slice A0 l0.length c0, .func (.func 74) #[] #[]] w fun e w' => e = .returned (.int .i64 r) ∧ Drawn0 w w' := by
 have HR0 := qM hr0; have HC0 := qM hc0; clear hr0 hc0; have H : (slices_IndexFunc_grammar_counts_1.l0 k l0 (l0.length : Int) 0) = some r := h; clear h; have H' := qM H; clear H; (go_enter Tryd.func83, Tryd.ntmps83); go_wp2; (go_loopg [8] k (fun kq v8 w' => ∃ (x8_1 : Int), v8 = .int .i64 x8_1 ∧ Aside0 (slices_IndexFunc_grammar_counts_1.l0 kq l0 (l0.length : Int) x8_1 = some r) ∧ Aside0 (kq ≤ k) ∧ Drawn0 w w'))
 case atStart => exact ⟨(0), qV, H', ⟨Nat.le_refl _⟩, by repeat (first | exact Drawn0.refl _ | apply Drawn0.step)⟩
 case round =>
  (clear H'); (try clear p2); obtain ⟨x8_1, rfl, HA, HK1, ⟨m1, rfl⟩⟩ := hrel
  cases gk with
  | zero => exact absurd HA.out (by simp [slices_IndexFunc_grammar_counts_1.l0])
  | succ k1 =>
   have H := HA.out; clear HA; (simp only [slices_IndexFunc_grammar_counts_1.l0] at H); (refine iteD ?_ ?_ H <;> clear H <;> intro c3b0 H)
   ·refine iteN ?_ H
    clear H; (intro c4b0 H); have p147 : 0 ≤ (x8_1 : Int) := qo qX; have q147 : x8_1 < (l0.length : Int) := qo qX; obtain ⟨ad147, e147, hx147_0⟩ := Kd.at_int HR0.out x8_1 p147 q147
    cases e147
    replace p147 := eq_true p147; replace q147 := eq_true q147; refine iteN ?_ H; clear H; (intro c5b0 H); replace H := Option.bind_eq_some_iff.mp H; obtain ⟨t148, A60, H⟩ := H; replace H : (if t148 = true then (some x8_1) else (slices_IndexFunc_grammar_counts_1.l0 k1 l0 (l0.length : Int) (wrap64 (x8_1 + 1)))) = some r := H; have A6 := qM A60; clear A60; (refine iteR ?_ ?_ H <;> clear H <;> intro c7 H)
    ·subst c7
     obtain rfl := Option.some.inj H; (go_wp2_with (first | (go_at_call 74; (with_reducible refine (grammar_counts_1.calls (rd l0 x8_1) true _ A6.out).mono ?_); rintro e w' ⟨rfl, ⟨nd, rfl⟩⟩))); (go_ret); exact ⟨qV, by repeat (first | exact Drawn0.refl _ | apply Drawn0.step)⟩
    ·replace c7 := Bool.eq_false_iff.mpr c7
     subst c7; have H' := qM H; clear H; (go_wp2_with (first | (go_at_call 74; (with_reducible refine (grammar_counts_1.calls (rd l0 x8_1) false _ A6.out).mono ?_); rintro e w' ⟨rfl, ⟨nd, rfl⟩⟩))); (go_roundg k1)
     case measure => have := HK1.out; omega
     case rel => exact ⟨(wrap64 (x8_1 + 1)), qV, H', ⟨by have := HK1.out; omega⟩, by repeat (first | exact Drawn0.refl _ | apply Drawn0.step)⟩
   ·obtain rfl := Option.some.inj H
    go_wp2; (go_ret); exact ⟨qV, by repeat (first | exact Drawn0.refl _ | apply Drawn0.step)⟩
def slices_ContainsFunc_grammar_counts_1.f (k : Nat) (l0 : List Int)  : Option (Bool) := (slices_IndexFunc_grammar_counts_1.f k l0).bind fun t149 => (some (decide (t149 ≥ 0)))
theorem slices_ContainsFunc_grammar_counts_1.mono : ∀ a0 k, LeO (slices_ContainsFunc_grammar_counts_1.f k a0) (slices_ContainsFunc_grammar_counts_1.f (k + 1) a0) := by
 (intro a0 k); (unfold slices_ContainsFunc_grammar_counts_1.f); have mo0 := slices_IndexFunc_grammar_counts_1.mono; exact qL
theorem slices_ContainsFunc_grammar_counts_1.calls (k : Nat) (A0 : Option Addr) (c0 : Nat) (l0 : List Int)   (r : Bool) (w : World) (hr0 : Kd.C (Kd.int .i64) w A0 l0.length l0) (hc0 : l0.length ≤ c0) (h : slices_ContainsFunc_grammar_counts_1.f k l0 = some r) :
  Calls Tryd.prog 73 #[.slice A0 l0.length c0, .func (.func 74) #[] #[]] w fun e w' => e = .returned (.bool r) ∧ Drawn0 w w' := by
 have HR0 := qM hr0; have HC0 := qM hc0; clear hr0 hc0; have H : ((slices_IndexFunc_grammar_counts_1.f k l0).bind fun t149 => (some (decide (t149 ≥ 0)))) = some r := h; clear h; replace H := Option.bind_eq_some_iff.mp H; obtain ⟨t149, A30, H⟩ := H; replace H : (some (decide (t149 ≥ 0))) = some r := H; have A3 := qM A30; clear A30; obtain rfl := Option.some.inj H; (go_enter Tryd.func73, Tryd.ntmps73)
 go_wp2_with (first | ((with_reducible refine gate_callee (f := 83) rfl ?_); refine goesL_ (some 7) rfl rfl Tryd.func83 (by kernel_rfl) rfl #[.slice A0 l0.length c0, .func (.func 74) #[] #[]] rfl (by (try simp only [List.map_toArray, List.map_cons, List.map_nil]); first | done | rfl | (simp only [List.length_drop, List.length_take]; rfl)) ?_; (with_reducible refine (slices_IndexFunc_grammar_counts_1.calls k _ _ l0  t149 _ ?side1 ?side2 A3.out).mono ?_); (case side1 => repeat (first | exact HR0.out | (with_reducible refine Kd.C_alloc ?_ _) | (with_reducible refine Kd.C_drewN ?_ _) | (with_reducible refine Kd.C_drew ?_))); (case side2 => exact HC0.out); rintro e w' ⟨rfl, ⟨nd, rfl⟩⟩; refine ⟨_, rfl, ?_⟩))
 (go_ret); exact ⟨qV, by repeat (first | exact Drawn0.refl _ | apply Drawn0.step)⟩
def grammar_within.f (a0 : Int) (a1 : Int) (a2 : Int) : Option (Bool) := if a0 ≥ a1 then (some (decide (a0 ≤ a2))) else (some false)
theorem grammar_within.calls (a0 : Int) (a1 : Int) (a2 : Int) (r : Bool) (w : World) (h : grammar_within.f a0 a1 a2 = some r) :
  Calls Tryd.prog 55 #[.int .i64 a0, .int .i64 a1, .int .i64 a2] w fun e w' => e = .returned (.bool r) ∧ Drawn0 w w' := by
 have H : (if a0 ≥ a1 then (some (decide (a0 ≤ a2))) else (some false)) = some r := h; clear h; (refine iteR ?_ ?_ H <;> clear H <;> intro c4 H)
 ·have c4b0 : decide (a1 ≤ a0) = true := decide_eq_true c4
  clear c4; obtain rfl := Option.some.inj H; (go_enter Tryd.func55, Tryd.ntmps55); go_wp2; (go_ret); exact ⟨qV, by repeat (first | exact Drawn0.refl _ | apply Drawn0.step)⟩
 ·have c4b0 : decide (a1 ≤ a0) = false := decide_eq_false c4
  clear c4; obtain rfl := Option.some.inj H; (go_enter Tryd.func55, Tryd.ntmps55); go_wp2; (go_ret); exact ⟨qV, by repeat (first | exact Drawn0.refl _ | apply Drawn0.step)⟩
def grammar_counts.l0 : Nat → Int → List (S58) → Int → Int → List ByteArray → List ByteArray → List Int → List (S58) → List (S61) → Option (Bool)
 | 0, _, _, _, _, _, _, _, _, _ => none
 | k + 1, x3, x7, x8, x9, x151000, x151001, x151002, x151003, x151004 => if x9 < x8 then (if 0 ≤ x9 then (if x9 < (x7.length : Int) then (grammar_counts.l0 k (wrap64 (x3 + (((rd_T58 x7 x9).f1).length : Int))) x7 x8 (wrap64 (x9 + 1)) x151000 x151001 x151002 x151003 x151004) else (none)) else (none)) else ((grammar_within.f (x151000.length : Int) 2 256).bind fun t153 => (if t153 = true then ((grammar_within.f (x151001.length : Int) 1 512).bind fun t154 => (if t154 = true then (if (x151002.length : Int) = (x151001.length : Int) then ((slices_ContainsFunc_grammar_counts_1.f k x151002).bind fun t155 => (if t155 = true then (some false) else ((grammar_within.f (x151003.length : Int) 1 1024).bind fun t156 => (if t156 = true then (if (x151004.length : Int) ≤ 32 then (some (decide (x3 ≤ 8192))) else (some false)) else (some false))))) else (some false)) else (some false))) else (some false)))
def grammar_counts.f (k : Nat) (l0_0 : List ByteArray) (l0_1 : List ByteArray) (l0_2 : List Int) (l0_3 : List (S58)) (l0_4 : List (S61)) : Option (Bool) := grammar_counts.l0 k 0 l0_3 (l0_3.length : Int) 0 l0_0 l0_1 l0_2 l0_3 l0_4
theorem grammar_counts.mono_l : ∀ k, (∀ y0 y1 y2 y3 y4 y5 y6 y7 y8, LeO (grammar_counts.l0 k y0 y1 y2 y3 y4 y5 y6 y7 y8) (grammar_counts.l0 (k + 1) y0 y1 y2 y3 y4 y5 y6 y7 y8))
 | 0 => fun _ _ _ _ _ _ _ _ _ r h => by simp [grammar_counts.l0] at h
 | k + 1 => by
  have ih0 := grammar_counts.mono_l k
  ·intro y0 y1 y2 y3 y4 y5 y6 y7 y8
   (unfold grammar_counts.l0); have mo0 := slices_ContainsFunc_grammar_counts_1.mono; exact qL
theorem grammar_counts.mono : ∀ a0 a1 a2 a3 a4 k, LeO (grammar_counts.f k a0 a1 a2 a3 a4) (grammar_counts.f (k + 1) a0 a1 a2 a3 a4) := by
 (intro a0 a1 a2 a3 a4 k); have ih0 := grammar_counts.mono_l k; (unfold grammar_counts.f); have mo0 := slices_ContainsFunc_grammar_counts_1.mono; exact qL
theorem grammar_counts.calls (k : Nat) (A0_0 : Option Addr) (c0_0 : Nat) (l0_0 : List ByteArray) (A0_1 : Option Addr) (c0_1 : Nat) (l0_1 : List ByteArray) (A0_2 : Option Addr) (c0_2 : Nat) (l0_2 : List Int) (A0_3 : Option Addr) (c0_3 : Nat) (l0_3 : List (S58)) (A0_4 : Option Addr) (c0_4 : Nat) (l0_4 : List (S61)) (r : Bool) (w : World) (hr0_0 : Kd.C Kd.string w A0_0 l0_0.length l0_0) (hc0_0 : l0_0.length ≤ c0_0) (hr0_1 : Kd.C Kd.string w A0_1 l0_1.length l0_1) (hc0_1 : l0_1.length ≤ c0_1) (hr0_2 : Kd.C (Kd.int .i64) w A0_2 l0_2.length l0_2) (hc0_2 : l0_2.length ≤ c0_2) (hr0_3 : Kd.C k58 w A0_3 l0_3.length l0_3) (hc0_3 : l0_3.length ≤ c0_3) (hr0_4 : Kd.C k61 w A0_4 l0_4.length l0_4) (hc0_4 : l0_4.length ≤ c0_4) (h : grammar_counts.f k l0_0 l0_1 l0_2 l0_3 l0_4 = some r) :
  Calls Tryd.prog 51 #[.agg #[.slice A0_0 l0_0.length c0_0, .slice A0_1 l0_1.length c0_1, .slice A0_2 l0_2.length c0_2, .slice A0_3 l0_3.length c0_3, .slice A0_4 l0_4.length c0_4]] w fun e w' => e = .returned (.bool r) ∧ Below w.heap.size w w' := by
 have hu40 := Tryd.underlying40; have hu58 := Tryd.underlying58; have HR0_0 := qM hr0_0; have HC0_0 := qM hc0_0; clear hr0_0 hc0_0; have HR0_1 := qM hr0_1; have HC0_1 := qM hc0_1; clear hr0_1 hc0_1; have HR0_2 := qM hr0_2; have HC0_2 := qM hc0_2; clear hr0_2 hc0_2; have HR0_3 := qM hr0_3; have HC0_3 := qM hc0_3; clear hr0_3 hc0_3; have HR0_4 := qM hr0_4; have HC0_4 := qM hc0_4; clear hr0_4 hc0_4; have HB := qM (Below.refl w.heap.size w); have H : (grammar_counts.l0 k 0 l0_3 (l0_3.length : Int) 0 l0_0 l0_1 l0_2 l0_3 l0_4) = some r := h; clear h; have H' := qM H; clear H; (go_enter Tryd.func51, Tryd.ntmps51)
 go_wp2_with (first | ((with_reducible refine gate_dst (N := 1) rfl ?_); (try (refine gate_guard (by rfl) ?_; dsimp only)); refine box_event ?hg (N := 1) ?hd (cs := #[.slice A0_0 l0_0.length c0_0, .slice A0_1 l0_1.length c0_1, .slice A0_2 l0_2.length c0_2, .slice A0_3 l0_3.length c0_3, .slice A0_4 l0_4.length c0_4]) (t := 40) ?hr ?_; (case hd | hg => rfl); (case hr => first | (go_simp; done) | (go_simp; rfl)); intro gb150 hg w2 hbox hb; have BK150 := qM (hbox); have GW150 := qM (qG hg); have GE150 := GW150; replace HB := qM (qP qF hb); clear hb hbox hg; have hz3 := bx5 BK150.out))
 go_loopg [3, 9] k (fun kq v3 v9 w' => ∃ (x3_1 : Int) (x9_1 : Int), v3 = .int .i64 x3_1 ∧ v9 = .int .i64 x9_1 ∧ Aside0 (grammar_counts.l0 kq x3_1 l0_3 (l0_3.length : Int) x9_1 l0_0 l0_1 l0_2 l0_3 l0_4 = some r) ∧ Aside0 (kq ≤ k) ∧ Aside0 (w'.heap[gb150]? = some (.cells #[(.slice A0_0 l0_0.length c0_0), (.slice A0_1 l0_1.length c0_1), (.slice A0_2 l0_2.length c0_2), (.slice A0_3 l0_3.length c0_3), (.slice A0_4 l0_4.length c0_4)] 40 (0, 0))) ∧ Aside0 (Below w.heap.size w w'))
 case atStart => exact ⟨(0), (0), qV, qV, H', ⟨Nat.le_refl _⟩, ⟨qK⟩, ⟨qF⟩⟩
 case round =>
  (clear H'); (try clear p2); (try clear hz3); obtain ⟨x3_1, x9_1, rfl, rfl, HA, HK1, BK150, HB⟩ := hrel
  cases gk with
  | zero => exact absurd HA.out (by simp [grammar_counts.l0])
  | succ k1 =>
   have H := HA.out; clear HA; (simp only [grammar_counts.l0] at H); (refine iteD ?_ ?_ H <;> clear H <;> intro c4b0 H)
   ·refine iteN ?_ H
    clear H; (intro c5b0 H); refine iteN ?_ H; clear H; (intro c6b0 H); have H' := qM H; clear H; have p151 : 0 ≤ (x9_1 : Int) := qo qX; have q151 : x9_1 < (l0_3.length : Int) := qo qX; obtain ⟨ad151, A151_1, c151_1, A151_2, c151_2, e151, hx151_0, hx151_1, hx151_2, hx151_3, hx151_4, hl151_1, hi151_1, hl151_2, hi151_2⟩ := at_T58 HR0_3.out x9_1 p151 q151
    cases e151
    replace hx151_0 := qv HB.out hx151_0; replace hx151_1 := qv HB.out hx151_1; replace hx151_2 := qv HB.out hx151_2; replace hx151_3 := qv HB.out hx151_3; replace hx151_4 := qv HB.out hx151_4; have HR151_1 := qM hi151_1; have HC151_1 := qM hl151_1; clear hi151_1 hl151_1; have HR151_2 := qM hi151_2; have HC151_2 := qM hl151_2; clear hi151_2 hl151_2; replace p151 := eq_true p151; replace q151 := eq_true q151
    go_wp2_with (first | ((with_reducible refine gate_dst (N := 5) rfl ?_); (try (refine gate_guard (by rfl) ?_; dsimp only)); refine box_event ?hg (N := 5) ?hd (cs := #[.int .i64 0, .slice none 0 0, .slice none 0 0, .string (⟨#[]⟩ : ByteArray), .int .i64 0]) (t := 58) ?hr ?_; (case hd | hg => rfl); (case hr => first | (go_simp; done) | (go_simp; rfl)); intro gb152 hg w7 hbox hb; have BK152 := qM (hbox); have GW152 := qM (qG hg); have GE152 := GW152; have NB150_152 := qM ((by rw [hg]; exact Nat.ne_of_lt (ql (g := gb150) qK) : gb150 ≠ gb152)); have NB152_150 := qM (Ne.symm NB150_152.out); replace BK150 := qM (qb (g := gb150) qK hb); replace HB := qM (qP qF hb); clear hb hbox hg; have hnb8 := NB152_150.out; have hnc8 := NB150_152.out; have hz9 := bx5 BK152.out))
    go_roundg k1
    case measure => have := HK1.out; omega
    case rel => exact ⟨(wrap64 (x3_1 + (((rd_T58 l0_3 x9_1).f1).length : Int))), (wrap64 (x9_1 + 1)), qV, qV, H', ⟨by have := HK1.out; omega⟩, ⟨qK⟩, ⟨qF⟩⟩
   ·replace H := Option.bind_eq_some_iff.mp H
    obtain ⟨t153, A100, H⟩ := H; replace H : (if t153 = true then ((grammar_within.f (l0_1.length : Int) 1 512).bind fun t154 => (if t154 = true then (if (l0_2.length : Int) = (l0_1.length : Int) then ((slices_ContainsFunc_grammar_counts_1.f k1 l0_2).bind fun t155 => (if t155 = true then (some false) else ((grammar_within.f (l0_3.length : Int) 1 1024).bind fun t156 => (if t156 = true then (if (l0_4.length : Int) ≤ 32 then (some (decide (x3_1 ≤ 8192))) else (some false)) else (some false))))) else (some false)) else (some false))) else (some false)) = some r := H; have A10 := qM A100; clear A100; (refine iteR ?_ ?_ H <;> clear H <;> intro c11 H)
    ·subst c11
     replace H := Option.bind_eq_some_iff.mp H; obtain ⟨t154, A120, H⟩ := H; replace H : (if t154 = true then (if (l0_2.length : Int) = (l0_1.length : Int) then ((slices_ContainsFunc_grammar_counts_1.f k1 l0_2).bind fun t155 => (if t155 = true then (some false) else ((grammar_within.f (l0_3.length : Int) 1 1024).bind fun t156 => (if t156 = true then (if (l0_4.length : Int) ≤ 32 then (some (decide (x3_1 ≤ 8192))) else (some false)) else (some false))))) else (some false)) else (some false)) = some r := H; have A12 := qM A120; clear A120; (refine iteR ?_ ?_ H <;> clear H <;> intro c13 H)
     ·subst c13
      refine iteR ?_ ?_ H <;> clear H <;> intro c14 H
      ·have c14b0 := beq_iff_eq.mpr c14
       have c14b1 := bne_eq_false_iff_eq.mpr c14; (have c14b2 : (l0_2.length == l0_1.length) = true := by first | simpa using c14 | (simp at c14 ⊢; omega)); clear c14; replace H := Option.bind_eq_some_iff.mp H; obtain ⟨t155, A150, H⟩ := H; replace H : (if t155 = true then (some false) else ((grammar_within.f (l0_3.length : Int) 1 1024).bind fun t156 => (if t156 = true then (if (l0_4.length : Int) ≤ 32 then (some (decide (x3_1 ≤ 8192))) else (some false)) else (some false)))) = some r := H; have A15 := qM A150; clear A150; (refine iteR ?_ ?_ H <;> clear H <;> intro c16 H)
       ·subst c16
        obtain rfl := Option.some.inj H; have hz17 := bx5 BK150.out
        go_wp2_with (first | ((with_reducible refine gate_callee (f := 55) rfl ?_); refine goesL_ (some 22) rfl rfl Tryd.func55 (by kernel_rfl) rfl #[.int .i64 (l0_0.length : Int), .int .i64 2, .int .i64 256] rfl (by (try simp only [List.map_toArray, List.map_cons, List.map_nil]); first | done | rfl | (simp only [List.length_drop, List.length_take]; rfl)) ?_; (with_reducible refine (grammar_within.calls (l0_0.length : Int) 2 256 true _ A10.out).mono ?_); rintro e w' ⟨rfl, ⟨nd, rfl⟩⟩; refine ⟨_, rfl, ?_⟩) | (go_at_call 55; (with_reducible refine (grammar_within.calls (l0_1.length : Int) 1 512 true _ A12.out).mono ?_); rintro e w' ⟨rfl, ⟨nd, rfl⟩⟩) | (go_at_call 73; (with_reducible refine (slices_ContainsFunc_grammar_counts_1.calls k1 _ _ l0_2  true _ ?side1 ?side2 A15.out).mono ?_); (case side1 => repeat (first | exact (Kd.C_below HR0_2.out qF) | (with_reducible refine Kd.C_alloc ?_ _) | (with_reducible refine Kd.C_drewN ?_ _) | (with_reducible refine Kd.C_drew ?_))); (case side2 => exact HC0_2.out); rintro e w' ⟨rfl, ⟨nd, rfl⟩⟩))
        (go_ret); exact ⟨qE, qF⟩
       ·replace c16 := Bool.eq_false_iff.mpr c16
        subst c16; replace H := Option.bind_eq_some_iff.mp H; obtain ⟨t156, A180, H⟩ := H; replace H : (if t156 = true then (if (l0_4.length : Int) ≤ 32 then (some (decide (x3_1 ≤ 8192))) else (some false)) else (some false)) = some r := H; have A18 := qM A180; clear A180; (refine iteR ?_ ?_ H <;> clear H <;> intro c19 H)
        ·subst c19
         refine iteR ?_ ?_ H <;> clear H <;> intro c20 H
         ·have c20b0 := decide_eq_true c20
          have c20b1 : decide (l0_4.length ≤ 32) = true := decide_eq_true (by omega); clear c20; obtain rfl := Option.some.inj H; have hz21 := bx5 BK150.out
          go_wp2_with (first | ((with_reducible refine gate_callee (f := 55) rfl ?_); refine goesL_ (some 22) rfl rfl Tryd.func55 (by kernel_rfl) rfl #[.int .i64 (l0_0.length : Int), .int .i64 2, .int .i64 256] rfl (by (try simp only [List.map_toArray, List.map_cons, List.map_nil]); first | done | rfl | (simp only [List.length_drop, List.length_take]; rfl)) ?_; (with_reducible refine (grammar_within.calls (l0_0.length : Int) 2 256 true _ A10.out).mono ?_); rintro e w' ⟨rfl, ⟨nd, rfl⟩⟩; refine ⟨_, rfl, ?_⟩) | (go_at_call 55; (with_reducible refine (grammar_within.calls (l0_1.length : Int) 1 512 true _ A12.out).mono ?_); rintro e w' ⟨rfl, ⟨nd, rfl⟩⟩) | (go_at_call 73; (with_reducible refine (slices_ContainsFunc_grammar_counts_1.calls k1 _ _ l0_2  false _ ?side1 ?side2 A15.out).mono ?_); (case side1 => repeat (first | exact (Kd.C_below HR0_2.out qF) | (with_reducible refine Kd.C_alloc ?_ _) | (with_reducible refine Kd.C_drewN ?_ _) | (with_reducible refine Kd.C_drew ?_))); (case side2 => exact HC0_2.out); rintro e w' ⟨rfl, ⟨nd, rfl⟩⟩) | (go_at_call 55; (with_reducible refine (grammar_within.calls (l0_3.length : Int) 1 1024 true _ A18.out).mono ?_); rintro e w' ⟨rfl, ⟨nd, rfl⟩⟩))
          (go_ret); exact ⟨qE, qF⟩
         ·have c20b0 := decide_eq_false c20
          have c20b1 : decide (l0_4.length ≤ 32) = false := decide_eq_false (by omega); clear c20; obtain rfl := Option.some.inj H; have hz22 := bx5 BK150.out
          go_wp2_with (first | ((with_reducible refine gate_callee (f := 55) rfl ?_); refine goesL_ (some 22) rfl rfl Tryd.func55 (by kernel_rfl) rfl #[.int .i64 (l0_0.length : Int), .int .i64 2, .int .i64 256] rfl (by (try simp only [List.map_toArray, List.map_cons, List.map_nil]); first | done | rfl | (simp only [List.length_drop, List.length_take]; rfl)) ?_; (with_reducible refine (grammar_within.calls (l0_0.length : Int) 2 256 true _ A10.out).mono ?_); rintro e w' ⟨rfl, ⟨nd, rfl⟩⟩; refine ⟨_, rfl, ?_⟩) | (go_at_call 55; (with_reducible refine (grammar_within.calls (l0_1.length : Int) 1 512 true _ A12.out).mono ?_); rintro e w' ⟨rfl, ⟨nd, rfl⟩⟩) | (go_at_call 73; (with_reducible refine (slices_ContainsFunc_grammar_counts_1.calls k1 _ _ l0_2  false _ ?side1 ?side2 A15.out).mono ?_); (case side1 => repeat (first | exact (Kd.C_below HR0_2.out qF) | (with_reducible refine Kd.C_alloc ?_ _) | (with_reducible refine Kd.C_drewN ?_ _) | (with_reducible refine Kd.C_drew ?_))); (case side2 => exact HC0_2.out); rintro e w' ⟨rfl, ⟨nd, rfl⟩⟩) | (go_at_call 55; (with_reducible refine (grammar_within.calls (l0_3.length : Int) 1 1024 true _ A18.out).mono ?_); rintro e w' ⟨rfl, ⟨nd, rfl⟩⟩))
          (go_ret); exact ⟨qE, qF⟩
        ·replace c19 := Bool.eq_false_iff.mpr c19
         subst c19; obtain rfl := Option.some.inj H; have hz23 := bx5 BK150.out
         go_wp2_with (first | ((with_reducible refine gate_callee (f := 55) rfl ?_); refine goesL_ (some 22) rfl rfl Tryd.func55 (by kernel_rfl) rfl #[.int .i64 (l0_0.length : Int), .int .i64 2, .int .i64 256] rfl (by (try simp only [List.map_toArray, List.map_cons, List.map_nil]); first | done | rfl | (simp only [List.length_drop, List.length_take]; rfl)) ?_; (with_reducible refine (grammar_within.calls (l0_0.length : Int) 2 256 true _ A10.out).mono ?_); rintro e w' ⟨rfl, ⟨nd, rfl⟩⟩; refine ⟨_, rfl, ?_⟩) | (go_at_call 55; (with_reducible refine (grammar_within.calls (l0_1.length : Int) 1 512 true _ A12.out).mono ?_); rintro e w' ⟨rfl, ⟨nd, rfl⟩⟩) | (go_at_call 73; (with_reducible refine (slices_ContainsFunc_grammar_counts_1.calls k1 _ _ l0_2  false _ ?side1 ?side2 A15.out).mono ?_); (case side1 => repeat (first | exact (Kd.C_below HR0_2.out qF) | (with_reducible refine Kd.C_alloc ?_ _) | (with_reducible refine Kd.C_drewN ?_ _) | (with_reducible refine Kd.C_drew ?_))); (case side2 => exact HC0_2.out); rintro e w' ⟨rfl, ⟨nd, rfl⟩⟩) | (go_at_call 55; (with_reducible refine (grammar_within.calls (l0_3.length : Int) 1 1024 false _ A18.out).mono ?_); rintro e w' ⟨rfl, ⟨nd, rfl⟩⟩))
         (go_ret); exact ⟨qE, qF⟩
      ·have c14b0 := beq_eq_false_iff_ne.mpr c14
       have c14b1 := bne_iff_ne.mpr c14; (have c14b2 : (l0_2.length == l0_1.length) = false := by first | simpa using c14 | (simp at c14 ⊢; omega)); obtain rfl := Option.some.inj H; have hz24 := bx5 BK150.out; (go_wp2_with (first | ((with_reducible refine gate_callee (f := 55) rfl ?_); refine goesL_ (some 22) rfl rfl Tryd.func55 (by kernel_rfl) rfl #[.int .i64 (l0_0.length : Int), .int .i64 2, .int .i64 256] rfl (by (try simp only [List.map_toArray, List.map_cons, List.map_nil]); first | done | rfl | (simp only [List.length_drop, List.length_take]; rfl)) ?_; (with_reducible refine (grammar_within.calls (l0_0.length : Int) 2 256 true _ A10.out).mono ?_); rintro e w' ⟨rfl, ⟨nd, rfl⟩⟩; refine ⟨_, rfl, ?_⟩) | (go_at_call 55; (with_reducible refine (grammar_within.calls (l0_1.length : Int) 1 512 true _ A12.out).mono ?_); rintro e w' ⟨rfl, ⟨nd, rfl⟩⟩))); (go_ret); exact ⟨qE, qF⟩
     ·replace c13 := Bool.eq_false_iff.mpr c13
      subst c13; obtain rfl := Option.some.inj H; have hz25 := bx5 BK150.out; (go_wp2_with (first | ((with_reducible refine gate_callee (f := 55) rfl ?_); refine goesL_ (some 22) rfl rfl Tryd.func55 (by kernel_rfl) rfl #[.int .i64 (l0_0.length : Int), .int .i64 2, .int .i64 256] rfl (by (try simp only [List.map_toArray, List.map_cons, List.map_nil]); first | done | rfl | (simp only [List.length_drop, List.length_take]; rfl)) ?_; (with_reducible refine (grammar_within.calls (l0_0.length : Int) 2 256 true _ A10.out).mono ?_); rintro e w' ⟨rfl, ⟨nd, rfl⟩⟩; refine ⟨_, rfl, ?_⟩) | (go_at_call 55; (with_reducible refine (grammar_within.calls (l0_1.length : Int) 1 512 false _ A12.out).mono ?_); rintro e w' ⟨rfl, ⟨nd, rfl⟩⟩))); (go_ret); exact ⟨qE, qF⟩
    ·replace c11 := Bool.eq_false_iff.mpr c11
     subst c11; obtain rfl := Option.some.inj H; have hz26 := bx5 BK150.out; (go_wp2_with (first | ((with_reducible refine gate_callee (f := 55) rfl ?_); refine goesL_ (some 22) rfl rfl Tryd.func55 (by kernel_rfl) rfl #[.int .i64 (l0_0.length : Int), .int .i64 2, .int .i64 256] rfl (by (try simp only [List.map_toArray, List.map_cons, List.map_nil]); first | done | rfl | (simp only [List.length_drop, List.length_take]; rfl)) ?_; (with_reducible refine (grammar_within.calls (l0_0.length : Int) 2 256 false _ A10.out).mono ?_); rintro e w' ⟨rfl, ⟨nd, rfl⟩⟩; refine ⟨_, rfl, ?_⟩))); (go_ret); exact ⟨qE, qF⟩
def grammar_there.f (l0_0 : List ByteArray) (l0_1 : List ByteArray) (l0_2 : List Int) (l0_3 : List (S58)) (l0_4 : List (S61)) (a1 : Int) : Option (Bool) := if a1 < (l0_0.length : Int) then (some (decide (a1 ≥ (wrap64 (-(l0_1.length : Int)))))) else (some false)
theorem grammar_there.calls (A0_0 : Option Addr) (c0_0 : Nat) (l0_0 : List ByteArray) (A0_1 : Option Addr) (c0_1 : Nat) (l0_1 : List ByteArray) (A0_2 : Option Addr) (c0_2 : Nat) (l0_2 : List Int) (A0_3 : Option Addr) (c0_3 : Nat) (l0_3 : List (S58)) (A0_4 : Option Addr) (c0_4 : Nat) (l0_4 : List (S61)) (a1 : Int) (r : Bool) (w : World) (hr0_0 : Kd.C Kd.string w A0_0 l0_0.length l0_0) (hc0_0 : l0_0.length ≤ c0_0) (hr0_1 : Kd.C Kd.string w A0_1 l0_1.length l0_1) (hc0_1 : l0_1.length ≤ c0_1) (hr0_2 : Kd.C (Kd.int .i64) w A0_2 l0_2.length l0_2) (hc0_2 : l0_2.length ≤ c0_2) (hr0_3 : Kd.C k58 w A0_3 l0_3.length l0_3) (hc0_3 : l0_3.length ≤ c0_3) (hr0_4 : Kd.C k61 w A0_4 l0_4.length l0_4) (hc0_4 : l0_4.length ≤ c0_4) (h : grammar_there.f l0_0 l0_1 l0_2 l0_3 l0_4 a1 = some r) :
  Calls Tryd.prog 65 #[.agg #[.slice A0_0 l0_0.length c0_0, .slice A0_1 l0_1.length c0_1, .slice A0_2 l0_2.length c0_2, .slice A0_3 l0_3.length c0_3, .slice A0_4 l0_4.length c0_4], .int .i64 a1] w fun e w' => e = .returned (.bool r) ∧ Below w.heap.size w w' := by
 have hu40 := Tryd.underlying40; have HR0_0 := qM hr0_0; have HC0_0 := qM hc0_0; clear hr0_0 hc0_0; have HR0_1 := qM hr0_1; have HC0_1 := qM hc0_1; clear hr0_1 hc0_1; have HR0_2 := qM hr0_2; have HC0_2 := qM hc0_2; clear hr0_2 hc0_2; have HR0_3 := qM hr0_3; have HC0_3 := qM hc0_3; clear hr0_3 hc0_3; have HR0_4 := qM hr0_4; have HC0_4 := qM hc0_4; clear hr0_4 hc0_4; have HB := qM (Below.refl w.heap.size w); have H : (if a1 < (l0_0.length : Int) then (some (decide (a1 ≥ (wrap64 (-(l0_1.length : Int)))))) else (some false)) = some r := h; clear h; have HH_ := qM H; clear H; (go_enter Tryd.func65, Tryd.ntmps65)
 go_upto_region 1 with (first | ((with_reducible refine gate_dst (N := 2) rfl ?_); (try (refine gate_guard (by rfl) ?_; dsimp only)); refine box_event ?hg (N := 2) ?hd (cs := #[.slice A0_0 l0_0.length c0_0, .slice A0_1 l0_1.length c0_1, .slice A0_2 l0_2.length c0_2, .slice A0_3 l0_3.length c0_3, .slice A0_4 l0_4.length c0_4]) (t := 40) ?hr ?_; (case hd | hg => rfl); (case hr => first | (go_simp; done) | (go_simp; rfl)); intro gb157 hg w4 hbox hb; have BK157 := qM (hbox); have GW157 := qM (qG hg); have GE157 := GW157; replace HB := qM (qP qF hb); clear hb hbox hg; have hz5 := bx5 BK157.out))
 have H := HH_.out; clear HH_; (refine iteD ?_ ?_ H <;> clear H <;> intro c3b0 H)
 ·obtain rfl := Option.some.inj H
  go_wp2; (go_ret); exact ⟨qE, qF⟩
 ·obtain rfl := Option.some.inj H
  go_wp2; (go_ret); exact ⟨qE, qF⟩
def grammar_start_1.f (a0_0 : Int) (l0_1 : List Int) (l0_2 : List ByteArray) (a0_3 : ByteArray) (a0_4 : Int) : Option (Bool) := some (a0_0 == 0)
theorem grammar_start_1.calls (a0_0 : Int) (A0_1 : Option Addr) (c0_1 : Nat) (l0_1 : List Int) (A0_2 : Option Addr) (c0_2 : Nat) (l0_2 : List ByteArray) (a0_3 : ByteArray) (a0_4 : Int) (r : Bool) (w : World) (hr0_1 : Kd.C (Kd.int .i64) w A0_1 l0_1.length l0_1) (hc0_1 : l0_1.length ≤ c0_1) (hr0_2 : Kd.C Kd.string w A0_2 l0_2.length l0_2) (hc0_2 : l0_2.length ≤ c0_2) (h : grammar_start_1.f a0_0 l0_1 l0_2 a0_3 a0_4 = some r) :
  Calls Tryd.prog 76 #[.agg #[.int .i64 a0_0, .slice A0_1 l0_1.length c0_1, .slice A0_2 l0_2.length c0_2, .string a0_3, .int .i64 a0_4]] w fun e w' => e = .returned (.bool r) ∧ Below w.heap.size w w' := by
 have hu58 := Tryd.underlying58; have HR0_1 := qM hr0_1; have HC0_1 := qM hc0_1; clear hr0_1 hc0_1; have HR0_2 := qM hr0_2; have HC0_2 := qM hc0_2; clear hr0_2 hc0_2; have HB := qM (Below.refl w.heap.size w); have H : (some (a0_0 == 0)) = some r := h; clear h; obtain rfl := Option.some.inj H; (go_enter Tryd.func76, Tryd.ntmps76)
 go_wp2_with (first | ((with_reducible refine gate_dst (N := 1) rfl ?_); refine box_event ?hg (N := 1) ?hd (cs := #[.int .i64 a0_0, .slice A0_1 l0_1.length c0_1, .slice A0_2 l0_2.length c0_2, .string a0_3, .int .i64 a0_4]) (t := 58) ?hr ?_; (case hd | hg => rfl); (case hr => first | (go_simp; done) | (go_simp; rfl)); intro gb158 hg w2 hbox hb; have BK158 := qM (hbox); have GW158 := qM (qG hg); have GE158 := GW158; replace HB := qM (qP qF hb); clear hb hbox hg; have hz3 := bx5 BK158.out))
 (go_ret); exact ⟨qE, qF⟩
def slices_IndexFunc_grammar_start_1.l0 : Nat → List (S58) → Int → Int → Option (Int)
 | 0, _, _, _ => none
 | k + 1, x0, x7, x8 => if x8 < x7 then (if 0 ≤ x8 then (if x8 < (x0.length : Int) then ((grammar_start_1.f ((rd_T58 x0 x8).f0) ((rd_T58 x0 x8).f1) ((rd_T58 x0 x8).f2) ((rd_T58 x0 x8).f3) ((rd_T58 x0 x8).f4)).bind fun t159 => (if t159 = true then (some x8) else (slices_IndexFunc_grammar_start_1.l0 k x0 x7 (wrap64 (x8 + 1))))) else (none)) else (none)) else (some (-1))
def slices_IndexFunc_grammar_start_1.f (k : Nat) (l0 : List (S58))  : Option (Int) := slices_IndexFunc_grammar_start_1.l0 k l0 (l0.length : Int) 0
theorem slices_IndexFunc_grammar_start_1.mono_l : ∀ k, (∀ y0 y1 y2, LeO (slices_IndexFunc_grammar_start_1.l0 k y0 y1 y2) (slices_IndexFunc_grammar_start_1.l0 (k + 1) y0 y1 y2))
 | 0 => fun _ _ _ r h => by simp [slices_IndexFunc_grammar_start_1.l0] at h
 | k + 1 => by
  have ih0 := slices_IndexFunc_grammar_start_1.mono_l k
  ·intro y0 y1 y2
   (unfold slices_IndexFunc_grammar_start_1.l0); exact qL
theorem slices_IndexFunc_grammar_start_1.mono : ∀ a0 k, LeO (slices_IndexFunc_grammar_start_1.f k a0) (slices_IndexFunc_grammar_start_1.f (k + 1) a0) := by
 (intro a0 k); have ih0 := slices_IndexFunc_grammar_start_1.mono_l k; (unfold slices_IndexFunc_grammar_start_1.f); exact qL
theorem slices_IndexFunc_grammar_start_1.calls (k : Nat) (A0 : Option Addr) (c0 : Nat) (l0 : List (S58))   (r : Int) (w : World) (hr0 : Kd.C k58 w A0 l0.length l0) (hc0 : l0.length ≤ c0) (h : slices_IndexFunc_grammar_start_1.f k l0 = some r) :
  Calls Tryd.prog 84 #[.slice A0 l0.length c0, .func (.func 76) #[] #[]] w fun e w' => e = .returned (.int .i64 r) ∧ Below w.heap.size w w' := by
 have hu58 := Tryd.underlying58; have HR0 := qM hr0; have HC0 := qM hc0; clear hr0 hc0; have HB := qM (Below.refl w.heap.size w); have H : (slices_IndexFunc_grammar_start_1.l0 k l0 (l0.length : Int) 0) = some r := h; clear h; have H' := qM H; clear H; (go_enter Tryd.func84, Tryd.ntmps84); go_wp2; (go_loopg [8] k (fun kq v8 w' => ∃ (x8_1 : Int), v8 = .int .i64 x8_1 ∧ Aside0 (slices_IndexFunc_grammar_start_1.l0 kq l0 (l0.length : Int) x8_1 = some r) ∧ Aside0 (kq ≤ k) ∧ Aside0 (Below w.heap.size w w')))
 case atStart => exact ⟨(0), qV, H', ⟨Nat.le_refl _⟩, ⟨qF⟩⟩
 case round =>
  (clear H'); (try clear p2); obtain ⟨x8_1, rfl, HA, HK1, HB⟩ := hrel
  cases gk with
  | zero => exact absurd HA.out (by simp [slices_IndexFunc_grammar_start_1.l0])
  | succ k1 =>
   have H := HA.out; clear HA; (simp only [slices_IndexFunc_grammar_start_1.l0] at H); (refine iteD ?_ ?_ H <;> clear H <;> intro c3b0 H)
   ·refine iteN ?_ H
    clear H; (intro c4b0 H); have p158 : 0 ≤ (x8_1 : Int) := qo qX; have q158 : x8_1 < (l0.length : Int) := qo qX; obtain ⟨ad158, A158_1, c158_1, A158_2, c158_2, e158, hx158_0, hx158_1, hx158_2, hx158_3, hx158_4, hl158_1, hi158_1, hl158_2, hi158_2⟩ := at_T58 HR0.out x8_1 p158 q158
    cases e158
    replace hx158_0 := qv HB.out hx158_0; replace hx158_1 := qv HB.out hx158_1; replace hx158_2 := qv HB.out hx158_2; replace hx158_3 := qv HB.out hx158_3; replace hx158_4 := qv HB.out hx158_4; have HR158_1 := qM hi158_1; have HC158_1 := qM hl158_1; clear hi158_1 hl158_1; have HR158_2 := qM hi158_2; have HC158_2 := qM hl158_2; clear hi158_2 hl158_2; replace p158 := eq_true p158; replace q158 := eq_true q158; refine iteN ?_ H; clear H; (intro c5b0 H); replace H := Option.bind_eq_some_iff.mp H; obtain ⟨t159, A60, H⟩ := H; replace H : (if t159 = true then (some x8_1) else (slices_IndexFunc_grammar_start_1.l0 k1 l0 (l0.length : Int) (wrap64 (x8_1 + 1)))) = some r := H; have A6 := qM A60; clear A60; (refine iteR ?_ ?_ H <;> clear H <;> intro c7 H)
    ·subst c7
     obtain rfl := Option.some.inj H
     go_wp2_with (first | (go_at_call 76; (with_reducible refine (grammar_start_1.calls ((rd_T58 l0 x8_1).f0) _ _ ((rd_T58 l0 x8_1).f1) _ _ ((rd_T58 l0 x8_1).f2) ((rd_T58 l0 x8_1).f3) ((rd_T58 l0 x8_1).f4) true _ ?side1 ?side2 ?side3 ?side4 A6.out).mono ?_); (case side1 | side3 => exact qY); (case side2 | side4 => exact qO); rintro e w8 ⟨rfl, hb⟩; replace HB := qM (qP qF hb); (try clear hb); (try clear hb2); (try clear hk); (try clear hi)))
     (go_ret); exact ⟨qE, qF⟩
    ·replace c7 := Bool.eq_false_iff.mpr c7
     subst c7; have H' := qM H; clear H
     go_wp2_with (first | (go_at_call 76; (with_reducible refine (grammar_start_1.calls ((rd_T58 l0 x8_1).f0) _ _ ((rd_T58 l0 x8_1).f1) _ _ ((rd_T58 l0 x8_1).f2) ((rd_T58 l0 x8_1).f3) ((rd_T58 l0 x8_1).f4) false _ ?side1 ?side2 ?side3 ?side4 A6.out).mono ?_); (case side1 | side3 => exact qY); (case side2 | side4 => exact qO); rintro e w9 ⟨rfl, hb⟩; replace HB := qM (qP qF hb); (try clear hb); (try clear hb2); (try clear hk); (try clear hi)))
     go_roundg k1
     case measure => have := HK1.out; omega
     case rel => exact ⟨(wrap64 (x8_1 + 1)), qV, H', ⟨by have := HK1.out; omega⟩, ⟨qF⟩⟩
   ·obtain rfl := Option.some.inj H
    go_wp2; (go_ret); exact ⟨qE, qF⟩
def slices_ContainsFunc_grammar_start_1.f (k : Nat) (l0 : List (S58))  : Option (Bool) := (slices_IndexFunc_grammar_start_1.f k l0).bind fun t160 => (some (decide (t160 ≥ 0)))
theorem slices_ContainsFunc_grammar_start_1.mono : ∀ a0 k, LeO (slices_ContainsFunc_grammar_start_1.f k a0) (slices_ContainsFunc_grammar_start_1.f (k + 1) a0) := by
 (intro a0 k); (unfold slices_ContainsFunc_grammar_start_1.f); have mo0 := slices_IndexFunc_grammar_start_1.mono; exact qL
theorem slices_ContainsFunc_grammar_start_1.calls (k : Nat) (A0 : Option Addr) (c0 : Nat) (l0 : List (S58))   (r : Bool) (w : World) (hr0 : Kd.C k58 w A0 l0.length l0) (hc0 : l0.length ≤ c0) (h : slices_ContainsFunc_grammar_start_1.f k l0 = some r) :
  Calls Tryd.prog 75 #[.slice A0 l0.length c0, .func (.func 76) #[] #[]] w fun e w' => e = .returned (.bool r) ∧ Below w.heap.size w w' := by
 have HR0 := qM hr0; have HC0 := qM hc0; clear hr0 hc0; have HB := qM (Below.refl w.heap.size w); have H : ((slices_IndexFunc_grammar_start_1.f k l0).bind fun t160 => (some (decide (t160 ≥ 0)))) = some r := h; clear h; replace H := Option.bind_eq_some_iff.mp H; obtain ⟨t160, A30, H⟩ := H; replace H : (some (decide (t160 ≥ 0))) = some r := H; have A3 := qM A30; clear A30; obtain rfl := Option.some.inj H; (go_enter Tryd.func75, Tryd.ntmps75)
 go_wp2_with (first | ((with_reducible refine gate_callee (f := 84) rfl ?_); refine goesL_ (some 7) rfl rfl Tryd.func84 (by kernel_rfl) rfl #[.slice A0 l0.length c0, .func (.func 76) #[] #[]] rfl (by (try simp only [List.map_toArray, List.map_cons, List.map_nil]); first | done | rfl | (simp only [List.length_drop, List.length_take]; rfl)) ?_; (with_reducible refine (slices_IndexFunc_grammar_start_1.calls k _ _ l0  t160 _ ?side1 ?side2 A3.out).mono ?_); (case side1 => repeat (first | exact HR0.out | (with_reducible refine Kd.C_alloc ?_ _) | (with_reducible refine Kd.C_drewN ?_ _) | (with_reducible refine Kd.C_drew ?_))); (case side2 => exact HC0.out); rintro e w4 ⟨rfl, hb⟩; refine ⟨_, rfl, ?_⟩; replace HB := qM (qP qF hb); (try clear hb); (try clear hb2); (try clear hk); (try clear hi)))
 (go_ret); exact ⟨qE, qF⟩
end
section
open Go.Proofs.YtphmgaijkdflnaaDoorW.PrintWords Go.Proofs.YtphmgaijkdflnaaDoorW.PrintLast Go.Proofs.YtphmgaijkdflnaaDoorW.PrintMore
def grammar_start.f (k : Nat) (l0_0 : List ByteArray) (l0_1 : List ByteArray) (l0_2 : List Int) (l0_3 : List (S58)) (l0_4 : List (S61)) : Option (Bool) := if 0 < (l0_3.length : Int) then (if ((rd_T58 l0_3 0).f0) = 0 then (if (((rd_T58 l0_3 0).f1).length : Int) = 1 then (if 0 < (((rd_T58 l0_3 0).f1).length : Int) then (if (rd ((rd_T58 l0_3 0).f1) 0) ≥ (-1) then (some false) else ((grammar_there.f l0_0 l0_1 l0_2 l0_3 l0_4 (rd ((rd_T58 l0_3 0).f1) 0)).bind fun t144 => (if t144 = true then (if 1 ≤ (l0_3.length : Int) then ((slices_ContainsFunc_grammar_start_1.f k (l0_3.drop 1)).bind fun t149 => (some (!t149))) else (none)) else (some false)))) else (none)) else (some false)) else (some false)) else (none)
theorem grammar_start.mono : ∀ a0 a1 a2 a3 a4 k, LeO (grammar_start.f k a0 a1 a2 a3 a4) (grammar_start.f (k + 1) a0 a1 a2 a3 a4) := by
 intro a0 a1 a2 a3 a4 k
 unfold grammar_start.f
 have mo0 := slices_ContainsFunc_grammar_start_1.mono
 exact qL
theorem kc4 {w W : World} {p : Addr} {v : Value} (hb : Below w.heap.size w W) (h : w.cell? p = some v) : W.cell? p = some v := (hb.cell (World.block_lt_of_cell? w _ h)).trans h
theorem grammar_start.calls (k : Nat) (A0_0 : Option Addr) (c0_0 : Nat) (l0_0 : List ByteArray) (A0_1 : Option Addr) (c0_1 : Nat) (l0_1 : List ByteArray) (A0_2 : Option Addr) (c0_2 : Nat) (l0_2 : List Int) (A0_3 : Option Addr) (c0_3 : Nat) (l0_3 : List S58) (A0_4 : Option Addr) (c0_4 : Nat) (l0_4 : List S61) (r : Bool) (w : World) (hr0_0 : Kd.C Kd.string w A0_0 l0_0.length l0_0) (hc0_0 : l0_0.length ≤ c0_0) (hr0_1 : Kd.C Kd.string w A0_1 l0_1.length l0_1) (hc0_1 : l0_1.length ≤ c0_1) (hr0_2 : Kd.C (Kd.int .i64) w A0_2 l0_2.length l0_2) (hc0_2 : l0_2.length ≤ c0_2) (hr0_3 : Kd.C k58 w A0_3 l0_3.length l0_3) (hc0_3 : l0_3.length ≤ c0_3) (hr0_4 : Kd.C k61 w A0_4 l0_4.length l0_4) (hc0_4 : l0_4.length ≤ c0_4) (h : grammar_start.f k l0_0 l0_1 l0_2 l0_3 l0_4 = some r) :
  Calls Tryd.prog 53 #[.agg #[.slice A0_0 l0_0.length c0_0, .slice A0_1 l0_1.length c0_1, .slice A0_2 l0_2.length c0_2, .slice A0_3 l0_3.length c0_3, .slice A0_4 l0_4.length c0_4]] w fun e w' => e = .returned (.bool r) ∧ Below w.heap.size w w' := by
 unfold grammar_start.f at h
 by_cases c2 : 0 < (l0_3.length : Int)
 case neg => rw [if_neg c2] at h; cases h
 rw [if_pos c2] at h
 obtain ⟨ar, R1, s1, R2, s2, er, hx0, hx1, hx2, hx3, hx4, hl1, hi1, hl2, hi2⟩ := at_T58 hr0_3 0 (by omega) c2
 obtain rfl : A0_3 = some ar := er
 rw [show ((0 : Int)).toNat * 5 = 0 from rfl, Addr.add_zero'] at hx0 hx1 hx2 hx3 hx4
 obtain ⟨x, hx⟩ : ∃ x, rd_T58 l0_3 0 = x := ⟨_, rfl⟩
 rw [hx] at h hx0 hx1 hx2 hx3 hx4 hl1 hi1 hl2 hi2
 clear hx
 have hBg := below_alloc (Below.refl w.heap.size w) (.cells #[.slice A0_0 l0_0.length c0_0, .slice A0_1 l0_1.length c0_1, .slice A0_2 l0_2.length c0_2, .slice (some ar) l0_3.length c0_3, .slice A0_4 l0_4.length c0_4] 40)
 have kx0 := kc4 hBg hx0
 have kx1 := kc4 hBg hx1
 have kx2 := kc4 hBg hx2
 have kx3 := kc4 hBg hx3
 have kx4 := kc4 hBg hx4
 have q0 : (0 : Int) < (l0_3.length : Int) := c2
 have HR0 := Aside0.mk hr0_0
 have HR1 := Aside0.mk hr0_1
 have HR2 := Aside0.mk hr0_2
 have HR3 := Aside0.mk hr0_3
 have HR4 := Aside0.mk hr0_4
 have HI1 := Aside0.mk hi1
 have HC0_3 := Aside0.mk hc0_3
 have HBg := Aside0.mk hBg
 have H := Aside0.mk h
 clear hr0_0 hr0_1 hr0_2 hr0_3 hr0_4 hi1 hi2 hl1 hl2 hBg h hx0 hx1 hx2 hx3 hx4 hc0_3
 go_enter Tryd.func53, Tryd.ntmps53
 go_wp2_with fail
 clear kx0 kx1 kx2 kx3 kx4
 have hW := blk_new (w.alloc (.cells #[.slice A0_0 l0_0.length c0_0, .slice A0_1 l0_1.length c0_1, .slice A0_2 l0_2.length c0_2, .slice (some ar) l0_3.length c0_3, .slice A0_4 l0_4.length c0_4] 40)) (.cells #[.int .i64 x.f0, .slice R1 x.f1.length s1, .slice R2 x.f2.length s2, .string x.f3, .int .i64 x.f4] 58)
 have hG := blk_alloc (blk_new w (.cells #[.slice A0_0 l0_0.length c0_0, .slice A0_1 l0_1.length c0_1, .slice A0_2 l0_2.length c0_2, .slice (some ar) l0_3.length c0_3, .slice A0_4 l0_4.length c0_4] 40)) (.cells #[.int .i64 x.f0, .slice R1 x.f1.length s1, .slice R2 x.f2.length s2, .string x.f3, .int .i64 x.f4] 58)
 have hB3 := below_alloc HBg.out (.cells #[.int .i64 x.f0, .slice R1 x.f1.length s1, .slice R2 x.f2.length s2, .string x.f3, .int .i64 x.f4] 58)
 rw [show (w.alloc (.cells #[.slice A0_0 l0_0.length c0_0, .slice A0_1 l0_1.length c0_1, .slice A0_2 l0_2.length c0_2, .slice (some ar) l0_3.length c0_3, .slice A0_4 l0_4.length c0_4] 40)).heap.size = w.heap.size + 1 by simp] at hW
 obtain ⟨W3, hW3⟩ : ∃ W3, (w.alloc (.cells #[.slice A0_0 l0_0.length c0_0, .slice A0_1 l0_1.length c0_1, .slice A0_2 l0_2.length c0_2, .slice (some ar) l0_3.length c0_3, .slice A0_4 l0_4.length c0_4] 40)).alloc (.cells #[.int .i64 x.f0, .slice R1 x.f1.length s1, .slice R2 x.f2.length s2, .string x.f3, .int .i64 x.f4] 58) = W3 := ⟨_, rfl⟩
 rw [hW3] at hW hG hB3 ⊢
 clear hW3
 have g0 : W3.cell? ⟨w.heap.size, 0, none⟩ = some (.slice A0_0 l0_0.length c0_0) := (blk_cell hG 0).trans rfl
 have g1 : W3.cell? ⟨w.heap.size, 1, none⟩ = some (.slice A0_1 l0_1.length c0_1) := (blk_cell hG 1).trans rfl
 have g2 : W3.cell? ⟨w.heap.size, 2, none⟩ = some (.slice A0_2 l0_2.length c0_2) := (blk_cell hG 2).trans rfl
 have g3 : W3.cell? ⟨w.heap.size, 3, none⟩ = some (.slice (some ar) l0_3.length c0_3) := (blk_cell hG 3).trans rfl
 have g4 : W3.cell? ⟨w.heap.size, 4, none⟩ = some (.slice A0_4 l0_4.length c0_4) := (blk_cell hG 4).trans rfl
 have b0 : W3.cell? ⟨w.heap.size + 1, 0, none⟩ = some (.int .i64 x.f0) := (blk_cell hW 0).trans rfl
 have b1 : W3.cell? ⟨w.heap.size + 1, 1, none⟩ = some (.slice R1 x.f1.length s1) := (blk_cell hW 1).trans rfl
 have b2 : W3.cell? ⟨w.heap.size + 1, 2, none⟩ = some (.slice R2 x.f2.length s2) := (blk_cell hW 2).trans rfl
 have b3 : W3.cell? ⟨w.heap.size + 1, 3, none⟩ = some (.string x.f3) := (blk_cell hW 3).trans rfl
 have b4 : W3.cell? ⟨w.heap.size + 1, 4, none⟩ = some (.int .i64 x.f4) := (blk_cell hW 4).trans rfl
 have HB3 := Aside0.mk hB3
 clear hW hG hB3
 have h := H.out
 clear H
 by_cases c3 : x.f0 = 0
 case neg =>
  rw [if_neg c3] at h
  obtain rfl := Option.some.inj h
  have e1 : (x.f0 != 0) = true := bne_iff_ne.mpr c3
  clear c3 h
  go_quiet (fail)
  go_wp2
  go_ret
  exact ⟨rfl, HB3.out.trans (Below.mono (by repeat (first | exact Below.refl _ _ | apply below_drew1 | apply pw_below_drewN)) HB3.out.size)⟩
 rw [if_pos c3] at h
 have e1 : (x.f0 != 0) = false := bne_eq_false_iff_eq.mpr c3
 clear c3
 by_cases c4 : (x.f1.length : Int) = 1
 case neg =>
  rw [if_neg c4] at h
  obtain rfl := Option.some.inj h
  have e2 : ((x.f1.length : Int) != 1) = true := bne_iff_ne.mpr c4
  clear c4 h
  go_quiet (fail)
  go_wp2
  go_ret
  exact ⟨rfl, HB3.out.trans (Below.mono (by repeat (first | exact Below.refl _ _ | apply below_drew1 | apply pw_below_drewN)) HB3.out.size)⟩
 rw [if_pos c4, if_pos (by omega)] at h
 have e2 : ((x.f1.length : Int) != 1) = false := bne_eq_false_iff_eq.mpr c4
 obtain ⟨af, ef, hf⟩ := Kd.at_int HI1.out 0 (by omega) (by omega)
 obtain rfl : R1 = some af := ef
 have kf : W3.cell? af = some (.int .i64 (rd x.f1 0)) := by
  first | (rw [show ((0 : Int)).toNat = 0 from rfl, Addr.add_zero'] at hf; exact kc4 HB3.out hf) | exact kc4 HB3.out hf
 have q1 : (0 : Int) < (x.f1.length : Int) := by omega
 have q1n : 0 < x.f1.length := by omega
 have q1t : (0 < x.f1.length) = True := eq_true q1n
 obtain ⟨s, hs⟩ : ∃ s, rd x.f1 0 = s := ⟨_, rfl⟩
 rw [hs] at kf h
 clear hf hs c4
 by_cases c6 : s ≥ -1
 case pos =>
  rw [if_pos c6] at h
  obtain rfl := Option.some.inj h
  have e3 : decide (-1 ≤ s) = true := decide_eq_true c6
  clear c6 h
  go_quiet (fail)
  go_wp2
  go_ret
  exact ⟨rfl, HB3.out.trans (Below.mono (by repeat (first | exact Below.refl _ _ | apply below_drew1 | apply pw_below_drewN)) HB3.out.size)⟩
 rw [if_neg c6] at h
 have e3 : decide (-1 ≤ s) = false := decide_eq_false c6
 clear c6
 obtain ⟨t, ht, h⟩ := Option.bind_eq_some_iff.1 h
 have HT := Aside0.mk ht
 have H := Aside0.mk h
 clear ht h
 first | (go_region_held3 (fun w' => w'.cell? ⟨w.heap.size, 0, none⟩ = some (.slice A0_0 l0_0.length c0_0) ∧ w'.cell? ⟨w.heap.size, 1, none⟩ = some (.slice A0_1 l0_1.length c0_1) ∧ w'.cell? ⟨w.heap.size, 2, none⟩ = some (.slice A0_2 l0_2.length c0_2) ∧ w'.cell? ⟨w.heap.size, 3, none⟩ = some (.slice (some ar) l0_3.length c0_3) ∧ w'.cell? ⟨w.heap.size, 4, none⟩ = some (.slice A0_4 l0_4.length c0_4) ∧ w'.cell? ⟨w.heap.size + 1, 0, none⟩ = some (.int .i64 x.f0) ∧ w'.cell? ⟨w.heap.size + 1, 1, none⟩ = some (.slice (some af) x.f1.length s1) ∧ w'.cell? ⟨w.heap.size + 1, 2, none⟩ = some (.slice R2 x.f2.length s2) ∧ w'.cell? ⟨w.heap.size + 1, 3, none⟩ = some (.string x.f3) ∧ w'.cell? ⟨w.heap.size + 1, 4, none⟩ = some (.int .i64 x.f4) ∧ w'.cell? af = some (.int .i64 s))
  (first
   | go_keep
   | (refine ⟨kc4 hb ?_, kc4 hb ?_, kc4 hb ?_, kc4 hb ?_, kc4 hb ?_, kc4 hb ?_, kc4 hb ?_, kc4 hb ?_, kc4 hb ?_, kc4 hb ?_, kc4 hb ?_⟩ <;> assumption))
  ((go_at_call 65; refine (grammar_there.calls _ _ l0_0 _ _ l0_1 _ _ l0_2 _ _ l0_3 _ _ l0_4 s t _ (Kd.C_below HR0.out (by repeat (first | exact HB3.out | apply below_drew1))) hc0_0 (Kd.C_below HR1.out (by repeat (first | exact HB3.out | apply below_drew1))) hc0_1 (Kd.C_below HR2.out (by repeat (first | exact HB3.out | apply below_drew1))) hc0_2 (Kd.C_below HR3.out (by repeat (first | exact HB3.out | apply below_drew1))) HC0_3.out (Kd.C_below HR4.out (by repeat (first | exact HB3.out | apply below_drew1))) hc0_4 HT.out).mono ?_; rintro e w4 ⟨rfl, hb⟩))) | fail
 have HB4 := Aside0.mk (show Below W3.heap.size W3 w4 from (show Below W3.heap.size W3 W3.drew from below_drew1 (Below.refl _ _)).trans hb)
 have j0 : w4.cell? ⟨w.heap.size, 0, none⟩ = some (.slice A0_0 l0_0.length c0_0) := kc4 HB4.out g0
 have j1 : w4.cell? ⟨w.heap.size, 1, none⟩ = some (.slice A0_1 l0_1.length c0_1) := kc4 HB4.out g1
 have j2 : w4.cell? ⟨w.heap.size, 2, none⟩ = some (.slice A0_2 l0_2.length c0_2) := kc4 HB4.out g2
 have j3 : w4.cell? ⟨w.heap.size, 3, none⟩ = some (.slice (some ar) l0_3.length c0_3) := kc4 HB4.out g3
 have j4 : w4.cell? ⟨w.heap.size, 4, none⟩ = some (.slice A0_4 l0_4.length c0_4) := kc4 HB4.out g4
 clear hb g0 g1 g2 g3 g4 b0 b1 b2 b3 b4 kf
 have h := H.out
 clear H
 cases t with
 | false =>
  obtain rfl : false = r := by simpa using h
  clear h
  go_wp2
  go_ret
  exact ⟨rfl, HB3.out.trans (HB4.out.mono HB3.out.size)⟩
 | true =>
  replace h : (if 1 ≤ (l0_3.length : Int) then ((slices_ContainsFunc_grammar_start_1.f k (l0_3.drop 1)).bind fun t149 => (some (!t149))) else (none)) = some r := by simpa using h
  rw [if_pos (by omega)] at h
  obtain ⟨u, hu, h⟩ := Option.bind_eq_some_iff.1 h
  obtain rfl := Option.some.inj h
  obtain ⟨y, hy⟩ : ∃ y : List S58, y = l0_3.drop 1 := ⟨_, rfl⟩
  rw [← hy] at hu
  have q27 : (1 : Int) ≤ ((l0_3.length : Int) : Int) := by omega
  obtain ⟨i027, hi027, _, hsz27, _⟩ := info_parts info58
  have hcut27 := cut_from (P := Tryd.prog) 37 58 .i64 Tryd.underlying37 hi027 5 hsz27 (some ar) l0_3.length c0_3 1 (by omega) q27
  have hr27 := Kd.C_drop (m := (1 : Int).toNat) (c := c0_3) HR3.out (by omega) HC0_3.out
  obtain ⟨A27, hA27⟩ : ∃ A1, A1 = (if c0_3 = (1 : Int).toNat then (some ar) else ((some ar) : Option Addr).map (·.add ((1 : Int).toNat * 5))) := ⟨_, rfl⟩
  obtain ⟨c27, hc27⟩ : ∃ c1, c1 = c0_3 - (1 : Int).toNat := ⟨_, rfl⟩
  have hy27 : y.length = l0_3.length - (1 : Int).toNat := by rw [hy, List.length_drop]; rfl
  rw [show (l0_3).drop (1 : Int).toNat = y from hy.symm] at hr27
  replace hr27 : Kd.C k58 w A27 y.length y := (by rw [hA27]; exact hr27)
  rw [← hy27, ← hA27, ← hc27] at hcut27
  have HR148 := Aside0.mk hr27
  have HC148 := Aside0.mk (show y.length ≤ c27 from by rw [hy27, hc27]; exact Nat.sub_le_sub_right HC0_3.out _)
  have HU := Aside0.mk hu
  have HBW := Aside0.mk (HB3.out.trans (HB4.out.mono HB3.out.size))
  clear hr27 hi027 hsz27 hc27 hy27 hA27 hu hy h
  replace q27 := eq_true q27
  go_wp2_with (go_at_call 75; refine (slices_ContainsFunc_grammar_start_1.calls k _ _ y u _ (Kd.C_below HR148.out HBW.out) HC148.out HU.out).mono ?_; rintro e w5 ⟨rfl, hb⟩; have HB5 := Aside0.mk hb; clear hb)
  go_ret
  exact ⟨rfl, HBW.out.trans (HB5.out.mono HBW.out.size)⟩
end
section
open Go.Proofs.YtphmgaijkdflnaaDoorW.PrintWords Go.Proofs.YtphmgaijkdflnaaDoorW.PrintLast Go.Proofs.YtphmgaijkdflnaaDoorW.PrintMore
attribute [local go_sem] max2_int min2_int max_two min_two max_three min_three max_four min_four
def grammar_rule_1_cap.f (a0 : Int) (l1_0 : List ByteArray) (l1_1 : List ByteArray) (l1_2 : List Int) (l1_3 : List (S58)) (l1_4 : List (S61)) : Option (Bool) := (grammar_there.f l1_0 l1_1 l1_2 l1_3 l1_4 a0).bind fun t172 => (if t172 = true then (if a0 ≥ (-1) then (some (decide (a0 ≤ 1))) else (some false)) else (some true))
theorem grammar_rule_1_cap.calls (a0 : Int) (g1_0 : Nat) (A1_0 : Option Addr) (c1_0 : Nat) (l1_0 : List ByteArray) (A1_1 : Option Addr) (c1_1 : Nat) (l1_1 : List ByteArray) (A1_2 : Option Addr) (c1_2 : Nat) (l1_2 : List Int) (A1_3 : Option Addr) (c1_3 : Nat) (l1_3 : List (S58)) (A1_4 : Option Addr) (c1_4 : Nat) (l1_4 : List (S61)) (r : Bool) (w : World) (hr1_0 : Kd.C Kd.string w A1_0 l1_0.length l1_0) (hc1_0 : l1_0.length ≤ c1_0) (hr1_1 : Kd.C Kd.string w A1_1 l1_1.length l1_1) (hc1_1 : l1_1.length ≤ c1_1) (hr1_2 : Kd.C (Kd.int .i64) w A1_2 l1_2.length l1_2) (hc1_2 : l1_2.length ≤ c1_2) (hr1_3 : Kd.C k58 w A1_3 l1_3.length l1_3) (hc1_3 : l1_3.length ≤ c1_3) (hr1_4 : Kd.C k61 w A1_4 l1_4.length l1_4) (hc1_4 : l1_4.length ≤ c1_4) (hbk1_0 : w.heap[g1_0]? = some (.cells #[.slice A1_0 l1_0.length c1_0, .slice A1_1 l1_1.length c1_1, .slice A1_2 l1_2.length c1_2, .slice A1_3 l1_3.length c1_3, .slice A1_4 l1_4.length c1_4] 40 (0, 0))) (h : grammar_rule_1_cap.f a0 l1_0 l1_1 l1_2 l1_3 l1_4 = some r) :
  Calls Tryd.prog 78 #[.int .i64 a0, .pointer (some ⟨g1_0, 0, none⟩)] w fun e w' => e = .returned (.bool r) ∧ Below w.heap.size w w' := by
 have hu40 := Tryd.underlying40; have HR1_0 := qM hr1_0; have HC1_0 := qM hc1_0; clear hr1_0 hc1_0; have HR1_1 := qM hr1_1; have HC1_1 := qM hc1_1; clear hr1_1 hc1_1; have HR1_2 := qM hr1_2; have HC1_2 := qM hc1_2; clear hr1_2 hc1_2; have HR1_3 := qM hr1_3; have HC1_3 := qM hc1_3; clear hr1_3 hc1_3; have HR1_4 := qM hr1_4; have HC1_4 := qM hc1_4; clear hr1_4 hc1_4; have BK520 := qM hbk1_0; clear hbk1_0; have HB := qM (Below.refl w.heap.size w); have H : ((grammar_there.f l1_0 l1_1 l1_2 l1_3 l1_4 a0).bind fun t172 => (if t172 = true then (if a0 ≥ (-1) then (some (decide (a0 ≤ 1))) else (some false)) else (some true))) = some r := h; clear h; replace H := Option.bind_eq_some_iff.mp H; obtain ⟨t172, A30, H⟩ := H; replace H : (if t172 = true then (if a0 ≥ (-1) then (some (decide (a0 ≤ 1))) else (some false)) else (some true)) = some r := H; have A3 := qM A30; clear A30; (refine iteR ?_ ?_ H <;> clear H <;> intro c4 H)
 ·subst c4
  refine iteR ?_ ?_ H <;> clear H <;> intro c5 H
  ·have c5b0 : decide ((-1) ≤ a0) = true := decide_eq_true c5
   clear c5; obtain rfl := Option.some.inj H; have hz6 := bx5 BK520.out; (go_enter Tryd.func78, Tryd.ntmps78)
   go_wp2_with (first | ((with_reducible refine gate_callee (f := 65) rfl ?_); refine goesL_ (some 6) rfl rfl Tryd.func65 (by kernel_rfl) rfl #[.agg #[.slice A1_0 l1_0.length c1_0, .slice A1_1 l1_1.length c1_1, .slice A1_2 l1_2.length c1_2, .slice A1_3 l1_3.length c1_3, .slice A1_4 l1_4.length c1_4], .int .i64 a0] rfl (by (try simp only [List.map_toArray, List.map_cons, List.map_nil]); first | done | rfl | (simp only [List.length_drop, List.length_take]; rfl)) ?_; (with_reducible refine (grammar_there.calls _ _ l1_0 _ _ l1_1 _ _ l1_2 _ _ l1_3 _ _ l1_4 a0 true _ ?side1 ?side2 ?side3 ?side4 ?side5 ?side6 ?side7 ?side8 ?side9 ?side10 A3.out).mono ?_); (case side1 => repeat (first | exact HR1_0.out | (with_reducible refine Kd.C_alloc ?_ _) | (with_reducible refine Kd.C_drewN ?_ _) | (with_reducible refine Kd.C_drew ?_))); (case side2 => exact HC1_0.out); (case side3 => repeat (first | exact HR1_1.out | (with_reducible refine Kd.C_alloc ?_ _) | (with_reducible refine Kd.C_drewN ?_ _) | (with_reducible refine Kd.C_drew ?_))); (case side4 => exact HC1_1.out); (case side5 => repeat (first | exact HR1_2.out | (with_reducible refine Kd.C_alloc ?_ _) | (with_reducible refine Kd.C_drewN ?_ _) | (with_reducible refine Kd.C_drew ?_))); (case side6 => exact HC1_2.out); (case side7 => repeat (first | exact HR1_3.out | (with_reducible refine Kd.C_alloc ?_ _) | (with_reducible refine Kd.C_drewN ?_ _) | (with_reducible refine Kd.C_drew ?_))); (case side8 => exact HC1_3.out); (case side9 => repeat (first | exact HR1_4.out | (with_reducible refine Kd.C_alloc ?_ _) | (with_reducible refine Kd.C_drewN ?_ _) | (with_reducible refine Kd.C_drew ?_))); (case side10 => exact HC1_4.out); rintro e w7 ⟨rfl, hb⟩; refine ⟨_, rfl, ?_⟩; replace BK520 := qM (qb (g := g1_0) qK hb); replace HB := qM (qP qF hb); (try clear hb); (try clear hb2); (try clear hk); (try clear hi)))
   (go_ret); exact ⟨qE, qF⟩
  ·have c5b0 : decide ((-1) ≤ a0) = false := decide_eq_false c5
   clear c5; obtain rfl := Option.some.inj H; have hz8 := bx5 BK520.out; (go_enter Tryd.func78, Tryd.ntmps78)
   go_wp2_with (first | ((with_reducible refine gate_callee (f := 65) rfl ?_); refine goesL_ (some 6) rfl rfl Tryd.func65 (by kernel_rfl) rfl #[.agg #[.slice A1_0 l1_0.length c1_0, .slice A1_1 l1_1.length c1_1, .slice A1_2 l1_2.length c1_2, .slice A1_3 l1_3.length c1_3, .slice A1_4 l1_4.length c1_4], .int .i64 a0] rfl (by (try simp only [List.map_toArray, List.map_cons, List.map_nil]); first | done | rfl | (simp only [List.length_drop, List.length_take]; rfl)) ?_; (with_reducible refine (grammar_there.calls _ _ l1_0 _ _ l1_1 _ _ l1_2 _ _ l1_3 _ _ l1_4 a0 true _ ?side1 ?side2 ?side3 ?side4 ?side5 ?side6 ?side7 ?side8 ?side9 ?side10 A3.out).mono ?_); (case side1 => repeat (first | exact HR1_0.out | (with_reducible refine Kd.C_alloc ?_ _) | (with_reducible refine Kd.C_drewN ?_ _) | (with_reducible refine Kd.C_drew ?_))); (case side2 => exact HC1_0.out); (case side3 => repeat (first | exact HR1_1.out | (with_reducible refine Kd.C_alloc ?_ _) | (with_reducible refine Kd.C_drewN ?_ _) | (with_reducible refine Kd.C_drew ?_))); (case side4 => exact HC1_1.out); (case side5 => repeat (first | exact HR1_2.out | (with_reducible refine Kd.C_alloc ?_ _) | (with_reducible refine Kd.C_drewN ?_ _) | (with_reducible refine Kd.C_drew ?_))); (case side6 => exact HC1_2.out); (case side7 => repeat (first | exact HR1_3.out | (with_reducible refine Kd.C_alloc ?_ _) | (with_reducible refine Kd.C_drewN ?_ _) | (with_reducible refine Kd.C_drew ?_))); (case side8 => exact HC1_3.out); (case side9 => repeat (first | exact HR1_4.out | (with_reducible refine Kd.C_alloc ?_ _) | (with_reducible refine Kd.C_drewN ?_ _) | (with_reducible refine Kd.C_drew ?_))); (case side10 => exact HC1_4.out); rintro e w9 ⟨rfl, hb⟩; refine ⟨_, rfl, ?_⟩; replace BK520 := qM (qb (g := g1_0) qK hb); replace HB := qM (qP qF hb); (try clear hb); (try clear hb2); (try clear hk); (try clear hi)))
   (go_ret); exact ⟨qE, qF⟩
 ·replace c4 := Bool.eq_false_iff.mpr c4
  subst c4; obtain rfl := Option.some.inj H; have hz10 := bx5 BK520.out; (go_enter Tryd.func78, Tryd.ntmps78)
  go_wp2_with (first | ((with_reducible refine gate_callee (f := 65) rfl ?_); refine goesL_ (some 6) rfl rfl Tryd.func65 (by kernel_rfl) rfl #[.agg #[.slice A1_0 l1_0.length c1_0, .slice A1_1 l1_1.length c1_1, .slice A1_2 l1_2.length c1_2, .slice A1_3 l1_3.length c1_3, .slice A1_4 l1_4.length c1_4], .int .i64 a0] rfl (by (try simp only [List.map_toArray, List.map_cons, List.map_nil]); first | done | rfl | (simp only [List.length_drop, List.length_take]; rfl)) ?_; (with_reducible refine (grammar_there.calls _ _ l1_0 _ _ l1_1 _ _ l1_2 _ _ l1_3 _ _ l1_4 a0 false _ ?side1 ?side2 ?side3 ?side4 ?side5 ?side6 ?side7 ?side8 ?side9 ?side10 A3.out).mono ?_); (case side1 => repeat (first | exact HR1_0.out | (with_reducible refine Kd.C_alloc ?_ _) | (with_reducible refine Kd.C_drewN ?_ _) | (with_reducible refine Kd.C_drew ?_))); (case side2 => exact HC1_0.out); (case side3 => repeat (first | exact HR1_1.out | (with_reducible refine Kd.C_alloc ?_ _) | (with_reducible refine Kd.C_drewN ?_ _) | (with_reducible refine Kd.C_drew ?_))); (case side4 => exact HC1_1.out); (case side5 => repeat (first | exact HR1_2.out | (with_reducible refine Kd.C_alloc ?_ _) | (with_reducible refine Kd.C_drewN ?_ _) | (with_reducible refine Kd.C_drew ?_))); (case side6 => exact HC1_2.out); (case side7 => repeat (first | exact HR1_3.out | (with_reducible refine Kd.C_alloc ?_ _) | (with_reducible refine Kd.C_drewN ?_ _) | (with_reducible refine Kd.C_drew ?_))); (case side8 => exact HC1_3.out); (case side9 => repeat (first | exact HR1_4.out | (with_reducible refine Kd.C_alloc ?_ _) | (with_reducible refine Kd.C_drewN ?_ _) | (with_reducible refine Kd.C_drew ?_))); (case side10 => exact HC1_4.out); rintro e w11 ⟨rfl, hb⟩; refine ⟨_, rfl, ?_⟩; replace BK520 := qM (qb (g := g1_0) qK hb); replace HB := qM (qP qF hb); (try clear hb); (try clear hb2); (try clear hk); (try clear hi)))
  (go_ret); exact ⟨qE, qF⟩
def slices_IndexFunc_grammar_rule_1.l0 : Nat → List Int → Int → Int → List ByteArray → List ByteArray → List Int → List (S58) → List (S61) → Option (Int)
 | 0, _, _, _, _, _, _, _, _ => none
 | k + 1, x0, x7, x8, x521000, x521001, x521002, x521003, x521004 => if x8 < x7 then (if 0 ≤ x8 then (if x8 < (x0.length : Int) then ((grammar_rule_1_cap.f (rd x0 x8) x521000 x521001 x521002 x521003 x521004).bind fun t173 => (if t173 = true then (some x8) else (slices_IndexFunc_grammar_rule_1.l0 k x0 x7 (wrap64 (x8 + 1)) x521000 x521001 x521002 x521003 x521004))) else (none)) else (none)) else (some (-1))
def slices_IndexFunc_grammar_rule_1.f (k : Nat) (l0 : List Int) (l1_0 : List ByteArray) (l1_1 : List ByteArray) (l1_2 : List Int) (l1_3 : List (S58)) (l1_4 : List (S61)) : Option (Int) := slices_IndexFunc_grammar_rule_1.l0 k l0 (l0.length : Int) 0 l1_0 l1_1 l1_2 l1_3 l1_4
theorem slices_IndexFunc_grammar_rule_1.mono_l : ∀ k, (∀ y0 y1 y2 y3 y4 y5 y6 y7, LeO (slices_IndexFunc_grammar_rule_1.l0 k y0 y1 y2 y3 y4 y5 y6 y7) (slices_IndexFunc_grammar_rule_1.l0 (k + 1) y0 y1 y2 y3 y4 y5 y6 y7))
 | 0 => fun _ _ _ _ _ _ _ _ r h => by simp [slices_IndexFunc_grammar_rule_1.l0] at h
 | k + 1 => by
  have ih0 := slices_IndexFunc_grammar_rule_1.mono_l k
  ·intro y0 y1 y2 y3 y4 y5 y6 y7
   (unfold slices_IndexFunc_grammar_rule_1.l0); exact qL
theorem slices_IndexFunc_grammar_rule_1.mono : ∀ a0 a1 a2 a3 a4 a5 k, LeO (slices_IndexFunc_grammar_rule_1.f k a0 a1 a2 a3 a4 a5) (slices_IndexFunc_grammar_rule_1.f (k + 1) a0 a1 a2 a3 a4 a5) := by
 (intro a0 a1 a2 a3 a4 a5 k); have ih0 := slices_IndexFunc_grammar_rule_1.mono_l k; (unfold slices_IndexFunc_grammar_rule_1.f); exact qL
theorem slices_IndexFunc_grammar_rule_1.calls (k : Nat) (A0 : Option Addr) (c0 : Nat) (l0 : List Int) (g1_0 : Nat) (A1_0 : Option Addr) (c1_0 : Nat) (l1_0 : List ByteArray) (A1_1 : Option Addr) (c1_1 : Nat) (l1_1 : List ByteArray) (A1_2 : Option Addr) (c1_2 : Nat) (l1_2 : List Int) (A1_3 : Option Addr) (c1_3 : Nat) (l1_3 : List (S58)) (A1_4 : Option Addr) (c1_4 : Nat) (l1_4 : List (S61)) (r : Int) (w : World) (hr0 : Kd.C (Kd.int .i64) w A0 l0.length l0) (hc0 : l0.length ≤ c0) (hr1_0 : Kd.C Kd.string w A1_0 l1_0.length l1_0) (hc1_0 : l1_0.length ≤ c1_0) (hr1_1 : Kd.C Kd.string w A1_1 l1_1.length l1_1) (hc1_1 : l1_1.length ≤ c1_1) (hr1_2 : Kd.C (Kd.int .i64) w A1_2 l1_2.length l1_2) (hc1_2 : l1_2.length ≤ c1_2) (hr1_3 : Kd.C k58 w A1_3 l1_3.length l1_3) (hc1_3 : l1_3.length ≤ c1_3) (hr1_4 : Kd.C k61 w A1_4 l1_4.length l1_4) (hc1_4 : l1_4.length ≤ c1_4) (hbk1_0 : w.heap[g1_0]? = some (.cells #[.slice A1_0 l1_0.length c1_0, .slice A1_1 l1_1.length c1_1, .slice A1_2 l1_2.length c1_2, .slice A1_3 l1_3.length c1_3, .slice A1_4 l1_4.length c1_4] 40 (0, 0))) (h : slices_IndexFunc_grammar_rule_1.f k l0 l1_0 l1_1 l1_2 l1_3 l1_4 = some r) :
  Calls Tryd.prog 85 #[.slice A0 l0.length c0, .func (.func 78) #[] #[.pointer (some ⟨g1_0, 0, none⟩)]] w fun e w' => e = .returned (.int .i64 r) ∧ Below w.heap.size w w' := by
 have HR0 := qM hr0; have HC0 := qM hc0; clear hr0 hc0; have HR1_0 := qM hr1_0; have HC1_0 := qM hc1_0; clear hr1_0 hc1_0; have HR1_1 := qM hr1_1; have HC1_1 := qM hc1_1; clear hr1_1 hc1_1; have HR1_2 := qM hr1_2; have HC1_2 := qM hc1_2; clear hr1_2 hc1_2; have HR1_3 := qM hr1_3; have HC1_3 := qM hc1_3; clear hr1_3 hc1_3; have HR1_4 := qM hr1_4; have HC1_4 := qM hc1_4; clear hr1_4 hc1_4; have BK520 := qM hbk1_0; clear hbk1_0; have HB := qM (Below.refl w.heap.size w); have H : (slices_IndexFunc_grammar_rule_1.l0 k l0 (l0.length : Int) 0 l1_0 l1_1 l1_2 l1_3 l1_4) = some r := h; clear h; have H' := qM H; clear H; (go_enter Tryd.func85, Tryd.ntmps85); go_wp2; (go_loopg [8] k (fun kq v8 w' => ∃ (x8_1 : Int), v8 = .int .i64 x8_1 ∧ Aside0 (slices_IndexFunc_grammar_rule_1.l0 kq l0 (l0.length : Int) x8_1 l1_0 l1_1 l1_2 l1_3 l1_4 = some r) ∧ Aside0 (kq ≤ k) ∧ Aside0 (w'.heap[g1_0]? = some (.cells #[(.slice A1_0 l1_0.length c1_0), (.slice A1_1 l1_1.length c1_1), (.slice A1_2 l1_2.length c1_2), (.slice A1_3 l1_3.length c1_3), (.slice A1_4 l1_4.length c1_4)] 40 (0, 0))) ∧ Aside0 (Below w.heap.size w w')))
 case atStart => exact ⟨(0), qV, H', ⟨Nat.le_refl _⟩, ⟨qK⟩, ⟨qF⟩⟩
 case round =>
  (clear H'); (try clear c1); (try clear p2); obtain ⟨x8_1, rfl, HA, HK1, BK520, HB⟩ := hrel
  cases gk with
  | zero => exact absurd HA.out (by simp [slices_IndexFunc_grammar_rule_1.l0])
  | succ k1 =>
   have H := HA.out; clear HA; (simp only [slices_IndexFunc_grammar_rule_1.l0] at H); (refine iteD ?_ ?_ H <;> clear H <;> intro c3b0 H)
   ·refine iteN ?_ H
    clear H; (intro c4b0 H); have p172 : 0 ≤ (x8_1 : Int) := qo qX; have q172 : x8_1 < (l0.length : Int) := qo qX; obtain ⟨ad172, e172, hx172_0⟩ := Kd.at_int HR0.out x8_1 p172 q172
    cases e172
    replace hx172_0 := qv HB.out hx172_0; replace p172 := eq_true p172; replace q172 := eq_true q172; refine iteN ?_ H; clear H; (intro c5b0 H); replace H := Option.bind_eq_some_iff.mp H; obtain ⟨t173, A60, H⟩ := H; replace H : (if t173 = true then (some x8_1) else (slices_IndexFunc_grammar_rule_1.l0 k1 l0 (l0.length : Int) (wrap64 (x8_1 + 1)) l1_0 l1_1 l1_2 l1_3 l1_4)) = some r := H; have A6 := qM A60; clear A60; (refine iteR ?_ ?_ H <;> clear H <;> intro c7 H)
    ·subst c7
     obtain rfl := Option.some.inj H
     go_wp2_with (first | (go_at_call 78; (with_reducible refine (grammar_rule_1_cap.calls (rd l0 x8_1) g1_0 A1_0 c1_0 l1_0 A1_1 c1_1 l1_1 A1_2 c1_2 l1_2 A1_3 c1_3 l1_3 A1_4 c1_4 l1_4 true _ ?side1 ?side2 ?side3 ?side4 ?side5 ?side6 ?side7 ?side8 ?side9 ?side10 ?side11 A6.out).mono ?_); (case side1 | side3 | side5 | side7 | side9 => exact qY); (case side2 | side4 | side6 | side8 | side10 => exact qO); (case side11 => exact qK); rintro e w8 ⟨rfl, hb⟩; replace BK520 := qM (qb (g := g1_0) qK hb); replace HB := qM (qP qF hb); (try clear hb); (try clear hb2); (try clear hk); (try clear hi)))
     (go_ret); exact ⟨qE, qF⟩
    ·replace c7 := Bool.eq_false_iff.mpr c7
     subst c7; have H' := qM H; clear H
     go_wp2_with (first | (go_at_call 78; (with_reducible refine (grammar_rule_1_cap.calls (rd l0 x8_1) g1_0 A1_0 c1_0 l1_0 A1_1 c1_1 l1_1 A1_2 c1_2 l1_2 A1_3 c1_3 l1_3 A1_4 c1_4 l1_4 false _ ?side1 ?side2 ?side3 ?side4 ?side5 ?side6 ?side7 ?side8 ?side9 ?side10 ?side11 A6.out).mono ?_); (case side1 | side3 | side5 | side7 | side9 => exact qY); (case side2 | side4 | side6 | side8 | side10 => exact qO); (case side11 => exact qK); rintro e w9 ⟨rfl, hb⟩; replace BK520 := qM (qb (g := g1_0) qK hb); replace HB := qM (qP qF hb); (try clear hb); (try clear hb2); (try clear hk); (try clear hi)))
     go_roundg k1
     case measure => have := HK1.out; omega
     case rel => exact ⟨(wrap64 (x8_1 + 1)), qV, H', ⟨by have := HK1.out; omega⟩, ⟨qK⟩, ⟨qF⟩⟩
   ·obtain rfl := Option.some.inj H
    go_wp2; (go_ret); exact ⟨qE, qF⟩
def slices_ContainsFunc_grammar_rule_1.f (k : Nat) (l0 : List Int) (l1_0 : List ByteArray) (l1_1 : List ByteArray) (l1_2 : List Int) (l1_3 : List (S58)) (l1_4 : List (S61)) : Option (Bool) := (slices_IndexFunc_grammar_rule_1.f k l0 l1_0 l1_1 l1_2 l1_3 l1_4).bind fun t174 => (some (decide (t174 ≥ 0)))
theorem slices_ContainsFunc_grammar_rule_1.mono : ∀ a0 a1 a2 a3 a4 a5 k, LeO (slices_ContainsFunc_grammar_rule_1.f k a0 a1 a2 a3 a4 a5) (slices_ContainsFunc_grammar_rule_1.f (k + 1) a0 a1 a2 a3 a4 a5) := by
 (intro a0 a1 a2 a3 a4 a5 k); (unfold slices_ContainsFunc_grammar_rule_1.f); have mo0 := slices_IndexFunc_grammar_rule_1.mono; exact qL
theorem slices_ContainsFunc_grammar_rule_1.calls (k : Nat) (A0 : Option Addr) (c0 : Nat) (l0 : List Int) (g1_0 : Nat) (A1_0 : Option Addr) (c1_0 : Nat) (l1_0 : List ByteArray) (A1_1 : Option Addr) (c1_1 : Nat) (l1_1 : List ByteArray) (A1_2 : Option Addr) (c1_2 : Nat) (l1_2 : List Int) (A1_3 : Option Addr) (c1_3 : Nat) (l1_3 : List (S58)) (A1_4 : Option Addr) (c1_4 : Nat) (l1_4 : List (S61)) (r : Bool) (w : World) (hr0 : Kd.C (Kd.int .i64) w A0 l0.length l0) (hc0 : l0.length ≤ c0) (hr1_0 : Kd.C Kd.string w A1_0 l1_0.length l1_0) (hc1_0 : l1_0.length ≤ c1_0) (hr1_1 : Kd.C Kd.string w A1_1 l1_1.length l1_1) (hc1_1 : l1_1.length ≤ c1_1) (hr1_2 : Kd.C (Kd.int .i64) w A1_2 l1_2.length l1_2) (hc1_2 : l1_2.length ≤ c1_2) (hr1_3 : Kd.C k58 w A1_3 l1_3.length l1_3) (hc1_3 : l1_3.length ≤ c1_3) (hr1_4 : Kd.C k61 w A1_4 l1_4.length l1_4) (hc1_4 : l1_4.length ≤ c1_4) (hbk1_0 : w.heap[g1_0]? = some (.cells #[.slice A1_0 l1_0.length c1_0, .slice A1_1 l1_1.length c1_1, .slice A1_2 l1_2.length c1_2, .slice A1_3 l1_3.length c1_3, .slice A1_4 l1_4.length c1_4] 40 (0, 0))) (h : slices_ContainsFunc_grammar_rule_1.f k l0 l1_0 l1_1 l1_2 l1_3 l1_4 = some r) :
  Calls Tryd.prog 77 #[.slice A0 l0.length c0, .func (.func 78) #[] #[.pointer (some ⟨g1_0, 0, none⟩)]] w fun e w' => e = .returned (.bool r) ∧ Below w.heap.size w w' := by
 have HR0 := qM hr0; have HC0 := qM hc0; clear hr0 hc0; have HR1_0 := qM hr1_0; have HC1_0 := qM hc1_0; clear hr1_0 hc1_0; have HR1_1 := qM hr1_1; have HC1_1 := qM hc1_1; clear hr1_1 hc1_1; have HR1_2 := qM hr1_2; have HC1_2 := qM hc1_2; clear hr1_2 hc1_2; have HR1_3 := qM hr1_3; have HC1_3 := qM hc1_3; clear hr1_3 hc1_3; have HR1_4 := qM hr1_4; have HC1_4 := qM hc1_4; clear hr1_4 hc1_4; have BK520 := qM hbk1_0; clear hbk1_0; have HB := qM (Below.refl w.heap.size w); have H : ((slices_IndexFunc_grammar_rule_1.f k l0 l1_0 l1_1 l1_2 l1_3 l1_4).bind fun t174 => (some (decide (t174 ≥ 0)))) = some r := h; clear h; replace H := Option.bind_eq_some_iff.mp H; obtain ⟨t174, A30, H⟩ := H; replace H : (some (decide (t174 ≥ 0))) = some r := H; have A3 := qM A30; clear A30; obtain rfl := Option.some.inj H; (go_enter Tryd.func77, Tryd.ntmps77)
 go_wp2_with (first | ((with_reducible refine gate_callee (f := 85) rfl ?_); refine goesL_ (some 7) rfl rfl Tryd.func85 (by kernel_rfl) rfl #[.slice A0 l0.length c0, .func (.func 78) #[] #[.pointer (some ⟨g1_0, 0, none⟩)]] rfl (by (try simp only [List.map_toArray, List.map_cons, List.map_nil]); first | done | rfl | (simp only [List.length_drop, List.length_take]; rfl)) ?_; (with_reducible refine (slices_IndexFunc_grammar_rule_1.calls k _ _ l0 g1_0 A1_0 c1_0 l1_0 A1_1 c1_1 l1_1 A1_2 c1_2 l1_2 A1_3 c1_3 l1_3 A1_4 c1_4 l1_4 t174 _ ?side1 ?side2 ?side3 ?side4 ?side5 ?side6 ?side7 ?side8 ?side9 ?side10 ?side11 ?side12 ?side13 A3.out).mono ?_); (case side1 => repeat (first | exact HR0.out | (with_reducible refine Kd.C_alloc ?_ _) | (with_reducible refine Kd.C_drewN ?_ _) | (with_reducible refine Kd.C_drew ?_))); (case side2 => exact HC0.out); (case side3 => repeat (first | exact HR1_0.out | (with_reducible refine Kd.C_alloc ?_ _) | (with_reducible refine Kd.C_drewN ?_ _) | (with_reducible refine Kd.C_drew ?_))); (case side4 => exact HC1_0.out); (case side5 => repeat (first | exact HR1_1.out | (with_reducible refine Kd.C_alloc ?_ _) | (with_reducible refine Kd.C_drewN ?_ _) | (with_reducible refine Kd.C_drew ?_))); (case side6 => exact HC1_1.out); (case side7 => repeat (first | exact HR1_2.out | (with_reducible refine Kd.C_alloc ?_ _) | (with_reducible refine Kd.C_drewN ?_ _) | (with_reducible refine Kd.C_drew ?_))); (case side8 => exact HC1_2.out); (case side9 => repeat (first | exact HR1_3.out | (with_reducible refine Kd.C_alloc ?_ _) | (with_reducible refine Kd.C_drewN ?_ _) | (with_reducible refine Kd.C_drew ?_))); (case side10 => exact HC1_3.out); (case side11 => repeat (first | exact HR1_4.out | (with_reducible refine Kd.C_alloc ?_ _) | (with_reducible refine Kd.C_drewN ?_ _) | (with_reducible refine Kd.C_drew ?_))); (case side12 => exact HC1_4.out); (case side13 => exact qK); rintro e w4 ⟨rfl, hb⟩; refine ⟨_, rfl, ?_⟩; replace BK520 := qM (qb (g := g1_0) qK hb); replace HB := qM (qP qF hb); (try clear hb); (try clear hb2); (try clear hk); (try clear hi)))
 (go_ret); exact ⟨qE, qF⟩
mutual
def grammar_rule.j0 : Nat → Bool → List ByteArray → List ByteArray → List Int → List (S58) → List (S61) → Int → List Int → List ByteArray → ByteArray → Int → Option (Int)
 | 0, _, _, _, _, _, _, _, _, _, _, _ => none
 | k + 1, x26, x176000, x176001, x176002, x176003, x176004, x177000, x177001, x177002, x177003, x177004 => if x26 = true then (some 22) else ((slices_ContainsFunc_grammar_rule_1.f k x177001 x176000 x176001 x176002 x176003 x176004).bind fun t178 => (if t178 = true then (some 21) else (if (x177002.length : Int) = 0 then (grammar_rule.j1 k false x176000 x176001 x176002 x176003 x176004 x177000 x177001 x177002 x177003 x177004) else (grammar_rule.j1 k ((x177002.length : Int) != (x177001.length : Int)) x176000 x176001 x176002 x176003 x176004 x177000 x177001 x177002 x177003 x177004))))
def grammar_rule.j1 : Nat → Bool → List ByteArray → List ByteArray → List Int → List (S58) → List (S61) → Int → List Int → List ByteArray → ByteArray → Int → Option (Int)
 | 0, _, _, _, _, _, _, _, _, _, _, _ => none
 | k + 1, x43, x176000, x176001, x176002, x176003, x176004, x177000, x177001, x177002, x177003, x177004 => if x43 = true then (some 25) else ((grammar_within.f x177004 0 (x176004.length : Int)).bind fun t179 => (if t179 = true then (some 0) else (some 24)))
end
def grammar_rule.f (k : Nat) (l0_0 : List ByteArray) (l0_1 : List ByteArray) (l0_2 : List Int) (l0_3 : List (S58)) (l0_4 : List (S61)) (a1_0 : Int) (l1_1 : List Int) (l1_2 : List ByteArray) (a1_3 : ByteArray) (a1_4 : Int) (a2 : Int) : Option (Int) := (grammar_within.f a1_0 0 (wrap64 ((l0_1.length : Int) - 1))).bind fun t177 => (if t177 = true then (if a1_0 < a2 then (grammar_rule.j0 k true l0_0 l0_1 l0_2 l0_3 l0_4 a1_0 l1_1 l1_2 a1_3 a1_4) else (grammar_rule.j0 k (decide ((l1_1.length : Int) > 32)) l0_0 l0_1 l0_2 l0_3 l0_4 a1_0 l1_1 l1_2 a1_3 a1_4)) else (grammar_rule.j0 k true l0_0 l0_1 l0_2 l0_3 l0_4 a1_0 l1_1 l1_2 a1_3 a1_4))
theorem grammar_rule.mono_l : ∀ k, (∀ y0 y1 y2 y3 y4 y5 y6 y7 y8 y9 y10, LeO (grammar_rule.j0 k y0 y1 y2 y3 y4 y5 y6 y7 y8 y9 y10) (grammar_rule.j0 (k + 1) y0 y1 y2 y3 y4 y5 y6 y7 y8 y9 y10)) ∧ (∀ y0 y1 y2 y3 y4 y5 y6 y7 y8 y9 y10, LeO (grammar_rule.j1 k y0 y1 y2 y3 y4 y5 y6 y7 y8 y9 y10) (grammar_rule.j1 (k + 1) y0 y1 y2 y3 y4 y5 y6 y7 y8 y9 y10))
 | 0 => ⟨fun _ _ _ _ _ _ _ _ _ _ _ r h => by simp [grammar_rule.j0] at h, fun _ _ _ _ _ _ _ _ _ _ _ r h => by simp [grammar_rule.j1] at h⟩
 | k + 1 => by
  obtain ⟨ih0, ih1⟩ := grammar_rule.mono_l k; refine ⟨?_, ?_⟩
  ·intro y0 y1 y2 y3 y4 y5 y6 y7 y8 y9 y10
   (unfold grammar_rule.j0); have mo0 := slices_ContainsFunc_grammar_rule_1.mono; exact qL
  ·intro y0 y1 y2 y3 y4 y5 y6 y7 y8 y9 y10
   (unfold grammar_rule.j1); have mo0 := slices_ContainsFunc_grammar_rule_1.mono; exact qL
theorem grammar_rule.mono : ∀ a0 a1 a2 a3 a4 a5 a6 a7 a8 a9 a10 k, LeO (grammar_rule.f k a0 a1 a2 a3 a4 a5 a6 a7 a8 a9 a10) (grammar_rule.f (k + 1) a0 a1 a2 a3 a4 a5 a6 a7 a8 a9 a10) := by
 (intro a0 a1 a2 a3 a4 a5 a6 a7 a8 a9 a10 k); obtain ⟨ih0, ih1⟩ := grammar_rule.mono_l k; (unfold grammar_rule.f); have mo0 := slices_ContainsFunc_grammar_rule_1.mono; exact qL
theorem grammar_rule.calls (k : Nat) (A0_0 : Option Addr) (c0_0 : Nat) (l0_0 : List ByteArray) (A0_1 : Option Addr) (c0_1 : Nat) (l0_1 : List ByteArray) (A0_2 : Option Addr) (c0_2 : Nat) (l0_2 : List Int) (A0_3 : Option Addr) (c0_3 : Nat) (l0_3 : List (S58)) (A0_4 : Option Addr) (c0_4 : Nat) (l0_4 : List (S61)) (a1_0 : Int) (A1_1 : Option Addr) (c1_1 : Nat) (l1_1 : List Int) (A1_2 : Option Addr) (c1_2 : Nat) (l1_2 : List ByteArray) (a1_3 : ByteArray) (a1_4 : Int) (a2 : Int) (r : Int) (w : World) (hr0_0 : Kd.C Kd.string w A0_0 l0_0.length l0_0) (hc0_0 : l0_0.length ≤ c0_0) (hr0_1 : Kd.C Kd.string w A0_1 l0_1.length l0_1) (hc0_1 : l0_1.length ≤ c0_1) (hr0_2 : Kd.C (Kd.int .i64) w A0_2 l0_2.length l0_2) (hc0_2 : l0_2.length ≤ c0_2) (hr0_3 : Kd.C k58 w A0_3 l0_3.length l0_3) (hc0_3 : l0_3.length ≤ c0_3) (hr0_4 : Kd.C k61 w A0_4 l0_4.length l0_4) (hc0_4 : l0_4.length ≤ c0_4) (hr1_1 : Kd.C (Kd.int .i64) w A1_1 l1_1.length l1_1) (hc1_1 : l1_1.length ≤ c1_1) (hr1_2 : Kd.C Kd.string w A1_2 l1_2.length l1_2) (hc1_2 : l1_2.length ≤ c1_2) (h : grammar_rule.f k l0_0 l0_1 l0_2 l0_3 l0_4 a1_0 l1_1 l1_2 a1_3 a1_4 a2 = some r) :
  Calls Tryd.prog 54 #[.agg #[.slice A0_0 l0_0.length c0_0, .slice A0_1 l0_1.length c0_1, .slice A0_2 l0_2.length c0_2, .slice A0_3 l0_3.length c0_3, .slice A0_4 l0_4.length c0_4], .agg #[.int .i64 a1_0, .slice A1_1 l1_1.length c1_1, .slice A1_2 l1_2.length c1_2, .string a1_3, .int .i64 a1_4], .int .i64 a2] w fun e w' => e = .returned (.int .i64 r) ∧ Below w.heap.size w w' := by
 have hu40 := Tryd.underlying40; have hu58 := Tryd.underlying58; have HR0_0 := qM hr0_0; have HC0_0 := qM hc0_0; clear hr0_0 hc0_0; have HR0_1 := qM hr0_1; have HC0_1 := qM hc0_1; clear hr0_1 hc0_1; have HR0_2 := qM hr0_2; have HC0_2 := qM hc0_2; clear hr0_2 hc0_2; have HR0_3 := qM hr0_3; have HC0_3 := qM hc0_3; clear hr0_3 hc0_3; have HR0_4 := qM hr0_4; have HC0_4 := qM hc0_4; clear hr0_4 hc0_4; have HR1_1 := qM hr1_1; have HC1_1 := qM hc1_1; clear hr1_1 hc1_1; have HR1_2 := qM hr1_2; have HC1_2 := qM hc1_2; clear hr1_2 hc1_2; have HB := qM (Below.refl w.heap.size w); have H : ((grammar_within.f a1_0 0 (wrap64 ((l0_1.length : Int) - 1))).bind fun t177 => (if t177 = true then (if a1_0 < a2 then (grammar_rule.j0 k true l0_0 l0_1 l0_2 l0_3 l0_4 a1_0 l1_1 l1_2 a1_3 a1_4) else (grammar_rule.j0 k (decide ((l1_1.length : Int) > 32)) l0_0 l0_1 l0_2 l0_3 l0_4 a1_0 l1_1 l1_2 a1_3 a1_4)) else (grammar_rule.j0 k true l0_0 l0_1 l0_2 l0_3 l0_4 a1_0 l1_1 l1_2 a1_3 a1_4))) = some r := h; clear h; have HC4 := qM H; clear H; (go_enter Tryd.func54, Tryd.ntmps54)
 go_upto_region 1 with (first | ((with_reducible refine gate_dst (N := 3) rfl ?_); (try (refine gate_guard (by rfl) ?_; dsimp only)); refine box_event ?hg (N := 3) ?hd (cs := #[.slice A0_0 l0_0.length c0_0, .slice A0_1 l0_1.length c0_1, .slice A0_2 l0_2.length c0_2, .slice A0_3 l0_3.length c0_3, .slice A0_4 l0_4.length c0_4]) (t := 40) ?hr ?_; (case hd | hg => rfl); (case hr => first | (go_simp; done) | (go_simp; rfl)); intro gb175 hg w5 hbox hb; have BK175 := qM (hbox); have GW175 := qM (qG hg); have GE175 := GW175; replace HB := qM (qP qF hb); clear hb hbox hg) | ((with_reducible refine gate_dst (N := 4) rfl ?_); (try (refine gate_guard (by rfl) ?_; dsimp only)); refine box_event ?hg (N := 4) ?hd (cs := #[.int .i64 a1_0, .slice A1_1 l1_1.length c1_1, .slice A1_2 l1_2.length c1_2, .string a1_3, .int .i64 a1_4]) (t := 58) ?hr ?_; (case hd | hg => rfl); (case hr => first | (go_simp; done) | (go_simp; rfl)); intro gb176 hg w6 hbox hb; have BK176 := qM (hbox); have GW176 := qM (qG hg); have GE176 := GW176; have NB175_176 := qM ((by rw [hg]; exact Nat.ne_of_lt (ql (g := gb175) qK) : gb175 ≠ gb176)); have NB176_175 := qM (Ne.symm NB175_176.out); replace BK175 := qM (qb (g := gb175) qK hb); replace HB := qM (qP qF hb); clear hb hbox hg))
 (try simp only [Act.put, List.setIfInBounds_toArray, List.set_cons_zero, List.set_cons_succ]); (go_cut [26] (fun v26 wc => ∃ (kq : Nat) (x26_3 : Bool), v26 = .bool x26_3 ∧ Aside0 (grammar_rule.j0 kq x26_3 l0_0 l0_1 l0_2 l0_3 l0_4 a1_0 l1_1 l1_2 a1_3 a1_4 = some r) ∧ Aside0 (kq ≤ k) ∧ Aside0 (wc.heap[gb175]? = some (.cells #[(.slice A0_0 l0_0.length c0_0), (.slice A0_1 l0_1.length c0_1), (.slice A0_2 l0_2.length c0_2), (.slice A0_3 l0_3.length c0_3), (.slice A0_4 l0_4.length c0_4)] 40 (0, 0))) ∧ Aside0 (wc.heap[gb176]? = some (.cells #[.int .i64 a1_0, (.slice A1_1 l1_1.length c1_1), (.slice A1_2 l1_2.length c1_2), .string a1_3, .int .i64 a1_4] 58 (0, 0))) ∧ Aside0 (Below w.heap.size w wc)))
 case first =>
  have H := HC4.out; clear HC4; replace H := Option.bind_eq_some_iff.mp H; obtain ⟨t177, A70, H⟩ := H; replace H : (if t177 = true then (if a1_0 < a2 then (grammar_rule.j0 k true l0_0 l0_1 l0_2 l0_3 l0_4 a1_0 l1_1 l1_2 a1_3 a1_4) else (grammar_rule.j0 k (decide ((l1_1.length : Int) > 32)) l0_0 l0_1 l0_2 l0_3 l0_4 a1_0 l1_1 l1_2 a1_3 a1_4)) else (grammar_rule.j0 k true l0_0 l0_1 l0_2 l0_3 l0_4 a1_0 l1_1 l1_2 a1_3 a1_4)) = some r := H; have A7 := qM A70; clear A70; have hnb10 := NB176_175.out; have hnc10 := NB175_176.out; have hz11 := bx5 BK176.out; have hz12 := bx5 BK175.out; (refine iteR ?_ ?_ H <;> clear H <;> intro c8 H)
  ·subst c8
   refine iteD ?_ ?_ H <;> clear H <;> intro c9b0 H
   ·(first | rw [c9b0] | (simp only [i64_w, i32_w]; rw [c9b0]) | skip)
    have H' := qM H; clear H; (go_wp2_with (first | ((with_reducible refine gate_callee (f := 55) rfl ?_); refine goesL_ (some 13) rfl rfl Tryd.func55 (by kernel_rfl) rfl #[.int .i64 a1_0, .int .i64 0, .int .i64 (wrap64 ((l0_1.length : Int) - 1))] rfl (by (try simp only [List.map_toArray, List.map_cons, List.map_nil]); first | done | rfl | (simp only [List.length_drop, List.length_take]; rfl)) ?_; (with_reducible refine (grammar_within.calls a1_0 0 (wrap64 ((l0_1.length : Int) - 1)) true _ A7.out).mono ?_); rintro e w' ⟨rfl, ⟨nd, rfl⟩⟩; refine ⟨_, rfl, ?_⟩))); go_meet
    case rel => exact ⟨_, (true), qV, H', ⟨by first | omega | exact Nat.le_refl _⟩, ⟨qK⟩, ⟨qK⟩, ⟨qF⟩⟩
   ·(first | rw [c9b0] | (simp only [i64_w, i32_w]; rw [c9b0]) | skip)
    have H' := qM H; clear H; (go_wp2_with (first | ((with_reducible refine gate_callee (f := 55) rfl ?_); refine goesL_ (some 13) rfl rfl Tryd.func55 (by kernel_rfl) rfl #[.int .i64 a1_0, .int .i64 0, .int .i64 (wrap64 ((l0_1.length : Int) - 1))] rfl (by (try simp only [List.map_toArray, List.map_cons, List.map_nil]); first | done | rfl | (simp only [List.length_drop, List.length_take]; rfl)) ?_; (with_reducible refine (grammar_within.calls a1_0 0 (wrap64 ((l0_1.length : Int) - 1)) true _ A7.out).mono ?_); rintro e w' ⟨rfl, ⟨nd, rfl⟩⟩; refine ⟨_, rfl, ?_⟩))); go_meet
    case rel => exact ⟨_, (decide ((l1_1.length : Int) > 32)), qV, H', ⟨by first | omega | exact Nat.le_refl _⟩, ⟨qK⟩, ⟨qK⟩, ⟨qF⟩⟩
  ·replace c8 := Bool.eq_false_iff.mpr c8
   subst c8; have H' := qM H; clear H; (go_wp2_with (first | ((with_reducible refine gate_callee (f := 55) rfl ?_); refine goesL_ (some 13) rfl rfl Tryd.func55 (by kernel_rfl) rfl #[.int .i64 a1_0, .int .i64 0, .int .i64 (wrap64 ((l0_1.length : Int) - 1))] rfl (by (try simp only [List.map_toArray, List.map_cons, List.map_nil]); first | done | rfl | (simp only [List.length_drop, List.length_take]; rfl)) ?_; (with_reducible refine (grammar_within.calls a1_0 0 (wrap64 ((l0_1.length : Int) - 1)) false _ A7.out).mono ?_); rintro e w' ⟨rfl, ⟨nd, rfl⟩⟩; refine ⟨_, rfl, ?_⟩))); go_meet
   case rel => exact ⟨_, (true), qV, H', ⟨by first | omega | exact Nat.le_refl _⟩, ⟨qK⟩, ⟨qK⟩, ⟨qF⟩⟩
 case rest =>
  clear HC4; (try clear c1); (try clear p2); (try clear c5); (try clear p6); (try clear c8); (try clear c9); (try clear c9b0); (try clear c10); (try clear c13); (try clear c16); (try clear hz11); (try clear hz12); obtain ⟨kq, x26_3, rfl, HA, HJ3, BK175, BK176, HB⟩ := hcut
  cases kq with
  | zero => exact absurd HA.out (by simp [grammar_rule.j0])
  | succ kj3 =>
   have H := HA.out; clear HA; (simp only [grammar_rule.j0] at H); (refine iteR ?_ ?_ H <;> clear H <;> intro c19 H)
   ·subst c19
    obtain rfl := Option.some.inj H; go_wp2; (go_ret); exact ⟨qE, qF⟩
   ·replace c19 := Bool.eq_false_iff.mpr c19
    subst c19; replace H := Option.bind_eq_some_iff.mp H; obtain ⟨t178, A200, H⟩ := H; replace H : (if t178 = true then (some 21) else (if (l1_2.length : Int) = 0 then (grammar_rule.j1 kj3 false l0_0 l0_1 l0_2 l0_3 l0_4 a1_0 l1_1 l1_2 a1_3 a1_4) else (grammar_rule.j1 kj3 ((l1_2.length : Int) != (l1_1.length : Int)) l0_0 l0_1 l0_2 l0_3 l0_4 a1_0 l1_1 l1_2 a1_3 a1_4))) = some r := H; have A20 := qM A200; clear A200; have hnb22 := NB176_175.out; have hnc22 := NB175_176.out; have hz23 := bx5 BK176.out; (refine iteR ?_ ?_ H <;> clear H <;> intro c21 H)
    ·subst c21
     obtain rfl := Option.some.inj H
     go_wp2_with (first | ((with_reducible refine gate_callee (f := 77) rfl ?_); refine goesL_ (some 30) rfl rfl Tryd.func77 (by kernel_rfl) rfl #[.slice A1_1 l1_1.length c1_1, .func (.func 78) #[] #[.pointer (some ⟨gb175, 0, none⟩)]] rfl (by (try simp only [List.map_toArray, List.map_cons, List.map_nil]); first | done | rfl | (simp only [List.length_drop, List.length_take]; rfl)) ?_; (with_reducible refine (slices_ContainsFunc_grammar_rule_1.calls kj3 _ _ l1_1 gb175 A0_0 c0_0 l0_0 A0_1 c0_1 l0_1 A0_2 c0_2 l0_2 A0_3 c0_3 l0_3 A0_4 c0_4 l0_4 true _ ?side1 ?side2 ?side3 ?side4 ?side5 ?side6 ?side7 ?side8 ?side9 ?side10 ?side11 ?side12 ?side13 A20.out).mono ?_); (case side1 | side3 | side5 | side7 | side9 | side11 => exact qY); (case side2 | side4 | side6 | side8 | side10 | side12 => exact qO); (case side13 => exact qK); rintro e w24 ⟨rfl, hb⟩; refine ⟨_, rfl, ?_⟩; replace BK175 := qM (qb (g := gb175) qK hb); replace BK176 := qM (qb (g := gb176) qK hb); replace HB := qM (qP qF hb); (try clear hb); (try clear hb2); (try clear hk); (try clear hi)))
     (go_ret); exact ⟨qE, qF⟩
    ·replace c21 := Bool.eq_false_iff.mpr c21
     subst c21; have HC25 := qM H; clear H
     go_upto_region 5 with (first | ((with_reducible refine gate_callee (f := 77) rfl ?_); refine goesL_ (some 30) rfl rfl Tryd.func77 (by kernel_rfl) rfl #[.slice A1_1 l1_1.length c1_1, .func (.func 78) #[] #[.pointer (some ⟨gb175, 0, none⟩)]] rfl (by (try simp only [List.map_toArray, List.map_cons, List.map_nil]); first | done | rfl | (simp only [List.length_drop, List.length_take]; rfl)) ?_; (with_reducible refine (slices_ContainsFunc_grammar_rule_1.calls kj3 _ _ l1_1 gb175 A0_0 c0_0 l0_0 A0_1 c0_1 l0_1 A0_2 c0_2 l0_2 A0_3 c0_3 l0_3 A0_4 c0_4 l0_4 false _ ?side1 ?side2 ?side3 ?side4 ?side5 ?side6 ?side7 ?side8 ?side9 ?side10 ?side11 ?side12 ?side13 A20.out).mono ?_); (case side1 | side3 | side5 | side7 | side9 | side11 => exact qY); (case side2 | side4 | side6 | side8 | side10 | side12 => exact qO); (case side13 => exact qK); rintro e w28 ⟨rfl, hb⟩; refine ⟨_, rfl, ?_⟩; replace BK175 := qM (qb (g := gb175) qK hb); replace BK176 := qM (qb (g := gb176) qK hb); replace HB := qM (qP qF hb); (try clear hb); (try clear hb2); (try clear hk); (try clear hi)))
     (try simp only [Act.put, List.setIfInBounds_toArray, List.set_cons_zero, List.set_cons_succ]); (go_cut [43] (fun v43 wc => ∃ (kq : Nat) (x43_24 : Bool), v43 = .bool x43_24 ∧ Aside0 (grammar_rule.j1 kq x43_24 l0_0 l0_1 l0_2 l0_3 l0_4 a1_0 l1_1 l1_2 a1_3 a1_4 = some r) ∧ Aside0 (kq ≤ kj3) ∧ Aside0 (wc.heap[gb175]? = some (.cells #[(.slice A0_0 l0_0.length c0_0), (.slice A0_1 l0_1.length c0_1), (.slice A0_2 l0_2.length c0_2), (.slice A0_3 l0_3.length c0_3), (.slice A0_4 l0_4.length c0_4)] 40 (0, 0))) ∧ Aside0 (wc.heap[gb176]? = some (.cells #[.int .i64 a1_0, (.slice A1_1 l1_1.length c1_1), (.slice A1_2 l1_2.length c1_2), .string a1_3, .int .i64 a1_4] 58 (0, 0))) ∧ Aside0 (Below w.heap.size w wc)))
     case first =>
      have H := HC25.out; clear HC25; have hnb30 := NB176_175.out; have hnc30 := NB175_176.out; have hz31 := bx5 BK176.out; (refine iteE ?_ ?_ H <;> clear H <;> intro c29b0 c29b1 H)
      ·(first | rw [c29b0] | (simp only [i64_w, i32_w]; rw [c29b0]) | skip)
       have H' := qM H; clear H; go_wp2; go_meet
       case rel => exact ⟨_, (false), qV, H', ⟨by have := HJ3.out; first | omega | exact Nat.le_refl _⟩, ⟨qK⟩, ⟨qK⟩, ⟨qF⟩⟩
      ·intro c29
       (have c29b2 : ¬ (l1_2 = []) := fun h_ => c29 (by rw [h_]; rfl)); (first | rw [c29b0] | (simp only [i64_w, i32_w]; rw [c29b0]) | skip); have H' := qM H; clear H; go_wp2; go_meet
       case rel => exact ⟨_, (((l1_2.length : Int) != (l1_1.length : Int))), qV, H', ⟨by have := HJ3.out; first | omega | exact Nat.le_refl _⟩, ⟨qK⟩, ⟨qK⟩, ⟨qF⟩⟩
     case rest =>
      clear HC25; (try clear c1); (try clear c2); (try clear p2); (try clear c3); (try clear c5); (try clear p6); (try clear c7); (try clear c8); (try clear c9); (try clear c9b0); (try clear c10); (try clear c13); (try clear c16); (try clear c19); (try clear c21); (try clear c22); (try clear c26); (try clear c29); (try clear c29b0); (try clear c29b1); (try clear c29b2); (try clear c30); (try clear c32); (try clear hz11); (try clear hz12); (try clear hz23); (try clear hz23); (try clear hz31); (try clear p2); (try clear p6); obtain ⟨kq, x43_24, rfl, HA, HJ24, BK175, BK176, HB⟩ := hcut
      cases kq with
      | zero => exact absurd HA.out (by simp [grammar_rule.j1])
      | succ kj24 =>
       have H := HA.out; clear HA; (simp only [grammar_rule.j1] at H); (refine iteR ?_ ?_ H <;> clear H <;> intro c34 H)
       ·subst c34
        obtain rfl := Option.some.inj H; go_wp2; (go_ret); exact ⟨qE, qF⟩
       ·replace c34 := Bool.eq_false_iff.mpr c34
        subst c34; replace H := Option.bind_eq_some_iff.mp H; obtain ⟨t179, A350, H⟩ := H; replace H : (if t179 = true then (some 0) else (some 24)) = some r := H; have A35 := qM A350; clear A350; have hnb37 := NB176_175.out; have hnc37 := NB175_176.out; have hz38 := bx5 BK176.out; have hz39 := bx5 BK175.out; (refine iteR ?_ ?_ H <;> clear H <;> intro c36 H)
        ·subst c36
         obtain rfl := Option.some.inj H; (go_wp2_with (first | ((with_reducible refine gate_callee (f := 55) rfl ?_); refine goesL_ (some 49) rfl rfl Tryd.func55 (by kernel_rfl) rfl #[.int .i64 a1_4, .int .i64 0, .int .i64 (l0_4.length : Int)] rfl (by (try simp only [List.map_toArray, List.map_cons, List.map_nil]); first | done | rfl | (simp only [List.length_drop, List.length_take]; rfl)) ?_; (with_reducible refine (grammar_within.calls a1_4 0 (l0_4.length : Int) true _ A35.out).mono ?_); rintro e w' ⟨rfl, ⟨nd, rfl⟩⟩; refine ⟨_, rfl, ?_⟩))); (go_ret); exact ⟨qE, qF⟩
        ·replace c36 := Bool.eq_false_iff.mpr c36
         subst c36; obtain rfl := Option.some.inj H; (go_wp2_with (first | ((with_reducible refine gate_callee (f := 55) rfl ?_); refine goesL_ (some 49) rfl rfl Tryd.func55 (by kernel_rfl) rfl #[.int .i64 a1_4, .int .i64 0, .int .i64 (l0_4.length : Int)] rfl (by (try simp only [List.map_toArray, List.map_cons, List.map_nil]); first | done | rfl | (simp only [List.length_drop, List.length_take]; rfl)) ?_; (with_reducible refine (grammar_within.calls a1_4 0 (l0_4.length : Int) false _ A35.out).mono ?_); rintro e w' ⟨rfl, ⟨nd, rfl⟩⟩; refine ⟨_, rfl, ?_⟩))); (go_ret); exact ⟨qE, qF⟩
end
section
open Go.Proofs.YtphmgaijkdflnaaDoorW.PrintWords Go.Proofs.YtphmgaijkdflnaaDoorW.PrintLast Go.Proofs.YtphmgaijkdflnaaDoorW.PrintMore
open Go.WideMaps Go.Maps
structure InG (w : World) (A0 : Option Addr) (c0 : Nat) (l0 : List ByteArray) (A1 : Option Addr) (c1 : Nat) (l1 : List ByteArray) (A2 : Option Addr) (c2 : Nat) (l2 : List Int) (A3 : Option Addr) (c3 : Nat) (l3 : List S58) (A4 : Option Addr) (c4 : Nat) (l4 : List S61) : Prop where
 r0 : Kd.C Kd.string w A0 l0.length l0
 h0 : l0.length ≤ c0
 r1 : Kd.C Kd.string w A1 l1.length l1
 h1 : l1.length ≤ c1
 r2 : Kd.C (Kd.int .i64) w A2 l2.length l2
 h2 : l2.length ≤ c2
 r3 : Kd.C k58 w A3 l3.length l3
 h3 : l3.length ≤ c3
 r4 : Kd.C k61 w A4 l4.length l4
 h4 : l4.length ≤ c4
section
variable {w W : World} {A0 : Option Addr} {c0 : Nat} {l0 : List ByteArray} {A1 : Option Addr} {c1 : Nat} {l1 : List ByteArray} {A2 : Option Addr} {c2 : Nat} {l2 : List Int} {A3 : Option Addr} {c3 : Nat} {l3 : List S58} {A4 : Option Addr} {c4 : Nat} {l4 : List S61}
theorem InG.below (h : InG w A0 c0 l0 A1 c1 l1 A2 c2 l2 A3 c3 l3 A4 c4 l4) (hb : Below w.heap.size w W) : InG W A0 c0 l0 A1 c1 l1 A2 c2 l2 A3 c3 l3 A4 c4 l4 :=
 ⟨Kd.C_below h.r0 hb, h.h0, Kd.C_below h.r1 hb, h.h1, Kd.C_below h.r2 hb, h.h2, Kd.C_below h.r3 hb, h.h3, Kd.C_below h.r4 hb, h.h4⟩
theorem InG.counts {k : Nat} {r : Bool} (G : InG w A0 c0 l0 A1 c1 l1 A2 c2 l2 A3 c3 l3 A4 c4 l4) (h : grammar_counts.f k l0 l1 l2 l3 l4 = some r) :
  Calls Tryd.prog 51 #[.agg #[.slice A0 l0.length c0, .slice A1 l1.length c1, .slice A2 l2.length c2, .slice A3 l3.length c3, .slice A4 l4.length c4]] w fun e w' => e = .returned (.bool r) ∧ Below w.heap.size w w' :=
 grammar_counts.calls k _ _ _ _ _ _ _ _ _ _ _ _ _ _ _ r w G.r0 G.h0 G.r1 G.h1 G.r2 G.h2 G.r3 G.h3 G.r4 G.h4 h
theorem InG.start {k : Nat} {r : Bool} (G : InG w A0 c0 l0 A1 c1 l1 A2 c2 l2 A3 c3 l3 A4 c4 l4) (h : grammar_start.f k l0 l1 l2 l3 l4 = some r) :
  Calls Tryd.prog 53 #[.agg #[.slice A0 l0.length c0, .slice A1 l1.length c1, .slice A2 l2.length c2, .slice A3 l3.length c3, .slice A4 l4.length c4]] w fun e w' => e = .returned (.bool r) ∧ Below w.heap.size w w' :=
 grammar_start.calls k _ _ _ _ _ _ _ _ _ _ _ _ _ _ _ r w G.r0 G.h0 G.r1 G.h1 G.r2 G.h2 G.r3 G.h3 G.r4 G.h4 h
def GB (W : World) (g : Nat) (A0 : Option Addr) (c0 : Nat) (l0 : List ByteArray) (A1 : Option Addr) (c1 : Nat) (l1 : List ByteArray) (A2 : Option Addr) (c2 : Nat) (l2 : List Int) (A3 : Option Addr) (c3 : Nat) (l3 : List S58) (A4 : Option Addr) (c4 : Nat) (l4 : List S61) : Prop :=
 W.heap[g]? = some (.cells #[.slice A0 l0.length c0, .slice A1 l1.length c1, .slice A2 l2.length c2, .slice A3 l3.length c3, .slice A4 l4.length c4] 40 (0, 0))
theorem GB.new (w : World) : GB (w.alloc (.cells #[.slice A0 l0.length c0, .slice A1 l1.length c1, .slice A2 l2.length c2, .slice A3 l3.length c3, .slice A4 l4.length c4] 40 (0, 0))) w.heap.size A0 c0 l0 A1 c1 l1 A2 c2 l2 A3 c3 l3 A4 c4 l4 := blk_new w _
theorem GB.below {g : Nat} (h : GB w g A0 c0 l0 A1 c1 l1 A2 c2 l2 A3 c3 l3 A4 c4 l4) (hb : Below w.heap.size w W) : GB W g A0 c0 l0 A1 c1 l1 A2 c2 l2 A3 c3 l3 A4 c4 l4 := blk_below h hb
theorem GB.grown {g : Nat} {row : Option Nat} (h : GB w g A0 c0 l0 A1 c1 l1 A2 c2 l2 A3 c3 l3 A4 c4 l4) (hg : w.grownBy W row) (hne : some g ≠ row) : GB W g A0 c0 l0 A1 c1 l1 A2 c2 l2 A3 c3 l3 A4 c4 l4 := blk_grown h hg hne
theorem GB.cells {g : Nat} (h : GB w g A0 c0 l0 A1 c1 l1 A2 c2 l2 A3 c3 l3 A4 c4 l4) :
  w.cell? ⟨g, 0, none⟩ = some (.slice A0 l0.length c0) ∧ w.cell? ⟨g, 1, none⟩ = some (.slice A1 l1.length c1) ∧ w.cell? ⟨g, 2, none⟩ = some (.slice A2 l2.length c2) ∧ w.cell? ⟨g, 3, none⟩ = some (.slice A3 l3.length c3) ∧ w.cell? ⟨g, 4, none⟩ = some (.slice A4 l4.length c4) :=
 ⟨(blk_cell h 0).trans rfl, (blk_cell h 1).trans rfl, (blk_cell h 2).trans rfl, (blk_cell h 3).trans rfl, (blk_cell h 4).trans rfl⟩
end
end
section
open Go.Proofs.YtphmgaijkdflnaaDoorW.PrintWords Go.Proofs.YtphmgaijkdflnaaDoorW.PrintLast Go.Proofs.YtphmgaijkdflnaaDoorW.PrintMore
open Go.Maps
def termsGo (n : Int) : (Int → Bool) → List Int → Option (Int → Bool)
 | met, [] => some met
 | met, t :: r => if 2 ≤ t ∧ t ≤ n - 1 ∧ met t = false then termsGo n (fun z => z == t || met z) r else none
def levelsGo (n : Int) : (Int → Bool) → List S61 → Int
 | _, [] => 0
 | met, x :: r => if 1 ≤ x.f0 ∧ x.f0 ≤ 4 then (match termsGo n met x.f1 with | none => 24 | some m => levelsGo n m r) else 24
def rulesGo (k : Nat) (l0_0 l0_1 : List ByteArray) (l0_2 : List Int) (l0_3 : List S58) (l0_4 : List S61) : Int → List S58 → Option Int
 | _, [] => some 0
 | ahead, x :: r => (grammar_rule.f k l0_0 l0_1 l0_2 l0_3 l0_4 x.f0 x.f1 x.f2 x.f3 x.f4 ahead).bind fun e => if e = 0 then rulesGo k l0_0 l0_1 l0_2 l0_3 l0_4 x.f0 r else some e
def grammar_Right.ok (l0 : List ByteArray) (l4 : List S61) : Bool := decide (l0.length ≤ 1000000) && decide (l4.length ≤ 1000000) && l4.all (fun x => decide (x.f1.length ≤ 1000000) && x.f1.all (fun t => decide (-9223372036854775808 ≤ t) && decide (t ≤ 9223372036854775807)))
def grammar_Right.f (k : Nat) (l0_0 : List ByteArray) (l0_1 : List ByteArray) (l0_2 : List Int) (l0_3 : List S58) (l0_4 : List S61) : Option Int :=
 (grammar_counts.f k l0_0 l0_1 l0_2 l0_3 l0_4).bind fun c => if c = true then
  ((grammar_twice.f l0_0).bind fun t => if t = true then some 8 else
   ((grammar_twice.f l0_1).bind fun u => if u = true then some 8 else
    ((grammar_start.f k l0_0 l0_1 l0_2 l0_3 l0_4).bind fun s => if s = true then
     ((rulesGo k l0_0 l0_1 l0_2 l0_3 l0_4 0 l0_3).bind fun e => if e = 0 then
      (if grammar_Right.ok l0_0 l0_4 = true then some (levelsGo l0_0.length (fun _ => false) l0_4) else none)
     else some e)
    else some 23)))
 else some 9
def MM {H : Type} (D : DataW H) (met : Int → Bool) : Prop := ∀ z : Int, D.atKey (.int .i64 z) (.lit (.int .i64 0)) = .lit (.int .i64 (if met z = true then 1 else 0))
theorem MM.zero {H : Type} : MM (H := H) (.map []) (fun _ => false) := fun z => by simp [DataW.atKey]
theorem MM.put {H : Type} {D : DataW H} {met : Int → Bool} (h : MM D met) (hm : Maps.IsMap D) (t : Int) : MM (D.put (.int .i64 t) (.lit (.int .i64 1))) (fun z => z == t || met z) := fun z => by
 have hk : WideAt.IsKeyLit (.int .i64 t) := trivial
 by_cases e : z = t
 ·subst e
  rw [Maps.atKey_put_same hm hk]
  simp
 ·rw [Maps.atKey_put_other (fun he => e (by injection he)), h z]
  simp [e]
theorem law_int : Keyed Tryd.prog 3 := int_keyed Tryd.underlying3
def Cap (n j i : Nat) : Prop := n ≤ j * 1000000 + i
set_option maxRecDepth 100000
theorem Cap.zero : Cap 0 0 0 := Nat.zero_le _
theorem Cap.step {n j i : Nat} (h : Cap n j i) : Cap (n + 1) j (i + 1) := by unfold Cap at *; omega
theorem Cap.next {n j i : Nat} (h : Cap n j i) (hi : i ≤ 1000000) : Cap n (j + 1) 0 := by
 unfold Cap at *
 rw [Nat.succ_mul, Nat.add_zero]
 exact Nat.le_trans h (Nat.add_le_add_left hi _)
theorem Cap.lt {n j i l : Nat} (h : Cap n j i) (hj : j < l) (hl : l ≤ 1000000) (hi : i ≤ 1000000) : n < maxLen := by
 unfold Cap at h
 have h2 : j * 1000000 ≤ l * 1000000 := Nat.mul_le_mul_right _ (Nat.le_of_lt hj)
 have h3 : l * 1000000 ≤ 1000000 * 1000000 := Nat.mul_le_mul_right _ hl
 have h4 : n ≤ 1000000 * 1000000 + 1000000 := Nat.le_trans h (Nat.add_le_add (Nat.le_trans h2 h3) hi)
 refine Nat.lt_of_le_of_lt h4 ?_
 unfold maxLen
 decide
theorem within_no {t n : Int} (h : ¬ (2 ≤ t ∧ t ≤ n)) : grammar_within.f t 2 n = some false := by
 unfold grammar_within.f
 by_cases h5 : t ≥ 2
 ·rw [if_pos h5, decide_eq_false (fun z => h ⟨h5, z⟩)]
 ·rw [if_neg h5]
theorem rulesGo.mono (l0_0 l0_1 : List ByteArray) (l0_2 : List Int) (l0_3 : List S58) (l0_4 : List S61) (k : Nat) : ∀ (l : List S58) (a : Int), LeO (rulesGo k l0_0 l0_1 l0_2 l0_3 l0_4 a l) (rulesGo (k + 1) l0_0 l0_1 l0_2 l0_3 l0_4 a l)
 | [], a => LeO.refl _
 | x :: r, a => LeO.bind (grammar_rule.mono _ _ _ _ _ _ _ _ _ _ _ k) fun e => LeO.ite (rulesGo.mono _ _ _ _ _ k r _) (LeO.refl _)
theorem grammar_Right.mono : ∀ a0 a1 a2 a3 a4 k, LeO (grammar_Right.f k a0 a1 a2 a3 a4) (grammar_Right.f (k + 1) a0 a1 a2 a3 a4) := by
 intro a0 a1 a2 a3 a4 k
 unfold grammar_Right.f
 refine LeO.bind (grammar_counts.mono _ _ _ _ _ k) fun c => LeO.ite ?_ (LeO.refl _)
 refine LeO.bind (LeO.refl _) fun t => LeO.ite (LeO.refl _) ?_
 refine LeO.bind (LeO.refl _) fun u => LeO.ite (LeO.refl _) ?_
 refine LeO.bind (grammar_start.mono _ _ _ _ _ k) fun s => LeO.ite ?_ (LeO.refl _)
 exact LeO.bind (rulesGo.mono _ _ _ _ _ k _ _) fun e => LeO.refl _
theorem grammar_Right.calls (k : Nat) (A0_0 : Option Addr) (c0_0 : Nat) (l0_0 : List ByteArray) (A0_1 : Option Addr) (c0_1 : Nat) (l0_1 : List ByteArray) (A0_2 : Option Addr) (c0_2 : Nat) (l0_2 : List Int) (A0_3 : Option Addr) (c0_3 : Nat) (l0_3 : List (S58)) (A0_4 : Option Addr) (c0_4 : Nat) (l0_4 : List (S61)) (r : Int) (w : World) (hr0_0 : Kd.C Kd.string w A0_0 l0_0.length l0_0) (hc0_0 : l0_0.length ≤ c0_0) (hr0_1 : Kd.C Kd.string w A0_1 l0_1.length l0_1) (hc0_1 : l0_1.length ≤ c0_1) (hr0_2 : Kd.C (Kd.int .i64) w A0_2 l0_2.length l0_2) (hc0_2 : l0_2.length ≤ c0_2) (hr0_3 : Kd.C k58 w A0_3 l0_3.length l0_3) (hc0_3 : l0_3.length ≤ c0_3) (hr0_4 : Kd.C k61 w A0_4 l0_4.length l0_4) (hc0_4 : l0_4.length ≤ c0_4) (h : grammar_Right.f k l0_0 l0_1 l0_2 l0_3 l0_4 = some r) :
  Calls Tryd.prog 38 #[.agg #[.slice A0_0 l0_0.length c0_0, .slice A0_1 l0_1.length c0_1, .slice A0_2 l0_2.length c0_2, .slice A0_3 l0_3.length c0_3, .slice A0_4 l0_4.length c0_4]] w fun e w' => e = .returned (.int .i64 r) ∧ Below w.heap.size w w' := by
 have HG := Aside0.mk (InG.mk hr0_0 hc0_0 hr0_1 hc0_1 hr0_2 hc0_2 hr0_3 hc0_3 hr0_4 hc0_4)
 clear hr0_0 hc0_0 hr0_1 hc0_1 hr0_2 hc0_2 hr0_3 hc0_3 hr0_4 hc0_4
 have hmm := @run_makeMap Tryd.prog
 have hb3 : l0_3.length ≤ 9223372036854775807 := HG.out.r3.2.1
 have hb4 : l0_4.length ≤ 9223372036854775807 := HG.out.r4.2.1
 have hu := Tryd.underlying40
 have hur := Tryd.underlying58
 have hul := Tryd.underlying61
 unfold grammar_Right.f at h
 obtain ⟨c, hcnt, h1⟩ := Option.bind_eq_some_iff.mp h
 clear h
 have HCN := Aside0.mk hcnt
 clear hcnt
 go_enter Tryd.func38, Tryd.ntmps38
 cases c with
 | false =>
  obtain rfl : r = 9 := by simpa using h1.symm
  clear h1
  go_wp2_with (go_at_call 51; refine ((HG.out.below (below_alloc (Below.refl _ _) _)).counts HCN.out).mono ?_; rintro e w1 ⟨rfl, hb⟩; have HB := Aside0.mk (below_step (below_alloc (Below.refl _ _) _) hb); clear hb)
  go_ret
  exact ⟨rfl, HB.out⟩
 | true =>
  simp only [if_true] at h1
  obtain ⟨t, htw, h⟩ := Option.bind_eq_some_iff.mp h1
  clear h1
  have HTW := Aside0.mk htw
  clear htw
  go_wp2_with (go_at_call 51; refine ((HG.out.below (below_alloc (Below.refl _ _) _)).counts HCN.out).mono ?_; rintro e w1 ⟨rfl, hb⟩; have HB := Aside0.mk (below_step (below_alloc (Below.refl _ _) _) hb); have BK := Aside0.mk (GB.below (GB.new w (A0 := A0_0) (c0 := c0_0) (l0 := l0_0) (A1 := A0_1) (c1 := c0_1) (l1 := l0_1) (A2 := A0_2) (c2 := c0_2) (l2 := l0_2) (A3 := A0_3) (c3 := c0_3) (l3 := l0_3) (A4 := A0_4) (c4 := c0_4) (l4 := l0_4)) hb); clear hb; obtain ⟨hcz0, hcz1, hcz2, hcz3, hcz4⟩ := BK.out.cells)
  refine (grammar_twice.calls _ _ l0_0 t _ (Kd.C_below HG.out.r0 HB.out) HG.out.h0 HTW.out).mono ?_
  rintro e w2 ⟨rfl, hb⟩
  replace HB := Aside0.mk (below_step HB.out hb)
  replace BK := Aside0.mk (BK.out.below hb)
  clear hcz0 hcz1 hcz2 hcz3 hcz4 hb HTW
  obtain ⟨hcz0, hcz1, hcz2, hcz3, hcz4⟩ := BK.out.cells
  cases t with
  | true =>
   obtain rfl : r = 8 := by simpa using h.symm
   clear h
   go_wp2_with fail
   go_ret
   exact ⟨rfl, HB.out⟩
  | false =>
  simp only [Bool.false_eq_true, if_false] at h
  obtain ⟨u, htw, h2⟩ := Option.bind_eq_some_iff.mp h
  clear h
  have HTW := Aside0.mk htw
  have HH := Aside0.mk h2
  clear htw h2
  go_wp2_with fail
  refine (grammar_twice.calls _ _ l0_1 u _ (Kd.C_below HG.out.r1 HB.out) HG.out.h1 HTW.out).mono ?_
  rintro e w3 ⟨rfl, hb⟩
  replace HB := Aside0.mk (below_step HB.out hb)
  replace BK := Aside0.mk (BK.out.below hb)
  clear hcz0 hcz1 hcz2 hcz3 hcz4 hb HTW
  obtain ⟨hcz0, hcz1, hcz2, hcz3, hcz4⟩ := BK.out.cells
  cases u with
  | true =>
   obtain rfl : r = 8 := by simpa using HH.out.symm
   go_wp2_with fail
   go_ret
   exact ⟨rfl, HB.out⟩
  | false =>
  have h := HH.out
  clear HH
  simp only [Bool.false_eq_true, if_false] at h
  obtain ⟨s, hst, h2⟩ := Option.bind_eq_some_iff.mp h
  clear h
  have HST := Aside0.mk hst
  have HH := Aside0.mk h2
  clear hst h2
  go_wp2_with fail
  refine ((HG.out.below HB.out).start HST.out).mono ?_
  rintro e w4 ⟨rfl, hb⟩
  replace HB := Aside0.mk (below_step HB.out hb)
  replace BK := Aside0.mk (BK.out.below hb)
  clear hcz0 hcz1 hcz2 hcz3 hcz4 hb HST
  obtain ⟨hcz0, hcz1, hcz2, hcz3, hcz4⟩ := BK.out.cells
  cases s with
  | false =>
   obtain rfl : r = 23 := by simpa using HH.out.symm
   go_wp2_with fail
   go_ret
   exact ⟨rfl, HB.out⟩
  | true =>
  have h := HH.out
  clear HH
  simp only [if_true] at h
  have HH := Aside0.mk h
  clear h
  go_wp2_with fail
  go_loopw [3, 32] (fun v3 v32 wr => ∃ (a : Int) (i : Nat), v3 = .int .i64 a ∧ i ≤ l0_3.length ∧ v32 = .int .i64 i ∧ Aside0 (((rulesGo k l0_0 l0_1 l0_2 l0_3 l0_4 a (l0_3.drop i)).bind fun e => if e = 0 then
      (if grammar_Right.ok l0_0 l0_4 = true then some (levelsGo l0_0.length (fun _ => false) l0_4) else none)
     else some e) = some r) ∧ Aside0 (GB wr w.heap.size A0_0 c0_0 l0_0 A0_1 c0_1 l0_1 A0_2 c0_2 l0_2 A0_3 c0_3 l0_3 A0_4 c0_4 l0_4) ∧ Aside0 (Below w.heap.size w wr))
   (fun _ v32 _ => l0_3.length - (intOf v32).toNat)
  case atStart => exact ⟨0, 0, rfl, Nat.zero_le _, rfl, HH, BK, HB⟩
  case round =>
   clear HH BK HB hcz0 hcz1 hcz2 hcz3 hcz4
   obtain ⟨a, i, rfl, hi, rfl, HH, BK, HB⟩ := hrel
   have hsz : w.heap.size < wr.heap.size := blk_lt BK.out
   have hne : ¬ (w.heap.size = wr.heap.size) := Nat.ne_of_lt hsz
   obtain ⟨hcz0, hcz1, hcz2, hcz3, hcz4⟩ := BK.out.cells
   by_cases hlt : i < l0_3.length
   ·obtain ⟨ad, A1, c1, A2, c2, e0, hx0, hx1, hx2, hx3, hx4, hl1, hi1, hl2, hi2⟩ := at_T58 HG.out.r3 (i : Int) (by omega) (by omega)
    cases e0
    simp only [Int.toNat_natCast] at hx0 hx1 hx2 hx3 hx4
    replace hx0 := (HB.out.cell (World.block_lt_of_cell? w _ hx0)).trans hx0
    replace hx1 := (HB.out.cell (World.block_lt_of_cell? w _ hx1)).trans hx1
    replace hx2 := (HB.out.cell (World.block_lt_of_cell? w _ hx2)).trans hx2
    replace hx3 := (HB.out.cell (World.block_lt_of_cell? w _ hx3)).trans hx3
    replace hx4 := (HB.out.cell (World.block_lt_of_cell? w _ hx4)).trans hx4
    have HI1 := Aside0.mk hi1
    have HI2 := Aside0.mk hi2
    clear hi1 hi2
    have h := HH.out
    rw [List.drop_eq_getElem_cons hlt, show l0_3[i] = rd_T58 l0_3 (i : Int) from by simp [rd_T58, List.getD_eq_getElem?_getD, List.getElem?_eq_getElem hlt]] at h
    simp only [rulesGo, Option.bind_assoc] at h
    obtain ⟨e1, hrl, h2⟩ := Option.bind_eq_some_iff.mp h
    have HRL := Aside0.mk hrl
    have HH2 := Aside0.mk h2
    clear h h2 hrl HH
    go_wp2_with fail
    refine (grammar_rule.calls k _ _ l0_0 _ _ l0_1 _ _ l0_2 _ _ l0_3 _ _ l0_4 _ _ _ _ _ _ _ _ _ a e1 _ ?s0 HG.out.h0 ?s1 HG.out.h1 ?s2 HG.out.h2 ?s3 HG.out.h3 ?s4 HG.out.h4 ?t1 hl1 ?t2 hl2 HRL.out).mono ?_
    case s0 => exact Kd.C_below HG.out.r0 (by repeat (first | exact HB.out | refine below_set ?_ (Nat.le_of_lt hsz) | apply below_alloc))
    case s1 => exact Kd.C_below HG.out.r1 (by repeat (first | exact HB.out | refine below_set ?_ (Nat.le_of_lt hsz) | apply below_alloc))
    case s2 => exact Kd.C_below HG.out.r2 (by repeat (first | exact HB.out | refine below_set ?_ (Nat.le_of_lt hsz) | apply below_alloc))
    case s3 => exact Kd.C_below HG.out.r3 (by repeat (first | exact HB.out | refine below_set ?_ (Nat.le_of_lt hsz) | apply below_alloc))
    case s4 => exact Kd.C_below HG.out.r4 (by repeat (first | exact HB.out | refine below_set ?_ (Nat.le_of_lt hsz) | apply below_alloc))
    case t1 => exact Kd.C_below HI1.out (by repeat (first | exact HB.out | refine below_set ?_ (Nat.le_of_lt hsz) | apply below_alloc))
    case t2 => exact Kd.C_below HI2.out (by repeat (first | exact HB.out | refine below_set ?_ (Nat.le_of_lt hsz) | apply below_alloc))
    rintro e w5 ⟨rfl, hb⟩
    have HB2 := Aside0.mk (below_step (w := w) (by repeat (first | exact HB.out | refine below_set ?_ (Nat.le_of_lt hsz) | apply below_alloc)) hb)
    have BK2 := Aside0.mk (show GB w5 w.heap.size A0_0 c0_0 l0_0 A0_1 c0_1 l0_1 A0_2 c0_2 l0_2 _ c0_3 l0_3 A0_4 c0_4 l0_4 from blk_below (g := w.heap.size) (by repeat (first | exact BK.out | refine blk_far ?_ hne _ | refine blk_alloc ?_ _)) hb)
    have BX := Aside0.mk (blk_below (g := wr.heap.size) (o := .cells #[.int .i64 (rd_T58 l0_3 (i : Int)).f0, .slice A1 (rd_T58 l0_3 (i : Int)).f1.length c1, .slice A2 (rd_T58 l0_3 (i : Int)).f2.length c2, .string (rd_T58 l0_3 (i : Int)).f3, .int .i64 (rd_T58 l0_3 (i : Int)).f4] 58 (0, 0)) (blk_new wr _) hb)
    clear hx0 hx1 hx2 hx3 hx4 hb hcz0 hcz1 hcz2 hcz3 hcz4
    have hy0 : w5.cell? ⟨wr.heap.size, 0, none⟩ = some (.int .i64 (rd_T58 l0_3 (i : Int)).f0) := (blk_cell BX.out 0).trans rfl
    by_cases he : e1 = 0
    ·subst he
     have HR2 := Aside0.mk HH2.out
     simp only [if_true] at HR2
     go_wp2_with fail
     go_roundw
     case rel => exact ⟨_, i + 1, rfl, by omega, by go_num, HR2, BK2, HB2⟩
     case measure => simp [intOf]; omega
    ·obtain rfl : r = e1 := by have := HH2.out; rw [if_neg he] at this; simpa [he] using this.symm
     have hq1 : (r == 0) = false := beq_eq_false_iff_ne.mpr he
     have hq2 : (r != 0) = true := bne_iff_ne.mpr he
     go_wp2_with fail
     go_ret
     exact ⟨rfl, HB2.out⟩
   ·have hie : i = l0_3.length := by omega
    subst hie
    have h := HH.out
    rw [List.drop_of_length_le (Nat.le_refl _)] at h
    simp only [rulesGo, Option.bind_some, if_true] at h
    split at h
    case isFalse => cases h
    rename_i hok
    have HR := Aside0.mk (Option.some.inj h)
    have HOK := Aside0.mk hok
    clear h hok HH
    simp only [grammar_Right.ok, Bool.and_eq_true, decide_eq_true_eq, List.all_eq_true] at HOK
    have hT0 : l0_0.length ≤ 1000000 := HOK.out.1.1
    have hT4 : l0_4.length ≤ 1000000 := HOK.out.1.2
    have HX := Aside0.mk HOK.out.2
    clear HOK hcz0 hcz1 hcz2 hcz3
    obtain ⟨wo, rfl⟩ : ∃ wo : World, wo = wr := ⟨_, rfl⟩
    go_wp2_with fail
    go_loopw [50] (fun v50 wr => ∃ (j n : Nat) (met : Int → Bool), j ≤ l0_4.length ∧ v50 = .int .i64 j ∧ Aside0 (Cap n j 0) ∧ (∃ D : DataW Unit, Aside0 (wr.ownsMap Tryd.prog 3 (plainElem Tryd.prog 3) wo.heap.size n D) ∧ Aside0 (MM D met)) ∧ Aside0 (levelsGo l0_0.length met (l0_4.drop j) = r) ∧ Aside0 (GB wr w.heap.size A0_0 c0_0 l0_0 A0_1 c0_1 l0_1 A0_2 c0_2 l0_2 A0_3 c0_3 l0_3 A0_4 c0_4 l0_4) ∧ Aside0 (Below w.heap.size w wr))
     (fun v50 _ => l0_4.length - (intOf v50).toNat)
    case atStart => exact ⟨0, 0, fun _ => false, Nat.zero_le _, rfl, ⟨Cap.zero⟩, ⟨.map [], ⟨World.ownsMap_made _ _ _ _⟩, ⟨MM.zero⟩⟩, HR, ⟨blk_alloc BK.out _⟩, ⟨below_alloc HB.out _⟩⟩
    case round =>
     clear HR BK HB hcz4
     obtain ⟨j, n, met, hj, rfl, hn, ⟨D, HO, HD⟩, HR, BK, HB⟩ := hrel
     obtain ⟨hcz0, hcz1, hcz2, hcz3, hcz4⟩ := BK.out.cells
     have hsz2 : w.heap.size < wr.heap.size := blk_lt BK.out
     have hne2 : ¬ (w.heap.size = wr.heap.size) := Nat.ne_of_lt hsz2
     by_cases hlt2 : j < l0_4.length
     ·obtain ⟨ad, A1, c1, e0, hx0, hx1, hl1, hi1⟩ := at_T61 HG.out.r4 (j : Int) (by omega) (by omega)
      cases e0
      simp only [Int.toNat_natCast] at hx0 hx1
      replace hx0 := (HB.out.cell (World.block_lt_of_cell? w _ hx0)).trans hx0
      replace hx1 := (HB.out.cell (World.block_lt_of_cell? w _ hx1)).trans hx1
      have HX1 := Aside0.mk (HX.out (l0_4[j]) (List.getElem_mem hlt2))
      have HR1 := HR.out
      rw [List.drop_eq_getElem_cons hlt2] at HR1
      have ex : l0_4[j] = rd_T61 l0_4 (j : Int) := by simp [rd_T61, List.getD_eq_getElem?_getD, List.getElem?_eq_getElem hlt2]
      rw [ex] at HR1 HX1
      simp only [levelsGo] at HR1
      obtain ⟨x, hx⟩ : ∃ x, x = rd_T61 l0_4 (j : Int) := ⟨_, rfl⟩
      rw [← hx] at HR1 HX1 hx0 hx1 hl1 hi1
      have HR2 := Aside0.mk HR1
      have HI := Aside0.mk hi1
      clear ex hx HR1 HR hi1
      by_cases h1 : 1 ≤ x.f0
      ·by_cases h2 : x.f0 ≤ 4
       ·have HR1 := HR2.out
        rw [if_pos ⟨h1, h2⟩] at HR1
        have HR3 := Aside0.mk HR1
        clear HR1 HR2
        have hxl : x.f1.length ≤ 1000000 := HX1.out.1
        have q1 : decide (x.f0 < 1) = false := decide_eq_false (by omega)
        have q2 : decide (4 < x.f0) = false := decide_eq_false (by omega)
        go_wp2_with fail
        obtain ⟨wq, rfl⟩ : ∃ wq : World, wq = wr := ⟨_, rfl⟩
        go_loopw [65] (fun v65 wr => ∃ (i m : Nat) (met : Int → Bool), i ≤ x.f1.length ∧ v65 = .int .i64 i ∧ Aside0 (Cap m j i) ∧ (∃ D : DataW Unit, Aside0 (wr.ownsMap Tryd.prog 3 (plainElem Tryd.prog 3) wo.heap.size m D) ∧ Aside0 (MM D met)) ∧ Aside0 ((match termsGo l0_0.length met (x.f1.drop i) with | none => 24 | some m => levelsGo l0_0.length m (l0_4.drop (j + 1))) = r) ∧ Aside0 (GB wr w.heap.size A0_0 c0_0 l0_0 A0_1 c0_1 l0_1 A0_2 c0_2 l0_2 A0_3 c0_3 l0_3 _ c0_4 l0_4) ∧ Aside0 (Below w.heap.size w wr))
         (fun v65 _ => x.f1.length - (intOf v65).toNat)
        case atStart => exact ⟨0, n, met, Nat.zero_le _, rfl, hn, ⟨D, ⟨HO.out.alloc _⟩, HD⟩, HR3, ⟨blk_alloc BK.out _⟩, ⟨below_alloc HB.out _⟩⟩
        case round =>
         clear HR3 BK HB HO HD hx0 hx1 hcz0 hcz1 hcz2 hcz3 hcz4
         obtain ⟨i, m, met, hi, rfl, hm, ⟨D, HO, HD⟩, HR, BK, HB⟩ := hrel
         obtain ⟨hcz0, hcz1, hcz2, hcz3, hcz4⟩ := BK.out.cells
         by_cases hlt : i < x.f1.length
         ·obtain ⟨ad, e0, hcell⟩ := Kd.at_int HI.out (i : Int) (by omega) (by omega)
          cases e0
          rw [Int.toNat_natCast] at hcell
          replace hcell := (HB.out.cell (World.block_lt_of_cell? w _ hcell)).trans hcell
          have HR1 := HR.out
          rw [List.drop_eq_getElem_cons hlt, show x.f1[i] = rd x.f1 (i : Int) from by simp [rd, List.getD_eq_getElem?_getD, List.getElem?_eq_getElem hlt]] at HR1
          have HW := Aside0.mk (HX1.out.2 (x.f1[i]) (List.getElem_mem hlt))
          rw [show x.f1[i] = rd x.f1 (i : Int) from by simp [rd, List.getD_eq_getElem?_getD, List.getElem?_eq_getElem hlt]] at HW
          simp only [termsGo] at HR1
          generalize rd x.f1 (i : Int) = t at *
          have HR2 := Aside0.mk HR1
          clear HR1 HR
          have ht1 : -9223372036854775808 ≤ t := HW.out.1
          have ht2 : t ≤ 9223372036854775807 := HW.out.2
          have hwt : (Lit.int .i64 t).wf = true := WalkArith.wf_i64 (by omega)
          by_cases h3 : 2 ≤ t ∧ t ≤ (l0_0.length : Int) - 1
          ·have HWI : Aside0 (grammar_within.f t 2 ((l0_0.length : Int) - 1) = some true) := ⟨by unfold grammar_within.f; rw [if_pos (by omega)]; simp [h3.2]⟩
           have HA0 := Aside0.mk (HD.out t)
           cases hmt : met t with
           | true =>
            have HAT : Aside0 (D.atKey (.int .i64 t) (.lit (.int .i64 0)) = .lit (.int .i64 1)) := ⟨by rw [HA0.out, hmt]; rfl⟩
            obtain rfl : r = 24 := by have := HR2.out; rw [if_neg (by simp [hmt])] at this; exact this.symm
            clear hmt
            go_wp2_with (first | (go_at_call 55; refine (grammar_within.calls _ _ _ true _ HWI.out).mono ?_; rintro e w' ⟨rfl, ⟨nd, rfl⟩⟩) | (at_lookup; refine gate_guard (by rfl) ?_; dsimp only; refine wpList_lookup_own_int _ rfl _ _ 79 rfl 3 3 .i64 law_int Tryd.underlying79 Tryd.underlying3 (zero_int _) wo.heap.size m _ rfl (owns_drewN HO.out nd) _ _ rfl (keyOf_int_mk Tryd.underlying3 hwt) ?_; intro c hat hwc; obtain rfl := lit_int_inj HAT.out hat; clear hat))
            go_ret
            exact ⟨rfl, pw_below_drewN HB.out _⟩
           | false =>
            have HAT : Aside0 (D.atKey (.int .i64 t) (.lit (.int .i64 0)) = .lit (.int .i64 0)) := ⟨by rw [HA0.out, hmt]; rfl⟩
            have HR3 := HR2.out
            rw [if_pos ⟨h3.1, h3.2, hmt⟩] at HR3
            have HR4 := Aside0.mk HR3
            have hml : m < maxLen := hm.out.lt hlt2 hT4 (by omega)
            clear hmt HR3 HR2
            go_wp2_with (first | (go_at_call 55; refine (grammar_within.calls _ _ _ true _ HWI.out).mono ?_; rintro e w' ⟨rfl, ⟨nd, rfl⟩⟩) | (at_lookup; refine gate_guard (by rfl) ?_; dsimp only; refine wpList_lookup_own_int _ rfl _ _ 79 rfl 3 3 .i64 law_int Tryd.underlying79 Tryd.underlying3 (zero_int _) wo.heap.size m _ rfl (owns_drewN HO.out nd) _ _ rfl (keyOf_int_mk Tryd.underlying3 hwt) ?_; intro c hat hwc; obtain rfl := lit_int_inj HAT.out hat; clear hat) | (at_mapUpdate; refine wpList_mapUpdate_own _ rfl _ _ _ 79 rfl 3 3 law_int Tryd.underlying79 _ wo.heap.size m _ rfl (owns_drewN HO.out _) hml _ _ _ rfl rfl (keyOf_int_mk Tryd.underlying3 hwt) _ [] (plainElem_int Tryd.underlying3 (WalkArith.wf_i64 (by omega))) ?_; intro w8 hown1 hgrow1))
            have R1 := Aside0.mk hown1
            have hwo : w.heap.size < wo.heap.size := hsz
            have R2 := Aside0.mk ((pw_below_drewN HB.out _).grown hgrow1 HB.out.size (fun j hj => by cases hj; exact Nat.le_of_lt hwo))
            have R3 := Aside0.mk (GB.grown (w := wr.drewN _) BK.out hgrow1 (by simpa using Nat.ne_of_lt hwo))
            clear hown1 hgrow1 hcell hcz0 hcz1 hcz2 hcz3 hcz4
            go_wp2_with fail
            go_roundw
            case rel => exact ⟨i + 1, m + 1, _, by omega, by go_num, ⟨hm.out.step⟩, ⟨_, R1, ⟨HD.out.put HO.out.isMap t⟩⟩, HR4, R3, R2⟩
            case measure => simp [intOf]; omega
          ·have HWI : Aside0 (grammar_within.f t 2 ((l0_0.length : Int) - 1) = some false) := ⟨within_no h3⟩
           obtain rfl : r = 24 := by have := HR2.out; rw [if_neg (fun z => h3 ⟨z.1, z.2.1⟩)] at this; exact this.symm
           go_wp2_with (go_at_call 55; refine (grammar_within.calls _ _ _ false _ HWI.out).mono ?_; rintro e w' ⟨rfl, ⟨nd, rfl⟩⟩)
           go_ret
           exact ⟨rfl, pw_below_drewN HB.out _⟩
         ·have hie : i = x.f1.length := by omega
          have HR1 := HR.out
          rw [hie, List.drop_of_length_le (Nat.le_refl _)] at HR1
          simp only [termsGo] at HR1
          have HR4 := Aside0.mk HR1
          have hn2 : Aside0 (Cap m (j + 1) 0) := ⟨hm.out.next (by omega)⟩
          clear HR1 HR hie
          go_wp2_with fail
          go_roundw
          case rel => exact ⟨j + 1, m, met, by omega, by go_num, hn2, ⟨D, HO, HD⟩, HR4, BK, HB⟩
          case measure => simp [intOf]; omega
       ·obtain rfl : r = 24 := by have := HR2.out; rw [if_neg (fun z => h2 z.2)] at this; exact this.symm
        have q1 : decide (x.f0 < 1) = false := decide_eq_false (by omega)
        have q2 : decide (4 < x.f0) = true := decide_eq_true (by omega)
        go_wp2_with fail
        go_ret
        exact ⟨rfl, below_alloc HB.out _⟩
      ·obtain rfl : r = 24 := by have := HR2.out; rw [if_neg (fun z => h1 z.1)] at this; exact this.symm
       have q1 : decide (x.f0 < 1) = true := decide_eq_true (by omega)
       go_wp2_with fail
       go_ret
       exact ⟨rfl, below_alloc HB.out _⟩
     ·have hje : j = l0_4.length := by omega
      obtain rfl : r = 0 := by have := HR.out; rw [hje, List.drop_of_length_le (Nat.le_refl _)] at this; simpa [levelsGo] using this.symm
      go_wp2_with fail
      go_ret
      exact ⟨rfl, HB.out⟩
end
end Go.Proofs.YtphmgaijkdflnaaDoor.H
end
